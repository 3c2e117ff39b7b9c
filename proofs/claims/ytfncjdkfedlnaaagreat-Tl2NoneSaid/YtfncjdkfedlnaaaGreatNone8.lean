/- Tl2None: for every deed, every values and number the law returns true, and each argument reads as it did; by an evaluator of the compiled code that is proved sound for the model. Part 8 of 11. -/
import Derived.Test.YtfncjdkfedlnaaaGreatNone7
import Derived.RangeFuncIn
import Derived.RangeFuncNested
set_option linter.unusedSimpArgs false
set_option linter.unusedVariables false

/- What soundness says of calls; calls, deferred calls, recover, panics. -/
namespace Ev
open Go

inductive DR (ρ : Rho) : ADef → Deferred → Prop where
  | col {b b' x : Nat} (h : ρ b = some (b', x)) : DR ρ (.col b) { target := .collected b', args := #[] }
  | fn {f : FuncId} {args : List Value} {cap as : Array Value} (h : VRL ρ args (as ++ cap).toList) : DR ρ (.fn f args) { target := .fn (.func f) cap, args := as }

theorem DR.mono {ρ ρ' : Rho} (hs : Sub ρ ρ') {x : ADef} {y : Deferred} (h : DR ρ x y) : DR ρ' x y := by
  cases h with
  | col h => exact .col (hs _ _ h)
  | fn h => exact .fn (h.mono hs)

/-- The caller of a deferred call, and what it is about. -/
def CB (ρ : Rho) (m : Option AMode) (kind : CallKind) (cs : List Frame) : Prop :=
  match m with
  | none => kind = .normal
  | some u => kind = .deferred ∧ ∃ c0 rest, cs = c0 :: rest ∧ MR ρ u c0.mode

/-- The callers are as they were, but for the mode of the first one, under a deferred call. -/
def CSame (kd : CallKind) (cs cs' : List Frame) : Prop := cs' = cs ∨ (kd = .deferred ∧ ∃ c0 rest m, cs = c0 :: rest ∧ cs' = { c0 with mode := m } :: rest)

theorem CSame.refl {kd : CallKind} (cs : List Frame) : CSame kd cs cs := .inl rfl
theorem CSame.trans {kd : CallKind} {a b c : List Frame} (h : CSame kd a b) (h' : CSame kd b c) : CSame kd a c := by
  rcases h with rfl | ⟨hk, c0, rest, m, rfl, rfl⟩
  · exact h'
  · rcases h' with rfl | ⟨_, c1, rest1, m1, h1, rfl⟩
    · exact .inr ⟨hk, c0, rest, m, rfl, rfl⟩
    · injection h1 with h1 h2
      subst h1; subst h2
      exact .inr ⟨hk, c0, rest, m1, rfl, rfl⟩

structure FR (P : Program) (ρ : Rho) (f : F) (b : Frame) (t : Array Value) (d : List Deferred) (cs : List Frame) : Prop where
  t : VRL ρ f.t t.toList
  d : L2 (DR ρ) f.d d
  m : CB ρ f.m b.kind cs
  r : match f.r with
    | none => b.roundOf = none
    | some l => ∃ l' x, ρ l = some (l', x) ∧ b.roundOf = some l'
  fn : ∃ g, P.funcs[b.fn]? = some g

theorem CB.mono {ρ ρ' : Rho} (hs : Sub ρ ρ') {m : Option AMode} {kind : CallKind} {cs : List Frame} (h : CB ρ m kind cs) : CB ρ' m kind cs := by
  cases m with
  | none => exact h
  | some u => obtain ⟨h1, c0, rest, h2, h3⟩ := h; exact ⟨h1, c0, rest, h2, h3.mono hs⟩

theorem FR.mono {P : Program} {ρ ρ' : Rho} (hs : Sub ρ ρ') {f : F} {b : Frame} {t : Array Value} {d : List Deferred} {cs : List Frame} (h : FR P ρ f b t d cs) : FR P ρ' f b t d cs where
  t := h.t.mono hs
  d := h.d.mono fun _ _ h => h.mono hs
  m := h.m.mono hs
  r := by
    have h0 := h.r
    revert h0
    cases f.r with
    | none => exact id
    | some l => rintro ⟨l', x, h1, h2⟩; exact ⟨l', x, hs _ _ h1, h2⟩
  fn := h.fn

/-- How a frame stands that has done: about to go back, or to hand a panic on. -/
def LeavesA (P : Program) (ρ : Rho) (fr : Frame) (w : World) (kind : CallKind) : Res → Prop
  | .ret v => fr.mode = .returning ∧ fr.defers = [] ∧ fr.kind = kind ∧ ∃ fn v', P.funcs[fr.fn]? = some fn ∧ (results fn fr.tmps).run P w = .ok v' w ∧ VR ρ v v'
  | .panic ch => ∃ ch', fr.mode = .panicking ch' ∧ fr.defers = [] ∧ L2 (PR ρ) ch ch' ∧ ∃ fn, P.funcs[fr.fn]? = some fn

/-- What has come of a caller's frame. -/
def Back (ρ : Rho) (c : Frame) : Res → Frame → Prop
  | .ret v, c' => ∃ v', VR ρ v v' ∧ c' = c.finish v'
  | .panic ch, c' => ∃ ch', L2 (PR ρ) ch ch' ∧ c' = c.raise ch'

def Sound (P : Program) (x : CA) : Prop :=
  match x.tgt with
  | .fn f => ∀ ρ w (args' : Array Value) cs, Rel P ρ x.s w → VRL ρ x.args args'.toList → (∀ u, x.m = some u → ∃ c0 rest, cs = c0 :: rest ∧ MR ρ u c0.mode) →
      ∃ r m' s' ρ' w' fr cs', x.Q r m' s' ∧ Rel P ρ' s' w' ∧ Ext No ρ x.s w ρ' s' w' ∧
        Steps P (lone (Frame.enter P f args' (if x.m.isSome then .deferred else .normal)) cs w) (lone fr cs' w') ∧ fr.fn = f ∧ LeavesA P ρ' fr w' (if x.m.isSome then .deferred else .normal) r ∧
        (match x.m with
          | none => m' = none ∧ cs' = cs
          | some _ => ∃ u' c0 rest mm, m' = some u' ∧ cs = c0 :: rest ∧ cs' = { c0 with mode := mm } :: rest ∧ MR ρ' u' mm)
  | .yield l => ∀ ρ w (args' : Array Value) l' y c cs, Rel P ρ x.s w → ρ l = some (l', y) → VRL ρ x.args args'.toList →
      ∃ fn tm asg body, (Instr.yield l' args').run P w = .ok (.round l' fn tm asg body) w ∧
        ∃ r s' ρ' w' c', x.Q r none s' ∧ Rel P ρ' s' w' ∧ Ext No ρ x.s w ρ' s' w' ∧
          Steps P (lone (Frame.round l' fn tm asg body .normal) (c :: cs) w) (lone c' cs w') ∧ Back ρ' c r c'

theorem Sound.up {P : Program} : Up (Sound P) := by
  intro x Q' h hQ
  obtain ⟨tgt, args, m, s, Q⟩ := x
  cases tgt with
  | fn f =>
    intro ρ w args' cs hR ha hm
    obtain ⟨r, m', s', ρ', w', fr, cs', h1, h2⟩ := h ρ w args' cs hR ha hm
    exact ⟨r, m', s', ρ', w', fr, cs', hQ _ _ _ h1, h2⟩
  | yield l =>
    intro ρ w args' l' y c cs hR hl ha
    obtain ⟨fn, tm, asg, body, h0, r, s', ρ', w', c', h1, h2⟩ := h ρ w args' l' y c cs hR hl ha
    exact ⟨fn, tm, asg, body, h0, r, s', ρ', w', c', hQ _ _ _ h1, h2⟩

/-- The compiled program is the program's. -/
structure Good (P : Program) (G : Pg) : Prop where
  fn : ∀ f m, G.fn f = some m → ∃ g, P.funcs[f]? = some g ∧ cFn P g = some m
  meth : ∀ t n f, G.meth t n = some f → ∀ v w, (method (P.types.size + Made.depth) t v n).run P w = .ok (f, v) w
  ext : ∀ f e, G.ext f = some e → ∀ (ρ : Rho) (args : List Value) (args' : Array Value) (v : Value) (w : World), VRL ρ args args'.toList → e args = some v →
    ∃ v', (callFunc f args').run P w = .ok (.value v') w ∧ VR ρ v v'
  sem : ∀ x, G.sem x → Sound P x ∧ ∀ g, x.tgt = .fn g → ∃ m, G.fn g = some m
  mixed : P.follows .mixedOrders = true

theorem cFn_some {P : Program} {g : Func} {m : MFn} (h : cFn P g = some m) : ∃ c, g.body = some c ∧ cCode P c = some m.code ∧ cResults P g.results.toList = some m.results ∧ m.ntmps = g.ntmps ∧ (g.name == "runtime.NumGoroutine") = false := by
  unfold cFn at h
  split at h <;> first | (simp at h; done) | skip
  rename_i hn
  split at h <;> first | (simp at h; done) | skip
  rename_i c hb
  split at h <;> first | (simp at h; done) | skip
  rename_i mc rs hc hr
  simp only [Option.some.injEq] at h; subst h
  exact ⟨c, hb, hc, hr, rfl, by simpa using hn⟩

section
variable {P : Program} {G : Pg} {ρ : Rho} {w : World}

theorem callFunc_run {f : FuncId} {g : Func} {m : MFn} (hf : P.funcs[f]? = some g) (hg : cFn P g = some m) (args : Array Value) : (callFunc f args).run P w = .ok (.enter f args) w := by
  obtain ⟨c, h1, _, _, _, h2⟩ := cFn_some hg
  simp only [callFunc]
  rw [run_bind_ok run_program]
  simp [hf, h1, h2]

theorem step_back_ret {fr c : Frame} {cs : List Frame} {ρ : Rho} {v : Value} (h : LeavesA P ρ fr w .normal (.ret v)) :
    ∃ v', VR ρ v v' ∧ step P (lone fr (c :: cs) w) = .next (lone (c.finish v') cs w) := by
  obtain ⟨h1, h2, h3, fn, v', h4, h5, h6⟩ := h
  exact ⟨v', h6, step_leave_returned ⟨h1, h2, h3, fn, h4, h5⟩⟩

theorem step_back_panic {fr c : Frame} {cs : List Frame} {ρ : Rho} {k : CallKind} {ch : Chain} (h : LeavesA P ρ fr w k (.panic ch)) :
    ∃ ch', L2 (PR ρ) ch ch' ∧ step P (lone fr (c :: cs) w) = .next (lone (c.raise ch') cs w) := by
  obtain ⟨ch', h1, h2, h3, fn, h4⟩ := h
  exact ⟨ch', h3, step_leave_panicked ⟨h1, h2, fn, h4⟩⟩
end
end Ev

/- Soundness of one operation, whatever it is. -/
namespace Ev
open Go

section inv
variable {P : Program} {o : Oper}

theorem cOp_some {k : MK} (hc : cOp P o = some k) : (opds o).all okOpd = true ∧ cOp0 P o = some k := by
  unfold cOp at hc
  split at hc <;> first | simp at hc; done | skip
  rename_i hok
  split at hc <;> first | simp at hc; done | skip
  rename_i k' hc0
  split at hc <;> first | simp at hc; done | skip
  simp only [Option.some.injEq] at hc; subst hc
  exact ⟨hok, hc0⟩

/-- What sort of operation a control operation is compiled from. -/
def CtlFrom (o : Oper) : MK → Prop
  | .call f xs => ∃ c, o.op = .call c ∧ c.callee = .value f ∧ c.args.toList = xs
  | .invoke x n xs => ∃ c, o.op = .call c ∧ c.callee = .invoke x n ∧ c.args.toList = xs
  | .defer f xs => ∃ c, o.op = .defer c ∧ c.callee = .value f ∧ c.args.toList = xs
  | .recover => ∃ c, o.op = .call c ∧ c.callee = .builtin .recover ∧ c.args = #[]
  | .panic x => o.op = .panic x
  | .nextMap it => o.op = .next it false
  | _ => ∀ c, o.op ≠ .defer c

theorem cCall_from {c : Call} {k : MK} (hop : o.op = .call c) (h : cCall P c = some k) : CtlFrom o k := by
  have nd : ∀ c', o.op ≠ .defer c' := fun c' e => by rw [hop] at e; cases e
  simp only [cCall] at h
  split at h
  · rename_i hcl; simp only [Option.some.injEq] at h; subst h; exact ⟨c, hop, hcl, rfl⟩
  · rename_i hcl; simp only [Option.some.injEq] at h; subst h; exact ⟨c, hop, hcl, rfl⟩
  rename_i b hb
  split at h
  · (repeat' (split at h)) <;> first | (simp at h; done) | (simp only [Option.some.injEq] at h; subst h; exact nd)
  · (repeat' (split at h)) <;> first | (simp at h; done) | (simp only [Option.some.injEq] at h; subst h; exact nd)
  · (repeat' (split at h)) <;> first | (simp at h; done) | (simp only [Option.some.injEq] at h; subst h; exact nd)
  · (repeat' (split at h)) <;> first | (simp at h; done) | (simp only [Option.some.injEq] at h; subst h; exact nd)
  · (repeat' (split at h)) <;> first | (simp at h; done) | (simp only [Option.some.injEq] at h; subst h; exact nd)
  · (repeat' (split at h)) <;> first | (simp at h; done) | (simp only [Option.some.injEq] at h; subst h; exact nd)
  · rename_i hax
    simp only [Option.some.injEq] at h; subst h
    exact ⟨c, hop, hb, by rw [← Array.toList_inj, hax]⟩
  · simp only [Option.some.injEq] at h; subst h; exact nd
  · simp only [Option.some.injEq] at h; subst h; exact nd
  · simp at h

theorem cOp_from {k : MK} (hc : cOp P o = some k) : CtlFrom o k := by
  have h := (cOp_some hc).2
  clear hc
  obtain ⟨dst, op, type, pos, after, guard⟩ := o
  unfold cOp0 at h
  cases op <;> try (simp at h; done)
  case call c => exact cCall_from rfl h
  case defer c =>
    simp only at h
    split at h <;> first | (simp at h; done) | skip
    rename_i hcl
    simp only [Option.some.injEq] at h; subst h
    exact ⟨c, rfl, hcl, rfl⟩
  case panic x => simp only [Option.some.injEq] at h; subst h; rfl
  case next it isStr =>
    cases isStr <;> simp at h <;> subst h
    · rfl
    · intro c e; cases e
  case makeMap ty r => cases r <;> simp at h; subst h; intro c e; cases e
  case makeFunc fn first captured => cases fn <;> simp at h; subst h; intro c e; cases e
  case binOp op ty x y yt =>
    simp only at h
    unfold cBin cEqOp at h
    (repeat' (split at h)) <;> first
      | (simp at h; done)
      | (simp only [Option.some.injEq] at h; subst h; intro c e; cases e)
  all_goals
    (try simp only at h)
    (repeat' (split at h)) <;> first
      | (simp at h; done)
      | (simp only [Option.some.injEq] at h; subst h; intro c e; cases e)

theorem noDefer {k : MK} (hc : cOp P o = some k) (hk : cls k ≠ .c) (c : Call) : o.op ≠ .defer c := by
  have := cOp_from hc
  cases k <;> simp only [CtlFrom] at this <;> first
    | exact this c
    | exact absurd rfl hk
end inv

section
variable {P : Program} {G : Pg} {C : CA → Prop}

/-- What has come of one operation of a region. -/
def OpDone (P : Program) (N : Nat → Prop) (ρ : Rho) (s : S) (w : World) (b : Frame) (t : Array Value) (cs : List Frame) (m : Machine) (ops : Array Oper) (o : Oper) (i : Nat) (rest : List Nat) (k : List Item)
    (tight : Bool) (K : KV) (Q : KX) : Prop :=
  (∃ v v' f' s' ρ' w' d' cs', K v f' s' ∧ Rel P ρ' s' w' ∧ Ext N ρ s w ρ' s' w' ∧ FR P ρ' f' b t d' cs' ∧ CSame b.kind cs cs' ∧ VR ρ' v v' ∧
    Steps P m (lone (fr b (putT t o.dst v') d' (.inRegion ops rest :: k)) cs' w')) ∨
  (∃ ch ch' f' s' ρ' w' d' cs' k', tight = true ∧ Q (.panic ch) f' s' ∧ Rel P ρ' s' w' ∧ Ext N ρ s w ρ' s' w' ∧ FR P ρ' f' b t d' cs' ∧ CSame b.kind cs cs' ∧ L2 (PR ρ') ch ch' ∧
    Steps P m (lone { fr b t d' k' with mode := .panicking ch' } cs' w'))

theorem VRL.toArr {ρ : Rho} {l : List Value} {a : Array Value} (h : VRL ρ l a.toList) : VRL ρ l a.toList := h

variable {ρ : Rho} {s : S} {w : World} {b : Frame} {t : Array Value} {d : List Deferred} {cs : List Frame} {f : F} {ops : Array Oper} {i : Nat} {rest : List Nat} {k : List Item} {o : Oper}
  {mk : MK} {slot : Nat} {N : Nat → Prop} {tight : Bool} {K : KV} {Q : KX}

theorem raise_run {c : Frame} {ch : List PanicEntry} (h : c.mode = .run) : c.raise ch = { c with mode := .panicking ch } := by
  unfold Frame.raise
  rw [h]

theorem call_done (hG : Good P G) (hC : ∀ x, C x → Sound P x) (ho : ops[i]? = some o) (hw : Region.wanted o (yielded ops t) = true) (hnd : ∀ c, o.op ≠ .defer c)
    (hR : Rel P ρ s w) (hF : FR P ρ f b t d cs) {tg : Tgt} {as : List Value} (h : C ⟨tg, as, none, s, resK tight f K Q⟩) {as' : Array Value} (ha : VRL ρ as as'.toList)
    (he : match tg with
      | .fn g => ∀ gf, P.funcs[g]? = some gf → (execOp (Act.eval ⟨t, d⟩) o).run P w = .ok (.enter g as') w
      | .yield l => ∃ l' y, ρ l = some (l', y) ∧ (execOp (Act.eval ⟨t, d⟩) o).run P w = (Instr.yield l' as').run P w)
    (hfn : ∀ g, tg = .fn g → ∃ gf, P.funcs[g]? = some gf) :
    OpDone P N ρ s w b t cs (lone (fr b t d (.inRegion ops (i :: rest) :: k)) cs w) ops o i rest k tight K Q := by
  have hS := hC _ h
  have hraise : ∀ ch : List PanicEntry, (fr b t d (.inRegion ops (i :: rest) :: k)).raise ch = { fr b t d (.inRegion ops (i :: rest) :: k) with mode := .panicking ch } := fun ch => raise_run rfl
  cases tg with
  | fn g =>
    obtain ⟨gf, hgf⟩ := hfn g rfl
    have hrun := he gf hgf
    have h1 := st_enter (b := b) (k := k) (cs := cs) ho hw (.inr hnd) hrun (rest := rest)
    obtain ⟨r, m', s', ρ', w', fr', cs', q1, q2, q3, q4, q5, q6, q7⟩ := hS ρ w as' (fr b t d (.inRegion ops (i :: rest) :: k) :: cs) hR ha (fun u hu => by cases hu)
    obtain ⟨rfl, rfl⟩ := q7
    have q3' : Ext N ρ s w ρ' s' w' := (Ext.refl N ρ s w).trans q3 (fun _ h => h.elim)
    cases r with
    | ret v =>
      obtain ⟨v', hv, hst⟩ := step_back_ret (c := fr b t d (.inRegion ops (i :: rest) :: k)) (cs := cs) q6
      refine .inl ⟨v, v', f, s', ρ', w', d, cs, q1, q2, q3', hF.mono q3.sub, CSame.refl _, hv, ?_⟩
      rw [fr_finish ho] at hst
      exact Steps.head h1 (q4.trans (.one hst))
    | panic ch =>
      obtain ⟨ch', hch, hst⟩ := step_back_panic (c := fr b t d (.inRegion ops (i :: rest) :: k)) (cs := cs) q6
      rw [hraise] at hst
      exact .inr ⟨ch, ch', f, s', ρ', w', d, cs, _, q1.1, q1.2, q2, q3', hF.mono q3.sub, CSame.refl _, hch, Steps.head h1 (q4.trans (.one hst))⟩
  | yield l =>
    obtain ⟨l', y, hl, hrun⟩ := he
    obtain ⟨fn, tm, asg, body, hy, r, s', ρ', w', c', q1, q2, q3, q4, q5⟩ := hS ρ w as' l' y (fr b t d (.inRegion ops (i :: rest) :: k)) cs hR hl ha
    rw [hy] at hrun
    have h1 := st_round (b := b) (k := k) (cs := cs) ho hw (.inr hnd) hrun (rest := rest)
    have q3' : Ext N ρ s w ρ' s' w' := (Ext.refl N ρ s w).trans q3 (fun _ h => h.elim)
    cases r with
    | ret v =>
      obtain ⟨v', hv, rfl⟩ := q5
      refine .inl ⟨v, v', f, s', ρ', w', d, cs, q1, q2, q3', hF.mono q3.sub, CSame.refl _, hv, ?_⟩
      rw [fr_finish ho] at q4
      exact Steps.head h1 q4
    | panic ch =>
      obtain ⟨ch', hch, rfl⟩ := q5
      rw [hraise] at q4
      exact .inr ⟨ch, ch', f, s', ρ', w', d, cs, _, q1.1, q1.2, q2, q3', hF.mono q3.sub, CSame.refl _, hch, Steps.head h1 q4⟩

theorem L2.mem_left {α β : Type} {R : α → β → Prop} {l : List α} {m : List β} (h : L2 R l m) {x : α} (hx : x ∈ l) : ∃ y, y ∈ m ∧ R x y := by
  induction h with
  | nil => cases hx
  | cons a _ ih => cases hx with
    | head => exact ⟨_, .head _, a⟩
    | tail _ hx => obtain ⟨y, h1, h2⟩ := ih hx; exact ⟨y, .tail _ h1, h2⟩
theorem L2.mem_right {α β : Type} {R : α → β → Prop} {l : List α} {m : List β} (h : L2 R l m) {y : β} (hy : y ∈ m) : ∃ x, x ∈ l ∧ R x y := by
  induction h with
  | nil => cases hy
  | cons a _ ih => cases hy with
    | head => exact ⟨_, .head _, a⟩
    | tail _ hx => obtain ⟨y, h1, h2⟩ := ih hx; exact ⟨y, .tail _ h1, h2⟩

theorem choose_run (n : Nat) (hn : 0 < n) (w : World) : ∃ kk w0, (choose (.mapNext n)).run P w = .ok kk w0 ∧ kk < n ∧ (w0.heap = w.heap ∧ w0.tape = w.tape ∧ w0.os = w.os ∧ w0.output = w.output) := by
  simp only [choose, Sem.run, Question.forced, Question.cut]
  by_cases h : n ≤ 1
  · exact ⟨0, w, by simp [h], hn, rfl, rfl, rfl, rfl⟩
  · exact ⟨w.tape w.drawn (.mapNext n) % n, { w with drawn := w.drawn + 1 }, by simp [h], Nat.mod_lt _ hn, rfl, rfl, rfl, rfl⟩

theorem next_pick {es : List MapEntry} {es' : Array MapEntry} (_h5 : L2 (ER ρ) es es'.toList) (seen : Array Nat) (since last clock : Nat) {r' mr : Nat} {ty : TypeId}
    (hgo1 : (getObj r').run P w = .ok (.mapIter (some mr) since seen last) w) (hgo2 : (getObj mr).run P w = .ok (.map es' clock) w)
    (hn1 : (!seen.isEmpty && !es'.isEmpty && es'.all (fun e => decide (e.born ≥ last))) = false) :
    ∃ (kk : Nat) (w0 : World), kk = kk ∧ (w0.heap = w.heap ∧ w0.tape = w.tape ∧ w0.os = w.os ∧ w0.output = w.output) ∧
      (((∀ e ∈ es', seen.contains e.born = false → ¬ e.born < since) ∧ (Instr.next (.pointer (some ⟨r', 0, none⟩)) false ty).run P w = .ok (.tuple #[.bool false]) w0) ∨
       (∃ e, e ∈ es' ∧ seen.contains e.born = false ∧ (Instr.next (.pointer (some ⟨r', 0, none⟩)) false ty).run P w =
          .ok (.tuple #[.bool true, e.key, e.val]) { w0 with heap := w0.heap.setIfInBounds r' (.mapIter (some mr) since (seen.push e.born) clock) })) := by
  have key : ∀ (cand : Array (Option MapEntry)), cand = (if ((es'.filter fun e => !seen.contains e.born).filter (·.born < since)).isEmpty then #[none] else #[]) ++
      (((es'.filter fun e => !seen.contains e.born).filter (·.born < since)) ++ ((es'.filter fun e => !seen.contains e.born).filter (·.born ≥ since))).map some →
      0 < cand.size ∧ (none ∈ cand → ∀ e ∈ es', seen.contains e.born = false → ¬ e.born < since) ∧ (∀ e, some e ∈ cand → e ∈ es' ∧ seen.contains e.born = false) := by
    intro cand hc
    refine ⟨?_, ?_, ?_⟩
    · subst hc
      by_cases h : ((es'.filter fun e => !seen.contains e.born).filter (·.born < since)).isEmpty = true
      · rw [if_pos h, Array.size_append]
        have : (#[none] : Array (Option MapEntry)).size = 1 := rfl
        omega
      · have h' : ((es'.filter fun e => !seen.contains e.born).filter (·.born < since)).size ≠ 0 := by
          intro h0; apply h; simpa [Array.isEmpty] using h0
        simp only [Array.size_append, Array.size_map]
        omega
    · intro hm e he hs hlt
      subst hc
      simp only [Array.mem_append, Array.mem_map] at hm
      rcases hm with hm | ⟨x, _, hx⟩
      · split at hm
        · rename_i h
          have : e ∈ (es'.filter fun e => !seen.contains e.born).filter (·.born < since) := by
            simp only [Array.mem_filter]
            exact ⟨⟨he, by rw [hs]; rfl⟩, by simpa using hlt⟩
          rw [Array.isEmpty_iff.1 h] at this
          simp at this
        · simp at hm
      · cases hx
    · intro e hm
      subst hc
      simp only [Array.mem_append, Array.mem_map] at hm
      rcases hm with hm | ⟨x, hx, hx2⟩
      · split at hm <;> simp at hm
      · cases hx2
        rcases hx with hx | hx <;> simp only [Array.mem_filter] at hx <;> exact ⟨hx.1.1, by simpa using hx.1.2⟩
  obtain ⟨k1, k2, k3⟩ := key _ rfl
  obtain ⟨kk, w0, hch, hlt, hw0⟩ := choose_run (P := P) _ k1 w
  have hunf : ∀ r, (do
      match ((if ((es'.filter fun e => !seen.contains e.born).filter (·.born < since)).isEmpty then #[none] else #[]) ++
      (((es'.filter fun e => !seen.contains e.born).filter (·.born < since)) ++ ((es'.filter fun e => !seen.contains e.born).filter (·.born ≥ since))).map some : Array (Option MapEntry))[kk]? with
      | some (some e) =>
        setObj r' (.mapIter (some mr) since (seen.push e.born) clock)
        pure (.tuple #[.bool true, e.key, e.val])
      | some none => pure (.tuple #[.bool false])
      | none => stuck "Next: no such candidate" : Sem Value).run P w0 = r → (Instr.next (.pointer (some ⟨r', 0, none⟩)) false ty).run P w = r := by
    intro r hr
    rw [← hr]
    simp only [Instr.next]
    rw [run_bind_ok hgo1]
    simp only []
    rw [run_bind_ok hgo2]
    simp only []
    rw [if_neg (by rw [hn1]; decide), run_bind_ok hch]
    rfl
  have hr' : ∃ o, w0.heap[r']? = some o ∧ ∀ c t f, o ≠ .cells c t f := by
    rw [hw0.1]
    cases hx : w.heap[r']? with
    | none => simp [getObj, Sem.run, hx] at hgo1
    | some o =>
      refine ⟨o, rfl, fun c t f e => ?_⟩
      subst e
      simp [getObj, Sem.run, hx] at hgo1
  obtain ⟨o, ho1, ho2⟩ := hr'
  refine ⟨kk, w0, rfl, hw0, ?_⟩
  generalize hcand : ((if ((es'.filter fun e => !seen.contains e.born).filter (·.born < since)).isEmpty then #[none] else #[]) ++
      (((es'.filter fun e => !seen.contains e.born).filter (·.born < since)) ++ ((es'.filter fun e => !seen.contains e.born).filter (·.born ≥ since))).map some : Array (Option MapEntry)) = cand at *
  have hget : cand[kk]? = some cand[kk] := Array.getElem?_eq_getElem hlt
  cases hv : cand[kk] with
  | none =>
    left
    refine ⟨k2 (by rw [← hv]; exact Array.getElem_mem hlt), hunf _ ?_⟩
    rw [hget, hv]
    rfl
  | some e =>
    right
    obtain ⟨h1, h2⟩ := k3 e (by rw [← hv]; exact Array.getElem_mem hlt)
    refine ⟨e, h1, h2, hunf _ ?_⟩
    rw [hget, hv]
    simp only []
    rw [run_bind_ok (setObj_run ho1 ho2)]
    rfl

theorem op_sound (hG : Good P G) (hC : ∀ x, C x → Sound P x) (hfnC : ∀ g as m s Q, C ⟨.fn g, as, m, s, Q⟩ → ∃ m, G.fn g = some m) (ho : ops[i]? = some o) (hw : Region.wanted o (yielded ops t) = true) (hc : cOp P o = some mk)
    (hR : Rel P ρ s w) (hF : FR P ρ f b t d cs) (hslot : cls mk = .a → ρ slot = none ∧ slot < s.c ∧ N slot) (h : wpM G C mk slot tight f s K Q) :
    OpDone P N ρ s w b t cs (lone (fr b t d (.inRegion ops (i :: rest) :: k)) cs w) ops o i rest k tight K Q := by
  have hT : VRL ρ f.t (⟨t, d⟩ : Act).tmps.toList := hF.t
  have hok := (cOp_some hc).1
  unfold wpM at h
  cases hcl : cls mk with
  | p =>
    simp only [hcl] at h
    split at h <;> first | exact h.elim | skip
    rename_i v hv
    obtain ⟨v', h1, h2⟩ := P_sound (w := w) hT hc hcl hv
    exact .inl ⟨v, v', f, s, ρ, w, d, cs, h, hR, Ext.refl _ _ _ _, hF, CSame.refl _, h2, .one (st_value ho hw (.inr (noDefer hc (by rw [hcl]; simp))) h1)⟩
  | r =>
    simp only [hcl] at h
    split at h <;> first | exact h.elim | skip
    rename_i v hv
    obtain ⟨v', h1, h2⟩ := R_sound hR hT hc hcl hv
    exact .inl ⟨v, v', f, s, ρ, w, d, cs, h, hR, Ext.refl _ _ _ _, hF, CSame.refl _, h2, .one (st_value ho hw (.inr (noDefer hc (by rw [hcl]; simp))) h1)⟩
  | a =>
    simp only [hcl] at h
    split at h <;> first | exact h.elim | skip
    rename_i ob g hv
    obtain ⟨hs1, hs2, hs3⟩ := hslot hcl
    obtain ⟨v', w', o', r, h1, h2, h3, h4⟩ := A_sound (w := w) hT hs1 hc hcl hv
    have hsub := Rho.sub_put (x := (w.heap.size, r)) hs1
    exact .inl ⟨g slot, v', f, { s with h := s.h.set slot (some ob) }, _, w', d, cs, h, rel_new hR hs1 (Nat.le_refl _) hs2 h2 h3, ext_new hR hs1 (Nat.le_refl _) hs2 (.inl hs3) h2, hF.mono hsub, CSame.refl _, h4,
      .one (st_value ho hw (.inr (noDefer hc (by rw [hcl]; simp))) h1)⟩
  | w =>
    simp only [hcl] at h
    split at h <;> first | exact h.elim | skip
    rename_i v s' hv
    obtain ⟨n', w', ρ', h1, h2, h3, h4⟩ := W_sound hR hT hc hcl hv
    have h4' : Ext N ρ s w ρ' s' w' := (Ext.refl N ρ s w).trans h4 (fun _ h => h.elim)
    rcases h2 with ⟨v', rfl, h2⟩ | ⟨rfl, rfl⟩
    · exact .inl ⟨v, v', f, s', ρ', w', d, cs, h, h3, h4', hF.mono h4.sub, CSame.refl _, h2, .one (st_value ho hw (.inr (noDefer hc (by rw [hcl]; simp))) h1)⟩
    · exact .inl ⟨undef, undef, f, s', ρ', w', d, cs, h, h3, h4', hF.mono h4.sub, CSame.refl _, .tuple .nil, .one (st_skipped ho hw (.inr (noDefer hc (by rw [hcl]; simp))) h1)⟩
  | c =>
    simp only [hcl] at h
    have hfrom := cOp_from hc
    have okx : ∀ x, x ∈ o.op.operands.toList → okOpd x = true := fun x hx => okOpd_of hok hx
    cases mk <;> simp only [wpCtl] at h <;> first | exact h.elim | skip
    case call fo xs =>
      obtain ⟨c, hop, hcal, hax⟩ := hfrom
      have hnd : ∀ c', o.op ≠ .defer c' := fun c' e => by rw [hop] at e; cases e
      split at h <;> first | exact h.elim | skip
      rename_i fv vs hfv hvs
      split at h <;> first | exact h.elim | skip
      rename_i tg as htg
      have vf := eval_sound hT (okx fo (by rw [hop]; simp [Op.operands, Call.operands, hcal])) hfv
      have vas := evals_sound hT (xs := xs) (by
        simp only [List.all_eq_true]
        exact fun x hx => okx x (by rw [hop]; simp only [Op.operands, Call.operands, hcal]; rw [← hax] at hx; simp [hx])) hvs
      have hres : ∀ (fn : Go.Fn) (first cap : Array Value), Act.eval ⟨t, d⟩ fo = .func fn first cap →
          execOp (Act.eval ⟨t, d⟩) o = invoke (.fn fn cap) (first ++ c.args.map (Act.eval ⟨t, d⟩)) := by
        intro fn first cap e
        obtain ⟨dst, op, type, pos, after, guard⟩ := o
        simp only at hop
        subst hop
        simp only [execOp, resolve, hcal, e, Deferred.ofValue]
        rfl
      have hargs : VRL ρ vs (c.args.map (Act.eval ⟨t, d⟩)).toList := by
        rw [Array.toList_map, hax]; exact vas
      cases hff : Act.eval ⟨t, d⟩ fo <;> rw [hff] at vf <;> cases vf <;> simp only [tgtOf] at htg <;> first | (simp at htg; done) | skip
      · rename_i first' cap' g first cap hfirst hcap
        simp only [Option.some.injEq, Prod.mk.injEq] at htg
        obtain ⟨rfl, rfl⟩ := htg
        have e1 := hres _ _ _ hff
        have hall : VRL ρ (first.toList ++ vs ++ cap.toList) (first' ++ c.args.map (Act.eval ⟨t, d⟩) ++ cap').toList := by
          simp only [Array.toList_append]
          exact (hfirst.append hargs).append hcap
        split at h
        · rename_i e hext
          split at h <;> first | exact h.elim | skip
          rename_i v hv
          obtain ⟨v', h1, h2⟩ := hG.ext g e hext ρ _ _ v w hall hv
          refine .inl ⟨v, v', f, s, ρ, w, d, cs, h, hR, Ext.refl _ _ _ _, hF, CSame.refl _, h2, .one (st_value ho hw (.inr hnd) ?_)⟩
          rw [e1]
          exact h1
        · obtain ⟨m, hm⟩ := hfnC _ _ _ _ _ h
          obtain ⟨gf, hgf, hcf⟩ := hG.fn g m hm
          refine call_done hG hC ho hw hnd hR hF h hall ?_ (fun g' e => by cases e; exact ⟨gf, hgf⟩)
          intro gf' _
          rw [e1]
          exact callFunc_run hgf hcf _
      · rename_i first' cap' l l' y hl first cap hfirst hcap
        simp only [Option.some.injEq, Prod.mk.injEq] at htg
        obtain ⟨rfl, rfl⟩ := htg
        have e1 := hres _ _ _ hff
        have hall : VRL ρ (first.toList ++ vs) (first' ++ c.args.map (Act.eval ⟨t, d⟩)).toList := by
          simp only [Array.toList_append]
          exact hfirst.append hargs
        simp only [extOf] at h
        refine call_done hG hC ho hw hnd hR hF h hall ⟨l', y, hl, ?_⟩ (fun g' e => by cases e)
        rw [e1]
        rfl
    case invoke x name xs =>
      obtain ⟨c, hop, hcal, hax⟩ := hfrom
      have hnd : ∀ c', o.op ≠ .defer c' := fun c' e => by rw [hop] at e; cases e
      split at h <;> first | exact h.elim | skip
      rename_i ty v vs hxv hvs
      split at h <;> first | exact h.elim | skip
      rename_i g hm
      have vf := eval_sound hT (okx x (by rw [hop]; simp [Op.operands, Call.operands, hcal])) hxv
      have vas := evals_sound hT (xs := xs) (by
        simp only [List.all_eq_true]
        exact fun x hx => okx x (by rw [hop]; simp only [Op.operands, Call.operands, hcal]; rw [← hax] at hx; simp [hx])) hvs
      have hargs : VRL ρ vs (c.args.map (Act.eval ⟨t, d⟩)).toList := by
        rw [Array.toList_map, hax]; exact vas
      cases hff : Act.eval ⟨t, d⟩ x <;> rw [hff] at vf <;> cases vf
      rename_i v' hv
      obtain ⟨mf, hmf⟩ := hfnC _ _ _ _ _ h
      obtain ⟨gf, hgf, hcf⟩ := hG.fn g mf hmf
      refine call_done hG hC ho hw hnd hR hF h (as' := #[v'] ++ c.args.map (Act.eval ⟨t, d⟩)) (by rw [Array.toList_append]; exact .cons hv hargs) ?_ (fun g' e => by cases e; exact ⟨gf, hgf⟩)
      intro gf' _
      have e1 : execOp (Act.eval ⟨t, d⟩) o = callMethod (.iface ty v') name (c.args.map (Act.eval ⟨t, d⟩)) := by
        obtain ⟨dst, op, type, pos, after, guard⟩ := o
        simp only at hop
        subst hop
        simp only [execOp, resolve, hcal, hff]
        have q1 : (#[Value.iface ty v'] ++ c.args.map (Act.eval ⟨t, d⟩))[0]? = some (.iface ty v') := by rw [Array.getElem?_append]; rfl
        have q2 : (#[Value.iface ty v'] ++ c.args.map (Act.eval ⟨t, d⟩)).extract 1 (#[Value.iface ty v'] ++ c.args.map (Act.eval ⟨t, d⟩)).size = c.args.map (Act.eval ⟨t, d⟩) := by
          rw [← Array.toList_inj]; simp [List.take_of_length_le]
        show (do let some recv := (#[Value.iface ty v'] ++ c.args.map (Act.eval ⟨t, d⟩))[0]? | stuck "call: a method without a receiver"
                 callMethod recv name ((#[Value.iface ty v'] ++ c.args.map (Act.eval ⟨t, d⟩)).extract 1 (#[Value.iface ty v'] ++ c.args.map (Act.eval ⟨t, d⟩)).size) : Sem Next) = _
        rw [q1, q2]
      rw [e1]
      simp only [callMethod]
      rw [run_bind_ok run_program, run_bind_ok (hG.meth ty name g hm v' w)]
      exact callFunc_run hgf hcf _
    case defer fo xs =>
      obtain ⟨c, hop, hcal, hax⟩ := hfrom
      split at h <;> first | exact h.elim | skip
      rename_i fv vs hfv hvs
      split at h <;> first | exact h.elim | skip
      rename_i g as htg hr
      have vf := eval_sound hT (okx fo (by rw [hop]; simp [Op.operands, Call.operands, hcal])) hfv
      have vas := evals_sound hT (xs := xs) (by
        simp only [List.all_eq_true]
        exact fun x hx => okx x (by rw [hop]; rw [← hax] at hx; simp [Op.operands, Call.operands, hcal, hx])) hvs
      have hargs : VRL ρ vs (c.args.map (Act.eval ⟨t, d⟩)).toList := by
        rw [Array.toList_map, hax]; exact vas
      have hbr : b.roundOf = none := by have := hF.r; rw [hr] at this; exact this
      cases hff : Act.eval ⟨t, d⟩ fo <;> rw [hff] at vf <;> cases vf <;> simp only [tgtOf] at htg <;> first | (simp at htg; done) | skip
      rename_i first' cap' g' first cap hfirst hcap
      simp only [Option.some.injEq, Prod.mk.injEq, Tgt.fn.injEq] at htg
      obtain ⟨rfl, rfl⟩ := htg
      have hrun : (execOp (Act.eval ⟨t, d⟩) o).run P w = .ok (.defer { target := .fn (.func g') cap', args := first' ++ c.args.map (Act.eval ⟨t, d⟩) }) w := by
        obtain ⟨dst, op, type, pos, after, guard⟩ := o
        simp only at hop
        subst hop
        simp only [execOp, resolve, hcal, hff, Deferred.ofValue]
        rfl
      refine .inl ⟨undef, undef, _, s, ρ, w, _, cs, h, hR, Ext.refl _ _ _ _, ⟨hF.t, .cons (.fn ?_) hF.d, hF.m, hF.r, hF.fn⟩, CSame.refl _, .tuple .nil, .one (st_defer ho hw (.inl hbr) hrun)⟩
      simp only [Array.toList_append]
      exact (hfirst.append hargs).append hcap
    case recover =>
      obtain ⟨c, hop, hcal, hax⟩ := hfrom
      have hnd : ∀ c', o.op ≠ .defer c' := fun c' e => by rw [hop] at e; cases e
      split at h <;> first | exact h.elim | skip
      rename_i hr
      have hbr : b.roundOf = none := by have := hF.r; rw [hr] at this; exact this
      have hrun : (execOp (Act.eval ⟨t, d⟩) o).run P w = .ok .recover w := by
        obtain ⟨dst, op, type, pos, after, guard⟩ := o
        simp only at hop
        subst hop
        simp only [execOp, resolve, hcal]
        rfl
      have hst := st_recover (b := b) (k := k) (cs := cs) (rest := rest) ho hw (.inr hnd) hrun hbr
      have hm := hF.m
      split at h
      · rename_i v older hfm
        rw [hfm] at hm
        obtain ⟨hk, c0, cs0, rfl, hmr⟩ := hm
        cases hc0 : c0.mode with
        | run => rw [hc0] at hmr; cases hmr
        | returning => rw [hc0] at hmr; cases hmr
        | panicking ch' =>
          rw [hc0] at hmr
          cases hmr with
          | pan hl =>
            cases hl with
            | @cons _ pe _ ol hpe hol =>
              obtain ⟨pv0, prec, pgo⟩ := pe
              obtain ⟨h1, h2, h3⟩ := hpe
              simp only at h1 h2 h3
              subst h2; subst h3
              have htr : tryRecover (fr b t d (.inRegion ops (i :: rest) :: k)) (c0 :: cs0) = some (pv0, { c0 with mode := .panicking ({ v := pv0, recovered := true } :: ol) } :: cs0) := by
                unfold tryRecover
                simp [fr, hk, hc0]
              rw [htr] at hst
              exact .inl ⟨v, pv0, _, s, ρ, w, d, _, h, hR, Ext.refl _ _ _ _,
                ⟨hF.t, hF.d, ⟨hk, _, _, rfl, .pan (.cons ⟨h1, rfl, rfl⟩ hol)⟩, hF.r, hF.fn⟩, .inr ⟨hk, c0, cs0, _, rfl, rfl⟩, h1, .one hst⟩
      · rename_i hno
        have htr : tryRecover (fr b t d (.inRegion ops (i :: rest) :: k)) cs = none := by
          unfold tryRecover
          cases hfm : f.m with
          | none => rw [hfm] at hm; simp only [CB] at hm; simp [fr, hm]
          | some u =>
            rw [hfm] at hm
            obtain ⟨hk, c0, cs0, rfl, hmr⟩ := hm
            simp only [fr, hk]
            cases hcm : c0.mode with
            | run => first | (rw [hcm] at hmr; done) | (rw [hcm] at hmr; cases hmr)
            | returning => rfl
            | panicking ch' =>
              rw [hcm] at hmr
              cases hmr with
              | pan hl =>
                cases hl with
                | nil => rfl
                | @cons x pe l ol hpe hol =>
                  obtain ⟨pv0, prec, pgo⟩ := pe
                  obtain ⟨xv, xr⟩ := x
                  obtain ⟨h1, h2, h3⟩ := hpe
                  simp only at h1 h2 h3
                  cases xr with
                  | false => exact absurd hfm (hno _ _)
                  | true => subst h2; rfl
        rw [htr] at hst
        exact .inl ⟨.nilIface, .nilIface, f, s, ρ, w, d, cs, h, hR, Ext.refl _ _ _ _, hF, CSame.refl _, .nilIface, .one hst⟩
    case panic x =>
      have hop : o.op = .panic x := hfrom
      have hnd : ∀ c', o.op ≠ .defer c' := fun c' e => by rw [hop] at e; cases e
      split at h <;> first | exact h.elim | skip
      rename_i ty v hx
      have vx := eval_sound hT (okx x (by rw [hop]; simp [Op.operands])) hx
      cases hff : Act.eval ⟨t, d⟩ x <;> rw [hff] at vx <;> cases vx
      rename_i v' hv
      have hrun : (execOp (Act.eval ⟨t, d⟩) o).run P w = .halt (.panic (.iface ty v')) w := by
        obtain ⟨dst, op, type, pos, after, guard⟩ := o
        simp only at hop
        subst hop
        simp only [execOp, hff]
        rfl
      exact .inr ⟨_, [{ v := .iface ty v', recovered := false }], f, s, ρ, w, d, cs, _, h.1, h.2, hR, Ext.refl _ _ _ _, hF, CSame.refl _, .cons ⟨.iface _ hv, rfl, rfl⟩ .nil,
        .one (st_panic ho hw (.inr hnd) hrun)⟩
    case nextMap it =>
      have hop : o.op = .next it false := hfrom
      have hnd : ∀ c', o.op ≠ .defer c' := fun c' e => by rw [hop] at e; cases e
      split at h <;> first | exact h.elim | skip
      rename_i r sp hx
      have vx := eval_sound hT (okx it (by rw [hop]; simp [Op.operands])) hx
      cases hff : Act.eval ⟨t, d⟩ it <;> rw [hff] at vx <;> cases vx
      rename_i r' y hb
      have hexec : ∀ v' w', (Instr.next (.pointer (some ⟨r', 0, none⟩)) false o.type).run P w = .ok v' w' → (execOp (Act.eval ⟨t, d⟩) o).run P w = .ok (.value v') w' := by
        intro v' w' hh
        obtain ⟨dst, op, type, pos, after, guard⟩ := o
        simp only at hop
        subst hop
        simp only [execOp, hff]
        exact val_run hh
      split at h <;> first | exact h.elim | skip
      · rename_i a0 a1 a2 hg
        obtain ⟨m', h1, h2, _⟩ := iter_of hR hb hg
        rw [h2 rfl] at h1
        refine .inl ⟨_, .tuple #[.bool false], f, s, ρ, w, d, cs, h, hR, Ext.refl _ _ _ _, hF, CSame.refl _, .tuple (.cons (.bool _) .nil), .one (st_value ho hw (.inr hnd) (hexec _ _ ?_))⟩
        simp only [Instr.next]
        rw [run_bind_ok (getObj_run h1 (by simp))]
        rfl
      · rename_i m since seen last hg
        split at h <;> first | exact h.elim | skip
        rename_i es clock hgm
        obtain ⟨m', h1, _, h3⟩ := iter_of hR hb hg
        obtain ⟨mr, ym, rfl, hm⟩ := h3 m rfl
        obtain ⟨es', h4, h5⟩ := map_of hR hm hgm
        obtain ⟨hn1, hn2, hn3⟩ := h
        have hgo1 := getObj_run (P := P) h1 (by simp)
        have hgo2 := getObj_run (P := P) h4 (by simp)
        obtain ⟨kk, w0, hch, hw0, hcase⟩ := next_pick (P := P) (w := w) h5 seen.toArray since last clock hgo1 hgo2 (by
          rw [← hn1]
          have e1 : seen.toArray.isEmpty = seen.isEmpty := by simp
          have e2 : es'.isEmpty = es.isEmpty := by
            have hl := h5.length
            cases hes : es with
            | nil =>
              rw [hes] at hl
              have h0 : es' = #[] := by simpa using hl.symm
              simp [h0]
            | cons x l =>
              rw [hes] at hl
              have h0 : es'.size ≠ 0 := by simp at hl; omega
              simp
              intro e
              simp [e] at h0
          have e3 : es'.all (fun e => decide (e.born ≥ last)) = es.all (fun e => Nat.ble last e.born) := by
            rw [← Array.all_toList]
            clear hn1 hn2 hn3 hgo2 h4 e2 hgm
            generalize es'.toList = l' at h5
            induction h5 with
            | nil => rfl
            | @cons x y' l m h _ ih =>
              simp only [List.all_cons, ih, h.2.2]
              congr 1
              by_cases hb : last ≤ x.born
              · rw [Nat.ble_eq_true_of_le hb]; simpa using hb
              · have hf : Nat.ble last x.born = false := by
                  cases hx : Nat.ble last x.born with
                  | false => rfl
                  | true => exact absurd (Nat.le_of_ble_eq_true hx) hb
                rw [hf]; simpa using hb
          rw [e1, e2, e3])
        have hR0 : Rel P ρ s w0 := ⟨by rw [hw0.1]; exact hR.obj, hR.inj, hR.fresh, by rw [hw0.1]; exact hR.blk, hR.wf⟩
        have hE0 : Ext N ρ s w ρ s w0 := ⟨Sub.refl _, fun i h1 h2 => absurd h1 h2, fun _ _ _ h => h, Nat.le_refl _, by rw [hw0.1]; exact Nat.le_refl _, fun b _ _ => by rw [hw0.1], fun i o b r h1 h2 _ => ⟨i, o, r, h1, h2, id⟩, hw0.2.1, hw0.2.2.1, hw0.2.2.2, Keep.heap hw0.1⟩
        rcases hcase with ⟨hold, hrun⟩ | ⟨e', he', hun, hrun⟩
        · have hold' : ((es.filter fun e => !seen.contains e.born).filter fun e => Nat.blt e.born since) = [] := by
            rw [List.filter_eq_nil_iff]
            intro e he hb
            simp only [List.mem_filter] at he
            have hlt : e.born < since := by simpa [Nat.blt_eq] using hb
            obtain ⟨e', h6, h7⟩ := L2.mem_left h5 he.1
            refine hold e' (by simpa using h6) ?_ (by rw [h7.2.2]; exact hlt)
            rw [h7.2.2]; simpa using he.2
          exact .inl ⟨_, .tuple #[.bool false], f, s, ρ, w0, d, cs, hn2 hold', hR0, hE0, hF, CSame.refl _, .tuple (.cons (.bool _) .nil), .one (st_value ho hw (.inr hnd) (hexec _ _ hrun))⟩
        · obtain ⟨e, h6, h7⟩ := L2.mem_right h5 (by simpa using he')
          have hun' : seen.contains e.born = false := by rw [← h7.2.2]; simpa using hun
          have hu2 := upd_setObj (w := w0) (o2 := .mapIter (some mr) since (seen.toArray.push e'.born) clock) (by rw [hw0.1]; exact h1)
          have hor : OR P ρ y (.mapIter (some m) since (seen ++ [e.born]) clock) (.mapIter (some mr) since (seen.toArray.push e'.born) clock) := by
            have := OR.mapIter (P := P) (r := y) hm since (seen ++ [e.born]) clock
            rw [h7.2.2]
            simpa using this
          exact .inl ⟨_, .tuple #[.bool true, e'.key, e'.val], f, _, ρ, _, d, cs, hn3 e h6 hun', rel_upd hR0 hg hb hu2 hor, hE0.trans (ext_upd N hg hb hu2) (fun _ h => .inl h), hF, CSame.refl _,
            .tuple (.cons (.bool _) (.cons h7.1 (.cons h7.2.1 .nil))), .one (st_value ho hw (.inr hnd) (hexec _ _ hrun))⟩
end
end Ev

/- Soundness of code: where control goes; regions in the order of the text. -/
namespace Ev
open Go

/-- Where the machine has come to, when code in a frame has been left in a way. -/
def Arr (P : Program) (ρ : Rho) (m : Machine) (b : Frame) (k : List Item) (t : Array Value) (d : List Deferred) (cs : List Frame) (w : World) : Ex → Prop
  | .normal => Steps P m (lone (fr b t d k) cs w)
  | .exit id => ∃ k0, Steps P m (lone (fr b t d (.code (.exit id) :: k0)) cs w) ∧ exitTo id k0 = exitTo id k
  | .ret => ∃ k0, Steps P m (lone (fr b t d (.code .ret :: k0)) cs w)
  | .panic ch => ∃ k0 ch', Steps P m (lone { fr b t d k0 with mode := .panicking ch' } cs w) ∧ L2 (PR ρ) ch ch'

theorem Arr.of_steps {P : Program} {ρ : Rho} {m m1 : Machine} {b : Frame} {k : List Item} {t : Array Value} {d : List Deferred} {cs : List Frame} {w : World} {x : Ex}
    (h : Steps P m m1) (h' : Arr P ρ m1 b k t d cs w x) : Arr P ρ m b k t d cs w x := by
  cases x with
  | normal => exact h.trans h'
  | exit id => obtain ⟨k0, h1, h2⟩ := h'; exact ⟨k0, h.trans h1, h2⟩
  | ret => obtain ⟨k0, h1⟩ := h'; exact ⟨k0, h.trans h1⟩
  | panic ch => obtain ⟨k0, ch', h1, h2⟩ := h'; exact ⟨k0, ch', h.trans h1, h2⟩

/-- What code comes to. -/
def Comes (P : Program) (ρ : Rho) (s : S) (w : World) (b : Frame) (cs : List Frame) (m : Machine) (k : List Item) (Q : KX) : Prop :=
  ∃ x f' s' ρ' w' t' d' cs', Q x f' s' ∧ Rel P ρ' s' w' ∧ Ext No ρ s w ρ' s' w' ∧ FR P ρ' f' b t' d' cs' ∧ CSame b.kind cs cs' ∧ Arr P ρ' m b k t' d' cs' w' x

section
variable {P : Program} {G : Pg} {C : CA → Prop} {ρ : Rho} {s : S} {w : World} {b : Frame} {cs : List Frame} {k : List Item} {Q : KX}

theorem Comes.of_steps {m m1 : Machine} (h : Steps P m m1) (h' : Comes P ρ s w b cs m1 k Q) : Comes P ρ s w b cs m k Q := by
  obtain ⟨x, f', s', ρ', w', t', d', cs', h1, h2, h3, h4, h5, h6⟩ := h'
  exact ⟨x, f', s', ρ', w', t', d', cs', h1, h2, h3, h4, h5, h6.of_steps h⟩

theorem rel_reserve (hR : Rel P ρ s w) (n : Nat) : Rel P ρ { s with c := s.c + n } w := ⟨hR.obj, hR.inj, fun i hi => hR.fresh i (by simp only at hi; omega), hR.blk, fun i hi => hR.wf i (by simp only at hi; omega)⟩

theorem ext_reserve (N : Nat → Prop) (n : Nat) : Ext N ρ s w ρ { s with c := s.c + n } w :=
  ⟨Sub.refl _, fun i h1 h2 => absurd h1 h2, fun _ _ _ h => h, Nat.le_add_right _ _, Nat.le_refl _, fun _ _ _ => rfl, fun i o b r h1 h2 _ => ⟨i, o, r, h1, h2, id⟩, rfl, rfl, rfl, Keep.refl w⟩

theorem wanted_eq {ops : Array Oper} {o : Oper} {g : Option (Nat × Bool)} {t : List Value} {t' : Array Value} (hg : guardOf ops o = some g) (hT : VRL ρ t t'.toList) :
    Region.wanted o (yielded ops t') = wantedM g t := by
  unfold guardOf at hg
  unfold Region.wanted
  split at hg
  · rename_i e; simp only [Option.some.injEq] at hg; subst hg; rw [e]; rfl
  · rename_i j want e
    split at hg <;> first | (simp at hg; done) | skip
    rename_i d hd
    simp only [Option.some.injEq] at hg; subst hg
    rw [e]
    simp only [wantedM, yielded, hd, Option.bind_some]
    cases hn : nth t d with
    | none =>
      have hlen := hT.length
      have : t'[d]? = none := by
        rw [nth_eq] at hn
        simp at hn hlen ⊢; omega
      rw [this]; rfl
    | some v =>
      obtain ⟨v', h1, h2⟩ := hT.nth hn
      have h1' : t'[d]? = some v' := by simpa using h1
      rw [h1']
      cases h2 <;> first
        | rfl
        | (rename_i ht; cases v' <;> first | rfl | cases ht)

theorem FR.put {f : F} {t : Array Value} {d : List Deferred} (hF : FR P ρ f b t d cs) (dst : Option Nat) {v v' : Value} (hv : VR ρ v v') : FR P ρ (f.put dst v) b (putT t dst v') d cs := by
  cases dst with
  | none => exact hF
  | some n =>
    refine ⟨?_, hF.d, hF.m, hF.r, hF.fn⟩
    simp only [F.put, putT, Array.toList_setIfInBounds]
    exact hF.t.upd n hv

theorem plain_sound (hG : Good P G) (hC : ∀ x, C x → Sound P x) (hfnC : ∀ g as m s Q, C ⟨.fn g, as, m, s, Q⟩ → ∃ m, G.fn g = some m) {ops : Array Oper} {c0 : Nat} :
    ∀ (os : List Oper) (ks : List (MK × Option (Nat × Bool))) (i0 : Nat) (f : F) (s : S) (ρ : Rho) (w : World) (t : Array Value) (d : List Deferred) (cs : List Frame),
      (∀ j o, os[j]? = some o → ops[i0 + j]? = some o) → i0 + os.length = ops.size → cKinds P ops os = some ks → wpOps G C c0 Q (plainMOs os ks i0) f s →
      Rel P ρ s w → FR P ρ f b t d cs → c0 + ops.size ≤ s.c → (∀ j, i0 ≤ j → j < ops.size → ρ (c0 + j) = none) →
      ∃ x f' s' ρ' w' t' d' cs', Q x f' s' ∧ Rel P ρ' s' w' ∧ Ext (fun i => c0 ≤ i ∧ i < c0 + ops.size) ρ s w ρ' s' w' ∧ FR P ρ' f' b t' d' cs' ∧ CSame b.kind cs cs' ∧
        Arr P ρ' (lone (fr b t d (.inRegion ops (List.range' i0 os.length) :: k)) cs w) b k t' d' cs' w' x := by
  intro os
  induction os with
  | nil =>
    intro ks i0 f s ρ w t d cs _ _ hk h hR hF _ _
    simp only [cKinds, Option.some.injEq] at hk; subst hk
    simp only [plainMOs, wpOps] at h
    exact ⟨.normal, f, s, ρ, w, t, d, cs, h, hR, Ext.refl _ _ _ _, hF, CSame.refl _, .one st_region_end⟩
  | cons o os ih =>
    intro ks i0 f s ρ w t d cs hops hlen hk h hR hF hc hslots
    simp only [cKinds] at hk
    split at hk <;> first | (simp at hk; done) | skip
    rename_i mk g l hmk hg hl
    simp only [Option.some.injEq] at hk; subst hk
    simp only [plainMOs, wpOps] at h
    have ho : ops[i0]? = some o := by simpa using hops 0 o rfl
    have hw := wanted_eq (ρ := ρ) hg hF.t
    have hlt : i0 < ops.size := (Array.getElem?_eq_some_iff.1 ho).1
    have hops' : ∀ j o', os[j]? = some o' → ops[i0 + 1 + j]? = some o' := fun j o' e => by
      have := hops (j + 1) o' (by simpa using e)
      rw [← this]; congr 1; omega
    have hlen' : i0 + 1 + os.length = ops.size := by simp at hlen; omega
    have hrange : List.range' i0 (o :: os).length = i0 :: List.range' (i0 + 1) os.length := by simp [List.range'_succ]
    rw [hrange]
    cases hwv : wantedM g f.t with
    | false =>
      simp only [hwv] at h
      obtain ⟨x, f', s', ρ', w', t', d', cs', h1, h2, h3, h4, h5, h6⟩ := ih l (i0 + 1) (f.put o.dst undef) s ρ w (putT t o.dst undef) d cs hops' hlen' hl h hR (hF.put o.dst (.tuple .nil)) hc
        (fun j h1 h2 => hslots j (by omega) h2)
      exact ⟨x, f', s', ρ', w', t', d', cs', h1, h2, h3, h4, h5, h6.of_steps (.one (st_unwanted ho (by rw [hw, hwv])))⟩
    | true =>
      simp only [hwv] at h
      have hd := op_sound (b := b) (cs := cs) (k := k) (rest := List.range' (i0 + 1) os.length) (N := fun i => i = c0 + i0) hG hC hfnC ho (by rw [hw, hwv]) hmk hR hF
        (fun _ => ⟨hslots i0 (Nat.le_refl _) hlt, by omega, rfl⟩) h
      rcases hd with ⟨v, v', f1, s1, ρ1, w1, d1, cs1, ⟨_, q1⟩, q2, q3, q4, q5, q6, q7⟩ | ⟨ch, ch', f1, s1, ρ1, w1, d1, cs1, k1, _, q1, q2, q3, q4, q5, q6, q7⟩
      · have hslots' : ∀ j, i0 + 1 ≤ j → j < ops.size → ρ1 (c0 + j) = none := by
          intro j h1 h2
          cases hx : ρ1 (c0 + j) with
          | none => rfl
          | some x =>
            have := q3.new (c0 + j) (hslots j (by omega) h2) (by simp [hx])
            omega
        obtain ⟨x, f', s', ρ', w', t', d', cs', h1, h2, h3, h4, h5, h6⟩ := ih l (i0 + 1) (f1.put o.dst v) s1 ρ1 w1 (putT t o.dst v') d1 cs1 hops' hlen' hl q1 q2 (q4.put o.dst q6) (by have := q3.cle; omega) hslots'
        have q3' : Ext (fun i => c0 ≤ i ∧ i < c0 + ops.size) ρ s w ρ1 s1 w1 := ⟨q3.sub, fun i a1 a2 => ⟨(q3.new i a1 a2).1.imp (fun e => by omega) id, (q3.new i a1 a2).2⟩, fun i a1 a2 a3 => q3.dead i a1 (fun e => a2 (by omega)) a3, q3.cle, q3.size, q3.frame, q3.img, q3.tape, q3.os, q3.output, q3.keep⟩
        exact ⟨x, f', s', ρ', w', t', d', cs', h1, h2, q3'.trans h3 (fun _ h => .inl h), h4, q5.trans h5, h6.of_steps q7⟩
      · have q3' : Ext (fun i => c0 ≤ i ∧ i < c0 + ops.size) ρ s w ρ1 s1 w1 := ⟨q3.sub, fun i a1 a2 => ⟨(q3.new i a1 a2).1.imp (fun e => by omega) id, (q3.new i a1 a2).2⟩, fun i a1 a2 a3 => q3.dead i a1 (fun e => a2 (by omega)) a3, q3.cle, q3.size, q3.frame, q3.img, q3.tape, q3.os, q3.output, q3.keep⟩
        exact ⟨.panic ch, f1, s1, ρ1, w1, t, d1, cs1, q1, q2, q3', q4, q5, ⟨k1, ch', q7, q6⟩⟩
end
end Ev

/- Regions that draw their order: what an operation comes to hangs on the slots that it reads alone. -/
namespace Ev
open Go

theorem nth_upd {α : Type} (l : List α) (i : Nat) (v : α) (j : Nat) : nth (upd l i v) j = if j = i ∧ i < l.length then some v else nth l j := by
  rw [nth_eq, nth_eq, upd_eq, List.getElem?_set]
  by_cases h : j = i
  · subst h
    by_cases h2 : j < l.length <;> simp [h2]
  · rw [if_neg (fun e => h e.symm), if_neg (fun e => h e.1)]

theorem length_upd {α : Type} (l : List α) (i : Nat) (v : α) : (upd l i v).length = l.length := by rw [upd_eq, List.length_set]

def putL (t : List Value) (d : Option Nat) (v : Value) : List Value := match d with
  | some d => upd t d v
  | none => t

theorem F.put_eq (f : F) (d : Option Nat) (v : Value) : f.put d v = { f with t := putL f.t d v } := by cases d <;> rfl

theorem length_putL (t : List Value) (d : Option Nat) (v : Value) : (putL t d v).length = t.length := by cases d <;> simp [putL, length_upd]

theorem nth_putL_ne {t : List Value} {d : Option Nat} {v : Value} {n : Nat} (h : d ≠ some n) : nth (putL t d v) n = nth t n := by
  cases d with
  | none => rfl
  | some d => simp only [putL, nth_upd]; rw [if_neg (fun e => h (by rw [e.1]))]

theorem nth_putL_same {t : List Value} {n : Nat} {v : Value} (h : n < t.length) : nth (putL t (some n) v) n = some v := by
  simp only [putL, nth_upd]; rw [if_pos ⟨trivial, h⟩]

theorem nth_ge {t : List Value} {n : Nat} (h : t.length ≤ n) : nth t n = none := by rw [nth_eq]; simp [h]

theorem nth_ext {a b : List Value} (h : ∀ n, nth a n = nth b n) : a = b := List.ext_getElem? fun n => by rw [← nth_eq, ← nth_eq, h]

section
variable {t t' : List Value}
theorem eval_congr {x : Operand} (h : ∀ n ∈ osl x, nth t n = nth t' n) : eval t x = eval t' x := by
  cases x <;> simp_all [eval, osl]

theorem evals_congr : ∀ {xs : List Operand}, (∀ n ∈ osls xs, nth t n = nth t' n) → evals t xs = evals t' xs := by
  intro xs
  induction xs with
  | nil => exact fun _ => rfl
  | cons x xs ih =>
    intro h
    simp only [osls, List.flatMap_cons, List.mem_append, or_imp, forall_and] at h
    simp only [evals, eval_congr h.1, ih h.2]

theorem evalO_congr {x : Option Operand} (h : ∀ n ∈ oslo x, nth t n = nth t' n) : evalO t x = evalO t' x := by
  cases x with
  | none => rfl
  | some x => simp only [evalO, eval_congr h]

theorem partsV_congr : ∀ {ps : List (Nat × Nat × Operand)}, (∀ n ∈ oslp ps, nth t n = nth t' n) → partsV t ps = partsV t' ps := by
  intro xs
  induction xs with
  | nil => exact fun _ => rfl
  | cons x xs ih =>
    intro h
    obtain ⟨a, b, x⟩ := x
    simp only [oslp, List.flatMap_cons, List.mem_append, or_imp, forall_and] at h
    simp only [partsV, eval_congr h.1, ih h.2]

theorem evP_congr {k : MK} (h : ∀ n ∈ ksl k, nth t n = nth t' n) : evP k t = evP k t' := by
  cases k <;> simp only [ksl, List.mem_append, or_imp, forall_and] at h <;> first
    | rfl
    | simp only [evP, eval_congr h]
    | simp only [evP, partsV_congr h]
    | simp only [evP, eval_congr h.1, eval_congr h.2]
    | simp only [evP, evals_congr h.1, evals_congr h.2]
    | simp only [evP, eval_congr h.1.1, eval_congr h.1.2, eval_congr h.2]
    | simp only [evP, eval_congr h.1.1, evalO_congr h.1.2, evalO_congr h.2]
    | simp only [evP, eval_congr h.1.1.1, evalO_congr h.1.1.2, evalO_congr h.1.2, evalO_congr h.2]

theorem evR_congr {k : MK} (h : ∀ n ∈ ksl k, nth t n = nth t' n) (hp : Heap) : evR k t hp = evR k t' hp := by
  cases k <;> simp only [ksl, List.mem_append, or_imp, forall_and] at h <;> first
    | rfl
    | simp only [evR, eval_congr h]
    | simp only [evR, eval_congr h.1, eval_congr h.2]

theorem evA_congr {k : MK} (h : ∀ n ∈ ksl k, nth t n = nth t' n) : evA k t = evA k t' := by
  cases k <;> simp only [ksl, List.mem_append, or_imp, forall_and] at h <;> first
    | rfl
    | simp only [evA, eval_congr h]
    | simp only [evA, partsV_congr h]
    | simp only [evA, eval_congr h.1, eval_congr h.2]

theorem evS_congr {k : MK} (h : ∀ n ∈ ksl k, nth t n = nth t' n) (s : S) : evS k t s = evS k t' s := by
  cases k <;> simp only [ksl, List.mem_append, or_imp, forall_and] at h <;> first
    | rfl
    | simp only [evS, eval_congr h]
    | simp only [evS, eval_congr h.1, eval_congr h.2]
    | simp only [evS, eval_congr h.1.1, eval_congr h.1.2, eval_congr h.2]

theorem wantedM_congr {k : MK} {g : Option (Nat × Bool)} (h : ∀ n ∈ slotsK (k, g), nth t n = nth t' n) : wantedM g t = wantedM g t' := by
  cases g with
  | none => rfl
  | some g =>
    simp only [slotsK, List.mem_append, List.mem_singleton, or_imp, forall_and, forall_eq] at h
    simp only [wantedM, h.2]

theorem slotsK_ksl {k : MK} {g : Option (Nat × Bool)} (h : ∀ n ∈ slotsK (k, g), nth t n = nth t' n) : ∀ n ∈ ksl k, nth t n = nth t' n :=
  fun n hn => h n (by simp only [slotsK, List.mem_append]; exact .inl hn)
end

theorem firstV_mono {h h' : Heap} (H : ∀ j x, h.get j = some x → h'.get j = some x) {a n : Nat} {x : Value} {v : List Value} (hv : firstV h a n x = some v) : firstV h' a n x = some v := by
  unfold firstV at hv ⊢
  split at hv <;> first | exact hv | skip
  split at hv <;> first | (simp at hv; done) | skip
  rename_i hg
  simp only [H _ _ hg]; exact hv

theorem lookupV_mono {h h' : Heap} (H : ∀ j x, h.get j = some x → h'.get j = some x) {kk : KK} {z : Value} {ok : Bool} {m x v : Value} (hv : lookupV h kk z ok m x = some v) :
    lookupV h' kk z ok m x = some v := by
  cases m with
  | map r =>
    cases r with
    | none => exact hv
    | some r =>
      simp only [lookupV] at hv ⊢
      cases hg : h.get r with
      | none => rw [hg] at hv; simp at hv
      | some o => rw [hg] at hv; rw [H _ _ hg]; exact hv
  | _ => simp [lookupV] at hv

theorem evR_mono {h h' : Heap} (H : ∀ j x, h.get j = some x → h'.get j = some x) {k : MK} {t : List Value} {v : Value} (hv : evR k t h = some v) : evR k t h' = some v := by
  cases k <;> simp only [evR] at hv ⊢ <;> first | (simp at hv; done) | skip
  case load n agg a =>
    split at hv <;> first | (simp at hv; done) | skip
    unfold loadV at hv ⊢
    split at hv <;> first | (simp at hv; done) | skip
    split at hv <;> first | (simp at hv; done) | skip
    rename_i hg
    simp only [H _ _ hg]; exact hv
  case lookup kk z ok m x =>
    split at hv <;> first | (simp at hv; done) | skip
    exact lookupV_mono H hv
  case lenMap x =>
    split at hv <;> first | (simp at hv; done) | exact hv | skip
    split at hv <;> first | (simp at hv; done) | skip
    rename_i hg
    simp only [H _ _ hg]; exact hv
  case entry x =>
    split at hv <;> first | (simp at hv; done) | skip
    split at hv <;> first | (simp at hv; done) | skip
    rename_i hg
    simp only [H _ _ hg]
    split at hv <;> first | (simp at hv; done) | skip
    rename_i hg1 hg2
    simp only [H _ _ hg1, hg2]
    exact hv
  case toStr x =>
    split at hv <;> first | (simp at hv; done) | exact hv | skip
    split at hv <;> first | (simp at hv; done) | skip
    rename_i hg
    simp only [firstV_mono H hg]; exact hv

section
variable {G : Pg} {C : CA → Prop}

theorem F.t_eta (f : F) : { f with t := f.t } = f := rfl

/-- An operation that moves the frame, on other slots that agree on what it reads. -/
theorem wpM_frame (hU : Up C) {k : MK} {slot : Nat} {tight : Bool} {f : F} {t2 : List Value} {s : S} {K : KV} {Q : KX} (hs : ∀ n ∈ ksl k, nth f.t n = nth t2 n)
    (ht : tight = true → t2 = f.t) (h : wpM G C k slot tight f s K Q) :
    wpM G C k slot tight { f with t := t2 } s (fun v f' s' => f'.t = t2 ∧ K v { f' with t := f.t } s') Q := by
  unfold wpM at h ⊢
  cases hcl : cls k <;> simp only [hcl] at h ⊢
  case p => rw [← evP_congr hs]; revert h; cases evP k f.t with | none => exact id | some v => exact fun h => ⟨trivial, h⟩
  case r => rw [← evR_congr hs]; revert h; cases evR k f.t s.h with | none => exact id | some v => exact fun h => ⟨trivial, h⟩
  case a => rw [← evA_congr hs]; revert h; cases evA k f.t with | none => exact id | some v => exact fun h => ⟨trivial, h⟩
  case w => rw [← evS_congr hs]; revert h; cases evS k f.t s with | none => exact id | some v => exact fun h => ⟨trivial, h⟩
  case c =>
    have hres : ∀ r m s, resK tight f K Q r m s → resK tight { f with t := t2 } (fun v f' s' => f'.t = t2 ∧ K v { f' with t := f.t } s') Q r m s := by
      intro r m s h
      cases r with
      | ret v => exact ⟨rfl, h⟩
      | panic ch => exact ⟨h.1, by rw [ht h.1]; exact h.2⟩
    cases k <;> simp only [wpCtl] at h ⊢ <;> first | exact h.elim | skip
    case call g xs =>
      simp only [ksl, List.mem_append, or_imp, forall_and] at hs
      simp only [← eval_congr hs.1, ← evals_congr hs.2]
      split at h <;> first | exact h.elim | skip
      split at h <;> first | exact h.elim | skip
      split at h
      · split at h <;> first | exact h.elim | exact ⟨trivial, h⟩
      · exact hU _ _ h hres
    case invoke g n xs =>
      simp only [ksl, List.mem_append, or_imp, forall_and] at hs
      simp only [← eval_congr hs.1, ← evals_congr hs.2]
      split at h <;> first | exact h.elim | skip
      split at h <;> first | exact h.elim | skip
      exact hU _ _ h hres
    case defer g xs =>
      simp only [ksl, List.mem_append, or_imp, forall_and] at hs
      simp only [← eval_congr hs.1, ← evals_congr hs.2]
      split at h <;> first | exact h.elim | skip
      split at h <;> first | exact h.elim | skip
      exact ⟨trivial, h⟩
    case recover =>
      split at h <;> first | exact h.elim | skip
      split at h <;> exact ⟨trivial, h⟩
    case panic x =>
      simp only [ksl] at hs
      simp only [← eval_congr hs]
      split at h <;> first | exact h.elim | skip
      exact ⟨h.1, by rw [ht h.1]; exact h.2⟩
    case nextMap x =>
      simp only [ksl] at hs
      simp only [← eval_congr hs]
      split at h <;> first | exact h.elim | skip
      split at h <;> first | exact h.elim | skip
      · exact ⟨trivial, h⟩
      · split at h <;> first | exact h.elim | skip
        exact ⟨h.1, fun e => ⟨trivial, h.2.1 e⟩, fun e he hs => ⟨trivial, h.2.2 e he hs⟩⟩

theorem again_mem : ∀ {l : List (Bool × Option Nat × Option (Nat × Bool) × Nat × MK)} {t : List Value} {c0 : Nat} {h h' : Heap}, again l t c0 h h' →
    ∀ a d g i k, (a, d, g, i, k) ∈ l → wantedM g t = true → if a then h'.get (c0 + i) = h.get (c0 + i) else evR k t h' = evR k t h := by
  intro l
  induction l with
  | nil => intro t c0 h h' _ a d g i k hm; cases hm
  | cons x l ih =>
    intro t c0 h h' hx a d g i k hm hw
    obtain ⟨xa, xd, xg, xi, xk⟩ := x
    simp only [again] at hx
    rcases List.mem_cons.1 hm with e | hm
    · simp only [Prod.mk.injEq] at e
      obtain ⟨rfl, rfl, rfl, rfl, rfl⟩ := e
      exact hx.1 hw
    · exact ih hx.2 a d g i k hm hw
end
end Ev

/- Regions that draw their order: the checks, and what holds on the way. -/
namespace Ev
open Go

abbrev bit (anc : List Nat) (i j : Nat) : Bool := (ancOf anc i).testBit j

structure DrawOk (P : Program) (ops : Array Oper) (ks : List (MK × Option (Nat × Bool))) (anc : List Nat) : Prop where
  hks : ∀ i o, ops[i]? = some o → ∃ k g, nth ks i = some (k, g) ∧ cOp P o = some k ∧ guardOf ops o = some g
  hanc : ∀ i o j, ops[i]? = some o → bit anc i j = true → ∃ e ∈ directs o, e = j ∨ bit anc e j = true
  slots : ∀ i j d, i < ops.size → j < ops.size → i ≠ j → dstOf ops i = some d →
    dstOf ops j ≠ some d ∧ ∀ kg, nth ks j = some kg → d ∈ slotsK kg → bit anc j i = true ∨ bit anc i j = true

theorem cKinds_nth {P : Program} {ops : Array Oper} : ∀ {os : List Oper} {ks : List (MK × Option (Nat × Bool))}, cKinds P ops os = some ks → ∀ i o, os[i]? = some o →
    ∃ k g, nth ks i = some (k, g) ∧ cOp P o = some k ∧ guardOf ops o = some g := by
  intro os
  induction os with
  | nil => intro ks _ i o h; simp at h
  | cons x os ih =>
    intro ks hk i o h
    simp only [cKinds] at hk
    split at hk <;> first | (simp at hk; done) | skip
    rename_i k g l h1 h2 h3
    simp only [Option.some.injEq] at hk; subst hk
    cases i with
    | zero => simp at h; subst h; exact ⟨k, g, rfl, h1, h2⟩
    | succ i => exact ih h3 i o (by simpa using h)

theorem drawOk {P : Program} {ops : Array Oper} {ks : List (MK × Option (Nat × Bool))} {anc : List Nat} (hk : cKinds P ops ops.toList = some ks) (h1 : okAnc ops anc = true)
    (h2 : okSlots ops ks anc = true) (h3 : okBits ops anc = true) : DrawOk P ops ks anc where
  hks := fun i o h => cKinds_nth hk i o (by simpa using h)
  hanc := fun i o j ho hb => by
    have hi : i < ops.size := (Array.getElem?_eq_some_iff.1 ho).1
    have hj : j < ops.size := by
      simp only [okBits, List.all_eq_true, List.mem_range, decide_eq_true_eq] at h3
      have h := h3 i hi
      rcases Nat.lt_or_ge j ops.size with h' | h'
      · exact h'
      · have := Nat.testBit_lt_two_pow (Nat.lt_of_lt_of_le h (Nat.pow_le_pow_right (by decide) h'))
        rw [show bit anc i j = false from this] at hb; cases hb
    simp only [okAnc, List.all_eq_true, Prod.forall] at h1
    have h := h1 o i (by rw [List.mem_zipIdx_iff_getElem?]; simpa using ho) j (List.mem_range.2 hj)
    rw [show (ancOf anc i).testBit j = true from hb] at h
    simp only [Bool.not_true, Bool.false_or, List.any_eq_true, Bool.or_eq_true, beq_iff_eq] at h
    exact h
  slots := fun i j d hi hj hne hd => by
    simp only [okSlots, List.all_eq_true, List.mem_range] at h2
    have h := h2 i hi
    rw [hd] at h
    simp only [List.all_eq_true, List.mem_range] at h
    have h := h j hj
    simp only [Bool.or_eq_true, Bool.and_eq_true, beq_iff_eq, bne_iff_ne] at h
    rcases h with h | ⟨h, h'⟩
    · exact absurd h hne
    · refine ⟨h, fun kg hkg hmem => ?_⟩
      rw [hkg] at h'
      simp only [Bool.or_eq_true, Bool.not_eq_true', List.contains_eq_mem, decide_eq_false_iff_not] at h'
      rcases h' with (h' | h') | h'
      · exact absurd hmem h'
      · exact .inl h'
      · exact .inr h'

theorem okOrder_cons {ops : Array Oper} {ks : List (MK × Option (Nat × Bool))} {anc pre rest : List Nat} {i : Nat} (h : okOrder ops ks anc pre (i :: rest) = true) :
    ∃ o k g, ops[i]? = some o ∧ nth ks i = some (k, g) ∧ i ∉ pre ∧ (∀ e ∈ directs o, e ∈ pre) ∧
      (∀ j ∈ pre, (∃ kj gj, nth ks j = some (kj, gj) ∧ actor kj = false) ∨ bit anc i j = true) ∧
      (actor k = true → okPend ops ks anc (ancOf anc i) pre = true) ∧ okOrder ops ks anc (i :: pre) rest = true := by
  simp only [okOrder, Bool.and_eq_true] at h
  obtain ⟨h, hr⟩ := h
  split at h <;> first | (simp at h; done) | skip
  rename_i o k g ho hk
  simp only [Bool.and_eq_true, Bool.not_eq_true', Bool.or_eq_true, List.all_eq_true] at h
  obtain ⟨⟨⟨h1, h2⟩, h3⟩, h4⟩ := h
  refine ⟨o, k, g, ho, hk, by simpa using h1, fun e he => by simpa using h2 e he, fun j hj => ?_, fun ha => ?_, hr⟩
  · rcases h3 j hj with h | h
    · left
      split at h <;> first | (simp at h; done) | skip
      rename_i kj gj hkj
      exact ⟨kj, gj, hkj, by simpa using h⟩
    · exact .inr h
  · rcases h4 with h | h
    · rw [ha] at h; cases h
    · exact h

/-- What comes later stands behind every actor that has come up. -/
theorem okOrder_later {ops : Array Oper} {ks : List (MK × Option (Nat × Bool))} {anc : List Nat} : ∀ {rest pre : List Nat}, okOrder ops ks anc pre rest = true →
    ∀ i ∈ rest, i ∉ pre ∧ ∀ j ∈ pre, (∃ kj gj, nth ks j = some (kj, gj) ∧ actor kj = false) ∨ bit anc i j = true := by
  intro rest
  induction rest with
  | nil => intro pre _ i hi; cases hi
  | cons x rest ih =>
    intro pre h i hi
    obtain ⟨o, k, g, h1, h2, h3, h4, h5, h6, h7⟩ := okOrder_cons h
    rcases List.mem_cons.1 hi with e | hi
    · subst e; exact ⟨h3, h5⟩
    · have := ih h7 i hi
      exact ⟨fun hp => this.1 (List.mem_cons_of_mem _ hp), fun j hj => this.2 j (List.mem_cons_of_mem _ hj)⟩

/-- Every operation behind those that it waits for. -/
def TopOk (ops : Array Oper) : List Nat → Prop
  | [] => True
  | i :: l => (∃ o, ops[i]? = some o ∧ ∀ e ∈ directs o, e ∈ l) ∧ TopOk ops l

theorem TopOk.first {ops : Array Oper} {L : List Nat} : ∀ {l : List Nat}, TopOk ops l → (∃ i ∈ l, i ∉ L) → ∃ i o, i ∉ L ∧ ops[i]? = some o ∧ ∀ e ∈ directs o, e ∈ L := by
  intro l
  induction l with
  | nil => rintro _ ⟨i, h, _⟩; cases h
  | cons x l ih =>
    rintro ⟨⟨o, ho, hd⟩, ht⟩ ⟨i, hi, hn⟩
    by_cases hx : ∃ j ∈ l, j ∉ L
    · exact ih ht hx
    · have hall : ∀ j ∈ l, j ∈ L := fun j hj => Classical.byContradiction fun h => hx ⟨j, hj, h⟩
      rcases List.mem_cons.1 hi with e | hi
      · subst e; exact ⟨i, o, hn, ho, fun e he => hall e (hd e he)⟩
      · exact absurd (hall i hi) hn

theorem TopOk.order {ops : Array Oper} {ks : List (MK × Option (Nat × Bool))} {anc : List Nat} : ∀ {rest pre : List Nat}, okOrder ops ks anc pre rest = true → TopOk ops pre → TopOk ops (rest.reverse ++ pre) := by
  intro rest
  induction rest with
  | nil => intro pre _ h; exact h
  | cons x rest ih =>
    intro pre h ht
    obtain ⟨o, k, g, h1, h2, h3, h4, h5, h6, h7⟩ := okOrder_cons h
    have := ih h7 ⟨⟨o, h1, h4⟩, ht⟩
    simpa using this

/-- An operation that has come up here, and not in the machine. -/
def Pend (ops : Array Oper) (ks : List (MK × Option (Nat × Bool))) (anc : List Nat) (c0 : Nat) (e0 ft : List Value) (h : Heap) (i : Nat) : Prop :=
  ∃ k g e v, nth ks i = some (k, g) ∧ actor k = false ∧
    (∀ n ∈ slotsK (k, g), (∀ j, dstOf ops j = some n → bit anc i j = true → nth e n = nth ft n) ∧ ((∀ j, dstOf ops j = some n → bit anc i j = false) → nth e n = nth e0 n)) ∧
    (∀ n, dstOf ops i = some n → n < ft.length → nth ft n = some v) ∧
    (wantedM g e = true → match cls k with
      | .p => evP k e = some v
      | .r => evR k e h = some v
      | .a => ∃ o gg, evA k e = some (o, gg) ∧ h.get (c0 + i) = some o ∧ v = gg (c0 + i)
      | _ => False) ∧
    (wantedM g e = false → v = undef)

structure Inv (ops : Array Oper) (ks : List (MK × Option (Nat × Bool))) (anc : List Nat) (c0 : Nat) (e0 : List Value) (pre L : List Nat) (ft EL : List Value) (s : S) (ρ : Rho) : Prop where
  preC : ∀ i ∈ pre, ∀ j, bit anc i j = true → j ∈ pre
  LC : ∀ i ∈ L, ∀ j, bit anc i j = true → j ∈ L
  Lpre : ∀ i ∈ L, i ∈ pre
  preLt : ∀ i ∈ pre, i < ops.size
  pend : ∀ i ∈ pre, i ∉ L → Pend ops ks anc c0 e0 ft s.h i
  hft : ft.length = e0.length
  hel : EL.length = e0.length
  ft0 : ∀ n, (∀ j ∈ pre, dstOf ops j ≠ some n) → nth ft n = nth e0 n
  elL : ∀ n, ∀ j ∈ L, dstOf ops j = some n → nth EL n = nth ft n
  el0 : ∀ n, (∀ j ∈ L, dstOf ops j ≠ some n) → nth EL n = nth e0 n
  c : c0 + ops.size ≤ s.c
  un : ∀ i, i < ops.size → i ∉ pre → s.h.get (c0 + i) = none
  rho : ∀ i, i < ops.size → i ∉ L → ρ (c0 + i) = none

section
variable {P : Program} {G : Pg} {C : CA → Prop} {ops : Array Oper} {ks : List (MK × Option (Nat × Bool))} {anc : List Nat} {c0 : Nat} {e0 : List Value} {pre rest L : List Nat} {ft EL : List Value}
  {s : S} {ρ : Rho}

theorem ancs_of {X : List Nat} (hO : DrawOk P ops ks anc) (hX : ∀ i ∈ X, ∀ j, bit anc i j = true → j ∈ X) {i : Nat} {o : Oper} (ho : ops[i]? = some o) (hd : ∀ e ∈ directs o, e ∈ X) :
    ∀ j, bit anc i j = true → j ∈ X := by
  intro j hj
  obtain ⟨e, he, h⟩ := hO.hanc i o j ho hj
  rcases h with rfl | h
  · exact hd _ he
  · exact hX e (hd e he) j h

theorem dst_lt {j n : Nat} (h : dstOf ops j = some n) : j < ops.size := by
  unfold dstOf at h
  cases ho : ops[j]? with
  | none => rw [ho] at h; simp at h
  | some o => exact (Array.getElem?_eq_some_iff.1 ho).1

/-- What stands ready and has not come up sees the same slots here and there. -/
theorem Inv.agree_new (hO : DrawOk P ops ks anc) (hI : Inv ops ks anc c0 e0 pre L ft EL s ρ) {i : Nat} {kg : MK × Option (Nat × Bool)} (hk : nth ks i = some kg) (hlt : i < ops.size)
    (hi : i ∉ pre) (ha : ∀ j, bit anc i j = true → j ∈ L) : ∀ n ∈ slotsK kg, nth ft n = nth EL n := by
  intro n hn
  by_cases hw : ∃ j ∈ pre, dstOf ops j = some n
  · obtain ⟨j, hj, hd⟩ := hw
    rcases (hO.slots j i n (hI.preLt j hj) hlt (fun e => hi (e ▸ hj)) hd).2 kg hk hn with h | h
    · exact (hI.elL n j (ha j h) hd).symm
    · exact absurd (hI.preC j hj i h) hi
  · have h0 : ∀ j ∈ pre, dstOf ops j ≠ some n := fun j hj h => hw ⟨j, hj, h⟩
    rw [hI.ft0 n h0, hI.el0 n fun j hj => h0 j (hI.Lpre j hj)]

/-- One step of the plan: an operation that does not act. -/
theorem Inv.pend_new (hO : DrawOk P ops ks anc) (hI : Inv ops ks anc c0 e0 pre L ft EL s ρ) {i : Nat} {k : MK} {g : Option (Nat × Bool)} {o : Oper} (ho : ops[i]? = some o)
    (hk : nth ks i = some (k, g)) (hi : i ∉ pre) (ha : ∀ j, bit anc i j = true → j ∈ pre) :
    ∀ n ∈ slotsK (k, g), (∀ j, dstOf ops j = some n → bit anc i j = true → nth ft n = nth ft n) ∧ ((∀ j, dstOf ops j = some n → bit anc i j = false) → nth ft n = nth e0 n) := by
  intro n hn
  refine ⟨fun _ _ _ => rfl, fun h => hI.ft0 n fun j hj hd => ?_⟩
  have hlt : i < ops.size := (Array.getElem?_eq_some_iff.1 ho).1
  rcases (hO.slots j i n (hI.preLt j hj) hlt (fun e => hi (e ▸ hj)) hd).2 _ hk hn with h' | h'
  · rw [h j hd] at h'; cases h'
  · exact hi (hI.preC j hj i h')

/-- A pending operation and the machine's frame. -/
theorem Inv.agree_pend (hO : DrawOk P ops ks anc) (hI : Inv ops ks anc c0 e0 pre L ft EL s ρ) {i : Nat} {kg : MK × Option (Nat × Bool)} {e : List Value} (hk : nth ks i = some kg) (hlt : i < ops.size)
    (hi : i ∉ L) (ha : ∀ j, bit anc i j = true → j ∈ L)
    (he : ∀ n ∈ slotsK kg, (∀ j, dstOf ops j = some n → bit anc i j = true → nth e n = nth ft n) ∧ ((∀ j, dstOf ops j = some n → bit anc i j = false) → nth e n = nth e0 n)) :
    ∀ n ∈ slotsK kg, nth e n = nth EL n := by
  intro n hn
  obtain ⟨h1, h2⟩ := he n hn
  by_cases hw : ∃ j, dstOf ops j = some n ∧ bit anc i j = true
  · obtain ⟨j, hd, hb⟩ := hw
    rw [h1 j hd hb, hI.elL n j (ha j hb) hd]
  · have h0 : ∀ j, dstOf ops j = some n → bit anc i j = false := fun j hd => by
      cases hb : bit anc i j with
      | false => rfl
      | true => exact absurd ⟨j, hd, hb⟩ hw
    rw [h2 h0, hI.el0 n fun j hj hd => ?_]
    rcases (hO.slots j i n (hI.preLt j (hI.Lpre j hj)) hlt (fun e => hi (e ▸ hj)) hd).2 _ hk hn with h' | h'
    · rw [h0 j hd] at h'; cases h'
    · exact hi (hI.LC j hj i h')

/-- What is pending stays so, when another operation comes up. -/
theorem Pend.keep (hO : DrawOk P ops ks anc) {h h' : Heap} {i a : Nat} {v : Value} (hp : Pend ops ks anc c0 e0 ft h i) (hlt : i < ops.size) (halt : a < ops.size) (hne : a ≠ i) (hna : bit anc i a = false)
    (hr : ∀ k g e v, nth ks i = some (k, g) → cls k = .r →
      (∀ n ∈ slotsK (k, g), (∀ j, dstOf ops j = some n → bit anc i j = true → nth e n = nth ft n) ∧ ((∀ j, dstOf ops j = some n → bit anc i j = false) → nth e n = nth e0 n)) →
      wantedM g e = true → evR k e h = some v → evR k e h' = some v)
    (hh : ∀ k g e o, nth ks i = some (k, g) → cls k = .a →
      (∀ n ∈ slotsK (k, g), (∀ j, dstOf ops j = some n → bit anc i j = true → nth e n = nth ft n) ∧ ((∀ j, dstOf ops j = some n → bit anc i j = false) → nth e n = nth e0 n)) →
      wantedM g e = true → h.get (c0 + i) = some o → h'.get (c0 + i) = some o) :
    Pend ops ks anc c0 e0 (putL ft (dstOf ops a) v) h' i := by
  obtain ⟨k, g, e, u, h1, h2, h3, h4, h5, h6⟩ := hp
  refine ⟨k, g, e, u, h1, h2, fun n hn => ⟨fun j hd hb => ?_, (h3 n hn).2⟩, fun n hd hl => ?_, fun hw => ?_, h6⟩
  · rw [nth_putL_ne fun ha => ?_]
    · exact (h3 n hn).1 j hd hb
    · exact (hO.slots a j n halt (dst_lt hd) (fun e => by subst e; rw [hna] at hb; cases hb) ha).1 hd
  · rw [nth_putL_ne fun ha => (hO.slots a i n halt hlt hne ha).1 hd]
    rw [length_putL] at hl
    exact h4 n hd hl
  · have := h5 hw
    cases hc : cls k <;> simp only [hc] at this ⊢
    · exact this
    · exact hr k g e u h1 hc h3 hw this
    · obtain ⟨o, gg, q1, q2, q3⟩ := this
      exact ⟨o, gg, q1, hh k g e o h1 hc h3 hw q2, q3⟩
end
end Ev

/- Regions that draw their order: the plan goes ahead of the machine. -/
namespace Ev
open Go

section
variable {P : Program} {ρ : Rho} {s : S} {w : World}
theorem rel_ghost (hR : Rel P ρ s w) {i : Nat} (hi : ρ i = none) (hc : i < s.c) (o : AObj) : Rel P ρ { s with h := s.h.set i (some o) } w where
  obj := fun j o1 b r h1 h2 => by
    simp only [Tr.get_set] at h1
    rw [if_neg (fun e => by subst e; rw [hi] at h2; cases h2)] at h1
    exact hR.obj j o1 b r h1 h2
  inj := fun j k o1 o2 b r1 r2 h1 h2 h3 h4 => by
    simp only [Tr.get_set] at h1 h2
    rw [if_neg (fun e => by subst e; rw [hi] at h3; cases h3)] at h1
    rw [if_neg (fun e => by subst e; rw [hi] at h4; cases h4)] at h2
    exact hR.inj j k o1 o2 b r1 r2 h1 h2 h3 h4
  fresh := hR.fresh
  blk := hR.blk
  wf := fun j hj => by
    simp only at hj
    simp only [Tr.get_set]
    rw [if_neg (by omega)]
    exact hR.wf j hj

theorem ext_ghost {N : Nat → Prop} {i : Nat} (hi : ρ i = none) (hN : N i) (o : AObj) : Ext N ρ s w ρ { s with h := s.h.set i (some o) } w where
  sub := Sub.refl _
  new := fun j h1 h2 => absurd h1 h2
  dead := fun j _ h2 h3 => by
    simp only [Tr.get_set]
    rw [if_neg (fun e => by subst e; exact h2 hN)]; exact h3
  cle := Nat.le_refl _
  size := Nat.le_refl _
  frame := fun _ _ _ => rfl
  img := fun j o1 b r h1 h2 _ => by
    simp only [Tr.get_set] at h1
    rw [if_neg (fun e => by subst e; rw [hi] at h2; cases h2)] at h1
    exact ⟨j, o1, r, h1, h2, id⟩
  tape := rfl
  os := rfl
  output := rfl
  keep := Keep.refl w

/-- The same heap, in another form. -/
theorem rel_same {s' : S} (hR : Rel P ρ s w) (hc : s'.c = s.c) (hh : ∀ i, s'.h.get i = s.h.get i) : Rel P ρ s' w where
  obj := fun j o b r h1 h2 => hR.obj j o b r (by rw [← hh]; exact h1) h2
  inj := fun j k o1 o2 b r1 r2 h1 h2 => hR.inj j k o1 o2 b r1 r2 (by rw [← hh]; exact h1) (by rw [← hh]; exact h2)
  fresh := fun i hi => hR.fresh i (by rw [← hc]; exact hi)
  blk := hR.blk
  wf := fun i hi => by rw [hh]; exact hR.wf i (by rw [← hc]; exact hi)

theorem ext_same {N : Nat → Prop} {ρ0 : Rho} {s0 s' : S} {w0 : World} (hE : Ext N ρ0 s0 w0 ρ s w) (hc : s'.c = s.c) (hh : ∀ i, s'.h.get i = s.h.get i) : Ext N ρ0 s0 w0 ρ s' w where
  sub := hE.sub
  new := fun i h1 h2 => by rw [hc]; exact hE.new i h1 h2
  dead := fun i h1 h2 h3 => by rw [hh]; exact hE.dead i h1 h2 h3
  cle := by rw [hc]; exact hE.cle
  size := hE.size
  frame := hE.frame
  img := fun i o b r h1 h2 h3 => hE.img i o b r (by rw [← hh]; exact h1) h2 h3
  tape := hE.tape
  os := hE.os
  output := hE.output
  keep := hE.keep

theorem Ext.weak {N N' : Nat → Prop} {ρ' : Rho} {s' : S} {w' : World} (hE : Ext N ρ s w ρ' s' w') (h : ∀ i, N i → N' i ∨ s.c ≤ i) : Ext N' ρ s w ρ' s' w' where
  sub := hE.sub
  new := fun i h1 h2 => by
    have := hE.new i h1 h2
    exact ⟨this.1.elim (h i) .inr, this.2⟩
  dead := fun i h1 h2 h3 => hE.dead i h1 (fun h4 => (h i h4).elim h2 (fun h5 => by omega)) h3
  cle := hE.cle
  size := hE.size
  frame := hE.frame
  img := hE.img
  tape := hE.tape
  os := hE.os
  output := hE.output
  keep := hE.keep
end

section
variable {P : Program} {G : Pg} {C : CA → Prop} {ops : Array Oper} {ks : List (MK × Option (Nat × Bool))} {anc : List Nat} {c0 : Nat} {e0 : List Value} {pre rest L : List Nat} {ft EL : List Value}
  {s : S} {ρ : Rho} {w : World} {Q : KX}

/-- An operation that does not act has come up in the plan. -/
theorem Inv.push (hO : DrawOk P ops ks anc) (hI : Inv ops ks anc c0 e0 pre L ft EL s ρ) {i : Nat} {k : MK} {g : Option (Nat × Bool)} {o : Oper} {v : Value} {s' : S} (ho : ops[i]? = some o)
    (hk : nth ks i = some (k, g)) (hi : i ∉ pre) (hd : ∀ e ∈ directs o, e ∈ pre) (hna : actor k = false) (hc : s'.c = s.c) (hm : ∀ j x, s.h.get j = some x → s'.h.get j = some x)
    (hne : ∀ j, j ≠ c0 + i → s'.h.get j = s.h.get j)
    (hw : wantedM g ft = true → match cls k with
      | .p => evP k ft = some v
      | .r => evR k ft s'.h = some v
      | .a => ∃ o gg, evA k ft = some (o, gg) ∧ s'.h.get (c0 + i) = some o ∧ v = gg (c0 + i)
      | _ => False) (hu : wantedM g ft = false → v = undef) :
    Inv ops ks anc c0 e0 (i :: pre) L (putL ft (dstOf ops i) v) EL s' ρ := by
  have hlt : i < ops.size := (Array.getElem?_eq_some_iff.1 ho).1
  have ha := ancs_of hO hI.preC ho hd
  have hdst : ∀ j ∈ pre, ∀ n, dstOf ops j = some n → dstOf ops i ≠ some n := fun j hj n h h' =>
    (hO.slots i j n hlt (dst_lt h) (fun e => hi (e ▸ hj)) h').1 h
  refine ⟨?_, hI.LC, fun j hj => List.mem_cons_of_mem _ (hI.Lpre j hj), ?_, ?_, by rw [length_putL]; exact hI.hft, hI.hel, ?_, ?_, hI.el0, by rw [hc]; exact hI.c, ?_, hI.rho⟩
  · intro j hj x hx
    rcases List.mem_cons.1 hj with rfl | hj
    · exact List.mem_cons_of_mem _ (ha x hx)
    · exact List.mem_cons_of_mem _ (hI.preC j hj x hx)
  · intro j hj
    rcases List.mem_cons.1 hj with rfl | hj
    · exact hlt
    · exact hI.preLt j hj
  · intro j hj hjL
    rcases List.mem_cons.1 hj with rfl | hj
    · refine ⟨k, g, ft, v, hk, hna, fun n hn => ⟨fun x hx hb => ?_, ((hI.pend_new hO ho hk hi ha) n hn).2⟩, fun n hn hl => ?_, hw, hu⟩
      · rw [nth_putL_ne (hdst x (ha x hb) n hx)]
      · rw [hn]; rw [length_putL] at hl; exact nth_putL_same hl
    · refine (hI.pend j hj hjL).keep hO (hI.preLt j hj) hlt (fun e => hi (e ▸ hj)) ?_ (fun k g e v _ _ _ _ h => evR_mono hm h) (fun k g e o _ _ _ _ h => hm _ _ h)
      cases hb : bit anc j i with
      | false => rfl
      | true => exact absurd (hI.preC j hj i hb) hi
  · intro n h
    rw [nth_putL_ne (h i (List.mem_cons_self ..))]
    exact hI.ft0 n fun j hj => h j (List.mem_cons_of_mem _ hj)
  · intro n j hj hn
    rw [nth_putL_ne (hdst j (hI.Lpre j hj) n hn)]
    exact hI.elL n j hj hn
  · intro j hj hjp
    simp only [List.mem_cons, not_or] at hjp
    rw [hne _ (by omega)]
    exact hI.un j hj hjp.2

theorem advance1 (hO : DrawOk P ops ks anc) {i : Nat} {f : F} (hI : Inv ops ks anc c0 e0 pre L f.t EL s ρ) {k : MK} {g : Option (Nat × Bool)} (hok : okOrder ops ks anc pre (i :: rest) = true)
    (hk : nth ks i = some (k, g)) (hna : actor k = false) (h : wpOps G C c0 Q (drawMOs ops ks anc pre (i :: rest)) f s) (hR : Rel P ρ s w) :
    ∃ ft' s', wpOps G C c0 Q (drawMOs ops ks anc (i :: pre) rest) { f with t := ft' } s' ∧ Inv ops ks anc c0 e0 (i :: pre) L ft' EL s' ρ ∧ Rel P ρ s' w ∧
      Ext (fun i => c0 ≤ i ∧ i < c0 + ops.size) ρ s w ρ s' w := by
  obtain ⟨o, k', g', ho, hk', hi, hd, _, _, _⟩ := okOrder_cons hok
  rw [hk] at hk'
  simp only [Option.some.injEq, Prod.mk.injEq] at hk'
  obtain ⟨rfl, rfl⟩ := hk'
  have hlt : i < ops.size := (Array.getElem?_eq_some_iff.1 ho).1
  have hiL : i ∉ L := fun hh => hi (hI.Lpre i hh)
  simp only [drawMOs, hk, hna] at h
  simp only [wpOps] at h
  cases hw : wantedM g f.t with
  | false =>
    simp only [hw, F.put_eq] at h
    exact ⟨_, s, h, hI.push hO ho hk hi hd hna rfl (fun _ _ h => h) (fun _ _ => rfl) (fun h => by rw [hw] at h; cases h) (fun _ => rfl), hR, Ext.refl _ _ _ _⟩
  | true =>
    simp only [hw] at h
    unfold wpM at h
    cases hcl : cls k <;> simp only [hcl] at h
    case p =>
      split at h <;> first | exact h.elim | skip
      rename_i v hv
      rw [F.put_eq] at h
      exact ⟨_, s, h.2, hI.push hO ho hk hi hd hna rfl (fun _ _ h => h) (fun _ _ => rfl) (fun _ => by simp only [hcl]; exact hv) (fun h => by rw [hw] at h; cases h), hR, Ext.refl _ _ _ _⟩
    case r =>
      split at h <;> first | exact h.elim | skip
      rename_i v hv
      rw [F.put_eq] at h
      exact ⟨_, s, h.2, hI.push hO ho hk hi hd hna rfl (fun _ _ h => h) (fun _ _ => rfl) (fun _ => by simp only [hcl]; exact hv) (fun h => by rw [hw] at h; cases h), hR, Ext.refl _ _ _ _⟩
    case a =>
      split at h <;> first | exact h.elim | skip
      rename_i ob gg hv
      rw [F.put_eq] at h
      have hr := hI.rho i hlt hiL
      have hc := hI.c
      have hun := hI.un i hlt hi
      refine ⟨_, _, h.2, hI.push hO ho hk hi hd hna rfl (fun j x hx => ?_) (fun j hj => by simp only [Tr.get_set]; rw [if_neg hj]) (fun _ => ?_) (fun h => by rw [hw] at h; cases h),
        rel_ghost hR hr (by omega) ob, ext_ghost hr (by omega) ob⟩
      · simp only [Tr.get_set]
        rw [if_neg (fun e => by subst e; rw [hun] at hx; cases hx)]; exact hx
      · simp only [hcl]
        exact ⟨ob, gg, hv, by simp only [Tr.get_set, if_pos], rfl⟩
    all_goals (unfold actor at hna; rw [hcl] at hna; cases hna)

/-- The plan goes on, until an operation that stands ready has come up, or is an actor at its head. -/
theorem advance (hO : DrawOk P ops ks anc) {i : Nat} (ha : ∀ j, bit anc i j = true → j ∈ L) : ∀ (rest pre : List Nat) (f : F) (s : S), Inv ops ks anc c0 e0 pre L f.t EL s ρ →
    okOrder ops ks anc pre rest = true → i ∈ rest → wpOps G C c0 Q (drawMOs ops ks anc pre rest) f s → Rel P ρ s w →
    ∃ pre' rest' ft' s', wpOps G C c0 Q (drawMOs ops ks anc pre' rest') { f with t := ft' } s' ∧ Inv ops ks anc c0 e0 pre' L ft' EL s' ρ ∧ Rel P ρ s' w ∧
      Ext (fun i => c0 ≤ i ∧ i < c0 + ops.size) ρ s w ρ s' w ∧ okOrder ops ks anc pre' rest' = true ∧ (∀ j, j ∈ pre ∨ j ∈ rest → j ∈ pre' ∨ j ∈ rest') ∧
      (i ∈ pre' ∨ ∃ rest'' k g, rest' = i :: rest'' ∧ nth ks i = some (k, g) ∧ actor k = true) := by
  intro rest
  induction rest with
  | nil => intro pre f s _ _ hi; cases hi
  | cons x rest ih =>
    intro pre f s hI hok hi h hR
    obtain ⟨o, k, g, ho, hk, hx, hd, hact, _, hok'⟩ := okOrder_cons hok
    cases hna : actor k with
    | true =>
      have hix : i = x := by
        rcases List.mem_cons.1 hi with e | hi
        · exact e
        · exfalso
          rcases (okOrder_later hok' i hi).2 x (List.mem_cons_self ..) with ⟨kj, gj, h1, h2⟩ | hb
          · rw [hk] at h1
            simp only [Option.some.injEq, Prod.mk.injEq] at h1
            rw [← h1.1, hna] at h2; cases h2
          · exact hx (hI.Lpre x (ha x hb))
      subst hix
      exact ⟨pre, i :: rest, f.t, s, h, hI, hR, Ext.refl _ _ _ _, hok, fun _ h => h, .inr ⟨rest, k, g, rfl, hk, hna⟩⟩
    | false =>
      obtain ⟨ft', s', h1, h2, h3, h4⟩ := advance1 hO hI hok hk hna h hR
      rcases List.mem_cons.1 hi with e | hi
      · subst e
        exact ⟨i :: pre, rest, ft', s', h1, h2, h3, h4, hok', fun j hj => by
          rcases hj with hj | hj
          · exact .inl (List.mem_cons_of_mem _ hj)
          · rcases List.mem_cons.1 hj with e | hj
            · exact .inl (e ▸ List.mem_cons_self ..)
            · exact .inr hj, .inl (List.mem_cons_self ..)⟩
      · obtain ⟨pre', rest', ft2, s2, q1, q2, q3, q4, q5, q6, q7⟩ := ih (x :: pre) { f with t := ft' } s' h2 hok' hi h1 h3
        refine ⟨pre', rest', ft2, s2, q1, q2, q3, h4.trans q4 (fun _ h => .inl h), q5, fun j hj => q6 j ?_, q7⟩
        rcases hj with hj | hj
        · exact .inl (List.mem_cons_of_mem _ hj)
        · rcases List.mem_cons.1 hj with e | hj
          · exact .inl (e ▸ List.mem_cons_self ..)
          · exact .inr hj
end
end Ev

/- Regions that draw their order: one step of the machine. -/
namespace Ev
open Go

section
variable {P : Program} {G : Pg} {C : CA → Prop} {ops : Array Oper} {ks : List (MK × Option (Nat × Bool))} {anc : List Nat} {c0 : Nat} {e0 : List Value} {pre rest L : List Nat} {ft EL : List Value}
  {s : S} {ρ : Rho} {w : World} {Q : KX}

/-- A pending operation has come up in the machine. -/
theorem Inv.exec (hO : DrawOk P ops ks anc) (hI : Inv ops ks anc c0 e0 pre L ft EL s ρ) {i : Nat} {v : Value} {ρ' : Rho} (hi : i ∈ pre) (hiL : i ∉ L) (ha : ∀ j, bit anc i j = true → j ∈ L)
    (hv : ∀ n, dstOf ops i = some n → n < ft.length → nth ft n = some v) (hr : ∀ j, j < ops.size → j ∉ i :: L → ρ' (c0 + j) = none) :
    Inv ops ks anc c0 e0 pre (i :: L) ft (putL EL (dstOf ops i) v) s ρ' := by
  refine ⟨hI.preC, fun j hj x hx => ?_, fun j hj => ?_, hI.preLt, fun j hj hn => hI.pend j hj (fun h => hn (List.mem_cons_of_mem _ h)), hI.hft, by rw [length_putL]; exact hI.hel, hI.ft0, ?_, ?_, hI.c, hI.un, hr⟩
  · rcases List.mem_cons.1 hj with rfl | hj
    · exact List.mem_cons_of_mem _ (ha x hx)
    · exact List.mem_cons_of_mem _ (hI.LC j hj x hx)
  · rcases List.mem_cons.1 hj with rfl | hj
    · exact hi
    · exact hI.Lpre j hj
  · intro n j hj hn
    rcases List.mem_cons.1 hj with rfl | hj
    · rw [hn]
      rcases Nat.lt_or_ge n EL.length with hl | hl
      · rw [nth_putL_same hl, hv n hn (by rw [hI.hft, ← hI.hel]; exact hl)]
      · rw [nth_ge (by rw [length_putL]; exact hl), nth_ge (by rw [hI.hft, ← hI.hel]; exact hl)]
    · rw [nth_putL_ne fun h => (hO.slots i j n (hI.preLt i hi) (dst_lt hn) (fun e => hiL (e ▸ hj)) h).1 hn]
      exact hI.elL n j hj hn
  · intro n h
    rw [nth_putL_ne (h i (List.mem_cons_self ..))]
    exact hI.el0 n fun j hj => h j (List.mem_cons_of_mem _ hj)

/-- An actor has come up, here and in the machine. -/
theorem Inv.act (hO : DrawOk P ops ks anc) (hI : Inv ops ks anc c0 e0 pre L ft EL s ρ) {i : Nat} {o : Oper} {v : Value} {ρ' : Rho} {s' : S} (ho : ops[i]? = some o) (hi : i ∉ pre)
    (hd : ∀ e ∈ directs o, e ∈ pre) (ha : ∀ j, bit anc i j = true → j ∈ L) (hc : s.c ≤ s'.c) (hun : ∀ j, j < ops.size → j ∉ pre → s'.h.get (c0 + j) = none)
    (hr : ∀ j, j < ops.size → j ∉ L → ρ' (c0 + j) = none) (hp : ∀ j ∈ pre, j ∉ L → Pend ops ks anc c0 e0 (putL ft (dstOf ops i) v) s'.h j) :
    Inv ops ks anc c0 e0 (i :: pre) (i :: L) (putL ft (dstOf ops i) v) (putL EL (dstOf ops i) v) s' ρ' := by
  have hlt : i < ops.size := (Array.getElem?_eq_some_iff.1 ho).1
  have hap := ancs_of hO hI.preC ho hd
  have hdst : ∀ j ∈ pre, ∀ n, dstOf ops j = some n → dstOf ops i ≠ some n := fun j hj n h h' =>
    (hO.slots i j n hlt (dst_lt h) (fun e => hi (e ▸ hj)) h').1 h
  refine ⟨?_, ?_, ?_, ?_, ?_, by rw [length_putL]; exact hI.hft, by rw [length_putL]; exact hI.hel, ?_, ?_, ?_, Nat.le_trans hI.c hc,
    fun j hj hn => hun j hj (fun h => hn (List.mem_cons_of_mem _ h)), fun j hj hn => hr j hj (fun h => hn (List.mem_cons_of_mem _ h))⟩
  · intro j hj x hx
    rcases List.mem_cons.1 hj with rfl | hj
    · exact List.mem_cons_of_mem _ (hap x hx)
    · exact List.mem_cons_of_mem _ (hI.preC j hj x hx)
  · intro j hj x hx
    rcases List.mem_cons.1 hj with rfl | hj
    · exact List.mem_cons_of_mem _ (ha x hx)
    · exact List.mem_cons_of_mem _ (hI.LC j hj x hx)
  · intro j hj
    rcases List.mem_cons.1 hj with rfl | hj
    · exact List.mem_cons_self ..
    · exact List.mem_cons_of_mem _ (hI.Lpre j hj)
  · intro j hj
    rcases List.mem_cons.1 hj with rfl | hj
    · exact hlt
    · exact hI.preLt j hj
  · intro j hj hn
    simp only [List.mem_cons, not_or] at hn
    rcases List.mem_cons.1 hj with e | hj
    · exact absurd e hn.1
    · exact hp j hj hn.2
  · intro n h
    rw [nth_putL_ne (h i (List.mem_cons_self ..))]
    exact hI.ft0 n fun j hj => h j (List.mem_cons_of_mem _ hj)
  · intro n j hj hn
    rcases List.mem_cons.1 hj with rfl | hj
    · rw [hn]
      rcases Nat.lt_or_ge n EL.length with hl | hl
      · rw [nth_putL_same hl, nth_putL_same (by rw [hI.hft, ← hI.hel]; exact hl)]
      · rw [nth_ge (by rw [length_putL]; exact hl), nth_ge (by rw [length_putL, hI.hft, ← hI.hel]; exact hl)]
    · rw [nth_putL_ne (hdst j (hI.Lpre j hj) n hn), nth_putL_ne (hdst j (hI.Lpre j hj) n hn)]
      exact hI.elL n j hj hn
  · intro n h
    rw [nth_putL_ne (h i (List.mem_cons_self ..))]
    exact hI.el0 n fun j hj => h j (List.mem_cons_of_mem _ hj)

/-- What an actor leaves of what is pending. -/
theorem pend_act (hO : DrawOk P ops ks anc) (hI : Inv ops ks anc c0 e0 pre L ft EL s ρ) {i : Nat} {v : Value} {h' : Heap} (hlt : i < ops.size) (hi : i ∉ pre)
    (ha : ∀ j, bit anc i j = true → j ∈ L) (hpd : okPend ops ks anc (ancOf anc i) pre = true)
    (hag : again (reOf ks (ancOf anc i) pre) ft c0 s.h h') : ∀ j ∈ pre, j ∉ L → Pend ops ks anc c0 e0 (putL ft (dstOf ops i) v) h' j := by
  intro j hj hjL
  have hbij : bit anc i j = false := by
    cases hb : bit anc i j with
    | false => rfl
    | true => exact absurd (ha j hb) hjL
  have hbji : bit anc j i = false := by
    cases hb : bit anc j i with
    | false => rfl
    | true => exact absurd (hI.preC j hj i hb) hi
  have key : ∀ k g (e : List Value), nth ks j = some (k, g) → holder k = true →
      (∀ n ∈ slotsK (k, g), (∀ x, dstOf ops x = some n → bit anc j x = true → nth e n = nth ft n) ∧ ((∀ x, dstOf ops x = some n → bit anc j x = false) → nth e n = nth e0 n)) →
      (∀ n ∈ slotsK (k, g), nth ft n = nth e n) ∧ (cls k == .a, none, g, j, k) ∈ reOf ks (ancOf anc i) pre := by
    intro k g e hk hh hs
    constructor
    · simp only [okPend, List.all_eq_true, Bool.or_eq_true] at hpd
      rcases hpd j hj with h | h
      · rw [show (ancOf anc i).testBit j = false from hbij] at h; cases h
      · rw [hk] at h
        simp only [hh, Bool.not_true, Bool.false_or, List.all_eq_true, Bool.or_eq_true] at h
        intro n hn
        by_cases hx : ∃ x, dstOf ops x = some n ∧ bit anc j x = true
        · obtain ⟨x, hd, hb⟩ := hx
          exact ((hs n hn).1 x hd hb).symm
        · have h0 : ∀ x, dstOf ops x = some n → bit anc j x = false := fun x hd => by
            cases hb : bit anc j x with
            | false => rfl
            | true => exact absurd ⟨x, hd, hb⟩ hx
          rw [(hs n hn).2 h0]
          refine hI.ft0 n fun x hx hd => ?_
          rcases h x hx with h | h
          · rw [show (ancOf anc j).testBit x = false from h0 x hd] at h; cases h
          · rw [hd] at h
            simp only [Bool.not_eq_true', List.contains_eq_mem, decide_eq_false_iff_not] at h
            exact h hn
    · simp only [reOf, List.mem_filterMap, List.mem_filter, List.mem_reverse]
      exact ⟨j, ⟨hj, by rw [show (ancOf anc i).testBit j = false from hbij]; rfl⟩, by rw [hk]; simp only [hh, if_true]⟩
  refine (hI.pend j hj hjL).keep hO (hI.preLt j hj) hlt (fun e => hi (e ▸ hj)) hbji ?_ ?_
  · intro k g e u hk hc hs hw hu
    obtain ⟨h1, h2⟩ := key k g e hk (by simp [holder, hc]) hs
    have := again_mem hag _ _ _ _ _ h2 (by rw [wantedM_congr h1]; exact hw)
    simp only [hc, show ((Cls.r == Cls.a) = true) = False by decide, if_false] at this
    rw [evR_congr (slotsK_ksl h1), evR_congr (slotsK_ksl h1)] at this
    rw [this]; exact hu
  · intro k g e u hk hc hs hw hu
    obtain ⟨h1, h2⟩ := key k g e hk (by simp [holder, hc]) hs
    have := again_mem hag _ _ _ _ _ h2 (by rw [wantedM_congr h1]; exact hw)
    simp only [hc, show ((Cls.a == Cls.a) = true) = True by decide, if_true] at this
    rw [this]; exact hu

theorem rho_keep {N : Nat → Prop} {ρ' : Rho} {s' : S} {w' : World} {i : Nat} (hI : Inv ops ks anc c0 e0 pre L ft EL s ρ) (hE : Ext N ρ s w ρ' s' w') (hN : ∀ j, j < ops.size → N (c0 + j) → j = i) :
    ∀ j, j < ops.size → j ∉ i :: L → ρ' (c0 + j) = none := by
  intro j hj hn
  simp only [List.mem_cons, not_or] at hn
  cases hx : ρ' (c0 + j) with
  | none => rfl
  | some x =>
    have := hE.new (c0 + j) (hI.rho j hj hn.2) (by simp [hx])
    rcases this.1 with h | h
    · exact absurd (hN j hj h) hn.1
    · have := hI.c; omega

theorem putT_size (t : Array Value) (d : Option Nat) (v : Value) : (putT t d v).size = t.size := by cases d <;> simp [putT]

variable {b : Frame} {t : Array Value} {d : List Deferred} {cs : List Frame} {todo : List Nat} {k : List Item}

theorem step_pend (hO : DrawOk P ops ks anc) (hG : Good P G) (hC : ∀ x, C x → Sound P x) (hfnC : ∀ g as m s Q, C ⟨.fn g, as, m, s, Q⟩ → ∃ m, G.fn g = some m) {f : F}
    (hI : Inv ops ks anc c0 e0 pre L f.t EL s ρ) {i : Nat} {o : Oper} (ho : ops[i]? = some o) (hi : i ∈ pre) (hiL : i ∉ L) (ha : ∀ j, bit anc i j = true → j ∈ L)
    (hR : Rel P ρ s w) (hF : FR P ρ { f with t := EL } b t d cs) :
    ∃ EL' ρ' w' t' d' cs', Inv ops ks anc c0 e0 pre (i :: L) f.t EL' s ρ' ∧ Rel P ρ' s w' ∧ Ext (fun i => c0 ≤ i ∧ i < c0 + ops.size) ρ s w ρ' s w' ∧ FR P ρ' { f with t := EL' } b t' d' cs' ∧ CSame b.kind cs cs' ∧
      Steps P (lone (fr b t d (.inRegion ops (i :: todo) :: k)) cs w) (lone (fr b t' d' (.inRegion ops todo :: k)) cs' w') := by
  have hlt : i < ops.size := (Array.getElem?_eq_some_iff.1 ho).1
  obtain ⟨mk, g, e, v, h1, h2, h3, h4, h5, h6⟩ := hI.pend i hi hiL
  obtain ⟨mk', g', h1', hc, hg⟩ := hO.hks i o ho
  rw [h1] at h1'
  simp only [Option.some.injEq, Prod.mk.injEq] at h1'
  obtain ⟨rfl, rfl⟩ := h1'
  have hag := hI.agree_pend hO h1 hlt hiL ha h3
  have hdo : dstOf ops i = o.dst := by simp [dstOf, ho]
  have hw0 : Region.wanted o (yielded ops t) = wantedM g EL := wanted_eq hg hF.t
  have hwe : wantedM g e = wantedM g EL := wantedM_congr hag
  cases hw : wantedM g EL with
  | false =>
    have hv := h6 (by rw [hwe, hw])
    subst hv
    refine ⟨putL EL o.dst undef, ρ, w, putT t o.dst undef, d, cs, ?_, hR, Ext.refl _ _ _ _, ?_, CSame.refl _, .one (st_unwanted ho (by rw [hw0, hw]))⟩
    · rw [← hdo]
      exact hI.exec hO hi hiL ha h4 fun j hj hn => hI.rho j hj fun h => hn (List.mem_cons_of_mem _ h)
    · have := hF.put o.dst (.tuple .nil : VR ρ undef undef)
      rw [F.put_eq] at this; exact this
  | true =>
    have h5 := h5 (by rw [hwe, hw])
    have hwp : wpM G C mk (c0 + i) false { f with t := EL } s (fun u f' s' => u = v ∧ f' = { f with t := EL } ∧ s'.c = s.c ∧ ∀ j, s'.h.get j = s.h.get j) (fun _ _ _ => False) := by
      unfold wpM
      cases hcl : cls mk <;> simp only [hcl] at h5 ⊢
      case p => rw [← evP_congr (slotsK_ksl hag), h5]; simp
      case r => rw [← evR_congr (slotsK_ksl hag), h5]; simp
      case a =>
        obtain ⟨ob, gg, q1, q2, q3⟩ := h5
        rw [← evA_congr (slotsK_ksl hag), q1]
        refine ⟨q3.symm, trivial, trivial, fun j => ?_⟩
        simp only [Tr.get_set]
        split
        · rename_i e; subst e; exact q2.symm
        · rfl
    have hd := op_sound (b := b) (cs := cs) (k := k) (rest := todo) (N := fun x => x = c0 + i) hG hC hfnC ho (by rw [hw0, hw]) hc hR hF
      (fun _ => ⟨hI.rho i hlt hiL, by have := hI.c; omega, rfl⟩) hwp
    rcases hd with ⟨u, u', f1, s1, ρ1, w1, d1, cs1, ⟨q1, q2, q3, q4⟩, p1, p2, p3, p4, p5, p6⟩ | ⟨ch, ch', f1, s1, ρ1, w1, d1, cs1, k1, hbad, _⟩
    · subst q1; subst q2
      have p2' := ext_same p2 (s' := s) q3.symm (fun j => (q4 j).symm)
      refine ⟨putL EL o.dst u, ρ1, w1, putT t o.dst u', d1, cs1, ?_, rel_same p1 q3.symm (fun j => (q4 j).symm), p2'.weak (fun x hx => .inl (by omega)), ?_, p4, p6⟩
      · rw [← hdo]
        exact hI.exec hO hi hiL ha h4 (rho_keep hI p2' fun j _ h => by omega)
      · have := p3.put o.dst p5
        rw [F.put_eq] at this; exact this
    · cases hbad

theorem el_full (hI : Inv ops ks anc c0 e0 pre L ft EL s ρ) (h : ∀ j ∈ pre, j ∈ L) : EL = ft := by
  refine nth_ext fun n => ?_
  by_cases hw : ∃ j ∈ L, dstOf ops j = some n
  · obtain ⟨j, hj, hd⟩ := hw
    exact hI.elL n j hj hd
  · have h0 : ∀ j ∈ L, dstOf ops j ≠ some n := fun j hj h => hw ⟨j, hj, h⟩
    rw [hI.el0 n h0, hI.ft0 n fun j hj => h0 j (h j hj)]

theorem step_act (hO : DrawOk P ops ks anc) (hG : Good P G) (hU : Up C) (hC : ∀ x, C x → Sound P x) (hfnC : ∀ g as m s Q, C ⟨.fn g, as, m, s, Q⟩ → ∃ m, G.fn g = some m) {f : F}
    (hI : Inv ops ks anc c0 e0 pre L f.t EL s ρ) {i : Nat} {mk : MK} {g : Option (Nat × Bool)} (hk : nth ks i = some (mk, g)) (hact : actor mk = true)
    (hok : okOrder ops ks anc pre (i :: rest) = true) (ha : ∀ j, bit anc i j = true → j ∈ L) (hiL : i ∉ L)
    (h : wpOps G C c0 Q (drawMOs ops ks anc pre (i :: rest)) f s) (hR : Rel P ρ s w) (hF : FR P ρ { f with t := EL } b t d cs) :
    (∃ f' EL' s' ρ' w' t' d' cs', wpOps G C c0 Q (drawMOs ops ks anc (i :: pre) rest) f' s' ∧ Inv ops ks anc c0 e0 (i :: pre) (i :: L) f'.t EL' s' ρ' ∧ Rel P ρ' s' w' ∧
      Ext (fun i => c0 ≤ i ∧ i < c0 + ops.size) ρ s w ρ' s' w' ∧ FR P ρ' { f' with t := EL' } b t' d' cs' ∧ CSame b.kind cs cs' ∧
      Steps P (lone (fr b t d (.inRegion ops (i :: todo) :: k)) cs w) (lone (fr b t' d' (.inRegion ops todo :: k)) cs' w')) ∨
    (∃ ch ch' f' s' ρ' w' d' cs' k', Q (.panic ch) f' s' ∧ Rel P ρ' s' w' ∧ Ext (fun i => c0 ≤ i ∧ i < c0 + ops.size) ρ s w ρ' s' w' ∧ FR P ρ' f' b t d' cs' ∧ CSame b.kind cs cs' ∧ L2 (PR ρ') ch ch' ∧
      Steps P (lone (fr b t d (.inRegion ops (i :: todo) :: k)) cs w) (lone { fr b t d' k' with mode := .panicking ch' } cs' w')) := by
  obtain ⟨o, mk', g', ho, h1', hi, hd, _, hpd, _⟩ := okOrder_cons hok
  rw [hk] at h1'
  simp only [Option.some.injEq, Prod.mk.injEq] at h1'
  obtain ⟨rfl, rfl⟩ := h1'
  obtain ⟨mk', g', h1', hc, hg⟩ := hO.hks i o ho
  rw [hk] at h1'
  simp only [Option.some.injEq, Prod.mk.injEq] at h1'
  obtain ⟨rfl, rfl⟩ := h1'
  have hlt : i < ops.size := (Array.getElem?_eq_some_iff.1 ho).1
  have hag := hI.agree_new hO hk hlt hi ha
  have hdo : dstOf ops i = o.dst := by simp [dstOf, ho]
  have hw0 : Region.wanted o (yielded ops t) = wantedM g EL := wanted_eq hg hF.t
  have hwe : wantedM g f.t = wantedM g EL := wantedM_congr hag
  have hncl : cls mk ≠ .a := fun e => by simp [actor, e] at hact
  simp only [drawMOs, hk, hact, if_true] at h
  simp only [wpOps] at h
  cases hw : wantedM g EL with
  | false =>
    simp only [hwe, hw, F.put_eq] at h
    left
    refine ⟨_, putL EL o.dst undef, s, ρ, w, putT t o.dst undef, d, cs, h, ?_, hR, Ext.refl _ _ _ _, ?_, CSame.refl _, .one (st_unwanted ho (by rw [hw0, hw]))⟩
    · rw [← hdo]
      exact hI.act hO ho hi hd ha (Nat.le_refl _) hI.un hI.rho fun j hj hjL => pend_act hO hI hlt hi ha (hpd hact) (by
        have : ∀ l : List (Bool × Option Nat × Option (Nat × Bool) × Nat × MK), again l f.t c0 s.h s.h := by
          intro l
          induction l with
          | nil => trivial
          | cons x l ih => obtain ⟨a1, a2, a3, a4, a5⟩ := x; exact ⟨fun _ => by split <;> rfl, ih⟩
        exact this _) j hj hjL
    · have := hF.put o.dst (.tuple .nil : VR ρ undef undef)
      rw [F.put_eq] at this; exact this
  | true =>
    simp only [hwe, hw] at h
    have hwp := wpM_frame hU (slotsK_ksl hag) (fun ht => el_full hI fun j hj => ha j (by simpa using (List.all_eq_true.1 ht) j hj)) h
    have hds := op_sound (b := b) (cs := cs) (k := k) (rest := todo) (N := No) hG hC hfnC ho (by rw [hw0, hw]) hc hR hF (fun e => absurd e hncl) hwp
    rcases hds with ⟨u, u', f1, s1, ρ1, w1, d1, cs1, ⟨q1, q2, q3⟩, p1, p2, p3, p4, p5, p6⟩ | ⟨ch, ch', f1, s1, ρ1, w1, d1, cs1, k1, _, q1, p1, p2, p3, p4, p5, p6⟩
    · left
      simp only [F.put_eq] at q3
      refine ⟨_, putL EL o.dst u, s1, ρ1, w1, putT t o.dst u', d1, cs1, q3, ?_, p1, p2.weak (fun x hx => hx.elim), ?_, p4, p6⟩
      · rw [← hdo]
        have hc := hI.c
        exact hI.act hO ho hi hd ha p2.cle (fun j hj hn => p2.dead _ (by omega) id (hI.un j hj hn))
          (fun j hj hn => by
            cases hx : ρ1 (c0 + j) with
            | none => rfl
            | some x =>
              have := p2.new (c0 + j) (hI.rho j hj hn) (by simp [hx])
              rcases this.1 with h | h
              · exact h.elim
              · omega)
          (pend_act hO hI hlt hi ha (hpd hact) q2)
      · have := p3.put o.dst p5
        rw [F.put_eq, q1] at this; exact this
    · exact .inr ⟨ch, ch', f1, s1, ρ1, w1, d1, cs1, k1, q1, p1, p2.weak (fun x hx => hx.elim), p3, p4, p5, p6⟩
end
end Ev

/- Regions that draw their order: the whole. -/
namespace Ev
open Go

theorem go_succ (ops : Array Oper) (fuel t : Nat) (listed : Array Bool) :
    Region.linearise.go .any ops (fuel + 1) t listed [] = match (Region.ready .any ops listed)[t % (Region.ready .any ops listed).length]? with
      | some i => i :: Region.linearise.go .any ops fuel (t / (Region.ready .any ops listed).length) (listed.setIfInBounds i true) []
      | none => [] := by
  simp only [Region.linearise.go]
  change (match (Region.ready .any ops listed)[t % (Region.ready .any ops listed).length]? with
      | some i => Region.linearise.go .any ops fuel (t / (Region.ready .any ops listed).length) (listed.setIfInBounds i true) [i]
      | none => [].reverse) = _
  split
  · rename_i i h; rw [linearise_go_acc]; rfl
  · rfl

theorem nth_mod {l : List Nat} {t : Nat} (h : l ≠ []) : ∃ i ∈ l, l[t % l.length]? = some i := by
  have hl : 0 < l.length := by cases l with | nil => exact absurd rfl h | cons a l => simp
  have := Nat.mod_lt t hl
  exact ⟨l[t % l.length], List.getElem_mem _, by simp [this]⟩

/-- What is listed. -/
def Lists (ops : Array Oper) (listed : Array Bool) (L : List Nat) : Prop := listed.size = ops.size ∧ ∀ i, i < ops.size → (listed.getD i true = true ↔ i ∈ L) ∧ (listed.getD i false = true ↔ i ∈ L)

theorem Lists.put {ops : Array Oper} {listed : Array Bool} {L : List Nat} (h : Lists ops listed L) {i : Nat} (hi : i < ops.size) : Lists ops (listed.setIfInBounds i true) (i :: L) := by
  refine ⟨by simpa using h.1, fun j hj => ?_⟩
  by_cases e : i = j
  · subst e
    have : i < listed.size := by rw [h.1]; exact hi
    simp [this]
  · have h2 := h.2 j hj
    rw [getD_set_ne _ e, getD_set_ne _ e]
    simp only [List.mem_cons, Ne.symm e, false_or]
    exact h2

theorem directs_mem {o : Oper} {x : Nat} : x ∈ directs o ↔ ∃ e ∈ o.after, Region.binds .any e = true ∧ e.on = x := by
  simp only [directs, List.mem_map, List.mem_filter, Array.mem_toList_iff]
  constructor
  · rintro ⟨e, ⟨h1, h2⟩, h3⟩; exact ⟨e, h1, h2, h3⟩
  · rintro ⟨e, h1, h2, h3⟩; exact ⟨e, ⟨h1, h2⟩, h3⟩

theorem ready_iff {ops : Array Oper} {listed : Array Bool} {L : List Nat} (h : Lists ops listed L) (hlt : ∀ (i : Nat) (o : Oper), ops[i]? = some o → ∀ e ∈ directs o, e < ops.size) (i : Nat) :
    i ∈ Region.ready .any ops listed ↔ i ∉ L ∧ ∃ o, ops[i]? = some o ∧ ∀ e ∈ directs o, e ∈ L := by
  rw [mem_ready]
  constructor
  · rintro ⟨h0, o, ho, hall⟩
    have hi : i < ops.size := (Array.getElem?_eq_some_iff.1 ho).1
    refine ⟨fun hL => ?_, o, ho, fun x hx => ?_⟩
    · have := ((h.2 i hi).1).2 hL
      rw [h0] at this; cases this
    · obtain ⟨e, h1, h2, h3⟩ := directs_mem.1 hx
      have := hall e h1 h2
      rw [h3] at this
      exact ((h.2 x (hlt i o ho x hx)).2).1 this
  · rintro ⟨h0, o, ho, hall⟩
    have hi : i < ops.size := (Array.getElem?_eq_some_iff.1 ho).1
    refine ⟨?_, o, ho, fun e he hb => ?_⟩
    · cases hx : listed.getD i true with
      | false => rfl
      | true => exact absurd (((h.2 i hi).1).1 hx) h0
    · have hx := directs_mem.2 ⟨e, he, hb, rfl⟩
      exact ((h.2 e.on (hlt i o ho _ hx)).2).2 (hall _ hx)

section
variable {P : Program} {G : Pg} {C : CA → Prop} {ops : Array Oper} {ks : List (MK × Option (Nat × Bool))} {anc : List Nat} {c0 : Nat} {e0 : List Value} {Q : KX} {b : Frame} {k : List Item}

theorem draw_go (hO : DrawOk P ops ks anc) (hG : Good P G) (hU : Up C) (hC : ∀ x, C x → Sound P x) (hfnC : ∀ g as m s Q, C ⟨.fn g, as, m, s, Q⟩ → ∃ m, G.fn g = some m)
    (hlt : ∀ (i : Nat) (o : Oper), ops[i]? = some o → ∀ e ∈ directs o, e < ops.size) {full : List Nat} (hfull : TopOk ops full) (hcov : ∀ i, i < ops.size → i ∈ full) :
    ∀ (fuel tt : Nat) (listed : Array Bool) (L pre rest : List Nat) (f : F) (EL : List Value) (s : S) (ρ : Rho) (w : World) (t : Array Value) (d : List Deferred) (cs : List Frame),
      ((List.range ops.size).filter fun i => !L.contains i).length ≤ fuel → Lists ops listed L → Inv ops ks anc c0 e0 pre L f.t EL s ρ → okOrder ops ks anc pre rest = true →
      (∀ j, j < ops.size → j ∈ pre ∨ j ∈ rest) →
      wpOps G C c0 Q (drawMOs ops ks anc pre rest) f s → Rel P ρ s w → FR P ρ { f with t := EL } b t d cs →
      ∃ x f' s' ρ' w' t' d' cs', Q x f' s' ∧ Rel P ρ' s' w' ∧ Ext (fun i => c0 ≤ i ∧ i < c0 + ops.size) ρ s w ρ' s' w' ∧ FR P ρ' f' b t' d' cs' ∧ CSame b.kind cs cs' ∧
        Arr P ρ' (lone (fr b t d (.inRegion ops (Region.linearise.go .any ops fuel tt listed []) :: k)) cs w) b k t' d' cs' w' x := by
  have hend : ∀ (L pre rest : List Nat) (f : F) (EL : List Value) (s : S) (ρ : Rho) (w : World) (t : Array Value) (d : List Deferred) (cs : List Frame),
      (∀ i, i < ops.size → i ∈ L) → Inv ops ks anc c0 e0 pre L f.t EL s ρ → okOrder ops ks anc pre rest = true → wpOps G C c0 Q (drawMOs ops ks anc pre rest) f s → Rel P ρ s w →
      FR P ρ { f with t := EL } b t d cs →
      ∃ x f' s' ρ' w' t' d' cs', Q x f' s' ∧ Rel P ρ' s' w' ∧ Ext (fun i => c0 ≤ i ∧ i < c0 + ops.size) ρ s w ρ' s' w' ∧ FR P ρ' f' b t' d' cs' ∧ CSame b.kind cs cs' ∧
        Arr P ρ' (lone (fr b t d (.inRegion ops [] :: k)) cs w) b k t' d' cs' w' x := by
    intro L pre rest f EL s ρ w t d cs hall hI hok h hR hF
    cases rest with
    | cons i rest =>
      obtain ⟨o, _, _, ho, _, hi, _⟩ := okOrder_cons hok
      exact absurd (hI.Lpre i (hall i (Array.getElem?_eq_some_iff.1 ho).1)) hi
    | nil =>
      simp only [drawMOs, wpOps] at h
      have he := el_full hI fun j hj => hall j (hI.preLt j hj)
      rw [he] at hF
      exact ⟨.normal, f, s, ρ, w, t, d, cs, h, hR, Ext.refl _ _ _ _, hF, CSame.refl _, .one st_region_end⟩
  have hready : ∀ (L : List Nat) (listed : Array Bool), Lists ops listed L → (∃ i, i < ops.size ∧ i ∉ L) → Region.ready .any ops listed ≠ [] := by
    intro L listed hL hx hnil
    obtain ⟨i, hi, hn⟩ := hx
    obtain ⟨j, o, h1, h2, h3⟩ := hfull.first (L := L) ⟨i, hcov i hi, hn⟩
    have := (ready_iff hL hlt j).2 ⟨h1, o, h2, h3⟩
    rw [hnil] at this; cases this
  intro fuel
  induction fuel with
  | zero =>
    intro tt listed L pre rest f EL s ρ w t d cs hfu hL hI hok hcv h hR hF
    have hall : ∀ i, i < ops.size → i ∈ L := fun i hi => Classical.byContradiction fun hn => by
      have : i ∈ (List.range ops.size).filter fun i => !L.contains i := by simp [hi, hn]
      rw [List.eq_nil_of_length_eq_zero (Nat.le_zero.1 hfu)] at this; cases this
    simpa [Region.linearise.go] using hend L pre rest f EL s ρ w t d cs hall hI hok h hR hF
  | succ fuel ih =>
    intro tt listed L pre rest f EL s ρ w t d cs hfu hL hI hok hcv h hR hF
    rw [go_succ]
    by_cases hx : ∃ i, i < ops.size ∧ i ∉ L
    · obtain ⟨i, hmem, hi⟩ := nth_mod (t := tt) (hready L listed hL hx)
      rw [hi]
      simp only []
      obtain ⟨hiL, o, ho, hd⟩ := (ready_iff hL hlt i).1 hmem
      have hilt : i < ops.size := (Array.getElem?_eq_some_iff.1 ho).1
      have ha := ancs_of hO hI.LC ho hd
      have hfu' : ((List.range ops.size).filter fun j => !(i :: L).contains j).length ≤ fuel := by
        have e : ((List.range ops.size).filter fun j => !(i :: L).contains j) = ((List.range ops.size).filter fun j => !L.contains j).filter (fun j => j != i) := by
          rw [List.filter_filter]
          refine List.filter_congr fun j _ => ?_
          simp only [List.contains_cons, Bool.not_or]
          rfl
        rw [e]
        have : (((List.range ops.size).filter fun j => !L.contains j).filter (fun j => j != i)).length < ((List.range ops.size).filter fun j => !L.contains j).length :=
          List.length_filter_lt_length_iff_exists.2 ⟨i, by simp [hilt, hiL], by simp⟩
        omega
      have hL' := hL.put hilt
      -- the plan goes on until this operation has come up
      have hadv : ∃ pre' rest' ft' s', wpOps G C c0 Q (drawMOs ops ks anc pre' rest') { f with t := ft' } s' ∧ Inv ops ks anc c0 e0 pre' L ft' EL s' ρ ∧ Rel P ρ s' w ∧
          Ext (fun i => c0 ≤ i ∧ i < c0 + ops.size) ρ s w ρ s' w ∧ okOrder ops ks anc pre' rest' = true ∧ (∀ j, j ∈ pre ∨ j ∈ rest → j ∈ pre' ∨ j ∈ rest') ∧
          (i ∈ pre' ∨ ∃ rest'' k g, rest' = i :: rest'' ∧ nth ks i = some (k, g) ∧ actor k = true) := by
        rcases hcv i hilt with hp | hr
        · exact ⟨pre, rest, f.t, s, h, hI, hR, Ext.refl _ _ _ _, hok, fun _ h => h, .inl hp⟩
        · exact advance hO ha rest pre f s hI hok hr h hR
      obtain ⟨pre', rest', ft', s', h1, h2, h3, h4, h5, h6, h7⟩ := hadv
      have hcv' : ∀ j, j < ops.size → j ∈ pre' ∨ j ∈ rest' := fun j hj => h6 j (hcv j hj)
      by_cases hp : i ∈ pre'
      · obtain ⟨EL', ρ', w', t', d', cs', q1, q2, q3, q4, q5, q6⟩ := step_pend (f := { f with t := ft' }) (b := b) (k := k) (t := t) (d := d) (cs := cs)
          (todo := Region.linearise.go .any ops fuel (tt / (Region.ready .any ops listed).length) (listed.setIfInBounds i true) []) hO hG hC hfnC h2 ho hp hiL ha h3 hF
        obtain ⟨x, f2, s2, ρ2, w2, t2, d2, cs2, r1, r2, r3, r4, r5, r6⟩ := ih (tt / (Region.ready .any ops listed).length) (listed.setIfInBounds i true) (i :: L) pre' rest' { f with t := ft' } EL' s' ρ' w' t' d' cs'
          hfu' hL' q1 h5 hcv' h1 q2 q4
        exact ⟨x, f2, s2, ρ2, w2, t2, d2, cs2, r1, r2, (h4.trans q3 (fun _ h => .inl h)).trans r3 (fun _ h => .inl h), r4, q5.trans r5, r6.of_steps q6⟩
      · obtain ⟨rest'', mk, g, e, hk, hact⟩ := h7.resolve_left hp
        subst e
        have hok'' := (okOrder_cons h5).choose_spec.choose_spec.choose_spec.2.2.2.2.2.2
        rcases step_act (f := { f with t := ft' }) (b := b) (k := k) (t := t) (d := d) (cs := cs)
          (todo := Region.linearise.go .any ops fuel (tt / (Region.ready .any ops listed).length) (listed.setIfInBounds i true) []) hO hG hU hC hfnC h2 hk hact h5 ha hiL h1 h3 hF with
          ⟨f', EL', s1, ρ', w', t', d', cs', q0, q1, q2, q3, q4, q5, q6⟩ | ⟨ch, ch', f', s1, ρ', w', d', cs', k', q0, q2, q3, q4, q5, q6, q7⟩
        · obtain ⟨x, f2, s2, ρ2, w2, t2, d2, cs2, r1, r2, r3, r4, r5, r6⟩ := ih (tt / (Region.ready .any ops listed).length) (listed.setIfInBounds i true) (i :: L) (i :: pre') rest'' f' EL' s1 ρ' w' t' d' cs'
            hfu' hL' q1 hok'' (fun j hj => (hcv' j hj).elim (fun h => .inl (List.mem_cons_of_mem _ h)) (fun h => (List.mem_cons.1 h).elim (fun h => .inl (h ▸ List.mem_cons_self ..)) .inr)) q0 q2 q4
          exact ⟨x, f2, s2, ρ2, w2, t2, d2, cs2, r1, r2, (h4.trans q3 (fun _ h => .inl h)).trans r3 (fun _ h => .inl h), r4, q5.trans r5, r6.of_steps q6⟩
        · exact ⟨.panic ch, f', s1, ρ', w', t, d', cs', q0, q2, h4.trans q3 (fun _ h => .inl h), q4, q5, ⟨k', ch', q7, q6⟩⟩
    · have hall : ∀ i, i < ops.size → i ∈ L := fun i hi => Classical.byContradiction fun hn => hx ⟨i, hi, hn⟩
      have hnil : Region.ready .any ops listed = [] := by
        rw [List.eq_nil_iff_forall_not_mem]
        intro i hi
        obtain ⟨h1, o, ho, _⟩ := (ready_iff hL hlt i).1 hi
        exact h1 (hall i (Array.getElem?_eq_some_iff.1 ho).1)
      rw [hnil]
      simpa using hend L pre rest f EL s ρ w t d cs hall hI hok h hR hF
end
end Ev

/- Soundness of code: regions, and all code but the range over a function. -/
namespace Ev
open Go

section
variable {P : Program} {G : Pg} {C : CA → Prop} {ρ : Rho} {s : S} {w : World} {b : Frame} {cs : List Frame} {k : List Item} {Q : KX}

theorem rel_world {w' : World} (hR : Rel P ρ s w) (h : w'.heap = w.heap) : Rel P ρ s w' where
  obj := fun i o b r h1 h2 => by rw [h]; exact hR.obj i o b r h1 h2
  inj := hR.inj
  fresh := hR.fresh
  blk := fun i b r h1 => by rw [h]; exact hR.blk i b r h1
  wf := hR.wf

theorem ext_world {N : Nat → Prop} {w' : World} (h : w'.heap = w.heap) (h1 : w'.tape = w.tape) (h2 : w'.os = w.os) (h3 : w'.output = w.output) : Ext N ρ s w ρ s w' where
  sub := Sub.refl _
  new := fun _ h h' => absurd h h'
  dead := fun _ _ _ h => h
  cle := Nat.le_refl _
  size := by rw [h]; exact Nat.le_refl _
  frame := fun b _ _ => by rw [h]
  img := fun i o b r h1 h2 _ => ⟨i, o, r, h1, h2, id⟩
  tape := h1
  os := h2
  output := h3
  keep := Keep.heap h

theorem TopOk.lt {ops : Array Oper} : ∀ {l : List Nat}, TopOk ops l → ∀ i ∈ l, ∃ o, ops[i]? = some o ∧ ∀ e ∈ directs o, e ∈ l := by
  intro l
  induction l with
  | nil => intro _ i hi; cases hi
  | cons x l ih =>
    rintro ⟨⟨o, ho, hd⟩, ht⟩ i hi
    rcases List.mem_cons.1 hi with rfl | hi
    · exact ⟨o, ho, fun e he => List.mem_cons_of_mem _ (hd e he)⟩
    · obtain ⟨o', h1, h2⟩ := ih ht i hi
      exact ⟨o', h1, fun e he => List.mem_cons_of_mem _ (h2 e he)⟩

theorem region_sound (hG : Good P G) (hU : Up C) (hC : ∀ x, C x → Sound P x) (hfnC : ∀ g as m s Q, C ⟨.fn g, as, m, s, Q⟩ → ∃ m, G.fn g = some m) {id : Nat} {ops : Array Oper} {draw : Bool} {m : MC}
    (hc : cRegion P ops draw = some m) {f : F} {t : Array Value} {d : List Deferred} (h : wpC G C m Q f s) (hR : Rel P ρ s w) (hF : FR P ρ f b t d cs) :
    Comes P ρ s w b cs (lone (fr b t d (.code (.region id ops draw) :: k)) cs w) k Q := by
  unfold cRegion at hc
  split at hc <;> first | (simp at hc; done) | skip
  rename_i ks hks
  have hfresh : ∀ j, ρ (s.c + j) = none := fun j => hR.fresh _ (by omega)
  cases draw with
  | false =>
    simp only [Bool.false_eq_true, if_false, Option.some.injEq] at hc; subst hc
    simp only [wpC] at h
    obtain ⟨x, f', s', ρ', w', t', d', cs', h1, h2, h3, h4, h5, h6⟩ := plain_sound (k := k) (b := b) hG hC hfnC ops.toList ks 0 f { s with c := s.c + ops.size } ρ w t d cs
      (fun j o e => by simpa using e) (by simp) hks h (rel_reserve hR _) hF (Nat.le_refl _) (fun j _ _ => hfresh j)
    refine ⟨x, f', s', ρ', w', t', d', cs', h1, h2, (ext_reserve No ops.size).trans h3 (fun i hi => .inr hi.1), h4, h5, ?_⟩
    refine h6.of_steps ?_
    have := st_region (P := P) (b := b) (t := t) (d := d) (k := k) (cs := cs) (w := w) (id := id) (ops := ops)
    rw [List.range_eq_range'] at this
    simpa using Steps.one this
  | true =>
    simp only [if_true] at hc
    split at hc <;> first | (simp at hc; done) | skip
    rename_i hchk
    simp only [Option.some.injEq] at hc; subst hc
    simp only [Bool.and_eq_true] at hchk
    obtain ⟨⟨⟨⟨⟨_, h2⟩, h3⟩, h4⟩, h5⟩, h6⟩ := hchk
    have hO := drawOk hks h3 h4 h5
    simp only [wpC] at h
    have htop := TopOk.order h2 (pre := []) trivial
    have hcov : ∀ i, i < ops.size → i ∈ (orderF (Region.before ops).toList (ks.map fun x => actor x.1) ops.size ops.size 0) := fun i hi => by
      have := List.all_eq_true.1 h6 i (List.mem_range.2 hi)
      simpa using this
    have hlt : ∀ (i : Nat) (o : Oper), ops[i]? = some o → ∀ e ∈ directs o, e < ops.size := by
      intro i o ho e he
      have hi := (Array.getElem?_eq_some_iff.1 ho).1
      obtain ⟨o', q1, q2⟩ := htop.lt i (by simpa using hcov i hi)
      rw [ho] at q1
      simp only [Option.some.injEq] at q1; subst q1
      obtain ⟨oe, q3, _⟩ := htop.lt e (q2 e he)
      exact (Array.getElem?_eq_some_iff.1 q3).1
    have hw : ({ w with drawn := w.drawn + 1 } : World).heap = w.heap := rfl
    obtain ⟨x, f', s', ρ', w', t', d', cs', q1, q2, q3, q4, q5, q6⟩ := draw_go (k := k) (b := b) (e0 := f.t) (Q := Q) (c0 := s.c) hO hG hU hC hfnC hlt htop (fun i hi => by simpa using hcov i hi) ops.size (w.tape w.drawn (.order b.fn id))
      (Array.replicate ops.size false) [] [] _ f f.t { s with c := s.c + ops.size } ρ { w with drawn := w.drawn + 1 } t d cs
      (by refine Nat.le_trans (List.length_filter_le _ _) ?_; simp)
      ⟨by simp, fun i hi => by simp [hi]⟩
      ⟨by simp, by simp, by simp, by simp, by simp, rfl, rfl, fun _ _ => rfl, by simp, fun _ _ => rfl, Nat.le_refl _, fun i _ _ => hR.wf _ (by omega), fun i _ _ => hfresh i⟩
      h2 (fun j hj => .inr (hcov j hj)) h (rel_world (rel_reserve hR _) hw) hF
    have e0 : Ext No ρ s w ρ { s with c := s.c + ops.size } { w with drawn := w.drawn + 1 } :=
      (ext_reserve No ops.size).trans (ext_world (N := No) hw rfl rfl rfl) (fun _ h => h.elim)
    refine ⟨x, f', s', ρ', w', t', d', cs', q1, q2, e0.trans q3 (fun i hi => .inr hi.1), q4, q5, ?_⟩
    refine q6.of_steps ?_
    have := st_region_draw (P := P) (b := b) (t := t) (d := d) (k := k) (cs := cs) (w := w) (id := id) (ops := ops)
    simp only [Region.schedule, hG.mixed, Bool.true_or, if_true] at this
    exact .one this

theorem Comes.bind {m : Machine} {k' : List Item} {Q1 : KX} (h : Comes P ρ s w b cs m k' Q1)
    (hk : ∀ x f' s' ρ' w' t' d' cs', Q1 x f' s' → Rel P ρ' s' w' → Ext No ρ s w ρ' s' w' → FR P ρ' f' b t' d' cs' → CSame b.kind cs cs' → Arr P ρ' m b k' t' d' cs' w' x →
      Comes P ρ' s' w' b cs' m k Q) : Comes P ρ s w b cs m k Q := by
  obtain ⟨x, f', s', ρ', w', t', d', cs', h1, h2, h3, h4, h5, h6⟩ := h
  obtain ⟨y, f2, s2, ρ2, w2, t2, d2, cs2, q1, q2, q3, q4, q5, q6⟩ := hk x f' s' ρ' w' t' d' cs' h1 h2 h3 h4 h5 h6
  exact ⟨y, f2, s2, ρ2, w2, t2, d2, cs2, q1, q2, h3.trans q3 (fun _ h => .inl h), q4, h5.trans q5, q6⟩

theorem Comes.here {m : Machine} {x : Ex} {f : F} {t : Array Value} {d : List Deferred} (hq : Q x f s) (hR : Rel P ρ s w) (hF : FR P ρ f b t d cs) (ha : Arr P ρ m b k t d cs w x) :
    Comes P ρ s w b cs m k Q := ⟨x, f, s, ρ, w, t, d, cs, hq, hR, Ext.refl _ _ _ _, hF, CSame.refl _, ha⟩

/-- Code, then more: the way out that is not the normal one is handed on. -/
theorem Comes.then {m : Machine} {i : Item} {K : F → S → Prop} (hi : ∀ id, exitTo id (i :: k) = exitTo id k) (h : Comes P ρ s w b cs m (i :: k) (thenQ K Q))
    (hk : ∀ f' s' ρ' w' t' d' cs', K f' s' → Rel P ρ' s' w' → FR P ρ' f' b t' d' cs' → Comes P ρ' s' w' b cs' (lone (fr b t' d' (i :: k)) cs' w') k Q) : Comes P ρ s w b cs m k Q := by
  refine h.bind fun x f' s' ρ' w' t' d' cs' h1 h2 _ h4 _ h6 => ?_
  cases x with
  | normal => exact (hk f' s' ρ' w' t' d' cs' h1 h2 h4).of_steps h6
  | exit id => obtain ⟨k0, q1, q2⟩ := h6; exact .here h1 h2 h4 ⟨k0, q1, q2.trans (hi id)⟩
  | ret => exact .here h1 h2 h4 h6
  | panic ch => exact .here h1 h2 h4 h6

theorem eval_act {t : Array Value} {d : List Deferred} {f : F} (hF : FR P ρ f b t d cs) {x : Operand} (hx : okOpd x = true) {v : Value} (hv : eval f.t x = some v) :
    ∃ v', Act.eval ⟨t, d⟩ x = v' ∧ VR ρ v v' := by
  have hT : VRL ρ f.t (⟨t, d⟩ : Act).tmps.toList := hF.t
  exact ⟨_, rfl, eval_sound hT hx hv⟩

def CodeOk (P : Program) (G : Pg) (C : CA → Prop) (c : Code) : Prop :=
  ∀ (m : MC), cCode P c = some m → ∀ (Q : KX) (f : F) (s : S) (ρ : Rho) (w : World) (b : Frame) (t : Array Value) (d : List Deferred) (cs : List Frame) (k : List Item),
    wpC G C m Q f s → Rel P ρ s w → FR P ρ f b t d cs → Comes P ρ s w b cs (lone (fr b t d (.code c :: k)) cs w) k Q
end
end Ev

/- Soundness of code. -/
namespace Ev
open Go

section
variable {P : Program} {G : Pg} {C : CA → Prop}

theorem code_seq {x y : Code} (hx : CodeOk P G C x) (hy : CodeOk P G C y) : CodeOk P G C (.seq x y) := by
  intro m hm Q f s ρ w b t d cs k h hR hF
  simp only [cCode] at hm
  split at hm <;> first | (simp at hm; done) | skip
  rename_i mx my h1 h2
  simp only [Option.some.injEq] at hm; subst hm
  simp only [wpC] at h
  refine Comes.of_steps (.one st_seq) ((hx mx h1 _ f s ρ w b t d cs (.code y :: k) h hR hF).then (fun id => rfl) fun f' s' ρ' w' t' d' cs' hk hR' hF' => ?_)
  exact hy my h2 Q f' s' ρ' w' b t' d' cs' k hk hR' hF'

theorem code_cond {c : Operand} {x y : Code} (hx : CodeOk P G C x) (hy : CodeOk P G C y) : CodeOk P G C (.cond c x y) := by
  intro m hm Q f s ρ w b t d cs k h hR hF
  simp only [cCode] at hm
  split at hm <;> first | (simp at hm; done) | skip
  rename_i hc
  split at hm <;> first | (simp at hm; done) | skip
  rename_i mx my h1 h2
  simp only [Option.some.injEq] at hm; subst hm
  simp only [wpC] at h
  split at h <;> first | exact h.elim | skip
  all_goals
    rename_i hv
    obtain ⟨v', q1, q2⟩ := eval_act hF hc hv
    cases q2
  · exact Comes.of_steps (.one (st_cond q1)) (hx mx h1 Q f s ρ w b t d cs k h hR hF)
  · exact Comes.of_steps (.one (st_cond q1)) (hy my h2 Q f s ρ w b t d cs k h hR hF)

theorem code_block {id : Nat} {x : Code} (hx : CodeOk P G C x) : CodeOk P G C (.block id x) := by
  intro m hm Q f s ρ w b t d cs k h hR hF
  simp only [cCode] at hm
  split at hm <;> first | (simp at hm; done) | skip
  rename_i mx h1
  simp only [Option.some.injEq] at hm; subst hm
  simp only [wpC] at h
  refine Comes.of_steps (.one st_block) ((hx mx h1 _ f s ρ w b t d cs (.inBlock id :: k) h hR hF).bind fun x f' s' ρ' w' t' d' cs' q1 q2 _ q4 _ q6 => ?_)
  cases x with
  | normal => exact .here q1 q2 q4 (q6.trans (.one st_inBlock))
  | exit i =>
    obtain ⟨k0, p1, p2⟩ := q6
    simp only [blockQ] at q1
    cases hb : Nat.beq i id with
    | true =>
      simp only [hb, cond_true] at q1
      have e : i = id := Nat.eq_of_beq_eq_true hb
      subst e
      refine .here q1 q2 q4 (p1.trans (.one (st_exit ?_)))
      rw [p2]; simp [exitTo]
    | false =>
      simp only [hb, cond_false] at q1
      refine .here q1 q2 q4 ⟨k0, p1, ?_⟩
      rw [p2]
      have e : ¬ (id = i) := fun e => by subst e; simp at hb
      simp [exitTo, e]
  | ret => exact .here q1 q2 q4 q6
  | panic ch => exact .here q1 q2 q4 q6

theorem code_scope {x : Code} (hx : CodeOk P G C x) : CodeOk P G C (.scope x) := by
  intro m hm Q f s ρ w b t d cs k h hR hF
  simp only [cCode] at hm
  refine Comes.of_steps (.one st_scope) ((hx m hm _ f s ρ w b t d cs (.inScope x :: k) h hR hF).bind fun x f' s' ρ' w' t' d' cs' q1 q2 _ q4 _ q6 => ?_)
  cases x with
  | normal => exact .here q1 q2 q4 (q6.trans (.one st_inScope))
  | exit i => obtain ⟨k0, p1, p2⟩ := q6; exact .here q1 q2 q4 ⟨k0, p1, p2.trans rfl⟩
  | ret => exact .here q1 q2 q4 q6
  | panic ch => exact .here q1 q2 q4 q6

theorem code_loop {x : Code} (hx : CodeOk P G C x) : CodeOk P G C (.loop x) := by
  intro m hm Q f s ρ w b t d cs k h hR hF
  simp only [cCode] at hm
  split at hm <;> first | (simp at hm; done) | skip
  rename_i mx h1
  simp only [Option.some.injEq] at hm; subst hm
  simp only [wpC] at h
  have := h (fun f s => ∀ (ρ : Rho) (w : World) (t : Array Value) (d : List Deferred) (cs : List Frame), Rel P ρ s w → FR P ρ f b t d cs →
      Comes P ρ s w b cs (lone (fr b t d (.code x :: .inLoop x :: k)) cs w) k Q) (fun f s hs ρ w t d cs hR hF => by
    refine (hx mx h1 _ f s ρ w b t d cs (.inLoop x :: k) hs hR hF).then (fun id => rfl) fun f' s' ρ' w' t' d' cs' hk hR' hF' => ?_
    exact Comes.of_steps (.one st_inLoop) (hk ρ' w' t' d' cs' hR' hF'))
  exact Comes.of_steps (.one st_loop) (this ρ w t d cs hR hF)

theorem code_ret : CodeOk P G C .ret := by
  intro m hm Q f s ρ w b t d cs k h hR hF
  simp only [cCode, Option.some.injEq] at hm; subst hm
  exact .here h hR hF ⟨k, Steps.refl ..⟩

theorem code_exit {id : Nat} : CodeOk P G C (.exit id) := by
  intro m hm Q f s ρ w b t d cs k h hR hF
  simp only [cCode, Option.some.injEq] at hm; subst hm
  exact .here h hR hF ⟨k, Steps.refl .., rfl⟩

theorem code_skip : CodeOk P G C .skip := by
  intro m hm Q f s ρ w b t d cs k h hR hF
  simp only [cCode, Option.some.injEq] at hm; subst hm
  exact .here h hR hF (.one st_skip)

theorem code_label {l : Nat} : CodeOk P G C (.label l) := by
  intro m hm Q f s ρ w b t d cs k h hR hF
  simp only [cCode, Option.some.injEq] at hm; subst hm
  exact .here h hR hF (.one st_label)
end
end Ev

/- Soundness of the range over a function. -/
namespace Ev
open Go

section
variable {P : Program} {G : Pg} {C : CA → Prop} {ρ : Rho} {s : S} {w : World} {b : Frame} {cs : List Frame} {k : List Item} {Q : KX} {t : Array Value} {d : List Deferred}

theorem fr_atR (t : Array Value) (d : List Deferred) (k : List Item) : fr b t d k = b.atR ⟨t, d⟩ k := rfl

theorem upd_putObj {l : Nat} {o0 o : Obj} (h : w.heap[l]? = some o0) (hk : Kd o0 o := by exact .inr ⟨(fun _ _ _ e => by cases e), (fun _ _ _ e => by cases e)⟩) : Upd w l o (w.putObj l o) where
  size := World.putObj_size
  at_ := World.putObj_heap_same (Array.getElem?_eq_some_iff.1 h).1
  ne := fun _ hi => World.putObj_heap_other hi
  tape := rfl
  os := rfl
  output := rfl
  kd := ⟨o0, h, hk⟩

theorem push_alloc {o : Obj} : Push w o (w.alloc o) where
  heap := rfl
  tape := rfl
  os := rfl
  output := rfl

theorem finish_inRange (l : Nat) (v : Value) : (fr b t d (.inRangeFunc l :: k)).finish v = fr b t d (.endRangeFunc l :: k) := by simp [Frame.finish, fr]

theorem range_call (hC : ∀ x, C x → Sound P x) {g : FuncId} {as : List Value} {as' : Array Value} {l l' y : Nat} {f : F} (hR : Rel P ρ s w) (hl : ρ l = some (l', y)) (hF : FR P ρ f b t d cs)
    (ha : VRL ρ as as'.toList) (h : C ⟨.fn g, as, none, s, endLoop l f Q⟩) :
    Comes P ρ s w b cs (lone (Frame.enter P g as' .normal) (fr b t d (.inRangeFunc l' :: k) :: cs) w) k Q := by
  obtain ⟨r, m', s', ρ', w', fr', cs', q1, q2, q3, q4, q5, q6, q7⟩ := hC _ h ρ w as' (fr b t d (.inRangeFunc l' :: k) :: cs) hR ha (fun u hu => by cases hu)
  obtain ⟨rfl, rfl⟩ := q7
  cases r with
  | panic ch =>
    obtain ⟨ch', hch, hst⟩ := step_back_panic (c := fr b t d (.inRangeFunc l' :: k)) (cs := cs) q6
    rw [raise_run rfl] at hst
    exact ⟨.panic ch, f, s', ρ', w', t, d, cs, q1, q2, q3, hF.mono q3.sub, CSame.refl _, _, ch', q4.trans (.one hst), hch⟩
  | ret v =>
    obtain ⟨v', hv, hst⟩ := step_back_ret (c := fr b t d (.inRangeFunc l' :: k)) (cs := cs) q6
    rw [finish_inRange] at hst
    simp only [endLoop] at q1
    split at q1 <;> first | exact q1.elim | skip
    rename_i st pend t0 ps asg body dfr hg
    have hl1 := q3.sub _ _ hl
    obtain ⟨o', ho1, ho2⟩ := q2.obj _ _ _ _ hg hl1
    cases ho2 with
    | loop hj ht hp hca hcb hd hgf =>
      rename_i d0 x0 pend' fn0 g0 t0' ps0' asg0' body0'
      have hne : st ≠ .busy := by
        intro e; subst e; exact q1
      have hrun := run_endLoop (P := P) ho1 hne
      simp only at hrun
      have hst2 := stepR_endRangeFunc (P := P) (b := b) (a := ⟨t, d⟩) (k := k) (cs := cs) hrun
      rw [← fr_atR, ← fr_atR] at hst2
      have hlt := (Array.getElem?_eq_some_iff.1 ho1).1
      have hR2 := rel_upd q2 hg hl1 (upd_putObj (o := .loop { state := .exhausted, pending := pend', fn := fn0, tmps := t0', params := ps0', assign := asg0', body := body0', defers := d0 }) ho1) (.loop (st := .exhausted) hj ht hp hca hcb hd hgf)
      have hE2 := ext_upd (ρ := ρ') No hg hl1 (upd_putObj (o := .loop { state := .exhausted, pending := pend', fn := fn0, tmps := t0', params := ps0', assign := asg0', body := body0', defers := d0 }) ho1) (o2 := .loop .exhausted pend t0 ps asg body dfr)
      have hEE := q3.trans hE2 (fun _ h => .inl h)
      have hF' := hF.mono q3.sub
      have q1' : match pend with
        | none => Q .normal f { s' with h := s'.h.set l (some (.loop .exhausted pend t0 ps asg body dfr)) }
        | some x => Q x f { s' with h := s'.h.set l (some (.loop .exhausted pend t0 ps asg body dfr)) } := by
        cases pend <;> cases st <;> first | exact absurd rfl hne | exact q1
      cases hj with
      | none => exact ⟨.normal, f, _, ρ', _, t, d, cs, q1', hR2, hEE, hF', CSame.refl _, (q4.trans (.one hst)).trans (.one hst2)⟩
      | exit id => exact ⟨.exit id, f, _, ρ', _, t, d, cs, q1', hR2, hEE, hF', CSame.refl _, k, (q4.trans (.one hst)).trans (.one hst2), rfl⟩
      | ret => exact ⟨.ret, f, _, ρ', _, t, d, cs, q1', hR2, hEE, hF', CSame.refl _, k, (q4.trans (.one hst)).trans (.one hst2)⟩

theorem code_range (hG : Good P G) (hC : ∀ x, C x → Sound P x) (hfnC : ∀ g as m s Q, C ⟨.fn g, as, m, s, Q⟩ → ∃ m, G.fn g = some m) {g : Operand} {ps : Array Tmp} {asg body : Code} :
    CodeOk P G C (.rangeFunc g ps asg body) := by
  intro m hm Q f s ρ w b t d cs k h hR hF
  simp only [cCode] at hm
  split at hm <;> first | (simp at hm; done) | skip
  rename_i hc
  split at hm <;> first | (simp at hm; done) | skip
  rename_i ma mb h1 h2
  simp only [Option.some.injEq] at hm; subst hm
  simp only [wpC] at h
  split at h <;> first | exact h.elim | skip
  rename_i fv hfv
  obtain ⟨v', hv1, hv2⟩ := eval_act (d := d) hF hc hfv
  obtain ⟨gb, hgb⟩ := hF.fn
  have hr := hF.r
  have hcall : ∀ (tg : FuncId) (as : List Value) (ρ1 : Rho) (w1 : World) (lb l' y : Nat) (s1 : S) (Q1 : Res → Option AMode → S → Prop), Sub ρ ρ1 → ρ1 lb = some (l', y) → tgtOf fv [.func (.yield lb) #[] #[]] = some (.fn tg, as) →
      C ⟨.fn tg, as, none, s1, Q1⟩ → ∃ (dd : Deferred) (as' : Array Value), (resolve (Act.eval ⟨t, d⟩) (rangeCall g l') 0).run P w1 = .ok dd w1 ∧ (invoke dd.target dd.args).run P w1 = .ok (.enter tg as') w1 ∧ VRL ρ1 as as'.toList := by
    intro tg as ρ1 w1 lb l' y s1 Q1 hsub hlb ht hCx
    obtain ⟨mf, hmf⟩ := hfnC _ _ _ _ _ hCx
    obtain ⟨gf, hgf, hcf⟩ := hG.fn tg mf hmf
    have hv3 := hv2.mono hsub
    cases hv3 <;> simp only [tgtOf] at ht <;> first | (simp at ht; done) | skip
    rename_i ff a a' c c' hfirst hcap
    simp only [Option.some.injEq, Prod.mk.injEq, Tgt.fn.injEq] at ht
    obtain ⟨rfl, rfl⟩ := ht
    refine ⟨{ target := .fn (.func ff) c', args := a' ++ #[.func (.yield l') #[] #[]] }, a' ++ #[.func (.yield l') #[] #[]] ++ c', ?_, ?_, ?_⟩
    · simp only [resolve, rangeCall, hv1, Deferred.ofValue]; simp [Act.eval]
    · exact callFunc_run hgf hcf _
    · simp only [Array.toList_append]
      exact (hfirst.append (.cons (.yield hlb .nil .nil) .nil)).append hcap
  cases hfr : f.r with
  | none =>
    rw [hfr] at hr
    simp only at hr
    simp only [hfr] at h
    split at h <;> first | exact h.elim | skip
    rename_i tg as htg
    have hi1 : ρ s.c = none := hR.fresh _ (Nat.le_refl _)
    have hR1 := rel_new (c' := s.c + 1) (r := 0) hR hi1 (by omega) (by omega) (push_alloc (w := w) (o := .deferred (some []))) .dfrO
    have hE1 := ext_new (N := No) (c' := s.c + 1) (r := 0) (o := .dfr true) hR hi1 (by omega) (by omega) (.inr (Nat.le_refl _)) (push_alloc (w := w) (o := .deferred (some [])))
    have hi2 : (ρ.put s.c (w.heap.size, 0)) (s.c + 1) = none := hR1.fresh _ (Nat.le_refl _)
    have hsub1 : Sub ρ (ρ.put s.c (w.heap.size, 0)) := Rho.sub_put hi1
    have hsub2 := hsub1.trans (Rho.sub_put (x := ((w.alloc (.deferred (some []))).heap.size, 0)) hi2)
    have hpd : ((ρ.put s.c (w.heap.size, 0)).put (s.c + 1) ((w.alloc (.deferred (some []))).heap.size, 0)) s.c = some (w.heap.size, 0) := by
      rw [Rho.put_ne (by omega), Rho.put_same]
    have hOR : OR P ((ρ.put s.c (w.heap.size, 0)).put (s.c + 1) ((w.alloc (.deferred (some []))).heap.size, 0)) 0 (.loop .ready none f.t ps.toList ma mb s.c)
        (.loop { state := .ready, pending := none, fn := b.fn, tmps := t, params := ps, assign := asg, body := body, defers := w.heap.size }) :=
      .loop .none (hF.t.mono hsub2) rfl h1 h2 hpd hgb
    have hR2 := rel_new (c' := s.c + 2) (r := 0) hR1 hi2 (by simp only; omega) (by omega) (push_alloc (o := .loop { state := .ready, pending := none, fn := b.fn, tmps := t, params := ps, assign := asg, body := body, defers := w.heap.size })) hOR
    have hE2 := ext_new (N := No) (c' := s.c + 2) (r := 0) (o := .loop .ready none f.t ps.toList ma mb s.c) hR1 hi2 (by simp only; omega) (by omega) (.inr (Nat.le_refl _)) (push_alloc (o := .loop { state := .ready, pending := none, fn := b.fn, tmps := t, params := ps, assign := asg, body := body, defers := w.heap.size }))
    obtain ⟨dd, as', e1, e2, e3⟩ := hcall tg as _ ((w.alloc (.deferred (some []))).alloc (.loop { state := .ready, pending := none, fn := b.fn, tmps := t, params := ps, assign := asg, body := body, defers := w.heap.size })) (s.c + 1) (w.heap.size + 1) 0 _ _ hsub2
      (by rw [Rho.put_same, World.size_alloc]) htg h
    have hst := stepR_rangeFunc (P := P) (b := b) (a := ⟨t, d⟩) (k := k) (cs := cs) (by rw [hr]; exact run_enterLoop_outer _ _ _ _ _) e1 e2
    rw [← fr_atR, ← fr_atR] at hst
    have hF' : FR P ((ρ.put s.c (w.heap.size, 0)).put (s.c + 1) ((w.alloc (.deferred (some []))).heap.size, 0)) { f with d := .col s.c :: f.d } b t ([{ target := .collected w.heap.size, args := #[] }] ++ d) cs := by
      have := hF.mono hsub2
      exact ⟨this.t, .cons (.col hpd) this.d, this.m, this.r, this.fn⟩
    have hfe : ({ t := f.t, d := .col s.c :: f.d, m := f.m, r := none } : F) = { f with d := .col s.c :: f.d } := by rw [← hfr]
    rw [hfe] at h
    have hcm := range_call (k := k) hC hR2 (by rw [Rho.put_same, World.size_alloc]) hF' e3 h
    obtain ⟨x, f', s', ρ', w', t', d', cs', p1, p2, p3, p4, p5, p6⟩ := hcm
    exact ⟨x, f', s', ρ', w', t', d', cs', p1, p2, (hE1.trans hE2 (fun _ h => .inl h)).trans p3 (fun _ h => .inl h), p4, p5, p6.of_steps (.one hst)⟩
  | some l =>
    rw [hfr] at hr
    obtain ⟨l', xl, hl, hro⟩ := hr
    simp only [hfr] at h
    split at h <;> first | exact h.elim | skip
    rename_i st0 pend0 t0 ps0 asg0 body0 dfr hgl
    split at h <;> first | exact h.elim | skip
    rename_i tg as htg
    obtain ⟨o', ho1, ho2⟩ := hR.obj _ _ _ _ hgl hl
    cases ho2 with
    | loop hj ht hp hca hcb hdf hgf =>
      rename_i d0 x0 pend' fn0 g0 t0' ps0' asg0' body0'
      have hi1 : ρ s.c = none := hR.fresh _ (Nat.le_refl _)
      have hsub : Sub ρ (ρ.put s.c (w.heap.size, 0)) := Rho.sub_put hi1
      have hOR : OR P (ρ.put s.c (w.heap.size, 0)) 0 (.loop .ready none f.t ps.toList ma mb dfr)
          (.loop { state := .ready, pending := none, fn := b.fn, tmps := t, params := ps, assign := asg, body := body, defers := d0 }) :=
        .loop .none (hF.t.mono hsub) rfl h1 h2 (hsub _ _ hdf) hgb
      have hR2 := rel_new (c' := s.c + 1) (r := 0) hR hi1 (by omega) (by omega) (push_alloc (o := .loop { state := .ready, pending := none, fn := b.fn, tmps := t, params := ps, assign := asg, body := body, defers := d0 })) hOR
      have hE2 := ext_new (N := No) (c' := s.c + 1) (r := 0) (o := .loop .ready none f.t ps.toList ma mb dfr) hR hi1 (by omega) (by omega) (.inr (Nat.le_refl _)) (push_alloc (o := .loop { state := .ready, pending := none, fn := b.fn, tmps := t, params := ps, assign := asg, body := body, defers := d0 }))
      obtain ⟨dd, as', e1, e2, e3⟩ := hcall tg as _ (w.alloc (.loop { state := .ready, pending := none, fn := b.fn, tmps := t, params := ps, assign := asg, body := body, defers := d0 })) s.c w.heap.size 0 _ _ hsub
        (by rw [Rho.put_same]) htg h
      have hst := stepR_rangeFunc (P := P) (b := b) (a := ⟨t, d⟩) (k := k) (cs := cs) (by rw [hro]; exact run_enterLoop_inner ho1 _ _ _ _ _) e1 e2
      rw [← fr_atR, ← fr_atR] at hst
      have hcm := range_call (k := k) hC hR2 (by rw [Rho.put_same]) (hF.mono hsub) e3 h
      obtain ⟨x, f', s', ρ', w', t', d', cs', p1, p2, p3, p4, p5, p6⟩ := hcm
      exact ⟨x, f', s', ρ', w', t', d', cs', p1, p2, hE2.trans p3 (fun _ h => .inl h), p4, p5, p6.of_steps (.one hst)⟩
end
end Ev

/- Soundness of a frame's way out: results, deferred calls. -/
namespace Ev
open Go

section
variable {P : Program} {G : Pg} {C : CA → Prop} {ρ : Rho} {s : S} {w : World}

def rowOf (t : Array Value) : ResultVar → Sem Value
  | .tmp x => pure (t.getD x undef)
  | .cell a ty => do loadVar ty (← asAddr (t.getD a undef))

theorem results_eq (g : Func) (t : Array Value) : results g t = (do let vs ← g.results.mapM (rowOf t); pure (if h : vs.size = 1 then vs[0] else .tuple vs)) := by
  unfold results
  congr 1

theorem results_list {ft : List Value} {t : Array Value} (hR : Rel P ρ s w) (hT : VRL ρ ft t.toList) : ∀ {rv : List ResultVar} {rs : List (Nat × Option (Nat × Bool))} {vs : List Value},
    cResults P rv = some rs → resultsV s.h ft rs = some vs →
    ∃ vs', (rv.mapM (rowOf t)).run P w = .ok vs' w ∧ VRL ρ vs vs' := by
  have hget : ∀ n v, nth ft n = some v → ∃ v', t.getD n undef = v' ∧ VR ρ v v' := fun n v h => by
    obtain ⟨v', h1, h2⟩ := hT.nth h
    have h1' : t[n]? = some v' := by simpa using h1
    exact ⟨v', by simp [h1'], h2⟩
  intro rv
  induction rv with
  | nil =>
    intro rs vs h1 h2
    simp only [cResults, Option.some.injEq] at h1; subst h1
    simp only [resultsV, Option.some.injEq] at h2; subst h2
    exact ⟨[], by simp, .nil⟩
  | cons r rv ih =>
    intro rs vs h1 h2
    cases r with
    | tmp x =>
      simp only [cResults] at h1
      split at h1 <;> first | (simp at h1; done) | skip
      rename_i l hl
      simp only [Option.some.injEq] at h1; subst h1
      simp only [resultsV] at h2
      split at h2 <;> first | (simp at h2; done) | skip
      rename_i v hv
      split at h2 <;> first | (simp at h2; done) | skip
      rename_i vs0 hvs
      simp only [Option.some.injEq] at h2; subst h2
      obtain ⟨vs', q1, q2⟩ := ih hl hvs
      obtain ⟨v', q3, q4⟩ := hget x v hv
      refine ⟨v' :: vs', ?_, .cons q4 q2⟩
      rw [List.mapM_cons, run_bind_ok (show (rowOf t (.tmp x)).run P w = .ok v' w by simp only [rowOf, q3]; rfl), run_bind_ok q1]; rfl
    | cell a ty =>
      simp only [cResults] at h1
      split at h1 <;> first | (simp at h1; done) | skip
      rename_i n g l hs hl
      simp only [Option.some.injEq] at h1; subst h1
      simp only [resultsV] at h2
      split at h2 <;> first | (simp at h2; done) | skip
      rename_i v hv
      split at h2 <;> first | (simp at h2; done) | skip
      rename_i v1 hv1
      split at h2 <;> first | (simp at h2; done) | skip
      rename_i vs0 hvs
      simp only [Option.some.injEq] at h2; subst h2
      obtain ⟨vs', q1, q2⟩ := ih hl hvs
      obtain ⟨v', q3, q4⟩ := hget a v hv
      obtain ⟨ad, u', q5, q6, q7⟩ := loadV_sound hR hs q4 hv1
      refine ⟨u' :: vs', ?_, .cons q7 q2⟩
      rw [List.mapM_cons, run_bind_ok (show (rowOf t (.cell a ty)).run P w = .ok u' w by simp only [rowOf, q3, q5]; exact q6), run_bind_ok q1]; rfl

theorem results_sound {ft : List Value} {t : Array Value} {g : Func} (hR : Rel P ρ s w) (hT : VRL ρ ft t.toList) {rs : List (Nat × Option (Nat × Bool))} {vs : List Value}
    (h1 : cResults P g.results.toList = some rs) (h2 : resultsV s.h ft rs = some vs) : ∃ v', (results g t).run P w = .ok v' w ∧ VR ρ (retV vs) v' := by
  obtain ⟨vs', q1, q2⟩ := results_list hR hT h1 h2
  have hm : (g.results.mapM (rowOf t)).run P w = .ok vs'.toArray w := by
    rw [Array.mapM_eq_mapM_toList, Sem.run_map, q1]; rfl
  rw [results_eq, run_bind_ok hm]
  have hl := q2.length
  match vs, vs', q2 with
  | [], _, .nil => exact ⟨_, rfl, .tuple .nil⟩
  | [v], _, .cons h .nil => exact ⟨_, rfl, h⟩
  | v :: u :: vs, _, .cons h (.cons h' h'') => exact ⟨_, rfl, .tuple (.cons h (.cons h' h''))⟩

theorem settle_MR {u : AMode} {mm : FrameMode} (h : MR ρ u mm) : MR ρ (settleA u) (settle mm) := by
  cases h with
  | ret => exact .ret
  | @pan ch ch' h =>
    cases h with
    | nil => exact .pan .nil
    | @cons a b l m hab hl =>
      obtain ⟨v, r⟩ := a
      obtain ⟨v', r', g'⟩ := b
      obtain ⟨h1, h2, h3⟩ := hab
      simp only at h1 h2 h3
      subst h2; subst h3
      cases r' with
      | false => exact .pan (.cons ⟨h1, rfl, rfl⟩ hl)
      | true =>
        have : m.dropWhile (fun e => !e.goexit) = [] := by
          have hall : ∀ e ∈ m, e.goexit = false := fun e he => by
            obtain ⟨x, _, hx⟩ := hl.mem_right he
            exact hx.2.2
          clear hl
          induction m with
          | nil => rfl
          | cons e m ih =>
            rw [List.dropWhile_cons, hall e (List.mem_cons_self ..)]
            exact ih fun e he => hall e (List.mem_cons_of_mem _ he)
        simp only [settleA, settle, this]
        exact .ret

theorem raised_MR {u : AMode} {mm : FrameMode} {ch : Chain} {ch' : List PanicEntry} (h : MR ρ u mm) (hc : L2 (PR ρ) ch ch') : MR ρ (raisedA u ch) (raised mm ch') := by
  cases h with
  | ret => exact .pan hc
  | pan h => exact .pan (hc.append h)

theorem MR.ne_run {u : AMode} {mm : FrameMode} (h : MR ρ u mm) : mm ≠ .run := by cases h <;> simp

theorem unwind_sound (hG : Good P G) (hC : ∀ x, C x → Sound P x) (hfnC : ∀ g as m s Q, C ⟨.fn g, as, m, s, Q⟩ → ∃ m, G.fn g = some m) {gf : Func} {rs : List (Nat × Option (Nat × Bool))}
    (hrs : cResults P gf.results.toList = some rs) {ft : List Value} {Q : Res → Option AMode → S → Prop} {m : Option AMode} {cs : List Frame} :
    ∀ (ds : List ADef) (u : AMode) (s : S) (ρ : Rho) (w : World) (f0 : Frame), unwindQ C rs ft Q m ds u s → Rel P ρ s w → L2 (DR ρ) ds f0.defers → MR ρ u f0.mode → VRL ρ ft f0.tmps.toList →
      P.funcs[f0.fn]? = some gf →
      ∃ r s' ρ' w' f1, Q r m s' ∧ Rel P ρ' s' w' ∧ Ext No ρ s w ρ' s' w' ∧ Steps P (lone f0 cs w) (lone f1 cs w') ∧ f1.fn = f0.fn ∧ LeavesA P ρ' f1 w' f0.kind r := by
  intro ds
  induction ds with
  | nil =>
    intro u s ρ w f0 h hR hD hM hT hf
    cases hd : f0.defers with
    | cons x l => rw [hd] at hD; cases hD
    | nil =>
      cases hmode : f0.mode with
      | run => exact absurd hmode hM.ne_run
      | returning =>
        rw [hmode] at hM
        cases hM
        simp only [unwindQ] at h
        split at h <;> first | exact h.elim | skip
        rename_i vs hvs
        obtain ⟨v', q1, q2⟩ := results_sound hR hT hrs hvs
        exact ⟨_, s, ρ, w, f0, h, hR, Ext.refl _ _ _ _, Steps.refl .., rfl, hmode, hd, rfl, gf, v', hf, q1, q2⟩
      | panicking ch' =>
        rw [hmode] at hM
        cases hM with
        | pan hl => exact ⟨_, s, ρ, w, f0, h, hR, Ext.refl _ _ _ _, Steps.refl .., rfl, ch', hmode, hd, hl, gf, hf⟩
  | cons d ds ih =>
    intro u s ρ w f0 h hR hD hM hT hf
    cases hd : f0.defers with
    | nil => rw [hd] at hD; cases hD
    | cons x l =>
      rw [hd] at hD
      cases hD with
      | cons hx hl =>
        cases hx with
        | @col bb b' y hb =>
          simp only [unwindQ] at h
          split at h <;> first | exact h.elim | skip
          rename_i hg
          obtain ⟨o', ho1, ho2⟩ := hR.obj _ _ _ _ hg hb
          cases ho2
          have hlt := (Array.getElem?_eq_some_iff.1 ho1).1
          have hst := step_collected (P := P) (cs := cs) hM.ne_run hd rfl (run_takeDeferred ho1)
          have hR2 := rel_upd hR hg hb (upd_putObj (o := .deferred none) ho1) .dfrC
          have hE2 := ext_upd (ρ := ρ) No hg hb (upd_putObj (o := .deferred none) ho1) (o2 := .dfr false)
          obtain ⟨r, s', ρ', w', f1, q1, q2, q3, q4, q5, q6⟩ := ih u _ ρ _ { f0 with defers := [] ++ l } h hR2 hl hM hT hf
          exact ⟨r, s', ρ', w', f1, q1, q2, hE2.trans q3 (fun _ h => .inl h), Steps.head hst q4, q5, q6⟩
        | @fn f args cap as hargs =>
          simp only [unwindQ] at h
          obtain ⟨mf, hmf⟩ := hfnC _ _ _ _ _ h
          obtain ⟨gg, hgg, hcg⟩ := hG.fn f mf hmf
          have hst := step_defer (cs := cs) hM.ne_run hd rfl (callFunc_run (w := w) hgg hcg (as ++ cap))
          obtain ⟨r, m', s', ρ', w', f1, cs', q1, q2, q3, q4, q5, q6, q7⟩ := hC _ h ρ w (as ++ cap) ({ f0 with defers := l } :: cs) hR hargs (fun u' hu => by
            simp only [Option.some.injEq] at hu; subst hu
            exact ⟨_, _, rfl, hM⟩)
          simp only at q7
          obtain ⟨u', c0, rest, mm, rfl, hcs, rfl, hmm⟩ := q7
          injection hcs with hc1 hc2
          subst hc1; subst hc2
          simp only [Option.isSome_some, if_true] at q4 q6
          cases r with
          | ret v =>
            obtain ⟨p1, p2, p3, gfn, v', p4, p5, p6⟩ := q6
            have h2 := step_going_returned (P := P) (c := { { f0 with defers := l } with mode := mm }) (cs := cs) (w := w') p3 (v := v') ⟨p1, p2, gfn, p4, p5⟩
            obtain ⟨r, s2, ρ2, w2, f2, e1, e2, e3, e4, e5, e6⟩ := ih (settleA u') s' ρ' w' { { f0 with defers := l } with mode := settle mm } q1 q2 (hl.mono fun _ _ h => h.mono q3.sub) (settle_MR hmm) (hT.mono q3.sub) hf
            exact ⟨r, s2, ρ2, w2, f2, e1, e2, q3.trans e3 (fun _ h => .inl h), Steps.head hst (q4.trans (Steps.head h2 e4)), e5, e6⟩
          | panic ch =>
            obtain ⟨ch', p1, p2, p3, gfn, p4⟩ := q6
            have h2 := step_going_panicked (P := P) (c := { { f0 with defers := l } with mode := mm }) (cs := cs) (w := w') (chain := ch') ⟨p1, p2, gfn, p4⟩
            obtain ⟨r, s2, ρ2, w2, f2, e1, e2, e3, e4, e5, e6⟩ := ih (raisedA u' ch) s' ρ' w' { { f0 with defers := l } with mode := raised mm ch' } q1 q2 (hl.mono fun _ _ h => h.mono q3.sub) (raised_MR hmm p3) (hT.mono q3.sub) hf
            exact ⟨r, s2, ρ2, w2, f2, e1, e2, q3.trans e3 (fun _ h => .inl h), Steps.head hst (q4.trans (Steps.head h2 e4)), e5, e6⟩
end
end Ev

/- Soundness: what the transformer says of a call holds of the model's calls. -/
namespace Ev
open Go

section
variable {P : Program} {G : Pg} {C : CA → Prop} {ρ : Rho} {s : S} {w : World}

theorem code_sound (hG : Good P G) (hU : Up C) (hC : ∀ x, C x → Sound P x) (hfnC : ∀ g as m s Q, C ⟨.fn g, as, m, s, Q⟩ → ∃ m, G.fn g = some m) : ∀ c : Code, CodeOk P G C c := by
  intro c
  induction c with
  | skip => exact code_skip
  | region id ops draw =>
    intro m hm Q f s ρ w b t d cs k h hR hF
    exact region_sound hG hU hC hfnC hm h hR hF
  | seq a b iha ihb => exact code_seq iha ihb
  | cond c a b iha ihb => exact code_cond iha ihb
  | block id a iha => exact code_block iha
  | loop a iha => exact code_loop iha
  | scope a iha => exact code_scope iha
  | exit id => exact code_exit
  | label l => exact code_label
  | ret => exact code_ret
  | rangeFunc f ps a b _ _ => exact code_range hG hC hfnC
  | _ => intro m hm; simp [cCode] at hm

theorem fn_sound (hG : Good P G) (hU : Up C) (hC : ∀ x, C x → Sound P x) (hfnC : ∀ g as m s Q, C ⟨.fn g, as, m, s, Q⟩ → ∃ m, G.fn g = some m)
    {f : FuncId} {as : List Value} {m : Option AMode} {Q : Res → Option AMode → S → Prop} (h : Fn G C ⟨.fn f, as, m, s, Q⟩) : Sound P ⟨.fn f, as, m, s, Q⟩ := by
  simp only [Fn] at h
  split at h <;> first | exact h.elim | skip
  rename_i mf hmf
  obtain ⟨gf, hgf, hcf⟩ := hG.fn f mf hmf
  obtain ⟨c, hb, hcc, hrs, hnt, _⟩ := cFn_some hcf
  intro ρ w args' cs hR ha hm
  simp only at hR ha hm ⊢
  let kind : CallKind := if m.isSome then .deferred else .normal
  let b : Frame := { (default : Frame) with fn := f, kind := kind, roundOf := none }
  have hbk : b.kind = kind := rfl
  have henter : Frame.enter P f args' kind = fr b (args' ++ Array.replicate (gf.ntmps - args'.size) undef) [] [.code c] := by
    simp [Frame.enter, fr, hgf, hb, b, kind]
  have hF : FR P ρ { t := as ++ List.replicate (mf.ntmps - as.length) undef, d := [], m := m, r := none } b (args' ++ Array.replicate (gf.ntmps - args'.size) undef) [] cs := by
    refine ⟨?_, .nil, ?_, rfl, gf, hgf⟩
    · rw [Array.toList_append, Array.toList_replicate, hnt]
      have : as.length = args'.size := by rw [ha.length]; simp
      rw [this]
      exact ha.append (VRL.replicate _ (.tuple .nil))
    · cases m with
      | none => rfl
      | some u => obtain ⟨c0, rest, h1, h2⟩ := hm u rfl; exact ⟨rfl, c0, rest, h1, h2⟩
  obtain ⟨x, f', s', ρ', w', t', d', cs', q1, q2, q3, q4, q5, q6⟩ := code_sound hG hU hC hfnC c mf.code hcc _ _ s ρ w b _ [] cs [] h hR hF
  have hend : ∀ (u : AMode) (mode : FrameMode) (todo : List Item), unwindQ C mf.results f'.t Q f'.m f'.d u s' → MR ρ' u mode →
      Steps P (lone (fr b (args' ++ Array.replicate (gf.ntmps - args'.size) undef) [] [.code c]) cs w) (lone { fr b t' d' todo with mode := mode } cs' w') →
      ∃ r m' s' ρ' w' fr cs', Q r m' s' ∧ Rel P ρ' s' w' ∧ Ext No ρ s w ρ' s' w' ∧
        Steps P (lone (Frame.enter P f args' kind) cs w) (lone fr cs' w') ∧ fr.fn = f ∧ LeavesA P ρ' fr w' kind r ∧
        (match (generalizing := false) m with
          | none => m' = none ∧ cs' = cs
          | some _ => ∃ u' c0 rest mm, m' = some u' ∧ cs = c0 :: rest ∧ cs' = { c0 with mode := mm } :: rest ∧ MR ρ' u' mm) := by
    intro u mode todo hu hmode hst
    obtain ⟨r, s2, ρ2, w2, f2, e1, e2, e3, e4, e5, e6⟩ := unwind_sound (cs := cs') hG hC hfnC hrs f'.d u s' ρ' w' { fr b t' d' todo with mode := mode } hu q2 q4.d hmode q4.t hgf
    rw [henter]
    refine ⟨r, f'.m, s2, ρ2, w2, f2, cs', e1, e2, q3.trans e3 (fun _ h => .inl h), hst.trans e4, e5, e6, ?_⟩
    have hcb := q4.m
    cases m with
    | none =>
      have hk : b.kind = .normal := rfl
      cases hfm : f'.m with
      | none =>
        refine ⟨rfl, ?_⟩
        rcases q5 with e | ⟨e, _⟩
        · exact e
        · rw [hk] at e; cases e
      | some u' =>
        rw [hfm] at hcb
        have := hcb.1
        rw [hk] at this; cases this
    | some u0 =>
      have hk : b.kind = .deferred := rfl
      cases hfm : f'.m with
      | none =>
        rw [hfm] at hcb
        have hcb' : b.kind = .normal := hcb
        rw [hk] at hcb'; cases hcb'
      | some u' =>
        rw [hfm] at hcb
        obtain ⟨_, c1, rest1, h1, h2⟩ := hcb
        obtain ⟨c0, rest, h3, h4⟩ := hm u0 rfl
        refine ⟨u', c0, rest, c1.mode, rfl, h3, ?_, h2.mono e3.sub⟩
        rcases q5 with e | ⟨_, c2, rest2, mm, h5, h6⟩
        · rw [e, h3] at h1 ⊢
          injection h1 with h1 h1'
          subst h1; rfl
        · rw [h3] at h5
          injection h5 with h5 h5'
          subst h5; subst h5'
          rw [h6] at h1 ⊢
          injection h1 with h1 h1'
          rw [← h1]
  cases x with
  | normal => exact hend .ret .returning [] q1 .ret (q6.trans (.one (st_end rfl)))
  | ret => obtain ⟨k0, q6⟩ := q6; exact hend .ret .returning (.code .ret :: k0) q1 .ret (q6.trans (.one (st_ret rfl)))
  | panic ch => obtain ⟨k0, ch', q6, q7⟩ := q6; exact hend (.pan ch) (.panicking ch') k0 q1 (.pan q7) q6
  | exit id => exact q1.elim

theorem updA_rel : ∀ (ps : List Nat) (as : List Value) (as' : List Value) (t : List Value) (t' : Array Value), VRL ρ t t'.toList → VRL ρ as as' → ps.length = as.length →
    VRL ρ (updA t ps as) ((ps.zip as').foldl (fun tmps x => tmps.setIfInBounds x.1 x.2) t').toList := by
  intro ps
  induction ps with
  | nil => intro as as' t t' ht ha hl; cases as with
    | nil => exact ht
    | cons a as => simp at hl
  | cons p ps ih =>
    intro as as' t t' ht ha hl
    cases ha with
    | nil => simp at hl
    | cons h hs =>
      simp only [updA, List.zip_cons_cons, List.foldl_cons]
      exact ih _ _ _ _ (by rw [Array.toList_setIfInBounds]; exact ht.upd p h) hs (by simpa using hl)

theorem yield_sound (hG : Good P G) (hU : Up C) (hC : ∀ x, C x → Sound P x) (hfnC : ∀ g as m s Q, C ⟨.fn g, as, m, s, Q⟩ → ∃ m, G.fn g = some m)
    {l : Id} {as : List Value} {m : Option AMode} {Q : Res → Option AMode → S → Prop} (h : Fn G C ⟨.yield l, as, m, s, Q⟩) : Sound P ⟨.yield l, as, m, s, Q⟩ := by
  simp only [Fn] at h
  split at h <;> first | exact h.elim | skip
  rename_i st0 pend0 t0 ps asg body dfr0 hg0
  obtain ⟨hlen, h⟩ := h
  intro ρ w args' l' y c cs hR hl ha
  simp only at hR ha ⊢
  obtain ⟨o', ho1, ho2⟩ := hR.obj _ _ _ _ hg0 hl
  cases ho2 with
  | loop hj ht hp hca hcb hd hgf =>
    rename_i d0 x0 pend' fn0 g0 t0' ps0' asg0' body0'
    have hsz : args'.size = ps0'.size := by
      have e1 := ha.length
      have e2 : ps0'.size = ps.length := by rw [← hp]; simp
      rw [e2, ← hlen, e1]; simp
    refine ⟨fn0, _, asg0', body0', run_yield ho1 hsz, ?_⟩
    simp only
    let b : Frame := { (default : Frame) with fn := fn0, kind := .normal, roundOf := some l' }
    generalize htm : (ps0'.zip args').foldl (fun tmps (x : Tmp × Value) => tmps.setIfInBounds x.1 x.2) t0' = tm
    have hround : Frame.round l' fn0 tm asg0' body0' .normal = fr b tm [] [.code asg0', .beginRound, .code body0'] := by simp [Frame.round, fr, b]
    have hT : VRL ρ (updA t0 ps as) tm.toList := by
      have := updA_rel ps as args'.toList t0 t0' ht ha hlen.symm
      rw [← hp] at this
      rw [← htm, ← Array.foldl_toList, Array.toList_zip, ← hp]
      exact this
    have hF : FR P ρ { t := updA t0 ps as, d := [], m := none, r := some l } b tm [] (c :: cs) := ⟨hT, .nil, rfl, ⟨l', y, hl, rfl⟩, g0, hgf⟩
    obtain ⟨x1, f1, s1, ρ1, w1, t1, d1, cs1, q1, q2, q3, q4, q5, q6⟩ := code_sound hG hU hC hfnC asg0' asg hca _ _ s ρ w b tm [] (c :: cs) [.beginRound, .code body0'] h hR hF
    have hcs1 : cs1 = c :: cs := by
      rcases q5 with e | ⟨e, _⟩
      · exact e
      · cases e
    subst hcs1
    cases x1 <;> simp only at q1 <;> first | exact q1.elim | skip
    split at q1 <;> first | exact q1.elim | skip
    rename_i pend1 t1a ps1 asg1 body1 dfr1 hg1
    have hl1 := q3.sub _ _ hl
    obtain ⟨o1, ho3, ho4⟩ := q2.obj _ _ _ _ hg1 hl1
    cases ho4 with
    | loop hj1 ht1 hp1 hca1 hcb1 hd1 hgf1 =>
      rename_i d1' x1' pend1' fn1 g1 t1' ps1' asg1' body1'
      have hlt1 := (Array.getElem?_eq_some_iff.1 ho3).1
      have hst1 := stepR_beginRound (P := P) (b := b) (a := ⟨t1, d1⟩) (k := [.code body0']) (cs := c :: cs) rfl (run_beginRound ho3 rfl)
      rw [← fr_atR, ← fr_atR] at hst1
      have hR2 := rel_upd q2 hg1 hl1 (upd_putObj (o := .loop { state := .busy, pending := pend1', fn := fn1, tmps := t1', params := ps1', assign := asg1', body := body1', defers := d1' }) ho3)
        (.loop (st := .busy) hj1 ht1 hp1 hca1 hcb1 hd1 hgf1)
      have hE2 := ext_upd (ρ := ρ1) No hg1 hl1 (upd_putObj (o := .loop { state := .busy, pending := pend1', fn := fn1, tmps := t1', params := ps1', assign := asg1', body := body1', defers := d1' }) ho3)
        (o2 := .loop .busy pend1 t1a ps1 asg1 body1 dfr1)
      obtain ⟨x2, f2, s2, ρ2, w2, t2, d2, cs2, p1, p2, p3, p4, p5, p6⟩ := code_sound hG hU hC hfnC body0' body hcb _ _ _ ρ1 _ b t1 d1 (c :: cs) [] q1 hR2 q4
      have hcs2 : cs2 = c :: cs := by
        rcases p5 with e | ⟨e, _⟩
        · exact e
        · cases e
      subst hcs2
      have hEE := (q3.trans hE2 (fun _ h => .inl h)).trans p3 (fun _ h => .inl h)
      have hsteps := Steps.trans q6 (.one hst1)
      rw [← hround] at hsteps
      simp only [roundQ] at p1
      split at p1 <;> first | exact p1.elim | skip
      rename_i hfd
      have hd2 : d2 = [] := by
        have := p4.d
        rw [hfd] at this
        cases this; rfl
      subst hd2
      have hlk := p3.sub _ _ hl1
      have finish : ∀ (jump : Option Code) (pq : Option Ex), JR pq jump → (∀ st t ps asg body dfr pe, s2.h.get l = some (.loop st pe t ps asg body dfr) →
          Q (.ret (.bool jump.isNone)) none { s2 with h := s2.h.set l (some (.loop (if jump.isNone then .ready else .done) pq t ps asg body dfr)) }) →
          (∃ st t ps asg body dfr pe, s2.h.get l = some (.loop st pe t ps asg body dfr)) →
          (∀ v w3, (Instr.endRound l' jump).run P w2 = .ok v w3 → Steps P (lone (Frame.round l' fn0 tm asg0' body0' .normal) (c :: cs) w) (lone (c.finish v) cs w3)) →
          ∃ r s' ρ' w' c', Q r none s' ∧ Rel P ρ' s' w' ∧ Ext No ρ s w ρ' s' w' ∧ Steps P (lone (Frame.round l' fn0 tm asg0' body0' .normal) (c :: cs) w) (lone c' cs w') ∧ Back ρ' c r c' := by
        intro jump pq hjr hq hget hst
        obtain ⟨st, tt, ps2, asg2, body2, dfr2, pe, hg2⟩ := hget
        have hq := hq st tt ps2 asg2 body2 dfr2 pe hg2
        obtain ⟨o5, ho5, ho6⟩ := p2.obj _ _ _ _ hg2 hlk
        cases ho6 with
        | loop hj2 ht2 hp2 hca2 hcb2 hd2 hgf2 =>
          rename_i d2' x2' pend2' fn2 g2 t2' ps2' asg2' body2'
          have hlt2 := (Array.getElem?_eq_some_iff.1 ho5).1
          have hst := hst _ _ (run_endRound jump ho5)
          have hR3 := rel_upd p2 hg2 hlk (upd_putObj (o := .loop { state := if jump.isNone then .ready else .done, pending := jump, fn := fn2, tmps := t2', params := ps2', assign := asg2', body := body2', defers := d2' }) ho5)
            (.loop (st := if jump.isNone then .ready else .done) hjr ht2 hp2 hca2 hcb2 hd2 hgf2)
          have hE3 := ext_upd (ρ := ρ2) No hg2 hlk (upd_putObj (o := .loop { state := if jump.isNone then .ready else .done, pending := jump, fn := fn2, tmps := t2', params := ps2', assign := asg2', body := body2', defers := d2' }) ho5)
            (o2 := .loop (if jump.isNone then .ready else .done) pq tt ps2 asg2 body2 dfr2)
          exact ⟨_, _, ρ2, _, _, hq, hR3, hEE.trans hE3 (fun _ h => .inl h), hst, _, .bool _, rfl⟩
      cases x2 with
      | panic ch =>
        obtain ⟨k0, ch', e1, e2⟩ := p6
        have hst := step_leave_panicked (P := P) (fr := { fr b t2 [] k0 with mode := .panicking ch' }) (c := c) (cs := cs) (w := w2) (chain := ch') ⟨rfl, rfl, g0, hgf⟩
        exact ⟨.panic ch, s2, ρ2, w2, c.raise ch', p1, p2, hEE, hsteps.trans (e1.trans (.one hst)), ch', e2, rfl⟩
      | normal =>
        simp only at p1
        split at p1 <;> first | exact p1.elim | skip
        rename_i hgx
        refine finish none none .none (fun st t ps asg body dfr pe hg => ?_) ⟨_, _, _, _, _, _, _, hgx⟩ (fun v w3 hv => (hsteps.trans p6).trans (.one (stepR_round_end (b := b) (a := ⟨t2, []⟩) rfl rfl hv)))
        rw [hgx] at hg
        simp only [Option.some.injEq, AObj.loop.injEq] at hg
        obtain ⟨rfl, rfl, rfl, rfl, rfl, rfl, rfl⟩ := hg
        exact p1
      | exit id =>
        simp only at p1
        split at p1 <;> first | exact p1.elim | skip
        rename_i hgx
        obtain ⟨k0, e1, e2⟩ := p6
        refine finish (some (.exit id)) (some (.exit id)) (.exit id) (fun st t ps asg body dfr pe hg => ?_) ⟨_, _, _, _, _, _, _, hgx⟩ (fun v w3 hv => (hsteps.trans e1).trans (.one (stepR_round_exit (b := b) (a := ⟨t2, []⟩) rfl rfl e2 hv)))
        rw [hgx] at hg
        simp only [Option.some.injEq, AObj.loop.injEq] at hg
        obtain ⟨rfl, rfl, rfl, rfl, rfl, rfl, rfl⟩ := hg
        exact p1
      | ret =>
        simp only at p1
        split at p1 <;> first | exact p1.elim | skip
        rename_i hgx
        obtain ⟨k0, e1⟩ := p6
        refine finish (some .ret) (some .ret) .ret (fun st t ps asg body dfr pe hg => ?_) ⟨_, _, _, _, _, _, _, hgx⟩ (fun v w3 hv => (hsteps.trans e1).trans (.one (stepR_round_ret (b := b) (a := ⟨t2, []⟩) rfl rfl hv)))
        rw [hgx] at hg
        simp only [Option.some.injEq, AObj.loop.injEq] at hg
        obtain ⟨rfl, rfl, rfl, rfl, rfl, rfl, rfl⟩ := hg
        exact p1

theorem Cl_sound (hG : Good P G) {x : CA} (h : Cl G x) : Sound P x := by
  refine (h (fun x => Sound P x ∧ ∀ g, x.tgt = .fn g → ∃ m, G.fn g = some m) ?_ ?_ ?_).1
  · exact fun x Q' hx hQ => ⟨Sound.up x Q' hx.1 hQ, hx.2⟩
  · intro y hy
    have hU : Up (fun x => Sound P x ∧ ∀ g, x.tgt = .fn g → ∃ m, G.fn g = some m) := fun x Q' hx hQ => ⟨Sound.up x Q' hx.1 hQ, hx.2⟩
    obtain ⟨tgt, as, m, s, Q⟩ := y
    cases tgt with
    | fn f =>
      refine ⟨fn_sound hG hU (fun _ h => h.1) (fun g as m s Q h => h.2 g rfl) hy, fun g e => ?_⟩
      simp only [Tgt.fn.injEq] at e; subst e
      simp only [Fn] at hy
      split at hy <;> first | exact hy.elim | exact ⟨_, by assumption⟩
    | yield l => exact ⟨yield_sound hG hU (fun _ h => h.1) (fun g as m s Q h => h.2 g rfl) hy, fun g e => by cases e⟩
  · exact fun y hy => hG.sem y hy

/-- What has come of a call, in the model's words. -/
def EndR (ρ : Rho) : Res → Ending → Prop
  | .ret v, .returned v' => VR ρ v v'
  | .panic ch, .panicked ch' => L2 (PR ρ) ch ch'
  | _, _ => False

theorem calls_of_Cl (hG : Good P G) {f : FuncId} {as : List Value} {Q : Res → Option AMode → S → Prop} (h : Cl G ⟨.fn f, as, none, s, Q⟩) (hR : Rel P ρ s w) {args : Array Value} (ha : VRL ρ as args.toList) :
    Calls P f args w fun e w' => ∃ r s' ρ', Q r none s' ∧ Rel P ρ' s' w' ∧ Ext No ρ s w ρ' s' w' ∧ EndR ρ' r e := by
  intro cs
  obtain ⟨r, m', s', ρ', w', f', cs', q1, q2, q3, q4, q5, q6, q7⟩ := Cl_sound hG h ρ w args cs hR ha (fun u hu => by cases hu)
  obtain ⟨rfl, rfl⟩ := q7
  cases r with
  | ret v =>
    obtain ⟨e1, e2, e3, gfn, v', e4, e5, e6⟩ := q6
    exact ⟨.returned v', w', f', ⟨_, s', ρ', q1, q2, q3, e6⟩, q4, q5, e1, e2, e3, gfn, e4, e5⟩
  | panic ch =>
    obtain ⟨ch', e1, e2, e3, gfn, e4⟩ := q6
    exact ⟨.panicked ch', w', f', ⟨_, s', ρ', q1, q2, q3, e3⟩, q4, q5, e1, e2, gfn, e4⟩
end
end Ev

/- A table of compiled functions, and that it is the program's. -/
namespace Ev
open Go

inductive AllG (P : Program) : Nat → List (Option MFn) → Prop where
  | nil (i : Nat) : AllG P i []
  | no {i : Nat} {l : List (Option MFn)} : AllG P (i + 1) l → AllG P i (none :: l)
  | yes {i : Nat} {g : Func} {m : MFn} {l : List (Option MFn)} : P.funcs[i]? = some g → cFn P g = some m → AllG P (i + 1) l → AllG P i (some m :: l)

theorem AllG.get {P : Program} {l : List (Option MFn)} : ∀ {i j : Nat} {m : MFn}, AllG P i l → nth l j = some (some m) → ∃ g, P.funcs[i + j]? = some g ∧ cFn P g = some m := by
  induction l with
  | nil => intro i j m _ h; simp [nth] at h
  | cons x l ih =>
    intro i j m ha h
    cases j with
    | zero =>
      simp only [nth, Option.some.injEq] at h; subst h
      cases ha with
      | yes h1 h2 _ => exact ⟨_, h1, h2⟩
    | succ j =>
      simp only [nth] at h
      have : ∃ g, P.funcs[i + 1 + j]? = some g ∧ cFn P g = some m := by
        cases ha with
        | no h1 => exact ih h1 h
        | yes _ _ h1 => exact ih h1 h
      rw [show i + (j + 1) = i + 1 + j by omega]
      exact this

def fnOf (tbl : List (Option MFn)) : FuncId → Option MFn := fun f => match nth tbl f with
  | some r => r
  | none => none

/-- A program with no methods by dynamic types, and no functions without a body. -/
def pgOf (tbl : List (Option MFn)) : Pg := ⟨fnOf tbl, fun _ _ => none, fun _ => none, fun _ => False⟩

theorem good_of {P : Program} {tbl : List (Option MFn)} (h : AllG P 0 tbl) (hm : P.follows .mixedOrders = true) : Good P (pgOf tbl) where
  fn := fun f m hf => by
    simp only [pgOf, fnOf] at hf
    split at hf <;> first | (simp at hf; done) | skip
    rename_i r hr
    subst hf
    have := h.get hr
    simpa using this
  meth := fun t n f h => by simp [pgOf] at h
  ext := fun f e h => by simp [pgOf] at h
  sem := fun x h => by simp [pgOf] at h
  mixed := hm
end Ev

/- Values of the program: what is right. -/
namespace Ev
open Go

theorem order_self (b : Nat) : (FloatKind.format .f64).order b b = if b % 9223372036854775808 ≤ 9218868437227405312 then some .eq else none := by
  have h1 : Ieee.double.signWeight = 9223372036854775808 := by kernel_rfl
  have h2 : Ieee.double.infRung = 9218868437227405312 := by kernel_rfl
  have h3 : Ieee.double.binade = 4503599627370496 := by kernel_rfl
  have hc : ∀ x : Int, compare x x = .eq := fun x => by simp
  have hn : ∀ x : Nat, compare x x = .eq := fun x => by simp
  show (Ieee.double.read b).order (Ieee.double.read b) = _
  unfold Ieee.Format.read
  simp only [h1, h2, h3]
  split
  · rw [if_pos (by omega)]
    simp [Ieee.Datum.order]
  · split
    · rw [if_pos (by omega)]
      simp [Ieee.Datum.order]
    · split
      · rw [if_pos (by omega)]
        simp [Ieee.Datum.order]
      · rw [if_neg (by omega)]
        simp [Ieee.Datum.order]

theorem andNot_sign {n : Int} (h0 : 0 ≤ n) (h1 : n < 18446744073709551616) : intBin .andNot .u64 n .u64 9223372036854775808 = some (.int .u64 (n % 9223372036854775808)) := by
  have e1 : ~~~(BitVec.ofInt 64 9223372036854775808) = BitVec.ofNat 64 (2 ^ 63 - 1) := by decide
  have e2 : (BitVec.ofInt 64 n).toNat = n.toNat := by
    rw [BitVec.toNat_ofInt]; omega
  have e3 : (BitVec.ofInt 64 n &&& ~~~(BitVec.ofInt 64 9223372036854775808)).toNat = n.toNat % 9223372036854775808 := by
    rw [e1, BitVec.toNat_and, e2, BitVec.toNat_ofNat]
    rw [show (2 ^ 63 - 1) % 2 ^ 64 = 2 ^ 63 - 1 by decide, Nat.and_two_pow_sub_one_eq_mod]
  have hw : ∀ x : Int, 0 ≤ x → x < 18446744073709551616 → IntKind.u64.wrap x = x := by
    intro x hx hx2
    simp [IntKind.wrap, IntKind.bits, IntKind.signed]
    omega
  show pv (Op.intBits .andNot .u64 n 9223372036854775808) = _
  have : Op.intBits .andNot .u64 n 9223372036854775808 = .pure (.int .u64 (IntKind.u64.wrap ((BitVec.ofInt 64 n &&& ~~~(BitVec.ofInt 64 9223372036854775808)).toNat : Nat))) := rfl
  rw [this, e3, hw _ (by omega) (by omega)]
  simp only [pv]
  congr 2
  omega

/-- A value that may be: no NaN but one. -/
def rightB (n : Int) : Bool := decide (n % 9223372036854775808 ≤ 9218868437227405312) || n == 9221120237041090560
end Ev

/- An evaluator that runs compiled code: what it comes to, the transformer says of it. -/
namespace Ev
open Go

/-- What an operation has come to. -/
inductive RO where
  | val (v : Value) (fr : F) (s : S)
  | pan (ch : Chain) (fr : F) (s : S)

def RO.holds (K : KV) (tight : Bool) (Q : KX) : RO → Prop
  | .val v fr s => K v fr s
  | .pan ch fr s => tight = true ∧ Q (.panic ch) fr s

abbrev RunE := Tgt → List Value → Option AMode → S → Option (Res × Option AMode × S)

/-- Values that are the same, of the plain kinds. -/
def veq : Nat → Value → Value → Bool
  | 0, _, _ => false
  | n + 1, x, y => match x, y with
    | .bool a, .bool b => a == b
    | .int k a, .int k' b => decide (k = k') && decide (a = b)
    | .string a, .string b => decide (a.data.toList = b.data.toList)
    | .pointer none, .pointer none => true
    | .pointer (some a), .pointer (some b) => decide (a = b)
    | .slice none i c, .slice none j d => Nat.beq i j && Nat.beq c d
    | .slice (some a) i c, .slice (some b) j d => decide (a = b) && Nat.beq i j && Nat.beq c d
    | .map a, .map b => decide (a = b)
    | .nilFunc, .nilFunc => true
    | .nilIface, .nilIface => true
    | .agg a, .agg b => veqL n a.toList b.toList
    | .tuple a, .tuple b => veqL n a.toList b.toList
    | _, _ => false
where
  veqL (n : Nat) : List Value → List Value → Bool
    | [], [] => true
    | x :: l, y :: m => veq n x y && veqL n l m
    | _, _ => false

theorem veq_eq : ∀ (n : Nat) (x y : Value), veq n x y = true → x = y := by
  intro n
  induction n with
  | zero => intro x y h; simp [veq] at h
  | succ n ih =>
    have hl : ∀ l m : List Value, veq.veqL n l m = true → l = m := by
      intro l
      induction l with
      | nil => intro m h; cases m with
        | nil => rfl
        | cons _ _ => simp [veq.veqL] at h
      | cons a l ihl => intro m h; cases m with
        | nil => simp [veq.veqL] at h
        | cons b m => simp only [veq.veqL, Bool.and_eq_true] at h; rw [ih a b h.1, ihl m h.2]
    intro x y h
    unfold veq at h
    split at h <;> (try simp only [Bool.and_eq_true, beq_iff_eq, decide_eq_true_eq] at h) <;> first
      | rfl
      | (cases h; done)
      | (rw [h]; done)
      | (rw [h.1, h.2]; done)
      | (rw [Nat.eq_of_beq_eq_true h.1, Nat.eq_of_beq_eq_true h.2]; done)
      | (rw [h.1.1, Nat.eq_of_beq_eq_true h.1.2, Nat.eq_of_beq_eq_true h.2]; done)
      | (have := hl _ _ h; rw [Array.toList_inj] at this; rw [this]; done)
      | (rename_i a b; obtain ⟨⟨a⟩⟩ := a; obtain ⟨⟨b⟩⟩ := b; simp only at h; subst h; rfl)

def oeq (a b : Option AObj) : Bool := match a, b with
  | some (.cells c t l h), some (.cells c' t' l' h') => veq.veqL 6 c c' && Nat.beq t t' && Nat.beq l l' && Nat.beq h h'
  | some (.map [] c), some (.map [] c') => Nat.beq c c'
  | _, _ => false

theorem oeq_eq {a b : Option AObj} (h : oeq a b = true) : a = b := by
  unfold oeq at h
  split at h <;> first | (cases h; done) | skip
  · simp only [Bool.and_eq_true] at h
    obtain ⟨⟨⟨h1, h2⟩, h3⟩, h4⟩ := h
    have hl : ∀ l m : List Value, veq.veqL 6 l m = true → l = m := by
      intro l
      induction l with
      | nil => intro m h; cases m with
        | nil => rfl
        | cons _ _ => simp [veq.veqL] at h
      | cons a l ihl => intro m h; cases m with
        | nil => simp [veq.veqL] at h
        | cons b m => simp only [veq.veqL, Bool.and_eq_true] at h; rw [veq_eq _ a b h.1, ihl m h.2]
    rw [hl _ _ h1, Nat.eq_of_beq_eq_true h2, Nat.eq_of_beq_eq_true h3, Nat.eq_of_beq_eq_true h4]
  · rw [Nat.eq_of_beq_eq_true h]

def vopt : Option Value → Option Value → Bool
  | some a, some b => veq 6 a b
  | _, _ => false

theorem vopt_eq {a b : Option Value} (h : vopt a b = true) : a = b := by
  cases a <;> cases b <;> simp only [vopt] at h <;> first | (cases h; done) | skip
  rw [veq_eq _ _ _ h]

def againB : List (Bool × Option Nat × Option (Nat × Bool) × Nat × MK) → List Value → Nat → Heap → Heap → Bool
  | [], _, _, _, _ => true
  | (isA, _, g, at_, k) :: l, t, c0, h, h' =>
    (match wantedM g t with
      | true => if isA then oeq (h'.get (c0 + at_)) (h.get (c0 + at_)) else vopt (evR k t h') (evR k t h)
      | false => true) && againB l t c0 h h'

theorem againB_again : ∀ {l : List (Bool × Option Nat × Option (Nat × Bool) × Nat × MK)} {t : List Value} {c0 : Nat} {h h' : Heap}, againB l t c0 h h' = true → again l t c0 h h' := by
  intro l
  induction l with
  | nil => intro t c0 h h' _; trivial
  | cons x l ih =>
    intro t c0 h h' hb
    obtain ⟨a, d, g, i, k⟩ := x
    simp only [againB, Bool.and_eq_true] at hb
    refine ⟨fun hw => ?_, ih hb.2⟩
    have hb := hb.1
    simp only [hw] at hb
    cases a
    · exact vopt_eq hb
    · exact oeq_eq hb

section
variable (G : Pg) (E : RunE) (N : Nat)

def ofRes (fr : F) : Option (Res × Option AMode × S) → Option RO
  | some (.ret v, _, s) => some (.val v fr s)
  | some (.panic ch, _, s) => some (.pan ch fr s)
  | none => none

def runCtl (k : MK) (fr : F) (s : S) : Option RO :=
  match k with
  | .call f xs => match eval fr.t f, evals fr.t xs with
    | some fv, some vs => match tgtOf fv vs with
      | some (tg, as) => match extOf G tg with
        | some e => match e as with
          | some v => some (.val v fr s)
          | none => none
        | none => ofRes fr (E tg as none s)
      | none => none
    | _, _ => none
  | .invoke x name xs => match eval fr.t x, evals fr.t xs with
    | some (.iface t v), some vs => match G.meth t name with
      | some f => ofRes fr (E (.fn f) (v :: vs) none s)
      | none => none
    | _, _ => none
  | .defer f xs => match eval fr.t f, evals fr.t xs with
    | some fv, some vs => match tgtOf fv vs, fr.r with
      | some (.fn g, as), none => some (.val undef { fr with d := .fn g as :: fr.d } s)
      | _, _ => none
    | _, _ => none
  | .recover => match fr.r with
    | some _ => none
    | none => match fr.m with
      | some (.pan ((v, false) :: older)) => some (.val v { fr with m := some (.pan ((v, true) :: older)) } s)
      | _ => some (.val .nilIface fr s)
  | .panic x => match eval fr.t x with
    | some (.iface t v) => some (.pan [(.iface t v, false)] fr s)
    | _ => none
  | .nextMap it => match eval fr.t it with
    | some (.pointer (some ⟨r, 0, _⟩)) => match s.h.get r with
      | some (.mapIter none _ _ _) => some (.val (.tuple #[.bool false]) fr s)
      | some (.mapIter (some m) since seen last) => match s.h.get m with
        | some (.map es clock) => match (!seen.isEmpty && !es.isEmpty && es.all (fun e => Nat.ble last e.born)) with
          | false => match es.filter fun e => !seen.contains e.born with
            | [] => some (.val (.tuple #[.bool false]) fr s)
            | [e] => match Nat.blt e.born since with
              | true => some (.val (.tuple #[.bool true, e.key, e.val]) fr { s with h := s.h.set r (some (.mapIter (some m) since (seen ++ [e.born]) clock)) })
              | false => none
            | _ => none
          | true => none
        | _ => none
      | _ => none
    | _ => none
  | _ => none

def runM (k : MK) (slot : Id) (fr : F) (s : S) : Option RO :=
  match cls k with
  | .p => match evP k fr.t with
    | some v => some (.val v fr s)
    | none => none
  | .r => match evR k fr.t s.h with
    | some v => some (.val v fr s)
    | none => none
  | .a => match evA k fr.t with
    | some (o, g) => some (.val (g slot) fr { s with h := s.h.set slot (some o) })
    | none => none
  | .w => match evS k fr.t s with
    | some (v, s') => some (.val v fr s')
    | none => none
  | .c => runCtl G E k fr s

def runOps (c0 : Nat) : List MO → F → S → Option (Ex × F × S)
  | [], fr, s => some (.normal, fr, s)
  | o :: os, fr, s => match wantedM o.guard fr.t with
    | true => match runM G E o.k (c0 + o.at_) fr s with
      | some (.val v fr' s') => match againB o.re fr.t c0 s.h s'.h with
        | true => runOps c0 os (fr'.put o.dst v) s'
        | false => none
      | some (.pan ch fr' s') => match o.tight with
        | true => some (.panic ch, fr', s')
        | false => none
      | none => none
    | false => runOps c0 os (fr.put o.dst undef) s

def loopR (body : F → S → Option (Ex × F × S)) : Nat → F → S → Option (Ex × F × S)
  | 0, _, _ => none
  | n + 1, fr, s => match body fr s with
    | some (.normal, fr', s') => loopR body n fr' s'
    | r => r

def endR (l : Id) (fr : F) : Option (Res × Option AMode × S) → Option (Ex × F × S)
  | some (.panic ch, _, s) => some (.panic ch, fr, s)
  | some (.ret _, _, s) => match s.h.get l with
    | some (.loop .busy _ _ _ _ _ _) => none
    | some (.loop _ pend t ps asg body dfr) => match pend with
      | none => some (.normal, fr, { s with h := s.h.set l (some (.loop .exhausted pend t ps asg body dfr)) })
      | some x => some (x, fr, { s with h := s.h.set l (some (.loop .exhausted pend t ps asg body dfr)) })
    | _ => none
  | none => none

def runC : MC → F → S → Option (Ex × F × S)
  | .skip, fr, s => some (.normal, fr, s)
  | .region n ops, fr, s => runOps G E s.c ops fr { s with c := s.c + n }
  | .seq a b, fr, s => match runC a fr s with
    | some (.normal, fr', s') => runC b fr' s'
    | r => r
  | .cond c a b, fr, s => match eval fr.t c with
    | some (.bool true) => runC a fr s
    | some (.bool false) => runC b fr s
    | _ => none
  | .block id a, fr, s => match runC a fr s with
    | some (.exit i, fr', s') => bif Nat.beq i id then some (.normal, fr', s') else some (.exit i, fr', s')
    | r => r
  | .loop a, fr, s => loopR (runC a) N fr s
  | .exit id, fr, s => some (.exit id, fr, s)
  | .ret, fr, s => some (.ret, fr, s)
  | .rangeF f ps asg body, fr, s => match eval fr.t f with
    | some fv =>
      match fr.r with
      | none => match tgtOf fv [.func (.yield (s.c + 1)) #[] #[]] with
        | some (.fn tg, as) => endR (s.c + 1) { fr with d := .col s.c :: fr.d } (E (.fn tg) as none
            { h := (s.h.set s.c (some (.dfr true))).set (s.c + 1) (some (.loop .ready none fr.t ps asg body s.c)), c := s.c + 2 })
        | _ => none
      | some l => match s.h.get l with
        | some (.loop _ _ _ _ _ _ dfr) => match tgtOf fv [.func (.yield s.c) #[] #[]] with
          | some (.fn tg, as) => endR s.c fr (E (.fn tg) as none { h := s.h.set s.c (some (.loop .ready none fr.t ps asg body dfr)), c := s.c + 1 })
          | _ => none
        | _ => none
    | none => none

def unwindR (rs : List (Nat × Option (Nat × Bool))) (t : List Value) (m : Option AMode) : List ADef → AMode → S → Option (Res × Option AMode × S)
  | [], .ret, s => match resultsV s.h t rs with
    | some vs => some (.ret (retV vs), m, s)
    | none => none
  | [], .pan ch, s => some (.panic ch, m, s)
  | .col b :: ds, u, s => match s.h.get b with
    | some (.dfr true) => unwindR rs t m ds u { s with h := s.h.set b (some (.dfr false)) }
    | _ => none
  | .fn f args :: ds, u, s => match E (.fn f) args (some u) s with
    | some (.ret _, some u', s') => unwindR rs t m ds (settleA u') s'
    | some (.panic ch, some u', s') => unwindR rs t m ds (raisedA u' ch) s'
    | _ => none

def bodyR (fn : MFn) : Option (Ex × F × S) → Option (Res × Option AMode × S)
  | some (.normal, fr, s) => unwindR E fn.results fr.t fr.m fr.d .ret s
  | some (.ret, fr, s) => unwindR E fn.results fr.t fr.m fr.d .ret s
  | some (.panic ch, fr, s) => unwindR E fn.results fr.t fr.m fr.d (.pan ch) s
  | _ => none

def roundR (l : Id) : Option (Ex × F × S) → Option (Res × Option AMode × S)
  | some (x, fr, s) => match fr.d with
    | [] => match x with
      | .panic ch => some (.panic ch, none, s)
      | .normal => match s.h.get l with
        | some (.loop _ _ t ps asg body dfr) => some (.ret (.bool true), none, { s with h := s.h.set l (some (.loop .ready none t ps asg body dfr)) })
        | _ => none
      | .exit i => match s.h.get l with
        | some (.loop _ _ t ps asg body dfr) => some (.ret (.bool false), none, { s with h := s.h.set l (some (.loop .done (some (.exit i)) t ps asg body dfr)) })
        | _ => none
      | .ret => match s.h.get l with
        | some (.loop _ _ t ps asg body dfr) => some (.ret (.bool false), none, { s with h := s.h.set l (some (.loop .done (some .ret) t ps asg body dfr)) })
        | _ => none
    | _ :: _ => none
  | none => none

def stepR : RunE := fun tg as m s =>
  match tg with
  | .fn f => match G.fn f with
    | some mf => bodyR E mf (runC G E N mf.code { t := as ++ List.replicate (mf.ntmps - as.length) undef, d := [], m := m, r := none } s)
    | none => none
  | .yield l => match s.h.get l, m with
    | some (.loop _ _ t ps asg body _), none => match Nat.beq as.length ps.length with
      | true => match runC G E N asg { t := updA t ps as, d := [], m := none, r := some l } s with
        | some (.normal, fr, s) => match s.h.get l with
          | some (.loop .ready pend t' ps' asg' body' dfr') => roundR l (runC G E N body fr { s with h := s.h.set l (some (.loop .busy pend t' ps' asg' body' dfr')) })
          | _ => none
        | _ => none
      | false => none
    | _, _ => none
end

/-- The evaluator: depth 'n', at most 'N' rounds a loop. -/
def run (G : Pg) (N : Nat) : Nat → RunE
  | 0 => fun _ _ _ _ => none
  | n + 1 => stepR G (run G N n) N

section
variable {G : Pg} {E : RunE} {N : Nat} {C : CA → Prop}

def RunOk (E : RunE) (C : CA → Prop) : Prop := ∀ tg as m s r m' s', E tg as m s = some (r, m', s') → ∀ Q : Res → Option AMode → S → Prop, Q r m' s' → C ⟨tg, as, m, s, Q⟩

theorem ofRes_ok (hE : RunOk E C) {tg : Tgt} {as : List Value} {fr : F} {s : S} {tight : Bool} {K : KV} {Q : KX} {r : RO} (h : ofRes fr (E tg as none s) = some r)
    (hk : r.holds K tight Q) : C ⟨tg, as, none, s, resK tight fr K Q⟩ := by
  cases hx : E tg as none s with
  | none => rw [hx] at h; simp [ofRes] at h
  | some x =>
    obtain ⟨r0, m', s'⟩ := x
    rw [hx] at h
    refine hE _ _ _ _ _ _ _ hx _ ?_
    cases r0 with
    | ret v => simp only [ofRes, Option.some.injEq] at h; subst h; exact hk
    | panic ch => simp only [ofRes, Option.some.injEq] at h; subst h; exact hk

theorem runCtl_ok (hE : RunOk E C) {k : MK} {fr : F} {s : S} {tight : Bool} {K : KV} {Q : KX} {r : RO} (h : runCtl G E k fr s = some r)
    (hk : r.holds K tight Q) : wpCtl G C k tight fr s K Q := by
  cases k <;> simp only [runCtl, wpCtl] at h ⊢ <;> first | (simp at h; done) | skip
  case call f xs =>
    split at h <;> first | (simp at h; done) | skip
    rename_i h1 h2; simp only [h1, h2]
    split at h <;> first | (simp at h; done) | skip
    rename_i h3; simp only [h3]
    split at h
    · rename_i h4; simp only [h4]
      split at h <;> first | (simp at h; done) | skip
      rename_i h5; simp only [h5]
      simp only [Option.some.injEq] at h; subst h
      exact hk
    · rename_i h4; simp only [h4]
      exact ofRes_ok hE h hk
  case invoke x n xs =>
    split at h <;> first | (simp at h; done) | skip
    rename_i h1 h2; simp only [h1, h2]
    split at h <;> first | (simp at h; done) | skip
    rename_i h3; simp only [h3]
    exact ofRes_ok hE h hk
  case defer f xs =>
    split at h <;> first | (simp at h; done) | skip
    rename_i h1 h2; simp only [h1, h2]
    split at h <;> first | (simp at h; done) | skip
    rename_i h3 h4; simp only [h3, h4]
    simp only [Option.some.injEq] at h; subst h
    simp only [RO.holds, h4] at hk
    exact hk
  case recover =>
    split at h <;> first | (simp at h; done) | skip
    rename_i h1; simp only [h1]
    split at h
    · rename_i h2; simp only [h2]
      simp only [Option.some.injEq] at h; subst h
      simp only [RO.holds, h1] at hk
      exact hk
    · rename_i h2
      split
      · rename_i v older h3; exact (h2 v older h3).elim
      · simp only [Option.some.injEq] at h; subst h; exact hk
  case panic x =>
    split at h <;> first | (simp at h; done) | skip
    rename_i h1; simp only [h1]
    simp only [Option.some.injEq] at h; subst h
    exact hk
  case nextMap x =>
    split at h <;> first | (simp at h; done) | skip
    rename_i h1; simp only [h1]
    split at h <;> first | (simp at h; done) | skip
    · rename_i h2; simp only [h2]
      simp only [Option.some.injEq] at h; subst h; exact hk
    · rename_i h2; simp only [h2]
      split at h <;> first | (simp at h; done) | skip
      rename_i h3; simp only [h3]
      split at h <;> first | (simp at h; done) | skip
      rename_i hc
      refine ⟨hc, ?_⟩
      split at h
      · rename_i hf
        simp only [Option.some.injEq] at h; subst h
        refine ⟨fun _ => hk, fun e he hs => ?_⟩
        exfalso
        have : e ∈ ([] : List MapEntry) := by rw [← hf]; simp only [List.mem_filter]; exact ⟨he, by simpa using hs⟩
        cases this
      · rename_i e0 hf
        split at h <;> first | (simp at h; done) | skip
        rename_i hb
        simp only [Option.some.injEq] at h; subst h
        refine ⟨fun hn => ?_, fun e he hs => ?_⟩
        · rw [hf] at hn
          simp [hb] at hn
        · have : e ∈ [e0] := by rw [← hf]; simp only [List.mem_filter]; exact ⟨he, by simpa using hs⟩
          simp only [List.mem_singleton] at this
          subst this
          exact hk
      · simp at h

theorem runM_ok (hE : RunOk E C) {k : MK} {slot : Id} {fr : F} {s : S} {tight : Bool} {K : KV} {Q : KX} {r : RO} (h : runM G E k slot fr s = some r)
    (hk : r.holds K tight Q) : wpM G C k slot tight fr s K Q := by
  unfold runM at h
  unfold wpM
  cases hc : cls k <;> simp only [hc] at h ⊢
  case c => exact runCtl_ok hE h hk
  all_goals
    split at h <;> first | (simp at h; done) | skip
    rename_i h1; simp only [h1]
    simp only [Option.some.injEq] at h; subst h
    exact hk

theorem runOps_ok (hE : RunOk E C) {c0 : Nat} {Q : KX} : ∀ (os : List MO) (fr : F) (s : S) (x : Ex) (fr' : F) (s' : S), runOps G E c0 os fr s = some (x, fr', s') → Q x fr' s' → wpOps G C c0 Q os fr s := by
  intro os
  induction os with
  | nil => intro fr s x fr' s' h hq; simp only [runOps, Option.some.injEq, Prod.mk.injEq] at h; obtain ⟨rfl, rfl, rfl⟩ := h; exact hq
  | cons o os ih =>
    intro fr s x fr' s' h hq
    simp only [runOps] at h
    simp only [wpOps]
    split at h
    · rename_i hw
      simp only [hw]
      split at h <;> first | (simp at h; done) | skip
      · rename_i v f1 s1 hr
        split at h <;> first | (simp at h; done) | skip
        rename_i hag
        exact runM_ok hE hr ⟨againB_again hag, ih _ _ _ _ _ h hq⟩
      · rename_i ch f1 s1 hr
        split at h <;> first | (simp at h; done) | skip
        rename_i ht
        simp only [Option.some.injEq, Prod.mk.injEq] at h
        obtain ⟨rfl, rfl, rfl⟩ := h
        exact runM_ok hE hr ⟨ht, hq⟩
    · rename_i hw
      simp only [hw]
      exact ih _ _ _ _ _ h hq

theorem endR_ok (hE : RunOk E C) {l : Id} {tg : Tgt} {as : List Value} {fr : F} {s : S} {Q : KX} {x : Ex} {fr' : F} {s' : S} (h : endR l fr (E tg as none s) = some (x, fr', s')) (hq : Q x fr' s') :
    C ⟨tg, as, none, s, endLoop l fr Q⟩ := by
  cases hx : E tg as none s with
  | none => rw [hx] at h; simp [endR] at h
  | some y =>
    obtain ⟨r0, m', s1⟩ := y
    rw [hx] at h
    refine hE _ _ _ _ _ _ _ hx _ ?_
    cases r0 with
    | panic ch =>
      simp only [endR, Option.some.injEq, Prod.mk.injEq] at h
      obtain ⟨rfl, rfl, rfl⟩ := h
      exact hq
    | ret v =>
      simp only [endR] at h
      simp only [endLoop]
      cases hg : s1.h.get l with
      | none => rw [hg] at h; simp at h
      | some o =>
        rw [hg] at h
        cases o <;> first | (simp at h; done) | skip
        rename_i st pend t ps asg body dfr
        cases st <;> cases pend <;> simp only [Option.some.injEq, Prod.mk.injEq] at h ⊢ <;> first
          | (simp at h; done)
          | (obtain ⟨rfl, rfl, rfl⟩ := h; exact hq)

theorem runC_ok (hE : RunOk E C) : ∀ (c : MC) (Q : KX) (fr : F) (s : S) (x : Ex) (fr' : F) (s' : S), runC G E N c fr s = some (x, fr', s') → Q x fr' s' → wpC G C c Q fr s := by
  intro c
  induction c with
  | skip => intro Q fr s x fr' s' h hq; simp only [runC, Option.some.injEq, Prod.mk.injEq] at h; obtain ⟨rfl, rfl, rfl⟩ := h; exact hq
  | region n ops => intro Q fr s x fr' s' h hq; exact runOps_ok hE ops _ _ _ _ _ h hq
  | seq a b iha ihb =>
    intro Q fr s x fr' s' h hq
    simp only [runC] at h
    simp only [wpC]
    cases ha : runC G E N a fr s with
    | none => rw [ha] at h; simp at h
    | some y =>
      obtain ⟨x1, f1, s1⟩ := y
      rw [ha] at h
      refine iha _ _ _ _ _ _ ha ?_
      cases x1 <;> simp only [thenQ] at h ⊢
      · exact ihb _ _ _ _ _ _ h hq
      all_goals (simp only [Option.some.injEq, Prod.mk.injEq] at h; obtain ⟨rfl, rfl, rfl⟩ := h; exact hq)
  | cond c a b iha ihb =>
    intro Q fr s x fr' s' h hq
    simp only [runC] at h
    simp only [wpC]
    split at h <;> first | (simp at h; done) | skip
    · rename_i h1; simp only [h1]; exact iha _ _ _ _ _ _ h hq
    · rename_i h1; simp only [h1]; exact ihb _ _ _ _ _ _ h hq
  | block id a iha =>
    intro Q fr s x fr' s' h hq
    simp only [runC] at h
    simp only [wpC]
    cases ha : runC G E N a fr s with
    | none => rw [ha] at h; simp at h
    | some y =>
      obtain ⟨x1, f1, s1⟩ := y
      rw [ha] at h
      refine iha _ _ _ _ _ _ ha ?_
      cases x1 <;> simp only [blockQ] at h ⊢
      case exit i =>
        cases hb : Nat.beq i id <;> simp only [hb, cond_true, cond_false] at h ⊢ <;> (simp only [Option.some.injEq, Prod.mk.injEq] at h; obtain ⟨rfl, rfl, rfl⟩ := h; exact hq)
      all_goals (simp only [Option.some.injEq, Prod.mk.injEq] at h; obtain ⟨rfl, rfl, rfl⟩ := h; exact hq)
  | loop a iha =>
    intro Q fr s x fr' s' h hq
    simp only [runC] at h
    simp only [wpC]
    intro I hI
    have : ∀ (n : Nat) (fr : F) (s : S), loopR (runC G E N a) n fr s = some (x, fr', s') → I fr s := by
      intro n
      induction n with
      | zero => intro fr s h; simp [loopR] at h
      | succ n ih =>
        intro fr s h
        simp only [loopR] at h
        cases ha : runC G E N a fr s with
        | none => rw [ha] at h; simp at h
        | some y =>
          obtain ⟨x1, f1, s1⟩ := y
          rw [ha] at h
          refine hI _ _ (iha _ _ _ _ _ _ ha ?_)
          cases x1 <;> simp only [thenQ] at h ⊢
          · exact ih _ _ h
          all_goals (simp only [Option.some.injEq, Prod.mk.injEq] at h; obtain ⟨rfl, rfl, rfl⟩ := h; exact hq)
    exact this N fr s h
  | exit id => intro Q fr s x fr' s' h hq; simp only [runC, Option.some.injEq, Prod.mk.injEq] at h; obtain ⟨rfl, rfl, rfl⟩ := h; exact hq
  | ret => intro Q fr s x fr' s' h hq; simp only [runC, Option.some.injEq, Prod.mk.injEq] at h; obtain ⟨rfl, rfl, rfl⟩ := h; exact hq
  | rangeF f ps asg body _ _ =>
    intro Q fr s x fr' s' h hq
    simp only [runC] at h
    simp only [wpC]
    split at h <;> first | (simp at h; done) | skip
    rename_i h1; simp only [h1]
    split at h
    · rename_i h2; simp only [h2]
      split at h <;> first | (simp at h; done) | skip
      rename_i h3; simp only [h3]
      have := endR_ok hE h hq
      rw [h2] at this
      exact this
    · rename_i h2; simp only [h2]
      split at h <;> first | (simp at h; done) | skip
      rename_i h3; simp only [h3]
      split at h <;> first | (simp at h; done) | skip
      rename_i h4; simp only [h4]
      have := endR_ok hE h hq
      exact this

theorem unwindR_ok (hE : RunOk E C) {rs : List (Nat × Option (Nat × Bool))} {t : List Value} {m : Option AMode} {Q : Res → Option AMode → S → Prop} {r : Res} {m' : Option AMode} {s' : S} (hq : Q r m' s') :
    ∀ (ds : List ADef) (u : AMode) (s : S), unwindR E rs t m ds u s = some (r, m', s') → unwindQ C rs t Q m ds u s := by
  intro ds
  induction ds with
  | nil =>
    intro u s h
    cases u with
    | ret =>
      simp only [unwindR] at h
      simp only [unwindQ]
      split at h <;> first | (simp at h; done) | skip
      rename_i h1; simp only [h1]
      simp only [Option.some.injEq, Prod.mk.injEq] at h; obtain ⟨rfl, rfl, rfl⟩ := h; exact hq
    | pan ch => simp only [unwindR, Option.some.injEq, Prod.mk.injEq] at h; obtain ⟨rfl, rfl, rfl⟩ := h; exact hq
  | cons d ds ih =>
    intro u s h
    cases d with
    | col b =>
      simp only [unwindR] at h
      simp only [unwindQ]
      split at h <;> first | (simp at h; done) | skip
      rename_i h1; simp only [h1]
      exact ih _ _ h
    | fn f args =>
      simp only [unwindR] at h
      simp only [unwindQ]
      split at h <;> first | (simp at h; done) | skip
      all_goals
        rename_i hx
        exact hE _ _ _ _ _ _ _ hx _ (ih _ _ h)

theorem stepR_ok (hE : RunOk E C) {tg : Tgt} {as : List Value} {m : Option AMode} {s : S} {r : Res} {m' : Option AMode} {s' : S} (h : stepR G E N tg as m s = some (r, m', s'))
    {Q : Res → Option AMode → S → Prop} (hq : Q r m' s') : Fn G C ⟨tg, as, m, s, Q⟩ := by
  cases tg with
  | fn f =>
    simp only [stepR] at h
    simp only [Fn]
    split at h <;> first | (simp at h; done) | skip
    rename_i mf hmf
    simp only [hmf]
    cases hx : runC G E N mf.code { t := as ++ List.replicate (mf.ntmps - as.length) undef, d := [], m := m, r := none } s with
    | none => rw [hx] at h; simp [bodyR] at h
    | some y =>
      obtain ⟨x, f1, s1⟩ := y
      rw [hx] at h
      refine runC_ok hE _ _ _ _ _ _ _ hx ?_
      cases x <;> simp only [bodyR] at h <;> first | (simp at h; done) | exact unwindR_ok hE hq _ _ _ h
  | yield l =>
    simp only [stepR] at h
    simp only [Fn]
    split at h <;> first | (simp at h; done) | skip
    rename_i hg0; simp only [hg0]
    split at h <;> first | (simp at h; done) | skip
    rename_i hlen
    refine ⟨Nat.eq_of_beq_eq_true hlen, ?_⟩
    split at h <;> first | (simp at h; done) | skip
    rename_i f1 s1 hx
    refine runC_ok hE _ _ _ _ _ _ _ hx ?_
    split at h <;> first | (simp at h; done) | skip
    rename_i pend t' ps' asg' body' dfr' hg
    simp only [hg]
    generalize hy : runC G E N _ f1 { s1 with h := s1.h.set l (some (.loop .busy pend t' ps' asg' body' dfr')) } = y at h
    cases y with
    | none => simp [roundR] at h
    | some y =>
      obtain ⟨x, f2, s2⟩ := y
      refine runC_ok hE _ _ _ _ _ _ _ hy ?_
      simp only [roundR] at h
      simp only [roundQ]
      split at h <;> first | (simp at h; done) | skip
      rename_i hd
      simp only [hd]
      split at h
      · simp only [Option.some.injEq, Prod.mk.injEq] at h; obtain ⟨rfl, rfl, rfl⟩ := h; exact hq
      all_goals
        split at h <;> first | (simp at h; done) | skip
        rename_i hg2
        simp only [hg2]
        simp only [Option.some.injEq, Prod.mk.injEq] at h; obtain ⟨rfl, rfl, rfl⟩ := h; exact hq

theorem run_ok : ∀ n, RunOk (run G N n) (Cl G) := by
  intro n
  induction n with
  | zero => intro tg as m s r m' s' h; simp [run] at h
  | succ n ih => intro tg as m s r m' s' h Q hq; exact Cl.closed _ (stepR_ok ih h hq)
end
end Ev
