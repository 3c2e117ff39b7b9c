/- NorecNone: for every deed, every values and number the law returns true, and each argument reads as it did; by an evaluator of the compiled code that is proved sound for the model. Part 7 of 8. -/
import Derived.Test.YtmdkdjoifafifaaGreatNone6
import Derived.Carry
import Derived.ProofKit
import Derived.ChangeArms
set_option linter.unusedSimpArgs false
set_option linter.unusedVariables false

/- Soundness: what the transformer says of a call holds of the model's calls. -/
namespace Ev
open Go

section
variable {P : Program} {G : Pg} {C : CA → Prop} {ρ : Rho} {s : S} {w : World}

theorem code_sound (hG : Good P G) (hU : Up C) (hC : ∀ x, C x → Sound P x) (hfnC : ∀ g as m s Q, C ⟨.fn g, as, m, s, Q⟩ → ∃ m, G.fn g = some m) : ∀ c : Code, CodeOk P G C c := by
  intro c
  induction c with
  | skip => exact code_skip
  | region id ops draw =>
    intro m hm Q f s ρ w b t d cs k h hR hF
    exact region_sound hG hU hC hfnC hm h hR hF
  | seq a b iha ihb => exact code_seq iha ihb
  | cond c a b iha ihb => exact code_cond iha ihb
  | block id a iha => exact code_block iha
  | loop a iha => exact code_loop iha
  | scope a iha => exact code_scope iha
  | exit id => exact code_exit
  | label l => exact code_label
  | ret => exact code_ret
  | rangeFunc f ps a b _ _ => exact code_range hG hC hfnC
  | _ => intro m hm; simp [cCode] at hm

theorem fn_sound (hG : Good P G) (hU : Up C) (hC : ∀ x, C x → Sound P x) (hfnC : ∀ g as m s Q, C ⟨.fn g, as, m, s, Q⟩ → ∃ m, G.fn g = some m)
    {f : FuncId} {as : List Value} {m : Option AMode} {Q : Res → Option AMode → S → Prop} (h : Fn G C ⟨.fn f, as, m, s, Q⟩) : Sound P ⟨.fn f, as, m, s, Q⟩ := by
  simp only [Fn] at h
  split at h <;> first | exact h.elim | skip
  rename_i mf hmf
  obtain ⟨gf, hgf, hcf⟩ := hG.fn f mf hmf
  obtain ⟨c, hb, hcc, hrs, hnt, _⟩ := cFn_some hcf
  intro ρ w args' cs hR ha hm
  simp only at hR ha hm ⊢
  let kind : CallKind := if m.isSome then .deferred else .normal
  let b : Frame := { (default : Frame) with fn := f, kind := kind, roundOf := none }
  have hbk : b.kind = kind := rfl
  have henter : Frame.enter P f args' kind = fr b (args' ++ Array.replicate (gf.ntmps - args'.size) undef) [] [.code c] := by
    simp [Frame.enter, fr, hgf, hb, b, kind]
  have hF : FR P ρ { t := as ++ List.replicate (mf.ntmps - as.length) undef, d := [], m := m, r := none } b (args' ++ Array.replicate (gf.ntmps - args'.size) undef) [] cs := by
    refine ⟨?_, .nil, ?_, rfl, gf, hgf⟩
    · rw [Array.toList_append, Array.toList_replicate, hnt]
      have : as.length = args'.size := by rw [ha.length]; simp
      rw [this]
      exact ha.append (VRL.replicate _ (.tuple .nil))
    · cases m with
      | none => rfl
      | some u => obtain ⟨c0, rest, h1, h2⟩ := hm u rfl; exact ⟨rfl, c0, rest, h1, h2⟩
  obtain ⟨x, f', s', ρ', w', t', d', cs', q1, q2, q3, q4, q5, q6⟩ := code_sound hG hU hC hfnC c mf.code hcc _ _ s ρ w b _ [] cs [] h hR hF
  have hend : ∀ (u : AMode) (mode : FrameMode) (todo : List Item), unwindQ C mf.results f'.t Q f'.m f'.d u s' → MR ρ' u mode →
      Steps P (lone (fr b (args' ++ Array.replicate (gf.ntmps - args'.size) undef) [] [.code c]) cs w) (lone { fr b t' d' todo with mode := mode } cs' w') →
      ∃ r m' s' ρ' w' fr cs', Q r m' s' ∧ Rel P ρ' s' w' ∧ Ext No ρ s w ρ' s' w' ∧
        Steps P (lone (Frame.enter P f args' kind) cs w) (lone fr cs' w') ∧ fr.fn = f ∧ LeavesA P ρ' fr w' kind r ∧
        (match (generalizing := false) m with
          | none => m' = none ∧ cs' = cs
          | some _ => ∃ u' c0 rest mm, m' = some u' ∧ cs = c0 :: rest ∧ cs' = { c0 with mode := mm } :: rest ∧ MR ρ' u' mm) := by
    intro u mode todo hu hmode hst
    obtain ⟨r, s2, ρ2, w2, f2, e1, e2, e3, e4, e5, e6⟩ := unwind_sound (cs := cs') hG hC hfnC hrs f'.d u s' ρ' w' { fr b t' d' todo with mode := mode } hu q2 q4.d hmode q4.t hgf
    rw [henter]
    refine ⟨r, f'.m, s2, ρ2, w2, f2, cs', e1, e2, q3.trans e3 (fun _ h => .inl h), hst.trans e4, e5, e6, ?_⟩
    have hcb := q4.m
    cases m with
    | none =>
      have hk : b.kind = .normal := rfl
      cases hfm : f'.m with
      | none =>
        refine ⟨rfl, ?_⟩
        rcases q5 with e | ⟨e, _⟩
        · exact e
        · rw [hk] at e; cases e
      | some u' =>
        rw [hfm] at hcb
        have := hcb.1
        rw [hk] at this; cases this
    | some u0 =>
      have hk : b.kind = .deferred := rfl
      cases hfm : f'.m with
      | none =>
        rw [hfm] at hcb
        have hcb' : b.kind = .normal := hcb
        rw [hk] at hcb'; cases hcb'
      | some u' =>
        rw [hfm] at hcb
        obtain ⟨_, c1, rest1, h1, h2⟩ := hcb
        obtain ⟨c0, rest, h3, h4⟩ := hm u0 rfl
        refine ⟨u', c0, rest, c1.mode, rfl, h3, ?_, h2.mono e3.sub⟩
        rcases q5 with e | ⟨_, c2, rest2, mm, h5, h6⟩
        · rw [e, h3] at h1 ⊢
          injection h1 with h1 h1'
          subst h1; rfl
        · rw [h3] at h5
          injection h5 with h5 h5'
          subst h5; subst h5'
          rw [h6] at h1 ⊢
          injection h1 with h1 h1'
          rw [← h1]
  cases x with
  | normal => exact hend .ret .returning [] q1 .ret (q6.trans (.one (st_end rfl)))
  | ret => obtain ⟨k0, q6⟩ := q6; exact hend .ret .returning (.code .ret :: k0) q1 .ret (q6.trans (.one (st_ret rfl)))
  | panic ch => obtain ⟨k0, ch', q6, q7⟩ := q6; exact hend (.pan ch) (.panicking ch') k0 q1 (.pan q7) q6
  | exit id => exact q1.elim

theorem updA_rel : ∀ (ps : List Nat) (as : List Value) (as' : List Value) (t : List Value) (t' : Array Value), VRL ρ t t'.toList → VRL ρ as as' → ps.length = as.length →
    VRL ρ (updA t ps as) ((ps.zip as').foldl (fun tmps x => tmps.setIfInBounds x.1 x.2) t').toList := by
  intro ps
  induction ps with
  | nil => intro as as' t t' ht ha hl; cases as with
    | nil => exact ht
    | cons a as => simp at hl
  | cons p ps ih =>
    intro as as' t t' ht ha hl
    cases ha with
    | nil => simp at hl
    | cons h hs =>
      simp only [updA, List.zip_cons_cons, List.foldl_cons]
      exact ih _ _ _ _ (by rw [Array.toList_setIfInBounds]; exact ht.upd p h) hs (by simpa using hl)

theorem yield_sound (hG : Good P G) (hU : Up C) (hC : ∀ x, C x → Sound P x) (hfnC : ∀ g as m s Q, C ⟨.fn g, as, m, s, Q⟩ → ∃ m, G.fn g = some m)
    {l : Id} {as : List Value} {m : Option AMode} {Q : Res → Option AMode → S → Prop} (h : Fn G C ⟨.yield l, as, m, s, Q⟩) : Sound P ⟨.yield l, as, m, s, Q⟩ := by
  simp only [Fn] at h
  split at h <;> first | exact h.elim | skip
  rename_i st0 pend0 t0 ps asg body dfr0 hg0
  obtain ⟨hlen, h⟩ := h
  intro ρ w args' l' y c cs hR hl ha
  simp only at hR ha ⊢
  obtain ⟨o', ho1, ho2⟩ := hR.obj _ _ _ _ hg0 hl
  cases ho2 with
  | loop hj ht hp hca hcb hd hgf =>
    rename_i d0 x0 pend' fn0 g0 t0' ps0' asg0' body0'
    have hsz : args'.size = ps0'.size := by
      have e1 := ha.length
      have e2 : ps0'.size = ps.length := by rw [← hp]; simp
      rw [e2, ← hlen, e1]; simp
    refine ⟨fn0, _, asg0', body0', run_yield ho1 hsz, ?_⟩
    simp only
    let b : Frame := { (default : Frame) with fn := fn0, kind := .normal, roundOf := some l' }
    generalize htm : (ps0'.zip args').foldl (fun tmps (x : Tmp × Value) => tmps.setIfInBounds x.1 x.2) t0' = tm
    have hround : Frame.round l' fn0 tm asg0' body0' .normal = fr b tm [] [.code asg0', .beginRound, .code body0'] := by simp [Frame.round, fr, b]
    have hT : VRL ρ (updA t0 ps as) tm.toList := by
      have := updA_rel ps as args'.toList t0 t0' ht ha hlen.symm
      rw [← hp] at this
      rw [← htm, ← Array.foldl_toList, Array.toList_zip, ← hp]
      exact this
    have hF : FR P ρ { t := updA t0 ps as, d := [], m := none, r := some l } b tm [] (c :: cs) := ⟨hT, .nil, rfl, ⟨l', y, hl, rfl⟩, g0, hgf⟩
    obtain ⟨x1, f1, s1, ρ1, w1, t1, d1, cs1, q1, q2, q3, q4, q5, q6⟩ := code_sound hG hU hC hfnC asg0' asg hca _ _ s ρ w b tm [] (c :: cs) [.beginRound, .code body0'] h hR hF
    have hcs1 : cs1 = c :: cs := by
      rcases q5 with e | ⟨e, _⟩
      · exact e
      · cases e
    subst hcs1
    cases x1 <;> simp only at q1 <;> first | exact q1.elim | skip
    split at q1 <;> first | exact q1.elim | skip
    rename_i pend1 t1a ps1 asg1 body1 dfr1 hg1
    have hl1 := q3.sub _ _ hl
    obtain ⟨o1, ho3, ho4⟩ := q2.obj _ _ _ _ hg1 hl1
    cases ho4 with
    | loop hj1 ht1 hp1 hca1 hcb1 hd1 hgf1 =>
      rename_i d1' x1' pend1' fn1 g1 t1' ps1' asg1' body1'
      have hlt1 := (Array.getElem?_eq_some_iff.1 ho3).1
      have hst1 := stepR_beginRound (P := P) (b := b) (a := ⟨t1, d1⟩) (k := [.code body0']) (cs := c :: cs) rfl (run_beginRound ho3 rfl)
      rw [← fr_atR, ← fr_atR] at hst1
      have hR2 := rel_upd q2 hg1 hl1 (upd_putObj (o := .loop { state := .busy, pending := pend1', fn := fn1, tmps := t1', params := ps1', assign := asg1', body := body1', defers := d1' }) ho3)
        (.loop (st := .busy) hj1 ht1 hp1 hca1 hcb1 hd1 hgf1)
      have hE2 := ext_upd (ρ := ρ1) No hg1 hl1 (upd_putObj (o := .loop { state := .busy, pending := pend1', fn := fn1, tmps := t1', params := ps1', assign := asg1', body := body1', defers := d1' }) ho3)
        (o2 := .loop .busy pend1 t1a ps1 asg1 body1 dfr1)
      obtain ⟨x2, f2, s2, ρ2, w2, t2, d2, cs2, p1, p2, p3, p4, p5, p6⟩ := code_sound hG hU hC hfnC body0' body hcb _ _ _ ρ1 _ b t1 d1 (c :: cs) [] q1 hR2 q4
      have hcs2 : cs2 = c :: cs := by
        rcases p5 with e | ⟨e, _⟩
        · exact e
        · cases e
      subst hcs2
      have hEE := (q3.trans hE2 (fun _ h => .inl h)).trans p3 (fun _ h => .inl h)
      have hsteps := Steps.trans q6 (.one hst1)
      rw [← hround] at hsteps
      simp only [roundQ] at p1
      split at p1 <;> first | exact p1.elim | skip
      rename_i hfd
      have hd2 : d2 = [] := by
        have := p4.d
        rw [hfd] at this
        cases this; rfl
      subst hd2
      have hlk := p3.sub _ _ hl1
      have finish : ∀ (jump : Option Code) (pq : Option Ex), JR pq jump → (∀ st t ps asg body dfr pe, s2.h.get l = some (.loop st pe t ps asg body dfr) →
          Q (.ret (.bool jump.isNone)) none { s2 with h := s2.h.set l (some (.loop (if jump.isNone then .ready else .done) pq t ps asg body dfr)) }) →
          (∃ st t ps asg body dfr pe, s2.h.get l = some (.loop st pe t ps asg body dfr)) →
          (∀ v w3, (Instr.endRound l' jump).run P w2 = .ok v w3 → Steps P (lone (Frame.round l' fn0 tm asg0' body0' .normal) (c :: cs) w) (lone (c.finish v) cs w3)) →
          ∃ r s' ρ' w' c', Q r none s' ∧ Rel P ρ' s' w' ∧ Ext No ρ s w ρ' s' w' ∧ Steps P (lone (Frame.round l' fn0 tm asg0' body0' .normal) (c :: cs) w) (lone c' cs w') ∧ Back ρ' c r c' := by
        intro jump pq hjr hq hget hst
        obtain ⟨st, tt, ps2, asg2, body2, dfr2, pe, hg2⟩ := hget
        have hq := hq st tt ps2 asg2 body2 dfr2 pe hg2
        obtain ⟨o5, ho5, ho6⟩ := p2.obj _ _ _ _ hg2 hlk
        cases ho6 with
        | loop hj2 ht2 hp2 hca2 hcb2 hd2 hgf2 =>
          rename_i d2' x2' pend2' fn2 g2 t2' ps2' asg2' body2'
          have hlt2 := (Array.getElem?_eq_some_iff.1 ho5).1
          have hst := hst _ _ (run_endRound jump ho5)
          have hR3 := rel_upd p2 hg2 hlk (upd_putObj (o := .loop { state := if jump.isNone then .ready else .done, pending := jump, fn := fn2, tmps := t2', params := ps2', assign := asg2', body := body2', defers := d2' }) ho5)
            (.loop (st := if jump.isNone then .ready else .done) hjr ht2 hp2 hca2 hcb2 hd2 hgf2)
          have hE3 := ext_upd (ρ := ρ2) No hg2 hlk (upd_putObj (o := .loop { state := if jump.isNone then .ready else .done, pending := jump, fn := fn2, tmps := t2', params := ps2', assign := asg2', body := body2', defers := d2' }) ho5)
            (o2 := .loop (if jump.isNone then .ready else .done) pq tt ps2 asg2 body2 dfr2)
          exact ⟨_, _, ρ2, _, _, hq, hR3, hEE.trans hE3 (fun _ h => .inl h), hst, _, .bool _, rfl⟩
      cases x2 with
      | panic ch =>
        obtain ⟨k0, ch', e1, e2⟩ := p6
        have hst := step_leave_panicked (P := P) (fr := { fr b t2 [] k0 with mode := .panicking ch' }) (c := c) (cs := cs) (w := w2) (chain := ch') ⟨rfl, rfl, g0, hgf⟩
        exact ⟨.panic ch, s2, ρ2, w2, c.raise ch', p1, p2, hEE, hsteps.trans (e1.trans (.one hst)), ch', e2, rfl⟩
      | normal =>
        simp only at p1
        split at p1 <;> first | exact p1.elim | skip
        rename_i hgx
        refine finish none none .none (fun st t ps asg body dfr pe hg => ?_) ⟨_, _, _, _, _, _, _, hgx⟩ (fun v w3 hv => (hsteps.trans p6).trans (.one (stepR_round_end (b := b) (a := ⟨t2, []⟩) rfl rfl hv)))
        rw [hgx] at hg
        simp only [Option.some.injEq, AObj.loop.injEq] at hg
        obtain ⟨rfl, rfl, rfl, rfl, rfl, rfl, rfl⟩ := hg
        exact p1
      | exit id =>
        simp only at p1
        split at p1 <;> first | exact p1.elim | skip
        rename_i hgx
        obtain ⟨k0, e1, e2⟩ := p6
        refine finish (some (.exit id)) (some (.exit id)) (.exit id) (fun st t ps asg body dfr pe hg => ?_) ⟨_, _, _, _, _, _, _, hgx⟩ (fun v w3 hv => (hsteps.trans e1).trans (.one (stepR_round_exit (b := b) (a := ⟨t2, []⟩) rfl rfl e2 hv)))
        rw [hgx] at hg
        simp only [Option.some.injEq, AObj.loop.injEq] at hg
        obtain ⟨rfl, rfl, rfl, rfl, rfl, rfl, rfl⟩ := hg
        exact p1
      | ret =>
        simp only at p1
        split at p1 <;> first | exact p1.elim | skip
        rename_i hgx
        obtain ⟨k0, e1⟩ := p6
        refine finish (some .ret) (some .ret) .ret (fun st t ps asg body dfr pe hg => ?_) ⟨_, _, _, _, _, _, _, hgx⟩ (fun v w3 hv => (hsteps.trans e1).trans (.one (stepR_round_ret (b := b) (a := ⟨t2, []⟩) rfl rfl hv)))
        rw [hgx] at hg
        simp only [Option.some.injEq, AObj.loop.injEq] at hg
        obtain ⟨rfl, rfl, rfl, rfl, rfl, rfl, rfl⟩ := hg
        exact p1

theorem Cl_sound (hG : Good P G) {x : CA} (h : Cl G x) : Sound P x := by
  refine (h (fun x => Sound P x ∧ ∀ g, x.tgt = .fn g → ∃ m, G.fn g = some m) ?_ ?_ ?_).1
  · exact fun x Q' hx hQ => ⟨Sound.up x Q' hx.1 hQ, hx.2⟩
  · intro y hy
    have hU : Up (fun x => Sound P x ∧ ∀ g, x.tgt = .fn g → ∃ m, G.fn g = some m) := fun x Q' hx hQ => ⟨Sound.up x Q' hx.1 hQ, hx.2⟩
    obtain ⟨tgt, as, m, s, Q⟩ := y
    cases tgt with
    | fn f =>
      refine ⟨fn_sound hG hU (fun _ h => h.1) (fun g as m s Q h => h.2 g rfl) hy, fun g e => ?_⟩
      simp only [Tgt.fn.injEq] at e; subst e
      simp only [Fn] at hy
      split at hy <;> first | exact hy.elim | exact ⟨_, by assumption⟩
    | yield l => exact ⟨yield_sound hG hU (fun _ h => h.1) (fun g as m s Q h => h.2 g rfl) hy, fun g e => by cases e⟩
  · exact fun y hy => hG.sem y hy

/-- What has come of a call, in the model's words. -/
def EndR (ρ : Rho) : Res → Ending → Prop
  | .ret v, .returned v' => VR ρ v v'
  | .panic ch, .panicked ch' => L2 (PR ρ) ch ch'
  | _, _ => False

theorem calls_of_Cl (hG : Good P G) {f : FuncId} {as : List Value} {Q : Res → Option AMode → S → Prop} (h : Cl G ⟨.fn f, as, none, s, Q⟩) (hR : Rel P ρ s w) {args : Array Value} (ha : VRL ρ as args.toList) :
    Calls P f args w fun e w' => ∃ r s' ρ', Q r none s' ∧ Rel P ρ' s' w' ∧ Ext No ρ s w ρ' s' w' ∧ EndR ρ' r e := by
  intro cs
  obtain ⟨r, m', s', ρ', w', f', cs', q1, q2, q3, q4, q5, q6, q7⟩ := Cl_sound hG h ρ w args cs hR ha (fun u hu => by cases hu)
  obtain ⟨rfl, rfl⟩ := q7
  cases r with
  | ret v =>
    obtain ⟨e1, e2, e3, gfn, v', e4, e5, e6⟩ := q6
    exact ⟨.returned v', w', f', ⟨_, s', ρ', q1, q2, q3, e6⟩, q4, q5, e1, e2, e3, gfn, e4, e5⟩
  | panic ch =>
    obtain ⟨ch', e1, e2, e3, gfn, e4⟩ := q6
    exact ⟨.panicked ch', w', f', ⟨_, s', ρ', q1, q2, q3, e3⟩, q4, q5, e1, e2, gfn, e4⟩
end
end Ev

/- A table of compiled functions, and that it is the program's. -/
namespace Ev
open Go

inductive AllG (P : Program) : Nat → List (Option MFn) → Prop where
  | nil (i : Nat) : AllG P i []
  | no {i : Nat} {l : List (Option MFn)} : AllG P (i + 1) l → AllG P i (none :: l)
  | yes {i : Nat} {g : Func} {m : MFn} {l : List (Option MFn)} : P.funcs[i]? = some g → cFn P g = some m → AllG P (i + 1) l → AllG P i (some m :: l)

theorem AllG.get {P : Program} {l : List (Option MFn)} : ∀ {i j : Nat} {m : MFn}, AllG P i l → nth l j = some (some m) → ∃ g, P.funcs[i + j]? = some g ∧ cFn P g = some m := by
  induction l with
  | nil => intro i j m _ h; simp [nth] at h
  | cons x l ih =>
    intro i j m ha h
    cases j with
    | zero =>
      simp only [nth, Option.some.injEq] at h; subst h
      cases ha with
      | yes h1 h2 _ => exact ⟨_, h1, h2⟩
    | succ j =>
      simp only [nth] at h
      have : ∃ g, P.funcs[i + 1 + j]? = some g ∧ cFn P g = some m := by
        cases ha with
        | no h1 => exact ih h1 h
        | yes _ _ h1 => exact ih h1 h
      rw [show i + (j + 1) = i + 1 + j by omega]
      exact this

def fnOf (tbl : List (Option MFn)) : FuncId → Option MFn := fun f => match nth tbl f with
  | some r => r
  | none => none

/-- A program with no methods by dynamic types, and no functions without a body. -/
def pgOf (tbl : List (Option MFn)) : Pg := ⟨fnOf tbl, fun _ _ => none, fun _ => none, fun _ => False⟩

theorem good_of {P : Program} {tbl : List (Option MFn)} (h : AllG P 0 tbl) (hm : P.follows .mixedOrders = true) : Good P (pgOf tbl) where
  fn := fun f m hf => by
    simp only [pgOf, fnOf] at hf
    split at hf <;> first | (simp at hf; done) | skip
    rename_i r hr
    subst hf
    have := h.get hr
    simpa using this
  meth := fun t n f h => by simp [pgOf] at h
  ext := fun f e h => by simp [pgOf] at h
  sem := fun x h => by simp [pgOf] at h
  mixed := hm
end Ev

/- An evaluator that runs compiled code: what it comes to, the transformer says of it. -/
namespace Ev
open Go

/-- What an operation has come to. -/
inductive RO where
  | val (v : Value) (fr : F) (s : S)
  | pan (ch : Chain) (fr : F) (s : S)

def RO.holds (K : KV) (tight : Bool) (Q : KX) : RO → Prop
  | .val v fr s => K v fr s
  | .pan ch fr s => tight = true ∧ Q (.panic ch) fr s

abbrev RunE := Tgt → List Value → Option AMode → S → Option (Res × Option AMode × S)

/-- Values that are the same, of the plain kinds. -/
def veq : Nat → Value → Value → Bool
  | 0, _, _ => false
  | n + 1, x, y => match x, y with
    | .bool a, .bool b => a == b
    | .int k a, .int k' b => decide (k = k') && decide (a = b)
    | .string a, .string b => decide (a.data.toList = b.data.toList)
    | .pointer none, .pointer none => true
    | .pointer (some a), .pointer (some b) => decide (a = b)
    | .slice none i c, .slice none j d => Nat.beq i j && Nat.beq c d
    | .slice (some a) i c, .slice (some b) j d => decide (a = b) && Nat.beq i j && Nat.beq c d
    | .map a, .map b => decide (a = b)
    | .nilFunc, .nilFunc => true
    | .nilIface, .nilIface => true
    | .agg a, .agg b => veqL n a.toList b.toList
    | .tuple a, .tuple b => veqL n a.toList b.toList
    | _, _ => false
where
  veqL (n : Nat) : List Value → List Value → Bool
    | [], [] => true
    | x :: l, y :: m => veq n x y && veqL n l m
    | _, _ => false

theorem veq_eq : ∀ (n : Nat) (x y : Value), veq n x y = true → x = y := by
  intro n
  induction n with
  | zero => intro x y h; simp [veq] at h
  | succ n ih =>
    have hl : ∀ l m : List Value, veq.veqL n l m = true → l = m := by
      intro l
      induction l with
      | nil => intro m h; cases m with
        | nil => rfl
        | cons _ _ => simp [veq.veqL] at h
      | cons a l ihl => intro m h; cases m with
        | nil => simp [veq.veqL] at h
        | cons b m => simp only [veq.veqL, Bool.and_eq_true] at h; rw [ih a b h.1, ihl m h.2]
    intro x y h
    unfold veq at h
    split at h <;> (try simp only [Bool.and_eq_true, beq_iff_eq, decide_eq_true_eq] at h) <;> first
      | rfl
      | (cases h; done)
      | (rw [h]; done)
      | (rw [h.1, h.2]; done)
      | (rw [Nat.eq_of_beq_eq_true h.1, Nat.eq_of_beq_eq_true h.2]; done)
      | (rw [h.1.1, Nat.eq_of_beq_eq_true h.1.2, Nat.eq_of_beq_eq_true h.2]; done)
      | (have := hl _ _ h; rw [Array.toList_inj] at this; rw [this]; done)
      | (rename_i a b; obtain ⟨⟨a⟩⟩ := a; obtain ⟨⟨b⟩⟩ := b; simp only at h; subst h; rfl)

def oeq (a b : Option AObj) : Bool := match a, b with
  | some (.cells c t l h), some (.cells c' t' l' h') => veq.veqL 6 c c' && Nat.beq t t' && Nat.beq l l' && Nat.beq h h'
  | some (.map [] c), some (.map [] c') => Nat.beq c c'
  | _, _ => false

theorem oeq_eq {a b : Option AObj} (h : oeq a b = true) : a = b := by
  unfold oeq at h
  split at h <;> first | (cases h; done) | skip
  · simp only [Bool.and_eq_true] at h
    obtain ⟨⟨⟨h1, h2⟩, h3⟩, h4⟩ := h
    have hl : ∀ l m : List Value, veq.veqL 6 l m = true → l = m := by
      intro l
      induction l with
      | nil => intro m h; cases m with
        | nil => rfl
        | cons _ _ => simp [veq.veqL] at h
      | cons a l ihl => intro m h; cases m with
        | nil => simp [veq.veqL] at h
        | cons b m => simp only [veq.veqL, Bool.and_eq_true] at h; rw [veq_eq _ a b h.1, ihl m h.2]
    rw [hl _ _ h1, Nat.eq_of_beq_eq_true h2, Nat.eq_of_beq_eq_true h3, Nat.eq_of_beq_eq_true h4]
  · rw [Nat.eq_of_beq_eq_true h]

def vopt : Option Value → Option Value → Bool
  | some a, some b => veq 6 a b
  | _, _ => false

theorem vopt_eq {a b : Option Value} (h : vopt a b = true) : a = b := by
  cases a <;> cases b <;> simp only [vopt] at h <;> first | (cases h; done) | skip
  rw [veq_eq _ _ _ h]

def againB : List (Bool × Option Nat × Option (Nat × Bool) × Nat × MK) → List Value → Nat → Heap → Heap → Bool
  | [], _, _, _, _ => true
  | (isA, _, g, at_, k) :: l, t, c0, h, h' =>
    (match wantedM g t with
      | true => if isA then oeq (h'.get (c0 + at_)) (h.get (c0 + at_)) else vopt (evR k t h') (evR k t h)
      | false => true) && againB l t c0 h h'

theorem againB_again : ∀ {l : List (Bool × Option Nat × Option (Nat × Bool) × Nat × MK)} {t : List Value} {c0 : Nat} {h h' : Heap}, againB l t c0 h h' = true → again l t c0 h h' := by
  intro l
  induction l with
  | nil => intro t c0 h h' _; trivial
  | cons x l ih =>
    intro t c0 h h' hb
    obtain ⟨a, d, g, i, k⟩ := x
    simp only [againB, Bool.and_eq_true] at hb
    refine ⟨fun hw => ?_, ih hb.2⟩
    have hb := hb.1
    simp only [hw] at hb
    cases a
    · exact vopt_eq hb
    · exact oeq_eq hb

section
variable (G : Pg) (E : RunE) (N : Nat)

def ofRes (fr : F) : Option (Res × Option AMode × S) → Option RO
  | some (.ret v, _, s) => some (.val v fr s)
  | some (.panic ch, _, s) => some (.pan ch fr s)
  | none => none

def runCtl (k : MK) (fr : F) (s : S) : Option RO :=
  match k with
  | .call f xs => match eval fr.t f, evals fr.t xs with
    | some fv, some vs => match tgtOf fv vs with
      | some (tg, as) => match extOf G tg with
        | some e => match e as with
          | some v => some (.val v fr s)
          | none => none
        | none => ofRes fr (E tg as none s)
      | none => none
    | _, _ => none
  | .invoke x name xs => match eval fr.t x, evals fr.t xs with
    | some (.iface t v), some vs => match G.meth t name with
      | some f => ofRes fr (E (.fn f) (v :: vs) none s)
      | none => none
    | _, _ => none
  | .defer f xs => match eval fr.t f, evals fr.t xs with
    | some fv, some vs => match tgtOf fv vs, fr.r with
      | some (.fn g, as), none => some (.val undef { fr with d := .fn g as :: fr.d } s)
      | _, _ => none
    | _, _ => none
  | .recover => match fr.r with
    | some _ => none
    | none => match fr.m with
      | some (.pan ((v, false) :: older)) => some (.val v { fr with m := some (.pan ((v, true) :: older)) } s)
      | _ => some (.val .nilIface fr s)
  | .panic x => match eval fr.t x with
    | some (.iface t v) => some (.pan [(.iface t v, false)] fr s)
    | _ => none
  | .nextMap it => match eval fr.t it with
    | some (.pointer (some ⟨r, 0, _⟩)) => match s.h.get r with
      | some (.mapIter none _ _ _) => some (.val (.tuple #[.bool false]) fr s)
      | some (.mapIter (some m) since seen last) => match s.h.get m with
        | some (.map es clock) => match (!seen.isEmpty && !es.isEmpty && es.all (fun e => Nat.ble last e.born)) with
          | false => match es.filter fun e => !seen.contains e.born with
            | [] => some (.val (.tuple #[.bool false]) fr s)
            | [e] => match Nat.blt e.born since with
              | true => some (.val (.tuple #[.bool true, e.key, e.val]) fr { s with h := s.h.set r (some (.mapIter (some m) since (seen ++ [e.born]) clock)) })
              | false => none
            | _ => none
          | true => none
        | _ => none
      | _ => none
    | _ => none
  | _ => none

def runM (k : MK) (slot : Id) (fr : F) (s : S) : Option RO :=
  match cls k with
  | .p => match evP k fr.t with
    | some v => some (.val v fr s)
    | none => none
  | .r => match evR k fr.t s.h with
    | some v => some (.val v fr s)
    | none => none
  | .a => match evA k fr.t with
    | some (o, g) => some (.val (g slot) fr { s with h := s.h.set slot (some o) })
    | none => none
  | .w => match evS k fr.t s with
    | some (v, s') => some (.val v fr s')
    | none => none
  | .c => runCtl G E k fr s

def runOps (c0 : Nat) : List MO → F → S → Option (Ex × F × S)
  | [], fr, s => some (.normal, fr, s)
  | o :: os, fr, s => match wantedM o.guard fr.t with
    | true => match runM G E o.k (c0 + o.at_) fr s with
      | some (.val v fr' s') => match againB o.re fr.t c0 s.h s'.h with
        | true => runOps c0 os (fr'.put o.dst v) s'
        | false => none
      | some (.pan ch fr' s') => match o.tight with
        | true => some (.panic ch, fr', s')
        | false => none
      | none => none
    | false => runOps c0 os (fr.put o.dst undef) s

def loopR (body : F → S → Option (Ex × F × S)) : Nat → F → S → Option (Ex × F × S)
  | 0, _, _ => none
  | n + 1, fr, s => match body fr s with
    | some (.normal, fr', s') => loopR body n fr' s'
    | r => r

def endR (l : Id) (fr : F) : Option (Res × Option AMode × S) → Option (Ex × F × S)
  | some (.panic ch, _, s) => some (.panic ch, fr, s)
  | some (.ret _, _, s) => match s.h.get l with
    | some (.loop .busy _ _ _ _ _ _) => none
    | some (.loop _ pend t ps asg body dfr) => match pend with
      | none => some (.normal, fr, { s with h := s.h.set l (some (.loop .exhausted pend t ps asg body dfr)) })
      | some x => some (x, fr, { s with h := s.h.set l (some (.loop .exhausted pend t ps asg body dfr)) })
    | _ => none
  | none => none

def runC : MC → F → S → Option (Ex × F × S)
  | .skip, fr, s => some (.normal, fr, s)
  | .region n ops, fr, s => runOps G E s.c ops fr { s with c := s.c + n }
  | .seq a b, fr, s => match runC a fr s with
    | some (.normal, fr', s') => runC b fr' s'
    | r => r
  | .cond c a b, fr, s => match eval fr.t c with
    | some (.bool true) => runC a fr s
    | some (.bool false) => runC b fr s
    | _ => none
  | .block id a, fr, s => match runC a fr s with
    | some (.exit i, fr', s') => bif Nat.beq i id then some (.normal, fr', s') else some (.exit i, fr', s')
    | r => r
  | .loop a, fr, s => loopR (runC a) N fr s
  | .exit id, fr, s => some (.exit id, fr, s)
  | .ret, fr, s => some (.ret, fr, s)
  | .rangeF f ps asg body, fr, s => match eval fr.t f with
    | some fv =>
      match fr.r with
      | none => match tgtOf fv [.func (.yield (s.c + 1)) #[] #[]] with
        | some (.fn tg, as) => endR (s.c + 1) { fr with d := .col s.c :: fr.d } (E (.fn tg) as none
            { h := (s.h.set s.c (some (.dfr true))).set (s.c + 1) (some (.loop .ready none fr.t ps asg body s.c)), c := s.c + 2 })
        | _ => none
      | some l => match s.h.get l with
        | some (.loop _ _ _ _ _ _ dfr) => match tgtOf fv [.func (.yield s.c) #[] #[]] with
          | some (.fn tg, as) => endR s.c fr (E (.fn tg) as none { h := s.h.set s.c (some (.loop .ready none fr.t ps asg body dfr)), c := s.c + 1 })
          | _ => none
        | _ => none
    | none => none

def unwindR (rs : List (Nat × Option (Nat × Bool))) (t : List Value) (m : Option AMode) : List ADef → AMode → S → Option (Res × Option AMode × S)
  | [], .ret, s => match resultsV s.h t rs with
    | some vs => some (.ret (retV vs), m, s)
    | none => none
  | [], .pan ch, s => some (.panic ch, m, s)
  | .col b :: ds, u, s => match s.h.get b with
    | some (.dfr true) => unwindR rs t m ds u { s with h := s.h.set b (some (.dfr false)) }
    | _ => none
  | .fn f args :: ds, u, s => match E (.fn f) args (some u) s with
    | some (.ret _, some u', s') => unwindR rs t m ds (settleA u') s'
    | some (.panic ch, some u', s') => unwindR rs t m ds (raisedA u' ch) s'
    | _ => none

def bodyR (fn : MFn) : Option (Ex × F × S) → Option (Res × Option AMode × S)
  | some (.normal, fr, s) => unwindR E fn.results fr.t fr.m fr.d .ret s
  | some (.ret, fr, s) => unwindR E fn.results fr.t fr.m fr.d .ret s
  | some (.panic ch, fr, s) => unwindR E fn.results fr.t fr.m fr.d (.pan ch) s
  | _ => none

def roundR (l : Id) : Option (Ex × F × S) → Option (Res × Option AMode × S)
  | some (x, fr, s) => match fr.d with
    | [] => match x with
      | .panic ch => some (.panic ch, none, s)
      | .normal => match s.h.get l with
        | some (.loop _ _ t ps asg body dfr) => some (.ret (.bool true), none, { s with h := s.h.set l (some (.loop .ready none t ps asg body dfr)) })
        | _ => none
      | .exit i => match s.h.get l with
        | some (.loop _ _ t ps asg body dfr) => some (.ret (.bool false), none, { s with h := s.h.set l (some (.loop .done (some (.exit i)) t ps asg body dfr)) })
        | _ => none
      | .ret => match s.h.get l with
        | some (.loop _ _ t ps asg body dfr) => some (.ret (.bool false), none, { s with h := s.h.set l (some (.loop .done (some .ret) t ps asg body dfr)) })
        | _ => none
    | _ :: _ => none
  | none => none

def stepR : RunE := fun tg as m s =>
  match tg with
  | .fn f => match G.fn f with
    | some mf => bodyR E mf (runC G E N mf.code { t := as ++ List.replicate (mf.ntmps - as.length) undef, d := [], m := m, r := none } s)
    | none => none
  | .yield l => match s.h.get l, m with
    | some (.loop _ _ t ps asg body _), none => match Nat.beq as.length ps.length with
      | true => match runC G E N asg { t := updA t ps as, d := [], m := none, r := some l } s with
        | some (.normal, fr, s) => match s.h.get l with
          | some (.loop .ready pend t' ps' asg' body' dfr') => roundR l (runC G E N body fr { s with h := s.h.set l (some (.loop .busy pend t' ps' asg' body' dfr')) })
          | _ => none
        | _ => none
      | false => none
    | _, _ => none
end

/-- The evaluator: depth 'n', at most 'N' rounds a loop. -/
def run (G : Pg) (N : Nat) : Nat → RunE
  | 0 => fun _ _ _ _ => none
  | n + 1 => stepR G (run G N n) N

section
variable {G : Pg} {E : RunE} {N : Nat} {C : CA → Prop}

def RunOk (E : RunE) (C : CA → Prop) : Prop := ∀ tg as m s r m' s', E tg as m s = some (r, m', s') → ∀ Q : Res → Option AMode → S → Prop, Q r m' s' → C ⟨tg, as, m, s, Q⟩

theorem ofRes_ok (hE : RunOk E C) {tg : Tgt} {as : List Value} {fr : F} {s : S} {tight : Bool} {K : KV} {Q : KX} {r : RO} (h : ofRes fr (E tg as none s) = some r)
    (hk : r.holds K tight Q) : C ⟨tg, as, none, s, resK tight fr K Q⟩ := by
  cases hx : E tg as none s with
  | none => rw [hx] at h; simp [ofRes] at h
  | some x =>
    obtain ⟨r0, m', s'⟩ := x
    rw [hx] at h
    refine hE _ _ _ _ _ _ _ hx _ ?_
    cases r0 with
    | ret v => simp only [ofRes, Option.some.injEq] at h; subst h; exact hk
    | panic ch => simp only [ofRes, Option.some.injEq] at h; subst h; exact hk

theorem runCtl_ok (hE : RunOk E C) {k : MK} {fr : F} {s : S} {tight : Bool} {K : KV} {Q : KX} {r : RO} (h : runCtl G E k fr s = some r)
    (hk : r.holds K tight Q) : wpCtl G C k tight fr s K Q := by
  cases k <;> simp only [runCtl, wpCtl] at h ⊢ <;> first | (simp at h; done) | skip
  case call f xs =>
    split at h <;> first | (simp at h; done) | skip
    rename_i h1 h2; simp only [h1, h2]
    split at h <;> first | (simp at h; done) | skip
    rename_i h3; simp only [h3]
    split at h
    · rename_i h4; simp only [h4]
      split at h <;> first | (simp at h; done) | skip
      rename_i h5; simp only [h5]
      simp only [Option.some.injEq] at h; subst h
      exact hk
    · rename_i h4; simp only [h4]
      exact ofRes_ok hE h hk
  case invoke x n xs =>
    split at h <;> first | (simp at h; done) | skip
    rename_i h1 h2; simp only [h1, h2]
    split at h <;> first | (simp at h; done) | skip
    rename_i h3; simp only [h3]
    exact ofRes_ok hE h hk
  case defer f xs =>
    split at h <;> first | (simp at h; done) | skip
    rename_i h1 h2; simp only [h1, h2]
    split at h <;> first | (simp at h; done) | skip
    rename_i h3 h4; simp only [h3, h4]
    simp only [Option.some.injEq] at h; subst h
    simp only [RO.holds, h4] at hk
    exact hk
  case recover =>
    split at h <;> first | (simp at h; done) | skip
    rename_i h1; simp only [h1]
    split at h
    · rename_i h2; simp only [h2]
      simp only [Option.some.injEq] at h; subst h
      simp only [RO.holds, h1] at hk
      exact hk
    · rename_i h2
      split
      · rename_i v older h3; exact (h2 v older h3).elim
      · simp only [Option.some.injEq] at h; subst h; exact hk
  case panic x =>
    split at h <;> first | (simp at h; done) | skip
    rename_i h1; simp only [h1]
    simp only [Option.some.injEq] at h; subst h
    exact hk
  case nextMap x =>
    split at h <;> first | (simp at h; done) | skip
    rename_i h1; simp only [h1]
    split at h <;> first | (simp at h; done) | skip
    · rename_i h2; simp only [h2]
      simp only [Option.some.injEq] at h; subst h; exact hk
    · rename_i h2; simp only [h2]
      split at h <;> first | (simp at h; done) | skip
      rename_i h3; simp only [h3]
      split at h <;> first | (simp at h; done) | skip
      rename_i hc
      refine ⟨hc, ?_⟩
      split at h
      · rename_i hf
        simp only [Option.some.injEq] at h; subst h
        refine ⟨fun _ => hk, fun e he hs => ?_⟩
        exfalso
        have : e ∈ ([] : List MapEntry) := by rw [← hf]; simp only [List.mem_filter]; exact ⟨he, by simpa using hs⟩
        cases this
      · rename_i e0 hf
        split at h <;> first | (simp at h; done) | skip
        rename_i hb
        simp only [Option.some.injEq] at h; subst h
        refine ⟨fun hn => ?_, fun e he hs => ?_⟩
        · rw [hf] at hn
          simp [hb] at hn
        · have : e ∈ [e0] := by rw [← hf]; simp only [List.mem_filter]; exact ⟨he, by simpa using hs⟩
          simp only [List.mem_singleton] at this
          subst this
          exact hk
      · simp at h

theorem runM_ok (hE : RunOk E C) {k : MK} {slot : Id} {fr : F} {s : S} {tight : Bool} {K : KV} {Q : KX} {r : RO} (h : runM G E k slot fr s = some r)
    (hk : r.holds K tight Q) : wpM G C k slot tight fr s K Q := by
  unfold runM at h
  unfold wpM
  cases hc : cls k <;> simp only [hc] at h ⊢
  case c => exact runCtl_ok hE h hk
  all_goals
    split at h <;> first | (simp at h; done) | skip
    rename_i h1; simp only [h1]
    simp only [Option.some.injEq] at h; subst h
    exact hk

theorem runOps_ok (hE : RunOk E C) {c0 : Nat} {Q : KX} : ∀ (os : List MO) (fr : F) (s : S) (x : Ex) (fr' : F) (s' : S), runOps G E c0 os fr s = some (x, fr', s') → Q x fr' s' → wpOps G C c0 Q os fr s := by
  intro os
  induction os with
  | nil => intro fr s x fr' s' h hq; simp only [runOps, Option.some.injEq, Prod.mk.injEq] at h; obtain ⟨rfl, rfl, rfl⟩ := h; exact hq
  | cons o os ih =>
    intro fr s x fr' s' h hq
    simp only [runOps] at h
    simp only [wpOps]
    split at h
    · rename_i hw
      simp only [hw]
      split at h <;> first | (simp at h; done) | skip
      · rename_i v f1 s1 hr
        split at h <;> first | (simp at h; done) | skip
        rename_i hag
        exact runM_ok hE hr ⟨againB_again hag, ih _ _ _ _ _ h hq⟩
      · rename_i ch f1 s1 hr
        split at h <;> first | (simp at h; done) | skip
        rename_i ht
        simp only [Option.some.injEq, Prod.mk.injEq] at h
        obtain ⟨rfl, rfl, rfl⟩ := h
        exact runM_ok hE hr ⟨ht, hq⟩
    · rename_i hw
      simp only [hw]
      exact ih _ _ _ _ _ h hq

theorem endR_ok (hE : RunOk E C) {l : Id} {tg : Tgt} {as : List Value} {fr : F} {s : S} {Q : KX} {x : Ex} {fr' : F} {s' : S} (h : endR l fr (E tg as none s) = some (x, fr', s')) (hq : Q x fr' s') :
    C ⟨tg, as, none, s, endLoop l fr Q⟩ := by
  cases hx : E tg as none s with
  | none => rw [hx] at h; simp [endR] at h
  | some y =>
    obtain ⟨r0, m', s1⟩ := y
    rw [hx] at h
    refine hE _ _ _ _ _ _ _ hx _ ?_
    cases r0 with
    | panic ch =>
      simp only [endR, Option.some.injEq, Prod.mk.injEq] at h
      obtain ⟨rfl, rfl, rfl⟩ := h
      exact hq
    | ret v =>
      simp only [endR] at h
      simp only [endLoop]
      cases hg : s1.h.get l with
      | none => rw [hg] at h; simp at h
      | some o =>
        rw [hg] at h
        cases o <;> first | (simp at h; done) | skip
        rename_i st pend t ps asg body dfr
        cases st <;> cases pend <;> simp only [Option.some.injEq, Prod.mk.injEq] at h ⊢ <;> first
          | (simp at h; done)
          | (obtain ⟨rfl, rfl, rfl⟩ := h; exact hq)

theorem runC_ok (hE : RunOk E C) : ∀ (c : MC) (Q : KX) (fr : F) (s : S) (x : Ex) (fr' : F) (s' : S), runC G E N c fr s = some (x, fr', s') → Q x fr' s' → wpC G C c Q fr s := by
  intro c
  induction c with
  | skip => intro Q fr s x fr' s' h hq; simp only [runC, Option.some.injEq, Prod.mk.injEq] at h; obtain ⟨rfl, rfl, rfl⟩ := h; exact hq
  | region n ops => intro Q fr s x fr' s' h hq; exact runOps_ok hE ops _ _ _ _ _ h hq
  | seq a b iha ihb =>
    intro Q fr s x fr' s' h hq
    simp only [runC] at h
    simp only [wpC]
    cases ha : runC G E N a fr s with
    | none => rw [ha] at h; simp at h
    | some y =>
      obtain ⟨x1, f1, s1⟩ := y
      rw [ha] at h
      refine iha _ _ _ _ _ _ ha ?_
      cases x1 <;> simp only [thenQ] at h ⊢
      · exact ihb _ _ _ _ _ _ h hq
      all_goals (simp only [Option.some.injEq, Prod.mk.injEq] at h; obtain ⟨rfl, rfl, rfl⟩ := h; exact hq)
  | cond c a b iha ihb =>
    intro Q fr s x fr' s' h hq
    simp only [runC] at h
    simp only [wpC]
    split at h <;> first | (simp at h; done) | skip
    · rename_i h1; simp only [h1]; exact iha _ _ _ _ _ _ h hq
    · rename_i h1; simp only [h1]; exact ihb _ _ _ _ _ _ h hq
  | block id a iha =>
    intro Q fr s x fr' s' h hq
    simp only [runC] at h
    simp only [wpC]
    cases ha : runC G E N a fr s with
    | none => rw [ha] at h; simp at h
    | some y =>
      obtain ⟨x1, f1, s1⟩ := y
      rw [ha] at h
      refine iha _ _ _ _ _ _ ha ?_
      cases x1 <;> simp only [blockQ] at h ⊢
      case exit i =>
        cases hb : Nat.beq i id <;> simp only [hb, cond_true, cond_false] at h ⊢ <;> (simp only [Option.some.injEq, Prod.mk.injEq] at h; obtain ⟨rfl, rfl, rfl⟩ := h; exact hq)
      all_goals (simp only [Option.some.injEq, Prod.mk.injEq] at h; obtain ⟨rfl, rfl, rfl⟩ := h; exact hq)
  | loop a iha =>
    intro Q fr s x fr' s' h hq
    simp only [runC] at h
    simp only [wpC]
    intro I hI
    have : ∀ (n : Nat) (fr : F) (s : S), loopR (runC G E N a) n fr s = some (x, fr', s') → I fr s := by
      intro n
      induction n with
      | zero => intro fr s h; simp [loopR] at h
      | succ n ih =>
        intro fr s h
        simp only [loopR] at h
        cases ha : runC G E N a fr s with
        | none => rw [ha] at h; simp at h
        | some y =>
          obtain ⟨x1, f1, s1⟩ := y
          rw [ha] at h
          refine hI _ _ (iha _ _ _ _ _ _ ha ?_)
          cases x1 <;> simp only [thenQ] at h ⊢
          · exact ih _ _ h
          all_goals (simp only [Option.some.injEq, Prod.mk.injEq] at h; obtain ⟨rfl, rfl, rfl⟩ := h; exact hq)
    exact this N fr s h
  | exit id => intro Q fr s x fr' s' h hq; simp only [runC, Option.some.injEq, Prod.mk.injEq] at h; obtain ⟨rfl, rfl, rfl⟩ := h; exact hq
  | ret => intro Q fr s x fr' s' h hq; simp only [runC, Option.some.injEq, Prod.mk.injEq] at h; obtain ⟨rfl, rfl, rfl⟩ := h; exact hq
  | rangeF f ps asg body _ _ =>
    intro Q fr s x fr' s' h hq
    simp only [runC] at h
    simp only [wpC]
    split at h <;> first | (simp at h; done) | skip
    rename_i h1; simp only [h1]
    split at h
    · rename_i h2; simp only [h2]
      split at h <;> first | (simp at h; done) | skip
      rename_i h3; simp only [h3]
      have := endR_ok hE h hq
      rw [h2] at this
      exact this
    · rename_i h2; simp only [h2]
      split at h <;> first | (simp at h; done) | skip
      rename_i h3; simp only [h3]
      split at h <;> first | (simp at h; done) | skip
      rename_i h4; simp only [h4]
      have := endR_ok hE h hq
      exact this

theorem unwindR_ok (hE : RunOk E C) {rs : List (Nat × Option (Nat × Bool))} {t : List Value} {m : Option AMode} {Q : Res → Option AMode → S → Prop} {r : Res} {m' : Option AMode} {s' : S} (hq : Q r m' s') :
    ∀ (ds : List ADef) (u : AMode) (s : S), unwindR E rs t m ds u s = some (r, m', s') → unwindQ C rs t Q m ds u s := by
  intro ds
  induction ds with
  | nil =>
    intro u s h
    cases u with
    | ret =>
      simp only [unwindR] at h
      simp only [unwindQ]
      split at h <;> first | (simp at h; done) | skip
      rename_i h1; simp only [h1]
      simp only [Option.some.injEq, Prod.mk.injEq] at h; obtain ⟨rfl, rfl, rfl⟩ := h; exact hq
    | pan ch => simp only [unwindR, Option.some.injEq, Prod.mk.injEq] at h; obtain ⟨rfl, rfl, rfl⟩ := h; exact hq
  | cons d ds ih =>
    intro u s h
    cases d with
    | col b =>
      simp only [unwindR] at h
      simp only [unwindQ]
      split at h <;> first | (simp at h; done) | skip
      rename_i h1; simp only [h1]
      exact ih _ _ h
    | fn f args =>
      simp only [unwindR] at h
      simp only [unwindQ]
      split at h <;> first | (simp at h; done) | skip
      all_goals
        rename_i hx
        exact hE _ _ _ _ _ _ _ hx _ (ih _ _ h)

theorem stepR_ok (hE : RunOk E C) {tg : Tgt} {as : List Value} {m : Option AMode} {s : S} {r : Res} {m' : Option AMode} {s' : S} (h : stepR G E N tg as m s = some (r, m', s'))
    {Q : Res → Option AMode → S → Prop} (hq : Q r m' s') : Fn G C ⟨tg, as, m, s, Q⟩ := by
  cases tg with
  | fn f =>
    simp only [stepR] at h
    simp only [Fn]
    split at h <;> first | (simp at h; done) | skip
    rename_i mf hmf
    simp only [hmf]
    cases hx : runC G E N mf.code { t := as ++ List.replicate (mf.ntmps - as.length) undef, d := [], m := m, r := none } s with
    | none => rw [hx] at h; simp [bodyR] at h
    | some y =>
      obtain ⟨x, f1, s1⟩ := y
      rw [hx] at h
      refine runC_ok hE _ _ _ _ _ _ _ hx ?_
      cases x <;> simp only [bodyR] at h <;> first | (simp at h; done) | exact unwindR_ok hE hq _ _ _ h
  | yield l =>
    simp only [stepR] at h
    simp only [Fn]
    split at h <;> first | (simp at h; done) | skip
    rename_i hg0; simp only [hg0]
    split at h <;> first | (simp at h; done) | skip
    rename_i hlen
    refine ⟨Nat.eq_of_beq_eq_true hlen, ?_⟩
    split at h <;> first | (simp at h; done) | skip
    rename_i f1 s1 hx
    refine runC_ok hE _ _ _ _ _ _ _ hx ?_
    split at h <;> first | (simp at h; done) | skip
    rename_i pend t' ps' asg' body' dfr' hg
    simp only [hg]
    generalize hy : runC G E N _ f1 { s1 with h := s1.h.set l (some (.loop .busy pend t' ps' asg' body' dfr')) } = y at h
    cases y with
    | none => simp [roundR] at h
    | some y =>
      obtain ⟨x, f2, s2⟩ := y
      refine runC_ok hE _ _ _ _ _ _ _ hy ?_
      simp only [roundR] at h
      simp only [roundQ]
      split at h <;> first | (simp at h; done) | skip
      rename_i hd
      simp only [hd]
      split at h
      · simp only [Option.some.injEq, Prod.mk.injEq] at h; obtain ⟨rfl, rfl, rfl⟩ := h; exact hq
      all_goals
        split at h <;> first | (simp at h; done) | skip
        rename_i hg2
        simp only [hg2]
        simp only [Option.some.injEq, Prod.mk.injEq] at h; obtain ⟨rfl, rfl, rfl⟩ := h; exact hq

theorem run_ok : ∀ n, RunOk (run G N n) (Cl G) := by
  intro n
  induction n with
  | zero => intro tg as m s r m' s' h; simp [run] at h
  | succ n ih => intro tg as m s r m' s' h Q hq; exact Cl.closed _ (stepR_ok ih h hq)
end
end Ev

/- Functions of the library without a body: what a call of one comes to. -/
namespace Ev
open Go

theorem callFunc_ext {P : Program} {f : FuncId} {g : Func} {e : Array Value → Sem Value} (hf : P.funcs[f]? = some g) (hn : (g.name == "runtime.NumGoroutine") = false) (hb : g.body.isNone = true)
    (h1 : Extern.findNext g = none) (h2 : Extern.find g = some e) {args : Array Value} {v : Value} {w : World} (h : (e args).run P w = .ok v w) :
    (callFunc f args).run P w = .ok (.value v) w := by
  unfold callFunc
  rw [run_bind_ok run_program]
  simp only [hf, hn, hb, h1, h2]
  simp [h]

/-- The bits of a float. -/
def fromBits : List Value → Option Value
  | [.int .u64 n] => some (.float .f64 n.toNat)
  | _ => none

theorem fromBits_ok {P : Program} {f : FuncId} {g : Func} (hf : P.funcs[f]? = some g) (hn : (g.name == "runtime.NumGoroutine") = false) (hb : g.body.isNone = true)
    (h1 : Extern.findNext g = none) (h2 : Extern.find g = some Extern.MathFloatBits.float64frombits) {ρ : Rho} {args : List Value} {args' : Array Value} {v : Value} {w : World}
    (ha : VRL ρ args args'.toList) (hv : fromBits args = some v) : ∃ v', (callFunc f args').run P w = .ok (.value v') w ∧ VR ρ v v' := by
  unfold fromBits at hv
  split at hv <;> first | (simp at hv; done) | skip
  rename_i n
  simp only [Option.some.injEq] at hv; subst hv
  obtain ⟨l⟩ := args'
  simp only at ha
  cases ha with
  | cons h t =>
    cases t
    cases h
    exact ⟨_, callFunc_ext hf hn hb h1 h2 rfl, .float _ _⟩

/-- A program with no methods by dynamic types, that takes a float from its bits by the library. -/
def pgExt (tbl : List (Option MFn)) (fb : FuncId) : Pg := ⟨fnOf tbl, fun _ _ => none, fun f => bif Nat.beq f fb then some fromBits else none, fun _ => False⟩

theorem good_ext {P : Program} {tbl : List (Option MFn)} {fb : FuncId} {g : Func} (h : AllG P 0 tbl) (hm : P.follows .mixedOrders = true) (hf : P.funcs[fb]? = some g)
    (hn : (g.name == "runtime.NumGoroutine") = false) (hb : g.body.isNone = true) (h1 : Extern.findNext g = none) (h2 : Extern.find g = some Extern.MathFloatBits.float64frombits) :
    Good P (pgExt tbl fb) where
  fn := (good_of h hm).fn
  meth := fun t n f h => by simp [pgExt] at h
  ext := fun f e he ρ args args' v w ha hv => by
    simp only [pgExt] at he
    cases hx : Nat.beq f fb with
    | false => rw [hx] at he; simp at he
    | true =>
      rw [hx] at he
      simp only [cond_true, Option.some.injEq] at he; subst he
      have := Nat.eq_of_beq_eq_true hx
      subst this
      exact fromBits_ok hf hn hb h1 h2 ha hv
  sem := fun x h => by simp [pgExt] at h
  mixed := hm
end Ev

/- What a run leaves alone: blocks that read the same as before are the same. -/
namespace Ev
open Go Go.RowKit

/-- Values that stand for one real value alone. -/
def exV : Nat → Value → Bool
  | 0, _ => false
  | n + 1, v => match v with
    | .bool _ | .int _ _ | .float _ _ | .string _ | .pointer _ | .map _ | .nilFunc | .nilIface => true
    | .slice _ _ c => Nat.blt c unk
    | .iface _ v => exV n v
    | .agg cs => cs.toList.all (exV n)
    | .tuple cs => cs.toList.all (exV n)
    | _ => false

theorem exV_eq {ρ : Rho} : ∀ (n : Nat) (v : Value), exV n v = true → ∀ x y, VR ρ v x → VR ρ v y → x = y := by
  intro n
  induction n with
  | zero => intro v h; simp [exV] at h
  | succ n ih =>
    have hl : ∀ l : List Value, l.all (exV n) = true → ∀ l1 l2, VRL ρ l l1 → VRL ρ l l2 → l1 = l2 := by
      intro l
      induction l with
      | nil => intro _ l1 l2 h1 h2; cases h1; cases h2; rfl
      | cons a l ihl =>
        intro h l1 l2 h1 h2
        simp only [List.all_cons, Bool.and_eq_true] at h
        cases h1 with
        | cons a1 t1 =>
          cases h2 with
          | cons a2 t2 => rw [ih a h.1 _ _ a1 a2, ihl h.2 _ _ t1 t2]
    intro v h x y hx hy
    cases hx <;> simp only [exV] at h <;> first | (cases h; done) | skip
    case bool => cases hy; rfl
    case int => cases hy; rfl
    case float => cases hy; rfl
    case string => cases hy; rfl
    case ptrN => cases hy; rfl
    case ptr hb => cases hy with | ptr hb' => rw [hb] at hb'; cases hb'; rfl
    case sliceN => cases hy with
      | sliceN => rfl
      | sliceE => simp [emp, unk] at h
    case slice hb hc => cases hy with
      | slice hb' => rw [hb] at hb'; cases hb'; rfl
      | sliceU => exfalso; omega
    case sliceU => exfalso; have := Nat.le_of_ble_eq_true h; omega
    case mapN => cases hy; rfl
    case map hb => cases hy with | map hb' => rw [hb] at hb'; cases hb'; rfl
    case nilFunc => cases hy; rfl
    case nilIface => cases hy; rfl
    case iface t h1 => cases hy with | iface _ h2 => rw [ih _ h _ _ h1 h2]
    case agg h1 => cases hy with
      | agg h2 => have := hl _ h _ _ h1 h2; rw [Array.toList_inj] at this; rw [this]
    case tuple h1 => cases hy with
      | tuple h2 => have := hl _ h _ _ h1 h2; rw [Array.toList_inj] at this; rw [this]

theorem below_of {ρ ρ' : Rho} {s s' : S} {W W' : World} (hE : Ext No ρ s W ρ' s' W')
    (h : ∀ i o b r, s.h.get i = some o → ρ i = some (b, r) → o.ro = true) : Below W.heap.size W W' :=
  ⟨hE.os, hE.tape, hE.output, hE.size, fun b hb => hE.frame b hb fun i o r h1 h2 => h i o b r h1 h2⟩
end Ev

/- A run on plain values from an empty state: what it returns it returns whatever stands there, and leaves all as it was. -/
namespace Ev
open Go

/-- Plain: no blocks. -/
def pf (v : Value) : Bool := closed v && exV 6 v

theorem pf_VR {ρ : Rho} {v : Value} (h : pf v = true) : VR ρ v v := by
  simp only [pf, Bool.and_eq_true] at h
  exact closed_VR h.1

theorem pf_eq {ρ : Rho} {v v' : Value} (h : pf v = true) (hv : VR ρ v v') : v' = v := by
  simp only [pf, Bool.and_eq_true] at h
  exact exV_eq 6 v h.2 _ _ hv (closed_VR h.1)

theorem pf_VRL {ρ ρ' : Rho} : ∀ {l l' : List Value}, l.all pf = true → VRL ρ l l' → VRL ρ' l l'
  | [], _, _, .nil => .nil
  | a :: l, _, h, .cons h1 h2 => by
    simp only [List.all_cons, Bool.and_eq_true] at h
    rw [pf_eq h.1 h1]
    exact .cons (pf_VR h.1) (pf_VRL h.2 h2)

theorem sound_of_run {P : Program} {G : Pg} (hG : Good P G) {f : FuncId} {as : List Value} {v : Value} {N n : Nat} (h : (run G N n (.fn f) as none ⟨.nil, 0⟩).map (fun r => (r.1, r.2.1)) = some (.ret v, none))
    (ha0 : as.all pf = true) (hv0 : pf v = true) {s : S} {Q : Res → Option AMode → S → Prop} (hq : Q (.ret v) none s) : Sound P ⟨.fn f, as, none, s, Q⟩ := by
  intro ρ w args' cs hR ha _
  cases hx : run G N n (.fn f) as none ⟨.nil, 0⟩ with
  | none => rw [hx] at h; simp at h
  | some x =>
    obtain ⟨r, m, s1⟩ := x
    rw [hx] at h
    simp only [Option.map_some, Option.some.injEq, Prod.mk.injEq] at h
    obtain ⟨rfl, rfl⟩ := h
    have hc := run_ok (G := G) (N := N) n _ _ _ _ _ _ _ hx (fun r m s' => r = .ret v ∧ m = none ∧ s' = s1) ⟨rfl, rfl, rfl⟩
    have h0 : ∀ i, (Tr.nil : Heap).get i = none := fun i => rfl
    have hR0 : Rel P (fun _ => none) ⟨.nil, 0⟩ w := ⟨fun i o b r h => by simp [h0] at h, fun i j o o' b r r' h => by simp [h0] at h, fun _ _ => rfl, fun i b r h => by simp at h, fun i _ => h0 i⟩
    obtain ⟨r', m', s', ρ', w', fr, cs', ⟨rfl, rfl, rfl⟩, q2, q3, q4, q5, q6, q7⟩ := Cl_sound hG hc (fun _ => none) w args' cs hR0 (pf_VRL ha0 ha) (fun u hu => by cases hu)
    have hfr : ∀ b, b < w.heap.size → w'.heap[b]? = w.heap[b]? := fun b hb => q3.frame b hb fun i o r h => by simp [h0] at h
    refine ⟨.ret v, none, s, ρ, w', fr, cs', hq, ⟨fun i o b r hi hb => ?_, hR.inj, hR.fresh, fun i b r hb => Nat.lt_of_lt_of_le (hR.blk i b r hb) q3.size, hR.wf⟩, ⟨Sub.refl _, fun i h1 h2 => absurd h1 h2, fun _ _ _ h => h, Nat.le_refl _, q3.size, fun b hb _ => hfr b hb, fun i o b r h1 h2 _ => ⟨i, o, r, h1, h2, id⟩, q3.tape, q3.os, q3.output, q3.keep⟩, q4, q5, ?_, q7⟩
    · rw [hfr b (hR.blk i b r hb)]
      exact hR.obj i o b r hi hb
    · obtain ⟨e1, e2, e3, fn, v', e4, e5, e6⟩ := q6
      have := pf_eq hv0 e6
      subst this
      exact ⟨e1, e2, e3, fn, _, e4, e5, pf_VR hv0⟩

/-- The same program, with all that is sound of its calls. -/
def Pg.all (P : Program) (G : Pg) : Pg := { G with sem := fun x => Sound P x ∧ ∀ g, x.tgt = .fn g → ∃ m, G.fn g = some m }

theorem good_all {P : Program} {G : Pg} (hG : Good P G) : Good P (G.all P) where
  fn := hG.fn
  meth := hG.meth
  ext := hG.ext
  mixed := hG.mixed
  sem := fun x h => h

/-- A call with plain values that comes to the same wherever it is made. -/
theorem cl_pure {P : Program} {G : Pg} (hG : Good P G) {f : FuncId} {as : List Value} {v : Value} (N n : Nat) (h : (run G N n (.fn f) as none ⟨.nil, 0⟩).map (fun r => (r.1, r.2.1)) = some (.ret v, none))
    (hf : (G.fn f).isSome = true) (ha0 : as.all pf = true) (hv0 : pf v = true) {s : S} {Q : Res → Option AMode → S → Prop} (hq : Q (.ret v) none s) : Cl (G.all P) ⟨.fn f, as, none, s, Q⟩ :=
  Cl.sem ⟨sound_of_run hG h ha0 hv0 hq, fun g e => by
    simp only [Tgt.fn.injEq] at e; subst e
    cases hx : G.fn f with
    | none => rw [hx] at hf; cases hf
    | some m => exact ⟨m, rfl⟩⟩

theorem Cl.call {G : Pg} {f : FuncId} {m : MFn} (hf : G.fn f = some m) {as : List Value} {s : S} {Q : Res → Option AMode → S → Prop}
    (h : wpC G (Cl G) m.code (bodyQ (Cl G) m Q) { t := as ++ List.replicate (m.ntmps - as.length) undef, d := [], m := none, r := none } s) : Cl G ⟨.fn f, as, none, s, Q⟩ := by
  refine Cl.closed _ ?_
  simp only [Fn, hf]
  exact h
end Ev

/- Values of the program: what is right. -/
namespace Ev
open Go

theorem order_self (b : Nat) : (FloatKind.format .f64).order b b = if b % 9223372036854775808 ≤ 9218868437227405312 then some .eq else none := by
  have h1 : Ieee.double.signWeight = 9223372036854775808 := by kernel_rfl
  have h2 : Ieee.double.infRung = 9218868437227405312 := by kernel_rfl
  have h3 : Ieee.double.binade = 4503599627370496 := by kernel_rfl
  have hc : ∀ x : Int, compare x x = .eq := fun x => by simp
  have hn : ∀ x : Nat, compare x x = .eq := fun x => by simp
  show (Ieee.double.read b).order (Ieee.double.read b) = _
  unfold Ieee.Format.read
  simp only [h1, h2, h3]
  split
  · rw [if_pos (by omega)]
    simp [Ieee.Datum.order]
  · split
    · rw [if_pos (by omega)]
      simp [Ieee.Datum.order]
    · split
      · rw [if_pos (by omega)]
        simp [Ieee.Datum.order]
      · rw [if_neg (by omega)]
        simp [Ieee.Datum.order]

theorem andNot_sign {n : Int} (h0 : 0 ≤ n) (h1 : n < 18446744073709551616) : intBin .andNot .u64 n .u64 9223372036854775808 = some (.int .u64 (n % 9223372036854775808)) := by
  have e1 : ~~~(BitVec.ofInt 64 9223372036854775808) = BitVec.ofNat 64 (2 ^ 63 - 1) := by decide
  have e2 : (BitVec.ofInt 64 n).toNat = n.toNat := by
    rw [BitVec.toNat_ofInt]; omega
  have e3 : (BitVec.ofInt 64 n &&& ~~~(BitVec.ofInt 64 9223372036854775808)).toNat = n.toNat % 9223372036854775808 := by
    rw [e1, BitVec.toNat_and, e2, BitVec.toNat_ofNat]
    rw [show (2 ^ 63 - 1) % 2 ^ 64 = 2 ^ 63 - 1 by decide, Nat.and_two_pow_sub_one_eq_mod]
  have hw : ∀ x : Int, 0 ≤ x → x < 18446744073709551616 → IntKind.u64.wrap x = x := by
    intro x hx hx2
    simp [IntKind.wrap, IntKind.bits, IntKind.signed]
    omega
  show pv (Op.intBits .andNot .u64 n 9223372036854775808) = _
  have : Op.intBits .andNot .u64 n 9223372036854775808 = .pure (.int .u64 (IntKind.u64.wrap ((BitVec.ofInt 64 n &&& ~~~(BitVec.ofInt 64 9223372036854775808)).toNat : Nat))) := rfl
  rw [this, e3, hw _ (by omega) (by omega)]
  simp only [pv]
  congr 2
  omega

/-- A value that may be: no NaN but one. -/
def rightB (n : Int) : Bool := decide (n % 9223372036854775808 ≤ 9218868437227405312) || n == 9221120237041090560
end Ev

/- Loops by an invariant with a measure. -/
namespace Ev
open Go

section
variable {G : Pg} {C : CA → Prop} {Q : KX} {fr : F} {s : S}
theorem wp_skip : wpC G C .skip Q fr s = Q .normal fr s := rfl
theorem wp_region {n : Nat} {ops : List MO} : wpC G C (.region n ops) Q fr s = wpOps G C s.c Q ops fr { s with c := s.c + n } := rfl
theorem wp_seq {a b : MC} : wpC G C (.seq a b) Q fr s = wpC G C a (thenQ (wpC G C b Q) Q) fr s := rfl
/-- What a condition leads to. -/
def condQ (v : Option Value) (A B : Prop) : Prop := match v with
  | some (.bool true) => A
  | some (.bool false) => B
  | _ => False
theorem condQ_true {A B : Prop} : condQ (some (.bool true)) A B = A := rfl
theorem condQ_false {A B : Prop} : condQ (some (.bool false)) A B = B := rfl
theorem wp_cond {c : Operand} {a b : MC} : wpC G C (.cond c a b) Q fr s = condQ (eval fr.t c) (wpC G C a Q fr s) (wpC G C b Q fr s) := by
  rw [wpC]
  unfold condQ
  cases eval fr.t c with
  | none => rfl
  | some v => cases v <;> first
    | rfl
    | (rename_i b; cases b <;> rfl)
theorem wp_block {id : Nat} {a : MC} : wpC G C (.block id a) Q fr s = wpC G C a (blockQ id Q) fr s := rfl
theorem wp_exit {id : Nat} : wpC G C (.exit id) Q fr s = Q (.exit id) fr s := rfl
theorem wp_ret : wpC G C .ret Q fr s = Q .ret fr s := rfl
end

theorem wpC_loop {G : Pg} {a : MC} {Q : KX} (Inv : Nat → F → S → Prop) (h : ∀ k f s, Inv k f s → wpC G (Cl G) a (thenQ (fun f s => ∃ k', k' < k ∧ Inv k' f s) Q) f s)
    {k : Nat} {f : F} {s : S} (h0 : Inv k f s) : wpC G (Cl G) (.loop a) Q f s := by
  simp only [wpC]
  intro I hI
  have : ∀ n k f s, k < n → Inv k f s → I f s := by
    intro n
    induction n with
    | zero => intro k f s hk; omega
    | succ n ih =>
      intro k f s hk hi
      refine hI f s (wpC_mono (Cl.up) a (thenQ_mono ?_ (fun _ _ _ h => h)) f s (h k f s hi))
      rintro f' s' ⟨k', hk', hi'⟩
      exact ih k' f' s' (by omega) hi'
  exact this (k + 1) k f s (by omega) h0

theorem wpC_mono_Q {G : Pg} {a : MC} {Q Q' : KX} {f : F} {s : S} (h : wpC G (Cl G) a Q f s) (hQ : ∀ x f s, Q x f s → Q' x f s) : wpC G (Cl G) a Q' f s :=
  wpC_mono Cl.up a hQ f s h
end Ev

/- A state to start from: every block of cells by its own number, read only. -/
namespace Ev
open Go

/-- Values that stand for themselves. -/
def plainV (n : Nat) : Nat → Value → Bool
  | _, .bool _ => true
  | _, .int _ _ => true
  | _, .float _ _ => true
  | _, .string _ => true
  | _, .pointer none => true
  | _, .pointer (some ⟨b, _, none⟩) => Nat.blt b n
  | _, .slice none _ c => Nat.blt c unk
  | _, .slice (some ⟨b, _, none⟩) _ c => Nat.blt b n && Nat.blt c unk
  | _, .nilFunc => true
  | _, .nilIface => true
  | d + 1, .agg cs => cs.toList.all (plainV n d)
  | _, _ => false

/-- Each block by its own number. -/
def rhoId (W : World) : Rho := fun i => match W.heap[i]? with
  | some (.cells c _ _) => some (i, c.size)
  | some _ => some (i, 0)
  | none => none

theorem rhoId_lt {W : World} {i b r : Nat} (h : rhoId W i = some (b, r)) : b = i ∧ i < W.heap.size := by
  unfold rhoId at h
  cases hg : W.heap[i]? with
  | none => rw [hg] at h; cases h
  | some o =>
    have := (Array.getElem?_eq_some_iff.1 hg).1
    rw [hg] at h
    cases o <;> (simp only [Option.some.injEq, Prod.mk.injEq] at h; exact ⟨h.1.symm, this⟩)

theorem rhoId_some {W : World} {b : Nat} (h : b < W.heap.size) : ∃ r, rhoId W b = some (b, r) := by
  unfold rhoId
  rw [Array.getElem?_eq_getElem h]
  cases W.heap[b] <;> exact ⟨_, rfl⟩

theorem plain_VR {W : World} : ∀ (d : Nat) (v : Value), plainV W.heap.size d v = true → VR (rhoId W) v v := by
  intro d
  induction d with
  | zero =>
    intro v h
    unfold plainV at h
    split at h
    case h_1 => exact .bool _
    case h_2 => exact .int _ _
    case h_3 => exact .float _ _
    case h_4 => exact .string _
    case h_5 => exact .ptrN
    case h_6 => obtain ⟨r, hr⟩ := rhoId_some (by simpa [Nat.blt_eq] using h); exact .ptr hr
    case h_7 => exact .sliceN _ _ (by simpa [Nat.blt_eq] using h)
    case h_8 => simp only [Bool.and_eq_true] at h; obtain ⟨r, hr⟩ := rhoId_some (by simpa [Nat.blt_eq] using h.1); exact .slice hr (by simpa [Nat.blt_eq] using h.2)
    case h_9 => exact .nilFunc
    case h_10 => exact .nilIface
    all_goals first | (cases h; done) | contradiction
  | succ d ih =>
    intro v h
    unfold plainV at h
    split at h
    case h_1 => exact .bool _
    case h_2 => exact .int _ _
    case h_3 => exact .float _ _
    case h_4 => exact .string _
    case h_5 => exact .ptrN
    case h_6 => obtain ⟨r, hr⟩ := rhoId_some (by simpa [Nat.blt_eq] using h); exact .ptr hr
    case h_7 => exact .sliceN _ _ (by simpa [Nat.blt_eq] using h)
    case h_8 => simp only [Bool.and_eq_true] at h; obtain ⟨r, hr⟩ := rhoId_some (by simpa [Nat.blt_eq] using h.1); exact .slice hr (by simpa [Nat.blt_eq] using h.2)
    case h_9 => exact .nilFunc
    case h_10 => exact .nilIface
    case h_11 =>
      rename_i d' cs heq
      cases heq
      refine .agg ?_
      generalize cs.toList = l at h
      induction l with
      | nil => exact .nil
      | cons a l ihl =>
        simp only [List.all_cons, Bool.and_eq_true] at h
        exact .cons (ih a h.1) (ihl h.2)
    all_goals first | (cases h; done) | contradiction

theorem plain_VRL {W : World} {d : Nat} {l : List Value} (h : l.all (plainV W.heap.size d) = true) : VRL (rhoId W) l l := by
  induction l with
  | nil => exact .nil
  | cons a l ihl =>
    simp only [List.all_cons, Bool.and_eq_true] at h
    exact .cons (plain_VR d a h.1) (ihl h.2)

theorem some_VR {ρ : Rho} : ∀ (n : Nat) (v' : Value), sizeOf v' < n → ∃ v, VR ρ v v' := by
  intro n
  induction n with
  | zero => intro v' h; omega
  | succ n ih =>
    have hl : ∀ l : List Value, (∀ a ∈ l, sizeOf a < n) → ∃ l', VRL ρ l' l := by
      intro l
      induction l with
      | nil => intro _; exact ⟨[], .nil⟩
      | cons a l ihl =>
        intro h
        obtain ⟨v, hv⟩ := ih a (h a (List.mem_cons_self ..))
        obtain ⟨l', hl'⟩ := ihl fun b hb => h b (List.mem_cons_of_mem _ hb)
        exact ⟨v :: l', .cons hv hl'⟩
    intro v' h
    have hs : ∀ (cs : Array Value), sizeOf cs < n → ∀ a ∈ cs.toList, sizeOf a < n := by
      intro cs hc a ha
      have := Array.sizeOf_lt_of_mem (by simpa using ha : a ∈ cs)
      omega
    cases v' with
    | agg cs =>
      obtain ⟨l', hl'⟩ := hl cs.toList (hs cs (by simp at h; omega))
      exact ⟨.agg l'.toArray, .agg (by simpa using hl')⟩
    | tuple cs =>
      obtain ⟨l', hl'⟩ := hl cs.toList (hs cs (by simp at h; omega))
      exact ⟨.tuple l'.toArray, .tuple (by simpa using hl')⟩
    | bool b => exact ⟨.bool b, .bool b⟩
    | _ => exact ⟨.chan none, .top rfl⟩

theorem heap_of (f : Nat → Option AObj) : ∀ n : Nat, ∃ h : Heap, ∀ i, h.get i = if i < n then f i else none := by
  intro n
  induction n with
  | zero => exact ⟨.nil, fun i => by simp [Tr.get]⟩
  | succ n ih =>
    obtain ⟨h, hh⟩ := ih
    refine ⟨h.set n (f n), fun i => ?_⟩
    rw [Tr.get_set, hh]
    by_cases e : i = n
    · subst e; simp
    · rw [if_neg e]
      by_cases e2 : i < n
      · rw [if_pos e2, if_pos (by omega)]
      · rw [if_neg e2, if_neg (by omega)]

/-- What stands for a block. -/
def StartO (W : World) (d : Nat) : Obj → Option AObj → Prop
  | .cells c' t _, o => ∃ c, o = some (.cells c t 0 (roHi + c'.size)) ∧ c.length = c'.size ∧ (∀ i v, c'[i]? = some v → plainV W.heap.size d v = true → nth c i = some v) ∧
      (∀ i v, nth c i = some v → ∃ v', c'[i]? = some v' ∧ VR (rhoId W) v v')
  | _, o => o = none

theorem startO_ex (W : World) (d : Nat) (o : Obj) : ∃ x, StartO W d o x := by
  cases o <;> first | exact ⟨none, rfl⟩ | skip
  rename_i c' t fz
  obtain ⟨l⟩ := c'
  have : ∃ c : List Value, c.length = l.length ∧ (∀ i v, l[i]? = some v → plainV W.heap.size d v = true → nth c i = some v) ∧
      (∀ i v, nth c i = some v → ∃ v', l[i]? = some v' ∧ VR (rhoId W) v v') := by
    induction l with
    | nil => exact ⟨[], rfl, fun i v h => by simp at h, fun i v h => by simp [nth] at h⟩
    | cons a l ih =>
      obtain ⟨c, h1, h2, h3⟩ := ih
      have : ∃ v, VR (rhoId W) v a ∧ (plainV W.heap.size d a = true → v = a) := by
        by_cases hp : plainV W.heap.size d a = true
        · exact ⟨a, plain_VR d a hp, fun _ => rfl⟩
        · obtain ⟨v, hv⟩ := some_VR (ρ := rhoId W) _ a (Nat.lt_succ_self _)
          exact ⟨v, hv, fun h => absurd h hp⟩
      obtain ⟨v, hv, he⟩ := this
      refine ⟨v :: c, by simp [h1], fun i u hu hp => ?_, fun i u hu => ?_⟩
      · cases i with
        | zero => simp only [List.getElem?_cons_zero, Option.some.injEq] at hu; subst hu; simp only [nth]; rw [he hp]
        | succ i => simp only [List.getElem?_cons_succ] at hu; exact h2 i u hu hp
      · cases i with
        | zero => simp only [nth, Option.some.injEq] at hu; subst hu; exact ⟨a, rfl, hv⟩
        | succ i => simp only [nth] at hu; obtain ⟨v', h4, h5⟩ := h3 i u hu; exact ⟨v', by simpa using h4, h5⟩
  obtain ⟨c, h1, h2, h3⟩ := this
  exact ⟨_, c, rfl, by simpa using h1, fun i v hv => h2 i v (by simpa using hv), fun i v hv => by simpa using h3 i v hv⟩

/-- A state to start from. -/
structure Starts (P : Program) (W : World) (d : Nat) (s : S) : Prop where
  rel : Rel P (rhoId W) s W
  c : s.c = W.heap.size
  ro : ∀ i o, s.h.get i = some o → o.ro = true
  get : ∀ (b : Nat) (c' : Array Value) (t : TypeId) (fz : Nat × Nat), W.heap[b]? = some (.cells c' t fz) → ∃ c, s.h.get b = some (.cells c t 0 (roHi + c'.size)) ∧ c.length = c'.size ∧
    ∀ i v, c'[i]? = some v → plainV W.heap.size d v = true → nth c i = some v

theorem start_of (P : Program) (W : World) (d : Nat) : ∃ s, Starts P W d s := by
  have hx : ∀ i : Nat, ∃ x, ∀ o, W.heap[i]? = some o → StartO W d o x := by
    intro i
    cases hg : W.heap[i]? with
    | none => exact ⟨none, fun o h => by cases h⟩
    | some o =>
      obtain ⟨x, hx⟩ := startO_ex W d o
      exact ⟨x, fun o' h => by cases h; exact hx⟩
  obtain ⟨h, hh⟩ := heap_of (fun i => Classical.choose (hx i)) W.heap.size
  have key : ∀ (i : Nat) (x : AObj), h.get i = some x → ∃ (c' : Array Value) (t : TypeId) (fz : Nat × Nat) (c : List Value), W.heap[i]? = some (.cells c' t fz) ∧ x = .cells c t 0 (roHi + c'.size) ∧ c.length = c'.size ∧
      (∀ i v, nth c i = some v → ∃ v', c'[i]? = some v' ∧ VR (rhoId W) v v') := by
    intro i x hi
    rw [hh] at hi
    split at hi
    · rename_i hlt
      have h1 := Classical.choose_spec (hx i) W.heap[i] (Array.getElem?_eq_getElem hlt)
      rw [hi] at h1
      cases ho : W.heap[i] <;> rw [ho] at h1 <;> first | (cases h1; done) | skip
      rename_i c' t fz
      obtain ⟨c, h2, h3, _, h5⟩ := h1
      simp only [Option.some.injEq] at h2
      exact ⟨c', t, fz, c, by rw [Array.getElem?_eq_getElem hlt, ho], h2, h3, h5⟩
    · cases hi
  refine ⟨⟨h, W.heap.size⟩, ⟨fun i o b r hi hb => ?_, fun i j o o' b r r' _ _ h1 h2 => ?_, fun i hi => ?_, fun i b r hb => ?_, fun i hi => ?_⟩, rfl, fun i o hi => ?_, fun b c' t fz hb => ?_⟩
  · obtain ⟨c', t, fz, c, h1, rfl, h3, h4⟩ := key i o hi
    have : b = i ∧ r = c'.size := by
      unfold rhoId at hb; rw [h1] at hb
      simp only [Option.some.injEq, Prod.mk.injEq] at hb
      exact ⟨hb.1.symm, hb.2.symm⟩
    obtain ⟨rfl, rfl⟩ := this
    exact ⟨_, h1, .cells rfl (by omega) h4 (fun i _ _ h => ⟨by omega, by omega⟩)⟩
  · have e1 := (rhoId_lt h1).1
    have e2 := (rhoId_lt h2).1
    omega
  · cases hr : rhoId W i with
    | none => rfl
    | some x => obtain ⟨b, r⟩ := x; have := (rhoId_lt hr).2; simp only at hi; omega
  · have := rhoId_lt hb; omega
  · simp only at hi
    rw [hh, if_neg (by omega)]
  · obtain ⟨c', t, fz, c, h1, rfl, h3, h4⟩ := key i o hi
    simp only [AObj.ro]
    exact Nat.ble_eq_true_of_le (Nat.le_add_right _ _)
  · have hlt := (Array.getElem?_eq_some_iff.1 hb).1
    have h1 := Classical.choose_spec (hx b) _ hb
    obtain ⟨c, h2, h3, h4, _⟩ := h1
    exact ⟨c, by rw [hh, if_pos hlt]; exact h2, h3, h4⟩
end Ev

/- A state to start from with one block; code that is run to a place. -/
namespace Ev
open Go

def heap1 (o : Option AObj) : Heap := .node .nil o .nil

theorem heap1_get (o : Option AObj) (i : Nat) : (heap1 o).get i = if i = 0 then o else none := by
  unfold heap1
  have e3 : Nat.beq i 0 = decide (i = 0) := by cases i <;> simp [Nat.beq]
  simp only [Tr.get, e3]
  by_cases h : i = 0
  · simp [h]
  · simp only [h, decide_false, cond_false, if_false]
    cases Nat.beq (i % 2) 1 <;> rfl

def rho1 (b r : Nat) : Rho := fun i => if i = 0 then some (b, r) else none

theorem cells_ex (ρ : Rho) (l : List Value) : ∃ c : List Value, c.length = l.length ∧ (∀ i v, l[i]? = some v → pf v = true → nth c i = some v) ∧
    (∀ i v, nth c i = some v → ∃ v', l[i]? = some v' ∧ VR ρ v v') := by
  induction l with
  | nil => exact ⟨[], rfl, fun i v h => by simp at h, fun i v h => by simp [nth] at h⟩
  | cons a l ih =>
    obtain ⟨c, h1, h2, h3⟩ := ih
    have : ∃ v, VR ρ v a ∧ (pf a = true → v = a) := by
      by_cases hp : pf a = true
      · exact ⟨a, pf_VR hp, fun _ => rfl⟩
      · obtain ⟨v, hv⟩ := some_VR (ρ := ρ) _ a (Nat.lt_succ_self _)
        exact ⟨v, hv, fun h => absurd h hp⟩
    obtain ⟨v, hv, he⟩ := this
    refine ⟨v :: c, by simp [h1], fun i u hu hp => ?_, fun i u hu => ?_⟩
    · cases i with
      | zero => simp only [List.getElem?_cons_zero, Option.some.injEq] at hu; subst hu; simp only [nth]; rw [he hp]
      | succ i => simp only [List.getElem?_cons_succ] at hu; exact h2 i u hu hp
    · cases i with
      | zero => simp only [nth, Option.some.injEq] at hu; subst hu; exact ⟨a, rfl, hv⟩
      | succ i => simp only [nth] at hu; obtain ⟨v', h4, h5⟩ := h3 i u hu; exact ⟨v', by simpa using h4, h5⟩

theorem start_none (P : Program) (W : World) : Rel P (fun _ => none) ⟨heap1 none, 1⟩ W where
  obj := fun i o b r _ h => by simp at h
  inj := fun i j o o' b r r' _ _ h => by simp at h
  fresh := fun _ _ => rfl
  blk := fun i b r h => by simp at h
  wf := fun i h => by simp only [heap1_get]; split <;> rfl

theorem start_one (P : Program) (W : World) {b : Nat} {c' : Array Value} {t : TypeId} {fz : Nat × Nat} (hb : W.heap[b]? = some (.cells c' t fz)) :
    ∃ c, Rel P (rho1 b c'.size) ⟨heap1 (some (.cells c t 0 (roHi + c'.size))), 1⟩ W ∧ c.length = c'.size ∧ (∀ i v, c'[i]? = some v → pf v = true → nth c i = some v) := by
  obtain ⟨c, h1, h2, h3⟩ := cells_ex (rho1 b c'.size) c'.toList
  have hlt := (Array.getElem?_eq_some_iff.1 hb).1
  have get : ∀ i o, (heap1 (some (.cells c t 0 (roHi + c'.size)))).get i = some o → i = 0 ∧ o = .cells c t 0 (roHi + c'.size) := by
    intro i o h
    rw [heap1_get] at h
    split at h
    · rename_i e; simp only [Option.some.injEq] at h; exact ⟨e, h.symm⟩
    · cases h
  refine ⟨c, ⟨fun i o b' r hi hb' => ?_, fun i j o o' b r r' h h' _ _ => ?_, fun i hi => ?_, fun i b' r hb' => ?_, fun i hi => ?_⟩, by simpa using h1, fun i v hv => h2 i v (by simpa using hv)⟩
  · obtain ⟨rfl, rfl⟩ := get i o hi
    simp only [rho1, if_true, Option.some.injEq, Prod.mk.injEq] at hb'
    obtain ⟨rfl, rfl⟩ := hb'
    exact ⟨_, hb, .cells rfl (by simp at h1; omega) (fun i v hv => by simpa using h3 i v hv) (fun i _ _ h => ⟨by omega, by omega⟩)⟩
  · rw [(get _ _ h).1, (get _ _ h').1]
  · simp only at hi; simp only [rho1]; rw [if_neg (by omega)]
  · simp only [rho1] at hb'
    split at hb'
    · simp only [Option.some.injEq, Prod.mk.injEq] at hb'; omega
    · cases hb'
  · simp only at hi; rw [heap1_get, if_neg (by omega)]

theorem ro1 {c : List Value} {t : TypeId} {n : Nat} {ρ : Rho} (i : Nat) (o : AObj) (b r : Nat) (h : (heap1 (some (.cells c t 0 (roHi + n)))).get i = some o) (_ : ρ i = some (b, r)) : o.ro = true := by
  rw [heap1_get] at h
  split at h
  · simp only [Option.some.injEq] at h; subst h
    exact Nat.ble_eq_true_of_le (Nat.le_add_right _ _)
  · cases h

/-! a run to a place -/
section
variable (G : Pg) (E : RunE) (N : Nat)

/-- The first operations of a region. -/
def runJ (c0 : Nat) : Nat → List MO → F → S → Option (Nat × List MO × F × S)
  | 0, os, fr, s => some (c0, os, fr, s)
  | j + 1, o :: os, fr, s => match wantedM o.guard fr.t with
    | true => match runM G E o.k (c0 + o.at_) fr s with
      | some (.val v fr' s') => match againB o.re fr.t c0 s.h s'.h with
        | true => runJ c0 j os (fr'.put o.dst v) s'
        | false => none
      | _ => none
    | false => runJ c0 j os (fr.put o.dst undef) s
  | _ + 1, [], _, _ => none

/-- The first 'k' statements of a row, and the first 'j' operations of the next. -/
def runP (j : Nat) : Nat → MC → F → S → Option (MC × Nat × List MO × F × S)
  | 0, .seq (.region n ops) rest, fr, s => match runJ G E s.c j ops fr { s with c := s.c + n } with
    | some x => some (rest, x)
    | none => none
  | k + 1, .seq a b, fr, s => match runC G E N a fr s with
    | some (.normal, fr', s') => runP j k b fr' s'
    | _ => none
  | _, _, _, _ => none
end

section
variable {G : Pg} {E : RunE} {N : Nat} {C : CA → Prop}
theorem runJ_ok (hE : RunOk E C) {c0 : Nat} {Q : KX} {c1 : Nat} {os' : List MO} {fr' : F} {s' : S} (hq : wpOps G C c1 Q os' fr' s') : ∀ (j : Nat) (os : List MO) (fr : F) (s : S),
    runJ G E c0 j os fr s = some (c1, os', fr', s') → wpOps G C c0 Q os fr s := by
  intro j
  induction j with
  | zero =>
    intro os fr s h
    simp only [runJ, Option.some.injEq, Prod.mk.injEq] at h
    obtain ⟨rfl, rfl, rfl, rfl⟩ := h
    exact hq
  | succ j ih =>
    intro os fr s h
    cases os with
    | nil => simp [runJ] at h
    | cons o os =>
      simp only [runJ] at h
      simp only [wpOps]
      split at h
      · rename_i hw
        simp only [hw]
        split at h <;> first | (simp at h; done) | skip
        rename_i v f1 s1 hr
        split at h <;> first | (simp at h; done) | skip
        rename_i hag
        exact runM_ok hE hr ⟨againB_again hag, ih _ _ _ h⟩
      · rename_i hw
        simp only [hw]
        exact ih _ _ _ h

theorem runP_ok (hE : RunOk E C) {Q : KX} {j c1 : Nat} {os' : List MO} {rest : MC} {fr' : F} {s' : S} (hq : wpOps G C c1 (thenQ (wpC G C rest Q) Q) os' fr' s') : ∀ (k : Nat) (c : MC) (fr : F) (s : S),
    runP G E N j k c fr s = some (rest, c1, os', fr', s') → wpC G C c Q fr s := by
  intro k
  induction k with
  | zero =>
    intro c fr s h
    unfold runP at h
    split at h <;> first | (simp at h; done) | skip
    · split at h <;> first | (simp at h; done) | skip
      rename_i x hx
      simp only [Option.some.injEq, Prod.mk.injEq] at h
      obtain ⟨rfl, rfl⟩ := h
      exact runJ_ok hE hq j _ _ _ hx
    · contradiction
  | succ k ih =>
    intro c fr s h
    unfold runP at h
    split at h <;> first | (simp at h; done) | skip
    · contradiction
    · rename_i k' a b h0
      cases h0
      split at h <;> first | (simp at h; done) | skip
      rename_i f1 s1 hr
      refine runC_ok hE a _ _ _ _ _ _ hr ?_
      exact ih _ _ _ h
end
end Ev

/- The frame of a law: it returns true, and nothing that was there has changed. -/
namespace Ev
open Go Go.ChangeShapes Go.WideShapes Go.ChangeAt Go.RowKit

theorem trodAll_below {H : Type} {enc : TypeId × Value → H} {P : Program} (hl : laidOutB P = true) {W W' : World} (hb : Below W.heap.size W W') :
    ∀ {ts : List TypeId} {vs : List Value} {ds : List (DataW H)} {ps : List MemPlace}, (∀ t ∈ ts, P.readableRec t = true ∧ t < P.types.size) →
      DataW.TrodAll enc P W 0 (fun _ => true) true ts vs ds ps → (∀ p ∈ ps, p.block < W.heap.size) →
      DataW.TrodAll enc P W' 0 (fun b => decide (b < W.heap.size)) true ts vs ds ps := by
  intro ts
  induction ts with
  | nil => intro vs ds ps _ h _; cases vs <;> cases ds <;> first | exact h | exact h.elim
  | cons t ts ih =>
    intro vs ds ps hr h hlt
    cases vs with
    | nil => exact h.elim
    | cons v vs =>
      cases ds with
      | nil => exact h.elim
      | cons d ds =>
        obtain ⟨p, q, h1, h2, rfl⟩ := h
        have ht := hr t (List.mem_cons_self ..)
        exact ⟨p, q, Below.trod hl ht.1 ht.2 h1 hb (fun x hx => hlt x (List.mem_append.2 (.inl hx))), ih (fun t h => hr t (List.mem_cons_of_mem _ h)) h2 (fun x hx => hlt x (List.mem_append.2 (.inr hx))), rfl⟩

theorem law_post {H : Type} {enc : TypeId × Value → H} {P : Program} (hl : laidOutB P = true) {f : Func} {s : ChangeSpec} {W W' : World} {args : Array Value} {ds gs : List (DataW H)} {before : List MemPlace}
    (hW : DataW.Whole enc P f.params.toList s.vars false W args.toList ds gs before) (hv : s.vars = []) (hb : Below W.heap.size W W')
    (hread : ∀ t ∈ f.params.toList, P.readableRec t = true ∧ t < P.types.size) {tb : TypeId} (hrt : f.resultTypes = #[tb]) (hu : P.underlying tb = some .bool)
    (hs : s.fn H (ds ++ gs) = { results := [.lit (.bool true)], args := ds }) : s.post enc P f false true false false W args (.bool true) W' := by
  have hlt := hW.lt
  have hW' := hW
  obtain ⟨p, q, h1, h2, rfl, h3, h4⟩ := hW
  have hq : q = [] := by
    rw [hv] at h2
    cases gs <;> first | exact h2 | exact h2.elim
  have hg : gs = [] := by
    rw [hv] at h2
    cases gs <;> first | rfl | exact h2.elim
  subst hq; subst hg
  refine ⟨ds, [], p ++ [], [], p, [], hW', ?_, ?_, ?_, ?_, fun h => by cases h⟩
  · rw [hs, hrt]
    exact trodAll_mk1 (shut_bool hu _)
  · rw [hs]
    exact trodAll_below hl hb hread h1 (fun x hx => hlt x (List.mem_append.2 (.inl hx)))
  · rw [hs, hv]; rfl
  · exact Below.frame hb _
end Ev

/- Arguments that hold numbers, truth values and strings alone: what their cells are. -/
namespace Ev
open Go

/-- What a cell holds. -/
inductive CK where
  | int (k : IntKind)
  | bool
  | str

def CellOk : CK → Value → Prop
  | .int k, v => ∃ n, v = .int k n ∧ (Lit.int k n).wf = true
  | .bool, v => ∃ b, v = .bool b
  | .str, v => ∃ s, v = .string s ∧ s.size ≤ maxLen

inductive CellsOk : List CK → List Value → Prop where
  | nil : CellsOk [] []
  | cons {k : CK} {v : Value} {ks : List CK} {vs : List Value} (h : CellOk k v) (t : CellsOk ks vs) : CellsOk (k :: ks) (v :: vs)

theorem CellsOk.inv {k : CK} {ks : List CK} {vs : List Value} (h : CellsOk (k :: ks) vs) : ∃ v vs', vs = v :: vs' ∧ CellOk k v ∧ CellsOk ks vs' := by
  cases h with
  | cons h t => exact ⟨_, _, rfl, h, t⟩

theorem CellsOk.inv0 {vs : List Value} (h : CellsOk [] vs) : vs = [] := by
  cases h; rfl

theorem CellsOk.append : ∀ {ks ks' : List CK} {vs vs' : List Value}, CellsOk ks vs → CellsOk ks' vs' → CellsOk (ks ++ ks') (vs ++ vs')
  | _, _, _, _, .nil, h' => h'
  | _, _, _, _, .cons h t, h' => .cons h (t.append h')

theorem CellsOk.length : ∀ {ks : List CK} {vs : List Value}, CellsOk ks vs → ks.length = vs.length
  | _, _, .nil => rfl
  | _, _, .cons _ t => by simp [t.length]

theorem CellOk.pf {k : CK} {v : Value} (h : CellOk k v) : pf v = true := by
  cases k with
  | int k => obtain ⟨n, rfl, _⟩ := h; rfl
  | bool => obtain ⟨b, rfl⟩ := h; rfl
  | str => obtain ⟨s, rfl, _⟩ := h; rfl

theorem CellsOk.pf : ∀ {ks : List CK} {vs : List Value}, CellsOk ks vs → vs.all pf = true
  | _, _, .nil => rfl
  | _, _, .cons h t => by simp [h.pf, t.pf]

mutual
def flatK (P : Program) : Nat → TypeId → Option (List CK)
  | 0, _ => none
  | d + 1, t => match P.underlying t with
    | some (.int k) => some [.int k]
    | some .bool => some [.bool]
    | some .string => some [.str]
    | some (.struct fs) => match flatF P d 0 fs.toList with
      | some ks => if P.cellsOf t = ks.length then some ks else none
      | none => none
    | _ => none
def flatF (P : Program) : Nat → Nat → List Field → Option (List CK)
  | _, _, [] => some []
  | 0, _, _ :: _ => none
  | d + 1, off, f :: fs => match flatK P d f.type, (if f.offset = off then flatF P d (off + P.cellsOf f.type) fs else none) with
    | some ks, some ks' => if P.cellsOf f.type = ks.length then some (ks ++ ks') else none
    | _, _ => none
end

theorem flat_ok {H : Type} {enc : TypeId × Value → H} {P : Program} {w : World} {base : Nat} {spare : Nat → Bool} {held : Bool} : ∀ (d : Nat),
    (∀ (t : TypeId) (ks : List CK) (fuel : Nat) (cs : List Value) (x : DataW H × List MemPlace), flatK P d t = some ks → DataW.trod enc P w base spare held fuel t cs = some x → CellsOk ks cs) ∧
    (∀ (fs : List Field) (off : Nat) (ks : List CK) (fuel : Nat) (cs : List Value) (xs : List (DataW H × List MemPlace)), flatF P d off fs = some ks → xs.length = fs.length →
      (∀ (i : Nat) (f : Field), fs[i]? = some f → DataW.trod enc P w base spare held fuel f.type ((cs.drop f.offset).take (P.cellsOf f.type)) = xs[i]?) → cs.length = off + ks.length → CellsOk ks (cs.drop off)) := by
  intro d
  induction d with
  | zero =>
    refine ⟨fun t ks fuel cs x h => by simp [flatK] at h, fun fs off ks fuel cs xs h hl hx hlen => ?_⟩
    cases fs with
    | nil =>
      simp only [flatF, Option.some.injEq] at h; subst h
      rw [List.drop_of_length_le (by simp at hlen; omega)]
      exact .nil
    | cons f fs => simp [flatF] at h
  | succ d ih =>
    refine ⟨fun t ks fuel cs x h hx => ?_, fun fs off ks fuel cs xs h hl hx hlen => ?_⟩
    · simp only [flatK] at h
      split at h <;> first | (simp at h; done) | skip
      · rename_i k ht
        simp only [Option.some.injEq] at h; subst h
        obtain ⟨n, rfl, _, hw⟩ := DataW.trod_int ht hx
        exact .cons ⟨n, rfl, hw⟩ .nil
      · rename_i ht
        simp only [Option.some.injEq] at h; subst h
        obtain ⟨b, rfl, _⟩ := DataW.trod_bool ht hx
        exact .cons ⟨b, rfl⟩ .nil
      · rename_i ht
        simp only [Option.some.injEq] at h; subst h
        obtain ⟨b, rfl, _, hs⟩ := DataW.trod_string ht hx
        exact .cons ⟨b, rfl, hs⟩ .nil
      · rename_i fs ht
        split at h <;> first | (simp at h; done) | skip
        rename_i ks' hks
        split at h <;> first | (simp at h; done) | skip
        rename_i hc
        simp only [Option.some.injEq] at h; subst h
        obtain ⟨xs, n, _, _, h1, h2, h3⟩ := DataW.trod_struct ht hx
        have := ih.2 fs.toList 0 ks' n cs xs hks (by simpa using h2) (fun i f hf => h3 i f (by simpa using hf)) (by omega)
        simpa using this
    · cases fs with
      | nil =>
        simp only [flatF, Option.some.injEq] at h; subst h
        rw [List.drop_of_length_le (by simp at hlen; omega)]
        exact .nil
      | cons f fs =>
        simp only [flatF] at h
        split at h <;> first | (simp at h; done) | skip
        rename_i k1 k2 hk1 hk2
        split at h <;> first | (simp at h; done) | skip
        rename_i hc
        split at hk2 <;> first | (simp at hk2; done) | skip
        rename_i hoff
        simp only [Option.some.injEq] at h; subst h
        have h0 := hx 0 f rfl
        cases xs with
        | nil => simp at hl
        | cons x xs =>
          simp only [List.getElem?_cons_zero] at h0
          have a1 := ih.1 f.type k1 fuel _ x hk1 h0
          have a2 := ih.2 fs (off + P.cellsOf f.type) k2 fuel cs xs hk2 (by simpa using hl) (fun i g hg => by simpa using hx (i + 1) g (by simpa using hg)) (by rw [hlen, List.length_append]; omega)
          have := a1.append a2
          rw [hoff] at this
          rw [← List.drop_drop, List.take_append_drop] at this
          exact this

section
variable {H : Type} {enc : TypeId × Value → H} {P : Program} {W : World}

/-- A struct of such. -/
theorem open_flat {t : TypeId} {fs : Array Field} {ks : List CK} {r : Reach} {b0 : Nat} {v : Value} {d : DataW H} {ps : List MemPlace} (ht : P.underlying t = some (.struct fs)) (hk : flatK P 20 t = some ks)
    (hval : Value.okWide P W r b0 t v) (h : DataW.Trod enc P W 0 (fun _ => true) true t v d ps) : ∃ cs : Array Value, v = .agg cs ∧ CellsOk ks cs.toList := by
  obtain ⟨fuel, hf⟩ := h
  simp only [Value.okWide, ht] at hval
  obtain ⟨cs, rfl, _⟩ := hval
  exact ⟨cs, rfl, (flat_ok 20).1 _ _ _ _ _ hk hf⟩

/-- A slice of such. -/
theorem open_flats {t e : TypeId} {ks : List CK} {m : Nat} {r : Reach} {b0 : Nat} {v : Value} {d : DataW H} {ps : List MemPlace} (ht : P.underlying t = some (.slice e)) (hk : flatK P 20 e = some ks) (hm : P.cellsOf e = m)
    (hval : Value.okWide P W r b0 t v) (h : DataW.Trod enc P W 0 (fun _ => true) true t v d ps) :
    v = .slice none 0 0 ∨ ∃ (b o n cap : Nat), v = .slice (some ⟨b, o, none⟩) n cap ∧ n ≤ cap ∧ cap ≤ maxLen ∧
      (n = 0 ∨ ∃ c' t' fz, W.heap[b]? = some (.cells c' t' fz) ∧ ∀ i, i < n → ∃ cs, CellsOk ks cs ∧ ∀ j v, cs[j]? = some v → c'[o + i * m + j]? = some v) := by
  obtain ⟨fuel, hf⟩ := h
  subst hm
  rcases DataW.trod_slice ht hf with ⟨h1, _⟩ | ⟨a, len, cap, elems, rest, n, _, h1, _, _, h3, h4, h5, h6, _, _⟩
  · left
    cases v <;> simp [Value.cells] at h1 ⊢ <;> first | exact h1 | skip
    all_goals simp [Value.okWide, ht, Cell.okWide, Cell.ok] at hval
  · right
    have hv : v = .slice (some a) len cap := by
      cases v <;> simp [Value.cells] at h1 ⊢ <;> first | exact h1 | skip
      all_goals simp [Value.okWide, ht, Cell.okWide, Cell.ok] at hval
    subst hv
    have hsp : a.spot = none := by
      simp only [Value.okWide, ht, Cell.okWide, Cell.ok, World.has] at hval
      exact hval.2.2.2.1
    obtain ⟨b, o, sp⟩ := a
    simp only at hsp; subst hsp
    refine ⟨b, o, len, cap, rfl, h3, h4, ?_⟩
    by_cases h0 : len = 0
    · exact .inl h0
    right
    have each : ∀ i, i < len → ∃ cs, CellsOk ks cs ∧ W.cells? 0 (Addr.add ⟨b, o, none⟩ (i * P.cellsOf e)) (P.cellsOf e) = some cs := by
      intro i hi
      have := h6 i hi
      rw [List.getElem?_eq_getElem (by omega), Option.bind_eq_some_iff] at this
      obtain ⟨cs, h7, h8⟩ := this
      exact ⟨cs, (flat_ok 20).1 _ _ _ _ _ hk h8, h7⟩
    have hblk : ∀ (i j : Nat) (v : Value), W.cell? (Addr.add (Addr.add ⟨b, o, none⟩ i) j) = some v → ∃ c' t' fz, W.heap[b]? = some (.cells c' t' fz) ∧ c'[o + i + j]? = some v := by
      intro i j v hc
      have e : Addr.add (Addr.add ⟨b, o, none⟩ i) j = ⟨b, o + i + j, none⟩ := by
        simp only [Addr.add]
        by_cases hi : i = 0 <;> by_cases hj : j = 0 <;> simp [hi, hj]
      rw [e] at hc
      simp only [World.cell?] at hc
      split at hc
      · rename_i c' t' fz hg
        exact ⟨c', t', fz, hg, by simpa using hc⟩
      · cases hc
    by_cases hm0 : P.cellsOf e = 0
    · -- no cells at all
      obtain ⟨cs, h7, h8⟩ := each 0 (by omega)
      have h9 := (World.cells?_some h8).2.1
      simp only [Value.okWide, ht, Cell.okWide, Cell.ok, World.has] at hval
      obtain ⟨_, _, _, _, row, cells, hsh, _⟩ := hval
      simp only [World.shape?] at hsh
      split at hsh <;> first | (cases hsh; done) | skip
      rename_i c' t' fz hg
      refine ⟨c', t', fz, hg, fun i hi => ?_⟩
      obtain ⟨cs, h7, h8⟩ := each i hi
      have h9 := (World.cells?_some h8).2.1
      refine ⟨cs, h7, fun j v hj => ?_⟩
      have := (List.getElem?_eq_some_iff.1 hj).1
      omega
    · obtain ⟨cs, h7, h8⟩ := each 0 (by omega)
      obtain ⟨_, h9, h10⟩ := World.cells?_some h8
      have h11 := h10 0 (by omega)
      rw [List.getElem?_eq_getElem (by omega)] at h11
      obtain ⟨c', t', fz, hg, _⟩ := hblk _ _ _ h11
      refine ⟨c', t', fz, hg, fun i hi => ?_⟩
      obtain ⟨cs, h7, h8⟩ := each i hi
      obtain ⟨_, h9, h10⟩ := World.cells?_some h8
      refine ⟨cs, h7, fun j v hj => ?_⟩
      have hlt := (List.getElem?_eq_some_iff.1 hj).1
      have h11 := h10 j (by omega)
      rw [hj] at h11
      obtain ⟨c2, t2, fz2, hg2, h12⟩ := hblk _ _ _ h11
      rw [hg] at hg2
      simp only [Option.some.injEq, Obj.cells.injEq] at hg2
      obtain ⟨rfl, _, _⟩ := hg2
      exact h12
end
end Ev
