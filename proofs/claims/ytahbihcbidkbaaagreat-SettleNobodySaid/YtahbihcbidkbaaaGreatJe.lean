/-
  Operations in the calculus: calls, what is thrown, what is deferred.
-/
import Derived.Test.YtahbihcbidkbaaaGreatJd
set_option linter.unusedVariables false
namespace Go.Proofs.YtahbihcbidkbaaaGreat.Ev
open Go

/-- The fence of an activation: wide; of a round, where 'ro' says so. -/
def Fw (ro : Option Nat) : Fence := { Fence.wide with round := ro }

theorem callsIn_Fw {ro : Option Nat} {n : Nat} {P : Program} {f : FuncId} {args : Array Value} {w : World} {R : Ending → World → Prop} (h : Calls P f args w R) : CallsIn (Fw ro) n P f args w R :=
  show CallsIn Fence.wide n P f args w R from callsIn_wide.2 h

theorem calls_of_In {n : Nat} {P : Program} {f : FuncId} {args : Array Value} {w : World} {R : Ending → World → Prop} (h : CallsIn Fence.wide n P f args w R) : Calls P f args w R := callsIn_wide.1 h

theorem roundIn_Fw {ro : Option Nat} {n : Nat} {P : Program} {l : Nat} {f : FuncId} {tmps : Array Value} {assign body : Code} {w : World} {R : Ending → World → Prop} (h : RoundIn Fence.wide 0 P l f tmps assign body w R) :
    RoundIn (Fw ro) n P l f tmps assign body w R := ⟨trivial, fun c cs _ => h.2 c cs (room_wide _)⟩

def FinR (e : Env) : Fin → Ending → Prop
  | .ret v, .returned V => conc e v = some V
  | .panic v, .panicked ch => ∃ V, conc e v = some V ∧ ch = [{ v := V, recovered := false }]
  | _, _ => False

/-- What a call comes to. -/
def callPost (e : Env) (h : Heap) (w : World) (fin : Fin) (h' : Heap) : Ending → World → Prop := fun en w' => ∃ e', Tr e h w e' h' w' ∧ HR e' h' w' ∧ FinR e' fin en

theorem callPost_out {e : Env} {h : Heap} {w : World} {fin : Fin} {h' : Heap} {w' : World} : ¬ callPost e h w fin h' .outgrown w' := by
  rintro ⟨e', _, _, hf⟩
  cases fin <;> exact hf

def NextOK (P : Program) (R : Ending → World → Prop) : Result Next → Prop
  | .ok (.value v) w' => R (.returned v) w'
  | .ok (.enter f args) w' => Calls P f args w' R
  | .ok (.round l f tmps assign body) w' => RoundIn Fence.wide 0 P l f tmps assign body w' R
  | _ => False

/-- The mode of a frame that is on its way out. -/
def modeR (e : Env) : Option AV → FrameMode → Prop
  | none, .returning => True
  | some v, .panicking ch => ∃ V, conc e v = some V ∧ ch = [{ v := V, recovered := false }]
  | _, _ => False

/-- What is asked of the program. -/
structure CxOK (cx : Ctx) : Prop where
  ng : ∀ (f : FuncId) fn, cx.P.funcs[f]? = some fn → fn.body.isSome = true → (fn.name == "runtime.NumGoroutine") = false
  mixed : cx.P.follows .mixedOrders = true
  ext : ∀ (f : FuncId) fn, cx.P.funcs[f]? = some fn → fn.body = none → fn.name = "maps.clone" → ∀ (args : Array Value) (w : World),
    (callFunc f args).run cx.P w = ((do pure (.value (← Extern.MapsClone.clone args)) : Sem Next)).run cx.P w

theorem CxOK.enter {cx : Ctx} (h : CxOK cx) {f : FuncId} {fn : Func} (hf : cx.P.funcs[f]? = some fn) (hb : fn.body.isSome = true) (args : Array Value) (w : World) : (callFunc f args).run cx.P w = .ok (.enter f args) w := by
  have h1 := h.ng f fn hf hb
  have h2 : ¬ fn.body = none := by intro hx; simp [hx] at hb
  have h1 : ¬ fn.name = "runtime.NumGoroutine" := by simpa using h1
  simp [callFunc, program, Sem.run, hf, h1, h2]

/-- What is asked of the callees. -/
structure FnsOK (cx : Ctx) (F : Fns) : Prop where
  call : ∀ f args h fin h' rc', F.call f args h none = some (fin, h', rc') → ∀ e w vs, HR e h w → concL e args = some vs → NextOK cx.P (callPost e h w fin h') ((callFunc f vs.toArray).run cx.P w)
  dcall : ∀ f args h u v h' u', F.call f args h (some u) = some (.ret v, h', some u') → ∀ e w vs U, HR e h w → concL e args = some vs → modeR e u U →
    (callFunc f vs.toArray).run cx.P w = .ok (.enter f vs.toArray) w ∧ CallsDIn Fence.wide 0 cx.P f vs.toArray U w fun en U' w' => ∃ V, en = .returned V ∧ ∃ e', Tr e h w e' h' w' ∧ HR e' h' w' ∧ modeR e' u' (settle U')
  defers : ∀ ds u h u' h', F.defers ds u h = some (u', h') → ∀ e w es U fnn tmps R, HR e h w → dfsR e ds es → modeR e u U →
    (∀ e' w' U', Tr e h w e' h' w' → HR e' h' w' → modeR e' u' U' → LeavesInM Fence.wide 0 cx.P fnn tmps R [] U' w') → LeavesInM Fence.wide 0 cx.P fnn tmps R es U w
  yield : ∀ l args h fin h', F.yield l args h = some (fin, h') → ∀ e w vs sp, HR e h w → concL e args = some vs → e l = some sp → NextOK cx.P (callPost e h w fin h') ((Instr.yield sp.β vs.toArray).run cx.P w)

section
variable {E : Start} {e e' : Env} {le : Nat → Option Nat} {s : St} {a : Act} {w w' : World} {h' : Heap}

/-- Behind a call. -/
theorem SR.call (k : SR E e le s a w) (ht : Tr e s.h w e' h' w') (hh : HR e' h' w') : SR E e' le { s with h := h' } a w' := by
  refine ⟨k.tms.mono ht.ext fun _ _ h => h, hh, k.tr.trans ht, ?_, k.apart, dfsR_mono ht.ext _ _ k.dfs⟩
  intro l cs hc
  obtain ⟨β, h1, h2, h3, h4, h5⟩ := k.loc l cs hc
  refine ⟨β, h1, h2.mono ht.ext (ht.frame β h4 h5), h3, Nat.lt_of_lt_of_le h4 ht.size, ?_⟩
  intro c t y hc' hy hly heq
  obtain ⟨b0, s0, x0, k1, k2, k3, k4⟩ := ht.old c t y hc' hy hly (heq ▸ h4)
  exact h5 b0 s0 x0 k1 k2 k3 (k4.trans heq)
end

/-- An operation that does not recover. -/
def noRecOp (o : Oper) : Bool :=
  match o.op with
  | .call c => match c.callee with
    | .builtin .recover => false
    | _ => true
  | _ => true

def isDefer (o : Oper) : Bool :=
  match o.op with
  | .defer _ => true
  | _ => false

section
variable {cx : Ctx} {fn : FuncId} {F : Fns} {E : Start} {e : Env} {le : Nat → Option Nat} {s : St} {a : Act} {w : World} {ro : Option Nat} {n : Nat}

theorem semAt_Fw {o : Oper} (hd : ro = none ∨ isDefer o = false) : Oper.semAt (Fw ro).round a.eval o = execOp a.eval o := by
  rcases hd with rfl | hd
  · rfl
  · exact Oper.semAt_eq _ _ _ fun c hc => by simp [isDefer, hc] at hd

theorem upon_next {P : Program} {o : Oper} {next : Act → World → Prop} {Q : Exit → Act → World → Prop} {R : Ending → World → Prop} {r : Result Next} (h : NextOK P R r)
    (h1 : ∀ v w', R (.returned v) w' → next (a.put o.dst v) w') (h2 : ∀ ch w', R (.panicked ch) w' → Q (.panic ch) a w') (h3 : ∀ w', ¬ R .outgrown w') : o.uponIn (Fw ro) n P a next Q r := by
  have key : ∀ en w', R en w' → (match en, w' with
      | .returned v, w'' => next (a.put o.dst v) w''
      | .panicked chain, w'' => Q (.panic chain) a w''
      | .outgrown, _ => LetsOut Q) := by
    intro en w' hr
    cases en with
    | returned v => exact h1 v w' hr
    | panicked ch => exact h2 ch w' hr
    | outgrown => exact absurd hr (h3 w')
  cases r with
  | halt x w' => exact h.elim
  | ok x w' =>
    cases x with
    | value v => exact h1 v w' h
    | enter f args => exact ⟨by simp [Fw, Fence.wide], callsIn_Fw (Calls.mono h fun en w'' hr => key en w'' hr)⟩
    | round l f tmps assign body => exact ⟨by simp [Fw, Fence.wide], roundIn_Fw (RoundIn.mono h fun en w'' hr => key en w'' hr)⟩
    | _ => exact h.elim

theorem conc_fn_inv {f : FuncId} {x y : List AV} {v : Value} (h : conc e (.fn f x y) = some v) : ∃ p q, concL e x = some p ∧ concL e y = some q ∧ v = .func (.func f) p.toArray q.toArray := by
  simp only [conc] at h
  split at h
  · rename_i p q hp hq; cases h; exact ⟨p, q, hp, hq, rfl⟩
  · cases h

theorem opCall_R (hF : FnsOK cx F) (k : SR E e le s a w) {c : Call} {g : Operand} {args : List AV} {fv : AV} (hargs : values s c.args.toList = some args) (hc : c.callee = .value g) (hg : value s g = some fv)
    {fin : Fin} {h' : Heap} (h : F.callV fv args s.h = some (fin, h')) {dst : Option Tmp} {ty : TypeId} {pos : String} {af : Array Edge} {gd : Option (Nat × Bool)} :
    NextOK cx.P (callPost e s.h w fin h') ((execOp a.eval ⟨dst, .call c, ty, pos, af, gd⟩).run cx.P w) := by
  have ca := values_R k hargs
  have cg := value_R k hg
  have ea := args_eq (c := c) (a := a) rfl
  unfold Fns.callV at h
  split at h
  · rename_i f x y
    obtain ⟨p, q, hp, hq, hv⟩ := conc_fn_inv cg
    unfold Fns.plain at h
    split at h
    · rename_i r1 r2 r3 hcall
      cases h
      have := hF.call f _ _ _ _ _ hcall e w (p ++ c.args.toList.map a.eval ++ q) k.heap (concL_append (concL_append hp ca) hq)
      have hx : (execOp a.eval ⟨dst, .call c, ty, pos, af, gd⟩).run cx.P w = (callFunc f (p ++ c.args.toList.map a.eval ++ q).toArray).run cx.P w := by
        simp only [execOp, resolve, hc, hv, Deferred.ofValue]
        simp only [ea, List.append_assoc]
        simp [invoke]
      rw [hx]; exact this
    · cases h
  · rename_i l
    have hl : ∃ sp, e l = some sp ∧ a.eval g = .func (.yield sp.β) #[] #[] := by
      simp only [conc] at cg
      split at cg
      · rename_i sp hs; injection cg with cg; exact ⟨sp, hs, cg.symm⟩
      · cases cg
    obtain ⟨sp, hs, hv⟩ := hl
    have := hF.yield l args s.h fin h' h e w _ sp k.heap ca hs
    have hx : (execOp a.eval ⟨dst, .call c, ty, pos, af, gd⟩).run cx.P w = (Instr.yield sp.β (c.args.toList.map a.eval).toArray).run cx.P w := by
      simp only [execOp, resolve, hc, hv, Deferred.ofValue]
      simp only [ea]
      simp [invoke]
    rw [hx]; exact this
  · cases h

theorem bindC_inv {ρ : Type} {r : ρ} {x : Option (Fin × Heap)} {f g : AV → Heap → Option ρ} (h : bindC x f g = some r) : (∃ v h', x = some (.ret v, h') ∧ f v h' = some r) ∨ ∃ v h', x = some (.panic v, h') ∧ g v h' = some r := by
  unfold bindC at h
  split at h
  · exact .inl ⟨_, _, rfl, h⟩
  · exact .inr ⟨_, _, rfl, h⟩
  · cases h

theorem answer_inv {ρ : Type} {r : ρ} {P : Program} {t : TypeId} {v : AV} {k : Tm → Option ρ} (h : answer P t v k = some r) : k (.val v) = some r := by
  unfold answer at h
  split at h
  · obtain ⟨cs, rfl, _, h⟩ := spT_inv h; exact h
  · exact h

theorem op_sound (hF : FnsOK cx F) (k : SR E e le s a w) {o : Oper} (hno : noRecOp o = true) (hd : ro = none ∨ isDefer o = false) {out : Out} (h : stepOp cx fn F o s = some out)
    {next : Act → World → Prop} {Q : Exit → Act → World → Prop}
    (hok : ∀ t s' a' w' e' le' v, out = .ok t s' → SR E e' le' s' a' w' → a'.tmps = a.tmps → TmR e' le' t v → s'.rc = s.rc → next (a'.put o.dst v) w')
    (hpan : ∀ v s' w' e' le' V, out = .pan v s' → SR E e' le' s' a w' → conc e' v = some V → s'.rc = s.rc → Q (.panic [{ v := V, recovered := false }]) a w') :
    o.wpIn (Fw ro) n cx.P a w next Q := by
  refine ⟨fun _ _ => trivial, ?_⟩
  rw [semAt_Fw hd]
  by_cases hs : simpleOp o = true
  · obtain ⟨t, s', rfl, hrc, _⟩ := stepOp_kept hs h
    obtain ⟨nx, v, w', e', le', r1, r2, r3, r4⟩ := runs_simple k hs h
    rw [r1]
    rcases r2 with rfl | ⟨rfl, rfl⟩
    · exact hok t s' a w' e' le' v rfl r3 rfl r4 hrc
    · exact hok t s' a w' e' le' undef rfl r3 rfl r4 hrc
  · obtain ⟨dst, op, ty, pos, af, gd⟩ := o
    cases op <;> first | (exact absurd rfl hs) | skip
    case call c =>
      simp only [stepOp, evalOp] at h
      split at h
      · rename_i hap
        obtain ⟨hb, _⟩ := appendOf_inv hap
        simp [simpleOp, hb] at hs
      · unfold opCall at h
        split at h
        · cases h
        · rename_i args hargs
          split at h
          · rename_i b hb
            cases b <;> first | (simp [simpleOp, hb] at hs; done) | skip
            case panic =>
              simp only [opBuiltin] at h
              split at h
              · rename_i x
                split at h
                · rename_i t v
                  cases h
                  obtain ⟨V, hV, he⟩ := concL_one' (values_R k hargs)
                  obtain ⟨bs, hx⟩ := exec_builtin (P := cx.P) (a := a) (w := w) (dst := dst) (ty := ty) (pos := pos) (af := af) (gd := gd) hb
                  rw [hx, args_eq he]
                  have hV' := hV
                  simp only [conc] at hV
                  split at hV
                  · rename_i V0 hV0
                    cases hV
                    have : (builtin .panic c.argTypes ty bs #[Value.iface t V0]).run cx.P w = .halt (.panic (.iface t V0)) w := by
                      simp [builtin, Instr.panic, goPanic, Sem.run]
                    rw [this]
                    exact hpan _ _ _ e le _ rfl k hV' rfl
                  · cases hV
                · cases h
              · cases h
            case recover => simp [noRecOp, hb] at hno
          · rename_i g hb
            split at h
            · cases h
            · rename_i fv hg
              rcases bindC_inv h with ⟨v, h', hcall, h⟩ | ⟨v, h', hcall, h⟩
              · have h := answer_inv h
                cases h
                refine upon_next (opCall_R hF k hargs hb hg hcall) ?_ ?_ (fun w' => callPost_out)
                · rintro V w' ⟨e', t1, t2, t3⟩
                  exact hok _ _ a w' e' le V rfl (k.call t1 t2) rfl t3 rfl
                · rintro ch w' ⟨e', t1, t2, t3⟩
                  exact t3.elim
              · cases h
                refine upon_next (opCall_R hF k hargs hb hg hcall) ?_ ?_ (fun w' => callPost_out)
                · rintro V w' ⟨e', t1, t2, t3⟩
                  exact t3.elim
                · rintro ch w' ⟨e', t1, t2, V, t3, rfl⟩
                  exact hpan _ _ w' e' le V rfl (k.call t1 t2) t3 rfl
          · cases h
    case defer c =>
      simp only [stepOp, evalOp] at h
      split at h
      · rename_i g hc hargs
        obtain ⟨fv, hg, h⟩ := valueK_inv h
        have cg := value_R k hg
        cases fv <;> first | (simp [asFn] at h; done) | skip
        rename_i f x y
        simp only [asFn] at h
        cases h
        obtain ⟨p, q, hp, hq, hv⟩ := conc_fn_inv cg
        have hempty : c.args = #[] := by simpa using hargs
        have hx : (execOp a.eval ⟨dst, .defer c, ty, pos, af, gd⟩).run cx.P w = .ok (.defer { target := .fn (.func f) q.toArray, args := p.toArray }) w := by
          simp only [execOp, resolve, hc, hv, Deferred.ofValue]
          simp [hempty]
        rw [hx]
        refine hok _ _ { a with defers := { target := .fn (.func f) q.toArray, args := p.toArray } :: a.defers } w e le undef rfl ?_ rfl (by simp [TmR, conc, concL, undef]) rfl
        exact ⟨k.tms, k.heap, k.tr, k.loc, k.apart, ⟨⟨p, q, hp, hq, rfl⟩, k.dfs⟩⟩
      · cases h
    case panic y =>
      simp only [stepOp, evalOp] at h
      obtain ⟨v, hv, h⟩ := valueK_inv h
      have cv := value_R k hv
      cases v <;> first | (simp [thrown] at h; done) | skip
      rename_i t v
      simp only [thrown] at h
      cases h
      have cv' := cv
      simp only [conc] at cv
      split at cv
      · rename_i V0 hV0
        injection cv with cv
        have hx : (execOp a.eval ⟨dst, .panic y, ty, pos, af, gd⟩).run cx.P w = .halt (.panic (.iface t V0)) w := by
          simp only [execOp, ← cv]
          simp [Instr.panic, goPanic, Sem.run]
        rw [hx]
        rw [← cv] at cv'
        exact hpan _ _ _ e le _ rfl k cv' rfl
      · cases cv
end
end Go.Proofs.YtahbihcbidkbaaaGreat.Ev

/-
  Regions of one order; weaker states.
-/
set_option linter.unusedVariables false
namespace Go.Proofs.YtahbihcbidkbaaaGreat.Ev
open Go

def XR (e : Env) : Ex → Exit → Prop
  | .normal, .normal => True
  | .exit i, .exit j => i = j
  | .goto i, .goto j => i = j
  | .ret, .ret => True
  | .panic v, .panic ch => ∃ V, conc e v = some V ∧ ch = [{ v := V, recovered := false }]
  | _, _ => False

/-- What a piece of code leaves: the evaluator goes on from a state that stands for this one. -/
def Post (E : Start) (rc0 : Option (Option AV)) (k : Ex → St → R) (r : Fin × Heap × Option (Option AV)) : Exit → Act → World → Prop := fun ex a w =>
  ∃ x s e le, SR E e le s a w ∧ s.rc = rc0 ∧ XR e x ex ∧ k x s = some r

theorem Post.of {E : Start} {rc0 : Option (Option AV)} {k : Ex → St → R} {r : Fin × Heap × Option (Option AV)} {ex : Exit} {a : Act} {w : World} {x : Ex} {s : St} {e : Env} {le : Nat → Option Nat} (h1 : SR E e le s a w) (h2 : s.rc = rc0) (h3 : XR e x ex)
    (h4 : k x s = some r) : Post E rc0 k r ex a w := ⟨x, s, e, le, h1, h2, h3, h4⟩

section
variable {cx : Ctx} {fn : FuncId} {F : Fns} {E : Start} {e : Env} {le : Nat → Option Nat} {s : St} {a : Act} {w : World} {ro : Option Nat} {n : Nat} {ops : Array Oper}

theorem list_set_same {α : Type} : ∀ {l : List α} {i : Nat} {x : α}, l[i]? = some x → l.set i x = l
  | [], i, x, h => by simp at h
  | y :: l, 0, x, h => by simp at h; subst h; rfl
  | y :: l, i + 1, x, h => by simp at h; simp [list_set_same h]

/-- Whether an operation is wanted. -/
theorem wantedK_inv {ρ : Type} {r : ρ} {o : Oper} {f : Bool → St → Option ρ} (k : SR E e le s a w) (h : wantedK ops o s f = some r) : f (Region.wanted o (yielded ops a.tmps)) s = some r := by
  unfold wantedK at h
  split at h
  · rename_i hg
    simpa [Region.wanted, hg] using h
  · rename_i j b hg
    split at h
    · cases h
    · rename_i d hd
      split at h
      · rename_i a0 ha
        obtain ⟨c, rfl, h⟩ := asB_inv h
        obtain ⟨v, hv, ht⟩ := k.tms.get d _ ha
        simp only [TmR, conc] at ht
        injection ht with ht
        subst ht
        have hdst : (ops[j]?).bind (·.dst) = some d := by
          split at hd
          · rename_i o' ho'; simpa [ho'] using hd
          · cases hd
        have hy : yielded ops a.tmps j = some c := by
          have : a.tmps[d]? = some (.bool c) := by simpa using hv
          simp [yielded, hdst, this]
        have hw : Region.wanted o (yielded ops a.tmps) = (c == b) := by
          simp [Region.wanted, hg, hy]
        rw [hw]
        cases c with
        | true =>
          skip
          rw [list_set_same ha] at h
          cases b <;> exact h
        | false =>
          skip
          rw [list_set_same ha] at h
          cases b <;> exact h
      · cases h

theorem put_tmps {a a' : Act} (h : a'.tmps = a.tmps) (d : Option Tmp) (v : Value) : (a'.put d v).tmps = (a.put d v).tmps := by
  cases d <;> simp [Act.put, h]

def noRecOps (ops : Array Oper) : Bool := ops.toList.all noRecOp

theorem putT_rc (d : Option Tmp) (t : Tm) (s : St) : (putT d t s).rc = s.rc := by cases d <;> rfl

theorem evalOps_sound (hF : FnsOK cx F) (hno : ∀ o ∈ ops.toList, noRecOp o = true) (hd : ro = none ∨ ∀ o ∈ ops.toList, isDefer o = false) {k : Ex → St → R} {r : Fin × Heap × Option (Option AV)} {rc0 : Option (Option AV)} :
    ∀ (m i : Nat) (s : St) (e : Env) (le : Nat → Option Nat) (a : Act) (w : World), i + m = ops.size → SR E e le s a w → s.rc = rc0 → evalOps cx fn F ops k (ops.toList.drop i) s = some r →
      wpOpsIn (Fw ro) n cx.P ops (Post E rc0 k r) (List.range' i m) a w
  | 0, i, s, e, le, a, w, hm, hk, hrc, h => by
    rw [List.drop_eq_nil_of_le (by simp; omega)] at h
    exact Post.of hk hrc (x := .normal) trivial h
  | m + 1, i, s, e, le, a, w, hm, hk, hrc, h => by
    have hlt : i < ops.toList.length := by simp; omega
    have ho : ops[i]? = some ops.toList[i] := by simp [show i < ops.size by simpa using hlt]
    rw [List.drop_eq_getElem_cons hlt] at h
    simp only [evalOps] at h
    have hmem : ops.toList[i] ∈ ops.toList := List.getElem_mem hlt
    have h := wantedK_inv hk h
    simp only [List.range'_succ, wpOpsIn, ho]
    generalize hgo : ops.toList[i] = o at *
    split
    · rename_i hw
      rw [hw] at h
      simp only at h
      rw [evalOp_eq] at h
      obtain ⟨out, hout, h⟩ := bind_inv h
      refine op_sound hF hk (hno o hmem) (hd.imp id fun hd => hd o hmem) hout ?_ ?_
      · intro t s' a' w' e' le' v hx hk' hta htm hrc'
        subst hx
        simp only [Out.elim] at h
        exact evalOps_sound hF hno hd m (i + 1) _ e' le' _ w' (by omega) (hk'.put o.dst htm) (by rw [putT_rc, hrc', hrc]) h
      · intro v s' w' e' le' V hx hk' hv hrc'
        subst hx
        simp only [Out.elim] at h
        exact Post.of hk' (hrc'.trans hrc) (x := .panic v) ⟨V, hv, rfl⟩ h
    · rename_i hw
      have hw : Region.wanted o (yielded ops a.tmps) = false := by simpa using hw
      rw [hw] at h
      simp only at h
      exact ⟨fun _ _ => trivial, evalOps_sound hF hno hd m (i + 1) _ e le _ w (by omega) (hk.skip o.dst undef) (by rw [putT_rc, hrc]) h⟩

theorem evalRegion_seq (hF : FnsOK cx F) (hno : ∀ o ∈ ops.toList, noRecOp o = true) (hd : ro = none ∨ ∀ o ∈ ops.toList, isDefer o = false) {k : Ex → St → R} {r : Fin × Heap × Option (Option AV)} {id : Nat}
    (hk : SR E e le s a w) (h : evalRegion cx fn F id ops false s k = some r) : (Code.region id ops false).wpIn (Fw ro) n cx.P (Post E s.rc k r) a w := by
  simp only [evalRegion] at h
  refine wpIn_region ?_
  have := evalOps_sound (n := n) hF hno hd ops.size 0 s e le a w (by simp) hk rfl (by simpa using h)
  simpa [List.range_eq_range'] using this
end

/-! ### Weaker states -/
def TmW : Tm → Tm → Prop
  | .undef, _ => True
  | t, t' => t = t'

def TmsW : List Tm → List Tm → Prop
  | [], [] => True
  | t :: ts, u :: us => TmW t u ∧ TmsW ts us
  | _, _ => False

def LcW : List (Option (List AV)) → List (Option (List AV)) → Prop
  | [], [] => True
  | t :: ts, u :: us => (t = none ∨ t = u) ∧ LcW ts us
  | _, _ => False

theorem TmsW.tms {e : Env} {le : Nat → Option Nat} : ∀ {ts us : List Tm} {vs : List Value}, TmsW ts us → TmsR e le us vs → TmsR e le ts vs
  | [], [], vs, _, h => h
  | [], _ :: _, _, h, _ => h.elim
  | _ :: _, [], _, h, _ => h.elim
  | t :: ts, u :: us, [], _, h => h.elim
  | t :: ts, u :: us, v :: vs, ⟨h1, h2⟩, ⟨h3, h4⟩ => by
    refine ⟨?_, TmsW.tms h2 h4⟩
    cases t <;> first | trivial | (cases h1; exact h3)

theorem LcW.get : ∀ {ts us : List (Option (List AV))} {l : Nat} {cs : List AV}, LcW ts us → ts[l]? = some (some cs) → us[l]? = some (some cs)
  | [], [], l, cs, _, h => h
  | [], _ :: _, _, _, h, _ => h.elim
  | _ :: _, [], _, _, h, _ => h.elim
  | t :: ts, u :: us, 0, cs, ⟨h1, _⟩, h => by
    simp at h ⊢
    rcases h1 with rfl | rfl
    · cases h
    · exact h
  | t :: ts, u :: us, l + 1, cs, ⟨_, h2⟩, h => by
    simp at h ⊢
    exact LcW.get h2 h

theorem SR.weak {E : Start} {e : Env} {le : Nat → Option Nat} {s s' : St} {a : Act} {w : World} (k : SR E e le s a w) (h1 : TmsW s'.tm s.tm) (h2 : LcW s'.lc s.lc) (h3 : s'.h = s.h) (h4 : s'.df = s.df) : SR E e le s' a w := by
  have q : ∀ l c, local? s' l = some c → local? s l = some c := by
    intro l c hc
    unfold local? at hc ⊢
    split at hc
    · rename_i cs hcs
      cases hc
      rw [h2.get hcs]
    · cases hc
  exact ⟨h1.tms k.tms, h3 ▸ k.heap, h3 ▸ k.tr, fun l c hc => h3 ▸ k.loc l c (q l c hc), fun l l' c c' β hc hc' => k.apart l l' c c' β (q _ _ hc) (q _ _ hc'), h4 ▸ k.dfs⟩

theorem TmsW.refl : ∀ ts : List Tm, TmsW ts ts
  | [] => trivial
  | t :: ts => ⟨by cases t <;> first | trivial | rfl, TmsW.refl ts⟩
theorem LcW.refl : ∀ ts, LcW ts ts
  | [] => trivial
  | t :: ts => ⟨.inr rfl, LcW.refl ts⟩

theorem keepT_W (keep : List Tmp) : ∀ (ts : List Tm) (i : Nat), TmsW (keepT keep i ts) ts
  | [], i => trivial
  | t :: ts, i => by
    refine ⟨?_, keepT_W keep ts (i + 1)⟩
    cases keep.contains i
    · trivial
    · cases t <;> first | trivial | rfl

theorem keepL_W (tm : List Tm) : ∀ (ts : List (Option (List AV))) (l : Nat), LcW (keepL tm l ts) ts
  | [], l => trivial
  | c :: cs, l => by
    refine ⟨?_, keepL_W tm cs (l + 1)⟩
    cases leads l tm
    · exact .inl rfl
    · exact .inr rfl

theorem norm_W {E : Start} {e : Env} {le : Nat → Option Nat} {s : St} {a : Act} {w : World} (k : SR E e le s a w) (keep : List Tmp) : SR E e le (norm keep s) a w :=
  k.weak (keepT_W keep s.tm 0) (keepL_W _ s.lc 0) rfl rfl

theorem packT_W : ∀ {bs ts : List Tm} {vs rest : List AV}, packT bs ts = some vs → TmsW (fillT bs (vs ++ rest)).1 ts ∧ (fillT bs (vs ++ rest)).2 = rest
  | [], [], vs, rest, h => by cases h; exact ⟨trivial, rfl⟩
  | [], _ :: _, _, _, h => by simp [packT] at h
  | _ :: _, [], _, _, h => by simp [packT] at h
  | b :: bs, t :: ts, vs, rest, h => by
    cases b with
    | undef =>
      simp only [packT] at h
      obtain ⟨h1, h2⟩ := packT_W (rest := rest) h
      exact ⟨⟨trivial, h1⟩, h2⟩
    | val b0 =>
      cases t <;> simp only [packT] at h <;> first | (cases h; done) | skip
      rename_i a
      split at h
      · rename_i r hr
        cases h
        obtain ⟨h1, h2⟩ := packT_W (rest := rest) hr
        exact ⟨⟨rfl, h1⟩, h2⟩
      · cases h
    | lptr l o =>
      cases t <;> simp only [packT] at h <;> first | (cases h; done) | skip
      rename_i l' o'
      split at h
      · rename_i e1 e2
        obtain ⟨h1, h2⟩ := packT_W (rest := rest) h
        refine ⟨⟨?_, h1⟩, h2⟩
        rw [Nat.eq_of_beq_eq_true e1, Nat.eq_of_beq_eq_true e2]
        rfl
      · cases h
    | lsl l o =>
      cases t <;> simp only [packT] at h <;> first | (cases h; done) | skip
      rename_i l' o'
      split at h
      · rename_i e1 e2
        obtain ⟨h1, h2⟩ := packT_W (rest := rest) h
        refine ⟨⟨?_, h1⟩, h2⟩
        rw [Nat.eq_of_beq_eq_true e1, Nat.eq_of_beq_eq_true e2]
        rfl
      · cases h

theorem packL_W : ∀ {bs ts : List (Option (List AV))} {vs : List AV}, packL bs ts = some vs → LcW (fillL bs vs) ts
  | [], [], vs, h => trivial
  | [], _ :: _, _, h => by simp [packL] at h
  | _ :: _, [], _, h => by simp [packL] at h
  | b :: bs, t :: ts, vs, h => by
    cases b with
    | none =>
      simp only [packL] at h
      exact ⟨.inl rfl, packL_W h⟩
    | some c =>
      cases t with
      | none => simp [packL] at h
      | some c' =>
        simp only [packL] at h
        split at h
        · rename_i hl
          split at h
          · rename_i r hr
            cases h
            have hl := Nat.eq_of_beq_eq_true hl
            have := packL_W hr
            simp only [fillL]
            rw [hl]
            exact ⟨.inr (by simp), by simpa using this⟩
          · cases h
        · cases h

theorem pack_W {E : Start} {e : Env} {le : Nat → Option Nat} {b s : St} {a : Act} {w : World} {vs : List AV} (k : SR E e le s a w) (h : pack b s = some vs) : SR E e le (unpack b vs s.h) a w ∧ b.rc = none ∧ s.rc = none := by
  unfold pack at h
  split at h
  · rename_i h1 h2 h3 h4
    split at h
    · rename_i x y hx hy
      cases h
      obtain ⟨p1, p2⟩ := packT_W (rest := y) hx
      refine ⟨k.weak (s' := unpack b (x ++ y) s.h) p1 ?_ rfl h4.symm, h1, h2⟩
      show LcW (fillL b.lc (fillT b.tm (x ++ y)).2) s.lc
      rw [p2]
      exact packL_W hy
    · cases h
  · cases h
end Go.Proofs.YtahbihcbidkbaaaGreat.Ev

/-
  Code: what the evaluator makes of it is what the calculus says.
-/
set_option linter.unusedVariables false
namespace Go.Proofs.YtahbihcbidkbaaaGreat.Ev
open Go

/-- A loop's law, by a number that falls. -/
theorem wpIn_loopN {F : Fence} {n : Nat} {P : Program} {c : Code} {Q : Exit → Act → World → Prop} {a : Act} {w : World} (I : Nat → Act → World → Prop) {m : Nat} (h0 : I m a w)
    (round : ∀ m a w, I m a w → c.wpIn F n P (Exit.then (fun a' w' => ∃ j, j < m ∧ I j a' w') Q) a w) : (Code.loop c).wpIn F n P Q a w := by
  have least : ∀ (p : Nat → Prop), (∃ m, p m) → ∃ m, p m ∧ ∀ j, j < m → ¬ p j := by
    intro p ⟨m, hm⟩
    induction m using Nat.strongRecOn with
    | _ m ih =>
      by_cases h : ∃ j, j < m ∧ p j
      · obtain ⟨j, hj, hp⟩ := h; exact ih j hj hp
      · exact ⟨m, hm, fun j hj hp => h ⟨j, hj, hp⟩⟩
  have μ : ∀ a w, ∃ q : Nat, (∃ m, I m a w) → I q a w ∧ ∀ j, j < q → ¬ I j a w := by
    intro a w
    by_cases h : ∃ m, I m a w
    · obtain ⟨q, hq⟩ := least _ h; exact ⟨q, fun _ => hq⟩
    · exact ⟨0, fun h' => absurd h' h⟩
  refine wpIn_loop (fun a w => ∃ m, I m a w) (fun a w => Classical.choose (μ a w)) ⟨m, h0⟩ ?_
  intro a w hI
  have hq := Classical.choose_spec (μ a w) hI
  refine wpIn_mono (round _ a w hq.1) ?_
  intro e a' w' he
  cases e with
  | normal =>
    obtain ⟨j, hj, hI'⟩ := he
    have hq' := Classical.choose_spec (μ a' w') ⟨j, hI'⟩
    refine ⟨⟨j, hI'⟩, Nat.lt_of_le_of_lt ?_ hj⟩
    exact Nat.le_of_not_lt fun hlt => hq'.2 j hlt hI'
  | _ => exact he

/-- Regions whose order is open (proved behind). -/
def DrawSound (cx : Ctx) : Prop := ∀ (fn : FuncId) (F : Fns) (ops : Array Oper) (id : Nat) (E : Start) (e : Env) (le : Nat → Option Nat) (s : St) (a : Act) (w : World) (ro : Option Nat) (n : Nat) (k : Ex → St → R) (r : Fin × Heap × Option (Option AV)),
  FnsOK cx F → (∀ o ∈ ops.toList, noRecOp o = true) → (ro = none ∨ ∀ o ∈ ops.toList, isDefer o = false) → SR E e le s a w → evalRegion cx fn F id ops true s k = some r →
    (Code.region id ops true).wpIn (Fw ro) n cx.P (Post E s.rc k r) a w

section
variable {cx : Ctx} {F : Fns} {E : Start} {ro : Option Nat} {n : Nat}

theorem noRec_region {id : Nat} {ops : Array Oper} {d : Bool} (h : noRec (.region id ops d) = true) : ∀ o ∈ ops.toList, noRecOp o = true := by
  simp only [noRec, List.all_eq_true] at h
  intro o ho
  have := h o ho
  unfold noRecOp
  split at this
  · split at this <;> simp_all
  · split
    · rename_i h1 _ c hc; exact absurd hc (h1 c)
    · rfl

theorem plain_region {id : Nat} {ops : Array Oper} {d : Bool} (h : plainCode (.region id ops d) = true) : ∀ o ∈ ops.toList, isDefer o = false := by
  simp only [plainCode, List.all_eq_true] at h
  intro o ho
  have := h o ho
  unfold isDefer
  split
  · rename_i hd; simp [hd] at this
  · rfl

theorem plain_noRec : ∀ {c : Code}, plainCode c = true → noRec c = true
  | .region id ops d, h => by
    simp only [plainCode, List.all_eq_true] at h
    simp only [noRec, List.all_eq_true]
    intro o ho
    have := h o ho
    split at this
    · cases this
    · rename_i c hc
      rw [hc]
      simp only
      split at this
      · cases this
      · rfl
    · rename_i h1 h2
      split
      · rename_i c hc; exact absurd hc (h2 c)
      · rfl
  | .seq a b, h => by
    simp only [plainCode, Bool.and_eq_true] at h
    simp only [noRec, Bool.and_eq_true]
    exact ⟨plain_noRec h.1, plain_noRec h.2⟩
  | .cond c a b, h => by
    simp only [plainCode, Bool.and_eq_true] at h
    simp only [noRec, Bool.and_eq_true]
    exact ⟨plain_noRec h.1, plain_noRec h.2⟩
  | .block id a, h => by
    simp only [plainCode] at h
    simp only [noRec]
    exact plain_noRec h
  | .loop a, h => by
    simp only [plainCode] at h
    simp only [noRec]
    exact plain_noRec h
  | .rangeFunc _ _ _ _, h => by simp [plainCode] at h
  | .skip, _ => rfl
  | .exit _, _ => rfl
  | .scope _, _ => rfl
  | .label _, _ => rfl
  | .goto _, _ => rfl
  | .ret, _ => rfl
  | .refuse _, _ => rfl

theorem dropL_R {e : Env} {le : Nat → Option Nat} : ∀ {ts : List Tm} {vs : List Value}, TmsR e le ts vs → TmsR e (fun _ => none) (dropL ts) vs
  | [], [], _ => trivial
  | [], _ :: _, h => h.elim
  | _ :: _, [], h => h.elim
  | t :: ts, v :: vs, ⟨h1, h2⟩ => by
    refine ⟨?_, dropL_R h2⟩
    cases t <;> first | exact h1 | trivial

theorem hasBody_inv {P : Program} {f : FuncId} (h : hasBody P f = true) : ∃ fn, P.funcs[f]? = some fn ∧ fn.body.isSome = true := by
  unfold hasBody at h
  split at h
  · rename_i fn hf; exact ⟨fn, hf, h⟩
  · cases h

theorem asFn_inv {ρ : Type} {r : ρ} {a : AV} {k : FuncId → List AV → List AV → Option ρ} {y : Nat → Option ρ} (h : asFn a k y = some r) : (∃ f x z, a = .fn f x z ∧ k f x z = some r) ∨ ∃ l, a = .yield l ∧ y l = some r := by
  cases a <;> first | (simp [asFn] at h; done) | exact .inl ⟨_, _, _, rfl, h⟩ | exact .inr ⟨_, rfl, h⟩

theorem eval_const (a : Act) (v : Value) : a.eval (.const v) = v := rfl

theorem range_sound (hX : CxOK cx) (hF : FnsOK cx F) {fn : FuncId} {N : Nat} {f : Operand} {params : Array Tmp} {assign body : Code} {bl : Nat} {s : St} {e : Env} {le : Nat → Option Nat} {a : Act} {w : World} {k : Ex → St → R} {r : Fin × Heap × Option (Option AV)}
    (hs : SR E e le s a w) (h : evalCode cx fn F N bl (.rangeFunc f params assign body) s k = some r) : (Code.rangeFunc f params assign body).wpIn (Fw none) n cx.P (Post E s.rc k r) a w := by
  simp only [evalCode] at h
  split at h
  · cases h
  · rename_i hpl
    rw [Bool.and_eq_true] at hpl
    obtain ⟨v, hv, h0⟩ := valueK_inv h
    clear h
    rcases asFn_inv h0 with ⟨g, x, y, rfl, h⟩ | ⟨l, _, h⟩
    case inr => cases h
    clear h0
    split at h
    · cases h
    · rename_i hbody
      obtain ⟨gfn, hg, hgb⟩ := hasBody_inv hbody
      obtain ⟨p, q, hp, hq, hfv⟩ := conc_fn_inv (value_R hs hv)
      -- the two records
      obtain ⟨w1, hw1⟩ : ∃ w1 : World, w1 = { w with heap := w.heap.push (.deferred (some [])) } := ⟨_, rfl⟩
      have n1 : New w w1 (.deferred (some [])) := by rw [hw1]; exact ⟨rfl, rfl, rfl, rfl⟩
      have k1 := hs.push (x := .mark) (sp := ⟨w.heap.size, 0, 0, 0⟩) n1 rfl n1.here
      refine wpIn_rangeFunc fun fn' _ => ?_
      obtain ⟨w2, hw2⟩ : ∃ w2 : World, w2 = { w1 with heap := w1.heap.push (.loop { state := .ready, pending := none, fn := fn', tmps := a.tmps, params, assign, body, defers := w.heap.size }) } := ⟨_, rfl⟩
      have n2 : New w1 w2 (.loop { state := .ready, pending := none, fn := fn', tmps := a.tmps, params, assign, body, defers := w.heap.size }) := by rw [hw2]; exact ⟨rfl, rfl, rfl, rfl⟩
      have hnew2 := (k1.heap.new (s.h.push .mark).next (Nat.le_refl _)).1
      have k2 := k1.push (x := .loop { fn, tm := dropL s.tm, params := params.toList, assign, body, pending := none, busy := false }) (sp := ⟨w1.heap.size, 0, 0, 0⟩) n2 rfl
        ⟨a.tmps, w.heap.size, fn', by simpa using n2.here, dropL_R (k1.tms.mono (Env.le_upd hnew2) fun _ _ h => h), hpl.1, hpl.2⟩
      have hsz : w1.heap.size = w.heap.size + 1 := n1.size
      have hle2 := Env.le_trans (Env.le_upd (s := ⟨w.heap.size, 0, 0, 0⟩) (hs.heap.new s.h.next (Nat.le_refl _)).1) (Env.le_upd (s := ⟨w1.heap.size, 0, 0, 0⟩) hnew2)
      refine ⟨w1.heap.size, [{ target := .collected w.heap.size, args := #[] }], w2, { target := .fn (.func g) q.toArray, args := p.toArray ++ #[.func (.yield w1.heap.size) #[] #[]] }, w2, g, p.toArray ++ #[.func (.yield w1.heap.size) #[] #[]] ++ q.toArray, w2, ?_, ?_, fun _ _ => trivial, ?_, by simp [Fw, Fence.wide], callsIn_Fw ?_⟩
      · show Sem.run cx.P (Instr.enterLoop fn' a.tmps params assign body none) w = _
        simp [Instr.enterLoop, newObj, Sem.run, hw2, hw1]
        rfl
      · simp [resolve, hfv, Deferred.ofValue, eval_const]
      · simp [invoke]
        exact hX.enter hg hgb _ _
      · rcases bindC_inv h with ⟨u, h', hcall, h⟩ | ⟨u, h', hcall, h⟩
        case inr => cases h
        unfold Fns.plain at hcall
        split at hcall
        · rename_i r1 r2 r3 hc
          cases hcall
          have hy : concL ((e.upd s.h.next ⟨w.heap.size, 0, 0, 0⟩).upd (s.h.push .mark).next ⟨w1.heap.size, 0, 0, 0⟩) (x ++ [.yield (s.h.next + 1)] ++ y) = some (p ++ [.func (.yield w1.heap.size) #[] #[]] ++ q) := by
            refine concL_append (concL_append (concL_mono hle2 _ _ hp) ?_) (concL_mono hle2 _ _ hq)
            simp [concL, conc, Env.upd]
          have hok := hF.call _ _ _ _ _ _ hc _ w2 _ k2.heap hy
          rw [hX.enter hg hgb] at hok
          have hargs : (p ++ [Value.func (.yield w1.heap.size) #[] #[]] ++ q).toArray = p.toArray ++ #[.func (.yield w1.heap.size) #[] #[]] ++ q.toArray := by simp
          rw [hargs] at hok
          refine Calls.mono hok ?_
          rintro en w3 ⟨e3, t1, t2, t3⟩
          cases en with
          | panicked ch => exact t3.elim
          | outgrown => exact t3.elim
          | returned V =>
            have k3 := k2.call t1 t2
            have he3 : e3 (s.h.next + 1) = some ⟨w1.heap.size, 0, 0, 0⟩ := t1.ext _ _ (by simp [Env.upd])
            have hm3 : e3 s.h.next = some ⟨w.heap.size, 0, 0, 0⟩ := t1.ext _ _ (by simp [Env.upd])
            split at h
            · rename_i b hgb3
              obtain ⟨tmps, dd, f3, hb1, hb2, _⟩ := t2.blk _ _ _ he3 hgb3
              simp only at hb1
              have fin : ∀ (x : Ex) (b0 : Option Code), b.busy = false → b.pending = b0 → k x { s with h := h'.put (s.h.next + 1) .dead, df := .yield s.h.next :: s.df } = some r →
                  ∃ w4, (Instr.endLoop w1.heap.size).run cx.P w3 = .ok b0 w4 ∧ ∀ ex, XR e3 x ex → Post E s.rc k r ex { a with defers := [{ target := .collected w.heap.size, args := #[] }] ++ a.defers } w4 := by
                intro x b0 hbusy hpend hk
                have hlt : w1.heap.size < w3.heap.size := (Array.getElem?_eq_some_iff.1 hb1).1
                refine ⟨{ w3 with heap := w3.heap.setIfInBounds w1.heap.size (.loop { state := .exhausted, pending := b.pending, fn := f3, tmps, params := b.params.toArray, assign := b.assign, body := b.body, defers := dd }) }, ?_, ?_⟩
                · have hst : ((if b.busy then LoopState.busy else if b.pending.isNone then .ready else .done) == .busy) = false := by
                    rw [hbusy]; cases b.pending <;> rfl
                  revert hb1
                  generalize (if b.busy then LoopState.busy else if b.pending.isNone then .ready else .done) = st at hst ⊢
                  intro hb1
                  have hst : st ≠ .busy := fun hh => by rw [hh] at hst; cases hst
                  simp only [Instr.endLoop, Instr.getLoop]
                  simp [getObj, setObj, Sem.run, hb1, hst, hpend]
                · intro ex hex
                  refine ⟨x, { s with h := h'.put (s.h.next + 1) .dead, df := .yield s.h.next :: s.df }, e3, le, ?_, rfl, hex, hk⟩
                  have hw : Wr w3 { w3 with heap := w3.heap.setIfInBounds w1.heap.size (.loop { state := .exhausted, pending := b.pending, fn := f3, tmps, params := b.params.toArray, assign := b.assign, body := b.body, defers := dd }) } w1.heap.size (.loop { state := .exhausted, pending := b.pending, fn := f3, tmps, params := b.params.toArray, assign := b.assign, body := b.body, defers := dd }) :=
                    ⟨by simp [hlt], fun j hj => by simp [Ne.symm hj], by simp, rfl, rfl, rfl⟩
                  have k4 := k3.wr (x' := .dead) he3 hgb3 trivial hw trivial
                  exact ⟨k4.tms, k4.heap, k4.tr, k4.loc, k4.apart, ⟨⟨_, hm3, rfl⟩, k4.dfs⟩⟩
              split at h
              · rename_i hbusy hpend
                obtain ⟨w4, h1, h2⟩ := fin .normal none hbusy hpend h
                exact ⟨none, w4, h1, h2 .normal trivial⟩
              · rename_i hbusy hpend
                obtain ⟨w4, h1, h2⟩ := fin .ret _ hbusy hpend h
                exact ⟨some .ret, w4, h1, wpIn_ret (h2 .ret trivial)⟩
              · rename_i i hbusy hpend
                obtain ⟨w4, h1, h2⟩ := fin (.exit i) _ hbusy hpend h
                exact ⟨some (.exit i), w4, h1, wpIn_exit (h2 (.exit i) rfl)⟩
              · cases h
            · cases h
        · cases hcall

theorem code_sound (hX : CxOK cx) (hD : DrawSound cx) (hF : FnsOK cx F) {fn : FuncId} {N : Nat} : ∀ (c : Code) (bl : Nat) (s : St) (e : Env) (le : Nat → Option Nat) (a : Act) (w : World) (k : Ex → St → R) (r : Fin × Heap × Option (Option AV)),
    noRec c = true → (ro = none ∨ plainCode c = true) → SR E e le s a w → evalCode cx fn F N bl c s k = some r → c.wpIn (Fw ro) n cx.P (Post E s.rc k r) a w
  | .skip, bl, s, e, le, a, w, k, r, hn, hp, hs, h => wpIn_skip (Post.of hs rfl (x := .normal) trivial h)
  | .label l, bl, s, e, le, a, w, k, r, hn, hp, hs, h => wpIn_label (Post.of hs rfl (x := .normal) trivial h)
  | .region rid ops false, bl, s, e, le, a, w, k, r, hn, hp, hs, h => evalRegion_seq hF (noRec_region hn) (hp.imp id plain_region) hs h
  | .region rid ops true, bl, s, e, le, a, w, k, r, hn, hp, hs, h => hD fn F ops rid E e le s a w ro n k r hF (noRec_region hn) (hp.imp id plain_region) hs h
  | .seq x y, bl, s, e, le, a, w, k, r, hn, hp, hs, h => by
    simp only [noRec, Bool.and_eq_true] at hn
    simp only [plainCode, Bool.and_eq_true] at hp
    simp only [evalCode] at h
    refine wpIn_seq (wpIn_mono (code_sound hX hD hF x bl s e le a w _ r hn.1 (hp.imp id And.left) hs h) ?_)
    rintro ex a' w' ⟨x', s', e', le', h1, h2, h3, h4⟩
    cases x' <;> cases ex <;> first | exact h3.elim | skip
    · simp only at h4
      have := code_sound hX hD hF y bl s' e' le' a' w' k r hn.2 (hp.imp id And.right) h1 h4
      rw [h2] at this
      exact this
    all_goals exact ⟨_, s', e', le', h1, h2, h3, h4⟩
  | .cond c x y, bl, s, e, le, a, w, k, r, hn, hp, hs, h => by
    simp only [noRec, Bool.and_eq_true] at hn
    simp only [plainCode, Bool.and_eq_true] at hp
    simp only [evalCode] at h
    obtain ⟨v, hv, h⟩ := valueK_inv h
    obtain ⟨b, rfl, h⟩ := asB_inv h
    have hc := value_R hs hv
    simp only [conc] at hc
    injection hc with hc
    cases b with
    | true => exact wpIn_cond_true hc.symm (code_sound hX hD hF x bl s e le a w k r hn.1 (hp.imp id And.left) hs h)
    | false => exact wpIn_cond_false hc.symm (code_sound hX hD hF y bl s e le a w k r hn.2 (hp.imp id And.right) hs h)
  | .block id x, bl, s, e, le, a, w, k, r, hn, hp, hs, h => by
    simp only [noRec] at hn
    simp only [plainCode] at hp
    simp only [evalCode] at h
    refine wpIn_block (wpIn_mono (code_sound hX hD hF x id s e le a w _ r hn hp hs h) ?_)
    rintro ex a' w' ⟨x', s', e', le', h1, h2, h3, h4⟩
    cases x' <;> cases ex <;> first | exact h3.elim | skip
    · exact ⟨_, s', e', le', h1, h2, h3, h4⟩
    · rename_i i j
      have hij : i = j := h3
      subst hij
      simp only [Exit.inBlock]
      simp only at h4
      by_cases hi : i = id
      · subst hi
        rw [if_pos rfl]
        rw [nbeq_self] at h4
        exact ⟨.normal, s', e', le', h1, h2, trivial, h4⟩
      · rw [if_neg hi]
        rw [nbeq_ne hi] at h4
        exact ⟨.exit i, s', e', le', h1, h2, rfl, h4⟩
    all_goals exact ⟨_, s', e', le', h1, h2, h3, h4⟩
  | .loop x, bl, s, e, le, a, w, k, r, hn, hp, hs, h => by
    simp only [noRec] at hn
    simp only [plainCode] at hp
    simp only [evalCode] at h
    generalize hb : norm (cx.keep fn bl) s = b at h
    have hsb : SR E e le b a w := hb ▸ norm_W hs _
    split at h
    · cases h
    · rename_i vs0 hp0
      obtain ⟨hu, hrb, _⟩ := pack_W hsb hp0
      have hrc : s.rc = none := by rw [← hrb, ← hb]; rfl
      have hbh : b.h = s.h := by rw [← hb]; rfl
      generalize hbody : (fun (vs : List AV) (h : Heap) (self : List AV → Heap → R) => spL vs0.length vs fun vs => evalCode cx fn F N bl x (unpack b vs h) fun e s => match e with
        | .normal => match pack b (norm (cx.keep fn bl) s) with
          | some vs => self vs s.h
          | none => none
        | .exit i => k (.exit i) s
        | .goto i => k (.goto i) s
        | .ret => k .ret s
        | .panic v => k (.panic v) s) = body at h
      refine wpIn_loopN (fun m a w => ∃ vs h e le, loopV body m vs h = some r ∧ SR E e le (unpack b vs h) a w) (m := N) ⟨vs0, s.h, e, le, h, hbh ▸ hu⟩ ?_
      rintro m a1 w1 ⟨vs, h1, e1, le1, hl, hs1⟩
      cases m with
      | zero => simp [loopV] at hl
      | succ m =>
        simp only [loopV] at hl
        rw [← hbody] at hl
        simp only at hl
        obtain ⟨_, hl⟩ := spL_inv hl
        refine wpIn_mono (code_sound hX hD hF x bl _ e1 le1 a1 w1 _ r hn hp hs1 hl) ?_
        rintro ex a' w' ⟨x', s', e', le', k1, k2, k3, k4⟩
        have hrc' : s'.rc = s.rc := by rw [k2, hrc]; rfl
        cases x' <;> cases ex <;> first | exact k3.elim | skip
        · simp only at k4
          split at k4
          · rename_i vs' hpk
            obtain ⟨hu', _, _⟩ := pack_W (norm_W k1 _) hpk
            exact ⟨m, Nat.lt_succ_self m, vs', s'.h, e', le', by rw [← hbody]; exact k4, hu'⟩
          · cases k4
        all_goals exact ⟨_, s', e', le', k1, hrc', k3, k4⟩
  | .exit i, bl, s, e, le, a, w, k, r, hn, hp, hs, h => wpIn_exit (Post.of hs rfl (x := .exit i) rfl h)
  | .goto l, bl, s, e, le, a, w, k, r, hn, hp, hs, h => wpIn_goto (Post.of hs rfl (x := .goto l) rfl h)
  | .ret, bl, s, e, le, a, w, k, r, hn, hp, hs, h => wpIn_ret (Post.of hs rfl (x := .ret) trivial h)
  | .rangeFunc f params assign body, bl, s, e, le, a, w, k, r, hn, hp, hs, h => by
    rcases hp with rfl | hp
    · exact range_sound hX hF hs h
    · simp [plainCode] at hp
  | .scope _, bl, s, e, le, a, w, k, r, hn, hp, hs, h => by simp [evalCode] at h
  | .refuse _, bl, s, e, le, a, w, k, r, hn, hp, hs, h => by simp [evalCode] at h
end
end Go.Proofs.YtahbihcbidkbaaaGreat.Ev

/-
  Functions: entering, leaving, results.
-/
set_option linter.unusedVariables false
namespace Go.Proofs.YtahbihcbidkbaaaGreat.Ev
open Go

section
variable {P : Program} {E : Start} {e : Env} {le : Nat → Option Nat} {s : St} {a : Act} {w : World}

/-- One result variable. -/
def resG (tmps : Array Value) : ResultVar → Sem Value
  | .tmp t => pure (tmps.getD t undef)
  | .cell a t => do loadVar t (← asAddr (tmps.getD a undef))

theorem results_eq (fn : Func) (tmps : Array Value) : results fn tmps = (do let vs ← fn.results.mapM (resG tmps); pure (if h : vs.size = 1 then vs[0] else .tuple vs)) := by
  unfold results
  congr 1

theorem load_R (k : SR E e le s a w) {t : TypeId} {n : Nat} {agg : Bool} (hs : tshape P t = some (n, agg)) {ad : Tm} {V : Value} (hr : TmR e le ad V) {ρ : Type} {r : ρ} {f : Tm → St → Option ρ} (h : opLoad agg n s ad f = some r) :
    ∃ v u β o, f (.val v) s = some r ∧ conc e v = some u ∧ V = .pointer (some ⟨β, o, none⟩) ∧ (loadVar t ⟨β, o, none⟩).run P w = .ok u w := by
  cases ad with
  | undef => simp [opLoad] at h
  | lsl l m => simp [opLoad] at h
  | lptr l off =>
    simp only [opLoad] at h
    split at h
    · rename_i cs hl
      obtain ⟨xs, hx, h⟩ := bind_inv h
      obtain ⟨v, h, hv⟩ := valK_inv h
      obtain ⟨β, hβ, he⟩ := hr
      obtain ⟨β', hβ', hloc, _⟩ := k.loc l cs hl
      rw [hβ] at hβ'; cases hβ'
      obtain ⟨vs, c1, c2, c3, c4⟩ := CellsAt.stretch hloc hx
      obtain ⟨u, hu, hcu⟩ := run_loadVar (P := P) (β := β) (o := off) hs c1 c2 c3 (fun j v hj => by simpa using c4 j v hj) hv
      exact ⟨v, u, β, off, h, hcu, he, hu⟩
    · cases h
  | val ad =>
    simp only [opLoad] at h
    obtain ⟨b, off, rfl, h⟩ := asPtr_inv h
    obtain ⟨xs, hx, h⟩ := bind_inv h
    obtain ⟨v, h, hv⟩ := valK_inv h
    obtain ⟨sp, hb, he⟩ := conc_ptr hr
    obtain ⟨cs, z, hg, hx⟩ := Heap.cells_of hx
    obtain ⟨hz, hcells⟩ := k.heap.blk b sp _ hb hg
    obtain ⟨vs, c1, c2, c3, c4⟩ := CellsAt.stretch hcells hx
    obtain ⟨u, hu, hcu⟩ := run_loadVar (P := P) (β := sp.β) (o := sp.γ + off) hs c1 c2 c3 c4 hv
    exact ⟨v, u, sp.β, sp.γ + off, h, hcu, he, hu⟩

theorem result1_R (k : SR E e le s a w) {rv : ResultVar} {r : Fin × Heap × Option (Option AV)} {f : AV → R} (h : result1 P s rv f = some r) : ∃ v u, f v = some r ∧ conc e v = some u ∧ (resG a.tmps rv).run P w = .ok u w := by
  cases rv with
  | tmp t =>
    obtain ⟨v, hv, h⟩ := valueK_inv h
    exact ⟨v, _, h, value_R k hv, by simp [resG, Act.eval]⟩
  | cell ad t =>
    simp only [result1] at h
    split at h
    · rename_i n agg hs
      obtain ⟨x, hx, h⟩ := operandK_inv h
      obtain ⟨v, u, β, o, h1, h2, h3, h4⟩ := load_R (P := P) k hs (operand_R k hx) h
      refine ⟨v, u, h1, h2, ?_⟩
      have h3' : a.tmps.getD ad undef = .pointer (some ⟨β, o, none⟩) := h3
      simp only [resG, h3']
      simp [asAddr, h4]
    · cases h

theorem results_R (k : SR E e le s a w) {r : Fin × Heap × Option (Option AV)} : ∀ {rs : List ResultVar} {f : List AV → R}, resultsK P s rs f = some r → ∃ vs us, f vs = some r ∧ concL e vs = some us ∧ (rs.mapM (resG a.tmps)).run P w = .ok us w
  | [], f, h => ⟨[], [], h, rfl, by simp⟩
  | rv :: rs, f, h => by
    simp only [resultsK] at h
    obtain ⟨v, u, h, h1, h2⟩ := result1_R k h
    obtain ⟨vs, us, h, h3, h4⟩ := results_R k h
    exact ⟨v :: vs, u :: us, h, concL_cons.2 ⟨u, us, h1, h3, rfl⟩, by simp [h2, h4]⟩

theorem tupled_R {vs : List AV} {us : List Value} (h : concL e vs = some us) : conc e (tupled vs) = some (if h : us.toArray.size = 1 then us.toArray[0] else .tuple us.toArray) := by
  match vs, us, h with
  | [], us, h => cases h; simp [tupled, conc, concL]
  | [x], us, h => obtain ⟨v, hv, rfl⟩ := concL_one' h; simpa [tupled] using hv
  | x :: y :: vs, us, h =>
    obtain ⟨v, ws, h1, h2, rfl⟩ := concL_cons.1 h
    obtain ⟨u, ws', h3, h4, rfl⟩ := concL_cons.1 h2
    simp only [tupled, conc, h]
    simp

/-- The results of a function. -/
theorem leave_R (k : SR E e le s a w) {fn : Func} {r : Fin × Heap × Option (Option AV)} {f : List AV → R} (h : resultsK P s fn.results.toList f = some r) : ∃ vs V, f vs = some r ∧ conc e (tupled vs) = some V ∧ (results fn a.tmps).run P w = .ok V w := by
  obtain ⟨vs, us, h1, h2, h3⟩ := results_R k h
  refine ⟨vs, _, h1, tupled_R h2, ?_⟩
  rw [results_eq, Array.mapM_eq_mapM_toList]
  simp [h3]
end

/-! ### Entering -/
theorem tmOf_R {e : Env} {le : Nat → Option Nat} : ∀ {args : List AV} {vs : List Value} {m : Nat}, concL e args = some vs → TmsR e le (tmOf args ++ undefs m) (vs ++ List.replicate m undef)
  | [], vs, m, h => by
    cases h
    induction m with
    | zero => trivial
    | succ m ih => exact ⟨trivial, ih⟩
  | a :: as, vs, m, h => by
    obtain ⟨v, ws, h1, h2, rfl⟩ := concL_cons.1 h
    exact ⟨h1, tmOf_R h2⟩

theorem local_nones {tm : List Tm} {h : Heap} {df : List AV} {rc : Option (Option AV)} : ∀ (ts : List Tmp) (l : Nat), local? { tm := tm, lc := nones ts, h := h, df := df, rc := rc } l = none
  | [], l => rfl
  | t :: ts, 0 => rfl
  | t :: ts, l + 1 => by
    have := local_nones (tm := tm) (h := h) (df := df) (rc := rc) ts l
    simpa [local?, nones] using this

theorem enter_R {cx : Ctx} {f : FuncId} {fn : Func} {args : List AV} {h : Heap} {rc : Option (Option AV)} {e : Env} {w : World} {vs : List Value} (hh : HR e h w) (ha : concL e args = some vs) :
    SR ⟨e, h, w⟩ e (fun _ => none) (enterS cx f fn args h rc) { tmps := vs.toArray ++ Array.replicate (fn.ntmps - vs.toArray.size) undef, defers := [] } w := by
  have hl := concL_length ha
  refine ⟨?_, hh, Tr.refl e h w, ?_, ?_, trivial⟩
  · have := tmOf_R (le := fun _ => none) (m := fn.ntmps - args.length) ha
    simpa [enterS, hl] using this
  · intro l cs hc
    simp only [enterS] at hc
    rw [local_nones] at hc; cases hc
  · intro l l' cs cs' β hc
    simp only [enterS] at hc
    rw [local_nones] at hc; cases hc

theorem dfsR_nil {e : Env} {es : List Deferred} (h : dfsR e [] es) : es = [] := by
  cases es with
  | nil => rfl
  | cons d ds => exact h.elim

theorem bindD_inv {r : Fin × Heap × Option (Option AV)} {x : Option (Option AV × Heap)} {f : Heap → R} {g : AV → Heap → R} (h : bindD x f g = some r) : (∃ h', x = some (none, h') ∧ f h' = some r) ∨ ∃ v h', x = some (some v, h') ∧ g v h' = some r := by
  unfold bindD at h
  split at h
  · exact .inl ⟨_, rfl, h⟩
  · exact .inr ⟨_, _, rfl, h⟩
  · cases h

theorem noFin_ret {a b : AV} {x y : Heap} {p q : Option (Option AV)} (h : (some (Fin.ret a, x, p) : R) = some (.ret b, y, q)) : a = b ∧ x = y ∧ p = q := by
  cases h; exact ⟨rfl, rfl, rfl⟩

section
variable {cx : Ctx} {F : Fns}

/-- Leaving a function that was called. -/
theorem leaveA_R (hF : FnsOK cx F) {e0 : Env} {h0 : Heap} {w0 : World} {e : Env} {le : Nat → Option Nat} {s : St} {a : Act} {w : World} (k : SR ⟨e0, h0, w0⟩ e le s a w) {fn : Func} {u : Option AV} {U : FrameMode} (hU : modeR e u U)
    {fin : Fin} {h' : Heap} {rc' : Option (Option AV)} (h : leaveA cx F fn u s = some (fin, h', rc')) :
    LeavesInM Fence.wide 0 cx.P fn a.tmps (callPost e0 h0 w0 fin h') a.defers U w := by
  have base : ∀ {e1 : Env} {w1 : World} {h1 : Heap} {u1 : Option AV} {U1 : FrameMode}, SR ⟨e0, h0, w0⟩ e1 le { s with h := h1 } a w1 → modeR e1 u1 U1 →
      (match u1 with
        | none => resultsK cx.P { s with h := h1 } fn.results.toList fun vs => some (.ret (tupled vs), h1, s.rc)
        | some v => some (.panic v, h1, s.rc)) = some (fin, h', rc') → LeavesInM Fence.wide 0 cx.P fn a.tmps (callPost e0 h0 w0 fin h') [] U1 w1 := by
    intro e1 w1 h1 u1 U1 k1 hm hh
    cases u1 with
    | none =>
      cases U1 with
      | run => exact hm.elim
      | panicking ch => exact hm.elim
      | returning =>
        obtain ⟨vs, V, q1, q2, q3⟩ := leave_R k1 hh
        cases q1
        exact ⟨V, q3, e1, k1.tr, k1.heap, q2⟩
    | some v =>
      cases U1 with
      | run => exact hm.elim
      | returning => exact hm.elim
      | panicking ch =>
        cases hh
        obtain ⟨V, q1, rfl⟩ := hm
        exact ⟨e1, k1.tr, k1.heap, V, q1, rfl⟩
  unfold leaveA at h
  split at h
  · rename_i hdf
    have hd := k.dfs
    rw [hdf] at hd
    rw [dfsR_nil hd]
    refine base (h1 := s.h) k hU ?_
    cases u <;> exact h
  · rename_i d ds hdf
    split at h
    · cases h
    · rename_i hrc
      have hd := k.dfs
      rw [hdf] at hd
      rcases bindD_inv h with ⟨h1, hc, h⟩ | ⟨v, h1, hc, h⟩
      · refine hF.defers _ _ _ _ _ hc e w a.defers U fn a.tmps _ k.heap hd hU ?_
        intro e1 w1 U1 t1 t2 t3
        exact base (k.call t1 t2) t3 h
      · refine hF.defers _ _ _ _ _ hc e w a.defers U fn a.tmps _ k.heap hd hU ?_
        intro e1 w1 U1 t1 t2 t3
        exact base (k.call t1 t2) t3 h

/-- A function's body. -/
theorem body_sound (hX : CxOK cx) (hD : DrawSound cx) (hF : FnsOK cx F) {n : Nat} {f : FuncId} {fn : Func} {c : Code} (hf : cx.P.funcs[f]? = some fn) (hb : fn.body = some c) {args : List AV} {h : Heap} {fin : Fin} {h' : Heap} {rc' : Option (Option AV)}
    (hc : callStep cx n F f args h none = some (fin, h', rc')) {e : Env} {w : World} {vs : List Value} (hh : HR e h w) (ha : concL e args = some vs) : Calls cx.P f vs.toArray w (callPost e h w fin h') := by
  simp only [callStep, hf, hb] at hc
  split at hc
  · cases hc
  · rename_i hno
    have hno : noRec c = true := by simpa using hno
    have hs := enter_R (cx := cx) (f := f) (fn := fn) (rc := none) hh ha
    have hw := code_sound (ro := none) (n := 0) hX hD hF c 0 _ _ _ _ _ _ _ hno (.inl rfl) hs hc
    refine calls_of_In (n := 0) (callsIn_of_wp_marks hf hb trivial (wpIn_mono hw ?_))
    rintro ex a' w' ⟨x, s', e', le', k1, k2, k3, k4⟩
    cases x <;> cases ex <;> first | exact k3.elim | skip
    · exact leaveA_R hF k1 (u := none) (U := .returning) trivial k4
    · cases k4
    · cases k4
    · exact leaveA_R hF k1 (u := none) (U := .returning) trivial k4
    · rename_i v ch
      exact leaveA_R hF k1 (u := some v) (U := .panicking ch) k3 k4

theorem clone_eq (t : TypeId) (r : Nat) : Extern.MapsClone.clone #[.iface t (.map (some r))] = (getObj r >>= fun o => match o with
    | .map entries clock => do pure (.iface t (.map (some (← newObj (.map entries clock)))))
    | _ => stuck "maps.clone: a map expected") := by
  unfold Extern.MapsClone.clone
  rfl

/-- A call. -/
theorem call_sound (hX : CxOK cx) (hD : DrawSound cx) (hF : FnsOK cx F) {n : Nat} {f : FuncId} {args : List AV} {h : Heap} {fin : Fin} {h' : Heap} {rc' : Option (Option AV)}
    (hc : callStep cx n F f args h none = some (fin, h', rc')) {e : Env} {w : World} {vs : List Value} (hh : HR e h w) (ha : concL e args = some vs) : NextOK cx.P (callPost e h w fin h') ((callFunc f vs.toArray).run cx.P w) := by
  have hc0 := hc
  unfold callStep at hc
  split at hc
  · cases hc
  · rename_i fn hf
    split at hc
    · rename_i hb
      simp only at hc
      obtain ⟨r, hr, hc⟩ := bind_inv hc
      cases hc
      unfold evalExtern at hr
      split at hr
      · rename_i hname
        split at hr
        · rename_i t b
          split at hr
          · rename_i es hg
            cases hr
            obtain ⟨V, hV, rfl⟩ := concL_one' ha
            simp only [conc] at hV
            split at hV
            · rename_i M hM
              cases hV
              obtain ⟨sp, ms, clock, m1, rfl, m3, m4, m5⟩ := run_entries (P := cx.P) hh hg (by simpa [conc] using hM)
              rw [hX.ext f fn hf hb hname]
              have hn : New w { w with heap := w.heap.push (.map ms clock) } (.map ms clock) := ⟨rfl, rfl, rfl, rfl⟩
              have hrun : ((do pure (.value (← Extern.MapsClone.clone #[.iface t (.map (some sp.β))])) : Sem Next)).run cx.P w = .ok (.value (.iface t (.map (some w.heap.size)))) { w with heap := w.heap.push (.map ms clock) } := by
                rw [clone_eq]
                simp [m5, newObj, Sem.run]
              rw [hrun]
              have hle := Env.le_upd (s := ⟨w.heap.size, 0, 0, 0⟩) (hh.new h.next (Nat.le_refl _)).1
              exact ⟨_, Tr.push hh (.map es) hn rfl, hh.push (s := ⟨w.heap.size, 0, 0, 0⟩) hn rfl ⟨ms, clock, hn.here, entriesOf_mono hle _ _ m4⟩, by simp [FinR, conc, Env.upd]⟩
            · cases hV
          · cases hr
        · cases hr
      · cases hr
    · rename_i c hb
      rw [hX.enter hf (by rw [hb]; rfl)]
      exact body_sound hX hD hF hf hb hc0 hh ha
end
end Go.Proofs.YtahbihcbidkbaaaGreat.Ev

/-
  Deferred calls; what recovers.
-/
set_option linter.unusedVariables false
namespace Go.Proofs.YtahbihcbidkbaaaGreat.Ev
open Go

/-- The mode of the frame below, while a deferred call runs. -/
def modeS (e : Env) : Option AV → FrameMode → Prop
  | some v, U => ∃ V, conc e v = some V ∧ U = .panicking [{ v := V, recovered := false }]
  | none, U => U = .returning ∨ ∃ V, U = .panicking [{ v := V, recovered := true }]

theorem modeS_of {e : Env} {u : Option AV} {U : FrameMode} (h : modeR e u U) : modeS e u U := by
  cases u with
  | none => cases U <;> first | exact h.elim | exact .inl rfl
  | some v => cases U <;> first | exact h.elim | (obtain ⟨V, h1, rfl⟩ := h; exact ⟨V, h1, rfl⟩)

theorem modeS_end {e e' : Env} (hle : e.le e') {u : Option AV} {U : FrameMode} (h : modeS e u U) : modeR e' u (settle U) := by
  cases u with
  | none =>
    rcases h with rfl | ⟨V, rfl⟩
    · exact trivial
    · exact trivial
  | some v =>
    obtain ⟨V, h1, rfl⟩ := h
    exact ⟨V, conc_mono hle _ _ h1, rfl⟩

def PostS (E : Start) (k : Ex → St → R) (r : Fin × Heap × Option (Option AV)) (c0 : Frame) (cs : List Frame) : Exit → Act → List Frame → World → Prop := fun ex a cs' w =>
  ∃ x s e le u U, SR E e le s a w ∧ s.rc = some u ∧ cs' = { c0 with mode := U } :: cs ∧ modeS E.e0 u U ∧ XR e x ex ∧ k x s = some r

section
variable {cx : Ctx} {fn : FuncId} {F : Fns} {E : Start} {e : Env} {le : Nat → Option Nat} {s : St} {a : Act} {w : World} {n : Nat} {ops : Array Oper} {c0 : Frame} {cs : List Frame}

/-- An operation of a region that may recover. -/
def recOp (o : Oper) : Bool :=
  match o.op with
  | .defer _ => false
  | .call c => match c.callee with
    | .builtin _ => true
    | _ => false
  | _ => true

/-- What an operation that is none of the simple ones does there. -/
theorem recOp_cases (k : SR E e le s a w) {o : Oper} (ho : recOp o = true) (hs : simpleOp o = false) {out : Out} (h : stepOp cx fn F o s = some out) :
    (∃ v V, out = .pan v s ∧ conc e v = some V ∧ (execOp a.eval o).run cx.P w = .halt (.panic V) w) ∨
    (∃ v, s.rc = some (some v) ∧ out = .ok (.val v) { s with rc := some none } ∧ (execOp a.eval o).run cx.P w = .ok .recover w) ∨
    (s.rc = some none ∧ out = .ok (.val .nilIface) { s with rc := some none } ∧ (execOp a.eval o).run cx.P w = .ok .recover w) := by
  obtain ⟨dst, op, ty, pos, af, gd⟩ := o
  cases op <;> first | (simp [simpleOp] at hs; done) | skip
  case call c =>
    simp only [stepOp, evalOp] at h
    split at h
    · rename_i hap
      obtain ⟨hb, _⟩ := appendOf_inv hap
      simp [simpleOp, hb] at hs
    · unfold opCall at h
      split at h
      · cases h
      · rename_i args hargs
        split at h
        · rename_i b hb
          obtain ⟨bs, hx⟩ := exec_builtin (P := cx.P) (a := a) (w := w) (dst := dst) (ty := ty) (pos := pos) (af := af) (gd := gd) hb
          cases b <;> first | (simp [simpleOp, hb] at hs; done) | skip
          case panic =>
            simp only [opBuiltin] at h
            split at h
            · split at h
              · rename_i t v
                cases h
                obtain ⟨V, hV, he⟩ := concL_one' (values_R k hargs)
                refine .inl ⟨_, V, rfl, hV, ?_⟩
                rw [hx, args_eq he]
                simp only [conc] at hV
                split at hV
                · cases hV
                  simp [builtin, Instr.panic, goPanic, Sem.run]
                · cases hV
              · cases h
            · cases h
          case recover =>
            simp only [opBuiltin] at h
            have hrun : (execOp a.eval ⟨dst, .call c, ty, pos, af, gd⟩).run cx.P w = .ok .recover w := by
              rw [hx]; simp [builtin]
            unfold recK at h
            split at h
            · rename_i v hrc
              cases h
              exact .inr (.inl ⟨v, hrc, rfl, hrun⟩)
            · rename_i hrc
              cases h
              exact .inr (.inr ⟨hrc, rfl, hrun⟩)
            · cases h
        · rename_i hb; simp [recOp, hb] at ho
        · rename_i hb; simp [recOp, hb] at ho
  case defer c => simp [recOp] at ho
  case panic y =>
    simp only [stepOp, evalOp] at h
    obtain ⟨v, hv, h⟩ := valueK_inv h
    have cv := value_R k hv
    cases v <;> first | (simp [thrown] at h; done) | skip
    rename_i t v
    simp only [thrown] at h
    cases h
    refine .inl ⟨_, _, rfl, cv, ?_⟩
    simp only [conc] at cv
    split at cv
    · rename_i V0 hV0
      injection cv with cv
      simp only [execOp, ← cv]
      simp [Instr.panic, goPanic, Sem.run]
    · cases cv

theorem evalOpsS_sound (hno : ∀ o ∈ ops.toList, recOp o = true) {k : Ex → St → R} {r : Fin × Heap × Option (Option AV)} :
    ∀ (m i : Nat) (s : St) (e : Env) (le : Nat → Option Nat) (a : Act) (w : World) (u : Option AV) (U : FrameMode), i + m = ops.size → SR E e le s a w → s.rc = some u → modeS E.e0 u U → evalOps cx fn F ops k (ops.toList.drop i) s = some r →
      wpOpsSIn Fence.wide n cx.P ops (PostS E k r c0 cs) (List.range' i m) a ({ c0 with mode := U } :: cs) w
  | 0, i, s, e, le, a, w, u, U, hm, hk, hrc, hU, h => by
    rw [List.drop_eq_nil_of_le (by simp; omega)] at h
    exact ⟨.normal, s, e, le, u, U, hk, hrc, rfl, hU, trivial, h⟩
  | m + 1, i, s, e, le, a, w, u, U, hm, hk, hrc, hU, h => by
    have hlt : i < ops.toList.length := by simp; omega
    have ho : ops[i]? = some ops.toList[i] := by simp [show i < ops.size by simpa using hlt]
    rw [List.drop_eq_getElem_cons hlt] at h
    simp only [evalOps] at h
    have hmem : ops.toList[i] ∈ ops.toList := List.getElem_mem hlt
    have h := wantedK_inv hk h
    simp only [List.range'_succ, wpOpsSIn, ho]
    generalize hgo : ops.toList[i] = o at *
    refine ⟨fun _ _ => trivial, ?_⟩
    split
    · rename_i hw
      rw [hw] at h
      rw [evalOp_eq] at h
      obtain ⟨out, hout, h⟩ := bind_inv h
      by_cases hs : simpleOp o = true
      · obtain ⟨t, s', rfl, hrc', _⟩ := stepOp_kept hs hout
        obtain ⟨nx, v, w', e', le', r1, r2, r3, r4⟩ := runs_simple hk hs hout
        rw [r1]
        simp only [Out.elim] at h
        have := evalOpsS_sound hno m (i + 1) _ e' le' _ w' u U (by omega) (r3.put o.dst r4) (by rw [putT_rc, hrc', hrc]) hU h
        rcases r2 with rfl | ⟨rfl, rfl⟩ <;> exact this
      · have hs : simpleOp o = false := by simpa using hs
        rcases recOp_cases hk (hno o hmem) hs hout with ⟨v, V, rfl, hV, hrun⟩ | ⟨v, hv, rfl, hrun⟩ | ⟨hv, rfl, hrun⟩
        · rw [hrun]
          exact ⟨.panic v, s, e, le, u, U, hk, hrc, rfl, hU, ⟨V, hV, rfl⟩, h⟩
        · rw [hrun]
          have : u = some v := by rw [hrc] at hv; injection hv
          subst this
          obtain ⟨V, hV, rfl⟩ := hU
          simp only [recoverD]
          simp only [Out.elim] at h
          have k2 : SR E e le { s with rc := some none } a w := ⟨hk.tms, hk.heap, hk.tr, hk.loc, hk.apart, hk.dfs⟩
          exact evalOpsS_sound hno m (i + 1) _ e le _ w none (.panicking [{ v := V, recovered := true }]) (by omega) (k2.put o.dst (t := .val v) (conc_mono hk.tr.ext _ _ hV)) (by rw [putT_rc]) (.inr ⟨V, rfl⟩) h
        · rw [hrun]
          have : u = none := by rw [hrc] at hv; injection hv
          subst this
          simp only [Out.elim] at h
          have k2 : SR E e le { s with rc := some none } a w := ⟨hk.tms, hk.heap, hk.tr, hk.loc, hk.apart, hk.dfs⟩
          have ih := evalOpsS_sound hno m (i + 1) _ e le _ w none U (by omega) (k2.put o.dst (t := .val .nilIface) (v := .nilIface) rfl) (by rw [putT_rc]) hU h
          have hrec : recoverD ({ c0 with mode := U } :: cs) = none := by
            rcases hU with rfl | ⟨V, rfl⟩ <;> rfl
          simp only [hrec]
          exact ih
    · rename_i hw
      have hw : Region.wanted o (yielded ops a.tmps) = false := by simpa using hw
      rw [hw] at h
      exact evalOpsS_sound hno m (i + 1) _ e le _ w u U (by omega) (hk.skip o.dst undef) (by rw [putT_rc, hrc]) hU h

theorem codeS_noRec (hX : CxOK cx) (hD : DrawSound cx) (hF : FnsOK cx F) {N : Nat} (c : Code) {bl : Nat} {k : Ex → St → R} {r : Fin × Heap × Option (Option AV)} {u : Option AV} {U : FrameMode}
    (hn : noRec c = true) (hs : SR E e le s a w) (hrc : s.rc = some u) (hU : modeS E.e0 u U) (h : evalCode cx fn F N bl c s k = some r) : c.wpSIn Fence.wide n cx.P (PostS E k r c0 cs) a ({ c0 with mode := U } :: cs) w := by
  refine wpSIn_of_wpIn rfl (wpIn_mono (code_sound (ro := none) hX hD hF c bl s e le a w k r hn (.inl rfl) hs h) ?_)
  rintro ex a' w' ⟨x, s', e', le', k1, k2, k3, k4⟩
  exact ⟨x, s', e', le', u, U, k1, k2.trans hrc, rfl, hU, k3, k4⟩

theorem codeS_sound (hX : CxOK cx) (hD : DrawSound cx) (hF : FnsOK cx F) {N : Nat} : ∀ (c : Code) (bl : Nat) (s : St) (e : Env) (le : Nat → Option Nat) (a : Act) (w : World) (k : Ex → St → R) (r : Fin × Heap × Option (Option AV)) (u : Option AV) (U : FrameMode),
    recCode c = true → SR E e le s a w → s.rc = some u → modeS E.e0 u U → evalCode cx fn F N bl c s k = some r → c.wpSIn Fence.wide n cx.P (PostS E k r c0 cs) a ({ c0 with mode := U } :: cs) w
  | .seq x y, bl, s, e, le, a, w, k, r, u, U, hn, hs, hrc, hU, h => by
    simp only [recCode, Bool.and_eq_true] at hn
    simp only [evalCode] at h
    have h1 := codeS_sound hX hD hF x bl s e le a w _ r u U hn.1 hs hrc hU h
    refine wpSIn_seq ?_
    intro b kk hb hr hf hroom
    obtain ⟨ex, a', cs', w', hl, hq, harr⟩ := h1 b kk hb hr hf hroom
    refine ⟨ex, a', cs', w', hl, ?_, harr⟩
    obtain ⟨x', s', e', le', u', U', k1, k2, rfl, k4, k5, k6⟩ := hq
    cases x' <;> cases ex <;> first | exact k5.elim | skip
    · exact codeS_sound hX hD hF y bl s' e' le' a' w' k r u' U' hn.2 k1 k2 k4 k6
    all_goals exact ⟨_, s', e', le', u', U', k1, k2, rfl, k4, k5, k6⟩
  | .cond c x y, bl, s, e, le, a, w, k, r, u, U, hn, hs, hrc, hU, h => by
    simp only [recCode, Bool.and_eq_true] at hn
    simp only [evalCode] at h
    obtain ⟨v, hv, h⟩ := valueK_inv h
    obtain ⟨b, rfl, h⟩ := asB_inv h
    have hc := value_R hs hv
    simp only [conc] at hc
    injection hc with hc
    cases b with
    | true => exact wpSIn_cond (t := true) hc.symm (codeS_sound hX hD hF x bl s e le a w k r u U hn.1 hs hrc hU h)
    | false => exact wpSIn_cond (t := false) hc.symm (codeS_sound hX hD hF y bl s e le a w k r u U hn.2 hs hrc hU h)
  | .region id ops draw, bl, s, e, le, a, w, k, r, u, U, hn, hs, hrc, hU, h => by
    simp only [recCode, Bool.or_eq_true] at hn
    rcases hn with hn | hn
    · exact codeS_noRec hX hD hF _ hn hs hrc hU h
    · cases draw with
      | true => simp at hn
      | false =>
        simp only [Bool.not_false, Bool.true_and, List.all_eq_true] at hn
        simp only [evalCode, evalRegion] at h
        refine wpSIn_region ?_
        have hno : ∀ o ∈ ops.toList, recOp o = true := by
          intro o ho
          have := hn o ho
          unfold recOp
          split
          · rename_i hd; rw [hd] at this; exact this
          · rename_i c hc
            rw [hc] at this
            simp only at this
            split
            · rfl
            · rename_i hx
              split at this
              · rename_i b hb; exact absurd hb (hx b)
              · exact this
          · rfl
        have := evalOpsS_sound (n := n) (c0 := c0) (cs := cs) hno ops.size 0 s e le a w u U (by simp) hs hrc hU (by simpa using h)
        simpa [List.range_eq_range'] using this
  | .block id x, bl, s, e, le, a, w, k, r, u, U, hn, hs, hrc, hU, h => codeS_noRec hX hD hF _ hn hs hrc hU h
  | .loop x, bl, s, e, le, a, w, k, r, u, U, hn, hs, hrc, hU, h => codeS_noRec hX hD hF _ hn hs hrc hU h
  | .skip, bl, s, e, le, a, w, k, r, u, U, hn, hs, hrc, hU, h => codeS_noRec hX hD hF _ hn hs hrc hU h
  | .label _, bl, s, e, le, a, w, k, r, u, U, hn, hs, hrc, hU, h => codeS_noRec hX hD hF _ hn hs hrc hU h
  | .exit _, bl, s, e, le, a, w, k, r, u, U, hn, hs, hrc, hU, h => codeS_noRec hX hD hF _ hn hs hrc hU h
  | .goto _, bl, s, e, le, a, w, k, r, u, U, hn, hs, hrc, hU, h => codeS_noRec hX hD hF _ hn hs hrc hU h
  | .ret, bl, s, e, le, a, w, k, r, u, U, hn, hs, hrc, hU, h => codeS_noRec hX hD hF _ hn hs hrc hU h
  | .rangeFunc _ _ _ _, bl, s, e, le, a, w, k, r, u, U, hn, hs, hrc, hU, h => codeS_noRec hX hD hF _ hn hs hrc hU h
  | .scope _, bl, s, e, le, a, w, k, r, u, U, hn, hs, hrc, hU, h => by simp [evalCode] at h
  | .refuse _, bl, s, e, le, a, w, k, r, u, U, hn, hs, hrc, hU, h => by simp [evalCode] at h
end

theorem noRec_recCode {c : Code} (h : noRec c = true) : recCode c = true := by
  induction c with
  | seq a b iha ihb => simp only [noRec, Bool.and_eq_true] at h; simp only [recCode, Bool.and_eq_true]; exact ⟨iha h.1, ihb h.2⟩
  | cond c a b iha ihb => simp only [noRec, Bool.and_eq_true] at h; simp only [recCode, Bool.and_eq_true]; exact ⟨iha h.1, ihb h.2⟩
  | region id ops d => simp only [recCode, h, Bool.true_or]
  | _ => exact h

theorem dcall_sound {cx : Ctx} {F : Fns} (hX : CxOK cx) (hD : DrawSound cx) (hF : FnsOK cx F) {n : Nat} {f : FuncId} {args : List AV} {h : Heap} {u : Option AV} {v : AV} {h' : Heap} {u' : Option AV}
    (hc : callStep cx n F f args h (some u) = some (.ret v, h', some u')) {e : Env} {w : World} {vs : List Value} {U : FrameMode} (hh : HR e h w) (ha : concL e args = some vs) (hU : modeR e u U) :
    (callFunc f vs.toArray).run cx.P w = .ok (.enter f vs.toArray) w ∧ CallsDIn Fence.wide 0 cx.P f vs.toArray U w fun en U' w' => ∃ V, en = .returned V ∧ ∃ e', Tr e h w e' h' w' ∧ HR e' h' w' ∧ modeR e' u' (settle U') := by
  unfold callStep at hc
  split at hc
  · cases hc
  · rename_i fn hf
    split at hc
    · cases hc
    · rename_i c hb
      refine ⟨hX.enter hf (by rw [hb]; rfl) _ _, ?_⟩
      split at hc
      · cases hc
      · rename_i hno
        have hrec : recCode c = true := by
          simp only [Option.isSome_some, Bool.and_true, Bool.or_eq_true] at hno
          rcases hno with h | h
          · exact noRec_recCode h
          · exact h
        have hs := enter_R (cx := cx) (f := f) (fn := fn) (rc := some u) hh ha
        refine callsDIn_of_wpSIn hf hb trivial fun c₀ cs hmode => ?_
        have hw := codeS_sound (n := 0) (c0 := c₀) (cs := cs) hX hD hF c 0 _ _ _ _ _ _ _ u U hrec hs rfl (modeS_of hU) hc
        have hc0 : ({ c₀ with mode := U } : Frame) = c₀ := by subst hmode; rfl
        rw [hc0] at hw
        intro b kk hb1 hb2 hb3 hb4
        obtain ⟨ex, a', cs', w', hl, hq, harr⟩ := hw b kk hb1 hb2 hb3 hb4
        refine ⟨ex, a', cs', w', hl, ?_, harr⟩
        obtain ⟨x', s', e', le', u1, U', k1, k2, rfl, k4, k5, k6⟩ := hq
        have fin : leaveA cx F fn none s' = some (.ret v, h', some u') → a'.defers = [] ∧ ∃ V, (results fn a'.tmps).run cx.P w' = .ok V w' ∧ ∃ V', Ending.returned V = .returned V' ∧ ∃ e', Tr e h w e' h' w' ∧ HR e' h' w' ∧ modeR e' u' (settle U') := by
          intro hl
          unfold leaveA at hl
          split at hl
          · rename_i hdf
            have hd := k1.dfs
            rw [hdf] at hd
            obtain ⟨vs', V, q1, q2, q3⟩ := leave_R (P := cx.P) k1 hl
            have hcs : some (Fin.ret (tupled vs'), s'.h, s'.rc) = some (Fin.ret v, h', some u') := q1
            injection hcs with hcs
            injection hcs with e1 hcs
            injection hcs with e2 e3
            have e4 : u1 = u' := by rw [k2] at e3; injection e3
            subst e4
            exact ⟨dfsR_nil hd, V, q3, V, rfl, e', e2 ▸ k1.tr, e2 ▸ k1.heap, modeS_end k1.tr.ext k4⟩
          · rename_i d ds hdf
            split at hl
            · cases hl
            · rename_i hrc; rw [k2] at hrc; cases hrc
        cases x' <;> cases ex <;> first | exact k5.elim | skip
        · obtain ⟨hd, V, q1, q2⟩ := fin k6
          exact ⟨hd, U', rfl, V, q1, q2⟩
        · cases k6
        · cases k6
        · obtain ⟨hd, V, q1, q2⟩ := fin k6
          exact ⟨hd, U', rfl, V, q1, q2⟩
        · simp only at k6
          unfold leaveA at k6
          split at k6
          · cases k6
          · split at k6
            · cases k6
            · rename_i hrc; rw [k2] at hrc; cases hrc
end Go.Proofs.YtahbihcbidkbaaaGreat.Ev

/-
  Rounds; the lists of deferred calls; all callees, to every depth.
-/
set_option linter.unusedVariables false
namespace Go.Proofs.YtahbihcbidkbaaaGreat.Ev
open Go

theorem defersStep_sound {cx : Ctx} {F : Fns} (hF : FnsOK cx F) {ds : List AV} {u : Option AV} {h : Heap} {u' : Option AV} {h' : Heap} (hc : defersStep F ds u h = some (u', h')) {e : Env} {w : World} {es : List Deferred} {U : FrameMode}
    {fnn : Func} {tmps : Array Value} {R : Ending → World → Prop} (hh : HR e h w) (hd : dfsR e ds es) (hU : modeR e u U)
    (hend : ∀ e' w' U', Tr e h w e' h' w' → HR e' h' w' → modeR e' u' U' → LeavesInM Fence.wide 0 cx.P fnn tmps R [] U' w') : LeavesInM Fence.wide 0 cx.P fnn tmps R es U w := by
  have hrun : U ≠ .run := by rintro rfl; cases u <;> exact hU.elim
  unfold defersStep at hc
  split at hc
  · cases hc
    rw [dfsR_nil hd]
    exact hend e w U (Tr.refl e h w) hh hU
  · rename_i f first captured ds
    cases es with
    | nil => exact hd.elim
    | cons d es =>
      obtain ⟨⟨p, q, hp, hq, rfl⟩, hd'⟩ := hd
      split at hc
      · rename_i v h1 u1 hcall
        obtain ⟨henter, hdc⟩ := hF.dcall _ _ _ _ _ _ _ hcall e w (p ++ q) U hh (concL_append hp hq) hU
        refine ⟨hrun, .inr ⟨by simp [Fence.wide], .func f, q.toArray, f, (p ++ q).toArray, rfl, ?_, fun _ _ => trivial, ?_⟩⟩
        · simp [invoke]
          simpa using henter
        · refine CallsDIn.mono hdc ?_
          rintro en U' w' ⟨V, rfl, e', t1, t2, t3⟩
          refine hF.defers _ _ _ _ _ hc e' w' es (settle U') fnn tmps R t2 (dfsR_mono t1.ext _ _ hd') t3 ?_
          intro e2 w2 U2 q1 q2 q3
          exact hend e2 w2 U2 (t1.trans q1) q2 q3
      · cases hc
  · rename_i b ds
    cases es with
    | nil => exact hd.elim
    | cons d es =>
      obtain ⟨⟨sp, hsp, rfl⟩, hd'⟩ := hd
      split at hc
      · rename_i hg
        have hb : w.heap[sp.β]? = some (.deferred (some [])) := hh.blk b sp _ hsp hg
        have hlt := (Array.getElem?_eq_some_iff.1 hb).1
        have hw : Wr w { w with heap := w.heap.setIfInBounds sp.β (.deferred none) } sp.β (.deferred none) := ⟨by simp [hlt], fun j hj => by simp [Ne.symm hj], by simp, rfl, rfl, rfl⟩
        refine ⟨hrun, .inl ⟨sp.β, { w with heap := w.heap.setIfInBounds sp.β (.deferred none) }, rfl, by simp [Instr.takeDeferred, getObj, setObj, Sem.run, hb], ?_⟩⟩
        refine hF.defers _ _ _ _ _ hc e _ es U fnn tmps R (hh.put hsp hg trivial hw trivial) hd' hU ?_
        intro e2 w2 U2 q1 q2 q3
        exact hend e2 w2 U2 ((Tr.put hh .dead hsp hg trivial hw).trans q1) q2 q3
      · cases hc
  · cases hc

/-! ### Rounds -/
theorem setTms_R {e : Env} {le : Nat → Option Nat} : ∀ {ps : List Tmp} {as : List AV} {ts us : List Tm} {vs : List Value} {tv : Array Value}, setTms ps as ts = some us → concL e as = some vs → TmsR e le ts tv.toList →
    ps.length = as.length ∧ TmsR e le us ((ps.zip vs).foldl (fun (tmps : Array Value) (x : Tmp × Value) => tmps.setIfInBounds x.1 x.2) tv).toList
  | [], [], ts, us, vs, tv, h, hv, ht => by cases h; cases hv; exact ⟨rfl, ht⟩
  | [], _ :: _, _, _, _, _, h, _, _ => by simp [setTms] at h
  | _ :: _, [], _, _, _, _, h, _, _ => by simp [setTms] at h
  | p :: ps, a :: as, ts, us, vs, tv, h, hv, ht => by
    obtain ⟨v, ws, h1, h2, rfl⟩ := concL_cons.1 hv
    simp only [setTms] at h
    have := setTms_R (tv := tv.setIfInBounds p v) h h2 (by simpa using ht.set p (.val a) v h1)
    exact ⟨by simp [this.1], by simpa using this.2⟩

theorem shut_R {cx : Ctx} {e0 : Env} {h0 : Heap} {w0 : World} {e : Env} {le : Nat → Option Nat} {s : St} {a : Act} {w : World} (k : SR ⟨e0, h0, w0⟩ e le s a w) {l : Nat} {sp : Spot} (hl : e0 l = some sp) {p : Option Code} {fin : Fin} {h' : Heap} {rc' : Option (Option AV)}
    (h : shutRound l p s = some (fin, h', rc')) : ∃ v w', (Instr.endRound sp.β p).run cx.P w = .ok v w' ∧ callPost e0 h0 w0 fin h' (.returned v) w' := by
  unfold shutRound at h
  split at h
  · rename_i b hdf hg
    split at h
    · rename_i hbusy
      cases h
      have hsp := k.tr.ext l sp hl
      obtain ⟨tmps, dd, f3, hb1, hb2, hb3⟩ := k.heap.blk _ _ _ hsp hg
      have hlt := (Array.getElem?_eq_some_iff.1 hb1).1
      have hw : Wr w { w with heap := w.heap.setIfInBounds sp.β (.loop { state := (if p.isNone then .ready else .done), pending := p, fn := f3, tmps, params := b.params.toArray, assign := b.assign, body := b.body, defers := dd }) } sp.β
          (.loop { state := (if p.isNone then .ready else .done), pending := p, fn := f3, tmps, params := b.params.toArray, assign := b.assign, body := b.body, defers := dd }) :=
        ⟨by simp [hlt], fun j hj => by simp [Ne.symm hj], by simp, rfl, rfl, rfl⟩
      have k2 := k.wr (x' := .loop { b with pending := p, busy := false }) hsp hg trivial hw ⟨tmps, dd, f3, by rw [hw.here]; rfl, hb2, hb3⟩
      refine ⟨.bool p.isNone, _, ?_, e, k2.tr, k2.heap, rfl⟩
      simp only [Instr.endRound, Instr.getLoop]
      simp [getObj, setObj, Sem.run, hb1]
    · cases h
  · cases h

theorem yieldStep_sound {cx : Ctx} {F : Fns} (hX : CxOK cx) (hD : DrawSound cx) (hF : FnsOK cx F) {n : Nat} {l : Nat} {args : List AV} {h : Heap} {fin : Fin} {h' : Heap} (hc : yieldStep cx n F l args h = some (fin, h')) {e : Env} {w : World} {vs : List Value} {sp : Spot}
    (hh : HR e h w) (ha : concL e args = some vs) (hl : e l = some sp) : NextOK cx.P (callPost e h w fin h') ((Instr.yield sp.β vs.toArray).run cx.P w) := by
  unfold yieldStep at hc
  split at hc
  · rename_i b hg
    obtain ⟨tm, htm, hc⟩ := bind_inv hc
    obtain ⟨⟨r1, r2, r3⟩, hr, hc⟩ := bind_inv hc
    cases hc
    obtain ⟨tmps, dd, f3, hb1, hb2, hb3, hb4⟩ := hh.blk _ _ _ hl hg
    obtain ⟨hlen, ht⟩ := setTms_R htm ha hb2
    have hvl := concL_length ha
    have hy : (Instr.yield sp.β vs.toArray).run cx.P w = .ok (.round sp.β f3 ((b.params.zip vs).foldl (fun (tmps : Array Value) (x : Tmp × Value) => tmps.setIfInBounds x.1 x.2) tmps) b.assign b.body) w := by
      simp only [Instr.yield, Instr.getLoop]
      have hz : vs.length = b.params.length := by omega
      simp [getObj, Sem.run, hb1, hz]
    rw [hy]
    have hs : SR ⟨e, h, w⟩ e (fun _ => none) { tm, lc := nones (cx.locs b.fn), h, df := [], rc := none } { tmps := (b.params.zip vs).foldl (fun (tmps : Array Value) (x : Tmp × Value) => tmps.setIfInBounds x.1 x.2) tmps, defers := [] } w := by
      refine ⟨ht, hh, Tr.refl e h w, ?_, ?_, trivial⟩
      · intro l cs hc; rw [local_nones] at hc; cases hc
      · intro l l' cs cs' β hc; rw [local_nones] at hc; cases hc
    refine roundIn_of_wpIn (F := Fence.wide) trivial ?_
    have h1 := code_sound (ro := some sp.β) (n := 0) hX hD hF b.assign 0 _ _ _ _ _ _ _ (plain_noRec hb3) (.inr hb3) hs hr
    refine wpIn_mono h1 ?_
    rintro ex a1 w1 ⟨x, s1, e1, le1, k1, k2, k3, k4⟩
    cases x <;> cases ex <;> first | exact k3.elim | (cases k4; done) | skip
    simp only at k4
    split at k4
    · rename_i b' hg1
      split at k4
      · rename_i hbusy hpend
        have hsp := k1.tr.ext l sp hl
        obtain ⟨tmps', dd', f3', c1, c2, c3, c4⟩ := k1.heap.blk _ _ _ hsp hg1
        rw [hbusy, hpend] at c1
        have hlt := (Array.getElem?_eq_some_iff.1 c1).1
        have hw : Wr w1 { w1 with heap := w1.heap.setIfInBounds sp.β (.loop { state := .busy, pending := none, fn := f3', tmps := tmps', params := b'.params.toArray, assign := b'.assign, body := b'.body, defers := dd' }) } sp.β
            (.loop { state := .busy, pending := none, fn := f3', tmps := tmps', params := b'.params.toArray, assign := b'.assign, body := b'.body, defers := dd' }) :=
          ⟨by simp [hlt], fun j hj => by simp [Ne.symm hj], by simp, rfl, rfl, rfl⟩
        have k5 := k1.wr (x' := .loop { b' with busy := true }) hsp hg1 trivial hw ⟨tmps', dd', f3', by rw [hw.here, hpend]; rfl, c2, c3, c4⟩
        refine ⟨{ w1 with heap := w1.heap.setIfInBounds sp.β (.loop { state := .busy, pending := none, fn := f3', tmps := tmps', params := b'.params.toArray, assign := b'.assign, body := b'.body, defers := dd' }) }, ?_, ?_⟩
        · simp only [Instr.beginRound, Instr.getLoop]
          simp [getObj, setObj, Sem.run, c1]
        · have h2 := code_sound (ro := some sp.β) (n := 0) hX hD hF b.body 0 _ _ _ _ _ _ _ (plain_noRec hb4) (.inr hb4) k5 k4
          refine wpIn_mono h2 ?_
          rintro ex2 a2 w2 ⟨x2, s2, e2, le2, m1, m2, m3, m4⟩
          cases x2 <;> cases ex2 <;> first | exact m3.elim | (cases m4; done) | skip
          · exact shut_R (cx := cx) m1 hl m4
          · have : _ = _ := m3
            subst this
            exact shut_R (cx := cx) m1 hl m4
          · exact shut_R (cx := cx) m1 hl m4
      · cases k4
    · cases k4
  · cases hc

theorem fns_ok {cx : Ctx} (hX : CxOK cx) (hD : DrawSound cx) : ∀ n, FnsOK cx (fns cx n)
  | 0 => {
      call := fun f args h fin h' rc' hc => by cases hc
      dcall := fun f args h u v h' u' hc => by cases hc
      yield := fun l args h fin h' hc => by cases hc
      defers := fun ds u h u' h' hc e w es U fnn tmps R hh hd hU hend => by
        simp only [fns] at hc
        split at hc
        · cases hc
          rw [dfsR_nil hd]
          exact hend e w U (Tr.refl e h w) hh hU
        · cases hc }
  | n + 1 => {
      call := fun f args h fin h' rc' hc e w vs hh ha => call_sound hX hD (fns_ok hX hD n) hc hh ha
      dcall := fun f args h u v h' u' hc e w vs U hh ha hU => dcall_sound hX hD (fns_ok hX hD n) hc hh ha hU
      yield := fun l args h fin h' hc e w vs sp hh ha hl => yieldStep_sound hX hD (fns_ok hX hD n) hc hh ha hl
      defers := fun ds u h u' h' hc e w es U fnn tmps R hh hd hU hend => defersStep_sound (fns_ok hX hD n) hc hh hd hU hend }

/-- What the evaluator answers is what a call comes to. -/
theorem evalCall_sound {cx : Ctx} (hX : CxOK cx) (hD : DrawSound cx) {n : Nat} {f : FuncId} {fn : Func} (hf : cx.P.funcs[f]? = some fn) (hb : fn.body.isSome = true) {args : List AV} {h : Heap} {fin : Fin} {h' : Heap} {rc' : Option (Option AV)}
    (hc : (fns cx n).call f args h none = some (fin, h', rc')) {e : Env} {w : World} {vs : List Value} (hh : HR e h w) (ha : concL e args = some vs) : Calls cx.P f vs.toArray w (callPost e h w fin h') := by
  have := (fns_ok hX hD n).call f args h fin h' rc' hc e w vs hh ha
  rw [hX.enter hf hb] at this
  exact this
end Go.Proofs.YtahbihcbidkbaaaGreat.Ev

/-
  What an operation asks of the temporaries: its operands.
-/
set_option linter.unusedVariables false
namespace Go.Proofs.YtahbihcbidkbaaaGreat.Ev
open Go

section
variable {ρ : Type} {s s' : St}

theorem valueK_congr {x : Operand} {f g : AV → Option ρ} (h : operand s' x = operand s x) (hk : ∀ a, f a = g a) : valueK s' x f = valueK s x g := by
  simp only [valueK, value, h]
  cases operand s x with
  | none => rfl
  | some t => cases t <;> first | rfl | exact hk _
theorem operandK_congr {x : Operand} {f g : Tm → Option ρ} (h : operand s' x = operand s x) (hk : ∀ a, f a = g a) : operandK s' x f = operandK s x g := by
  simp only [operandK, h]
  cases operand s x with
  | none => rfl
  | some t => exact hk _
theorem optK_congr {x : Option Operand} {f g : Option AV → Option ρ} (h : ∀ y, x = some y → operand s' y = operand s y) (hk : ∀ a, f a = g a) : optK s' x f = optK s x g := by
  cases x with
  | none => exact hk _
  | some y =>
    simp only [optK, value, h y rfl]
    cases operand s y with
    | none => rfl
    | some t => cases t <;> first | rfl | exact hk _
theorem asB_congr {a : AV} {f g : Bool → Option ρ} (hk : ∀ a, f a = g a) : asB a f = asB a g := by cases a <;> first | rfl | exact hk _
theorem asI_congr {a : AV} {f g : Int → Option ρ} (hk : ∀ a, f a = g a) : asI a f = asI a g := by cases a <;> first | rfl | exact hk _
theorem asMap_congr {a : AV} {f g : Option Nat → Option ρ} (hk : ∀ a, f a = g a) : asMap a f = asMap a g := by cases a <;> first | rfl | exact hk _
theorem asPtr_congr {a : AV} {f g : Nat → Nat → Option ρ} (hk : ∀ a b, f a b = g a b) : asPtr a f = asPtr a g := by
  cases a with
  | ptr p => cases p with
    | none => rfl
    | some p => exact hk _ _
  | _ => rfl
theorem bind_congr' {α : Type} {x : Option α} {f g : α → Option ρ} (hk : ∀ a, f a = g a) : x.bind f = x.bind g := by cases x <;> first | rfl | exact hk _
theorem spL_congr : ∀ {n : Nat} {xs : List AV} {f g : List AV → Option ρ}, (∀ a, f a = g a) → spL n xs f = spL n xs g
  | 0, [], f, g, h => h _
  | 0, _ :: _, f, g, h => rfl
  | n + 1, [], f, g, h => rfl
  | n + 1, x :: xs, f, g, h => spL_congr (n := n) (xs := xs) fun a => h _
theorem spA_congr {n : Nat} {a : AV} {f g : List AV → Option ρ} (h : ∀ a, f a = g a) : spA n a f = spA n a g := by cases a <;> first | rfl | exact spL_congr h
theorem spT_congr {n : Nat} {a : AV} {f g : List AV → Option ρ} (h : ∀ a, f a = g a) : spT n a f = spT n a g := by cases a <;> first | rfl | exact spL_congr h
theorem scal_congr {a : AV} {f g : AV → Option ρ} (h : ∀ a, f a = g a) : scal a f = scal a g := by cases a <;> first | rfl | exact h _
theorem cellsK_congr {agg : Bool} {n : Nat} {a : AV} {f g : List AV → Option ρ} (h : ∀ a, f a = g a) : cellsK agg n a f = cellsK agg n a g := by
  cases agg
  · exact scal_congr fun a => h _
  · exact spA_congr h
theorem valK_congr {agg : Bool} {n : Nat} {cs : List AV} {f g : AV → Option ρ} (h : ∀ a, f a = g a) : valK agg n cs f = valK agg n cs g := by
  cases agg
  · simp only [valK]
    exact spL_congr fun l => by cases l <;> first | rfl | exact h _
  · exact spL_congr fun a => h _
theorem notNil_congr {a : AV} {f g : AV → Option ρ} (h : ∀ a, f a = g a) : notNil a f = notNil a g := by
  cases a with
  | ptr p => cases p <;> first | rfl | exact h _
  | _ => first | rfl | exact h _
theorem addT_congr {n : Nat} {t : Tm} {f g : Tm → Option ρ} (h : ∀ a, f a = g a) : addT n t f = addT n t g := by
  cases t <;> first | rfl | exact h _ | exact asPtr_congr fun a b => h _
theorem elemP_congr {x : AV} {i : Int} {z : Nat} {f g : Nat → Nat → Option ρ} (h : ∀ a b, f a b = g a b) : elemP x i z f = elemP x i z g := by
  cases x <;> first | rfl | (simp only [elemP]; split <;> first | rfl | exact h _ _)
theorem inArr_congr {i : Int} {n : Nat} {f g : Nat → Option ρ} (h : ∀ a, f a = g a) : inArr i n f = inArr i n g := by
  simp only [inArr]; split <;> first | rfl | exact h _
theorem opIndexAddr_congr {P : Program} {t : TypeId} {x : Tm} {i : Int} {f g : Tm → Option ρ} (h : ∀ a, f a = g a) : opIndexAddr P t x i f = opIndexAddr P t x i g := by
  unfold opIndexAddr
  split
  · split
    · exact inArr_congr fun _ => addT_congr h
    · rfl
  · split
    · exact elemP_congr fun _ _ => h _
    · rfl
  · rfl
theorem bindC_congr {r : Option (Fin × Heap)} {f g f' g' : AV → Heap → Option ρ} (h : ∀ a b, f a b = g a b) (h' : ∀ a b, f' a b = g' a b) : bindC r f f' = bindC r g g' := by
  unfold bindC; split <;> first | rfl | exact h _ _ | exact h' _ _
theorem answer_congr {P : Program} {t : TypeId} {v : AV} {f g : Tm → Option ρ} (h : ∀ a, f a = g a) : answer P t v f = answer P t v g := by
  unfold answer; split
  · exact spT_congr fun _ => h _
  · exact h _
theorem thrown_congr {a : AV} {f g : AV → Option ρ} (h : ∀ a, f a = g a) : thrown a f = thrown a g := by cases a <;> first | rfl | exact h _
theorem asFn_congr {a : AV} {f g : FuncId → List AV → List AV → Option ρ} {y y' : Nat → Option ρ} (h : ∀ a b c, f a b c = g a b c) (h' : ∀ l, y l = y' l) : asFn a f y = asFn a g y' := by
  cases a <;> first | rfl | exact h _ _ _ | exact h' _
theorem buildK_congr {pl : Nat → Option (Nat × Nat × Bool)} {f g : List AV → Option ρ} (h : ∀ a, f a = g a) : ∀ {ps : List (Nat × AV)} {cs : List AV}, buildK pl ps cs f = buildK pl ps cs g
  | [], cs => h _
  | (i, v) :: ps, cs => by
    simp only [buildK]
    split
    · exact cellsK_congr fun vs => by
        split
        · exact buildK_congr h
        · rfl
    · rfl
theorem values_congr : ∀ {xs : List Operand}, (∀ x ∈ xs, operand s' x = operand s x) → values s' xs = values s xs
  | [], _ => rfl
  | x :: xs, h => by
    simp only [values, value, h x (by simp)]
    rw [values_congr (xs := xs) fun y hy => h y (by simp [hy])]
theorem part2_congr : ∀ {xs : List (Nat × Operand)}, (∀ x ∈ xs, operand s' x.2 = operand s x.2) → part2 s' xs = part2 s xs
  | [], _ => rfl
  | (i, x) :: xs, h => by
    simp only [part2, value, h (i, x) (by simp)]
    rw [part2_congr (xs := xs) fun y hy => h y (by simp [hy])]
end

/-- A turn of the state that leaves alone what an operation asks of it. -/
structure Turn (locs : List Tmp) (o : Oper) (s : St) (g : St → St) : Prop where
  ops : ∀ x ∈ o.op.operands.toList, operand (g s) x = operand s x

/-- The temporaries are others; the operands are the same. -/
def reTm (tm : List Tm) (l : Option Nat) (s : St) : St := { s with tm := match l with | some l => forget l tm | none => tm }

def Out.tr (g : St → St) : Out → Out
  | .ok t s => .ok t (g s)
  | .pan v s => .pan v (g s)

section
variable {cx : Ctx} {fn : FuncId} {F : Fns} {s : St} {tm : List Tm}

theorem tm_newVar {locs : List Tmp} {dst : Option Tmp} {cs : List AV} : newVar locs dst { s with tm := tm } cs (fun t s => some (Out.ok t s)) = newVar locs dst s cs fun t s => some (Out.ok t (reTm tm (localOf locs dst) s)) := by
  unfold newVar
  split
  · split <;> first | rfl | simp only [reTm, *]
  · simp only [reTm, *]
theorem tm_getV {a : Option AV} : getV a { s with tm := tm } (fun t s => some (Out.ok t s)) = getV a s fun t s => some (Out.ok t (reTm tm none s)) := bind_congr' fun _ => rfl
theorem tm_opLoad {agg : Bool} {n : Nat} {a : Tm} : opLoad agg n { s with tm := tm } a (fun t s => some (Out.ok t s)) = opLoad agg n s a fun t s => some (Out.ok t (reTm tm none s)) := by
  have hl : ∀ l, local? { s with tm := tm } l = local? s l := fun l => rfl
  cases a with
  | val a => exact asPtr_congr fun b off => bind_congr' fun xs => valK_congr fun v => rfl
  | lptr l off =>
    simp only [opLoad, hl]
    split
    · exact bind_congr' fun xs => valK_congr fun v => rfl
    · rfl
  | _ => rfl
theorem tm_opStore {agg : Bool} {n : Nat} {a : Tm} {v : AV} : opStore agg n { s with tm := tm } a v (fun t s => some (Out.ok t s)) = opStore agg n s a v fun t s => some (Out.ok t (reTm tm none s)) := by
  have hl : ∀ l, local? { s with tm := tm } l = local? s l := fun l => rfl
  cases a with
  | val a => exact asPtr_congr fun b off => cellsK_congr fun vs => bind_congr' fun xs => rfl
  | lptr l off =>
    simp only [opStore, hl]
    split
    · exact cellsK_congr fun vs => bind_congr' fun xs => spL_congr fun v => rfl
    · rfl
  | _ => rfl
theorem tm_opAppendT {P : Program} {t0 t1 : TypeId} {x y : Tm} : opAppendT P t0 t1 { s with tm := tm } x y (fun t s => some (Out.ok t s)) = opAppendT P t0 t1 s x y fun t s => some (Out.ok t (reTm tm none s)) := by
  have hl : ∀ l, local? { s with tm := tm } l = local? s l := fun l => rfl
  cases x with
  | val x => cases y with
    | val y => exact bind_congr' fun xs => rfl
    | lsl l n =>
      simp only [opAppendT, hl]
      split
      · exact bind_congr' fun xs => rfl
      · rfl
    | _ => rfl
  | lsl l n =>
    simp only [opAppendT, hl]
    split
    · split
      · exact bind_congr' fun xs => rfl
      · rfl
    · rfl
  | _ => rfl
theorem tm_opBuiltin {P : Program} {b : Builtin} {ts : Array TypeId} {args : List AV} : opBuiltin P { s with tm := tm } b ts args (fun t s => some (Out.ok t s)) (fun v s => some (Out.pan v s)) =
    opBuiltin P s b ts args (fun t s => some (Out.ok t (reTm tm none s))) (fun v s => some (Out.pan v (reTm tm none s))) := by
  cases b <;> simp only [opBuiltin] <;> first
    | rfl
    | (unfold recK; (repeat' split) <;> rfl)
    | ((repeat' split) <;> first | rfl | exact bind_congr' fun xs => rfl)
theorem tm_opConvert {P : Program} {src to : TypeId} {v : AV} : opConvert P src to { s with tm := tm } v (fun t s => some (Out.ok t s)) = opConvert P src to s v fun t s => some (Out.ok t (reTm tm none s)) := by
  unfold opConvert
  (repeat' split) <;> first | rfl | exact bind_congr' fun xs => rfl

/-- An operation's outcome hangs on no temporary but its operands. -/
theorem stepOp_tm {o : Oper} (hag : ∀ x ∈ o.op.operands.toList, operand { s with tm := tm } x = operand s x) :
    stepOp cx fn F o { s with tm := tm } = (stepOp cx fn F o s).bind fun out => some (match out with | .ok t s => .ok t (reTm tm (siteOf (cx.locs fn) o) s) | .pan v s => .pan v (reTm tm none s)) := by
  unfold stepOp
  rw [evalOp_bind]
  obtain ⟨dst, op, ty, pos, af, gd⟩ := o
  simp only [Op.operands] at hag
  cases op with
  | move y => exact operandK_congr (hag y (by simp)) fun _ => rfl
  | assign y => exact operandK_congr (hag y (by simp)) fun _ => rfl
  | pick c x y =>
    exact valueK_congr (hag c (by simp)) fun _ => operandK_congr (hag x (by simp)) fun _ => operandK_congr (hag y (by simp)) fun _ => asB_congr fun b => by cases b <;> rfl
  | alloc t =>
    simp only [evalOp]
    split
    · exact tm_newVar
    · rfl
  | box t y =>
    simp only [evalOp]
    split
    · exact valueK_congr (hag y (by simp)) fun _ => cellsK_congr fun _ => tm_newVar
    · rfl
  | build t ps =>
    simp only [evalOp]
    rw [part2_congr (s := s) fun x hx => hag x.2 (by simpa using ⟨x.1, by simpa using hx⟩)]
    split
    · exact buildK_congr fun _ => rfl
    · rfl
  | buildSlice t n ps =>
    simp only [evalOp]
    rw [part2_congr (s := s) fun x hx => hag x.2 (by simpa using ⟨x.1, by simpa using hx⟩)]
    split
    · split
      · rename_i l hl
        split
        · split
          · exact buildK_congr fun _ => by simp [reTm, siteOf, hl]
          · rfl
        · rfl
      · rename_i hl
        exact bind_congr' fun _ => by simp [reTm, siteOf, hl]
    · rfl
  | load t y =>
    simp only [evalOp]
    split
    · exact operandK_congr (hag y (by simp)) fun _ => tm_opLoad
    · rfl
  | store t y z =>
    simp only [evalOp]
    split
    · exact operandK_congr (hag y (by simp)) fun _ => valueK_congr (hag z (by simp)) fun _ => tm_opStore
    · rfl
  | nilCheck y => exact operandK_congr (hag y (by simp)) fun t => by cases t <;> first | rfl | exact notNil_congr fun _ => rfl
  | binOp op t y z u =>
    cases op <;> exact valueK_congr (hag y (by simp)) fun _ => valueK_congr (hag z (by simp)) fun _ => tm_getV
  | unOp op t y => exact valueK_congr (hag y (by simp)) fun _ => tm_getV
  | convert a b y => exact valueK_congr (hag y (by simp)) fun _ => tm_opConvert
  | makeInterface t y =>
    simp only [evalOp]
    (repeat' split) <;> first | rfl | exact valueK_congr (hag y (by simp)) fun _ => rfl
  | makeFunc g x y =>
    cases g with
    | func g =>
      simp only [evalOp]
      rw [values_congr (s := s) fun z hz => hag z (by simp at hz ⊢; exact .inl hz), values_congr (s := s) fun z hz => hag z (by simp at hz ⊢; exact .inr hz)]
      split <;> rfl
    | _ => rfl
  | makeMap t r => cases r <;> rfl
  | makeSlice t l c => exact valueK_congr (hag l (by simp)) fun _ => valueK_congr (hag c (by simp)) fun _ => asI_congr fun _ => asI_congr fun _ => bind_congr' fun _ => rfl
  | slice t y lo hi mx =>
    refine valueK_congr (hag y (by simp)) fun _ => optK_congr (fun z hz => hag z (by simp [hz])) fun _ => optK_congr (fun z hz => hag z (by simp [hz])) fun _ => optK_congr (fun z hz => hag z (by simp [hz])) fun _ => tm_getV
  | fieldAddr t y f =>
    simp only [evalOp]
    split
    · exact operandK_congr (hag y (by simp)) fun _ => addT_congr fun _ => rfl
    · rfl
  | field t y f => exact valueK_congr (hag y (by simp)) fun _ => tm_getV
  | indexAddr t y i => exact operandK_congr (hag y (by simp)) fun _ => valueK_congr (hag i (by simp)) fun _ => asI_congr fun _ => opIndexAddr_congr fun _ => rfl
  | index t y i => exact valueK_congr (hag y (by simp)) fun _ => valueK_congr (hag i (by simp)) fun _ => tm_getV
  | lookup t y i ok =>
    simp only [evalOp]
    split
    · refine valueK_congr (hag y (by simp)) fun _ => valueK_congr (hag i (by simp)) fun _ => asMap_congr fun _ => bind_congr' fun _ => ?_
      cases ok
      · rfl
      · exact spT_congr fun _ => rfl
    · rfl
  | mapUpdate t m key y =>
    simp only [evalOp]
    split
    · exact valueK_congr (hag m (by simp)) fun _ => valueK_congr (hag key (by simp)) fun _ => valueK_congr (hag y (by simp)) fun _ => asMap_congr fun _ => bind_congr' fun _ => rfl
    · rfl
  | typeAssert y t u ok =>
    refine valueK_congr (hag y (by simp)) fun _ => bind_congr' fun _ => ?_
    cases ok
    · rfl
    · exact spT_congr fun _ => rfl
  | extract y i => exact valueK_congr (hag y (by simp)) fun v => by cases v <;> first | rfl | (simp only; split <;> rfl)
  | call c =>
    simp only [evalOp]
    simp only [Call.operands] at hag
    split
    · rename_i t0 t1 x y hap
      obtain ⟨hb, _, _, hargs⟩ := appendOf_inv hap
      exact operandK_congr (hag x (by simp [hargs])) fun _ => operandK_congr (hag y (by simp [hargs])) fun _ => tm_opAppendT
    · unfold opCall
      rw [values_congr (s := s) fun z hz => hag z (by simp at hz ⊢; exact .inr hz)]
      split
      · rfl
      · split
        · exact tm_opBuiltin
        · rename_i g hg
          simp only [value, hag g (by simp [hg])]
          split
          · rfl
          · exact bindC_congr (fun v h => answer_congr fun _ => rfl) fun v h => rfl
        · rfl
  | defer c =>
    simp only [evalOp]
    simp only [Call.operands] at hag
    split
    · rename_i g hg _
      exact valueK_congr (hag g (by simp [hg])) fun _ => asFn_congr (fun _ _ _ => rfl) fun _ => rfl
    · rfl
  | panic y => exact valueK_congr (hag y (by simp)) fun _ => thrown_congr fun _ => rfl
  | _ => rfl
end
end Go.Proofs.YtahbihcbidkbaaaGreat.Ev

/-
  What the kinds of operations ask of the rest of the state.
-/
set_option linter.unusedVariables false
namespace Go.Proofs.YtahbihcbidkbaaaGreat.Ev
open Go

/-- The operands are the same. -/
def Ag (o : Oper) (s s' : St) : Prop := ∀ x ∈ o.op.operands.toList, operand s' x = operand s x

/-- The rest of the state. -/
def St.rest (s : St) (lc : List (Option (List AV))) (h : Heap) (df : List AV) (rc : Option (Option AV)) : St := { tm := s.tm, lc, h, df, rc }

section
variable {cx : Ctx} {fn : FuncId} {F : Fns} {s : St} {o : Oper}

/-- From one state to others with the same operands. -/
theorem lift_ag {s s' s1 : St} {t : Tm} (hag : Ag o s s') (h : stepOp cx fn F o (s.rest s'.lc s'.h s'.df s'.rc) = some (.ok t s1)) :
    stepOp cx fn F o s' = some (.ok t (reTm s'.tm (siteOf (cx.locs fn) o) s1)) := by
  have := stepOp_tm (cx := cx) (fn := fn) (F := F) (o := o) (s := s.rest s'.lc s'.h s'.df s'.rc) (tm := s'.tm) (fun x hx => by
    have := hag x hx
    cases x <;> exact this)
  have he : ({ s.rest s'.lc s'.h s'.df s'.rc with tm := s'.tm } : St) = s' := rfl
  rw [he, h] at this
  exact this

theorem lift_pan {s s' s1 : St} {v : AV} (hag : Ag o s s') (h : stepOp cx fn F o (s.rest s'.lc s'.h s'.df s'.rc) = some (.pan v s1)) :
    stepOp cx fn F o s' = some (.pan v (reTm s'.tm none s1)) := by
  have := stepOp_tm (cx := cx) (fn := fn) (F := F) (o := o) (s := s.rest s'.lc s'.h s'.df s'.rc) (tm := s'.tm) (fun x hx => by
    have := hag x hx
    cases x <;> exact this)
  have he : ({ s.rest s'.lc s'.h s'.df s'.rc with tm := s'.tm } : St) = s' := rfl
  rw [he, h] at this
  exact this

/-- Operations that ask for their operands alone. -/
theorem pure_step (hk : kindOf cx.P (cx.locs fn) o = 0) (hs : siteOf (cx.locs fn) o = none) {out : Out} (h : stepOp cx fn F o s = some out) :
    ∃ t, out = .ok t s ∧ ∀ s', Ag o s s' → stepOp cx fn F o s' = some (.ok t s') := by
  have key : ∃ t, out = .ok t s ∧ ∀ lc h df rc, stepOp cx fn F o (s.rest lc h df rc) = some (.ok t (s.rest lc h df rc)) := by
    have hop : ∀ lc h df rc x, operand (s.rest lc h df rc) x = operand s x := fun lc h df rc x => by cases x <;> rfl
    have hva : ∀ lc h df rc x, value (s.rest lc h df rc) x = value s x := fun lc h df rc x => by simp only [value, hop]
    obtain ⟨dst, op, ty, pos, af, gd⟩ := o
    unfold stepOp at h ⊢
    cases op with
    | move y => obtain ⟨t, h1, h⟩ := operandK_inv h; cases h; exact ⟨t, rfl, fun _ _ _ _ => by simp [evalOp, operandK, hop, h1]⟩
    | assign y => obtain ⟨t, h1, h⟩ := operandK_inv h; cases h; exact ⟨t, rfl, fun _ _ _ _ => by simp [evalOp, operandK, hop, h1]⟩
    | pick c x y =>
      obtain ⟨c', h1, h⟩ := valueK_inv h
      obtain ⟨x', h2, h⟩ := operandK_inv h
      obtain ⟨y', h3, h⟩ := operandK_inv h
      obtain ⟨b, rfl, h⟩ := asB_inv h
      cases b <;> (cases h; exact ⟨_, rfl, fun _ _ _ _ => by simp [evalOp, operandK, valueK, hop, hva, h1, h2, h3, asB]⟩)
    | build t ps =>
      have hp : ∀ lc h df rc, part2 (s.rest lc h df rc) ps.toList = part2 s ps.toList := fun lc h df rc => part2_congr fun x _ => hop lc h df rc x.2
      simp only [evalOp] at h ⊢
      simp only [hp]
      split at h
      · rename_i qs z pl e1 e2 e3
        have hb : ∀ (s : St), buildK pl qs z (fun cs => some (Out.ok (.val (.agg cs)) s)) = (buildK pl qs z some).bind fun cs => some (Out.ok (.val (.agg cs)) s) := fun s => by rw [buildK_bind]; rfl
        rw [hb] at h
        obtain ⟨cs, h1, h⟩ := bind_inv h
        cases h
        refine ⟨_, rfl, fun lc h df rc => ?_⟩
        rw [hb, h1]; rfl
      · cases h
    | nilCheck y =>
      obtain ⟨t, h1, h⟩ := operandK_inv h
      split at h
      · obtain ⟨h5, n1, n2, n3⟩ := notNil_inv h
        rename_i a
        have h5 : some (Out.ok (.val a) s) = some out := h5
        injection h5 with h5
        subst h5
        clear h
        refine ⟨_, rfl, fun _ _ _ _ => ?_⟩
        simp only [evalOp, operandK, hop, h1]
        cases a with
        | ptr p => cases p <;> first | exact absurd rfl n1 | rfl
        | nilIface => exact absurd rfl n2
        | nilFn => exact absurd rfl n3
        | _ => rfl
      · cases h; exact ⟨_, rfl, fun _ _ _ _ => by simp [evalOp, operandK, hop, h1]⟩
      · cases h
    | binOp op t y z u =>
      cases op <;>
      · obtain ⟨a, h1, h⟩ := valueK_inv h
        obtain ⟨b, h2, h⟩ := valueK_inv h
        obtain ⟨v, h3, h⟩ := getV_inv h
        cases h
        exact ⟨_, rfl, fun _ _ _ _ => by simp [evalOp, valueK, hva, h1, h2, h3, getV]⟩
    | unOp op t y =>
      obtain ⟨a, h1, h⟩ := valueK_inv h
      obtain ⟨v, h3, h⟩ := getV_inv h
      cases h
      exact ⟨_, rfl, fun _ _ _ _ => by simp [evalOp, valueK, hva, h1, h3, getV]⟩
    | convert a b y =>
      obtain ⟨v, h1, h⟩ := valueK_inv h
      unfold opConvert at h
      simp only [kindOf] at hk
      split at h
      · rename_i e1 e2; simp [e1, e2] at hk
      · rename_i e1 e2; simp [e1, e2] at hk
      · rename_i e1 e2
        obtain ⟨v', h3, h⟩ := getV_inv h
        cases h
        refine ⟨_, rfl, fun _ _ _ _ => ?_⟩
        simp only [evalOp, valueK, hva, h1]
        unfold opConvert
        split
        · rename_i q1 q2; exact absurd q2 (e1 _ q1)
        · rename_i q1 q2; exact absurd q2 (e2 _ q1)
        · simp [getV, h3]
    | makeInterface t y =>
      simp only [evalOp] at h ⊢
      split at h
      · cases h
      · obtain ⟨v, h1, h⟩ := valueK_inv h
        cases h
        exact ⟨_, rfl, fun _ _ _ _ => by simp [valueK, hva, h1]⟩
      · cases h
    | makeFunc g x y =>
      have hp : ∀ lc h df rc xs, values (s.rest lc h df rc) xs = values s xs := fun lc h df rc xs => values_congr fun x _ => hop lc h df rc x
      cases g with
      | func g =>
        simp only [evalOp] at h ⊢
        simp only [hp]
        split at h
        · cases h; exact ⟨_, rfl, fun _ _ _ _ => rfl⟩
        · cases h
      | _ => simp [evalOp] at h
    | fieldAddr t y f =>
      simp only [evalOp] at h ⊢
      split at h
      · obtain ⟨x, h1, h⟩ := operandK_inv h
        simp only [operandK, hop, h1]
        unfold addT at h ⊢
        split at h
        · cases h; exact ⟨_, rfl, fun _ _ _ _ => rfl⟩
        · obtain ⟨b, off, rfl, h⟩ := asPtr_inv h
          cases h; exact ⟨_, rfl, fun _ _ _ _ => rfl⟩
        · cases h
      · cases h
    | field t y f =>
      obtain ⟨a, h1, h⟩ := valueK_inv h
      obtain ⟨v, h3, h⟩ := getV_inv h
      cases h
      exact ⟨_, rfl, fun _ _ _ _ => by simp [evalOp, valueK, hva, h1, h3, getV]⟩
    | indexAddr t y i =>
      obtain ⟨x, h1, h⟩ := operandK_inv h
      obtain ⟨j, h2, h⟩ := valueK_inv h
      obtain ⟨kk, n, rfl, h5⟩ := asI_inv h
      clear h
      have h := h5
      have hb : ∀ (s : St), opIndexAddr cx.P t x n (fun t => some (Out.ok t s)) = (opIndexAddr cx.P t x n some).bind fun t => some (Out.ok t s) := fun s => by rw [opIndexAddr_bind]; rfl
      rw [hb] at h
      obtain ⟨t', h3, h⟩ := bind_inv h
      cases h
      refine ⟨_, rfl, fun _ _ _ _ => ?_⟩
      simp only [evalOp, operandK, valueK, hop, hva, h1, h2, asI]
      rw [hb, h3]; rfl
    | index t y i =>
      obtain ⟨a, h1, h⟩ := valueK_inv h
      obtain ⟨b, h2, h⟩ := valueK_inv h
      obtain ⟨v, h3, h⟩ := getV_inv h
      cases h
      exact ⟨_, rfl, fun _ _ _ _ => by simp [evalOp, valueK, hva, h1, h2, h3, getV]⟩
    | typeAssert y t u ok =>
      obtain ⟨a, h1, h⟩ := valueK_inv h
      obtain ⟨v, h2, h⟩ := bind_inv h
      cases ok with
      | true =>
        obtain ⟨vs, rfl, hl, h⟩ := spT_inv h
        cases h
        refine ⟨_, rfl, fun _ _ _ _ => ?_⟩
        have key : ∀ (l : List AV) (k : List AV → Option Out), spL l.length l k = k l := by
          intro l
          induction l with
          | nil => intro k; rfl
          | cons a l ih => intro k; exact ih _
        simp only [evalOp, valueK, hva, h1, h2, Option.bind_some, spT, ← hl, key]
      | false =>
        cases h
        exact ⟨_, rfl, fun _ _ _ _ => by simp [evalOp, valueK, hva, h1, h2]⟩
    | extract y i =>
      obtain ⟨a, h1, h⟩ := valueK_inv h
      split at h
      · split at h
        · rename_i h2
          cases h
          exact ⟨_, rfl, fun _ _ _ _ => by simp [evalOp, valueK, hva, h1, h2]⟩
        · cases h
      · cases h
    | call c =>
      have hp : ∀ lc h df rc xs, values (s.rest lc h df rc) xs = values s xs := fun lc h df rc xs => values_congr fun x _ => hop lc h df rc x
      simp only [kindOf] at hk
      simp only [evalOp] at h ⊢
      split at h
      · rename_i hap
        obtain ⟨hb, _⟩ := appendOf_inv hap
        simp [hb] at hk
      · unfold opCall at h ⊢
        simp only [hp]
        split at h
        · cases h
        · rename_i args hargs
          split at h
          · rename_i b hb
            cases b <;> first | (simp [hb] at hk; done) | skip
            all_goals
              simp only [opBuiltin] at h ⊢
              split at h
              · obtain ⟨v, h3, h⟩ := getV_inv h
                cases h
                exact ⟨_, rfl, fun _ _ _ _ => by simp [getV, h3]⟩
              · cases h
          · rename_i hb; simp [hb] at hk
          · cases h
    | alloc t =>
      simp only [kindOf] at hk
      simp only [siteOf] at hs
      simp [hs] at hk
    | box t y =>
      simp only [kindOf] at hk
      simp only [siteOf] at hs
      simp [hs] at hk
    | buildSlice t n ps =>
      simp only [kindOf] at hk
      simp only [siteOf] at hs
      simp [hs] at hk
    | _ => simp [kindOf] at hk
  obtain ⟨t, h1, h2⟩ := key
  refine ⟨t, h1, fun s' hag => ?_⟩
  have := lift_ag hag (h2 s'.lc s'.h s'.df s'.rc)
  rw [hs] at this
  exact this

/-- The site of a local variable. -/
theorem site_step {l : Nat} (hs : siteOf (cx.locs fn) o = some l) {out : Out} (h : stepOp cx fn F o s = some out) :
    ∃ t cs, out = .ok t { s with tm := forget l s.tm, lc := s.lc.set l (some cs) } ∧ (t = .lptr l 0 ∨ ∃ n, t = .lsl l n) ∧ l < s.lc.length ∧
      ∀ s', Ag o s s' → l < s'.lc.length → stepOp cx fn F o s' = some (.ok t { s' with tm := forget l s'.tm, lc := s'.lc.set l (some cs) }) := by
  have key : ∃ t cs, out = .ok t { s with tm := forget l s.tm, lc := s.lc.set l (some cs) } ∧ (t = .lptr l 0 ∨ ∃ n, t = .lsl l n) ∧ l < s.lc.length ∧
      ∀ lc h df rc, l < lc.length → stepOp cx fn F o (s.rest lc h df rc) = some (.ok t { s.rest lc h df rc with tm := forget l s.tm, lc := lc.set l (some cs) }) := by
    have hop : ∀ lc h df rc x, operand (s.rest lc h df rc) x = operand s x := fun lc h df rc x => by cases x <;> rfl
    have hva : ∀ lc h df rc x, value (s.rest lc h df rc) x = value s x := fun lc h df rc x => by simp only [value, hop]
    have hnv : ∀ (dst : Option Tmp) (cs : List AV) (s' : St), localOf (cx.locs fn) dst = some l → l < s'.lc.length → newVar (cx.locs fn) dst s' cs (fun t s => some (Out.ok t s)) = some (.ok (.lptr l 0) { s' with tm := forget l s'.tm, lc := s'.lc.set l (some cs) }) := by
      intro dst cs s' h1 h2
      have : Nat.blt l s'.lc.length = true := by simpa [Nat.blt_eq] using h2
      simp [newVar, h1, this]
    have hnv2 : ∀ (dst : Option Tmp) (cs : List AV), localOf (cx.locs fn) dst = some l → newVar (cx.locs fn) dst s cs (fun t s => some (Out.ok t s)) = some out → l < s.lc.length ∧ out = .ok (.lptr l 0) { s with tm := forget l s.tm, lc := s.lc.set l (some cs) } := by
      intro dst cs h1 h2
      unfold newVar at h2
      rw [h1] at h2
      simp only at h2
      split at h2
      · rename_i hlt; cases h2; exact ⟨by simpa [Nat.blt_eq] using hlt, rfl⟩
      · cases h2
    obtain ⟨dst, op, ty, pos, af, gd⟩ := o
    unfold stepOp at h ⊢
    cases op with
    | alloc t =>
      simp only [siteOf] at hs
      simp only [evalOp] at h ⊢
      split at h
      · obtain ⟨h1, h2⟩ := hnv2 _ _ hs h
        exact ⟨_, _, h2, .inl rfl, h1, fun lc h df rc hl => hnv _ _ _ hs hl⟩
      · cases h
    | box t y =>
      simp only [siteOf] at hs
      simp only [evalOp] at h ⊢
      split at h
      · rename_i n agg _
        obtain ⟨v, h1, h⟩ := valueK_inv h
        have hb : ∀ (s : St), cellsK agg n v (fun cs => newVar (cx.locs fn) dst s cs fun t s => some (Out.ok t s)) = (cellsK agg n v some).bind fun cs => newVar (cx.locs fn) dst s cs fun t s => some (Out.ok t s) := fun s => by rw [cellsK_bind]; rfl
        rw [hb] at h
        obtain ⟨cs, h2, h⟩ := bind_inv h
        obtain ⟨h3, h4⟩ := hnv2 _ _ hs h
        refine ⟨_, _, h4, .inl rfl, h3, fun lc h df rc hl => ?_⟩
        simp only [valueK, hva, h1]
        rw [hb, h2]
        exact hnv _ _ _ hs hl
      · cases h
    | buildSlice t n ps =>
      simp only [siteOf] at hs
      have hp : ∀ lc h df rc, part2 (s.rest lc h df rc) ps.toList = part2 s ps.toList := fun lc h df rc => part2_congr fun x _ => hop lc h df rc x.2
      simp only [evalOp, hs] at h ⊢
      simp only [hp]
      split at h
      · rename_i qs _
        split at h
        · rename_i e agg z _
          split at h
          · rename_i hc
            rw [Bool.and_eq_true] at hc
            have hlt : l < s.lc.length := by simpa [Nat.blt_eq] using hc.2
            have hb : ∀ (s : St), buildK (fun i => some (i * e, e, agg)) qs (zeros z n) (fun cs => some (Out.ok (.lsl l n) { s with tm := forget l s.tm, lc := s.lc.set l (some cs) })) =
                (buildK (fun i => some (i * e, e, agg)) qs (zeros z n) some).bind fun cs => some (Out.ok (.lsl l n) { s with tm := forget l s.tm, lc := s.lc.set l (some cs) }) := fun s => by rw [buildK_bind]; rfl
            rw [hb] at h
            obtain ⟨cs, h1, h⟩ := bind_inv h
            cases h
            refine ⟨_, _, rfl, .inr ⟨n, rfl⟩, hlt, fun lc h df rc hl => ?_⟩
            have hbl : Nat.blt l (s.rest lc h df rc).lc.length = true := by
              show Nat.blt l lc.length = true
              simpa [Nat.blt_eq] using hl
            rw [hc.1, hbl]
            simp only [Bool.and_self]
            rw [hb, h1]; rfl
          · cases h
        · cases h
      · cases h
    | _ => simp [siteOf] at hs
  obtain ⟨t, cs, h1, h2, h3, h4⟩ := key
  refine ⟨t, cs, h1, h2, h3, fun s' hag hl => ?_⟩
  have := lift_ag hag (h4 s'.lc s'.h s'.df s'.rc hl)
  rw [hs] at this
  exact this
end
end Go.Proofs.YtahbihcbidkbaaaGreat.Ev

/-
  A region whose order is open: its steps, by classes.
-/
set_option linter.unusedVariables false
namespace Go.Proofs.YtahbihcbidkbaaaGreat.Ev
open Go

inductive Cls where
  | pure
  | site (l : Nat)
  | rd (f : Heap → Option (List AV)) (g : List AV → Option Tm)
  | rl (l : Nat)
  | look
  | eff
  | wl (l : Nat)
  | wx (l : Nat)
  | bad

def opt3 (s : St) (lo hi mx : Option Operand) : Option (Option AV × Option AV × Option AV) := optK s lo fun a => optK s hi fun b => optK s mx fun c => some (a, b, c)

def one0 : List AV → Option Tm
  | [v] => some (.val v)
  | _ => none

def clsOf (cx : Ctx) (fn : FuncId) (s : St) (o : Oper) : Cls :=
  match kindOf cx.P (cx.locs fn) o with
  | 1 => match o.op with
    | .load t a => match tshape cx.P t with
      | none => .bad
      | some (n, agg) => match operand s a with
        | some (.lptr l _) => .rl l
        | some (.val (.ptr (some (b, off)))) => .rd (fun h => h.rd b off n) fun xs => valK agg n xs fun v => some (.val v)
        | _ => .bad
    | _ => .bad
  | 2 => match o.op with
    | .convert src _ x => match cx.P.underlying src with
      | some (.slice e) => match isU8 cx.P e with
        | true => match value s x with
          | some x => .rd (fun h => cellsOf cx.P h e x) fun cs => (bytesA cs).bind fun bs => some (.val (.str ⟨bs.toArray⟩))
          | none => .bad
        | false => .bad
      | _ => .bad
    | .slice t x lo hi mx => match value s x, opt3 s lo hi mx with
      | some x, some (lo, hi, mx) => .rd (fun h => one1 (sliceA cx.P h t x lo hi mx)) one0
      | _, _ => .bad
    | _ => .bad
  | 3 => match aim s o with
    | some (.lsl l _) => .wx l
    | some (.lptr l _) => .wl l
    | _ => .eff
  | _ => match siteOf (cx.locs fn) o with
    | some l => .site l
    | none => match kindOf cx.P (cx.locs fn) o with
      | 0 => .pure
      | _ => .look

inductive DOut where
  | ok (s : St) (lg : List Lg)
  | pan (v : AV) (s : St)

def quiet (d : Option Tmp) (lg : List Lg) : Out → Option DOut
  | .ok t s => some (.ok (putT d t s) lg)
  | .pan _ _ => none

/-- A step. -/
def dstep (cx : Ctx) (fn : FuncId) (F : Fns) (ops : Array Oper) (bf : Array Nat) (os : List (Oper × Nat)) (o : Oper) (j : Nat) (lg : List Lg) (s : St) : Option DOut :=
  match clsOf cx fn s o with
  | .pure => (stepOp cx fn F o s).bind (quiet o.dst lg)
  | .site _ => (stepOp cx fn F o s).bind (quiet o.dst lg)
  | .look => (stepOp cx fn F o s).bind (quiet o.dst lg)
  | .rd f g => (f s.h).bind fun xs => wasSame bf j f xs ((g xs).bind fun t => some (.ok (putT o.dst t s) (.rd j f xs :: lg))) lg
  | .rl l => match aloneL bf j l false lg with
    | true => (stepOp cx fn F o s).bind (quiet o.dst (.rl j l :: lg))
    | false => none
  | .eff => (stepOp cx fn F o s).bind fun out => match out with
    | .ok t s' => stillSame bf j s'.h (some (.ok (putT o.dst t s') (.ef j s.h :: lg))) lg
    | .pan v s' => match os.all (fun x => !(open2 bf x.2 j)) with
      | true => some (.pan v (wipe ops.toList s'))
      | false => none
  | .wl l => match aloneL bf j l true lg with
    | true => (stepOp cx fn F o s).bind (quiet o.dst (.wl j l :: lg))
    | false => none
  | .wx l => match aloneL bf j l true lg with
    | true => (stepOp cx fn F o s).bind fun out => match out with
      | .ok t s' => stillSame bf j s'.h (some (.ok (putT o.dst t s') (.wl j l :: .ef j s.h :: lg))) lg
      | .pan _ _ => none
    | false => none
  | .bad => none

section
variable {ρ τ : Type}
theorem same_inv {a : Option (List AV)} {xs : List AV} {k : Option ρ} {r : ρ} (h : same a xs k = some r) : a = some xs ∧ k = some r := by
  unfold same at h
  split at h
  · split at h
    · rename_i hs; rw [AV.sameL_eq hs]; exact ⟨rfl, h⟩
    · cases h
  · cases h

mutual
theorem AV.same_refl : ∀ a : AV, AV.same a a = true
  | .int k n => by simp [AV.same]
  | .bool b => by simp [AV.same]
  | .str s => by simp [AV.same]
  | .ptr p => by simp [AV.same]
  | .slice a b c d e => by simp [AV.same]
  | .nilSlice => rfl
  | .map r => by simp [AV.same]
  | .fn f a c => by simp [AV.same, AV.sameL_refl a, AV.sameL_refl c]
  | .yield l => by simp [AV.same]
  | .nilFn => rfl
  | .iface t v => by simp [AV.same, AV.same_refl v]
  | .nilIface => rfl
  | .agg cs => by simp [AV.same, AV.sameL_refl cs]
  | .tup cs => by simp [AV.same, AV.sameL_refl cs]
theorem AV.sameL_refl : ∀ a : List AV, AV.sameL a a = true
  | [] => rfl
  | a :: as => by simp [AV.sameL, AV.same_refl a, AV.sameL_refl as]
end

theorem same_mk {xs : List AV} {k : Option ρ} : same (some xs) xs k = k := by simp [same, AV.sameL_refl]

/-- What was read was the same ahead of each turn. -/
def WasP (bf : Array Nat) (i : Nat) (f : Heap → Option (List AV)) (xs : List AV) (lg : List Lg) : Prop := ∀ j h, Lg.ef j h ∈ lg → open2 bf i j = true → f h = some xs
def StillP (bf : Array Nat) (j : Nat) (h : Heap) (lg : List Lg) : Prop := ∀ i f xs, Lg.rd i f xs ∈ lg → open2 bf i j = true → f h = some xs
def AloneP (bf : Array Nat) (i l : Nat) (reads : Bool) (lg : List Lg) : Prop := (∀ j, Lg.wl j l ∈ lg → open2 bf i j = false) ∧ (reads = true → ∀ j, Lg.rl j l ∈ lg → open2 bf i j = false)

theorem wasSame_inv {bf : Array Nat} {i : Nat} {f : Heap → Option (List AV)} {xs : List AV} {k : Option ρ} {r : ρ} : ∀ {lg : List Lg}, wasSame bf i f xs k lg = some r → WasP bf i f xs lg ∧ k = some r
  | [], h => ⟨(fun j h hm => by cases hm), h⟩
  | g :: lg, h => by
    have push : ∀ {g : Lg}, (∀ j h, g ≠ .ef j h) → WasP bf i f xs lg → WasP bf i f xs (g :: lg) := by
      intro g hg hw j h hm ho
      cases hm with
      | head => exact absurd rfl (hg j h)
      | tail _ hm => exact hw j h hm ho
    cases g with
    | ef j h' =>
      simp only [wasSame] at h
      split at h
      · rename_i hopen
        obtain ⟨h1, h⟩ := same_inv h
        obtain ⟨h2, h⟩ := wasSame_inv h
        refine ⟨fun j' h'' hm ho => ?_, h⟩
        cases hm with
        | head => exact h1
        | tail _ hm => exact h2 j' h'' hm ho
      · rename_i hopen
        obtain ⟨h2, h⟩ := wasSame_inv h
        refine ⟨fun j' h'' hm ho => ?_, h⟩
        cases hm with
        | head => rw [hopen] at ho; cases ho
        | tail _ hm => exact h2 j' h'' hm ho
    | _ =>
      simp only [wasSame] at h
      obtain ⟨h2, h⟩ := wasSame_inv h
      exact ⟨push (fun j h hh => by cases hh) h2, h⟩

theorem wasSame_mk {bf : Array Nat} {i : Nat} {f : Heap → Option (List AV)} {xs : List AV} {k : Option ρ} : ∀ {lg : List Lg}, WasP bf i f xs lg → wasSame bf i f xs k lg = k
  | [], _ => rfl
  | g :: lg, h => by
    have ht : WasP bf i f xs lg := fun j h' hm => h j h' (List.mem_cons_of_mem _ hm)
    cases g with
    | ef j h' =>
      simp only [wasSame]
      split
      · rename_i ho
        rw [h j h' (by simp) ho, same_mk, wasSame_mk ht]
      · exact wasSame_mk ht
    | _ => simp only [wasSame]; exact wasSame_mk ht

theorem stillSame_inv {bf : Array Nat} {j : Nat} {h0 : Heap} {k : Option ρ} {r : ρ} : ∀ {lg : List Lg}, stillSame bf j h0 k lg = some r → StillP bf j h0 lg ∧ k = some r
  | [], h => ⟨(fun i f xs hm => by cases hm), h⟩
  | g :: lg, h => by
    cases g with
    | rd i f xs =>
      simp only [stillSame] at h
      split at h
      · rename_i hopen
        obtain ⟨h1, h⟩ := same_inv h
        obtain ⟨h2, h⟩ := stillSame_inv h
        refine ⟨fun i' f' xs' hm ho => ?_, h⟩
        cases hm with
        | head => exact h1
        | tail _ hm => exact h2 i' f' xs' hm ho
      · rename_i hopen
        obtain ⟨h2, h⟩ := stillSame_inv h
        refine ⟨fun i' f' xs' hm ho => ?_, h⟩
        cases hm with
        | head => rw [hopen] at ho; cases ho
        | tail _ hm => exact h2 i' f' xs' hm ho
    | _ =>
      simp only [stillSame] at h
      obtain ⟨h2, h⟩ := stillSame_inv h
      refine ⟨fun i' f' xs' hm ho => ?_, h⟩
      cases hm with
      | tail _ hm => exact h2 i' f' xs' hm ho

theorem stillSame_mk {bf : Array Nat} {j : Nat} {h0 : Heap} {k : Option ρ} : ∀ {lg : List Lg}, StillP bf j h0 lg → stillSame bf j h0 k lg = k
  | [], _ => rfl
  | g :: lg, h => by
    have ht : StillP bf j h0 lg := fun i f xs hm => h i f xs (List.mem_cons_of_mem _ hm)
    cases g with
    | rd i f xs =>
      simp only [stillSame]
      split
      · rename_i ho
        rw [h i f xs (by simp) ho, same_mk, stillSame_mk ht]
      · exact stillSame_mk ht
    | _ => simp only [stillSame]; exact stillSame_mk ht

theorem aloneL_iff {bf : Array Nat} {i l : Nat} {reads : Bool} : ∀ {lg : List Lg}, aloneL bf i l reads lg = true ↔ AloneP bf i l reads lg
  | [] => ⟨fun _ => ⟨(fun j hm => by cases hm), (fun _ j hm => by cases hm)⟩, fun _ => rfl⟩
  | g :: lg => by
    have ih := aloneL_iff (bf := bf) (i := i) (l := l) (reads := reads) (lg := lg)
    simp only [aloneL, Bool.and_eq_true, ih]
    constructor
    · rintro ⟨h1, h2, h3⟩
      refine ⟨fun j hm => ?_, fun hr j hm => ?_⟩
      · cases hm with
        | head =>
          simp only at h1
          cases ho : open2 bf i j
          · rfl
          · rw [ho, nbeq_self] at h1; simp at h1
        | tail _ hm => exact h2 j hm
      · cases hm with
        | head =>
          simp only at h1
          cases ho : open2 bf i j
          · rfl
          · rw [ho, hr, nbeq_self] at h1; simp at h1
        | tail _ hm => exact h3 hr j hm
    · rintro ⟨h2, h3⟩
      refine ⟨?_, fun j hm => h2 j (List.mem_cons_of_mem _ hm), fun hr j hm => h3 hr j (List.mem_cons_of_mem _ hm)⟩
      cases g with
      | wl j l' =>
        simp only
        split
        · rename_i e1 e2
          have := Nat.eq_of_beq_eq_true e2
          subst this
          have := h2 j (by simp)
          rw [e1] at this; cases this
        · rfl
      | rl j l' =>
        simp only
        split
        · rename_i e0 e1 e2
          have := Nat.eq_of_beq_eq_true e2
          subst this
          have := h3 rfl j (by simp)
          rw [e1] at this; cases this
        · rfl
      | _ => rfl
end

/-- Is it wanted? -/
def wantedB (ops : Array Oper) (o : Oper) (s : St) : Option Bool := wantedK ops o s fun b _ => some b

theorem wantedK_B {ρ : Type} {ops : Array Oper} {o : Oper} {s : St} {f : Bool → St → Option ρ} {r : ρ} (h : wantedK ops o s f = some r) : ∃ b, wantedB ops o s = some b ∧ f b s = some r := by
  unfold wantedB
  unfold wantedK at h ⊢
  split at h
  · exact ⟨true, rfl, h⟩
  · rename_i j b hg
    split at h
    · cases h
    · rename_i d hd
      split at h
      · rename_i a0 ha
        obtain ⟨c, rfl, h⟩ := asB_inv h
        cases c with
        | true =>
          rw [list_set_same ha] at h
          exact ⟨b, rfl, h⟩
        | false =>
          rw [list_set_same ha] at h
          exact ⟨!b, rfl, h⟩
      · cases h

def evalD (cx : Ctx) (fn : FuncId) (F : Fns) (ops : Array Oper) (bf : Array Nat) (k : Ex → St → R) : List (Oper × Nat) → List Lg → St → R
  | [], _, s => k .normal s
  | (o, j) :: os, lg, s => (wantedB ops o s).bind fun w => match w with
    | false => evalD cx fn F ops bf k os lg (putT o.dst .undef s)
    | true => (dstep cx fn F ops bf os o j lg s).bind fun x => match x with
      | .ok s lg => evalD cx fn F ops bf k os lg s
      | .pan v s => k (.panic v) s

theorem evalDraw_D {cx : Ctx} {fn : FuncId} {F : Fns} {ops : Array Oper} {bf : Array Nat} {k : Ex → St → R} {r : Fin × Heap × Option (Option AV)} : ∀ {os : List (Oper × Nat)} {lg : List Lg} {s : St},
    evalDraw cx fn F ops bf k os lg s = some r → evalD cx fn F ops bf k os lg s = some r
  | [], lg, s, h => h
  | (o, j) :: os, lg, s, h => by
    rw [evalDraw] at h
    obtain ⟨b, hb, h⟩ := wantedK_B h
    simp only [evalD, hb, Option.bind_some]
    cases b with
    | false => exact evalDraw_D h
    | true =>
      simp only at h ⊢
      -- a quiet step
      have hq : ∀ lg', evalOp cx fn F o s (fun t s => evalDraw cx fn F ops bf k os lg' (putT o.dst t s)) (fun _ _ => none) = some r →
          ((stepOp cx fn F o s).bind (quiet o.dst lg')).bind (fun x => match x with
            | .ok s lg => evalD cx fn F ops bf k os lg s
            | .pan v s => k (.panic v) s) = some r := by
        intro lg' hh
        rw [evalOp_eq] at hh
        obtain ⟨out, h1, hh⟩ := bind_inv hh
        rw [h1]
        cases out with
        | ok t s1 => exact evalDraw_D hh
        | pan v s1 => cases hh
      split at h
      · rename_i hk
        split at h
        · rename_i t a hop
          split at h
          · cases h
          · rename_i n agg hsh
            obtain ⟨ad, hoa, h⟩ := operandK_inv h
            split at h
            · rename_i l off
              split at h
              · rename_i hal
                have hcls : clsOf cx fn s o = .rl l := by simp [clsOf, hk, hop, hsh, hoa]
                simp only [dstep, hcls, hal]
                apply hq
                obtain ⟨dst, op, ty, pos, af, gd⟩ := o
                simp only at hop
                subst hop
                simp only [evalOp, hsh, operandK, hoa]
                exact h
              · cases h
            · obtain ⟨bb, off, rfl, h⟩ := asPtr_inv h
              obtain ⟨xs, hx, h⟩ := bind_inv h
              obtain ⟨hw, h⟩ := wasSame_inv h
              have hcls : clsOf cx fn s o = .rd (fun h => h.rd bb off n) fun xs => valK agg n xs fun v => some (.val v) := by simp [clsOf, hk, hop, hsh, hoa]
              simp only [dstep, hcls, hx, Option.bind_some]
              rw [wasSame_mk hw]
              obtain ⟨v, h, hv⟩ := valK_inv h
              have : (valK agg n xs fun v => some (Tm.val v)) = some (.val v) := by
                have := valK_bind (fun v => some (Tm.val v)) agg n xs (some : AV → Option AV)
                rw [hv] at this
                exact this.symm
              rw [this]
              exact evalDraw_D h
            · cases h
        · cases h
      · rename_i hk
        split at h
        · rename_i src to x hop
          split at h
          · rename_i e he
            split at h
            · rename_i hu
              obtain ⟨v, hv, h⟩ := valueK_inv h
              obtain ⟨cs, hcs, h⟩ := bind_inv h
              obtain ⟨hw, h⟩ := wasSame_inv h
              have hcls : clsOf cx fn s o = .rd (fun h => cellsOf cx.P h e v) fun cs => (bytesA cs).bind fun bs => some (.val (.str ⟨bs.toArray⟩)) := by simp [clsOf, hk, hop, he, hu, hv]
              simp only [dstep, hcls, hcs, Option.bind_some]
              rw [wasSame_mk hw]
              obtain ⟨bs, hbs, h⟩ := bind_inv h
              rw [hbs]
              exact evalDraw_D h
            · cases h
          · cases h
        · rename_i t x lo hi mx hop
          obtain ⟨v, hv, h⟩ := valueK_inv h
          obtain ⟨vlo, h, hlo⟩ := optK_inv h
          obtain ⟨vhi, h, hhi⟩ := optK_inv h
          obtain ⟨vmx, h, hmx⟩ := optK_inv h
          obtain ⟨u, hu, h⟩ := bind_inv h
          obtain ⟨hw, h⟩ := wasSame_inv h
          have ho3 : opt3 s lo hi mx = some (vlo, vhi, vmx) := by
            have go : ∀ {x : Option Operand} {v : Option AV} {ρ : Type} (f : Option AV → Option ρ), ((x = none ∧ v = none) ∨ ∃ y u, x = some y ∧ v = some u ∧ value s y = some u) → optK s x f = f v := by
              intro x v ρ f hx
              rcases hx with ⟨rfl, rfl⟩ | ⟨y, u, rfl, rfl, hu⟩
              · rfl
              · simp [optK, hu]
            unfold opt3
            rw [go _ hlo, go _ hhi, go _ hmx]
          have hcls : clsOf cx fn s o = .rd (fun h => one1 (sliceA cx.P h t v vlo vhi vmx)) one0 := by simp [clsOf, hk, hop, hv, ho3]
          have h1 : one1 (sliceA cx.P s.h t v vlo vhi vmx) = some [u] := by rw [hu]; rfl
          simp only [dstep, hcls, h1, Option.bind_some]
          rw [wasSame_mk hw]
          exact evalDraw_D h
        · cases h
      · rename_i hk
        split at h
        · rename_i l m ha
          split at h
          · rename_i hal
            have hcls : clsOf cx fn s o = .wx l := by simp [clsOf, hk, ha]
            simp only [dstep, hcls, hal]
            rw [evalOp_eq] at h
            obtain ⟨out, h1, h⟩ := bind_inv h
            rw [h1]
            cases out with
            | ok t s1 =>
              simp only [Out.elim] at h
              obtain ⟨hw, h⟩ := stillSame_inv h
              simp only [Option.bind_some]
              rw [stillSame_mk hw]
              exact evalDraw_D h
            | pan v s1 => cases h
          · cases h
        · rename_i l m ha
          split at h
          · rename_i hal
            have hcls : clsOf cx fn s o = .wl l := by simp [clsOf, hk, ha]
            simp only [dstep, hcls, hal]
            exact hq _ h
          · cases h
        · rename_i ha1 ha2
          have hcls : clsOf cx fn s o = .eff := by
            simp only [clsOf, hk]
            all_goals (split <;> first | rfl | (rename_i l m ha; first | exact absurd ha (ha1 l m) | exact absurd ha (ha2 l m)))
          simp only [dstep, hcls]
          rw [evalOp_eq] at h
          obtain ⟨out, h1, h⟩ := bind_inv h
          rw [h1]
          cases out with
          | ok t s1 =>
            simp only [Out.elim] at h
            obtain ⟨hw, h⟩ := stillSame_inv h
            simp only [Option.bind_some]
            rw [stillSame_mk hw]
            exact evalDraw_D h
          | pan v s1 =>
            simp only [Out.elim] at h
            simp only [Option.bind_some]
            split at h
            · rename_i hall
              rw [hall]; exact h
            · cases h
      · rename_i hk1 hk2 hk3
        have : dstep cx fn F ops bf os o j lg s = (stepOp cx fn F o s).bind (quiet o.dst lg) := by
          have hcls : clsOf cx fn s o = .pure ∨ (∃ l, clsOf cx fn s o = .site l) ∨ clsOf cx fn s o = .look := by
            unfold clsOf
            split
            · rename_i hc; exact absurd hc hk1
            · rename_i hc; exact absurd hc hk2
            · rename_i hc; exact absurd hc hk3
            · split
              · exact .inr (.inl ⟨_, rfl⟩)
              · split
                · exact .inl rfl
                · exact .inr (.inr rfl)
          rcases hcls with hc | ⟨l, hc⟩ | hc <;> simp only [dstep, hc]
        rw [this]
        exact hq _ h
end Go.Proofs.YtahbihcbidkbaaaGreat.Ev

/-
  The classes of steps: what each asks, what each turns.
-/
set_option linter.unusedVariables false
namespace Go.Proofs.YtahbihcbidkbaaaGreat.Ev
open Go

section
variable {cx : Ctx} {fn : FuncId} {F : Fns} {s : St} {o : Oper}

theorem value_ag {s s' : St} {x : Operand} (h : operand s' x = operand s x) : value s' x = value s x := by simp only [value, h]

theorem cls_ag {s' : St} (hag : Ag o s s') : clsOf cx fn s' o = clsOf cx fn s o := by
  obtain ⟨dst, op, ty, pos, af, gd⟩ := o
  unfold Ag at hag
  cases op with
  | load t a =>
    have h1 := hag a (by simp [Op.operands])
    simp only [clsOf, kindOf, h1]
  | convert src to x =>
    have h1 := value_ag (hag x (by simp [Op.operands]))
    simp only [clsOf, h1, aim, siteOf]
  | slice t x lo hi mx =>
    have h1 := value_ag (hag x (by simp [Op.operands]))
    have h2 : opt3 s' lo hi mx = opt3 s lo hi mx := by
      unfold opt3
      exact optK_congr (fun y hy => hag y (by simp [Op.operands, hy])) fun _ => optK_congr (fun y hy => hag y (by simp [Op.operands, hy])) fun _ => optK_congr (fun y hy => hag y (by simp [Op.operands, hy])) fun _ => rfl
    simp only [clsOf, kindOf, h1, h2]
  | store t a v =>
    have h1 := hag a (by simp [Op.operands])
    simp only [clsOf, aim, h1]
  | call c =>
    have h1 : aim s' ⟨dst, .call c, ty, pos, af, gd⟩ = aim s ⟨dst, .call c, ty, pos, af, gd⟩ := by
      simp only [aim]
      split
      · rename_i t0 t1 x y hap
        obtain ⟨_, _, _, hargs⟩ := appendOf_inv hap
        exact hag x (by simp [Op.operands, Call.operands, hargs])
      · rfl
    simp only [clsOf, h1]
  | _ => simp only [clsOf, aim]

theorem kind_of_cls_pure (h : clsOf cx fn s o = .pure) : kindOf cx.P (cx.locs fn) o = 0 ∧ siteOf (cx.locs fn) o = none := by
  unfold clsOf at h
  (repeat' split at h) <;> first | (cases h; done) | skip
  rename_i hs _ hk
  exact ⟨hk, hs⟩

theorem site_of_cls {l : Nat} (h : clsOf cx fn s o = .site l) : siteOf (cx.locs fn) o = some l := by
  unfold clsOf at h
  (repeat' split at h) <;> first | (cases h; done) | skip
  rename_i hs
  cases h
  exact hs

theorem stepOp_load {dst : Option Tmp} {ty : TypeId} {pos : String} {af : Array Edge} {gd : Option (Nat × Bool)} {t : TypeId} {a : Operand} {n : Nat} {agg : Bool} {ad : Tm} (h1 : tshape cx.P t = some (n, agg)) (h2 : operand s a = some ad) :
    stepOp cx fn F ⟨dst, .load t a, ty, pos, af, gd⟩ s = opLoad agg n s ad fun t s => some (.ok t s) := by simp only [stepOp, evalOp, h1, operandK, h2]

theorem rd_step {f : Heap → Option (List AV)} {g : List AV → Option Tm} (hc : clsOf cx fn s o = .rd f g) : stepOp cx fn F o s = (f s.h).bind fun xs => (g xs).bind fun t => some (.ok t s) := by
  obtain ⟨dst, op, ty, pos, af, gd⟩ := o
  unfold clsOf at hc
  split at hc
  · split at hc
    · rename_i t a hop
      simp only at hop
      subst hop
      split at hc
      · cases hc
      · rename_i n agg hsh
        split at hc
        · cases hc
        · rename_i b off hoa
          cases hc
          rw [stepOp_load hsh hoa]
          simp only [opLoad, asPtr]
          refine bind_congr' fun xs => ?_
          rw [valK_bind]; rfl
        · cases hc
    · cases hc
  · rename_i hk
    split at hc
    · rename_i src to x hop
      simp only at hop
      subst hop
      split at hc
      · rename_i e he
        split at hc
        · rename_i hu
          split at hc
          · rename_i v hv
            cases hc
            simp only [kindOf] at hk
            have hd : cx.P.underlying to = some .string := by
              rw [he] at hk
              split at hk <;> first | assumption | (cases hk; done)
            simp only [stepOp, evalOp, valueK, hv, opConvert, he, hd, hu, getV, opBytes]
            rw [Option.bind_assoc]
            refine bind_congr' fun cs => ?_
            rw [Option.bind_assoc, Option.bind_assoc]
            rfl
          · cases hc
        · cases hc
      · cases hc
    · rename_i t x lo hi mx hop
      simp only at hop
      subst hop
      split at hc
      · rename_i v a b c hv ho3
        cases hc
        have hlo : ∀ {ρ : Type} (k : Option AV → Option AV → Option AV → Option ρ), (optK s lo fun x => optK s hi fun y => optK s mx fun z => k x y z) = k a b c := by
          intro ρ k
          have : (optK s lo fun x => optK s hi fun y => optK s mx fun z => k x y z) = (opt3 s lo hi mx).bind fun q => k q.1 q.2.1 q.2.2 := by
            unfold opt3
            rw [optK_bind]
            refine optK_congr (fun _ _ => rfl) fun _ => ?_
            rw [optK_bind]
            refine optK_congr (fun _ _ => rfl) fun _ => ?_
            rw [optK_bind]
            exact optK_congr (fun _ _ => rfl) fun _ => rfl
          rw [this, ho3]; rfl
        simp only [stepOp, evalOp, valueK, hv]
        rw [hlo]
        simp only [getV]
        cases sliceA cx.P s.h t v a b c <;> rfl
      · cases hc
    · cases hc
  · (repeat' split at hc) <;> cases hc
  · (repeat' split at hc) <;> cases hc

theorem rl_step {l : Nat} (hc : clsOf cx fn s o = .rl l) {out : Out} (h : stepOp cx fn F o s = some out) : ∃ t c, out = .ok t s ∧ local? s l = some c ∧ ∀ s', Ag o s s' → local? s' l = some c → stepOp cx fn F o s' = some (.ok t s') := by
  obtain ⟨dst, op, ty, pos, af, gd⟩ := o
  unfold clsOf at hc
  split at hc
  · split at hc
    · rename_i t a hop
      simp only at hop
      subst hop
      split at hc
      · cases hc
      · rename_i n agg hsh
        split at hc
        · rename_i l' off hoa
          cases hc
          rw [stepOp_load hsh hoa] at h
          simp only [opLoad] at h
          split at h
          · rename_i cs hl
            obtain ⟨xs, hx, h⟩ := bind_inv h
            obtain ⟨v, h, hv⟩ := valK_inv h
            cases h
            refine ⟨_, cs, rfl, hl, fun s' hag hl' => ?_⟩
            have hoa' : operand s' a = some (.lptr l off) := (hag a (by simp [Op.operands])).trans hoa
            rw [stepOp_load hsh hoa']
            simp only [opLoad, hl', hx, Option.bind_some]
            have := valK_bind (fun v => some (Out.ok (Tm.val v) s')) agg n xs (some : AV → Option AV)
            rw [hv] at this
            exact this.symm
          · cases h
        · cases hc
        · cases hc
    · cases hc
  · (repeat' split at hc) <;> cases hc
  · (repeat' split at hc) <;> cases hc
  · (repeat' split at hc) <;> cases hc

theorem kind_le (P : Program) (locs : List Tmp) (o : Oper) : kindOf P locs o = 0 ∨ kindOf P locs o = 1 ∨ kindOf P locs o = 2 ∨ kindOf P locs o = 3 ∨ (kindOf P locs o = 4 ∧ ∃ t x i ok, o.op = .lookup t x i ok) := by
  obtain ⟨dst, op, ty, pos, af, gd⟩ := o
  cases op <;> simp only [kindOf] <;> first | (simp; done) | ((repeat' split) <;> simp)

theorem look_step (hc : clsOf cx fn s o = .look) {out : Out} (h : stepOp cx fn F o s = some out) : ∃ t, out = .ok t s ∧ ∀ s', Ag o s s' → s'.h = s.h → stepOp cx fn F o s' = some (.ok t s') := by
  have hk : kindOf cx.P (cx.locs fn) o = 4 ∧ ∃ t x i ok, o.op = .lookup t x i ok := by
    rcases kind_le cx.P (cx.locs fn) o with hk | hk | hk | hk | hk
    · simp only [clsOf, hk] at hc; split at hc <;> cases hc
    · simp only [clsOf, hk] at hc; (repeat' split at hc) <;> cases hc
    · simp only [clsOf, hk] at hc; (repeat' split at hc) <;> cases hc
    · simp only [clsOf, hk] at hc; (repeat' split at hc) <;> cases hc
    · exact hk
  obtain ⟨_, t, x, i, ok, hop⟩ := hk
  obtain ⟨dst, op, ty, pos, af, gd⟩ := o
  simp only at hop
  subst hop
  simp only [stepOp, evalOp] at h
  split at h
  · rename_i kt el hu
    obtain ⟨vx, h1, h⟩ := valueK_inv h
    obtain ⟨vi, h2, h⟩ := valueK_inv h
    obtain ⟨m, rfl, h⟩ := asMap_inv h
    obtain ⟨v, hv, h⟩ := bind_inv h
    cases ok with
    | true =>
      simp only at h
      obtain ⟨vs, rfl, hl, h⟩ := spT_inv h
      cases h
      refine ⟨_, rfl, fun s' hag hh => ?_⟩
      have h1' := value_ag (hag x (by simp [Op.operands]))
      have h2' := value_ag (hag i (by simp [Op.operands]))
      have key : ∀ (l : List AV) (k : List AV → Option Out), spL l.length l k = k l := by
        intro l
        induction l with
        | nil => intro k; rfl
        | cons a l ih => intro k; exact ih _
      simp only [stepOp, evalOp, hu, valueK, h1', h2', h1, h2, asMap, hh, hv, Option.bind_some]
      simp only [spT, ← hl, key]
    | false =>
      simp only at h
      cases h
      refine ⟨_, rfl, fun s' hag hh => ?_⟩
      have h1' := value_ag (hag x (by simp [Op.operands]))
      have h2' := value_ag (hag i (by simp [Op.operands]))
      simp only [stepOp, evalOp, hu, valueK, h1', h2', h1, h2, asMap, hh, hv, Option.bind_some]
  · cases h

/-- Which local variables an operation is led to. -/
def Led (o : Oper) (s : St) (l : Nat) : Prop := ∃ x ∈ o.op.operands.toList, (∃ n, operand s x = some (.lsl l n)) ∨ ∃ n, operand s x = some (.lptr l n)

theorem cls_aim {l : Nat} (hc : clsOf cx fn s o = .wl l) : ∃ n, aim s o = some (.lptr l n) := by
  unfold clsOf at hc
  split at hc
  · (repeat' split at hc) <;> cases hc
  · (repeat' split at hc) <;> cases hc
  · split at hc
    · cases hc
    · rename_i l' n ha; cases hc; exact ⟨n, ha⟩
    · cases hc
  · (repeat' split at hc) <;> cases hc

theorem cls_aimx {l : Nat} (hc : clsOf cx fn s o = .wx l) : ∃ n, aim s o = some (.lsl l n) := by
  unfold clsOf at hc
  split at hc
  · (repeat' split at hc) <;> cases hc
  · (repeat' split at hc) <;> cases hc
  · split at hc
    · rename_i l' n ha; cases hc; exact ⟨n, ha⟩
    · cases hc
    · cases hc
  · (repeat' split at hc) <;> cases hc

theorem wl_step {l : Nat} (hc : clsOf cx fn s o = .wl l) {out : Out} (h : stepOp cx fn F o s = some out) :
    ∃ t c c', out = .ok t { s with lc := s.lc.set l (some c') } ∧ local? s l = some c ∧ ∀ s', Ag o s s' → local? s' l = some c → stepOp cx fn F o s' = some (.ok t { s' with lc := s'.lc.set l (some c') }) := by
  obtain ⟨n, ha⟩ := cls_aim hc
  obtain ⟨dst, op, ty, pos, af, gd⟩ := o
  unfold aim at ha
  split at ha
  · rename_i t a x hop
    simp only at hop
    subst hop
    simp only [stepOp, evalOp] at h
    split at h
    · rename_i m agg hsh
      obtain ⟨ad, h1, h⟩ := operandK_inv h
      obtain ⟨v, h2, h⟩ := valueK_inv h
      rw [ha] at h1
      cases h1
      simp only [opStore] at h
      split at h
      · rename_i cs hl
        have hb : ∀ (s : St), (cellsK agg m v fun vs => (lay? cs n vs).bind fun cs' => spL cs.length cs' fun cs' => some (Out.ok (.val (.tup [])) { s with lc := s.lc.set l (some cs') })) =
            (cellsK agg m v fun vs => (lay? cs n vs).bind fun cs' => spL cs.length cs' some).bind fun cs' => some (Out.ok (.val (.tup [])) { s with lc := s.lc.set l (some cs') }) := by
          intro s
          rw [cellsK_bind]
          refine cellsK_congr fun vs => ?_
          rw [Option.bind_assoc]
          refine bind_congr' fun cs' => ?_
          rw [spL_bind]; rfl
        rw [hb] at h
        obtain ⟨cs', h3, h⟩ := bind_inv h
        cases h
        refine ⟨_, cs, cs', rfl, hl, fun s' hag hl' => ?_⟩
        have h1' : operand s' a = some (.lptr l n) := (hag a (by simp [Op.operands])).trans ha
        have h2' : value s' x = some v := (value_ag (hag x (by simp [Op.operands]))).trans h2
        simp only [stepOp, evalOp, hsh, operandK, h1', valueK, h2', opStore, hl']
        rw [hb, h3]; rfl
      · cases h
    · cases h
  · rename_i c hop
    simp only at hop
    subst hop
    split at ha
    · rename_i t0 t1 x y hap
      simp only [stepOp, evalOp, hap] at h
      obtain ⟨ad, h1, h⟩ := operandK_inv h
      obtain ⟨v, h2, h⟩ := operandK_inv h
      rw [ha] at h1
      cases h1
      simp [opAppendT] at h
    · cases ha
  · cases ha

theorem wx_step {l : Nat} (hc : clsOf cx fn s o = .wx l) {out : Out} (h : stepOp cx fn F o s = some out) :
    ∃ t c h1, out = .ok t { s with h := h1, lc := s.lc.set l none } ∧ local? s l = some c ∧ ∀ s', Ag o s s' → s'.h = s.h → local? s' l = some c → stepOp cx fn F o s' = some (.ok t { s' with h := h1, lc := s'.lc.set l none }) := by
  obtain ⟨n, ha⟩ := cls_aimx hc
  obtain ⟨dst, op, ty, pos, af, gd⟩ := o
  unfold aim at ha
  split at ha
  · rename_i t a x hop
    simp only at hop
    subst hop
    simp only [stepOp, evalOp] at h
    split at h
    · obtain ⟨ad, h1, h⟩ := operandK_inv h
      obtain ⟨v, h2, h⟩ := valueK_inv h
      rw [ha] at h1
      cases h1
      simp [opStore] at h
    · cases h
  · rename_i c hop
    simp only at hop
    subst hop
    split at ha
    · rename_i t0 t1 x y hap
      obtain ⟨_, _, _, hargs⟩ := appendOf_inv hap
      simp only [stepOp, evalOp, hap] at h
      obtain ⟨ad, h1, h⟩ := operandK_inv h
      obtain ⟨v, h2, h⟩ := operandK_inv h
      rw [ha] at h1
      cases h1
      simp only [opAppendT] at h
      split at h
      · rename_i cs e agg z hl hrow
        split at h
        · rename_i yv hb
          obtain ⟨r, hr, h⟩ := bind_inv h
          cases h
          refine ⟨_, cs, r.2, rfl, hl, fun s' hag hh hl' => ?_⟩
          have h1' : operand s' x = some (.lsl l n) := (hag x (by simp [Op.operands, Call.operands, hargs])).trans ha
          have h2' : operand s' y = some (.val yv) := (hag y (by simp [Op.operands, Call.operands, hargs])).trans h2
          simp only [stepOp, evalOp, hap, operandK, h1', h2', opAppendT, hl', hrow, hb, hh, hr, Option.bind_some]
        · cases h
      · cases h
    · cases ha
  · cases ha
end
end Go.Proofs.YtahbihcbidkbaaaGreat.Ev
