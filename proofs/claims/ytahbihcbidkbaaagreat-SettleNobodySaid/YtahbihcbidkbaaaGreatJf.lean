/-
  Steps that turn the heap.
-/
import Derived.Test.YtahbihcbidkbaaaGreatJe
set_option linter.unusedVariables false
namespace Go.Proofs.YtahbihcbidkbaaaGreat.Ev
open Go

section
variable {cx : Ctx} {fn : FuncId} {F : Fns} {s : St} {o : Oper}

theorem eff_of_cls (hc : clsOf cx fn s o = .eff) : kindOf cx.P (cx.locs fn) o = 3 ∧ (∀ l n, aim s o ≠ some (.lsl l n)) ∧ ∀ l n, aim s o ≠ some (.lptr l n) := by
  unfold clsOf at hc
  split at hc
  · (repeat' split at hc) <;> cases hc
  · (repeat' split at hc) <;> cases hc
  · rename_i hk
    split at hc
    · cases hc
    · cases hc
    · rename_i h1 h2
      exact ⟨hk, h1, h2⟩
  · (repeat' split at hc) <;> cases hc

/-- What a step that turns the heap comes to. -/
def EffP (cx : Ctx) (fn : FuncId) (F : Fns) (o : Oper) (s : St) (out : Out) : Prop :=
  (∃ t h1 d1, out = .ok t { s with h := h1, df := d1 } ∧ ∀ s', Ag o s s' → s'.h = s.h → s'.df = s.df → (∀ l, Led o s l → local? s' l = local? s l) → stepOp cx fn F o s' = some (.ok t { s' with h := h1, df := d1 })) ∨
  (∃ v h1, out = .pan v { s with h := h1 } ∧ ∀ s', Ag o s s' → s'.h = s.h → stepOp cx fn F o s' = some (.pan v { s' with h := h1 }))

theorem EffP.heap {t : Tm} {h1 : Heap} {out : Out} (h : out = .ok t { s with h := h1 }) (hs : ∀ s', Ag o s s' → s'.h = s.h → (∀ l, Led o s l → local? s' l = local? s l) → stepOp cx fn F o s' = some (.ok t { s' with h := h1 })) : EffP cx fn F o s out :=
  .inl ⟨t, h1, s.df, h, fun s' ha hh hd hl => by
    rw [hs s' ha hh hl]
    have : s' = { s' with df := s.df } := by cases s'; simp only at hd; rw [hd]
    rw [this]⟩

theorem eff_step (hno : noRecOp o = true) (hc : clsOf cx fn s o = .eff) {out : Out} (h : stepOp cx fn F o s = some out) : EffP cx fn F o s out := by
  obtain ⟨hk, hn1, hn2⟩ := eff_of_cls hc
  obtain ⟨dst, op, ty, pos, af, gd⟩ := o
  have hvA : ∀ {s' : St} {x : Operand}, Ag ⟨dst, op, ty, pos, af, gd⟩ s s' → x ∈ op.operands.toList → value s' x = value s x := fun ha hx => value_ag (ha _ hx)
  have hoA : ∀ {s' : St} {x : Operand}, Ag ⟨dst, op, ty, pos, af, gd⟩ s s' → x ∈ op.operands.toList → operand s' x = operand s x := fun ha hx => ha _ hx
  have hnv : ∀ (s' : St) (cs : List AV), localOf (cx.locs fn) dst = none → newVar (cx.locs fn) dst s' cs (fun t s => some (Out.ok t s)) = some (.ok (.val (.ptr (some (s'.h.next, 0)))) { s' with h := s'.h.push (.cells cs 1) }) := by
    intro s' cs h1
    simp [newVar, h1]
  cases op with
  | store t a v =>
    simp only [stepOp, evalOp] at h
    split at h
    · rename_i m agg hsh
      obtain ⟨ad, h1, h⟩ := operandK_inv h
      obtain ⟨x, h2, h⟩ := valueK_inv h
      cases ad with
      | undef => simp [opStore] at h
      | lsl l n => simp [opStore] at h
      | lptr l n => exact absurd h1 (hn2 l n)
      | val ad =>
        simp only [opStore] at h
        obtain ⟨b, off, rfl, h5⟩ := asPtr_inv h
        have hb : ∀ (s : St) (hh : Heap), (cellsK agg m x fun vs => (hh.wr b off vs).bind fun h => some (Out.ok (.val (.tup [])) { s with h })) = (cellsK agg m x fun vs => hh.wr b off vs).bind fun h => some (Out.ok (.val (.tup [])) { s with h }) := by
          intro s hh; rw [cellsK_bind]
        rw [hb] at h5
        obtain ⟨h', h3, h5⟩ := bind_inv h5
        cases h5
        refine EffP.heap rfl fun s' hag hh _ => ?_
        simp only [stepOp, evalOp, hsh, operandK, valueK, hoA hag (by simp [Op.operands] : a ∈ _), h1, hvA hag (by simp [Op.operands] : v ∈ _), h2, opStore, asPtr, hh]
        rw [hb, h3]; rfl
    · cases h
  | alloc t =>
    simp only [kindOf] at hk
    have hl : localOf (cx.locs fn) dst = none := by
      cases hx : localOf (cx.locs fn) dst with
      | none => rfl
      | some l => simp [hx] at hk
    simp only [stepOp, evalOp] at h
    split at h
    · rename_i z hz
      rw [hnv _ _ hl] at h
      cases h
      refine EffP.heap rfl fun s' hag hh _ => ?_
      simp only [stepOp, evalOp, hz]
      rw [hnv _ _ hl, hh]
    · cases h
  | box t y =>
    simp only [kindOf] at hk
    have hl : localOf (cx.locs fn) dst = none := by
      cases hx : localOf (cx.locs fn) dst with
      | none => rfl
      | some l => simp [hx] at hk
    simp only [stepOp, evalOp] at h
    split at h
    · rename_i n agg hsh
      obtain ⟨v, h1, h⟩ := valueK_inv h
      have hb : ∀ (s : St), cellsK agg n v (fun cs => newVar (cx.locs fn) dst s cs fun t s => some (Out.ok t s)) = (cellsK agg n v some).bind fun cs => newVar (cx.locs fn) dst s cs fun t s => some (Out.ok t s) := fun s => by rw [cellsK_bind]; rfl
      rw [hb] at h
      obtain ⟨cs, h2, h⟩ := bind_inv h
      rw [hnv _ _ hl] at h
      cases h
      refine EffP.heap rfl fun s' hag hh _ => ?_
      simp only [stepOp, evalOp, hsh, valueK, hvA hag (by simp [Op.operands] : y ∈ _), h1]
      rw [hb, h2, Option.bind_some, hnv _ _ hl, hh]
    · cases h
  | buildSlice t n ps =>
    simp only [kindOf] at hk
    have hl : localOf (cx.locs fn) dst = none := by
      cases hx : localOf (cx.locs fn) dst with
      | none => rfl
      | some l => simp [hx] at hk
    simp only [stepOp, evalOp, hl] at h
    split at h
    · rename_i qs hqs
      obtain ⟨r, hr, h⟩ := bind_inv h
      cases h
      refine EffP.heap rfl fun s' hag hh _ => ?_
      have : part2 s' ps.toList = some qs := by
        rw [← hqs]
        exact part2_congr fun x hx => hag x.2 (by simpa [Op.operands] using ⟨x.1, by simpa using hx⟩)
      simp only [stepOp, evalOp, hl, this, hh, hr, Option.bind_some]
    · cases h
  | convert src to x =>
    simp only [stepOp, evalOp] at h
    obtain ⟨v, h1, h⟩ := valueK_inv h
    simp only [kindOf] at hk
    split at hk
    · cases hk
    · rename_i e e1 e2
      unfold opConvert at h
      simp only [e1, e2] at h
      split at h
      · rename_i hu
        obtain ⟨r, hr, h⟩ := bind_inv h
        cases h
        refine EffP.heap rfl fun s' hag hh _ => ?_
        simp only [stepOp, evalOp, valueK, hvA hag (by simp [Op.operands] : x ∈ _), h1, opConvert, e1, e2, hu, hh, hr, Option.bind_some]
      · cases h
    · cases hk
  | makeMap t r =>
    cases r with
    | none =>
      simp only [stepOp, evalOp] at h
      cases h
      refine EffP.heap rfl fun s' hag hh _ => ?_
      simp only [stepOp, evalOp, hh]
    | some r => simp [stepOp, evalOp] at h
  | makeSlice t l c =>
    simp only [stepOp, evalOp] at h
    obtain ⟨a, h1, h⟩ := valueK_inv h
    obtain ⟨b, h2, h⟩ := valueK_inv h
    obtain ⟨k1, n1, rfl, h4⟩ := asI_inv h
    obtain ⟨k2, n2, rfl, h5⟩ := asI_inv h4
    obtain ⟨r, hr, h5⟩ := bind_inv h5
    cases h5
    refine EffP.heap rfl fun s' hag hh _ => ?_
    simp only [stepOp, evalOp, valueK, hvA hag (by simp [Op.operands] : l ∈ _), hvA hag (by simp [Op.operands] : c ∈ _), h1, h2, asI, hh, hr, Option.bind_some]
  | mapUpdate t m key y =>
    simp only [stepOp, evalOp] at h
    split at h
    · rename_i kt el hu
      obtain ⟨a, h1, h⟩ := valueK_inv h
      obtain ⟨b, h2, h⟩ := valueK_inv h
      obtain ⟨c, h3, h⟩ := valueK_inv h
      obtain ⟨mm, rfl, h5⟩ := asMap_inv h
      obtain ⟨r, hr, h5⟩ := bind_inv h5
      cases h5
      refine EffP.heap rfl fun s' hag hh _ => ?_
      simp only [stepOp, evalOp, hu, valueK, hvA hag (by simp [Op.operands] : m ∈ _), hvA hag (by simp [Op.operands] : key ∈ _), hvA hag (by simp [Op.operands] : y ∈ _), h1, h2, h3, asMap, hh, hr, Option.bind_some]
    · cases h
  | defer c =>
    simp only [stepOp, evalOp] at h
    split at h
    · rename_i g hc hargs
      obtain ⟨a, h1, h⟩ := valueK_inv h
      rcases asFn_inv h with ⟨f, x, z, rfl, h5⟩ | ⟨l, rfl, h5⟩
      · cases h5
        refine .inl ⟨_, s.h, _, rfl, fun s' hag hh hd _ => ?_⟩
        have hm : g ∈ (Op.defer c).operands.toList := by simp [Op.operands, Call.operands, hc]
        simp only [stepOp, evalOp, hc, hargs, valueK, hvA hag hm, h1, asFn, hd]
        rw [← hh]
      · cases h5
    · cases h
  | panic y =>
    simp only [stepOp, evalOp] at h
    obtain ⟨a, h1, h⟩ := valueK_inv h
    cases a <;> first | (simp [thrown] at h; done) | skip
    simp only [thrown] at h
    cases h
    refine .inr ⟨_, s.h, rfl, fun s' hag hh => ?_⟩
    simp only [stepOp, evalOp, valueK, hvA hag (by simp [Op.operands] : y ∈ _), h1, thrown]
    rw [← hh]
  | call c =>
    have hva : ∀ {s' : St}, Ag ⟨dst, .call c, ty, pos, af, gd⟩ s s' → values s' c.args.toList = values s c.args.toList := fun hag => values_congr fun x hx => hag x (by simp [Op.operands, Call.operands] at hx ⊢; exact .inr hx)
    simp only [stepOp, evalOp] at h
    split at h
    · rename_i t0 t1 x y hap
      obtain ⟨hb, h0, h1, hargs⟩ := appendOf_inv hap
      obtain ⟨tx, hx, h⟩ := operandK_inv h
      obtain ⟨ty', hy, h⟩ := operandK_inv h
      have hmx : x ∈ (Op.call c).operands.toList := by simp [Op.operands, Call.operands, hargs]
      have hmy : y ∈ (Op.call c).operands.toList := by simp [Op.operands, Call.operands, hargs]
      have haim : aim s ⟨dst, .call c, ty, pos, af, gd⟩ = some tx := by simp only [aim, hap]; exact hx
      cases tx with
      | undef => simp [opAppendT] at h
      | lptr l n => exact absurd haim (hn2 l n)
      | lsl l n => exact absurd haim (hn1 l n)
      | val xv =>
        cases ty' with
        | undef => simp [opAppendT] at h
        | lptr l n => simp [opAppendT] at h
        | val yv =>
          simp only [opAppendT] at h
          obtain ⟨r, hr, h⟩ := bind_inv h
          cases h
          refine EffP.heap rfl fun s' hag hh _ => ?_
          simp only [stepOp, evalOp, hap, operandK, hoA hag hmx, hoA hag hmy, hx, hy, opAppendT, hh, hr, Option.bind_some]
        | lsl l n =>
          simp only [opAppendT] at h
          split at h
          · rename_i cs e e' hl he he'
            obtain ⟨r, hr, h⟩ := bind_inv h
            cases h
            refine EffP.heap rfl fun s' hag hh hled => ?_
            have hl' : local? s' l = some cs := (hled l ⟨y, hmy, .inl ⟨n, hy⟩⟩).trans hl
            simp only [stepOp, evalOp, hap, operandK, hoA hag hmx, hoA hag hmy, hx, hy, opAppendT, hl', he, he', hh, hr, Option.bind_some]
          · cases h
    · rename_i hap
      unfold opCall at h
      split at h
      · cases h
      · rename_i args hargs
        split at h
        · rename_i b hb
          have hst : ∀ s', Ag ⟨dst, .call c, ty, pos, af, gd⟩ s s' → stepOp cx fn F ⟨dst, .call c, ty, pos, af, gd⟩ s' = opBuiltin cx.P s' b c.argTypes args (fun t s => some (.ok t s)) (fun v s => some (.pan v s)) := by
            intro s' hag
            simp only [stepOp, evalOp, hap, opCall, hva hag, hargs, hb]
          simp only [kindOf, hb] at hk
          cases b <;> first | (simp at hk; done) | (simp [noRecOp, hb] at hno; done) | skip
          all_goals
            simp only [opBuiltin] at h
          case append =>
            split at h
            · rename_i t0 t1 x y h0 h1
              obtain ⟨r, hr, h⟩ := bind_inv h
              cases h
              refine EffP.heap rfl fun s' hag hh _ => ?_
              rw [hst s' hag]
              simp only [opBuiltin, h0, h1, hh, hr, Option.bind_some]
            · cases h
          case copy =>
            split at h
            · rename_i t0 x y h0
              obtain ⟨r, hr, h⟩ := bind_inv h
              cases h
              refine EffP.heap rfl fun s' hag hh _ => ?_
              rw [hst s' hag]
              simp only [opBuiltin, h0, hh, hr, Option.bind_some]
            · cases h
          case clear =>
            split at h
            · rename_i t0 x h0
              obtain ⟨r, hr, h⟩ := bind_inv h
              cases h
              refine EffP.heap rfl fun s' hag hh _ => ?_
              rw [hst s' hag]
              simp only [opBuiltin, h0, hh, hr, Option.bind_some]
            · cases h
          case panic =>
            split at h
            · split at h
              · cases h
                refine .inr ⟨_, s.h, rfl, fun s' hag hh => ?_⟩
                rw [hst s' hag]
                simp only [opBuiltin]
                rw [← hh]
              · cases h
            · cases h
          all_goals cases h
        · rename_i g hb
          split at h
          · cases h
          · rename_i fv hg
            have hm : g ∈ (Op.call c).operands.toList := by simp [Op.operands, Call.operands, hb]
            have hst : ∀ s', Ag ⟨dst, .call c, ty, pos, af, gd⟩ s s' → stepOp cx fn F ⟨dst, .call c, ty, pos, af, gd⟩ s' =
                bindC (F.callV fv args s'.h) (fun v h => answer cx.P ty v fun v => some (.ok v { s' with h })) (fun v h => some (.pan v { s' with h })) := by
              intro s' hag
              simp only [stepOp, evalOp, hap, opCall, hva hag, hargs, hb, hvA hag hm, hg]
            rcases bindC_inv h with ⟨v, h', hcall, h5⟩ | ⟨v, h', hcall, h5⟩
            · have hb2 : ∀ s : St, (answer cx.P ty v fun v => some (Out.ok v s)) = (answer cx.P ty v some).bind fun t => some (Out.ok t s) := fun s => by rw [answer_bind]; rfl
              rw [hb2] at h5
              obtain ⟨t, h6, h5⟩ := bind_inv h5
              cases h5
              refine EffP.heap rfl fun s' hag hh _ => ?_
              rw [hst s' hag, hh, hcall]
              simp only [bindC]
              rw [hb2, h6]; rfl
            · cases h5
              refine .inr ⟨_, h', rfl, fun s' hag hh => ?_⟩
              rw [hst s' hag, hh, hcall]
              rfl
        · cases h
  | load t a => simp [kindOf] at hk
  | slice t x lo hi mx => simp [kindOf] at hk
  | lookup t x i ok => simp [kindOf] at hk
  | move y => simp [kindOf] at hk
  | assign y => simp [kindOf] at hk
  | pick c x y => simp [kindOf] at hk
  | build t ps => simp [kindOf] at hk
  | nilCheck y => simp [kindOf] at hk
  | binOp op t y z u => simp [kindOf] at hk
  | unOp op t y => simp [kindOf] at hk
  | makeInterface t y => simp [kindOf] at hk
  | makeFunc g x y => simp [kindOf] at hk
  | fieldAddr t y f => simp [kindOf] at hk
  | field t y f => simp [kindOf] at hk
  | indexAddr t y i => simp [kindOf] at hk
  | index t y i => simp [kindOf] at hk
  | typeAssert y t u ok => simp [kindOf] at hk
  | extract y i => simp [kindOf] at hk
  | _ => simp [stepOp, evalOp] at h
end
end Go.Proofs.YtahbihcbidkbaaaGreat.Ev

/-
  A step of a region whose order is open, as a record.
-/
set_option linter.unusedVariables false
namespace Go.Proofs.YtahbihcbidkbaaaGreat.Ev
open Go

/-- One step, from the wish on. -/
def orun (cx : Ctx) (fn : FuncId) (F : Fns) (ops : Array Oper) (bf : Array Nat) (os : List (Oper × Nat)) (o : Oper) (j : Nat) (lg : List Lg) (s : St) : Option DOut :=
  (wantedB ops o s).bind fun w => match w with
    | false => some (.ok (putT o.dst .undef s) lg)
    | true => dstep cx fn F ops bf os o j lg s

theorem evalD_cons (cx : Ctx) (fn : FuncId) (F : Fns) (ops : Array Oper) (bf : Array Nat) (k : Ex → St → R) (o : Oper) (j : Nat) (os : List (Oper × Nat)) (lg : List Lg) (s : St) :
    evalD cx fn F ops bf k ((o, j) :: os) lg s = (orun cx fn F ops bf os o j lg s).bind fun x => match x with
      | .ok s lg => evalD cx fn F ops bf k os lg s
      | .pan v s => k (.panic v) s := by
  simp only [evalD, orun]
  rw [Option.bind_assoc]
  refine bind_congr' fun b => ?_
  cases b <;> rfl

structure OpR where
  t : Tm
  lcU : Option (Nat × Option (List AV))
  hU : Option (Heap × List AV)
  exact : Bool
  rdq : Option ((Heap → Option (List AV)) × List AV)
  /-- which local variable is read by a load -/
  rlq : Option Nat
  /-- is a local variable written that was there -/
  wlq : Option Nat

def OpR.turn (r : OpR) (s : St) : St := { s with
  lc := match r.lcU with | some (l, c) => s.lc.set l c | none => s.lc
  h := match r.hU with | some (h, _) => h | none => s.h
  df := match r.hU with | some (_, d) => d | none => s.df }

def OpR.apply (r : OpR) (d : Option Tmp) (s : St) : St := putT d r.t (r.turn s)

def OpR.logs (r : OpR) (j : Nat) (s : St) : List Lg :=
  (match r.rdq with | some (f, xs) => [.rd j f xs] | none => []) ++ (match r.rlq with | some l => [.rl j l] | none => []) ++ (match r.wlq with | some l => [.wl j l] | none => []) ++
  (match r.hU with | some _ => [.ef j s.h] | none => [])

/-- What the log must let. -/
structure OpR.lets (bf : Array Nat) (r : OpR) (j : Nat) (lg : List Lg) : Prop where
  rd : ∀ f xs, r.rdq = some (f, xs) → WasP bf j f xs lg
  ef : ∀ h d, r.hU = some (h, d) → StillP bf j h lg
  wl : ∀ l, r.wlq = some l → AloneP bf j l true lg
  rl : ∀ l, r.rlq = some l → AloneP bf j l false lg

structure OpR.fits (r : OpR) (o : Oper) (s s' : St) : Prop where
  exact : r.exact = true → s'.h = s.h ∧ s'.df = s.df
  rd : ∀ f xs, r.rdq = some (f, xs) → f s'.h = some xs
  led : (r.exact = true ∨ r.wlq.isSome = true) → ∀ l, Led o s l → local? s' l = local? s l
  rl : ∀ l, r.rlq = some l → local? s' l = local? s l
  len : s'.lc.length = s.lc.length

/-- The temporaries that an operation asks for, its guard's among them. -/
def NA (ops : Array Oper) (o : Oper) (s s' : St) : Prop := Ag o s s' ∧ wantedB ops o s' = wantedB ops o s

def tmLeads (t : Tm) (l : Nat) : Prop := (∃ n, t = .lptr l n) ∨ ∃ n, t = .lsl l n

structure Valid (cx : Ctx) (fn : FuncId) (F : Fns) (ops : Array Oper) (bf : Array Nat) (o : Oper) (j : Nat) (s : St) (r : OpR) : Prop where
  again : ∀ s', NA ops o s s' → r.fits o s s' → (∀ l, siteOf (cx.locs fn) o = some l → leads l s'.tm = false) → ∀ lg os, r.lets bf j lg → orun cx fn F ops bf os o j lg s' = some (.ok (r.apply o.dst s') (r.logs j s' ++ lg))
  rd : ∀ f xs, r.rdq = some (f, xs) → f s.h = some xs
  kh : r.hU.isSome = true → kindOf cx.P (cx.locs fn) o = 3
  kx : r.exact = true → kindOf cx.P (cx.locs fn) o = 3 ∨ kindOf cx.P (cx.locs fn) o = 4
  kw : ∀ l, r.wlq = some l → kindOf cx.P (cx.locs fn) o = 3
  lcs : ∀ l c, r.lcU = some (l, c) → (r.wlq = some l ∧ Led o s l) ∨ (r.wlq = none ∧ siteOf (cx.locs fn) o = some l)
  rls : ∀ l, r.rlq = some l → Led o s l
  hx : r.hU.isSome = true → r.exact = true
  lds : ∀ l, tmLeads r.t l → Led o s l ∨ siteOf (cx.locs fn) o = some l
  ks : ∀ l, siteOf (cx.locs fn) o = some l → kindOf cx.P (cx.locs fn) o = 0

theorem leads_false {l : Nat} : ∀ {tm : List Tm}, leads l tm = false → ∀ t ∈ tm, ¬ tmLeads t l
  | [], _, t, h, _ => by cases h
  | x :: tm, h, t, ht, hl => by
    have hx : leads l tm = false ∧ ¬ tmLeads x l := by
      cases x with
      | lptr l' n =>
        simp only [leads] at h
        split at h
        · cases h
        · rename_i hb
          refine ⟨h, ?_⟩
          rintro (⟨m, hm⟩ | ⟨m, hm⟩) <;> cases hm
          rw [nbeq_self] at hb; cases hb
      | lsl l' n =>
        simp only [leads] at h
        split at h
        · cases h
        · rename_i hb
          refine ⟨h, ?_⟩
          rintro (⟨m, hm⟩ | ⟨m, hm⟩) <;> cases hm
          rw [nbeq_self] at hb; cases hb
      | undef => exact ⟨h, by rintro (⟨m, hm⟩ | ⟨m, hm⟩) <;> cases hm⟩
      | val a => exact ⟨h, by rintro (⟨m, hm⟩ | ⟨m, hm⟩) <;> cases hm⟩
    cases ht with
    | head => exact hx.2 hl
    | tail _ ht => exact leads_false hx.1 t ht hl

theorem leads_mk {l : Nat} : ∀ {tm : List Tm}, (∀ t ∈ tm, ¬ tmLeads t l) → leads l tm = false
  | [], _ => rfl
  | x :: tm, h => by
    have ih := leads_mk (l := l) (tm := tm) fun t ht => h t (List.mem_cons_of_mem _ ht)
    have hx := h x (by simp)
    cases x with
    | lptr l' n =>
      simp only [leads]
      have : l' ≠ l := by rintro rfl; exact hx (.inl ⟨n, rfl⟩)
      rw [nbeq_ne this]; exact ih
    | lsl l' n =>
      simp only [leads]
      have : l' ≠ l := by rintro rfl; exact hx (.inr ⟨n, rfl⟩)
      rw [nbeq_ne this]; exact ih
    | _ => simpa [leads] using ih

theorem forget_same {l : Nat} : ∀ {tm : List Tm}, leads l tm = false → forget l tm = tm
  | [], _ => rfl
  | x :: tm, h => by
    have hx := leads_false h x (by simp)
    have ht : leads l tm = false := leads_mk fun t ht => leads_false h t (List.mem_cons_of_mem _ ht)
    simp only [forget, forget_same ht]
    congr 1
    cases x with
    | lptr l' n =>
      have : l' ≠ l := by rintro rfl; exact hx (.inl ⟨n, rfl⟩)
      simp [nbeq_ne this]
    | lsl l' n =>
      have : l' ≠ l := by rintro rfl; exact hx (.inr ⟨n, rfl⟩)
      simp [nbeq_ne this]
    | _ => rfl

theorem not_led {o : Oper} {s : St} {l : Nat} (h : leads l s.tm = false) : ¬ Led o s l := by
  rintro ⟨x, hx, hl⟩
  cases x with
  | tmp i =>
    simp only [operand] at hl
    rcases hl with ⟨n, hn⟩ | ⟨n, hn⟩
    · exact leads_false h _ (List.mem_of_getElem? hn) (.inr ⟨n, rfl⟩)
    · exact leads_false h _ (List.mem_of_getElem? hn) (.inl ⟨n, rfl⟩)
  | const v =>
    rcases hl with ⟨n, hn⟩ | ⟨n, hn⟩ <;> (simp only [operand] at hn; split at hn <;> cases hn)
  | global g => rcases hl with ⟨n, hn⟩ | ⟨n, hn⟩ <;> cases hn
  | func f => rcases hl with ⟨n, hn⟩ | ⟨n, hn⟩ <;> cases hn

section
variable {cx : Ctx} {fn : FuncId} {F : Fns} {s : St} {o : Oper}

/-- What leads to a local variable comes of what led there. -/
theorem pure_leads (hc : clsOf cx fn s o = .pure) {t : Tm} {s1 : St} (h : stepOp cx fn F o s = some (.ok t s1)) {l : Nat} (hl : tmLeads t l) : Led o s l := by
  obtain ⟨hk, hs⟩ := kind_of_cls_pure hc
  have vno : ∀ v, ¬ tmLeads (.val v) l := by rintro v (⟨n, hn⟩ | ⟨n, hn⟩) <;> cases hn
  have mk : ∀ x ∈ o.op.operands.toList, ∀ u, operand s x = some u → tmLeads u l → Led o s l := by
    rintro x hx u hu (⟨n, rfl⟩ | ⟨n, rfl⟩)
    · exact ⟨x, hx, .inr ⟨n, hu⟩⟩
    · exact ⟨x, hx, .inl ⟨n, hu⟩⟩
  have addL : ∀ {n : Nat} {u : Tm}, addT n u (fun t => some (Out.ok t s)) = some (Out.ok t s1) → tmLeads u l := by
    intro n u hu
    cases u with
    | lptr l' off =>
      simp only [addT] at hu
      cases hu
      rcases hl with ⟨m, hm⟩ | ⟨m, hm⟩
      · cases hm; exact .inl ⟨off, rfl⟩
      · cases hm
    | val a =>
      simp only [addT] at hu
      obtain ⟨b, off, _, hu⟩ := asPtr_inv hu
      cases hu
      exact absurd hl (vno _)
    | undef => simp [addT] at hu
    | lsl l' n => simp [addT] at hu
  obtain ⟨dst, op, ty, pos, af, gd⟩ := o
  unfold stepOp at h
  cases op with
  | move y => obtain ⟨u, h1, h⟩ := operandK_inv h; cases h; exact mk y (by simp [Op.operands]) _ h1 hl
  | assign y => obtain ⟨u, h1, h⟩ := operandK_inv h; cases h; exact mk y (by simp [Op.operands]) _ h1 hl
  | pick c x y =>
    obtain ⟨c', h1, h⟩ := valueK_inv h
    obtain ⟨x', h2, h⟩ := operandK_inv h
    obtain ⟨y', h3, h⟩ := operandK_inv h
    obtain ⟨b, rfl, h5⟩ := asB_inv h
    cases b
    · cases h5; exact mk y (by simp [Op.operands]) _ h3 hl
    · cases h5; exact mk x (by simp [Op.operands]) _ h2 hl
  | build t ps =>
    simp only [evalOp] at h
    split at h
    · rename_i qs z pl _ _ _
      have hb : buildK pl qs z (fun cs => some (Out.ok (.val (.agg cs)) s)) = (buildK pl qs z some).bind fun cs => some (Out.ok (.val (.agg cs)) s) := by rw [buildK_bind]; rfl
      rw [hb] at h
      obtain ⟨cs, _, h⟩ := bind_inv h
      cases h; exact absurd hl (vno _)
    · cases h
  | nilCheck y =>
    obtain ⟨u, h1, h⟩ := operandK_inv h
    split at h
    · obtain ⟨h5, _⟩ := notNil_inv h
      cases h5; exact absurd hl (vno _)
    · cases h; exact mk y (by simp [Op.operands]) _ h1 hl
    · cases h
  | binOp op t y z u =>
    cases op <;>
    · obtain ⟨_, _, h⟩ := valueK_inv h
      obtain ⟨_, _, h⟩ := valueK_inv h
      obtain ⟨_, _, h⟩ := getV_inv h
      cases h; exact absurd hl (vno _)
  | unOp op t y => obtain ⟨_, _, h⟩ := valueK_inv h; obtain ⟨_, _, h⟩ := getV_inv h; cases h; exact absurd hl (vno _)
  | convert a b y =>
    obtain ⟨v, h1, h⟩ := valueK_inv h
    unfold opConvert at h
    (repeat' split at h) <;> first
      | (cases h; done)
      | (obtain ⟨_, _, h⟩ := getV_inv h; cases h; exact absurd hl (vno _))
      | (obtain ⟨_, _, h⟩ := bind_inv h; cases h; exact absurd hl (vno _))
  | makeInterface t y =>
    simp only [evalOp] at h
    (repeat' split at h) <;> first | (cases h; done) | (obtain ⟨_, _, h⟩ := valueK_inv h; cases h; exact absurd hl (vno _))
  | makeFunc g x y =>
    cases g with
    | func g =>
      simp only [evalOp] at h
      split at h
      · cases h; exact absurd hl (vno _)
      · cases h
    | _ => simp [evalOp] at h
  | fieldAddr t y f =>
    simp only [evalOp] at h
    split at h
    · obtain ⟨u, h1, h⟩ := operandK_inv h
      exact mk y (by simp [Op.operands]) _ h1 (addL h)
    · cases h
  | field t y f => obtain ⟨_, _, h⟩ := valueK_inv h; obtain ⟨_, _, h⟩ := getV_inv h; cases h; exact absurd hl (vno _)
  | indexAddr t y i =>
    obtain ⟨x, h1, h⟩ := operandK_inv h
    obtain ⟨j, h2, h⟩ := valueK_inv h
    obtain ⟨kk, n, rfl, h5⟩ := asI_inv h
    unfold opIndexAddr at h5
    split at h5
    · split at h5
      · obtain ⟨_, _, h5⟩ := inArr_inv h5
        exact mk y (by simp [Op.operands]) _ h1 (addL h5)
      · cases h5
    · split at h5
      · obtain ⟨b, off, poff, len, cap, _, _, _, h5⟩ := elemP_inv h5
        cases h5; exact absurd hl (vno _)
      · cases h5
    · cases h5
  | index t y i => obtain ⟨_, _, h⟩ := valueK_inv h; obtain ⟨_, _, h⟩ := valueK_inv h; obtain ⟨_, _, h⟩ := getV_inv h; cases h; exact absurd hl (vno _)
  | typeAssert y t u ok =>
    obtain ⟨_, _, h⟩ := valueK_inv h
    obtain ⟨_, _, h⟩ := bind_inv h
    cases ok
    · cases h; exact absurd hl (vno _)
    · obtain ⟨_, _, _, h⟩ := spT_inv h; cases h; exact absurd hl (vno _)
  | extract y i =>
    obtain ⟨_, _, h⟩ := valueK_inv h
    (repeat' split at h) <;> first | (cases h; done) | (cases h; exact absurd hl (vno _))
  | call c =>
    simp only [kindOf] at hk
    simp only [evalOp] at h
    split at h
    · rename_i hap
      obtain ⟨hb, _⟩ := appendOf_inv hap
      simp [hb] at hk
    · unfold opCall at h
      split at h
      · cases h
      · split at h
        · rename_i b hb
          cases b <;> first | (simp [hb] at hk; done) | skip
          all_goals
            simp only [opBuiltin] at h
            split at h
            · obtain ⟨_, _, h⟩ := getV_inv h
              cases h; exact absurd hl (vno _)
            · cases h
        · rename_i hb; simp [hb] at hk
        · cases h
  | alloc t => simp only [kindOf] at hk; simp only [siteOf] at hs; simp [hs] at hk
  | box t y => simp only [kindOf] at hk; simp only [siteOf] at hs; simp [hs] at hk
  | buildSlice t n ps => simp only [kindOf] at hk; simp only [siteOf] at hs; simp [hs] at hk
  | _ => simp [kindOf] at hk
end
end Go.Proofs.YtahbihcbidkbaaaGreat.Ev

/-
  Each step of a region whose order is open has its record.
-/
set_option linter.unusedVariables false
namespace Go.Proofs.YtahbihcbidkbaaaGreat.Ev
open Go

section
variable {cx : Ctx} {fn : FuncId} {F : Fns} {s : St} {o : Oper} {ops : Array Oper} {bf : Array Nat} {j : Nat}

theorem site_kind {P : Program} {locs : List Tmp} {l : Nat} (h : siteOf locs o = some l) : kindOf P locs o = 0 := by
  obtain ⟨dst, op, ty, pos, af, gd⟩ := o
  cases op <;> simp only [siteOf] at h <;> first | (cases h; done) | simp [kindOf, h]

/-- What does not ask for operands alone gives a value. -/
theorem val_step (hk : kindOf cx.P (cx.locs fn) o ≠ 0) {t : Tm} {s1 : St} (h : stepOp cx fn F o s = some (.ok t s1)) : ∃ v, t = .val v := by
  obtain ⟨dst, op, ty, pos, af, gd⟩ := o
  have hnv : ∀ {cs : List AV}, localOf (cx.locs fn) dst = none → newVar (cx.locs fn) dst s cs (fun t s => some (Out.ok t s)) = some (.ok t s1) → ∃ v, t = .val v := by
    intro cs h1 h2
    unfold newVar at h2
    rw [h1] at h2
    cases h2; exact ⟨_, rfl⟩
  unfold stepOp at h
  cases op with
  | load t a =>
    simp only [evalOp] at h
    split at h
    · obtain ⟨ad, _, h⟩ := operandK_inv h
      unfold opLoad at h
      split at h
      · split at h
        · obtain ⟨_, _, h⟩ := bind_inv h
          obtain ⟨_, h, _⟩ := valK_inv h
          cases h; exact ⟨_, rfl⟩
        · cases h
      · obtain ⟨_, _, _, h⟩ := asPtr_inv h
        obtain ⟨_, _, h⟩ := bind_inv h
        obtain ⟨_, h, _⟩ := valK_inv h
        cases h; exact ⟨_, rfl⟩
      · cases h
    · cases h
  | store t a v =>
    simp only [evalOp] at h
    split at h
    · obtain ⟨ad, _, h⟩ := operandK_inv h
      obtain ⟨_, _, h⟩ := valueK_inv h
      unfold opStore at h
      split at h
      · split at h
        · obtain ⟨_, h, _⟩ := cellsK_inv h
          obtain ⟨_, _, h⟩ := bind_inv h
          obtain ⟨_, h⟩ := spL_inv h
          cases h; exact ⟨_, rfl⟩
        · cases h
      · obtain ⟨_, _, _, h⟩ := asPtr_inv h
        obtain ⟨_, h, _⟩ := cellsK_inv h
        obtain ⟨_, _, h⟩ := bind_inv h
        cases h; exact ⟨_, rfl⟩
      · cases h
    · cases h
  | alloc t =>
    simp only [kindOf] at hk
    have hl : localOf (cx.locs fn) dst = none := by
      cases hx : localOf (cx.locs fn) dst with
      | none => rfl
      | some l => simp [hx] at hk
    simp only [evalOp] at h
    split at h
    · exact hnv hl h
    · cases h
  | box t y =>
    simp only [kindOf] at hk
    have hl : localOf (cx.locs fn) dst = none := by
      cases hx : localOf (cx.locs fn) dst with
      | none => rfl
      | some l => simp [hx] at hk
    simp only [evalOp] at h
    split at h
    · obtain ⟨_, _, h⟩ := valueK_inv h
      obtain ⟨_, h, _⟩ := cellsK_inv h
      exact hnv hl h
    · cases h
  | buildSlice t n ps =>
    simp only [kindOf] at hk
    have hl : localOf (cx.locs fn) dst = none := by
      cases hx : localOf (cx.locs fn) dst with
      | none => rfl
      | some l => simp [hx] at hk
    simp only [evalOp, hl] at h
    split at h
    · obtain ⟨_, _, h⟩ := bind_inv h
      cases h; exact ⟨_, rfl⟩
    · cases h
  | convert a b y =>
    obtain ⟨v, h1, h⟩ := valueK_inv h
    unfold opConvert at h
    (repeat' split at h) <;> first
      | (cases h; done)
      | (obtain ⟨_, _, h⟩ := getV_inv h; cases h; exact ⟨_, rfl⟩)
      | (obtain ⟨_, _, h⟩ := bind_inv h; cases h; exact ⟨_, rfl⟩)
  | makeMap t r =>
    cases r with
    | none => simp only [evalOp] at h; cases h; exact ⟨_, rfl⟩
    | some r => simp [evalOp] at h
  | makeSlice t l c =>
    obtain ⟨_, _, h⟩ := valueK_inv h
    obtain ⟨_, _, h⟩ := valueK_inv h
    obtain ⟨_, _, _, h4⟩ := asI_inv h
    obtain ⟨_, _, _, h5⟩ := asI_inv h4
    obtain ⟨_, _, h6⟩ := bind_inv h5
    cases h6; exact ⟨_, rfl⟩
  | mapUpdate t m key y =>
    simp only [evalOp] at h
    split at h
    · obtain ⟨_, _, h⟩ := valueK_inv h
      obtain ⟨_, _, h⟩ := valueK_inv h
      obtain ⟨_, _, h⟩ := valueK_inv h
      obtain ⟨_, _, h4⟩ := asMap_inv h
      obtain ⟨_, _, h5⟩ := bind_inv h4
      cases h5; exact ⟨_, rfl⟩
    · cases h
  | slice t y lo hi mx =>
    obtain ⟨_, _, h⟩ := valueK_inv h
    obtain ⟨_, h, _⟩ := optK_inv h
    obtain ⟨_, h, _⟩ := optK_inv h
    obtain ⟨_, h, _⟩ := optK_inv h
    obtain ⟨_, _, h⟩ := getV_inv h
    cases h; exact ⟨_, rfl⟩
  | lookup t y i ok =>
    simp only [evalOp] at h
    split at h
    · obtain ⟨_, _, h⟩ := valueK_inv h
      obtain ⟨_, _, h⟩ := valueK_inv h
      obtain ⟨_, _, h4⟩ := asMap_inv h
      obtain ⟨_, _, h5⟩ := bind_inv h4
      cases ok
      · cases h5; exact ⟨_, rfl⟩
      · obtain ⟨_, _, _, h6⟩ := spT_inv h5; cases h6; exact ⟨_, rfl⟩
    · cases h
  | defer c =>
    simp only [evalOp] at h
    split at h
    · obtain ⟨a, _, h⟩ := valueK_inv h
      rcases asFn_inv h with ⟨f, x, z, _, h5⟩ | ⟨l, _, h5⟩
      · cases h5; exact ⟨_, rfl⟩
      · cases h5
    · cases h
  | panic y =>
    obtain ⟨a, _, h⟩ := valueK_inv h
    cases a <;> simp [thrown] at h
  | call c =>
    simp only [evalOp] at h
    split at h
    · obtain ⟨tx, _, h⟩ := operandK_inv h
      obtain ⟨ty', _, h⟩ := operandK_inv h
      unfold opAppendT at h
      (repeat' split at h) <;> first | (cases h; done) | (obtain ⟨_, _, h⟩ := bind_inv h; cases h; exact ⟨_, rfl⟩)
    · unfold opCall at h
      split at h
      · cases h
      · split at h
        · rename_i b hb
          cases b <;> simp only [opBuiltin] at h <;> first
            | (cases h; done)
            | ((repeat' split at h) <;> first
                | (cases h; done)
                | (obtain ⟨_, _, h⟩ := getV_inv h; cases h; exact ⟨_, rfl⟩)
                | (obtain ⟨_, _, h⟩ := bind_inv h; cases h; exact ⟨_, rfl⟩))
            | (unfold recK at h; (repeat' split at h) <;> first | (cases h; done) | (cases h; exact ⟨_, rfl⟩))
        · split at h
          · cases h
          · rcases bindC_inv h with ⟨v, h', _, h5⟩ | ⟨v, h', _, h5⟩
            · have h6 := answer_inv h5
              cases h6; exact ⟨_, rfl⟩
            · cases h5
        · cases h
  | move y => simp [kindOf] at hk
  | assign y => simp [kindOf] at hk
  | pick c x y => simp [kindOf] at hk
  | build t ps => simp [kindOf] at hk
  | nilCheck y => simp [kindOf] at hk
  | binOp op t y z u => simp [kindOf] at hk
  | unOp op t y => simp [kindOf] at hk
  | makeInterface t y => simp [kindOf] at hk
  | makeFunc g x y => simp [kindOf] at hk
  | fieldAddr t y f => simp [kindOf] at hk
  | field t y f => simp [kindOf] at hk
  | indexAddr t y i => simp [kindOf] at hk
  | index t y i => simp [kindOf] at hk
  | typeAssert y t u ok => simp [kindOf] at hk
  | extract y i => simp [kindOf] at hk
  | _ => simp [evalOp] at h

theorem cls_kind : (∀ f g, clsOf cx fn s o = .rd f g → kindOf cx.P (cx.locs fn) o ≠ 0) ∧ (∀ l, clsOf cx fn s o = .rl l → kindOf cx.P (cx.locs fn) o ≠ 0) ∧ (clsOf cx fn s o = .look → kindOf cx.P (cx.locs fn) o = 4) ∧
    (∀ l, clsOf cx fn s o = .wl l → kindOf cx.P (cx.locs fn) o = 3) ∧ (∀ l, clsOf cx fn s o = .wx l → kindOf cx.P (cx.locs fn) o = 3) := by
  rcases kind_le cx.P (cx.locs fn) o with hk | hk | hk | hk | ⟨hk, _⟩ <;> simp only [clsOf, hk] <;> refine ⟨?_, ?_, ?_, ?_, ?_⟩ <;> intros <;> first | (simp; done) | ((repeat' split at *) <;> first | (rename_i hh; cases hh; done) | simp_all)

theorem led_aim {n l : Nat} (h : aim s o = some (.lptr l n) ∨ aim s o = some (.lsl l n)) : Led o s l := by
  obtain ⟨dst, op, ty, pos, af, gd⟩ := o
  have fin : ∀ x ∈ op.operands.toList, (operand s x = some (.lptr l n) ∨ operand s x = some (.lsl l n)) → Led ⟨dst, op, ty, pos, af, gd⟩ s l := by
    rintro x hx (hh | hh)
    · exact ⟨x, hx, .inr ⟨n, hh⟩⟩
    · exact ⟨x, hx, .inl ⟨n, hh⟩⟩
  unfold aim at h
  simp only at h
  split at h
  · rename_i t a v
    exact fin a (by simp [Op.operands]) h
  · rename_i c
    split at h
    · rename_i t0 t1 x y hap
      obtain ⟨_, _, _, hargs⟩ := appendOf_inv hap
      exact fin x (by simp [Op.operands, Call.operands, hargs]) h
    · rcases h with h | h <;> cases h
  · rcases h with h | h <;> cases h

theorem rl_led {l : Nat} (hc : clsOf cx fn s o = .rl l) : Led o s l := by
  obtain ⟨dst, op, ty, pos, af, gd⟩ := o
  unfold clsOf at hc
  split at hc
  · split at hc
    · rename_i t a hop
      simp only at hop
      subst hop
      split at hc
      · cases hc
      · split at hc
        · rename_i l' off hoa
          cases hc
          exact ⟨a, by simp [Op.operands], .inr ⟨off, hoa⟩⟩
        · cases hc
        · cases hc
    · cases hc
  · (repeat' split at hc) <;> cases hc
  · (repeat' split at hc) <;> cases hc
  · (repeat' split at hc) <;> cases hc
end
end Go.Proofs.YtahbihcbidkbaaaGreat.Ev

/-
  Each step of a region whose order is open has its record: the record.
-/
set_option linter.unusedVariables false
namespace Go.Proofs.YtahbihcbidkbaaaGreat.Ev
open Go

section
variable {cx : Ctx} {fn : FuncId} {F : Fns} {s : St} {o : Oper} {ops : Array Oper} {bf : Array Nat} {j : Nat} {lg lg1 : List Lg} {s1 : St} {os : List (Oper × Nat)}

theorem st_eq (s : St) : ({ s with lc := s.lc, h := s.h, df := s.df } : St) = s := rfl

theorem dummy_lets {r : OpR} (h1 : r.rdq = none) (h2 : r.hU = none) (h3 : r.wlq = none) (h4 : r.rlq = none) : r.lets bf j lg :=
  ⟨(fun f xs h => by rw [h1] at h; cases h), (fun h d hh => by rw [h2] at hh; cases hh), (fun l h => by rw [h3] at h; cases h), (fun l h => by rw [h4] at h; cases h)⟩

theorem val_noleads {v : AV} {l : Nat} : ¬ tmLeads (.val v) l := by rintro (⟨n, hn⟩ | ⟨n, hn⟩) <;> cases hn

theorem orun_valid (hno : noRecOp o = true) (hsf : ∀ l, siteOf (cx.locs fn) o = some l → leads l s.tm = false) (h : orun cx fn F ops bf os o j lg s = some (.ok s1 lg1)) :
    ∃ r, Valid cx fn F ops bf o j s r ∧ r.lets bf j lg ∧ s1 = r.apply o.dst s ∧ lg1 = r.logs j s ++ lg := by
  unfold orun at h
  obtain ⟨w, hw, h⟩ := bind_inv h
  have hks : ∀ l, siteOf (cx.locs fn) o = some l → kindOf cx.P (cx.locs fn) o = 0 := fun l hl => site_kind hl
  cases w with
  | false =>
    simp only at h
    cases h
    refine ⟨⟨.undef, none, none, false, none, none, none⟩, ⟨?_, by simp, by simp, by simp, by simp, by simp, by simp, by simp, ?_, hks⟩, dummy_lets rfl rfl rfl rfl, rfl, rfl⟩
    · intro s' hn hf _ lg' os' hl
      unfold orun
      rw [hn.2, hw]
      rfl
    · rintro l (⟨n, hn⟩ | ⟨n, hn⟩) <;> cases hn
  | true =>
    simp only at h
    have run : ∀ s', NA ops o s s' → ∀ lg' os', orun cx fn F ops bf os' o j lg' s' = dstep cx fn F ops bf os' o j lg' s' := by
      intro s' hn lg' os'
      unfold orun
      rw [hn.2, hw]
      rfl
    cases hc : clsOf cx fn s o with
    | bad => simp only [dstep, hc] at h; cases h
    | pure =>
      simp only [dstep, hc] at h
      obtain ⟨out, h1, h⟩ := bind_inv h
      obtain ⟨hk, hs⟩ := kind_of_cls_pure hc
      obtain ⟨t, rfl, h2⟩ := pure_step hk hs h1
      cases h
      refine ⟨⟨t, none, none, false, none, none, none⟩, ⟨?_, by simp, by simp, by simp, by simp, by simp, by simp, by simp, fun l hl => .inl (pure_leads hc h1 hl), hks⟩, dummy_lets rfl rfl rfl rfl, rfl, rfl⟩
      intro s' hn hf _ lg' os' hl
      rw [run s' hn, dstep, cls_ag hn.1, hc]
      simp only [h2 s' hn.1, Option.bind_some, quiet]
      rfl
    | site l =>
      simp only [dstep, hc] at h
      obtain ⟨out, h1, h⟩ := bind_inv h
      have hs := site_of_cls hc
      obtain ⟨t, cs, rfl, ht, hlt, h2⟩ := site_step hs h1
      simp only [quiet] at h
      cases h
      refine ⟨⟨t, some (l, some cs), none, false, none, none, none⟩, ⟨?_, by simp, by simp, by simp, by simp, ?_, by simp, by simp, ?_, hks⟩, dummy_lets rfl rfl rfl rfl, ?_, rfl⟩
      · intro s' hn hf hsf' lg' os' hl
        rw [run s' hn, dstep, cls_ag hn.1, hc]
        simp only [h2 s' hn.1 (by rw [hf.len]; exact hlt), Option.bind_some, quiet]
        rw [forget_same (hsf' l hs)]
        rfl
      · intro l' c hh
        simp only [Option.some.injEq, Prod.mk.injEq] at hh
        obtain ⟨rfl, _⟩ := hh
        exact .inr ⟨rfl, hs⟩
      · intro l' hl'
        simp only at hl'
        right
        rcases ht with rfl | ⟨n, rfl⟩
        · rcases hl' with ⟨m, hm⟩ | ⟨m, hm⟩ <;> cases hm
          exact hs
        · rcases hl' with ⟨m, hm⟩ | ⟨m, hm⟩ <;> cases hm
          exact hs
      · rw [forget_same (hsf l hs)]; rfl
    | look =>
      simp only [dstep, hc] at h
      obtain ⟨out, h1, h⟩ := bind_inv h
      obtain ⟨t, rfl, h2⟩ := look_step hc h1
      have hk := cls_kind.2.2.1 hc
      obtain ⟨v, rfl⟩ := val_step (by rw [hk]; decide) h1
      cases h
      refine ⟨⟨.val v, none, none, true, none, none, none⟩, ⟨?_, by simp, by simp, fun _ => .inr hk, by simp, by simp, by simp, by simp, fun l hl => absurd hl val_noleads, hks⟩, dummy_lets rfl rfl rfl rfl, rfl, rfl⟩
      intro s' hn hf _ lg' os' hl
      rw [run s' hn, dstep, cls_ag hn.1, hc]
      simp only [h2 s' hn.1 (hf.exact rfl).1, Option.bind_some, quiet]
      rfl
    | rd f g =>
      simp only [dstep, hc] at h
      obtain ⟨xs, hx, h⟩ := bind_inv h
      obtain ⟨hwas, h⟩ := wasSame_inv h
      obtain ⟨t, ht, h⟩ := bind_inv h
      cases h
      have hst : stepOp cx fn F o s = some (.ok t s) := by rw [rd_step hc, hx]; simp [ht]
      obtain ⟨v, rfl⟩ := val_step (cls_kind.1 f g hc) hst
      refine ⟨⟨.val v, none, none, false, some (f, xs), none, none⟩, ⟨?_, ?_, by simp, by simp, by simp, by simp, by simp, by simp, fun l hl => absurd hl val_noleads, hks⟩, ⟨?_, by simp, by simp, by simp⟩, rfl, rfl⟩
      · intro s' hn hf _ lg' os' hl
        rw [run s' hn, dstep, cls_ag hn.1, hc]
        simp only [hf.rd f xs rfl, Option.bind_some]
        rw [wasSame_mk (hl.rd f xs rfl), ht]
        rfl
      · intro f' xs' hh; cases hh; exact hx
      · intro f' xs' hh; cases hh; exact hwas
    | rl l =>
      simp only [dstep, hc] at h
      split at h
      · rename_i hal
        obtain ⟨out, h1, h⟩ := bind_inv h
        obtain ⟨t, c, rfl, hl, h2⟩ := rl_step hc h1
        obtain ⟨v, rfl⟩ := val_step (cls_kind.2.1 l hc) h1
        cases h
        refine ⟨⟨.val v, none, none, false, none, some l, none⟩, ⟨?_, by simp, by simp, by simp, by simp, by simp, ?_, by simp, fun l hl => absurd hl val_noleads, hks⟩, ⟨by simp, by simp, by simp, ?_⟩, rfl, rfl⟩
        · intro s' hn hf _ lg' os' hlets
          rw [run s' hn, dstep, cls_ag hn.1, hc]
          simp only [aloneL_iff.2 (hlets.rl l rfl), h2 s' hn.1 ((hf.rl l rfl).trans hl), Option.bind_some, quiet]
          rfl
        · intro l' hh; cases hh; exact rl_led hc
        · intro l' hh; cases hh; exact aloneL_iff.1 hal
      · cases h
    | wl l =>
      simp only [dstep, hc] at h
      split at h
      · rename_i hal
        obtain ⟨out, h1, h⟩ := bind_inv h
        obtain ⟨t, c, c', rfl, hl, h2⟩ := wl_step hc h1
        have hk := cls_kind.2.2.2.1 l hc
        obtain ⟨v, rfl⟩ := val_step (by rw [hk]; decide) h1
        obtain ⟨n, ha⟩ := cls_aim hc
        have hled : Led o s l := led_aim (.inl ha)
        cases h
        refine ⟨⟨.val v, some (l, some c'), none, false, none, none, some l⟩, ⟨?_, by simp, by simp, by simp, fun _ _ => hk, ?_, by simp, by simp, fun l hl => absurd hl val_noleads, hks⟩, ⟨by simp, by simp, ?_, by simp⟩, rfl, rfl⟩
        · intro s' hn hf _ lg' os' hlets
          rw [run s' hn, dstep, cls_ag hn.1, hc]
          simp only [aloneL_iff.2 (hlets.wl l rfl), h2 s' hn.1 ((hf.led (.inr rfl) l hled).trans hl), Option.bind_some, quiet]
          rfl
        · intro l' c2 hh
          simp only [Option.some.injEq, Prod.mk.injEq] at hh
          obtain ⟨rfl, _⟩ := hh
          exact .inl ⟨rfl, hled⟩
        · intro l' hh; cases hh; exact aloneL_iff.1 hal
      · cases h
    | wx l =>
      simp only [dstep, hc] at h
      split at h
      · rename_i hal
        obtain ⟨out, h1, h⟩ := bind_inv h
        obtain ⟨t, c, hh1, rfl, hl, h2⟩ := wx_step hc h1
        have hk := cls_kind.2.2.2.2 l hc
        obtain ⟨v, rfl⟩ := val_step (by rw [hk]; decide) h1
        obtain ⟨n, ha⟩ := cls_aimx hc
        have hled : Led o s l := led_aim (.inr ha)
        simp only at h
        obtain ⟨hst, h⟩ := stillSame_inv h
        cases h
        refine ⟨⟨.val v, some (l, none), some (hh1, s.df), true, none, none, some l⟩, ⟨?_, by simp, fun _ => hk, fun _ => .inl hk, fun _ _ => hk, ?_, by simp, by simp, fun l hl => absurd hl val_noleads, hks⟩, ⟨by simp, ?_, ?_, by simp⟩, rfl, rfl⟩
        · intro s' hn hf _ lg' os' hlets
          rw [run s' hn, dstep, cls_ag hn.1, hc]
          obtain ⟨e1, e2⟩ := hf.exact rfl
          simp only [aloneL_iff.2 (hlets.wl l rfl), h2 s' hn.1 e1 ((hf.led (.inl rfl) l hled).trans hl), Option.bind_some]
          rw [stillSame_mk (hlets.ef hh1 s.df rfl)]
          have : s'.df = s.df := e2
          simp only [OpR.apply, OpR.turn, OpR.logs]
          rw [← this]
          rfl
        · intro l' c2 hh
          simp only [Option.some.injEq, Prod.mk.injEq] at hh
          obtain ⟨rfl, _⟩ := hh
          exact .inl ⟨rfl, hled⟩
        · intro h' d hh; cases hh; exact hst
        · intro l' hh; cases hh; exact aloneL_iff.1 hal
      · cases h
    | eff =>
      simp only [dstep, hc] at h
      obtain ⟨out, h1, h⟩ := bind_inv h
      have hk := (eff_of_cls hc).1
      rcases eff_step hno hc h1 with ⟨t, hh1, d1, rfl, h2⟩ | ⟨v, hh1, rfl, h2⟩
      · obtain ⟨v, rfl⟩ := val_step (by rw [hk]; decide) h1
        simp only at h
        obtain ⟨hst, h⟩ := stillSame_inv h
        cases h
        refine ⟨⟨.val v, none, some (hh1, d1), true, none, none, none⟩, ⟨?_, by simp, fun _ => hk, fun _ => .inl hk, by simp, by simp, by simp, by simp, fun l hl => absurd hl val_noleads, hks⟩, ⟨by simp, ?_, by simp, by simp⟩, rfl, rfl⟩
        · intro s' hn hf _ lg' os' hlets
          rw [run s' hn, dstep, cls_ag hn.1, hc]
          obtain ⟨e1, e2⟩ := hf.exact rfl
          simp only [h2 s' hn.1 e1 e2 (hf.led (.inl rfl)), Option.bind_some]
          rw [stillSame_mk (hlets.ef hh1 d1 rfl)]
          rfl
        · intro h' d hh; cases hh; exact hst
      · simp only at h
        split at h <;> cases h

/-- A step that throws. -/
theorem orun_pan (hno : noRecOp o = true) {v : AV} {sp : St} (h : orun cx fn F ops bf os o j lg s = some (.pan v sp)) :
    ∃ h1, kindOf cx.P (cx.locs fn) o = 3 ∧ (∀ x ∈ os, open2 bf x.2 j = false) ∧ sp = wipe ops.toList { s with h := h1 } ∧ stepOp cx fn F o s = some (.pan v { s with h := h1 }) ∧ wantedB ops o s = some true ∧
      ∀ s', NA ops o s s' → s'.h = s.h → ∀ lg' os', (∀ x ∈ os', open2 bf x.2 j = false) → orun cx fn F ops bf os' o j lg' s' = some (.pan v (wipe ops.toList { s' with h := h1 })) := by
  unfold orun at h
  obtain ⟨w, hw, h⟩ := bind_inv h
  cases w with
  | false => simp only at h; cases h
  | true =>
    simp only at h
    have nq : ∀ lg', ((stepOp cx fn F o s).bind (quiet o.dst lg')) ≠ some (.pan v sp) := by
      intro lg' hh
      obtain ⟨out, _, hh⟩ := bind_inv hh
      cases out <;> cases hh
    cases hc : clsOf cx fn s o with
    | bad => simp only [dstep, hc] at h; cases h
    | pure => simp only [dstep, hc] at h; exact absurd h (nq _)
    | site l => simp only [dstep, hc] at h; exact absurd h (nq _)
    | look => simp only [dstep, hc] at h; exact absurd h (nq _)
    | rd f g =>
      simp only [dstep, hc] at h
      obtain ⟨xs, hx, h⟩ := bind_inv h
      obtain ⟨hwas, h⟩ := wasSame_inv h
      obtain ⟨t, ht, h⟩ := bind_inv h
      cases h
    | rl l =>
      simp only [dstep, hc] at h
      split at h
      · exact absurd h (nq _)
      · cases h
    | wl l =>
      simp only [dstep, hc] at h
      split at h
      · exact absurd h (nq _)
      · cases h
    | wx l =>
      simp only [dstep, hc] at h
      split at h
      · obtain ⟨out, _, h⟩ := bind_inv h
        cases out with
        | ok t s1 =>
          simp only at h
          obtain ⟨_, h⟩ := stillSame_inv h
          cases h
        | pan v s1 => cases h
      · cases h
    | eff =>
      simp only [dstep, hc] at h
      obtain ⟨out, h1, h⟩ := bind_inv h
      have hk := (eff_of_cls hc).1
      rcases eff_step hno hc h1 with ⟨t, hh1, d1, rfl, h2⟩ | ⟨v', hh1, rfl, h2⟩
      · simp only at h
        obtain ⟨hst, h⟩ := stillSame_inv h
        cases h
      · simp only at h
        split at h
        · rename_i hall
          cases h
          have hall : ∀ x ∈ os, open2 bf x.2 j = false := by
            intro x hx
            have := List.all_eq_true.1 hall x hx
            simpa using this
          refine ⟨hh1, hk, hall, rfl, h1, hw, fun s' hn he lg' os' ho => ?_⟩
          unfold orun
          rw [hn.2, hw]
          simp only [Option.bind_some]
          rw [dstep, cls_ag hn.1, hc]
          simp only [h2 s' hn.1 he, Option.bind_some]
          have : (os'.all fun x => !(open2 bf x.2 j)) = true := by
            rw [List.all_eq_true]
            intro x hx
            simp [ho x hx]
          rw [this]
        · cases h
end
end Go.Proofs.YtahbihcbidkbaaaGreat.Ev

/-
  Two steps whose order is open may be taken in the other order.
-/
set_option linter.unusedVariables false
namespace Go.Proofs.YtahbihcbidkbaaaGreat.Ev
open Go

structure Apart (cx : Ctx) (fn : FuncId) (ops : Array Oper) (oi oj : Oper) : Prop where
  k33 : ¬ (kindOf cx.P (cx.locs fn) oi = 3 ∧ kindOf cx.P (cx.locs fn) oj = 3)
  k43 : ¬ (kindOf cx.P (cx.locs fn) oi = 4 ∧ kindOf cx.P (cx.locs fn) oj = 3)
  k34 : ¬ (kindOf cx.P (cx.locs fn) oi = 3 ∧ kindOf cx.P (cx.locs fn) oj = 4)
  di : ∀ d, oi.dst = some d → d ∉ namesOf ops oj
  dj : ∀ d, oj.dst = some d → d ∉ namesOf ops oi
  st : ∀ l, siteOf (cx.locs fn) oi = some l → siteOf (cx.locs fn) oj ≠ some l

theorem Apart.symm {cx : Ctx} {fn : FuncId} {ops : Array Oper} {oi oj : Oper} (h : Apart cx fn ops oi oj) : Apart cx fn ops oj oi :=
  ⟨fun q => h.k33 ⟨q.2, q.1⟩, fun q => h.k34 ⟨q.2, q.1⟩, fun q => h.k43 ⟨q.2, q.1⟩, h.dj, h.di, fun l h1 h2 => h.st l h2 h1⟩

theorem NA.of {ops : Array Oper} {o : Oper} {s s' : St} (h : ∀ x ∈ namesOf ops o, s'.tm[x]? = s.tm[x]?) : NA ops o s s' := by
  refine ⟨fun x hx => ?_, ?_⟩
  · cases x with
    | tmp i =>
      have : i ∈ namesOf ops o := by
        unfold namesOf
        exact List.mem_append_left _ (List.mem_append_right _ (List.mem_filterMap.2 ⟨.tmp i, hx, rfl⟩))
      exact h i this
    | _ => rfl
  · unfold wantedB wantedK
    split
    · rfl
    · rename_i g b hg
      split
      · rfl
      · rename_i d hd
        have : d ∈ namesOf ops o := by
          unfold namesOf
          refine List.mem_append_right _ ?_
          rw [hg]
          simp only
          split at hd
          · simp only [hd]
            exact List.mem_singleton.2 rfl
          · cases hd
        rw [h d this]

theorem NA.symm {ops : Array Oper} {o : Oper} {s s' : St} (h : NA ops o s s') : NA ops o s' s := ⟨fun x hx => (h.1 x hx).symm, h.2.symm⟩

theorem Led.ag {o : Oper} {s s' : St} {l : Nat} (h : Ag o s s') (hl : Led o s' l) : Led o s l := by
  obtain ⟨x, hx, hh⟩ := hl
  exact ⟨x, hx, by rw [h x hx] at hh; exact hh⟩

section
variable {cx : Ctx} {fn : FuncId} {F : Fns} {ops : Array Oper} {bf : Array Nat}

theorem apply_tm (r : OpR) (d : Option Tmp) (s : St) : (r.apply d s).tm = match d with | some d => s.tm.set d r.t | none => s.tm := by cases d <;> rfl
theorem apply_lc (r : OpR) (d : Option Tmp) (s : St) : (r.apply d s).lc = match r.lcU with | some (l, c) => s.lc.set l c | none => s.lc := by cases d <;> rfl
theorem apply_h (r : OpR) (d : Option Tmp) (s : St) : (r.apply d s).h = match r.hU with | some (h, _) => h | none => s.h := by cases d <;> rfl
theorem apply_df (r : OpR) (d : Option Tmp) (s : St) : (r.apply d s).df = match r.hU with | some (_, d) => d | none => s.df := by cases d <;> rfl
theorem apply_rc (r : OpR) (d : Option Tmp) (s : St) : (r.apply d s).rc = s.rc := by cases d <;> rfl

theorem St.ext' {s s' : St} (h1 : s.tm = s'.tm) (h2 : s.lc = s'.lc) (h3 : s.h = s'.h) (h4 : s.df = s'.df) (h5 : s.rc = s'.rc) : s = s' := by
  cases s; cases s'; simp only at h1 h2 h3 h4 h5; subst h1 h2 h3 h4 h5; rfl

theorem NA_apply {o o' : Oper} {r : OpR} {s : St} (h : ∀ d, o'.dst = some d → d ∉ namesOf ops o) : NA ops o s (r.apply o'.dst s) := by
  refine NA.of fun x hx => ?_
  rw [apply_tm]
  split
  · rename_i d hd
    have : d ≠ x := by rintro rfl; exact h d hd hx
    rw [List.getElem?_set_ne this]
  · rfl

theorem local_of_lc {s s' : St} {l : Nat} (h : s'.lc[l]? = s.lc[l]?) : local? s' l = local? s l := by simp only [local?, h]

theorem lc_other {r : OpR} {d : Option Tmp} {s : St} {l : Nat} (h : ∀ l' c, r.lcU = some (l', c) → l' ≠ l) : local? (r.apply d s) l = local? s l := by
  refine local_of_lc ?_
  rw [apply_lc]
  split
  · rename_i l' c hl
    rw [List.getElem?_set_ne (h l' c hl)]
  · rfl

theorem lets_mono {r : OpR} {j : Nat} {lg lg' : List Lg} (hm : ∀ g ∈ lg', g ∈ lg) (h : r.lets bf j lg) : r.lets bf j lg' :=
  ⟨fun f xs hr => fun j' h' hg => h.rd f xs hr j' h' (hm _ hg), fun h1 d hh => fun i f xs hg => h.ef h1 d hh i f xs (hm _ hg),
   fun l hl => ⟨fun j' hg => (h.wl l hl).1 j' (hm _ hg), fun hr j' hg => (h.wl l hl).2 hr j' (hm _ hg)⟩,
   fun l hl => ⟨fun j' hg => (h.rl l hl).1 j' (hm _ hg), fun hr j' hg => (h.rl l hl).2 hr j' (hm _ hg)⟩⟩

theorem mem_logs {r : OpR} {j : Nat} {s : St} {g : Lg} : g ∈ r.logs j s ↔ (∃ f xs, r.rdq = some (f, xs) ∧ g = .rd j f xs) ∨ (∃ l, r.rlq = some l ∧ g = .rl j l) ∨ (∃ l, r.wlq = some l ∧ g = .wl j l) ∨ (r.hU.isSome = true ∧ g = .ef j s.h) := by
  unfold OpR.logs
  simp only [List.mem_append]
  constructor
  · rintro (((h | h) | h) | h)
    · split at h
      · rename_i f xs hr; exact .inl ⟨f, xs, hr, List.mem_singleton.1 h⟩
      · cases h
    · split at h
      · rename_i l hr; exact .inr (.inl ⟨l, hr, List.mem_singleton.1 h⟩)
      · cases h
    · split at h
      · rename_i l hr; exact .inr (.inr (.inl ⟨l, hr, List.mem_singleton.1 h⟩))
      · cases h
    · split at h
      · rename_i x hr; exact .inr (.inr (.inr ⟨by simp [hr], List.mem_singleton.1 h⟩))
      · cases h
  · rintro (⟨f, xs, hr, rfl⟩ | ⟨l, hr, rfl⟩ | ⟨l, hr, rfl⟩ | ⟨hr, rfl⟩)
    · exact .inl (.inl (.inl (by simp [hr])))
    · exact .inl (.inl (.inr (by simp [hr])))
    · exact .inl (.inr (by simp [hr]))
    · refine .inr ?_
      cases hx : r.hU with
      | none => rw [hx] at hr; cases hr
      | some x => simp

theorem swap {oi oj : Oper} {i j : Nat} {s : St} {lg : List Lg} {ri rj : OpR} (hap : Apart cx fn ops oi oj) (hij : open2 bf i j = true) (hji : open2 bf j i = true)
    (hsi : ∀ l, siteOf (cx.locs fn) oi = some l → leads l s.tm = false) (hsj : ∀ l, siteOf (cx.locs fn) oj = some l → leads l s.tm = false)
    (vj : Valid cx fn F ops bf oj j s rj) (lj : rj.lets bf j lg) (vi : Valid cx fn F ops bf oi i (rj.apply oj.dst s) ri) (li : ri.lets bf i (rj.logs j s ++ lg)) :
    (∀ os, orun cx fn F ops bf os oi i lg s = some (.ok (ri.apply oi.dst s) (ri.logs i s ++ lg))) ∧
    (∀ os, orun cx fn F ops bf os oj j (ri.logs i s ++ lg) (ri.apply oi.dst s) = some (.ok (rj.apply oj.dst (ri.apply oi.dst s)) (rj.logs j (ri.apply oi.dst s) ++ (ri.logs i s ++ lg)))) ∧
    rj.apply oj.dst (ri.apply oi.dst s) = ri.apply oi.dst (rj.apply oj.dst s) ∧
    (∀ g, g ∈ rj.logs j (ri.apply oi.dst s) ++ (ri.logs i s ++ lg) ↔ g ∈ ri.logs i (rj.apply oj.dst s) ++ (rj.logs j s ++ lg)) := by
  -- kinds
  have hUj : (kindOf cx.P (cx.locs fn) oi = 3 ∨ kindOf cx.P (cx.locs fn) oi = 4) → rj.hU = none := by
    intro hk
    cases hx : rj.hU with
    | none => rfl
    | some x =>
      have h3 := vj.kh (by rw [hx]; rfl)
      rcases hk with hk | hk
      · exact absurd ⟨hk, h3⟩ hap.k33
      · exact absurd ⟨hk, h3⟩ hap.k43
  have hUi : (kindOf cx.P (cx.locs fn) oj = 3 ∨ kindOf cx.P (cx.locs fn) oj = 4) → ri.hU = none := by
    intro hk
    cases hx : ri.hU with
    | none => rfl
    | some x =>
      have h3 := vi.kh (by rw [hx]; rfl)
      rcases hk with hk | hk
      · exact absurd ⟨h3, hk⟩ hap.k33
      · exact absurd ⟨h3, hk⟩ hap.k34
  have na_i : NA ops oi s (rj.apply oj.dst s) := NA_apply hap.dj
  have na_j : NA ops oj s (ri.apply oi.dst s) := NA_apply hap.di
  have led_i : ∀ l, Led oi (rj.apply oj.dst s) l → Led oi s l := fun l h => Led.ag na_i.1 h
  -- the local variables that are turned
  have lcj : ∀ l c, rj.lcU = some (l, c) → ((ri.exact = true ∨ ri.wlq.isSome = true) → ∀ l', Led oi (rj.apply oj.dst s) l' → l ≠ l') ∧ (∀ l', ri.rlq = some l' → l ≠ l') := by
    intro l c hl
    rcases vj.lcs l c hl with ⟨hw, hled⟩ | ⟨hw, hsite⟩
    · refine ⟨fun hx l' _ => ?_, fun l' hr hh => ?_⟩
      · have h3 := vj.kw l hw
        rcases hx with hx | hx
        · rcases vi.kx hx with hk | hk
          · exact absurd ⟨hk, h3⟩ hap.k33
          · exact absurd ⟨hk, h3⟩ hap.k43
        · obtain ⟨l2, hl2⟩ := Option.isSome_iff_exists.1 hx
          exact absurd ⟨vi.kw l2 hl2, h3⟩ hap.k33
      · subst hh
        have := (li.rl l hr).1 j (List.mem_append_left _ (mem_logs.2 (.inr (.inr (.inl ⟨l, hw, rfl⟩)))))
        rw [hij] at this; cases this
    · refine ⟨fun _ l' hled hh => ?_, fun l' hr hh => ?_⟩
      · subst hh; exact not_led (hsj l hsite) (led_i l hled)
      · subst hh; exact not_led (hsj l hsite) (led_i l (vi.rls l hr))
  have lci : ∀ l c, ri.lcU = some (l, c) → ((rj.exact = true ∨ rj.wlq.isSome = true) → ∀ l', Led oj s l' → l ≠ l') ∧ (∀ l', rj.rlq = some l' → l ≠ l') := by
    intro l c hl
    rcases vi.lcs l c hl with ⟨hw, hled⟩ | ⟨hw, hsite⟩
    · refine ⟨fun hx l' _ => ?_, fun l' hr hh => ?_⟩
      · have h3 := vi.kw l hw
        rcases hx with hx | hx
        · rcases vj.kx hx with hk | hk
          · exact absurd ⟨h3, hk⟩ hap.k33
          · exact absurd ⟨h3, hk⟩ hap.k34
        · obtain ⟨l2, hl2⟩ := Option.isSome_iff_exists.1 hx
          exact absurd ⟨h3, vj.kw l2 hl2⟩ hap.k33
      · subst hh
        have := (li.wl l hw).2 rfl j (List.mem_append_left _ (mem_logs.2 (.inr (.inl ⟨l, hr, rfl⟩))))
        rw [hij] at this; cases this
    · refine ⟨fun _ l' hled hh => ?_, fun l' hr hh => ?_⟩
      · subst hh; exact not_led (hsi l hsite) hled
      · subst hh; exact not_led (hsi l hsite) (vj.rls l hr)
  have fit_i : ri.fits oi (rj.apply oj.dst s) s := by
    refine ⟨fun hx => ?_, fun f xs hr => ?_, fun hx l hl => ?_, fun l hr => ?_, ?_⟩
    · have := hUj (vi.kx hx)
      rw [apply_h, apply_df, this]; exact ⟨rfl, rfl⟩
    · cases hx : rj.hU with
      | none =>
        have := vi.rd f xs hr
        rw [apply_h, hx] at this
        exact this
      | some x => exact li.rd f xs hr j s.h (List.mem_append_left _ (mem_logs.2 (.inr (.inr (.inr ⟨by rw [hx]; rfl, rfl⟩))))) hij
    · exact (lc_other fun l' c hl' => (lcj l' c hl').1 hx l hl).symm
    · exact (lc_other fun l' c hl' => (lcj l' c hl').2 l hr).symm
    · rw [apply_lc]; split <;> simp
  have run_i := fun os => vi.again s na_i.symm fit_i hsi lg os (lets_mono (fun g hg => List.mem_append_right _ hg) li)
  have fit_j : rj.fits oj s (ri.apply oi.dst s) := by
    refine ⟨fun hx => ?_, fun f xs hr => ?_, fun hx l hl => ?_, fun l hr => ?_, ?_⟩
    · have := hUi (vj.kx hx)
      rw [apply_h, apply_df, this]; exact ⟨rfl, rfl⟩
    · cases hx : ri.hU with
      | none => rw [apply_h, hx]; exact vj.rd f xs hr
      | some x =>
        obtain ⟨h1, d1⟩ := x
        rw [apply_h, hx]
        exact li.ef h1 d1 hx j f xs (List.mem_append_left _ (mem_logs.2 (.inl ⟨f, xs, hr, rfl⟩))) hji
    · exact lc_other fun l' c hl' => (lci l' c hl').1 hx l hl
    · exact lc_other fun l' c hl' => (lci l' c hl').2 l hr
    · rw [apply_lc]; split <;> simp
  have site_j : ∀ l, siteOf (cx.locs fn) oj = some l → leads l (ri.apply oi.dst s).tm = false := by
    intro l hl
    refine leads_mk fun t ht hh => ?_
    rw [apply_tm] at ht
    split at ht
    · rename_i d hd
      rcases List.mem_or_eq_of_mem_set ht with ht | rfl
      · exact leads_false (hsj l hl) t ht hh
      · rcases vi.lds l hh with h1 | h1
        · exact not_led (hsj l hl) (led_i l h1)
        · exact hap.st l h1 hl
    · exact leads_false (hsj l hl) t ht hh
  have lets_j : rj.lets bf j (ri.logs i s ++ lg) := by
    refine ⟨fun f xs hr j' h' hg ho => ?_, fun h1 d hh i' f xs hg ho => ?_, fun l hl => ⟨fun j' hg => ?_, fun hr j' hg => ?_⟩, fun l hl => ⟨fun j' hg => ?_, fun hr => by cases hr⟩⟩
    · rcases List.mem_append.1 hg with hg | hg
      · rcases mem_logs.1 hg with ⟨_, _, _, hh⟩ | ⟨_, _, hh⟩ | ⟨_, _, hh⟩ | ⟨_, hh⟩ <;> cases hh
        exact vj.rd f xs hr
      · exact lj.rd f xs hr j' h' hg ho
    · rcases List.mem_append.1 hg with hg | hg
      · rcases mem_logs.1 hg with ⟨f', xs', hr', hh⟩ | ⟨_, _, hh⟩ | ⟨_, _, hh⟩ | ⟨_, hh⟩ <;> cases hh
        have := vi.rd f xs hr'
        rw [apply_h] at this
        simp only [*] at this
        exact this
      · exact lj.ef h1 d hh i' f xs hg ho
    · rcases List.mem_append.1 hg with hg | hg
      · rcases mem_logs.1 hg with ⟨_, _, _, hh⟩ | ⟨_, _, hh⟩ | ⟨l', hl', hh⟩ | ⟨_, hh⟩ <;> cases hh
        exact absurd ⟨vi.kw l hl', vj.kw l hl⟩ hap.k33
      · exact (lj.wl l hl).1 j' hg
    · rcases List.mem_append.1 hg with hg | hg
      · rcases mem_logs.1 hg with ⟨_, _, _, hh⟩ | ⟨l', hl', hh⟩ | ⟨_, _, hh⟩ | ⟨_, hh⟩ <;> cases hh
        have := (li.rl l hl').1 j (List.mem_append_left _ (mem_logs.2 (.inr (.inr (.inl ⟨l, hl, rfl⟩)))))
        rw [hij] at this; cases this
      · exact (lj.wl l hl).2 hr j' hg
    · rcases List.mem_append.1 hg with hg | hg
      · rcases mem_logs.1 hg with ⟨_, _, _, hh⟩ | ⟨_, _, hh⟩ | ⟨l', hl', hh⟩ | ⟨_, hh⟩ <;> cases hh
        have := (li.wl l hl').2 rfl j (List.mem_append_left _ (mem_logs.2 (.inr (.inl ⟨l, hl, rfl⟩))))
        rw [hij] at this; cases this
      · exact (lj.rl l hl).1 j' hg
  have run_j := fun os => vj.again (ri.apply oi.dst s) na_j fit_j site_j (ri.logs i s ++ lg) os lets_j
  -- not both turn the heap
  have h2 : rj.hU = none ∨ ri.hU = none := by
    cases hx : ri.hU with
    | none => exact .inr rfl
    | some x => exact .inl (hUj (.inl (vi.kh (by rw [hx]; rfl))))
  refine ⟨run_i, run_j, ?_, ?_⟩
  · refine St.ext' ?_ ?_ ?_ ?_ ?_
    · simp only [apply_tm]
      cases hdi : oi.dst with
      | none => cases oj.dst <;> rfl
      | some a =>
        cases hdj : oj.dst with
        | none => rfl
        | some b =>
          simp only
          have : a ≠ b := by
            rintro rfl
            refine hap.di a hdi ?_
            unfold namesOf
            rw [hdj]
            exact List.mem_append_left _ (List.mem_append_left _ (List.mem_singleton.2 rfl))
          exact List.set_comm _ _ this
    · simp only [apply_lc]
      cases hi : ri.lcU with
      | none => cases rj.lcU <;> rfl
      | some x =>
        cases hj : rj.lcU with
        | none => rfl
        | some y =>
          obtain ⟨a, c⟩ := x
          obtain ⟨b, d⟩ := y
          simp only
          have : a ≠ b := by
            rcases vi.lcs a c hi with ⟨hw, hled⟩ | ⟨hw, hsite⟩
            · exact fun hh => (lcj b d hj).1 (.inr (by rw [hw]; rfl)) a hled hh.symm
            · rcases vj.lcs b d hj with ⟨hw', hled'⟩ | ⟨hw', hsite'⟩
              · exact fun hh => (lci a c hi).1 (.inr (by rw [hw']; rfl)) b hled' hh
              · rintro rfl; exact hap.st a hsite hsite'
          exact List.set_comm _ _ this
    · simp only [apply_h]
      rcases h2 with h | h <;> simp only [h]
    · simp only [apply_df]
      rcases h2 with h | h <;> simp only [h]
    · simp only [apply_rc]
  · intro g
    simp only [List.mem_append, mem_logs]
    have e1 : rj.hU.isSome = true → (ri.apply oi.dst s).h = s.h := by
      intro hs
      rcases h2 with h | h
      · rw [h] at hs; cases hs
      · rw [apply_h, h]
    have e2 : ri.hU.isSome = true → (rj.apply oj.dst s).h = s.h := by
      intro hs
      rcases h2 with h | h
      · rw [apply_h, h]
      · rw [h] at hs; cases hs
    have f1 : (rj.hU.isSome = true ∧ g = Lg.ef j (ri.apply oi.dst s).h) ↔ (rj.hU.isSome = true ∧ g = Lg.ef j s.h) :=
      ⟨fun ⟨a, b⟩ => ⟨a, by rw [b, e1 a]⟩, fun ⟨a, b⟩ => ⟨a, by rw [b, e1 a]⟩⟩
    have f2 : (ri.hU.isSome = true ∧ g = Lg.ef i (rj.apply oj.dst s).h) ↔ (ri.hU.isSome = true ∧ g = Lg.ef i s.h) :=
      ⟨fun ⟨a, b⟩ => ⟨a, by rw [b, e2 a]⟩, fun ⟨a, b⟩ => ⟨a, by rw [b, e2 a]⟩⟩
    rw [f1, f2]
    constructor
    · rintro (h | h | h)
      · exact .inr (.inl h)
      · exact .inl h
      · exact .inr (.inr h)
    · rintro (h | h | h)
      · exact .inr (.inl h)
      · exact .inl h
      · exact .inr (.inr h)
end
end Go.Proofs.YtahbihcbidkbaaaGreat.Ev

/-
  A step that is ready may be taken first.
-/
set_option linter.unusedVariables false
namespace Go.Proofs.YtahbihcbidkbaaaGreat.Ev
open Go

section
variable {cx : Ctx} {fn : FuncId} {F : Fns} {ops : Array Oper} {bf : Array Nat}

/-- What is asked of the operations of a region. -/
structure RegOK (cx : Ctx) (fn : FuncId) (ops : Array Oper) (bf : Array Nat) (L : List (Oper × Nat)) : Prop where
  nrec : ∀ x ∈ L, noRecOp x.1 = true
  apart : ∀ x ∈ L, ∀ y ∈ L, x.2 ≠ y.2 → open2 bf x.2 y.2 = true → Apart cx fn ops x.1 y.1
  site : ∀ x ∈ L, ∀ y ∈ L, x.2 ≠ y.2 → ∀ l, siteOf (cx.locs fn) x.1 = some l → siteOf (cx.locs fn) y.1 ≠ some l
  dst : ∀ x ∈ L, ∀ d, x.1.dst = some d → ∃ o ∈ ops.toList, o.dst = some d

theorem RegOK.sub {L L' : List (Oper × Nat)} (h : RegOK cx fn ops bf L) (hs : ∀ x ∈ L', x ∈ L) : RegOK cx fn ops bf L' :=
  ⟨fun x hx => h.nrec x (hs x hx), fun x hx y hy => h.apart x (hs x hx) y (hs y hy), fun x hx y hy => h.site x (hs x hx) y (hs y hy), fun x hx => h.dst x (hs x hx)⟩

def SitesL (cx : Ctx) (fn : FuncId) (s : St) (L : List (Oper × Nat)) : Prop := ∀ x ∈ L, ∀ l, siteOf (cx.locs fn) x.1 = some l → leads l s.tm = false

theorem sites_keep {L : List (Oper × Nat)} {o : Oper} {j : Nat} {s : St} {r : OpR} (hs : SitesL cx fn s L) (v : Valid cx fn F ops bf o j s r) (hne : ∀ x ∈ L, ∀ l, siteOf (cx.locs fn) o = some l → siteOf (cx.locs fn) x.1 ≠ some l) : SitesL cx fn (r.apply o.dst s) L := by
  intro x hx l hl
  refine leads_mk fun t ht hh => ?_
  rw [apply_tm] at ht
  split at ht
  · rcases List.mem_or_eq_of_mem_set ht with ht | rfl
    · exact leads_false (hs x hx l hl) t ht hh
    · rcases v.lds l hh with h1 | h1
      · exact not_led (hs x hx l hl) h1
      · exact hne x hx l h1 hl
  · exact leads_false (hs x hx l hl) t ht hh

theorem NA.refl (o : Oper) (s : St) : NA ops o s s := ⟨fun _ _ => rfl, rfl⟩
theorem fits_refl {o : Oper} {j : Nat} {s : St} {r : OpR} (v : Valid cx fn F ops bf o j s r) : r.fits o s s := ⟨fun _ => ⟨rfl, rfl⟩, v.rd, fun _ _ _ => rfl, fun _ _ => rfl, rfl⟩

theorem open2_symm (bf : Array Nat) (i j : Nat) : open2 bf i j = open2 bf j i := by
  unfold open2; rw [Bool.and_comm]

/-- The log's order counts for nothing. -/
theorem evalD_log {k : Ex → St → R} {r : Fin × Heap × Option (Option AV)} : ∀ {L : List (Oper × Nat)} {lg lg' : List Lg} {s : St}, RegOK cx fn ops bf L → (L.map (·.2)).Nodup → SitesL cx fn s L → (∀ g, g ∈ lg' ↔ g ∈ lg) → evalD cx fn F ops bf k L lg s = some r → evalD cx fn F ops bf k L lg' s = some r
  | [], lg, lg', s, _, _, _, _, h => h
  | (o, j) :: L, lg, lg', s, hreg, hnd, hs, hm, h => by
    rw [evalD_cons] at h ⊢
    obtain ⟨out, h1, h⟩ := bind_inv h
    have hno := hreg.nrec (o, j) (by simp)
    cases out with
    | ok s1 lg1 =>
      obtain ⟨rr, v, hl, rfl, rfl⟩ := orun_valid hno (hs (o, j) (by simp)) h1
      have := v.again s (NA.refl o s) (fits_refl v) (hs (o, j) (by simp)) lg' L (lets_mono (fun g hg => (hm g).1 hg) hl)
      rw [this]
      simp only [Option.bind_some]
      simp only [List.map_cons, List.nodup_cons] at hnd
      refine evalD_log (hreg.sub fun x hx => List.mem_cons_of_mem _ hx) hnd.2 ?_ (fun g => ?_) h
      · refine sites_keep (fun x hx => hs x (List.mem_cons_of_mem _ hx)) v fun x hx l hl => hreg.site (o, j) (by simp) x (List.mem_cons_of_mem _ hx) ?_ l hl
        rintro hh
        exact hnd.1 (List.mem_map.2 ⟨x, hx, hh.symm⟩)
      · simp only [List.mem_append, hm g]
    | pan v sp =>
      obtain ⟨h2, hk, hall, rfl, hst, hw, hag⟩ := orun_pan hno h1
      rw [hag s (NA.refl o s) rfl lg' L hall]
      exact h

theorem fold_get : ∀ (os : List Oper) (tm : List Tm) (x : Nat), (os.foldl unsetT tm)[x]? = if (∃ o ∈ os, o.dst = some x) then (tm[x]?).map (fun _ => Tm.undef) else tm[x]?
  | [], tm, x => by simp
  | o :: os, tm, x => by
    simp only [List.foldl_cons]
    rw [fold_get os _ x]
    unfold unsetT
    cases hd : o.dst with
    | none =>
      simp only [List.mem_cons, exists_eq_or_imp, hd]
      simp
    | some d =>
      by_cases hx : d = x
      · subst hx
        have : (tm.set d Tm.undef)[d]? = (tm[d]?).map fun _ => Tm.undef := by
          rw [List.getElem?_set_self']; rfl
        rw [this]
        have h2 : ∃ o' ∈ o :: os, o'.dst = some d := ⟨o, by simp, hd⟩
        rw [if_pos h2]
        split
        · cases tm[d]? <;> rfl
        · rfl
      · rw [List.getElem?_set_ne hx]
        have : (∃ o' ∈ o :: os, o'.dst = some x) ↔ ∃ o' ∈ os, o'.dst = some x := by
          simp only [List.mem_cons, exists_eq_or_imp, hd, Option.some.injEq, hx, false_or]
        simp only [this]

theorem nonesL_len : ∀ {a b : List (Option (List AV))}, a.length = b.length → nonesL a = nonesL b
  | [], [], _ => rfl
  | [], _ :: _, h => by cases h
  | _ :: _, [], h => by cases h
  | _ :: a, _ :: b, h => by simp only [nonesL]; rw [nonesL_len (by simpa using h)]

/-- What is wiped is the same before and behind a step that turns no heap. -/
theorem wipe_apply {o : Oper} {r : OpR} {s : St} {h1 : Heap} (hU : r.hU = none) (hd : ∀ d, o.dst = some d → ∃ o' ∈ ops.toList, o'.dst = some d) :
    wipe ops.toList { r.apply o.dst s with h := h1 } = wipe ops.toList { s with h := h1 } := by
  refine St.ext' ?_ ?_ rfl ?_ ?_
  · simp only [wipe]
    refine List.ext_getElem? fun x => ?_
    rw [fold_get, fold_get, apply_tm]
    cases ho : o.dst with
    | none => rfl
    | some d =>
      simp only
      by_cases hx : d = x
      · subst hx
        have h2 : ∃ o' ∈ ops.toList, o'.dst = some d := hd d ho
        rw [if_pos h2, if_pos h2]
        rw [List.getElem?_set_self']
        cases s.tm[d]? <;> rfl
      · rw [List.getElem?_set_ne hx]
  · simp only [wipe]
    refine nonesL_len ?_
    rw [apply_lc]; split <;> simp
  · simp only [wipe]
    rw [apply_df, hU]
  · simp only [wipe]
    rw [apply_rc]

/-- Any step whose order towards those ahead of it is open may be taken first. -/
theorem moveFront {k : Ex → St → R} {r : Fin × Heap × Option (Option AV)} {oi : Oper} {i : Nat} {L2 : List (Oper × Nat)} : ∀ {L1 : List (Oper × Nat)} {lg : List Lg} {s : St},
    RegOK cx fn ops bf (L1 ++ (oi, i) :: L2) → ((L1 ++ (oi, i) :: L2).map (·.2)).Nodup → SitesL cx fn s (L1 ++ (oi, i) :: L2) → (∀ x ∈ L1, open2 bf i x.2 = true) → evalD cx fn F ops bf k (L1 ++ (oi, i) :: L2) lg s = some r →
      (∃ ri, Valid cx fn F ops bf oi i s ri ∧ ri.lets bf i lg ∧ (∀ os, orun cx fn F ops bf os oi i lg s = some (.ok (ri.apply oi.dst s) (ri.logs i s ++ lg))) ∧ evalD cx fn F ops bf k (L1 ++ L2) (ri.logs i s ++ lg) (ri.apply oi.dst s) = some r) ∨
      (∃ v h1, kindOf cx.P (cx.locs fn) oi = 3 ∧ wantedB ops oi s = some true ∧ stepOp cx fn F oi s = some (.pan v { s with h := h1 }) ∧ k (.panic v) (wipe ops.toList { s with h := h1 }) = some r)
  | [], lg, s, hreg, hnd, hs, ho, h => by
    simp only [List.nil_append] at h hreg hnd hs ⊢
    rw [evalD_cons] at h
    obtain ⟨out, h1, h⟩ := bind_inv h
    have hno := hreg.nrec (oi, i) (by simp)
    cases out with
    | ok s1 lg1 =>
      obtain ⟨rr, v, hl, rfl, rfl⟩ := orun_valid hno (hs (oi, i) (by simp)) h1
      exact .inl ⟨rr, v, hl, fun os => v.again s (NA.refl oi s) (fits_refl v) (hs (oi, i) (by simp)) lg os hl, h⟩
    | pan v sp =>
      obtain ⟨h2, hk, hall, rfl, hst, hw, hag⟩ := orun_pan hno h1
      exact .inr ⟨v, h2, hk, hw, hst, h⟩
  | (oj, j) :: L1, lg, s, hreg, hnd, hs, ho, h => by
    simp only [List.cons_append] at h hreg hnd hs ⊢
    have hmi : (oi, i) ∈ (oj, j) :: (L1 ++ (oi, i) :: L2) := by simp
    have hmj : (oj, j) ∈ (oj, j) :: (L1 ++ (oi, i) :: L2) := by simp
    simp only [List.map_cons, List.nodup_cons] at hnd
    have hne : i ≠ j := by
      rintro rfl
      exact hnd.1 (List.mem_map.2 ⟨(oi, i), by simp, rfl⟩)
    have hij : open2 bf i j = true := ho (oj, j) (by simp)
    have hji : open2 bf j i = true := by rw [open2_symm]; exact hij
    have hap := hreg.apart (oi, i) hmi (oj, j) hmj hne hij
    rw [evalD_cons] at h
    obtain ⟨out, h1, h⟩ := bind_inv h
    cases out with
    | pan v sp =>
      obtain ⟨h2, hk, hall, _⟩ := orun_pan (hreg.nrec (oj, j) hmj) h1
      have := hall (oi, i) (by simp)
      simp only at this
      rw [hij] at this; cases this
    | ok s1 lg1 =>
      obtain ⟨rj, vj, lj, rfl, rfl⟩ := orun_valid (hreg.nrec (oj, j) hmj) (hs (oj, j) hmj) h1
      simp only at h
      have hs1 : SitesL cx fn (rj.apply oj.dst s) (L1 ++ (oi, i) :: L2) := by
        refine sites_keep (fun x hx => hs x (List.mem_cons_of_mem _ hx)) vj fun x hx l hl => hreg.site (oj, j) hmj x (List.mem_cons_of_mem _ hx) ?_ l hl
        rintro hh
        exact hnd.1 (List.mem_map.2 ⟨x, hx, hh.symm⟩)
      have hreg1 := hreg.sub (L' := L1 ++ (oi, i) :: L2) fun x hx => List.mem_cons_of_mem _ hx
      rcases moveFront hreg1 hnd.2 hs1 (fun x hx => ho x (List.mem_cons_of_mem _ hx)) h with ⟨ri, vi, li, hri, hev⟩ | ⟨v, h2, hk, hw, hst, hk2⟩
      · obtain ⟨q1, q2, q3, q4⟩ := swap hap hij hji (hs (oi, i) hmi) (hs (oj, j) hmj) vj lj vi li
        obtain ⟨rr, v', hl', e1, e2⟩ := orun_valid (hreg.nrec (oi, i) hmi) (hs (oi, i) hmi) (q1 [])
        refine .inl ⟨rr, v', hl', fun os => by rw [← e1, ← e2]; exact q1 os, ?_⟩
        rw [← e1, ← e2]
        rw [evalD_cons, q2]
        simp only [Option.bind_some]
        rw [q3]
        have hreg2 : RegOK cx fn ops bf (L1 ++ L2) := hreg1.sub fun x hx => by
          rcases List.mem_append.1 hx with hx | hx
          · exact List.mem_append_left _ hx
          · exact List.mem_append_right _ (List.mem_cons_of_mem _ hx)
        have hnd2 : ((L1 ++ L2).map (·.2)).Nodup := by
          have := hnd.2
          simp only [List.map_append, List.map_cons] at this ⊢
          exact List.Nodup.sublist (List.Sublist.append_left (List.sublist_cons_self _ _) _) this
        refine evalD_log hreg2 hnd2 ?_ q4 hev
        refine sites_keep (fun x hx => hs1 x (by
          rcases List.mem_append.1 hx with hx | hx
          · exact List.mem_append_left _ hx
          · exact List.mem_append_right _ (List.mem_cons_of_mem _ hx))) vi fun x hx l hl => ?_
        refine hreg.site (oi, i) hmi x (List.mem_cons_of_mem _ (by
          rcases List.mem_append.1 hx with hx | hx
          · exact List.mem_append_left _ hx
          · exact List.mem_append_right _ (List.mem_cons_of_mem _ hx))) ?_ l hl
        intro hh
        have hh : i = x.2 := hh
        have hn := hnd.2
        simp only [List.map_append, List.map_cons] at hn
        rw [List.nodup_append] at hn
        rcases List.mem_append.1 hx with hx | hx
        · exact hn.2.2 x.2 (List.mem_map.2 ⟨x, hx, rfl⟩) i (by simp) hh.symm
        · have := (List.nodup_cons.1 hn.2.1).1
          exact this (List.mem_map.2 ⟨x, hx, hh.symm⟩)
      · have hU : rj.hU = none := by
          cases hx : rj.hU with
          | none => rfl
          | some x => exact absurd ⟨hk, vj.kh (by rw [hx]; rfl)⟩ hap.k33
        have hna : NA ops oi s (rj.apply oj.dst s) := NA_apply hap.dj
        have hh : (rj.apply oj.dst s).h = s.h := by rw [apply_h, hU]
        -- the step at s
        have horun : orun cx fn F ops bf [] oi i lg (rj.apply oj.dst s) = some (.pan v (wipe ops.toList { rj.apply oj.dst s with h := h2 })) := by
          unfold orun
          rw [hw]
          simp only [Option.bind_some]
          have hcls : clsOf cx fn (rj.apply oj.dst s) oi = .eff := by
            simp only [clsOf, hk]
            split
            · rename_i l m ha
              have hc : clsOf cx fn (rj.apply oj.dst s) oi = .wx l := by simp [clsOf, hk, ha]
              obtain ⟨t, c, hh1, he, _⟩ := wx_step hc hst
              cases he
            · rename_i l m ha
              have hc : clsOf cx fn (rj.apply oj.dst s) oi = .wl l := by simp [clsOf, hk, ha]
              obtain ⟨t, c, c', he, _⟩ := wl_step hc hst
              cases he
            · rfl
          rw [dstep, hcls]
          simp only [hst, Option.bind_some]
          rfl
        obtain ⟨h3, _, _, e3, hst3, _, hag⟩ := orun_pan (hreg.nrec (oi, i) hmi) horun
        have hag := hag s hna.symm hh.symm lg [] (fun x hx => by cases hx)
        obtain ⟨h4, _, _, e4, hst4, hw4, _⟩ := orun_pan (hreg.nrec (oi, i) hmi) hag
        have e5 : h3 = h2 := by
          rw [hst] at hst3
          injection hst3 with hst3
          injection hst3 with _ hst3
          have := congrArg St.h hst3
          exact this.symm
        subst e5
        have e6 : h4 = h3 := by
          have := congrArg St.h e4
          exact this.symm
        subst e6
        refine .inr ⟨v, h4, hk, hw4, hst4, ?_⟩
        rw [← hk2]
        rw [wipe_apply hU (hreg.dst (oj, j) hmj)]
end
end Go.Proofs.YtahbihcbidkbaaaGreat.Ev

/-
  Regions whose order is open: lists of what remains; what stands ahead of what.
-/
set_option linter.unusedVariables false
namespace Go.Proofs.YtahbihcbidkbaaaGreat.Ev
open Go

/-! ### What remains -/
def remF (listed : Array Bool) (l : List Oper) (n : Nat) : List (Oper × Nat) := (l.zipIdx n).filter fun x => !(listed.getD x.2 true)

theorem remF_cons (listed : Array Bool) (o : Oper) (l : List Oper) (n : Nat) : remF listed (o :: l) n = if listed.getD n true then remF listed l (n + 1) else (o, n) :: remF listed l (n + 1) := by
  simp only [remF, List.zipIdx_cons, List.filter_cons]
  cases listed.getD n true <;> simp

theorem getD_set_other {listed : Array Bool} {m x : Nat} {d : Bool} (h : m ≠ x) : (listed.setIfInBounds m true).getD x d = listed.getD x d := by
  simp only [Array.getD_eq_getD_getElem?, Array.getElem?_setIfInBounds, h, if_false]

theorem remF_later {listed : Array Bool} {m : Nat} : ∀ {l : List Oper} {n : Nat}, m < n → remF (listed.setIfInBounds m true) l n = remF listed l n
  | [], n, _ => rfl
  | o :: l, n, h => by
    rw [remF_cons, remF_cons, getD_set_other (by omega), remF_later (l := l) (n := n + 1) (by omega)]

theorem remF_split {listed : Array Bool} {oi : Oper} : ∀ {l : List Oper} {n i : Nat}, l[i]? = some oi → listed.getD (n + i) true = false → n + i < listed.size →
    ∃ L1 L2, remF listed l n = L1 ++ (oi, n + i) :: L2 ∧ (∀ x ∈ L1, x.2 < n + i) ∧ remF (listed.setIfInBounds (n + i) true) l n = L1 ++ L2
  | [], n, i, h, _, _ => by simp at h
  | o :: l, n, 0, h, hl, hs => by
    simp at h
    subst h
    refine ⟨[], remF listed l (n + 1), ?_, by simp, ?_⟩
    · rw [remF_cons]
      simp only [Nat.add_zero] at hl
      rw [hl]; simp
    · rw [remF_cons]
      have : (listed.setIfInBounds (n + 0) true).getD n true = true := by
        simp only [Nat.add_zero] at hs ⊢
        simp [Array.getD_eq_getD_getElem?, hs]
      rw [this]
      simp only [if_true, List.nil_append]
      exact remF_later (by omega)
  | o :: l, n, i + 1, h, hl, hs => by
    simp at h
    obtain ⟨L1, L2, e1, e2, e3⟩ := remF_split (listed := listed) (n := n + 1) (i := i) h (by rw [show n + 1 + i = n + (i + 1) by omega]; exact hl) (by omega)
    rw [show n + 1 + i = n + (i + 1) by omega] at e1 e2 e3
    rw [remF_cons, remF_cons, getD_set_other (by omega)]
    split
    · exact ⟨L1, L2, e1, e2, e3⟩
    · refine ⟨(o, n) :: L1, L2, by rw [e1]; rfl, ?_, by rw [e3]; rfl⟩
      intro x hx
      cases hx with
      | head => simp only; omega
      | tail _ hx => exact e2 x hx

theorem mem_remF {listed : Array Bool} {l : List Oper} {x : Oper × Nat} (h : x ∈ remF listed l 0) : l[x.2]? = some x.1 ∧ listed.getD x.2 true = false := by
  unfold remF at h
  obtain ⟨h1, h2⟩ := List.mem_filter.1 h
  have h3 := List.mem_zipIdx_iff_getElem?.1 h1
  exact ⟨h3, by simpa using h2⟩

theorem remF_nodup {listed : Array Bool} : ∀ {l : List Oper} {n : Nat}, ((remF listed l n).map (·.2)).Nodup ∧ ∀ x ∈ remF listed l n, n ≤ x.2
  | [], n => ⟨List.nodup_nil, fun x hx => by cases hx⟩
  | o :: l, n => by
    obtain ⟨h1, h2⟩ := remF_nodup (listed := listed) (l := l) (n := n + 1)
    rw [remF_cons]
    split
    · exact ⟨h1, fun x hx => by have := h2 x hx; omega⟩
    · refine ⟨?_, fun x hx => ?_⟩
      · simp only [List.map_cons, List.nodup_cons]
        refine ⟨fun hm => ?_, h1⟩
        obtain ⟨x, hx, he⟩ := List.mem_map.1 hm
        have := h2 x hx
        omega
      · cases hx with
        | head => exact Nat.le_refl _
        | tail _ hx => have := h2 x hx; omega

/-! ### What stands ahead of what -/
def stepB (acc : Array Nat) (o : Oper) : Array Nat := acc.push (o.after.foldl (fun s e => if Region.binds .any e then s ||| 2 ^ e.on ||| acc.getD e.on 0 else s) 0)

theorem before_eq (ops : Array Oper) : Region.before ops = ops.toList.foldl stepB #[] := by
  unfold Region.before
  rw [← Array.foldl_toList]
  rfl

theorem foldB_size : ∀ (l : List Oper) (acc : Array Nat), (l.foldl stepB acc).size = acc.size + l.length
  | [], acc => by simp
  | o :: l, acc => by simp only [List.foldl_cons, foldB_size l, stepB, Array.size_push, List.length_cons]; omega

theorem foldB_old : ∀ (l : List Oper) (acc : Array Nat) (m : Nat), m < acc.size → (l.foldl stepB acc).getD m 0 = acc.getD m 0
  | [], acc, m, h => rfl
  | o :: l, acc, m, h => by
    simp only [List.foldl_cons]
    rw [foldB_old l _ m (by simp [stepB]; omega)]
    simp only [stepB, Array.getD_eq_getD_getElem?, Array.getElem?_push, show m ≠ acc.size by omega, if_false]

theorem orBits (g : Nat → Nat) (m : Nat) : ∀ (es : List Edge) (s0 : Nat), (es.foldl (fun s e => if Region.binds .any e then s ||| 2 ^ e.on ||| g e.on else s) s0).testBit m = true →
    s0.testBit m = true ∨ ∃ e ∈ es, Region.binds .any e = true ∧ (e.on = m ∨ (g e.on).testBit m = true)
  | [], s0, h => .inl h
  | e :: es, s0, h => by
    simp only [List.foldl_cons] at h
    rcases orBits g m es _ h with h | ⟨e', he, hb, hc⟩
    · split at h
      · rename_i hb
        simp only [Nat.testBit_or, Bool.or_eq_true, Nat.testBit_two_pow] at h
        rcases h with (h | h) | h
        · exact .inl h
        · exact .inr ⟨e, by simp, hb, .inl (by simpa using h)⟩
        · exact .inr ⟨e, by simp, hb, .inr h⟩
      · exact .inl h
    · exact .inr ⟨e', List.mem_cons_of_mem _ he, hb, hc⟩

theorem foldB_bits : ∀ (l : List Oper) (acc : Array Nat) (k m : Nat), ((l.foldl stepB acc).getD (acc.size + k) 0).testBit m = true →
    ∃ o, l[k]? = some o ∧ ∃ e ∈ o.after.toList, Region.binds .any e = true ∧ (e.on = m ∨ ((l.foldl stepB acc).getD e.on 0).testBit m = true)
  | [], acc, k, m, h => by
    simp [Array.getD_eq_getD_getElem?] at h
  | o :: l, acc, 0, m, h => by
    refine ⟨o, rfl, ?_⟩
    simp only [List.foldl_cons, Nat.add_zero] at h ⊢
    have hb : (l.foldl stepB (stepB acc o)).getD acc.size 0 = o.after.foldl (fun s e => if Region.binds .any e then s ||| 2 ^ e.on ||| acc.getD e.on 0 else s) 0 := by
      rw [foldB_old l _ acc.size (by simp [stepB])]
      simp [stepB, Array.getD_eq_getD_getElem?]
    rw [hb, ← Array.foldl_toList] at h
    rcases orBits (fun j => acc.getD j 0) m o.after.toList 0 h with h | ⟨e, he, hbd, hc⟩
    · simp at h
    · refine ⟨e, he, hbd, hc.imp id fun hc => ?_⟩
      have hlt : e.on < acc.size := by
        rcases Nat.lt_or_ge e.on acc.size with h | h
        · exact h
        · simp [Array.getD_eq_getD_getElem?, Array.getElem?_eq_none h] at hc
      rw [foldB_old l _ e.on (by simp [stepB]; omega)]
      simp only [stepB, Array.getD_eq_getD_getElem?, Array.getElem?_push, show e.on ≠ acc.size by omega, if_false]
      simpa [Array.getD_eq_getD_getElem?] using hc
  | o :: l, acc, k + 1, m, h => by
    simp only [List.foldl_cons] at h ⊢
    have hs : (stepB acc o).size = acc.size + 1 := by simp [stepB]
    obtain ⟨o', h1, h2⟩ := foldB_bits l (stepB acc o) k m (by rw [hs, show acc.size + 1 + k = acc.size + (k + 1) by omega]; exact h)
    exact ⟨o', by simpa using h1, h2⟩

theorem before_bits {ops : Array Oper} {j m : Nat} (h : ((Region.before ops).getD j 0).testBit m = true) :
    ∃ o, ops[j]? = some o ∧ ∃ e ∈ o.after.toList, Region.binds .any e = true ∧ (e.on = m ∨ ((Region.before ops).getD e.on 0).testBit m = true) := by
  rw [before_eq] at h ⊢
  obtain ⟨o, h1, h2⟩ := foldB_bits ops.toList #[] j m (by simpa using h)
  exact ⟨o, by simpa using h1, h2⟩

/-- Edges lead back. -/
def Back (ops : Array Oper) : Prop := ∀ j o, ops[j]? = some o → ∀ e ∈ o.after.toList, Region.binds .any e = true → e.on < j

theorem bits_lt {ops : Array Oper} (hb : Back ops) : ∀ (j m : Nat), ((Region.before ops).getD j 0).testBit m = true → m < j := by
  intro j
  induction j using Nat.strongRecOn with
  | _ j ih =>
    intro m h
    obtain ⟨o, ho, e, he, hbd, hc⟩ := before_bits h
    have hlt := hb j o ho e he hbd
    rcases hc with rfl | hc
    · exact hlt
    · exact Nat.lt_trans (ih e.on hlt m hc) hlt

/-- What is listed is shut: with an operation all that stands ahead of it. -/
def Shut (ops : Array Oper) (listed : Array Bool) : Prop := ∀ j o, ops[j]? = some o → listed.getD j false = true → ∀ e ∈ o.after.toList, Region.binds .any e = true → listed.getD e.on false = true

theorem bits_listed {ops : Array Oper} (hb : Back ops) {listed : Array Bool} (hs : Shut ops listed) : ∀ (i m : Nat) (o : Oper), ops[i]? = some o → (∀ e ∈ o.after.toList, Region.binds .any e = true → listed.getD e.on false = true) →
    ((Region.before ops).getD i 0).testBit m = true → listed.getD m false = true := by
  intro i
  induction i using Nat.strongRecOn with
  | _ i ih =>
    intro m o ho hall h
    obtain ⟨o', ho', e, he, hbd, hc⟩ := before_bits h
    rw [ho] at ho'; cases ho'
    have hl := hall e he hbd
    rcases hc with rfl | hc
    · exact hl
    · obtain ⟨o2, ho2, _⟩ := before_bits hc
      exact ih e.on (hb i o ho e he hbd) m o2 ho2 (fun e' he' hbd' => hs e.on o2 ho2 hl e' he' hbd') hc
end Go.Proofs.YtahbihcbidkbaaaGreat.Ev

/-
  Regions whose order is open: what the evaluator makes of them is what the calculus says.
-/
set_option linter.unusedVariables false
namespace Go.Proofs.YtahbihcbidkbaaaGreat.Ev
open Go

/-- A world that has drawn. -/
theorem SR.drew {E : Start} {e : Env} {le : Nat → Option Nat} {s : St} {a : Act} {w w' : World} (k : SR E e le s a w) (h1 : w'.heap = w.heap) (h2 : w'.os = w.os) (h3 : w'.tape = w.tape) (h4 : w'.output = w.output) : SR E e le s a w' := by
  refine ⟨k.tms, k.heap.sameHeap h1, ⟨k.tr.ext, by rw [h1]; exact k.tr.size, fun β hβ hn => by rw [h1]; exact k.tr.frame β hβ hn, k.tr.old, h2.trans k.tr.os, h3.trans k.tr.tape, h4.trans k.tr.output⟩, ?_, k.apart, k.dfs⟩
  intro l cs hc
  obtain ⟨β, m1, m2, m3, m4, m5⟩ := k.loc l cs hc
  exact ⟨β, m1, m2.mono (Env.le_refl e) (by rw [h1]), m3, by rw [h1]; exact m4, m5⟩

theorem promote1_R {e : Env} {le : Nat → Option Nat} {l b β κ : Nat} (hβ : le l = some β) (hb : e b = some ⟨β, 0, κ, 1⟩) : ∀ {ts : List Tm} {vs : List Value}, TmsR e le ts vs → TmsR e le (promote1 l b ts) vs
  | [], [], _ => trivial
  | [], _ :: _, h => h.elim
  | _ :: _, [], h => h.elim
  | t :: ts, v :: vs, ⟨h1, h2⟩ => by
    refine ⟨?_, promote1_R hβ hb h2⟩
    cases t with
    | undef => exact h1
    | val a => exact h1
    | lptr l' o =>
      simp only
      by_cases hl : l' = l
      · subst hl
        rw [nbeq_self]
        obtain ⟨β', q1, q2⟩ := h1
        rw [hβ] at q1; cases q1
        simp only [TmR, conc, hb, q2]
        simp
      · rw [nbeq_ne hl]; exact h1
    | lsl l' n =>
      simp only
      by_cases hl : l' = l
      · subst hl; rw [nbeq_self]; trivial
      · rw [nbeq_ne hl]; exact h1

theorem promote_R {E : Start} {locs : List Tmp} : ∀ {ts : List Tmp} {e : Env} {le : Nat → Option Nat} {s : St} {a : Act} {w : World}, SR E e le s a w → ∃ e', SR E e' le (promote locs ts s) a w ∧ (promote locs ts s).rc = s.rc
  | [], e, le, s, a, w, k => ⟨e, k, rfl⟩
  | t :: ts, e, le, s, a, w, k => by
    simp only [promote]
    split
    · rename_i l hl
      split
      · rename_i cs hcs
        obtain ⟨β, hβ, _⟩ := k.loc l cs hcs
        have k1 := k.promote (κ := cs.length) (z := 1) hcs hβ (Nat.mul_one _)
        have k2 : SR E (e.upd s.h.next ⟨β, 0, cs.length, 1⟩) le { s with tm := promote1 l s.h.next s.tm, h := s.h.push (.cells cs 1), lc := s.lc.set l none } a w :=
          ⟨promote1_R (κ := cs.length) hβ (by simp [Env.upd]) k1.tms, k1.heap, k1.tr, k1.loc, k1.apart, k1.dfs⟩
        exact promote_R k2
      · exact promote_R k
    · exact promote_R k

theorem foldW : ∀ (os : List Oper) (ts us : List Tm), TmsW ts us → TmsW (os.foldl unsetT ts) us
  | [], ts, us, h => h
  | o :: os, ts, us, h => by
    simp only [List.foldl_cons]
    refine foldW os _ us ?_
    unfold unsetT
    split
    · rename_i d hd
      have go : ∀ (ts us : List Tm) (d : Nat), TmsW ts us → TmsW (ts.set d .undef) us := by
        intro ts
        induction ts with
        | nil => intro us d h; exact h
        | cons t ts ih =>
          intro us d h
          cases us with
          | nil => exact h.elim
          | cons u us =>
            cases d with
            | zero => exact ⟨trivial, h.2⟩
            | succ d => exact ⟨h.1, ih us d h.2⟩
      exact go ts us d h
    · exact h

theorem nonesL_W : ∀ (lc : List (Option (List AV))), LcW (nonesL lc) lc
  | [] => trivial
  | c :: cs => ⟨.inl rfl, nonesL_W cs⟩

theorem wipe_R {E : Start} {e : Env} {le : Nat → Option Nat} {s : St} {a : Act} {w : World} (k : SR E e le s a w) (os : List Oper) : SR E e le (wipe os s) a w :=
  k.weak (foldW os _ _ (TmsW.refl s.tm)) (nonesL_W s.lc) rfl rfl

section
variable {cx : Ctx} {fn : FuncId} {F : Fns} {ops : Array Oper}

theorem orun_step {bf : Array Nat} {os : List (Oper × Nat)} {o : Oper} {j : Nat} {lg lg1 : List Lg} {s s1 : St} (h : orun cx fn F ops bf os o j lg s = some (.ok s1 lg1)) :
    (wantedB ops o s = some false ∧ s1 = putT o.dst .undef s) ∨ (wantedB ops o s = some true ∧ ∃ t s2, stepOp cx fn F o s = some (.ok t s2) ∧ s1 = putT o.dst t s2) := by
  unfold orun at h
  obtain ⟨w, hw, h⟩ := bind_inv h
  cases w with
  | false => simp only at h; cases h; exact .inl ⟨hw, rfl⟩
  | true =>
    refine .inr ⟨hw, ?_⟩
    simp only at h
    have nq : ∀ lg', ((stepOp cx fn F o s).bind (quiet o.dst lg')) = some (.ok s1 lg1) → ∃ t s2, stepOp cx fn F o s = some (.ok t s2) ∧ s1 = putT o.dst t s2 := by
      intro lg' hh
      obtain ⟨out, h1, hh⟩ := bind_inv hh
      cases out with
      | ok t s2 => cases hh; exact ⟨t, s2, h1, rfl⟩
      | pan v s2 => cases hh
    unfold dstep at h
    split at h
    · exact nq _ h
    · exact nq _ h
    · exact nq _ h
    · rename_i f g hc
      obtain ⟨xs, hx, h⟩ := bind_inv h
      obtain ⟨_, h⟩ := wasSame_inv h
      obtain ⟨t, ht, h⟩ := bind_inv h
      cases h
      exact ⟨t, s, by rw [rd_step hc, hx]; simp [ht], rfl⟩
    · split at h
      · exact nq _ h
      · cases h
    · obtain ⟨out, h1, h⟩ := bind_inv h
      cases out with
      | ok t s2 =>
        simp only at h
        obtain ⟨_, h⟩ := stillSame_inv h
        cases h
        exact ⟨t, s2, h1, rfl⟩
      | pan v s2 => simp only at h; split at h <;> cases h
    · split at h
      · exact nq _ h
      · cases h
    · split at h
      · obtain ⟨out, h1, h⟩ := bind_inv h
        cases out with
        | ok t s2 =>
          simp only at h
          obtain ⟨_, h⟩ := stillSame_inv h
          cases h
          exact ⟨t, s2, h1, rfl⟩
        | pan v s2 => cases h
      · cases h
    · cases h

theorem drawOk_inv (h : drawOk cx.P (cx.locs fn) ops (Region.before ops) = true) : Back ops ∧ ∀ i j oi oj, ops[i]? = some oi → ops[j]? = some oj → i ≠ j → open2 (Region.before ops) i j = true →
    ¬ (kindOf cx.P (cx.locs fn) oi = 3 ∧ kindOf cx.P (cx.locs fn) oj = 3) ∧ ¬ (kindOf cx.P (cx.locs fn) oi = 4 ∧ kindOf cx.P (cx.locs fn) oj = 3) ∧ ¬ (kindOf cx.P (cx.locs fn) oi = 3 ∧ kindOf cx.P (cx.locs fn) oj = 4) ∧
      (∀ d, oi.dst = some d → d ∉ namesOf ops oj) ∧ (∀ d, oj.dst = some d → d ∉ namesOf ops oi) := by
  unfold drawOk at h
  simp only [Bool.and_eq_true] at h
  obtain ⟨h1, h2⟩ := h
  have mem : ∀ {j : Nat} {o : Oper}, ops[j]? = some o → (o, j) ∈ ops.toList.zipIdx := fun h => List.mem_zipIdx_iff_getElem?.2 (by simpa using h)
  constructor
  · intro j o ho e he hb
    have := List.all_eq_true.1 h1 _ (mem ho)
    simp only [Bool.and_eq_true] at this
    have := Array.all_eq_true'.1 this.1 e (by simpa using he)
    simp only [hb, Bool.not_true, Bool.false_or] at this
    exact of_decide_eq_true this
  · have key : ∀ i j oi oj, ops[i]? = some oi → ops[j]? = some oj → i < j → open2 (Region.before ops) i j = true →
        ¬ (kindOf cx.P (cx.locs fn) oi = 3 ∧ kindOf cx.P (cx.locs fn) oj = 3) ∧ ¬ (kindOf cx.P (cx.locs fn) oi = 4 ∧ kindOf cx.P (cx.locs fn) oj = 3) ∧ ¬ (kindOf cx.P (cx.locs fn) oi = 3 ∧ kindOf cx.P (cx.locs fn) oj = 4) ∧
          (∀ d, oi.dst = some d → d ∉ namesOf ops oj) ∧ (∀ d, oj.dst = some d → d ∉ namesOf ops oi) := by
      intro i j oi oj hi hj hlt ho
      have := List.all_eq_true.1 (List.all_eq_true.1 h2 _ (mem hj)) _ (mem hi)
      simp only [hlt, decide_true, Bool.not_true, Bool.false_or, ho, Bool.and_eq_true] at this
      obtain ⟨⟨⟨⟨c1, c2⟩, c3⟩, c4⟩, c5⟩ := this
      refine ⟨?_, ?_, ?_, ?_, ?_⟩
      · rintro ⟨a, b⟩; simp [a, b] at c1
      · rintro ⟨a, b⟩; simp [a, b] at c3
      · rintro ⟨a, b⟩; simp [a, b] at c2
      · intro d hd hm
        rw [hd] at c5
        simp only at c5
        have := List.contains_iff_mem.2 hm
        simp [hm] at c5
      · intro d hd hm
        rw [hd] at c4
        simp only at c4
        simp [hm] at c4
    intro i j oi oj hi hj hne ho
    rcases Nat.lt_or_gt_of_ne hne with hlt | hgt
    · exact key i j oi oj hi hj hlt ho
    · obtain ⟨a, b, c, d, e⟩ := key j i oj oi hj hi hgt (by rw [open2_symm]; exact ho)
      exact ⟨fun q => a ⟨q.2, q.1⟩, fun q => c ⟨q.2, q.1⟩, fun q => b ⟨q.2, q.1⟩, e, d⟩

theorem sitesOk_inv {locs : List Tmp} {tm : List Tm} : ∀ {l : List Oper}, sitesOk locs tm l = true → (∀ o ∈ l, ∀ q, siteOf locs o = some q → leads q tm = false) ∧
    ∀ (i j : Nat) (oi oj : Oper), i < j → l[i]? = some oi → l[j]? = some oj → ∀ q, siteOf locs oi = some q → siteOf locs oj ≠ some q
  | [], _ => ⟨fun o ho => (by cases ho), fun i j oi oj hh h => (by simp at h)⟩
  | o :: os, h => by
    simp only [sitesOk, Bool.and_eq_true] at h
    obtain ⟨h1, h2⟩ := h
    obtain ⟨q1, q2⟩ := sitesOk_inv h2
    constructor
    · intro o' ho q hq
      cases ho with
      | head =>
        rw [hq] at h1
        simp only [Bool.and_eq_true] at h1
        simpa using h1.1
      | tail _ ho => exact q1 o' ho q hq
    · intro i j oi oj hlt hi hj q hq hq'
      cases i with
      | zero =>
        simp at hi
        subst hi
        rw [hq] at h1
        simp only [Bool.and_eq_true] at h1
        cases j with
        | zero => omega
        | succ j =>
          simp at hj
          have := List.all_eq_true.1 h1.2 oj (List.mem_of_getElem? hj)
          simp [hq'] at this
      | succ i =>
        cases j with
        | zero => omega
        | succ j =>
          simp at hi hj
          exact q2 i j oi oj (by omega) hi hj q hq hq'

theorem anyIn_sound (hF : FnsOK cx F) {E : Start} {ro : Option Nat} {n : Nat} (hno : ∀ o ∈ ops.toList, noRecOp o = true) (hd : ro = none ∨ ∀ o ∈ ops.toList, isDefer o = false) (hback : Back ops)
    (hreg : RegOK cx fn ops (Region.before ops) ops.toList.zipIdx) {k : Ex → St → R} {r : Fin × Heap × Option (Option AV)} {rc0 : Option (Option AV)} :
    ∀ (fuel : Nat) (listed : Array Bool) (s : St) (e : Env) (le : Nat → Option Nat) (a : Act) (w : World) (lg : List Lg), listed.size = ops.size → Shut ops listed → (remF listed ops.toList 0).length = fuel → SitesL cx fn s (remF listed ops.toList 0) →
      SR E e le s a w → s.rc = rc0 → evalD cx fn F ops (Region.before ops) k (remF listed ops.toList 0) lg s = some r →
        wpAnyIn (Fw ro) n cx.P .any ops (Post E rc0 k r) fuel listed a w
  | 0, listed, s, e, le, a, w, lg, hsz, hsh, hfu, hst, hk, hrc, h => by
    have hnil := List.length_eq_zero_iff.1 hfu
    rw [hnil] at h
    refine ⟨?_, Post.of hk hrc (x := .normal) trivial h⟩
    refine List.eq_nil_iff_forall_not_mem.2 fun i hi => ?_
    obtain ⟨h1, o, ho, _⟩ := mem_ready.1 hi
    have hlt : i < ops.size := (Array.getElem?_eq_some_iff.1 ho).1
    obtain ⟨L1, L2, e1, _, _⟩ := remF_split (listed := listed) (oi := o) (l := ops.toList) (n := 0) (i := i) (by simpa using ho) (by simpa using h1) (by omega)
    rw [hnil] at e1
    have := congrArg List.length e1
    simp at this
  | fuel + 1, listed, s, e, le, a, w, lg, hsz, hsh, hfu, hst, hk, hrc, h => by
    constructor
    · -- something is ready
      intro hnil
      exfalso
      have : ∃ i, listed.getD i true = false ∧ i < ops.size := by
        cases hr : remF listed ops.toList 0 with
        | nil => rw [hr] at hfu; simp at hfu
        | cons x L =>
          obtain ⟨q1, q2⟩ := mem_remF (x := x) (by rw [hr]; simp)
          exact ⟨x.2, q2, by have := (List.getElem?_eq_some_iff.1 q1).1; simpa using this⟩
      have least : ∃ i, (listed.getD i true = false ∧ i < ops.size) ∧ ∀ j, j < i → ¬ (listed.getD j true = false ∧ j < ops.size) := by
        obtain ⟨i, hi⟩ := this
        induction i using Nat.strongRecOn with
        | _ i ih =>
          by_cases hx : ∃ j, j < i ∧ (listed.getD j true = false ∧ j < ops.size)
          · obtain ⟨j, hj, hp⟩ := hx; exact ih j hj hp
          · exact ⟨i, hi, fun j hj hp => hx ⟨j, hj, hp⟩⟩
      obtain ⟨i, ⟨h1, h2⟩, h3⟩ := least
      have hmem : i ∈ Region.ready .any ops listed := by
        refine mem_ready.2 ⟨h1, ops[i], by simp [h2], fun ed he hb => ?_⟩
        have hlt := hback i ops[i] (by simp [h2]) ed (by simpa using he) hb
        have := h3 ed.on hlt
        have hl : ed.on < listed.size := by omega
        simp only [Array.getD_eq_getD_getElem?, Array.getElem?_eq_getElem hl, Option.getD_some] at this ⊢
        cases hx : listed[ed.on] with
        | true => rfl
        | false => exact absurd ⟨hx, by omega⟩ this
      rw [hnil] at hmem
      cases hmem
    · intro i hi
      obtain ⟨h1, o, ho, hall⟩ := mem_ready.1 hi
      have hlt : i < ops.size := (Array.getElem?_eq_some_iff.1 ho).1
      have hmemo : o ∈ ops.toList := List.mem_of_getElem? (by simpa using ho : ops.toList[i]? = some o)
      obtain ⟨L1, L2, e1, e2, e3⟩ := remF_split (listed := listed) (oi := o) (l := ops.toList) (n := 0) (i := i) (by simpa using ho) (by simpa using h1) (by omega)
      simp only [Nat.zero_add] at e1 e2 e3
      have hsub : ∀ x ∈ remF listed ops.toList 0, x ∈ ops.toList.zipIdx := fun x hx => (List.mem_filter.1 hx).1
      have hregL : RegOK cx fn ops (Region.before ops) (L1 ++ (o, i) :: L2) := hreg.sub fun x hx => hsub x (e1 ▸ hx)
      have hnd : ((L1 ++ (o, i) :: L2).map (·.2)).Nodup := by rw [← e1]; exact remF_nodup.1
      have hopen : ∀ x ∈ L1, open2 (Region.before ops) i x.2 = true := by
        intro x hx
        have hx2 := e2 x hx
        obtain ⟨_, hun⟩ := mem_remF (x := x) (by rw [e1]; exact List.mem_append_left _ hx)
        unfold open2
        rw [Bool.and_eq_true]
        constructor
        · cases hb : ((Region.before ops).getD x.2 0).testBit i with
          | false => rfl
          | true => have := bits_lt hback x.2 i hb; omega
        · cases hb : ((Region.before ops).getD i 0).testBit x.2 with
          | false => rfl
          | true =>
            have hl := bits_listed hback hsh i x.2 o ho (fun ed he hbd => hall ed (by simpa using he) hbd) hb
            have hxs : x.2 < listed.size := by omega
            simp only [Array.getD_eq_getD_getElem?, Array.getElem?_eq_getElem hxs, Option.getD_some] at hl hun
            rw [hl] at hun; cases hun
      rw [e1] at h
      have hst' : SitesL cx fn s (L1 ++ (o, i) :: L2) := e1 ▸ hst
      -- what is listed behind it
      have hsz' : (listed.setIfInBounds i true).size = ops.size := by simp [hsz]
      have hsh' : Shut ops (listed.setIfInBounds i true) := by
        intro j oj hj hl ed he hbd
        have hon : ed.on < ops.size := by
          have := hback j oj hj ed he hbd
          have := (Array.getElem?_eq_some_iff.1 hj).1
          omega
        by_cases hij : i = j
        · subst hij
          rw [ho] at hj; cases hj
          have hne : i ≠ ed.on := by have := hback i o ho ed he hbd; omega
          rw [getD_set_other hne]
          exact hall ed (by simpa using he) hbd
        · rw [getD_set_other hij] at hl
          by_cases hie : i = ed.on
          · subst hie
            simp [Array.getD_eq_getD_getElem?, hsz, hon]
          · rw [getD_set_other hie]
            exact hsh j oj hj hl ed he hbd
      have hlen : (remF (listed.setIfInBounds i true) ops.toList 0).length = fuel := by
        rw [e3]
        rw [e1] at hfu
        simp at hfu ⊢
        omega
      unfold wpOpIn
      rw [ho]
      simp only
      rcases moveFront hregL hnd hst' hopen h with ⟨ri, vi, li, hri, hev⟩ | ⟨v, h2, hkd, hw, hstp, hk2⟩
      · have hst2 : SitesL cx fn (ri.apply o.dst s) (L1 ++ L2) := by
          refine sites_keep (fun x hx => hst' x (by
            rcases List.mem_append.1 hx with hx | hx
            · exact List.mem_append_left _ hx
            · exact List.mem_append_right _ (List.mem_cons_of_mem _ hx))) vi fun x hx l hl => ?_
          have hxL : x ∈ L1 ++ (o, i) :: L2 := by
            rcases List.mem_append.1 hx with hx | hx
            · exact List.mem_append_left _ hx
            · exact List.mem_append_right _ (List.mem_cons_of_mem _ hx)
          refine hregL.site (o, i) (by simp) x hxL ?_ l hl
          intro hh
          have hh : i = x.2 := hh
          have hn := hnd
          simp only [List.map_append, List.map_cons] at hn
          rw [List.nodup_append] at hn
          rcases List.mem_append.1 hx with hx | hx
          · exact hn.2.2 x.2 (List.mem_map.2 ⟨x, hx, rfl⟩) i (by simp) hh.symm
          · exact (List.nodup_cons.1 hn.2.1).1 (List.mem_map.2 ⟨x, hx, hh.symm⟩)
        have ih : ∀ {e' : Env} {le' : Nat → Option Nat} {a' : Act} {w' : World}, SR E e' le' (ri.apply o.dst s) a' w' → wpAnyIn (Fw ro) n cx.P .any ops (Post E rc0 k r) fuel (listed.setIfInBounds i true) a' w' := by
          intro e' le' a' w' hk'
          exact anyIn_sound hF hno hd hback hreg fuel _ (ri.apply o.dst s) e' le' a' w' _ hsz' hsh' hlen (by rw [e3]; exact hst2) hk' (by rw [apply_rc]; exact hrc) (by rw [e3]; exact hev)
        rcases orun_step (hri []) with ⟨hw, hs1⟩ | ⟨hw, t, s2, hstp, hs1⟩
        · have hwm := wantedK_inv (ρ := Bool) hk (f := fun b _ => some b) hw
          injection hwm with hwm
          rw [hwm]
          simp only [Bool.false_eq_true, if_false]
          refine ⟨fun _ _ => trivial, ih (e' := e) (le' := le) ?_⟩
          rw [hs1]
          exact hk.skip o.dst undef
        · have hwm := wantedK_inv (ρ := Bool) hk (f := fun b _ => some b) hw
          injection hwm with hwm
          rw [hwm]
          simp only [if_true]
          refine op_sound hF hk (hno o hmemo) (hd.imp id fun hd => hd o hmemo) hstp ?_ ?_
          · intro t' s' a' w' e' le' v' hx hk' hta htm hrc'
            cases hx
            refine ih (e' := e') (le' := le') ?_
            rw [hs1]
            exact hk'.put o.dst htm
          · intro v' s' w' e' le' V hx
            cases hx
      · have hwm := wantedK_inv (ρ := Bool) hk (f := fun b _ => some b) hw
        injection hwm with hwm
        rw [hwm]
        simp only [if_true]
        refine op_sound hF hk (hno o hmemo) (hd.imp id fun hd => hd o hmemo) hstp ?_ ?_
        · intro t' s' a' w' e' le' v' hx
          cases hx
        · intro v' s' w' e' le' V hx hk' hV hrc'
          cases hx
          exact Post.of (wipe_R hk' ops.toList) (hrc'.trans hrc) (x := .panic v) ⟨V, hV, rfl⟩ hk2
end

theorem draw_sound {cx : Ctx} (hX : CxOK cx) : DrawSound cx := by
  intro fn F ops id E e le s a w ro n k r hF hno hd hk h
  simp only [evalRegion] at h
  split at h
  · cases h
  · rename_i hok
    split at h
    · cases h
    · rename_i hsite
      obtain ⟨hback, hpair⟩ := drawOk_inv hok
      obtain ⟨hs1, hs2⟩ := sitesOk_inv hsite
      have mem : ∀ {x : Oper × Nat}, x ∈ ops.toList.zipIdx → ops[x.2]? = some x.1 := fun hx => by simpa using List.mem_zipIdx_iff_getElem?.1 hx
      have memo : ∀ {x : Oper × Nat}, x ∈ ops.toList.zipIdx → x.1 ∈ ops.toList := fun hx => List.mem_of_getElem? (List.mem_zipIdx_iff_getElem?.1 hx)
      have hsd : ∀ x ∈ ops.toList.zipIdx, ∀ y ∈ ops.toList.zipIdx, x.2 ≠ y.2 → ∀ l, siteOf (cx.locs fn) x.1 = some l → siteOf (cx.locs fn) y.1 ≠ some l := by
        intro x hx y hy hne l hl
        rcases Nat.lt_or_gt_of_ne hne with hlt | hgt
        · exact hs2 x.2 y.2 x.1 y.1 hlt (List.mem_zipIdx_iff_getElem?.1 hx) (List.mem_zipIdx_iff_getElem?.1 hy) l hl
        · intro hl'
          exact hs2 y.2 x.2 y.1 x.1 hgt (List.mem_zipIdx_iff_getElem?.1 hy) (List.mem_zipIdx_iff_getElem?.1 hx) l hl' hl
      have hreg : RegOK cx fn ops (Region.before ops) ops.toList.zipIdx := by
        refine ⟨fun x hx => hno x.1 (memo hx), fun x hx y hy hne ho => ?_, hsd, fun x hx d hd => ⟨x.1, memo hx, hd⟩⟩
        obtain ⟨a1, a2, a3, a4, a5⟩ := hpair x.2 y.2 x.1 y.1 (mem hx) (mem hy) hne ho
        exact ⟨a1, a2, a3, a4, a5, fun l hl => hsd x hx y hy hne l hl⟩
      have hev := evalDraw_D h
      have hrem : remF (Array.replicate ops.size false) ops.toList 0 = ops.toList.zipIdx := by
        unfold remF
        refine List.filter_eq_self.2 fun x hx => ?_
        have hlt : x.2 < ops.size := by have := (List.getElem?_eq_some_iff.1 (List.mem_zipIdx_iff_getElem?.1 hx)).1; simpa using this
        simp [Array.getD_eq_getD_getElem?, hlt]
      have hst : SitesL cx fn s ops.toList.zipIdx := fun x hx l hl => hs1 x.1 (memo hx) l hl
      have hshut : Shut ops (Array.replicate ops.size false) := by
        intro j o hj hl
        have hlt : j < ops.size := (Array.getElem?_eq_some_iff.1 hj).1
        simp [Array.getD_eq_getD_getElem?, hlt] at hl
      have hany := anyIn_sound (n := n) (rc0 := s.rc) hF hno hd hback hreg ops.size (Array.replicate ops.size false) s e le a { w with drawn := w.drawn + 1 } [] (by simp) hshut (by rw [hrem]; simp) (by rw [hrem]; exact hst)
        (hk.drew rfl rfl rfl rfl) rfl (by rw [hrem]; exact hev)
      refine wpIn_mono (wpIn_region_any hX.mixed hany) ?_
      rintro ex a' w' ⟨x, s', e', le', k1, k2, k3, k4⟩
      cases x with
      | normal =>
        cases ex <;> first | exact k3.elim | skip
        obtain ⟨e2, q1, q2⟩ := promote_R (locs := cx.locs fn) (ts := cx.flo fn id) k1
        exact Post.of q1 (q2.trans k2) (x := .normal) trivial k4
      | exit i => exact ⟨_, s', e', le', k1, k2, k3, k4⟩
      | goto i => exact ⟨_, s', e', le', k1, k2, k3, k4⟩
      | ret => exact ⟨_, s', e', le', k1, k2, k3, k4⟩
      | panic v => exact ⟨_, s', e', le', k1, k2, k3, k4⟩

/-- What the evaluator answers is what a call comes to. -/
theorem eval_sound {cx : Ctx} (hX : CxOK cx) {n : Nat} {f : FuncId} {fn : Func} (hf : cx.P.funcs[f]? = some fn) (hb : fn.body.isSome = true) {args : List AV} {h : Heap} {fin : Fin} {h' : Heap} {rc' : Option (Option AV)}
    (hc : (fns cx n).call f args h none = some (fin, h', rc')) {e : Env} {w : World} {vs : List Value} (hh : HR e h w) (ha : concL e args = some vs) : Calls cx.P f vs.toArray w (callPost e h w fin h') :=
  evalCall_sound hX (draw_sound hX) hf hb hc hh ha

#print axioms eval_sound
end Go.Proofs.YtahbihcbidkbaaaGreat.Ev
