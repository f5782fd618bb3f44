/-
  The closed facts of the program that the evaluator's soundness asks for; the run of the statement's function.
-/
import Derived.Test.YtahbihcbidkbaaaGreatJf
import Derived.Test.YtahbihcbidkbaaaGreatJt
import Derived.Test.YtahbihcbidkbaaaGreatChecked
import Derived.KernelRfl
import Derived.ChangeSame
set_option maxRecDepth 100000
namespace Go.Proofs.YtahbihcbidkbaaaGreat.Ev
open Go

/-- Names and bodies. -/
def ngOk (P : Program) : Bool := P.funcs.toList.all fun fn => fn.body.isNone || !(fn.name == "runtime.NumGoroutine")
def cloneOk (P : Program) (k : Nat) : Bool := P.funcs.toList.zipIdx.all fun x => x.1.body.isSome || !(x.1.name == "maps.clone") || Nat.beq x.2 k

theorem ng_ok : ngOk P = true := by kernel_rfl
theorem clone_ok : cloneOk P 138 = true := by kernel_rfl
theorem mixed_ok : P.follows .mixedOrders = true := by kernel_rfl
theorem find_next : (Extern.findNext Tryz.f138).isNone = true := by kernel_rfl
theorem find_clone : Extern.find Tryz.f138 = some Extern.MapsClone.clone := by kernel_rfl
theorem clone_ng : (Tryz.f138.name == "runtime.NumGoroutine") = false := by kernel_rfl

theorem toL {f : FuncId} {fn : Func} (hf : cx.P.funcs[f]? = some fn) : P.funcs.toList[f]? = some fn := by
  rw [Array.getElem?_toList]
  exact hf

theorem cx_ok : CxOK cx := by
  refine ⟨fun f fn hf hb => ?_, mixed_ok, fun f fn hf hb hn args w => ?_⟩
  · have h := List.all_eq_true.1 ng_ok fn (List.mem_of_getElem? (toL hf))
    have : fn.body.isNone = false := by cases hx : fn.body <;> simp_all
    simpa [this] using h
  · have h := List.all_eq_true.1 clone_ok (fn, f) (List.mem_zipIdx_iff_getElem?.2 (toL hf))
    have h1 : fn.body.isSome = false := by simp [hb]
    simp only [h1, hn, Bool.false_or, beq_self_eq_true, Bool.not_true] at h
    have := Nat.eq_of_beq_eq_true h
    subst this
    have e : fn = Tryz.f138 := by
      have h2 : P.funcs[138]? = some Tryz.f138 := Tryz.func138
      have h3 : P.funcs[138]? = some fn := hf
      rw [h2] at h3
      injection h3 with h3
      exact h3.symm
    subst e
    have n1 := clone_ng
    have n2 : Extern.findNext Tryz.f138 = none := by
      have := find_next
      cases hx : Extern.findNext Tryz.f138 with
      | none => rfl
      | some v => rw [hx] at this; cases this
    have hf' : P.funcs[138]? = some Tryz.f138 := hf
    have n1' : ¬ Tryz.f138.name = "runtime.NumGoroutine" := by simpa using n1
    simp [callFunc, program, Sem.run, cx, hf', n1', hb, n2, find_clone, mark]


theorem HR_empty (w : World) : HR (fun _ => none) Heap.empty w :=
  ⟨fun b s x h => (by cases h), fun b b' s s' x x' h => (by cases h), fun b s h => (by cases h), fun b _ => ⟨rfl, Tree.get_leaf _ _⟩⟩
end Go.Proofs.YtahbihcbidkbaaaGreat.Ev

/-
  What a call leaves of the world, where nothing was handed in; and the rows' clause on it.
-/
set_option linter.unusedVariables false
namespace Go.Proofs.YtahbihcbidkbaaaGreat.Ev
open Go Go.ChangeShapes Go.WideShapes

/-- The world has at most new blocks. -/
def Rest (w w' : World) : Prop := (∀ β, β < w.heap.size → w'.heap[β]? = w.heap[β]?) ∧ w'.os = w.os ∧ w'.output = w.output

theorem rest_of {h' : Heap} {e' : Env} {w w' : World} (t : Tr (fun _ => none) Heap.empty w e' h' w') : Rest w w' :=
  ⟨fun β hβ => t.frame β hβ (fun b s x h => by cases h), t.os, t.output⟩

theorem Rest.kept {w w' : World} (r : Rest w w') (may : MemPlace → Prop) : w.keptBut w' may := by
  refine ⟨r.2.1, r.2.2, fun i hi => ?_⟩
  rw [r.1 i hi]
  cases w.heap[i]? with
  | none => trivial
  | some o => cases o <;> first | exact ⟨rfl, rfl, rfl, fun _ _ => rfl⟩ | exact Or.inr ⟨rfl, rfl⟩ | rfl

theorem Rest.frozen {w w' : World} (r : Rest w w') (a : Addr) (ha : a.block < w.heap.size) : w'.frozen? a = w.frozen? a := by
  simp only [World.frozen?, r.1 a.block ha]

theorem post_of_rest {H : Type} {enc : TypeId × Value → H} {P : Program} {f : Func} {s : ChangeSpec} {apart fresh handsOn again : Bool} {W W' : World} {args : Array Value} {v : Value} {ds gs : List (DataW H)} {before pa pv : List MemPlace}
    (hW : DataW.Whole enc P f.params.toList s.vars apart W args.toList ds gs before)
    (hres : ∀ (b : Nat) (sp : Nat → Bool) (hd : Bool), DataW.TrodAll enc P W' b sp hd f.resultTypes.toList (v.resultList f.resultTypes.size) (s.fn H (ds ++ gs)).results [])
    (hargs : ∀ sp : Nat → Bool, (∀ p ∈ before, sp p.block = true) → DataW.TrodAll enc P W' 0 sp true f.params.toList args.toList (s.fn H (ds ++ gs)).args pa)
    (hvars : ∀ sp : Nat → Bool, (∀ p ∈ before, sp p.block = true) → DataW.TrodVars enc P W' sp s.vars (s.fn H (ds ++ gs)).vars pv)
    (hps : before = pa ++ pv) (hk : Rest W W')
    (hok : ∀ (j : Nat) (t : TypeId) (r : Value), f.resultTypes[j]? = some t → (v.resultList f.resultTypes.size)[j]? = some r → Value.okWide P W' .any 0 t r) :
    s.post enc P f apart fresh handsOn again W args v W' := by
  have hlt : ∀ p ∈ before, p.block < W.heap.size := fun p hp => hW.lt p hp
  have hold : ∀ p ∈ before, (fun b => decide (b < W.heap.size)) p.block = true := fun p hp => by simpa using hlt p hp
  refine ⟨ds, gs, before, [], pa, pv, hW, hres _ _ _, hargs _ hold, hvars _ hold, hk.kept _, fun _ => ?_⟩
  obtain ⟨_, _, _, _, _, hz, hn⟩ := hW
  refine ⟨hok, _, _, ([] ++ pa) ++ pv, ⟨[] ++ pa, pv, trodAll_append (hargs _ (fun _ _ => rfl)) (hres _ _ _), hvars _ (fun _ _ => rfl), rfl, ?_, ?_⟩, ?_⟩
  · intro b off hp
    have hp' : MemPlace.cell b off ∈ before := by rw [hps]; simpa using hp
    rw [hk.frozen _ (hlt _ hp')]
    exact hz b off hp'
  · intro ha
    have := hn ha
    rw [hps] at this
    simpa using this
  · intro p hp _
    rw [hps]
    simpa using hp
end Go.Proofs.YtahbihcbidkbaaaGreat.Ev
