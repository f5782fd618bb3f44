/-
  Parts, equality, arithmetic: the evaluator's and the model's.
-/
import Derived.Test.YtahbihcbidkbaaaGreatJb
import Derived.Laws.StructEq
import Derived.ChangeKeysEq
set_option linter.unusedVariables false
namespace Go.Proofs.YtahbihcbidkbaaaGreat.Ev
open Go

section
variable {P : Program} {e : Env} {w : World}

theorem take_conc {cs xs : List AV} {off n : Nat} (h : take? cs off n = some xs) {vs : List Value} (hc : concL e cs = some vs) (ho : cs.all one = true) :
    concL e xs = some ((vs.drop off).take n) ∧ xs.all one = true ∧ off + n ≤ vs.length := by
  rw [take?_eq] at h
  split at h
  · rename_i hle
    cases h
    refine ⟨concL_take (concL_drop hc off) n, ?_, by rw [concL_length hc]; exact hle⟩
    rw [List.all_eq_true] at ho ⊢
    exact fun a ha => ho a (List.mem_of_mem_drop (List.mem_of_mem_take ha))
  · cases h

theorem part_R {t : TypeId} {cs : List AV} {off : Nat} {v : AV} (h : part? P t cs off = some v) {vs : Array Value} (hc : concL e cs = some vs.toList) (ho : cs.all one = true) :
    ∃ u, (part t vs off).run P w = .ok u w ∧ conc e v = some u := by
  unfold part? at h
  simp only [Option.bind_eq_bind] at h
  obtain ⟨n, hn, h⟩ := bind_inv h
  obtain ⟨xs, hx, h⟩ := bind_inv h
  obtain ⟨b, hb, h⟩ := bind_inv h
  obtain ⟨c1, c2, c3⟩ := take_conc hx hc ho
  cases b with
  | true =>
    simp at h; subst h
    refine ⟨.agg (vs.extract off (off + n)), by simp [part, run_isAgg' hb, run_sizeOf' hn], ?_⟩
    simp only [conc, c1, c2, if_true]
    congr 2
    rw [← Array.toList_inj]
    simp [List.extract_eq_take_drop]
  | false =>
    simp at h
    split at h
    · cases h
      obtain ⟨u, us, k1, k2, k3⟩ := concL_cons.1 c1
      cases k2
      refine ⟨u, ?_, k1⟩
      have : vs[off]? = some u := by
        have h0 : ((vs.toList.drop off).take n)[0]? = some u := by rw [k3]; rfl
        rw [List.getElem?_take] at h0
        split at h0
        · simpa [List.getElem?_drop] using h0
        · cases h0
      simp [part, run_isAgg' hb, this]
    · cases h

theorem toList_eq (a : ByteArray) : a.toList = a.data.toList := ByteArray.toList_eq a

theorem tsize_cellsOf {t : TypeId} {n : Nat} (h : tsize P t = some n) : P.cellsOf t = n ∧ ∃ i, P.info? t = some i := by
  unfold tsize at h
  cases hi : P.info? t with
  | none => simp [hi] at h
  | some i => simp [hi] at h; exact ⟨by simp [Program.cellsOf, hi, h], i, rfl⟩

theorem conc_agg {cs : List AV} {v : Value} (h : conc e (.agg cs) = some v) : ∃ vs, v = .agg vs ∧ concL e cs = some vs.toList ∧ cs.all one = true := by
  simp only [conc] at h
  split at h
  · rename_i l hl
    split at h
    · rename_i ho; cases h; exact ⟨_, rfl, by simpa using hl, ho⟩
    · cases h
  · cases h

theorem eqF_R {eq : TypeId → AV → AV → Option Bool} {D : Nat} (ih : ∀ t x y b, eq t x y = some b → ∀ vx vy, conc e x = some vx → conc e y = some vy → (Op.equalIn D t vx vy).run P w = .ok b w)
    {xs ys : List AV} {us vs : Array Value} (hx : concL e xs = some us.toList) (hy : concL e ys = some vs.toList) (ox : xs.all one = true) (oy : ys.all one = true) :
    ∀ (fs : List Field) (b : Bool), eqF P eq xs ys fs = some b → (Op.eqFields D us vs fs).run P w = .ok b w
  | [], b, h => by simp [eqF] at h; subst h; simp [Op.eqFields]
  | f :: fs, b, h => by
    simp only [eqF] at h
    by_cases hf : f.name = "_"
    · rw [if_pos hf] at h
      simp only [Op.eqFields, hf, ne_eq, not_true_eq_false, if_false]
      exact eqF_R ih hx hy ox oy fs b h
    · rw [if_neg hf] at h
      simp only [Op.eqFields, ne_eq, hf, not_false_eq_true, if_true, Sem.run_bind]
      split at h
      · rename_i x y hpx hpy
        obtain ⟨ux, r1, c1⟩ := part_R (w := w) hpx hx ox
        obtain ⟨uy, r2, c2⟩ := part_R (w := w) hpy hy oy
        split at h
        · rename_i he
          rw [r1, Result.andThen_ok, r2, Result.andThen_ok, ih _ _ _ _ he _ _ c1 c2]
          simpa using eqF_R ih hx hy ox oy fs b h
        · rename_i he
          cases h
          rw [r1, Result.andThen_ok, r2, Result.andThen_ok, ih _ _ _ _ he _ _ c1 c2]
          simp
        · cases h
      · cases h

theorem eqE_R {eq : TypeId → AV → AV → Option Bool} {D : Nat} (ih : ∀ t x y b, eq t x y = some b → ∀ vx vy, conc e x = some vx → conc e y = some vy → (Op.equalIn D t vx vy).run P w = .ok b w)
    {t : TypeId} {z : Nat} {xs ys : List AV} {us vs : Array Value} (hx : concL e xs = some us.toList) (hy : concL e ys = some vs.toList) (ox : xs.all one = true) (oy : ys.all one = true) :
    ∀ (n i : Nat) (b : Bool), eqE P eq t z xs ys n i = some b → (Op.eqItems D t z us vs (List.range' i n)).run P w = .ok b w
  | 0, i, b, h => by simp [eqE] at h; subst h; simp [Op.eqItems]
  | n + 1, i, b, h => by
    simp only [eqE] at h
    simp only [List.range'_succ, Op.eqItems, Sem.run_bind]
    split at h
    · rename_i x y hpx hpy
      obtain ⟨ux, r1, c1⟩ := part_R (w := w) hpx hx ox
      obtain ⟨uy, r2, c2⟩ := part_R (w := w) hpy hy oy
      split at h
      · rename_i he
        rw [r1, Result.andThen_ok, r2, Result.andThen_ok, ih _ _ _ _ he _ _ c1 c2]
        simpa using eqE_R ih hx hy ox oy n (i + 1) b h
      · rename_i he
        cases h
        rw [r1, Result.andThen_ok, r2, Result.andThen_ok, ih _ _ _ _ he _ _ c1 c2]
        simp
      · cases h
    · cases h

theorem beq_bytes (a b : ByteArray) : (a == b) = (a.data.toList == b.data.toList) := by
  rw [beq_toListBytes, toList_eq, toList_eq]

theorem conc_slice_some {b off poff len : Nat} {cap : Cap} {v : Value} (h : conc e (.slice b off poff len cap) = some v) : ∃ ad n c, v = .slice (some ad) n c := by
  simp only [conc] at h
  split at h
  · split at h
    · split at h <;> cases h
      exact ⟨_, _, _, rfl⟩
    · split at h <;> cases h
      exact ⟨_, _, _, rfl⟩
  · cases h

theorem eqT_R : ∀ (d : Nat) (t : TypeId) (x y : AV) (b : Bool), eqT P d t x y = some b → ∀ (D : Nat), d ≤ D → ∀ vx vy, conc e x = some vx → conc e y = some vy → (Op.equalIn D t vx vy).run P w = .ok b w
  | 0, t, x, y, b, h, D, hD, vx, vy, hx, hy => by simp [eqT] at h
  | d + 1, t, x, y, b, h, 0, hD, vx, vy, hx, hy => by omega
  | d + 1, t, x, y, b, h, D + 1, hD, vx, vy, hx, hy => by
    simp only [eqT] at h
    split at h
    · rename_i hu
      split at h
      · cases h; simp [conc] at hx hy; subst hx hy; simp [Op.equalIn, run_underlying' hu]
      · cases h
    · rename_i hu
      split at h
      · split at h
        · rename_i hk; cases h; simp [conc] at hx hy; subst hx hy; simp [Op.equalIn, run_underlying' hu, hk]
        · cases h
      · cases h
    · rename_i hu
      split at h
      · cases h; simp [conc] at hx hy; subst hx hy; simp [Op.equalIn, run_underlying' hu, beq_bytes]
      · cases h
    · rename_i hu
      split at h
      · rename_i p
        cases h
        simp [conc] at hx; subst hx
        cases p with
        | none => simp [conc] at hy; subst hy; simp [Op.equalIn, run_underlying' hu]
        | some q => obtain ⟨sp, _, rfl⟩ := conc_ptr (b := q.1) (off := q.2) hy; simp [Op.equalIn, run_underlying' hu]
      · rename_i q
        cases h
        simp [conc] at hy; subst hy
        obtain ⟨sp, _, rfl⟩ := conc_ptr (b := q.1) (off := q.2) hx; simp [Op.equalIn, run_underlying' hu]
      · cases h
    · rename_i hu
      split at h
      · cases h; simp [conc] at hx hy; subst hx hy; simp [Op.equalIn, run_underlying' hu]
      · cases h; simp [conc] at hx; subst hx; obtain ⟨ad, n, c, rfl⟩ := conc_slice_some hy; simp [Op.equalIn, run_underlying' hu]
      · cases h; simp [conc] at hy; subst hy; obtain ⟨ad, n, c, rfl⟩ := conc_slice_some hx; simp [Op.equalIn, run_underlying' hu]
      · cases h
    · rename_i hu
      split at h
      · rename_i p
        cases h
        simp [conc] at hx; subst hx
        cases p with
        | none => simp [conc] at hy; subst hy; simp [Op.equalIn, run_underlying' hu]
        | some q => simp only [conc] at hy; split at hy <;> cases hy; simp [Op.equalIn, run_underlying' hu]
      · rename_i q
        cases h
        simp [conc] at hy; subst hy
        simp only [conc] at hx; split at hx <;> cases hx; simp [Op.equalIn, run_underlying' hu]
      · cases h
    · rename_i hu
      split at h
      · cases h; simp [conc] at hx hy; subst hx hy; simp [Op.equalIn, run_underlying' hu]
      · cases h; simp [conc] at hx; subst hx; simp only [conc] at hy; split at hy <;> cases hy; simp [Op.equalIn, run_underlying' hu]
      · cases h; simp [conc] at hy; subst hy; simp only [conc] at hx; split at hx <;> cases hx; simp [Op.equalIn, run_underlying' hu]
      · cases h
    · rename_i hu
      split at h
      · cases h; simp [conc] at hx hy; subst hx hy; simp [Op.equalIn, run_underlying' hu]
      · cases h; simp [conc] at hx; subst hx; simp only [conc] at hy; split at hy <;> cases hy; simp [Op.equalIn, run_underlying' hu]
      · cases h; simp [conc] at hy; subst hy; simp only [conc] at hx; split at hx <;> cases hx; simp [Op.equalIn, run_underlying' hu]
      · cases h
    · rename_i fs hu
      split at h
      · rename_i xs ys
        split at h
        · cases h
        · rename_i hp
          obtain ⟨us, rfl, c1, o1⟩ := conc_agg hx
          obtain ⟨vs, rfl, c2, o2⟩ := conc_agg hy
          have hfo : P.fieldsOf t = fs := by simp [Program.fieldsOf, hu]
          rw [run_equalIn_struct w D t us vs (by rw [hfo]; exact hu) (by simpa using hp), hfo]
          exact eqF_R (fun t x y b h vx vy hx hy => eqT_R d t x y b h D (by omega) vx vy hx hy) c1 c2 o1 o2 fs.toList b h
      · cases h
    · rename_i n te hu
      split at h
      · rename_i xs ys
        split at h
        · rename_i z hz
          obtain ⟨us, rfl, c1, o1⟩ := conc_agg hx
          obtain ⟨vs, rfl, c2, o2⟩ := conc_agg hy
          obtain ⟨hc, i, hi⟩ := tsize_cellsOf hz
          rw [run_equalIn_array w D us vs hu hi, hc, List.range_eq_range']
          exact eqE_R (fun t x y b h vx vy hx hy => eqT_R d t x y b h D (by omega) vx vy hx hy) c1 c2 o1 o2 n 0 b h
        · cases h
      · cases h
    · cases h
end
end Go.Proofs.YtahbihcbidkbaaaGreat.Ev

/-
  Operations that ask neither for the heap nor for a call.
-/
set_option linter.unusedVariables false
namespace Go.Proofs.YtahbihcbidkbaaaGreat.Ev
open Go

section
variable {P : Program} {e : Env} {w : World}

theorem bits_R {op : BinOp} {k : IntKind} {a b : Int} {r : AV} (h : bits op k a b = some r) : ∃ v, (Op.intBits op k a b).run P w = .ok v w ∧ conc e r = some v := by
  unfold bits at h
  cases op <;> simp only at h <;> cases h <;> exact ⟨_, rfl, rfl⟩

theorem intOp_R {op : BinOp} {k : IntKind} {a b : Int} {r : AV} (h : intOp op k a b = some r) (t : TypeId) : ∃ v, (Go.binOp op t (.int k a) (.int k b)).run P w = .ok v w ∧ conc e r = some v := by
  cases op with
  | add => cases h; exact ⟨_, by simp [Go.binOp, Op.intArith], rfl⟩
  | sub => cases h; exact ⟨_, by simp [Go.binOp, Op.intArith], rfl⟩
  | mul => cases h; exact ⟨_, by simp [Go.binOp, Op.intArith], rfl⟩
  | quo =>
    simp only [intOp] at h
    split at h
    · cases h
    · rename_i hb; cases h; exact ⟨_, by simp [Go.binOp, Op.intDiv, hb], rfl⟩
  | rem =>
    simp only [intOp] at h
    split at h
    · cases h
    · rename_i hb; cases h; exact ⟨_, by simp [Go.binOp, Op.intDiv, hb], rfl⟩
  | eql => cases h; exact ⟨_, by simp [Go.binOp, Op.intCmp], rfl⟩
  | neq => cases h; exact ⟨_, by simp [Go.binOp, Op.intCmp], rfl⟩
  | lss => cases h; exact ⟨_, by simp [Go.binOp, Op.intCmp], rfl⟩
  | leq => cases h; exact ⟨_, by simp [Go.binOp, Op.intCmp], rfl⟩
  | gtr => cases h; exact ⟨_, by simp [Go.binOp, Op.intCmp], rfl⟩
  | geq => cases h; exact ⟨_, by simp [Go.binOp, Op.intCmp], rfl⟩
  | and => obtain ⟨v, h1, h2⟩ := bits_R (P := P) (w := w) (e := e) (show bits .and k a b = some r from h); exact ⟨v, by simpa [Go.binOp] using h1, h2⟩
  | or => obtain ⟨v, h1, h2⟩ := bits_R (P := P) (w := w) (e := e) (show bits .or k a b = some r from h); exact ⟨v, by simpa [Go.binOp] using h1, h2⟩
  | xor => obtain ⟨v, h1, h2⟩ := bits_R (P := P) (w := w) (e := e) (show bits .xor k a b = some r from h); exact ⟨v, by simpa [Go.binOp] using h1, h2⟩
  | andNot => obtain ⟨v, h1, h2⟩ := bits_R (P := P) (w := w) (e := e) (show bits .andNot k a b = some r from h); exact ⟨v, by simpa [Go.binOp] using h1, h2⟩
  | shl => cases h
  | shr => cases h

theorem shiftOp_R {op : BinOp} {k : IntKind} (k' : IntKind) {a b : Int} {r : AV} (h : shiftOp op k a b = some r) : ∃ v, (Op.shift op k a k' b).run P w = .ok v w ∧ conc e r = some v := by
  unfold shiftOp at h
  split at h
  · cases h
  · rename_i hb
    cases op <;> simp only at h <;> cases h <;> exact ⟨_, by simp [Op.shift, hb], rfl⟩

theorem strOp_R {op : BinOp} {a b : ByteArray} {r : AV} (h : strOp op a b = some r) : ∃ v, (Op.stringOp op a b).run P w = .ok v w ∧ conc e r = some v := by
  cases op <;> simp only [strOp] at h <;> first
    | (cases h; done)
    | (cases h; exact ⟨_, by simp [Op.stringOp, toList_eq], rfl⟩)
    | (split at h
       · rename_i hb
         cases h
         refine ⟨.string (a ++ b), ?_, rfl⟩
         have : (a.size : Int) + (b.size : Int) ≤ 9223372036854775807 := by omega
         simp [Op.stringOp, IntKind.max, IntKind.signed, IntKind.bits, this]
       · cases h)

theorem binop_R {op : BinOp} {x y r : AV} (h : binop op x y = some r) (t : TypeId) {vx vy : Value} (hx : conc e x = some vx) (hy : conc e y = some vy) (ho : op ≠ .eql ∧ op ≠ .neq) :
    ∃ v, (Go.binOp op t vx vy).run P w = .ok v w ∧ conc e r = some v := by
  unfold binop at h
  split at h
  · rename_i k a k' b
    simp [conc] at hx hy; subst hx hy; obtain ⟨v, h1, h2⟩ := shiftOp_R (P := P) (w := w) (e := e) k' h; exact ⟨v, h1, h2⟩
  · rename_i k a k' b
    simp [conc] at hx hy; subst hx hy; obtain ⟨v, h1, h2⟩ := shiftOp_R (P := P) (w := w) (e := e) k' h; exact ⟨v, h1, h2⟩
  · rename_i k a k' b h1 h2
    split at h
    · rename_i hk
      subst hk
      simp [conc] at hx hy; subst hx hy
      exact intOp_R h t
    · cases h
  · simp [conc] at hx hy; subst hx hy
    obtain ⟨v, h1, h2⟩ := strOp_R (P := P) (w := w) (e := e) h
    refine ⟨v, ?_, h2⟩
    cases op <;> first | exact h1 | simp at ho
  · cases h

theorem unop_R {op : UnOp} {x r : AV} (h : unop op x = some r) {vx : Value} (hx : conc e x = some vx) : ∃ v, (Op.unary op vx).run P w = .ok v w ∧ conc e r = some v := by
  unfold unop at h
  split at h
  · simp [conc] at hx; subst hx
    simp only [intOp] at h; cases h
    exact ⟨_, rfl, rfl⟩
  · simp [conc] at hx; subst hx
    obtain ⟨v, h1, h2⟩ := bits_R (P := P) (w := w) (e := e) h
    exact ⟨v, by simpa [Op.unary] using h1, h2⟩
  · simp [conc] at hx; subst hx; cases h; exact ⟨_, rfl, rfl⟩
  · cases h

theorem eqGuard_R {neg : Bool} {t : TypeId} {x y : Operand} {vx vy : Value} (h : vx = .nilIface → vy = .nilIface → (isConst x || isConst y) = true) (h2 : ∀ a b, vx = .agg a → vy = .agg b → P.eqGuardType P.depth t = false) :
    (eqGuard (if neg then .neq else .eql) t x y vx vy).run P w = .ok () w := by
  have key : ∀ op : BinOp, op = .eql ∨ op = .neq → (eqGuard op t x y vx vy).run P w = .ok () w := by
    intro op hop
    by_cases hn : vx = .nilIface ∧ vy = .nilIface
    · obtain ⟨rfl, rfl⟩ := hn
      have := h rfl rfl
      rcases hop with rfl | rfl <;> cases x <;> cases y <;> simp [isConst] at this <;> simp [eqGuard]
    · by_cases ha : ∃ a b, vx = .agg a ∧ vy = .agg b
      · obtain ⟨a, b, rfl, rfl⟩ := ha
        exact run_eqGuard_agg w op t x y a b (h2 a b rfl rfl)
      · rcases hop with rfl | rfl <;> cases vx <;> cases vy <;> first
          | rfl
          | (exfalso; exact hn ⟨rfl, rfl⟩)
          | (exfalso; exact ha ⟨_, _, rfl, rfl⟩)
  cases neg
  · exact key _ (.inl rfl)
  · exact key _ (.inr rfl)

theorem conc_nilIface {x : AV} (h : conc e x = some .nilIface) : x = .nilIface := by
  cases x with
  | ptr p => cases p with
    | none => simp [conc] at h
    | some q => obtain ⟨sp, _, hh⟩ := conc_ptr (b := q.1) (off := q.2) h; cases hh
  | slice b off poff len cap => obtain ⟨ad, n, c, hh⟩ := conc_slice_some h; cases hh
  | map m => cases m with
    | none => simp [conc] at h
    | some q => simp only [conc] at h; split at h <;> cases h
  | nilIface => rfl
  | fn f a c => simp only [conc] at h; split at h <;> cases h
  | yield l => simp only [conc] at h; split at h <;> cases h
  | iface t v => simp only [conc] at h; split at h <;> cases h
  | agg cs => obtain ⟨vs, hh, _⟩ := conc_agg h; cases hh
  | tup cs => simp only [conc] at h; split at h <;> cases h
  | _ => simp [conc] at h

theorem conc_is_agg {x : AV} {vs : Array Value} (h : conc e x = some (.agg vs)) : ∃ cs, x = .agg cs := by
  cases x with
  | ptr p => cases p with
    | none => simp [conc] at h
    | some q => obtain ⟨sp, _, hh⟩ := conc_ptr (b := q.1) (off := q.2) h; cases hh
  | slice b off poff len cap => obtain ⟨ad, n, c, hh⟩ := conc_slice_some h; cases hh
  | map m => cases m with
    | none => simp [conc] at h
    | some q => simp only [conc] at h; split at h <;> cases h
  | fn f a c => simp only [conc] at h; split at h <;> cases h
  | yield l => simp only [conc] at h; split at h <;> cases h
  | iface t v => simp only [conc] at h; split at h <;> cases h
  | agg cs => exact ⟨cs, rfl⟩
  | tup cs => simp only [conc] at h; split at h <;> cases h
  | _ => simp [conc] at h

/-- Neither a number nor a text. -/
def plainV : Value → Bool
  | .int .. | .float .. | .complex .. | .string _ => false
  | _ => true

theorem binOp_eql {t : TypeId} {vx vy : Value} (h : plainV vx = true) : Go.binOp .eql t vx vy = (do pure (.bool (← Op.equal t vx vy)) : Sem Value) := by
  cases vx <;> first | (simp [plainV] at h; done) | (cases vy <;> rfl)
theorem binOp_neq {t : TypeId} {vx vy : Value} (h : plainV vx = true) : Go.binOp .neq t vx vy = (do pure (.bool (!(← Op.equal t vx vy))) : Sem Value) := by
  cases vx <;> first | (simp [plainV] at h; done) | (cases vy <;> rfl)

theorem eq_plain {t : TypeId} {vx vy : Value} {b neg : Bool} (hp : plainV vx = true) (he : (Op.equalIn Op.maxDepth t vx vy).run P w = .ok b w) : (Go.binOp (if neg then .neq else .eql) t vx vy).run P w = .ok (.bool (b != neg)) w := by
  cases neg
  · simp [binOp_eql hp, Op.equal, he]
  · simp [binOp_neq hp, Op.equal, he]

theorem conc_plain {x : AV} {v : Value} (h : conc e x = some v) (h1 : ∀ k n, x ≠ .int k n) (h2 : ∀ b, x ≠ .str b) : plainV v = true := by
  cases x with
  | int k n => exact absurd rfl (h1 k n)
  | str b => exact absurd rfl (h2 b)
  | ptr p => cases p with
    | none => simp [conc] at h; subst h; rfl
    | some q => obtain ⟨sp, _, rfl⟩ := conc_ptr (b := q.1) (off := q.2) h; rfl
  | slice b off poff len cap => obtain ⟨ad, n, c, rfl⟩ := conc_slice_some h; rfl
  | map m => cases m with
    | none => simp [conc] at h; subst h; rfl
    | some q => simp only [conc] at h; split at h <;> cases h; rfl
  | fn f a c => simp only [conc] at h; split at h <;> cases h; rfl
  | yield l => simp only [conc] at h; split at h <;> cases h; rfl
  | iface t v => simp only [conc] at h; split at h <;> cases h; rfl
  | agg cs => obtain ⟨vs, rfl, _⟩ := conc_agg h; rfl
  | tup cs => simp only [conc] at h; split at h <;> cases h; rfl
  | bool b => simp [conc] at h; subst h; rfl
  | nilSlice => simp [conc] at h; subst h; rfl
  | nilFn => simp [conc] at h; subst h; rfl
  | nilIface => simp [conc] at h; subst h; rfl

theorem deep_le : deep ≤ Op.maxDepth := by decide

theorem eqT_int {d : Nat} {t : TypeId} {k : IntKind} {n : Int} {y : AV} {b : Bool} (h : eqT P d t (.int k n) y = some b) : ∃ k' m, y = .int k' m := by
  cases d with
  | zero => simp [eqT] at h
  | succ d =>
    simp only [eqT] at h
    split at h <;> try (cases h; done)
    · cases y <;> first | (cases h; done) | exact ⟨_, _, rfl⟩
theorem eqT_str {d : Nat} {t : TypeId} {s : ByteArray} {y : AV} {b : Bool} (h : eqT P d t (.str s) y = some b) : ∃ s', y = .str s' := by
  cases d with
  | zero => simp [eqT] at h
  | succ d =>
    simp only [eqT] at h
    split at h <;> try (cases h; done)
    · cases y <;> first | (cases h; done) | exact ⟨_, rfl⟩

theorem eqop_R {c neg : Bool} {t : TypeId} {x y r : AV} (h : eqop P c neg t x y = some r) {vx vy : Value} (hx : conc e x = some vx) (hy : conc e y = some vy) {ox oy : Operand} (hc : c = (isConst ox || isConst oy)) :
    ∃ v, (eqGuard (if neg then .neq else .eql) t ox oy vx vy).run P w = .ok () w ∧ (Go.binOp (if neg then .neq else .eql) t vx vy).run P w = .ok v w ∧ conc e r = some v := by
  unfold eqop at h
  split at h
  · split at h
    · rename_i hk
      cases h
      simp [conc] at hx hy; subst hx hy hk
      refine ⟨_, eqGuard_R (by simp) (by simp), ?_, rfl⟩
      cases neg
      · simp [Go.binOp, Op.intCmp]
      · simp only [Go.binOp, Op.intCmp, bne, if_true, ne_eq, not_true_eq_false, if_false, Sem.run_pure]
        rename_i a b
        cases (a == b) <;> rfl
    · cases h
  · cases h
    simp [conc] at hx hy; subst hx hy
    refine ⟨_, eqGuard_R (by simp) (by simp), ?_, rfl⟩
    cases neg <;> simp [Go.binOp, Op.stringOp, toList_eq]
  · split at h
    · simp only [Option.map_eq_some_iff] at h
      obtain ⟨b, hb, rfl⟩ := h
      simp [conc] at hx hy; subst hx hy
      exact ⟨_, eqGuard_R (fun _ _ => hc.symm) (by simp), eq_plain rfl (eqT_R (e := e) deep t _ _ b hb _ deep_le _ _ rfl rfl), rfl⟩
    · cases h
  · rename_i xs ys
    split at h
    · cases h
    · rename_i hg
      simp only [Option.map_eq_some_iff] at h
      obtain ⟨b, hb, rfl⟩ := h
      obtain ⟨us, rfl, _⟩ := conc_agg hx
      obtain ⟨vs, rfl, _⟩ := conc_agg hy
      exact ⟨_, eqGuard_R (by simp) (fun _ _ _ _ => by simpa using hg), eq_plain rfl (eqT_R deep t _ _ b hb _ deep_le _ _ hx hy), rfl⟩
  · rename_i h1 h2 h3 h4
    simp only [Option.map_eq_some_iff] at h
    obtain ⟨b, hb, rfl⟩ := h
    have hp : plainV vx = true := conc_plain hx (fun k n hh => by subst hh; obtain ⟨k', m, rfl⟩ := eqT_int hb; exact h1 _ _ _ _ rfl rfl) (fun s hh => by subst hh; obtain ⟨s', rfl⟩ := eqT_str hb; exact h2 _ _ rfl rfl)
    refine ⟨_, eqGuard_R (fun e1 e2 => ?_) (fun a b e1 e2 => ?_), eq_plain hp (eqT_R deep t _ _ b hb _ deep_le _ _ hx hy), rfl⟩
    · subst e1 e2
      exact (h3 (conc_nilIface hx) (conc_nilIface hy)).elim
    · subst e1 e2
      obtain ⟨cs, rfl⟩ := conc_is_agg hx
      obtain ⟨ds, rfl⟩ := conc_is_agg hy
      exact (h4 _ _ rfl rfl).elim
end
end Go.Proofs.YtahbihcbidkbaaaGreat.Ev

/-
  Operations without calls, second part: tests of pointers, arithmetic, interfaces, functions, places.
-/
set_option linter.unusedVariables false
namespace Go.Proofs.YtahbihcbidkbaaaGreat.Ev
open Go

section ops
variable {E : Start} {e : Env} {le : Nat → Option Nat} {s s' : St} {a : Act} {w : World} {t : Tm} {cx : Ctx} {fn : FuncId} {F : Fns}
variable {dst : Option Tmp} {ty : TypeId} {pos : String} {af : Array Edge} {gd : Option (Nat × Bool)}

theorem getV_inv {ρ : Type} {r : ρ} {x : Option AV} {k : Tm → St → Option ρ} (h : getV x s k = some r) : ∃ v, x = some v ∧ k (.val v) s = some r := bind_inv h

theorem conc_fn {x : AV} {v : Value} {fv : Fn} {p q : Array Value} (h : conc e x = some v) (hv : v = .func fv p q) : ∀ name, fv ≠ .method name := by
  subst hv
  cases x with
  | ptr p => cases p with
    | none => simp [conc] at h
    | some q => obtain ⟨sp, _, hh⟩ := conc_ptr (b := q.1) (off := q.2) h; cases hh
  | slice b off poff len cap => obtain ⟨ad, n, c, hh⟩ := conc_slice_some h; cases hh
  | map m => cases m with
    | none => simp [conc] at h
    | some q => simp only [conc] at h; split at h <;> cases h
  | fn f a c => simp only [conc] at h; split at h <;> cases h; simp
  | yield l => simp only [conc] at h; split at h <;> cases h; simp
  | iface t v => simp only [conc] at h; split at h <;> cases h
  | agg cs => obtain ⟨vs, hh, _⟩ := conc_agg h; cases hh
  | tup cs => simp only [conc] at h; split at h <;> cases h
  | _ => simp [conc] at h

theorem run_nilCheck {P : Program} {y : Operand} {v : Value} (hv : a.eval y = v) (h1 : v ≠ .pointer none) (h2 : v ≠ .nilIface) (h3 : v ≠ .nilFunc) (h4 : ∀ name p q, v ≠ .func (.method name) p q) :
    (execOp a.eval ⟨dst, .nilCheck y, ty, pos, af, gd⟩).run P w = .ok (.value v) w := by
  unfold execOp
  simp only [hv]
  rfl

theorem runs_nilCheck (k : SR E e le s a w) {y : Operand} (h : stepOp cx fn F ⟨dst, .nilCheck y, ty, pos, af, gd⟩ s = some (.ok t s')) : Runs cx.P E e le s a w ⟨dst, .nilCheck y, ty, pos, af, gd⟩ t s' := by
  simp only [stepOp, evalOp] at h
  obtain ⟨x, h1, h⟩ := operandK_inv h
  have hr := operand_R k h1
  cases x with
  | undef => cases h
  | lsl l n => cases h
  | lptr l off =>
    cases h
    have hr' := hr
    obtain ⟨β, hβ, he⟩ := hr
    exact Runs.value k (v := a.eval y) (run_nilCheck rfl (by simp [he]) (by simp [he]) (by simp [he]) (by simp [he])) hr'
  | val x =>
    obtain ⟨h, n1, n2, n3⟩ := notNil_inv h
    cases h
    refine Runs.value k (v := a.eval y) (run_nilCheck rfl ?_ ?_ ?_ ?_) hr
    · intro hh
      rw [hh] at hr
      cases x with
      | ptr p => cases p with
        | none => exact n1 rfl
        | some q => obtain ⟨sp, _, hq⟩ := conc_ptr (b := q.1) (off := q.2) hr; cases hq
      | slice b off poff len cap => obtain ⟨ad, n, c, hq⟩ := conc_slice_some hr; cases hq
      | map m => cases m with
        | none => simp [TmR, conc] at hr
        | some q => simp only [TmR, conc] at hr; split at hr <;> cases hr
      | fn f a c => simp only [TmR, conc] at hr; split at hr <;> cases hr
      | yield l => simp only [TmR, conc] at hr; split at hr <;> cases hr
      | iface t v => simp only [TmR, conc] at hr; split at hr <;> cases hr
      | agg cs => obtain ⟨vs, hq, _⟩ := conc_agg hr; cases hq
      | tup cs => simp only [TmR, conc] at hr; split at hr <;> cases hr
      | _ => simp [TmR, conc] at hr
    · intro hh; rw [hh] at hr; exact n2 (conc_nilIface hr)
    · intro hh
      rw [hh] at hr
      cases x with
      | ptr p => cases p with
        | none => exact n1 rfl
        | some q => obtain ⟨sp, _, hq⟩ := conc_ptr (b := q.1) (off := q.2) hr; cases hq
      | slice b off poff len cap => obtain ⟨ad, n, c, hq⟩ := conc_slice_some hr; cases hq
      | map m => cases m with
        | none => simp [TmR, conc] at hr
        | some q => simp only [TmR, conc] at hr; split at hr <;> cases hr
      | nilFn => exact n3 rfl
      | fn f a c => simp only [TmR, conc] at hr; split at hr <;> cases hr
      | yield l => simp only [TmR, conc] at hr; split at hr <;> cases hr
      | iface t v => simp only [TmR, conc] at hr; split at hr <;> cases hr
      | agg cs => obtain ⟨vs, hq, _⟩ := conc_agg hr; cases hq
      | tup cs => simp only [TmR, conc] at hr; split at hr <;> cases hr
      | _ => simp [TmR, conc] at hr
    · intro name p q hh; exact conc_fn hr hh name rfl

theorem runs_binOp (k : SR E e le s a w) {op : BinOp} {bt bu : TypeId} {x y : Operand} (h : stepOp cx fn F ⟨dst, .binOp op bt x y bu, ty, pos, af, gd⟩ s = some (.ok t s')) : Runs cx.P E e le s a w ⟨dst, .binOp op bt x y bu, ty, pos, af, gd⟩ t s' := by
  have general : op ≠ .eql ∧ op ≠ .neq → (valueK s x fun x => valueK s y fun y => getV (binop op x y) s fun t s => some (Out.ok t s)) = some (.ok t s') → Runs cx.P E e le s a w ⟨dst, .binOp op bt x y bu, ty, pos, af, gd⟩ t s' := by
    intro hop h
    obtain ⟨vx, h1, h⟩ := valueK_inv h
    obtain ⟨vy, h2, h⟩ := valueK_inv h
    obtain ⟨r, h3, h⟩ := getV_inv h
    cases h
    obtain ⟨v, r1, r2⟩ := binop_R (P := cx.P) (w := w) h3 bt (value_R k h1) (value_R k h2) hop
    refine Runs.value k (v := v) ?_ r2
    have : (eqGuard op bt x y (a.eval x) (a.eval y)).run cx.P w = .ok () w := by
      unfold eqGuard
      cases op <;> first | rfl | simp at hop
    simp [execOp, this, r1]
  have equal : ∀ neg : Bool, op = (if neg then .neq else .eql) → (valueK s x fun p => valueK s y fun q => getV (eqop cx.P (isConst x || isConst y) neg bt p q) s fun t s => some (Out.ok t s)) = some (.ok t s') → Runs cx.P E e le s a w ⟨dst, .binOp op bt x y bu, ty, pos, af, gd⟩ t s' := by
    intro neg hop h
    obtain ⟨vx, h1, h⟩ := valueK_inv h
    obtain ⟨vy, h2, h⟩ := valueK_inv h
    obtain ⟨r, h3, h⟩ := getV_inv h
    cases h
    obtain ⟨v, g, r1, r2⟩ := eqop_R (P := cx.P) (w := w) h3 (value_R k h1) (value_R k h2) (ox := x) (oy := y) rfl
    subst hop
    refine Runs.value k (v := v) ?_ r2
    simp [execOp, g, r1]
  cases op with
  | eql => exact equal false rfl h
  | neq => exact equal true rfl h
  | _ => exact general (by simp) h

theorem runs_unOp (k : SR E e le s a w) {op : UnOp} {bt : TypeId} {x : Operand} (h : stepOp cx fn F ⟨dst, .unOp op bt x, ty, pos, af, gd⟩ s = some (.ok t s')) : Runs cx.P E e le s a w ⟨dst, .unOp op bt x, ty, pos, af, gd⟩ t s' := by
  simp only [stepOp, evalOp] at h
  obtain ⟨vx, h1, h⟩ := valueK_inv h
  obtain ⟨r, h3, h⟩ := getV_inv h
  cases h
  obtain ⟨v, r1, r2⟩ := unop_R (P := cx.P) (w := w) h3 (value_R k h1)
  exact Runs.value k (v := v) (by simp [execOp, r1]) r2

theorem runs_makeInterface (k : SR E e le s a w) {bt : TypeId} {x : Operand} (h : stepOp cx fn F ⟨dst, .makeInterface bt x, ty, pos, af, gd⟩ s = some (.ok t s')) : Runs cx.P E e le s a w ⟨dst, .makeInterface bt x, ty, pos, af, gd⟩ t s' := by
  simp only [stepOp, evalOp] at h
  split at h
  · cases h
  · rename_i d hd hu
    obtain ⟨vx, h1, h⟩ := valueK_inv h
    cases h
    have hv := value_R k h1
    refine Runs.value k (v := .iface bt (a.eval x)) ?_ (by simp [TmR, conc, hv])
    simp only [execOp, Instr.makeInterface, Sem.run_bind, run_underlying' hu, Result.andThen_ok]
    cases d <;> first | rfl | exact absurd rfl (hd _)
  · cases h

theorem runs_makeFunc (k : SR E e le s a w) {g : Fn} {x y : Array Operand} (h : stepOp cx fn F ⟨dst, .makeFunc g x y, ty, pos, af, gd⟩ s = some (.ok t s')) : Runs cx.P E e le s a w ⟨dst, .makeFunc g x y, ty, pos, af, gd⟩ t s' := by
  cases g with
  | func f =>
    simp only [stepOp, evalOp] at h
    split at h
    · rename_i p q h1 h2
      cases h
      have r1 := values_R k h1
      have r2 := values_R k h2
      refine Runs.value k (v := .func (.func f) (x.map a.eval) (y.map a.eval)) (by simp [execOp, Instr.makeFunc]) ?_
      simp only [TmR, conc, r1, r2]
      congr 2 <;> (rw [← Array.toList_inj]; simp)
    · cases h
  | _ => simp [stepOp, evalOp] at h

theorem fieldOff_iff {P : Program} {bt : TypeId} {i off : Nat} (h : fieldOff P bt i = some off) : ∃ fs f n, P.underlying bt = some (.struct fs) ∧ fs[i]? = some f ∧ tsize P f.type = some n ∧ n ≠ 0 ∧ off = f.offset := by
  unfold fieldOff at h
  simp only [Option.bind_eq_bind] at h
  obtain ⟨fs, h1, h⟩ := bind_inv h
  obtain ⟨f, h2, h⟩ := bind_inv h
  obtain ⟨n, h3, h⟩ := bind_inv h
  split at h
  · cases h
  · rename_i hn
    cases h
    unfold tfields at h1
    split at h1
    · rename_i fs' hu; cases h1; exact ⟨fs, f, n, hu, h2, h3, hn, rfl⟩
    · cases h1

theorem addT_inv {ρ : Type} {r : ρ} {n : Nat} {x : Tm} {k : Tm → Option ρ} (h : addT n x k = some r) {v : Value} (hx : TmR e le x v) :
    ∃ t β off, k t = some r ∧ v = .pointer (some ⟨β, off, none⟩) ∧ TmR e le t (.pointer (some ⟨β, off + n, none⟩)) := by
  cases x with
  | undef => cases h
  | lsl l m => cases h
  | lptr l off =>
    obtain ⟨β, h1, h2⟩ := hx
    exact ⟨_, β, off, h, h2, β, h1, rfl⟩
  | val x =>
    obtain ⟨b, off, rfl, h⟩ := asPtr_inv h
    obtain ⟨sp, h1, h2⟩ := conc_ptr hx
    exact ⟨_, sp.β, sp.γ + off, h, h2, by simp [TmR, conc, h1, Nat.add_assoc]⟩

theorem runs_fieldAddr (k : SR E e le s a w) {bt : TypeId} {x : Operand} {i : Nat} (h : stepOp cx fn F ⟨dst, .fieldAddr bt x i, ty, pos, af, gd⟩ s = some (.ok t s')) : Runs cx.P E e le s a w ⟨dst, .fieldAddr bt x i, ty, pos, af, gd⟩ t s' := by
  simp only [stepOp, evalOp] at h
  split at h
  · rename_i off ho
    obtain ⟨fs, f, n, hu, hf, hn, hne, rfl⟩ := fieldOff_iff ho
    obtain ⟨x', h1, h⟩ := operandK_inv h
    obtain ⟨t', β, o, h, hv, ht⟩ := addT_inv h (operand_R k h1)
    cases h
    refine Runs.value k (v := .pointer (some ⟨β, o + f.offset, none⟩)) ?_ ht
    simp [execOp, Instr.fieldAt, run_underlying' hu, hf, hv, Instr.sureAddr, fieldPlace, run_sizeOf' hn, hne, add_plain]
  · cases h

theorem runs_field (k : SR E e le s a w) {bt : TypeId} {x : Operand} {i : Nat} (h : stepOp cx fn F ⟨dst, .field bt x i, ty, pos, af, gd⟩ s = some (.ok t s')) : Runs cx.P E e le s a w ⟨dst, .field bt x i, ty, pos, af, gd⟩ t s' := by
  simp only [stepOp, evalOp] at h
  obtain ⟨vx, h1, h⟩ := valueK_inv h
  obtain ⟨r, h3, h⟩ := getV_inv h
  cases h
  have hv := value_R k h1
  unfold fieldA at h3
  simp only [Option.bind_eq_bind] at h3
  obtain ⟨fs, h4, h3⟩ := bind_inv h3
  obtain ⟨f, h5, h3⟩ := bind_inv h3
  split at h3
  · rename_i cs
    obtain ⟨vs, he, hc, ho⟩ := conc_agg hv
    obtain ⟨u, hu, hcu⟩ := part_R (w := w) h3 hc ho
    unfold tfields at h4
    split at h4
    · rename_i fs' hun
      cases h4
      exact Runs.value k (v := u) (by simp [execOp, Instr.field, run_underlying' hun, h5, he, asAgg, hu]) hcu
    · cases h4
  · cases h3

theorem runs_extract (k : SR E e le s a w) {x : Operand} {i : Nat} (h : stepOp cx fn F ⟨dst, .extract x i, ty, pos, af, gd⟩ s = some (.ok t s')) : Runs cx.P E e le s a w ⟨dst, .extract x i, ty, pos, af, gd⟩ t s' := by
  simp only [stepOp, evalOp] at h
  obtain ⟨vx, h1, h⟩ := valueK_inv h
  have hv := value_R k h1
  split at h
  · rename_i vs
    split at h
    · rename_i v hi
      cases h
      simp only [conc] at hv
      split at hv
      · rename_i l hl
        injection hv with hv
        obtain ⟨u, hu, hg⟩ := concL_get hl i v hi
        exact Runs.value k (v := u) (by simp [execOp, Instr.extract, ← hv, hg]) hu
      · cases hv
    · cases h
  · cases h

theorem inArr_inv {ρ : Type} {r : ρ} {i : Int} {n : Nat} {k : Nat → Option ρ} (h : inArr i n k = some r) : 0 ≤ i ∧ i < n ∧ k i.toNat = some r := by
  unfold inArr at h
  split at h
  · rename_i hh; exact ⟨hh.1, hh.2, h⟩
  · cases h

theorem elemP_inv {ρ : Type} {r : ρ} {x : AV} {i : Int} {z : Nat} {k : Nat → Nat → Option ρ} (h : elemP x i z k = some r) : ∃ b off poff len cap, x = .slice b off poff len cap ∧ 0 ≤ i ∧ i < len ∧ k b (off + i.toNat * z) = some r := by
  cases x <;> simp only [elemP] at h <;> first | (cases h; done) | skip
  split at h
  · rename_i hh; exact ⟨_, _, _, _, _, rfl, hh.1, hh.2, h⟩
  · cases h

/-- A slice with elements: where it lies. -/
theorem conc_slice_lies {b off poff len : Nat} {cap : Cap} {v : Value} (h : conc e (.slice b off poff len cap) = some v) (hl : 0 < len) : ∃ sp c, e b = some sp ∧ v = .slice (some ⟨sp.β, sp.γ + off, none⟩) len c := by
  simp only [conc] at h
  split at h
  · rename_i sp hs
    split at h
    · rename_i c
      split at h
      · cases h
        refine ⟨sp, c, hs, ?_⟩
        rw [if_neg (by omega)]
      · cases h
    · rename_i d
      split at h
      · rename_i hh
        cases h
        refine ⟨sp, sp.κ - d, hs, ?_⟩
        rw [if_neg (by omega)]
      · cases h
  · cases h

theorem runs_indexAddr (k : SR E e le s a w) {bt : TypeId} {x y : Operand} (h : stepOp cx fn F ⟨dst, .indexAddr bt x y, ty, pos, af, gd⟩ s = some (.ok t s')) : Runs cx.P E e le s a w ⟨dst, .indexAddr bt x y, ty, pos, af, gd⟩ t s' := by
  simp only [stepOp, evalOp] at h
  obtain ⟨x', h1, h⟩ := operandK_inv h
  obtain ⟨i', h2, h⟩ := valueK_inv h
  obtain ⟨ik, i, hii, h6⟩ := asI_inv h
  clear h
  subst hii
  have hx := operand_R k h1
  have hi := value_R k h2
  simp [conc] at hi
  have h := h6
  clear h6
  unfold opIndexAddr at h
  split at h
  · rename_i len elem hu
    split at h
    · rename_i z hz
      obtain ⟨i1, i2, h⟩ := inArr_inv h
      obtain ⟨t', β, o, h, hv, ht⟩ := addT_inv h hx
      cases h
      refine Runs.value k (v := .pointer (some ⟨β, o + i.toNat * z, none⟩)) ?_ ht
      simp [execOp, Instr.indexAt, ← hi, asIntOf, run_underlying' hu, hv, Instr.sureAddr, i1, i2, run_sizeOf' hz, add_plain]
    · cases h
  · rename_i elem hu
    split at h
    · rename_i z xv hz hold
      obtain ⟨b, off, poff, len, cap, hxx, i1, i2, h7⟩ := elemP_inv h
      subst hxx
      cases h7
      obtain ⟨sp, c, hs, he⟩ := conc_slice_lies hx (by omega)
      refine Runs.value k (v := .pointer (some ⟨sp.β, sp.γ + off + i.toNat * z, none⟩)) ?_ (by simp [TmR, conc, hs, Nat.add_assoc])
      simp [execOp, Instr.indexAt, ← hi, asIntOf, run_underlying' hu, he, i1, i2, run_sizeOf' hz, add_plain]
    · cases h
  · cases h

theorem runs_index (k : SR E e le s a w) {bt : TypeId} {x y : Operand} (h : stepOp cx fn F ⟨dst, .index bt x y, ty, pos, af, gd⟩ s = some (.ok t s')) : Runs cx.P E e le s a w ⟨dst, .index bt x y, ty, pos, af, gd⟩ t s' := by
  simp only [stepOp, evalOp] at h
  obtain ⟨vx, h1, h⟩ := valueK_inv h
  obtain ⟨vi, h2, h⟩ := valueK_inv h
  obtain ⟨r, h3, h⟩ := getV_inv h
  cases h
  have hx := value_R k h1
  have hi := value_R k h2
  unfold indexA at h3
  simp only [Option.bind_eq_bind] at h3
  obtain ⟨⟨ik, i⟩, h4, h5⟩ := bind_inv h3
  clear h3
  have hvi : vi = .int ik i := by cases vi <;> simp [ints] at h4; rw [h4.1, h4.2]
  subst hvi
  simp [conc] at hi
  have h3 := h5
  clear h5 h4
  split at h3
  · rename_i len elem cs hu hold
    split at h3
    · rename_i hh
      obtain ⟨z, hz, h3⟩ := bind_inv h3
      obtain ⟨vs, he, hc, ho⟩ := conc_agg hx
      obtain ⟨u, hu', hcu⟩ := part_R (w := w) h3 hc ho
      refine Runs.value k (v := u) ?_ hcu
      simp [execOp, Instr.index, ← hi, asIntOf, run_underlying' hu, he, hh, run_sizeOf' hz, hu']
    · cases h3
  · rename_i sb hu hold
    split at h3
    · rename_i hh
      simp only [Option.map_eq_some_iff] at h3
      obtain ⟨b, hb, rfl⟩ := h3
      simp [conc] at hx
      refine Runs.value k (v := .int .u8 b.toNat) ?_ rfl
      simp [execOp, Instr.index, ← hi, asIntOf, run_underlying' hu, ← hx, hh, hb]
    · cases h3
  · cases h3

end ops
end Go.Proofs.YtahbihcbidkbaaaGreat.Ev

/-
  Type assertions on concrete types.
-/
set_option linter.unusedVariables false
namespace Go.Proofs.YtahbihcbidkbaaaGreat.Ev
open Go

section ops
variable {E : Start} {e : Env} {le : Nat → Option Nat} {s s' : St} {a : Act} {w : World} {t : Tm} {cx : Ctx} {fn : FuncId} {F : Fns}
variable {dst : Option Tmp} {ty : TypeId} {pos : String} {af : Array Edge} {gd : Option (Nat × Bool)}

theorem run_under_bind {P : Program} {u : TypeId} {d : TypeDesc} (hu : P.underlying u = some d) {β : Type} (f : TypeDesc → Sem β) (w : World) : (underlying u >>= f).run P w = (f d).run P w := by
  simp only [Sem.run_bind, run_underlying' hu]; rfl

theorem ta_holds {P : Program} {xt u : TypeId} {d : TypeDesc} (hu : P.underlying u = some d) (hd : ∀ m, d ≠ .interface m) (v : Value) (w : World) (ok : Bool) :
    (Instr.typeAssert (.iface u v) xt u ok).run P w = .ok (if ok then .tuple #[v, .bool true] else v) w := by
  unfold Instr.typeAssert
  rw [run_under_bind hu]
  cases d <;> first | (exact absurd rfl (hd _)) | (dsimp only; rw [if_pos rfl]; rfl)

theorem ta_fails {P : Program} {xt u t : TypeId} {d : TypeDesc} (hu : P.underlying u = some d) (hd : ∀ m, d ≠ .interface m) (ht : t ≠ u) (v z : Value) (w : World) (hz : (zeroValue u).run P w = .ok z w) :
    (Instr.typeAssert (.iface t v) xt u true).run P w = .ok (.tuple #[z, .bool false]) w := by
  have hb : (do pure (Value.tuple #[← zeroValue u, .bool false]) : Sem Value).run P w = .ok (.tuple #[z, .bool false]) w := by simp only [Sem.run_bind, hz]; rfl
  unfold Instr.typeAssert
  rw [run_under_bind hu]
  cases d <;> first | (exact absurd rfl (hd _)) | (dsimp only; rw [if_neg ht]; exact hb)

theorem ta_nil {P : Program} {xt u : TypeId} {d : TypeDesc} (hu : P.underlying u = some d) (hd : ∀ m, d ≠ .interface m) (z : Value) (w : World) (hz : (zeroValue u).run P w = .ok z w) :
    (Instr.typeAssert .nilIface xt u true).run P w = .ok (.tuple #[z, .bool false]) w := by
  have hb : (do pure (Value.tuple #[← zeroValue u, .bool false]) : Sem Value).run P w = .ok (.tuple #[z, .bool false]) w := by simp only [Sem.run_bind, hz]; rfl
  unfold Instr.typeAssert
  rw [run_under_bind hu]
  cases d <;> first | (exact absurd rfl (hd _)) | exact hb

theorem runs_typeAssert (k : SR E e le s a w) {xt u : TypeId} {ok : Bool} {x : Operand} (h : stepOp cx fn F ⟨dst, .typeAssert x xt u ok, ty, pos, af, gd⟩ s = some (.ok t s')) : Runs cx.P E e le s a w ⟨dst, .typeAssert x xt u ok, ty, pos, af, gd⟩ t s' := by
  simp only [stepOp, evalOp] at h
  obtain ⟨vx, h1, h⟩ := valueK_inv h
  obtain ⟨r, h3, h⟩ := bind_inv h
  have hx := value_R k h1
  have key : ∃ v, (Instr.typeAssert (a.eval x) xt u ok).run cx.P w = .ok v w ∧ conc e r = some v := by
    unfold typeAssertA at h3
    split at h3
    · cases h3
    · rename_i d hd hu
      have hd' : ∀ m, d ≠ .interface m := fun m hm => hd m hm
      split at h3
      · rename_i tt v
        simp only [conc] at hx
        split at hx
        · rename_i v' hv'
          injection hx with hx
          rw [← hx]
          split at h3
          · rename_i htt
            cases h3
            subst htt
            refine ⟨_, ta_holds hu hd' v' w ok, ?_⟩
            cases ok
            · exact hv'
            · simp [conc, concL, hv']
          · rename_i htt
            split at h3
            · rename_i hok
              subst hok
              simp only [Option.map_eq_some_iff] at h3
              obtain ⟨z, hz, rfl⟩ := h3
              obtain ⟨zv, z1, z2⟩ := run_zero hz e
              exact ⟨_, ta_fails hu hd' htt v' zv w z1, by simp [conc, concL, z2]⟩
            · cases h3
        · cases hx
      · simp only [conc] at hx
        injection hx with hx
        rw [← hx]
        split at h3
        · rename_i hok
          subst hok
          simp only [Option.map_eq_some_iff] at h3
          obtain ⟨z, hz, rfl⟩ := h3
          obtain ⟨zv, z1, z2⟩ := run_zero hz e
          exact ⟨_, ta_nil hu hd' zv w z1, by simp [conc, concL, z2]⟩
        · cases h3
      · cases h3
    · cases h3
  obtain ⟨v, r1, r2⟩ := key
  cases ok with
  | false => cases h; exact Runs.value k (v := v) (by simp [execOp, r1]) r2
  | true =>
    obtain ⟨vs, rfl, _, h⟩ := spT_inv h
    cases h
    exact Runs.value k (v := v) (by simp [execOp, r1]) r2
end ops
end Go.Proofs.YtahbihcbidkbaaaGreat.Ev

/-
  Structs, arrays and slices, laid out from parts.
-/
set_option linter.unusedVariables false
namespace Go.Proofs.YtahbihcbidkbaaaGreat.Ev
open Go

section ops
variable {E : Start} {e : Env} {le : Nat → Option Nat} {s s' : St} {a : Act} {w : World} {t : Tm} {cx : Ctx} {fn : FuncId} {F : Fns}
variable {dst : Option Tmp} {ty : TypeId} {pos : String} {af : Array Edge} {gd : Option (Nat × Bool)}

/-- Parts stand for parts. -/
def PR (e : Env) : List (Nat × AV) → List (Nat × Value) → Prop
  | [], [] => True
  | (i, x) :: xs, (j, v) :: vs => i = j ∧ conc e x = some v ∧ PR e xs vs
  | _, _ => False

theorem part2_R (k : SR E e le s a w) : ∀ {ps : List (Nat × Operand)} {qs : List (Nat × AV)}, part2 s ps = some qs → PR e qs (ps.map fun x => (x.1, a.eval x.2))
  | [], qs, h => by cases h; trivial
  | (i, x) :: ps, qs, h => by
    simp only [part2] at h
    split at h
    · rename_i v hv
      split at h
      · rename_i vs hvs
        cases h
        exact ⟨rfl, value_R k hv, part2_R k hvs⟩
      · cases h
    · cases h

theorem lay_conc {cs new cs' : List AV} {off : Nat} (h : lay? cs off new = some cs') {vs : Array Value} {ws : List Value} (hc : concL e cs = some vs.toList) (hn : concL e new = some ws) (ho : cs.all one = true) (ho' : new.all one = true) :
    off + ws.length ≤ vs.size ∧ concL e cs' = some (over vs off ws).toList ∧ cs'.all one = true := by
  obtain ⟨h1, h2, h3⟩ := lay_get h
  have l1 := concL_length hc
  have l2 := concL_length hn
  simp only [Array.length_toList] at l1
  refine ⟨by omega, ?_, ?_⟩
  · refine concL_of_get (by simp [over_size]; omega) fun i x hi => ?_
    rw [h3 i] at hi
    simp only [Array.getElem?_toList]
    rw [over_get ws vs off i (by omega), l2]
    split at hi
    · rename_i hr
      rw [if_pos hr]
      exact concL_get hn _ x hi
    · rename_i hr
      rw [if_neg hr]
      obtain ⟨v, k1, k2⟩ := concL_get hc i x hi
      exact ⟨v, k1, by simpa using k2⟩
  · rw [List.all_eq_true]
    intro x hx
    obtain ⟨i, hi⟩ := List.mem_iff_getElem?.1 hx
    rw [h3 i] at hi
    split at hi
    · exact List.all_eq_true.1 ho' x (List.mem_iff_getElem?.2 ⟨_, hi⟩)
    · exact List.all_eq_true.1 ho x (List.mem_iff_getElem?.2 ⟨_, hi⟩)

theorem over_fold : ∀ (vs : List Value) (c : Array Value) (off k : Nat), (vs.zipIdx k).foldl (fun cs (x : Value × Nat) => cs.setIfInBounds (off + x.2) x.1) c = over c (off + k) vs
  | [], c, off, k => rfl
  | v :: vs, c, off, k => by
    simp only [List.zipIdx_cons, List.foldl_cons, over]
    rw [over_fold vs _ off (k + 1)]
    rfl

theorem fill_cons {place : Nat → Option (Nat × Nat)} {c : Array Value} {i off : Nat} {v : Value} {rest : List (Nat × Value)} (hp : place i = some (off, v.cells.size)) (hl : off + v.cells.size ≤ c.size) :
    Instr.fill place c ((i, v) :: rest) = Instr.fill place (over c off v.cells.toList) rest := by
  have hf : v.cells.zipIdx.foldl (fun cs (x : Value × Nat) => cs.setIfInBounds (off + x.2) x.1) c = over c off v.cells.toList := by
    rw [← Array.foldl_toList]
    simpa using over_fold v.cells.toList c off 0
  simp only [Instr.fill, hp]
  rw [if_neg (by simp; omega)]
  rw [← hf]

theorem buildK_R {ρ : Type} {r : ρ} {pl : Nat → Option (Nat × Nat × Bool)} {place : Nat → Option (Nat × Nat)} (hp : ∀ i off n agg, pl i = some (off, n, agg) → place i = some (off, n) ∧ (agg = false → n = 1)) {k : List AV → Option ρ} :
    ∀ {ps : List (Nat × AV)} {qs : List (Nat × Value)} {cs : List AV} {vs : Array Value}, buildK pl ps cs k = some r → PR e ps qs → concL e cs = some vs.toList → cs.all one = true →
      ∃ cs' vs', k cs' = some r ∧ Instr.fill place vs qs = some vs' ∧ concL e cs' = some vs'.toList ∧ cs'.all one = true ∧ cs'.length = cs.length
  | [], [], cs, vs, h, _, hc, ho => ⟨cs, vs, h, rfl, hc, ho, rfl⟩
  | [], _ :: _, _, _, _, hq, _, _ => hq.elim
  | (_, _) :: _, [], _, _, _, hq, _, _ => hq.elim
  | (i, x) :: ps, (j, v) :: qs, cs, vs, h, hq, hc, ho => by
    obtain ⟨rfl, hx, hq⟩ := hq
    simp only [buildK] at h
    split at h
    · rename_i off n agg hpl
      obtain ⟨p1, p2⟩ := hp _ _ _ _ hpl
      obtain ⟨ns, h, n1, n2, hcn⟩ := cellsK_inv h
      obtain ⟨c1, c2⟩ := hcn e v hx
      split at h
      · rename_i cs1 hlay
        obtain ⟨l1, l2, l3⟩ := lay_conc hlay hc c1 ho c2
        have hsz : v.cells.size = n := by
          have := concL_length c1
          simp only [Array.length_toList] at this
          cases agg with
          | true => rw [this, n1 rfl]
          | false => rw [this, n2 rfl, p2 rfl]
        simp only [Array.length_toList] at l1
        obtain ⟨cs', vs', k1, k2, k3, k4, k5⟩ := buildK_R hp h hq l2 l3
        refine ⟨cs', vs', k1, ?_, k3, k4, by rw [k5, (lay_get hlay).2.1]⟩
        rw [fill_cons (off := off) (by rw [p1, hsz]) l1, k2]
      · cases h
    · cases h

theorem run_places {P : Program} : ∀ {fs : List Field} {l : List (Nat × Nat × Bool)} (w : World), placesF P fs = some l →
    (fs.mapM (m := Sem) fun f => Prod.mk f.offset <$> sizeOf f.type).run P w = .ok (l.map fun x => (x.1, x.2.1)) w ∧ ∀ x ∈ l, x.2.2 = false → x.2.1 = 1
  | [], l, w, h => by cases h; exact ⟨by simp, by simp⟩
  | f :: fs, l, w, h => by
    simp only [placesF] at h
    split at h
    · rename_i n b r h1 h2
      cases h
      obtain ⟨t1, t2⟩ := tshape_iff h1
      obtain ⟨k1, k2⟩ := run_places w h2
      refine ⟨?_, ?_⟩
      · simp [List.mapM_cons, run_sizeOf' t1, k1]
      · intro x hx
        rcases List.mem_cons.1 hx with rfl | hx
        · intro hb
          simp only at hb
          subst hb
          exact tshape_one h1
        · exact k2 x hx
    · cases h

theorem runs_build (k : SR E e le s a w) {x : TypeId} {ps : Array (Nat × Operand)} (h : stepOp cx fn F ⟨dst, .build x ps, ty, pos, af, gd⟩ s = some (.ok t s')) : Runs cx.P E e le s a w ⟨dst, .build x ps, ty, pos, af, gd⟩ t s' := by
  simp only [stepOp, evalOp] at h
  split at h
  · rename_i qs z pl hqs hz hpl
    have hpr := part2_R k hqs
    obtain ⟨zv, z1, z2, z3⟩ := run_zeros hz e w
    have hz2 : concL e z = some zv.cells.toList := z2
    unfold places at hpl
    split at hpl
    · rename_i fs hu
      split at hpl
      · rename_i l hl
        cases hpl
        obtain ⟨m1, m2⟩ := run_places w hl
        obtain ⟨cs', vs', k1, k2, k3, k4, k5⟩ := buildK_R (place := fun i => (l[i]?).map fun x => (x.1, x.2.1)) (by
          intro i off n agg hi
          refine ⟨by simp [hi], fun ha => ?_⟩
          subst ha
          exact m2 _ (List.mem_iff_getElem?.2 ⟨i, hi⟩) rfl) h hpr hz2 z3
        cases k1
        refine Runs.value k (v := .agg vs') ?_ (by simp [TmR, conc, k3, k4])
        have m1' : (fs.mapM (m := Sem) fun f => Prod.mk f.offset <$> sizeOf f.type).run cx.P w = .ok (l.map fun x => (x.1, x.2.1)).toArray w := by
          rw [Array.mapM_eq_mapM_toList, Sem.run_map, m1]
          rfl
        simp [execOp, Instr.build, z1, run_underlying' hu, m1', k2]
      · cases hpl
    · rename_i m el hu
      split at hpl
      · rename_i n b hsh
        cases hpl
        obtain ⟨t1, t2⟩ := tshape_iff hsh
        obtain ⟨cs', vs', k1, k2, k3, k4, k5⟩ := buildK_R (place := fun i => some (i * n, n)) (by
          intro i off n' agg hi
          cases hi
          exact ⟨rfl, fun ha => by subst ha; exact tshape_one hsh⟩) h hpr hz2 z3
        cases k1
        refine Runs.value k (v := .agg vs') ?_ (by simp [TmR, conc, k3, k4])
        simp [execOp, Instr.build, z1, run_underlying' hu, run_sizeOf' t1, k2]
      · cases hpl
    · cases hpl
  · cases h
end ops
end Go.Proofs.YtahbihcbidkbaaaGreat.Ev

/-
  Slices: laid out from parts; made.
-/
set_option linter.unusedVariables false
namespace Go.Proofs.YtahbihcbidkbaaaGreat.Ev
open Go

theorem zeros_length (z : List AV) : ∀ n, (zeros z n).length = n * z.length
  | 0 => by simp [zeros]
  | n + 1 => by simp [zeros, zeros_length z n, Nat.succ_mul, Nat.add_comm]

theorem zeros_get (z : List AV) : ∀ n i, i < n * z.length → (zeros z n)[i]? = z[i % z.length]?
  | 0, i, h => by omega
  | n + 1, i, h => by
    simp only [zeros]
    by_cases hi : i < z.length
    · rw [List.getElem?_append_left hi, Nat.mod_eq_of_lt hi]
    · have h0 : 0 < z.length := by
        rcases Nat.eq_zero_or_pos z.length with hz | hz
        · rw [hz] at h; omega
        · exact hz
      rw [List.getElem?_append_right (by omega), zeros_get z n _ (by rw [Nat.succ_mul] at h; omega)]
      rw [Nat.mod_eq_sub_mod (by omega : z.length ≤ i)]

theorem zeros_one {z : List AV} (h : z.all one = true) : ∀ n, (zeros z n).all one = true
  | 0 => rfl
  | n + 1 => by simp only [zeros, List.all_append, h, zeros_one h n, Bool.and_self]

/-- The model's row of zeros. -/
theorem zeros_conc {e : Env} {z : List AV} {v : Value} (h : concL e z = some v.cells.toList) (n m : Nat) (hm : m = n * z.length) (zero : Array Value) (hz : m ≠ 0 → zero = v.cells) :
    concL e (zeros z n) = some ((Array.range m).map (zero[· % zero.size]!)).toList := by
  have hl := concL_length h
  simp only [Array.length_toList] at hl
  refine concL_of_get (by simp [zeros_length, hm]) fun i x hi => ?_
  have hlt : i < m := by
    rw [hm, ← zeros_length]
    exact (List.getElem?_eq_some_iff.1 hi).1
  rw [zeros_get z n i (by omega)] at hi
  obtain ⟨u, h1, h2⟩ := concL_get h _ x hi
  refine ⟨u, h1, ?_⟩
  rw [hz (by omega)]
  simp only [Array.toList_map, Array.toList_range, List.getElem?_map, List.getElem?_range hlt, Option.map_some]
  rw [hl]
  simp only [Array.getElem?_toList] at h2
  simp [getElem!_def, h2]

section ops
variable {E : Start} {e : Env} {le : Nat → Option Nat} {s s' : St} {a : Act} {w : World} {t : Tm} {cx : Ctx} {fn : FuncId} {F : Fns}
variable {dst : Option Tmp} {ty : TypeId} {pos : String} {af : Array Edge} {gd : Option (Nat × Bool)}

theorem run_newRow {P : Program} {elem : TypeId} {c : Array Value} : (newRow elem c).run P w = .ok ⟨w.heap.size, 0, none⟩ { w with heap := w.heap.push (.cells c elem) } := by
  simp [newRow]

theorem telem_under {P : Program} {x el : TypeId} (h : telem P x = some el) : P.underlying x = some (.slice el) := by
  unfold telem at h
  split at h
  · rename_i el' hu; cases h; exact hu
  · cases h

theorem rowOf_inv {P : Program} {x : TypeId} {n : Nat} {agg : Bool} {z : List AV} (h : rowOf P x = some (n, agg, z)) : ∃ el, P.underlying x = some (.slice el) ∧ tshape P el = some (n, agg) ∧ tzeros P el = some z ∧ n ≠ 0 := by
  unfold rowOf at h
  split at h
  · cases h
  · rename_i el he
    split at h
    · rename_i n' agg' z' h1 h2
      split at h
      · cases h
      · cases h; exact ⟨el, telem_under he, h1, h2, by omega⟩
    · cases h

/-- A slice laid out: the model's. -/
theorem run_buildSlice {P : Program} {x el : TypeId} {n len : Nat} {z : List AV} (hu : P.underlying x = some (.slice el)) (hs : tsize P el = some n) (hz : tzeros P el = some z) (hlim : len * n ≤ 2 ^ 24)
    {qs : List (Nat × AV)} {ps : Array (Nat × Value)} (hpr : PR e qs ps.toList) {cs' : List AV}
    (hf : ∀ vs : Array Value, concL e (zeros z len) = some vs.toList → ∃ vs', Instr.fill (fun i => some (i * n, n)) vs ps.toList = some vs' ∧ concL e cs' = some vs'.toList) :
    ∃ c, (Instr.buildSlice x len ps).run P w = .ok (.slice (some ⟨w.heap.size, 0, none⟩) len len) { w with heap := w.heap.push (.cells c el) } ∧ concL e cs' = some c.toList := by
  obtain ⟨zv, z1, z2, z3⟩ := run_zeros hz e w
  have hlen : n = z.length := by have := tzeros_len hz; rw [hs] at this; cases this; rfl
  obtain ⟨vs', f1, f2⟩ := hf _ (zeros_conc z2 len (len * n) (by rw [hlen]) (if len * n = 0 then #[] else zv.cells) (fun h => by rw [if_neg h]))
  refine ⟨vs', ?_, f2⟩
  have hno : ¬ (len * n > 2 ^ 24) := by omega
  by_cases h0 : len * n = 0
  · rw [if_pos h0, h0] at f1
    have h0' : len = 0 ∨ n = 0 := Nat.mul_eq_zero.1 h0
    simp at f1
    simp [Instr.buildSlice, run_underlying' hu, run_sizeOf' hs, h0, f1, run_newRow]
  · rw [if_neg h0] at f1
    simp [Instr.buildSlice, run_underlying' hu, run_sizeOf' hs, h0, hno, z1, f1, run_newRow]

theorem cellsAt_row {e : Env} {w w' : World} {c : Array Value} {elem : TypeId} {cs : List AV} (hn : New w w' (.cells c elem)) (hc : concL e cs = some c.toList) (ho : cs.all one = true) : CellsAt e w' w.heap.size 0 cs.length cs :=
  cellsAt_new hn hc ho

theorem opBuildSlice_inv {P : Program} {h : Heap} {x : TypeId} {len : Nat} {qs : List (Nat × AV)} {r : AV × Heap} (hh : opBuildSlice P h x len qs = some r) : ∃ el n z cells, P.underlying x = some (.slice el) ∧ tsize P el = some n ∧ tzeros P el = some z ∧ n ≠ 0 ∧
    len * n ≤ 2 ^ 24 ∧ fillA (fun i => some (i * n, n)) (zeros z len) qs = some cells ∧ r = (.slice h.next 0 0 len (.ex len), h.push (.cells cells n)) := by
  unfold opBuildSlice at hh
  simp only [Option.bind_eq_bind] at hh
  obtain ⟨el, h1, hh⟩ := bind_inv hh
  obtain ⟨n, h2, hh⟩ := bind_inv hh
  obtain ⟨z, h3, hh⟩ := bind_inv hh
  split at hh
  · cases hh
  · rename_i hno
    obtain ⟨cells, h4, hh⟩ := bind_inv hh
    cases hh
    exact ⟨el, n, z, cells, telem_under h1, h2, h3, by omega, by omega, h4, rfl⟩

/-- fill, where parts are laid by size. -/
theorem fillA_R {pl : Nat → Option (Nat × Nat)} : ∀ {ps : List (Nat × AV)} {qs : List (Nat × Value)} {cs cs' : List AV} {vs : Array Value}, fillA pl cs ps = some cs' → PR e ps qs → concL e cs = some vs.toList → cs.all one = true →
      ∃ vs', Instr.fill pl vs qs = some vs' ∧ concL e cs' = some vs'.toList ∧ cs'.all one = true ∧ cs'.length = cs.length
  | [], [], cs, cs', vs, h, _, hc, ho => by cases h; exact ⟨vs, rfl, hc, ho, rfl⟩
  | [], _ :: _, _, _, _, _, hq, _, _ => hq.elim
  | (_, _) :: _, [], _, _, _, _, hq, _, _ => hq.elim
  | (i, x) :: ps, (j, v) :: qs, cs, cs', vs, h, hq, hc, ho => by
    obtain ⟨rfl, hx, hq⟩ := hq
    simp only [fillA, Option.bind_eq_bind] at h
    obtain ⟨⟨off, n⟩, h1, h⟩ := bind_inv h
    simp only at h
    split at h
    · cases h
    · rename_i hn
      obtain ⟨cs1, hlay, h⟩ := bind_inv h
      have hcn : concL e x.cells = some v.cells.toList ∧ x.cells.all one = true := by
        have ho1 : x.cells.all one = true := by
          cases hb : x.cells.all one with
          | true => rfl
          | false => exact absurd (.inr hb) hn
        refine ⟨?_, ho1⟩
        cases x with
        | agg xs =>
          obtain ⟨us, rfl, h5, h6⟩ := conc_agg hx
          exact h5
        | tup xs => simp [AV.cells, one] at ho1
        | _ => simp only [AV.cells]; rw [(conc_one hx rfl).1]; exact concL_cons.2 ⟨v, [], hx, rfl, rfl⟩
      obtain ⟨l1, l2, l3⟩ := lay_conc hlay hc hcn.1 ho hcn.2
      have hsz : v.cells.size = n := by
        have := concL_length hcn.1
        simp only [Array.length_toList] at this
        have : ¬ x.cells.length ≠ n := fun hh => hn (.inl hh)
        omega
      simp only [Array.length_toList] at l1
      obtain ⟨vs', k2, k3, k4, k5⟩ := fillA_R h hq l2 l3
      refine ⟨vs', ?_, k3, k4, by rw [k5, (lay_get hlay).2.1]⟩
      rw [fill_cons (off := off) (by rw [h1, hsz]) l1, k2]

theorem runs_buildSlice (k : SR E e le s a w) {x : TypeId} {len : Nat} {ps : Array (Nat × Operand)} (h : stepOp cx fn F ⟨dst, .buildSlice x len ps, ty, pos, af, gd⟩ s = some (.ok t s')) :
    Runs cx.P E e le s a w ⟨dst, .buildSlice x len ps, ty, pos, af, gd⟩ t s' := by
  simp only [stepOp, evalOp] at h
  split at h
  · rename_i qs hqs
    have hpr := part2_R k hqs
    split at h
    · rename_i l hl
      split at h
      · rename_i n agg z hrow
        obtain ⟨el, hu, hs, hz, hn0⟩ := rowOf_inv hrow
        obtain ⟨t1, t2⟩ := tshape_iff hs
        split at h
        · rename_i hlim
          rw [Bool.and_eq_true] at hlim
          have hlt : l < s.lc.length := by simpa [Nat.blt_eq] using hlim.2
          have hlim := of_decide_eq_true hlim.1
          obtain ⟨zv, z1, z2, z3⟩ := run_zeros hz e w
          have hpl : ∀ i off n' agg', (fun i => some (i * n, n, agg)) i = some (off, n', agg') → (fun i => some (i * n, n)) i = some (off, n') ∧ (agg' = false → n' = 1) := by
            intro i off n' agg' hi
            cases hi
            exact ⟨rfl, fun ha => by subst ha; exact tshape_one hs⟩
          have hlen : n = z.length := by have := tzeros_len hz; rw [t1] at this; cases this; rfl
          have hb : (fun (cs : List AV) => some (Out.ok (Tm.lsl l len) { s with tm := forget l s.tm, lc := s.lc.set l (some cs) })) = fun cs => (some cs).bind fun cs => some (Out.ok (Tm.lsl l len) { s with tm := forget l s.tm, lc := s.lc.set l (some cs) }) := rfl
          rw [hb, ← buildK_bind] at h
          obtain ⟨cs', hb', h⟩ := bind_inv h
          cases h
          obtain ⟨_, vs0, k1, k2, k3, k4, k5⟩ := buildK_R hpl hb' hpr (zeros_conc z2 len (len * n) (by rw [hlen]) zv.cells (fun _ => rfl)) (zeros_one z3 len)
          cases k1
          obtain ⟨c, r1, r2⟩ := run_buildSlice (P := cx.P) (w := w) (ps := ps.map fun x => (x.1, a.eval x.2)) hu t1 hz hlim (by simpa using hpr) (cs' := cs') (fun vs hvs => by
            obtain ⟨cs2, vs2, m1, m2, m3, m4, m5⟩ := buildK_R hpl hb' hpr hvs (zeros_one z3 len)
            cases m1
            exact ⟨vs2, by simpa using m2, m3⟩)
          have hn : New w { w with heap := w.heap.push (.cells c el) } (.cells c el) := ⟨rfl, rfl, rfl, rfl⟩
          refine ⟨_, _, _, e, _, ?_, .inl rfl, k.newLocal hn hlt (cellsAt_new hn r2 k4), ⟨w.heap.size, by simp, rfl⟩⟩
          simp [execOp, r1]
        · cases h
      · cases h
    · obtain ⟨r, hr, h⟩ := bind_inv h
      cases h
      obtain ⟨el, n, z, cells, hu, t1, hz, hn0, hlim, hf, rfl⟩ := opBuildSlice_inv hr
      obtain ⟨zv, z1, z2, z3⟩ := run_zeros hz e w
      have hlen : n = z.length := by have := tzeros_len hz; rw [t1] at this; cases this; rfl
      obtain ⟨vs0, k2, k3, k4, k5⟩ := fillA_R hf hpr (zeros_conc z2 len (len * n) (by rw [hlen]) zv.cells (fun _ => rfl)) (zeros_one z3 len)
      obtain ⟨c, r1, r2⟩ := run_buildSlice (P := cx.P) (w := w) (ps := ps.map fun x => (x.1, a.eval x.2)) hu t1 hz hlim (by simpa using hpr) (cs' := cells) (fun vs hvs => by
        obtain ⟨vs2, m2, m3, m4, m5⟩ := fillA_R hf hpr hvs (zeros_one z3 len)
        exact ⟨vs2, by simpa using m2, m3⟩)
      have hn : New w { w with heap := w.heap.push (.cells c el) } (.cells c el) := ⟨rfl, rfl, rfl, rfl⟩
      have hcl : cells.length = len * n := by rw [k5, zeros_length, hlen]
      have hle := Env.le_upd (s := ⟨w.heap.size, 0, len, n⟩) (k.heap.new s.h.next (Nat.le_refl _)).1
      refine ⟨_, .slice (some ⟨w.heap.size, 0, none⟩) len len, _, _, le, ?_, .inl rfl, k.push (sp := ⟨w.heap.size, 0, len, n⟩) hn rfl ⟨rfl, ?_⟩, ?_⟩
      · simp [execOp, r1]
      · have := cellsAt_new hn (concL_mono hle _ _ r2) k4
        rw [hcl] at this
        exact this
      · simp [TmR, conc, Env.upd]
  · cases h
end ops
end Go.Proofs.YtahbihcbidkbaaaGreat.Ev

/-
  makeSlice, makeMap, conversions.
-/
set_option linter.unusedVariables false
namespace Go.Proofs.YtahbihcbidkbaaaGreat.Ev
open Go

theorem wrap_small {n : Int} (h0 : 0 ≤ n) (h1 : n ≤ 2 ^ 32) : IntKind.i64.wrap n = n := by
  have hm : n % (2 ^ 64 : Int) = n := Int.emod_eq_of_lt h0 (by omega)
  unfold IntKind.wrap
  simp only [show IntKind.i64.bits = 64 from rfl, show IntKind.i64.signed = true from rfl, hm]
  rw [if_neg (by simp; omega)]

section ops
variable {E : Start} {e : Env} {le : Nat → Option Nat} {s s' : St} {a : Act} {w : World} {t : Tm} {cx : Ctx} {fn : FuncId} {F : Fns}
variable {dst : Option Tmp} {ty : TypeId} {pos : String} {af : Array Edge} {gd : Option (Nat × Bool)}

theorem opMakeSlice_inv {P : Program} {h : Heap} {x : TypeId} {l c : Int} {r : AV × Heap} (hh : opMakeSlice P h x l c = some r) : ∃ el n z, P.underlying x = some (.slice el) ∧ tsize P el = some n ∧ tzeros P el = some z ∧ n ≠ 0 ∧
    0 ≤ l ∧ l ≤ c ∧ c ≤ 2 ^ 32 ∧ (∃ i, P.info? el = some i ∧ i.bytes ≤ 2 ^ 12) ∧ r = (.slice h.next 0 0 l.toNat (.ex c.toNat), h.push (.cells (zeros z c.toNat) n)) := by
  unfold opMakeSlice at hh
  simp only [Option.bind_eq_bind] at hh
  obtain ⟨el, h1, hh⟩ := bind_inv hh
  obtain ⟨n, h2, hh⟩ := bind_inv hh
  obtain ⟨z, h3, hh⟩ := bind_inv hh
  split at hh
  · cases hh
  · rename_i hno
    cases hh
    have hm : ¬ ((most : Int) < c) := fun hh => hno (by simp [hh])
    have hb : ¬ (2 ^ 12 < ((P.info? el).map (·.bytes)).getD most) := fun hh => hno (.inr (.inr (.inr (.inr hh))))
    have he : n ≠ 0 := fun hh => hno (.inl hh)
    have hl : ¬ l < 0 := fun hh => hno (.inr (.inl hh))
    have hc : ¬ c < l := fun hh => hno (.inr (.inr (.inl hh)))
    refine ⟨el, n, z, telem_under h1, h2, h3, he, by omega, by omega, by unfold most at hm; omega, ?_, rfl⟩
    unfold tsize at h2
    cases hi : P.info? el with
    | none => rw [hi] at h2; cases h2
    | some i => rw [hi] at hb; simp only [Option.map_some, Option.getD_some] at hb; exact ⟨i, rfl, by omega⟩

theorem runs_makeSlice (k : SR E e le s a w) {x : TypeId} {ol oc : Operand} (h : stepOp cx fn F ⟨dst, .makeSlice x ol oc, ty, pos, af, gd⟩ s = some (.ok t s')) :
    Runs cx.P E e le s a w ⟨dst, .makeSlice x ol oc, ty, pos, af, gd⟩ t s' := by
  simp only [stepOp, evalOp] at h
  obtain ⟨vl, h1, h⟩ := valueK_inv h
  obtain ⟨vc, h2, h⟩ := valueK_inv h
  obtain ⟨kl, l, hl, h⟩ := asI_inv h
  obtain ⟨kc, c, hc, h⟩ := asI_inv h
  subst hl hc
  have e1 := value_R k h1
  have e2 := value_R k h2
  simp only [conc] at e1 e2
  injection e1 with e1
  injection e2 with e2
  obtain ⟨r, hr, h⟩ := bind_inv h
  cases h
  obtain ⟨el, n, z, hu, t1, hz, hn0, l0, lc, c32, ⟨i, hi, hb⟩, rfl⟩ := opMakeSlice_inv hr
  obtain ⟨zv, z1, z2, z3⟩ := run_zeros hz e w
  have hlen : n = z.length := by have := tzeros_len hz; rw [t1] at this; cases this; rfl
  obtain ⟨cn, rfl⟩ := Int.eq_ofNat_of_zero_le (Int.le_trans l0 lc)
  obtain ⟨ln, rfl⟩ := Int.eq_ofNat_of_zero_le l0
  have w1 := wrap_small l0 (Int.le_trans lc c32)
  have w2 := wrap_small (Int.le_trans l0 lc) c32
  have lcn : ln ≤ cn := by omega
  have c32n : cn ≤ 2 ^ 32 := by omega
  have hprod : i.bytes * cn ≤ 2 ^ 12 * 2 ^ 32 := Nat.mul_le_mul hb c32n
  have hcmp : cn * i.bytes ≤ 2 ^ 44 := by rw [Nat.mul_comm]; exact hprod
  have hzc := zeros_conc z2 cn (cn * n) (by rw [hlen]) (if cn * n = 0 then #[] else zv.cells) (fun h => by rw [if_neg h])
  have key : (Instr.makeSlice x (.int kl ln) (.int kc cn)).run cx.P w = .ok (.slice (some ⟨w.heap.size, 0, none⟩) ln cn)
      { w with heap := w.heap.push (.cells ((Array.range (cn * n)).map ((if cn * n = 0 then #[] else zv.cells)[· % (if cn * n = 0 then #[] else zv.cells).size]!)) el) } := by
    unfold Instr.makeSlice
    have b1 : ¬ (281474976710656 < (i.bytes : Int) * cn) := by
      have : ((i.bytes * cn : Nat) : Int) ≤ ((2 ^ 12 * 2 ^ 32 : Nat) : Int) := Int.ofNat_le.2 hprod
      rw [Int.natCast_mul] at this
      omega
    have b2 : ¬ (roomBytes < cn * i.bytes) := by unfold roomBytes; omega
    have b6 : ¬ (cn < ln) := by omega
    have b3 : ¬ ((ln : Int) < 0) := by omega
    have b4 : ¬ ((cn : Int) < 0) := by omega
    have b5 : ¬ ((ln : Int) > cn) := by omega
    by_cases h0 : cn * n = 0
    · simp [run_underlying' hu, asInt, asIntOf, run_typeInfo hi, w1, w2, run_sizeOf' t1, b1, b6, askRoom, h0, run_newRow]
      intro hbad; exact absurd hbad (by omega)
    · simp [run_underlying' hu, asInt, asIntOf, run_typeInfo hi, w1, w2, run_sizeOf' t1, b1, b6, askRoom, h0, z1, run_newRow]
      intro hbad; exact absurd hbad (by omega)
  have hn : New w { w with heap := w.heap.push (.cells ((Array.range (cn * n)).map ((if cn * n = 0 then #[] else zv.cells)[· % (if cn * n = 0 then #[] else zv.cells).size]!)) el) } _ := ⟨rfl, rfl, rfl, rfl⟩
  have hle := Env.le_upd (s := ⟨w.heap.size, 0, cn, n⟩) (k.heap.new s.h.next (Nat.le_refl _)).1
  have hcl : (zeros z cn).length = cn * n := by rw [zeros_length, hlen]
  refine ⟨_, .slice (some ⟨w.heap.size, 0, none⟩) ln cn, _, _, le, ?_, .inl rfl, k.push (sp := ⟨w.heap.size, 0, cn, n⟩) hn rfl ⟨rfl, ?_⟩, ?_⟩
  · simp [execOp, ← e1, ← e2, key]
  · have := cellsAt_new hn (concL_mono hle _ _ hzc) (zeros_one z3 cn)
    rw [hcl] at this
    exact this
  · simp [TmR, conc, Env.upd, lcn]
end ops
end Go.Proofs.YtahbihcbidkbaaaGreat.Ev
