/-
  SettleNobody: what the closed run must show. 'Fair' turns on its limit's sign alone, where nobody is there to settle.
-/
import Derived.Test.YtahbihcbidkbaaaGreatJu
import Derived.KernelRfl
set_option maxRecDepth 100000
set_option linter.unusedVariables false
namespace Go.Proofs.YtahbihcbidkbaaaGreat.Ev
open Go

theorem call_step (m : Nat) (f : FuncId) (args : List AV) (h : Heap) (rc : Option (Option AV)) : (sh (m + 1)).call f args h rc = callStep cx m (sh m) f args h rc :=
  Tab.run_eq tab_ok ..

/-- A call's answer without what was recovered. -/
def pl (r : R) : Option (Fin × Heap) :=
  match r with
  | some (r, h, _) => some (r, h)
  | none => none

theorem plain_step (m : Nat) (f : FuncId) (args : List AV) (h : Heap) : (sh (m + 1)).plain f args h = pl (callStep cx m (sh m) f args h none) := by
  unfold Fns.plain pl
  rw [call_step]
  cases callStep cx m (sh m) f args h none with
  | none => rfl
  | some p => rfl

def Le {ρ : Type} (a b : Option ρ) : Prop := ∀ x, a = some x → b = some x
theorem Le.refl {ρ : Type} (a : Option ρ) : Le a a := fun _ h => h
theorem Le.none {ρ : Type} (a : Option ρ) : Le none a := fun _ h => by cases h
theorem Le.bindC {ρ : Type} {r r' : Option (Fin × Heap)} {k k' pk pk' : AV → Heap → Option ρ} (hr : Le r r') (hk : ∀ v h, Le (k v h) (k' v h)) (hp : ∀ v h, Le (pk v h) (pk' v h)) : Le (bindC r k pk) (bindC r' k' pk') := by
  intro x hx
  cases hr' : r with
  | none => rw [hr'] at hx; cases hx
  | some p =>
    obtain ⟨f, h⟩ := p
    rw [hr _ hr']
    rw [hr'] at hx
    cases f <;> first | exact hk _ _ _ hx | exact hp _ _ _ hx
theorem Le.bind {ρ σ : Type} {o : Option σ} {k k' : σ → Option ρ} (hk : ∀ v, Le (k v) (k' v)) : Le (o.bind k) (o.bind k') := by
  cases o with
  | none => exact Le.none _
  | some v => exact hk v
theorem Le.unT0 {ρ : Type} {a : AV} {k k' : Unit → Option ρ} (hk : ∀ v, Le (k v) (k' v)) : Le (unT0 a k) (unT0 a k') := by
  unfold Ev.unT0
  split
  · unfold un0
    split
    · exact hk _
    · exact Le.none _
  · exact Le.none _
theorem Le.asB {ρ : Type} {a : AV} {k k' : Bool → Option ρ} (hk : ∀ v, Le (k v) (k' v)) : Le (asB a k) (asB a k') := by
  unfold Ev.asB
  split
  · exact hk _
  · exact Le.none _
theorem Le.cond {ρ : Type} {b : Bool} {x x' y y' : Option ρ} (hx : b = true → Le x x') (hy : b = false → Le y y') : Le (cond b x y) (cond b x' y') := by
  cases b with
  | true => exact hx rfl
  | false => exact hy rfl
theorem Le.pl {r r' : R} (h : Le r r') : Le (pl r) (pl r') := by
  intro x hx
  cases hr : r with
  | none => rw [hr] at hx; cases hx
  | some p => rw [h _ hr, ← hr]; exact hx
theorem Le.scal {ρ : Type} {a : AV} {k k' : AV → Option ρ} (hk : ∀ v, Le (k v) (k' v)) : Le (scal a k) (scal a k') := by
  unfold Ev.scal
  split
  · exact Le.none _
  · exact Le.none _
  · exact hk _

/-- The limit, laid between 0 and 100. -/
def clamp (a : Int) : Int := if a < 0 then 0 else if 100 < a then 100 else a

theorem clamp_plain (m : Nat) (a : Int) (h : Heap) : (sh (m + 1)).plain 17 [.int .i64 a, .int .i64 0, .int .i64 100] h = some (.ret (.int .i64 (clamp a)), h) := by
  rw [plain_step, f17_eq]
  unfold f17
  have e1 : binop .lss (.int .i64 a) (.int .i64 0) = some (.bool (decide (a < 0))) := rfl
  have e2 : binop .gtr (.int .i64 a) (.int .i64 100) = some (.bool (decide (100 < a))) := rfl
  rw [e1, e2]
  unfold clamp
  by_cases h1 : a < 0
  · simp [h1, asB, pl]
  · by_cases h2 : 100 < a
    · simp [h1, h2, asB, pl]
    · simp [h1, h2, asB, pl]

theorem clamp_pos (a : Int) : decide (0 < clamp a) = decide (0 < a) := by
  unfold clamp
  split
  · simp; omega
  · split
    · simp; omega
    · rfl
theorem clamp_zero (a : Int) (h : ¬ 0 < a) : clamp a = 0 := by
  unfold clamp
  split
  · rfl
  · split
    · omega
    · omega

/-- 'Fair' where nobody is there: b says whether the limit is positive. -/
noncomputable def g5_2 (F : Fns) (h9 : Heap) (h : Heap) (b : Bool) (a0 : AV) : R :=
 bindC (F.plain 16 [(.int .i64 13)] h9) (fun v10 h11 =>
 bindC (F.plain 15 [(.ptr (some (h.next, 0))), (.int .i64 0), v10] h11) (fun v12 h13 =>
 unT0 v12 fun _u =>
 cond b
 (bindC (F.plain 18 [a0] h13) (fun v26 h27 =>
 (fieldA P 30 v26 0).bind fun v28 =>
 (eqop P true false 3 v28 (.int .i64 0)).bind fun v29 =>
 asB v29 fun b30 => cond b30
 (some (.ret (.tup [.int .i64 0, .bool false]), h27, none))
 none)
 (fun _ _ => none))
 (some (.ret (.tup [.int .i64 0, .bool false]), h13, none)))
 (fun _ _ => none))
 (fun _ _ => none)
noncomputable def g5 (F : Fns) (a0 : AV) (b : Bool) (h : Heap) : R :=
 scal a0 fun v1 =>
 let h2 := h.push (.cells [v1, (.bool false)] 1)
 (opBuildSlice P h2 99 1 [(0, .agg [(.int .i64 11), (.int .i64 0), (.int .i64 0), (.int .i64 0), (.int .i64 0), (.int .i64 0), (.int .i64 0), (.int .i64 0), (.int .i64 0), (.int .i64 0), (.int .i64 0), (.int .i64 0), (.int .i64 0)])]).bind fun r3 =>
 bindC (F.plain 14 [(.ptr (some (h.next, 0))), r3.1] r3.2) (fun v4 h5 =>
 unT0 v4 fun _u =>
 bindC (F.plain 16 [(.int .i64 14)] h5) (fun v6 h7 =>
 bindC (F.plain 15 [(.ptr (some (h.next, 0))), (.int .i64 0), v6] h7) (fun v8 h9 =>
 unT0 v8 fun _u =>
 g5_2 F h9 h b a0)
 (fun _ _ => none))
 (fun _ _ => none))
 (fun _ _ => none)

theorem g5_le (m : Nat) (x : AV) (a : Int) (h : Heap) : Le (g5 (sh (m + 1)) x (decide (0 < a)) h) (f5 (m + 1) (sh (m + 1)) x (.int .i64 a) h) := by
  unfold f5 g5
  refine Le.scal fun v1 => ?_
  unfold f5_3
  refine Le.bind fun r3 => Le.bindC (Le.refl _) (fun v4 h5 => Le.unT0 fun _ => Le.bindC (Le.refl _) (fun v6 h7 => Le.bindC (Le.refl _) (fun v8 h9 => Le.unT0 fun _ => ?_) (fun _ _ => Le.none _)) (fun _ _ => Le.none _)) (fun _ _ => Le.none _)
  unfold f5_2 g5_2
  refine Le.bindC (Le.refl _) (fun v10 h11 => Le.bindC (Le.refl _) (fun v12 h13 => Le.unT0 fun _ => ?_) (fun _ _ => Le.none _)) (fun _ _ => Le.none _)
  rw [clamp_plain]
  have e1 : binop .lss (.int .i64 0) (.int .i64 (clamp a)) = some (.bool (decide (0 < clamp a))) := rfl
  simp only [bindC, loopV, un5, e1, Option.bind_some, asB, clamp_pos]
  refine Le.cond (fun hb => ?_) (fun hb => ?_)
  · unfold f5_1
    exact Le.bindC (Le.refl _) (fun v26 h27 => Le.bind fun v28 => Le.bind fun v29 => Le.asB fun b30 => Le.cond (fun _ => Le.refl _) (fun _ => Le.none _)) (fun _ _ => Le.none _)
  · have hz : clamp a = 0 := clamp_zero a (by simpa using hb)
    rw [clamp_plain, hz]
    exact Le.refl _

/-- The statement's function after 'alive'. -/
noncomputable def g3r (F F' : Fns) (n : Nat) (b : Bool) (v1 : AV) (h2 : Heap) : R :=
 (unop .not v1).bind fun v3 =>
 asB v3 fun b4 => cond b4
 (some (.ret (.bool false), h2, none))
 (let h5 := h2.push (.cells [(.ptr none), (.ptr none), (.int .i64 0), .nilSlice, (.int .i64 0), (.int .i64 0), (.int .i64 0), (.int .i64 0), (.int .i64 0), .nilSlice, (.int .i64 0)] 1)
 bindC (pl (g5 F' (.ptr none) b h5)) (fun v6 h7 =>
 unT2 v6 fun x8 x9 =>
 bindC (pl (g5 F' (.ptr (some (h2.next, 0))) b h7)) (fun v10 h11 =>
 unT2 v10 fun x12 x13 =>
 (eqop P true false 3 x8 (.int .i64 0)).bind fun v14 =>
 asB v14 fun b15 => cond b15
 (f3_3 n F x9 x12 x13 h11 h2)
 (some (.ret (.bool false), h11, none)))
 (fun v71 h72 => none))
 (fun v73 h74 => none))
theorem Le.unT2 {ρ : Type} {a : AV} {k k' : AV → AV → Option ρ} (hk : ∀ x y, Le (k x y) (k' x y)) : Le (unT2 a k) (unT2 a k') := by
  unfold Ev.unT2
  split
  · unfold un2
    split
    · exact Le.none _
    · split
      · exact Le.none _
      · split
        · exact hk _ _
        · exact Le.none _
  · exact Le.none _

theorem g3_le (m : Nat) (a : Int) (h : Heap) : Le (bindC ((sh (m + 2)).plain 4 [] h) (g3r (sh (m + 2)) (sh (m + 1)) (m + 2) (decide (0 < a))) fun _ _ => none) (f3 (m + 2) (sh (m + 2)) (.int .i64 a) h) := by
  unfold f3 f3_4
  refine Le.bindC (Le.refl _) (fun v1 h2 => ?_) (fun _ _ => Le.none _)
  unfold g3r
  refine Le.bind fun v3 => Le.asB fun b4 => Le.cond (fun _ => Le.refl _) (fun _ => ?_)
  refine Le.bindC ?_ (fun v6 h7 => Le.unT2 fun x8 x9 => Le.bindC ?_ (fun v10 h11 => Le.unT2 fun x12 x13 => Le.refl _) (fun _ _ => Le.none _)) (fun _ _ => Le.none _)
  · rw [plain_step, f5_eq]
    exact Le.pl (g5_le m _ a _)
  · rw [plain_step, f5_eq]
    exact Le.pl (g5_le m _ a _)

/-- Does a call answer true? -/
def isT : R → Bool
  | some (.ret (.bool true), _, _) => true
  | _ => false

theorem isT_inv {r : R} (h : isT r = true) : ∃ h' rc', r = some (.ret (.bool true), h', rc') := by
  unfold isT at h
  split at h
  · exact ⟨_, _, rfl⟩
  · cases h

/-- The closed run: both signs. -/
noncomputable def chk (m : Nat) : Bool :=
  match (sh (m + 2)).plain 4 [] Heap.empty with
  | some (.ret v, h) => isT (g3r (sh (m + 2)) (sh (m + 1)) (m + 2) true v h) && isT (g3r (sh (m + 2)) (sh (m + 1)) (m + 2) false v h)
  | _ => false

theorem run3 (m : Nat) (hc : chk m = true) (a : Int) : ∃ h' rc', (fns cx (m + 3)).call 3 [.int .i64 a] Heap.empty none = some (.ret (.bool true), h', rc') := by
  rw [← sh_eq, call_step, f3_eq]
  unfold chk at hc
  split at hc
  · rename_i v h heq
    rw [Bool.and_eq_true] at hc
    have key : isT (bindC ((sh (m + 2)).plain 4 [] Heap.empty) (g3r (sh (m + 2)) (sh (m + 1)) (m + 2) (decide (0 < a))) fun _ _ => none) = true := by
      rw [heq]
      cases decide (0 < a) with
      | true => exact hc.1
      | false => exact hc.2
    obtain ⟨h', rc', e⟩ := isT_inv key
    exact ⟨h', rc', g3_le m a _ _ e⟩
  · cases hc
end Go.Proofs.YtahbihcbidkbaaaGreat.Ev
