/-
  makeMap, conversions.
-/
import Derived.Test.YtahbihcbidkbaaaGreatJc
import Derived.Laws.IdiomStrings
set_option linter.unusedVariables false
namespace Go.Proofs.YtahbihcbidkbaaaGreat.Ev
open Go

section ops
variable {E : Start} {e : Env} {le : Nat → Option Nat} {s s' : St} {a : Act} {w : World} {t : Tm} {cx : Ctx} {fn : FuncId} {F : Fns}
variable {dst : Option Tmp} {ty : TypeId} {pos : String} {af : Array Edge} {gd : Option (Nat × Bool)}

theorem runs_makeMap (k : SR E e le s a w) {x : TypeId} {o : Option Operand} (h : stepOp cx fn F ⟨dst, .makeMap x o, ty, pos, af, gd⟩ s = some (.ok t s')) : Runs cx.P E e le s a w ⟨dst, .makeMap x o, ty, pos, af, gd⟩ t s' := by
  cases o with
  | some o => simp [stepOp, evalOp] at h
  | none =>
    simp only [stepOp, evalOp] at h
    cases h
    have hn : New w { w with heap := w.heap.push (.map #[] 0) } (.map #[] 0) := ⟨rfl, rfl, rfl, rfl⟩
    refine ⟨_, .map (some w.heap.size), _, _, le, ?_, .inl rfl, k.push (sp := ⟨w.heap.size, 0, 0, 0⟩) hn rfl ⟨#[], 0, hn.here, trivial⟩, ?_⟩
    · simp [execOp, Instr.makeMap]
    · simp [TmR, conc, Env.upd]

theorem isU8_inv {P : Program} {x : TypeId} (h : isU8 P x = true) : P.underlying x = some (.int .u8) ∧ tsize P x = some 1 := by
  unfold isU8 at h
  split at h
  · rename_i h1 h2; exact ⟨h1, h2⟩
  · cases h

theorem bytesA_R : ∀ {cs : List AV} {bs : List UInt8} {vs : List Value}, bytesA cs = some bs → concL e cs = some vs → ∃ ns : List Int, vs = ns.map (Value.int .u8) ∧ bs = ns.map fun n => UInt8.ofNat n.toNat
  | [], bs, vs, h, hc => by cases h; cases hc; exact ⟨[], rfl, rfl⟩
  | x :: cs, bs, vs, h, hc => by
    simp only [bytesA] at h
    split at h
    · rename_i n
      obtain ⟨bs', h1, h⟩ := bind_inv h
      cases h
      obtain ⟨v, ws, c1, c2, rfl⟩ := concL_cons.1 hc
      obtain ⟨ns, rfl, rfl⟩ := bytesA_R h1 c2
      simp only [conc] at c1
      cases c1
      exact ⟨n :: ns, rfl, rfl⟩
    · cases h

theorem push_bytes : ∀ (ns : List Int) (r : ByteArray), ns.foldl (fun r n => r.push (UInt8.ofNat n.toNat)) r = ⟨r.data ++ (ns.map fun n => UInt8.ofNat n.toNat).toArray⟩
  | [], r => by simp
  | n :: ns, r => by
    simp only [List.foldl_cons]
    rw [push_bytes ns]
    simp [ByteArray.push]

/-- The cells of a slice. -/
theorem cellsOf_R {P : Program} {h : Heap} (hr : HR e h w) {x : TypeId} {n : Nat} {b off poff len : Nat} {cap : Cap} (hs : tsize P x = some n) (hn : n ≠ 0) {cs : List AV} (hc : cellsOf P h x (.slice b off poff len cap) = some cs) {v : Value} (hv : conc e (.slice b off poff len cap) = some v) :
    ∃ ad c vs, v = .slice (some ad) len c ∧ concL e cs = some vs ∧ cs.all one = true ∧ vs.length = len * n ∧ (loadCells ad (len * n)).run P w = .ok vs.toArray w := by
  simp only [cellsOf, Option.bind_eq_bind, hs, Option.bind_some] at hc
  obtain ⟨⟨all, z⟩, h1, hc⟩ := bind_inv hc
  unfold Heap.cells at h1
  split at h1
  · rename_i cs0 z0 hg
    cases h1
    have hb : ∃ sp, e b = some sp := by
      simp only [conc] at hv
      split at hv
      · rename_i sp hs; exact ⟨sp, hs⟩
      · cases hv
    obtain ⟨sp, hsp⟩ := hb
    obtain ⟨hz, hcells⟩ := hr.blk b sp _ hsp hg
    obtain ⟨vs, c1, c2, c3, c4⟩ := CellsAt.stretch hcells hc
    by_cases h0 : len = 0
    · subst h0
      obtain ⟨ad, m, c, rfl⟩ := conc_slice_some hv
      have hm : m = 0 := by
        simp only [conc, hsp] at hv
        split at hv
        · split at hv <;> cases hv <;> rfl
        · split at hv <;> cases hv <;> rfl
      subst hm
      refine ⟨ad, c, vs, rfl, c1, c3, c2, ?_⟩
      have : vs = [] := by cases vs with
        | nil => rfl
        | cons _ _ => simp at c2
      subst this
      simp [loadCells, loadCellsFrom]
    · obtain ⟨sp', c, hsp', he⟩ := conc_slice_lies hv (by omega)
      rw [hsp] at hsp'; cases hsp'
      refine ⟨_, c, vs, he, c1, c3, c2, ?_⟩
      rw [← c2]
      exact run_loadCells fun j v hj => c4 j v hj
  · cases h1

theorem bytesRow_get {b : ByteArray} {c j : Nat} {u : UInt8} (h : b.data.toList[j]? = some u) : (bytesRow b c)[0 + j]? = some (.int .u8 u.toNat) := by
  unfold bytesRow
  have hlt : j < b.data.size := by
    have := (List.getElem?_eq_some_iff.1 h).1
    simpa using this
  rw [Nat.zero_add, Array.getElem?_append_left (by simpa using hlt), Array.getElem?_map]
  rw [Array.getElem?_toList] at h
  rw [h]
  rfl

theorem runs_convert (k : SR E e le s a w) {src to : TypeId} {x : Operand} (h : stepOp cx fn F ⟨dst, .convert src to x, ty, pos, af, gd⟩ s = some (.ok t s')) : Runs cx.P E e le s a w ⟨dst, .convert src to x, ty, pos, af, gd⟩ t s' := by
  simp only [stepOp, evalOp] at h
  obtain ⟨vx, h1, h⟩ := valueK_inv h
  have hx := value_R k h1
  unfold opConvert at h
  split at h
  · rename_i el hu1 hu2
    split at h
    · rename_i hel
      obtain ⟨he1, he2⟩ := isU8_inv hel
      obtain ⟨r, hr, h⟩ := getV_inv h
      cases h
      unfold opBytes at hr
      obtain ⟨cs, hcs, hr⟩ := bind_inv hr
      obtain ⟨bs, hbs, hr⟩ := bind_inv hr
      cases hr
      have key : (convert src to (a.eval x)).run cx.P w = .ok (.string ⟨bs.toArray⟩) w := by
        cases vx with
        | nilSlice =>
          simp only [conc] at hx
          injection hx with hx
          simp only [cellsOf] at hcs
          cases hcs
          cases hbs
          rw [← hx, run_convert_bytes_string w src to el none 0 0 hu1 he1 hu2]
          simp [Conv.bytesToString]
          rfl
        | slice b off poff len cap =>
          obtain ⟨ad, c, vs, hv, c1, c2, c3, c4⟩ := cellsOf_R k.heap he2 (by omega) hcs hx
          obtain ⟨ns, rfl, rfl⟩ := bytesA_R hbs c1
          rw [hv, run_convert_bytes_string w src to el (some ad) len c hu1 he1 hu2]
          rw [Nat.mul_one] at c4
          rw [run_bytesToString w ad len c ns c4, push_bytes]
          have he0 : ByteArray.empty.data = #[] := rfl
          rw [he0]
          simp
        | _ => simp [cellsOf] at hcs
      exact Runs.value k (v := .string ⟨bs.toArray⟩) (by simp [execOp, key]) rfl
    · cases h
  · rename_i el hu1 hu2
    split at h
    · rename_i hel
      obtain ⟨he1, he2⟩ := isU8_inv hel
      obtain ⟨r, hr, h⟩ := bind_inv h
      cases h
      cases vx with
      | str b =>
        simp only [opUnbytes] at hr
        cases hr
        simp only [conc] at hx
        injection hx with hx
        have hrun := run_bytes_of_string (P := cx.P) w src to el b hu1 hu2 he1
        have hge := grownCap_ge w b.size 0 el
        have hsz : (bytesRow b (grownCap w b.size 0 el)).size = grownCap w b.size 0 el := by simp [bytesRow]; show b.size + _ = _; omega
        refine ⟨_, .slice (some ⟨w.heap.size, 0, none⟩) b.size (grownCap w b.size 0 el), w.drew.alloc (.cells (bytesRow b (grownCap w b.size 0 el)) el ((bytesRow b (grownCap w b.size 0 el)).size, (bytesRow b (grownCap w b.size 0 el)).size + 1)), _, le, ?_, .inl rfl,
          k.push (sp := ⟨w.heap.size, 0, grownCap w b.size 0 el, 1⟩) ⟨rfl, rfl, rfl, rfl⟩ rfl ⟨rfl, ?_⟩, ?_⟩
        · simp [execOp, ← hx, hrun]
        · refine ⟨⟨bytesRow b (grownCap w b.size 0 el), el, (bytesRow b (grownCap w b.size 0 el)).size, (bytesRow b (grownCap w b.size 0 el)).size + 1, ?_, ?_, ?_, ?_⟩, ?_⟩
          · show (w.heap.push _)[w.heap.size]? = _
            simp
          · rw [hsz]; simp
          · intro j hj
            rw [hsz]
            have hj : j < grownCap w b.size 0 el * 1 := hj
            show ¬ (_ ≤ 0 + j ∧ _)
            omega
          · intro j y hy
            rw [List.getElem?_map] at hy
            obtain ⟨u, hu, rfl⟩ := Option.map_eq_some_iff.1 hy
            exact ⟨rfl, .int .u8 u.toNat, rfl, bytesRow_get hu⟩
          · rw [List.length_map]
            show b.data.toList.length ≤ _
            have : b.data.toList.length = b.size := rfl
            simp only [Nat.mul_one]
            omega
        · simp [TmR, conc, Env.upd, hge]
      | _ => simp [opUnbytes] at hr
    · cases h
  · rename_i hno1 hno2
    obtain ⟨r, hr, h⟩ := getV_inv h
    cases h
    unfold convertA at hr
    split at hr
    · rename_i k1 k2 kx n hu1 hu2
      cases hr
      simp only [conc] at hx
      injection hx with hx
      exact Runs.value k (v := .int k2 (k2.wrap n)) (by simp [execOp, convert, ← hx, run_underlying' hu1, run_underlying' hu2, Conv.intToInt]) rfl
    · rename_i b hu1 hu2
      cases hr
      simp only [conc] at hx
      injection hx with hx
      exact Runs.value k (v := .string b) (by simp [execOp, convert, ← hx, run_underlying' hu1, run_underlying' hu2]) rfl
    · cases hr
end ops
end Go.Proofs.YtahbihcbidkbaaaGreat.Ev

/-
  Slicing.
-/
set_option linter.unusedVariables false
namespace Go.Proofs.YtahbihcbidkbaaaGreat.Ev
open Go

def IntO : Option Int → Option Value → Prop
  | none, none => True
  | some n, some v => ∃ k, v = .int k n
  | _, _ => False

section ops
variable {E : Start} {e : Env} {le : Nat → Option Nat} {s s' : St} {a : Act} {w : World} {t : Tm} {cx : Ctx} {fn : FuncId} {F : Fns}
variable {dst : Option Tmp} {ty : TypeId} {pos : String} {af : Array Edge} {gd : Option (Nat × Bool)}

theorem run_sliceBound {P : Program} {k : IntKind} {i : Int} {y : Nat} {code : BoundsCode} (h0 : 0 ≤ i) (h1 : i ≤ y) : (Instr.sliceBound (.int k i) y code).run P w = .ok i.toNat w := by
  simp [Instr.sliceBound, asIntOf, h0, h1]

theorem run_sliceBounds {P : Program} {isS : Bool} {len cap : Nat} {lo hi mx : Option Int} {lv hv mv : Option Value} (r1 : IntO lo lv) (r2 : IntO hi hv) (r3 : IntO mx mv) {m h l : Nat}
    (hm : mx.getD cap = m) (hh : hi.getD len = h) (hl : lo.getD 0 = l) (c1 : l ≤ h) (c2 : h ≤ m) (c3 : m ≤ cap) (c4 : mx.isSome → hi.isSome) :
    (Instr.sliceBounds isS len cap lv hv mv).run P w = .ok (l, h, m) w := by
  have sb : ∀ (k : IntKind) (i y : Nat) (code : BoundsCode), i ≤ y → (Instr.sliceBound (.int k i) y code).run P w = .ok i w := by
    intro k i y code hi
    simpa using run_sliceBound (P := P) (w := w) (k := k) (i := (i : Int)) (y := y) (code := code) (by omega) (by omega)
  have h1 : (mx = none ∧ mv = none ∧ cap = m) ∨ ∃ k, mx = some (m : Int) ∧ mv = some (.int k m) := by
    cases mx <;> cases mv
    · exact .inl ⟨rfl, rfl, by simp at hm; omega⟩
    · exact r3.elim
    · exact r3.elim
    · obtain ⟨k, rfl⟩ := r3; simp at hm; subst hm; exact .inr ⟨k, rfl, rfl⟩
  have h2 : (hi = none ∧ hv = none ∧ len = h) ∨ ∃ k, hi = some (h : Int) ∧ hv = some (.int k h) := by
    cases hi <;> cases hv
    · exact .inl ⟨rfl, rfl, by simp at hh; omega⟩
    · exact r2.elim
    · exact r2.elim
    · obtain ⟨k, rfl⟩ := r2; simp at hh; subst hh; exact .inr ⟨k, rfl, rfl⟩
  have h3 : (lo = none ∧ lv = none ∧ 0 = l) ∨ ∃ k, lo = some (l : Int) ∧ lv = some (.int k l) := by
    cases lo <;> cases lv
    · exact .inl ⟨rfl, rfl, by simp at hl; omega⟩
    · exact r1.elim
    · exact r1.elim
    · obtain ⟨k, rfl⟩ := r1; simp at hl; subst hl; exact .inr ⟨k, rfl, rfl⟩
  rcases h1 with ⟨rfl, rfl, rfl⟩ | ⟨k1, rfl, rfl⟩ <;> rcases h2 with ⟨rfl, rfl, rfl⟩ | ⟨k2, rfl, rfl⟩ <;> rcases h3 with ⟨rfl, rfl, rfl⟩ | ⟨k3, rfl, rfl⟩ <;>
    first | (simp at c4; done) | simp [Instr.sliceBounds, sb, c1, c2, c3]

/-- What sliceT asks and gives. -/
theorem sliceT_inv {ez cells b off poff len : Nat} {cap : Cap} {lo hi mx : Option Int} {r : AV} (h : sliceT ez cells b off poff len cap lo hi mx = some r) :
    ∃ l h : Nat, ∃ c : Cap, ez ≠ 0 ∧ lo.getD 0 = l ∧ hi.getD len = h ∧ l ≤ h ∧ h ≤ roomOf cells off ez cap ∧
      r = (if l = 0 then .slice b off poff h c else .slice b (off + l * ez) off (h - l) c) ∧
      ((mx = none ∧ c = lessCap l cap) ∨ (∃ m : Nat, mx = some (m : Int) ∧ hi.isSome ∧ h ≤ m ∧ m ≤ roomOf cells off ez cap ∧ m ≠ 0 ∧ c = .ex (m - l))) := by
  unfold sliceT at h
  split at h
  · cases h
  · rename_i hno
    have n1 : ez ≠ 0 := fun hh => hno (.inl hh)
    have n2 : ¬ lo.getD 0 < 0 := fun hh => hno (.inr (.inl hh))
    have n3 : ¬ hi.getD len < lo.getD 0 := fun hh => hno (.inr (.inr (.inl hh)))
    have n4 := fun hh => hno (.inr (.inr (.inr hh)))
    obtain ⟨l, hl⟩ := Int.eq_ofNat_of_zero_le (Int.not_lt.1 n2)
    obtain ⟨h', hh⟩ := Int.eq_ofNat_of_zero_le (show 0 ≤ hi.getD len by omega)
    rw [hl, hh] at h n3
    rw [hh] at n4
    simp only [Int.toNat_natCast] at h
    obtain ⟨c, hc, h⟩ := bind_inv h
    refine ⟨l, h', c, n1, hl, hh, by omega, by omega, ?_, ?_⟩
    · split at h <;> cases h
      · rename_i h0; rw [if_pos h0]
      · rename_i h0; rw [if_neg h0]
    · cases mx with
      | none => left; cases hc; exact ⟨rfl, rfl⟩
      | some m =>
        right
        simp only [capAfter] at hc
        split at hc
        · cases hc
        · rename_i hm
          have m1 : ¬ hi.isSome = false := fun hh => hm (.inl hh)
          have m2 : ¬ m < h' := fun hh => hm (.inr (.inl hh))
          have m3 : ¬ m = 0 := fun hh => hm (.inr (.inr (.inl hh)))
          have m4 := fun hh => hm (.inr (.inr (.inr hh)))
          obtain ⟨m', rfl⟩ := Int.eq_ofNat_of_zero_le (show 0 ≤ m by omega)
          cases hc
          exact ⟨m', rfl, by cases hi <;> simp_all, by omega, by omega, by omega, by simp⟩

/-- The slice that comes of slicing stands for the model's. -/
theorem sliceT_R {ez cells b off poff len : Nat} {cap : Cap} {lo hi mx : Option Int} {r : AV} (h : sliceT ez cells b off poff len cap lo hi mx = some r) {sp : Spot} (hsp : e b = some sp)
    {ad : Addr} {c0 : Nat} (hv : conc e (.slice b off poff len cap) = some (.slice (some ad) len c0)) (hrel : ∀ d, cap = .rel d → sp.e = ez ∧ cells ≤ sp.κ * ez) :
    ∃ l h m : Nat, lo.getD 0 = l ∧ hi.getD len = h ∧ mx.getD c0 = m ∧ l ≤ h ∧ h ≤ m ∧ m ≤ c0 ∧ (mx.isSome → hi.isSome) ∧ ez ≠ 0 ∧
      conc e r = some (.slice (some (if m = l then ad else ad.add (l * ez))) (h - l) (m - l)) := by
  obtain ⟨l, h', c, n1, hl, hh, c1, c2, rfl, hc⟩ := sliceT_inv h
  cases cap with
  | ex k =>
    simp only [conc, hsp] at hv
    split at hv
    · rename_i hle
      cases hv
      simp only [roomOf] at c2 hc
      rcases hc with ⟨rfl, rfl⟩ | ⟨m, rfl, hs, d1, d2, d3, rfl⟩
      · refine ⟨l, h', c0, hl, hh, by simp, c1, c2, Nat.le_refl _, by simp, n1, ?_⟩
        by_cases l0 : l = 0
        · subst l0
          simp [conc, hsp, lessCap, c2, add_plain]
        · rw [if_neg l0]
          simp only [conc, hsp, lessCap]
          rw [if_pos (by omega), if_neg (by omega : ¬ c0 = 0)]
          by_cases hk : c0 = l
          · rw [if_pos (by omega), if_pos hk]
          · rw [if_neg (by omega), if_neg hk, add_plain]; simp [Nat.add_assoc]
      · refine ⟨l, h', m, hl, hh, by simp, c1, d1, d2, fun _ => hs, n1, ?_⟩
        by_cases l0 : l = 0
        · subst l0
          simp [conc, hsp, d1, d3, add_plain]
          omega
        · rw [if_neg l0]
          simp only [conc, hsp]
          rw [if_pos (by omega), if_neg (by omega : ¬ c0 = 0)]
          by_cases hk : m = l
          · rw [if_pos (by omega), if_pos hk]
          · rw [if_neg (by omega), if_neg hk, add_plain]; simp [Nat.add_assoc]
    · cases hv
  | rel d =>
    obtain ⟨he, hcl⟩ := hrel d rfl
    simp only [conc, hsp] at hv
    split at hv
    · rename_i hle
      cases hv
      obtain ⟨hoff, hdk⟩ := hle
      rw [he] at hoff
      have hroom : roomOf cells off ez (.rel d) ≤ sp.κ - d := by
        simp only [roomOf]
        rw [hoff]
        have : cells - d * ez ≤ (sp.κ - d) * ez := by rw [Nat.sub_mul]; omega
        exact Nat.div_le_of_le_mul (by rw [Nat.mul_comm d ez] at this; rw [Nat.mul_comm ez (sp.κ - d), Nat.mul_comm d ez]; exact this)
      rcases hc with ⟨rfl, rfl⟩ | ⟨m, rfl, hs, d1, d2, d3, rfl⟩
      · refine ⟨l, h', sp.κ - d, hl, hh, by simp, c1, by omega, Nat.le_refl _, by simp, n1, ?_⟩
        by_cases l0 : l = 0
        · subst l0
          simp only [if_pos, conc, hsp, lessCap]
          rw [if_pos ⟨by rw [he]; simpa using hoff, by omega⟩]
          simp [add_plain]
        · rw [if_neg l0]
          simp only [conc, hsp, lessCap]
          rw [if_pos ⟨by rw [he, hoff, Nat.add_mul], by omega⟩, if_neg (by omega : ¬ sp.κ - d = 0)]
          by_cases hk : sp.κ - d = l
          · rw [if_pos (by omega), if_pos hk]; simp; omega
          · rw [if_neg (by omega), if_neg hk, add_plain]; simp [Nat.add_assoc]; omega
      · refine ⟨l, h', m, hl, hh, by simp, c1, d1, by omega, fun _ => hs, n1, ?_⟩
        by_cases l0 : l = 0
        · subst l0
          simp [conc, hsp, d1, d3, add_plain]
          omega
        · rw [if_neg l0]
          simp only [conc, hsp]
          rw [if_pos (by omega), if_neg (by omega : ¬ sp.κ - d = 0)]
          by_cases hk : m = l
          · rw [if_pos (by omega), if_pos hk]
          · rw [if_neg (by omega), if_neg hk, add_plain]; simp [Nat.add_assoc]
    · cases hv

theorem room_le {ez cells off d : Nat} {sp : Spot} (he : sp.e = ez) (hcl : cells ≤ sp.κ * ez) (hoff : off = d * sp.e) : roomOf cells off ez (.rel d) ≤ sp.κ - d := by
  simp only [roomOf]
  rw [hoff, he]
  have : cells - d * ez ≤ (sp.κ - d) * ez := by rw [Nat.sub_mul]; omega
  exact Nat.div_le_of_le_mul (by rw [Nat.mul_comm d ez] at this; rw [Nat.mul_comm ez (sp.κ - d), Nat.mul_comm d ez]; exact this)

/-- The slice that comes of slicing stands for the model's. -/
theorem sliceS_R {ez cells b off poff len : Nat} {cap : Cap} {lo hi mx : Option Int} {r : AV} (h : sliceS ez cells b off poff len cap lo hi mx = some r) {sp : Spot} (hsp : e b = some sp)
    {ad : Addr} {c0 : Nat} (hv : conc e (.slice b off poff len cap) = some (.slice (some ad) len c0)) (hrel : ∀ d, cap = .rel d → sp.e = ez ∧ cells ≤ sp.κ * ez) :
    ∃ l h m : Nat, lo.getD 0 = l ∧ hi.getD len = h ∧ mx.getD c0 = m ∧ l ≤ h ∧ h ≤ m ∧ m ≤ c0 ∧ (mx.isSome → hi.isSome) ∧ ez ≠ 0 ∧
      conc e r = some (.slice (some (if m = l then ad else ad.add (l * ez))) (h - l) (m - l)) := by
  unfold sliceS at h
  split at h
  · rename_i hmx
    subst hmx
    unfold sliceZ at h
    split at h
    · cases h
    · rename_i hno
      have n1 : ez ≠ 0 := fun hh => hno (.inl hh)
      have n2 : lo.getD 0 = 0 := Decidable.byContradiction fun hh => hno (.inr (.inl hh))
      have n3 : hi = some 0 := Decidable.byContradiction fun hh => hno (.inr (.inr hh))
      subst n3
      refine ⟨0, 0, 0, n2, rfl, rfl, Nat.le_refl _, Nat.le_refl _, Nat.zero_le _, by simp, n1, ?_⟩
      simp only [if_true]
      cases cap with
      | ex c =>
        simp only [conc, hsp] at hv
        split at hv
        · cases hv
          simp only [roomOf] at h
          by_cases hc : 0 < c0
          · simp only [hc, decide_true] at h
            cases h
            rw [if_neg (by omega)]
            simp [conc, hsp]
          · have : c0 = 0 := by omega
            subst this
            simp at h
            cases h
            simp [conc, hsp]
        · cases hv
      | rel d =>
        simp only [conc, hsp] at hv
        split at hv
        · rename_i hh
          obtain ⟨e1, e2⟩ := hrel d rfl
          have hle := room_le (off := off) e1 e2 hh.1
          cases hv
          by_cases hc : 0 < roomOf cells off ez (.rel d)
          · simp only [hc, decide_true] at h
            cases h
            rw [if_neg (by omega)]
            simp [conc, hsp]
          · simp [hc] at h
        · cases hv
  · exact sliceT_R h hsp hv hrel
end ops
end Go.Proofs.YtahbihcbidkbaaaGreat.Ev

/-
  Slicing: the operation.
-/
set_option linter.unusedVariables false
namespace Go.Proofs.YtahbihcbidkbaaaGreat.Ev
open Go

section ops
variable {E : Start} {e : Env} {le : Nat → Option Nat} {s s' : St} {a : Act} {w : World} {t : Tm} {cx : Ctx} {fn : FuncId} {F : Fns}
variable {dst : Option Tmp} {ty : TypeId} {pos : String} {af : Array Edge} {gd : Option (Nat × Bool)}

/-- An operand that may be lacking. -/
theorem optK_inv {ρ : Type} {r : ρ} {x : Option Operand} {f : Option AV → Option ρ} (h : optK s x f = some r) : ∃ v, f v = some r ∧ ((x = none ∧ v = none) ∨ ∃ y u, x = some y ∧ v = some u ∧ value s y = some u) := by
  unfold optK at h
  split at h
  · exact ⟨none, h, .inl ⟨rfl, rfl⟩⟩
  · rename_i y
    split at h
    · rename_i u hu; exact ⟨some u, h, .inr ⟨y, u, rfl, rfl, hu⟩⟩
    · cases h

theorem optInt_R (k : SR E e le s a w) {x : Option Operand} {v : Option AV} {n : Option Int} (h : optInt v = some n) (hx : (x = none ∧ v = none) ∨ ∃ y u, x = some y ∧ v = some u ∧ value s y = some u) : IntO n (x.map a.eval) := by
  rcases hx with ⟨rfl, rfl⟩ | ⟨y, u, rfl, rfl, hu⟩
  · cases h; trivial
  · cases u <;> simp [optInt] at h
    subst h
    have := value_R k hu
    simp only [conc] at this
    injection this with this
    exact ⟨_, this.symm⟩

theorem sliceA_R {P : Program} {h : Heap} (hr0 : HR e h w) {x : TypeId} {vx : AV} {V : Value} (hx : conc e vx = some V) {vl vh vm : Option AV} {lv hv mv : Option Value}
    (j1 : ∀ n, optInt vl = some n → IntO n lv) (j2 : ∀ n, optInt vh = some n → IntO n hv) (j3 : ∀ n, optInt vm = some n → IntO n mv) {r : AV} (hr : sliceA P h x vx vl vh vm = some r) :
    ∃ v, (Instr.sliceAt x V lv hv mv).run P w = .ok v w ∧ conc e r = some v := by
  unfold sliceA at hr
  simp only [Option.bind_eq_bind] at hr
  obtain ⟨nl, e1, q1⟩ := bind_inv hr
  obtain ⟨nh, e2, q2⟩ := bind_inv q1
  obtain ⟨nm, e3, q3⟩ := bind_inv q2
  clear hr q1 q2
  have i1 := j1 _ e1
  have i2 := j2 _ e2
  have i3 := j3 _ e3
  have hr := q3
  clear q3 e1 e2 e3
  split at hr
  · rename_i b hu
    simp only [conc] at hx
    injection hx with hx
    split at hr
    · cases hr
    · rename_i hno
      cases hr
      have n0 : ¬ nm.isSome = true := fun hh => hno (.inl hh)
      have n1 : ¬ nl.getD 0 < 0 := fun hh => hno (.inr (.inl hh))
      have n2 : ¬ nh.getD b.size < nl.getD 0 := fun hh => hno (.inr (.inr (.inl hh)))
      have n3 := fun hh => hno (.inr (.inr (.inr hh)))
      obtain ⟨l, el⟩ := Int.eq_ofNat_of_zero_le (Int.not_lt.1 n1)
      obtain ⟨h', eh⟩ := Int.eq_ofNat_of_zero_le (show 0 ≤ nh.getD b.size by omega)
      have hnm : nm = none := by cases nm <;> simp_all
      subst hnm
      have hmx : mv = none := by
        cases mv with
        | none => rfl
        | some y => exact i3.elim
      have hb := run_sliceBounds (P := P) (w := w) (isS := false) (len := b.size) (cap := b.size) i1 i2 (mx := none) (mv := none) trivial (m := b.size) (h := h') (l := l) rfl eh el (by omega) (by omega) (Nat.le_refl _) (by simp)
      refine ⟨.string (b.extract l h'), ?_, by simp [conc, el, eh]⟩
      rw [← hx, hmx]
      simp [Instr.sliceAt, Instr.slice, run_underlying' hu, hb]
  · rename_i el hu
    simp only [conc] at hx
    injection hx with hx
    split at hr
    · rename_i hc
      cases hr
      obtain ⟨c1, c2, c3, c4⟩ := hc
      have hb := run_sliceBounds (P := P) (w := w) (isS := true) (len := 0) (cap := 0) i1 i2 i3 (m := 0) (h := 0) (l := 0) (by rcases c3 with rfl | ⟨rfl, _⟩ <;> rfl) c2 c1 (by omega) (by omega) (Nat.le_refl _) (by rcases c3 with rfl | ⟨rfl, h⟩ <;> simp_all)
      refine ⟨.slice none 0 0, ?_, rfl⟩
      rw [← hx]
      cases hsz : tsize P el with
      | none => simp [hsz] at c4
      | some z => simp [Instr.sliceAt, Instr.slice, run_underlying' hu, hb, run_sizeOf' hsz]
    · cases hr
  · rename_i el b off poff len cap hu
    obtain ⟨z, hz, hr⟩ := bind_inv hr
    obtain ⟨⟨cs, z'⟩, hcs, hr⟩ := bind_inv hr
    obtain ⟨ad, n, c0, rfl⟩ := conc_slice_some hx
    obtain ⟨sp, hsp⟩ : ∃ sp, e b = some sp := by
      simp only [conc] at hx
      cases hb : e b with
      | none => rw [hb] at hx; cases hx
      | some sp => exact ⟨sp, rfl⟩
    have hln : n = len := by
      simp only [conc, hsp] at hx
      split at hx <;> split at hx <;> cases hx <;> rfl
    subst hln
    have key : ∃ l h m : Nat, nl.getD 0 = l ∧ nh.getD n = h ∧ nm.getD c0 = m ∧ l ≤ h ∧ h ≤ m ∧ m ≤ c0 ∧ (nm.isSome → nh.isSome) ∧ z ≠ 0 ∧
        conc e r = some (.slice (some (if m = l then ad else ad.add (l * z))) (h - l) (m - l)) := by
      cases cap with
      | ex c => exact sliceS_R hr hsp hx (fun d hd => by cases hd)
      | rel d =>
        simp only at hr
        split at hr
        · rename_i he
          refine sliceS_R hr hsp hx (fun d' hd => ?_)
          unfold Heap.cells at hcs
          split at hcs
          · rename_i q1 q2 hg
            cases hcs
            obtain ⟨hz1, hz2⟩ := hr0.blk b sp _ hsp hg
            subst he
            exact ⟨hz1, by rw [← hz1]; exact hz2.fits⟩
          · cases hcs
        · cases hr
    obtain ⟨l, h', m, k1, k2, k3, k4, k5, k6, k7, k8, k9⟩ := key
    have hb := run_sliceBounds (P := P) (w := w) (isS := true) (len := n) (cap := c0) i1 i2 i3 (m := m) (h := h') (l := l) k3 k2 k1 k4 k5 k6 k7
    refine ⟨_, ?_, k9⟩
    simp only [Instr.sliceAt, Instr.slice]
    simp [run_underlying' hu, hb, run_sizeOf' hz]
    split <;> simp_all
  · rename_i n el b off hu
    obtain ⟨z, hz, hr⟩ := bind_inv hr
    obtain ⟨⟨cs, z'⟩, hcs, hr⟩ := bind_inv hr
    simp only at hr
    split at hr
    · rename_i hle
      obtain ⟨sp, hsp, rfl⟩ := conc_ptr hx
      have hx2 : conc e (.slice b off off n (.ex n)) = some (.slice (some ⟨sp.β, sp.γ + off, none⟩) n n) := by
        simp [conc, hsp]
      obtain ⟨l, h', m, k1, k2, k3, k4, k5, k6, k7, k8, k9⟩ := sliceS_R hr hsp hx2 (fun d hd => by cases hd)
      have hb := run_sliceBounds (P := P) (w := w) (isS := false) (len := n) (cap := n) i1 i2 i3 (m := m) (h := h') (l := l) k3 k2 k1 k4 k5 k6 k7
      refine ⟨_, ?_, k9⟩
      simp only [Instr.sliceAt]
      simp [run_underlying' hu, hb, run_sizeOf' hz, Instr.sureAddr]
    · cases hr
  · cases hr

theorem runs_slice (k : SR E e le s a w) {x : TypeId} {ox : Operand} {lo hi mx : Option Operand} (h : stepOp cx fn F ⟨dst, .slice x ox lo hi mx, ty, pos, af, gd⟩ s = some (.ok t s')) : Runs cx.P E e le s a w ⟨dst, .slice x ox lo hi mx, ty, pos, af, gd⟩ t s' := by
  simp only [stepOp, evalOp] at h
  obtain ⟨vx, h1, h⟩ := valueK_inv h
  obtain ⟨vl, h, hl⟩ := optK_inv h
  obtain ⟨vh, h, hh⟩ := optK_inv h
  obtain ⟨vm, h, hm⟩ := optK_inv h
  obtain ⟨r, hr, h⟩ := getV_inv h
  cases h
  obtain ⟨v, r1, r2⟩ := sliceA_R k.heap (value_R k h1) (fun n hn => optInt_R k hn hl) (fun n hn => optInt_R k hn hh) (fun n hn => optInt_R k hn hm) hr
  exact Runs.value k (v := v) (by simp [execOp, r1]) r2
end ops
end Go.Proofs.YtahbihcbidkbaaaGreat.Ev

/-
  Maps: what is asked, what is stored.
-/
set_option linter.unusedVariables false
namespace Go.Proofs.YtahbihcbidkbaaaGreat.Ev
open Go

mutual
theorem AV.same_eq : ∀ {a b : AV}, AV.same a b = true → a = b
  | .int k a, b, h => by cases b <;> simp [AV.same] at h; obtain ⟨rfl, rfl⟩ := h; rfl
  | .bool a, b, h => by cases b <;> simp [AV.same] at h; subst h; rfl
  | .str a, b, h => by
    cases b <;> simp [AV.same] at h
    rename_i b
    cases a with | mk a => cases b with | mk b => cases a with | mk a => cases b with | mk b => simp at h; subst h; rfl
  | .ptr a, b, h => by cases b <;> simp [AV.same] at h; subst h; rfl
  | .slice a1 a2 a3 a4 a5, b, h => by cases b <;> simp [AV.same] at h; obtain ⟨⟨⟨⟨rfl, rfl⟩, rfl⟩, rfl⟩, rfl⟩ := h; rfl
  | .nilSlice, b, h => by cases b <;> first | rfl | simp [AV.same] at h
  | .map a, b, h => by cases b <;> simp [AV.same] at h; subst h; rfl
  | .fn f x y, b, h => by
    cases b <;> simp [AV.same] at h
    obtain ⟨⟨rfl, h1⟩, h2⟩ := h
    rw [AV.sameL_eq h1, AV.sameL_eq h2]
  | .yield a, b, h => by cases b <;> simp [AV.same] at h; subst h; rfl
  | .nilFn, b, h => by cases b <;> first | rfl | simp [AV.same] at h
  | .iface t a, b, h => by
    cases b <;> simp [AV.same] at h
    obtain ⟨rfl, h1⟩ := h
    rw [AV.same_eq h1]
  | .nilIface, b, h => by cases b <;> first | rfl | simp [AV.same] at h
  | .agg a, b, h => by cases b <;> simp [AV.same] at h; rw [AV.sameL_eq h]
  | .tup a, b, h => by cases b <;> simp [AV.same] at h; rw [AV.sameL_eq h]
theorem AV.sameL_eq : ∀ {a b : List AV}, AV.sameL a b = true → a = b
  | [], [], _ => rfl
  | [], _ :: _, h => by simp [AV.sameL] at h
  | _ :: _, [], h => by simp [AV.sameL] at h
  | x :: a, y :: b, h => by
    simp [AV.sameL] at h
    rw [AV.same_eq h.1, AV.sameL_eq h.2]
end

section ops
variable {E : Start} {e : Env} {le : Nat → Option Nat} {s s' : St} {a : Act} {w : World} {t : Tm} {cx : Ctx} {fn : FuncId} {F : Fns}
variable {dst : Option Tmp} {ty : TypeId} {pos : String} {af : Array Edge} {gd : Option (Nat × Bool)}

theorem keyF_R {P : Program} {g : TypeId → AV → Bool} {em : Bool} {D : Nat} (hg : ∀ t x v, g t x = true → conc e x = some v → (Instr.checkKey em D t v).run P w = .ok () w)
    {cs : List AV} {vs : Array Value} (hc : concL e cs = some vs.toList) (ho : cs.all one = true) : ∀ (fs : List Field), keyF P g cs fs = true →
    Sem.run P (forIn fs PUnit.unit fun f (_ : PUnit) => if f.name = "_" then pure (ForInStep.yield PUnit.unit) else do
      let x ← part f.type vs f.offset
      (fun _ => ForInStep.yield PUnit.unit) <$> Instr.checkKey em D f.type x) w = .ok PUnit.unit w
  | [], _ => by simp
  | f :: fs, h => by
    simp only [keyF] at h
    rw [List.forIn_cons]
    by_cases hf : f.name = "_"
    · simp only [hf, decide_true] at h
      simpa [hf] using keyF_R hg hc ho fs h
    · simp only [hf, decide_false] at h
      split at h
      · rename_i x hp
        rw [Bool.and_eq_true] at h
        obtain ⟨u, r1, c1⟩ := part_R (w := w) hp hc ho
        have h2 := hg _ _ _ h.1 c1
        simp [hf, r1, h2]
        simpa using keyF_R hg hc ho fs h.2
      · cases h

theorem checkKey_R {P : Program} (em : Bool) : ∀ (d : Nat) (t : TypeId) (k : AV), keyOk P d t k = true → ∀ (D : Nat), d ≤ D → ∀ v, conc e k = some v → (Instr.checkKey em D t v).run P w = .ok () w
  | 0, t, k, h, D, hD, v, hv => by simp [keyOk] at h
  | d + 1, t, k, h, 0, hD, v, hv => by omega
  | d + 1, t, k, h, D + 1, hD, v, hv => by
    simp only [keyOk] at h
    split at h
    · rename_i fs hu
      split at h
      · rename_i cs
        obtain ⟨vs, rfl, c1, o1⟩ := conc_agg hv
        simp [Instr.checkKey, run_underlying' hu]
        rw [← Array.forIn_toList]
        exact keyF_R (fun t x v h hx => checkKey_R em d t x h D (by omega) v hx) c1 o1 fs.toList h
      · cases h
    · cases h
    · cases h
    · rename_i d' h1 h2 h3 hu
      cases d' with
      | struct fs => exact (h1 fs rfl).elim
      | array n el => exact (h2 n el rfl).elim
      | interface m => exact (h3 m rfl).elim
      | _ => simp [Instr.checkKey, run_underlying' hu]
    · cases h

/-! ### Finding a key -/
theorem sameNow_R {P : Program} {kt : TypeId} {d : TypeDesc} (hu : P.underlying kt = some d) {vx vy : Value} {b b' : Bool} {D : Nat} (h : Instr.sameNow d vx vy = some b) (h' : (Op.equalIn (D + 1) kt vx vy).run P w = .ok b' w) : b = b' := by
  unfold Instr.sameNow at h
  split at h
  · split at h
    · rename_i hk; cases h; simp [Op.equalIn, run_underlying' hu, hk] at h'; exact h'
    · cases h
  · cases h; simp [Op.equalIn, run_underlying' hu] at h'; exact h'
  · cases h; simp [Op.equalIn, run_underlying' hu] at h'; exact h'
  · cases h

/-- What finding an entry comes to: its number, its value. -/
def Found (P : Program) (kt : TypeId) (k : AV) (e : Env) (r : Option AV) (es : List (AV × AV)) (i : Nat) : Option (Nat × Value) → Prop
  | none => r = none
  | some (j, u) => ∃ v k', r = some v ∧ i ≤ j ∧ es[j - i]? = some (k', v) ∧ conc e v = some u ∧ eqT P deep kt k k' = some true ∧ ∀ n x y, n < j - i → es[n]? = some (x, y) → eqT P deep kt k x = some false

theorem Found.zero {P : Program} {kt : TypeId} {k k' v : AV} {e : Env} {es : List (AV × AV)} {i : Nat} {u : Value} (hv : conc e v = some u) (he : eqT P deep kt k k' = some true) : Found P kt k e (some v) ((k', v) :: es) i (some (i, u)) :=
  ⟨v, k', rfl, Nat.le_refl _, by simp, hv, he, fun n x y hn => by omega⟩

theorem Found.succ {P : Program} {kt : TypeId} {k k' v : AV} {e : Env} {es : List (AV × AV)} {i : Nat} {r : Option AV} (he : eqT P deep kt k k' = some false) : ∀ {q : Option (Nat × Value)}, Found P kt k e r es (i + 1) q → Found P kt k e r ((k', v) :: es) i q
  | none, h => h
  | some (j, u), h => by
    obtain ⟨v0, kk, c1, c2, c3, c4, c5, c6⟩ := h
    refine ⟨v0, kk, c1, by omega, ?_, c4, c5, ?_⟩
    · rw [show j - i = (j - (i + 1)) + 1 by omega]
      simpa using c3
    · intro n x y hn hx
      cases n with
      | zero => simp at hx; obtain ⟨rfl, rfl⟩ := hx; exact he
      | succ n => exact c6 n x y (by omega) (by simpa using hx)

theorem findNow_R (w : World) {P : Program} {kt : TypeId} {d : TypeDesc} (hu : P.underlying kt = some d) {k : AV} {vk : Value} (hk : conc e k = some vk) : ∀ (es : List (AV × AV)) (ms : List MapEntry) (i : Nat) (r : Option AV) (q : Option (Nat × Value)),
    entriesOf e es ms → findA P kt k es = some r → Instr.findNow d vk ms i = some q → Found P kt k e r es i q
  | [], [], i, r, q, _, h, h' => by cases h; cases h'; rfl
  | [], _ :: _, i, r, q, he, _, _ => he.elim
  | _ :: _, [], i, r, q, he, _, _ => he.elim
  | (k', v') :: es, m :: ms, i, r, q, ⟨e1, e2, e3⟩, h, h' => by
    simp only [findA] at h
    simp only [Instr.findNow] at h'
    split at h'
    · rename_i hs
      cases h'
      split at h
      · rename_i he; cases h; exact Found.zero e2 he
      · rename_i he
        have := sameNow_R hu (D := 19) hs (eqT_R (w := w) _ _ _ _ _ he 20 (by decide) _ _ hk e1)
        cases this
      · cases h
    · rename_i hs
      split at h
      · rename_i he
        have := sameNow_R hu (D := 19) hs (eqT_R (w := w) _ _ _ _ _ he 20 (by decide) _ _ hk e1)
        cases this
      · rename_i he
        exact Found.succ he (findNow_R w hu hk es ms (i + 1) r q e3 h h')
      · cases h
    · cases h'

theorem findAsking_R {P : Program} {kt : TypeId} {k : AV} {vk : Value} (hk : conc e k = some vk) : ∀ (es : List (AV × AV)) (ms : List MapEntry) (i : Nat) (r : Option AV),
    entriesOf e es ms → findA P kt k es = some r → ∃ q, (Instr.findAsking kt vk ms i).run P w = .ok q w ∧ Found P kt k e r es i q
  | [], [], i, r, _, h => by cases h; exact ⟨none, by simp [Instr.findAsking], rfl⟩
  | [], _ :: _, i, r, he, _ => he.elim
  | _ :: _, [], i, r, he, _ => he.elim
  | (k', v') :: es, m :: ms, i, r, ⟨e1, e2, e3⟩, h => by
    simp only [findA] at h
    split at h
    · rename_i he
      cases h
      have := eqT_R (w := w) _ _ _ _ _ he Op.maxDepth deep_le _ _ hk e1
      exact ⟨some (i, m.val), by simp [Instr.findAsking, Op.equal, this], Found.zero e2 he⟩
    · rename_i he
      have := eqT_R (w := w) _ _ _ _ _ he Op.maxDepth deep_le _ _ hk e1
      obtain ⟨q, r1, ih⟩ := findAsking_R hk es ms (i + 1) r e3 h
      exact ⟨q, by simp [Instr.findAsking, Op.equal, this, r1], Found.succ he ih⟩
    · cases h

theorem keyOk_under {P : Program} {kt : TypeId} {k : AV} (h : keyOk P deep kt k = true) : ∃ d, P.underlying kt = some d := by
  simp only [deep, keyOk] at h
  split at h <;> first | exact ⟨_, by assumption⟩ | cases h

theorem findKey_R {P : Program} {kt : TypeId} {k : AV} {vk : Value} (hk : conc e k = some vk) (hd : ∃ d, P.underlying kt = some d) {es : List (AV × AV)} {ms : List MapEntry} {r : Option AV}
    (he : entriesOf e es ms) (h : findA P kt k es = some r) : ∃ q, (Instr.findKey kt vk ms).run P w = .ok q w ∧ Found P kt k e r es 0 q := by
  obtain ⟨d, hu⟩ := hd
  cases hn : Instr.findNow d vk ms 0 with
  | some q => exact ⟨q, by simp [Instr.findKey, run_underlying' hu, hn], findNow_R w hu hk es ms 0 r q he h hn⟩
  | none =>
    obtain ⟨q, r1, r2⟩ := findAsking_R (w := w) hk es ms 0 r he h
    exact ⟨q, by simp [Instr.findKey, run_underlying' hu, hn, r1], r2⟩

/-- A map's entries. -/
theorem run_entries {P : Program} {h : Heap} (hr : HR e h w) {b : Nat} {es : List (AV × AV)} (hg : h.get b = some (.map es)) {v : Value} (hv : conc e (.map (some b)) = some v) :
    ∃ sp ms clock, e b = some sp ∧ v = .map (some sp.β) ∧ w.heap[sp.β]? = some (.map ms clock) ∧ entriesOf e es ms.toList ∧ (Go.getObj sp.β).run P w = .ok (.map ms clock) w := by
  simp only [conc] at hv
  split at hv
  · rename_i sp hsp
    cases hv
    obtain ⟨ms, clock, h1, h2⟩ := hr.blk b sp _ hsp hg
    exact ⟨sp, ms, clock, hsp, rfl, h1, h2, by simp [Go.getObj, Sem.run, h1]⟩
  · cases hv

theorem runs_lookup (k : SR E e le s a w) {x : TypeId} {y z : Operand} {ok : Bool} (h : stepOp cx fn F ⟨dst, .lookup x y z ok, ty, pos, af, gd⟩ s = some (.ok t s')) : Runs cx.P E e le s a w ⟨dst, .lookup x y z ok, ty, pos, af, gd⟩ t s' := by
  simp only [stepOp, evalOp] at h
  split at h
  · rename_i kt el hu
    obtain ⟨vx, h1, h⟩ := valueK_inv h
    obtain ⟨vi, h2, h⟩ := valueK_inv h
    obtain ⟨m, rfl, h⟩ := asMap_inv h
    obtain ⟨v, hv, h⟩ := bind_inv h
    have c1 := value_R k h1
    have c2 := value_R k h2
    unfold opLookup at hv
    split at hv
    · cases hv
    · rename_i hko
      obtain ⟨es, hes, hv⟩ := bind_inv hv
      obtain ⟨r0, hf, hv⟩ := bind_inv hv
      have hck : ∀ em, (Instr.checkKey em 10000 kt (a.eval z)).run cx.P w = .ok () w := fun em => checkKey_R em deep kt vi hko 10000 (by decide) _ c2
      have core : ∀ ms : List MapEntry, entriesOf e es ms → ∃ q : Option (Nat × Value), ∃ u is uu, (Instr.findKey kt (a.eval z) ms).run cx.P w = .ok q w ∧
          ((∃ n, q = some (n, u) ∧ is = true) ∨ (q = none ∧ (zeroValue el).run cx.P w = .ok u w ∧ is = false)) ∧ conc e uu = some u ∧ v = if ok then AV.tup [uu, .bool is] else uu := by
        intro ms hms
        obtain ⟨q, r1, r2⟩ := findKey_R (w := w) c2 (keyOk_under hko) hms hf
        cases q with
        | none =>
          cases r2
          obtain ⟨z0, hz, hv⟩ := bind_inv hv
          cases hv
          obtain ⟨zu, z1, z2⟩ := run_zero (w := w) hz e
          exact ⟨none, zu, false, z0, r1, .inr ⟨rfl, z1, rfl⟩, z2, rfl⟩
        | some q =>
          obtain ⟨v0, k0, rfl, _, _, q4, _⟩ := r2
          cases hv
          exact ⟨some q, q.2, true, v0, r1, .inl ⟨q.1, rfl, rfl⟩, q4, rfl⟩
      have main : ∃ u is uu, (Instr.lookup x (a.eval y) (a.eval z) ok).run cx.P w = .ok (if ok then .tuple #[u, .bool is] else u) w ∧ conc e uu = some u ∧ v = if ok then AV.tup [uu, .bool is] else uu := by
        cases m with
        | none =>
          cases hes
          obtain ⟨q, u, is, uu, m1, m2, m3, m4⟩ := core [] trivial
          simp only [conc] at c1
          injection c1 with c1
          refine ⟨u, is, uu, ?_, m3, m4⟩
          rw [← c1]
          rcases m2 with ⟨n, rfl, rfl⟩ | ⟨rfl, m2, rfl⟩
          · simp [Instr.lookup, run_underlying' hu, hck, m1]
          · simp [Instr.lookup, run_underlying' hu, hck, m1, m2]
        | some b =>
          simp only [entriesH] at hes
          split at hes
          · rename_i es' hg
            cases hes
            obtain ⟨sp, ms, clock, s1, s2, s3, s4, s5⟩ := run_entries (P := cx.P) k.heap hg c1
            obtain ⟨q, u, is, uu, m1, m2, m3, m4⟩ := core ms.toList s4
            refine ⟨u, is, uu, ?_, m3, m4⟩
            rw [s2]
            rcases m2 with ⟨n, rfl, rfl⟩ | ⟨rfl, m2, rfl⟩
            · simp [Instr.lookup, run_underlying' hu, hck, m1, s5]
            · simp [Instr.lookup, run_underlying' hu, hck, m1, m2, s5]
          · cases hes
      obtain ⟨u, is, uu, g1, g2, g3⟩ := main
      have hrun : (execOp a.eval ⟨dst, .lookup x y z ok, ty, pos, af, gd⟩).run cx.P w = .ok (.value (if ok then .tuple #[u, .bool is] else u)) w := by
        simp only [execOp]
        simp [g1]
      subst g3
      cases ok with
      | true =>
        simp only [if_true] at h hrun
        obtain ⟨vs, hvs, hlen, h⟩ := spT_inv h
        cases hvs
        cases h
        exact Runs.value k hrun (by simp [TmR, conc, concL, g2])
      | false =>
        simp only [Bool.false_eq_true, if_false] at h hrun
        cases h
        exact Runs.value k hrun g2
  · cases h

/-! ### Storing an entry -/
theorem sameBits_flat1 {x : AV} (h : flat1 x = true) {v : Value} (hv : conc e x = some v) (n : Nat) : Instr.sameBits n v v = true := by
  cases x <;> simp [flat1] at h <;> simp [conc] at hv <;> subst hv <;> simp [Instr.sameBits, beq_bytes]

theorem sameBits_flat {x : AV} (h : flatKey x = true) {v : Value} (hv : conc e x = some v) (n : Nat) : Instr.sameBits (n + 1) v v = true := by
  cases x with
  | agg cs =>
    obtain ⟨vs, rfl, c1, o1⟩ := conc_agg hv
    simp only [flatKey, AV.cells, List.all_eq_true] at h
    simp only [Instr.sameBits, beq_self_eq_true, Bool.true_and, List.all_eq_true]
    rintro ⟨p, q⟩ hp
    have hpq : p = q ∧ p ∈ vs.toList := by
      rw [List.mem_iff_getElem?] at hp
      obtain ⟨i, hi⟩ := hp
      rw [List.getElem?_zip_eq_some] at hi
      have := hi.1.symm.trans hi.2
      injection this with this
      exact ⟨this, List.mem_iff_getElem?.2 ⟨i, hi.1⟩⟩
    obtain ⟨rfl, hm⟩ := hpq
    obtain ⟨i, hi⟩ := List.mem_iff_getElem?.1 hm
    have hlen := concL_length c1
    have hlt : i < cs.length := by
      rw [← hlen]; exact (List.getElem?_eq_some_iff.1 hi).1
    obtain ⟨u, h1, h2⟩ := concL_get c1 i cs[i] (by simp [hlt])
    rw [hi] at h2
    cases h2
    exact sameBits_flat1 (h _ (List.getElem_mem hlt)) h1 n
  | tup cs => 
    simp only [flatKey, AV.cells] at h
    simp [flat1] at h
  | _ => first | (exact sameBits_flat1 (by simpa [flatKey, AV.cells] using h) hv _) | (simp [flatKey, AV.cells, flat1] at h)

theorem run_keyThatStays' {P : Program} {x : AV} (h : flatKey x = true) {v : Value} (hv : conc e x = some v) : (Instr.keyThatStays v v).run P w = .ok v w := by
  simp [Instr.keyThatStays, sameBits_flat h hv 9999]

theorem entriesOf_push : ∀ {es : List (AV × AV)} {ms : List MapEntry} {k v : AV} {m : MapEntry}, entriesOf e es ms → conc e k = some m.key → conc e v = some m.val → entriesOf e (es ++ [(k, v)]) (ms ++ [m])
  | [], [], k, v, m, h, h1, h2 => ⟨h1, h2, trivial⟩
  | [], _ :: _, _, _, _, h, _, _ => h.elim
  | _ :: _, [], _, _, _, h, _, _ => h.elim
  | (x, y) :: es, n :: ms, k, v, m, ⟨e1, e2, e3⟩, h1, h2 => ⟨e1, e2, entriesOf_push e3 h1 h2⟩

theorem update_finds {P : Program} {kt : TypeId} {k v : AV} : ∀ {es es' : List (AV × AV)}, updateA P kt k v es = some es' → ∃ r, findA P kt k es = some r
  | [], es', h => ⟨none, rfl⟩
  | (k', v') :: es, es', h => by
    simp only [updateA] at h
    split at h
    · rename_i he
      exact ⟨some v', by simp [findA, he]⟩
    · rename_i he
      simp only [Option.map_eq_some_iff] at h
      obtain ⟨es2, h2, rfl⟩ := h
      obtain ⟨r, q1⟩ := update_finds h2
      exact ⟨r, by simp [findA, he, q1]⟩
    · cases h

theorem update_new {P : Program} {kt : TypeId} {k v : AV} : ∀ {es es' : List (AV × AV)}, updateA P kt k v es = some es' → findA P kt k es = some none → es' = es ++ [(k, v)]
  | [], es', h, _ => by cases h; rfl
  | (k', v') :: es, es', h, hf => by
    simp only [updateA] at h
    simp only [findA] at hf
    split at h
    · rename_i he; rw [he] at hf; cases hf
    · rename_i he
      rw [he] at hf
      simp only [Option.map_eq_some_iff] at h
      obtain ⟨es2, h2, rfl⟩ := h
      rw [update_new h2 hf]; rfl
    · cases h

theorem update_old {P : Program} {kt : TypeId} {k v : AV} {vk vv : Value} (hk : conc e k = some vk) (hv : conc e v = some vv) : ∀ {es es' : List (AV × AV)} {ms : List MapEntry} {j : Nat} {k0 v0 : AV}, updateA P kt k v es = some es' → entriesOf e es ms →
    es[j]? = some (k0, v0) → eqT P deep kt k k0 = some true → (∀ n x y, n < j → es[n]? = some (x, y) → eqT P deep kt k x = some false) → ∃ m, ms[j]? = some m ∧ m.key = vk ∧ entriesOf e es' (ms.modify j fun q => { q with key := vk, val := vv })
  | [], es', ms, j, k0, v0, h, hm, hj, _, _ => by simp at hj
  | (k', v') :: es, es', [], j, k0, v0, h, hm, hj, _, _ => hm.elim
  | (k', v') :: es, es', m :: ms, j, k0, v0, h, ⟨e1, e2, e3⟩, hj, he, hno => by
    simp only [updateA] at h
    cases j with
    | zero =>
      simp at hj
      obtain ⟨rfl, rfl⟩ := hj
      rw [he] at h
      simp only at h
      split at h
      · rename_i hs
        cases h
        have := AV.same_eq hs
        subst this
        have hkey : m.key = vk := by rw [hk] at e1; injection e1 with e1; exact e1.symm
        exact ⟨m, by simp, hkey, by simpa [entriesOf] using ⟨hk, hv, e3⟩⟩
      · cases h
    | succ j =>
      have h0 := hno 0 k' v' (by omega) (by simp)
      rw [h0] at h
      simp only [Option.map_eq_some_iff] at h
      obtain ⟨es2, h2, rfl⟩ := h
      obtain ⟨m', g1, g2, g3⟩ := update_old hk hv h2 e3 (by simpa using hj) he (fun n x y hn hx => hno (n + 1) x y (by omega) (by simpa using hx))
      exact ⟨m', by simpa using g1, g2, by simpa [entriesOf] using ⟨e1, e2, g3⟩⟩

theorem opMapUpdate_inv {P : Program} {h h' : Heap} {kt : TypeId} {m : Option Nat} {k v : AV} (hh : opMapUpdate P h kt m k v = some h') : ∃ b es es', m = some b ∧ keyOk P deep kt k = true ∧ flatKey k = true ∧ h.get b = some (.map es) ∧
    updateA P kt k v es = some es' ∧ h' = h.put b (.map es') := by
  unfold opMapUpdate at hh
  split at hh
  · rename_i b hko
    split at hh
    · rename_i es hg
      obtain ⟨es', hup, hv⟩ := bind_inv hh
      cases hv
      rw [Bool.and_eq_true] at hko
      exact ⟨b, es, es', rfl, hko.1, hko.2, hg, hup, rfl⟩
    · cases hh
  · cases hh

theorem runs_mapUpdate (k : SR E e le s a w) {x : TypeId} {om ok ox : Operand} (h : stepOp cx fn F ⟨dst, .mapUpdate x om ok ox, ty, pos, af, gd⟩ s = some (.ok t s')) : Runs cx.P E e le s a w ⟨dst, .mapUpdate x om ok ox, ty, pos, af, gd⟩ t s' := by
  simp only [stepOp, evalOp] at h
  split at h
  · rename_i kt el hu
    obtain ⟨vm, h1, h⟩ := valueK_inv h
    obtain ⟨vk, h2, h⟩ := valueK_inv h
    obtain ⟨vx, h3, h⟩ := valueK_inv h
    obtain ⟨m, rfl, h⟩ := asMap_inv h
    obtain ⟨h', hv, h⟩ := bind_inv h
    cases h
    have c1 := value_R k h1
    have c2 := value_R k h2
    have c3 := value_R k h3
    obtain ⟨b, es, es', rfl, hko, hfl, hg, hup, rfl⟩ := opMapUpdate_inv hv
    have hck : (Instr.checkKey false 10000 kt (a.eval ok)).run cx.P w = .ok () w := checkKey_R false deep kt vk hko 10000 (by decide) _ c2
    obtain ⟨sp, ms, clock, s1, s2, s3, s4, s5⟩ := run_entries (P := cx.P) k.heap hg c1
    obtain ⟨r, hf⟩ := update_finds hup
    obtain ⟨q, r1, r2⟩ := findKey_R (w := w) c2 (keyOk_under hko) s4 hf
    have key : ∃ ms' : Array MapEntry, ∃ clock', (Instr.mapUpdate x (a.eval om) (a.eval ok) (a.eval ox)).run cx.P w = .ok () { w with heap := w.heap.setIfInBounds sp.β (.map ms' clock') } ∧ entriesOf e es' ms'.toList := by
      rw [s2]
      cases q with
      | none =>
        cases r2
        have := update_new hup hf
        subst this
        refine ⟨ms.push { key := a.eval ok, val := a.eval ox, born := clock }, clock + 1, ?_, ?_⟩
        · simp [Instr.mapUpdate, run_underlying' hu, s5, hck, r1, Go.setObj, Sem.run, s3]
        · simpa using entriesOf_push s4 c2 c3
      | some q =>
        obtain ⟨j, u⟩ := q
        obtain ⟨v0, k0, f1, f2, f3, f4, f5, f6⟩ := r2
        obtain ⟨m, g1, g2, g3⟩ := update_old c2 c3 hup s4 (by simpa using f3) f5 (fun n x y hn hx => f6 n x y (by simpa using hn) hx)
        refine ⟨ms.modify j fun q => { q with key := a.eval ok, val := a.eval ox }, clock, ?_, ?_⟩
        · have hg : ms[j]? = some m := by simpa using g1
          simp [Instr.mapUpdate, run_underlying' hu, s5, hck, r1, hg, g2, run_keyThatStays' hfl c2, Go.setObj, Sem.run, s3]
        · simpa using g3
    obtain ⟨ms', clock', k1, k2⟩ := key
    have hlt : sp.β < w.heap.size := (Array.getElem?_eq_some_iff.1 s3).1
    have hw : Wr w { w with heap := w.heap.setIfInBounds sp.β (.map ms' clock') } sp.β (.map ms' clock') :=
      ⟨by simp [hlt], fun k hk => by simp [Ne.symm hk], by simp, rfl, rfl, rfl⟩
    refine ⟨.skip, undef, _, e, le, ?_, .inr ⟨rfl, rfl⟩, k.wr s1 hg trivial hw ⟨ms', clock', hw.here, k2⟩, by simp [TmR, conc, concL, undef]⟩
    simp [execOp, k1]
  · cases h
end ops
end Go.Proofs.YtahbihcbidkbaaaGreat.Ev

/-
  append: what the model does.
-/
set_option linter.unusedVariables false
namespace Go.Proofs.YtahbihcbidkbaaaGreat.Ev
open Go

/-- The value of a type's zero. -/
theorem tzeros_val {P : Program} {x : TypeId} {z : List AV} (h : tzeros P x = some z) : ∃ v, (∀ w, (zeroValue x).run P w = .ok v w) ∧ z.all one = true ∧ ∀ e, concL e z = some v.cells.toList := by
  unfold tzeros at h
  split at h
  · rename_i z' hz
    split at h
    · rename_i ho
      rw [Bool.and_eq_true] at ho
      have ho := ho.1
      cases h
      unfold tzero at hz
      cases hi : P.info? x with
      | none => simp [hi] at hz
      | some i =>
        simp only [hi, Option.bind_some] at hz
        cases hzz : i.zero with
        | none => simp [hzz] at hz
        | some u =>
          simp only [hzz, Option.bind_some] at hz
          exact ⟨u, fun w => by simp [zeroValue, run_typeInfo hi, hzz], ho, fun e => ofV_cells hz ho e⟩
    · cases h
  · cases h

/-- The second operand of append: how many elements, which cells. -/
def Snd (P : Program) (w : World) (t1 el : TypeId) (z : Nat) (X : Value) (n : Nat) (cells : Array Value) : Prop :=
  (∃ k kk, P.underlying t1 = some (.int k) ∧ X = .int kk n ∧ n ≤ 2 ^ 32 ∧ ∃ v, (∀ w, (zeroValue el).run P w = .ok v w) ∧ cells = Builtin.zeroCells v.cells n) ∨
  (∃ d, P.underlying t1 = some d ∧ (d = .string ∨ ∃ e', d = .slice e') ∧ (∀ w, (Builtin.lenOf X).run P w = .ok n w) ∧ ∀ w', w'.heap = w.heap → (Builtin.firstCells z n X).run P w' = .ok cells w')

section
variable {P : Program} {w : World} {ts : Array TypeId} {t0 t1 el ty : TypeId} {z n : Nat} {X : Value} {cells : Array Value} {sLen sCap : Nat} {base : Option Addr}

theorem zeroCells_zero (c : Array Value) : Builtin.zeroCells c 0 = #[] := by simp [Builtin.zeroCells]

theorem growBy_le (m : Nat) : ∀ (r c : Nat), 256 ≤ c → Builtin.growBy m r c ≤ 2 ^ r * c
  | 0, c, h => by simp [Builtin.growBy]
  | r + 1, c, h => by
    unfold Builtin.growBy
    have h1 : 1 ≤ 2 ^ r := Nat.one_le_two_pow
    split
    · rw [Nat.pow_succ]
      calc c = 1 * c := by omega
        _ ≤ 2 ^ r * 2 * c := Nat.mul_le_mul_right _ (by omega)
    · refine Nat.le_trans (growBy_le m r _ (by omega)) ?_
      rw [Nat.pow_succ, Nat.mul_assoc]
      exact Nat.mul_le_mul_left _ (by omega)

theorem nextcap_le {need cap : Nat} (h : need ≤ 4294967296) (h' : cap ≤ 4294967296) : Builtin.nextslicecap need cap ≤ 68719476736 := by
  unfold Builtin.nextslicecap
  split
  · omega
  · split
    · omega
    · have h4 := growBy_le need 4 cap (by omega)
      exact Nat.le_trans h4 (by simp only [Nat.reducePow]; omega)

theorem run_append_fits (h0 : ts[0]? = some t0) (h1 : ts[1]? = some t1) (hu : P.underlying t0 = some (.slice el)) (hz : tsize P el = some z) (hi : ∃ i, P.info? el = some i ∧ i.bytes ≤ 2 ^ 12) (hz0 : z ≠ 0)
    (hX : Snd P w t1 el z X n cells) (hfit : sLen + n ≤ sCap) :
    (Builtin.append_ ts ty #[.slice base sLen sCap, X]).run P w = (match base with
      | some a => (storeCells (a.add (sLen * z)) cells.toList >>= fun _ => pure (.slice base (sLen + n) sCap) : Sem Value)
      | none => pure (.slice base (sLen + n) sCap)).run P w := by
  obtain ⟨i, hi, hb⟩ := hi
  rcases hX with ⟨k, kk, d1, d2, d3, v, d4, d5⟩ | ⟨d, d1, d2, d3, d4⟩
  · subst d2
    have w1 : IntKind.i64.wrap (n : Int) = n := wrap_small (by omega) (by omega)
    have b2 : ¬ (281474976710656 < (n : Int) * i.bytes) := by
      have : (n : Int) * i.bytes ≤ 2 ^ 32 * 2 ^ 12 := Int.mul_le_mul (by omega) (by omega) (by omega) (by omega)
      omega
    have b1 : ¬ ((n : Int) < 0) := by omega
    unfold Builtin.append_
    by_cases hn : n = 0
    · subst hn
      have hf' : sLen ≤ sCap := by omega
      have w1 : IntKind.i64.wrap 0 = 0 := by decide
      cases base <;> simp [h0, h1, run_underlying' hu, run_underlying' d1, run_sizeOf' hz, asInt, asIntOf, w1, run_typeInfo hi, hf', d5, zeroCells_zero]
    · have hnz : ¬ (n * z = 0) := Nat.mul_ne_zero hn hz0
      cases base <;> simp [h0, h1, run_underlying' hu, run_underlying' d1, run_sizeOf' hz, asInt, asIntOf, w1, b1, b2, run_typeInfo hi, hfit, hnz, d4, d5]
  · unfold Builtin.append_
    have d4' := d4 w rfl
    rcases d2 with rfl | ⟨e', rfl⟩ <;> (cases base <;> simp [h0, h1, run_underlying' hu, run_underlying' d1, run_sizeOf' hz, d3, run_typeInfo hi, hfit, d4'])

theorem run_append_grows (h0 : ts[0]? = some t0) (h1 : ts[1]? = some t1) (hu : P.underlying t0 = some (.slice el)) (hz : tsize P el = some z) (hi : ∃ i, P.info? el = some i ∧ i.bytes ≤ 2 ^ 12) (hz0 : z ≠ 0)
    (hX : Snd P w t1 el z X n cells) (hfit : sCap < sLen + n) (h32 : sLen + n ≤ 2 ^ 32) {old : Array Value} (hold : ∀ w', w'.heap = w.heap → (Builtin.firstCells z sLen (.slice base sLen sCap)).run P w' = .ok old w')
    {zv : Value} (hzv : ∀ w, (zeroValue el).run P w = .ok zv w) :
    ∃ c w', sLen + n ≤ c ∧ (Builtin.append_ ts ty #[.slice base sLen sCap, X]).run P w = .ok (.slice (some ⟨w.heap.size, 0, none⟩) (sLen + n) c) w' ∧ New w w' (.cells (old ++ cells ++ Builtin.zeroCells zv.cells (c - (sLen + n))) el) := by
  obtain ⟨i, hi, hb⟩ := hi
  have nf : ¬ (sLen + n ≤ sCap) := by omega
  have b3 : ¬ (9223372036854775807 < (sLen : Int) + n) := by omega
  have b4 : ¬ (281474976710656 < Builtin.nextslicecap (sLen + n) sCap * i.bytes) := by
    have h1 := nextcap_le (need := sLen + n) (cap := sCap) (by omega) (by omega)
    have : Builtin.nextslicecap (sLen + n) sCap * i.bytes ≤ 68719476736 * 4096 := Nat.mul_le_mul h1 (by omega)
    omega
  have hq : (Question.appendCap (sLen + n) sCap el).forced = false := rfl
  obtain ⟨c, hc⟩ : ∃ c, c = (Question.appendCap (sLen + n) sCap el).cut (w.tape w.drawn (Question.appendCap (sLen + n) sCap el)) := ⟨_, rfl⟩
  have hcle : sLen + n ≤ c := by rw [hc]; simp [Question.cut]
  have hold1 := hold w.drew rfl
  have hnew : ∀ (w' : World) (cs : Array Value), (newRow el cs).run P w' = .ok ⟨w'.heap.size, 0, none⟩ { w' with heap := w'.heap.push (.cells cs el) } := fun w' cs => by simp [newRow]
  refine ⟨c, { w.drew with heap := w.heap.push (.cells (old ++ cells ++ Builtin.zeroCells zv.cells (c - (sLen + n))) el) }, hcle, ?_, ⟨rfl, rfl, rfl, rfl⟩⟩
  rcases hX with ⟨k, kk, d1, d2, d3, v, d4, d5⟩ | ⟨d, d1, d2, d3, d4⟩
  · subst d2
    have hv : v = zv := by have := (d4 w).symm.trans (hzv w); injection this
    subst hv
    have w1 : IntKind.i64.wrap (n : Int) = n := wrap_small (by omega) (by omega)
    have b2 : ¬ (281474976710656 < (n : Int) * i.bytes) := by
      have : (n : Int) * i.bytes ≤ 2 ^ 32 * 2 ^ 12 := Int.mul_le_mul (by omega) (by omega) (by omega) (by omega)
      omega
    have b1 : ¬ ((n : Int) < 0) := by omega
    unfold Builtin.append_
    by_cases hn : n = 0
    · subst hn
      have w1 : IntKind.i64.wrap 0 = 0 := by decide
      simp only [Nat.add_zero] at nf hq b4 hold1 hc ⊢
      have b3 : ¬ (9223372036854775807 < (sLen : Int)) := by omega
      simp [h0, h1, run_underlying' hu, run_underlying' d1, run_sizeOf' hz, asInt, asIntOf, w1, run_typeInfo hi, nf, d4, d5, b3, b4, hq, hold1, askRoom, zeroCells_zero, hnew, ← hc]
      rfl
    · have hnz : ¬ (n * z = 0) := Nat.mul_ne_zero hn hz0
      simp [h0, h1, run_underlying' hu, run_underlying' d1, run_sizeOf' hz, asInt, asIntOf, w1, b1, b2, run_typeInfo hi, nf, hnz, d4, d5, b3, b4, hq, hold1, askRoom, hnew, ← hc]
      rfl
  · have d4' := d4 w.drew rfl
    unfold Builtin.append_
    rcases d2 with rfl | ⟨e', rfl⟩
    · simp [h0, h1, run_underlying' hu, run_underlying' d1, run_sizeOf' hz, d3, run_typeInfo hi, nf, d4', hzv, b3, b4, hq, hold1, askRoom, hnew, ← hc]
      rfl
    · simp [h0, h1, run_underlying' hu, run_underlying' d1, run_sizeOf' hz, d3, run_typeInfo hi, nf, d4', hzv, b3, b4, hq, hold1, askRoom, hnew, ← hc]
      rfl
end
end Go.Proofs.YtahbihcbidkbaaaGreat.Ev

/-
  append: the step.
-/
set_option linter.unusedVariables false
namespace Go.Proofs.YtahbihcbidkbaaaGreat.Ev
open Go

section
variable {E : Start} {e : Env} {le : Nat → Option Nat} {s : St} {a : Act} {w w' : World}

/-- The heap has drawn: nothing that stands for anything has turned. -/
theorem Wr.same {β : Nat} {o : Obj} (h : w.heap[β]? = some o) : Wr w w β o := ⟨h, fun _ _ => rfl, rfl, rfl, rfl, rfl⟩

theorem SR.kill (k : SR E e le s a w) {b : Nat} {sp : Spot} {x : Blk} (hb : e b = some sp) (hx : s.h.get b = some x) (hl : x.live) : SR E e le { s with h := s.h.put b .dead } a w := by
  have hlt := k.heap.lt b sp hb
  exact k.wr hb hx hl (Wr.same (o := w.heap[sp.β]) (by simp [hlt])) trivial

/-- A block of the world that nothing stands for gets a new block. -/
theorem SR.alias (k : SR E e le s a w) {x : Blk} {sp : Spot} (hlt : sp.β < w.heap.size) (h1 : ∀ b t y, e b = some t → s.h.get b = some y → y.live → t.β ≠ sp.β)
    (h2 : ∀ l cs β, local? s l = some cs → le l = some β → β ≠ sp.β) (h3 : sp.β < E.w0.heap.size → ∃ b0 s0 x0, E.e0 b0 = some s0 ∧ E.h0.get b0 = some x0 ∧ x0.live ∧ s0.β = sp.β)
    (hx : BlkR (e.upd s.h.next sp) w sp x) : SR E (e.upd s.h.next sp) le { s with h := s.h.push x } a w := by
  have hnew := k.heap.new s.h.next (Nat.le_refl _)
  have hle := Env.le_upd (s := sp) hnew.1
  have old : ∀ c t, e.upd s.h.next sp c = some t → c ≠ s.h.next → e c = some t := fun c t hc hne => by simpa [Env.upd, hne] using hc
  refine ⟨k.tms.mono hle fun _ _ h => h, ⟨?_, ?_, ?_, ?_⟩, ⟨Env.le_trans k.tr.ext hle, k.tr.size, k.tr.frame, ?_, k.tr.os, k.tr.tape, k.tr.output⟩, ?_, k.apart, dfsR_mono hle _ _ k.dfs⟩
  · intro c t y hc hy
    by_cases hcb : c = s.h.next
    · subst hcb
      rw [Heap.get_push_same] at hy; cases hy
      simp [Env.upd] at hc; subst hc; exact hx
    · rw [Heap.get_push_other _ x (Ne.symm hcb)] at hy
      exact (k.heap.blk c t y (old c t hc hcb) hy).same hle rfl
  · intro c d t u y z hc hd hy hz hly hlz hne
    by_cases hcb : c = s.h.next
    · have hdb : d ≠ s.h.next := fun hh => hne (hcb.trans hh.symm)
      have : t = sp := by simpa [Env.upd, hcb] using hc.symm
      rw [Heap.get_push_other _ x (Ne.symm hdb)] at hz
      have := h1 d u z (old d u hd hdb) hz hlz
      subst_vars; exact Ne.symm this
    · by_cases hdb : d = s.h.next
      · have : u = sp := by simpa [Env.upd, hdb] using hd.symm
        rw [Heap.get_push_other _ x (Ne.symm hcb)] at hy
        have := h1 c t y (old c t hc hcb) hy hly
        subst_vars; exact this
      · rw [Heap.get_push_other _ x (Ne.symm hcb)] at hy
        rw [Heap.get_push_other _ x (Ne.symm hdb)] at hz
        exact k.heap.sep c d t u y z (old c t hc hcb) (old d u hd hdb) hy hz hly hlz hne
  · intro c t hc
    by_cases hcb : c = s.h.next
    · have : t = sp := by simpa [Env.upd, hcb] using hc.symm
      subst_vars; exact hlt
    · exact k.heap.lt c t (old c t hc hcb)
  · intro c hc
    simp only [Heap.push_next] at hc
    obtain ⟨n1, n2⟩ := k.heap.new c (by omega)
    refine ⟨by simp [Env.upd, show c ≠ s.h.next by omega, n1], ?_⟩
    rw [Heap.get_push_other _ x (by omega)]; exact n2
  · intro c t y hc hy hly hlt'
    by_cases hcb : c = s.h.next
    · have : t = sp := by simpa [Env.upd, hcb] using hc.symm
      subst_vars; exact h3 hlt'
    · simp only at hy
      rw [Heap.get_push_other _ x (Ne.symm hcb)] at hy
      exact k.tr.old c t y (old c t hc hcb) hy hly hlt'
  · intro l cs hc
    obtain ⟨β, m1, m2, m3, m4, m5⟩ := k.loc l cs hc
    refine ⟨β, m1, m2.mono hle rfl, m3, m4, ?_⟩
    intro c t y hc' hy hly
    by_cases hcb : c = s.h.next
    · have : t = sp := by simpa [Env.upd, hcb] using hc'.symm
      subst_vars
      exact (h2 l cs β hc m1).symm
    · simp only at hy; rw [Heap.get_push_other _ x (Ne.symm hcb)] at hy
      exact m5 c t y (old c t hc' hcb) hy hly

/-- A block of the world is written; what stood for it is dead; another one stands for it. -/
theorem SR.regrow (k : SR E e le s a w) {b : Nat} {sp sp' : Spot} {x x' : Blk} {o : Obj} (hb : e b = some sp) (hx : s.h.get b = some x) (hl : x.live) (hw : Wr w w' sp.β o) (hs : sp'.β = sp.β) (hx' : BlkR (e.upd s.h.next sp') w' sp' x') :
    SR E (e.upd s.h.next sp') le { s with h := (s.h.put b .dead).push x' } a w' := by
  have k1 := k.wr (x' := .dead) hb hx hl hw trivial
  have hlt := k.heap.lt b sp hb
  refine SR.alias k1 (by rw [hs, hw.size]; exact hlt) ?_ ?_ ?_ hx'
  · intro c t y hc hy hly
    by_cases hcb : b = c
    · subst hcb
      simp only at hy; rw [Heap.get_put_same] at hy; cases hy; exact hly.elim
    · simp only at hy; rw [Heap.get_put_other _ _ hcb] at hy
      rw [hs]
      exact k.heap.sep c b t sp y x hc hb hy hx hly hl (Ne.symm hcb)
  · intro l cs β hc hβ
    obtain ⟨β', m1, _, _, _, m5⟩ := k.loc l cs hc
    rw [hβ] at m1; cases m1
    rw [hs]
    exact Ne.symm (m5 b sp x hb hx hl)
  · intro hlt'
    rw [hs] at hlt' ⊢
    exact k.tr.old b sp x hb hx hl hlt'
end

/-- Cells written behind those that are known. -/
theorem CellsAt.extend {P : Program} {e : Env} {w : World} {β γ room : Nat} {cs new : List AV} (h : CellsAt e w β γ room cs) {vs : List Value} (hn : concL e new = some vs)
    (ho : new.all one = true) (hroom : cs.length + new.length ≤ room) : ∃ w' obj, (storeCells ⟨β, γ + cs.length, none⟩ vs 0).run P w = .ok () w' ∧ Wr w w' β obj ∧ CellsAt e w' β γ room (cs ++ new) := by
  obtain ⟨c, t, lo, hi, h1, h2, h3, h4⟩ := h.row
  have hvl := concL_length hn
  have hfit := h.fits
  obtain ⟨w', hr, hw⟩ := run_storeCells (P := P) (β := β) (o := γ + cs.length) (lo := lo) (hi := hi) (t := t) vs 0 w c h1 (by omega)
    (fun (j : Nat) (hj : j < vs.length) => by have := h3 (cs.length + j) (by omega); rwa [show γ + cs.length + 0 + j = γ + (cs.length + j) by omega]) (concL_one hn ho)
  refine ⟨w', _, hr, hw, ⟨⟨_, t, lo, hi, hw.here, by rw [over_size]; exact h2, h3, fun j a ha => ?_⟩, by simp; omega⟩⟩
  rw [over_get vs c _ _ (by omega)]
  by_cases hj : j < cs.length
  · rw [List.getElem?_append_left hj] at ha
    rw [if_neg (by omega)]
    exact h4 j a ha
  · rw [List.getElem?_append_right (by omega)] at ha
    have hlt := (List.getElem?_eq_some_iff.1 ha).1
    rw [if_pos (by omega)]
    obtain ⟨v, hv, hx⟩ := concL_get hn _ a ha
    refine ⟨List.all_eq_true.1 ho a (List.mem_iff_getElem?.2 ⟨_, ha⟩), v, hv, ?_⟩
    rw [show γ + j - (γ + cs.length + 0) = j - cs.length by omega]; exact hx

theorem CellsAt.drop {e : Env} {w : World} {β γ room off : Nat} {cs : List AV} (h : CellsAt e w β γ room cs) (hoff : off ≤ cs.length) : CellsAt e w β (γ + off) (room - off) (cs.drop off) := by
  obtain ⟨c, t, lo, hi, h1, h2, h3, h4⟩ := h.row
  have hfit := h.fits
  refine ⟨⟨c, t, lo, hi, h1, by omega, fun j hj => by have := h3 (off + j) (by omega); rwa [show γ + off + j = γ + (off + j) by omega], fun j a ha => ?_⟩, by simp; omega⟩
  rw [List.getElem?_drop] at ha
  have := h4 _ a ha
  rwa [show γ + off + j = γ + (off + j) by omega]

theorem CellsAt.room {e : Env} {w : World} {β γ room room' : Nat} {cs : List AV} (h : CellsAt e w β γ room cs) (hr : room' ≤ room) (hc : cs.length ≤ room') : CellsAt e w β γ room' cs := by
  obtain ⟨c, t, lo, hi, h1, h2, h3, h4⟩ := h.row
  exact ⟨⟨c, t, lo, hi, h1, by omega, fun j hj => h3 j (by omega), h4⟩, hc⟩

theorem Heap.cells_iff {h : Heap} {b : Nat} {r : List AV × Nat} (hh : h.cells b = some r) : h.get b = some (.cells r.1 r.2) := by
  unfold Heap.cells at hh
  split at hh
  · rename_i h1; cases hh; exact h1
  · cases hh

/-- The row of a new block. -/
theorem cellsAt_grown {e : Env} {w w' : World} {elem : TypeId} {cs : List AV} {c rest : Array Value} {room : Nat} (hn : New w w' (.cells (c ++ rest) elem)) (hc : concL e cs = some c.toList) (ho : cs.all one = true) (hr : room = (c ++ rest).size) :
    CellsAt e w' w.heap.size 0 room cs := by
  have hl := concL_length hc
  simp at hl
  refine ⟨⟨c ++ rest, elem, 0, 0, hn.here, by omega, fun j _ => by omega, fun j x hx => ?_⟩, by rw [hr]; simp; omega⟩
  obtain ⟨v, h1, h2⟩ := concL_get hc j x hx
  have hlt := (List.getElem?_eq_some_iff.1 hx).1
  refine ⟨List.all_eq_true.1 ho x (List.mem_iff_getElem?.2 ⟨j, hx⟩), v, h1, ?_⟩
  rw [Nat.zero_add, Array.getElem?_append_left (by omega)]
  simpa using h2

theorem take_drop_get {cs xs : List AV} {off n : Nat} (h : take? cs off n = some xs) : xs = (cs.drop off).take n ∧ off + n ≤ cs.length ∧ xs.length = n := by
  rw [take?_eq] at h
  split at h
  · rename_i hle; cases h; exact ⟨rfl, hle, by simp; omega⟩
  · cases h

theorem all_sub {cs : List AV} (h : cs.all one = true) (off n : Nat) : ((cs.drop off).take n).all one = true := by
  rw [List.all_eq_true] at h ⊢
  exact fun a ha => h a (List.mem_of_mem_drop (List.mem_of_mem_take ha))

theorem zeroCells_size (c : Array Value) (n : Nat) : (Builtin.zeroCells c n).size = n * c.size := by simp [Builtin.zeroCells]

section
variable {P : Program} {E : Start} {e : Env} {le : Nat → Option Nat} {s : St} {a : Act} {w : World} {ts : Array TypeId} {t0 t1 el ty : TypeId} {z n : Nat} {X : Value} {cells : Array Value}

theorem appendE_R (k : SR E e le s a w) (h0 : ts[0]? = some t0) (h1 : ts[1]? = some t1) (hu : P.underlying t0 = some (.slice el)) (hz : tsize P el = some z) (hi : ∃ i, P.info? el = some i ∧ i.bytes ≤ 2 ^ 12) (hz0 : z ≠ 0)
    (hX : Snd P w t1 el z X n cells) {zs : List AV} (hzs : tzeros P el = some zs) {new : List AV} (hnew : concL e new = some cells.toList) (hno : new.all one = true) (hnl : new.length = n * z)
    {sv : AV} {V : Value} (hV : conc e sv = some V) {r : AV} {h' : Heap} (h : appendE s.h z sv n new = some (r, h')) :
    ∃ v w' e', (Builtin.append_ ts ty #[V, X]).run P w = .ok v w' ∧ SR E e' le { s with h := h' } a w' ∧ conc e' r = some v := by
  obtain ⟨zv, hzv, hzo, hzc⟩ := tzeros_val hzs
  have hzl : zv.cells.size = z := by
    have h1 := concL_length (hzc (fun _ => none))
    have h2 := tzeros_len hzs
    rw [hz] at h2; injection h2 with h2
    rw [h2]; simpa using h1
  unfold appendE at h
  split at h
  · simp only [conc] at hV
    injection hV with hV
    subst hV
    split at h
    · rename_i hn
      subst hn
      cases h
      exact ⟨_, w, e, by rw [run_append_fits h0 h1 hu hz hi hz0 hX (by omega)]; simp, k, rfl⟩
    · rename_i hn
      split at h
      · cases h
      · rename_i hm
        cases h
        unfold most at hm
        obtain ⟨c, w', hc, hr, hw⟩ := run_append_grows (ty := ty) (base := none) (sLen := 0) (sCap := 0) h0 h1 hu hz hi hz0 hX (by omega) (by omega) (old := #[]) (fun w' _ => by simp [Builtin.firstCells]) hzv
        have hle := Env.le_upd (s := ⟨w.heap.size, 0, c, z⟩) (k.heap.new s.h.next (Nat.le_refl _)).1
        refine ⟨_, w', _, hr, k.push (sp := ⟨w.heap.size, 0, c, z⟩) hw rfl ⟨rfl, ?_⟩, ?_⟩
        · simp only [Array.empty_append] at hw
          refine cellsAt_grown hw (concL_mono hle _ _ hnew) hno ?_
          have hcs : cells.size = n * z := by have := concL_length hnew; simp at this; omega
          simp only [Array.size_append, hcs, zeroCells_size, hzl]
          rw [← Nat.add_mul]; congr 1; omega
        · simp only [conc, Env.upd, if_true]
          rw [if_pos (by simp; omega)]
          simp
  · rename_i b off poff len cap
    split at h
    · rename_i hn
      subst hn
      cases h
      obtain ⟨ad, m, c, rfl⟩ := conc_slice_some hV
      refine ⟨_, w, e, ?_, k, hV⟩
      have hle : m ≤ c := by
        simp only [conc] at hV
        split at hV
        · split at hV
          · split at hV <;> cases hV; assumption
          · split at hV <;> cases hV; omega
        · cases hV
      rw [run_append_fits h0 h1 hu hz hi hz0 hX (by omega)]
      have : cells.toList = [] := by
        have := concL_length hnew
        rw [hnl, Nat.zero_mul] at this
        exact List.length_eq_zero_iff.1 this
      simp [this, storeCells]
    · rename_i hn
      split at h
      · cases h
      · rename_i hm
        unfold most at hm
        obtain ⟨⟨cs, z'⟩, hcs, h⟩ := bind_inv h
        have hg := Heap.cells_iff hcs
        simp only at h hg
        split at h
        · cases h
        · rename_i hzz
          have hzz : z' = z := by simpa using hzz
          subst hzz
          have hcn : cells.size = n * z' := by have := concL_length hnew; simp at this; omega
          have grow : ∀ (base : Addr) (c0 : Nat) (old : List AV), conc e (.slice b off poff len cap) = some (.slice (some base) len c0) → c0 < len + n → take? cs off (len * z') = some old → ∀ (hq : Heap), SR E e le { s with h := hq } a w → 
              ∃ v w' e', (Builtin.append_ ts ty #[.slice (some base) len c0, X]).run P w = .ok v w' ∧ SR E e' le { s with h := (hq.new (.cells (old ++ new) z')).2 } a w' ∧ conc e' (.slice hq.next 0 0 (len + n) (.rel 0)) = some v := by
            intro base c0 old hc0 hlt ho hq kq
            obtain ⟨vs, q1, q2, q3, q4⟩ : ∃ vs : List Value, concL e old = some vs ∧ vs.length = len * z' ∧ old.all one = true ∧ ∀ w', w'.heap = w.heap → (loadCells base (len * z')).run P w' = .ok vs.toArray w' := by
              obtain ⟨sp, hsp⟩ : ∃ sp, e b = some sp := by
                simp only [conc] at hc0
                split at hc0
                · rename_i sp hs; exact ⟨sp, hs⟩
                · cases hc0
              obtain ⟨hz2, hcells⟩ := k.heap.blk b sp _ hsp hg
              obtain ⟨vs, c1, c2, c3, c4⟩ := CellsAt.stretch hcells ho
              refine ⟨vs, c1, c2, c3, fun w' hw' => ?_⟩
              by_cases l0 : len = 0
              · subst l0
                have : vs = [] := List.length_eq_zero_iff.1 (by omega)
                subst this
                simp [loadCells, loadCellsFrom]
              · obtain ⟨sp', c', hsp', he⟩ := conc_slice_lies hc0 (by omega)
                rw [hsp] at hsp'; cases hsp'
                cases he
                rw [← c2]
                exact run_loadCells fun j v hj => by have := c4 j v hj; simpa [World.cell?, hw'] using this
            obtain ⟨c, w', hc, hr, hw⟩ := run_append_grows (ty := ty) (base := some base) (sLen := len) (sCap := c0) h0 h1 hu hz hi hz0 hX hlt (by omega) (old := vs.toArray) (fun w' hw' => by simp [Builtin.firstCells, q4 w' hw']) hzv
            have hle := Env.le_upd (s := ⟨w.heap.size, 0, c, z'⟩) (kq.heap.new hq.next (Nat.le_refl _)).1
            refine ⟨_, w', _, hr, kq.push (sp := ⟨w.heap.size, 0, c, z'⟩) hw rfl ⟨rfl, ?_⟩, ?_⟩
            · refine cellsAt_grown (c := vs.toArray ++ cells) hw (concL_mono hle _ _ ?_) (by simp [q3, hno]) ?_
              · simpa using concL_append q1 hnew
              · simp only [Array.size_append, hcn, zeroCells_size, hzl, List.size_toArray, q2]
                rw [← Nat.add_mul, ← Nat.add_mul]; congr 1; omega
            · simp only [conc, Env.upd, if_true]
              rw [if_pos (by simp; omega)]
              simp
          obtain ⟨ad, m, c0, rfl⟩ := conc_slice_some hV
          obtain ⟨sp, hsp⟩ : ∃ sp, e b = some sp := by
            simp only [conc] at hV
            split at hV
            · rename_i sp hs; exact ⟨sp, hs⟩
            · cases hV
          obtain ⟨hz2, hcells⟩ := k.heap.blk b sp _ hsp hg
          have hml : m = len := by
            simp only [conc, hsp] at hV
            split at hV <;> split at hV <;> cases hV <;> rfl
          subst hml
          have put : ∀ (cs' : List AV), c0 ≠ 0 → m + n ≤ c0 → ad = ⟨sp.β, sp.γ + off, none⟩ → lay? cs (off + m * z') new = some cs' →
              ∃ w', (Builtin.append_ ts ty #[.slice (some ad) m c0, X]).run P w = .ok (.slice (some ad) (m + n) c0) w' ∧ SR E e le { s with h := s.h.put b (.cells cs' z') } a w' := by
            intro cs' hc0 hle had hlay
            obtain ⟨w', obj, p1, p2, p3⟩ := CellsAt.write (P := P) hcells hlay hnew hno
            refine ⟨w', ?_, k.wr hsp hg trivial p2 ⟨hz2, p3⟩⟩
            rw [run_append_fits h0 h1 hu hz hi hz0 hX hle]
            subst had
            rw [← Nat.add_assoc] at p1
            simp [add_plain, p1]
          cases cap with
          | ex c =>
            have hc : c0 = c ∧ m ≤ c ∧ ad = ⟨sp.β, sp.γ + (if c = 0 then poff else off), none⟩ := by
              simp only [conc, hsp] at hV
              split at hV
              · cases hV; exact ⟨rfl, by assumption, rfl⟩
              · cases hV
            obtain ⟨rfl, hmc, had⟩ := hc
            simp only at h
            split at h
            · rename_i hle
              have hle : m + n ≤ c0 := by simpa using hle
              obtain ⟨cs', hlay, h⟩ := bind_inv h
              cases h
              obtain ⟨w', r1, r2⟩ := put cs' (by omega) hle (by rw [had, if_neg (by omega)]) hlay
              refine ⟨_, w', e, r1, r2, ?_⟩
              simp only [conc, hsp]
              rw [if_pos hle, had]
            · rename_i hle
              have hle : ¬ m + n ≤ c0 := by simpa using hle
              obtain ⟨old, ho, h⟩ := bind_inv h
              cases h
              exact grow ad c0 old hV (by omega) ho s.h k
          | rel d =>
            have hc : off = d * sp.e ∧ d + m ≤ sp.κ ∧ c0 = sp.κ - d ∧ ad = ⟨sp.β, sp.γ + (if sp.κ - d = 0 then poff else off), none⟩ := by
              simp only [conc, hsp] at hV
              split at hV
              · rename_i hh; cases hV; exact ⟨hh.1, hh.2, rfl, rfl⟩
              · cases hV
            obtain ⟨hoff, hdm, hc0, had⟩ := hc
            simp only at h
            split at h
            · rename_i hle
              have hle : off + (m + n) * z' ≤ cs.length := by simpa using hle
              obtain ⟨cs', hlay, h⟩ := bind_inv h
              cases h
              have hfit := hcells.fits
              have hdmn : d + (m + n) ≤ sp.κ := by
                have : (d + (m + n)) * z' ≤ sp.κ * z' := by
                  rw [Nat.add_mul]; rw [hz2] at hoff hfit; omega
                exact Nat.le_of_mul_le_mul_right this (by omega)
              obtain ⟨w', r1, r2⟩ := put cs' (by omega) (by omega) (by rw [had, if_neg (by omega)]) hlay
              refine ⟨_, w', e, r1, r2, ?_⟩
              simp only [conc, hsp]
              rw [if_pos ⟨hoff, by omega⟩, had, ← hc0]
            · split at h
              · rename_i _ hend
                obtain ⟨old, ho, h⟩ := bind_inv h
                cases h
                by_cases hle : m + n ≤ c0
                · have hfit := hcells.fits
                  have hroom : cs.length + new.length ≤ sp.κ * sp.e := by
                    rw [hnl, ← hend, hoff, hz2, ← Nat.add_mul, ← Nat.add_mul]
                    exact Nat.mul_le_mul_right _ (by omega)
                  obtain ⟨w', obj, p1, p2, p3⟩ := CellsAt.extend (P := P) hcells hnew hno hroom
                  have had : ad = ⟨sp.β, sp.γ + off, none⟩ := by rw [had, if_neg (by omega)]
                  obtain ⟨ho1, ho2, ho3⟩ := take_drop_get ho
                  have hold : old = cs.drop off := by
                    rw [ho1]; exact List.take_of_length_le (by simp; omega)
                  have hle' := Env.le_upd (s := ⟨sp.β, sp.γ + off, sp.κ - d, z'⟩) (k.heap.new s.h.next (Nat.le_refl _)).1
                  refine ⟨.slice (some ad) (m + n) c0, w', e.upd s.h.next ⟨sp.β, sp.γ + off, sp.κ - d, z'⟩, ?_, ?_, ?_⟩
                  · rw [run_append_fits h0 h1 hu hz hi hz0 hX hle]
                    subst had
                    rw [← hend, ← Nat.add_assoc] at p1
                    simp [add_plain, p1]
                  · refine k.regrow hsp hg trivial p2 rfl ⟨rfl, ?_⟩
                    have p4 := CellsAt.drop (off := off) p3 (by simp; omega)
                    rw [List.drop_append_of_le_length (by omega), ← hold] at p4
                    refine CellsAt.room (CellsAt.mono p4 hle' rfl) ?_ ?_
                    · show (sp.κ - d) * z' ≤ sp.κ * sp.e - off
                      rw [hoff, hz2, Nat.sub_mul]; exact Nat.le_refl _
                    · simp only; rw [List.length_append, ho3, hnl, ← Nat.add_mul]; exact Nat.mul_le_mul_right _ (by omega)
                  · simp only [conc, Env.upd, if_true]
                    rw [if_pos (by simp; omega), had, hc0]
                    simp
                · exact grow ad c0 old hV (by omega) ho _ (k.kill hsp hg trivial)
              · cases h
  · cases h
end
end Go.Proofs.YtahbihcbidkbaaaGreat.Ev

/-
  append: its operands; local rows that become blocks.
-/
set_option linter.unusedVariables false
namespace Go.Proofs.YtahbihcbidkbaaaGreat.Ev
open Go

section
variable {E : Start} {e : Env} {le : Nat → Option Nat} {s : St} {a : Act} {w w' : World}

/-- A local variable is none any more. -/
theorem SR.forgetLocal (k : SR E e le s a w) (l : Nat) : SR E e le { s with lc := s.lc.set l none } a w := by
  have q : ∀ l' c', local? { s with lc := s.lc.set l none } l' = some c' → local? s l' = some c' := by
    intro l' c' hq
    by_cases h : l = l'
    · subst h
      by_cases hl : l < s.lc.length
      · rw [local_set_same (tm := s.tm) (h := s.h) hl] at hq; cases hq
      · unfold local? at hq ⊢
        simp only [List.getElem?_set, hl] at hq
        simp at hq
    · rwa [local_set_other h] at hq
  exact ⟨k.tms, k.heap, k.tr, fun l' c' h => k.loc l' c' (q l' c' h), fun l1 l2 c1 c2 β h1 h2 => k.apart l1 l2 c1 c2 β (q _ _ h1) (q _ _ h2), k.dfs⟩

/-- A local variable becomes a block of the heap. -/
theorem SR.promote (k : SR E e le s a w) {l : Nat} {cs : List AV} {β κ z : Nat} (hl : local? s l = some cs) (hβ : le l = some β) (hκ : κ * z = cs.length) :
    SR E (e.upd s.h.next ⟨β, 0, κ, z⟩) le { s with h := s.h.push (.cells cs z), lc := s.lc.set l none } a w := by
  obtain ⟨β', m1, m2, m3, m4, m5⟩ := k.loc l cs hl
  rw [hβ] at m1; cases m1
  have hle := Env.le_upd (s := ⟨β, 0, κ, z⟩) (k.heap.new s.h.next (Nat.le_refl _)).1
  have k1 := k.forgetLocal l
  refine SR.alias (s := { s with lc := s.lc.set l none }) k1 (sp := ⟨β, 0, κ, z⟩) m4 m5 ?_ (fun h => absurd h (by simp only; omega)) ⟨rfl, ?_⟩
  · intro l' c' γ hc hγ hh
    simp only at hh
    subst hh
    by_cases h : l = l'
    · subst h
      rw [local_set_same (tm := s.tm) (h := s.h) (local_lt hl)] at hc; cases hc
    · rw [local_set_other h] at hc
      exact h (k.apart l l' cs c' _ hl hc hβ hγ)
  · simp only; rw [hκ]; exact m2.mono hle rfl
end

theorem HR.sameHeap {e : Env} {h : Heap} {w w' : World} (k : HR e h w) (hw : w'.heap = w.heap) : HR e h w' :=
  k.beside (by rw [hw]; exact Nat.le_refl _) fun _ _ _ _ _ _ => by rw [hw]

section
variable {P : Program} {E : Start} {e : Env} {le : Nat → Option Nat} {s : St} {a : Act} {w : World} {ts : Array TypeId} {t0 t1 el ty : TypeId} {z n : Nat} {X : Value} {cells : Array Value}

/-- The cells of a slice, as append and copy read them. -/
theorem firstCells_R {h : Heap} (hr : HR e h w) {sv : AV} {n : Nat} (hl : sliceLen sv = some n) {cs : List AV} (hc : cellsOf P h el sv = some cs) (hz : tsize P el = some z) (hz0 : z ≠ 0) {V : Value} (hV : conc e sv = some V) :
    ∃ cells, concL e cs = some cells.toList ∧ cs.all one = true ∧ cells.size = n * z ∧ (∀ w, (Builtin.lenOf V).run P w = .ok n w) ∧ ∀ w', w'.heap = w.heap → (Builtin.firstCells z n V).run P w' = .ok cells w' := by
  cases sv with
  | nilSlice =>
    simp only [sliceLen] at hl; cases hl
    simp only [cellsOf] at hc; cases hc
    simp only [conc] at hV; cases hV
    exact ⟨#[], rfl, rfl, by simp, fun w => by simp [Builtin.lenOf], fun w' _ => by simp [Builtin.firstCells]⟩
  | slice b off poff len cap =>
    simp only [sliceLen] at hl; cases hl
    obtain ⟨ad, c, vs, rfl, c1, c2, c3, c4⟩ := cellsOf_R (w := w) hr hz hz0 hc hV
    refine ⟨vs.toArray, by simpa using c1, c2, by simpa using c3, fun w => by simp [Builtin.lenOf], fun w' hw' => ?_⟩
    obtain ⟨ad', c', vs', he, c1', _, _, c4'⟩ := cellsOf_R (w := w') (hr.sameHeap hw') hz hz0 hc hV
    cases he
    rw [c1] at c1'; cases c1'
    simp [Builtin.firstCells, c4']
  | _ => simp [sliceLen] at hl

theorem take_eq_bytes (b : ByteArray) : b.extract 0 b.size = b := by
  cases b with | mk d => simp [ByteArray.extract, ByteArray.copySlice, ByteArray.size]

/-- What is appended. -/
theorem tailA_R {h : Heap} (hr : HR e h w) {x : AV} {n : Nat} {new : List AV} (ht : tailA P h el t1 x = some (n, new)) (hz : tsize P el = some z) (hz0 : z ≠ 0) (hl : new.length = n * z) (hV : conc e x = some X) :
    ∃ cells, concL e new = some cells.toList ∧ new.all one = true ∧ Snd P w t1 el z X n cells := by
  unfold tailA at ht
  split at ht
  · rename_i k hu
    split at ht
    · rename_i kk m zs hzs
      split at ht
      · cases ht
      · rename_i hm
        cases ht
        obtain ⟨m', rfl⟩ := Int.eq_ofNat_of_zero_le (show 0 ≤ m by omega)
        simp only [Int.toNat_natCast] at hl ⊢
        obtain ⟨zv, hzv, hzo, hzc⟩ := tzeros_val hzs
        simp only [conc] at hV; cases hV
        have hcz := zeros_conc (hzc e) m' (m' * zs.length) rfl zv.cells (fun _ => rfl)
        refine ⟨Builtin.zeroCells zv.cells m', ?_, zeros_one hzo m', .inl ⟨k, kk, hu, rfl, ?_, zv, hzv, rfl⟩⟩
        · rw [hcz]
          have h1 := concL_length (hzc e)
          simp only [Array.length_toList] at h1
          simp [Builtin.zeroCells, h1]
        · unfold most at hm; omega
    · cases ht
  · rename_i e' hu
    split at ht
    · rename_i n' cs hsl hcs
      cases ht
      obtain ⟨cells, c1, c2, c3, c4, c5⟩ := firstCells_R hr hsl hcs hz hz0 hV
      exact ⟨cells, c1, c2, .inr ⟨_, hu, .inr ⟨e', rfl⟩, c4, c5⟩⟩
    · cases ht
  · rename_i hu
    split at ht
    · rename_i b
      cases ht
      simp only [conc] at hV; cases hV
      refine ⟨b.data.map fun u => .int .u8 u.toNat, ?_, List.all_eq_true.2 (fun x hx => by obtain ⟨u, _, rfl⟩ := List.mem_map.1 hx; rfl), .inr ⟨_, hu, .inl rfl, fun w => by simp [Builtin.lenOf], fun w' _ => ?_⟩⟩
      · refine concL_of_get (by simp) fun i x hi => ?_
        rw [List.getElem?_map] at hi
        obtain ⟨u, hu, rfl⟩ := Option.map_eq_some_iff.1 hi
        refine ⟨.int .u8 u.toNat, rfl, ?_⟩
        simp only [Array.toList_map, List.getElem?_map, hu, Option.map_some]
      · simp [Builtin.firstCells]
    · cases ht
  · cases ht

theorem appendA_inv {h h' : Heap} {sv r : AV} {n : Nat} {new : List AV} (hh : appendA P h el sv n new = some (r, h')) :
    ∃ z zs, tsize P el = some z ∧ tzeros P el = some zs ∧ z ≠ 0 ∧ new.length = n * z ∧ (∃ i, P.info? el = some i ∧ i.bytes ≤ 2 ^ 12) ∧ appendE h z sv n new = some (r, h') := by
  unfold appendA at hh
  split at hh
  · rename_i z zs hz hzs
    split at hh
    · cases hh
    · rename_i hno
      have n1 : z ≠ 0 := fun h => hno (.inl h)
      have n2 : new.length = n * z := Decidable.byContradiction fun h => hno (.inr (.inl h))
      have n3 : ¬ ((P.info? el).map (·.bytes)).getD most > 2 ^ 12 := fun h => hno (.inr (.inr h))
      refine ⟨z, zs, hz, hzs, n1, n2, ?_, hh⟩
      unfold tsize at hz
      cases hi : P.info? el with
      | none => rw [hi] at hz; cases hz
      | some i => rw [hi] at n3; simp only [Option.map_some, Option.getD_some] at n3; exact ⟨i, rfl, by omega⟩
  · cases hh

theorem opAppend_R (k : SR E e le s a w) (h0 : ts[0]? = some t0) (h1 : ts[1]? = some t1) {sv x : AV} {V : Value} (hV : conc e sv = some V) (hX : conc e x = some X) {r : AV × Heap} (h : opAppend P s.h t0 t1 sv x = some r) :
    ∃ v w' e', (Builtin.append_ ts ty #[V, X]).run P w = .ok v w' ∧ SR E e' le { s with h := r.2 } a w' ∧ conc e' r.1 = some v := by
  unfold opAppend at h
  obtain ⟨el, hel, h⟩ := bind_inv h
  obtain ⟨⟨n, new⟩, ht, h⟩ := bind_inv h
  obtain ⟨z, zs, hz, hzs, hz0, hl, hi, h⟩ := appendA_inv (r := r.1) (h' := r.2) h
  obtain ⟨cells, c1, c2, c3⟩ := tailA_R k.heap ht hz hz0 hl hX
  exact appendE_R k h0 h1 (telem_under hel) hz hi hz0 c3 hzs c1 c2 hl hV h

/-- append, as the evaluator does it. -/
theorem opAppendT_R (k : SR E e le s a w) (h0 : ts[0]? = some t0) (h1 : ts[1]? = some t1) {x y : Tm} {V : Value} (hV : TmR e le x V) (hX : TmR e le y X) {t : Tm} {s' : St} (h : opAppendT P t0 t1 s x y (fun t s => some (Out.ok t s)) = some (.ok t s')) :
    ∃ v w' e', (Builtin.append_ ts ty #[V, X]).run P w = .ok v w' ∧ SR E e' le s' a w' ∧ TmR e' le t v := by
  unfold opAppendT at h
  split at h
  · rename_i sv
    split at h
    · rename_i xv
      obtain ⟨r, hr, h⟩ := bind_inv h
      cases h
      exact opAppend_R k h0 h1 hV hX hr
    · rename_i l n
      split at h
      · rename_i cs el el' hl hel hel'
        obtain ⟨r, hr, h⟩ := bind_inv h
        cases h
        obtain ⟨z, zs, hz, hzs, hz0, hlen, hi, hr⟩ := appendA_inv (r := r.1) (h' := r.2) hr
        obtain ⟨β, hβ, rfl⟩ := hX
        obtain ⟨β', m1, m2, _⟩ := k.loc l cs hl
        rw [hβ] at m1; cases m1
        have hst : take? cs 0 cs.length = some cs := by simp [take?_eq]
        obtain ⟨vs, c1, c2, c3, c4⟩ := CellsAt.stretch m2 hst
        refine appendE_R k h0 h1 (telem_under hel) hz hi hz0 (cells := vs.toArray) (.inr ⟨_, telem_under hel', .inr ⟨_, rfl⟩, fun w => by simp [Builtin.lenOf], fun w' hw' => ?_⟩) hzs (by simpa using c1) c3 hlen hV hr
        have := run_loadCells (P := P) (w := w') (β := β) (o := 0) (vs := vs) (fun j v hj => by have := c4 j v hj; simpa [World.cell?, hw'] using this)
        simp only [Builtin.firstCells]
        rw [← hlen, ← c2]
        simpa using this
      · cases h
    · cases h
  · rename_i l n
    split at h
    · rename_i cs z agg zs hl hrow
      split at h
      · rename_i xv hb
        obtain ⟨r, hr, h⟩ := bind_inv h
        cases h
        obtain ⟨β, hβ, rfl⟩ := hV
        have hlen := Nat.eq_of_beq_eq_true hb
        have k1 := k.promote (κ := n) (z := z) hl hβ hlen.symm
        have hle := Env.le_upd (s := ⟨β, 0, n, z⟩) (k.heap.new s.h.next (Nat.le_refl _)).1
        exact opAppend_R (s := { s with h := s.h.push (.cells cs z), lc := s.lc.set l none }) k1 h0 h1 (by simp [conc, Env.upd]) (conc_mono hle _ _ hX) hr
      · cases h
    · cases h
  · cases h
end
end Go.Proofs.YtahbihcbidkbaaaGreat.Ev

/-
  The built-in functions that make no call.
-/
set_option linter.unusedVariables false
namespace Go.Proofs.YtahbihcbidkbaaaGreat.Ev
open Go

section
variable {P : Program} {E : Start} {e : Env} {le : Nat → Option Nat} {s s' : St} {a : Act} {w : World} {ts : Array TypeId} {ty : TypeId}

theorem lenA_R {t : TypeId} {x r : AV} (h : lenA P t x = some r) (h0 : ts[0]? = some t) {V : Value} (hV : conc e x = some V) : ∃ v, (Builtin.len_ ts ty #[V]).run P w = .ok v w ∧ conc e r = some v := by
  unfold lenA at h
  split at h
  · rename_i hu
    split at h
    · cases h; simp only [conc] at hV; cases hV
      exact ⟨_, by simp [Builtin.len_, h0, run_underlying' hu]; rfl, rfl⟩
    · cases h
  · rename_i el hu
    split at h
    · rename_i n hn
      cases h
      cases x with
      | nilSlice => simp [sliceLen] at hn; subst hn; simp only [conc] at hV; cases hV; exact ⟨_, by simp [Builtin.len_, h0, run_underlying' hu]; rfl, rfl⟩
      | slice b off poff len cap =>
        simp [sliceLen] at hn; subst hn
        obtain ⟨ad, n, c, rfl⟩ := conc_slice_some hV
        have : n = len := by
          simp only [conc] at hV
          split at hV
          · split at hV <;> split at hV <;> cases hV <;> rfl
          · cases hV
        subst this
        exact ⟨_, by simp [Builtin.len_, h0, run_underlying' hu]; rfl, rfl⟩
      | _ => simp [sliceLen] at hn
    · cases h
  · rename_i n el hu
    cases h
    exact ⟨_, by simp [Builtin.len_, h0, run_underlying' hu]; rfl, rfl⟩
  · cases h

theorem capA_R {t : TypeId} {x r : AV} (h : capA P t x = some r) (h0 : ts[0]? = some t) {V : Value} (hV : conc e x = some V) : ∃ v, (Builtin.cap_ ts ty #[V]).run P w = .ok v w ∧ conc e r = some v := by
  unfold capA at h
  split at h
  · rename_i el hu
    split at h
    · cases h; simp only [conc] at hV; cases hV; exact ⟨_, by simp [Builtin.cap_, h0, run_underlying' hu]; rfl, rfl⟩
    · rename_i b off poff len c
      cases h
      simp only [conc] at hV
      split at hV
      · split at hV
        · cases hV
          exact ⟨_, by simp [Builtin.cap_, h0, run_underlying' hu]; rfl, rfl⟩
        · cases hV
      · cases hV
    · cases h
  · rename_i n el hu
    cases h
    exact ⟨_, by simp [Builtin.cap_, h0, run_underlying' hu]; rfl, rfl⟩
  · cases h

theorem fold2_R {f : AV → AV → Option AV} {g : Value → Value → Sem Value} (hfg : ∀ x y r, f x y = some r → ∀ u v, conc e x = some u → conc e y = some v → ∃ q, (g u v).run P w = .ok q w ∧ conc e r = some q) :
    ∀ (ys : List AV) (x r : AV) (vs : List Value) (u : Value), fold2 f x ys = some r → conc e x = some u → concL e ys = some vs → ∃ q, (vs.foldlM g u).run P w = .ok q w ∧ conc e r = some q
  | [], x, r, vs, u, h, hx, hv => by cases h; cases hv; exact ⟨u, by simp, hx⟩
  | y :: ys, x, r, vs, u, h, hx, hv => by
    simp only [fold2] at h
    obtain ⟨z, hz, h⟩ := bind_inv h
    obtain ⟨v, vs', h1, h2, rfl⟩ := concL_cons.1 hv
    obtain ⟨q, q1, q2⟩ := hfg _ _ _ hz _ _ hx h1
    obtain ⟨q', r1, r2⟩ := fold2_R hfg ys z r vs' q h q2 h2
    exact ⟨q', by simp [q1, r1], r2⟩

theorem min2_R (x y r : AV) (h : Ev.min2 x y = some r) (u v : Value) (hx : conc e x = some u) (hy : conc e y = some v) : ∃ q, (Builtin.min2 u v).run P w = .ok q w ∧ conc e r = some q := by
  unfold Ev.min2 at h
  split at h
  · split at h
    · cases h
      simp only [conc] at hx hy; cases hx; cases hy
      exact ⟨_, by simp [Builtin.min2], rfl⟩
    · cases h
  · cases h
theorem max2_R (x y r : AV) (h : Ev.max2 x y = some r) (u v : Value) (hx : conc e x = some u) (hy : conc e y = some v) : ∃ q, (Builtin.max2 u v).run P w = .ok q w ∧ conc e r = some q := by
  unfold Ev.max2 at h
  split at h
  · split at h
    · cases h
      simp only [conc] at hx hy; cases hx; cases hy
      exact ⟨_, by simp [Builtin.max2], rfl⟩
    · cases h
  · cases h

theorem take_all {cs xs : List AV} {off n : Nat} (h : take? cs off n = some xs) (ho : cs.all one = true) : xs.all one = true := by
  rw [(take_drop_get h).1]; exact all_sub ho _ _

theorem take_take {cs xs ys : List AV} {off m n : Nat} (h : take? cs off m = some xs) (h' : take? xs 0 n = some ys) : take? cs off n = some ys := by
  obtain ⟨rfl, h1, h2⟩ := take_drop_get h
  obtain ⟨rfl, h3, h4⟩ := take_drop_get h'
  rw [take?_eq]
  rw [if_pos (by omega)]
  simp only [List.drop_zero, List.take_take]
  rw [Nat.min_eq_left (by omega)]

/-- The first elements of a slice. -/
theorem firstFew_R {h : Heap} (hr : HR e h w) {sv : AV} {m n z : Nat} {el : TypeId} (hl : sliceLen sv = some m) {cs new : List AV} (hc : cellsOf P h el sv = some cs) (hz : tsize P el = some z) (hz0 : z ≠ 0) (hn : take? cs 0 (n * z) = some new) (hnm : n ≤ m)
    {V : Value} (hV : conc e sv = some V) :
    ∃ cells, concL e new = some cells.toList ∧ new.all one = true ∧ cells.size = n * z ∧ (Builtin.lenOf V).run P w = .ok m w ∧ (Builtin.firstCells z n V).run P w = .ok cells w := by
  cases sv with
  | nilSlice =>
    simp only [sliceLen] at hl; cases hl
    simp only [cellsOf] at hc; cases hc
    simp only [conc] at hV; cases hV
    have : n = 0 := by omega
    subst this
    simp [take?_eq] at hn
    subst hn
    exact ⟨#[], rfl, rfl, by simp, by simp [Builtin.lenOf], by simp [Builtin.firstCells]⟩
  | slice b off poff len cap =>
    simp only [sliceLen] at hl; cases hl
    simp only [cellsOf, Option.bind_eq_bind, hz, Option.bind_some] at hc
    obtain ⟨⟨all, z2⟩, h1, hc⟩ := bind_inv hc
    have hg := Heap.cells_iff h1
    have ht := take_take hc hn
    obtain ⟨ad, q, c, rfl⟩ := conc_slice_some hV
    obtain ⟨sp, hsp⟩ : ∃ sp, e b = some sp := by
      simp only [conc] at hV
      split at hV
      · rename_i sp hs; exact ⟨sp, hs⟩
      · cases hV
    have hq : q = m := by
      simp only [conc, hsp] at hV
      split at hV <;> split at hV <;> cases hV <;> rfl
    subst hq
    obtain ⟨hz2, hcells⟩ := hr.blk b sp _ hsp hg
    obtain ⟨vs, c1, c2, c3, c4⟩ := CellsAt.stretch hcells ht
    refine ⟨vs.toArray, by simpa using c1, c3, by simpa using c2, by simp [Builtin.lenOf], ?_⟩
    by_cases l0 : n = 0
    · subst l0
      have : vs = [] := List.length_eq_zero_iff.1 (by omega)
      subst this
      simp [Builtin.firstCells, loadCells, loadCellsFrom]
    · obtain ⟨sp', c', hsp', he⟩ := conc_slice_lies hV (by omega)
      rw [hsp] at hsp'; cases hsp'
      cases he
      have := run_loadCells (P := P) (w := w) (β := sp.β) (o := sp.γ + off) (vs := vs) c4
      rw [c2] at this
      simp [Builtin.firstCells, this]
  | _ => simp [sliceLen] at hl

/-- Writing a stretch of a slice's block. -/
theorem wr_R (k : SR E e le s a w) {b off : Nat} {new : List AV} {h' : Heap} (h : s.h.wr b off new = some h') {sp : Spot} (hsp : e b = some sp) {vs : List Value} (hn : concL e new = some vs) (ho : new.all one = true) :
    ∃ w', (storeCells ⟨sp.β, sp.γ + off, none⟩ vs 0).run P w = .ok () w' ∧ SR E e le { s with h := h' } a w' := by
  obtain ⟨cs, q, cs', hg, hlay, rfl⟩ := Heap.wr_of h
  obtain ⟨hz, hcells⟩ := k.heap.blk b sp _ hsp hg
  obtain ⟨w', obj, r1, r2, r3⟩ := CellsAt.write (P := P) hcells hlay hn ho
  exact ⟨w', r1, k.wr hsp hg trivial r2 ⟨hz, r3⟩⟩

theorem opCopy_R (k : SR E e le s a w) {t : TypeId} (h0 : ts[0]? = some t) {d x : AV} {D X : Value} (hD : conc e d = some D) (hX : conc e x = some X) {r : AV × Heap} (h : opCopy P s.h t d x = some r) :
    ∃ v w', (Builtin.copy_ ts ty #[D, X]).run P w = .ok v w' ∧ SR E e le { s with h := r.2 } a w' ∧ conc e r.1 = some v := by
  unfold opCopy at h
  obtain ⟨el, hel, h⟩ := bind_inv h
  obtain ⟨z, hz, h⟩ := bind_inv h
  have hu := telem_under hel
  cases z with
  | zero => cases h
  | succ z =>
    simp only at h
    obtain ⟨m, hm, h⟩ := bind_inv h
    obtain ⟨q, hq, h⟩ := bind_inv h
    obtain ⟨cs, hcs, h⟩ := bind_inv h
    obtain ⟨new, hnew, h⟩ := bind_inv h
    obtain ⟨cells, c1, c2, c3, c4, c5⟩ := firstFew_R k.heap hm hcs hz (by omega) hnew (Nat.min_le_left _ _) hX
    have hmin : m.min q = min m q := rfl
    cases d with
    | nilSlice =>
      simp only [sliceLen] at hq; cases hq
      simp only [conc] at hD; cases hD
      simp only [Nat.min_zero] at h c5
      cases h
      refine ⟨goInt 0, w, ?_, k, rfl⟩
      simp [Builtin.copy_, h0, run_underlying' hu, c4, run_sizeOf' hz, c5]
    | slice b off poff len cap =>
      simp only [sliceLen] at hq; cases hq
      obtain ⟨ad, q', c, rfl⟩ := conc_slice_some hD
      obtain ⟨sp, hsp⟩ : ∃ sp, e b = some sp := by
        simp only [conc] at hD
        split at hD
        · rename_i sp hs; exact ⟨sp, hs⟩
        · cases hD
      have hqq : q' = q := by
        simp only [conc, hsp] at hD
        split at hD <;> split at hD <;> cases hD <;> rfl
      subst hqq
      split at h
      · rename_i h00
        cases h
        have hc0 : cells = #[] := by
          rw [h00] at c3
          exact Array.eq_empty_of_size_eq_zero (by simpa using c3)
        refine ⟨goInt 0, w, ?_, k, rfl⟩
        rw [h00] at c5
        subst hc0
        simp [Builtin.copy_, h0, run_underlying' hu, c4, run_sizeOf' hz, hmin, h00, c5, storeCells]
      · rename_i n hn
        simp only at h
        obtain ⟨h', hw, h⟩ := bind_inv h
        cases h
        obtain ⟨sp', c', hsp', he⟩ := conc_slice_lies hD (by omega)
        rw [hsp] at hsp'; cases hsp'
        cases he
        obtain ⟨w', r1, r2⟩ := wr_R (P := P) k hw hsp c1 c2
        refine ⟨goInt (n + 1 : Nat), w', ?_, r2, rfl⟩
        rw [hn] at c5
        simp [Builtin.copy_, h0, run_underlying' hu, c4, run_sizeOf' hz, hmin, hn, c5, r1]
    | _ => simp [sliceLen] at hq

theorem opClear_R (k : SR E e le s a w) {t : TypeId} (h0 : ts[0]? = some t) {x : AV} {X : Value} (hX : conc e x = some X) {h' : Heap} (h : opClear P s.h t x = some h') :
    ∃ w', (Builtin.clear_ ts ty #[X]).run P w = .ok (.tuple #[]) w' ∧ SR E e le { s with h := h' } a w' := by
  unfold opClear at h
  obtain ⟨el, hel, h⟩ := bind_inv h
  have hu := telem_under hel
  cases x with
  | nilSlice =>
    simp only at h; cases h
    simp only [conc] at hX; cases hX
    exact ⟨w, by simp [Builtin.clear_, h0, run_underlying' hu], k⟩
  | slice b off poff len cap =>
    obtain ⟨ad, q', c, rfl⟩ := conc_slice_some hX
    obtain ⟨sp, hsp⟩ : ∃ sp, e b = some sp := by
      simp only [conc] at hX
      split at hX
      · rename_i sp hs; exact ⟨sp, hs⟩
      · cases hX
    have hqq : q' = len := by
      simp only [conc, hsp] at hX
      split at hX <;> split at hX <;> cases hX <;> rfl
    subst hqq
    cases q' with
    | zero =>
      simp only at h; cases h
      exact ⟨w, by simp [Builtin.clear_, h0, run_underlying' hu], k⟩
    | succ n =>
      simp only at h
      obtain ⟨z, hz, h⟩ := bind_inv h
      obtain ⟨zv, hzv, hzo, hzc⟩ := tzeros_val hz
      obtain ⟨sp', c', hsp', he⟩ := conc_slice_lies hX (by omega)
      rw [hsp] at hsp'; cases hsp'
      cases he
      have hcz := zeros_conc (hzc e) (n + 1) ((n + 1) * z.length) rfl zv.cells (fun _ => rfl)
      have h1 := concL_length (hzc e)
      simp only [Array.length_toList] at h1
      obtain ⟨w', r1, r2⟩ := wr_R (P := P) k h hsp hcz (zeros_one hzo _)
      refine ⟨w', ?_, r2⟩
      have e1 : (Builtin.zeroCells zv.cells (n + 1)).toList = ((Array.range ((n + 1) * z.length)).map (zv.cells[· % zv.cells.size]!)).toList := by
        simp [Builtin.zeroCells, h1]
      rw [← e1] at r1
      simp [Builtin.clear_, h0, run_underlying' hu, hzv, r1]
  | _ => simp at h
end
end Go.Proofs.YtahbihcbidkbaaaGreat.Ev

/-
  What an operation keeps.
-/
set_option linter.unusedVariables false
namespace Go.Proofs.YtahbihcbidkbaaaGreat.Ev
open Go

/-- An operation that calls no function's value, throws nothing, defers nothing, recovers nothing. -/
def simpleOp (o : Oper) : Bool :=
  match o.op with
  | .call c => match c.callee with
    | .builtin .recover => false
    | .builtin .panic => false
    | .builtin _ => true
    | _ => false
  | .panic _ => false
  | .defer _ => false
  | _ => true

def Kept (s : St) (x : Out) : Prop := ∃ t s', x = .ok t s' ∧ s'.rc = s.rc ∧ s'.df = s.df

theorem Kept.ok {s : St} {t : Tm} {s' : St} (h1 : s'.rc = s.rc) (h2 : s'.df = s.df) : Kept s (.ok t s') := ⟨t, s', rfl, h1, h2⟩

section
variable {cx : Ctx} {fn : FuncId} {F : Fns} {s : St} {x : Out}

theorem kept_newVar {locs : List Tmp} {dst : Option Tmp} {cs : List AV} (h : newVar locs dst s cs (fun t s => some (Out.ok t s)) = some x) : Kept s x := by
  unfold newVar at h
  split at h
  · split at h
    · cases h; exact .ok rfl rfl
    · cases h
  · cases h; exact .ok rfl rfl

theorem kept_getV {a : Option AV} (h : getV a s (fun t s => some (Out.ok t s)) = some x) : Kept s x := by
  obtain ⟨v, _, h⟩ := getV_inv h; cases h; exact .ok rfl rfl

theorem kept_opLoad {agg : Bool} {n : Nat} {a : Tm} (h : opLoad agg n s a (fun t s => some (Out.ok t s)) = some x) : Kept s x := by
  unfold opLoad at h
  split at h
  · split at h
    · obtain ⟨xs, _, h⟩ := bind_inv h
      obtain ⟨v, h, _⟩ := valK_inv h
      cases h; exact .ok rfl rfl
    · cases h
  · obtain ⟨b, off, _, h⟩ := asPtr_inv h
    obtain ⟨xs, _, h⟩ := bind_inv h
    obtain ⟨v, h, _⟩ := valK_inv h
    cases h; exact .ok rfl rfl
  · cases h

theorem kept_opStore {agg : Bool} {n : Nat} {a : Tm} {v : AV} (h : opStore agg n s a v (fun t s => some (Out.ok t s)) = some x) : Kept s x := by
  unfold opStore at h
  split at h
  · split at h
    · obtain ⟨vs, h, _⟩ := cellsK_inv h
      obtain ⟨xs, _, h⟩ := bind_inv h
      obtain ⟨_, h⟩ := spL_inv h
      cases h; exact .ok rfl rfl
    · cases h
  · obtain ⟨b, off, _, h⟩ := asPtr_inv h
    obtain ⟨vs, h, _⟩ := cellsK_inv h
    obtain ⟨xs, _, h⟩ := bind_inv h
    cases h; exact .ok rfl rfl
  · cases h

theorem kept_addT {n : Nat} {a : Tm} (h : addT n a (fun t => some (Out.ok t s)) = some x) : Kept s x := by
  unfold addT at h
  split at h
  · cases h; exact .ok rfl rfl
  · obtain ⟨b, off, _, h⟩ := asPtr_inv h
    cases h; exact .ok rfl rfl
  · cases h

theorem kept_buildK {pl : Nat → Option (Nat × Nat × Bool)} {k : List AV → Option Out} (hk : ∀ cs y, k cs = some y → Kept s y) : ∀ {ps : List (Nat × AV)} {cs : List AV}, buildK pl ps cs k = some x → Kept s x
  | [], cs, h => hk _ _ h
  | (i, v) :: ps, cs, h => by
    simp only [buildK] at h
    split at h
    · obtain ⟨vs, h, _⟩ := cellsK_inv h
      split at h
      · exact kept_buildK hk h
      · cases h
    · cases h

theorem kept_opAppendT {P : Program} {t0 t1 : TypeId} {a b : Tm} (h : opAppendT P t0 t1 s a b (fun t s => some (Out.ok t s)) = some x) : Kept s x := by
  unfold opAppendT at h
  (repeat' split at h) <;> first | (cases h; done) | (obtain ⟨r, _, h⟩ := bind_inv h; cases h; exact .ok rfl rfl)

theorem kept_opBuiltin {P : Program} {b : Builtin} {ts : Array TypeId} {args : List AV} (hb : b ≠ .recover) (hp : b ≠ .panic) {pk : AV → St → Option Out} (h : opBuiltin P s b ts args (fun t s => some (Out.ok t s)) pk = some x) : Kept s x := by
  cases b <;> first | (exact absurd rfl hb) | (exact absurd rfl hp) | skip
  all_goals
    simp only [opBuiltin] at h
    first
      | (cases h; done)
      | ((repeat' split at h) <;> first | (cases h; done) | exact kept_getV h | (obtain ⟨r, _, h⟩ := bind_inv h; cases h; exact .ok rfl rfl))

theorem kept_opConvert {P : Program} {src to : TypeId} {v : AV} (h : opConvert P src to s v (fun t s => some (Out.ok t s)) = some x) : Kept s x := by
  unfold opConvert at h
  (repeat' split at h) <;> first | (cases h; done) | exact kept_getV h | (obtain ⟨r, _, h⟩ := bind_inv h; cases h; exact .ok rfl rfl)

theorem kept_indexAddr {P : Program} {t : TypeId} {a : Tm} {i : Int} (h : opIndexAddr P t a i (fun t => some (Out.ok t s)) = some x) : Kept s x := by
  unfold opIndexAddr at h
  split at h
  · split at h
    · obtain ⟨_, _, h⟩ := inArr_inv h
      exact kept_addT h
    · cases h
  · split at h
    · obtain ⟨b, off, poff, len, cap, _, _, _, h⟩ := elemP_inv h
      cases h; exact .ok rfl rfl
    · cases h
  · cases h

theorem stepOp_kept {o : Oper} (ho : simpleOp o = true) (h : stepOp cx fn F o s = some x) : Kept s x := by
  obtain ⟨dst, op, ty, pos, af, gd⟩ := o
  unfold stepOp at h
  cases op with
  | move y => obtain ⟨_, _, h⟩ := operandK_inv h; cases h; exact .ok rfl rfl
  | assign y => obtain ⟨_, _, h⟩ := operandK_inv h; cases h; exact .ok rfl rfl
  | pick c a b =>
    obtain ⟨_, _, h⟩ := valueK_inv h
    obtain ⟨_, _, h⟩ := operandK_inv h
    obtain ⟨_, _, h⟩ := operandK_inv h
    obtain ⟨q, _, h⟩ := asB_inv h
    cases q <;> (cases h; exact .ok rfl rfl)
  | alloc t =>
    simp only [evalOp] at h
    split at h
    · exact kept_newVar h
    · cases h
  | box t y =>
    simp only [evalOp] at h
    split at h
    · obtain ⟨_, _, h⟩ := valueK_inv h
      obtain ⟨_, h, _⟩ := cellsK_inv h
      exact kept_newVar h
    · cases h
  | build t ps =>
    simp only [evalOp] at h
    split at h
    · exact kept_buildK (fun cs y hy => by cases hy; exact .ok rfl rfl) h
    · cases h
  | buildSlice t n ps =>
    simp only [evalOp] at h
    (repeat' split at h) <;> first | (cases h; done) | exact kept_buildK (fun cs y hy => by cases hy; exact .ok rfl rfl) h | (obtain ⟨r, _, h⟩ := bind_inv h; cases h; exact .ok rfl rfl)
  | load t y =>
    simp only [evalOp] at h
    split at h
    · obtain ⟨_, _, h⟩ := operandK_inv h
      exact kept_opLoad h
    · cases h
  | store t y z =>
    simp only [evalOp] at h
    split at h
    · obtain ⟨_, _, h⟩ := operandK_inv h
      obtain ⟨_, _, h⟩ := valueK_inv h
      exact kept_opStore h
    · cases h
  | nilCheck y =>
    obtain ⟨_, _, h⟩ := operandK_inv h
    split at h
    · obtain ⟨h, _⟩ := notNil_inv h; cases h; exact .ok rfl rfl
    · cases h; exact .ok rfl rfl
    · cases h
  | binOp op t y z u =>
    cases op <;>
    · obtain ⟨_, _, h⟩ := valueK_inv h
      obtain ⟨_, _, h⟩ := valueK_inv h
      exact kept_getV h
  | unOp op t y => obtain ⟨_, _, h⟩ := valueK_inv h; exact kept_getV h
  | convert a b y => obtain ⟨_, _, h⟩ := valueK_inv h; exact kept_opConvert h
  | makeInterface t y =>
    simp only [evalOp] at h
    (repeat' split at h) <;> first | (cases h; done) | (obtain ⟨_, _, h⟩ := valueK_inv h; cases h; exact .ok rfl rfl)
  | makeFunc g a b =>
    cases g with
    | func g =>
      simp only [evalOp] at h
      split at h
      · cases h; exact .ok rfl rfl
      · cases h
    | _ => simp [evalOp] at h
  | makeMap t r =>
    cases r with
    | none => simp only [evalOp] at h; cases h; exact .ok rfl rfl
    | some r => simp [evalOp] at h
  | makeSlice t l c =>
    obtain ⟨_, _, h⟩ := valueK_inv h
    obtain ⟨_, _, h⟩ := valueK_inv h
    obtain ⟨_, _, _, h⟩ := asI_inv h
    obtain ⟨_, _, _, h⟩ := asI_inv h
    obtain ⟨_, _, h⟩ := bind_inv h
    cases h; exact .ok rfl rfl
  | slice t y lo hi mx =>
    obtain ⟨_, _, h⟩ := valueK_inv h
    obtain ⟨_, h, _⟩ := optK_inv h
    obtain ⟨_, h, _⟩ := optK_inv h
    obtain ⟨_, h, _⟩ := optK_inv h
    exact kept_getV h
  | fieldAddr t y f =>
    simp only [evalOp] at h
    split at h
    · obtain ⟨_, _, h⟩ := operandK_inv h
      exact kept_addT h
    · cases h
  | field t y f => obtain ⟨_, _, h⟩ := valueK_inv h; exact kept_getV h
  | indexAddr t y i =>
    obtain ⟨_, _, h⟩ := operandK_inv h
    obtain ⟨_, _, h⟩ := valueK_inv h
    obtain ⟨_, _, _, h⟩ := asI_inv h
    exact kept_indexAddr h
  | index t y i =>
    obtain ⟨_, _, h⟩ := valueK_inv h
    obtain ⟨_, _, h⟩ := valueK_inv h
    exact kept_getV h
  | lookup t y i ok =>
    simp only [evalOp] at h
    split at h
    · obtain ⟨_, _, h⟩ := valueK_inv h
      obtain ⟨_, _, h⟩ := valueK_inv h
      obtain ⟨_, _, h⟩ := asMap_inv h
      obtain ⟨_, _, h⟩ := bind_inv h
      split at h
      · obtain ⟨_, _, _, h⟩ := spT_inv h; cases h; exact .ok rfl rfl
      · cases h; exact .ok rfl rfl
    · cases h
  | mapUpdate t m key y =>
    simp only [evalOp] at h
    split at h
    · obtain ⟨_, _, h⟩ := valueK_inv h
      obtain ⟨_, _, h⟩ := valueK_inv h
      obtain ⟨_, _, h⟩ := valueK_inv h
      obtain ⟨_, _, h⟩ := asMap_inv h
      obtain ⟨_, _, h⟩ := bind_inv h
      cases h; exact .ok rfl rfl
    · cases h
  | typeAssert y t u ok =>
    obtain ⟨_, _, h⟩ := valueK_inv h
    obtain ⟨_, _, h⟩ := bind_inv h
    split at h
    · obtain ⟨_, _, _, h⟩ := spT_inv h; cases h; exact .ok rfl rfl
    · cases h; exact .ok rfl rfl
  | extract y i =>
    obtain ⟨_, _, h⟩ := valueK_inv h
    (repeat' split at h) <;> first | (cases h; done) | (cases h; exact .ok rfl rfl)
  | call c =>
    simp only [evalOp] at h
    split at h
    · obtain ⟨_, _, h⟩ := operandK_inv h
      obtain ⟨_, _, h⟩ := operandK_inv h
      exact kept_opAppendT h
    · simp only [simpleOp] at ho
      unfold opCall at h
      split at h
      · cases h
      · split at h
        · rename_i b hb
          simp only [hb] at ho
          exact kept_opBuiltin (fun hh => by subst hh; simp at ho) (fun hh => by subst hh; simp at ho) h
        · rename_i hb; simp [hb] at ho
        · cases h
  | defer c => simp [simpleOp] at ho
  | panic y => simp [simpleOp] at ho
  | _ => simp [evalOp] at h
end
end Go.Proofs.YtahbihcbidkbaaaGreat.Ev

/-
  Simple operations run.
-/
set_option linter.unusedVariables false
namespace Go.Proofs.YtahbihcbidkbaaaGreat.Ev
open Go

section ops
variable {E : Start} {e : Env} {le : Nat → Option Nat} {s s' : St} {a : Act} {w : World} {t : Tm} {cx : Ctx} {fn : FuncId} {F : Fns}
variable {dst : Option Tmp} {ty : TypeId} {pos : String} {af : Array Edge} {gd : Option (Nat × Bool)}

theorem exec_builtin {P : Program} {c : Call} {b : Builtin} (hb : c.callee = .builtin b) : ∃ cs, (execOp a.eval ⟨dst, .call c, ty, pos, af, gd⟩).run P w = (builtin b c.argTypes ty cs (c.args.map a.eval)).run P w := by
  refine ⟨c.args.map Region.isConst, ?_⟩
  simp only [execOp, resolve, hb]
  rfl

theorem appendOf_inv {c : Call} {t0 t1 : TypeId} {x y : Operand} (h : appendOf c = some (t0, t1, x, y)) : c.callee = .builtin .append ∧ c.argTypes[0]? = some t0 ∧ c.argTypes[1]? = some t1 ∧ c.args = #[x, y] := by
  unfold appendOf at h
  split at h
  · rename_i hb
    split at h
    · rename_i h0 h1 h2
      cases h
      refine ⟨hb, h0, h1, ?_⟩
      rw [← Array.toList_inj]; exact h2
    · cases h
  · cases h

theorem args_eq {c : Call} {vs : List Value} (h : c.args.toList.map a.eval = vs) : c.args.map a.eval = vs.toArray := by
  rw [← Array.toList_inj]; simpa using h

theorem concL_one' {e : Env} {x : AV} {vs : List Value} (h : concL e [x] = some vs) : ∃ v, conc e x = some v ∧ vs = [v] := by
  obtain ⟨v, ws, h1, h2, rfl⟩ := concL_cons.1 h
  cases h2; exact ⟨v, h1, rfl⟩
theorem concL_two {e : Env} {x y : AV} {vs : List Value} (h : concL e [x, y] = some vs) : ∃ v u, conc e x = some v ∧ conc e y = some u ∧ vs = [v, u] := by
  obtain ⟨v, ws, h1, h2, rfl⟩ := concL_cons.1 h
  obtain ⟨u, h3, rfl⟩ := concL_one' h2
  exact ⟨v, u, h1, h3, rfl⟩

theorem runs_call (k : SR E e le s a w) {c : Call} (hs : simpleOp ⟨dst, .call c, ty, pos, af, gd⟩ = true) (h : stepOp cx fn F ⟨dst, .call c, ty, pos, af, gd⟩ s = some (.ok t s')) : Runs cx.P E e le s a w ⟨dst, .call c, ty, pos, af, gd⟩ t s' := by
  simp only [stepOp, evalOp] at h
  split at h
  · rename_i t0 t1 x y hap
    obtain ⟨hb, h0, h1, hargs⟩ := appendOf_inv hap
    obtain ⟨tx, hx, h⟩ := operandK_inv h
    obtain ⟨ty', hy, h⟩ := operandK_inv h
    obtain ⟨v, w', e', r1, r2, r3⟩ := opAppendT_R (P := cx.P) (ty := ty) k h0 h1 (operand_R k hx) (operand_R k hy) h
    refine ⟨.value v, v, w', e', le, ?_, .inl rfl, r2, r3⟩
    obtain ⟨bs, hx⟩ := exec_builtin (P := cx.P) (a := a) (w := w) (dst := dst) (ty := ty) (pos := pos) (af := af) (gd := gd) hb
    rw [hx]
    have : c.args.map a.eval = #[a.eval x, a.eval y] := by rw [hargs]; simp
    rw [this]
    simp [builtin, r1]
  · unfold opCall at h
    split at h
    · cases h
    · rename_i args hargs
      split at h
      · rename_i b hb
        have hc := values_R k hargs
        have fin : ∀ {v : Value} {w' e'}, (∀ bs, (builtin b c.argTypes ty bs (c.args.map a.eval)).run cx.P w = .ok (.value v) w') → SR E e' le s' a w' → TmR e' le t v → Runs cx.P E e le s a w ⟨dst, .call c, ty, pos, af, gd⟩ t s' := by
          intro v w' e' h1 h2 h3
          obtain ⟨bs, hx⟩ := exec_builtin (P := cx.P) (a := a) (w := w) (dst := dst) (ty := ty) (pos := pos) (af := af) (gd := gd) hb
          exact ⟨.value v, v, w', e', le, by rw [hx]; exact h1 bs, .inl rfl, h2, h3⟩
        cases b <;> first | (simp [simpleOp, hb] at hs; done) | skip
        all_goals
          simp only [opBuiltin] at h
        case len =>
          split at h
          · rename_i t0 x h0
            obtain ⟨v, hv, hve⟩ := concL_one' hc
            obtain ⟨r, hr, h⟩ := getV_inv h
            cases h
            obtain ⟨u, r1, r2⟩ := lenA_R (P := cx.P) (w := w) (ty := ty) hr h0 hv
            exact fin (by intro bs; rw [args_eq hve]; simp [builtin, r1]) k r2
          · cases h
        case cap =>
          split at h
          · rename_i t0 x h0
            obtain ⟨v, hv, hve⟩ := concL_one' hc
            obtain ⟨r, hr, h⟩ := getV_inv h
            cases h
            obtain ⟨u, r1, r2⟩ := capA_R (P := cx.P) (w := w) (ty := ty) hr h0 hv
            exact fin (by intro bs; rw [args_eq hve]; simp [builtin, r1]) k r2
          · cases h
        case min =>
          split at h
          · rename_i x xs
            obtain ⟨v, ws, hv, hws, hve⟩ := concL_cons.1 hc
            obtain ⟨r, hr, h⟩ := getV_inv h
            cases h
            obtain ⟨u, r1, r2⟩ := fold2_R (P := cx.P) (w := w) (fun x y r h u v hx hy => min2_R x y r h u v hx hy) xs x r ws v hr hv hws
            exact fin (by intro bs; rw [args_eq hve]; simp [builtin, Builtin.min_, r1]) k r2
          · cases h
        case max =>
          split at h
          · rename_i x xs
            obtain ⟨v, ws, hv, hws, hve⟩ := concL_cons.1 hc
            obtain ⟨r, hr, h⟩ := getV_inv h
            cases h
            obtain ⟨u, r1, r2⟩ := fold2_R (P := cx.P) (w := w) (fun x y r h u v hx hy => max2_R x y r h u v hx hy) xs x r ws v hr hv hws
            exact fin (by intro bs; rw [args_eq hve]; simp [builtin, Builtin.max_, r1]) k r2
          · cases h
        case append =>
          split at h
          · rename_i t0 t1 x y h0 h1
            obtain ⟨v, u, hv, hu, hve⟩ := concL_two hc
            obtain ⟨r, hr, h⟩ := bind_inv h
            cases h
            obtain ⟨q, w', e', r1, r2, r3⟩ := opAppend_R (P := cx.P) (ty := ty) k h0 h1 hv hu hr
            exact fin (by intro bs; rw [args_eq hve]; simp [builtin, r1]) r2 r3
          · cases h
        case copy =>
          split at h
          · rename_i t0 x y h0
            obtain ⟨v, u, hv, hu, hve⟩ := concL_two hc
            obtain ⟨r, hr, h⟩ := bind_inv h
            cases h
            obtain ⟨q, w', r1, r2, r3⟩ := opCopy_R (P := cx.P) (ty := ty) k h0 hv hu hr
            exact fin (by intro bs; rw [args_eq hve]; simp [builtin, r1]) r2 r3
          · cases h
        case clear =>
          split at h
          · rename_i t0 x h0
            obtain ⟨v, hv, hve⟩ := concL_one' hc
            obtain ⟨r, hr, h⟩ := bind_inv h
            cases h
            obtain ⟨w', r1, r2⟩ := opClear_R (P := cx.P) (ty := ty) k h0 hv hr
            exact fin (v := .tuple #[]) (by intro bs; rw [args_eq hve]; simp [builtin, r1]) r2 (by simp [TmR, conc, concL])
          · cases h
        all_goals cases h
      · rename_i hb; simp [simpleOp, hb] at hs
      · cases h

theorem runs_simple (k : SR E e le s a w) {o : Oper} (ho : simpleOp o = true) (h : stepOp cx fn F o s = some (.ok t s')) : Runs cx.P E e le s a w o t s' := by
  obtain ⟨dst, op, ty, pos, af, gd⟩ := o
  cases op with
  | move y => exact runs_move k h
  | assign y => exact runs_assign k h
  | pick c x y => exact runs_pick k h
  | alloc x => exact runs_alloc k h
  | box x y => exact runs_box k h
  | build x ps => exact runs_build k h
  | buildSlice x n ps => exact runs_buildSlice k h
  | load x y => exact runs_load k h
  | store x y z => exact runs_store k h
  | nilCheck y => exact runs_nilCheck k h
  | binOp op x y z u => exact runs_binOp k h
  | unOp op x y => exact runs_unOp k h
  | convert x y z => exact runs_convert k h
  | makeInterface x y => exact runs_makeInterface k h
  | makeFunc g x y => exact runs_makeFunc k h
  | makeMap x y => exact runs_makeMap k h
  | makeSlice x y z => exact runs_makeSlice k h
  | slice x y lo hi mx => exact runs_slice k h
  | fieldAddr x y f => exact runs_fieldAddr k h
  | field x y f => exact runs_field k h
  | indexAddr x y i => exact runs_indexAddr k h
  | index x y i => exact runs_index k h
  | lookup x y i ok => exact runs_lookup k h
  | mapUpdate x m key y => exact runs_mapUpdate k h
  | typeAssert y x u ok => exact runs_typeAssert k h
  | extract y i => exact runs_extract k h
  | call c => exact runs_call k ho h
  | defer c => simp [simpleOp] at ho
  | panic y => simp [simpleOp] at ho
  | _ => simp [stepOp, evalOp] at h
end ops
end Go.Proofs.YtahbihcbidkbaaaGreat.Ev
