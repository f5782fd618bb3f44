/-
  SettleNobody: the walk.
-/
import Derived.Test.YtahbihcbidkbaaaGreatJy
import Derived.Test.YtahbihcbidkbaaaGreatJzb
set_option maxRecDepth 100000
namespace Go.Proofs.YtahbihcbidkbaaaGreat.Ev
open Go

theorem walk3 (a0 : Int) (w : World) : Calls Tryz.prog 3 #[.int .i64 a0] w fun e w' => e = .returned (.bool true) ∧ Rest w w' := by
  obtain ⟨h', rc', hr⟩ := run3 2990 chk_ok a0
  have hb : Tryz.f3.body.isSome = true := by rfl
  have hs := eval_sound cx_ok (f := 3) (fn := Tryz.f3) Tryz.func3 hb hr (HR_empty w) (vs := [.int .i64 a0]) rfl
  refine Calls.mono hs fun e w' h => ?_
  obtain ⟨e', t, _, hf⟩ := h
  cases e with
  | returned V =>
    have hv : conc e' (.bool true) = some V := hf
    have : conc e' (.bool true) = some (.bool true) := rfl
    rw [this] at hv
    cases hv
    exact ⟨rfl, rest_of t⟩
  | _ => exact hf.elim
end Go.Proofs.YtahbihcbidkbaaaGreat.Ev
