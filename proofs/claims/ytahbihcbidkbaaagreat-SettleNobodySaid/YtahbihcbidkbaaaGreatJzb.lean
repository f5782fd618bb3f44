/-
  SettleNobody: the closed run, by the kernel.
-/
import Derived.Test.YtahbihcbidkbaaaGreatJza
set_option maxRecDepth 100000
namespace Go.Proofs.YtahbihcbidkbaaaGreat.Ev
open Go
theorem chk_ok : chk 2990 = true := by kernel_rfl
end Go.Proofs.YtahbihcbidkbaaaGreat.Ev
