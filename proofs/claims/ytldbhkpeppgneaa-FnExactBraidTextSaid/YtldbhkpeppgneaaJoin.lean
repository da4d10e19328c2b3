/- Facts of this seat's program that every row asks for. -/
import Derived.Test.YtldbhkpeppgneaaRows
import Derived.JoinedOf
import Derived.KernelRfl
namespace Go.Proofs.Ytldbhkpeppgneaa
theorem band {x y : Bool} (h : x = true) (k : y = true) : (x && y) = true := by rw [h, k]; rfl
theorem joinMay : Try.prog.mayEnter = true := by kernel_rfl
theorem joinFinal : (false == Try.prog.liftsFinal) = true := by kernel_rfl
theorem joinMake : (Try.prog.make == some Make.cut) = true := by kernel_rfl
end Go.Proofs.Ytldbhkpeppgneaa
