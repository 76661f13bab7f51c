/-
  The program's own setting: no knob of the runtime is turned.
-/
import Derived.Test.YtdpdahpkdimopaaGreatRows
import Derived.KernelRfl
namespace Go.Proofs.YtdpdahpkdimopaaGreat
theorem ownT : ownKnob Tryz.prog.godebug = none := by kernel_rfl
end Go.Proofs.YtdpdahpkdimopaaGreat
