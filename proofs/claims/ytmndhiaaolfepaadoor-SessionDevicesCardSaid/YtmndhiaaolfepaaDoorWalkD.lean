/- Walks, printed by a program. -/
import Derived.Test.YtmndhiaaolfepaaDoorWalkC
namespace Go.Proofs.YtmndhiaaolfepaaDoor
set_option linter.all false
open Go Go.RowKit
set_option maxRecDepth 100000
theorem held_33 : Tryd.prog.stoodInHeld 33 = false := by kernel_rfl
theorem held_30 : Tryd.prog.stoodInHeld 30 = false := by kernel_rfl
theorem eq_fct (f g : Fct) (w : World) : (Op.equalIn 10000 33 (.agg f.cells) (.agg g.cells)).run Tryd.prog w = .ok (f.same g) w :=
  equal_of Tryd.underlying33 held_33 (eqF_int rfl Tryd.underlying3 rfl rfl (eqF_int rfl Tryd.underlying3 rfl rfl (eqF_int rfl Tryd.underlying3 rfl rfl (eqF_int rfl Tryd.underlying3 rfl rfl (eqF_int rfl Tryd.underlying3 rfl rfl (eqF_int rfl Tryd.underlying3 rfl rfl (eqF_int rfl Tryd.underlying3 rfl rfl (eqF_int rfl Tryd.underlying3 rfl rfl (eqF_int rfl Tryd.underlying3 rfl rfl (eqF_int rfl Tryd.underlying3 rfl rfl (eqF_int rfl Tryd.underlying3 rfl rfl (eqF_int rfl Tryd.underlying3 rfl rfl (eqF_int rfl Tryd.underlying3 rfl rfl (eqF_int rfl Tryd.underlying3 rfl rfl (eqF_int rfl Tryd.underlying3 rfl rfl (eqF_int rfl Tryd.underlying3 rfl rfl (eqF_int rfl Tryd.underlying3 rfl rfl (eqF_str rfl Tryd.underlying9 rfl rfl (eqF_nil)))))))))))))))))))
theorem eq_strm (f g : Strm) (w : World) : (Op.equalIn 10000 30 (.agg f.cells) (.agg g.cells)).run Tryd.prog w = .ok (f.same g) w :=
  equal_of Tryd.underlying30 held_30 (eqF_int rfl Tryd.underlying3 rfl rfl (eqF_int rfl Tryd.underlying3 rfl rfl (eqF_int rfl Tryd.underlying3 rfl rfl (eqF_int rfl Tryd.underlying3 rfl rfl (eqF_int rfl Tryd.underlying3 rfl rfl (eqF_int rfl Tryd.underlying3 rfl rfl (eqF_int rfl Tryd.underlying3 rfl rfl (eqF_int rfl Tryd.underlying3 rfl rfl (eqF_int rfl Tryd.underlying3 rfl rfl (eqF_nil))))))))))
end Go.Proofs.YtmndhiaaolfepaaDoor
