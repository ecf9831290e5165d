/- For every desk the law FnExactDeskOk returns true and leaves its argument as it was. No condition. -/
import Derived.Test.YtakonmnoakgipaaRows
import Derived.Test.YtakonmnoakgipaaVB
import Derived.Test.YtakonmnoakgipaaVC
import Derived.WalkKit
import Derived.ProofKit
import Derived.OpenShut
import Derived.ShutString
import Derived.ChangeOld
import Derived.Below
import Derived.SizedLaws
namespace Go.Proofs.Ytakonmnoakgipaa.fnExactDeskOk
set_option linter.unusedVariables false
theorem own : ownKnob Try.prog.godebug = none := by kernel_rfl
theorem laidOut : laidOutB Try.prog = true := by kernel_rfl
set_option maxRecDepth 100000 in
theorem lifted (os : Os) (started : os.Started) (H : Type) (enc : TypeId × Value → H) :
    ReturnsInHanded {} Try.checked os 5 .any (Rows.fnExactDeskOkSpec.pre6 enc Try.prog Try.f5 Rows.fnExactDeskOkRow.domain false) (Rows.fnExactDeskOkSpec.post enc Try.prog Try.f5 false true false false) :=
  Go.Vs.lift1 (C := Try.checked) (tb := 4) Go.Vs.hL own started (by kernel_rfl) Try.func5
    (ChangeSpec.witness6 (enc := enc) (C := Try.checked) false ⟨#[], #[.agg #[.slice none 0 0, .slice none 0 0, .slice none 0 0]], []⟩ 8 (by kernel_rfl) (by kernel_rfl) (by kernel_rfl) (by kernel_rfl))
    rfl rfl Try.underlying4 rfl (fun _ => rfl) rfl rfl laidOut (by kernel_rfl) (of_decide_eq_true (by kernel_rfl))
    (fun x0 => Go.Vs.c_laws_FnExactDeskOk x0 _)
theorem over : Rows.fnExactDeskOkRow.holds Try.pinned (OpenSpec.ofChange Rows.fnExactDeskOkSpec) :=
  OpenClaim.holds_of_wide 5 Try.f5 rfl rfl rfl rfl rfl rfl rfl ⟨rfl, rfl, rfl, rfl, rfl⟩ rfl rfl rfl rfl rfl (by kernel_rfl) Try.func5 (by kernel_rfl)
    (of_decide_eq_true (by kernel_rfl)) (by unfold Func.isWrapper; first | (rw [if_pos (by decide +kernel)]; kernel_rfl) | (rw [if_neg (by decide +kernel)]; exact ⟨rfl, rfl⟩))
    (fun os started H enc _ => lifted os started H enc)
end Go.Proofs.Ytakonmnoakgipaa.fnExactDeskOk
namespace Go.Proofs.Ytakonmnoakgipaa
/-- The statement holds. -/
theorem fnExactDeskOk_holds : Rows.FnExactDeskOkSaid := fnExactDeskOk.over
end Go.Proofs.Ytakonmnoakgipaa

