import Derived.Test.YtnkoojgdbnhhnaaGreatDoorAxE
import Derived.Test.YtnkoojgdbnhhnaaGreatDoorProg
set_option maxRecDepth 100000
namespace Go.Ax
open Go
noncomputable def CC : Cfg := { P := Go.Proofs.Tryz.prog, gl := fun _ => false, esc := 191 }
theorem named_all : (CC.P.funcs.toList.all fun fn => fn.body.isNone || !(fn.name == "runtime.NumGoroutine")) = true := by decide +kernel
theorem mixed_ok : CC.P.follows .mixedOrders = true := by decide +kernel
theorem esc_fn : ∃ fn, CC.P.funcs[191]? = some fn ∧ fn.body = none ∧ (fn.name == "runtime.NumGoroutine") = false ∧ Extern.findNext fn = none ∧ Extern.find fn = some Extern.AbiNoEscape.same :=
  ⟨_, rfl, rfl, by decide +kernel, by kernel_rfl, by kernel_rfl⟩
theorem good : Good CC where
  mixed := mixed_ok
  named := by
    intro k fn hk hb
    have hm : fn ∈ CC.P.funcs.toList := by
      rw [Array.mem_toList_iff]; exact Array.mem_of_getElem? hk
    have := List.all_eq_true.1 named_all fn hm
    cases hbb : fn.body with
    | none => rw [hbb] at hb; cases hb
    | some c => rw [hbb] at this; simpa using this
  esc := by
    intro v w
    obtain ⟨fn, h1, h2, h3, h4, h5⟩ := esc_fn
    have h3' : ¬ fn.name = "runtime.NumGoroutine" := by simpa using h3
    have h1' : CC.P.funcs[CC.esc]? = some fn := h1
    simp only [callFunc, Sem.run_bind, run_program, Result.andThen_ok, h1', h3, h2, Bool.false_eq_true, if_false, Option.isNone_none, if_true, h4, h5]
    rfl
end Go.Ax
