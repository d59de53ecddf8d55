import Derived.Test.YtfcaemjklnelhaaGreatDoorYBeg1
set_option linter.all false
namespace Go.Sx.T
open Go Go.Sx Go.Proofs
set_option maxRecDepth 100000
noncomputable def ΓD : Env := inl fns es tab ΓC 40
theorem gD : EnvOk Go.Proofs.Tryz.prog ΓD := EnvOk.inl mixed tab_ok gC fns_ok es 40
theorem begun_run : (callI ΓD false tab Go.Proofs.Tryz.f5 [] []).map (·.1) = some (.at (.raw (.bool true))) := by kernel_rfl
theorem begun_gives : Gives Go.Proofs.Tryz.prog 5 (.at (.raw (.bool true))) := by
  obtain ⟨⟨v, H'⟩, h1, h2⟩ := Option.map_eq_some_iff.1 begun_run
  cases h2
  exact gives_of mixed tab_ok gD Go.Proofs.Tryz.func5 h1 rfl
theorem begun_fn : FnOk Go.Proofs.Tryz.prog 5 := ⟨_, Go.Proofs.Tryz.func5, by kernel_rfl, by kernel_rfl⟩
end Go.Sx.T

