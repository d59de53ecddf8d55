import Derived.Test.YtllgbgponmkijaaGreatDoorYBeg3
set_option linter.all false
namespace Go.Sx.T
open Go Go.Sx Go.Proofs
set_option maxRecDepth 100000
noncomputable def ΓN : Env := inl fns es tab ΓK3 40
theorem gN : EnvOk Go.Proofs.Tryz.prog ΓN := EnvOk.inl mixed tab_ok gK3 fns_ok es 40
theorem none_run : (callI ΓN false tab Go.Proofs.Tryz.f14 [] []).map (·.1) = some (.at (.raw (.bool true))) := by kernel_rfl
theorem none_gives : Gives Go.Proofs.Tryz.prog 14 (.at (.raw (.bool true))) := by
  obtain ⟨⟨v, H'⟩, h1, h2⟩ := Option.map_eq_some_iff.1 none_run
  cases h2
  exact gives_of mixed tab_ok gN Go.Proofs.Tryz.func14 h1 rfl
end Go.Sx.T

