import Derived.Test.YtdjnfdcoilgegaaGreatDoorYBeg1
set_option linter.all false
namespace Go.Sx.T
open Go Go.Sx Go.Proofs
set_option maxRecDepth 100000
noncomputable def ΓI1 : Env := inl fns es tab ΓK1 40
theorem gI1 : EnvOk Go.Proofs.Tryz.prog ΓI1 := EnvOk.inl mixed tab_ok gK1 fns_ok es 40
theorem beg_run1 : (callI ΓI1 false tab Go.Proofs.Tryz.f62 [] []).map (·.1) = some (.at (.raw (.bool true))) := by kernel_rfl
theorem beg_gives1 : Gives Go.Proofs.Tryz.prog 62 (.at (.raw (.bool true))) := by
  obtain ⟨⟨v, H'⟩, h1, h2⟩ := Option.map_eq_some_iff.1 beg_run1
  cases h2
  exact gives_of mixed tab_ok gI1 Go.Proofs.Tryz.func62 h1 rfl
theorem beg_fn1 : FnOk Go.Proofs.Tryz.prog 62 := ⟨_, Go.Proofs.Tryz.func62, by kernel_rfl, by kernel_rfl⟩
noncomputable def ΓK2 : Env := ΓK1.addK 62 (.at (.raw (.bool true)))
theorem gK2 : EnvOk Go.Proofs.Tryz.prog ΓK2 := EnvOk.addK gK1 beg_fn1 rfl beg_gives1
end Go.Sx.T

