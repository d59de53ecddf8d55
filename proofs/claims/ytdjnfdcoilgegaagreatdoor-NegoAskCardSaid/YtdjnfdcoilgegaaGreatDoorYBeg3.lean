import Derived.Test.YtdjnfdcoilgegaaGreatDoorYBeg2
set_option linter.all false
namespace Go.Sx.T
open Go Go.Sx Go.Proofs
set_option maxRecDepth 100000
noncomputable def ΓI2 : Env := inl fns es tab ΓK2 40
theorem gI2 : EnvOk Go.Proofs.Tryz.prog ΓI2 := EnvOk.inl mixed tab_ok gK2 fns_ok es 40
theorem beg_run2 : (callI ΓI2 false tab Go.Proofs.Tryz.f9 [] []).map (·.1) = some (.at (.raw (.bool true))) := by kernel_rfl
theorem beg_gives2 : Gives Go.Proofs.Tryz.prog 9 (.at (.raw (.bool true))) := by
  obtain ⟨⟨v, H'⟩, h1, h2⟩ := Option.map_eq_some_iff.1 beg_run2
  cases h2
  exact gives_of mixed tab_ok gI2 Go.Proofs.Tryz.func9 h1 rfl
theorem beg_fn2 : FnOk Go.Proofs.Tryz.prog 9 := ⟨_, Go.Proofs.Tryz.func9, by kernel_rfl, by kernel_rfl⟩
noncomputable def ΓK3 : Env := ΓK2.addK 9 (.at (.raw (.bool true)))
theorem gK3 : EnvOk Go.Proofs.Tryz.prog ΓK3 := EnvOk.addK gK2 beg_fn2 rfl beg_gives2
end Go.Sx.T

