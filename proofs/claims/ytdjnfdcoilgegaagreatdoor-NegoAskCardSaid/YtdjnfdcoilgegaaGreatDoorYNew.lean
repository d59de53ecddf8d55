import Derived.Test.YtdjnfdcoilgegaaGreatDoorYNewSpec
import Derived.Test.YtdjnfdcoilgegaaGreatDoorYBeg3
set_option linter.all false
namespace Go.Sx.T
open Go Go.Sx Go.Proofs
set_option maxRecDepth 100000
def nego_New_in : Tm := ⟨[], [(0, .w (.at (.bool)))]⟩
def nego_New_out : Tm := ⟨[.cells 102 [.bool, .map 1, .map 2, .map 3, .map 4, .all 5 2], .map .i64 (.str), .map .i64 (.str), .map .i64 (.str), .map .i64 (.str), .row 49 2 [.int .i64, .str]], [(0, .w (.at (.ptr 0 0)))]⟩
noncomputable def nego_New_Λ : Loops := unrollL ΓI2 false tab Go.Proofs.Tryz.f16.ntmps 5000
theorem nego_New_e (server : Bool) : nego_New server = den ΓI2 nego_New_Λ false tab Go.Proofs.Tryz.f16.ntmps (fun fr H => finish tab 0 Go.Proofs.Tryz.f16.results.toList nego_New_out [] fr H some) (fun _ _ _ => none) (fun fr H => finish tab 0 Go.Proofs.Tryz.f16.results.toList nego_New_out [] fr H some) 10000 [.code (fb Go.Proofs.Tryz.f16)] (instFr nego_New_in [.b server]) (instH nego_New_in [.b server]) := by cases server <;> kernel_rfl
def nego_New_S : List Leaf → Option (List Leaf) := fun ls => un_b ls fun server rr => un_nil rr (nego_New server)
def nego_New_SC : Tld := fun ls k' => un_b ls fun server rr => un_nil rr (out (nego_New server) k')
theorem nego_New_Se (server : Bool) : nego_New_S [.b server] = nego_New server := by
  unfold nego_New_S
  simp only [un_b_ev, un_nil_ev]
theorem nego_New_says : Says nego_New_SC nego_New_S := by
  intro β ls' k' r' h'
  unfold nego_New_SC at h'
  obtain ⟨r, l'1, rfl, h'1⟩ := un_b_some.1 h'
  obtain ⟨rfl, h'Z⟩ := un_nil_some.1 h'1
  obtain ⟨l', a', b'⟩ := out_some.1 h'Z
  exact ⟨l', (nego_New_Se r).trans a', b'⟩
theorem nego_New_c : FnC Go.Proofs.Tryz.prog 16 false 1 0 nego_New_in nego_New_out nego_New_S := by
  refine fn_ok (Λ := nego_New_Λ) mixed tab_ok gI2 Go.Proofs.Tryz.func16 (by kernel_rfl) (body := fb Go.Proofs.Tryz.f16) rfl (ts := Go.Proofs.Tryz.f16.results.toList) rfl (cuts := []) (by kernel_rfl) (Nat.le_of_ble_eq_true (by kernel_rfl)) (by kernel_rfl) (rt := .w (.at (.ptr 0 0))) rfl ?_ ?_
  · intro ls' r' h'
    unfold nego_New_S at h'
    obtain ⟨r, l'1, rfl, h'1⟩ := un_b_some.1 h'
    obtain ⟨rfl, h'Z⟩ := un_nil_some.1 h'1
    exact (nego_New_e r).symm.trans h'Z
  · intro E w0 ws ρ0 hk b hb
    exact unroll_ok mixed tab_ok gI2 Go.Proofs.Tryz.func16 5000 b
end Go.Sx.T

