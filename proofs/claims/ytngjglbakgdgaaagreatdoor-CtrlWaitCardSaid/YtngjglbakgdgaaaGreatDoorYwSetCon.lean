import Derived.Test.YtngjglbakgdgaaaGreatDoorYwSetSpec
import Derived.Test.YtngjglbakgdgaaaGreatDoorYwRttCon
set_option linter.all false
namespace Go.Sx.T
open Go Go.Sx Go.Proofs
set_option maxRecDepth 100000

-- ### rset_New: function 92
def rset_New_in : Tm := ⟨[], []⟩
def rset_New_out : Tm := ⟨[.cells 181 [.all 1 2], .row 178 2 [.int .i64, .int .u64]], [(0, .w (.at (.ptr 0 0)))]⟩

def rset_New_Λd : Loops := Loops.none
def rset_New_Λ : Loops := rset_New_Λd 

theorem rset_New_e  : rset_New  = den G31 rset_New_Λ false tab Go.Proofs.Tryz.f92.ntmps (fun fr H => finish tab 0 Go.Proofs.Tryz.f92.results.toList rset_New_out [] fr H some) (fun _ _ _ => none) (fun fr H => finish tab 0 Go.Proofs.Tryz.f92.results.toList rset_New_out [] fr H some) 10000 [.code (fb Go.Proofs.Tryz.f92)] (instFr rset_New_in []) (instH rset_New_in []) := by kernel_rfl
def rset_New_S : List Leaf → Option (List Leaf) := fun ls => un_nil ls (rset_New )
def rset_New_SC : Tld := fun ls k' => un_nil ls (out (rset_New ) k')
theorem rset_New_Se  : rset_New_S [] = rset_New  := by
  unfold rset_New_S
  simp only [un_i_ev, un_b_ev, un_s_ev, un_li_ev, un_lb_ev, un_ls_ev, un_nil_ev]
theorem rset_New_says : Says rset_New_SC rset_New_S := by
  intro β ls' k' r' h'
  unfold rset_New_SC at h'
  obtain ⟨rfl, h'Z⟩ := un_nil_some.1 h'
  obtain ⟨l', a', b'⟩ := out_some.1 h'Z
  exact ⟨l', (rset_New_Se ).trans a', b'⟩
theorem rset_New_c : FnC Go.Proofs.Tryz.prog 92 false 0 0 rset_New_in rset_New_out rset_New_S := by
  refine fn_ok (Λ := rset_New_Λ) mixed tab_ok g31 Go.Proofs.Tryz.func92 (by kernel_rfl) (body := fb Go.Proofs.Tryz.f92) rfl (ts := Go.Proofs.Tryz.f92.results.toList) rfl (cuts := []) (by kernel_rfl) (Nat.le_of_ble_eq_true (by kernel_rfl)) (by kernel_rfl) (rt := .w (.at (.ptr 0 0))) rfl ?_ ?_
  · intro ls' r' h'
    unfold rset_New_S at h'
    obtain ⟨rfl, h'Z⟩ := un_nil_some.1 h'
    exact (rset_New_e ).symm.trans h'Z
  · intro E w0 ws ρ0 hk b hb
    rw [show loopsOf (fb Go.Proofs.Tryz.f92) = [] by kernel_rfl] at hb
    cases hb
noncomputable def G32 : Env := G31.addE 92 0 rset_New_in rset_New_out rset_New_SC
theorem g32 : EnvOk Go.Proofs.Tryz.prog G32 := EnvOk.addE g31 rset_New_c rset_New_says
end Go.Sx.T

