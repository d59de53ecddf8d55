import Derived.Test.YtabdgalicaifhaaGreatDoorYGFSpec
import Derived.Test.YtabdgalicaifhaaGreatDoorYGotCon
set_option linter.all false
namespace Go.Sx.T
open Go Go.Sx Go.Proofs
set_option maxRecDepth 100000

-- ### GotFar: function 12
def GotFar_in : Tm := ⟨[], [(0, .w (.at (.int .u64))), (1, .w (.at (.int .i64)))]⟩
def GotFar_out : Tm := ⟨[], [(0, .w (.at (.bool)))]⟩

def GotFar_Λd : Loops := Loops.none
def GotFar_Λ : Loops := GotFar_Λd 

theorem GotFar_e (first : Int) (far : Int) : GotFar first far = den G52 GotFar_Λ false tab Go.Proofs.Tryz.f12.ntmps (fun fr H => finish tab 0 Go.Proofs.Tryz.f12.results.toList GotFar_out [] fr H some) (fun _ _ _ => none) (fun fr H => finish tab 0 Go.Proofs.Tryz.f12.results.toList GotFar_out [] fr H some) 10000 [.code (fb Go.Proofs.Tryz.f12)] (instFr GotFar_in [.i first, .i far]) (instH GotFar_in [.i first, .i far]) := by kernel_rfl
def GotFar_S : List Leaf → Option (List Leaf) := fun ls => un_i ls fun first rr => un_i rr fun far rr => un_nil rr (GotFar first far)
def GotFar_SC : Tld := fun ls k' => un_i ls fun first rr => un_i rr fun far rr => un_nil rr (out (GotFar first far) k')
theorem GotFar_Se (first : Int) (far : Int) : GotFar_S [.i first, .i far] = GotFar first far := by
  unfold GotFar_S
  simp only [un_i_ev, un_b_ev, un_s_ev, un_li_ev, un_lb_ev, un_ls_ev, un_nil_ev]
theorem GotFar_says : Says GotFar_SC GotFar_S := by
  intro β ls' k' r' h'
  unfold GotFar_SC at h'
  obtain ⟨first, l'1, rfl, h'1⟩ := un_i_some.1 h'
  obtain ⟨far, l'2, rfl, h'2⟩ := un_i_some.1 h'1
  obtain ⟨rfl, h'Z⟩ := un_nil_some.1 h'2
  obtain ⟨l', a', b'⟩ := out_some.1 h'Z
  exact ⟨l', (GotFar_Se first far).trans a', b'⟩
theorem GotFar_c : FnC Go.Proofs.Tryz.prog 12 false 2 0 GotFar_in GotFar_out GotFar_S := by
  refine fn_ok (Λ := GotFar_Λ) mixed tab_ok g52 Go.Proofs.Tryz.func12 (by kernel_rfl) (body := fb Go.Proofs.Tryz.f12) rfl (ts := Go.Proofs.Tryz.f12.results.toList) rfl (cuts := []) (by kernel_rfl) (Nat.le_of_ble_eq_true (by kernel_rfl)) (by kernel_rfl) (rt := .w (.at (.bool))) rfl ?_ ?_
  · intro ls' r' h'
    unfold GotFar_S at h'
    obtain ⟨first, l'1, rfl, h'1⟩ := un_i_some.1 h'
    obtain ⟨far, l'2, rfl, h'2⟩ := un_i_some.1 h'1
    obtain ⟨rfl, h'Z⟩ := un_nil_some.1 h'2
    exact (GotFar_e first far).symm.trans h'Z
  · intro E w0 ws ρ0 hk b hb
    rw [show loopsOf (fb Go.Proofs.Tryz.f12) = [] by kernel_rfl] at hb
    cases hb
noncomputable def G53 : Env := G52.addE 12 2 GotFar_in GotFar_out GotFar_SC
theorem g53 : EnvOk Go.Proofs.Tryz.prog G53 := EnvOk.addE g52 GotFar_c GotFar_says
end Go.Sx.T

