import Derived.Test.YtbjpcbghchfifaaGreatDoorYI1Spec
import Derived.Test.YtbjpcbghchfifaaGreatDoorYRSCon
set_option linter.all false
namespace Go.Sx.T
open Go Go.Sx Go.Proofs

-- ### IvalOne: function 11
def IvalOne_in : Tm := ⟨[], [(0, .w (.at (.int .u64))), (1, .w (.at (.int .u64)))]⟩
def IvalOne_out : Tm := ⟨[], [(0, .w (.at (.bool)))]⟩

def IvalOne_Λd : Loops := Loops.none
def IvalOne_Λ : Loops := IvalOne_Λd 

theorem IvalOne_e (open2 : Int) (n2 : Int) : IvalOne open2 n2 = den G39 IvalOne_Λ false tab Go.Proofs.Tryz.f11.ntmps (fun fr H => finish tab 0 Go.Proofs.Tryz.f11.results.toList IvalOne_out [] fr H some) (fun _ _ _ => none) (fun fr H => finish tab 0 Go.Proofs.Tryz.f11.results.toList IvalOne_out [] fr H some) 10000 [.code (fb Go.Proofs.Tryz.f11)] (instFr IvalOne_in [.i open2, .i n2]) (instH IvalOne_in [.i open2, .i n2]) := by kernel_rfl
def IvalOne_S : List Leaf → Option (List Leaf) := fun ls => un_i ls fun open2 rr => un_i rr fun n2 rr => un_nil rr (IvalOne open2 n2)
def IvalOne_SC : Tld := fun ls k' => un_i ls fun open2 rr => un_i rr fun n2 rr => un_nil rr (out (IvalOne open2 n2) k')
theorem IvalOne_Se (open2 : Int) (n2 : Int) : IvalOne_S [.i open2, .i n2] = IvalOne open2 n2 := by
  unfold IvalOne_S
  simp only [un_i_ev, un_b_ev, un_s_ev, un_li_ev, un_lb_ev, un_ls_ev, un_nil_ev]
theorem IvalOne_says : Says IvalOne_SC IvalOne_S := by
  intro β ls' k' r' h'
  unfold IvalOne_SC at h'
  obtain ⟨open2, l'1, rfl, h'1⟩ := un_i_some.1 h'
  obtain ⟨n2, l'2, rfl, h'2⟩ := un_i_some.1 h'1
  obtain ⟨rfl, h'Z⟩ := un_nil_some.1 h'2
  obtain ⟨l', a', b'⟩ := out_some.1 h'Z
  exact ⟨l', (IvalOne_Se open2 n2).trans a', b'⟩
theorem IvalOne_c : FnC Go.Proofs.Tryz.prog 11 false 2 0 IvalOne_in IvalOne_out IvalOne_S := by
  refine fn_ok (Λ := IvalOne_Λ) mixed tab_ok g39 Go.Proofs.Tryz.func11 (by kernel_rfl) (body := fb Go.Proofs.Tryz.f11) rfl (ts := Go.Proofs.Tryz.f11.results.toList) rfl (cuts := []) (by kernel_rfl) (Nat.le_of_ble_eq_true (by kernel_rfl)) (by kernel_rfl) (rt := .w (.at (.bool))) rfl ?_ ?_
  · intro ls' r' h'
    unfold IvalOne_S at h'
    obtain ⟨open2, l'1, rfl, h'1⟩ := un_i_some.1 h'
    obtain ⟨n2, l'2, rfl, h'2⟩ := un_i_some.1 h'1
    obtain ⟨rfl, h'Z⟩ := un_nil_some.1 h'2
    exact (IvalOne_e open2 n2).symm.trans h'Z
  · intro E w0 ws ρ0 hk b hb
    rw [show loopsOf (fb Go.Proofs.Tryz.f11) = [] by kernel_rfl] at hb
    cases hb
def G40 : Env := G39.addE 11 2 IvalOne_in IvalOne_out IvalOne_SC
theorem g40 : EnvOk Go.Proofs.Tryz.prog G40 := EnvOk.addE g39 IvalOne_c IvalOne_says
end Go.Sx.T

