import Derived.Test.YtdjnfdcoilgegaaGreatDoorYNMSpec
import Derived.Test.YtdjnfdcoilgegaaGreatDoorYNACon
set_option linter.all false
namespace Go.Sx.T
open Go Go.Sx Go.Proofs
set_option maxRecDepth 100000

-- ### NegoMust: function 6
def NegoMust_in : Tm := ⟨[], [(0, .w (.at (.int .i64))), (1, .w (.at (.str))), (2, .w (.at (.str)))]⟩
def NegoMust_out : Tm := ⟨[], [(0, .w (.at (.bool)))]⟩

def NegoMust_Λd : Loops := Loops.none
def NegoMust_Λ : Loops := NegoMust_Λd 

theorem NegoMust_e (t : Int) (v : ByteArray) (data : ByteArray) : NegoMust t v data = den G48 NegoMust_Λ false tab Go.Proofs.Tryz.f6.ntmps (fun fr H => finish tab 0 Go.Proofs.Tryz.f6.results.toList NegoMust_out [] fr H some) (fun _ _ _ => none) (fun fr H => finish tab 0 Go.Proofs.Tryz.f6.results.toList NegoMust_out [] fr H some) 10000 [.code (fb Go.Proofs.Tryz.f6)] (instFr NegoMust_in [.i t, .s v, .s data]) (instH NegoMust_in [.i t, .s v, .s data]) := by kernel_rfl
def NegoMust_S : List Leaf → Option (List Leaf) := fun ls => un_i ls fun t rr => un_s rr fun v rr => un_s rr fun data rr => un_nil rr (NegoMust t v data)
def NegoMust_SC : Tld := fun ls k' => un_i ls fun t rr => un_s rr fun v rr => un_s rr fun data rr => un_nil rr (out (NegoMust t v data) k')
theorem NegoMust_Se (t : Int) (v : ByteArray) (data : ByteArray) : NegoMust_S [.i t, .s v, .s data] = NegoMust t v data := by
  unfold NegoMust_S
  simp only [un_i_ev, un_b_ev, un_s_ev, un_li_ev, un_lb_ev, un_ls_ev, un_nil_ev]
theorem NegoMust_says : Says NegoMust_SC NegoMust_S := by
  intro β ls' k' r' h'
  unfold NegoMust_SC at h'
  obtain ⟨t, l'1, rfl, h'1⟩ := un_i_some.1 h'
  obtain ⟨v, l'2, rfl, h'2⟩ := un_s_some.1 h'1
  obtain ⟨data, l'3, rfl, h'3⟩ := un_s_some.1 h'2
  obtain ⟨rfl, h'Z⟩ := un_nil_some.1 h'3
  obtain ⟨l', a', b'⟩ := out_some.1 h'Z
  exact ⟨l', (NegoMust_Se t v data).trans a', b'⟩
theorem NegoMust_c : FnC Go.Proofs.Tryz.prog 6 false 3 0 NegoMust_in NegoMust_out NegoMust_S := by
  refine fn_ok (Λ := NegoMust_Λ) mixed tab_ok g48 Go.Proofs.Tryz.func6 (by kernel_rfl) (body := fb Go.Proofs.Tryz.f6) rfl (ts := Go.Proofs.Tryz.f6.results.toList) rfl (cuts := []) (by kernel_rfl) (Nat.le_of_ble_eq_true (by kernel_rfl)) (by kernel_rfl) (rt := .w (.at (.bool))) rfl ?_ ?_
  · intro ls' r' h'
    unfold NegoMust_S at h'
    obtain ⟨t, l'1, rfl, h'1⟩ := un_i_some.1 h'
    obtain ⟨v, l'2, rfl, h'2⟩ := un_s_some.1 h'1
    obtain ⟨data, l'3, rfl, h'3⟩ := un_s_some.1 h'2
    obtain ⟨rfl, h'Z⟩ := un_nil_some.1 h'3
    exact (NegoMust_e t v data).symm.trans h'Z
  · intro E w0 ws ρ0 hk b hb
    rw [show loopsOf (fb Go.Proofs.Tryz.f6) = [] by kernel_rfl] at hb
    cases hb
noncomputable def G49 : Env := G48.addE 6 3 NegoMust_in NegoMust_out NegoMust_SC
theorem g49 : EnvOk Go.Proofs.Tryz.prog G49 := EnvOk.addE g48 NegoMust_c NegoMust_says
end Go.Sx.T

