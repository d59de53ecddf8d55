import Derived.Test.YtopcljhdejindaaGreatDoorYIOSpec
import Derived.Test.YtopcljhdejindaaGreatDoorYIvalCon
set_option linter.all false
namespace Go.Sx.T
open Go Go.Sx Go.Proofs

-- ### IvalOrder: function 3
def IvalOrder_in : Tm := ⟨[.ro 22 1 [.int .u64]], [(0, .w (.at (.int .u64))), (1, .w (.at (.all 0 1))), (2, .w (.at (.int .i64))), (3, .w (.at (.int .u64)))]⟩
def IvalOrder_out : Tm := ⟨[.dead], [(0, .w (.at (.bool)))]⟩

def IvalOrder_Λd : Loops := Loops.none
def IvalOrder_Λ : Loops := IvalOrder_Λd 

theorem IvalOrder_e (closed : List Int) (open2 : Int) (i : Int) (more : Int) : IvalOrder closed open2 i more = den G33 IvalOrder_Λ false tab Go.Proofs.Tryz.f3.ntmps (fun fr H => finish tab 1 Go.Proofs.Tryz.f3.results.toList IvalOrder_out [] fr H some) (fun _ _ _ => none) (fun fr H => finish tab 1 Go.Proofs.Tryz.f3.results.toList IvalOrder_out [] fr H some) 10000 [.code (fb Go.Proofs.Tryz.f3)] (instFr IvalOrder_in [.li closed, .i open2, .i i, .i more]) (instH IvalOrder_in [.li closed, .i open2, .i i, .i more]) := by kernel_rfl
def IvalOrder_S : List Leaf → Option (List Leaf) := fun ls => un_li ls fun closed rr => un_i rr fun open2 rr => un_i rr fun i rr => un_i rr fun more rr => un_nil rr (IvalOrder closed open2 i more)
def IvalOrder_SC : Tld := fun ls k' => un_li ls fun closed rr => un_i rr fun open2 rr => un_i rr fun i rr => un_i rr fun more rr => un_nil rr (out (IvalOrder closed open2 i more) k')
theorem IvalOrder_Se (closed : List Int) (open2 : Int) (i : Int) (more : Int) : IvalOrder_S [.li closed, .i open2, .i i, .i more] = IvalOrder closed open2 i more := by
  unfold IvalOrder_S
  simp only [un_i_ev, un_b_ev, un_s_ev, un_li_ev, un_lb_ev, un_ls_ev, un_nil_ev]
theorem IvalOrder_says : Says IvalOrder_SC IvalOrder_S := by
  intro β ls' k' r' h'
  unfold IvalOrder_SC at h'
  obtain ⟨closed, l'1, rfl, h'1⟩ := un_li_some.1 h'
  obtain ⟨open2, l'2, rfl, h'2⟩ := un_i_some.1 h'1
  obtain ⟨i, l'3, rfl, h'3⟩ := un_i_some.1 h'2
  obtain ⟨more, l'4, rfl, h'4⟩ := un_i_some.1 h'3
  obtain ⟨rfl, h'Z⟩ := un_nil_some.1 h'4
  obtain ⟨l', a', b'⟩ := out_some.1 h'Z
  exact ⟨l', (IvalOrder_Se closed open2 i more).trans a', b'⟩
theorem IvalOrder_c : FnC Go.Proofs.Tryz.prog 3 false 4 1 IvalOrder_in IvalOrder_out IvalOrder_S := by
  refine fn_ok (Λ := IvalOrder_Λ) mixed tab_ok g33 Go.Proofs.Tryz.func3 (by kernel_rfl) (body := fb Go.Proofs.Tryz.f3) rfl (ts := Go.Proofs.Tryz.f3.results.toList) rfl (cuts := []) (by kernel_rfl) (Nat.le_of_ble_eq_true (by kernel_rfl)) (by kernel_rfl) (rt := .w (.at (.bool))) rfl ?_ ?_
  · intro ls' r' h'
    unfold IvalOrder_S at h'
    obtain ⟨closed, l'1, rfl, h'1⟩ := un_li_some.1 h'
    obtain ⟨open2, l'2, rfl, h'2⟩ := un_i_some.1 h'1
    obtain ⟨i, l'3, rfl, h'3⟩ := un_i_some.1 h'2
    obtain ⟨more, l'4, rfl, h'4⟩ := un_i_some.1 h'3
    obtain ⟨rfl, h'Z⟩ := un_nil_some.1 h'4
    exact (IvalOrder_e closed open2 i more).symm.trans h'Z
  · intro E w0 ws ρ0 hk b hb
    rw [show loopsOf (fb Go.Proofs.Tryz.f3) = [] by kernel_rfl] at hb
    cases hb
def G34 : Env := G33.addE 3 4 IvalOrder_in IvalOrder_out IvalOrder_SC
theorem g34 : EnvOk Go.Proofs.Tryz.prog G34 := EnvOk.addE g33 IvalOrder_c IvalOrder_says
end Go.Sx.T

