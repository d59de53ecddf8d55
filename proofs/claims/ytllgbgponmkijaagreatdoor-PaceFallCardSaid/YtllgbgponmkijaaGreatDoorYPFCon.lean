import Derived.Test.YtllgbgponmkijaaGreatDoorYPFSpec
import Derived.Test.YtllgbgponmkijaaGreatDoorYRPCon
set_option linter.all false
namespace Go.Sx.T
open Go Go.Sx Go.Proofs

-- ### PaceFall: function 3
def PaceFall_in : Tm := ⟨[], [(0, .w (.at (.int .i64))), (1, .w (.at (.int .u64))), (2, .w (.at (.int .u64))), (3, .w (.at (.int .i64)))]⟩
def PaceFall_out : Tm := ⟨[], [(0, .w (.at (.bool)))]⟩

def PaceFall_Λd : Loops := Loops.none
def PaceFall_Λ : Loops := PaceFall_Λd 

theorem PaceFall_e (s : Int) (x : Int) (y : Int) (at2 : Int) : PaceFall s x y at2 = den G31 PaceFall_Λ false tab Go.Proofs.Tryz.f3.ntmps (fun fr H => finish tab 0 Go.Proofs.Tryz.f3.results.toList PaceFall_out [] fr H some) (fun _ _ _ => none) (fun fr H => finish tab 0 Go.Proofs.Tryz.f3.results.toList PaceFall_out [] fr H some) 10000 [.code (fb Go.Proofs.Tryz.f3)] (instFr PaceFall_in [.i s, .i x, .i y, .i at2]) (instH PaceFall_in [.i s, .i x, .i y, .i at2]) := by kernel_rfl
def PaceFall_S : List Leaf → Option (List Leaf) := fun ls => un_i ls fun s rr => un_i rr fun x rr => un_i rr fun y rr => un_i rr fun at2 rr => un_nil rr (PaceFall s x y at2)
def PaceFall_SC : Tld := fun ls k' => un_i ls fun s rr => un_i rr fun x rr => un_i rr fun y rr => un_i rr fun at2 rr => un_nil rr (out (PaceFall s x y at2) k')
theorem PaceFall_Se (s : Int) (x : Int) (y : Int) (at2 : Int) : PaceFall_S [.i s, .i x, .i y, .i at2] = PaceFall s x y at2 := by
  unfold PaceFall_S
  simp only [un_i_ev, un_b_ev, un_s_ev, un_li_ev, un_lb_ev, un_ls_ev, un_nil_ev]
theorem PaceFall_says : Says PaceFall_SC PaceFall_S := by
  intro β ls' k' r' h'
  unfold PaceFall_SC at h'
  obtain ⟨s, l'1, rfl, h'1⟩ := un_i_some.1 h'
  obtain ⟨x, l'2, rfl, h'2⟩ := un_i_some.1 h'1
  obtain ⟨y, l'3, rfl, h'3⟩ := un_i_some.1 h'2
  obtain ⟨at2, l'4, rfl, h'4⟩ := un_i_some.1 h'3
  obtain ⟨rfl, h'Z⟩ := un_nil_some.1 h'4
  obtain ⟨l', a', b'⟩ := out_some.1 h'Z
  exact ⟨l', (PaceFall_Se s x y at2).trans a', b'⟩
theorem PaceFall_c : FnC Go.Proofs.Tryz.prog 3 false 4 0 PaceFall_in PaceFall_out PaceFall_S := by
  refine fn_ok (Λ := PaceFall_Λ) mixed tab_ok g31 Go.Proofs.Tryz.func3 (by kernel_rfl) (body := fb Go.Proofs.Tryz.f3) rfl (ts := Go.Proofs.Tryz.f3.results.toList) rfl (cuts := []) (by kernel_rfl) (Nat.le_of_ble_eq_true (by kernel_rfl)) (by kernel_rfl) (rt := .w (.at (.bool))) rfl ?_ ?_
  · intro ls' r' h'
    unfold PaceFall_S at h'
    obtain ⟨s, l'1, rfl, h'1⟩ := un_i_some.1 h'
    obtain ⟨x, l'2, rfl, h'2⟩ := un_i_some.1 h'1
    obtain ⟨y, l'3, rfl, h'3⟩ := un_i_some.1 h'2
    obtain ⟨at2, l'4, rfl, h'4⟩ := un_i_some.1 h'3
    obtain ⟨rfl, h'Z⟩ := un_nil_some.1 h'4
    exact (PaceFall_e s x y at2).symm.trans h'Z
  · intro E w0 ws ρ0 hk b hb
    rw [show loopsOf (fb Go.Proofs.Tryz.f3) = [] by kernel_rfl] at hb
    cases hb
noncomputable def G32 : Env := G31.addE 3 4 PaceFall_in PaceFall_out PaceFall_SC
theorem g32 : EnvOk Go.Proofs.Tryz.prog G32 := EnvOk.addE g31 PaceFall_c PaceFall_says
end Go.Sx.T

