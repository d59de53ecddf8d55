import Derived.Test.YtllgbgponmkijaaGreatDoorYPWSpec
import Derived.Test.YtllgbgponmkijaaGreatDoorYRPCon
set_option linter.all false
namespace Go.Sx.T
open Go Go.Sx Go.Proofs
set_option maxRecDepth 100000

-- ### PaceWhen: function 5
def PaceWhen_in : Tm := ⟨[], [(0, .w (.at (.int .i64))), (1, .w (.at (.int .i64))), (2, .w (.at (.int .u64))), (3, .w (.at (.int .i64)))]⟩
def PaceWhen_out : Tm := ⟨[], [(0, .w (.at (.bool)))]⟩

def PaceWhen_Λd : Loops := Loops.none
def PaceWhen_Λ : Loops := PaceWhen_Λd 

theorem PaceWhen_e (s : Int) (n2 : Int) (x : Int) (at2 : Int) : PaceWhen s n2 x at2 = den G31 PaceWhen_Λ false tab Go.Proofs.Tryz.f5.ntmps (fun fr H => finish tab 0 Go.Proofs.Tryz.f5.results.toList PaceWhen_out [] fr H some) (fun _ _ _ => none) (fun fr H => finish tab 0 Go.Proofs.Tryz.f5.results.toList PaceWhen_out [] fr H some) 10000 [.code (fb Go.Proofs.Tryz.f5)] (instFr PaceWhen_in [.i s, .i n2, .i x, .i at2]) (instH PaceWhen_in [.i s, .i n2, .i x, .i at2]) := by kernel_rfl
def PaceWhen_S : List Leaf → Option (List Leaf) := fun ls => un_i ls fun s rr => un_i rr fun n2 rr => un_i rr fun x rr => un_i rr fun at2 rr => un_nil rr (PaceWhen s n2 x at2)
def PaceWhen_SC : Tld := fun ls k' => un_i ls fun s rr => un_i rr fun n2 rr => un_i rr fun x rr => un_i rr fun at2 rr => un_nil rr (out (PaceWhen s n2 x at2) k')
theorem PaceWhen_Se (s : Int) (n2 : Int) (x : Int) (at2 : Int) : PaceWhen_S [.i s, .i n2, .i x, .i at2] = PaceWhen s n2 x at2 := by
  unfold PaceWhen_S
  simp only [un_i_ev, un_b_ev, un_s_ev, un_li_ev, un_lb_ev, un_ls_ev, un_nil_ev]
theorem PaceWhen_says : Says PaceWhen_SC PaceWhen_S := by
  intro β ls' k' r' h'
  unfold PaceWhen_SC at h'
  obtain ⟨s, l'1, rfl, h'1⟩ := un_i_some.1 h'
  obtain ⟨n2, l'2, rfl, h'2⟩ := un_i_some.1 h'1
  obtain ⟨x, l'3, rfl, h'3⟩ := un_i_some.1 h'2
  obtain ⟨at2, l'4, rfl, h'4⟩ := un_i_some.1 h'3
  obtain ⟨rfl, h'Z⟩ := un_nil_some.1 h'4
  obtain ⟨l', a', b'⟩ := out_some.1 h'Z
  exact ⟨l', (PaceWhen_Se s n2 x at2).trans a', b'⟩
theorem PaceWhen_c : FnC Go.Proofs.Tryz.prog 5 false 4 0 PaceWhen_in PaceWhen_out PaceWhen_S := by
  refine fn_ok (Λ := PaceWhen_Λ) mixed tab_ok g31 Go.Proofs.Tryz.func5 (by kernel_rfl) (body := fb Go.Proofs.Tryz.f5) rfl (ts := Go.Proofs.Tryz.f5.results.toList) rfl (cuts := []) (by kernel_rfl) (Nat.le_of_ble_eq_true (by kernel_rfl)) (by kernel_rfl) (rt := .w (.at (.bool))) rfl ?_ ?_
  · intro ls' r' h'
    unfold PaceWhen_S at h'
    obtain ⟨s, l'1, rfl, h'1⟩ := un_i_some.1 h'
    obtain ⟨n2, l'2, rfl, h'2⟩ := un_i_some.1 h'1
    obtain ⟨x, l'3, rfl, h'3⟩ := un_i_some.1 h'2
    obtain ⟨at2, l'4, rfl, h'4⟩ := un_i_some.1 h'3
    obtain ⟨rfl, h'Z⟩ := un_nil_some.1 h'4
    exact (PaceWhen_e s n2 x at2).symm.trans h'Z
  · intro E w0 ws ρ0 hk b hb
    rw [show loopsOf (fb Go.Proofs.Tryz.f5) = [] by kernel_rfl] at hb
    cases hb
noncomputable def G32 : Env := G31.addE 5 4 PaceWhen_in PaceWhen_out PaceWhen_SC
theorem g32 : EnvOk Go.Proofs.Tryz.prog G32 := EnvOk.addE g31 PaceWhen_c PaceWhen_says
end Go.Sx.T

