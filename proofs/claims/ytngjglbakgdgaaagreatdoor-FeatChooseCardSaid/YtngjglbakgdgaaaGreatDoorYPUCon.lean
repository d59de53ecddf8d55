import Derived.Test.YtngjglbakgdgaaaGreatDoorYPUSpec
import Derived.Test.YtngjglbakgdgaaaGreatDoorYPaceCon
set_option linter.all false
namespace Go.Sx.T
open Go Go.Sx Go.Proofs
set_option maxRecDepth 100000

-- ### PaceFull: function 14
def PaceFull_in : Tm := ⟨[], [(0, .w (.at (.int .i64))), (1, .w (.at (.int .i64))), (2, .w (.at (.int .u64))), (3, .w (.at (.int .i64)))]⟩
def PaceFull_out : Tm := ⟨[], [(0, .w (.at (.bool)))]⟩

def PaceFull_Λd : Loops := Loops.none
def PaceFull_Λ : Loops := PaceFull_Λd 

theorem PaceFull_e (s : Int) (tick : Int) (x : Int) (d : Int) : PaceFull s tick x d = den G29 PaceFull_Λ false tab Go.Proofs.Tryz.f14.ntmps (fun fr H => finish tab 0 Go.Proofs.Tryz.f14.results.toList PaceFull_out [] fr H some) (fun _ _ _ => none) (fun fr H => finish tab 0 Go.Proofs.Tryz.f14.results.toList PaceFull_out [] fr H some) 10000 [.code (fb Go.Proofs.Tryz.f14)] (instFr PaceFull_in [.i s, .i tick, .i x, .i d]) (instH PaceFull_in [.i s, .i tick, .i x, .i d]) := by kernel_rfl
def PaceFull_S : List Leaf → Option (List Leaf) := fun ls => un_i ls fun s rr => un_i rr fun tick rr => un_i rr fun x rr => un_i rr fun d rr => un_nil rr (PaceFull s tick x d)
def PaceFull_SC : Tld := fun ls k' => un_i ls fun s rr => un_i rr fun tick rr => un_i rr fun x rr => un_i rr fun d rr => un_nil rr (out (PaceFull s tick x d) k')
theorem PaceFull_Se (s : Int) (tick : Int) (x : Int) (d : Int) : PaceFull_S [.i s, .i tick, .i x, .i d] = PaceFull s tick x d := by
  unfold PaceFull_S
  simp only [un_i_ev, un_b_ev, un_s_ev, un_li_ev, un_lb_ev, un_ls_ev, un_nil_ev]
theorem PaceFull_says : Says PaceFull_SC PaceFull_S := by
  intro β ls' k' r' h'
  unfold PaceFull_SC at h'
  obtain ⟨s, l'1, rfl, h'1⟩ := un_i_some.1 h'
  obtain ⟨tick, l'2, rfl, h'2⟩ := un_i_some.1 h'1
  obtain ⟨x, l'3, rfl, h'3⟩ := un_i_some.1 h'2
  obtain ⟨d, l'4, rfl, h'4⟩ := un_i_some.1 h'3
  obtain ⟨rfl, h'Z⟩ := un_nil_some.1 h'4
  obtain ⟨l', a', b'⟩ := out_some.1 h'Z
  exact ⟨l', (PaceFull_Se s tick x d).trans a', b'⟩
theorem PaceFull_c : FnC Go.Proofs.Tryz.prog 14 false 4 0 PaceFull_in PaceFull_out PaceFull_S := by
  refine fn_ok (Λ := PaceFull_Λ) mixed tab_ok g29 Go.Proofs.Tryz.func14 (by kernel_rfl) (body := fb Go.Proofs.Tryz.f14) rfl (ts := Go.Proofs.Tryz.f14.results.toList) rfl (cuts := []) (by kernel_rfl) (Nat.le_of_ble_eq_true (by kernel_rfl)) (by kernel_rfl) (rt := .w (.at (.bool))) rfl ?_ ?_
  · intro ls' r' h'
    unfold PaceFull_S at h'
    obtain ⟨s, l'1, rfl, h'1⟩ := un_i_some.1 h'
    obtain ⟨tick, l'2, rfl, h'2⟩ := un_i_some.1 h'1
    obtain ⟨x, l'3, rfl, h'3⟩ := un_i_some.1 h'2
    obtain ⟨d, l'4, rfl, h'4⟩ := un_i_some.1 h'3
    obtain ⟨rfl, h'Z⟩ := un_nil_some.1 h'4
    exact (PaceFull_e s tick x d).symm.trans h'Z
  · intro E w0 ws ρ0 hk b hb
    rw [show loopsOf (fb Go.Proofs.Tryz.f14) = [] by kernel_rfl] at hb
    cases hb
noncomputable def G30 : Env := G29.addE 14 4 PaceFull_in PaceFull_out PaceFull_SC
theorem g30 : EnvOk Go.Proofs.Tryz.prog G30 := EnvOk.addE g29 PaceFull_c PaceFull_says
end Go.Sx.T

