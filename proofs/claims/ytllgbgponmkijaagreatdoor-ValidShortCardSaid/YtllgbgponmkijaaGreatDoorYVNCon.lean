import Derived.Test.YtllgbgponmkijaaGreatDoorYVNSpec
import Derived.Test.YtllgbgponmkijaaGreatDoorYVWCon
set_option linter.all false
namespace Go.Sx.T
open Go Go.Sx Go.Proofs
set_option maxRecDepth 100000

-- ### ValidNext: function 10
def ValidNext_in : Tm := ⟨[], [(0, .w (.agg [.int .i64, .int .u64, .int .u64, .int .u64, .int .u64, .int .u64, .int .i64, .int .i64])), (1, .w (.at (.int .i64))), (2, .w (.at (.int .u64)))]⟩
def ValidNext_out : Tm := ⟨[], [(0, .w (.at (.bool)))]⟩

def ValidNext_Λd : Loops := Loops.none
def ValidNext_Λ : Loops := ValidNext_Λd 

theorem ValidNext_e (v_State : Int) (v_Gss : Int) (v_Gsr : Int) (v_Gar : Int) (v_Iss : Int) (v_Isr : Int) (v_Mine : Int) (v_Theirs : Int) (t : Int) (far : Int) : ValidNext v_State v_Gss v_Gsr v_Gar v_Iss v_Isr v_Mine v_Theirs t far = den G53 ValidNext_Λ false tab Go.Proofs.Tryz.f10.ntmps (fun fr H => finish tab 0 Go.Proofs.Tryz.f10.results.toList ValidNext_out [] fr H some) (fun _ _ _ => none) (fun fr H => finish tab 0 Go.Proofs.Tryz.f10.results.toList ValidNext_out [] fr H some) 10000 [.code (fb Go.Proofs.Tryz.f10)] (instFr ValidNext_in [.i v_State, .i v_Gss, .i v_Gsr, .i v_Gar, .i v_Iss, .i v_Isr, .i v_Mine, .i v_Theirs, .i t, .i far]) (instH ValidNext_in [.i v_State, .i v_Gss, .i v_Gsr, .i v_Gar, .i v_Iss, .i v_Isr, .i v_Mine, .i v_Theirs, .i t, .i far]) := by kernel_rfl
def ValidNext_S : List Leaf → Option (List Leaf) := fun ls => un_i ls fun v_State rr => un_i rr fun v_Gss rr => un_i rr fun v_Gsr rr => un_i rr fun v_Gar rr => un_i rr fun v_Iss rr => un_i rr fun v_Isr rr => un_i rr fun v_Mine rr => un_i rr fun v_Theirs rr => un_i rr fun t rr => un_i rr fun far rr => un_nil rr (ValidNext v_State v_Gss v_Gsr v_Gar v_Iss v_Isr v_Mine v_Theirs t far)
def ValidNext_SC : Tld := fun ls k' => un_i ls fun v_State rr => un_i rr fun v_Gss rr => un_i rr fun v_Gsr rr => un_i rr fun v_Gar rr => un_i rr fun v_Iss rr => un_i rr fun v_Isr rr => un_i rr fun v_Mine rr => un_i rr fun v_Theirs rr => un_i rr fun t rr => un_i rr fun far rr => un_nil rr (out (ValidNext v_State v_Gss v_Gsr v_Gar v_Iss v_Isr v_Mine v_Theirs t far) k')
theorem ValidNext_Se (v_State : Int) (v_Gss : Int) (v_Gsr : Int) (v_Gar : Int) (v_Iss : Int) (v_Isr : Int) (v_Mine : Int) (v_Theirs : Int) (t : Int) (far : Int) : ValidNext_S [.i v_State, .i v_Gss, .i v_Gsr, .i v_Gar, .i v_Iss, .i v_Isr, .i v_Mine, .i v_Theirs, .i t, .i far] = ValidNext v_State v_Gss v_Gsr v_Gar v_Iss v_Isr v_Mine v_Theirs t far := by
  unfold ValidNext_S
  simp only [un_i_ev, un_b_ev, un_s_ev, un_li_ev, un_lb_ev, un_ls_ev, un_nil_ev]
theorem ValidNext_says : Says ValidNext_SC ValidNext_S := by
  intro β ls' k' r' h'
  unfold ValidNext_SC at h'
  obtain ⟨v_State, l'1, rfl, h'1⟩ := un_i_some.1 h'
  obtain ⟨v_Gss, l'2, rfl, h'2⟩ := un_i_some.1 h'1
  obtain ⟨v_Gsr, l'3, rfl, h'3⟩ := un_i_some.1 h'2
  obtain ⟨v_Gar, l'4, rfl, h'4⟩ := un_i_some.1 h'3
  obtain ⟨v_Iss, l'5, rfl, h'5⟩ := un_i_some.1 h'4
  obtain ⟨v_Isr, l'6, rfl, h'6⟩ := un_i_some.1 h'5
  obtain ⟨v_Mine, l'7, rfl, h'7⟩ := un_i_some.1 h'6
  obtain ⟨v_Theirs, l'8, rfl, h'8⟩ := un_i_some.1 h'7
  obtain ⟨t, l'9, rfl, h'9⟩ := un_i_some.1 h'8
  obtain ⟨far, l'10, rfl, h'10⟩ := un_i_some.1 h'9
  obtain ⟨rfl, h'Z⟩ := un_nil_some.1 h'10
  obtain ⟨l', a', b'⟩ := out_some.1 h'Z
  exact ⟨l', (ValidNext_Se v_State v_Gss v_Gsr v_Gar v_Iss v_Isr v_Mine v_Theirs t far).trans a', b'⟩
theorem ValidNext_c : FnC Go.Proofs.Tryz.prog 10 false 3 0 ValidNext_in ValidNext_out ValidNext_S := by
  refine fn_ok (Λ := ValidNext_Λ) mixed tab_ok g53 Go.Proofs.Tryz.func10 (by kernel_rfl) (body := fb Go.Proofs.Tryz.f10) rfl (ts := Go.Proofs.Tryz.f10.results.toList) rfl (cuts := []) (by kernel_rfl) (Nat.le_of_ble_eq_true (by kernel_rfl)) (by kernel_rfl) (rt := .w (.at (.bool))) rfl ?_ ?_
  · intro ls' r' h'
    unfold ValidNext_S at h'
    obtain ⟨v_State, l'1, rfl, h'1⟩ := un_i_some.1 h'
    obtain ⟨v_Gss, l'2, rfl, h'2⟩ := un_i_some.1 h'1
    obtain ⟨v_Gsr, l'3, rfl, h'3⟩ := un_i_some.1 h'2
    obtain ⟨v_Gar, l'4, rfl, h'4⟩ := un_i_some.1 h'3
    obtain ⟨v_Iss, l'5, rfl, h'5⟩ := un_i_some.1 h'4
    obtain ⟨v_Isr, l'6, rfl, h'6⟩ := un_i_some.1 h'5
    obtain ⟨v_Mine, l'7, rfl, h'7⟩ := un_i_some.1 h'6
    obtain ⟨v_Theirs, l'8, rfl, h'8⟩ := un_i_some.1 h'7
    obtain ⟨t, l'9, rfl, h'9⟩ := un_i_some.1 h'8
    obtain ⟨far, l'10, rfl, h'10⟩ := un_i_some.1 h'9
    obtain ⟨rfl, h'Z⟩ := un_nil_some.1 h'10
    exact (ValidNext_e v_State v_Gss v_Gsr v_Gar v_Iss v_Isr v_Mine v_Theirs t far).symm.trans h'Z
  · intro E w0 ws ρ0 hk b hb
    rw [show loopsOf (fb Go.Proofs.Tryz.f10) = [] by kernel_rfl] at hb
    cases hb
noncomputable def G54 : Env := G53.addE 10 3 ValidNext_in ValidNext_out ValidNext_SC
theorem g54 : EnvOk Go.Proofs.Tryz.prog G54 := EnvOk.addE g53 ValidNext_c ValidNext_says
end Go.Sx.T

