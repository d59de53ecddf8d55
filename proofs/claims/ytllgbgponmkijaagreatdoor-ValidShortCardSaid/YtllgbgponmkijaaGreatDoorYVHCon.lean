import Derived.Test.YtllgbgponmkijaaGreatDoorYVHSpec
import Derived.Test.YtllgbgponmkijaaGreatDoorYVNCon
set_option linter.all false
namespace Go.Sx.T
open Go Go.Sx Go.Proofs
set_option maxRecDepth 100000
noncomputable def G55 : Env := G54.addEqS 53 [.int .i64, .int .i64, .int .i64, .int .i64, .int .i64, .int .i64, .int .i64, .bool, .int .u64, .int .u64, .int .u32, .int .i64, .int .u8, .int .u8, .int .u8]
theorem g55 : EnvOk Go.Proofs.Tryz.prog G55 := EnvOk.addEqS g54 tab_ok (by kernel_rfl) (by kernel_rfl) (by kernel_rfl) (by kernel_rfl)
noncomputable def G56 : Env := G55.addEqS 51 [.int .u8, .int .u8, .int .u8]
theorem g56 : EnvOk Go.Proofs.Tryz.prog G56 := EnvOk.addEqS g55 tab_ok (by kernel_rfl) (by kernel_rfl) (by kernel_rfl) (by kernel_rfl)

-- ### ValidShort: function 11
def ValidShort_in : Tm := ⟨[], [(0, .w (.agg [.int .i64, .int .u64, .int .u64, .int .u64, .int .u64, .int .u64, .int .i64, .int .i64])), (1, .w (.at (.int .i64))), (2, .w (.at (.int .i64))), (3, .w (.at (.int .i64)))]⟩
def ValidShort_out : Tm := ⟨[], [(0, .w (.at (.bool)))]⟩

def ValidShort_Λd : Loops := Loops.none
def ValidShort_Λ : Loops := ValidShort_Λd 

theorem ValidShort_e (v_State : Int) (v_Gss : Int) (v_Gsr : Int) (v_Gar : Int) (v_Iss : Int) (v_Isr : Int) (v_Mine : Int) (v_Theirs : Int) (t : Int) (d : Int) (e : Int) : ValidShort v_State v_Gss v_Gsr v_Gar v_Iss v_Isr v_Mine v_Theirs t d e = den G56 ValidShort_Λ false tab Go.Proofs.Tryz.f11.ntmps (fun fr H => finish tab 0 Go.Proofs.Tryz.f11.results.toList ValidShort_out [] fr H some) (fun _ _ _ => none) (fun fr H => finish tab 0 Go.Proofs.Tryz.f11.results.toList ValidShort_out [] fr H some) 10000 [.code (fb Go.Proofs.Tryz.f11)] (instFr ValidShort_in [.i v_State, .i v_Gss, .i v_Gsr, .i v_Gar, .i v_Iss, .i v_Isr, .i v_Mine, .i v_Theirs, .i t, .i d, .i e]) (instH ValidShort_in [.i v_State, .i v_Gss, .i v_Gsr, .i v_Gar, .i v_Iss, .i v_Isr, .i v_Mine, .i v_Theirs, .i t, .i d, .i e]) := by kernel_rfl
def ValidShort_S : List Leaf → Option (List Leaf) := fun ls => un_i ls fun v_State rr => un_i rr fun v_Gss rr => un_i rr fun v_Gsr rr => un_i rr fun v_Gar rr => un_i rr fun v_Iss rr => un_i rr fun v_Isr rr => un_i rr fun v_Mine rr => un_i rr fun v_Theirs rr => un_i rr fun t rr => un_i rr fun d rr => un_i rr fun e rr => un_nil rr (ValidShort v_State v_Gss v_Gsr v_Gar v_Iss v_Isr v_Mine v_Theirs t d e)
def ValidShort_SC : Tld := fun ls k' => un_i ls fun v_State rr => un_i rr fun v_Gss rr => un_i rr fun v_Gsr rr => un_i rr fun v_Gar rr => un_i rr fun v_Iss rr => un_i rr fun v_Isr rr => un_i rr fun v_Mine rr => un_i rr fun v_Theirs rr => un_i rr fun t rr => un_i rr fun d rr => un_i rr fun e rr => un_nil rr (out (ValidShort v_State v_Gss v_Gsr v_Gar v_Iss v_Isr v_Mine v_Theirs t d e) k')
theorem ValidShort_Se (v_State : Int) (v_Gss : Int) (v_Gsr : Int) (v_Gar : Int) (v_Iss : Int) (v_Isr : Int) (v_Mine : Int) (v_Theirs : Int) (t : Int) (d : Int) (e : Int) : ValidShort_S [.i v_State, .i v_Gss, .i v_Gsr, .i v_Gar, .i v_Iss, .i v_Isr, .i v_Mine, .i v_Theirs, .i t, .i d, .i e] = ValidShort v_State v_Gss v_Gsr v_Gar v_Iss v_Isr v_Mine v_Theirs t d e := by
  unfold ValidShort_S
  simp only [un_i_ev, un_b_ev, un_s_ev, un_li_ev, un_lb_ev, un_ls_ev, un_nil_ev]
theorem ValidShort_says : Says ValidShort_SC ValidShort_S := by
  intro β ls' k' r' h'
  unfold ValidShort_SC at h'
  obtain ⟨v_State, l'1, rfl, h'1⟩ := un_i_some.1 h'
  obtain ⟨v_Gss, l'2, rfl, h'2⟩ := un_i_some.1 h'1
  obtain ⟨v_Gsr, l'3, rfl, h'3⟩ := un_i_some.1 h'2
  obtain ⟨v_Gar, l'4, rfl, h'4⟩ := un_i_some.1 h'3
  obtain ⟨v_Iss, l'5, rfl, h'5⟩ := un_i_some.1 h'4
  obtain ⟨v_Isr, l'6, rfl, h'6⟩ := un_i_some.1 h'5
  obtain ⟨v_Mine, l'7, rfl, h'7⟩ := un_i_some.1 h'6
  obtain ⟨v_Theirs, l'8, rfl, h'8⟩ := un_i_some.1 h'7
  obtain ⟨t, l'9, rfl, h'9⟩ := un_i_some.1 h'8
  obtain ⟨d, l'10, rfl, h'10⟩ := un_i_some.1 h'9
  obtain ⟨e, l'11, rfl, h'11⟩ := un_i_some.1 h'10
  obtain ⟨rfl, h'Z⟩ := un_nil_some.1 h'11
  obtain ⟨l', a', b'⟩ := out_some.1 h'Z
  exact ⟨l', (ValidShort_Se v_State v_Gss v_Gsr v_Gar v_Iss v_Isr v_Mine v_Theirs t d e).trans a', b'⟩
theorem ValidShort_c : FnC Go.Proofs.Tryz.prog 11 false 4 0 ValidShort_in ValidShort_out ValidShort_S := by
  refine fn_ok (Λ := ValidShort_Λ) mixed tab_ok g56 Go.Proofs.Tryz.func11 (by kernel_rfl) (body := fb Go.Proofs.Tryz.f11) rfl (ts := Go.Proofs.Tryz.f11.results.toList) rfl (cuts := []) (by kernel_rfl) (Nat.le_of_ble_eq_true (by kernel_rfl)) (by kernel_rfl) (rt := .w (.at (.bool))) rfl ?_ ?_
  · intro ls' r' h'
    unfold ValidShort_S at h'
    obtain ⟨v_State, l'1, rfl, h'1⟩ := un_i_some.1 h'
    obtain ⟨v_Gss, l'2, rfl, h'2⟩ := un_i_some.1 h'1
    obtain ⟨v_Gsr, l'3, rfl, h'3⟩ := un_i_some.1 h'2
    obtain ⟨v_Gar, l'4, rfl, h'4⟩ := un_i_some.1 h'3
    obtain ⟨v_Iss, l'5, rfl, h'5⟩ := un_i_some.1 h'4
    obtain ⟨v_Isr, l'6, rfl, h'6⟩ := un_i_some.1 h'5
    obtain ⟨v_Mine, l'7, rfl, h'7⟩ := un_i_some.1 h'6
    obtain ⟨v_Theirs, l'8, rfl, h'8⟩ := un_i_some.1 h'7
    obtain ⟨t, l'9, rfl, h'9⟩ := un_i_some.1 h'8
    obtain ⟨d, l'10, rfl, h'10⟩ := un_i_some.1 h'9
    obtain ⟨e, l'11, rfl, h'11⟩ := un_i_some.1 h'10
    obtain ⟨rfl, h'Z⟩ := un_nil_some.1 h'11
    exact (ValidShort_e v_State v_Gss v_Gsr v_Gar v_Iss v_Isr v_Mine v_Theirs t d e).symm.trans h'Z
  · intro E w0 ws ρ0 hk b hb
    rw [show loopsOf (fb Go.Proofs.Tryz.f11) = [] by kernel_rfl] at hb
    cases hb
noncomputable def G57 : Env := G56.addE 11 4 ValidShort_in ValidShort_out ValidShort_SC
theorem g57 : EnvOk Go.Proofs.Tryz.prog G57 := EnvOk.addE g56 ValidShort_c ValidShort_says
end Go.Sx.T

