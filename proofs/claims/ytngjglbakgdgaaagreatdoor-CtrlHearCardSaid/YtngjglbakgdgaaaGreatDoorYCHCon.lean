import Derived.Test.YtngjglbakgdgaaaGreatDoorYCHSpec
import Derived.Test.YtngjglbakgdgaaaGreatDoorYhCtlCon
import Derived.Test.YtngjglbakgdgaaaGreatDoorL6
set_option linter.all false
namespace Go.Sx.T
open Go Go.Sx Go.Proofs
set_option maxRecDepth 100000
noncomputable def G50 : Env := G49.addM 111 "Kind" 275
theorem g50 : EnvOk Go.Proofs.Tryz.prog G50 := EnvOk.addM g49 (by kernel_rfl) Go.Proofs.Tryz.underlying111
noncomputable def G51 : Env := G50.addM 111 "May" 276
theorem g51 : EnvOk Go.Proofs.Tryz.prog G51 := EnvOk.addM g50 (by kernel_rfl) Go.Proofs.Tryz.underlying111
noncomputable def G52 : Env := G51.addM 111 "Sent" 277
theorem g52 : EnvOk Go.Proofs.Tryz.prog G52 := EnvOk.addM g51 (by kernel_rfl) Go.Proofs.Tryz.underlying111
noncomputable def G53 : Env := G52.addM 111 "Hear" 274
theorem g53 : EnvOk Go.Proofs.Tryz.prog G53 := EnvOk.addM g52 (by kernel_rfl) Go.Proofs.Tryz.underlying111
noncomputable def G54 : Env := G53.addM 111 "Fire" 273
theorem g54 : EnvOk Go.Proofs.Tryz.prog G54 := EnvOk.addM g53 (by kernel_rfl) Go.Proofs.Tryz.underlying111
noncomputable def G55 : Env := G54.addM 111 "Due" 272
theorem g55 : EnvOk Go.Proofs.Tryz.prog G55 := EnvOk.addM g54 (by kernel_rfl) Go.Proofs.Tryz.underlying111
noncomputable def G56 : Env := G55.addM 115 "Kind" 281
theorem g56 : EnvOk Go.Proofs.Tryz.prog G56 := EnvOk.addM g55 (by kernel_rfl) Go.Proofs.Tryz.underlying115
noncomputable def G57 : Env := G56.addM 115 "May" 282
theorem g57 : EnvOk Go.Proofs.Tryz.prog G57 := EnvOk.addM g56 (by kernel_rfl) Go.Proofs.Tryz.underlying115
noncomputable def G58 : Env := G57.addM 115 "Sent" 283
theorem g58 : EnvOk Go.Proofs.Tryz.prog G58 := EnvOk.addM g57 (by kernel_rfl) Go.Proofs.Tryz.underlying115
noncomputable def G59 : Env := G58.addM 115 "Hear" 280
theorem g59 : EnvOk Go.Proofs.Tryz.prog G59 := EnvOk.addM g58 (by kernel_rfl) Go.Proofs.Tryz.underlying115
noncomputable def G60 : Env := G59.addM 115 "Fire" 279
theorem g60 : EnvOk Go.Proofs.Tryz.prog G60 := EnvOk.addM g59 (by kernel_rfl) Go.Proofs.Tryz.underlying115
noncomputable def G61 : Env := G60.addM 115 "Due" 278
theorem g61 : EnvOk Go.Proofs.Tryz.prog G61 := EnvOk.addM g60 (by kernel_rfl) Go.Proofs.Tryz.underlying115
noncomputable def fnsC : Fns := [(19, Go.Proofs.Tryz.f19), (25, Go.Proofs.Tryz.f25), (54, Go.Proofs.Tryz.f54), (21, Go.Proofs.Tryz.f21)]
theorem fnsC_ok : FnsOk Go.Proofs.Tryz.prog fnsC := .cons Go.Proofs.Tryz.func19 (by kernel_rfl) <| .cons Go.Proofs.Tryz.func25 (by kernel_rfl) <| .cons Go.Proofs.Tryz.func54 (by kernel_rfl) <| .cons Go.Proofs.Tryz.func21 (by kernel_rfl) <| .nil
noncomputable def G62 : Env := inlC fnsC tab G61 6
theorem g62 : EnvOk Go.Proofs.Tryz.prog G62 := EnvOk.inlC mixed tab_ok g61 fnsC_ok 6

-- ### CtrlHear: function 5
def CtrlHear_in : Tm := ⟨[], [(0, .w (.at (.int .i64))), (1, .w (.at (.int .i64))), (2, .w (.at (.int .u64))), (3, .w (.at (.int .u64)))]⟩
def CtrlHear_out : Tm := ⟨[], [(0, .w (.at (.bool)))]⟩

def CtrlHear_Λd : Loops := Loops.none
def CtrlHear_Λ : Loops := CtrlHear_Λd 

theorem CtrlHear_e (size : Int) (r : Int) (x : Int) (p : Int) : CtrlHear size r x p = den G62 CtrlHear_Λ false tab Go.Proofs.Tryz.f5.ntmps (fun fr H => finish tab 0 Go.Proofs.Tryz.f5.results.toList CtrlHear_out [] fr H some) (fun _ _ _ => none) (fun fr H => finish tab 0 Go.Proofs.Tryz.f5.results.toList CtrlHear_out [] fr H some) 10000 [.code (fb Go.Proofs.Tryz.f5)] (instFr CtrlHear_in [.i size, .i r, .i x, .i p]) (instH CtrlHear_in [.i size, .i r, .i x, .i p]) := by kernel_rfl
def CtrlHear_S : List Leaf → Option (List Leaf) := fun ls => un_i ls fun size rr => un_i rr fun r rr => un_i rr fun x rr => un_i rr fun p rr => un_nil rr (CtrlHear size r x p)
def CtrlHear_SC : Tld := fun ls k' => un_i ls fun size rr => un_i rr fun r rr => un_i rr fun x rr => un_i rr fun p rr => un_nil rr (out (CtrlHear size r x p) k')
theorem CtrlHear_Se (size : Int) (r : Int) (x : Int) (p : Int) : CtrlHear_S [.i size, .i r, .i x, .i p] = CtrlHear size r x p := by
  unfold CtrlHear_S
  simp only [un_i_ev, un_b_ev, un_s_ev, un_li_ev, un_lb_ev, un_ls_ev, un_nil_ev]
theorem CtrlHear_says : Says CtrlHear_SC CtrlHear_S := by
  intro β ls' k' r' h'
  unfold CtrlHear_SC at h'
  obtain ⟨size, l'1, rfl, h'1⟩ := un_i_some.1 h'
  obtain ⟨r, l'2, rfl, h'2⟩ := un_i_some.1 h'1
  obtain ⟨x, l'3, rfl, h'3⟩ := un_i_some.1 h'2
  obtain ⟨p, l'4, rfl, h'4⟩ := un_i_some.1 h'3
  obtain ⟨rfl, h'Z⟩ := un_nil_some.1 h'4
  obtain ⟨l', a', b'⟩ := out_some.1 h'Z
  exact ⟨l', (CtrlHear_Se size r x p).trans a', b'⟩
theorem CtrlHear_c : FnC Go.Proofs.Tryz.prog 5 false 4 0 CtrlHear_in CtrlHear_out CtrlHear_S := by
  refine fn_ok (Λ := CtrlHear_Λ) mixed tab_ok g62 Go.Proofs.Tryz.func5 (by kernel_rfl) (body := fb Go.Proofs.Tryz.f5) rfl (ts := Go.Proofs.Tryz.f5.results.toList) rfl (cuts := []) (by kernel_rfl) (Nat.le_of_ble_eq_true (by kernel_rfl)) (by kernel_rfl) (rt := .w (.at (.bool))) rfl ?_ ?_
  · intro ls' r' h'
    unfold CtrlHear_S at h'
    obtain ⟨size, l'1, rfl, h'1⟩ := un_i_some.1 h'
    obtain ⟨r, l'2, rfl, h'2⟩ := un_i_some.1 h'1
    obtain ⟨x, l'3, rfl, h'3⟩ := un_i_some.1 h'2
    obtain ⟨p, l'4, rfl, h'4⟩ := un_i_some.1 h'3
    obtain ⟨rfl, h'Z⟩ := un_nil_some.1 h'4
    exact (CtrlHear_e size r x p).symm.trans h'Z
  · intro E w0 ws ρ0 hk b hb
    rw [show loopsOf (fb Go.Proofs.Tryz.f5) = [] by kernel_rfl] at hb
    cases hb
noncomputable def G63 : Env := G62.addE 5 4 CtrlHear_in CtrlHear_out CtrlHear_SC
theorem g63 : EnvOk Go.Proofs.Tryz.prog G63 := EnvOk.addE g62 CtrlHear_c CtrlHear_says
end Go.Sx.T

