import Derived.Test.YtllgbgponmkijaaGreatDoorYCKSpec
import Derived.Test.YtllgbgponmkijaaGreatDoorYQACon
set_option linter.all false
namespace Go.Sx.T
open Go Go.Sx Go.Proofs
set_option maxRecDepth 100000
noncomputable def G65 : Env := G64.addM 114 "Kind" 271
theorem g65 : EnvOk Go.Proofs.Tryz.prog G65 := EnvOk.addM g64 (by kernel_rfl) Go.Proofs.Tryz.underlying114
noncomputable def G66 : Env := G65.addM 114 "May" 272
theorem g66 : EnvOk Go.Proofs.Tryz.prog G66 := EnvOk.addM g65 (by kernel_rfl) Go.Proofs.Tryz.underlying114
noncomputable def G67 : Env := G66.addM 114 "Sent" 273
theorem g67 : EnvOk Go.Proofs.Tryz.prog G67 := EnvOk.addM g66 (by kernel_rfl) Go.Proofs.Tryz.underlying114
noncomputable def G68 : Env := G67.addM 114 "Hear" 270
theorem g68 : EnvOk Go.Proofs.Tryz.prog G68 := EnvOk.addM g67 (by kernel_rfl) Go.Proofs.Tryz.underlying114
noncomputable def G69 : Env := G68.addM 114 "Fire" 269
theorem g69 : EnvOk Go.Proofs.Tryz.prog G69 := EnvOk.addM g68 (by kernel_rfl) Go.Proofs.Tryz.underlying114
noncomputable def G70 : Env := G69.addM 114 "Due" 268
theorem g70 : EnvOk Go.Proofs.Tryz.prog G70 := EnvOk.addM g69 (by kernel_rfl) Go.Proofs.Tryz.underlying114
noncomputable def G71 : Env := G70.addM 118 "Kind" 277
theorem g71 : EnvOk Go.Proofs.Tryz.prog G71 := EnvOk.addM g70 (by kernel_rfl) Go.Proofs.Tryz.underlying118
noncomputable def G72 : Env := G71.addM 118 "May" 278
theorem g72 : EnvOk Go.Proofs.Tryz.prog G72 := EnvOk.addM g71 (by kernel_rfl) Go.Proofs.Tryz.underlying118
noncomputable def G73 : Env := G72.addM 118 "Sent" 279
theorem g73 : EnvOk Go.Proofs.Tryz.prog G73 := EnvOk.addM g72 (by kernel_rfl) Go.Proofs.Tryz.underlying118
noncomputable def G74 : Env := G73.addM 118 "Hear" 276
theorem g74 : EnvOk Go.Proofs.Tryz.prog G74 := EnvOk.addM g73 (by kernel_rfl) Go.Proofs.Tryz.underlying118
noncomputable def G75 : Env := G74.addM 118 "Fire" 275
theorem g75 : EnvOk Go.Proofs.Tryz.prog G75 := EnvOk.addM g74 (by kernel_rfl) Go.Proofs.Tryz.underlying118
noncomputable def G76 : Env := G75.addM 118 "Due" 274
theorem g76 : EnvOk Go.Proofs.Tryz.prog G76 := EnvOk.addM g75 (by kernel_rfl) Go.Proofs.Tryz.underlying118
noncomputable def fnsC : Fns := [(34, Go.Proofs.Tryz.f34), (74, Go.Proofs.Tryz.f74), (93, Go.Proofs.Tryz.f93), (75, Go.Proofs.Tryz.f75), (94, Go.Proofs.Tryz.f94), (16, Go.Proofs.Tryz.f16), (271, Go.Proofs.Tryz.f271), (277, Go.Proofs.Tryz.f277), (35, Go.Proofs.Tryz.f35), (36, Go.Proofs.Tryz.f36), (37, Go.Proofs.Tryz.f37), (38, Go.Proofs.Tryz.f38)]
theorem fnsC_ok : FnsOk Go.Proofs.Tryz.prog fnsC := .cons Go.Proofs.Tryz.func34 (by kernel_rfl) <| .cons Go.Proofs.Tryz.func74 (by kernel_rfl) <| .cons Go.Proofs.Tryz.func93 (by kernel_rfl) <| .cons Go.Proofs.Tryz.func75 (by kernel_rfl) <| .cons Go.Proofs.Tryz.func94 (by kernel_rfl) <| .cons Go.Proofs.Tryz.func16 (by kernel_rfl) <| .cons Go.Proofs.Tryz.func271 (by kernel_rfl) <| .cons Go.Proofs.Tryz.func277 (by kernel_rfl) <| .cons Go.Proofs.Tryz.func35 (by kernel_rfl) <| .cons Go.Proofs.Tryz.func36 (by kernel_rfl) <| .cons Go.Proofs.Tryz.func37 (by kernel_rfl) <| .cons Go.Proofs.Tryz.func38 (by kernel_rfl) <| .nil
noncomputable def G77 : Env := inlC fnsC tab G76 8
theorem g77 : EnvOk Go.Proofs.Tryz.prog G77 := EnvOk.inlC mixed tab_ok g76 fnsC_ok 8

-- ### CtrlKinds: function 12
def CtrlKinds_in : Tm := ⟨[], [(0, .w (.at (.int .i64))), (1, .w (.at (.int .i64)))]⟩
def CtrlKinds_out : Tm := ⟨[], [(0, .w (.at (.bool)))]⟩

def CtrlKinds_Λd : Loops := Loops.none
def CtrlKinds_Λ : Loops := CtrlKinds_Λd 

theorem CtrlKinds_e (kind : Int) (size : Int) : CtrlKinds kind size = den G77 CtrlKinds_Λ false tab Go.Proofs.Tryz.f12.ntmps (fun fr H => finish tab 0 Go.Proofs.Tryz.f12.results.toList CtrlKinds_out [] fr H some) (fun _ _ _ => none) (fun fr H => finish tab 0 Go.Proofs.Tryz.f12.results.toList CtrlKinds_out [] fr H some) 10000 [.code (fb Go.Proofs.Tryz.f12)] (instFr CtrlKinds_in [.i kind, .i size]) (instH CtrlKinds_in [.i kind, .i size]) := by kernel_rfl
def CtrlKinds_S : List Leaf → Option (List Leaf) := fun ls => un_i ls fun kind rr => un_i rr fun size rr => un_nil rr (CtrlKinds kind size)
def CtrlKinds_SC : Tld := fun ls k' => un_i ls fun kind rr => un_i rr fun size rr => un_nil rr (out (CtrlKinds kind size) k')
theorem CtrlKinds_Se (kind : Int) (size : Int) : CtrlKinds_S [.i kind, .i size] = CtrlKinds kind size := by
  unfold CtrlKinds_S
  simp only [un_i_ev, un_b_ev, un_s_ev, un_li_ev, un_lb_ev, un_ls_ev, un_nil_ev]
theorem CtrlKinds_says : Says CtrlKinds_SC CtrlKinds_S := by
  intro β ls' k' r' h'
  unfold CtrlKinds_SC at h'
  obtain ⟨kind, l'1, rfl, h'1⟩ := un_i_some.1 h'
  obtain ⟨size, l'2, rfl, h'2⟩ := un_i_some.1 h'1
  obtain ⟨rfl, h'Z⟩ := un_nil_some.1 h'2
  obtain ⟨l', a', b'⟩ := out_some.1 h'Z
  exact ⟨l', (CtrlKinds_Se kind size).trans a', b'⟩
theorem CtrlKinds_c : FnC Go.Proofs.Tryz.prog 12 false 2 0 CtrlKinds_in CtrlKinds_out CtrlKinds_S := by
  refine fn_ok (Λ := CtrlKinds_Λ) mixed tab_ok g77 Go.Proofs.Tryz.func12 (by kernel_rfl) (body := fb Go.Proofs.Tryz.f12) rfl (ts := Go.Proofs.Tryz.f12.results.toList) rfl (cuts := []) (by kernel_rfl) (Nat.le_of_ble_eq_true (by kernel_rfl)) (by kernel_rfl) (rt := .w (.at (.bool))) rfl ?_ ?_
  · intro ls' r' h'
    unfold CtrlKinds_S at h'
    obtain ⟨kind, l'1, rfl, h'1⟩ := un_i_some.1 h'
    obtain ⟨size, l'2, rfl, h'2⟩ := un_i_some.1 h'1
    obtain ⟨rfl, h'Z⟩ := un_nil_some.1 h'2
    exact (CtrlKinds_e kind size).symm.trans h'Z
  · intro E w0 ws ρ0 hk b hb
    rw [show loopsOf (fb Go.Proofs.Tryz.f12) = [] by kernel_rfl] at hb
    cases hb
noncomputable def G78 : Env := G77.addE 12 2 CtrlKinds_in CtrlKinds_out CtrlKinds_SC
theorem g78 : EnvOk Go.Proofs.Tryz.prog G78 := EnvOk.addE g77 CtrlKinds_c CtrlKinds_says
end Go.Sx.T

