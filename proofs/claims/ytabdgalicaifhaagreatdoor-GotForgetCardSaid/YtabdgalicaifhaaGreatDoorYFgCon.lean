import Derived.Test.YtabdgalicaifhaaGreatDoorYFgSpec
import Derived.Test.YtabdgalicaifhaaGreatDoorYGotCon
import Derived.Test.YtabdgalicaifhaaGreatDoorYDropF
set_option linter.all false
namespace Go.Sx.T
open Go Go.Sx Go.Proofs
set_option maxRecDepth 100000
noncomputable def G62 : Env := G52.addEW 1 76 73 2 drop_inF drop_outF drop_SCF
theorem g62 : EnvOk Go.Proofs.Tryz.prog G62 := EnvOk.addEW g52 1 76 got_drop_cF drop_saysF

-- ### got_Forget: function 41
def got_Forget_in : Tm := ⟨[.cells 113 [.map 1, .int .u64, .bool, .int .u64, .bool], .map .u64 (.int .i64)], [(0, .w (.at (.ptr 0 0))), (1, .w (.at (.int .u64)))]⟩
def got_Forget_out : Tm := ⟨[.cells 113 [.map 1, .int .u64, .bool, .int .u64, .bool], .map .u64 (.int .i64)], [(0, .tup [])]⟩

def got_Forget_Λd : Loops := Loops.none
def got_Forget_Λ : Loops := got_Forget_Λd 

theorem got_Forget_e (g_l_k : List Int) (g_l_v : List Int) (g_newest : Int) (g_any : Bool) (g_forgotten : Int) (g_forgot : Bool) (s : Int) : got_Forget g_l_k g_l_v g_newest g_any g_forgotten g_forgot s = den G62 got_Forget_Λ false tab Go.Proofs.Tryz.f41.ntmps (fun fr H => finish tab 2 Go.Proofs.Tryz.f41.results.toList got_Forget_out [] fr H some) (fun _ _ _ => none) (fun fr H => finish tab 2 Go.Proofs.Tryz.f41.results.toList got_Forget_out [] fr H some) 10000 [.code (fb Go.Proofs.Tryz.f41)] (instFr got_Forget_in [.li g_l_k, .li g_l_v, .i g_newest, .b g_any, .i g_forgotten, .b g_forgot, .i s]) (instH got_Forget_in [.li g_l_k, .li g_l_v, .i g_newest, .b g_any, .i g_forgotten, .b g_forgot, .i s]) := by kernel_rfl
def got_Forget_S : List Leaf → Option (List Leaf) := fun ls => un_li ls fun g_l_k rr => un_li rr fun g_l_v rr => un_i rr fun g_newest rr => un_b rr fun g_any rr => un_i rr fun g_forgotten rr => un_b rr fun g_forgot rr => un_i rr fun s rr => un_nil rr (got_Forget g_l_k g_l_v g_newest g_any g_forgotten g_forgot s)
def got_Forget_SC : Tld := fun ls k' => un_li ls fun g_l_k rr => un_li rr fun g_l_v rr => un_i rr fun g_newest rr => un_b rr fun g_any rr => un_i rr fun g_forgotten rr => un_b rr fun g_forgot rr => un_i rr fun s rr => un_nil rr (out (got_Forget g_l_k g_l_v g_newest g_any g_forgotten g_forgot s) k')
theorem got_Forget_Se (g_l_k : List Int) (g_l_v : List Int) (g_newest : Int) (g_any : Bool) (g_forgotten : Int) (g_forgot : Bool) (s : Int) : got_Forget_S [.li g_l_k, .li g_l_v, .i g_newest, .b g_any, .i g_forgotten, .b g_forgot, .i s] = got_Forget g_l_k g_l_v g_newest g_any g_forgotten g_forgot s := by
  unfold got_Forget_S
  simp only [un_i_ev, un_b_ev, un_s_ev, un_li_ev, un_lb_ev, un_ls_ev, un_nil_ev]
theorem got_Forget_says : Says got_Forget_SC got_Forget_S := by
  intro β ls' k' r' h'
  unfold got_Forget_SC at h'
  obtain ⟨g_l_k, l'1, rfl, h'1⟩ := un_li_some.1 h'
  obtain ⟨g_l_v, l'2, rfl, h'2⟩ := un_li_some.1 h'1
  obtain ⟨g_newest, l'3, rfl, h'3⟩ := un_i_some.1 h'2
  obtain ⟨g_any, l'4, rfl, h'4⟩ := un_b_some.1 h'3
  obtain ⟨g_forgotten, l'5, rfl, h'5⟩ := un_i_some.1 h'4
  obtain ⟨g_forgot, l'6, rfl, h'6⟩ := un_b_some.1 h'5
  obtain ⟨s, l'7, rfl, h'7⟩ := un_i_some.1 h'6
  obtain ⟨rfl, h'Z⟩ := un_nil_some.1 h'7
  obtain ⟨l', a', b'⟩ := out_some.1 h'Z
  exact ⟨l', (got_Forget_Se g_l_k g_l_v g_newest g_any g_forgotten g_forgot s).trans a', b'⟩
theorem got_Forget_c : FnC Go.Proofs.Tryz.prog 41 false 2 2 got_Forget_in got_Forget_out got_Forget_S := by
  refine fn_ok (Λ := got_Forget_Λ) mixed tab_ok g62 Go.Proofs.Tryz.func41 (by kernel_rfl) (body := fb Go.Proofs.Tryz.f41) rfl (ts := Go.Proofs.Tryz.f41.results.toList) rfl (cuts := []) (by kernel_rfl) (Nat.le_of_ble_eq_true (by kernel_rfl)) (by kernel_rfl) (rt := .tup []) rfl ?_ ?_
  · intro ls' r' h'
    unfold got_Forget_S at h'
    obtain ⟨g_l_k, l'1, rfl, h'1⟩ := un_li_some.1 h'
    obtain ⟨g_l_v, l'2, rfl, h'2⟩ := un_li_some.1 h'1
    obtain ⟨g_newest, l'3, rfl, h'3⟩ := un_i_some.1 h'2
    obtain ⟨g_any, l'4, rfl, h'4⟩ := un_b_some.1 h'3
    obtain ⟨g_forgotten, l'5, rfl, h'5⟩ := un_i_some.1 h'4
    obtain ⟨g_forgot, l'6, rfl, h'6⟩ := un_b_some.1 h'5
    obtain ⟨s, l'7, rfl, h'7⟩ := un_i_some.1 h'6
    obtain ⟨rfl, h'Z⟩ := un_nil_some.1 h'7
    exact (got_Forget_e g_l_k g_l_v g_newest g_any g_forgotten g_forgot s).symm.trans h'Z
  · intro E w0 ws ρ0 hk b hb
    rw [show loopsOf (fb Go.Proofs.Tryz.f41) = [] by kernel_rfl] at hb
    cases hb
noncomputable def G64 : Env := G62.addE 41 2 got_Forget_in got_Forget_out got_Forget_SC
theorem g64 : EnvOk Go.Proofs.Tryz.prog G64 := EnvOk.addE g62 got_Forget_c got_Forget_says
end Go.Sx.T

