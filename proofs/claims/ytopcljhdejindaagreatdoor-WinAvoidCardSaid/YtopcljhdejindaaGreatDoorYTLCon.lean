import Derived.Test.YtopcljhdejindaaGreatDoorYTLSpec
import Derived.Test.YtopcljhdejindaaGreatDoorYTfrcCon
set_option linter.all false
namespace Go.Sx.T
open Go Go.Sx Go.Proofs

-- ### TfrcLimited: function 4
def TfrcLimited_in : Tm := ⟨[], [(0, .w (.at (.int .i64))), (1, .w (.at (.int .i64))), (2, .w (.at (.int .u64))), (3, .w (.at (.int .u64))), (4, .w (.at (.int .u64)))]⟩
def TfrcLimited_out : Tm := ⟨[], [(0, .w (.at (.bool)))]⟩

def TfrcLimited_Λd : Loops := Loops.none
def TfrcLimited_Λ : Loops := TfrcLimited_Λd 

theorem TfrcLimited_e (size : Int) (r : Int) (x : Int) (y : Int) (p : Int) : TfrcLimited size r x y p = den G68 TfrcLimited_Λ false tab Go.Proofs.Tryz.f4.ntmps (fun fr H => finish tab 0 Go.Proofs.Tryz.f4.results.toList TfrcLimited_out [] fr H some) (fun _ _ _ => none) (fun fr H => finish tab 0 Go.Proofs.Tryz.f4.results.toList TfrcLimited_out [] fr H some) 10000 [.code (fb Go.Proofs.Tryz.f4)] (instFr TfrcLimited_in [.i size, .i r, .i x, .i y, .i p]) (instH TfrcLimited_in [.i size, .i r, .i x, .i y, .i p]) := by kernel_rfl
def TfrcLimited_S : List Leaf → Option (List Leaf) := fun ls => un_i ls fun size rr => un_i rr fun r rr => un_i rr fun x rr => un_i rr fun y rr => un_i rr fun p rr => un_nil rr (TfrcLimited size r x y p)
def TfrcLimited_SC : Tld := fun ls k' => un_i ls fun size rr => un_i rr fun r rr => un_i rr fun x rr => un_i rr fun y rr => un_i rr fun p rr => un_nil rr (out (TfrcLimited size r x y p) k')
theorem TfrcLimited_Se (size : Int) (r : Int) (x : Int) (y : Int) (p : Int) : TfrcLimited_S [.i size, .i r, .i x, .i y, .i p] = TfrcLimited size r x y p := by
  unfold TfrcLimited_S
  simp only [un_i_ev, un_b_ev, un_s_ev, un_li_ev, un_lb_ev, un_ls_ev, un_nil_ev]
theorem TfrcLimited_says : Says TfrcLimited_SC TfrcLimited_S := by
  intro β ls' k' r' h'
  unfold TfrcLimited_SC at h'
  obtain ⟨size, l'1, rfl, h'1⟩ := un_i_some.1 h'
  obtain ⟨r, l'2, rfl, h'2⟩ := un_i_some.1 h'1
  obtain ⟨x, l'3, rfl, h'3⟩ := un_i_some.1 h'2
  obtain ⟨y, l'4, rfl, h'4⟩ := un_i_some.1 h'3
  obtain ⟨p, l'5, rfl, h'5⟩ := un_i_some.1 h'4
  obtain ⟨rfl, h'Z⟩ := un_nil_some.1 h'5
  obtain ⟨l', a', b'⟩ := out_some.1 h'Z
  exact ⟨l', (TfrcLimited_Se size r x y p).trans a', b'⟩
theorem TfrcLimited_c : FnC Go.Proofs.Tryz.prog 4 false 5 0 TfrcLimited_in TfrcLimited_out TfrcLimited_S := by
  refine fn_ok (Λ := TfrcLimited_Λ) mixed tab_ok g68 Go.Proofs.Tryz.func4 (by kernel_rfl) (body := fb Go.Proofs.Tryz.f4) rfl (ts := Go.Proofs.Tryz.f4.results.toList) rfl (cuts := []) (by kernel_rfl) (Nat.le_of_ble_eq_true (by kernel_rfl)) (by kernel_rfl) (rt := .w (.at (.bool))) rfl ?_ ?_
  · intro ls' r' h'
    unfold TfrcLimited_S at h'
    obtain ⟨size, l'1, rfl, h'1⟩ := un_i_some.1 h'
    obtain ⟨r, l'2, rfl, h'2⟩ := un_i_some.1 h'1
    obtain ⟨x, l'3, rfl, h'3⟩ := un_i_some.1 h'2
    obtain ⟨y, l'4, rfl, h'4⟩ := un_i_some.1 h'3
    obtain ⟨p, l'5, rfl, h'5⟩ := un_i_some.1 h'4
    obtain ⟨rfl, h'Z⟩ := un_nil_some.1 h'5
    exact (TfrcLimited_e size r x y p).symm.trans h'Z
  · intro E w0 ws ρ0 hk b hb
    rw [show loopsOf (fb Go.Proofs.Tryz.f4) = [] by kernel_rfl] at hb
    cases hb
def G69 : Env := G68.addE 4 5 TfrcLimited_in TfrcLimited_out TfrcLimited_SC
theorem g69 : EnvOk Go.Proofs.Tryz.prog G69 := EnvOk.addE g68 TfrcLimited_c TfrcLimited_says
end Go.Sx.T

