import Derived.Test.YtdjnfdcoilgegaaGreatDoorYfSetSpec
import Derived.Test.YtdjnfdcoilgegaaGreatDoorYfRttCon
set_option linter.all false
namespace Go.Sx.T
open Go Go.Sx Go.Proofs
set_option maxRecDepth 100000

-- ### rset_New: function 66
def rset_New_in : Tm := ⟨[], []⟩
def rset_New_out : Tm := ⟨[.cells 163 [.all 1 2], .row 160 2 [.int .i64, .int .u64]], [(0, .w (.at (.ptr 0 0)))]⟩

def rset_New_Λd : Loops := Loops.none
def rset_New_Λ : Loops := rset_New_Λd 

theorem rset_New_e  : rset_New  = den G30 rset_New_Λ false tab Go.Proofs.Tryz.f66.ntmps (fun fr H => finish tab 0 Go.Proofs.Tryz.f66.results.toList rset_New_out [] fr H some) (fun _ _ _ => none) (fun fr H => finish tab 0 Go.Proofs.Tryz.f66.results.toList rset_New_out [] fr H some) 10000 [.code (fb Go.Proofs.Tryz.f66)] (instFr rset_New_in []) (instH rset_New_in []) := by kernel_rfl
def rset_New_S : List Leaf → Option (List Leaf) := fun ls => un_nil ls (rset_New )
def rset_New_SC : Tld := fun ls k' => un_nil ls (out (rset_New ) k')
theorem rset_New_Se  : rset_New_S [] = rset_New  := by
  unfold rset_New_S
  simp only [un_i_ev, un_b_ev, un_s_ev, un_li_ev, un_lb_ev, un_ls_ev, un_nil_ev]
theorem rset_New_says : Says rset_New_SC rset_New_S := by
  intro β ls' k' r' h'
  unfold rset_New_SC at h'
  obtain ⟨rfl, h'Z⟩ := un_nil_some.1 h'
  obtain ⟨l', a', b'⟩ := out_some.1 h'Z
  exact ⟨l', (rset_New_Se ).trans a', b'⟩
theorem rset_New_c : FnC Go.Proofs.Tryz.prog 66 false 0 0 rset_New_in rset_New_out rset_New_S := by
  refine fn_ok (Λ := rset_New_Λ) mixed tab_ok g30 Go.Proofs.Tryz.func66 (by kernel_rfl) (body := fb Go.Proofs.Tryz.f66) rfl (ts := Go.Proofs.Tryz.f66.results.toList) rfl (cuts := []) (by kernel_rfl) (Nat.le_of_ble_eq_true (by kernel_rfl)) (by kernel_rfl) (rt := .w (.at (.ptr 0 0))) rfl ?_ ?_
  · intro ls' r' h'
    unfold rset_New_S at h'
    obtain ⟨rfl, h'Z⟩ := un_nil_some.1 h'
    exact (rset_New_e ).symm.trans h'Z
  · intro E w0 ws ρ0 hk b hb
    rw [show loopsOf (fb Go.Proofs.Tryz.f66) = [] by kernel_rfl] at hb
    cases hb
noncomputable def G31 : Env := G30.addE 66 0 rset_New_in rset_New_out rset_New_SC
theorem g31 : EnvOk Go.Proofs.Tryz.prog G31 := EnvOk.addE g30 rset_New_c rset_New_says

-- ### rset_Only: function 146
def rset_Only_in : Tm := ⟨[.cells 163 [.all 1 2], .row 160 2 [.int .i64, .int .u64]], [(0, .w (.at (.ptr 0 0))), (1, .w (.at (.int .u64))), (2, .w (.at (.int .i64)))]⟩
def rset_Only_out : Tm := ⟨[.cells 163 [.all 2 2], .dead, .row 160 2 [.int .i64, .int .u64]], [(0, .tup [])]⟩

def rset_Only_Λd : Loops := Loops.none
def rset_Only_Λ : Loops := rset_Only_Λd 

theorem rset_Only_e (s_l0 : List Int) (s_l1 : List Int) (x : Int) (now : Int) : rset_Only s_l0 s_l1 x now = den G31 rset_Only_Λ false tab Go.Proofs.Tryz.f146.ntmps (fun fr H => finish tab 2 Go.Proofs.Tryz.f146.results.toList rset_Only_out [] fr H some) (fun _ _ _ => none) (fun fr H => finish tab 2 Go.Proofs.Tryz.f146.results.toList rset_Only_out [] fr H some) 10000 [.code (fb Go.Proofs.Tryz.f146)] (instFr rset_Only_in [.li s_l0, .li s_l1, .i x, .i now]) (instH rset_Only_in [.li s_l0, .li s_l1, .i x, .i now]) := by kernel_rfl
def rset_Only_S : List Leaf → Option (List Leaf) := fun ls => un_li ls fun s_l0 rr => un_li rr fun s_l1 rr => un_i rr fun x rr => un_i rr fun now rr => un_nil rr (rset_Only s_l0 s_l1 x now)
def rset_Only_SC : Tld := fun ls k' => un_li ls fun s_l0 rr => un_li rr fun s_l1 rr => un_i rr fun x rr => un_i rr fun now rr => un_nil rr (out (rset_Only s_l0 s_l1 x now) k')
theorem rset_Only_Se (s_l0 : List Int) (s_l1 : List Int) (x : Int) (now : Int) : rset_Only_S [.li s_l0, .li s_l1, .i x, .i now] = rset_Only s_l0 s_l1 x now := by
  unfold rset_Only_S
  simp only [un_i_ev, un_b_ev, un_s_ev, un_li_ev, un_lb_ev, un_ls_ev, un_nil_ev]
theorem rset_Only_says : Says rset_Only_SC rset_Only_S := by
  intro β ls' k' r' h'
  unfold rset_Only_SC at h'
  obtain ⟨s_l0, l'1, rfl, h'1⟩ := un_li_some.1 h'
  obtain ⟨s_l1, l'2, rfl, h'2⟩ := un_li_some.1 h'1
  obtain ⟨x, l'3, rfl, h'3⟩ := un_i_some.1 h'2
  obtain ⟨now, l'4, rfl, h'4⟩ := un_i_some.1 h'3
  obtain ⟨rfl, h'Z⟩ := un_nil_some.1 h'4
  obtain ⟨l', a', b'⟩ := out_some.1 h'Z
  exact ⟨l', (rset_Only_Se s_l0 s_l1 x now).trans a', b'⟩
theorem rset_Only_c : FnC Go.Proofs.Tryz.prog 146 false 3 2 rset_Only_in rset_Only_out rset_Only_S := by
  refine fn_ok (Λ := rset_Only_Λ) mixed tab_ok g31 Go.Proofs.Tryz.func146 (by kernel_rfl) (body := fb Go.Proofs.Tryz.f146) rfl (ts := Go.Proofs.Tryz.f146.results.toList) rfl (cuts := []) (by kernel_rfl) (Nat.le_of_ble_eq_true (by kernel_rfl)) (by kernel_rfl) (rt := .tup []) rfl ?_ ?_
  · intro ls' r' h'
    unfold rset_Only_S at h'
    obtain ⟨s_l0, l'1, rfl, h'1⟩ := un_li_some.1 h'
    obtain ⟨s_l1, l'2, rfl, h'2⟩ := un_li_some.1 h'1
    obtain ⟨x, l'3, rfl, h'3⟩ := un_i_some.1 h'2
    obtain ⟨now, l'4, rfl, h'4⟩ := un_i_some.1 h'3
    obtain ⟨rfl, h'Z⟩ := un_nil_some.1 h'4
    exact (rset_Only_e s_l0 s_l1 x now).symm.trans h'Z
  · intro E w0 ws ρ0 hk b hb
    rw [show loopsOf (fb Go.Proofs.Tryz.f146) = [] by kernel_rfl] at hb
    cases hb
noncomputable def G32 : Env := G31.addE 146 3 rset_Only_in rset_Only_out rset_Only_SC
theorem g32 : EnvOk Go.Proofs.Tryz.prog G32 := EnvOk.addE g31 rset_Only_c rset_Only_says
end Go.Sx.T

