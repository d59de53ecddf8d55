import Derived.Test.YtdjnfdcoilgegaaGreatDoorYfRttSpec
import Derived.Test.YtdjnfdcoilgegaaGreatDoorYPaceCon
set_option linter.all false
namespace Go.Sx.T
open Go Go.Sx Go.Proofs
set_option maxRecDepth 100000

-- ### rtt_New: function 67
def rtt_New_in : Tm := ⟨[], []⟩
def rtt_New_out : Tm := ⟨[.cells 165 [.bool, .int .i64, .int .i64, .int .i64]], [(0, .w (.at (.ptr 0 0)))]⟩

def rtt_New_Λd : Loops := Loops.none
def rtt_New_Λ : Loops := rtt_New_Λd 

theorem rtt_New_e  : rtt_New  = den G27 rtt_New_Λ false tab Go.Proofs.Tryz.f67.ntmps (fun fr H => finish tab 0 Go.Proofs.Tryz.f67.results.toList rtt_New_out [] fr H some) (fun _ _ _ => none) (fun fr H => finish tab 0 Go.Proofs.Tryz.f67.results.toList rtt_New_out [] fr H some) 10000 [.code (fb Go.Proofs.Tryz.f67)] (instFr rtt_New_in []) (instH rtt_New_in []) := by kernel_rfl
def rtt_New_S : List Leaf → Option (List Leaf) := fun ls => un_nil ls (rtt_New )
def rtt_New_SC : Tld := fun ls k' => un_nil ls (out (rtt_New ) k')
theorem rtt_New_Se  : rtt_New_S [] = rtt_New  := by
  unfold rtt_New_S
  simp only [un_i_ev, un_b_ev, un_s_ev, un_li_ev, un_lb_ev, un_ls_ev, un_nil_ev]
theorem rtt_New_says : Says rtt_New_SC rtt_New_S := by
  intro β ls' k' r' h'
  unfold rtt_New_SC at h'
  obtain ⟨rfl, h'Z⟩ := un_nil_some.1 h'
  obtain ⟨l', a', b'⟩ := out_some.1 h'Z
  exact ⟨l', (rtt_New_Se ).trans a', b'⟩
theorem rtt_New_c : FnC Go.Proofs.Tryz.prog 67 false 0 0 rtt_New_in rtt_New_out rtt_New_S := by
  refine fn_ok (Λ := rtt_New_Λ) mixed tab_ok g27 Go.Proofs.Tryz.func67 (by kernel_rfl) (body := fb Go.Proofs.Tryz.f67) rfl (ts := Go.Proofs.Tryz.f67.results.toList) rfl (cuts := []) (by kernel_rfl) (Nat.le_of_ble_eq_true (by kernel_rfl)) (by kernel_rfl) (rt := .w (.at (.ptr 0 0))) rfl ?_ ?_
  · intro ls' r' h'
    unfold rtt_New_S at h'
    obtain ⟨rfl, h'Z⟩ := un_nil_some.1 h'
    exact (rtt_New_e ).symm.trans h'Z
  · intro E w0 ws ρ0 hk b hb
    rw [show loopsOf (fb Go.Proofs.Tryz.f67) = [] by kernel_rfl] at hb
    cases hb
noncomputable def G28 : Env := G27.addE 67 0 rtt_New_in rtt_New_out rtt_New_SC
theorem g28 : EnvOk Go.Proofs.Tryz.prog G28 := EnvOk.addE g27 rtt_New_c rtt_New_says

-- ### rtt_Rto: function 96
def rtt_Rto_in : Tm := ⟨[.cells 165 [.bool, .int .i64, .int .i64, .int .i64]], [(0, .w (.at (.ptr 0 0)))]⟩
def rtt_Rto_out : Tm := ⟨[.dead], [(0, .w (.at (.int .i64)))]⟩

def rtt_Rto_Λd : Loops := Loops.none
def rtt_Rto_Λ : Loops := rtt_Rto_Λd 

theorem rtt_Rto_e (r_any : Bool) (r_smooth : Int) (r_spread : Int) (r_rto : Int) : rtt_Rto r_any r_smooth r_spread r_rto = den G28 rtt_Rto_Λ true tab Go.Proofs.Tryz.f96.ntmps (fun fr H => finish tab 1 Go.Proofs.Tryz.f96.results.toList rtt_Rto_out [] fr H some) (fun _ _ _ => none) (fun fr H => finish tab 1 Go.Proofs.Tryz.f96.results.toList rtt_Rto_out [] fr H some) 10000 [.code (fb Go.Proofs.Tryz.f96)] (instFr rtt_Rto_in [.b r_any, .i r_smooth, .i r_spread, .i r_rto]) (instH rtt_Rto_in [.b r_any, .i r_smooth, .i r_spread, .i r_rto]) := by kernel_rfl
def rtt_Rto_S : List Leaf → Option (List Leaf) := fun ls => un_b ls fun r_any rr => un_i rr fun r_smooth rr => un_i rr fun r_spread rr => un_i rr fun r_rto rr => un_nil rr (rtt_Rto r_any r_smooth r_spread r_rto)
def rtt_Rto_SC : Tld := fun ls k' => un_b ls fun r_any rr => un_i rr fun r_smooth rr => un_i rr fun r_spread rr => un_i rr fun r_rto rr => un_nil rr (out (rtt_Rto r_any r_smooth r_spread r_rto) k')
theorem rtt_Rto_Se (r_any : Bool) (r_smooth : Int) (r_spread : Int) (r_rto : Int) : rtt_Rto_S [.b r_any, .i r_smooth, .i r_spread, .i r_rto] = rtt_Rto r_any r_smooth r_spread r_rto := by
  unfold rtt_Rto_S
  simp only [un_i_ev, un_b_ev, un_s_ev, un_li_ev, un_lb_ev, un_ls_ev, un_nil_ev]
theorem rtt_Rto_says : Says rtt_Rto_SC rtt_Rto_S := by
  intro β ls' k' r' h'
  unfold rtt_Rto_SC at h'
  obtain ⟨r_any, l'1, rfl, h'1⟩ := un_b_some.1 h'
  obtain ⟨r_smooth, l'2, rfl, h'2⟩ := un_i_some.1 h'1
  obtain ⟨r_spread, l'3, rfl, h'3⟩ := un_i_some.1 h'2
  obtain ⟨r_rto, l'4, rfl, h'4⟩ := un_i_some.1 h'3
  obtain ⟨rfl, h'Z⟩ := un_nil_some.1 h'4
  obtain ⟨l', a', b'⟩ := out_some.1 h'Z
  exact ⟨l', (rtt_Rto_Se r_any r_smooth r_spread r_rto).trans a', b'⟩
theorem rtt_Rto_c : FnC Go.Proofs.Tryz.prog 96 true 1 1 rtt_Rto_in rtt_Rto_out rtt_Rto_S := by
  refine fn_ok (Λ := rtt_Rto_Λ) mixed tab_ok g28 Go.Proofs.Tryz.func96 (by kernel_rfl) (body := fb Go.Proofs.Tryz.f96) rfl (ts := Go.Proofs.Tryz.f96.results.toList) rfl (cuts := []) (by kernel_rfl) (Nat.le_of_ble_eq_true (by kernel_rfl)) (by kernel_rfl) (rt := .w (.at (.int .i64))) rfl ?_ ?_
  · intro ls' r' h'
    unfold rtt_Rto_S at h'
    obtain ⟨r_any, l'1, rfl, h'1⟩ := un_b_some.1 h'
    obtain ⟨r_smooth, l'2, rfl, h'2⟩ := un_i_some.1 h'1
    obtain ⟨r_spread, l'3, rfl, h'3⟩ := un_i_some.1 h'2
    obtain ⟨r_rto, l'4, rfl, h'4⟩ := un_i_some.1 h'3
    obtain ⟨rfl, h'Z⟩ := un_nil_some.1 h'4
    exact (rtt_Rto_e r_any r_smooth r_spread r_rto).symm.trans h'Z
  · intro E w0 ws ρ0 hk b hb
    rw [show loopsOf (fb Go.Proofs.Tryz.f96) = [] by kernel_rfl] at hb
    cases hb
noncomputable def G29 : Env := G28.addP 96 1 rtt_Rto_in rtt_Rto_out rtt_Rto_SC
theorem g29 : EnvOk Go.Proofs.Tryz.prog G29 := EnvOk.addP g28 rtt_Rto_c rtt_Rto_says

-- ### rtt_Back: function 243
def rtt_Back_in : Tm := ⟨[.cells 165 [.bool, .int .i64, .int .i64, .int .i64]], [(0, .w (.at (.ptr 0 0)))]⟩
def rtt_Back_out : Tm := ⟨[.cells 165 [.bool, .int .i64, .int .i64, .int .i64]], [(0, .tup [])]⟩

def rtt_Back_Λd : Loops := Loops.none
def rtt_Back_Λ : Loops := rtt_Back_Λd 

theorem rtt_Back_e (r_any : Bool) (r_smooth : Int) (r_spread : Int) (r_rto : Int) : rtt_Back r_any r_smooth r_spread r_rto = den G29 rtt_Back_Λ false tab Go.Proofs.Tryz.f243.ntmps (fun fr H => finish tab 1 Go.Proofs.Tryz.f243.results.toList rtt_Back_out [] fr H some) (fun _ _ _ => none) (fun fr H => finish tab 1 Go.Proofs.Tryz.f243.results.toList rtt_Back_out [] fr H some) 10000 [.code (fb Go.Proofs.Tryz.f243)] (instFr rtt_Back_in [.b r_any, .i r_smooth, .i r_spread, .i r_rto]) (instH rtt_Back_in [.b r_any, .i r_smooth, .i r_spread, .i r_rto]) := by kernel_rfl
def rtt_Back_S : List Leaf → Option (List Leaf) := fun ls => un_b ls fun r_any rr => un_i rr fun r_smooth rr => un_i rr fun r_spread rr => un_i rr fun r_rto rr => un_nil rr (rtt_Back r_any r_smooth r_spread r_rto)
def rtt_Back_SC : Tld := fun ls k' => un_b ls fun r_any rr => un_i rr fun r_smooth rr => un_i rr fun r_spread rr => un_i rr fun r_rto rr => un_nil rr (out (rtt_Back r_any r_smooth r_spread r_rto) k')
theorem rtt_Back_Se (r_any : Bool) (r_smooth : Int) (r_spread : Int) (r_rto : Int) : rtt_Back_S [.b r_any, .i r_smooth, .i r_spread, .i r_rto] = rtt_Back r_any r_smooth r_spread r_rto := by
  unfold rtt_Back_S
  simp only [un_i_ev, un_b_ev, un_s_ev, un_li_ev, un_lb_ev, un_ls_ev, un_nil_ev]
theorem rtt_Back_says : Says rtt_Back_SC rtt_Back_S := by
  intro β ls' k' r' h'
  unfold rtt_Back_SC at h'
  obtain ⟨r_any, l'1, rfl, h'1⟩ := un_b_some.1 h'
  obtain ⟨r_smooth, l'2, rfl, h'2⟩ := un_i_some.1 h'1
  obtain ⟨r_spread, l'3, rfl, h'3⟩ := un_i_some.1 h'2
  obtain ⟨r_rto, l'4, rfl, h'4⟩ := un_i_some.1 h'3
  obtain ⟨rfl, h'Z⟩ := un_nil_some.1 h'4
  obtain ⟨l', a', b'⟩ := out_some.1 h'Z
  exact ⟨l', (rtt_Back_Se r_any r_smooth r_spread r_rto).trans a', b'⟩
theorem rtt_Back_c : FnC Go.Proofs.Tryz.prog 243 false 1 1 rtt_Back_in rtt_Back_out rtt_Back_S := by
  refine fn_ok (Λ := rtt_Back_Λ) mixed tab_ok g29 Go.Proofs.Tryz.func243 (by kernel_rfl) (body := fb Go.Proofs.Tryz.f243) rfl (ts := Go.Proofs.Tryz.f243.results.toList) rfl (cuts := []) (by kernel_rfl) (Nat.le_of_ble_eq_true (by kernel_rfl)) (by kernel_rfl) (rt := .tup []) rfl ?_ ?_
  · intro ls' r' h'
    unfold rtt_Back_S at h'
    obtain ⟨r_any, l'1, rfl, h'1⟩ := un_b_some.1 h'
    obtain ⟨r_smooth, l'2, rfl, h'2⟩ := un_i_some.1 h'1
    obtain ⟨r_spread, l'3, rfl, h'3⟩ := un_i_some.1 h'2
    obtain ⟨r_rto, l'4, rfl, h'4⟩ := un_i_some.1 h'3
    obtain ⟨rfl, h'Z⟩ := un_nil_some.1 h'4
    exact (rtt_Back_e r_any r_smooth r_spread r_rto).symm.trans h'Z
  · intro E w0 ws ρ0 hk b hb
    rw [show loopsOf (fb Go.Proofs.Tryz.f243) = [] by kernel_rfl] at hb
    cases hb
noncomputable def G30 : Env := G29.addE 243 1 rtt_Back_in rtt_Back_out rtt_Back_SC
theorem g30 : EnvOk Go.Proofs.Tryz.prog G30 := EnvOk.addE g29 rtt_Back_c rtt_Back_says
end Go.Sx.T

