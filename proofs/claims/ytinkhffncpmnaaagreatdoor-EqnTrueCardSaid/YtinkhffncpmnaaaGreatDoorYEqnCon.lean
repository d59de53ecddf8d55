/- What the functions do, by program. -/
import Derived.Test.YtinkhffncpmnaaaGreatDoorYEqnSpec
import Derived.Test.YtinkhffncpmnaaaGreatDoorYFixCon
set_option linter.all false
namespace Go.Sx.T
open Go Go.Sx Go.Proofs

-- ### EqnAll: function 4
def EqnAll_in : Tm := ⟨[], [(0, .w (.at (.int .u64))), (1, .w (.at (.int .u64))), (2, .w (.at (.int .u64)))]⟩
def EqnAll_out : Tm := ⟨[], [(0, .w (.at (.bool)))]⟩

def EqnAll_Λd : Loops := Loops.none
def EqnAll_Λ : Loops := EqnAll_Λd 

theorem EqnAll_e (s : Int) (r : Int) (n2 : Int) : EqnAll s r n2 = den G29 EqnAll_Λ false tab Go.Proofs.Tryz.f4.ntmps (fun fr H => finish tab 0 Go.Proofs.Tryz.f4.results.toList EqnAll_out [] fr H some) (fun _ _ _ => none) (fun fr H => finish tab 0 Go.Proofs.Tryz.f4.results.toList EqnAll_out [] fr H some) 10000 [.code (fb Go.Proofs.Tryz.f4)] (instFr EqnAll_in [.i s, .i r, .i n2]) (instH EqnAll_in [.i s, .i r, .i n2]) := by kernel_rfl
def EqnAll_S : List Leaf → Option (List Leaf) := fun ls => un_i ls fun s rr => un_i rr fun r rr => un_i rr fun n2 rr => un_nil rr (EqnAll s r n2)
def EqnAll_SC : Tld := fun ls k => un_i ls fun s rr => un_i rr fun r rr => un_i rr fun n2 rr => un_nil rr (out (EqnAll s r n2) k)
theorem EqnAll_Se (s : Int) (r : Int) (n2 : Int) : EqnAll_S [.i s, .i r, .i n2] = EqnAll s r n2 := by
  unfold EqnAll_S
  simp only [un_i_ev, un_b_ev, un_s_ev, un_li_ev, un_lb_ev, un_ls_ev, un_nil_ev]
theorem EqnAll_says : Says EqnAll_SC EqnAll_S := by
  intro β ls' k' r' h'
  unfold EqnAll_SC at h'
  obtain ⟨s, l'1, rfl, h'1⟩ := un_i_some.1 h'
  obtain ⟨r, l'2, rfl, h'2⟩ := un_i_some.1 h'1
  obtain ⟨n2, l'3, rfl, h'3⟩ := un_i_some.1 h'2
  obtain ⟨rfl, h'Z⟩ := un_nil_some.1 h'3
  obtain ⟨l', a', b'⟩ := out_some.1 h'Z
  exact ⟨l', (EqnAll_Se s r n2).trans a', b'⟩
theorem EqnAll_c : FnC Go.Proofs.Tryz.prog 4 false 3 0 EqnAll_in EqnAll_out EqnAll_S := by
  refine fn_ok (Λ := EqnAll_Λ) mixed tab_ok g29 Go.Proofs.Tryz.func4 (by kernel_rfl) (body := fb Go.Proofs.Tryz.f4) rfl (ts := Go.Proofs.Tryz.f4.results.toList) rfl (cuts := []) (by kernel_rfl) (Nat.le_of_ble_eq_true (by kernel_rfl)) (by kernel_rfl) (rt := .w (.at (.bool))) rfl ?_ ?_
  · intro ls' r' h'
    unfold EqnAll_S at h'
    obtain ⟨s, l'1, rfl, h'1⟩ := un_i_some.1 h'
    obtain ⟨r, l'2, rfl, h'2⟩ := un_i_some.1 h'1
    obtain ⟨n2, l'3, rfl, h'3⟩ := un_i_some.1 h'2
    obtain ⟨rfl, h'Z⟩ := un_nil_some.1 h'3
    exact (EqnAll_e s r n2).symm.trans h'Z
  · intro E w0 ws ρ0 hk b hb
    rw [show loopsOf (fb Go.Proofs.Tryz.f4) = [] by kernel_rfl] at hb
    cases hb
def G30 : Env := G29.addE 4 3 EqnAll_in EqnAll_out EqnAll_SC
theorem g30 : EnvOk Go.Proofs.Tryz.prog G30 := EnvOk.addE g29 EqnAll_c EqnAll_says

-- ### EqnOrder: function 5
def EqnOrder_in : Tm := ⟨[], [(0, .w (.at (.int .u64))), (1, .w (.at (.int .u64))), (2, .w (.at (.int .u64))), (3, .w (.at (.int .u64))), (4, .w (.at (.int .u64))), (5, .w (.at (.int .u64)))]⟩
def EqnOrder_out : Tm := ⟨[], [(0, .w (.at (.bool)))]⟩

def EqnOrder_Λd : Loops := Loops.none
def EqnOrder_Λ : Loops := EqnOrder_Λd 

theorem EqnOrder_e (s : Int) (r : Int) (n2 : Int) (a : Int) (b : Int) (c : Int) : EqnOrder s r n2 a b c = den G30 EqnOrder_Λ false tab Go.Proofs.Tryz.f5.ntmps (fun fr H => finish tab 0 Go.Proofs.Tryz.f5.results.toList EqnOrder_out [] fr H some) (fun _ _ _ => none) (fun fr H => finish tab 0 Go.Proofs.Tryz.f5.results.toList EqnOrder_out [] fr H some) 10000 [.code (fb Go.Proofs.Tryz.f5)] (instFr EqnOrder_in [.i s, .i r, .i n2, .i a, .i b, .i c]) (instH EqnOrder_in [.i s, .i r, .i n2, .i a, .i b, .i c]) := by kernel_rfl
def EqnOrder_S : List Leaf → Option (List Leaf) := fun ls => un_i ls fun s rr => un_i rr fun r rr => un_i rr fun n2 rr => un_i rr fun a rr => un_i rr fun b rr => un_i rr fun c rr => un_nil rr (EqnOrder s r n2 a b c)
def EqnOrder_SC : Tld := fun ls k => un_i ls fun s rr => un_i rr fun r rr => un_i rr fun n2 rr => un_i rr fun a rr => un_i rr fun b rr => un_i rr fun c rr => un_nil rr (out (EqnOrder s r n2 a b c) k)
theorem EqnOrder_Se (s : Int) (r : Int) (n2 : Int) (a : Int) (b : Int) (c : Int) : EqnOrder_S [.i s, .i r, .i n2, .i a, .i b, .i c] = EqnOrder s r n2 a b c := by
  unfold EqnOrder_S
  simp only [un_i_ev, un_b_ev, un_s_ev, un_li_ev, un_lb_ev, un_ls_ev, un_nil_ev]
theorem EqnOrder_says : Says EqnOrder_SC EqnOrder_S := by
  intro β ls' k' r' h'
  unfold EqnOrder_SC at h'
  obtain ⟨s, l'1, rfl, h'1⟩ := un_i_some.1 h'
  obtain ⟨r, l'2, rfl, h'2⟩ := un_i_some.1 h'1
  obtain ⟨n2, l'3, rfl, h'3⟩ := un_i_some.1 h'2
  obtain ⟨a, l'4, rfl, h'4⟩ := un_i_some.1 h'3
  obtain ⟨b, l'5, rfl, h'5⟩ := un_i_some.1 h'4
  obtain ⟨c, l'6, rfl, h'6⟩ := un_i_some.1 h'5
  obtain ⟨rfl, h'Z⟩ := un_nil_some.1 h'6
  obtain ⟨l', a', b'⟩ := out_some.1 h'Z
  exact ⟨l', (EqnOrder_Se s r n2 a b c).trans a', b'⟩
theorem EqnOrder_c : FnC Go.Proofs.Tryz.prog 5 false 6 0 EqnOrder_in EqnOrder_out EqnOrder_S := by
  refine fn_ok (Λ := EqnOrder_Λ) mixed tab_ok g30 Go.Proofs.Tryz.func5 (by kernel_rfl) (body := fb Go.Proofs.Tryz.f5) rfl (ts := Go.Proofs.Tryz.f5.results.toList) rfl (cuts := []) (by kernel_rfl) (Nat.le_of_ble_eq_true (by kernel_rfl)) (by kernel_rfl) (rt := .w (.at (.bool))) rfl ?_ ?_
  · intro ls' r' h'
    unfold EqnOrder_S at h'
    obtain ⟨s, l'1, rfl, h'1⟩ := un_i_some.1 h'
    obtain ⟨r, l'2, rfl, h'2⟩ := un_i_some.1 h'1
    obtain ⟨n2, l'3, rfl, h'3⟩ := un_i_some.1 h'2
    obtain ⟨a, l'4, rfl, h'4⟩ := un_i_some.1 h'3
    obtain ⟨b, l'5, rfl, h'5⟩ := un_i_some.1 h'4
    obtain ⟨c, l'6, rfl, h'6⟩ := un_i_some.1 h'5
    obtain ⟨rfl, h'Z⟩ := un_nil_some.1 h'6
    exact (EqnOrder_e s r n2 a b c).symm.trans h'Z
  · intro E w0 ws ρ0 hk b hb
    rw [show loopsOf (fb Go.Proofs.Tryz.f5) = [] by kernel_rfl] at hb
    cases hb
def G31 : Env := G30.addE 5 6 EqnOrder_in EqnOrder_out EqnOrder_SC
theorem g31 : EnvOk Go.Proofs.Tryz.prog G31 := EnvOk.addE g30 EqnOrder_c EqnOrder_says

-- ### bracket: function 36
def bracket_in : Tm := ⟨[], [(0, .w (.at (.int .u64)))]⟩
def bracket_out : Tm := ⟨[], [(0, .tup [.at (.int .u64), .at (.int .u64)])]⟩

def bracket_Λd : Loops := Loops.none
def bracket_Λ : Loops := bracket_Λd 

theorem bracket_e (n2 : Int) : bracket n2 = den G31 bracket_Λ true tab Go.Proofs.Tryz.f36.ntmps (fun fr H => finish tab 0 Go.Proofs.Tryz.f36.results.toList bracket_out [] fr H some) (fun _ _ _ => none) (fun fr H => finish tab 0 Go.Proofs.Tryz.f36.results.toList bracket_out [] fr H some) 10000 [.code (fb Go.Proofs.Tryz.f36)] (instFr bracket_in [.i n2]) (instH bracket_in [.i n2]) := by kernel_rfl
def bracket_S : List Leaf → Option (List Leaf) := fun ls => un_i ls fun n2 rr => un_nil rr (bracket n2)
def bracket_SC : Tld := fun ls k => un_i ls fun n2 rr => un_nil rr (out (bracket n2) k)
theorem bracket_Se (n2 : Int) : bracket_S [.i n2] = bracket n2 := by
  unfold bracket_S
  simp only [un_i_ev, un_b_ev, un_s_ev, un_li_ev, un_lb_ev, un_ls_ev, un_nil_ev]
theorem bracket_says : Says bracket_SC bracket_S := by
  intro β ls' k' r' h'
  unfold bracket_SC at h'
  obtain ⟨n2, l'1, rfl, h'1⟩ := un_i_some.1 h'
  obtain ⟨rfl, h'Z⟩ := un_nil_some.1 h'1
  obtain ⟨l', a', b'⟩ := out_some.1 h'Z
  exact ⟨l', (bracket_Se n2).trans a', b'⟩
theorem bracket_c : FnC Go.Proofs.Tryz.prog 36 true 1 0 bracket_in bracket_out bracket_S := by
  refine fn_ok (Λ := bracket_Λ) mixed tab_ok g31 Go.Proofs.Tryz.func36 (by kernel_rfl) (body := fb Go.Proofs.Tryz.f36) rfl (ts := Go.Proofs.Tryz.f36.results.toList) rfl (cuts := []) (by kernel_rfl) (Nat.le_of_ble_eq_true (by kernel_rfl)) (by kernel_rfl) (rt := .tup [.at (.int .u64), .at (.int .u64)]) rfl ?_ ?_
  · intro ls' r' h'
    unfold bracket_S at h'
    obtain ⟨n2, l'1, rfl, h'1⟩ := un_i_some.1 h'
    obtain ⟨rfl, h'Z⟩ := un_nil_some.1 h'1
    exact (bracket_e n2).symm.trans h'Z
  · intro E w0 ws ρ0 hk b hb
    rw [show loopsOf (fb Go.Proofs.Tryz.f36) = [] by kernel_rfl] at hb
    cases hb
def G32 : Env := G31.addP 36 1 bracket_in bracket_out bracket_SC
theorem g32 : EnvOk Go.Proofs.Tryz.prog G32 := EnvOk.addP g31 bracket_c bracket_says

-- ### EqnTrue: function 11
def EqnTrue_in : Tm := ⟨[], [(0, .w (.at (.int .u64))), (1, .w (.at (.int .u64))), (2, .w (.at (.int .u64)))]⟩
def EqnTrue_out : Tm := ⟨[], [(0, .w (.at (.bool)))]⟩

def EqnTrue_Λd : Loops := Loops.none
def EqnTrue_Λ : Loops := EqnTrue_Λd 

theorem EqnTrue_e (s : Int) (r : Int) (n2 : Int) : EqnTrue s r n2 = den G32 EqnTrue_Λ false tab Go.Proofs.Tryz.f11.ntmps (fun fr H => finish tab 0 Go.Proofs.Tryz.f11.results.toList EqnTrue_out [] fr H some) (fun _ _ _ => none) (fun fr H => finish tab 0 Go.Proofs.Tryz.f11.results.toList EqnTrue_out [] fr H some) 10000 [.code (fb Go.Proofs.Tryz.f11)] (instFr EqnTrue_in [.i s, .i r, .i n2]) (instH EqnTrue_in [.i s, .i r, .i n2]) := by kernel_rfl
def EqnTrue_S : List Leaf → Option (List Leaf) := fun ls => un_i ls fun s rr => un_i rr fun r rr => un_i rr fun n2 rr => un_nil rr (EqnTrue s r n2)
def EqnTrue_SC : Tld := fun ls k => un_i ls fun s rr => un_i rr fun r rr => un_i rr fun n2 rr => un_nil rr (out (EqnTrue s r n2) k)
theorem EqnTrue_Se (s : Int) (r : Int) (n2 : Int) : EqnTrue_S [.i s, .i r, .i n2] = EqnTrue s r n2 := by
  unfold EqnTrue_S
  simp only [un_i_ev, un_b_ev, un_s_ev, un_li_ev, un_lb_ev, un_ls_ev, un_nil_ev]
theorem EqnTrue_says : Says EqnTrue_SC EqnTrue_S := by
  intro β ls' k' r' h'
  unfold EqnTrue_SC at h'
  obtain ⟨s, l'1, rfl, h'1⟩ := un_i_some.1 h'
  obtain ⟨r, l'2, rfl, h'2⟩ := un_i_some.1 h'1
  obtain ⟨n2, l'3, rfl, h'3⟩ := un_i_some.1 h'2
  obtain ⟨rfl, h'Z⟩ := un_nil_some.1 h'3
  obtain ⟨l', a', b'⟩ := out_some.1 h'Z
  exact ⟨l', (EqnTrue_Se s r n2).trans a', b'⟩
theorem EqnTrue_c : FnC Go.Proofs.Tryz.prog 11 false 3 0 EqnTrue_in EqnTrue_out EqnTrue_S := by
  refine fn_ok (Λ := EqnTrue_Λ) mixed tab_ok g32 Go.Proofs.Tryz.func11 (by kernel_rfl) (body := fb Go.Proofs.Tryz.f11) rfl (ts := Go.Proofs.Tryz.f11.results.toList) rfl (cuts := []) (by kernel_rfl) (Nat.le_of_ble_eq_true (by kernel_rfl)) (by kernel_rfl) (rt := .w (.at (.bool))) rfl ?_ ?_
  · intro ls' r' h'
    unfold EqnTrue_S at h'
    obtain ⟨s, l'1, rfl, h'1⟩ := un_i_some.1 h'
    obtain ⟨r, l'2, rfl, h'2⟩ := un_i_some.1 h'1
    obtain ⟨n2, l'3, rfl, h'3⟩ := un_i_some.1 h'2
    obtain ⟨rfl, h'Z⟩ := un_nil_some.1 h'3
    exact (EqnTrue_e s r n2).symm.trans h'Z
  · intro E w0 ws ρ0 hk b hb
    rw [show loopsOf (fb Go.Proofs.Tryz.f11) = [] by kernel_rfl] at hb
    cases hb
def G33 : Env := G32.addE 11 3 EqnTrue_in EqnTrue_out EqnTrue_SC
theorem g33 : EnvOk Go.Proofs.Tryz.prog G33 := EnvOk.addE g32 EqnTrue_c EqnTrue_says
end Go.Sx.T
