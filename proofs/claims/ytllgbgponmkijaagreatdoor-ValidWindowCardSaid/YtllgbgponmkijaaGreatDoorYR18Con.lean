import Derived.Test.YtllgbgponmkijaaGreatDoorYR18Spec
import Derived.Test.YtllgbgponmkijaaGreatDoorYVSCon
set_option linter.all false
namespace Go.Sx.T
open Go Go.Sx Go.Proofs
set_option maxRecDepth 100000

-- ### ref_Diff: function 91
def ref_Diff_in : Tm := ⟨[], [(0, .w (.at (.int .u64))), (1, .w (.at (.int .u64)))]⟩
def ref_Diff_out : Tm := ⟨[], [(0, .w (.at (.int .i64)))]⟩

def ref_Diff_Λd : Loops := Loops.none
def ref_Diff_Λ : Loops := ref_Diff_Λd 

theorem ref_Diff_e (a : Int) (b : Int) : ref_Diff a b = den G45 ref_Diff_Λ true tab Go.Proofs.Tryz.f91.ntmps (fun fr H => finish tab 0 Go.Proofs.Tryz.f91.results.toList ref_Diff_out [] fr H some) (fun _ _ _ => none) (fun fr H => finish tab 0 Go.Proofs.Tryz.f91.results.toList ref_Diff_out [] fr H some) 10000 [.code (fb Go.Proofs.Tryz.f91)] (instFr ref_Diff_in [.i a, .i b]) (instH ref_Diff_in [.i a, .i b]) := by kernel_rfl
def ref_Diff_S : List Leaf → Option (List Leaf) := fun ls => un_i ls fun a rr => un_i rr fun b rr => un_nil rr (ref_Diff a b)
def ref_Diff_SC : Tld := fun ls k' => un_i ls fun a rr => un_i rr fun b rr => un_nil rr (out (ref_Diff a b) k')
theorem ref_Diff_Se (a : Int) (b : Int) : ref_Diff_S [.i a, .i b] = ref_Diff a b := by
  unfold ref_Diff_S
  simp only [un_i_ev, un_b_ev, un_s_ev, un_li_ev, un_lb_ev, un_ls_ev, un_nil_ev]
theorem ref_Diff_says : Says ref_Diff_SC ref_Diff_S := by
  intro β ls' k' r' h'
  unfold ref_Diff_SC at h'
  obtain ⟨a, l'1, rfl, h'1⟩ := un_i_some.1 h'
  obtain ⟨b, l'2, rfl, h'2⟩ := un_i_some.1 h'1
  obtain ⟨rfl, h'Z⟩ := un_nil_some.1 h'2
  obtain ⟨l', a', b'⟩ := out_some.1 h'Z
  exact ⟨l', (ref_Diff_Se a b).trans a', b'⟩
theorem ref_Diff_c : FnC Go.Proofs.Tryz.prog 91 true 2 0 ref_Diff_in ref_Diff_out ref_Diff_S := by
  refine fn_ok (Λ := ref_Diff_Λ) mixed tab_ok g45 Go.Proofs.Tryz.func91 (by kernel_rfl) (body := fb Go.Proofs.Tryz.f91) rfl (ts := Go.Proofs.Tryz.f91.results.toList) rfl (cuts := []) (by kernel_rfl) (Nat.le_of_ble_eq_true (by kernel_rfl)) (by kernel_rfl) (rt := .w (.at (.int .i64))) rfl ?_ ?_
  · intro ls' r' h'
    unfold ref_Diff_S at h'
    obtain ⟨a, l'1, rfl, h'1⟩ := un_i_some.1 h'
    obtain ⟨b, l'2, rfl, h'2⟩ := un_i_some.1 h'1
    obtain ⟨rfl, h'Z⟩ := un_nil_some.1 h'2
    exact (ref_Diff_e a b).symm.trans h'Z
  · intro E w0 ws ρ0 hk b hb
    rw [show loopsOf (fb Go.Proofs.Tryz.f91) = [] by kernel_rfl] at hb
    cases hb
noncomputable def G46 : Env := G45.addP 91 2 ref_Diff_in ref_Diff_out ref_Diff_SC
theorem g46 : EnvOk Go.Proofs.Tryz.prog G46 := EnvOk.addP g45 ref_Diff_c ref_Diff_says

-- ### ref_Less: function 70
def ref_Less_in : Tm := ⟨[], [(0, .w (.at (.int .u64))), (1, .w (.at (.int .u64)))]⟩
def ref_Less_out : Tm := ⟨[], [(0, .w (.at (.bool)))]⟩

def ref_Less_Λd : Loops := Loops.none
def ref_Less_Λ : Loops := ref_Less_Λd 

theorem ref_Less_e (a : Int) (b : Int) : ref_Less a b = den G46 ref_Less_Λ true tab Go.Proofs.Tryz.f70.ntmps (fun fr H => finish tab 0 Go.Proofs.Tryz.f70.results.toList ref_Less_out [] fr H some) (fun _ _ _ => none) (fun fr H => finish tab 0 Go.Proofs.Tryz.f70.results.toList ref_Less_out [] fr H some) 10000 [.code (fb Go.Proofs.Tryz.f70)] (instFr ref_Less_in [.i a, .i b]) (instH ref_Less_in [.i a, .i b]) := by kernel_rfl
def ref_Less_S : List Leaf → Option (List Leaf) := fun ls => un_i ls fun a rr => un_i rr fun b rr => un_nil rr (ref_Less a b)
def ref_Less_SC : Tld := fun ls k' => un_i ls fun a rr => un_i rr fun b rr => un_nil rr (out (ref_Less a b) k')
theorem ref_Less_Se (a : Int) (b : Int) : ref_Less_S [.i a, .i b] = ref_Less a b := by
  unfold ref_Less_S
  simp only [un_i_ev, un_b_ev, un_s_ev, un_li_ev, un_lb_ev, un_ls_ev, un_nil_ev]
theorem ref_Less_says : Says ref_Less_SC ref_Less_S := by
  intro β ls' k' r' h'
  unfold ref_Less_SC at h'
  obtain ⟨a, l'1, rfl, h'1⟩ := un_i_some.1 h'
  obtain ⟨b, l'2, rfl, h'2⟩ := un_i_some.1 h'1
  obtain ⟨rfl, h'Z⟩ := un_nil_some.1 h'2
  obtain ⟨l', a', b'⟩ := out_some.1 h'Z
  exact ⟨l', (ref_Less_Se a b).trans a', b'⟩
theorem ref_Less_c : FnC Go.Proofs.Tryz.prog 70 true 2 0 ref_Less_in ref_Less_out ref_Less_S := by
  refine fn_ok (Λ := ref_Less_Λ) mixed tab_ok g46 Go.Proofs.Tryz.func70 (by kernel_rfl) (body := fb Go.Proofs.Tryz.f70) rfl (ts := Go.Proofs.Tryz.f70.results.toList) rfl (cuts := []) (by kernel_rfl) (Nat.le_of_ble_eq_true (by kernel_rfl)) (by kernel_rfl) (rt := .w (.at (.bool))) rfl ?_ ?_
  · intro ls' r' h'
    unfold ref_Less_S at h'
    obtain ⟨a, l'1, rfl, h'1⟩ := un_i_some.1 h'
    obtain ⟨b, l'2, rfl, h'2⟩ := un_i_some.1 h'1
    obtain ⟨rfl, h'Z⟩ := un_nil_some.1 h'2
    exact (ref_Less_e a b).symm.trans h'Z
  · intro E w0 ws ρ0 hk b hb
    rw [show loopsOf (fb Go.Proofs.Tryz.f70) = [] by kernel_rfl] at hb
    cases hb
noncomputable def G47 : Env := G46.addP 70 2 ref_Less_in ref_Less_out ref_Less_SC
theorem g47 : EnvOk Go.Proofs.Tryz.prog G47 := EnvOk.addP g46 ref_Less_c ref_Less_says

-- ### ref_In: function 68
def ref_In_in : Tm := ⟨[], [(0, .w (.at (.int .u64))), (1, .w (.at (.int .u64))), (2, .w (.at (.int .u64)))]⟩
def ref_In_out : Tm := ⟨[], [(0, .w (.at (.bool)))]⟩

def ref_In_Λd : Loops := Loops.none
def ref_In_Λ : Loops := ref_In_Λd 

theorem ref_In_e (low : Int) (s : Int) (high : Int) : ref_In low s high = den G47 ref_In_Λ true tab Go.Proofs.Tryz.f68.ntmps (fun fr H => finish tab 0 Go.Proofs.Tryz.f68.results.toList ref_In_out [] fr H some) (fun _ _ _ => none) (fun fr H => finish tab 0 Go.Proofs.Tryz.f68.results.toList ref_In_out [] fr H some) 10000 [.code (fb Go.Proofs.Tryz.f68)] (instFr ref_In_in [.i low, .i s, .i high]) (instH ref_In_in [.i low, .i s, .i high]) := by kernel_rfl
def ref_In_S : List Leaf → Option (List Leaf) := fun ls => un_i ls fun low rr => un_i rr fun s rr => un_i rr fun high rr => un_nil rr (ref_In low s high)
def ref_In_SC : Tld := fun ls k' => un_i ls fun low rr => un_i rr fun s rr => un_i rr fun high rr => un_nil rr (out (ref_In low s high) k')
theorem ref_In_Se (low : Int) (s : Int) (high : Int) : ref_In_S [.i low, .i s, .i high] = ref_In low s high := by
  unfold ref_In_S
  simp only [un_i_ev, un_b_ev, un_s_ev, un_li_ev, un_lb_ev, un_ls_ev, un_nil_ev]
theorem ref_In_says : Says ref_In_SC ref_In_S := by
  intro β ls' k' r' h'
  unfold ref_In_SC at h'
  obtain ⟨low, l'1, rfl, h'1⟩ := un_i_some.1 h'
  obtain ⟨s, l'2, rfl, h'2⟩ := un_i_some.1 h'1
  obtain ⟨high, l'3, rfl, h'3⟩ := un_i_some.1 h'2
  obtain ⟨rfl, h'Z⟩ := un_nil_some.1 h'3
  obtain ⟨l', a', b'⟩ := out_some.1 h'Z
  exact ⟨l', (ref_In_Se low s high).trans a', b'⟩
theorem ref_In_c : FnC Go.Proofs.Tryz.prog 68 true 3 0 ref_In_in ref_In_out ref_In_S := by
  refine fn_ok (Λ := ref_In_Λ) mixed tab_ok g47 Go.Proofs.Tryz.func68 (by kernel_rfl) (body := fb Go.Proofs.Tryz.f68) rfl (ts := Go.Proofs.Tryz.f68.results.toList) rfl (cuts := []) (by kernel_rfl) (Nat.le_of_ble_eq_true (by kernel_rfl)) (by kernel_rfl) (rt := .w (.at (.bool))) rfl ?_ ?_
  · intro ls' r' h'
    unfold ref_In_S at h'
    obtain ⟨low, l'1, rfl, h'1⟩ := un_i_some.1 h'
    obtain ⟨s, l'2, rfl, h'2⟩ := un_i_some.1 h'1
    obtain ⟨high, l'3, rfl, h'3⟩ := un_i_some.1 h'2
    obtain ⟨rfl, h'Z⟩ := un_nil_some.1 h'3
    exact (ref_In_e low s high).symm.trans h'Z
  · intro E w0 ws ρ0 hk b hb
    rw [show loopsOf (fb Go.Proofs.Tryz.f68) = [] by kernel_rfl] at hb
    cases hb
noncomputable def G48 : Env := G47.addP 68 3 ref_In_in ref_In_out ref_In_SC
theorem g48 : EnvOk Go.Proofs.Tryz.prog G48 := EnvOk.addP g47 ref_In_c ref_In_says

-- ### r18_further: function 90
def r18_further_in : Tm := ⟨[], [(0, .w (.at (.int .u64))), (1, .w (.at (.int .u64)))]⟩
def r18_further_out : Tm := ⟨[], [(0, .w (.at (.int .u64)))]⟩

def r18_further_Λd : Loops := Loops.none
def r18_further_Λ : Loops := r18_further_Λd 

theorem r18_further_e (a : Int) (b : Int) : r18_further a b = den G48 r18_further_Λ true tab Go.Proofs.Tryz.f90.ntmps (fun fr H => finish tab 0 Go.Proofs.Tryz.f90.results.toList r18_further_out [] fr H some) (fun _ _ _ => none) (fun fr H => finish tab 0 Go.Proofs.Tryz.f90.results.toList r18_further_out [] fr H some) 10000 [.code (fb Go.Proofs.Tryz.f90)] (instFr r18_further_in [.i a, .i b]) (instH r18_further_in [.i a, .i b]) := by kernel_rfl
def r18_further_S : List Leaf → Option (List Leaf) := fun ls => un_i ls fun a rr => un_i rr fun b rr => un_nil rr (r18_further a b)
def r18_further_SC : Tld := fun ls k' => un_i ls fun a rr => un_i rr fun b rr => un_nil rr (out (r18_further a b) k')
theorem r18_further_Se (a : Int) (b : Int) : r18_further_S [.i a, .i b] = r18_further a b := by
  unfold r18_further_S
  simp only [un_i_ev, un_b_ev, un_s_ev, un_li_ev, un_lb_ev, un_ls_ev, un_nil_ev]
theorem r18_further_says : Says r18_further_SC r18_further_S := by
  intro β ls' k' r' h'
  unfold r18_further_SC at h'
  obtain ⟨a, l'1, rfl, h'1⟩ := un_i_some.1 h'
  obtain ⟨b, l'2, rfl, h'2⟩ := un_i_some.1 h'1
  obtain ⟨rfl, h'Z⟩ := un_nil_some.1 h'2
  obtain ⟨l', a', b'⟩ := out_some.1 h'Z
  exact ⟨l', (r18_further_Se a b).trans a', b'⟩
theorem r18_further_c : FnC Go.Proofs.Tryz.prog 90 true 2 0 r18_further_in r18_further_out r18_further_S := by
  refine fn_ok (Λ := r18_further_Λ) mixed tab_ok g48 Go.Proofs.Tryz.func90 (by kernel_rfl) (body := fb Go.Proofs.Tryz.f90) rfl (ts := Go.Proofs.Tryz.f90.results.toList) rfl (cuts := []) (by kernel_rfl) (Nat.le_of_ble_eq_true (by kernel_rfl)) (by kernel_rfl) (rt := .w (.at (.int .u64))) rfl ?_ ?_
  · intro ls' r' h'
    unfold r18_further_S at h'
    obtain ⟨a, l'1, rfl, h'1⟩ := un_i_some.1 h'
    obtain ⟨b, l'2, rfl, h'2⟩ := un_i_some.1 h'1
    obtain ⟨rfl, h'Z⟩ := un_nil_some.1 h'2
    exact (r18_further_e a b).symm.trans h'Z
  · intro E w0 ws ρ0 hk b hb
    rw [show loopsOf (fb Go.Proofs.Tryz.f90) = [] by kernel_rfl] at hb
    cases hb
noncomputable def G49 : Env := G48.addP 90 2 r18_further_in r18_further_out r18_further_SC
theorem g49 : EnvOk Go.Proofs.Tryz.prog G49 := EnvOk.addP g48 r18_further_c r18_further_says

-- ### r18_Windows: function 67
def r18_Windows_in : Tm := ⟨[], [(0, .w (.agg [.int .i64, .int .u64, .int .u64, .int .u64, .int .u64, .int .u64, .int .i64, .int .i64]))]⟩
def r18_Windows_out : Tm := ⟨[], [(0, .tup [.at (.int .u64), .at (.int .u64), .at (.int .u64), .at (.int .u64)])]⟩

def r18_Windows_Λd : Loops := Loops.none
def r18_Windows_Λ : Loops := r18_Windows_Λd 

theorem r18_Windows_e (v_State : Int) (v_Gss : Int) (v_Gsr : Int) (v_Gar : Int) (v_Iss : Int) (v_Isr : Int) (v_Mine : Int) (v_Theirs : Int) : r18_Windows v_State v_Gss v_Gsr v_Gar v_Iss v_Isr v_Mine v_Theirs = den G49 r18_Windows_Λ false tab Go.Proofs.Tryz.f67.ntmps (fun fr H => finish tab 0 Go.Proofs.Tryz.f67.results.toList r18_Windows_out [] fr H some) (fun _ _ _ => none) (fun fr H => finish tab 0 Go.Proofs.Tryz.f67.results.toList r18_Windows_out [] fr H some) 10000 [.code (fb Go.Proofs.Tryz.f67)] (instFr r18_Windows_in [.i v_State, .i v_Gss, .i v_Gsr, .i v_Gar, .i v_Iss, .i v_Isr, .i v_Mine, .i v_Theirs]) (instH r18_Windows_in [.i v_State, .i v_Gss, .i v_Gsr, .i v_Gar, .i v_Iss, .i v_Isr, .i v_Mine, .i v_Theirs]) := by kernel_rfl
def r18_Windows_S : List Leaf → Option (List Leaf) := fun ls => un_i ls fun v_State rr => un_i rr fun v_Gss rr => un_i rr fun v_Gsr rr => un_i rr fun v_Gar rr => un_i rr fun v_Iss rr => un_i rr fun v_Isr rr => un_i rr fun v_Mine rr => un_i rr fun v_Theirs rr => un_nil rr (r18_Windows v_State v_Gss v_Gsr v_Gar v_Iss v_Isr v_Mine v_Theirs)
def r18_Windows_SC : Tld := fun ls k' => un_i ls fun v_State rr => un_i rr fun v_Gss rr => un_i rr fun v_Gsr rr => un_i rr fun v_Gar rr => un_i rr fun v_Iss rr => un_i rr fun v_Isr rr => un_i rr fun v_Mine rr => un_i rr fun v_Theirs rr => un_nil rr (out (r18_Windows v_State v_Gss v_Gsr v_Gar v_Iss v_Isr v_Mine v_Theirs) k')
theorem r18_Windows_Se (v_State : Int) (v_Gss : Int) (v_Gsr : Int) (v_Gar : Int) (v_Iss : Int) (v_Isr : Int) (v_Mine : Int) (v_Theirs : Int) : r18_Windows_S [.i v_State, .i v_Gss, .i v_Gsr, .i v_Gar, .i v_Iss, .i v_Isr, .i v_Mine, .i v_Theirs] = r18_Windows v_State v_Gss v_Gsr v_Gar v_Iss v_Isr v_Mine v_Theirs := by
  unfold r18_Windows_S
  simp only [un_i_ev, un_b_ev, un_s_ev, un_li_ev, un_lb_ev, un_ls_ev, un_nil_ev]
theorem r18_Windows_says : Says r18_Windows_SC r18_Windows_S := by
  intro β ls' k' r' h'
  unfold r18_Windows_SC at h'
  obtain ⟨v_State, l'1, rfl, h'1⟩ := un_i_some.1 h'
  obtain ⟨v_Gss, l'2, rfl, h'2⟩ := un_i_some.1 h'1
  obtain ⟨v_Gsr, l'3, rfl, h'3⟩ := un_i_some.1 h'2
  obtain ⟨v_Gar, l'4, rfl, h'4⟩ := un_i_some.1 h'3
  obtain ⟨v_Iss, l'5, rfl, h'5⟩ := un_i_some.1 h'4
  obtain ⟨v_Isr, l'6, rfl, h'6⟩ := un_i_some.1 h'5
  obtain ⟨v_Mine, l'7, rfl, h'7⟩ := un_i_some.1 h'6
  obtain ⟨v_Theirs, l'8, rfl, h'8⟩ := un_i_some.1 h'7
  obtain ⟨rfl, h'Z⟩ := un_nil_some.1 h'8
  obtain ⟨l', a', b'⟩ := out_some.1 h'Z
  exact ⟨l', (r18_Windows_Se v_State v_Gss v_Gsr v_Gar v_Iss v_Isr v_Mine v_Theirs).trans a', b'⟩
theorem r18_Windows_c : FnC Go.Proofs.Tryz.prog 67 false 1 0 r18_Windows_in r18_Windows_out r18_Windows_S := by
  refine fn_ok (Λ := r18_Windows_Λ) mixed tab_ok g49 Go.Proofs.Tryz.func67 (by kernel_rfl) (body := fb Go.Proofs.Tryz.f67) rfl (ts := Go.Proofs.Tryz.f67.results.toList) rfl (cuts := []) (by kernel_rfl) (Nat.le_of_ble_eq_true (by kernel_rfl)) (by kernel_rfl) (rt := .tup [.at (.int .u64), .at (.int .u64), .at (.int .u64), .at (.int .u64)]) rfl ?_ ?_
  · intro ls' r' h'
    unfold r18_Windows_S at h'
    obtain ⟨v_State, l'1, rfl, h'1⟩ := un_i_some.1 h'
    obtain ⟨v_Gss, l'2, rfl, h'2⟩ := un_i_some.1 h'1
    obtain ⟨v_Gsr, l'3, rfl, h'3⟩ := un_i_some.1 h'2
    obtain ⟨v_Gar, l'4, rfl, h'4⟩ := un_i_some.1 h'3
    obtain ⟨v_Iss, l'5, rfl, h'5⟩ := un_i_some.1 h'4
    obtain ⟨v_Isr, l'6, rfl, h'6⟩ := un_i_some.1 h'5
    obtain ⟨v_Mine, l'7, rfl, h'7⟩ := un_i_some.1 h'6
    obtain ⟨v_Theirs, l'8, rfl, h'8⟩ := un_i_some.1 h'7
    obtain ⟨rfl, h'Z⟩ := un_nil_some.1 h'8
    exact (r18_Windows_e v_State v_Gss v_Gsr v_Gar v_Iss v_Isr v_Mine v_Theirs).symm.trans h'Z
  · intro E w0 ws ρ0 hk b hb
    rw [show loopsOf (fb Go.Proofs.Tryz.f67) = [] by kernel_rfl] at hb
    cases hb
noncomputable def G50 : Env := G49.addE 67 1 r18_Windows_in r18_Windows_out r18_Windows_SC
theorem g50 : EnvOk Go.Proofs.Tryz.prog G50 := EnvOk.addE g49 r18_Windows_c r18_Windows_says

-- ### r18_if2: function 69
def r18_if2_in : Tm := ⟨[], [(0, .w (.at (.bool))), (1, .w (.at (.int .i64))), (2, .w (.at (.int .i64)))]⟩
def r18_if2_out : Tm := ⟨[], [(0, .w (.at (.int .i64)))]⟩

def r18_if2_Λd : Loops := Loops.none
def r18_if2_Λ : Loops := r18_if2_Λd 

theorem r18_if2_e (ok : Bool) (a : Int) (b : Int) : r18_if2 ok a b = den G50 r18_if2_Λ true tab Go.Proofs.Tryz.f69.ntmps (fun fr H => finish tab 0 Go.Proofs.Tryz.f69.results.toList r18_if2_out [] fr H some) (fun _ _ _ => none) (fun fr H => finish tab 0 Go.Proofs.Tryz.f69.results.toList r18_if2_out [] fr H some) 10000 [.code (fb Go.Proofs.Tryz.f69)] (instFr r18_if2_in [.b ok, .i a, .i b]) (instH r18_if2_in [.b ok, .i a, .i b]) := by kernel_rfl
def r18_if2_S : List Leaf → Option (List Leaf) := fun ls => un_b ls fun ok rr => un_i rr fun a rr => un_i rr fun b rr => un_nil rr (r18_if2 ok a b)
def r18_if2_SC : Tld := fun ls k' => un_b ls fun ok rr => un_i rr fun a rr => un_i rr fun b rr => un_nil rr (out (r18_if2 ok a b) k')
theorem r18_if2_Se (ok : Bool) (a : Int) (b : Int) : r18_if2_S [.b ok, .i a, .i b] = r18_if2 ok a b := by
  unfold r18_if2_S
  simp only [un_i_ev, un_b_ev, un_s_ev, un_li_ev, un_lb_ev, un_ls_ev, un_nil_ev]
theorem r18_if2_says : Says r18_if2_SC r18_if2_S := by
  intro β ls' k' r' h'
  unfold r18_if2_SC at h'
  obtain ⟨ok, l'1, rfl, h'1⟩ := un_b_some.1 h'
  obtain ⟨a, l'2, rfl, h'2⟩ := un_i_some.1 h'1
  obtain ⟨b, l'3, rfl, h'3⟩ := un_i_some.1 h'2
  obtain ⟨rfl, h'Z⟩ := un_nil_some.1 h'3
  obtain ⟨l', a', b'⟩ := out_some.1 h'Z
  exact ⟨l', (r18_if2_Se ok a b).trans a', b'⟩
theorem r18_if2_c : FnC Go.Proofs.Tryz.prog 69 true 3 0 r18_if2_in r18_if2_out r18_if2_S := by
  refine fn_ok (Λ := r18_if2_Λ) mixed tab_ok g50 Go.Proofs.Tryz.func69 (by kernel_rfl) (body := fb Go.Proofs.Tryz.f69) rfl (ts := Go.Proofs.Tryz.f69.results.toList) rfl (cuts := []) (by kernel_rfl) (Nat.le_of_ble_eq_true (by kernel_rfl)) (by kernel_rfl) (rt := .w (.at (.int .i64))) rfl ?_ ?_
  · intro ls' r' h'
    unfold r18_if2_S at h'
    obtain ⟨ok, l'1, rfl, h'1⟩ := un_b_some.1 h'
    obtain ⟨a, l'2, rfl, h'2⟩ := un_i_some.1 h'1
    obtain ⟨b, l'3, rfl, h'3⟩ := un_i_some.1 h'2
    obtain ⟨rfl, h'Z⟩ := un_nil_some.1 h'3
    exact (r18_if2_e ok a b).symm.trans h'Z
  · intro E w0 ws ρ0 hk b hb
    rw [show loopsOf (fb Go.Proofs.Tryz.f69) = [] by kernel_rfl] at hb
    cases hb
noncomputable def G51 : Env := G50.addP 69 3 r18_if2_in r18_if2_out r18_if2_SC
theorem g51 : EnvOk Go.Proofs.Tryz.prog G51 := EnvOk.addP g50 r18_if2_c r18_if2_says

-- ### r18_Check: function 31
def r18_Check_in : Tm := ⟨[], [(0, .w (.agg [.int .i64, .int .u64, .int .u64, .int .u64, .int .u64, .int .u64, .int .i64, .int .i64])), (1, .w (.agg [.int .i64, .int .i64, .int .i64, .int .i64, .int .i64, .int .i64, .int .i64, .bool, .int .u64, .int .u64, .int .u32, .int .i64, .int .u8, .int .u8, .int .u8, .nils, .str]))]⟩
def r18_Check_out : Tm := ⟨[], [(0, .w (.at (.int .i64)))]⟩

def r18_Check_Λd : Loops := Loops.none
def r18_Check_Λ : Loops := r18_Check_Λd 

theorem r18_Check_e (v_State : Int) (v_Gss : Int) (v_Gsr : Int) (v_Gar : Int) (v_Iss : Int) (v_Isr : Int) (v_Mine : Int) (v_Theirs : Int) (p_Head_Src : Int) (p_Head_Dst : Int) (p_Head_Off : Int) (p_Head_CCVal : Int) (p_Head_CsCov : Int) (p_Head_Sum : Int) (p_Head_Type : Int) (p_Head_X : Bool) (p_Head_Seq : Int) (p_Head_Ack : Int) (p_Head_Service : Int) (p_Head_Code : Int) (p_Head_Info_0 : Int) (p_Head_Info_1 : Int) (p_Head_Info_2 : Int) (p_Data : ByteArray) : r18_Check v_State v_Gss v_Gsr v_Gar v_Iss v_Isr v_Mine v_Theirs p_Head_Src p_Head_Dst p_Head_Off p_Head_CCVal p_Head_CsCov p_Head_Sum p_Head_Type p_Head_X p_Head_Seq p_Head_Ack p_Head_Service p_Head_Code p_Head_Info_0 p_Head_Info_1 p_Head_Info_2 p_Data = den G51 r18_Check_Λ false tab Go.Proofs.Tryz.f31.ntmps (fun fr H => finish tab 0 Go.Proofs.Tryz.f31.results.toList r18_Check_out [] fr H some) (fun _ _ _ => none) (fun fr H => finish tab 0 Go.Proofs.Tryz.f31.results.toList r18_Check_out [] fr H some) 10000 [.code (fb Go.Proofs.Tryz.f31)] (instFr r18_Check_in [.i v_State, .i v_Gss, .i v_Gsr, .i v_Gar, .i v_Iss, .i v_Isr, .i v_Mine, .i v_Theirs, .i p_Head_Src, .i p_Head_Dst, .i p_Head_Off, .i p_Head_CCVal, .i p_Head_CsCov, .i p_Head_Sum, .i p_Head_Type, .b p_Head_X, .i p_Head_Seq, .i p_Head_Ack, .i p_Head_Service, .i p_Head_Code, .i p_Head_Info_0, .i p_Head_Info_1, .i p_Head_Info_2, .s p_Data]) (instH r18_Check_in [.i v_State, .i v_Gss, .i v_Gsr, .i v_Gar, .i v_Iss, .i v_Isr, .i v_Mine, .i v_Theirs, .i p_Head_Src, .i p_Head_Dst, .i p_Head_Off, .i p_Head_CCVal, .i p_Head_CsCov, .i p_Head_Sum, .i p_Head_Type, .b p_Head_X, .i p_Head_Seq, .i p_Head_Ack, .i p_Head_Service, .i p_Head_Code, .i p_Head_Info_0, .i p_Head_Info_1, .i p_Head_Info_2, .s p_Data]) := by kernel_rfl
def r18_Check_S : List Leaf → Option (List Leaf) := fun ls => un_i ls fun v_State rr => un_i rr fun v_Gss rr => un_i rr fun v_Gsr rr => un_i rr fun v_Gar rr => un_i rr fun v_Iss rr => un_i rr fun v_Isr rr => un_i rr fun v_Mine rr => un_i rr fun v_Theirs rr => un_i rr fun p_Head_Src rr => un_i rr fun p_Head_Dst rr => un_i rr fun p_Head_Off rr => un_i rr fun p_Head_CCVal rr => un_i rr fun p_Head_CsCov rr => un_i rr fun p_Head_Sum rr => un_i rr fun p_Head_Type rr => un_b rr fun p_Head_X rr => un_i rr fun p_Head_Seq rr => un_i rr fun p_Head_Ack rr => un_i rr fun p_Head_Service rr => un_i rr fun p_Head_Code rr => un_i rr fun p_Head_Info_0 rr => un_i rr fun p_Head_Info_1 rr => un_i rr fun p_Head_Info_2 rr => un_s rr fun p_Data rr => un_nil rr (r18_Check v_State v_Gss v_Gsr v_Gar v_Iss v_Isr v_Mine v_Theirs p_Head_Src p_Head_Dst p_Head_Off p_Head_CCVal p_Head_CsCov p_Head_Sum p_Head_Type p_Head_X p_Head_Seq p_Head_Ack p_Head_Service p_Head_Code p_Head_Info_0 p_Head_Info_1 p_Head_Info_2 p_Data)
def r18_Check_SC : Tld := fun ls k' => un_i ls fun v_State rr => un_i rr fun v_Gss rr => un_i rr fun v_Gsr rr => un_i rr fun v_Gar rr => un_i rr fun v_Iss rr => un_i rr fun v_Isr rr => un_i rr fun v_Mine rr => un_i rr fun v_Theirs rr => un_i rr fun p_Head_Src rr => un_i rr fun p_Head_Dst rr => un_i rr fun p_Head_Off rr => un_i rr fun p_Head_CCVal rr => un_i rr fun p_Head_CsCov rr => un_i rr fun p_Head_Sum rr => un_i rr fun p_Head_Type rr => un_b rr fun p_Head_X rr => un_i rr fun p_Head_Seq rr => un_i rr fun p_Head_Ack rr => un_i rr fun p_Head_Service rr => un_i rr fun p_Head_Code rr => un_i rr fun p_Head_Info_0 rr => un_i rr fun p_Head_Info_1 rr => un_i rr fun p_Head_Info_2 rr => un_s rr fun p_Data rr => un_nil rr (out (r18_Check v_State v_Gss v_Gsr v_Gar v_Iss v_Isr v_Mine v_Theirs p_Head_Src p_Head_Dst p_Head_Off p_Head_CCVal p_Head_CsCov p_Head_Sum p_Head_Type p_Head_X p_Head_Seq p_Head_Ack p_Head_Service p_Head_Code p_Head_Info_0 p_Head_Info_1 p_Head_Info_2 p_Data) k')
theorem r18_Check_Se (v_State : Int) (v_Gss : Int) (v_Gsr : Int) (v_Gar : Int) (v_Iss : Int) (v_Isr : Int) (v_Mine : Int) (v_Theirs : Int) (p_Head_Src : Int) (p_Head_Dst : Int) (p_Head_Off : Int) (p_Head_CCVal : Int) (p_Head_CsCov : Int) (p_Head_Sum : Int) (p_Head_Type : Int) (p_Head_X : Bool) (p_Head_Seq : Int) (p_Head_Ack : Int) (p_Head_Service : Int) (p_Head_Code : Int) (p_Head_Info_0 : Int) (p_Head_Info_1 : Int) (p_Head_Info_2 : Int) (p_Data : ByteArray) : r18_Check_S [.i v_State, .i v_Gss, .i v_Gsr, .i v_Gar, .i v_Iss, .i v_Isr, .i v_Mine, .i v_Theirs, .i p_Head_Src, .i p_Head_Dst, .i p_Head_Off, .i p_Head_CCVal, .i p_Head_CsCov, .i p_Head_Sum, .i p_Head_Type, .b p_Head_X, .i p_Head_Seq, .i p_Head_Ack, .i p_Head_Service, .i p_Head_Code, .i p_Head_Info_0, .i p_Head_Info_1, .i p_Head_Info_2, .s p_Data] = r18_Check v_State v_Gss v_Gsr v_Gar v_Iss v_Isr v_Mine v_Theirs p_Head_Src p_Head_Dst p_Head_Off p_Head_CCVal p_Head_CsCov p_Head_Sum p_Head_Type p_Head_X p_Head_Seq p_Head_Ack p_Head_Service p_Head_Code p_Head_Info_0 p_Head_Info_1 p_Head_Info_2 p_Data := by
  unfold r18_Check_S
  simp only [un_i_ev, un_b_ev, un_s_ev, un_li_ev, un_lb_ev, un_ls_ev, un_nil_ev]
theorem r18_Check_says : Says r18_Check_SC r18_Check_S := by
  intro β ls' k' r' h'
  unfold r18_Check_SC at h'
  obtain ⟨v_State, l'1, rfl, h'1⟩ := un_i_some.1 h'
  obtain ⟨v_Gss, l'2, rfl, h'2⟩ := un_i_some.1 h'1
  obtain ⟨v_Gsr, l'3, rfl, h'3⟩ := un_i_some.1 h'2
  obtain ⟨v_Gar, l'4, rfl, h'4⟩ := un_i_some.1 h'3
  obtain ⟨v_Iss, l'5, rfl, h'5⟩ := un_i_some.1 h'4
  obtain ⟨v_Isr, l'6, rfl, h'6⟩ := un_i_some.1 h'5
  obtain ⟨v_Mine, l'7, rfl, h'7⟩ := un_i_some.1 h'6
  obtain ⟨v_Theirs, l'8, rfl, h'8⟩ := un_i_some.1 h'7
  obtain ⟨p_Head_Src, l'9, rfl, h'9⟩ := un_i_some.1 h'8
  obtain ⟨p_Head_Dst, l'10, rfl, h'10⟩ := un_i_some.1 h'9
  obtain ⟨p_Head_Off, l'11, rfl, h'11⟩ := un_i_some.1 h'10
  obtain ⟨p_Head_CCVal, l'12, rfl, h'12⟩ := un_i_some.1 h'11
  obtain ⟨p_Head_CsCov, l'13, rfl, h'13⟩ := un_i_some.1 h'12
  obtain ⟨p_Head_Sum, l'14, rfl, h'14⟩ := un_i_some.1 h'13
  obtain ⟨p_Head_Type, l'15, rfl, h'15⟩ := un_i_some.1 h'14
  obtain ⟨p_Head_X, l'16, rfl, h'16⟩ := un_b_some.1 h'15
  obtain ⟨p_Head_Seq, l'17, rfl, h'17⟩ := un_i_some.1 h'16
  obtain ⟨p_Head_Ack, l'18, rfl, h'18⟩ := un_i_some.1 h'17
  obtain ⟨p_Head_Service, l'19, rfl, h'19⟩ := un_i_some.1 h'18
  obtain ⟨p_Head_Code, l'20, rfl, h'20⟩ := un_i_some.1 h'19
  obtain ⟨p_Head_Info_0, l'21, rfl, h'21⟩ := un_i_some.1 h'20
  obtain ⟨p_Head_Info_1, l'22, rfl, h'22⟩ := un_i_some.1 h'21
  obtain ⟨p_Head_Info_2, l'23, rfl, h'23⟩ := un_i_some.1 h'22
  obtain ⟨p_Data, l'24, rfl, h'24⟩ := un_s_some.1 h'23
  obtain ⟨rfl, h'Z⟩ := un_nil_some.1 h'24
  obtain ⟨l', a', b'⟩ := out_some.1 h'Z
  exact ⟨l', (r18_Check_Se v_State v_Gss v_Gsr v_Gar v_Iss v_Isr v_Mine v_Theirs p_Head_Src p_Head_Dst p_Head_Off p_Head_CCVal p_Head_CsCov p_Head_Sum p_Head_Type p_Head_X p_Head_Seq p_Head_Ack p_Head_Service p_Head_Code p_Head_Info_0 p_Head_Info_1 p_Head_Info_2 p_Data).trans a', b'⟩
theorem r18_Check_c : FnC Go.Proofs.Tryz.prog 31 false 2 0 r18_Check_in r18_Check_out r18_Check_S := by
  refine fn_ok (Λ := r18_Check_Λ) mixed tab_ok g51 Go.Proofs.Tryz.func31 (by kernel_rfl) (body := fb Go.Proofs.Tryz.f31) rfl (ts := Go.Proofs.Tryz.f31.results.toList) rfl (cuts := []) (by kernel_rfl) (Nat.le_of_ble_eq_true (by kernel_rfl)) (by kernel_rfl) (rt := .w (.at (.int .i64))) rfl ?_ ?_
  · intro ls' r' h'
    unfold r18_Check_S at h'
    obtain ⟨v_State, l'1, rfl, h'1⟩ := un_i_some.1 h'
    obtain ⟨v_Gss, l'2, rfl, h'2⟩ := un_i_some.1 h'1
    obtain ⟨v_Gsr, l'3, rfl, h'3⟩ := un_i_some.1 h'2
    obtain ⟨v_Gar, l'4, rfl, h'4⟩ := un_i_some.1 h'3
    obtain ⟨v_Iss, l'5, rfl, h'5⟩ := un_i_some.1 h'4
    obtain ⟨v_Isr, l'6, rfl, h'6⟩ := un_i_some.1 h'5
    obtain ⟨v_Mine, l'7, rfl, h'7⟩ := un_i_some.1 h'6
    obtain ⟨v_Theirs, l'8, rfl, h'8⟩ := un_i_some.1 h'7
    obtain ⟨p_Head_Src, l'9, rfl, h'9⟩ := un_i_some.1 h'8
    obtain ⟨p_Head_Dst, l'10, rfl, h'10⟩ := un_i_some.1 h'9
    obtain ⟨p_Head_Off, l'11, rfl, h'11⟩ := un_i_some.1 h'10
    obtain ⟨p_Head_CCVal, l'12, rfl, h'12⟩ := un_i_some.1 h'11
    obtain ⟨p_Head_CsCov, l'13, rfl, h'13⟩ := un_i_some.1 h'12
    obtain ⟨p_Head_Sum, l'14, rfl, h'14⟩ := un_i_some.1 h'13
    obtain ⟨p_Head_Type, l'15, rfl, h'15⟩ := un_i_some.1 h'14
    obtain ⟨p_Head_X, l'16, rfl, h'16⟩ := un_b_some.1 h'15
    obtain ⟨p_Head_Seq, l'17, rfl, h'17⟩ := un_i_some.1 h'16
    obtain ⟨p_Head_Ack, l'18, rfl, h'18⟩ := un_i_some.1 h'17
    obtain ⟨p_Head_Service, l'19, rfl, h'19⟩ := un_i_some.1 h'18
    obtain ⟨p_Head_Code, l'20, rfl, h'20⟩ := un_i_some.1 h'19
    obtain ⟨p_Head_Info_0, l'21, rfl, h'21⟩ := un_i_some.1 h'20
    obtain ⟨p_Head_Info_1, l'22, rfl, h'22⟩ := un_i_some.1 h'21
    obtain ⟨p_Head_Info_2, l'23, rfl, h'23⟩ := un_i_some.1 h'22
    obtain ⟨p_Data, l'24, rfl, h'24⟩ := un_s_some.1 h'23
    obtain ⟨rfl, h'Z⟩ := un_nil_some.1 h'24
    exact (r18_Check_e v_State v_Gss v_Gsr v_Gar v_Iss v_Isr v_Mine v_Theirs p_Head_Src p_Head_Dst p_Head_Off p_Head_CCVal p_Head_CsCov p_Head_Sum p_Head_Type p_Head_X p_Head_Seq p_Head_Ack p_Head_Service p_Head_Code p_Head_Info_0 p_Head_Info_1 p_Head_Info_2 p_Data).symm.trans h'Z
  · intro E w0 ws ρ0 hk b hb
    rw [show loopsOf (fb Go.Proofs.Tryz.f31) = [] by kernel_rfl] at hb
    cases hb
noncomputable def G52 : Env := G51.addE 31 2 r18_Check_in r18_Check_out r18_Check_SC
theorem g52 : EnvOk Go.Proofs.Tryz.prog G52 := EnvOk.addE g51 r18_Check_c r18_Check_says
end Go.Sx.T

