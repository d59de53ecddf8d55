import Derived.Test.YtopcljhdejindaaGreatDoorYRttSpec
import Derived.Test.YtopcljhdejindaaGreatDoorYBeg2
set_option linter.all false
namespace Go.Sx.T
open Go Go.Sx Go.Proofs
noncomputable def G7 : Env := G6.addE 94 2 drop_in drop_out drop_SC
theorem g7 : EnvOk Go.Proofs.Tryz.prog G7 := EnvOk.addE g6 got_drop_c drop_says
noncomputable def G8 : Env := G7.addK 15 (.at (.raw (.bool true)))
theorem g8 : EnvOk Go.Proofs.Tryz.prog G8 := EnvOk.addK g7 begun_fn rfl begun_gives

-- ### ref_Seq: function 88
def ref_Seq_in : Tm := ⟨[], [(0, .w (.at (.int .u64)))]⟩
def ref_Seq_out : Tm := ⟨[], [(0, .w (.at (.int .u64)))]⟩

def ref_Seq_Λd : Loops := Loops.none
def ref_Seq_Λ : Loops := ref_Seq_Λd 

theorem ref_Seq_e (n2 : Int) : ref_Seq n2 = den G8 ref_Seq_Λ true tab Go.Proofs.Tryz.f88.ntmps (fun fr H => finish tab 0 Go.Proofs.Tryz.f88.results.toList ref_Seq_out [] fr H some) (fun _ _ _ => none) (fun fr H => finish tab 0 Go.Proofs.Tryz.f88.results.toList ref_Seq_out [] fr H some) 10000 [.code (fb Go.Proofs.Tryz.f88)] (instFr ref_Seq_in [.i n2]) (instH ref_Seq_in [.i n2]) := by kernel_rfl
def ref_Seq_S : List Leaf → Option (List Leaf) := fun ls => un_i ls fun n2 rr => un_nil rr (ref_Seq n2)
def ref_Seq_SC : Tld := fun ls k' => un_i ls fun n2 rr => un_nil rr (out (ref_Seq n2) k')
theorem ref_Seq_Se (n2 : Int) : ref_Seq_S [.i n2] = ref_Seq n2 := by
  unfold ref_Seq_S
  simp only [un_i_ev, un_b_ev, un_s_ev, un_li_ev, un_lb_ev, un_ls_ev, un_nil_ev]
theorem ref_Seq_says : Says ref_Seq_SC ref_Seq_S := by
  intro β ls' k' r' h'
  unfold ref_Seq_SC at h'
  obtain ⟨n2, l'1, rfl, h'1⟩ := un_i_some.1 h'
  obtain ⟨rfl, h'Z⟩ := un_nil_some.1 h'1
  obtain ⟨l', a', b'⟩ := out_some.1 h'Z
  exact ⟨l', (ref_Seq_Se n2).trans a', b'⟩
theorem ref_Seq_c : FnC Go.Proofs.Tryz.prog 88 true 1 0 ref_Seq_in ref_Seq_out ref_Seq_S := by
  refine fn_ok (Λ := ref_Seq_Λ) mixed tab_ok g8 Go.Proofs.Tryz.func88 (by kernel_rfl) (body := fb Go.Proofs.Tryz.f88) rfl (ts := Go.Proofs.Tryz.f88.results.toList) rfl (cuts := []) (by kernel_rfl) (Nat.le_of_ble_eq_true (by kernel_rfl)) (by kernel_rfl) (rt := .w (.at (.int .u64))) rfl ?_ ?_
  · intro ls' r' h'
    unfold ref_Seq_S at h'
    obtain ⟨n2, l'1, rfl, h'1⟩ := un_i_some.1 h'
    obtain ⟨rfl, h'Z⟩ := un_nil_some.1 h'1
    exact (ref_Seq_e n2).symm.trans h'Z
  · intro E w0 ws ρ0 hk b hb
    rw [show loopsOf (fb Go.Proofs.Tryz.f88) = [] by kernel_rfl] at hb
    cases hb
noncomputable def G9 : Env := G8.addP 88 1 ref_Seq_in ref_Seq_out ref_Seq_SC
theorem g9 : EnvOk Go.Proofs.Tryz.prog G9 := EnvOk.addP g8 ref_Seq_c ref_Seq_says

-- ### rtt_New: function 28
def rtt_New_in : Tm := ⟨[], []⟩
def rtt_New_out : Tm := ⟨[.cells 100 [.bool, .int .i64, .int .i64, .int .i64]], [(0, .w (.at (.ptr 0 0)))]⟩

def rtt_New_Λd : Loops := Loops.none
def rtt_New_Λ : Loops := rtt_New_Λd 

theorem rtt_New_e  : rtt_New  = den G9 rtt_New_Λ false tab Go.Proofs.Tryz.f28.ntmps (fun fr H => finish tab 0 Go.Proofs.Tryz.f28.results.toList rtt_New_out [] fr H some) (fun _ _ _ => none) (fun fr H => finish tab 0 Go.Proofs.Tryz.f28.results.toList rtt_New_out [] fr H some) 10000 [.code (fb Go.Proofs.Tryz.f28)] (instFr rtt_New_in []) (instH rtt_New_in []) := by kernel_rfl
def rtt_New_S : List Leaf → Option (List Leaf) := fun ls => un_nil ls (rtt_New )
def rtt_New_SC : Tld := fun ls k' => un_nil ls (out (rtt_New ) k')
theorem rtt_New_Se  : rtt_New_S [] = rtt_New  := by
  unfold rtt_New_S
  simp only [un_i_ev, un_b_ev, un_s_ev, un_li_ev, un_lb_ev, un_ls_ev, un_nil_ev]
theorem rtt_New_says : Says rtt_New_SC rtt_New_S := by
  intro β ls' k' r' h'
  unfold rtt_New_SC at h'
  obtain ⟨rfl, h'Z⟩ := un_nil_some.1 h'
  obtain ⟨l', a', b'⟩ := out_some.1 h'Z
  exact ⟨l', (rtt_New_Se ).trans a', b'⟩
theorem rtt_New_c : FnC Go.Proofs.Tryz.prog 28 false 0 0 rtt_New_in rtt_New_out rtt_New_S := by
  refine fn_ok (Λ := rtt_New_Λ) mixed tab_ok g9 Go.Proofs.Tryz.func28 (by kernel_rfl) (body := fb Go.Proofs.Tryz.f28) rfl (ts := Go.Proofs.Tryz.f28.results.toList) rfl (cuts := []) (by kernel_rfl) (Nat.le_of_ble_eq_true (by kernel_rfl)) (by kernel_rfl) (rt := .w (.at (.ptr 0 0))) rfl ?_ ?_
  · intro ls' r' h'
    unfold rtt_New_S at h'
    obtain ⟨rfl, h'Z⟩ := un_nil_some.1 h'
    exact (rtt_New_e ).symm.trans h'Z
  · intro E w0 ws ρ0 hk b hb
    rw [show loopsOf (fb Go.Proofs.Tryz.f28) = [] by kernel_rfl] at hb
    cases hb
noncomputable def G10 : Env := G9.addE 28 0 rtt_New_in rtt_New_out rtt_New_SC
theorem g10 : EnvOk Go.Proofs.Tryz.prog G10 := EnvOk.addE g9 rtt_New_c rtt_New_says

-- ### rtt_Sample: function 29
def rtt_Sample_in : Tm := ⟨[.cells 100 [.bool, .int .i64, .int .i64, .int .i64]], [(0, .w (.at (.ptr 0 0))), (1, .w (.at (.int .i64)))]⟩
def rtt_Sample_out : Tm := ⟨[.cells 100 [.bool, .int .i64, .int .i64, .int .i64]], [(0, .tup [])]⟩

def rtt_Sample_Λd : Loops := Loops.none
def rtt_Sample_Λ : Loops := rtt_Sample_Λd 

theorem rtt_Sample_e (r_any : Bool) (r_smooth : Int) (r_spread : Int) (r_rto : Int) (d : Int) : rtt_Sample r_any r_smooth r_spread r_rto d = den G10 rtt_Sample_Λ false tab Go.Proofs.Tryz.f29.ntmps (fun fr H => finish tab 1 Go.Proofs.Tryz.f29.results.toList rtt_Sample_out [] fr H some) (fun _ _ _ => none) (fun fr H => finish tab 1 Go.Proofs.Tryz.f29.results.toList rtt_Sample_out [] fr H some) 10000 [.code (fb Go.Proofs.Tryz.f29)] (instFr rtt_Sample_in [.b r_any, .i r_smooth, .i r_spread, .i r_rto, .i d]) (instH rtt_Sample_in [.b r_any, .i r_smooth, .i r_spread, .i r_rto, .i d]) := by kernel_rfl
def rtt_Sample_S : List Leaf → Option (List Leaf) := fun ls => un_b ls fun r_any rr => un_i rr fun r_smooth rr => un_i rr fun r_spread rr => un_i rr fun r_rto rr => un_i rr fun d rr => un_nil rr (rtt_Sample r_any r_smooth r_spread r_rto d)
def rtt_Sample_SC : Tld := fun ls k' => un_b ls fun r_any rr => un_i rr fun r_smooth rr => un_i rr fun r_spread rr => un_i rr fun r_rto rr => un_i rr fun d rr => un_nil rr (out (rtt_Sample r_any r_smooth r_spread r_rto d) k')
theorem rtt_Sample_Se (r_any : Bool) (r_smooth : Int) (r_spread : Int) (r_rto : Int) (d : Int) : rtt_Sample_S [.b r_any, .i r_smooth, .i r_spread, .i r_rto, .i d] = rtt_Sample r_any r_smooth r_spread r_rto d := by
  unfold rtt_Sample_S
  simp only [un_i_ev, un_b_ev, un_s_ev, un_li_ev, un_lb_ev, un_ls_ev, un_nil_ev]
theorem rtt_Sample_says : Says rtt_Sample_SC rtt_Sample_S := by
  intro β ls' k' r' h'
  unfold rtt_Sample_SC at h'
  obtain ⟨r_any, l'1, rfl, h'1⟩ := un_b_some.1 h'
  obtain ⟨r_smooth, l'2, rfl, h'2⟩ := un_i_some.1 h'1
  obtain ⟨r_spread, l'3, rfl, h'3⟩ := un_i_some.1 h'2
  obtain ⟨r_rto, l'4, rfl, h'4⟩ := un_i_some.1 h'3
  obtain ⟨d, l'5, rfl, h'5⟩ := un_i_some.1 h'4
  obtain ⟨rfl, h'Z⟩ := un_nil_some.1 h'5
  obtain ⟨l', a', b'⟩ := out_some.1 h'Z
  exact ⟨l', (rtt_Sample_Se r_any r_smooth r_spread r_rto d).trans a', b'⟩
theorem rtt_Sample_c : FnC Go.Proofs.Tryz.prog 29 false 2 1 rtt_Sample_in rtt_Sample_out rtt_Sample_S := by
  refine fn_ok (Λ := rtt_Sample_Λ) mixed tab_ok g10 Go.Proofs.Tryz.func29 (by kernel_rfl) (body := fb Go.Proofs.Tryz.f29) rfl (ts := Go.Proofs.Tryz.f29.results.toList) rfl (cuts := []) (by kernel_rfl) (Nat.le_of_ble_eq_true (by kernel_rfl)) (by kernel_rfl) (rt := .tup []) rfl ?_ ?_
  · intro ls' r' h'
    unfold rtt_Sample_S at h'
    obtain ⟨r_any, l'1, rfl, h'1⟩ := un_b_some.1 h'
    obtain ⟨r_smooth, l'2, rfl, h'2⟩ := un_i_some.1 h'1
    obtain ⟨r_spread, l'3, rfl, h'3⟩ := un_i_some.1 h'2
    obtain ⟨r_rto, l'4, rfl, h'4⟩ := un_i_some.1 h'3
    obtain ⟨d, l'5, rfl, h'5⟩ := un_i_some.1 h'4
    obtain ⟨rfl, h'Z⟩ := un_nil_some.1 h'5
    exact (rtt_Sample_e r_any r_smooth r_spread r_rto d).symm.trans h'Z
  · intro E w0 ws ρ0 hk b hb
    rw [show loopsOf (fb Go.Proofs.Tryz.f29) = [] by kernel_rfl] at hb
    cases hb
noncomputable def G11 : Env := G10.addE 29 2 rtt_Sample_in rtt_Sample_out rtt_Sample_SC
theorem g11 : EnvOk Go.Proofs.Tryz.prog G11 := EnvOk.addE g10 rtt_Sample_c rtt_Sample_says

-- ### rtt_Smooth: function 32
def rtt_Smooth_in : Tm := ⟨[.cells 100 [.bool, .int .i64, .int .i64, .int .i64]], [(0, .w (.at (.ptr 0 0)))]⟩
def rtt_Smooth_out : Tm := ⟨[.dead], [(0, .tup [.at (.int .i64), .at (.bool)])]⟩

def rtt_Smooth_Λd : Loops := Loops.none
def rtt_Smooth_Λ : Loops := rtt_Smooth_Λd 

theorem rtt_Smooth_e (r_any : Bool) (r_smooth : Int) (r_spread : Int) (r_rto : Int) : rtt_Smooth r_any r_smooth r_spread r_rto = den G11 rtt_Smooth_Λ true tab Go.Proofs.Tryz.f32.ntmps (fun fr H => finish tab 1 Go.Proofs.Tryz.f32.results.toList rtt_Smooth_out [] fr H some) (fun _ _ _ => none) (fun fr H => finish tab 1 Go.Proofs.Tryz.f32.results.toList rtt_Smooth_out [] fr H some) 10000 [.code (fb Go.Proofs.Tryz.f32)] (instFr rtt_Smooth_in [.b r_any, .i r_smooth, .i r_spread, .i r_rto]) (instH rtt_Smooth_in [.b r_any, .i r_smooth, .i r_spread, .i r_rto]) := by kernel_rfl
def rtt_Smooth_S : List Leaf → Option (List Leaf) := fun ls => un_b ls fun r_any rr => un_i rr fun r_smooth rr => un_i rr fun r_spread rr => un_i rr fun r_rto rr => un_nil rr (rtt_Smooth r_any r_smooth r_spread r_rto)
def rtt_Smooth_SC : Tld := fun ls k' => un_b ls fun r_any rr => un_i rr fun r_smooth rr => un_i rr fun r_spread rr => un_i rr fun r_rto rr => un_nil rr (out (rtt_Smooth r_any r_smooth r_spread r_rto) k')
theorem rtt_Smooth_Se (r_any : Bool) (r_smooth : Int) (r_spread : Int) (r_rto : Int) : rtt_Smooth_S [.b r_any, .i r_smooth, .i r_spread, .i r_rto] = rtt_Smooth r_any r_smooth r_spread r_rto := by
  unfold rtt_Smooth_S
  simp only [un_i_ev, un_b_ev, un_s_ev, un_li_ev, un_lb_ev, un_ls_ev, un_nil_ev]
theorem rtt_Smooth_says : Says rtt_Smooth_SC rtt_Smooth_S := by
  intro β ls' k' r' h'
  unfold rtt_Smooth_SC at h'
  obtain ⟨r_any, l'1, rfl, h'1⟩ := un_b_some.1 h'
  obtain ⟨r_smooth, l'2, rfl, h'2⟩ := un_i_some.1 h'1
  obtain ⟨r_spread, l'3, rfl, h'3⟩ := un_i_some.1 h'2
  obtain ⟨r_rto, l'4, rfl, h'4⟩ := un_i_some.1 h'3
  obtain ⟨rfl, h'Z⟩ := un_nil_some.1 h'4
  obtain ⟨l', a', b'⟩ := out_some.1 h'Z
  exact ⟨l', (rtt_Smooth_Se r_any r_smooth r_spread r_rto).trans a', b'⟩
theorem rtt_Smooth_c : FnC Go.Proofs.Tryz.prog 32 true 1 1 rtt_Smooth_in rtt_Smooth_out rtt_Smooth_S := by
  refine fn_ok (Λ := rtt_Smooth_Λ) mixed tab_ok g11 Go.Proofs.Tryz.func32 (by kernel_rfl) (body := fb Go.Proofs.Tryz.f32) rfl (ts := Go.Proofs.Tryz.f32.results.toList) rfl (cuts := []) (by kernel_rfl) (Nat.le_of_ble_eq_true (by kernel_rfl)) (by kernel_rfl) (rt := .tup [.at (.int .i64), .at (.bool)]) rfl ?_ ?_
  · intro ls' r' h'
    unfold rtt_Smooth_S at h'
    obtain ⟨r_any, l'1, rfl, h'1⟩ := un_b_some.1 h'
    obtain ⟨r_smooth, l'2, rfl, h'2⟩ := un_i_some.1 h'1
    obtain ⟨r_spread, l'3, rfl, h'3⟩ := un_i_some.1 h'2
    obtain ⟨r_rto, l'4, rfl, h'4⟩ := un_i_some.1 h'3
    obtain ⟨rfl, h'Z⟩ := un_nil_some.1 h'4
    exact (rtt_Smooth_e r_any r_smooth r_spread r_rto).symm.trans h'Z
  · intro E w0 ws ρ0 hk b hb
    rw [show loopsOf (fb Go.Proofs.Tryz.f32) = [] by kernel_rfl] at hb
    cases hb
noncomputable def G12 : Env := G11.addP 32 1 rtt_Smooth_in rtt_Smooth_out rtt_Smooth_SC
theorem g12 : EnvOk Go.Proofs.Tryz.prog G12 := EnvOk.addP g11 rtt_Smooth_c rtt_Smooth_says

-- ### rtt_Rto: function 33
def rtt_Rto_in : Tm := ⟨[.cells 100 [.bool, .int .i64, .int .i64, .int .i64]], [(0, .w (.at (.ptr 0 0)))]⟩
def rtt_Rto_out : Tm := ⟨[.dead], [(0, .w (.at (.int .i64)))]⟩

def rtt_Rto_Λd : Loops := Loops.none
def rtt_Rto_Λ : Loops := rtt_Rto_Λd 

theorem rtt_Rto_e (r_any : Bool) (r_smooth : Int) (r_spread : Int) (r_rto : Int) : rtt_Rto r_any r_smooth r_spread r_rto = den G12 rtt_Rto_Λ true tab Go.Proofs.Tryz.f33.ntmps (fun fr H => finish tab 1 Go.Proofs.Tryz.f33.results.toList rtt_Rto_out [] fr H some) (fun _ _ _ => none) (fun fr H => finish tab 1 Go.Proofs.Tryz.f33.results.toList rtt_Rto_out [] fr H some) 10000 [.code (fb Go.Proofs.Tryz.f33)] (instFr rtt_Rto_in [.b r_any, .i r_smooth, .i r_spread, .i r_rto]) (instH rtt_Rto_in [.b r_any, .i r_smooth, .i r_spread, .i r_rto]) := by kernel_rfl
def rtt_Rto_S : List Leaf → Option (List Leaf) := fun ls => un_b ls fun r_any rr => un_i rr fun r_smooth rr => un_i rr fun r_spread rr => un_i rr fun r_rto rr => un_nil rr (rtt_Rto r_any r_smooth r_spread r_rto)
def rtt_Rto_SC : Tld := fun ls k' => un_b ls fun r_any rr => un_i rr fun r_smooth rr => un_i rr fun r_spread rr => un_i rr fun r_rto rr => un_nil rr (out (rtt_Rto r_any r_smooth r_spread r_rto) k')
theorem rtt_Rto_Se (r_any : Bool) (r_smooth : Int) (r_spread : Int) (r_rto : Int) : rtt_Rto_S [.b r_any, .i r_smooth, .i r_spread, .i r_rto] = rtt_Rto r_any r_smooth r_spread r_rto := by
  unfold rtt_Rto_S
  simp only [un_i_ev, un_b_ev, un_s_ev, un_li_ev, un_lb_ev, un_ls_ev, un_nil_ev]
theorem rtt_Rto_says : Says rtt_Rto_SC rtt_Rto_S := by
  intro β ls' k' r' h'
  unfold rtt_Rto_SC at h'
  obtain ⟨r_any, l'1, rfl, h'1⟩ := un_b_some.1 h'
  obtain ⟨r_smooth, l'2, rfl, h'2⟩ := un_i_some.1 h'1
  obtain ⟨r_spread, l'3, rfl, h'3⟩ := un_i_some.1 h'2
  obtain ⟨r_rto, l'4, rfl, h'4⟩ := un_i_some.1 h'3
  obtain ⟨rfl, h'Z⟩ := un_nil_some.1 h'4
  obtain ⟨l', a', b'⟩ := out_some.1 h'Z
  exact ⟨l', (rtt_Rto_Se r_any r_smooth r_spread r_rto).trans a', b'⟩
theorem rtt_Rto_c : FnC Go.Proofs.Tryz.prog 33 true 1 1 rtt_Rto_in rtt_Rto_out rtt_Rto_S := by
  refine fn_ok (Λ := rtt_Rto_Λ) mixed tab_ok g12 Go.Proofs.Tryz.func33 (by kernel_rfl) (body := fb Go.Proofs.Tryz.f33) rfl (ts := Go.Proofs.Tryz.f33.results.toList) rfl (cuts := []) (by kernel_rfl) (Nat.le_of_ble_eq_true (by kernel_rfl)) (by kernel_rfl) (rt := .w (.at (.int .i64))) rfl ?_ ?_
  · intro ls' r' h'
    unfold rtt_Rto_S at h'
    obtain ⟨r_any, l'1, rfl, h'1⟩ := un_b_some.1 h'
    obtain ⟨r_smooth, l'2, rfl, h'2⟩ := un_i_some.1 h'1
    obtain ⟨r_spread, l'3, rfl, h'3⟩ := un_i_some.1 h'2
    obtain ⟨r_rto, l'4, rfl, h'4⟩ := un_i_some.1 h'3
    obtain ⟨rfl, h'Z⟩ := un_nil_some.1 h'4
    exact (rtt_Rto_e r_any r_smooth r_spread r_rto).symm.trans h'Z
  · intro E w0 ws ρ0 hk b hb
    rw [show loopsOf (fb Go.Proofs.Tryz.f33) = [] by kernel_rfl] at hb
    cases hb
noncomputable def G13 : Env := G12.addP 33 1 rtt_Rto_in rtt_Rto_out rtt_Rto_SC
theorem g13 : EnvOk Go.Proofs.Tryz.prog G13 := EnvOk.addP g12 rtt_Rto_c rtt_Rto_says

-- ### rtt_Back: function 31
def rtt_Back_in : Tm := ⟨[.cells 100 [.bool, .int .i64, .int .i64, .int .i64]], [(0, .w (.at (.ptr 0 0)))]⟩
def rtt_Back_out : Tm := ⟨[.cells 100 [.bool, .int .i64, .int .i64, .int .i64]], [(0, .tup [])]⟩

def rtt_Back_Λd : Loops := Loops.none
def rtt_Back_Λ : Loops := rtt_Back_Λd 

theorem rtt_Back_e (r_any : Bool) (r_smooth : Int) (r_spread : Int) (r_rto : Int) : rtt_Back r_any r_smooth r_spread r_rto = den G13 rtt_Back_Λ false tab Go.Proofs.Tryz.f31.ntmps (fun fr H => finish tab 1 Go.Proofs.Tryz.f31.results.toList rtt_Back_out [] fr H some) (fun _ _ _ => none) (fun fr H => finish tab 1 Go.Proofs.Tryz.f31.results.toList rtt_Back_out [] fr H some) 10000 [.code (fb Go.Proofs.Tryz.f31)] (instFr rtt_Back_in [.b r_any, .i r_smooth, .i r_spread, .i r_rto]) (instH rtt_Back_in [.b r_any, .i r_smooth, .i r_spread, .i r_rto]) := by kernel_rfl
def rtt_Back_S : List Leaf → Option (List Leaf) := fun ls => un_b ls fun r_any rr => un_i rr fun r_smooth rr => un_i rr fun r_spread rr => un_i rr fun r_rto rr => un_nil rr (rtt_Back r_any r_smooth r_spread r_rto)
def rtt_Back_SC : Tld := fun ls k' => un_b ls fun r_any rr => un_i rr fun r_smooth rr => un_i rr fun r_spread rr => un_i rr fun r_rto rr => un_nil rr (out (rtt_Back r_any r_smooth r_spread r_rto) k')
theorem rtt_Back_Se (r_any : Bool) (r_smooth : Int) (r_spread : Int) (r_rto : Int) : rtt_Back_S [.b r_any, .i r_smooth, .i r_spread, .i r_rto] = rtt_Back r_any r_smooth r_spread r_rto := by
  unfold rtt_Back_S
  simp only [un_i_ev, un_b_ev, un_s_ev, un_li_ev, un_lb_ev, un_ls_ev, un_nil_ev]
theorem rtt_Back_says : Says rtt_Back_SC rtt_Back_S := by
  intro β ls' k' r' h'
  unfold rtt_Back_SC at h'
  obtain ⟨r_any, l'1, rfl, h'1⟩ := un_b_some.1 h'
  obtain ⟨r_smooth, l'2, rfl, h'2⟩ := un_i_some.1 h'1
  obtain ⟨r_spread, l'3, rfl, h'3⟩ := un_i_some.1 h'2
  obtain ⟨r_rto, l'4, rfl, h'4⟩ := un_i_some.1 h'3
  obtain ⟨rfl, h'Z⟩ := un_nil_some.1 h'4
  obtain ⟨l', a', b'⟩ := out_some.1 h'Z
  exact ⟨l', (rtt_Back_Se r_any r_smooth r_spread r_rto).trans a', b'⟩
theorem rtt_Back_c : FnC Go.Proofs.Tryz.prog 31 false 1 1 rtt_Back_in rtt_Back_out rtt_Back_S := by
  refine fn_ok (Λ := rtt_Back_Λ) mixed tab_ok g13 Go.Proofs.Tryz.func31 (by kernel_rfl) (body := fb Go.Proofs.Tryz.f31) rfl (ts := Go.Proofs.Tryz.f31.results.toList) rfl (cuts := []) (by kernel_rfl) (Nat.le_of_ble_eq_true (by kernel_rfl)) (by kernel_rfl) (rt := .tup []) rfl ?_ ?_
  · intro ls' r' h'
    unfold rtt_Back_S at h'
    obtain ⟨r_any, l'1, rfl, h'1⟩ := un_b_some.1 h'
    obtain ⟨r_smooth, l'2, rfl, h'2⟩ := un_i_some.1 h'1
    obtain ⟨r_spread, l'3, rfl, h'3⟩ := un_i_some.1 h'2
    obtain ⟨r_rto, l'4, rfl, h'4⟩ := un_i_some.1 h'3
    obtain ⟨rfl, h'Z⟩ := un_nil_some.1 h'4
    exact (rtt_Back_e r_any r_smooth r_spread r_rto).symm.trans h'Z
  · intro E w0 ws ρ0 hk b hb
    rw [show loopsOf (fb Go.Proofs.Tryz.f31) = [] by kernel_rfl] at hb
    cases hb
noncomputable def G14 : Env := G13.addE 31 1 rtt_Back_in rtt_Back_out rtt_Back_SC
theorem g14 : EnvOk Go.Proofs.Tryz.prog G14 := EnvOk.addE g13 rtt_Back_c rtt_Back_says
end Go.Sx.T

