import Derived.Test.YtopcljhdejindaaGreatDoorYWinSpec
import Derived.Test.YtopcljhdejindaaGreatDoorYRttCon
set_option linter.all false
namespace Go.Sx.T
open Go Go.Sx Go.Proofs

-- ### win_New: function 39
def win_New_in : Tm := ⟨[], []⟩
def win_New_out : Tm := ⟨[.cells 104 [.int .i64, .int .i64, .int .i64, .int .i64, .ptr 1 0, .int .u64, .bool, .int .u64, .bool, .bool, .int .i64], .cells 100 [.bool, .int .i64, .int .i64, .int .i64]], [(0, .w (.at (.ptr 0 0)))]⟩

def win_New_Λd : Loops := Loops.none
def win_New_Λ : Loops := win_New_Λd 

theorem win_New_e  : win_New  = den G14 win_New_Λ false tab Go.Proofs.Tryz.f39.ntmps (fun fr H => finish tab 0 Go.Proofs.Tryz.f39.results.toList win_New_out [] fr H some) (fun _ _ _ => none) (fun fr H => finish tab 0 Go.Proofs.Tryz.f39.results.toList win_New_out [] fr H some) 10000 [.code (fb Go.Proofs.Tryz.f39)] (instFr win_New_in []) (instH win_New_in []) := by kernel_rfl
def win_New_S : List Leaf → Option (List Leaf) := fun ls => un_nil ls (win_New )
def win_New_SC : Tld := fun ls k' => un_nil ls (out (win_New ) k')
theorem win_New_Se  : win_New_S [] = win_New  := by
  unfold win_New_S
  simp only [un_i_ev, un_b_ev, un_s_ev, un_li_ev, un_lb_ev, un_ls_ev, un_nil_ev]
theorem win_New_says : Says win_New_SC win_New_S := by
  intro β ls' k' r' h'
  unfold win_New_SC at h'
  obtain ⟨rfl, h'Z⟩ := un_nil_some.1 h'
  obtain ⟨l', a', b'⟩ := out_some.1 h'Z
  exact ⟨l', (win_New_Se ).trans a', b'⟩
theorem win_New_c : FnC Go.Proofs.Tryz.prog 39 false 0 0 win_New_in win_New_out win_New_S := by
  refine fn_ok (Λ := win_New_Λ) mixed tab_ok g14 Go.Proofs.Tryz.func39 (by kernel_rfl) (body := fb Go.Proofs.Tryz.f39) rfl (ts := Go.Proofs.Tryz.f39.results.toList) rfl (cuts := []) (by kernel_rfl) (Nat.le_of_ble_eq_true (by kernel_rfl)) (by kernel_rfl) (rt := .w (.at (.ptr 0 0))) rfl ?_ ?_
  · intro ls' r' h'
    unfold win_New_S at h'
    obtain ⟨rfl, h'Z⟩ := un_nil_some.1 h'
    exact (win_New_e ).symm.trans h'Z
  · intro E w0 ws ρ0 hk b hb
    rw [show loopsOf (fb Go.Proofs.Tryz.f39) = [] by kernel_rfl] at hb
    cases hb
noncomputable def G15 : Env := G14.addE 39 0 win_New_in win_New_out win_New_SC
theorem g15 : EnvOk Go.Proofs.Tryz.prog G15 := EnvOk.addE g14 win_New_c win_New_says

-- ### win_May: function 48
def win_May_in : Tm := ⟨[.cells 104 [.int .i64, .int .i64, .int .i64, .int .i64, .ptr 1 0, .int .u64, .bool, .int .u64, .bool, .bool, .int .i64], .cells 100 [.bool, .int .i64, .int .i64, .int .i64]], [(0, .w (.at (.ptr 0 0)))]⟩
def win_May_out : Tm := ⟨[.dead, .dead], [(0, .w (.at (.bool)))]⟩

def win_May_Λd : Loops := Loops.none
def win_May_Λ : Loops := win_May_Λd 

theorem win_May_e (w_cwnd : Int) (w_slow : Int) (w_pipe : Int) (w_count : Int) (w_halved_n : Int) (w_halved_is : Bool) (w_last_n : Int) (w_last_is : Bool) (w_runs : Bool) (w_due : Int) (w_rtt_any : Bool) (w_rtt_smooth : Int) (w_rtt_spread : Int) (w_rtt_rto : Int) : win_May w_cwnd w_slow w_pipe w_count w_halved_n w_halved_is w_last_n w_last_is w_runs w_due w_rtt_any w_rtt_smooth w_rtt_spread w_rtt_rto = den G15 win_May_Λ true tab Go.Proofs.Tryz.f48.ntmps (fun fr H => finish tab 2 Go.Proofs.Tryz.f48.results.toList win_May_out [] fr H some) (fun _ _ _ => none) (fun fr H => finish tab 2 Go.Proofs.Tryz.f48.results.toList win_May_out [] fr H some) 10000 [.code (fb Go.Proofs.Tryz.f48)] (instFr win_May_in [.i w_cwnd, .i w_slow, .i w_pipe, .i w_count, .i w_halved_n, .b w_halved_is, .i w_last_n, .b w_last_is, .b w_runs, .i w_due, .b w_rtt_any, .i w_rtt_smooth, .i w_rtt_spread, .i w_rtt_rto]) (instH win_May_in [.i w_cwnd, .i w_slow, .i w_pipe, .i w_count, .i w_halved_n, .b w_halved_is, .i w_last_n, .b w_last_is, .b w_runs, .i w_due, .b w_rtt_any, .i w_rtt_smooth, .i w_rtt_spread, .i w_rtt_rto]) := by kernel_rfl
def win_May_S : List Leaf → Option (List Leaf) := fun ls => un_i ls fun w_cwnd rr => un_i rr fun w_slow rr => un_i rr fun w_pipe rr => un_i rr fun w_count rr => un_i rr fun w_halved_n rr => un_b rr fun w_halved_is rr => un_i rr fun w_last_n rr => un_b rr fun w_last_is rr => un_b rr fun w_runs rr => un_i rr fun w_due rr => un_b rr fun w_rtt_any rr => un_i rr fun w_rtt_smooth rr => un_i rr fun w_rtt_spread rr => un_i rr fun w_rtt_rto rr => un_nil rr (win_May w_cwnd w_slow w_pipe w_count w_halved_n w_halved_is w_last_n w_last_is w_runs w_due w_rtt_any w_rtt_smooth w_rtt_spread w_rtt_rto)
def win_May_SC : Tld := fun ls k' => un_i ls fun w_cwnd rr => un_i rr fun w_slow rr => un_i rr fun w_pipe rr => un_i rr fun w_count rr => un_i rr fun w_halved_n rr => un_b rr fun w_halved_is rr => un_i rr fun w_last_n rr => un_b rr fun w_last_is rr => un_b rr fun w_runs rr => un_i rr fun w_due rr => un_b rr fun w_rtt_any rr => un_i rr fun w_rtt_smooth rr => un_i rr fun w_rtt_spread rr => un_i rr fun w_rtt_rto rr => un_nil rr (out (win_May w_cwnd w_slow w_pipe w_count w_halved_n w_halved_is w_last_n w_last_is w_runs w_due w_rtt_any w_rtt_smooth w_rtt_spread w_rtt_rto) k')
theorem win_May_Se (w_cwnd : Int) (w_slow : Int) (w_pipe : Int) (w_count : Int) (w_halved_n : Int) (w_halved_is : Bool) (w_last_n : Int) (w_last_is : Bool) (w_runs : Bool) (w_due : Int) (w_rtt_any : Bool) (w_rtt_smooth : Int) (w_rtt_spread : Int) (w_rtt_rto : Int) : win_May_S [.i w_cwnd, .i w_slow, .i w_pipe, .i w_count, .i w_halved_n, .b w_halved_is, .i w_last_n, .b w_last_is, .b w_runs, .i w_due, .b w_rtt_any, .i w_rtt_smooth, .i w_rtt_spread, .i w_rtt_rto] = win_May w_cwnd w_slow w_pipe w_count w_halved_n w_halved_is w_last_n w_last_is w_runs w_due w_rtt_any w_rtt_smooth w_rtt_spread w_rtt_rto := by
  unfold win_May_S
  simp only [un_i_ev, un_b_ev, un_s_ev, un_li_ev, un_lb_ev, un_ls_ev, un_nil_ev]
theorem win_May_says : Says win_May_SC win_May_S := by
  intro β ls' k' r' h'
  unfold win_May_SC at h'
  obtain ⟨w_cwnd, l'1, rfl, h'1⟩ := un_i_some.1 h'
  obtain ⟨w_slow, l'2, rfl, h'2⟩ := un_i_some.1 h'1
  obtain ⟨w_pipe, l'3, rfl, h'3⟩ := un_i_some.1 h'2
  obtain ⟨w_count, l'4, rfl, h'4⟩ := un_i_some.1 h'3
  obtain ⟨w_halved_n, l'5, rfl, h'5⟩ := un_i_some.1 h'4
  obtain ⟨w_halved_is, l'6, rfl, h'6⟩ := un_b_some.1 h'5
  obtain ⟨w_last_n, l'7, rfl, h'7⟩ := un_i_some.1 h'6
  obtain ⟨w_last_is, l'8, rfl, h'8⟩ := un_b_some.1 h'7
  obtain ⟨w_runs, l'9, rfl, h'9⟩ := un_b_some.1 h'8
  obtain ⟨w_due, l'10, rfl, h'10⟩ := un_i_some.1 h'9
  obtain ⟨w_rtt_any, l'11, rfl, h'11⟩ := un_b_some.1 h'10
  obtain ⟨w_rtt_smooth, l'12, rfl, h'12⟩ := un_i_some.1 h'11
  obtain ⟨w_rtt_spread, l'13, rfl, h'13⟩ := un_i_some.1 h'12
  obtain ⟨w_rtt_rto, l'14, rfl, h'14⟩ := un_i_some.1 h'13
  obtain ⟨rfl, h'Z⟩ := un_nil_some.1 h'14
  obtain ⟨l', a', b'⟩ := out_some.1 h'Z
  exact ⟨l', (win_May_Se w_cwnd w_slow w_pipe w_count w_halved_n w_halved_is w_last_n w_last_is w_runs w_due w_rtt_any w_rtt_smooth w_rtt_spread w_rtt_rto).trans a', b'⟩
theorem win_May_c : FnC Go.Proofs.Tryz.prog 48 true 1 2 win_May_in win_May_out win_May_S := by
  refine fn_ok (Λ := win_May_Λ) mixed tab_ok g15 Go.Proofs.Tryz.func48 (by kernel_rfl) (body := fb Go.Proofs.Tryz.f48) rfl (ts := Go.Proofs.Tryz.f48.results.toList) rfl (cuts := []) (by kernel_rfl) (Nat.le_of_ble_eq_true (by kernel_rfl)) (by kernel_rfl) (rt := .w (.at (.bool))) rfl ?_ ?_
  · intro ls' r' h'
    unfold win_May_S at h'
    obtain ⟨w_cwnd, l'1, rfl, h'1⟩ := un_i_some.1 h'
    obtain ⟨w_slow, l'2, rfl, h'2⟩ := un_i_some.1 h'1
    obtain ⟨w_pipe, l'3, rfl, h'3⟩ := un_i_some.1 h'2
    obtain ⟨w_count, l'4, rfl, h'4⟩ := un_i_some.1 h'3
    obtain ⟨w_halved_n, l'5, rfl, h'5⟩ := un_i_some.1 h'4
    obtain ⟨w_halved_is, l'6, rfl, h'6⟩ := un_b_some.1 h'5
    obtain ⟨w_last_n, l'7, rfl, h'7⟩ := un_i_some.1 h'6
    obtain ⟨w_last_is, l'8, rfl, h'8⟩ := un_b_some.1 h'7
    obtain ⟨w_runs, l'9, rfl, h'9⟩ := un_b_some.1 h'8
    obtain ⟨w_due, l'10, rfl, h'10⟩ := un_i_some.1 h'9
    obtain ⟨w_rtt_any, l'11, rfl, h'11⟩ := un_b_some.1 h'10
    obtain ⟨w_rtt_smooth, l'12, rfl, h'12⟩ := un_i_some.1 h'11
    obtain ⟨w_rtt_spread, l'13, rfl, h'13⟩ := un_i_some.1 h'12
    obtain ⟨w_rtt_rto, l'14, rfl, h'14⟩ := un_i_some.1 h'13
    obtain ⟨rfl, h'Z⟩ := un_nil_some.1 h'14
    exact (win_May_e w_cwnd w_slow w_pipe w_count w_halved_n w_halved_is w_last_n w_last_is w_runs w_due w_rtt_any w_rtt_smooth w_rtt_spread w_rtt_rto).symm.trans h'Z
  · intro E w0 ws ρ0 hk b hb
    rw [show loopsOf (fb Go.Proofs.Tryz.f48) = [] by kernel_rfl] at hb
    cases hb
noncomputable def G16 : Env := G15.addP 48 1 win_May_in win_May_out win_May_SC
theorem g16 : EnvOk Go.Proofs.Tryz.prog G16 := EnvOk.addP g15 win_May_c win_May_says

-- ### win_runsTo: function 83
def win_runsTo_in : Tm := ⟨[.cells 104 [.int .i64, .int .i64, .int .i64, .int .i64, .ptr 1 0, .int .u64, .bool, .int .u64, .bool, .bool, .int .i64], .cells 100 [.bool, .int .i64, .int .i64, .int .i64]], [(0, .w (.at (.ptr 0 0))), (1, .w (.at (.int .i64)))]⟩
def win_runsTo_out : Tm := ⟨[.cells 104 [.int .i64, .int .i64, .int .i64, .int .i64, .ptr 1 0, .int .u64, .bool, .int .u64, .bool, .bool, .int .i64], .cells 100 [.bool, .int .i64, .int .i64, .int .i64]], [(0, .tup [])]⟩

def win_runsTo_Λd : Loops := Loops.none
def win_runsTo_Λ : Loops := win_runsTo_Λd 

theorem win_runsTo_e (w_cwnd : Int) (w_slow : Int) (w_pipe : Int) (w_count : Int) (w_halved_n : Int) (w_halved_is : Bool) (w_last_n : Int) (w_last_is : Bool) (w_runs : Bool) (w_due : Int) (w_rtt_any : Bool) (w_rtt_smooth : Int) (w_rtt_spread : Int) (w_rtt_rto : Int) (now : Int) : win_runsTo w_cwnd w_slow w_pipe w_count w_halved_n w_halved_is w_last_n w_last_is w_runs w_due w_rtt_any w_rtt_smooth w_rtt_spread w_rtt_rto now = den G16 win_runsTo_Λ false tab Go.Proofs.Tryz.f83.ntmps (fun fr H => finish tab 2 Go.Proofs.Tryz.f83.results.toList win_runsTo_out [] fr H some) (fun _ _ _ => none) (fun fr H => finish tab 2 Go.Proofs.Tryz.f83.results.toList win_runsTo_out [] fr H some) 10000 [.code (fb Go.Proofs.Tryz.f83)] (instFr win_runsTo_in [.i w_cwnd, .i w_slow, .i w_pipe, .i w_count, .i w_halved_n, .b w_halved_is, .i w_last_n, .b w_last_is, .b w_runs, .i w_due, .b w_rtt_any, .i w_rtt_smooth, .i w_rtt_spread, .i w_rtt_rto, .i now]) (instH win_runsTo_in [.i w_cwnd, .i w_slow, .i w_pipe, .i w_count, .i w_halved_n, .b w_halved_is, .i w_last_n, .b w_last_is, .b w_runs, .i w_due, .b w_rtt_any, .i w_rtt_smooth, .i w_rtt_spread, .i w_rtt_rto, .i now]) := by kernel_rfl
def win_runsTo_S : List Leaf → Option (List Leaf) := fun ls => un_i ls fun w_cwnd rr => un_i rr fun w_slow rr => un_i rr fun w_pipe rr => un_i rr fun w_count rr => un_i rr fun w_halved_n rr => un_b rr fun w_halved_is rr => un_i rr fun w_last_n rr => un_b rr fun w_last_is rr => un_b rr fun w_runs rr => un_i rr fun w_due rr => un_b rr fun w_rtt_any rr => un_i rr fun w_rtt_smooth rr => un_i rr fun w_rtt_spread rr => un_i rr fun w_rtt_rto rr => un_i rr fun now rr => un_nil rr (win_runsTo w_cwnd w_slow w_pipe w_count w_halved_n w_halved_is w_last_n w_last_is w_runs w_due w_rtt_any w_rtt_smooth w_rtt_spread w_rtt_rto now)
def win_runsTo_SC : Tld := fun ls k' => un_i ls fun w_cwnd rr => un_i rr fun w_slow rr => un_i rr fun w_pipe rr => un_i rr fun w_count rr => un_i rr fun w_halved_n rr => un_b rr fun w_halved_is rr => un_i rr fun w_last_n rr => un_b rr fun w_last_is rr => un_b rr fun w_runs rr => un_i rr fun w_due rr => un_b rr fun w_rtt_any rr => un_i rr fun w_rtt_smooth rr => un_i rr fun w_rtt_spread rr => un_i rr fun w_rtt_rto rr => un_i rr fun now rr => un_nil rr (out (win_runsTo w_cwnd w_slow w_pipe w_count w_halved_n w_halved_is w_last_n w_last_is w_runs w_due w_rtt_any w_rtt_smooth w_rtt_spread w_rtt_rto now) k')
theorem win_runsTo_Se (w_cwnd : Int) (w_slow : Int) (w_pipe : Int) (w_count : Int) (w_halved_n : Int) (w_halved_is : Bool) (w_last_n : Int) (w_last_is : Bool) (w_runs : Bool) (w_due : Int) (w_rtt_any : Bool) (w_rtt_smooth : Int) (w_rtt_spread : Int) (w_rtt_rto : Int) (now : Int) : win_runsTo_S [.i w_cwnd, .i w_slow, .i w_pipe, .i w_count, .i w_halved_n, .b w_halved_is, .i w_last_n, .b w_last_is, .b w_runs, .i w_due, .b w_rtt_any, .i w_rtt_smooth, .i w_rtt_spread, .i w_rtt_rto, .i now] = win_runsTo w_cwnd w_slow w_pipe w_count w_halved_n w_halved_is w_last_n w_last_is w_runs w_due w_rtt_any w_rtt_smooth w_rtt_spread w_rtt_rto now := by
  unfold win_runsTo_S
  simp only [un_i_ev, un_b_ev, un_s_ev, un_li_ev, un_lb_ev, un_ls_ev, un_nil_ev]
theorem win_runsTo_says : Says win_runsTo_SC win_runsTo_S := by
  intro β ls' k' r' h'
  unfold win_runsTo_SC at h'
  obtain ⟨w_cwnd, l'1, rfl, h'1⟩ := un_i_some.1 h'
  obtain ⟨w_slow, l'2, rfl, h'2⟩ := un_i_some.1 h'1
  obtain ⟨w_pipe, l'3, rfl, h'3⟩ := un_i_some.1 h'2
  obtain ⟨w_count, l'4, rfl, h'4⟩ := un_i_some.1 h'3
  obtain ⟨w_halved_n, l'5, rfl, h'5⟩ := un_i_some.1 h'4
  obtain ⟨w_halved_is, l'6, rfl, h'6⟩ := un_b_some.1 h'5
  obtain ⟨w_last_n, l'7, rfl, h'7⟩ := un_i_some.1 h'6
  obtain ⟨w_last_is, l'8, rfl, h'8⟩ := un_b_some.1 h'7
  obtain ⟨w_runs, l'9, rfl, h'9⟩ := un_b_some.1 h'8
  obtain ⟨w_due, l'10, rfl, h'10⟩ := un_i_some.1 h'9
  obtain ⟨w_rtt_any, l'11, rfl, h'11⟩ := un_b_some.1 h'10
  obtain ⟨w_rtt_smooth, l'12, rfl, h'12⟩ := un_i_some.1 h'11
  obtain ⟨w_rtt_spread, l'13, rfl, h'13⟩ := un_i_some.1 h'12
  obtain ⟨w_rtt_rto, l'14, rfl, h'14⟩ := un_i_some.1 h'13
  obtain ⟨now, l'15, rfl, h'15⟩ := un_i_some.1 h'14
  obtain ⟨rfl, h'Z⟩ := un_nil_some.1 h'15
  obtain ⟨l', a', b'⟩ := out_some.1 h'Z
  exact ⟨l', (win_runsTo_Se w_cwnd w_slow w_pipe w_count w_halved_n w_halved_is w_last_n w_last_is w_runs w_due w_rtt_any w_rtt_smooth w_rtt_spread w_rtt_rto now).trans a', b'⟩
theorem win_runsTo_c : FnC Go.Proofs.Tryz.prog 83 false 2 2 win_runsTo_in win_runsTo_out win_runsTo_S := by
  refine fn_ok (Λ := win_runsTo_Λ) mixed tab_ok g16 Go.Proofs.Tryz.func83 (by kernel_rfl) (body := fb Go.Proofs.Tryz.f83) rfl (ts := Go.Proofs.Tryz.f83.results.toList) rfl (cuts := []) (by kernel_rfl) (Nat.le_of_ble_eq_true (by kernel_rfl)) (by kernel_rfl) (rt := .tup []) rfl ?_ ?_
  · intro ls' r' h'
    unfold win_runsTo_S at h'
    obtain ⟨w_cwnd, l'1, rfl, h'1⟩ := un_i_some.1 h'
    obtain ⟨w_slow, l'2, rfl, h'2⟩ := un_i_some.1 h'1
    obtain ⟨w_pipe, l'3, rfl, h'3⟩ := un_i_some.1 h'2
    obtain ⟨w_count, l'4, rfl, h'4⟩ := un_i_some.1 h'3
    obtain ⟨w_halved_n, l'5, rfl, h'5⟩ := un_i_some.1 h'4
    obtain ⟨w_halved_is, l'6, rfl, h'6⟩ := un_b_some.1 h'5
    obtain ⟨w_last_n, l'7, rfl, h'7⟩ := un_i_some.1 h'6
    obtain ⟨w_last_is, l'8, rfl, h'8⟩ := un_b_some.1 h'7
    obtain ⟨w_runs, l'9, rfl, h'9⟩ := un_b_some.1 h'8
    obtain ⟨w_due, l'10, rfl, h'10⟩ := un_i_some.1 h'9
    obtain ⟨w_rtt_any, l'11, rfl, h'11⟩ := un_b_some.1 h'10
    obtain ⟨w_rtt_smooth, l'12, rfl, h'12⟩ := un_i_some.1 h'11
    obtain ⟨w_rtt_spread, l'13, rfl, h'13⟩ := un_i_some.1 h'12
    obtain ⟨w_rtt_rto, l'14, rfl, h'14⟩ := un_i_some.1 h'13
    obtain ⟨now, l'15, rfl, h'15⟩ := un_i_some.1 h'14
    obtain ⟨rfl, h'Z⟩ := un_nil_some.1 h'15
    exact (win_runsTo_e w_cwnd w_slow w_pipe w_count w_halved_n w_halved_is w_last_n w_last_is w_runs w_due w_rtt_any w_rtt_smooth w_rtt_spread w_rtt_rto now).symm.trans h'Z
  · intro E w0 ws ρ0 hk b hb
    rw [show loopsOf (fb Go.Proofs.Tryz.f83) = [] by kernel_rfl] at hb
    cases hb
noncomputable def G17 : Env := G16.addE 83 2 win_runsTo_in win_runsTo_out win_runsTo_SC
theorem g17 : EnvOk Go.Proofs.Tryz.prog G17 := EnvOk.addE g16 win_runsTo_c win_runsTo_says

-- ### win_Sent: function 40
def win_Sent_in : Tm := ⟨[.cells 104 [.int .i64, .int .i64, .int .i64, .int .i64, .ptr 1 0, .int .u64, .bool, .int .u64, .bool, .bool, .int .i64], .cells 100 [.bool, .int .i64, .int .i64, .int .i64]], [(0, .w (.at (.ptr 0 0))), (1, .w (.at (.int .u64))), (2, .w (.at (.int .i64)))]⟩
def win_Sent_out : Tm := ⟨[.cells 104 [.int .i64, .int .i64, .int .i64, .int .i64, .ptr 1 0, .int .u64, .bool, .int .u64, .bool, .bool, .int .i64], .cells 100 [.bool, .int .i64, .int .i64, .int .i64]], [(0, .w (.at (.bool)))]⟩

def win_Sent_Λd : Loops := Loops.none
def win_Sent_Λ : Loops := win_Sent_Λd 

theorem win_Sent_e (w_cwnd : Int) (w_slow : Int) (w_pipe : Int) (w_count : Int) (w_halved_n : Int) (w_halved_is : Bool) (w_last_n : Int) (w_last_is : Bool) (w_runs : Bool) (w_due : Int) (w_rtt_any : Bool) (w_rtt_smooth : Int) (w_rtt_spread : Int) (w_rtt_rto : Int) (n2 : Int) (now : Int) : win_Sent w_cwnd w_slow w_pipe w_count w_halved_n w_halved_is w_last_n w_last_is w_runs w_due w_rtt_any w_rtt_smooth w_rtt_spread w_rtt_rto n2 now = den G17 win_Sent_Λ false tab Go.Proofs.Tryz.f40.ntmps (fun fr H => finish tab 2 Go.Proofs.Tryz.f40.results.toList win_Sent_out [] fr H some) (fun _ _ _ => none) (fun fr H => finish tab 2 Go.Proofs.Tryz.f40.results.toList win_Sent_out [] fr H some) 10000 [.code (fb Go.Proofs.Tryz.f40)] (instFr win_Sent_in [.i w_cwnd, .i w_slow, .i w_pipe, .i w_count, .i w_halved_n, .b w_halved_is, .i w_last_n, .b w_last_is, .b w_runs, .i w_due, .b w_rtt_any, .i w_rtt_smooth, .i w_rtt_spread, .i w_rtt_rto, .i n2, .i now]) (instH win_Sent_in [.i w_cwnd, .i w_slow, .i w_pipe, .i w_count, .i w_halved_n, .b w_halved_is, .i w_last_n, .b w_last_is, .b w_runs, .i w_due, .b w_rtt_any, .i w_rtt_smooth, .i w_rtt_spread, .i w_rtt_rto, .i n2, .i now]) := by kernel_rfl
def win_Sent_S : List Leaf → Option (List Leaf) := fun ls => un_i ls fun w_cwnd rr => un_i rr fun w_slow rr => un_i rr fun w_pipe rr => un_i rr fun w_count rr => un_i rr fun w_halved_n rr => un_b rr fun w_halved_is rr => un_i rr fun w_last_n rr => un_b rr fun w_last_is rr => un_b rr fun w_runs rr => un_i rr fun w_due rr => un_b rr fun w_rtt_any rr => un_i rr fun w_rtt_smooth rr => un_i rr fun w_rtt_spread rr => un_i rr fun w_rtt_rto rr => un_i rr fun n2 rr => un_i rr fun now rr => un_nil rr (win_Sent w_cwnd w_slow w_pipe w_count w_halved_n w_halved_is w_last_n w_last_is w_runs w_due w_rtt_any w_rtt_smooth w_rtt_spread w_rtt_rto n2 now)
def win_Sent_SC : Tld := fun ls k' => un_i ls fun w_cwnd rr => un_i rr fun w_slow rr => un_i rr fun w_pipe rr => un_i rr fun w_count rr => un_i rr fun w_halved_n rr => un_b rr fun w_halved_is rr => un_i rr fun w_last_n rr => un_b rr fun w_last_is rr => un_b rr fun w_runs rr => un_i rr fun w_due rr => un_b rr fun w_rtt_any rr => un_i rr fun w_rtt_smooth rr => un_i rr fun w_rtt_spread rr => un_i rr fun w_rtt_rto rr => un_i rr fun n2 rr => un_i rr fun now rr => un_nil rr (out (win_Sent w_cwnd w_slow w_pipe w_count w_halved_n w_halved_is w_last_n w_last_is w_runs w_due w_rtt_any w_rtt_smooth w_rtt_spread w_rtt_rto n2 now) k')
theorem win_Sent_Se (w_cwnd : Int) (w_slow : Int) (w_pipe : Int) (w_count : Int) (w_halved_n : Int) (w_halved_is : Bool) (w_last_n : Int) (w_last_is : Bool) (w_runs : Bool) (w_due : Int) (w_rtt_any : Bool) (w_rtt_smooth : Int) (w_rtt_spread : Int) (w_rtt_rto : Int) (n2 : Int) (now : Int) : win_Sent_S [.i w_cwnd, .i w_slow, .i w_pipe, .i w_count, .i w_halved_n, .b w_halved_is, .i w_last_n, .b w_last_is, .b w_runs, .i w_due, .b w_rtt_any, .i w_rtt_smooth, .i w_rtt_spread, .i w_rtt_rto, .i n2, .i now] = win_Sent w_cwnd w_slow w_pipe w_count w_halved_n w_halved_is w_last_n w_last_is w_runs w_due w_rtt_any w_rtt_smooth w_rtt_spread w_rtt_rto n2 now := by
  unfold win_Sent_S
  simp only [un_i_ev, un_b_ev, un_s_ev, un_li_ev, un_lb_ev, un_ls_ev, un_nil_ev]
theorem win_Sent_says : Says win_Sent_SC win_Sent_S := by
  intro β ls' k' r' h'
  unfold win_Sent_SC at h'
  obtain ⟨w_cwnd, l'1, rfl, h'1⟩ := un_i_some.1 h'
  obtain ⟨w_slow, l'2, rfl, h'2⟩ := un_i_some.1 h'1
  obtain ⟨w_pipe, l'3, rfl, h'3⟩ := un_i_some.1 h'2
  obtain ⟨w_count, l'4, rfl, h'4⟩ := un_i_some.1 h'3
  obtain ⟨w_halved_n, l'5, rfl, h'5⟩ := un_i_some.1 h'4
  obtain ⟨w_halved_is, l'6, rfl, h'6⟩ := un_b_some.1 h'5
  obtain ⟨w_last_n, l'7, rfl, h'7⟩ := un_i_some.1 h'6
  obtain ⟨w_last_is, l'8, rfl, h'8⟩ := un_b_some.1 h'7
  obtain ⟨w_runs, l'9, rfl, h'9⟩ := un_b_some.1 h'8
  obtain ⟨w_due, l'10, rfl, h'10⟩ := un_i_some.1 h'9
  obtain ⟨w_rtt_any, l'11, rfl, h'11⟩ := un_b_some.1 h'10
  obtain ⟨w_rtt_smooth, l'12, rfl, h'12⟩ := un_i_some.1 h'11
  obtain ⟨w_rtt_spread, l'13, rfl, h'13⟩ := un_i_some.1 h'12
  obtain ⟨w_rtt_rto, l'14, rfl, h'14⟩ := un_i_some.1 h'13
  obtain ⟨n2, l'15, rfl, h'15⟩ := un_i_some.1 h'14
  obtain ⟨now, l'16, rfl, h'16⟩ := un_i_some.1 h'15
  obtain ⟨rfl, h'Z⟩ := un_nil_some.1 h'16
  obtain ⟨l', a', b'⟩ := out_some.1 h'Z
  exact ⟨l', (win_Sent_Se w_cwnd w_slow w_pipe w_count w_halved_n w_halved_is w_last_n w_last_is w_runs w_due w_rtt_any w_rtt_smooth w_rtt_spread w_rtt_rto n2 now).trans a', b'⟩
theorem win_Sent_c : FnC Go.Proofs.Tryz.prog 40 false 3 2 win_Sent_in win_Sent_out win_Sent_S := by
  refine fn_ok (Λ := win_Sent_Λ) mixed tab_ok g17 Go.Proofs.Tryz.func40 (by kernel_rfl) (body := fb Go.Proofs.Tryz.f40) rfl (ts := Go.Proofs.Tryz.f40.results.toList) rfl (cuts := []) (by kernel_rfl) (Nat.le_of_ble_eq_true (by kernel_rfl)) (by kernel_rfl) (rt := .w (.at (.bool))) rfl ?_ ?_
  · intro ls' r' h'
    unfold win_Sent_S at h'
    obtain ⟨w_cwnd, l'1, rfl, h'1⟩ := un_i_some.1 h'
    obtain ⟨w_slow, l'2, rfl, h'2⟩ := un_i_some.1 h'1
    obtain ⟨w_pipe, l'3, rfl, h'3⟩ := un_i_some.1 h'2
    obtain ⟨w_count, l'4, rfl, h'4⟩ := un_i_some.1 h'3
    obtain ⟨w_halved_n, l'5, rfl, h'5⟩ := un_i_some.1 h'4
    obtain ⟨w_halved_is, l'6, rfl, h'6⟩ := un_b_some.1 h'5
    obtain ⟨w_last_n, l'7, rfl, h'7⟩ := un_i_some.1 h'6
    obtain ⟨w_last_is, l'8, rfl, h'8⟩ := un_b_some.1 h'7
    obtain ⟨w_runs, l'9, rfl, h'9⟩ := un_b_some.1 h'8
    obtain ⟨w_due, l'10, rfl, h'10⟩ := un_i_some.1 h'9
    obtain ⟨w_rtt_any, l'11, rfl, h'11⟩ := un_b_some.1 h'10
    obtain ⟨w_rtt_smooth, l'12, rfl, h'12⟩ := un_i_some.1 h'11
    obtain ⟨w_rtt_spread, l'13, rfl, h'13⟩ := un_i_some.1 h'12
    obtain ⟨w_rtt_rto, l'14, rfl, h'14⟩ := un_i_some.1 h'13
    obtain ⟨n2, l'15, rfl, h'15⟩ := un_i_some.1 h'14
    obtain ⟨now, l'16, rfl, h'16⟩ := un_i_some.1 h'15
    obtain ⟨rfl, h'Z⟩ := un_nil_some.1 h'16
    exact (win_Sent_e w_cwnd w_slow w_pipe w_count w_halved_n w_halved_is w_last_n w_last_is w_runs w_due w_rtt_any w_rtt_smooth w_rtt_spread w_rtt_rto n2 now).symm.trans h'Z
  · intro E w0 ws ρ0 hk b hb
    rw [show loopsOf (fb Go.Proofs.Tryz.f40) = [] by kernel_rfl] at hb
    cases hb
noncomputable def G18 : Env := G17.addE 40 3 win_Sent_in win_Sent_out win_Sent_SC
theorem g18 : EnvOk Go.Proofs.Tryz.prog G18 := EnvOk.addE g17 win_Sent_c win_Sent_says

-- ### win_grow: function 84
def win_grow_in : Tm := ⟨[.cells 104 [.int .i64, .int .i64, .int .i64, .int .i64, .ptr 1 0, .int .u64, .bool, .int .u64, .bool, .bool, .int .i64], .cells 100 [.bool, .int .i64, .int .i64, .int .i64]], [(0, .w (.at (.ptr 0 0))), (1, .w (.at (.int .i64)))]⟩
def win_grow_out : Tm := ⟨[.cells 104 [.int .i64, .int .i64, .int .i64, .int .i64, .ptr 1 0, .int .u64, .bool, .int .u64, .bool, .bool, .int .i64], .cells 100 [.bool, .int .i64, .int .i64, .int .i64]], [(0, .tup [])]⟩
def win_grow_5_T : Tm := ⟨[.cells 104 [.int .i64, .int .i64, .int .i64, .int .i64, .ptr 1 0, .int .u64, .bool, .int .u64, .bool, .bool, .int .i64], .cells 100 [.bool, .int .i64, .int .i64, .int .i64]], [(0, .w (.at (.ptr 0 0)))]⟩
def win_grow_5_X0 : Tm := ⟨[.cells 104 [.int .i64, .int .i64, .int .i64, .int .i64, .ptr 1 0, .int .u64, .bool, .int .u64, .bool, .bool, .int .i64], .cells 100 [.bool, .int .i64, .int .i64, .int .i64]], []⟩
def win_grow_5_X : Exits := [(0, (win_grow_5_X0, []))]
def win_grow_5_R : Tm := ⟨[], []⟩

def win_grow_Λd (L5 : ({β : Type} → (Nat → List Leaf → Option β) → (List Leaf → Option β) → Nat → Int → Int → Int → Int → Int → Bool → Int → Bool → Bool → Int → Bool → Int → Int → Int → Option β)) : Loops := ⟨fun b fr H kx kr => bif Nat.beq (rid b) 5 then loopE 2 win_grow_5_T [] win_grow_5_X win_grow_5_R (win_grow_5_F @L5 top) fr H kx kr else none⟩
def win_grow_Λ : Loops := win_grow_Λd @win_grow_5_L
theorem win_grow_5_e (L5 : ({β : Type} → (Nat → List Leaf → Option β) → (List Leaf → Option β) → Nat → Int → Int → Int → Int → Int → Bool → Int → Bool → Bool → Int → Bool → Int → Int → Int → Option β)) {α : Type} (kx : Nat → List Leaf → Option α) (kr : List Leaf → Option α) (again : Int → Int → Int → Int → Int → Bool → Int → Bool → Bool → Int → Bool → Int → Int → Int → Option α) (w_cwnd : Int) (w_slow : Int) (w_pipe : Int) (w_count : Int) (w_halved_n : Int) (w_halved_is : Bool) (w_last_n : Int) (w_last_is : Bool) (w_runs : Bool) (w_due : Int) (w_rtt_any : Bool) (w_rtt_smooth : Int) (w_rtt_spread : Int) (w_rtt_rto : Int) : win_grow_5_B  kx kr again w_cwnd w_slow w_pipe w_count w_halved_n w_halved_is w_last_n w_last_is w_runs w_due w_rtt_any w_rtt_smooth w_rtt_spread w_rtt_rto = loopB G18 (win_grow_Λd @L5) false tab Go.Proofs.Tryz.f84.ntmps 2 win_grow_5_T [] win_grow_5_X win_grow_5_R (bodyAt (fb Go.Proofs.Tryz.f84) 0) (fun ls => un_i ls fun w_cwnd rr => un_i rr fun w_slow rr => un_i rr fun w_pipe rr => un_i rr fun w_count rr => un_i rr fun w_halved_n rr => un_b rr fun w_halved_is rr => un_i rr fun w_last_n rr => un_b rr fun w_last_is rr => un_b rr fun w_runs rr => un_i rr fun w_due rr => un_b rr fun w_rtt_any rr => un_i rr fun w_rtt_smooth rr => un_i rr fun w_rtt_spread rr => un_i rr fun w_rtt_rto rr => un_nil rr (again w_cwnd w_slow w_pipe w_count w_halved_n w_halved_is w_last_n w_last_is w_runs w_due w_rtt_any w_rtt_smooth w_rtt_spread w_rtt_rto)) kx kr (instFr win_grow_5_T [.i w_cwnd, .i w_slow, .i w_pipe, .i w_count, .i w_halved_n, .b w_halved_is, .i w_last_n, .b w_last_is, .b w_runs, .i w_due, .b w_rtt_any, .i w_rtt_smooth, .i w_rtt_spread, .i w_rtt_rto]) (instH win_grow_5_T [.i w_cwnd, .i w_slow, .i w_pipe, .i w_count, .i w_halved_n, .b w_halved_is, .i w_last_n, .b w_last_is, .b w_runs, .i w_due, .b w_rtt_any, .i w_rtt_smooth, .i w_rtt_spread, .i w_rtt_rto]) := by kernel_rfl
theorem win_grow_5_lok (E : Nat → Prop) (w0 ws : World) (ρ0 : List Pl) (hk : ρ0.length = 2) : LOk Go.Proofs.Tryz.prog 84 Go.Proofs.Tryz.f84 false E w0 ws Go.Proofs.Tryz.f84.ntmps ρ0 win_grow_Λ (bodyAt (fb Go.Proofs.Tryz.f84) 0) := by
  refine lok mixed tab_ok g18 Go.Proofs.Tryz.func84 hk (T := win_grow_5_T) (rt := win_grow_5_R) (cuts := []) (ex := win_grow_5_X) (top := top) (F := win_grow_5_F @win_grow_5_L) (fun fr H kx kr => by kernel_rfl) ?_ ?_ ?_
  · intro α ls' kx' kr' r' h'
    unfold win_grow_5_F at h'
    obtain ⟨w_cwnd, l'1, rfl, h'1⟩ := un_i_some.1 h'
    obtain ⟨w_slow, l'2, rfl, h'2⟩ := un_i_some.1 h'1
    obtain ⟨w_pipe, l'3, rfl, h'3⟩ := un_i_some.1 h'2
    obtain ⟨w_count, l'4, rfl, h'4⟩ := un_i_some.1 h'3
    obtain ⟨w_halved_n, l'5, rfl, h'5⟩ := un_i_some.1 h'4
    obtain ⟨w_halved_is, l'6, rfl, h'6⟩ := un_b_some.1 h'5
    obtain ⟨w_last_n, l'7, rfl, h'7⟩ := un_i_some.1 h'6
    obtain ⟨w_last_is, l'8, rfl, h'8⟩ := un_b_some.1 h'7
    obtain ⟨w_runs, l'9, rfl, h'9⟩ := un_b_some.1 h'8
    obtain ⟨w_due, l'10, rfl, h'10⟩ := un_i_some.1 h'9
    obtain ⟨w_rtt_any, l'11, rfl, h'11⟩ := un_b_some.1 h'10
    obtain ⟨w_rtt_smooth, l'12, rfl, h'12⟩ := un_i_some.1 h'11
    obtain ⟨w_rtt_spread, l'13, rfl, h'13⟩ := un_i_some.1 h'12
    obtain ⟨w_rtt_rto, l'14, rfl, h'14⟩ := un_i_some.1 h'13
    obtain ⟨rfl, h'Z⟩ := un_nil_some.1 h'14
    cases h'Z
  · intro α n' ls' kx' kr' r' h'
    unfold win_grow_5_F at h'
    obtain ⟨w_cwnd, l'1, rfl, h'1⟩ := un_i_some.1 h'
    obtain ⟨w_slow, l'2, rfl, h'2⟩ := un_i_some.1 h'1
    obtain ⟨w_pipe, l'3, rfl, h'3⟩ := un_i_some.1 h'2
    obtain ⟨w_count, l'4, rfl, h'4⟩ := un_i_some.1 h'3
    obtain ⟨w_halved_n, l'5, rfl, h'5⟩ := un_i_some.1 h'4
    obtain ⟨w_halved_is, l'6, rfl, h'6⟩ := un_b_some.1 h'5
    obtain ⟨w_last_n, l'7, rfl, h'7⟩ := un_i_some.1 h'6
    obtain ⟨w_last_is, l'8, rfl, h'8⟩ := un_b_some.1 h'7
    obtain ⟨w_runs, l'9, rfl, h'9⟩ := un_b_some.1 h'8
    obtain ⟨w_due, l'10, rfl, h'10⟩ := un_i_some.1 h'9
    obtain ⟨w_rtt_any, l'11, rfl, h'11⟩ := un_b_some.1 h'10
    obtain ⟨w_rtt_smooth, l'12, rfl, h'12⟩ := un_i_some.1 h'11
    obtain ⟨w_rtt_spread, l'13, rfl, h'13⟩ := un_i_some.1 h'12
    obtain ⟨w_rtt_rto, l'14, rfl, h'14⟩ := un_i_some.1 h'13
    obtain ⟨rfl, h'Z⟩ := un_nil_some.1 h'14
    exact (win_grow_5_e @win_grow_5_L kx' kr' (win_grow_5_L kx' kr' n') w_cwnd w_slow w_pipe w_count w_halved_n w_halved_is w_last_n w_last_is w_runs w_due w_rtt_any w_rtt_smooth w_rtt_spread w_rtt_rto).symm.trans h'Z
  · intro b' hb
    rw [show loopsOf (bodyAt (fb Go.Proofs.Tryz.f84) 0) = [] by kernel_rfl] at hb
    cases hb
theorem win_grow_ed (L5 : ({β : Type} → (Nat → List Leaf → Option β) → (List Leaf → Option β) → Nat → Int → Int → Int → Int → Int → Bool → Int → Bool → Bool → Int → Bool → Int → Int → Int → Option β)) (w_cwnd : Int) (w_slow : Int) (w_pipe : Int) (w_count : Int) (w_halved_n : Int) (w_halved_is : Bool) (w_last_n : Int) (w_last_is : Bool) (w_runs : Bool) (w_due : Int) (w_rtt_any : Bool) (w_rtt_smooth : Int) (w_rtt_spread : Int) (w_rtt_rto : Int) (n2 : Int) : win_grow_d @L5 w_cwnd w_slow w_pipe w_count w_halved_n w_halved_is w_last_n w_last_is w_runs w_due w_rtt_any w_rtt_smooth w_rtt_spread w_rtt_rto n2 = den G18 (win_grow_Λd @L5) false tab Go.Proofs.Tryz.f84.ntmps (fun fr H => finish tab 2 Go.Proofs.Tryz.f84.results.toList win_grow_out [] fr H some) (fun _ _ _ => none) (fun fr H => finish tab 2 Go.Proofs.Tryz.f84.results.toList win_grow_out [] fr H some) 10000 [.code (fb Go.Proofs.Tryz.f84)] (instFr win_grow_in [.i w_cwnd, .i w_slow, .i w_pipe, .i w_count, .i w_halved_n, .b w_halved_is, .i w_last_n, .b w_last_is, .b w_runs, .i w_due, .b w_rtt_any, .i w_rtt_smooth, .i w_rtt_spread, .i w_rtt_rto, .i n2]) (instH win_grow_in [.i w_cwnd, .i w_slow, .i w_pipe, .i w_count, .i w_halved_n, .b w_halved_is, .i w_last_n, .b w_last_is, .b w_runs, .i w_due, .b w_rtt_any, .i w_rtt_smooth, .i w_rtt_spread, .i w_rtt_rto, .i n2]) := by kernel_rfl
theorem win_grow_e (w_cwnd : Int) (w_slow : Int) (w_pipe : Int) (w_count : Int) (w_halved_n : Int) (w_halved_is : Bool) (w_last_n : Int) (w_last_is : Bool) (w_runs : Bool) (w_due : Int) (w_rtt_any : Bool) (w_rtt_smooth : Int) (w_rtt_spread : Int) (w_rtt_rto : Int) (n2 : Int) : win_grow w_cwnd w_slow w_pipe w_count w_halved_n w_halved_is w_last_n w_last_is w_runs w_due w_rtt_any w_rtt_smooth w_rtt_spread w_rtt_rto n2 = den G18 win_grow_Λ false tab Go.Proofs.Tryz.f84.ntmps (fun fr H => finish tab 2 Go.Proofs.Tryz.f84.results.toList win_grow_out [] fr H some) (fun _ _ _ => none) (fun fr H => finish tab 2 Go.Proofs.Tryz.f84.results.toList win_grow_out [] fr H some) 10000 [.code (fb Go.Proofs.Tryz.f84)] (instFr win_grow_in [.i w_cwnd, .i w_slow, .i w_pipe, .i w_count, .i w_halved_n, .b w_halved_is, .i w_last_n, .b w_last_is, .b w_runs, .i w_due, .b w_rtt_any, .i w_rtt_smooth, .i w_rtt_spread, .i w_rtt_rto, .i n2]) (instH win_grow_in [.i w_cwnd, .i w_slow, .i w_pipe, .i w_count, .i w_halved_n, .b w_halved_is, .i w_last_n, .b w_last_is, .b w_runs, .i w_due, .b w_rtt_any, .i w_rtt_smooth, .i w_rtt_spread, .i w_rtt_rto, .i n2]) := win_grow_ed @win_grow_5_L w_cwnd w_slow w_pipe w_count w_halved_n w_halved_is w_last_n w_last_is w_runs w_due w_rtt_any w_rtt_smooth w_rtt_spread w_rtt_rto n2
def win_grow_S : List Leaf → Option (List Leaf) := fun ls => un_i ls fun w_cwnd rr => un_i rr fun w_slow rr => un_i rr fun w_pipe rr => un_i rr fun w_count rr => un_i rr fun w_halved_n rr => un_b rr fun w_halved_is rr => un_i rr fun w_last_n rr => un_b rr fun w_last_is rr => un_b rr fun w_runs rr => un_i rr fun w_due rr => un_b rr fun w_rtt_any rr => un_i rr fun w_rtt_smooth rr => un_i rr fun w_rtt_spread rr => un_i rr fun w_rtt_rto rr => un_i rr fun n2 rr => un_nil rr (win_grow w_cwnd w_slow w_pipe w_count w_halved_n w_halved_is w_last_n w_last_is w_runs w_due w_rtt_any w_rtt_smooth w_rtt_spread w_rtt_rto n2)
def win_grow_SC : Tld := fun ls k' => un_i ls fun w_cwnd rr => un_i rr fun w_slow rr => un_i rr fun w_pipe rr => un_i rr fun w_count rr => un_i rr fun w_halved_n rr => un_b rr fun w_halved_is rr => un_i rr fun w_last_n rr => un_b rr fun w_last_is rr => un_b rr fun w_runs rr => un_i rr fun w_due rr => un_b rr fun w_rtt_any rr => un_i rr fun w_rtt_smooth rr => un_i rr fun w_rtt_spread rr => un_i rr fun w_rtt_rto rr => un_i rr fun n2 rr => un_nil rr (out (win_grow w_cwnd w_slow w_pipe w_count w_halved_n w_halved_is w_last_n w_last_is w_runs w_due w_rtt_any w_rtt_smooth w_rtt_spread w_rtt_rto n2) k')
theorem win_grow_Se (w_cwnd : Int) (w_slow : Int) (w_pipe : Int) (w_count : Int) (w_halved_n : Int) (w_halved_is : Bool) (w_last_n : Int) (w_last_is : Bool) (w_runs : Bool) (w_due : Int) (w_rtt_any : Bool) (w_rtt_smooth : Int) (w_rtt_spread : Int) (w_rtt_rto : Int) (n2 : Int) : win_grow_S [.i w_cwnd, .i w_slow, .i w_pipe, .i w_count, .i w_halved_n, .b w_halved_is, .i w_last_n, .b w_last_is, .b w_runs, .i w_due, .b w_rtt_any, .i w_rtt_smooth, .i w_rtt_spread, .i w_rtt_rto, .i n2] = win_grow w_cwnd w_slow w_pipe w_count w_halved_n w_halved_is w_last_n w_last_is w_runs w_due w_rtt_any w_rtt_smooth w_rtt_spread w_rtt_rto n2 := by
  unfold win_grow_S
  simp only [un_i_ev, un_b_ev, un_s_ev, un_li_ev, un_lb_ev, un_ls_ev, un_nil_ev]
theorem win_grow_says : Says win_grow_SC win_grow_S := by
  intro β ls' k' r' h'
  unfold win_grow_SC at h'
  obtain ⟨w_cwnd, l'1, rfl, h'1⟩ := un_i_some.1 h'
  obtain ⟨w_slow, l'2, rfl, h'2⟩ := un_i_some.1 h'1
  obtain ⟨w_pipe, l'3, rfl, h'3⟩ := un_i_some.1 h'2
  obtain ⟨w_count, l'4, rfl, h'4⟩ := un_i_some.1 h'3
  obtain ⟨w_halved_n, l'5, rfl, h'5⟩ := un_i_some.1 h'4
  obtain ⟨w_halved_is, l'6, rfl, h'6⟩ := un_b_some.1 h'5
  obtain ⟨w_last_n, l'7, rfl, h'7⟩ := un_i_some.1 h'6
  obtain ⟨w_last_is, l'8, rfl, h'8⟩ := un_b_some.1 h'7
  obtain ⟨w_runs, l'9, rfl, h'9⟩ := un_b_some.1 h'8
  obtain ⟨w_due, l'10, rfl, h'10⟩ := un_i_some.1 h'9
  obtain ⟨w_rtt_any, l'11, rfl, h'11⟩ := un_b_some.1 h'10
  obtain ⟨w_rtt_smooth, l'12, rfl, h'12⟩ := un_i_some.1 h'11
  obtain ⟨w_rtt_spread, l'13, rfl, h'13⟩ := un_i_some.1 h'12
  obtain ⟨w_rtt_rto, l'14, rfl, h'14⟩ := un_i_some.1 h'13
  obtain ⟨n2, l'15, rfl, h'15⟩ := un_i_some.1 h'14
  obtain ⟨rfl, h'Z⟩ := un_nil_some.1 h'15
  obtain ⟨l', a', b'⟩ := out_some.1 h'Z
  exact ⟨l', (win_grow_Se w_cwnd w_slow w_pipe w_count w_halved_n w_halved_is w_last_n w_last_is w_runs w_due w_rtt_any w_rtt_smooth w_rtt_spread w_rtt_rto n2).trans a', b'⟩
theorem win_grow_c : FnC Go.Proofs.Tryz.prog 84 false 2 2 win_grow_in win_grow_out win_grow_S := by
  refine fn_ok (Λ := win_grow_Λ) mixed tab_ok g18 Go.Proofs.Tryz.func84 (by kernel_rfl) (body := fb Go.Proofs.Tryz.f84) rfl (ts := Go.Proofs.Tryz.f84.results.toList) rfl (cuts := []) (by kernel_rfl) (Nat.le_of_ble_eq_true (by kernel_rfl)) (by kernel_rfl) (rt := .tup []) rfl ?_ ?_
  · intro ls' r' h'
    unfold win_grow_S at h'
    obtain ⟨w_cwnd, l'1, rfl, h'1⟩ := un_i_some.1 h'
    obtain ⟨w_slow, l'2, rfl, h'2⟩ := un_i_some.1 h'1
    obtain ⟨w_pipe, l'3, rfl, h'3⟩ := un_i_some.1 h'2
    obtain ⟨w_count, l'4, rfl, h'4⟩ := un_i_some.1 h'3
    obtain ⟨w_halved_n, l'5, rfl, h'5⟩ := un_i_some.1 h'4
    obtain ⟨w_halved_is, l'6, rfl, h'6⟩ := un_b_some.1 h'5
    obtain ⟨w_last_n, l'7, rfl, h'7⟩ := un_i_some.1 h'6
    obtain ⟨w_last_is, l'8, rfl, h'8⟩ := un_b_some.1 h'7
    obtain ⟨w_runs, l'9, rfl, h'9⟩ := un_b_some.1 h'8
    obtain ⟨w_due, l'10, rfl, h'10⟩ := un_i_some.1 h'9
    obtain ⟨w_rtt_any, l'11, rfl, h'11⟩ := un_b_some.1 h'10
    obtain ⟨w_rtt_smooth, l'12, rfl, h'12⟩ := un_i_some.1 h'11
    obtain ⟨w_rtt_spread, l'13, rfl, h'13⟩ := un_i_some.1 h'12
    obtain ⟨w_rtt_rto, l'14, rfl, h'14⟩ := un_i_some.1 h'13
    obtain ⟨n2, l'15, rfl, h'15⟩ := un_i_some.1 h'14
    obtain ⟨rfl, h'Z⟩ := un_nil_some.1 h'15
    exact (win_grow_e w_cwnd w_slow w_pipe w_count w_halved_n w_halved_is w_last_n w_last_is w_runs w_due w_rtt_any w_rtt_smooth w_rtt_spread w_rtt_rto n2).symm.trans h'Z
  · intro E w0 ws ρ0 hk b hb
    rw [show loopsOf (fb Go.Proofs.Tryz.f84) = [(bodyAt (fb Go.Proofs.Tryz.f84) 0)] by kernel_rfl] at hb
    simp only [List.mem_cons, List.mem_nil_iff, or_false] at hb
    rcases hb with rfl
    · exact win_grow_5_lok E w0 ws ρ0 hk
noncomputable def G19 : Env := G18.addE 84 2 win_grow_in win_grow_out win_grow_SC
theorem g19 : EnvOk Go.Proofs.Tryz.prog G19 := EnvOk.addE g18 win_grow_c win_grow_says

-- ### win_halve: function 87
def win_halve_in : Tm := ⟨[.cells 104 [.int .i64, .int .i64, .int .i64, .int .i64, .ptr 1 0, .int .u64, .bool, .int .u64, .bool, .bool, .int .i64], .cells 100 [.bool, .int .i64, .int .i64, .int .i64]], [(0, .w (.at (.ptr 0 0)))]⟩
def win_halve_out : Tm := ⟨[.cells 104 [.int .i64, .int .i64, .int .i64, .int .i64, .ptr 1 0, .int .u64, .bool, .int .u64, .bool, .bool, .int .i64], .cells 100 [.bool, .int .i64, .int .i64, .int .i64]], [(0, .tup [])]⟩

def win_halve_Λd : Loops := Loops.none
def win_halve_Λ : Loops := win_halve_Λd 

theorem win_halve_e (w_cwnd : Int) (w_slow : Int) (w_pipe : Int) (w_count : Int) (w_halved_n : Int) (w_halved_is : Bool) (w_last_n : Int) (w_last_is : Bool) (w_runs : Bool) (w_due : Int) (w_rtt_any : Bool) (w_rtt_smooth : Int) (w_rtt_spread : Int) (w_rtt_rto : Int) : win_halve w_cwnd w_slow w_pipe w_count w_halved_n w_halved_is w_last_n w_last_is w_runs w_due w_rtt_any w_rtt_smooth w_rtt_spread w_rtt_rto = den G19 win_halve_Λ false tab Go.Proofs.Tryz.f87.ntmps (fun fr H => finish tab 2 Go.Proofs.Tryz.f87.results.toList win_halve_out [] fr H some) (fun _ _ _ => none) (fun fr H => finish tab 2 Go.Proofs.Tryz.f87.results.toList win_halve_out [] fr H some) 10000 [.code (fb Go.Proofs.Tryz.f87)] (instFr win_halve_in [.i w_cwnd, .i w_slow, .i w_pipe, .i w_count, .i w_halved_n, .b w_halved_is, .i w_last_n, .b w_last_is, .b w_runs, .i w_due, .b w_rtt_any, .i w_rtt_smooth, .i w_rtt_spread, .i w_rtt_rto]) (instH win_halve_in [.i w_cwnd, .i w_slow, .i w_pipe, .i w_count, .i w_halved_n, .b w_halved_is, .i w_last_n, .b w_last_is, .b w_runs, .i w_due, .b w_rtt_any, .i w_rtt_smooth, .i w_rtt_spread, .i w_rtt_rto]) := by kernel_rfl
def win_halve_S : List Leaf → Option (List Leaf) := fun ls => un_i ls fun w_cwnd rr => un_i rr fun w_slow rr => un_i rr fun w_pipe rr => un_i rr fun w_count rr => un_i rr fun w_halved_n rr => un_b rr fun w_halved_is rr => un_i rr fun w_last_n rr => un_b rr fun w_last_is rr => un_b rr fun w_runs rr => un_i rr fun w_due rr => un_b rr fun w_rtt_any rr => un_i rr fun w_rtt_smooth rr => un_i rr fun w_rtt_spread rr => un_i rr fun w_rtt_rto rr => un_nil rr (win_halve w_cwnd w_slow w_pipe w_count w_halved_n w_halved_is w_last_n w_last_is w_runs w_due w_rtt_any w_rtt_smooth w_rtt_spread w_rtt_rto)
def win_halve_SC : Tld := fun ls k' => un_i ls fun w_cwnd rr => un_i rr fun w_slow rr => un_i rr fun w_pipe rr => un_i rr fun w_count rr => un_i rr fun w_halved_n rr => un_b rr fun w_halved_is rr => un_i rr fun w_last_n rr => un_b rr fun w_last_is rr => un_b rr fun w_runs rr => un_i rr fun w_due rr => un_b rr fun w_rtt_any rr => un_i rr fun w_rtt_smooth rr => un_i rr fun w_rtt_spread rr => un_i rr fun w_rtt_rto rr => un_nil rr (out (win_halve w_cwnd w_slow w_pipe w_count w_halved_n w_halved_is w_last_n w_last_is w_runs w_due w_rtt_any w_rtt_smooth w_rtt_spread w_rtt_rto) k')
theorem win_halve_Se (w_cwnd : Int) (w_slow : Int) (w_pipe : Int) (w_count : Int) (w_halved_n : Int) (w_halved_is : Bool) (w_last_n : Int) (w_last_is : Bool) (w_runs : Bool) (w_due : Int) (w_rtt_any : Bool) (w_rtt_smooth : Int) (w_rtt_spread : Int) (w_rtt_rto : Int) : win_halve_S [.i w_cwnd, .i w_slow, .i w_pipe, .i w_count, .i w_halved_n, .b w_halved_is, .i w_last_n, .b w_last_is, .b w_runs, .i w_due, .b w_rtt_any, .i w_rtt_smooth, .i w_rtt_spread, .i w_rtt_rto] = win_halve w_cwnd w_slow w_pipe w_count w_halved_n w_halved_is w_last_n w_last_is w_runs w_due w_rtt_any w_rtt_smooth w_rtt_spread w_rtt_rto := by
  unfold win_halve_S
  simp only [un_i_ev, un_b_ev, un_s_ev, un_li_ev, un_lb_ev, un_ls_ev, un_nil_ev]
theorem win_halve_says : Says win_halve_SC win_halve_S := by
  intro β ls' k' r' h'
  unfold win_halve_SC at h'
  obtain ⟨w_cwnd, l'1, rfl, h'1⟩ := un_i_some.1 h'
  obtain ⟨w_slow, l'2, rfl, h'2⟩ := un_i_some.1 h'1
  obtain ⟨w_pipe, l'3, rfl, h'3⟩ := un_i_some.1 h'2
  obtain ⟨w_count, l'4, rfl, h'4⟩ := un_i_some.1 h'3
  obtain ⟨w_halved_n, l'5, rfl, h'5⟩ := un_i_some.1 h'4
  obtain ⟨w_halved_is, l'6, rfl, h'6⟩ := un_b_some.1 h'5
  obtain ⟨w_last_n, l'7, rfl, h'7⟩ := un_i_some.1 h'6
  obtain ⟨w_last_is, l'8, rfl, h'8⟩ := un_b_some.1 h'7
  obtain ⟨w_runs, l'9, rfl, h'9⟩ := un_b_some.1 h'8
  obtain ⟨w_due, l'10, rfl, h'10⟩ := un_i_some.1 h'9
  obtain ⟨w_rtt_any, l'11, rfl, h'11⟩ := un_b_some.1 h'10
  obtain ⟨w_rtt_smooth, l'12, rfl, h'12⟩ := un_i_some.1 h'11
  obtain ⟨w_rtt_spread, l'13, rfl, h'13⟩ := un_i_some.1 h'12
  obtain ⟨w_rtt_rto, l'14, rfl, h'14⟩ := un_i_some.1 h'13
  obtain ⟨rfl, h'Z⟩ := un_nil_some.1 h'14
  obtain ⟨l', a', b'⟩ := out_some.1 h'Z
  exact ⟨l', (win_halve_Se w_cwnd w_slow w_pipe w_count w_halved_n w_halved_is w_last_n w_last_is w_runs w_due w_rtt_any w_rtt_smooth w_rtt_spread w_rtt_rto).trans a', b'⟩
theorem win_halve_c : FnC Go.Proofs.Tryz.prog 87 false 1 2 win_halve_in win_halve_out win_halve_S := by
  refine fn_ok (Λ := win_halve_Λ) mixed tab_ok g19 Go.Proofs.Tryz.func87 (by kernel_rfl) (body := fb Go.Proofs.Tryz.f87) rfl (ts := Go.Proofs.Tryz.f87.results.toList) rfl (cuts := []) (by kernel_rfl) (Nat.le_of_ble_eq_true (by kernel_rfl)) (by kernel_rfl) (rt := .tup []) rfl ?_ ?_
  · intro ls' r' h'
    unfold win_halve_S at h'
    obtain ⟨w_cwnd, l'1, rfl, h'1⟩ := un_i_some.1 h'
    obtain ⟨w_slow, l'2, rfl, h'2⟩ := un_i_some.1 h'1
    obtain ⟨w_pipe, l'3, rfl, h'3⟩ := un_i_some.1 h'2
    obtain ⟨w_count, l'4, rfl, h'4⟩ := un_i_some.1 h'3
    obtain ⟨w_halved_n, l'5, rfl, h'5⟩ := un_i_some.1 h'4
    obtain ⟨w_halved_is, l'6, rfl, h'6⟩ := un_b_some.1 h'5
    obtain ⟨w_last_n, l'7, rfl, h'7⟩ := un_i_some.1 h'6
    obtain ⟨w_last_is, l'8, rfl, h'8⟩ := un_b_some.1 h'7
    obtain ⟨w_runs, l'9, rfl, h'9⟩ := un_b_some.1 h'8
    obtain ⟨w_due, l'10, rfl, h'10⟩ := un_i_some.1 h'9
    obtain ⟨w_rtt_any, l'11, rfl, h'11⟩ := un_b_some.1 h'10
    obtain ⟨w_rtt_smooth, l'12, rfl, h'12⟩ := un_i_some.1 h'11
    obtain ⟨w_rtt_spread, l'13, rfl, h'13⟩ := un_i_some.1 h'12
    obtain ⟨w_rtt_rto, l'14, rfl, h'14⟩ := un_i_some.1 h'13
    obtain ⟨rfl, h'Z⟩ := un_nil_some.1 h'14
    exact (win_halve_e w_cwnd w_slow w_pipe w_count w_halved_n w_halved_is w_last_n w_last_is w_runs w_due w_rtt_any w_rtt_smooth w_rtt_spread w_rtt_rto).symm.trans h'Z
  · intro E w0 ws ρ0 hk b hb
    rw [show loopsOf (fb Go.Proofs.Tryz.f87) = [] by kernel_rfl] at hb
    cases hb
noncomputable def G20 : Env := G19.addE 87 1 win_halve_in win_halve_out win_halve_SC
theorem g20 : EnvOk Go.Proofs.Tryz.prog G20 := EnvOk.addE g19 win_halve_c win_halve_says

-- ### win_where: function 85
def win_where_in : Tm := ⟨[.ro 22 1 [.int .u64], .ro 22 1 [.int .u64], .ro 22 1 [.int .u64]], [(0, .w (.agg [.all 0 1, .all 1 1, .all 2 1, .int .i64, .int .i64]))]⟩
def win_where_out : Tm := ⟨[.dead, .dead, .dead], [(0, .w (.agg [.int .u64, .bool]))]⟩

noncomputable def win_where_Λd  : Loops := ⟨fun b fr H kx kr => bif Nat.beq (rid b) 6 then (unrollL G20 false tab Go.Proofs.Tryz.f85.ntmps 3).loop b fr H kx kr else none⟩
noncomputable def win_where_Λ : Loops := win_where_Λd 

theorem win_where_6_lok (E : Nat → Prop) (w0 ws : World) (ρ0 : List Pl) (hk : ρ0.length = 3) : LOk Go.Proofs.Tryz.prog 85 Go.Proofs.Tryz.f85 false E w0 ws Go.Proofs.Tryz.f85.ntmps ρ0 win_where_Λ (bodyAt (fb Go.Proofs.Tryz.f85) 0) :=
  fun kx kr r ρ H fr a w h => unroll_ok mixed tab_ok g20 Go.Proofs.Tryz.func85 3 (bodyAt (fb Go.Proofs.Tryz.f85) 0) kx kr r ρ H fr a w ((by kernel_rfl : win_where_Λ.loop (bodyAt (fb Go.Proofs.Tryz.f85) 0) fr H kx kr = (unrollL G20 false tab Go.Proofs.Tryz.f85.ntmps 3).loop (bodyAt (fb Go.Proofs.Tryz.f85) 0) fr H kx kr) ▸ h)
theorem win_where_e (h_Got : List Int) (h_Late : List Int) (h_Lost : List Int) (h_Marks : Int) (h_Rtt : Int) : win_where h_Got h_Late h_Lost h_Marks h_Rtt = den G20 win_where_Λ false tab Go.Proofs.Tryz.f85.ntmps (fun fr H => finish tab 3 Go.Proofs.Tryz.f85.results.toList win_where_out [] fr H some) (fun _ _ _ => none) (fun fr H => finish tab 3 Go.Proofs.Tryz.f85.results.toList win_where_out [] fr H some) 10000 [.code (fb Go.Proofs.Tryz.f85)] (instFr win_where_in [.li h_Got, .li h_Late, .li h_Lost, .i h_Marks, .i h_Rtt]) (instH win_where_in [.li h_Got, .li h_Late, .li h_Lost, .i h_Marks, .i h_Rtt]) := by kernel_rfl
def win_where_S : List Leaf → Option (List Leaf) := fun ls => un_li ls fun h_Got rr => un_li rr fun h_Late rr => un_li rr fun h_Lost rr => un_i rr fun h_Marks rr => un_i rr fun h_Rtt rr => un_nil rr (win_where h_Got h_Late h_Lost h_Marks h_Rtt)
def win_where_SC : Tld := fun ls k' => un_li ls fun h_Got rr => un_li rr fun h_Late rr => un_li rr fun h_Lost rr => un_i rr fun h_Marks rr => un_i rr fun h_Rtt rr => un_nil rr (out (win_where h_Got h_Late h_Lost h_Marks h_Rtt) k')
theorem win_where_Se (h_Got : List Int) (h_Late : List Int) (h_Lost : List Int) (h_Marks : Int) (h_Rtt : Int) : win_where_S [.li h_Got, .li h_Late, .li h_Lost, .i h_Marks, .i h_Rtt] = win_where h_Got h_Late h_Lost h_Marks h_Rtt := by
  unfold win_where_S
  simp only [un_i_ev, un_b_ev, un_s_ev, un_li_ev, un_lb_ev, un_ls_ev, un_nil_ev]
theorem win_where_says : Says win_where_SC win_where_S := by
  intro β ls' k' r' h'
  unfold win_where_SC at h'
  obtain ⟨h_Got, l'1, rfl, h'1⟩ := un_li_some.1 h'
  obtain ⟨h_Late, l'2, rfl, h'2⟩ := un_li_some.1 h'1
  obtain ⟨h_Lost, l'3, rfl, h'3⟩ := un_li_some.1 h'2
  obtain ⟨h_Marks, l'4, rfl, h'4⟩ := un_i_some.1 h'3
  obtain ⟨h_Rtt, l'5, rfl, h'5⟩ := un_i_some.1 h'4
  obtain ⟨rfl, h'Z⟩ := un_nil_some.1 h'5
  obtain ⟨l', a', b'⟩ := out_some.1 h'Z
  exact ⟨l', (win_where_Se h_Got h_Late h_Lost h_Marks h_Rtt).trans a', b'⟩
theorem win_where_c : FnC Go.Proofs.Tryz.prog 85 false 1 3 win_where_in win_where_out win_where_S := by
  refine fn_ok (Λ := win_where_Λ) mixed tab_ok g20 Go.Proofs.Tryz.func85 (by kernel_rfl) (body := fb Go.Proofs.Tryz.f85) rfl (ts := Go.Proofs.Tryz.f85.results.toList) rfl (cuts := []) (by kernel_rfl) (Nat.le_of_ble_eq_true (by kernel_rfl)) (by kernel_rfl) (rt := .w (.agg [.int .u64, .bool])) rfl ?_ ?_
  · intro ls' r' h'
    unfold win_where_S at h'
    obtain ⟨h_Got, l'1, rfl, h'1⟩ := un_li_some.1 h'
    obtain ⟨h_Late, l'2, rfl, h'2⟩ := un_li_some.1 h'1
    obtain ⟨h_Lost, l'3, rfl, h'3⟩ := un_li_some.1 h'2
    obtain ⟨h_Marks, l'4, rfl, h'4⟩ := un_i_some.1 h'3
    obtain ⟨h_Rtt, l'5, rfl, h'5⟩ := un_i_some.1 h'4
    obtain ⟨rfl, h'Z⟩ := un_nil_some.1 h'5
    exact (win_where_e h_Got h_Late h_Lost h_Marks h_Rtt).symm.trans h'Z
  · intro E w0 ws ρ0 hk b hb
    rw [show loopsOf (fb Go.Proofs.Tryz.f85) = [(bodyAt (fb Go.Proofs.Tryz.f85) 0)] by kernel_rfl] at hb
    simp only [List.mem_cons, List.mem_nil_iff, or_false] at hb
    rcases hb with rfl
    · exact win_where_6_lok E w0 ws ρ0 hk
noncomputable def G21 : Env := G20.addE 85 1 win_where_in win_where_out win_where_SC
theorem g21 : EnvOk Go.Proofs.Tryz.prog G21 := EnvOk.addE g20 win_where_c win_where_says

-- ### win_Hear: function 41
def win_Hear_in : Tm := ⟨[.cells 104 [.int .i64, .int .i64, .int .i64, .int .i64, .ptr 1 0, .int .u64, .bool, .int .u64, .bool, .bool, .int .i64], .cells 100 [.bool, .int .i64, .int .i64, .int .i64], .ro 22 1 [.int .u64], .ro 22 1 [.int .u64], .ro 22 1 [.int .u64]], [(0, .w (.at (.ptr 0 0))), (1, .w (.agg [.all 2 1, .all 3 1, .all 4 1, .int .i64, .int .i64])), (2, .w (.at (.int .i64)))]⟩
def win_Hear_out : Tm := ⟨[.cells 104 [.int .i64, .int .i64, .int .i64, .int .i64, .ptr 1 0, .int .u64, .bool, .int .u64, .bool, .bool, .int .i64], .cells 100 [.bool, .int .i64, .int .i64, .int .i64], .dead, .dead, .dead], [(0, .tup [])]⟩

def win_Hear_Λd : Loops := Loops.none
def win_Hear_Λ : Loops := win_Hear_Λd 

theorem win_Hear_e (h_Got : List Int) (h_Late : List Int) (h_Lost : List Int) (w_cwnd : Int) (w_slow : Int) (w_pipe : Int) (w_count : Int) (w_halved_n : Int) (w_halved_is : Bool) (w_last_n : Int) (w_last_is : Bool) (w_runs : Bool) (w_due : Int) (w_rtt_any : Bool) (w_rtt_smooth : Int) (w_rtt_spread : Int) (w_rtt_rto : Int) (h_Marks : Int) (h_Rtt : Int) (now : Int) : win_Hear h_Got h_Late h_Lost w_cwnd w_slow w_pipe w_count w_halved_n w_halved_is w_last_n w_last_is w_runs w_due w_rtt_any w_rtt_smooth w_rtt_spread w_rtt_rto h_Marks h_Rtt now = den G21 win_Hear_Λ false tab Go.Proofs.Tryz.f41.ntmps (fun fr H => finish tab 5 Go.Proofs.Tryz.f41.results.toList win_Hear_out [] fr H some) (fun _ _ _ => none) (fun fr H => finish tab 5 Go.Proofs.Tryz.f41.results.toList win_Hear_out [] fr H some) 10000 [.code (fb Go.Proofs.Tryz.f41)] (instFr win_Hear_in [.li h_Got, .li h_Late, .li h_Lost, .i w_cwnd, .i w_slow, .i w_pipe, .i w_count, .i w_halved_n, .b w_halved_is, .i w_last_n, .b w_last_is, .b w_runs, .i w_due, .b w_rtt_any, .i w_rtt_smooth, .i w_rtt_spread, .i w_rtt_rto, .i h_Marks, .i h_Rtt, .i now]) (instH win_Hear_in [.li h_Got, .li h_Late, .li h_Lost, .i w_cwnd, .i w_slow, .i w_pipe, .i w_count, .i w_halved_n, .b w_halved_is, .i w_last_n, .b w_last_is, .b w_runs, .i w_due, .b w_rtt_any, .i w_rtt_smooth, .i w_rtt_spread, .i w_rtt_rto, .i h_Marks, .i h_Rtt, .i now]) := by kernel_rfl
def win_Hear_S : List Leaf → Option (List Leaf) := fun ls => un_li ls fun h_Got rr => un_li rr fun h_Late rr => un_li rr fun h_Lost rr => un_i rr fun w_cwnd rr => un_i rr fun w_slow rr => un_i rr fun w_pipe rr => un_i rr fun w_count rr => un_i rr fun w_halved_n rr => un_b rr fun w_halved_is rr => un_i rr fun w_last_n rr => un_b rr fun w_last_is rr => un_b rr fun w_runs rr => un_i rr fun w_due rr => un_b rr fun w_rtt_any rr => un_i rr fun w_rtt_smooth rr => un_i rr fun w_rtt_spread rr => un_i rr fun w_rtt_rto rr => un_i rr fun h_Marks rr => un_i rr fun h_Rtt rr => un_i rr fun now rr => un_nil rr (win_Hear h_Got h_Late h_Lost w_cwnd w_slow w_pipe w_count w_halved_n w_halved_is w_last_n w_last_is w_runs w_due w_rtt_any w_rtt_smooth w_rtt_spread w_rtt_rto h_Marks h_Rtt now)
def win_Hear_SC : Tld := fun ls k' => un_li ls fun h_Got rr => un_li rr fun h_Late rr => un_li rr fun h_Lost rr => un_i rr fun w_cwnd rr => un_i rr fun w_slow rr => un_i rr fun w_pipe rr => un_i rr fun w_count rr => un_i rr fun w_halved_n rr => un_b rr fun w_halved_is rr => un_i rr fun w_last_n rr => un_b rr fun w_last_is rr => un_b rr fun w_runs rr => un_i rr fun w_due rr => un_b rr fun w_rtt_any rr => un_i rr fun w_rtt_smooth rr => un_i rr fun w_rtt_spread rr => un_i rr fun w_rtt_rto rr => un_i rr fun h_Marks rr => un_i rr fun h_Rtt rr => un_i rr fun now rr => un_nil rr (out (win_Hear h_Got h_Late h_Lost w_cwnd w_slow w_pipe w_count w_halved_n w_halved_is w_last_n w_last_is w_runs w_due w_rtt_any w_rtt_smooth w_rtt_spread w_rtt_rto h_Marks h_Rtt now) k')
theorem win_Hear_Se (h_Got : List Int) (h_Late : List Int) (h_Lost : List Int) (w_cwnd : Int) (w_slow : Int) (w_pipe : Int) (w_count : Int) (w_halved_n : Int) (w_halved_is : Bool) (w_last_n : Int) (w_last_is : Bool) (w_runs : Bool) (w_due : Int) (w_rtt_any : Bool) (w_rtt_smooth : Int) (w_rtt_spread : Int) (w_rtt_rto : Int) (h_Marks : Int) (h_Rtt : Int) (now : Int) : win_Hear_S [.li h_Got, .li h_Late, .li h_Lost, .i w_cwnd, .i w_slow, .i w_pipe, .i w_count, .i w_halved_n, .b w_halved_is, .i w_last_n, .b w_last_is, .b w_runs, .i w_due, .b w_rtt_any, .i w_rtt_smooth, .i w_rtt_spread, .i w_rtt_rto, .i h_Marks, .i h_Rtt, .i now] = win_Hear h_Got h_Late h_Lost w_cwnd w_slow w_pipe w_count w_halved_n w_halved_is w_last_n w_last_is w_runs w_due w_rtt_any w_rtt_smooth w_rtt_spread w_rtt_rto h_Marks h_Rtt now := by
  unfold win_Hear_S
  simp only [un_i_ev, un_b_ev, un_s_ev, un_li_ev, un_lb_ev, un_ls_ev, un_nil_ev]
theorem win_Hear_says : Says win_Hear_SC win_Hear_S := by
  intro β ls' k' r' h'
  unfold win_Hear_SC at h'
  obtain ⟨h_Got, l'1, rfl, h'1⟩ := un_li_some.1 h'
  obtain ⟨h_Late, l'2, rfl, h'2⟩ := un_li_some.1 h'1
  obtain ⟨h_Lost, l'3, rfl, h'3⟩ := un_li_some.1 h'2
  obtain ⟨w_cwnd, l'4, rfl, h'4⟩ := un_i_some.1 h'3
  obtain ⟨w_slow, l'5, rfl, h'5⟩ := un_i_some.1 h'4
  obtain ⟨w_pipe, l'6, rfl, h'6⟩ := un_i_some.1 h'5
  obtain ⟨w_count, l'7, rfl, h'7⟩ := un_i_some.1 h'6
  obtain ⟨w_halved_n, l'8, rfl, h'8⟩ := un_i_some.1 h'7
  obtain ⟨w_halved_is, l'9, rfl, h'9⟩ := un_b_some.1 h'8
  obtain ⟨w_last_n, l'10, rfl, h'10⟩ := un_i_some.1 h'9
  obtain ⟨w_last_is, l'11, rfl, h'11⟩ := un_b_some.1 h'10
  obtain ⟨w_runs, l'12, rfl, h'12⟩ := un_b_some.1 h'11
  obtain ⟨w_due, l'13, rfl, h'13⟩ := un_i_some.1 h'12
  obtain ⟨w_rtt_any, l'14, rfl, h'14⟩ := un_b_some.1 h'13
  obtain ⟨w_rtt_smooth, l'15, rfl, h'15⟩ := un_i_some.1 h'14
  obtain ⟨w_rtt_spread, l'16, rfl, h'16⟩ := un_i_some.1 h'15
  obtain ⟨w_rtt_rto, l'17, rfl, h'17⟩ := un_i_some.1 h'16
  obtain ⟨h_Marks, l'18, rfl, h'18⟩ := un_i_some.1 h'17
  obtain ⟨h_Rtt, l'19, rfl, h'19⟩ := un_i_some.1 h'18
  obtain ⟨now, l'20, rfl, h'20⟩ := un_i_some.1 h'19
  obtain ⟨rfl, h'Z⟩ := un_nil_some.1 h'20
  obtain ⟨l', a', b'⟩ := out_some.1 h'Z
  exact ⟨l', (win_Hear_Se h_Got h_Late h_Lost w_cwnd w_slow w_pipe w_count w_halved_n w_halved_is w_last_n w_last_is w_runs w_due w_rtt_any w_rtt_smooth w_rtt_spread w_rtt_rto h_Marks h_Rtt now).trans a', b'⟩
theorem win_Hear_c : FnC Go.Proofs.Tryz.prog 41 false 3 5 win_Hear_in win_Hear_out win_Hear_S := by
  refine fn_ok (Λ := win_Hear_Λ) mixed tab_ok g21 Go.Proofs.Tryz.func41 (by kernel_rfl) (body := fb Go.Proofs.Tryz.f41) rfl (ts := Go.Proofs.Tryz.f41.results.toList) rfl (cuts := []) (by kernel_rfl) (Nat.le_of_ble_eq_true (by kernel_rfl)) (by kernel_rfl) (rt := .tup []) rfl ?_ ?_
  · intro ls' r' h'
    unfold win_Hear_S at h'
    obtain ⟨h_Got, l'1, rfl, h'1⟩ := un_li_some.1 h'
    obtain ⟨h_Late, l'2, rfl, h'2⟩ := un_li_some.1 h'1
    obtain ⟨h_Lost, l'3, rfl, h'3⟩ := un_li_some.1 h'2
    obtain ⟨w_cwnd, l'4, rfl, h'4⟩ := un_i_some.1 h'3
    obtain ⟨w_slow, l'5, rfl, h'5⟩ := un_i_some.1 h'4
    obtain ⟨w_pipe, l'6, rfl, h'6⟩ := un_i_some.1 h'5
    obtain ⟨w_count, l'7, rfl, h'7⟩ := un_i_some.1 h'6
    obtain ⟨w_halved_n, l'8, rfl, h'8⟩ := un_i_some.1 h'7
    obtain ⟨w_halved_is, l'9, rfl, h'9⟩ := un_b_some.1 h'8
    obtain ⟨w_last_n, l'10, rfl, h'10⟩ := un_i_some.1 h'9
    obtain ⟨w_last_is, l'11, rfl, h'11⟩ := un_b_some.1 h'10
    obtain ⟨w_runs, l'12, rfl, h'12⟩ := un_b_some.1 h'11
    obtain ⟨w_due, l'13, rfl, h'13⟩ := un_i_some.1 h'12
    obtain ⟨w_rtt_any, l'14, rfl, h'14⟩ := un_b_some.1 h'13
    obtain ⟨w_rtt_smooth, l'15, rfl, h'15⟩ := un_i_some.1 h'14
    obtain ⟨w_rtt_spread, l'16, rfl, h'16⟩ := un_i_some.1 h'15
    obtain ⟨w_rtt_rto, l'17, rfl, h'17⟩ := un_i_some.1 h'16
    obtain ⟨h_Marks, l'18, rfl, h'18⟩ := un_i_some.1 h'17
    obtain ⟨h_Rtt, l'19, rfl, h'19⟩ := un_i_some.1 h'18
    obtain ⟨now, l'20, rfl, h'20⟩ := un_i_some.1 h'19
    obtain ⟨rfl, h'Z⟩ := un_nil_some.1 h'20
    exact (win_Hear_e h_Got h_Late h_Lost w_cwnd w_slow w_pipe w_count w_halved_n w_halved_is w_last_n w_last_is w_runs w_due w_rtt_any w_rtt_smooth w_rtt_spread w_rtt_rto h_Marks h_Rtt now).symm.trans h'Z
  · intro E w0 ws ρ0 hk b hb
    rw [show loopsOf (fb Go.Proofs.Tryz.f41) = [] by kernel_rfl] at hb
    cases hb
noncomputable def G22 : Env := G21.addE 41 3 win_Hear_in win_Hear_out win_Hear_SC
theorem g22 : EnvOk Go.Proofs.Tryz.prog G22 := EnvOk.addE g21 win_Hear_c win_Hear_says

-- ### win_Due: function 42
def win_Due_in : Tm := ⟨[.cells 104 [.int .i64, .int .i64, .int .i64, .int .i64, .ptr 1 0, .int .u64, .bool, .int .u64, .bool, .bool, .int .i64], .cells 100 [.bool, .int .i64, .int .i64, .int .i64]], [(0, .w (.at (.ptr 0 0)))]⟩
def win_Due_out : Tm := ⟨[.dead, .dead], [(0, .tup [.at (.int .i64), .at (.bool)])]⟩

def win_Due_Λd : Loops := Loops.none
def win_Due_Λ : Loops := win_Due_Λd 

theorem win_Due_e (w_cwnd : Int) (w_slow : Int) (w_pipe : Int) (w_count : Int) (w_halved_n : Int) (w_halved_is : Bool) (w_last_n : Int) (w_last_is : Bool) (w_runs : Bool) (w_due : Int) (w_rtt_any : Bool) (w_rtt_smooth : Int) (w_rtt_spread : Int) (w_rtt_rto : Int) : win_Due w_cwnd w_slow w_pipe w_count w_halved_n w_halved_is w_last_n w_last_is w_runs w_due w_rtt_any w_rtt_smooth w_rtt_spread w_rtt_rto = den G22 win_Due_Λ true tab Go.Proofs.Tryz.f42.ntmps (fun fr H => finish tab 2 Go.Proofs.Tryz.f42.results.toList win_Due_out [] fr H some) (fun _ _ _ => none) (fun fr H => finish tab 2 Go.Proofs.Tryz.f42.results.toList win_Due_out [] fr H some) 10000 [.code (fb Go.Proofs.Tryz.f42)] (instFr win_Due_in [.i w_cwnd, .i w_slow, .i w_pipe, .i w_count, .i w_halved_n, .b w_halved_is, .i w_last_n, .b w_last_is, .b w_runs, .i w_due, .b w_rtt_any, .i w_rtt_smooth, .i w_rtt_spread, .i w_rtt_rto]) (instH win_Due_in [.i w_cwnd, .i w_slow, .i w_pipe, .i w_count, .i w_halved_n, .b w_halved_is, .i w_last_n, .b w_last_is, .b w_runs, .i w_due, .b w_rtt_any, .i w_rtt_smooth, .i w_rtt_spread, .i w_rtt_rto]) := by kernel_rfl
def win_Due_S : List Leaf → Option (List Leaf) := fun ls => un_i ls fun w_cwnd rr => un_i rr fun w_slow rr => un_i rr fun w_pipe rr => un_i rr fun w_count rr => un_i rr fun w_halved_n rr => un_b rr fun w_halved_is rr => un_i rr fun w_last_n rr => un_b rr fun w_last_is rr => un_b rr fun w_runs rr => un_i rr fun w_due rr => un_b rr fun w_rtt_any rr => un_i rr fun w_rtt_smooth rr => un_i rr fun w_rtt_spread rr => un_i rr fun w_rtt_rto rr => un_nil rr (win_Due w_cwnd w_slow w_pipe w_count w_halved_n w_halved_is w_last_n w_last_is w_runs w_due w_rtt_any w_rtt_smooth w_rtt_spread w_rtt_rto)
def win_Due_SC : Tld := fun ls k' => un_i ls fun w_cwnd rr => un_i rr fun w_slow rr => un_i rr fun w_pipe rr => un_i rr fun w_count rr => un_i rr fun w_halved_n rr => un_b rr fun w_halved_is rr => un_i rr fun w_last_n rr => un_b rr fun w_last_is rr => un_b rr fun w_runs rr => un_i rr fun w_due rr => un_b rr fun w_rtt_any rr => un_i rr fun w_rtt_smooth rr => un_i rr fun w_rtt_spread rr => un_i rr fun w_rtt_rto rr => un_nil rr (out (win_Due w_cwnd w_slow w_pipe w_count w_halved_n w_halved_is w_last_n w_last_is w_runs w_due w_rtt_any w_rtt_smooth w_rtt_spread w_rtt_rto) k')
theorem win_Due_Se (w_cwnd : Int) (w_slow : Int) (w_pipe : Int) (w_count : Int) (w_halved_n : Int) (w_halved_is : Bool) (w_last_n : Int) (w_last_is : Bool) (w_runs : Bool) (w_due : Int) (w_rtt_any : Bool) (w_rtt_smooth : Int) (w_rtt_spread : Int) (w_rtt_rto : Int) : win_Due_S [.i w_cwnd, .i w_slow, .i w_pipe, .i w_count, .i w_halved_n, .b w_halved_is, .i w_last_n, .b w_last_is, .b w_runs, .i w_due, .b w_rtt_any, .i w_rtt_smooth, .i w_rtt_spread, .i w_rtt_rto] = win_Due w_cwnd w_slow w_pipe w_count w_halved_n w_halved_is w_last_n w_last_is w_runs w_due w_rtt_any w_rtt_smooth w_rtt_spread w_rtt_rto := by
  unfold win_Due_S
  simp only [un_i_ev, un_b_ev, un_s_ev, un_li_ev, un_lb_ev, un_ls_ev, un_nil_ev]
theorem win_Due_says : Says win_Due_SC win_Due_S := by
  intro β ls' k' r' h'
  unfold win_Due_SC at h'
  obtain ⟨w_cwnd, l'1, rfl, h'1⟩ := un_i_some.1 h'
  obtain ⟨w_slow, l'2, rfl, h'2⟩ := un_i_some.1 h'1
  obtain ⟨w_pipe, l'3, rfl, h'3⟩ := un_i_some.1 h'2
  obtain ⟨w_count, l'4, rfl, h'4⟩ := un_i_some.1 h'3
  obtain ⟨w_halved_n, l'5, rfl, h'5⟩ := un_i_some.1 h'4
  obtain ⟨w_halved_is, l'6, rfl, h'6⟩ := un_b_some.1 h'5
  obtain ⟨w_last_n, l'7, rfl, h'7⟩ := un_i_some.1 h'6
  obtain ⟨w_last_is, l'8, rfl, h'8⟩ := un_b_some.1 h'7
  obtain ⟨w_runs, l'9, rfl, h'9⟩ := un_b_some.1 h'8
  obtain ⟨w_due, l'10, rfl, h'10⟩ := un_i_some.1 h'9
  obtain ⟨w_rtt_any, l'11, rfl, h'11⟩ := un_b_some.1 h'10
  obtain ⟨w_rtt_smooth, l'12, rfl, h'12⟩ := un_i_some.1 h'11
  obtain ⟨w_rtt_spread, l'13, rfl, h'13⟩ := un_i_some.1 h'12
  obtain ⟨w_rtt_rto, l'14, rfl, h'14⟩ := un_i_some.1 h'13
  obtain ⟨rfl, h'Z⟩ := un_nil_some.1 h'14
  obtain ⟨l', a', b'⟩ := out_some.1 h'Z
  exact ⟨l', (win_Due_Se w_cwnd w_slow w_pipe w_count w_halved_n w_halved_is w_last_n w_last_is w_runs w_due w_rtt_any w_rtt_smooth w_rtt_spread w_rtt_rto).trans a', b'⟩
theorem win_Due_c : FnC Go.Proofs.Tryz.prog 42 true 1 2 win_Due_in win_Due_out win_Due_S := by
  refine fn_ok (Λ := win_Due_Λ) mixed tab_ok g22 Go.Proofs.Tryz.func42 (by kernel_rfl) (body := fb Go.Proofs.Tryz.f42) rfl (ts := Go.Proofs.Tryz.f42.results.toList) rfl (cuts := []) (by kernel_rfl) (Nat.le_of_ble_eq_true (by kernel_rfl)) (by kernel_rfl) (rt := .tup [.at (.int .i64), .at (.bool)]) rfl ?_ ?_
  · intro ls' r' h'
    unfold win_Due_S at h'
    obtain ⟨w_cwnd, l'1, rfl, h'1⟩ := un_i_some.1 h'
    obtain ⟨w_slow, l'2, rfl, h'2⟩ := un_i_some.1 h'1
    obtain ⟨w_pipe, l'3, rfl, h'3⟩ := un_i_some.1 h'2
    obtain ⟨w_count, l'4, rfl, h'4⟩ := un_i_some.1 h'3
    obtain ⟨w_halved_n, l'5, rfl, h'5⟩ := un_i_some.1 h'4
    obtain ⟨w_halved_is, l'6, rfl, h'6⟩ := un_b_some.1 h'5
    obtain ⟨w_last_n, l'7, rfl, h'7⟩ := un_i_some.1 h'6
    obtain ⟨w_last_is, l'8, rfl, h'8⟩ := un_b_some.1 h'7
    obtain ⟨w_runs, l'9, rfl, h'9⟩ := un_b_some.1 h'8
    obtain ⟨w_due, l'10, rfl, h'10⟩ := un_i_some.1 h'9
    obtain ⟨w_rtt_any, l'11, rfl, h'11⟩ := un_b_some.1 h'10
    obtain ⟨w_rtt_smooth, l'12, rfl, h'12⟩ := un_i_some.1 h'11
    obtain ⟨w_rtt_spread, l'13, rfl, h'13⟩ := un_i_some.1 h'12
    obtain ⟨w_rtt_rto, l'14, rfl, h'14⟩ := un_i_some.1 h'13
    obtain ⟨rfl, h'Z⟩ := un_nil_some.1 h'14
    exact (win_Due_e w_cwnd w_slow w_pipe w_count w_halved_n w_halved_is w_last_n w_last_is w_runs w_due w_rtt_any w_rtt_smooth w_rtt_spread w_rtt_rto).symm.trans h'Z
  · intro E w0 ws ρ0 hk b hb
    rw [show loopsOf (fb Go.Proofs.Tryz.f42) = [] by kernel_rfl] at hb
    cases hb
noncomputable def G23 : Env := G22.addP 42 1 win_Due_in win_Due_out win_Due_SC
theorem g23 : EnvOk Go.Proofs.Tryz.prog G23 := EnvOk.addP g22 win_Due_c win_Due_says

-- ### win_Fire: function 43
def win_Fire_in : Tm := ⟨[.cells 104 [.int .i64, .int .i64, .int .i64, .int .i64, .ptr 1 0, .int .u64, .bool, .int .u64, .bool, .bool, .int .i64], .cells 100 [.bool, .int .i64, .int .i64, .int .i64]], [(0, .w (.at (.ptr 0 0))), (1, .w (.at (.int .i64)))]⟩
def win_Fire_out : Tm := ⟨[.cells 104 [.int .i64, .int .i64, .int .i64, .int .i64, .ptr 1 0, .int .u64, .bool, .int .u64, .bool, .bool, .int .i64], .cells 100 [.bool, .int .i64, .int .i64, .int .i64]], [(0, .w (.at (.bool)))]⟩

def win_Fire_Λd : Loops := Loops.none
def win_Fire_Λ : Loops := win_Fire_Λd 

theorem win_Fire_e (w_cwnd : Int) (w_slow : Int) (w_pipe : Int) (w_count : Int) (w_halved_n : Int) (w_halved_is : Bool) (w_last_n : Int) (w_last_is : Bool) (w_runs : Bool) (w_due : Int) (w_rtt_any : Bool) (w_rtt_smooth : Int) (w_rtt_spread : Int) (w_rtt_rto : Int) (now : Int) : win_Fire w_cwnd w_slow w_pipe w_count w_halved_n w_halved_is w_last_n w_last_is w_runs w_due w_rtt_any w_rtt_smooth w_rtt_spread w_rtt_rto now = den G23 win_Fire_Λ false tab Go.Proofs.Tryz.f43.ntmps (fun fr H => finish tab 2 Go.Proofs.Tryz.f43.results.toList win_Fire_out [] fr H some) (fun _ _ _ => none) (fun fr H => finish tab 2 Go.Proofs.Tryz.f43.results.toList win_Fire_out [] fr H some) 10000 [.code (fb Go.Proofs.Tryz.f43)] (instFr win_Fire_in [.i w_cwnd, .i w_slow, .i w_pipe, .i w_count, .i w_halved_n, .b w_halved_is, .i w_last_n, .b w_last_is, .b w_runs, .i w_due, .b w_rtt_any, .i w_rtt_smooth, .i w_rtt_spread, .i w_rtt_rto, .i now]) (instH win_Fire_in [.i w_cwnd, .i w_slow, .i w_pipe, .i w_count, .i w_halved_n, .b w_halved_is, .i w_last_n, .b w_last_is, .b w_runs, .i w_due, .b w_rtt_any, .i w_rtt_smooth, .i w_rtt_spread, .i w_rtt_rto, .i now]) := by kernel_rfl
def win_Fire_S : List Leaf → Option (List Leaf) := fun ls => un_i ls fun w_cwnd rr => un_i rr fun w_slow rr => un_i rr fun w_pipe rr => un_i rr fun w_count rr => un_i rr fun w_halved_n rr => un_b rr fun w_halved_is rr => un_i rr fun w_last_n rr => un_b rr fun w_last_is rr => un_b rr fun w_runs rr => un_i rr fun w_due rr => un_b rr fun w_rtt_any rr => un_i rr fun w_rtt_smooth rr => un_i rr fun w_rtt_spread rr => un_i rr fun w_rtt_rto rr => un_i rr fun now rr => un_nil rr (win_Fire w_cwnd w_slow w_pipe w_count w_halved_n w_halved_is w_last_n w_last_is w_runs w_due w_rtt_any w_rtt_smooth w_rtt_spread w_rtt_rto now)
def win_Fire_SC : Tld := fun ls k' => un_i ls fun w_cwnd rr => un_i rr fun w_slow rr => un_i rr fun w_pipe rr => un_i rr fun w_count rr => un_i rr fun w_halved_n rr => un_b rr fun w_halved_is rr => un_i rr fun w_last_n rr => un_b rr fun w_last_is rr => un_b rr fun w_runs rr => un_i rr fun w_due rr => un_b rr fun w_rtt_any rr => un_i rr fun w_rtt_smooth rr => un_i rr fun w_rtt_spread rr => un_i rr fun w_rtt_rto rr => un_i rr fun now rr => un_nil rr (out (win_Fire w_cwnd w_slow w_pipe w_count w_halved_n w_halved_is w_last_n w_last_is w_runs w_due w_rtt_any w_rtt_smooth w_rtt_spread w_rtt_rto now) k')
theorem win_Fire_Se (w_cwnd : Int) (w_slow : Int) (w_pipe : Int) (w_count : Int) (w_halved_n : Int) (w_halved_is : Bool) (w_last_n : Int) (w_last_is : Bool) (w_runs : Bool) (w_due : Int) (w_rtt_any : Bool) (w_rtt_smooth : Int) (w_rtt_spread : Int) (w_rtt_rto : Int) (now : Int) : win_Fire_S [.i w_cwnd, .i w_slow, .i w_pipe, .i w_count, .i w_halved_n, .b w_halved_is, .i w_last_n, .b w_last_is, .b w_runs, .i w_due, .b w_rtt_any, .i w_rtt_smooth, .i w_rtt_spread, .i w_rtt_rto, .i now] = win_Fire w_cwnd w_slow w_pipe w_count w_halved_n w_halved_is w_last_n w_last_is w_runs w_due w_rtt_any w_rtt_smooth w_rtt_spread w_rtt_rto now := by
  unfold win_Fire_S
  simp only [un_i_ev, un_b_ev, un_s_ev, un_li_ev, un_lb_ev, un_ls_ev, un_nil_ev]
theorem win_Fire_says : Says win_Fire_SC win_Fire_S := by
  intro β ls' k' r' h'
  unfold win_Fire_SC at h'
  obtain ⟨w_cwnd, l'1, rfl, h'1⟩ := un_i_some.1 h'
  obtain ⟨w_slow, l'2, rfl, h'2⟩ := un_i_some.1 h'1
  obtain ⟨w_pipe, l'3, rfl, h'3⟩ := un_i_some.1 h'2
  obtain ⟨w_count, l'4, rfl, h'4⟩ := un_i_some.1 h'3
  obtain ⟨w_halved_n, l'5, rfl, h'5⟩ := un_i_some.1 h'4
  obtain ⟨w_halved_is, l'6, rfl, h'6⟩ := un_b_some.1 h'5
  obtain ⟨w_last_n, l'7, rfl, h'7⟩ := un_i_some.1 h'6
  obtain ⟨w_last_is, l'8, rfl, h'8⟩ := un_b_some.1 h'7
  obtain ⟨w_runs, l'9, rfl, h'9⟩ := un_b_some.1 h'8
  obtain ⟨w_due, l'10, rfl, h'10⟩ := un_i_some.1 h'9
  obtain ⟨w_rtt_any, l'11, rfl, h'11⟩ := un_b_some.1 h'10
  obtain ⟨w_rtt_smooth, l'12, rfl, h'12⟩ := un_i_some.1 h'11
  obtain ⟨w_rtt_spread, l'13, rfl, h'13⟩ := un_i_some.1 h'12
  obtain ⟨w_rtt_rto, l'14, rfl, h'14⟩ := un_i_some.1 h'13
  obtain ⟨now, l'15, rfl, h'15⟩ := un_i_some.1 h'14
  obtain ⟨rfl, h'Z⟩ := un_nil_some.1 h'15
  obtain ⟨l', a', b'⟩ := out_some.1 h'Z
  exact ⟨l', (win_Fire_Se w_cwnd w_slow w_pipe w_count w_halved_n w_halved_is w_last_n w_last_is w_runs w_due w_rtt_any w_rtt_smooth w_rtt_spread w_rtt_rto now).trans a', b'⟩
theorem win_Fire_c : FnC Go.Proofs.Tryz.prog 43 false 2 2 win_Fire_in win_Fire_out win_Fire_S := by
  refine fn_ok (Λ := win_Fire_Λ) mixed tab_ok g23 Go.Proofs.Tryz.func43 (by kernel_rfl) (body := fb Go.Proofs.Tryz.f43) rfl (ts := Go.Proofs.Tryz.f43.results.toList) rfl (cuts := []) (by kernel_rfl) (Nat.le_of_ble_eq_true (by kernel_rfl)) (by kernel_rfl) (rt := .w (.at (.bool))) rfl ?_ ?_
  · intro ls' r' h'
    unfold win_Fire_S at h'
    obtain ⟨w_cwnd, l'1, rfl, h'1⟩ := un_i_some.1 h'
    obtain ⟨w_slow, l'2, rfl, h'2⟩ := un_i_some.1 h'1
    obtain ⟨w_pipe, l'3, rfl, h'3⟩ := un_i_some.1 h'2
    obtain ⟨w_count, l'4, rfl, h'4⟩ := un_i_some.1 h'3
    obtain ⟨w_halved_n, l'5, rfl, h'5⟩ := un_i_some.1 h'4
    obtain ⟨w_halved_is, l'6, rfl, h'6⟩ := un_b_some.1 h'5
    obtain ⟨w_last_n, l'7, rfl, h'7⟩ := un_i_some.1 h'6
    obtain ⟨w_last_is, l'8, rfl, h'8⟩ := un_b_some.1 h'7
    obtain ⟨w_runs, l'9, rfl, h'9⟩ := un_b_some.1 h'8
    obtain ⟨w_due, l'10, rfl, h'10⟩ := un_i_some.1 h'9
    obtain ⟨w_rtt_any, l'11, rfl, h'11⟩ := un_b_some.1 h'10
    obtain ⟨w_rtt_smooth, l'12, rfl, h'12⟩ := un_i_some.1 h'11
    obtain ⟨w_rtt_spread, l'13, rfl, h'13⟩ := un_i_some.1 h'12
    obtain ⟨w_rtt_rto, l'14, rfl, h'14⟩ := un_i_some.1 h'13
    obtain ⟨now, l'15, rfl, h'15⟩ := un_i_some.1 h'14
    obtain ⟨rfl, h'Z⟩ := un_nil_some.1 h'15
    exact (win_Fire_e w_cwnd w_slow w_pipe w_count w_halved_n w_halved_is w_last_n w_last_is w_runs w_due w_rtt_any w_rtt_smooth w_rtt_spread w_rtt_rto now).symm.trans h'Z
  · intro E w0 ws ρ0 hk b hb
    rw [show loopsOf (fb Go.Proofs.Tryz.f43) = [] by kernel_rfl] at hb
    cases hb
noncomputable def G24 : Env := G23.addE 43 2 win_Fire_in win_Fire_out win_Fire_SC
theorem g24 : EnvOk Go.Proofs.Tryz.prog G24 := EnvOk.addE g23 win_Fire_c win_Fire_says

-- ### win_Cwnd: function 44
def win_Cwnd_in : Tm := ⟨[.cells 104 [.int .i64, .int .i64, .int .i64, .int .i64, .ptr 1 0, .int .u64, .bool, .int .u64, .bool, .bool, .int .i64], .cells 100 [.bool, .int .i64, .int .i64, .int .i64]], [(0, .w (.at (.ptr 0 0)))]⟩
def win_Cwnd_out : Tm := ⟨[.dead, .dead], [(0, .w (.at (.int .i64)))]⟩

def win_Cwnd_Λd : Loops := Loops.none
def win_Cwnd_Λ : Loops := win_Cwnd_Λd 

theorem win_Cwnd_e (w_cwnd : Int) (w_slow : Int) (w_pipe : Int) (w_count : Int) (w_halved_n : Int) (w_halved_is : Bool) (w_last_n : Int) (w_last_is : Bool) (w_runs : Bool) (w_due : Int) (w_rtt_any : Bool) (w_rtt_smooth : Int) (w_rtt_spread : Int) (w_rtt_rto : Int) : win_Cwnd w_cwnd w_slow w_pipe w_count w_halved_n w_halved_is w_last_n w_last_is w_runs w_due w_rtt_any w_rtt_smooth w_rtt_spread w_rtt_rto = den G24 win_Cwnd_Λ true tab Go.Proofs.Tryz.f44.ntmps (fun fr H => finish tab 2 Go.Proofs.Tryz.f44.results.toList win_Cwnd_out [] fr H some) (fun _ _ _ => none) (fun fr H => finish tab 2 Go.Proofs.Tryz.f44.results.toList win_Cwnd_out [] fr H some) 10000 [.code (fb Go.Proofs.Tryz.f44)] (instFr win_Cwnd_in [.i w_cwnd, .i w_slow, .i w_pipe, .i w_count, .i w_halved_n, .b w_halved_is, .i w_last_n, .b w_last_is, .b w_runs, .i w_due, .b w_rtt_any, .i w_rtt_smooth, .i w_rtt_spread, .i w_rtt_rto]) (instH win_Cwnd_in [.i w_cwnd, .i w_slow, .i w_pipe, .i w_count, .i w_halved_n, .b w_halved_is, .i w_last_n, .b w_last_is, .b w_runs, .i w_due, .b w_rtt_any, .i w_rtt_smooth, .i w_rtt_spread, .i w_rtt_rto]) := by kernel_rfl
def win_Cwnd_S : List Leaf → Option (List Leaf) := fun ls => un_i ls fun w_cwnd rr => un_i rr fun w_slow rr => un_i rr fun w_pipe rr => un_i rr fun w_count rr => un_i rr fun w_halved_n rr => un_b rr fun w_halved_is rr => un_i rr fun w_last_n rr => un_b rr fun w_last_is rr => un_b rr fun w_runs rr => un_i rr fun w_due rr => un_b rr fun w_rtt_any rr => un_i rr fun w_rtt_smooth rr => un_i rr fun w_rtt_spread rr => un_i rr fun w_rtt_rto rr => un_nil rr (win_Cwnd w_cwnd w_slow w_pipe w_count w_halved_n w_halved_is w_last_n w_last_is w_runs w_due w_rtt_any w_rtt_smooth w_rtt_spread w_rtt_rto)
def win_Cwnd_SC : Tld := fun ls k' => un_i ls fun w_cwnd rr => un_i rr fun w_slow rr => un_i rr fun w_pipe rr => un_i rr fun w_count rr => un_i rr fun w_halved_n rr => un_b rr fun w_halved_is rr => un_i rr fun w_last_n rr => un_b rr fun w_last_is rr => un_b rr fun w_runs rr => un_i rr fun w_due rr => un_b rr fun w_rtt_any rr => un_i rr fun w_rtt_smooth rr => un_i rr fun w_rtt_spread rr => un_i rr fun w_rtt_rto rr => un_nil rr (out (win_Cwnd w_cwnd w_slow w_pipe w_count w_halved_n w_halved_is w_last_n w_last_is w_runs w_due w_rtt_any w_rtt_smooth w_rtt_spread w_rtt_rto) k')
theorem win_Cwnd_Se (w_cwnd : Int) (w_slow : Int) (w_pipe : Int) (w_count : Int) (w_halved_n : Int) (w_halved_is : Bool) (w_last_n : Int) (w_last_is : Bool) (w_runs : Bool) (w_due : Int) (w_rtt_any : Bool) (w_rtt_smooth : Int) (w_rtt_spread : Int) (w_rtt_rto : Int) : win_Cwnd_S [.i w_cwnd, .i w_slow, .i w_pipe, .i w_count, .i w_halved_n, .b w_halved_is, .i w_last_n, .b w_last_is, .b w_runs, .i w_due, .b w_rtt_any, .i w_rtt_smooth, .i w_rtt_spread, .i w_rtt_rto] = win_Cwnd w_cwnd w_slow w_pipe w_count w_halved_n w_halved_is w_last_n w_last_is w_runs w_due w_rtt_any w_rtt_smooth w_rtt_spread w_rtt_rto := by
  unfold win_Cwnd_S
  simp only [un_i_ev, un_b_ev, un_s_ev, un_li_ev, un_lb_ev, un_ls_ev, un_nil_ev]
theorem win_Cwnd_says : Says win_Cwnd_SC win_Cwnd_S := by
  intro β ls' k' r' h'
  unfold win_Cwnd_SC at h'
  obtain ⟨w_cwnd, l'1, rfl, h'1⟩ := un_i_some.1 h'
  obtain ⟨w_slow, l'2, rfl, h'2⟩ := un_i_some.1 h'1
  obtain ⟨w_pipe, l'3, rfl, h'3⟩ := un_i_some.1 h'2
  obtain ⟨w_count, l'4, rfl, h'4⟩ := un_i_some.1 h'3
  obtain ⟨w_halved_n, l'5, rfl, h'5⟩ := un_i_some.1 h'4
  obtain ⟨w_halved_is, l'6, rfl, h'6⟩ := un_b_some.1 h'5
  obtain ⟨w_last_n, l'7, rfl, h'7⟩ := un_i_some.1 h'6
  obtain ⟨w_last_is, l'8, rfl, h'8⟩ := un_b_some.1 h'7
  obtain ⟨w_runs, l'9, rfl, h'9⟩ := un_b_some.1 h'8
  obtain ⟨w_due, l'10, rfl, h'10⟩ := un_i_some.1 h'9
  obtain ⟨w_rtt_any, l'11, rfl, h'11⟩ := un_b_some.1 h'10
  obtain ⟨w_rtt_smooth, l'12, rfl, h'12⟩ := un_i_some.1 h'11
  obtain ⟨w_rtt_spread, l'13, rfl, h'13⟩ := un_i_some.1 h'12
  obtain ⟨w_rtt_rto, l'14, rfl, h'14⟩ := un_i_some.1 h'13
  obtain ⟨rfl, h'Z⟩ := un_nil_some.1 h'14
  obtain ⟨l', a', b'⟩ := out_some.1 h'Z
  exact ⟨l', (win_Cwnd_Se w_cwnd w_slow w_pipe w_count w_halved_n w_halved_is w_last_n w_last_is w_runs w_due w_rtt_any w_rtt_smooth w_rtt_spread w_rtt_rto).trans a', b'⟩
theorem win_Cwnd_c : FnC Go.Proofs.Tryz.prog 44 true 1 2 win_Cwnd_in win_Cwnd_out win_Cwnd_S := by
  refine fn_ok (Λ := win_Cwnd_Λ) mixed tab_ok g24 Go.Proofs.Tryz.func44 (by kernel_rfl) (body := fb Go.Proofs.Tryz.f44) rfl (ts := Go.Proofs.Tryz.f44.results.toList) rfl (cuts := []) (by kernel_rfl) (Nat.le_of_ble_eq_true (by kernel_rfl)) (by kernel_rfl) (rt := .w (.at (.int .i64))) rfl ?_ ?_
  · intro ls' r' h'
    unfold win_Cwnd_S at h'
    obtain ⟨w_cwnd, l'1, rfl, h'1⟩ := un_i_some.1 h'
    obtain ⟨w_slow, l'2, rfl, h'2⟩ := un_i_some.1 h'1
    obtain ⟨w_pipe, l'3, rfl, h'3⟩ := un_i_some.1 h'2
    obtain ⟨w_count, l'4, rfl, h'4⟩ := un_i_some.1 h'3
    obtain ⟨w_halved_n, l'5, rfl, h'5⟩ := un_i_some.1 h'4
    obtain ⟨w_halved_is, l'6, rfl, h'6⟩ := un_b_some.1 h'5
    obtain ⟨w_last_n, l'7, rfl, h'7⟩ := un_i_some.1 h'6
    obtain ⟨w_last_is, l'8, rfl, h'8⟩ := un_b_some.1 h'7
    obtain ⟨w_runs, l'9, rfl, h'9⟩ := un_b_some.1 h'8
    obtain ⟨w_due, l'10, rfl, h'10⟩ := un_i_some.1 h'9
    obtain ⟨w_rtt_any, l'11, rfl, h'11⟩ := un_b_some.1 h'10
    obtain ⟨w_rtt_smooth, l'12, rfl, h'12⟩ := un_i_some.1 h'11
    obtain ⟨w_rtt_spread, l'13, rfl, h'13⟩ := un_i_some.1 h'12
    obtain ⟨w_rtt_rto, l'14, rfl, h'14⟩ := un_i_some.1 h'13
    obtain ⟨rfl, h'Z⟩ := un_nil_some.1 h'14
    exact (win_Cwnd_e w_cwnd w_slow w_pipe w_count w_halved_n w_halved_is w_last_n w_last_is w_runs w_due w_rtt_any w_rtt_smooth w_rtt_spread w_rtt_rto).symm.trans h'Z
  · intro E w0 ws ρ0 hk b hb
    rw [show loopsOf (fb Go.Proofs.Tryz.f44) = [] by kernel_rfl] at hb
    cases hb
noncomputable def G25 : Env := G24.addP 44 1 win_Cwnd_in win_Cwnd_out win_Cwnd_SC
theorem g25 : EnvOk Go.Proofs.Tryz.prog G25 := EnvOk.addP g24 win_Cwnd_c win_Cwnd_says

-- ### win_Slow: function 47
def win_Slow_in : Tm := ⟨[.cells 104 [.int .i64, .int .i64, .int .i64, .int .i64, .ptr 1 0, .int .u64, .bool, .int .u64, .bool, .bool, .int .i64], .cells 100 [.bool, .int .i64, .int .i64, .int .i64]], [(0, .w (.at (.ptr 0 0)))]⟩
def win_Slow_out : Tm := ⟨[.dead, .dead], [(0, .w (.at (.int .i64)))]⟩

def win_Slow_Λd : Loops := Loops.none
def win_Slow_Λ : Loops := win_Slow_Λd 

theorem win_Slow_e (w_cwnd : Int) (w_slow : Int) (w_pipe : Int) (w_count : Int) (w_halved_n : Int) (w_halved_is : Bool) (w_last_n : Int) (w_last_is : Bool) (w_runs : Bool) (w_due : Int) (w_rtt_any : Bool) (w_rtt_smooth : Int) (w_rtt_spread : Int) (w_rtt_rto : Int) : win_Slow w_cwnd w_slow w_pipe w_count w_halved_n w_halved_is w_last_n w_last_is w_runs w_due w_rtt_any w_rtt_smooth w_rtt_spread w_rtt_rto = den G25 win_Slow_Λ true tab Go.Proofs.Tryz.f47.ntmps (fun fr H => finish tab 2 Go.Proofs.Tryz.f47.results.toList win_Slow_out [] fr H some) (fun _ _ _ => none) (fun fr H => finish tab 2 Go.Proofs.Tryz.f47.results.toList win_Slow_out [] fr H some) 10000 [.code (fb Go.Proofs.Tryz.f47)] (instFr win_Slow_in [.i w_cwnd, .i w_slow, .i w_pipe, .i w_count, .i w_halved_n, .b w_halved_is, .i w_last_n, .b w_last_is, .b w_runs, .i w_due, .b w_rtt_any, .i w_rtt_smooth, .i w_rtt_spread, .i w_rtt_rto]) (instH win_Slow_in [.i w_cwnd, .i w_slow, .i w_pipe, .i w_count, .i w_halved_n, .b w_halved_is, .i w_last_n, .b w_last_is, .b w_runs, .i w_due, .b w_rtt_any, .i w_rtt_smooth, .i w_rtt_spread, .i w_rtt_rto]) := by kernel_rfl
def win_Slow_S : List Leaf → Option (List Leaf) := fun ls => un_i ls fun w_cwnd rr => un_i rr fun w_slow rr => un_i rr fun w_pipe rr => un_i rr fun w_count rr => un_i rr fun w_halved_n rr => un_b rr fun w_halved_is rr => un_i rr fun w_last_n rr => un_b rr fun w_last_is rr => un_b rr fun w_runs rr => un_i rr fun w_due rr => un_b rr fun w_rtt_any rr => un_i rr fun w_rtt_smooth rr => un_i rr fun w_rtt_spread rr => un_i rr fun w_rtt_rto rr => un_nil rr (win_Slow w_cwnd w_slow w_pipe w_count w_halved_n w_halved_is w_last_n w_last_is w_runs w_due w_rtt_any w_rtt_smooth w_rtt_spread w_rtt_rto)
def win_Slow_SC : Tld := fun ls k' => un_i ls fun w_cwnd rr => un_i rr fun w_slow rr => un_i rr fun w_pipe rr => un_i rr fun w_count rr => un_i rr fun w_halved_n rr => un_b rr fun w_halved_is rr => un_i rr fun w_last_n rr => un_b rr fun w_last_is rr => un_b rr fun w_runs rr => un_i rr fun w_due rr => un_b rr fun w_rtt_any rr => un_i rr fun w_rtt_smooth rr => un_i rr fun w_rtt_spread rr => un_i rr fun w_rtt_rto rr => un_nil rr (out (win_Slow w_cwnd w_slow w_pipe w_count w_halved_n w_halved_is w_last_n w_last_is w_runs w_due w_rtt_any w_rtt_smooth w_rtt_spread w_rtt_rto) k')
theorem win_Slow_Se (w_cwnd : Int) (w_slow : Int) (w_pipe : Int) (w_count : Int) (w_halved_n : Int) (w_halved_is : Bool) (w_last_n : Int) (w_last_is : Bool) (w_runs : Bool) (w_due : Int) (w_rtt_any : Bool) (w_rtt_smooth : Int) (w_rtt_spread : Int) (w_rtt_rto : Int) : win_Slow_S [.i w_cwnd, .i w_slow, .i w_pipe, .i w_count, .i w_halved_n, .b w_halved_is, .i w_last_n, .b w_last_is, .b w_runs, .i w_due, .b w_rtt_any, .i w_rtt_smooth, .i w_rtt_spread, .i w_rtt_rto] = win_Slow w_cwnd w_slow w_pipe w_count w_halved_n w_halved_is w_last_n w_last_is w_runs w_due w_rtt_any w_rtt_smooth w_rtt_spread w_rtt_rto := by
  unfold win_Slow_S
  simp only [un_i_ev, un_b_ev, un_s_ev, un_li_ev, un_lb_ev, un_ls_ev, un_nil_ev]
theorem win_Slow_says : Says win_Slow_SC win_Slow_S := by
  intro β ls' k' r' h'
  unfold win_Slow_SC at h'
  obtain ⟨w_cwnd, l'1, rfl, h'1⟩ := un_i_some.1 h'
  obtain ⟨w_slow, l'2, rfl, h'2⟩ := un_i_some.1 h'1
  obtain ⟨w_pipe, l'3, rfl, h'3⟩ := un_i_some.1 h'2
  obtain ⟨w_count, l'4, rfl, h'4⟩ := un_i_some.1 h'3
  obtain ⟨w_halved_n, l'5, rfl, h'5⟩ := un_i_some.1 h'4
  obtain ⟨w_halved_is, l'6, rfl, h'6⟩ := un_b_some.1 h'5
  obtain ⟨w_last_n, l'7, rfl, h'7⟩ := un_i_some.1 h'6
  obtain ⟨w_last_is, l'8, rfl, h'8⟩ := un_b_some.1 h'7
  obtain ⟨w_runs, l'9, rfl, h'9⟩ := un_b_some.1 h'8
  obtain ⟨w_due, l'10, rfl, h'10⟩ := un_i_some.1 h'9
  obtain ⟨w_rtt_any, l'11, rfl, h'11⟩ := un_b_some.1 h'10
  obtain ⟨w_rtt_smooth, l'12, rfl, h'12⟩ := un_i_some.1 h'11
  obtain ⟨w_rtt_spread, l'13, rfl, h'13⟩ := un_i_some.1 h'12
  obtain ⟨w_rtt_rto, l'14, rfl, h'14⟩ := un_i_some.1 h'13
  obtain ⟨rfl, h'Z⟩ := un_nil_some.1 h'14
  obtain ⟨l', a', b'⟩ := out_some.1 h'Z
  exact ⟨l', (win_Slow_Se w_cwnd w_slow w_pipe w_count w_halved_n w_halved_is w_last_n w_last_is w_runs w_due w_rtt_any w_rtt_smooth w_rtt_spread w_rtt_rto).trans a', b'⟩
theorem win_Slow_c : FnC Go.Proofs.Tryz.prog 47 true 1 2 win_Slow_in win_Slow_out win_Slow_S := by
  refine fn_ok (Λ := win_Slow_Λ) mixed tab_ok g25 Go.Proofs.Tryz.func47 (by kernel_rfl) (body := fb Go.Proofs.Tryz.f47) rfl (ts := Go.Proofs.Tryz.f47.results.toList) rfl (cuts := []) (by kernel_rfl) (Nat.le_of_ble_eq_true (by kernel_rfl)) (by kernel_rfl) (rt := .w (.at (.int .i64))) rfl ?_ ?_
  · intro ls' r' h'
    unfold win_Slow_S at h'
    obtain ⟨w_cwnd, l'1, rfl, h'1⟩ := un_i_some.1 h'
    obtain ⟨w_slow, l'2, rfl, h'2⟩ := un_i_some.1 h'1
    obtain ⟨w_pipe, l'3, rfl, h'3⟩ := un_i_some.1 h'2
    obtain ⟨w_count, l'4, rfl, h'4⟩ := un_i_some.1 h'3
    obtain ⟨w_halved_n, l'5, rfl, h'5⟩ := un_i_some.1 h'4
    obtain ⟨w_halved_is, l'6, rfl, h'6⟩ := un_b_some.1 h'5
    obtain ⟨w_last_n, l'7, rfl, h'7⟩ := un_i_some.1 h'6
    obtain ⟨w_last_is, l'8, rfl, h'8⟩ := un_b_some.1 h'7
    obtain ⟨w_runs, l'9, rfl, h'9⟩ := un_b_some.1 h'8
    obtain ⟨w_due, l'10, rfl, h'10⟩ := un_i_some.1 h'9
    obtain ⟨w_rtt_any, l'11, rfl, h'11⟩ := un_b_some.1 h'10
    obtain ⟨w_rtt_smooth, l'12, rfl, h'12⟩ := un_i_some.1 h'11
    obtain ⟨w_rtt_spread, l'13, rfl, h'13⟩ := un_i_some.1 h'12
    obtain ⟨w_rtt_rto, l'14, rfl, h'14⟩ := un_i_some.1 h'13
    obtain ⟨rfl, h'Z⟩ := un_nil_some.1 h'14
    exact (win_Slow_e w_cwnd w_slow w_pipe w_count w_halved_n w_halved_is w_last_n w_last_is w_runs w_due w_rtt_any w_rtt_smooth w_rtt_spread w_rtt_rto).symm.trans h'Z
  · intro E w0 ws ρ0 hk b hb
    rw [show loopsOf (fb Go.Proofs.Tryz.f47) = [] by kernel_rfl] at hb
    cases hb
noncomputable def G26 : Env := G25.addP 47 1 win_Slow_in win_Slow_out win_Slow_SC
theorem g26 : EnvOk Go.Proofs.Tryz.prog G26 := EnvOk.addP g25 win_Slow_c win_Slow_says

-- ### win_Pipe: function 45
def win_Pipe_in : Tm := ⟨[.cells 104 [.int .i64, .int .i64, .int .i64, .int .i64, .ptr 1 0, .int .u64, .bool, .int .u64, .bool, .bool, .int .i64], .cells 100 [.bool, .int .i64, .int .i64, .int .i64]], [(0, .w (.at (.ptr 0 0)))]⟩
def win_Pipe_out : Tm := ⟨[.dead, .dead], [(0, .w (.at (.int .i64)))]⟩

def win_Pipe_Λd : Loops := Loops.none
def win_Pipe_Λ : Loops := win_Pipe_Λd 

theorem win_Pipe_e (w_cwnd : Int) (w_slow : Int) (w_pipe : Int) (w_count : Int) (w_halved_n : Int) (w_halved_is : Bool) (w_last_n : Int) (w_last_is : Bool) (w_runs : Bool) (w_due : Int) (w_rtt_any : Bool) (w_rtt_smooth : Int) (w_rtt_spread : Int) (w_rtt_rto : Int) : win_Pipe w_cwnd w_slow w_pipe w_count w_halved_n w_halved_is w_last_n w_last_is w_runs w_due w_rtt_any w_rtt_smooth w_rtt_spread w_rtt_rto = den G26 win_Pipe_Λ true tab Go.Proofs.Tryz.f45.ntmps (fun fr H => finish tab 2 Go.Proofs.Tryz.f45.results.toList win_Pipe_out [] fr H some) (fun _ _ _ => none) (fun fr H => finish tab 2 Go.Proofs.Tryz.f45.results.toList win_Pipe_out [] fr H some) 10000 [.code (fb Go.Proofs.Tryz.f45)] (instFr win_Pipe_in [.i w_cwnd, .i w_slow, .i w_pipe, .i w_count, .i w_halved_n, .b w_halved_is, .i w_last_n, .b w_last_is, .b w_runs, .i w_due, .b w_rtt_any, .i w_rtt_smooth, .i w_rtt_spread, .i w_rtt_rto]) (instH win_Pipe_in [.i w_cwnd, .i w_slow, .i w_pipe, .i w_count, .i w_halved_n, .b w_halved_is, .i w_last_n, .b w_last_is, .b w_runs, .i w_due, .b w_rtt_any, .i w_rtt_smooth, .i w_rtt_spread, .i w_rtt_rto]) := by kernel_rfl
def win_Pipe_S : List Leaf → Option (List Leaf) := fun ls => un_i ls fun w_cwnd rr => un_i rr fun w_slow rr => un_i rr fun w_pipe rr => un_i rr fun w_count rr => un_i rr fun w_halved_n rr => un_b rr fun w_halved_is rr => un_i rr fun w_last_n rr => un_b rr fun w_last_is rr => un_b rr fun w_runs rr => un_i rr fun w_due rr => un_b rr fun w_rtt_any rr => un_i rr fun w_rtt_smooth rr => un_i rr fun w_rtt_spread rr => un_i rr fun w_rtt_rto rr => un_nil rr (win_Pipe w_cwnd w_slow w_pipe w_count w_halved_n w_halved_is w_last_n w_last_is w_runs w_due w_rtt_any w_rtt_smooth w_rtt_spread w_rtt_rto)
def win_Pipe_SC : Tld := fun ls k' => un_i ls fun w_cwnd rr => un_i rr fun w_slow rr => un_i rr fun w_pipe rr => un_i rr fun w_count rr => un_i rr fun w_halved_n rr => un_b rr fun w_halved_is rr => un_i rr fun w_last_n rr => un_b rr fun w_last_is rr => un_b rr fun w_runs rr => un_i rr fun w_due rr => un_b rr fun w_rtt_any rr => un_i rr fun w_rtt_smooth rr => un_i rr fun w_rtt_spread rr => un_i rr fun w_rtt_rto rr => un_nil rr (out (win_Pipe w_cwnd w_slow w_pipe w_count w_halved_n w_halved_is w_last_n w_last_is w_runs w_due w_rtt_any w_rtt_smooth w_rtt_spread w_rtt_rto) k')
theorem win_Pipe_Se (w_cwnd : Int) (w_slow : Int) (w_pipe : Int) (w_count : Int) (w_halved_n : Int) (w_halved_is : Bool) (w_last_n : Int) (w_last_is : Bool) (w_runs : Bool) (w_due : Int) (w_rtt_any : Bool) (w_rtt_smooth : Int) (w_rtt_spread : Int) (w_rtt_rto : Int) : win_Pipe_S [.i w_cwnd, .i w_slow, .i w_pipe, .i w_count, .i w_halved_n, .b w_halved_is, .i w_last_n, .b w_last_is, .b w_runs, .i w_due, .b w_rtt_any, .i w_rtt_smooth, .i w_rtt_spread, .i w_rtt_rto] = win_Pipe w_cwnd w_slow w_pipe w_count w_halved_n w_halved_is w_last_n w_last_is w_runs w_due w_rtt_any w_rtt_smooth w_rtt_spread w_rtt_rto := by
  unfold win_Pipe_S
  simp only [un_i_ev, un_b_ev, un_s_ev, un_li_ev, un_lb_ev, un_ls_ev, un_nil_ev]
theorem win_Pipe_says : Says win_Pipe_SC win_Pipe_S := by
  intro β ls' k' r' h'
  unfold win_Pipe_SC at h'
  obtain ⟨w_cwnd, l'1, rfl, h'1⟩ := un_i_some.1 h'
  obtain ⟨w_slow, l'2, rfl, h'2⟩ := un_i_some.1 h'1
  obtain ⟨w_pipe, l'3, rfl, h'3⟩ := un_i_some.1 h'2
  obtain ⟨w_count, l'4, rfl, h'4⟩ := un_i_some.1 h'3
  obtain ⟨w_halved_n, l'5, rfl, h'5⟩ := un_i_some.1 h'4
  obtain ⟨w_halved_is, l'6, rfl, h'6⟩ := un_b_some.1 h'5
  obtain ⟨w_last_n, l'7, rfl, h'7⟩ := un_i_some.1 h'6
  obtain ⟨w_last_is, l'8, rfl, h'8⟩ := un_b_some.1 h'7
  obtain ⟨w_runs, l'9, rfl, h'9⟩ := un_b_some.1 h'8
  obtain ⟨w_due, l'10, rfl, h'10⟩ := un_i_some.1 h'9
  obtain ⟨w_rtt_any, l'11, rfl, h'11⟩ := un_b_some.1 h'10
  obtain ⟨w_rtt_smooth, l'12, rfl, h'12⟩ := un_i_some.1 h'11
  obtain ⟨w_rtt_spread, l'13, rfl, h'13⟩ := un_i_some.1 h'12
  obtain ⟨w_rtt_rto, l'14, rfl, h'14⟩ := un_i_some.1 h'13
  obtain ⟨rfl, h'Z⟩ := un_nil_some.1 h'14
  obtain ⟨l', a', b'⟩ := out_some.1 h'Z
  exact ⟨l', (win_Pipe_Se w_cwnd w_slow w_pipe w_count w_halved_n w_halved_is w_last_n w_last_is w_runs w_due w_rtt_any w_rtt_smooth w_rtt_spread w_rtt_rto).trans a', b'⟩
theorem win_Pipe_c : FnC Go.Proofs.Tryz.prog 45 true 1 2 win_Pipe_in win_Pipe_out win_Pipe_S := by
  refine fn_ok (Λ := win_Pipe_Λ) mixed tab_ok g26 Go.Proofs.Tryz.func45 (by kernel_rfl) (body := fb Go.Proofs.Tryz.f45) rfl (ts := Go.Proofs.Tryz.f45.results.toList) rfl (cuts := []) (by kernel_rfl) (Nat.le_of_ble_eq_true (by kernel_rfl)) (by kernel_rfl) (rt := .w (.at (.int .i64))) rfl ?_ ?_
  · intro ls' r' h'
    unfold win_Pipe_S at h'
    obtain ⟨w_cwnd, l'1, rfl, h'1⟩ := un_i_some.1 h'
    obtain ⟨w_slow, l'2, rfl, h'2⟩ := un_i_some.1 h'1
    obtain ⟨w_pipe, l'3, rfl, h'3⟩ := un_i_some.1 h'2
    obtain ⟨w_count, l'4, rfl, h'4⟩ := un_i_some.1 h'3
    obtain ⟨w_halved_n, l'5, rfl, h'5⟩ := un_i_some.1 h'4
    obtain ⟨w_halved_is, l'6, rfl, h'6⟩ := un_b_some.1 h'5
    obtain ⟨w_last_n, l'7, rfl, h'7⟩ := un_i_some.1 h'6
    obtain ⟨w_last_is, l'8, rfl, h'8⟩ := un_b_some.1 h'7
    obtain ⟨w_runs, l'9, rfl, h'9⟩ := un_b_some.1 h'8
    obtain ⟨w_due, l'10, rfl, h'10⟩ := un_i_some.1 h'9
    obtain ⟨w_rtt_any, l'11, rfl, h'11⟩ := un_b_some.1 h'10
    obtain ⟨w_rtt_smooth, l'12, rfl, h'12⟩ := un_i_some.1 h'11
    obtain ⟨w_rtt_spread, l'13, rfl, h'13⟩ := un_i_some.1 h'12
    obtain ⟨w_rtt_rto, l'14, rfl, h'14⟩ := un_i_some.1 h'13
    obtain ⟨rfl, h'Z⟩ := un_nil_some.1 h'14
    exact (win_Pipe_e w_cwnd w_slow w_pipe w_count w_halved_n w_halved_is w_last_n w_last_is w_runs w_due w_rtt_any w_rtt_smooth w_rtt_spread w_rtt_rto).symm.trans h'Z
  · intro E w0 ws ρ0 hk b hb
    rw [show loopsOf (fb Go.Proofs.Tryz.f45) = [] by kernel_rfl] at hb
    cases hb
noncomputable def G27 : Env := G26.addP 45 1 win_Pipe_in win_Pipe_out win_Pipe_SC
theorem g27 : EnvOk Go.Proofs.Tryz.prog G27 := EnvOk.addP g26 win_Pipe_c win_Pipe_says
end Go.Sx.T

