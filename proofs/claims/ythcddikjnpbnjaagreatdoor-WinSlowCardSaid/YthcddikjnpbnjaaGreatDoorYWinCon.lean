import Derived.Test.YthcddikjnpbnjaaGreatDoorYWinSpec
import Derived.Test.YthcddikjnpbnjaaGreatDoorYRttCon
set_option linter.all false
namespace Go.Sx.T
open Go Go.Sx Go.Proofs
set_option maxRecDepth 100000

-- ### win_New: function 27
def win_New_in : Tm := ⟨[], []⟩
def win_New_out : Tm := ⟨[.cells 113 [.int .i64, .int .i64, .int .i64, .int .i64, .ptr 1 0, .int .u64, .bool, .int .u64, .bool, .bool, .int .i64], .cells 130 [.bool, .int .i64, .int .i64, .int .i64]], [(0, .w (.at (.ptr 0 0)))]⟩

def win_New_Λd : Loops := Loops.none
def win_New_Λ : Loops := win_New_Λd 

theorem win_New_e  : win_New  = den G27 win_New_Λ false tab Go.Proofs.Tryz.f27.ntmps (fun fr H => finish tab 0 Go.Proofs.Tryz.f27.results.toList win_New_out [] fr H some) (fun _ _ _ => none) (fun fr H => finish tab 0 Go.Proofs.Tryz.f27.results.toList win_New_out [] fr H some) 10000 [.code (fb Go.Proofs.Tryz.f27)] (instFr win_New_in []) (instH win_New_in []) := by kernel_rfl
def win_New_S : List Leaf → Option (List Leaf) := fun ls => un_nil ls (win_New )
def win_New_SC : Tld := fun ls k' => un_nil ls (out (win_New ) k')
theorem win_New_Se  : win_New_S [] = win_New  := by
  unfold win_New_S
  simp only [un_i_ev, un_b_ev, un_s_ev, un_li_ev, un_lb_ev, un_ls_ev, un_nil_ev]
theorem win_New_says : Says win_New_SC win_New_S := by
  intro β ls' k' r' h'
  unfold win_New_SC at h'
  obtain ⟨rfl, h'Z⟩ := un_nil_some.1 h'
  obtain ⟨l', a', b'⟩ := out_some.1 h'Z
  exact ⟨l', (win_New_Se ).trans a', b'⟩
theorem win_New_c : FnC Go.Proofs.Tryz.prog 27 false 0 0 win_New_in win_New_out win_New_S := by
  refine fn_ok (Λ := win_New_Λ) mixed tab_ok g27 Go.Proofs.Tryz.func27 (by kernel_rfl) (body := fb Go.Proofs.Tryz.f27) rfl (ts := Go.Proofs.Tryz.f27.results.toList) rfl (cuts := []) (by kernel_rfl) (Nat.le_of_ble_eq_true (by kernel_rfl)) (by kernel_rfl) (rt := .w (.at (.ptr 0 0))) rfl ?_ ?_
  · intro ls' r' h'
    unfold win_New_S at h'
    obtain ⟨rfl, h'Z⟩ := un_nil_some.1 h'
    exact (win_New_e ).symm.trans h'Z
  · intro E w0 ws ρ0 hk b hb
    rw [show loopsOf (fb Go.Proofs.Tryz.f27) = [] by kernel_rfl] at hb
    cases hb
noncomputable def G28 : Env := G27.addE 27 0 win_New_in win_New_out win_New_SC
theorem g28 : EnvOk Go.Proofs.Tryz.prog G28 := EnvOk.addE g27 win_New_c win_New_says

-- ### win_May: function 54
def win_May_in : Tm := ⟨[.cells 113 [.int .i64, .int .i64, .int .i64, .int .i64, .ptr 1 0, .int .u64, .bool, .int .u64, .bool, .bool, .int .i64], .cells 130 [.bool, .int .i64, .int .i64, .int .i64]], [(0, .w (.at (.ptr 0 0)))]⟩
def win_May_out : Tm := ⟨[.dead, .dead], [(0, .w (.at (.bool)))]⟩

def win_May_Λd : Loops := Loops.none
def win_May_Λ : Loops := win_May_Λd 

theorem win_May_e (w_cwnd : Int) (w_slow : Int) (w_pipe : Int) (w_count : Int) (w_halved_n : Int) (w_halved_is : Bool) (w_last_n : Int) (w_last_is : Bool) (w_runs : Bool) (w_due : Int) (w_rtt_any : Bool) (w_rtt_smooth : Int) (w_rtt_spread : Int) (w_rtt_rto : Int) : win_May w_cwnd w_slow w_pipe w_count w_halved_n w_halved_is w_last_n w_last_is w_runs w_due w_rtt_any w_rtt_smooth w_rtt_spread w_rtt_rto = den G28 win_May_Λ true tab Go.Proofs.Tryz.f54.ntmps (fun fr H => finish tab 2 Go.Proofs.Tryz.f54.results.toList win_May_out [] fr H some) (fun _ _ _ => none) (fun fr H => finish tab 2 Go.Proofs.Tryz.f54.results.toList win_May_out [] fr H some) 10000 [.code (fb Go.Proofs.Tryz.f54)] (instFr win_May_in [.i w_cwnd, .i w_slow, .i w_pipe, .i w_count, .i w_halved_n, .b w_halved_is, .i w_last_n, .b w_last_is, .b w_runs, .i w_due, .b w_rtt_any, .i w_rtt_smooth, .i w_rtt_spread, .i w_rtt_rto]) (instH win_May_in [.i w_cwnd, .i w_slow, .i w_pipe, .i w_count, .i w_halved_n, .b w_halved_is, .i w_last_n, .b w_last_is, .b w_runs, .i w_due, .b w_rtt_any, .i w_rtt_smooth, .i w_rtt_spread, .i w_rtt_rto]) := by kernel_rfl
def win_May_S : List Leaf → Option (List Leaf) := fun ls => un_i ls fun w_cwnd rr => un_i rr fun w_slow rr => un_i rr fun w_pipe rr => un_i rr fun w_count rr => un_i rr fun w_halved_n rr => un_b rr fun w_halved_is rr => un_i rr fun w_last_n rr => un_b rr fun w_last_is rr => un_b rr fun w_runs rr => un_i rr fun w_due rr => un_b rr fun w_rtt_any rr => un_i rr fun w_rtt_smooth rr => un_i rr fun w_rtt_spread rr => un_i rr fun w_rtt_rto rr => un_nil rr (win_May w_cwnd w_slow w_pipe w_count w_halved_n w_halved_is w_last_n w_last_is w_runs w_due w_rtt_any w_rtt_smooth w_rtt_spread w_rtt_rto)
def win_May_SC : Tld := fun ls k' => un_i ls fun w_cwnd rr => un_i rr fun w_slow rr => un_i rr fun w_pipe rr => un_i rr fun w_count rr => un_i rr fun w_halved_n rr => un_b rr fun w_halved_is rr => un_i rr fun w_last_n rr => un_b rr fun w_last_is rr => un_b rr fun w_runs rr => un_i rr fun w_due rr => un_b rr fun w_rtt_any rr => un_i rr fun w_rtt_smooth rr => un_i rr fun w_rtt_spread rr => un_i rr fun w_rtt_rto rr => un_nil rr (out (win_May w_cwnd w_slow w_pipe w_count w_halved_n w_halved_is w_last_n w_last_is w_runs w_due w_rtt_any w_rtt_smooth w_rtt_spread w_rtt_rto) k')
theorem win_May_Se (w_cwnd : Int) (w_slow : Int) (w_pipe : Int) (w_count : Int) (w_halved_n : Int) (w_halved_is : Bool) (w_last_n : Int) (w_last_is : Bool) (w_runs : Bool) (w_due : Int) (w_rtt_any : Bool) (w_rtt_smooth : Int) (w_rtt_spread : Int) (w_rtt_rto : Int) : win_May_S [.i w_cwnd, .i w_slow, .i w_pipe, .i w_count, .i w_halved_n, .b w_halved_is, .i w_last_n, .b w_last_is, .b w_runs, .i w_due, .b w_rtt_any, .i w_rtt_smooth, .i w_rtt_spread, .i w_rtt_rto] = win_May w_cwnd w_slow w_pipe w_count w_halved_n w_halved_is w_last_n w_last_is w_runs w_due w_rtt_any w_rtt_smooth w_rtt_spread w_rtt_rto := by
  unfold win_May_S
  simp only [un_i_ev, un_b_ev, un_s_ev, un_li_ev, un_lb_ev, un_ls_ev, un_nil_ev]
theorem win_May_says : Says win_May_SC win_May_S := by
  intro β ls' k' r' h'
  unfold win_May_SC at h'
  obtain ⟨w_cwnd, l'1, rfl, h'1⟩ := un_i_some.1 h'
  obtain ⟨w_slow, l'2, rfl, h'2⟩ := un_i_some.1 h'1
  obtain ⟨w_pipe, l'3, rfl, h'3⟩ := un_i_some.1 h'2
  obtain ⟨w_count, l'4, rfl, h'4⟩ := un_i_some.1 h'3
  obtain ⟨w_halved_n, l'5, rfl, h'5⟩ := un_i_some.1 h'4
  obtain ⟨w_halved_is, l'6, rfl, h'6⟩ := un_b_some.1 h'5
  obtain ⟨w_last_n, l'7, rfl, h'7⟩ := un_i_some.1 h'6
  obtain ⟨w_last_is, l'8, rfl, h'8⟩ := un_b_some.1 h'7
  obtain ⟨w_runs, l'9, rfl, h'9⟩ := un_b_some.1 h'8
  obtain ⟨w_due, l'10, rfl, h'10⟩ := un_i_some.1 h'9
  obtain ⟨w_rtt_any, l'11, rfl, h'11⟩ := un_b_some.1 h'10
  obtain ⟨w_rtt_smooth, l'12, rfl, h'12⟩ := un_i_some.1 h'11
  obtain ⟨w_rtt_spread, l'13, rfl, h'13⟩ := un_i_some.1 h'12
  obtain ⟨w_rtt_rto, l'14, rfl, h'14⟩ := un_i_some.1 h'13
  obtain ⟨rfl, h'Z⟩ := un_nil_some.1 h'14
  obtain ⟨l', a', b'⟩ := out_some.1 h'Z
  exact ⟨l', (win_May_Se w_cwnd w_slow w_pipe w_count w_halved_n w_halved_is w_last_n w_last_is w_runs w_due w_rtt_any w_rtt_smooth w_rtt_spread w_rtt_rto).trans a', b'⟩
theorem win_May_c : FnC Go.Proofs.Tryz.prog 54 true 1 2 win_May_in win_May_out win_May_S := by
  refine fn_ok (Λ := win_May_Λ) mixed tab_ok g28 Go.Proofs.Tryz.func54 (by kernel_rfl) (body := fb Go.Proofs.Tryz.f54) rfl (ts := Go.Proofs.Tryz.f54.results.toList) rfl (cuts := []) (by kernel_rfl) (Nat.le_of_ble_eq_true (by kernel_rfl)) (by kernel_rfl) (rt := .w (.at (.bool))) rfl ?_ ?_
  · intro ls' r' h'
    unfold win_May_S at h'
    obtain ⟨w_cwnd, l'1, rfl, h'1⟩ := un_i_some.1 h'
    obtain ⟨w_slow, l'2, rfl, h'2⟩ := un_i_some.1 h'1
    obtain ⟨w_pipe, l'3, rfl, h'3⟩ := un_i_some.1 h'2
    obtain ⟨w_count, l'4, rfl, h'4⟩ := un_i_some.1 h'3
    obtain ⟨w_halved_n, l'5, rfl, h'5⟩ := un_i_some.1 h'4
    obtain ⟨w_halved_is, l'6, rfl, h'6⟩ := un_b_some.1 h'5
    obtain ⟨w_last_n, l'7, rfl, h'7⟩ := un_i_some.1 h'6
    obtain ⟨w_last_is, l'8, rfl, h'8⟩ := un_b_some.1 h'7
    obtain ⟨w_runs, l'9, rfl, h'9⟩ := un_b_some.1 h'8
    obtain ⟨w_due, l'10, rfl, h'10⟩ := un_i_some.1 h'9
    obtain ⟨w_rtt_any, l'11, rfl, h'11⟩ := un_b_some.1 h'10
    obtain ⟨w_rtt_smooth, l'12, rfl, h'12⟩ := un_i_some.1 h'11
    obtain ⟨w_rtt_spread, l'13, rfl, h'13⟩ := un_i_some.1 h'12
    obtain ⟨w_rtt_rto, l'14, rfl, h'14⟩ := un_i_some.1 h'13
    obtain ⟨rfl, h'Z⟩ := un_nil_some.1 h'14
    exact (win_May_e w_cwnd w_slow w_pipe w_count w_halved_n w_halved_is w_last_n w_last_is w_runs w_due w_rtt_any w_rtt_smooth w_rtt_spread w_rtt_rto).symm.trans h'Z
  · intro E w0 ws ρ0 hk b hb
    rw [show loopsOf (fb Go.Proofs.Tryz.f54) = [] by kernel_rfl] at hb
    cases hb
noncomputable def G29 : Env := G28.addP 54 1 win_May_in win_May_out win_May_SC
theorem g29 : EnvOk Go.Proofs.Tryz.prog G29 := EnvOk.addP g28 win_May_c win_May_says

-- ### win_runsTo: function 76
def win_runsTo_in : Tm := ⟨[.cells 113 [.int .i64, .int .i64, .int .i64, .int .i64, .ptr 1 0, .int .u64, .bool, .int .u64, .bool, .bool, .int .i64], .cells 130 [.bool, .int .i64, .int .i64, .int .i64]], [(0, .w (.at (.ptr 0 0))), (1, .w (.at (.int .i64)))]⟩
def win_runsTo_out : Tm := ⟨[.cells 113 [.int .i64, .int .i64, .int .i64, .int .i64, .ptr 1 0, .int .u64, .bool, .int .u64, .bool, .bool, .int .i64], .cells 130 [.bool, .int .i64, .int .i64, .int .i64]], [(0, .tup [])]⟩

def win_runsTo_Λd : Loops := Loops.none
def win_runsTo_Λ : Loops := win_runsTo_Λd 

theorem win_runsTo_e (w_cwnd : Int) (w_slow : Int) (w_pipe : Int) (w_count : Int) (w_halved_n : Int) (w_halved_is : Bool) (w_last_n : Int) (w_last_is : Bool) (w_runs : Bool) (w_due : Int) (w_rtt_any : Bool) (w_rtt_smooth : Int) (w_rtt_spread : Int) (w_rtt_rto : Int) (now : Int) : win_runsTo w_cwnd w_slow w_pipe w_count w_halved_n w_halved_is w_last_n w_last_is w_runs w_due w_rtt_any w_rtt_smooth w_rtt_spread w_rtt_rto now = den G29 win_runsTo_Λ false tab Go.Proofs.Tryz.f76.ntmps (fun fr H => finish tab 2 Go.Proofs.Tryz.f76.results.toList win_runsTo_out [] fr H some) (fun _ _ _ => none) (fun fr H => finish tab 2 Go.Proofs.Tryz.f76.results.toList win_runsTo_out [] fr H some) 10000 [.code (fb Go.Proofs.Tryz.f76)] (instFr win_runsTo_in [.i w_cwnd, .i w_slow, .i w_pipe, .i w_count, .i w_halved_n, .b w_halved_is, .i w_last_n, .b w_last_is, .b w_runs, .i w_due, .b w_rtt_any, .i w_rtt_smooth, .i w_rtt_spread, .i w_rtt_rto, .i now]) (instH win_runsTo_in [.i w_cwnd, .i w_slow, .i w_pipe, .i w_count, .i w_halved_n, .b w_halved_is, .i w_last_n, .b w_last_is, .b w_runs, .i w_due, .b w_rtt_any, .i w_rtt_smooth, .i w_rtt_spread, .i w_rtt_rto, .i now]) := by kernel_rfl
def win_runsTo_S : List Leaf → Option (List Leaf) := fun ls => un_i ls fun w_cwnd rr => un_i rr fun w_slow rr => un_i rr fun w_pipe rr => un_i rr fun w_count rr => un_i rr fun w_halved_n rr => un_b rr fun w_halved_is rr => un_i rr fun w_last_n rr => un_b rr fun w_last_is rr => un_b rr fun w_runs rr => un_i rr fun w_due rr => un_b rr fun w_rtt_any rr => un_i rr fun w_rtt_smooth rr => un_i rr fun w_rtt_spread rr => un_i rr fun w_rtt_rto rr => un_i rr fun now rr => un_nil rr (win_runsTo w_cwnd w_slow w_pipe w_count w_halved_n w_halved_is w_last_n w_last_is w_runs w_due w_rtt_any w_rtt_smooth w_rtt_spread w_rtt_rto now)
def win_runsTo_SC : Tld := fun ls k' => un_i ls fun w_cwnd rr => un_i rr fun w_slow rr => un_i rr fun w_pipe rr => un_i rr fun w_count rr => un_i rr fun w_halved_n rr => un_b rr fun w_halved_is rr => un_i rr fun w_last_n rr => un_b rr fun w_last_is rr => un_b rr fun w_runs rr => un_i rr fun w_due rr => un_b rr fun w_rtt_any rr => un_i rr fun w_rtt_smooth rr => un_i rr fun w_rtt_spread rr => un_i rr fun w_rtt_rto rr => un_i rr fun now rr => un_nil rr (out (win_runsTo w_cwnd w_slow w_pipe w_count w_halved_n w_halved_is w_last_n w_last_is w_runs w_due w_rtt_any w_rtt_smooth w_rtt_spread w_rtt_rto now) k')
theorem win_runsTo_Se (w_cwnd : Int) (w_slow : Int) (w_pipe : Int) (w_count : Int) (w_halved_n : Int) (w_halved_is : Bool) (w_last_n : Int) (w_last_is : Bool) (w_runs : Bool) (w_due : Int) (w_rtt_any : Bool) (w_rtt_smooth : Int) (w_rtt_spread : Int) (w_rtt_rto : Int) (now : Int) : win_runsTo_S [.i w_cwnd, .i w_slow, .i w_pipe, .i w_count, .i w_halved_n, .b w_halved_is, .i w_last_n, .b w_last_is, .b w_runs, .i w_due, .b w_rtt_any, .i w_rtt_smooth, .i w_rtt_spread, .i w_rtt_rto, .i now] = win_runsTo w_cwnd w_slow w_pipe w_count w_halved_n w_halved_is w_last_n w_last_is w_runs w_due w_rtt_any w_rtt_smooth w_rtt_spread w_rtt_rto now := by
  unfold win_runsTo_S
  simp only [un_i_ev, un_b_ev, un_s_ev, un_li_ev, un_lb_ev, un_ls_ev, un_nil_ev]
theorem win_runsTo_says : Says win_runsTo_SC win_runsTo_S := by
  intro β ls' k' r' h'
  unfold win_runsTo_SC at h'
  obtain ⟨w_cwnd, l'1, rfl, h'1⟩ := un_i_some.1 h'
  obtain ⟨w_slow, l'2, rfl, h'2⟩ := un_i_some.1 h'1
  obtain ⟨w_pipe, l'3, rfl, h'3⟩ := un_i_some.1 h'2
  obtain ⟨w_count, l'4, rfl, h'4⟩ := un_i_some.1 h'3
  obtain ⟨w_halved_n, l'5, rfl, h'5⟩ := un_i_some.1 h'4
  obtain ⟨w_halved_is, l'6, rfl, h'6⟩ := un_b_some.1 h'5
  obtain ⟨w_last_n, l'7, rfl, h'7⟩ := un_i_some.1 h'6
  obtain ⟨w_last_is, l'8, rfl, h'8⟩ := un_b_some.1 h'7
  obtain ⟨w_runs, l'9, rfl, h'9⟩ := un_b_some.1 h'8
  obtain ⟨w_due, l'10, rfl, h'10⟩ := un_i_some.1 h'9
  obtain ⟨w_rtt_any, l'11, rfl, h'11⟩ := un_b_some.1 h'10
  obtain ⟨w_rtt_smooth, l'12, rfl, h'12⟩ := un_i_some.1 h'11
  obtain ⟨w_rtt_spread, l'13, rfl, h'13⟩ := un_i_some.1 h'12
  obtain ⟨w_rtt_rto, l'14, rfl, h'14⟩ := un_i_some.1 h'13
  obtain ⟨now, l'15, rfl, h'15⟩ := un_i_some.1 h'14
  obtain ⟨rfl, h'Z⟩ := un_nil_some.1 h'15
  obtain ⟨l', a', b'⟩ := out_some.1 h'Z
  exact ⟨l', (win_runsTo_Se w_cwnd w_slow w_pipe w_count w_halved_n w_halved_is w_last_n w_last_is w_runs w_due w_rtt_any w_rtt_smooth w_rtt_spread w_rtt_rto now).trans a', b'⟩
theorem win_runsTo_c : FnC Go.Proofs.Tryz.prog 76 false 2 2 win_runsTo_in win_runsTo_out win_runsTo_S := by
  refine fn_ok (Λ := win_runsTo_Λ) mixed tab_ok g29 Go.Proofs.Tryz.func76 (by kernel_rfl) (body := fb Go.Proofs.Tryz.f76) rfl (ts := Go.Proofs.Tryz.f76.results.toList) rfl (cuts := []) (by kernel_rfl) (Nat.le_of_ble_eq_true (by kernel_rfl)) (by kernel_rfl) (rt := .tup []) rfl ?_ ?_
  · intro ls' r' h'
    unfold win_runsTo_S at h'
    obtain ⟨w_cwnd, l'1, rfl, h'1⟩ := un_i_some.1 h'
    obtain ⟨w_slow, l'2, rfl, h'2⟩ := un_i_some.1 h'1
    obtain ⟨w_pipe, l'3, rfl, h'3⟩ := un_i_some.1 h'2
    obtain ⟨w_count, l'4, rfl, h'4⟩ := un_i_some.1 h'3
    obtain ⟨w_halved_n, l'5, rfl, h'5⟩ := un_i_some.1 h'4
    obtain ⟨w_halved_is, l'6, rfl, h'6⟩ := un_b_some.1 h'5
    obtain ⟨w_last_n, l'7, rfl, h'7⟩ := un_i_some.1 h'6
    obtain ⟨w_last_is, l'8, rfl, h'8⟩ := un_b_some.1 h'7
    obtain ⟨w_runs, l'9, rfl, h'9⟩ := un_b_some.1 h'8
    obtain ⟨w_due, l'10, rfl, h'10⟩ := un_i_some.1 h'9
    obtain ⟨w_rtt_any, l'11, rfl, h'11⟩ := un_b_some.1 h'10
    obtain ⟨w_rtt_smooth, l'12, rfl, h'12⟩ := un_i_some.1 h'11
    obtain ⟨w_rtt_spread, l'13, rfl, h'13⟩ := un_i_some.1 h'12
    obtain ⟨w_rtt_rto, l'14, rfl, h'14⟩ := un_i_some.1 h'13
    obtain ⟨now, l'15, rfl, h'15⟩ := un_i_some.1 h'14
    obtain ⟨rfl, h'Z⟩ := un_nil_some.1 h'15
    exact (win_runsTo_e w_cwnd w_slow w_pipe w_count w_halved_n w_halved_is w_last_n w_last_is w_runs w_due w_rtt_any w_rtt_smooth w_rtt_spread w_rtt_rto now).symm.trans h'Z
  · intro E w0 ws ρ0 hk b hb
    rw [show loopsOf (fb Go.Proofs.Tryz.f76) = [] by kernel_rfl] at hb
    cases hb
noncomputable def G30 : Env := G29.addE 76 2 win_runsTo_in win_runsTo_out win_runsTo_SC
theorem g30 : EnvOk Go.Proofs.Tryz.prog G30 := EnvOk.addE g29 win_runsTo_c win_runsTo_says

-- ### win_Sent: function 28
def win_Sent_in : Tm := ⟨[.cells 113 [.int .i64, .int .i64, .int .i64, .int .i64, .ptr 1 0, .int .u64, .bool, .int .u64, .bool, .bool, .int .i64], .cells 130 [.bool, .int .i64, .int .i64, .int .i64]], [(0, .w (.at (.ptr 0 0))), (1, .w (.at (.int .u64))), (2, .w (.at (.int .i64)))]⟩
def win_Sent_out : Tm := ⟨[.cells 113 [.int .i64, .int .i64, .int .i64, .int .i64, .ptr 1 0, .int .u64, .bool, .int .u64, .bool, .bool, .int .i64], .cells 130 [.bool, .int .i64, .int .i64, .int .i64]], [(0, .w (.at (.bool)))]⟩

def win_Sent_Λd : Loops := Loops.none
def win_Sent_Λ : Loops := win_Sent_Λd 

theorem win_Sent_e (w_cwnd : Int) (w_slow : Int) (w_pipe : Int) (w_count : Int) (w_halved_n : Int) (w_halved_is : Bool) (w_last_n : Int) (w_last_is : Bool) (w_runs : Bool) (w_due : Int) (w_rtt_any : Bool) (w_rtt_smooth : Int) (w_rtt_spread : Int) (w_rtt_rto : Int) (n2 : Int) (now : Int) : win_Sent w_cwnd w_slow w_pipe w_count w_halved_n w_halved_is w_last_n w_last_is w_runs w_due w_rtt_any w_rtt_smooth w_rtt_spread w_rtt_rto n2 now = den G30 win_Sent_Λ false tab Go.Proofs.Tryz.f28.ntmps (fun fr H => finish tab 2 Go.Proofs.Tryz.f28.results.toList win_Sent_out [] fr H some) (fun _ _ _ => none) (fun fr H => finish tab 2 Go.Proofs.Tryz.f28.results.toList win_Sent_out [] fr H some) 10000 [.code (fb Go.Proofs.Tryz.f28)] (instFr win_Sent_in [.i w_cwnd, .i w_slow, .i w_pipe, .i w_count, .i w_halved_n, .b w_halved_is, .i w_last_n, .b w_last_is, .b w_runs, .i w_due, .b w_rtt_any, .i w_rtt_smooth, .i w_rtt_spread, .i w_rtt_rto, .i n2, .i now]) (instH win_Sent_in [.i w_cwnd, .i w_slow, .i w_pipe, .i w_count, .i w_halved_n, .b w_halved_is, .i w_last_n, .b w_last_is, .b w_runs, .i w_due, .b w_rtt_any, .i w_rtt_smooth, .i w_rtt_spread, .i w_rtt_rto, .i n2, .i now]) := by kernel_rfl
def win_Sent_S : List Leaf → Option (List Leaf) := fun ls => un_i ls fun w_cwnd rr => un_i rr fun w_slow rr => un_i rr fun w_pipe rr => un_i rr fun w_count rr => un_i rr fun w_halved_n rr => un_b rr fun w_halved_is rr => un_i rr fun w_last_n rr => un_b rr fun w_last_is rr => un_b rr fun w_runs rr => un_i rr fun w_due rr => un_b rr fun w_rtt_any rr => un_i rr fun w_rtt_smooth rr => un_i rr fun w_rtt_spread rr => un_i rr fun w_rtt_rto rr => un_i rr fun n2 rr => un_i rr fun now rr => un_nil rr (win_Sent w_cwnd w_slow w_pipe w_count w_halved_n w_halved_is w_last_n w_last_is w_runs w_due w_rtt_any w_rtt_smooth w_rtt_spread w_rtt_rto n2 now)
def win_Sent_SC : Tld := fun ls k' => un_i ls fun w_cwnd rr => un_i rr fun w_slow rr => un_i rr fun w_pipe rr => un_i rr fun w_count rr => un_i rr fun w_halved_n rr => un_b rr fun w_halved_is rr => un_i rr fun w_last_n rr => un_b rr fun w_last_is rr => un_b rr fun w_runs rr => un_i rr fun w_due rr => un_b rr fun w_rtt_any rr => un_i rr fun w_rtt_smooth rr => un_i rr fun w_rtt_spread rr => un_i rr fun w_rtt_rto rr => un_i rr fun n2 rr => un_i rr fun now rr => un_nil rr (out (win_Sent w_cwnd w_slow w_pipe w_count w_halved_n w_halved_is w_last_n w_last_is w_runs w_due w_rtt_any w_rtt_smooth w_rtt_spread w_rtt_rto n2 now) k')
theorem win_Sent_Se (w_cwnd : Int) (w_slow : Int) (w_pipe : Int) (w_count : Int) (w_halved_n : Int) (w_halved_is : Bool) (w_last_n : Int) (w_last_is : Bool) (w_runs : Bool) (w_due : Int) (w_rtt_any : Bool) (w_rtt_smooth : Int) (w_rtt_spread : Int) (w_rtt_rto : Int) (n2 : Int) (now : Int) : win_Sent_S [.i w_cwnd, .i w_slow, .i w_pipe, .i w_count, .i w_halved_n, .b w_halved_is, .i w_last_n, .b w_last_is, .b w_runs, .i w_due, .b w_rtt_any, .i w_rtt_smooth, .i w_rtt_spread, .i w_rtt_rto, .i n2, .i now] = win_Sent w_cwnd w_slow w_pipe w_count w_halved_n w_halved_is w_last_n w_last_is w_runs w_due w_rtt_any w_rtt_smooth w_rtt_spread w_rtt_rto n2 now := by
  unfold win_Sent_S
  simp only [un_i_ev, un_b_ev, un_s_ev, un_li_ev, un_lb_ev, un_ls_ev, un_nil_ev]
theorem win_Sent_says : Says win_Sent_SC win_Sent_S := by
  intro β ls' k' r' h'
  unfold win_Sent_SC at h'
  obtain ⟨w_cwnd, l'1, rfl, h'1⟩ := un_i_some.1 h'
  obtain ⟨w_slow, l'2, rfl, h'2⟩ := un_i_some.1 h'1
  obtain ⟨w_pipe, l'3, rfl, h'3⟩ := un_i_some.1 h'2
  obtain ⟨w_count, l'4, rfl, h'4⟩ := un_i_some.1 h'3
  obtain ⟨w_halved_n, l'5, rfl, h'5⟩ := un_i_some.1 h'4
  obtain ⟨w_halved_is, l'6, rfl, h'6⟩ := un_b_some.1 h'5
  obtain ⟨w_last_n, l'7, rfl, h'7⟩ := un_i_some.1 h'6
  obtain ⟨w_last_is, l'8, rfl, h'8⟩ := un_b_some.1 h'7
  obtain ⟨w_runs, l'9, rfl, h'9⟩ := un_b_some.1 h'8
  obtain ⟨w_due, l'10, rfl, h'10⟩ := un_i_some.1 h'9
  obtain ⟨w_rtt_any, l'11, rfl, h'11⟩ := un_b_some.1 h'10
  obtain ⟨w_rtt_smooth, l'12, rfl, h'12⟩ := un_i_some.1 h'11
  obtain ⟨w_rtt_spread, l'13, rfl, h'13⟩ := un_i_some.1 h'12
  obtain ⟨w_rtt_rto, l'14, rfl, h'14⟩ := un_i_some.1 h'13
  obtain ⟨n2, l'15, rfl, h'15⟩ := un_i_some.1 h'14
  obtain ⟨now, l'16, rfl, h'16⟩ := un_i_some.1 h'15
  obtain ⟨rfl, h'Z⟩ := un_nil_some.1 h'16
  obtain ⟨l', a', b'⟩ := out_some.1 h'Z
  exact ⟨l', (win_Sent_Se w_cwnd w_slow w_pipe w_count w_halved_n w_halved_is w_last_n w_last_is w_runs w_due w_rtt_any w_rtt_smooth w_rtt_spread w_rtt_rto n2 now).trans a', b'⟩
theorem win_Sent_c : FnC Go.Proofs.Tryz.prog 28 false 3 2 win_Sent_in win_Sent_out win_Sent_S := by
  refine fn_ok (Λ := win_Sent_Λ) mixed tab_ok g30 Go.Proofs.Tryz.func28 (by kernel_rfl) (body := fb Go.Proofs.Tryz.f28) rfl (ts := Go.Proofs.Tryz.f28.results.toList) rfl (cuts := []) (by kernel_rfl) (Nat.le_of_ble_eq_true (by kernel_rfl)) (by kernel_rfl) (rt := .w (.at (.bool))) rfl ?_ ?_
  · intro ls' r' h'
    unfold win_Sent_S at h'
    obtain ⟨w_cwnd, l'1, rfl, h'1⟩ := un_i_some.1 h'
    obtain ⟨w_slow, l'2, rfl, h'2⟩ := un_i_some.1 h'1
    obtain ⟨w_pipe, l'3, rfl, h'3⟩ := un_i_some.1 h'2
    obtain ⟨w_count, l'4, rfl, h'4⟩ := un_i_some.1 h'3
    obtain ⟨w_halved_n, l'5, rfl, h'5⟩ := un_i_some.1 h'4
    obtain ⟨w_halved_is, l'6, rfl, h'6⟩ := un_b_some.1 h'5
    obtain ⟨w_last_n, l'7, rfl, h'7⟩ := un_i_some.1 h'6
    obtain ⟨w_last_is, l'8, rfl, h'8⟩ := un_b_some.1 h'7
    obtain ⟨w_runs, l'9, rfl, h'9⟩ := un_b_some.1 h'8
    obtain ⟨w_due, l'10, rfl, h'10⟩ := un_i_some.1 h'9
    obtain ⟨w_rtt_any, l'11, rfl, h'11⟩ := un_b_some.1 h'10
    obtain ⟨w_rtt_smooth, l'12, rfl, h'12⟩ := un_i_some.1 h'11
    obtain ⟨w_rtt_spread, l'13, rfl, h'13⟩ := un_i_some.1 h'12
    obtain ⟨w_rtt_rto, l'14, rfl, h'14⟩ := un_i_some.1 h'13
    obtain ⟨n2, l'15, rfl, h'15⟩ := un_i_some.1 h'14
    obtain ⟨now, l'16, rfl, h'16⟩ := un_i_some.1 h'15
    obtain ⟨rfl, h'Z⟩ := un_nil_some.1 h'16
    exact (win_Sent_e w_cwnd w_slow w_pipe w_count w_halved_n w_halved_is w_last_n w_last_is w_runs w_due w_rtt_any w_rtt_smooth w_rtt_spread w_rtt_rto n2 now).symm.trans h'Z
  · intro E w0 ws ρ0 hk b hb
    rw [show loopsOf (fb Go.Proofs.Tryz.f28) = [] by kernel_rfl] at hb
    cases hb
noncomputable def G31 : Env := G30.addE 28 3 win_Sent_in win_Sent_out win_Sent_SC
theorem g31 : EnvOk Go.Proofs.Tryz.prog G31 := EnvOk.addE g30 win_Sent_c win_Sent_says

-- ### win_grow: function 77
def win_grow_in : Tm := ⟨[.cells 113 [.int .i64, .int .i64, .int .i64, .int .i64, .ptr 1 0, .int .u64, .bool, .int .u64, .bool, .bool, .int .i64], .cells 130 [.bool, .int .i64, .int .i64, .int .i64]], [(0, .w (.at (.ptr 0 0))), (1, .w (.at (.int .i64)))]⟩
def win_grow_out : Tm := ⟨[.cells 113 [.int .i64, .int .i64, .int .i64, .int .i64, .ptr 1 0, .int .u64, .bool, .int .u64, .bool, .bool, .int .i64], .cells 130 [.bool, .int .i64, .int .i64, .int .i64]], [(0, .tup [])]⟩
def win_grow_5_T : Tm := ⟨[.cells 113 [.int .i64, .int .i64, .int .i64, .int .i64, .ptr 1 0, .int .u64, .bool, .int .u64, .bool, .bool, .int .i64], .cells 130 [.bool, .int .i64, .int .i64, .int .i64]], [(0, .w (.at (.ptr 0 0)))]⟩
def win_grow_5_X0 : Tm := ⟨[.cells 113 [.int .i64, .int .i64, .int .i64, .int .i64, .ptr 1 0, .int .u64, .bool, .int .u64, .bool, .bool, .int .i64], .cells 130 [.bool, .int .i64, .int .i64, .int .i64]], []⟩
def win_grow_5_X : Exits := [(0, (win_grow_5_X0, []))]
def win_grow_5_R : Tm := ⟨[], []⟩

def win_grow_Λd (L5 : ({β : Type} → (Nat → List Leaf → Option β) → (List Leaf → Option β) → Nat → Int → Int → Int → Int → Int → Bool → Int → Bool → Bool → Int → Bool → Int → Int → Int → Option β)) : Loops := ⟨fun b fr H kx kr => bif Nat.beq (rid b) 5 then loopE 2 win_grow_5_T [] win_grow_5_X win_grow_5_R (win_grow_5_F @L5 top) fr H kx kr else none⟩
def win_grow_Λ : Loops := win_grow_Λd @win_grow_5_L
theorem win_grow_5_e (L5 : ({β : Type} → (Nat → List Leaf → Option β) → (List Leaf → Option β) → Nat → Int → Int → Int → Int → Int → Bool → Int → Bool → Bool → Int → Bool → Int → Int → Int → Option β)) {α : Type} (kx : Nat → List Leaf → Option α) (kr : List Leaf → Option α) (again : Int → Int → Int → Int → Int → Bool → Int → Bool → Bool → Int → Bool → Int → Int → Int → Option α) (w_cwnd : Int) (w_slow : Int) (w_pipe : Int) (w_count : Int) (w_halved_n : Int) (w_halved_is : Bool) (w_last_n : Int) (w_last_is : Bool) (w_runs : Bool) (w_due : Int) (w_rtt_any : Bool) (w_rtt_smooth : Int) (w_rtt_spread : Int) (w_rtt_rto : Int) : win_grow_5_B  kx kr again w_cwnd w_slow w_pipe w_count w_halved_n w_halved_is w_last_n w_last_is w_runs w_due w_rtt_any w_rtt_smooth w_rtt_spread w_rtt_rto = loopB G31 (win_grow_Λd @L5) false tab Go.Proofs.Tryz.f77.ntmps 2 win_grow_5_T [] win_grow_5_X win_grow_5_R (bodyAt (fb Go.Proofs.Tryz.f77) 0) (fun ls => un_i ls fun w_cwnd rr => un_i rr fun w_slow rr => un_i rr fun w_pipe rr => un_i rr fun w_count rr => un_i rr fun w_halved_n rr => un_b rr fun w_halved_is rr => un_i rr fun w_last_n rr => un_b rr fun w_last_is rr => un_b rr fun w_runs rr => un_i rr fun w_due rr => un_b rr fun w_rtt_any rr => un_i rr fun w_rtt_smooth rr => un_i rr fun w_rtt_spread rr => un_i rr fun w_rtt_rto rr => un_nil rr (again w_cwnd w_slow w_pipe w_count w_halved_n w_halved_is w_last_n w_last_is w_runs w_due w_rtt_any w_rtt_smooth w_rtt_spread w_rtt_rto)) kx kr (instFr win_grow_5_T [.i w_cwnd, .i w_slow, .i w_pipe, .i w_count, .i w_halved_n, .b w_halved_is, .i w_last_n, .b w_last_is, .b w_runs, .i w_due, .b w_rtt_any, .i w_rtt_smooth, .i w_rtt_spread, .i w_rtt_rto]) (instH win_grow_5_T [.i w_cwnd, .i w_slow, .i w_pipe, .i w_count, .i w_halved_n, .b w_halved_is, .i w_last_n, .b w_last_is, .b w_runs, .i w_due, .b w_rtt_any, .i w_rtt_smooth, .i w_rtt_spread, .i w_rtt_rto]) := by kernel_rfl
theorem win_grow_5_lok (E : Nat → Prop) (w0 ws : World) (ρ0 : List Pl) (hk : ρ0.length = 2) : LOk Go.Proofs.Tryz.prog 77 Go.Proofs.Tryz.f77 false E w0 ws Go.Proofs.Tryz.f77.ntmps ρ0 win_grow_Λ (bodyAt (fb Go.Proofs.Tryz.f77) 0) := by
  refine lok mixed tab_ok g31 Go.Proofs.Tryz.func77 hk (T := win_grow_5_T) (rt := win_grow_5_R) (cuts := []) (ex := win_grow_5_X) (top := top) (F := win_grow_5_F @win_grow_5_L) (fun fr H kx kr => by kernel_rfl) ?_ ?_ ?_
  · intro α ls' kx' kr' r' h'
    unfold win_grow_5_F at h'
    obtain ⟨w_cwnd, l'1, rfl, h'1⟩ := un_i_some.1 h'
    obtain ⟨w_slow, l'2, rfl, h'2⟩ := un_i_some.1 h'1
    obtain ⟨w_pipe, l'3, rfl, h'3⟩ := un_i_some.1 h'2
    obtain ⟨w_count, l'4, rfl, h'4⟩ := un_i_some.1 h'3
    obtain ⟨w_halved_n, l'5, rfl, h'5⟩ := un_i_some.1 h'4
    obtain ⟨w_halved_is, l'6, rfl, h'6⟩ := un_b_some.1 h'5
    obtain ⟨w_last_n, l'7, rfl, h'7⟩ := un_i_some.1 h'6
    obtain ⟨w_last_is, l'8, rfl, h'8⟩ := un_b_some.1 h'7
    obtain ⟨w_runs, l'9, rfl, h'9⟩ := un_b_some.1 h'8
    obtain ⟨w_due, l'10, rfl, h'10⟩ := un_i_some.1 h'9
    obtain ⟨w_rtt_any, l'11, rfl, h'11⟩ := un_b_some.1 h'10
    obtain ⟨w_rtt_smooth, l'12, rfl, h'12⟩ := un_i_some.1 h'11
    obtain ⟨w_rtt_spread, l'13, rfl, h'13⟩ := un_i_some.1 h'12
    obtain ⟨w_rtt_rto, l'14, rfl, h'14⟩ := un_i_some.1 h'13
    obtain ⟨rfl, h'Z⟩ := un_nil_some.1 h'14
    cases h'Z
  · intro α n' ls' kx' kr' r' h'
    unfold win_grow_5_F at h'
    obtain ⟨w_cwnd, l'1, rfl, h'1⟩ := un_i_some.1 h'
    obtain ⟨w_slow, l'2, rfl, h'2⟩ := un_i_some.1 h'1
    obtain ⟨w_pipe, l'3, rfl, h'3⟩ := un_i_some.1 h'2
    obtain ⟨w_count, l'4, rfl, h'4⟩ := un_i_some.1 h'3
    obtain ⟨w_halved_n, l'5, rfl, h'5⟩ := un_i_some.1 h'4
    obtain ⟨w_halved_is, l'6, rfl, h'6⟩ := un_b_some.1 h'5
    obtain ⟨w_last_n, l'7, rfl, h'7⟩ := un_i_some.1 h'6
    obtain ⟨w_last_is, l'8, rfl, h'8⟩ := un_b_some.1 h'7
    obtain ⟨w_runs, l'9, rfl, h'9⟩ := un_b_some.1 h'8
    obtain ⟨w_due, l'10, rfl, h'10⟩ := un_i_some.1 h'9
    obtain ⟨w_rtt_any, l'11, rfl, h'11⟩ := un_b_some.1 h'10
    obtain ⟨w_rtt_smooth, l'12, rfl, h'12⟩ := un_i_some.1 h'11
    obtain ⟨w_rtt_spread, l'13, rfl, h'13⟩ := un_i_some.1 h'12
    obtain ⟨w_rtt_rto, l'14, rfl, h'14⟩ := un_i_some.1 h'13
    obtain ⟨rfl, h'Z⟩ := un_nil_some.1 h'14
    exact (win_grow_5_e @win_grow_5_L kx' kr' (win_grow_5_L kx' kr' n') w_cwnd w_slow w_pipe w_count w_halved_n w_halved_is w_last_n w_last_is w_runs w_due w_rtt_any w_rtt_smooth w_rtt_spread w_rtt_rto).symm.trans h'Z
  · intro b' hb
    rw [show loopsOf (bodyAt (fb Go.Proofs.Tryz.f77) 0) = [] by kernel_rfl] at hb
    cases hb
theorem win_grow_ed (L5 : ({β : Type} → (Nat → List Leaf → Option β) → (List Leaf → Option β) → Nat → Int → Int → Int → Int → Int → Bool → Int → Bool → Bool → Int → Bool → Int → Int → Int → Option β)) (w_cwnd : Int) (w_slow : Int) (w_pipe : Int) (w_count : Int) (w_halved_n : Int) (w_halved_is : Bool) (w_last_n : Int) (w_last_is : Bool) (w_runs : Bool) (w_due : Int) (w_rtt_any : Bool) (w_rtt_smooth : Int) (w_rtt_spread : Int) (w_rtt_rto : Int) (n2 : Int) : win_grow_d @L5 w_cwnd w_slow w_pipe w_count w_halved_n w_halved_is w_last_n w_last_is w_runs w_due w_rtt_any w_rtt_smooth w_rtt_spread w_rtt_rto n2 = den G31 (win_grow_Λd @L5) false tab Go.Proofs.Tryz.f77.ntmps (fun fr H => finish tab 2 Go.Proofs.Tryz.f77.results.toList win_grow_out [] fr H some) (fun _ _ _ => none) (fun fr H => finish tab 2 Go.Proofs.Tryz.f77.results.toList win_grow_out [] fr H some) 10000 [.code (fb Go.Proofs.Tryz.f77)] (instFr win_grow_in [.i w_cwnd, .i w_slow, .i w_pipe, .i w_count, .i w_halved_n, .b w_halved_is, .i w_last_n, .b w_last_is, .b w_runs, .i w_due, .b w_rtt_any, .i w_rtt_smooth, .i w_rtt_spread, .i w_rtt_rto, .i n2]) (instH win_grow_in [.i w_cwnd, .i w_slow, .i w_pipe, .i w_count, .i w_halved_n, .b w_halved_is, .i w_last_n, .b w_last_is, .b w_runs, .i w_due, .b w_rtt_any, .i w_rtt_smooth, .i w_rtt_spread, .i w_rtt_rto, .i n2]) := by kernel_rfl
theorem win_grow_e (w_cwnd : Int) (w_slow : Int) (w_pipe : Int) (w_count : Int) (w_halved_n : Int) (w_halved_is : Bool) (w_last_n : Int) (w_last_is : Bool) (w_runs : Bool) (w_due : Int) (w_rtt_any : Bool) (w_rtt_smooth : Int) (w_rtt_spread : Int) (w_rtt_rto : Int) (n2 : Int) : win_grow w_cwnd w_slow w_pipe w_count w_halved_n w_halved_is w_last_n w_last_is w_runs w_due w_rtt_any w_rtt_smooth w_rtt_spread w_rtt_rto n2 = den G31 win_grow_Λ false tab Go.Proofs.Tryz.f77.ntmps (fun fr H => finish tab 2 Go.Proofs.Tryz.f77.results.toList win_grow_out [] fr H some) (fun _ _ _ => none) (fun fr H => finish tab 2 Go.Proofs.Tryz.f77.results.toList win_grow_out [] fr H some) 10000 [.code (fb Go.Proofs.Tryz.f77)] (instFr win_grow_in [.i w_cwnd, .i w_slow, .i w_pipe, .i w_count, .i w_halved_n, .b w_halved_is, .i w_last_n, .b w_last_is, .b w_runs, .i w_due, .b w_rtt_any, .i w_rtt_smooth, .i w_rtt_spread, .i w_rtt_rto, .i n2]) (instH win_grow_in [.i w_cwnd, .i w_slow, .i w_pipe, .i w_count, .i w_halved_n, .b w_halved_is, .i w_last_n, .b w_last_is, .b w_runs, .i w_due, .b w_rtt_any, .i w_rtt_smooth, .i w_rtt_spread, .i w_rtt_rto, .i n2]) := win_grow_ed @win_grow_5_L w_cwnd w_slow w_pipe w_count w_halved_n w_halved_is w_last_n w_last_is w_runs w_due w_rtt_any w_rtt_smooth w_rtt_spread w_rtt_rto n2
def win_grow_S : List Leaf → Option (List Leaf) := fun ls => un_i ls fun w_cwnd rr => un_i rr fun w_slow rr => un_i rr fun w_pipe rr => un_i rr fun w_count rr => un_i rr fun w_halved_n rr => un_b rr fun w_halved_is rr => un_i rr fun w_last_n rr => un_b rr fun w_last_is rr => un_b rr fun w_runs rr => un_i rr fun w_due rr => un_b rr fun w_rtt_any rr => un_i rr fun w_rtt_smooth rr => un_i rr fun w_rtt_spread rr => un_i rr fun w_rtt_rto rr => un_i rr fun n2 rr => un_nil rr (win_grow w_cwnd w_slow w_pipe w_count w_halved_n w_halved_is w_last_n w_last_is w_runs w_due w_rtt_any w_rtt_smooth w_rtt_spread w_rtt_rto n2)
def win_grow_SC : Tld := fun ls k' => un_i ls fun w_cwnd rr => un_i rr fun w_slow rr => un_i rr fun w_pipe rr => un_i rr fun w_count rr => un_i rr fun w_halved_n rr => un_b rr fun w_halved_is rr => un_i rr fun w_last_n rr => un_b rr fun w_last_is rr => un_b rr fun w_runs rr => un_i rr fun w_due rr => un_b rr fun w_rtt_any rr => un_i rr fun w_rtt_smooth rr => un_i rr fun w_rtt_spread rr => un_i rr fun w_rtt_rto rr => un_i rr fun n2 rr => un_nil rr (out (win_grow w_cwnd w_slow w_pipe w_count w_halved_n w_halved_is w_last_n w_last_is w_runs w_due w_rtt_any w_rtt_smooth w_rtt_spread w_rtt_rto n2) k')
theorem win_grow_Se (w_cwnd : Int) (w_slow : Int) (w_pipe : Int) (w_count : Int) (w_halved_n : Int) (w_halved_is : Bool) (w_last_n : Int) (w_last_is : Bool) (w_runs : Bool) (w_due : Int) (w_rtt_any : Bool) (w_rtt_smooth : Int) (w_rtt_spread : Int) (w_rtt_rto : Int) (n2 : Int) : win_grow_S [.i w_cwnd, .i w_slow, .i w_pipe, .i w_count, .i w_halved_n, .b w_halved_is, .i w_last_n, .b w_last_is, .b w_runs, .i w_due, .b w_rtt_any, .i w_rtt_smooth, .i w_rtt_spread, .i w_rtt_rto, .i n2] = win_grow w_cwnd w_slow w_pipe w_count w_halved_n w_halved_is w_last_n w_last_is w_runs w_due w_rtt_any w_rtt_smooth w_rtt_spread w_rtt_rto n2 := by
  unfold win_grow_S
  simp only [un_i_ev, un_b_ev, un_s_ev, un_li_ev, un_lb_ev, un_ls_ev, un_nil_ev]
theorem win_grow_says : Says win_grow_SC win_grow_S := by
  intro β ls' k' r' h'
  unfold win_grow_SC at h'
  obtain ⟨w_cwnd, l'1, rfl, h'1⟩ := un_i_some.1 h'
  obtain ⟨w_slow, l'2, rfl, h'2⟩ := un_i_some.1 h'1
  obtain ⟨w_pipe, l'3, rfl, h'3⟩ := un_i_some.1 h'2
  obtain ⟨w_count, l'4, rfl, h'4⟩ := un_i_some.1 h'3
  obtain ⟨w_halved_n, l'5, rfl, h'5⟩ := un_i_some.1 h'4
  obtain ⟨w_halved_is, l'6, rfl, h'6⟩ := un_b_some.1 h'5
  obtain ⟨w_last_n, l'7, rfl, h'7⟩ := un_i_some.1 h'6
  obtain ⟨w_last_is, l'8, rfl, h'8⟩ := un_b_some.1 h'7
  obtain ⟨w_runs, l'9, rfl, h'9⟩ := un_b_some.1 h'8
  obtain ⟨w_due, l'10, rfl, h'10⟩ := un_i_some.1 h'9
  obtain ⟨w_rtt_any, l'11, rfl, h'11⟩ := un_b_some.1 h'10
  obtain ⟨w_rtt_smooth, l'12, rfl, h'12⟩ := un_i_some.1 h'11
  obtain ⟨w_rtt_spread, l'13, rfl, h'13⟩ := un_i_some.1 h'12
  obtain ⟨w_rtt_rto, l'14, rfl, h'14⟩ := un_i_some.1 h'13
  obtain ⟨n2, l'15, rfl, h'15⟩ := un_i_some.1 h'14
  obtain ⟨rfl, h'Z⟩ := un_nil_some.1 h'15
  obtain ⟨l', a', b'⟩ := out_some.1 h'Z
  exact ⟨l', (win_grow_Se w_cwnd w_slow w_pipe w_count w_halved_n w_halved_is w_last_n w_last_is w_runs w_due w_rtt_any w_rtt_smooth w_rtt_spread w_rtt_rto n2).trans a', b'⟩
theorem win_grow_c : FnC Go.Proofs.Tryz.prog 77 false 2 2 win_grow_in win_grow_out win_grow_S := by
  refine fn_ok (Λ := win_grow_Λ) mixed tab_ok g31 Go.Proofs.Tryz.func77 (by kernel_rfl) (body := fb Go.Proofs.Tryz.f77) rfl (ts := Go.Proofs.Tryz.f77.results.toList) rfl (cuts := []) (by kernel_rfl) (Nat.le_of_ble_eq_true (by kernel_rfl)) (by kernel_rfl) (rt := .tup []) rfl ?_ ?_
  · intro ls' r' h'
    unfold win_grow_S at h'
    obtain ⟨w_cwnd, l'1, rfl, h'1⟩ := un_i_some.1 h'
    obtain ⟨w_slow, l'2, rfl, h'2⟩ := un_i_some.1 h'1
    obtain ⟨w_pipe, l'3, rfl, h'3⟩ := un_i_some.1 h'2
    obtain ⟨w_count, l'4, rfl, h'4⟩ := un_i_some.1 h'3
    obtain ⟨w_halved_n, l'5, rfl, h'5⟩ := un_i_some.1 h'4
    obtain ⟨w_halved_is, l'6, rfl, h'6⟩ := un_b_some.1 h'5
    obtain ⟨w_last_n, l'7, rfl, h'7⟩ := un_i_some.1 h'6
    obtain ⟨w_last_is, l'8, rfl, h'8⟩ := un_b_some.1 h'7
    obtain ⟨w_runs, l'9, rfl, h'9⟩ := un_b_some.1 h'8
    obtain ⟨w_due, l'10, rfl, h'10⟩ := un_i_some.1 h'9
    obtain ⟨w_rtt_any, l'11, rfl, h'11⟩ := un_b_some.1 h'10
    obtain ⟨w_rtt_smooth, l'12, rfl, h'12⟩ := un_i_some.1 h'11
    obtain ⟨w_rtt_spread, l'13, rfl, h'13⟩ := un_i_some.1 h'12
    obtain ⟨w_rtt_rto, l'14, rfl, h'14⟩ := un_i_some.1 h'13
    obtain ⟨n2, l'15, rfl, h'15⟩ := un_i_some.1 h'14
    obtain ⟨rfl, h'Z⟩ := un_nil_some.1 h'15
    exact (win_grow_e w_cwnd w_slow w_pipe w_count w_halved_n w_halved_is w_last_n w_last_is w_runs w_due w_rtt_any w_rtt_smooth w_rtt_spread w_rtt_rto n2).symm.trans h'Z
  · intro E w0 ws ρ0 hk b hb
    rw [show loopsOf (fb Go.Proofs.Tryz.f77) = [(bodyAt (fb Go.Proofs.Tryz.f77) 0)] by kernel_rfl] at hb
    simp only [List.mem_cons, List.mem_nil_iff, or_false] at hb
    rcases hb with rfl
    · exact win_grow_5_lok E w0 ws ρ0 hk
noncomputable def G32 : Env := G31.addE 77 2 win_grow_in win_grow_out win_grow_SC
theorem g32 : EnvOk Go.Proofs.Tryz.prog G32 := EnvOk.addE g31 win_grow_c win_grow_says

-- ### win_halve: function 79
def win_halve_in : Tm := ⟨[.cells 113 [.int .i64, .int .i64, .int .i64, .int .i64, .ptr 1 0, .int .u64, .bool, .int .u64, .bool, .bool, .int .i64], .cells 130 [.bool, .int .i64, .int .i64, .int .i64]], [(0, .w (.at (.ptr 0 0)))]⟩
def win_halve_out : Tm := ⟨[.cells 113 [.int .i64, .int .i64, .int .i64, .int .i64, .ptr 1 0, .int .u64, .bool, .int .u64, .bool, .bool, .int .i64], .cells 130 [.bool, .int .i64, .int .i64, .int .i64]], [(0, .tup [])]⟩

def win_halve_Λd : Loops := Loops.none
def win_halve_Λ : Loops := win_halve_Λd 

theorem win_halve_e (w_cwnd : Int) (w_slow : Int) (w_pipe : Int) (w_count : Int) (w_halved_n : Int) (w_halved_is : Bool) (w_last_n : Int) (w_last_is : Bool) (w_runs : Bool) (w_due : Int) (w_rtt_any : Bool) (w_rtt_smooth : Int) (w_rtt_spread : Int) (w_rtt_rto : Int) : win_halve w_cwnd w_slow w_pipe w_count w_halved_n w_halved_is w_last_n w_last_is w_runs w_due w_rtt_any w_rtt_smooth w_rtt_spread w_rtt_rto = den G32 win_halve_Λ false tab Go.Proofs.Tryz.f79.ntmps (fun fr H => finish tab 2 Go.Proofs.Tryz.f79.results.toList win_halve_out [] fr H some) (fun _ _ _ => none) (fun fr H => finish tab 2 Go.Proofs.Tryz.f79.results.toList win_halve_out [] fr H some) 10000 [.code (fb Go.Proofs.Tryz.f79)] (instFr win_halve_in [.i w_cwnd, .i w_slow, .i w_pipe, .i w_count, .i w_halved_n, .b w_halved_is, .i w_last_n, .b w_last_is, .b w_runs, .i w_due, .b w_rtt_any, .i w_rtt_smooth, .i w_rtt_spread, .i w_rtt_rto]) (instH win_halve_in [.i w_cwnd, .i w_slow, .i w_pipe, .i w_count, .i w_halved_n, .b w_halved_is, .i w_last_n, .b w_last_is, .b w_runs, .i w_due, .b w_rtt_any, .i w_rtt_smooth, .i w_rtt_spread, .i w_rtt_rto]) := by kernel_rfl
def win_halve_S : List Leaf → Option (List Leaf) := fun ls => un_i ls fun w_cwnd rr => un_i rr fun w_slow rr => un_i rr fun w_pipe rr => un_i rr fun w_count rr => un_i rr fun w_halved_n rr => un_b rr fun w_halved_is rr => un_i rr fun w_last_n rr => un_b rr fun w_last_is rr => un_b rr fun w_runs rr => un_i rr fun w_due rr => un_b rr fun w_rtt_any rr => un_i rr fun w_rtt_smooth rr => un_i rr fun w_rtt_spread rr => un_i rr fun w_rtt_rto rr => un_nil rr (win_halve w_cwnd w_slow w_pipe w_count w_halved_n w_halved_is w_last_n w_last_is w_runs w_due w_rtt_any w_rtt_smooth w_rtt_spread w_rtt_rto)
def win_halve_SC : Tld := fun ls k' => un_i ls fun w_cwnd rr => un_i rr fun w_slow rr => un_i rr fun w_pipe rr => un_i rr fun w_count rr => un_i rr fun w_halved_n rr => un_b rr fun w_halved_is rr => un_i rr fun w_last_n rr => un_b rr fun w_last_is rr => un_b rr fun w_runs rr => un_i rr fun w_due rr => un_b rr fun w_rtt_any rr => un_i rr fun w_rtt_smooth rr => un_i rr fun w_rtt_spread rr => un_i rr fun w_rtt_rto rr => un_nil rr (out (win_halve w_cwnd w_slow w_pipe w_count w_halved_n w_halved_is w_last_n w_last_is w_runs w_due w_rtt_any w_rtt_smooth w_rtt_spread w_rtt_rto) k')
theorem win_halve_Se (w_cwnd : Int) (w_slow : Int) (w_pipe : Int) (w_count : Int) (w_halved_n : Int) (w_halved_is : Bool) (w_last_n : Int) (w_last_is : Bool) (w_runs : Bool) (w_due : Int) (w_rtt_any : Bool) (w_rtt_smooth : Int) (w_rtt_spread : Int) (w_rtt_rto : Int) : win_halve_S [.i w_cwnd, .i w_slow, .i w_pipe, .i w_count, .i w_halved_n, .b w_halved_is, .i w_last_n, .b w_last_is, .b w_runs, .i w_due, .b w_rtt_any, .i w_rtt_smooth, .i w_rtt_spread, .i w_rtt_rto] = win_halve w_cwnd w_slow w_pipe w_count w_halved_n w_halved_is w_last_n w_last_is w_runs w_due w_rtt_any w_rtt_smooth w_rtt_spread w_rtt_rto := by
  unfold win_halve_S
  simp only [un_i_ev, un_b_ev, un_s_ev, un_li_ev, un_lb_ev, un_ls_ev, un_nil_ev]
theorem win_halve_says : Says win_halve_SC win_halve_S := by
  intro β ls' k' r' h'
  unfold win_halve_SC at h'
  obtain ⟨w_cwnd, l'1, rfl, h'1⟩ := un_i_some.1 h'
  obtain ⟨w_slow, l'2, rfl, h'2⟩ := un_i_some.1 h'1
  obtain ⟨w_pipe, l'3, rfl, h'3⟩ := un_i_some.1 h'2
  obtain ⟨w_count, l'4, rfl, h'4⟩ := un_i_some.1 h'3
  obtain ⟨w_halved_n, l'5, rfl, h'5⟩ := un_i_some.1 h'4
  obtain ⟨w_halved_is, l'6, rfl, h'6⟩ := un_b_some.1 h'5
  obtain ⟨w_last_n, l'7, rfl, h'7⟩ := un_i_some.1 h'6
  obtain ⟨w_last_is, l'8, rfl, h'8⟩ := un_b_some.1 h'7
  obtain ⟨w_runs, l'9, rfl, h'9⟩ := un_b_some.1 h'8
  obtain ⟨w_due, l'10, rfl, h'10⟩ := un_i_some.1 h'9
  obtain ⟨w_rtt_any, l'11, rfl, h'11⟩ := un_b_some.1 h'10
  obtain ⟨w_rtt_smooth, l'12, rfl, h'12⟩ := un_i_some.1 h'11
  obtain ⟨w_rtt_spread, l'13, rfl, h'13⟩ := un_i_some.1 h'12
  obtain ⟨w_rtt_rto, l'14, rfl, h'14⟩ := un_i_some.1 h'13
  obtain ⟨rfl, h'Z⟩ := un_nil_some.1 h'14
  obtain ⟨l', a', b'⟩ := out_some.1 h'Z
  exact ⟨l', (win_halve_Se w_cwnd w_slow w_pipe w_count w_halved_n w_halved_is w_last_n w_last_is w_runs w_due w_rtt_any w_rtt_smooth w_rtt_spread w_rtt_rto).trans a', b'⟩
theorem win_halve_c : FnC Go.Proofs.Tryz.prog 79 false 1 2 win_halve_in win_halve_out win_halve_S := by
  refine fn_ok (Λ := win_halve_Λ) mixed tab_ok g32 Go.Proofs.Tryz.func79 (by kernel_rfl) (body := fb Go.Proofs.Tryz.f79) rfl (ts := Go.Proofs.Tryz.f79.results.toList) rfl (cuts := []) (by kernel_rfl) (Nat.le_of_ble_eq_true (by kernel_rfl)) (by kernel_rfl) (rt := .tup []) rfl ?_ ?_
  · intro ls' r' h'
    unfold win_halve_S at h'
    obtain ⟨w_cwnd, l'1, rfl, h'1⟩ := un_i_some.1 h'
    obtain ⟨w_slow, l'2, rfl, h'2⟩ := un_i_some.1 h'1
    obtain ⟨w_pipe, l'3, rfl, h'3⟩ := un_i_some.1 h'2
    obtain ⟨w_count, l'4, rfl, h'4⟩ := un_i_some.1 h'3
    obtain ⟨w_halved_n, l'5, rfl, h'5⟩ := un_i_some.1 h'4
    obtain ⟨w_halved_is, l'6, rfl, h'6⟩ := un_b_some.1 h'5
    obtain ⟨w_last_n, l'7, rfl, h'7⟩ := un_i_some.1 h'6
    obtain ⟨w_last_is, l'8, rfl, h'8⟩ := un_b_some.1 h'7
    obtain ⟨w_runs, l'9, rfl, h'9⟩ := un_b_some.1 h'8
    obtain ⟨w_due, l'10, rfl, h'10⟩ := un_i_some.1 h'9
    obtain ⟨w_rtt_any, l'11, rfl, h'11⟩ := un_b_some.1 h'10
    obtain ⟨w_rtt_smooth, l'12, rfl, h'12⟩ := un_i_some.1 h'11
    obtain ⟨w_rtt_spread, l'13, rfl, h'13⟩ := un_i_some.1 h'12
    obtain ⟨w_rtt_rto, l'14, rfl, h'14⟩ := un_i_some.1 h'13
    obtain ⟨rfl, h'Z⟩ := un_nil_some.1 h'14
    exact (win_halve_e w_cwnd w_slow w_pipe w_count w_halved_n w_halved_is w_last_n w_last_is w_runs w_due w_rtt_any w_rtt_smooth w_rtt_spread w_rtt_rto).symm.trans h'Z
  · intro E w0 ws ρ0 hk b hb
    rw [show loopsOf (fb Go.Proofs.Tryz.f79) = [] by kernel_rfl] at hb
    cases hb
noncomputable def G33 : Env := G32.addE 79 1 win_halve_in win_halve_out win_halve_SC
theorem g33 : EnvOk Go.Proofs.Tryz.prog G33 := EnvOk.addE g32 win_halve_c win_halve_says

-- ### win_where: function 78
def win_where_in : Tm := ⟨[.ro 22 1 [.int .u64], .ro 22 1 [.int .u64], .ro 22 1 [.int .u64]], [(0, .w (.agg [.all 0 1, .all 1 1, .all 2 1, .int .i64, .int .i64]))]⟩
def win_where_out : Tm := ⟨[.dead, .dead, .dead], [(0, .w (.agg [.int .u64, .bool]))]⟩

noncomputable def win_where_Λd  : Loops := ⟨fun b fr H kx kr => bif Nat.beq (rid b) 6 then (unrollL G33 false tab Go.Proofs.Tryz.f78.ntmps 3).loop b fr H kx kr else none⟩
noncomputable def win_where_Λ : Loops := win_where_Λd 

theorem win_where_6_lok (E : Nat → Prop) (w0 ws : World) (ρ0 : List Pl) (hk : ρ0.length = 3) : LOk Go.Proofs.Tryz.prog 78 Go.Proofs.Tryz.f78 false E w0 ws Go.Proofs.Tryz.f78.ntmps ρ0 win_where_Λ (bodyAt (fb Go.Proofs.Tryz.f78) 0) :=
  fun kx kr r ρ H fr a w h => unroll_ok mixed tab_ok g33 Go.Proofs.Tryz.func78 3 (bodyAt (fb Go.Proofs.Tryz.f78) 0) kx kr r ρ H fr a w ((by kernel_rfl : win_where_Λ.loop (bodyAt (fb Go.Proofs.Tryz.f78) 0) fr H kx kr = (unrollL G33 false tab Go.Proofs.Tryz.f78.ntmps 3).loop (bodyAt (fb Go.Proofs.Tryz.f78) 0) fr H kx kr) ▸ h)
theorem win_where_e (h_Got : List Int) (h_Late : List Int) (h_Lost : List Int) (h_Marks : Int) (h_Rtt : Int) : win_where h_Got h_Late h_Lost h_Marks h_Rtt = den G33 win_where_Λ false tab Go.Proofs.Tryz.f78.ntmps (fun fr H => finish tab 3 Go.Proofs.Tryz.f78.results.toList win_where_out [] fr H some) (fun _ _ _ => none) (fun fr H => finish tab 3 Go.Proofs.Tryz.f78.results.toList win_where_out [] fr H some) 10000 [.code (fb Go.Proofs.Tryz.f78)] (instFr win_where_in [.li h_Got, .li h_Late, .li h_Lost, .i h_Marks, .i h_Rtt]) (instH win_where_in [.li h_Got, .li h_Late, .li h_Lost, .i h_Marks, .i h_Rtt]) := by kernel_rfl
def win_where_S : List Leaf → Option (List Leaf) := fun ls => un_li ls fun h_Got rr => un_li rr fun h_Late rr => un_li rr fun h_Lost rr => un_i rr fun h_Marks rr => un_i rr fun h_Rtt rr => un_nil rr (win_where h_Got h_Late h_Lost h_Marks h_Rtt)
def win_where_SC : Tld := fun ls k' => un_li ls fun h_Got rr => un_li rr fun h_Late rr => un_li rr fun h_Lost rr => un_i rr fun h_Marks rr => un_i rr fun h_Rtt rr => un_nil rr (out (win_where h_Got h_Late h_Lost h_Marks h_Rtt) k')
theorem win_where_Se (h_Got : List Int) (h_Late : List Int) (h_Lost : List Int) (h_Marks : Int) (h_Rtt : Int) : win_where_S [.li h_Got, .li h_Late, .li h_Lost, .i h_Marks, .i h_Rtt] = win_where h_Got h_Late h_Lost h_Marks h_Rtt := by
  unfold win_where_S
  simp only [un_i_ev, un_b_ev, un_s_ev, un_li_ev, un_lb_ev, un_ls_ev, un_nil_ev]
theorem win_where_says : Says win_where_SC win_where_S := by
  intro β ls' k' r' h'
  unfold win_where_SC at h'
  obtain ⟨h_Got, l'1, rfl, h'1⟩ := un_li_some.1 h'
  obtain ⟨h_Late, l'2, rfl, h'2⟩ := un_li_some.1 h'1
  obtain ⟨h_Lost, l'3, rfl, h'3⟩ := un_li_some.1 h'2
  obtain ⟨h_Marks, l'4, rfl, h'4⟩ := un_i_some.1 h'3
  obtain ⟨h_Rtt, l'5, rfl, h'5⟩ := un_i_some.1 h'4
  obtain ⟨rfl, h'Z⟩ := un_nil_some.1 h'5
  obtain ⟨l', a', b'⟩ := out_some.1 h'Z
  exact ⟨l', (win_where_Se h_Got h_Late h_Lost h_Marks h_Rtt).trans a', b'⟩
theorem win_where_c : FnC Go.Proofs.Tryz.prog 78 false 1 3 win_where_in win_where_out win_where_S := by
  refine fn_ok (Λ := win_where_Λ) mixed tab_ok g33 Go.Proofs.Tryz.func78 (by kernel_rfl) (body := fb Go.Proofs.Tryz.f78) rfl (ts := Go.Proofs.Tryz.f78.results.toList) rfl (cuts := []) (by kernel_rfl) (Nat.le_of_ble_eq_true (by kernel_rfl)) (by kernel_rfl) (rt := .w (.agg [.int .u64, .bool])) rfl ?_ ?_
  · intro ls' r' h'
    unfold win_where_S at h'
    obtain ⟨h_Got, l'1, rfl, h'1⟩ := un_li_some.1 h'
    obtain ⟨h_Late, l'2, rfl, h'2⟩ := un_li_some.1 h'1
    obtain ⟨h_Lost, l'3, rfl, h'3⟩ := un_li_some.1 h'2
    obtain ⟨h_Marks, l'4, rfl, h'4⟩ := un_i_some.1 h'3
    obtain ⟨h_Rtt, l'5, rfl, h'5⟩ := un_i_some.1 h'4
    obtain ⟨rfl, h'Z⟩ := un_nil_some.1 h'5
    exact (win_where_e h_Got h_Late h_Lost h_Marks h_Rtt).symm.trans h'Z
  · intro E w0 ws ρ0 hk b hb
    rw [show loopsOf (fb Go.Proofs.Tryz.f78) = [(bodyAt (fb Go.Proofs.Tryz.f78) 0)] by kernel_rfl] at hb
    simp only [List.mem_cons, List.mem_nil_iff, or_false] at hb
    rcases hb with rfl
    · exact win_where_6_lok E w0 ws ρ0 hk
noncomputable def G34 : Env := G33.addE 78 1 win_where_in win_where_out win_where_SC
theorem g34 : EnvOk Go.Proofs.Tryz.prog G34 := EnvOk.addE g33 win_where_c win_where_says

-- ### win_Hear: function 31
def win_Hear_in : Tm := ⟨[.cells 113 [.int .i64, .int .i64, .int .i64, .int .i64, .ptr 1 0, .int .u64, .bool, .int .u64, .bool, .bool, .int .i64], .cells 130 [.bool, .int .i64, .int .i64, .int .i64], .ro 22 1 [.int .u64], .ro 22 1 [.int .u64], .ro 22 1 [.int .u64]], [(0, .w (.at (.ptr 0 0))), (1, .w (.agg [.all 2 1, .all 3 1, .all 4 1, .int .i64, .int .i64])), (2, .w (.at (.int .i64)))]⟩
def win_Hear_out : Tm := ⟨[.cells 113 [.int .i64, .int .i64, .int .i64, .int .i64, .ptr 1 0, .int .u64, .bool, .int .u64, .bool, .bool, .int .i64], .cells 130 [.bool, .int .i64, .int .i64, .int .i64], .dead, .dead, .dead], [(0, .tup [])]⟩

def win_Hear_Λd : Loops := Loops.none
def win_Hear_Λ : Loops := win_Hear_Λd 

theorem win_Hear_e (h_Got : List Int) (h_Late : List Int) (h_Lost : List Int) (w_cwnd : Int) (w_slow : Int) (w_pipe : Int) (w_count : Int) (w_halved_n : Int) (w_halved_is : Bool) (w_last_n : Int) (w_last_is : Bool) (w_runs : Bool) (w_due : Int) (w_rtt_any : Bool) (w_rtt_smooth : Int) (w_rtt_spread : Int) (w_rtt_rto : Int) (h_Marks : Int) (h_Rtt : Int) (now : Int) : win_Hear h_Got h_Late h_Lost w_cwnd w_slow w_pipe w_count w_halved_n w_halved_is w_last_n w_last_is w_runs w_due w_rtt_any w_rtt_smooth w_rtt_spread w_rtt_rto h_Marks h_Rtt now = den G34 win_Hear_Λ false tab Go.Proofs.Tryz.f31.ntmps (fun fr H => finish tab 5 Go.Proofs.Tryz.f31.results.toList win_Hear_out [] fr H some) (fun _ _ _ => none) (fun fr H => finish tab 5 Go.Proofs.Tryz.f31.results.toList win_Hear_out [] fr H some) 10000 [.code (fb Go.Proofs.Tryz.f31)] (instFr win_Hear_in [.li h_Got, .li h_Late, .li h_Lost, .i w_cwnd, .i w_slow, .i w_pipe, .i w_count, .i w_halved_n, .b w_halved_is, .i w_last_n, .b w_last_is, .b w_runs, .i w_due, .b w_rtt_any, .i w_rtt_smooth, .i w_rtt_spread, .i w_rtt_rto, .i h_Marks, .i h_Rtt, .i now]) (instH win_Hear_in [.li h_Got, .li h_Late, .li h_Lost, .i w_cwnd, .i w_slow, .i w_pipe, .i w_count, .i w_halved_n, .b w_halved_is, .i w_last_n, .b w_last_is, .b w_runs, .i w_due, .b w_rtt_any, .i w_rtt_smooth, .i w_rtt_spread, .i w_rtt_rto, .i h_Marks, .i h_Rtt, .i now]) := by kernel_rfl
def win_Hear_S : List Leaf → Option (List Leaf) := fun ls => un_li ls fun h_Got rr => un_li rr fun h_Late rr => un_li rr fun h_Lost rr => un_i rr fun w_cwnd rr => un_i rr fun w_slow rr => un_i rr fun w_pipe rr => un_i rr fun w_count rr => un_i rr fun w_halved_n rr => un_b rr fun w_halved_is rr => un_i rr fun w_last_n rr => un_b rr fun w_last_is rr => un_b rr fun w_runs rr => un_i rr fun w_due rr => un_b rr fun w_rtt_any rr => un_i rr fun w_rtt_smooth rr => un_i rr fun w_rtt_spread rr => un_i rr fun w_rtt_rto rr => un_i rr fun h_Marks rr => un_i rr fun h_Rtt rr => un_i rr fun now rr => un_nil rr (win_Hear h_Got h_Late h_Lost w_cwnd w_slow w_pipe w_count w_halved_n w_halved_is w_last_n w_last_is w_runs w_due w_rtt_any w_rtt_smooth w_rtt_spread w_rtt_rto h_Marks h_Rtt now)
def win_Hear_SC : Tld := fun ls k' => un_li ls fun h_Got rr => un_li rr fun h_Late rr => un_li rr fun h_Lost rr => un_i rr fun w_cwnd rr => un_i rr fun w_slow rr => un_i rr fun w_pipe rr => un_i rr fun w_count rr => un_i rr fun w_halved_n rr => un_b rr fun w_halved_is rr => un_i rr fun w_last_n rr => un_b rr fun w_last_is rr => un_b rr fun w_runs rr => un_i rr fun w_due rr => un_b rr fun w_rtt_any rr => un_i rr fun w_rtt_smooth rr => un_i rr fun w_rtt_spread rr => un_i rr fun w_rtt_rto rr => un_i rr fun h_Marks rr => un_i rr fun h_Rtt rr => un_i rr fun now rr => un_nil rr (out (win_Hear h_Got h_Late h_Lost w_cwnd w_slow w_pipe w_count w_halved_n w_halved_is w_last_n w_last_is w_runs w_due w_rtt_any w_rtt_smooth w_rtt_spread w_rtt_rto h_Marks h_Rtt now) k')
theorem win_Hear_Se (h_Got : List Int) (h_Late : List Int) (h_Lost : List Int) (w_cwnd : Int) (w_slow : Int) (w_pipe : Int) (w_count : Int) (w_halved_n : Int) (w_halved_is : Bool) (w_last_n : Int) (w_last_is : Bool) (w_runs : Bool) (w_due : Int) (w_rtt_any : Bool) (w_rtt_smooth : Int) (w_rtt_spread : Int) (w_rtt_rto : Int) (h_Marks : Int) (h_Rtt : Int) (now : Int) : win_Hear_S [.li h_Got, .li h_Late, .li h_Lost, .i w_cwnd, .i w_slow, .i w_pipe, .i w_count, .i w_halved_n, .b w_halved_is, .i w_last_n, .b w_last_is, .b w_runs, .i w_due, .b w_rtt_any, .i w_rtt_smooth, .i w_rtt_spread, .i w_rtt_rto, .i h_Marks, .i h_Rtt, .i now] = win_Hear h_Got h_Late h_Lost w_cwnd w_slow w_pipe w_count w_halved_n w_halved_is w_last_n w_last_is w_runs w_due w_rtt_any w_rtt_smooth w_rtt_spread w_rtt_rto h_Marks h_Rtt now := by
  unfold win_Hear_S
  simp only [un_i_ev, un_b_ev, un_s_ev, un_li_ev, un_lb_ev, un_ls_ev, un_nil_ev]
theorem win_Hear_says : Says win_Hear_SC win_Hear_S := by
  intro β ls' k' r' h'
  unfold win_Hear_SC at h'
  obtain ⟨h_Got, l'1, rfl, h'1⟩ := un_li_some.1 h'
  obtain ⟨h_Late, l'2, rfl, h'2⟩ := un_li_some.1 h'1
  obtain ⟨h_Lost, l'3, rfl, h'3⟩ := un_li_some.1 h'2
  obtain ⟨w_cwnd, l'4, rfl, h'4⟩ := un_i_some.1 h'3
  obtain ⟨w_slow, l'5, rfl, h'5⟩ := un_i_some.1 h'4
  obtain ⟨w_pipe, l'6, rfl, h'6⟩ := un_i_some.1 h'5
  obtain ⟨w_count, l'7, rfl, h'7⟩ := un_i_some.1 h'6
  obtain ⟨w_halved_n, l'8, rfl, h'8⟩ := un_i_some.1 h'7
  obtain ⟨w_halved_is, l'9, rfl, h'9⟩ := un_b_some.1 h'8
  obtain ⟨w_last_n, l'10, rfl, h'10⟩ := un_i_some.1 h'9
  obtain ⟨w_last_is, l'11, rfl, h'11⟩ := un_b_some.1 h'10
  obtain ⟨w_runs, l'12, rfl, h'12⟩ := un_b_some.1 h'11
  obtain ⟨w_due, l'13, rfl, h'13⟩ := un_i_some.1 h'12
  obtain ⟨w_rtt_any, l'14, rfl, h'14⟩ := un_b_some.1 h'13
  obtain ⟨w_rtt_smooth, l'15, rfl, h'15⟩ := un_i_some.1 h'14
  obtain ⟨w_rtt_spread, l'16, rfl, h'16⟩ := un_i_some.1 h'15
  obtain ⟨w_rtt_rto, l'17, rfl, h'17⟩ := un_i_some.1 h'16
  obtain ⟨h_Marks, l'18, rfl, h'18⟩ := un_i_some.1 h'17
  obtain ⟨h_Rtt, l'19, rfl, h'19⟩ := un_i_some.1 h'18
  obtain ⟨now, l'20, rfl, h'20⟩ := un_i_some.1 h'19
  obtain ⟨rfl, h'Z⟩ := un_nil_some.1 h'20
  obtain ⟨l', a', b'⟩ := out_some.1 h'Z
  exact ⟨l', (win_Hear_Se h_Got h_Late h_Lost w_cwnd w_slow w_pipe w_count w_halved_n w_halved_is w_last_n w_last_is w_runs w_due w_rtt_any w_rtt_smooth w_rtt_spread w_rtt_rto h_Marks h_Rtt now).trans a', b'⟩
theorem win_Hear_c : FnC Go.Proofs.Tryz.prog 31 false 3 5 win_Hear_in win_Hear_out win_Hear_S := by
  refine fn_ok (Λ := win_Hear_Λ) mixed tab_ok g34 Go.Proofs.Tryz.func31 (by kernel_rfl) (body := fb Go.Proofs.Tryz.f31) rfl (ts := Go.Proofs.Tryz.f31.results.toList) rfl (cuts := []) (by kernel_rfl) (Nat.le_of_ble_eq_true (by kernel_rfl)) (by kernel_rfl) (rt := .tup []) rfl ?_ ?_
  · intro ls' r' h'
    unfold win_Hear_S at h'
    obtain ⟨h_Got, l'1, rfl, h'1⟩ := un_li_some.1 h'
    obtain ⟨h_Late, l'2, rfl, h'2⟩ := un_li_some.1 h'1
    obtain ⟨h_Lost, l'3, rfl, h'3⟩ := un_li_some.1 h'2
    obtain ⟨w_cwnd, l'4, rfl, h'4⟩ := un_i_some.1 h'3
    obtain ⟨w_slow, l'5, rfl, h'5⟩ := un_i_some.1 h'4
    obtain ⟨w_pipe, l'6, rfl, h'6⟩ := un_i_some.1 h'5
    obtain ⟨w_count, l'7, rfl, h'7⟩ := un_i_some.1 h'6
    obtain ⟨w_halved_n, l'8, rfl, h'8⟩ := un_i_some.1 h'7
    obtain ⟨w_halved_is, l'9, rfl, h'9⟩ := un_b_some.1 h'8
    obtain ⟨w_last_n, l'10, rfl, h'10⟩ := un_i_some.1 h'9
    obtain ⟨w_last_is, l'11, rfl, h'11⟩ := un_b_some.1 h'10
    obtain ⟨w_runs, l'12, rfl, h'12⟩ := un_b_some.1 h'11
    obtain ⟨w_due, l'13, rfl, h'13⟩ := un_i_some.1 h'12
    obtain ⟨w_rtt_any, l'14, rfl, h'14⟩ := un_b_some.1 h'13
    obtain ⟨w_rtt_smooth, l'15, rfl, h'15⟩ := un_i_some.1 h'14
    obtain ⟨w_rtt_spread, l'16, rfl, h'16⟩ := un_i_some.1 h'15
    obtain ⟨w_rtt_rto, l'17, rfl, h'17⟩ := un_i_some.1 h'16
    obtain ⟨h_Marks, l'18, rfl, h'18⟩ := un_i_some.1 h'17
    obtain ⟨h_Rtt, l'19, rfl, h'19⟩ := un_i_some.1 h'18
    obtain ⟨now, l'20, rfl, h'20⟩ := un_i_some.1 h'19
    obtain ⟨rfl, h'Z⟩ := un_nil_some.1 h'20
    exact (win_Hear_e h_Got h_Late h_Lost w_cwnd w_slow w_pipe w_count w_halved_n w_halved_is w_last_n w_last_is w_runs w_due w_rtt_any w_rtt_smooth w_rtt_spread w_rtt_rto h_Marks h_Rtt now).symm.trans h'Z
  · intro E w0 ws ρ0 hk b hb
    rw [show loopsOf (fb Go.Proofs.Tryz.f31) = [] by kernel_rfl] at hb
    cases hb
noncomputable def G35 : Env := G34.addE 31 3 win_Hear_in win_Hear_out win_Hear_SC
theorem g35 : EnvOk Go.Proofs.Tryz.prog G35 := EnvOk.addE g34 win_Hear_c win_Hear_says

-- ### win_Due: function 55
def win_Due_in : Tm := ⟨[.cells 113 [.int .i64, .int .i64, .int .i64, .int .i64, .ptr 1 0, .int .u64, .bool, .int .u64, .bool, .bool, .int .i64], .cells 130 [.bool, .int .i64, .int .i64, .int .i64]], [(0, .w (.at (.ptr 0 0)))]⟩
def win_Due_out : Tm := ⟨[.dead, .dead], [(0, .tup [.at (.int .i64), .at (.bool)])]⟩

def win_Due_Λd : Loops := Loops.none
def win_Due_Λ : Loops := win_Due_Λd 

theorem win_Due_e (w_cwnd : Int) (w_slow : Int) (w_pipe : Int) (w_count : Int) (w_halved_n : Int) (w_halved_is : Bool) (w_last_n : Int) (w_last_is : Bool) (w_runs : Bool) (w_due : Int) (w_rtt_any : Bool) (w_rtt_smooth : Int) (w_rtt_spread : Int) (w_rtt_rto : Int) : win_Due w_cwnd w_slow w_pipe w_count w_halved_n w_halved_is w_last_n w_last_is w_runs w_due w_rtt_any w_rtt_smooth w_rtt_spread w_rtt_rto = den G35 win_Due_Λ true tab Go.Proofs.Tryz.f55.ntmps (fun fr H => finish tab 2 Go.Proofs.Tryz.f55.results.toList win_Due_out [] fr H some) (fun _ _ _ => none) (fun fr H => finish tab 2 Go.Proofs.Tryz.f55.results.toList win_Due_out [] fr H some) 10000 [.code (fb Go.Proofs.Tryz.f55)] (instFr win_Due_in [.i w_cwnd, .i w_slow, .i w_pipe, .i w_count, .i w_halved_n, .b w_halved_is, .i w_last_n, .b w_last_is, .b w_runs, .i w_due, .b w_rtt_any, .i w_rtt_smooth, .i w_rtt_spread, .i w_rtt_rto]) (instH win_Due_in [.i w_cwnd, .i w_slow, .i w_pipe, .i w_count, .i w_halved_n, .b w_halved_is, .i w_last_n, .b w_last_is, .b w_runs, .i w_due, .b w_rtt_any, .i w_rtt_smooth, .i w_rtt_spread, .i w_rtt_rto]) := by kernel_rfl
def win_Due_S : List Leaf → Option (List Leaf) := fun ls => un_i ls fun w_cwnd rr => un_i rr fun w_slow rr => un_i rr fun w_pipe rr => un_i rr fun w_count rr => un_i rr fun w_halved_n rr => un_b rr fun w_halved_is rr => un_i rr fun w_last_n rr => un_b rr fun w_last_is rr => un_b rr fun w_runs rr => un_i rr fun w_due rr => un_b rr fun w_rtt_any rr => un_i rr fun w_rtt_smooth rr => un_i rr fun w_rtt_spread rr => un_i rr fun w_rtt_rto rr => un_nil rr (win_Due w_cwnd w_slow w_pipe w_count w_halved_n w_halved_is w_last_n w_last_is w_runs w_due w_rtt_any w_rtt_smooth w_rtt_spread w_rtt_rto)
def win_Due_SC : Tld := fun ls k' => un_i ls fun w_cwnd rr => un_i rr fun w_slow rr => un_i rr fun w_pipe rr => un_i rr fun w_count rr => un_i rr fun w_halved_n rr => un_b rr fun w_halved_is rr => un_i rr fun w_last_n rr => un_b rr fun w_last_is rr => un_b rr fun w_runs rr => un_i rr fun w_due rr => un_b rr fun w_rtt_any rr => un_i rr fun w_rtt_smooth rr => un_i rr fun w_rtt_spread rr => un_i rr fun w_rtt_rto rr => un_nil rr (out (win_Due w_cwnd w_slow w_pipe w_count w_halved_n w_halved_is w_last_n w_last_is w_runs w_due w_rtt_any w_rtt_smooth w_rtt_spread w_rtt_rto) k')
theorem win_Due_Se (w_cwnd : Int) (w_slow : Int) (w_pipe : Int) (w_count : Int) (w_halved_n : Int) (w_halved_is : Bool) (w_last_n : Int) (w_last_is : Bool) (w_runs : Bool) (w_due : Int) (w_rtt_any : Bool) (w_rtt_smooth : Int) (w_rtt_spread : Int) (w_rtt_rto : Int) : win_Due_S [.i w_cwnd, .i w_slow, .i w_pipe, .i w_count, .i w_halved_n, .b w_halved_is, .i w_last_n, .b w_last_is, .b w_runs, .i w_due, .b w_rtt_any, .i w_rtt_smooth, .i w_rtt_spread, .i w_rtt_rto] = win_Due w_cwnd w_slow w_pipe w_count w_halved_n w_halved_is w_last_n w_last_is w_runs w_due w_rtt_any w_rtt_smooth w_rtt_spread w_rtt_rto := by
  unfold win_Due_S
  simp only [un_i_ev, un_b_ev, un_s_ev, un_li_ev, un_lb_ev, un_ls_ev, un_nil_ev]
theorem win_Due_says : Says win_Due_SC win_Due_S := by
  intro β ls' k' r' h'
  unfold win_Due_SC at h'
  obtain ⟨w_cwnd, l'1, rfl, h'1⟩ := un_i_some.1 h'
  obtain ⟨w_slow, l'2, rfl, h'2⟩ := un_i_some.1 h'1
  obtain ⟨w_pipe, l'3, rfl, h'3⟩ := un_i_some.1 h'2
  obtain ⟨w_count, l'4, rfl, h'4⟩ := un_i_some.1 h'3
  obtain ⟨w_halved_n, l'5, rfl, h'5⟩ := un_i_some.1 h'4
  obtain ⟨w_halved_is, l'6, rfl, h'6⟩ := un_b_some.1 h'5
  obtain ⟨w_last_n, l'7, rfl, h'7⟩ := un_i_some.1 h'6
  obtain ⟨w_last_is, l'8, rfl, h'8⟩ := un_b_some.1 h'7
  obtain ⟨w_runs, l'9, rfl, h'9⟩ := un_b_some.1 h'8
  obtain ⟨w_due, l'10, rfl, h'10⟩ := un_i_some.1 h'9
  obtain ⟨w_rtt_any, l'11, rfl, h'11⟩ := un_b_some.1 h'10
  obtain ⟨w_rtt_smooth, l'12, rfl, h'12⟩ := un_i_some.1 h'11
  obtain ⟨w_rtt_spread, l'13, rfl, h'13⟩ := un_i_some.1 h'12
  obtain ⟨w_rtt_rto, l'14, rfl, h'14⟩ := un_i_some.1 h'13
  obtain ⟨rfl, h'Z⟩ := un_nil_some.1 h'14
  obtain ⟨l', a', b'⟩ := out_some.1 h'Z
  exact ⟨l', (win_Due_Se w_cwnd w_slow w_pipe w_count w_halved_n w_halved_is w_last_n w_last_is w_runs w_due w_rtt_any w_rtt_smooth w_rtt_spread w_rtt_rto).trans a', b'⟩
theorem win_Due_c : FnC Go.Proofs.Tryz.prog 55 true 1 2 win_Due_in win_Due_out win_Due_S := by
  refine fn_ok (Λ := win_Due_Λ) mixed tab_ok g35 Go.Proofs.Tryz.func55 (by kernel_rfl) (body := fb Go.Proofs.Tryz.f55) rfl (ts := Go.Proofs.Tryz.f55.results.toList) rfl (cuts := []) (by kernel_rfl) (Nat.le_of_ble_eq_true (by kernel_rfl)) (by kernel_rfl) (rt := .tup [.at (.int .i64), .at (.bool)]) rfl ?_ ?_
  · intro ls' r' h'
    unfold win_Due_S at h'
    obtain ⟨w_cwnd, l'1, rfl, h'1⟩ := un_i_some.1 h'
    obtain ⟨w_slow, l'2, rfl, h'2⟩ := un_i_some.1 h'1
    obtain ⟨w_pipe, l'3, rfl, h'3⟩ := un_i_some.1 h'2
    obtain ⟨w_count, l'4, rfl, h'4⟩ := un_i_some.1 h'3
    obtain ⟨w_halved_n, l'5, rfl, h'5⟩ := un_i_some.1 h'4
    obtain ⟨w_halved_is, l'6, rfl, h'6⟩ := un_b_some.1 h'5
    obtain ⟨w_last_n, l'7, rfl, h'7⟩ := un_i_some.1 h'6
    obtain ⟨w_last_is, l'8, rfl, h'8⟩ := un_b_some.1 h'7
    obtain ⟨w_runs, l'9, rfl, h'9⟩ := un_b_some.1 h'8
    obtain ⟨w_due, l'10, rfl, h'10⟩ := un_i_some.1 h'9
    obtain ⟨w_rtt_any, l'11, rfl, h'11⟩ := un_b_some.1 h'10
    obtain ⟨w_rtt_smooth, l'12, rfl, h'12⟩ := un_i_some.1 h'11
    obtain ⟨w_rtt_spread, l'13, rfl, h'13⟩ := un_i_some.1 h'12
    obtain ⟨w_rtt_rto, l'14, rfl, h'14⟩ := un_i_some.1 h'13
    obtain ⟨rfl, h'Z⟩ := un_nil_some.1 h'14
    exact (win_Due_e w_cwnd w_slow w_pipe w_count w_halved_n w_halved_is w_last_n w_last_is w_runs w_due w_rtt_any w_rtt_smooth w_rtt_spread w_rtt_rto).symm.trans h'Z
  · intro E w0 ws ρ0 hk b hb
    rw [show loopsOf (fb Go.Proofs.Tryz.f55) = [] by kernel_rfl] at hb
    cases hb
noncomputable def G36 : Env := G35.addP 55 1 win_Due_in win_Due_out win_Due_SC
theorem g36 : EnvOk Go.Proofs.Tryz.prog G36 := EnvOk.addP g35 win_Due_c win_Due_says

-- ### win_Cwnd: function 29
def win_Cwnd_in : Tm := ⟨[.cells 113 [.int .i64, .int .i64, .int .i64, .int .i64, .ptr 1 0, .int .u64, .bool, .int .u64, .bool, .bool, .int .i64], .cells 130 [.bool, .int .i64, .int .i64, .int .i64]], [(0, .w (.at (.ptr 0 0)))]⟩
def win_Cwnd_out : Tm := ⟨[.dead, .dead], [(0, .w (.at (.int .i64)))]⟩

def win_Cwnd_Λd : Loops := Loops.none
def win_Cwnd_Λ : Loops := win_Cwnd_Λd 

theorem win_Cwnd_e (w_cwnd : Int) (w_slow : Int) (w_pipe : Int) (w_count : Int) (w_halved_n : Int) (w_halved_is : Bool) (w_last_n : Int) (w_last_is : Bool) (w_runs : Bool) (w_due : Int) (w_rtt_any : Bool) (w_rtt_smooth : Int) (w_rtt_spread : Int) (w_rtt_rto : Int) : win_Cwnd w_cwnd w_slow w_pipe w_count w_halved_n w_halved_is w_last_n w_last_is w_runs w_due w_rtt_any w_rtt_smooth w_rtt_spread w_rtt_rto = den G36 win_Cwnd_Λ true tab Go.Proofs.Tryz.f29.ntmps (fun fr H => finish tab 2 Go.Proofs.Tryz.f29.results.toList win_Cwnd_out [] fr H some) (fun _ _ _ => none) (fun fr H => finish tab 2 Go.Proofs.Tryz.f29.results.toList win_Cwnd_out [] fr H some) 10000 [.code (fb Go.Proofs.Tryz.f29)] (instFr win_Cwnd_in [.i w_cwnd, .i w_slow, .i w_pipe, .i w_count, .i w_halved_n, .b w_halved_is, .i w_last_n, .b w_last_is, .b w_runs, .i w_due, .b w_rtt_any, .i w_rtt_smooth, .i w_rtt_spread, .i w_rtt_rto]) (instH win_Cwnd_in [.i w_cwnd, .i w_slow, .i w_pipe, .i w_count, .i w_halved_n, .b w_halved_is, .i w_last_n, .b w_last_is, .b w_runs, .i w_due, .b w_rtt_any, .i w_rtt_smooth, .i w_rtt_spread, .i w_rtt_rto]) := by kernel_rfl
def win_Cwnd_S : List Leaf → Option (List Leaf) := fun ls => un_i ls fun w_cwnd rr => un_i rr fun w_slow rr => un_i rr fun w_pipe rr => un_i rr fun w_count rr => un_i rr fun w_halved_n rr => un_b rr fun w_halved_is rr => un_i rr fun w_last_n rr => un_b rr fun w_last_is rr => un_b rr fun w_runs rr => un_i rr fun w_due rr => un_b rr fun w_rtt_any rr => un_i rr fun w_rtt_smooth rr => un_i rr fun w_rtt_spread rr => un_i rr fun w_rtt_rto rr => un_nil rr (win_Cwnd w_cwnd w_slow w_pipe w_count w_halved_n w_halved_is w_last_n w_last_is w_runs w_due w_rtt_any w_rtt_smooth w_rtt_spread w_rtt_rto)
def win_Cwnd_SC : Tld := fun ls k' => un_i ls fun w_cwnd rr => un_i rr fun w_slow rr => un_i rr fun w_pipe rr => un_i rr fun w_count rr => un_i rr fun w_halved_n rr => un_b rr fun w_halved_is rr => un_i rr fun w_last_n rr => un_b rr fun w_last_is rr => un_b rr fun w_runs rr => un_i rr fun w_due rr => un_b rr fun w_rtt_any rr => un_i rr fun w_rtt_smooth rr => un_i rr fun w_rtt_spread rr => un_i rr fun w_rtt_rto rr => un_nil rr (out (win_Cwnd w_cwnd w_slow w_pipe w_count w_halved_n w_halved_is w_last_n w_last_is w_runs w_due w_rtt_any w_rtt_smooth w_rtt_spread w_rtt_rto) k')
theorem win_Cwnd_Se (w_cwnd : Int) (w_slow : Int) (w_pipe : Int) (w_count : Int) (w_halved_n : Int) (w_halved_is : Bool) (w_last_n : Int) (w_last_is : Bool) (w_runs : Bool) (w_due : Int) (w_rtt_any : Bool) (w_rtt_smooth : Int) (w_rtt_spread : Int) (w_rtt_rto : Int) : win_Cwnd_S [.i w_cwnd, .i w_slow, .i w_pipe, .i w_count, .i w_halved_n, .b w_halved_is, .i w_last_n, .b w_last_is, .b w_runs, .i w_due, .b w_rtt_any, .i w_rtt_smooth, .i w_rtt_spread, .i w_rtt_rto] = win_Cwnd w_cwnd w_slow w_pipe w_count w_halved_n w_halved_is w_last_n w_last_is w_runs w_due w_rtt_any w_rtt_smooth w_rtt_spread w_rtt_rto := by
  unfold win_Cwnd_S
  simp only [un_i_ev, un_b_ev, un_s_ev, un_li_ev, un_lb_ev, un_ls_ev, un_nil_ev]
theorem win_Cwnd_says : Says win_Cwnd_SC win_Cwnd_S := by
  intro β ls' k' r' h'
  unfold win_Cwnd_SC at h'
  obtain ⟨w_cwnd, l'1, rfl, h'1⟩ := un_i_some.1 h'
  obtain ⟨w_slow, l'2, rfl, h'2⟩ := un_i_some.1 h'1
  obtain ⟨w_pipe, l'3, rfl, h'3⟩ := un_i_some.1 h'2
  obtain ⟨w_count, l'4, rfl, h'4⟩ := un_i_some.1 h'3
  obtain ⟨w_halved_n, l'5, rfl, h'5⟩ := un_i_some.1 h'4
  obtain ⟨w_halved_is, l'6, rfl, h'6⟩ := un_b_some.1 h'5
  obtain ⟨w_last_n, l'7, rfl, h'7⟩ := un_i_some.1 h'6
  obtain ⟨w_last_is, l'8, rfl, h'8⟩ := un_b_some.1 h'7
  obtain ⟨w_runs, l'9, rfl, h'9⟩ := un_b_some.1 h'8
  obtain ⟨w_due, l'10, rfl, h'10⟩ := un_i_some.1 h'9
  obtain ⟨w_rtt_any, l'11, rfl, h'11⟩ := un_b_some.1 h'10
  obtain ⟨w_rtt_smooth, l'12, rfl, h'12⟩ := un_i_some.1 h'11
  obtain ⟨w_rtt_spread, l'13, rfl, h'13⟩ := un_i_some.1 h'12
  obtain ⟨w_rtt_rto, l'14, rfl, h'14⟩ := un_i_some.1 h'13
  obtain ⟨rfl, h'Z⟩ := un_nil_some.1 h'14
  obtain ⟨l', a', b'⟩ := out_some.1 h'Z
  exact ⟨l', (win_Cwnd_Se w_cwnd w_slow w_pipe w_count w_halved_n w_halved_is w_last_n w_last_is w_runs w_due w_rtt_any w_rtt_smooth w_rtt_spread w_rtt_rto).trans a', b'⟩
theorem win_Cwnd_c : FnC Go.Proofs.Tryz.prog 29 true 1 2 win_Cwnd_in win_Cwnd_out win_Cwnd_S := by
  refine fn_ok (Λ := win_Cwnd_Λ) mixed tab_ok g36 Go.Proofs.Tryz.func29 (by kernel_rfl) (body := fb Go.Proofs.Tryz.f29) rfl (ts := Go.Proofs.Tryz.f29.results.toList) rfl (cuts := []) (by kernel_rfl) (Nat.le_of_ble_eq_true (by kernel_rfl)) (by kernel_rfl) (rt := .w (.at (.int .i64))) rfl ?_ ?_
  · intro ls' r' h'
    unfold win_Cwnd_S at h'
    obtain ⟨w_cwnd, l'1, rfl, h'1⟩ := un_i_some.1 h'
    obtain ⟨w_slow, l'2, rfl, h'2⟩ := un_i_some.1 h'1
    obtain ⟨w_pipe, l'3, rfl, h'3⟩ := un_i_some.1 h'2
    obtain ⟨w_count, l'4, rfl, h'4⟩ := un_i_some.1 h'3
    obtain ⟨w_halved_n, l'5, rfl, h'5⟩ := un_i_some.1 h'4
    obtain ⟨w_halved_is, l'6, rfl, h'6⟩ := un_b_some.1 h'5
    obtain ⟨w_last_n, l'7, rfl, h'7⟩ := un_i_some.1 h'6
    obtain ⟨w_last_is, l'8, rfl, h'8⟩ := un_b_some.1 h'7
    obtain ⟨w_runs, l'9, rfl, h'9⟩ := un_b_some.1 h'8
    obtain ⟨w_due, l'10, rfl, h'10⟩ := un_i_some.1 h'9
    obtain ⟨w_rtt_any, l'11, rfl, h'11⟩ := un_b_some.1 h'10
    obtain ⟨w_rtt_smooth, l'12, rfl, h'12⟩ := un_i_some.1 h'11
    obtain ⟨w_rtt_spread, l'13, rfl, h'13⟩ := un_i_some.1 h'12
    obtain ⟨w_rtt_rto, l'14, rfl, h'14⟩ := un_i_some.1 h'13
    obtain ⟨rfl, h'Z⟩ := un_nil_some.1 h'14
    exact (win_Cwnd_e w_cwnd w_slow w_pipe w_count w_halved_n w_halved_is w_last_n w_last_is w_runs w_due w_rtt_any w_rtt_smooth w_rtt_spread w_rtt_rto).symm.trans h'Z
  · intro E w0 ws ρ0 hk b hb
    rw [show loopsOf (fb Go.Proofs.Tryz.f29) = [] by kernel_rfl] at hb
    cases hb
noncomputable def G37 : Env := G36.addP 29 1 win_Cwnd_in win_Cwnd_out win_Cwnd_SC
theorem g37 : EnvOk Go.Proofs.Tryz.prog G37 := EnvOk.addP g36 win_Cwnd_c win_Cwnd_says

-- ### win_Pipe: function 32
def win_Pipe_in : Tm := ⟨[.cells 113 [.int .i64, .int .i64, .int .i64, .int .i64, .ptr 1 0, .int .u64, .bool, .int .u64, .bool, .bool, .int .i64], .cells 130 [.bool, .int .i64, .int .i64, .int .i64]], [(0, .w (.at (.ptr 0 0)))]⟩
def win_Pipe_out : Tm := ⟨[.dead, .dead], [(0, .w (.at (.int .i64)))]⟩

def win_Pipe_Λd : Loops := Loops.none
def win_Pipe_Λ : Loops := win_Pipe_Λd 

theorem win_Pipe_e (w_cwnd : Int) (w_slow : Int) (w_pipe : Int) (w_count : Int) (w_halved_n : Int) (w_halved_is : Bool) (w_last_n : Int) (w_last_is : Bool) (w_runs : Bool) (w_due : Int) (w_rtt_any : Bool) (w_rtt_smooth : Int) (w_rtt_spread : Int) (w_rtt_rto : Int) : win_Pipe w_cwnd w_slow w_pipe w_count w_halved_n w_halved_is w_last_n w_last_is w_runs w_due w_rtt_any w_rtt_smooth w_rtt_spread w_rtt_rto = den G37 win_Pipe_Λ true tab Go.Proofs.Tryz.f32.ntmps (fun fr H => finish tab 2 Go.Proofs.Tryz.f32.results.toList win_Pipe_out [] fr H some) (fun _ _ _ => none) (fun fr H => finish tab 2 Go.Proofs.Tryz.f32.results.toList win_Pipe_out [] fr H some) 10000 [.code (fb Go.Proofs.Tryz.f32)] (instFr win_Pipe_in [.i w_cwnd, .i w_slow, .i w_pipe, .i w_count, .i w_halved_n, .b w_halved_is, .i w_last_n, .b w_last_is, .b w_runs, .i w_due, .b w_rtt_any, .i w_rtt_smooth, .i w_rtt_spread, .i w_rtt_rto]) (instH win_Pipe_in [.i w_cwnd, .i w_slow, .i w_pipe, .i w_count, .i w_halved_n, .b w_halved_is, .i w_last_n, .b w_last_is, .b w_runs, .i w_due, .b w_rtt_any, .i w_rtt_smooth, .i w_rtt_spread, .i w_rtt_rto]) := by kernel_rfl
def win_Pipe_S : List Leaf → Option (List Leaf) := fun ls => un_i ls fun w_cwnd rr => un_i rr fun w_slow rr => un_i rr fun w_pipe rr => un_i rr fun w_count rr => un_i rr fun w_halved_n rr => un_b rr fun w_halved_is rr => un_i rr fun w_last_n rr => un_b rr fun w_last_is rr => un_b rr fun w_runs rr => un_i rr fun w_due rr => un_b rr fun w_rtt_any rr => un_i rr fun w_rtt_smooth rr => un_i rr fun w_rtt_spread rr => un_i rr fun w_rtt_rto rr => un_nil rr (win_Pipe w_cwnd w_slow w_pipe w_count w_halved_n w_halved_is w_last_n w_last_is w_runs w_due w_rtt_any w_rtt_smooth w_rtt_spread w_rtt_rto)
def win_Pipe_SC : Tld := fun ls k' => un_i ls fun w_cwnd rr => un_i rr fun w_slow rr => un_i rr fun w_pipe rr => un_i rr fun w_count rr => un_i rr fun w_halved_n rr => un_b rr fun w_halved_is rr => un_i rr fun w_last_n rr => un_b rr fun w_last_is rr => un_b rr fun w_runs rr => un_i rr fun w_due rr => un_b rr fun w_rtt_any rr => un_i rr fun w_rtt_smooth rr => un_i rr fun w_rtt_spread rr => un_i rr fun w_rtt_rto rr => un_nil rr (out (win_Pipe w_cwnd w_slow w_pipe w_count w_halved_n w_halved_is w_last_n w_last_is w_runs w_due w_rtt_any w_rtt_smooth w_rtt_spread w_rtt_rto) k')
theorem win_Pipe_Se (w_cwnd : Int) (w_slow : Int) (w_pipe : Int) (w_count : Int) (w_halved_n : Int) (w_halved_is : Bool) (w_last_n : Int) (w_last_is : Bool) (w_runs : Bool) (w_due : Int) (w_rtt_any : Bool) (w_rtt_smooth : Int) (w_rtt_spread : Int) (w_rtt_rto : Int) : win_Pipe_S [.i w_cwnd, .i w_slow, .i w_pipe, .i w_count, .i w_halved_n, .b w_halved_is, .i w_last_n, .b w_last_is, .b w_runs, .i w_due, .b w_rtt_any, .i w_rtt_smooth, .i w_rtt_spread, .i w_rtt_rto] = win_Pipe w_cwnd w_slow w_pipe w_count w_halved_n w_halved_is w_last_n w_last_is w_runs w_due w_rtt_any w_rtt_smooth w_rtt_spread w_rtt_rto := by
  unfold win_Pipe_S
  simp only [un_i_ev, un_b_ev, un_s_ev, un_li_ev, un_lb_ev, un_ls_ev, un_nil_ev]
theorem win_Pipe_says : Says win_Pipe_SC win_Pipe_S := by
  intro β ls' k' r' h'
  unfold win_Pipe_SC at h'
  obtain ⟨w_cwnd, l'1, rfl, h'1⟩ := un_i_some.1 h'
  obtain ⟨w_slow, l'2, rfl, h'2⟩ := un_i_some.1 h'1
  obtain ⟨w_pipe, l'3, rfl, h'3⟩ := un_i_some.1 h'2
  obtain ⟨w_count, l'4, rfl, h'4⟩ := un_i_some.1 h'3
  obtain ⟨w_halved_n, l'5, rfl, h'5⟩ := un_i_some.1 h'4
  obtain ⟨w_halved_is, l'6, rfl, h'6⟩ := un_b_some.1 h'5
  obtain ⟨w_last_n, l'7, rfl, h'7⟩ := un_i_some.1 h'6
  obtain ⟨w_last_is, l'8, rfl, h'8⟩ := un_b_some.1 h'7
  obtain ⟨w_runs, l'9, rfl, h'9⟩ := un_b_some.1 h'8
  obtain ⟨w_due, l'10, rfl, h'10⟩ := un_i_some.1 h'9
  obtain ⟨w_rtt_any, l'11, rfl, h'11⟩ := un_b_some.1 h'10
  obtain ⟨w_rtt_smooth, l'12, rfl, h'12⟩ := un_i_some.1 h'11
  obtain ⟨w_rtt_spread, l'13, rfl, h'13⟩ := un_i_some.1 h'12
  obtain ⟨w_rtt_rto, l'14, rfl, h'14⟩ := un_i_some.1 h'13
  obtain ⟨rfl, h'Z⟩ := un_nil_some.1 h'14
  obtain ⟨l', a', b'⟩ := out_some.1 h'Z
  exact ⟨l', (win_Pipe_Se w_cwnd w_slow w_pipe w_count w_halved_n w_halved_is w_last_n w_last_is w_runs w_due w_rtt_any w_rtt_smooth w_rtt_spread w_rtt_rto).trans a', b'⟩
theorem win_Pipe_c : FnC Go.Proofs.Tryz.prog 32 true 1 2 win_Pipe_in win_Pipe_out win_Pipe_S := by
  refine fn_ok (Λ := win_Pipe_Λ) mixed tab_ok g37 Go.Proofs.Tryz.func32 (by kernel_rfl) (body := fb Go.Proofs.Tryz.f32) rfl (ts := Go.Proofs.Tryz.f32.results.toList) rfl (cuts := []) (by kernel_rfl) (Nat.le_of_ble_eq_true (by kernel_rfl)) (by kernel_rfl) (rt := .w (.at (.int .i64))) rfl ?_ ?_
  · intro ls' r' h'
    unfold win_Pipe_S at h'
    obtain ⟨w_cwnd, l'1, rfl, h'1⟩ := un_i_some.1 h'
    obtain ⟨w_slow, l'2, rfl, h'2⟩ := un_i_some.1 h'1
    obtain ⟨w_pipe, l'3, rfl, h'3⟩ := un_i_some.1 h'2
    obtain ⟨w_count, l'4, rfl, h'4⟩ := un_i_some.1 h'3
    obtain ⟨w_halved_n, l'5, rfl, h'5⟩ := un_i_some.1 h'4
    obtain ⟨w_halved_is, l'6, rfl, h'6⟩ := un_b_some.1 h'5
    obtain ⟨w_last_n, l'7, rfl, h'7⟩ := un_i_some.1 h'6
    obtain ⟨w_last_is, l'8, rfl, h'8⟩ := un_b_some.1 h'7
    obtain ⟨w_runs, l'9, rfl, h'9⟩ := un_b_some.1 h'8
    obtain ⟨w_due, l'10, rfl, h'10⟩ := un_i_some.1 h'9
    obtain ⟨w_rtt_any, l'11, rfl, h'11⟩ := un_b_some.1 h'10
    obtain ⟨w_rtt_smooth, l'12, rfl, h'12⟩ := un_i_some.1 h'11
    obtain ⟨w_rtt_spread, l'13, rfl, h'13⟩ := un_i_some.1 h'12
    obtain ⟨w_rtt_rto, l'14, rfl, h'14⟩ := un_i_some.1 h'13
    obtain ⟨rfl, h'Z⟩ := un_nil_some.1 h'14
    exact (win_Pipe_e w_cwnd w_slow w_pipe w_count w_halved_n w_halved_is w_last_n w_last_is w_runs w_due w_rtt_any w_rtt_smooth w_rtt_spread w_rtt_rto).symm.trans h'Z
  · intro E w0 ws ρ0 hk b hb
    rw [show loopsOf (fb Go.Proofs.Tryz.f32) = [] by kernel_rfl] at hb
    cases hb
noncomputable def G38 : Env := G37.addP 32 1 win_Pipe_in win_Pipe_out win_Pipe_SC
theorem g38 : EnvOk Go.Proofs.Tryz.prog G38 := EnvOk.addP g37 win_Pipe_c win_Pipe_says
end Go.Sx.T

