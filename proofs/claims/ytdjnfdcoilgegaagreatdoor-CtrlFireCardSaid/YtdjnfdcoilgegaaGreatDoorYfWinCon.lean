import Derived.Test.YtdjnfdcoilgegaaGreatDoorYfWinSpec
import Derived.Test.YtdjnfdcoilgegaaGreatDoorYfTfrcCon
set_option linter.all false
namespace Go.Sx.T
open Go Go.Sx Go.Proofs
set_option maxRecDepth 100000

-- ### win_New: function 42
def win_New_in : Tm := ⟨[], []⟩
def win_New_out : Tm := ⟨[.cells 96 [.int .i64, .int .i64, .int .i64, .int .i64, .ptr 1 0, .int .u64, .bool, .int .u64, .bool, .bool, .int .i64], .cells 165 [.bool, .int .i64, .int .i64, .int .i64]], [(0, .w (.at (.ptr 0 0)))]⟩

def win_New_Λd : Loops := Loops.none
def win_New_Λ : Loops := win_New_Λd 

theorem win_New_e  : win_New  = den G38 win_New_Λ false tab Go.Proofs.Tryz.f42.ntmps (fun fr H => finish tab 0 Go.Proofs.Tryz.f42.results.toList win_New_out [] fr H some) (fun _ _ _ => none) (fun fr H => finish tab 0 Go.Proofs.Tryz.f42.results.toList win_New_out [] fr H some) 10000 [.code (fb Go.Proofs.Tryz.f42)] (instFr win_New_in []) (instH win_New_in []) := by kernel_rfl
def win_New_S : List Leaf → Option (List Leaf) := fun ls => un_nil ls (win_New )
def win_New_SC : Tld := fun ls k' => un_nil ls (out (win_New ) k')
theorem win_New_Se  : win_New_S [] = win_New  := by
  unfold win_New_S
  simp only [un_i_ev, un_b_ev, un_s_ev, un_li_ev, un_lb_ev, un_ls_ev, un_nil_ev]
theorem win_New_says : Says win_New_SC win_New_S := by
  intro β ls' k' r' h'
  unfold win_New_SC at h'
  obtain ⟨rfl, h'Z⟩ := un_nil_some.1 h'
  obtain ⟨l', a', b'⟩ := out_some.1 h'Z
  exact ⟨l', (win_New_Se ).trans a', b'⟩
theorem win_New_c : FnC Go.Proofs.Tryz.prog 42 false 0 0 win_New_in win_New_out win_New_S := by
  refine fn_ok (Λ := win_New_Λ) mixed tab_ok g38 Go.Proofs.Tryz.func42 (by kernel_rfl) (body := fb Go.Proofs.Tryz.f42) rfl (ts := Go.Proofs.Tryz.f42.results.toList) rfl (cuts := []) (by kernel_rfl) (Nat.le_of_ble_eq_true (by kernel_rfl)) (by kernel_rfl) (rt := .w (.at (.ptr 0 0))) rfl ?_ ?_
  · intro ls' r' h'
    unfold win_New_S at h'
    obtain ⟨rfl, h'Z⟩ := un_nil_some.1 h'
    exact (win_New_e ).symm.trans h'Z
  · intro E w0 ws ρ0 hk b hb
    rw [show loopsOf (fb Go.Proofs.Tryz.f42) = [] by kernel_rfl] at hb
    cases hb
noncomputable def G39 : Env := G38.addE 42 0 win_New_in win_New_out win_New_SC
theorem g39 : EnvOk Go.Proofs.Tryz.prog G39 := EnvOk.addE g38 win_New_c win_New_says

-- ### win_May: function 87
def win_May_in : Tm := ⟨[.cells 96 [.int .i64, .int .i64, .int .i64, .int .i64, .ptr 1 0, .int .u64, .bool, .int .u64, .bool, .bool, .int .i64], .cells 165 [.bool, .int .i64, .int .i64, .int .i64]], [(0, .w (.at (.ptr 0 0)))]⟩
def win_May_out : Tm := ⟨[.dead, .dead], [(0, .w (.at (.bool)))]⟩

def win_May_Λd : Loops := Loops.none
def win_May_Λ : Loops := win_May_Λd 

theorem win_May_e (w_cwnd : Int) (w_slow : Int) (w_pipe : Int) (w_count : Int) (w_halved_n : Int) (w_halved_is : Bool) (w_last_n : Int) (w_last_is : Bool) (w_runs : Bool) (w_due : Int) (w_rtt_any : Bool) (w_rtt_smooth : Int) (w_rtt_spread : Int) (w_rtt_rto : Int) : win_May w_cwnd w_slow w_pipe w_count w_halved_n w_halved_is w_last_n w_last_is w_runs w_due w_rtt_any w_rtt_smooth w_rtt_spread w_rtt_rto = den G39 win_May_Λ true tab Go.Proofs.Tryz.f87.ntmps (fun fr H => finish tab 2 Go.Proofs.Tryz.f87.results.toList win_May_out [] fr H some) (fun _ _ _ => none) (fun fr H => finish tab 2 Go.Proofs.Tryz.f87.results.toList win_May_out [] fr H some) 10000 [.code (fb Go.Proofs.Tryz.f87)] (instFr win_May_in [.i w_cwnd, .i w_slow, .i w_pipe, .i w_count, .i w_halved_n, .b w_halved_is, .i w_last_n, .b w_last_is, .b w_runs, .i w_due, .b w_rtt_any, .i w_rtt_smooth, .i w_rtt_spread, .i w_rtt_rto]) (instH win_May_in [.i w_cwnd, .i w_slow, .i w_pipe, .i w_count, .i w_halved_n, .b w_halved_is, .i w_last_n, .b w_last_is, .b w_runs, .i w_due, .b w_rtt_any, .i w_rtt_smooth, .i w_rtt_spread, .i w_rtt_rto]) := by kernel_rfl
def win_May_S : List Leaf → Option (List Leaf) := fun ls => un_i ls fun w_cwnd rr => un_i rr fun w_slow rr => un_i rr fun w_pipe rr => un_i rr fun w_count rr => un_i rr fun w_halved_n rr => un_b rr fun w_halved_is rr => un_i rr fun w_last_n rr => un_b rr fun w_last_is rr => un_b rr fun w_runs rr => un_i rr fun w_due rr => un_b rr fun w_rtt_any rr => un_i rr fun w_rtt_smooth rr => un_i rr fun w_rtt_spread rr => un_i rr fun w_rtt_rto rr => un_nil rr (win_May w_cwnd w_slow w_pipe w_count w_halved_n w_halved_is w_last_n w_last_is w_runs w_due w_rtt_any w_rtt_smooth w_rtt_spread w_rtt_rto)
def win_May_SC : Tld := fun ls k' => un_i ls fun w_cwnd rr => un_i rr fun w_slow rr => un_i rr fun w_pipe rr => un_i rr fun w_count rr => un_i rr fun w_halved_n rr => un_b rr fun w_halved_is rr => un_i rr fun w_last_n rr => un_b rr fun w_last_is rr => un_b rr fun w_runs rr => un_i rr fun w_due rr => un_b rr fun w_rtt_any rr => un_i rr fun w_rtt_smooth rr => un_i rr fun w_rtt_spread rr => un_i rr fun w_rtt_rto rr => un_nil rr (out (win_May w_cwnd w_slow w_pipe w_count w_halved_n w_halved_is w_last_n w_last_is w_runs w_due w_rtt_any w_rtt_smooth w_rtt_spread w_rtt_rto) k')
theorem win_May_Se (w_cwnd : Int) (w_slow : Int) (w_pipe : Int) (w_count : Int) (w_halved_n : Int) (w_halved_is : Bool) (w_last_n : Int) (w_last_is : Bool) (w_runs : Bool) (w_due : Int) (w_rtt_any : Bool) (w_rtt_smooth : Int) (w_rtt_spread : Int) (w_rtt_rto : Int) : win_May_S [.i w_cwnd, .i w_slow, .i w_pipe, .i w_count, .i w_halved_n, .b w_halved_is, .i w_last_n, .b w_last_is, .b w_runs, .i w_due, .b w_rtt_any, .i w_rtt_smooth, .i w_rtt_spread, .i w_rtt_rto] = win_May w_cwnd w_slow w_pipe w_count w_halved_n w_halved_is w_last_n w_last_is w_runs w_due w_rtt_any w_rtt_smooth w_rtt_spread w_rtt_rto := by
  unfold win_May_S
  simp only [un_i_ev, un_b_ev, un_s_ev, un_li_ev, un_lb_ev, un_ls_ev, un_nil_ev]
theorem win_May_says : Says win_May_SC win_May_S := by
  intro β ls' k' r' h'
  unfold win_May_SC at h'
  obtain ⟨w_cwnd, l'1, rfl, h'1⟩ := un_i_some.1 h'
  obtain ⟨w_slow, l'2, rfl, h'2⟩ := un_i_some.1 h'1
  obtain ⟨w_pipe, l'3, rfl, h'3⟩ := un_i_some.1 h'2
  obtain ⟨w_count, l'4, rfl, h'4⟩ := un_i_some.1 h'3
  obtain ⟨w_halved_n, l'5, rfl, h'5⟩ := un_i_some.1 h'4
  obtain ⟨w_halved_is, l'6, rfl, h'6⟩ := un_b_some.1 h'5
  obtain ⟨w_last_n, l'7, rfl, h'7⟩ := un_i_some.1 h'6
  obtain ⟨w_last_is, l'8, rfl, h'8⟩ := un_b_some.1 h'7
  obtain ⟨w_runs, l'9, rfl, h'9⟩ := un_b_some.1 h'8
  obtain ⟨w_due, l'10, rfl, h'10⟩ := un_i_some.1 h'9
  obtain ⟨w_rtt_any, l'11, rfl, h'11⟩ := un_b_some.1 h'10
  obtain ⟨w_rtt_smooth, l'12, rfl, h'12⟩ := un_i_some.1 h'11
  obtain ⟨w_rtt_spread, l'13, rfl, h'13⟩ := un_i_some.1 h'12
  obtain ⟨w_rtt_rto, l'14, rfl, h'14⟩ := un_i_some.1 h'13
  obtain ⟨rfl, h'Z⟩ := un_nil_some.1 h'14
  obtain ⟨l', a', b'⟩ := out_some.1 h'Z
  exact ⟨l', (win_May_Se w_cwnd w_slow w_pipe w_count w_halved_n w_halved_is w_last_n w_last_is w_runs w_due w_rtt_any w_rtt_smooth w_rtt_spread w_rtt_rto).trans a', b'⟩
theorem win_May_c : FnC Go.Proofs.Tryz.prog 87 true 1 2 win_May_in win_May_out win_May_S := by
  refine fn_ok (Λ := win_May_Λ) mixed tab_ok g39 Go.Proofs.Tryz.func87 (by kernel_rfl) (body := fb Go.Proofs.Tryz.f87) rfl (ts := Go.Proofs.Tryz.f87.results.toList) rfl (cuts := []) (by kernel_rfl) (Nat.le_of_ble_eq_true (by kernel_rfl)) (by kernel_rfl) (rt := .w (.at (.bool))) rfl ?_ ?_
  · intro ls' r' h'
    unfold win_May_S at h'
    obtain ⟨w_cwnd, l'1, rfl, h'1⟩ := un_i_some.1 h'
    obtain ⟨w_slow, l'2, rfl, h'2⟩ := un_i_some.1 h'1
    obtain ⟨w_pipe, l'3, rfl, h'3⟩ := un_i_some.1 h'2
    obtain ⟨w_count, l'4, rfl, h'4⟩ := un_i_some.1 h'3
    obtain ⟨w_halved_n, l'5, rfl, h'5⟩ := un_i_some.1 h'4
    obtain ⟨w_halved_is, l'6, rfl, h'6⟩ := un_b_some.1 h'5
    obtain ⟨w_last_n, l'7, rfl, h'7⟩ := un_i_some.1 h'6
    obtain ⟨w_last_is, l'8, rfl, h'8⟩ := un_b_some.1 h'7
    obtain ⟨w_runs, l'9, rfl, h'9⟩ := un_b_some.1 h'8
    obtain ⟨w_due, l'10, rfl, h'10⟩ := un_i_some.1 h'9
    obtain ⟨w_rtt_any, l'11, rfl, h'11⟩ := un_b_some.1 h'10
    obtain ⟨w_rtt_smooth, l'12, rfl, h'12⟩ := un_i_some.1 h'11
    obtain ⟨w_rtt_spread, l'13, rfl, h'13⟩ := un_i_some.1 h'12
    obtain ⟨w_rtt_rto, l'14, rfl, h'14⟩ := un_i_some.1 h'13
    obtain ⟨rfl, h'Z⟩ := un_nil_some.1 h'14
    exact (win_May_e w_cwnd w_slow w_pipe w_count w_halved_n w_halved_is w_last_n w_last_is w_runs w_due w_rtt_any w_rtt_smooth w_rtt_spread w_rtt_rto).symm.trans h'Z
  · intro E w0 ws ρ0 hk b hb
    rw [show loopsOf (fb Go.Proofs.Tryz.f87) = [] by kernel_rfl] at hb
    cases hb
noncomputable def G40 : Env := G39.addP 87 1 win_May_in win_May_out win_May_SC
theorem g40 : EnvOk Go.Proofs.Tryz.prog G40 := EnvOk.addP g39 win_May_c win_May_says

-- ### win_runsTo: function 115
def win_runsTo_in : Tm := ⟨[.cells 96 [.int .i64, .int .i64, .int .i64, .int .i64, .ptr 1 0, .int .u64, .bool, .int .u64, .bool, .bool, .int .i64], .cells 165 [.bool, .int .i64, .int .i64, .int .i64]], [(0, .w (.at (.ptr 0 0))), (1, .w (.at (.int .i64)))]⟩
def win_runsTo_out : Tm := ⟨[.cells 96 [.int .i64, .int .i64, .int .i64, .int .i64, .ptr 1 0, .int .u64, .bool, .int .u64, .bool, .bool, .int .i64], .cells 165 [.bool, .int .i64, .int .i64, .int .i64]], [(0, .tup [])]⟩

def win_runsTo_Λd : Loops := Loops.none
def win_runsTo_Λ : Loops := win_runsTo_Λd 

theorem win_runsTo_e (w_cwnd : Int) (w_slow : Int) (w_pipe : Int) (w_count : Int) (w_halved_n : Int) (w_halved_is : Bool) (w_last_n : Int) (w_last_is : Bool) (w_runs : Bool) (w_due : Int) (w_rtt_any : Bool) (w_rtt_smooth : Int) (w_rtt_spread : Int) (w_rtt_rto : Int) (now : Int) : win_runsTo w_cwnd w_slow w_pipe w_count w_halved_n w_halved_is w_last_n w_last_is w_runs w_due w_rtt_any w_rtt_smooth w_rtt_spread w_rtt_rto now = den G40 win_runsTo_Λ false tab Go.Proofs.Tryz.f115.ntmps (fun fr H => finish tab 2 Go.Proofs.Tryz.f115.results.toList win_runsTo_out [] fr H some) (fun _ _ _ => none) (fun fr H => finish tab 2 Go.Proofs.Tryz.f115.results.toList win_runsTo_out [] fr H some) 10000 [.code (fb Go.Proofs.Tryz.f115)] (instFr win_runsTo_in [.i w_cwnd, .i w_slow, .i w_pipe, .i w_count, .i w_halved_n, .b w_halved_is, .i w_last_n, .b w_last_is, .b w_runs, .i w_due, .b w_rtt_any, .i w_rtt_smooth, .i w_rtt_spread, .i w_rtt_rto, .i now]) (instH win_runsTo_in [.i w_cwnd, .i w_slow, .i w_pipe, .i w_count, .i w_halved_n, .b w_halved_is, .i w_last_n, .b w_last_is, .b w_runs, .i w_due, .b w_rtt_any, .i w_rtt_smooth, .i w_rtt_spread, .i w_rtt_rto, .i now]) := by kernel_rfl
def win_runsTo_S : List Leaf → Option (List Leaf) := fun ls => un_i ls fun w_cwnd rr => un_i rr fun w_slow rr => un_i rr fun w_pipe rr => un_i rr fun w_count rr => un_i rr fun w_halved_n rr => un_b rr fun w_halved_is rr => un_i rr fun w_last_n rr => un_b rr fun w_last_is rr => un_b rr fun w_runs rr => un_i rr fun w_due rr => un_b rr fun w_rtt_any rr => un_i rr fun w_rtt_smooth rr => un_i rr fun w_rtt_spread rr => un_i rr fun w_rtt_rto rr => un_i rr fun now rr => un_nil rr (win_runsTo w_cwnd w_slow w_pipe w_count w_halved_n w_halved_is w_last_n w_last_is w_runs w_due w_rtt_any w_rtt_smooth w_rtt_spread w_rtt_rto now)
def win_runsTo_SC : Tld := fun ls k' => un_i ls fun w_cwnd rr => un_i rr fun w_slow rr => un_i rr fun w_pipe rr => un_i rr fun w_count rr => un_i rr fun w_halved_n rr => un_b rr fun w_halved_is rr => un_i rr fun w_last_n rr => un_b rr fun w_last_is rr => un_b rr fun w_runs rr => un_i rr fun w_due rr => un_b rr fun w_rtt_any rr => un_i rr fun w_rtt_smooth rr => un_i rr fun w_rtt_spread rr => un_i rr fun w_rtt_rto rr => un_i rr fun now rr => un_nil rr (out (win_runsTo w_cwnd w_slow w_pipe w_count w_halved_n w_halved_is w_last_n w_last_is w_runs w_due w_rtt_any w_rtt_smooth w_rtt_spread w_rtt_rto now) k')
theorem win_runsTo_Se (w_cwnd : Int) (w_slow : Int) (w_pipe : Int) (w_count : Int) (w_halved_n : Int) (w_halved_is : Bool) (w_last_n : Int) (w_last_is : Bool) (w_runs : Bool) (w_due : Int) (w_rtt_any : Bool) (w_rtt_smooth : Int) (w_rtt_spread : Int) (w_rtt_rto : Int) (now : Int) : win_runsTo_S [.i w_cwnd, .i w_slow, .i w_pipe, .i w_count, .i w_halved_n, .b w_halved_is, .i w_last_n, .b w_last_is, .b w_runs, .i w_due, .b w_rtt_any, .i w_rtt_smooth, .i w_rtt_spread, .i w_rtt_rto, .i now] = win_runsTo w_cwnd w_slow w_pipe w_count w_halved_n w_halved_is w_last_n w_last_is w_runs w_due w_rtt_any w_rtt_smooth w_rtt_spread w_rtt_rto now := by
  unfold win_runsTo_S
  simp only [un_i_ev, un_b_ev, un_s_ev, un_li_ev, un_lb_ev, un_ls_ev, un_nil_ev]
theorem win_runsTo_says : Says win_runsTo_SC win_runsTo_S := by
  intro β ls' k' r' h'
  unfold win_runsTo_SC at h'
  obtain ⟨w_cwnd, l'1, rfl, h'1⟩ := un_i_some.1 h'
  obtain ⟨w_slow, l'2, rfl, h'2⟩ := un_i_some.1 h'1
  obtain ⟨w_pipe, l'3, rfl, h'3⟩ := un_i_some.1 h'2
  obtain ⟨w_count, l'4, rfl, h'4⟩ := un_i_some.1 h'3
  obtain ⟨w_halved_n, l'5, rfl, h'5⟩ := un_i_some.1 h'4
  obtain ⟨w_halved_is, l'6, rfl, h'6⟩ := un_b_some.1 h'5
  obtain ⟨w_last_n, l'7, rfl, h'7⟩ := un_i_some.1 h'6
  obtain ⟨w_last_is, l'8, rfl, h'8⟩ := un_b_some.1 h'7
  obtain ⟨w_runs, l'9, rfl, h'9⟩ := un_b_some.1 h'8
  obtain ⟨w_due, l'10, rfl, h'10⟩ := un_i_some.1 h'9
  obtain ⟨w_rtt_any, l'11, rfl, h'11⟩ := un_b_some.1 h'10
  obtain ⟨w_rtt_smooth, l'12, rfl, h'12⟩ := un_i_some.1 h'11
  obtain ⟨w_rtt_spread, l'13, rfl, h'13⟩ := un_i_some.1 h'12
  obtain ⟨w_rtt_rto, l'14, rfl, h'14⟩ := un_i_some.1 h'13
  obtain ⟨now, l'15, rfl, h'15⟩ := un_i_some.1 h'14
  obtain ⟨rfl, h'Z⟩ := un_nil_some.1 h'15
  obtain ⟨l', a', b'⟩ := out_some.1 h'Z
  exact ⟨l', (win_runsTo_Se w_cwnd w_slow w_pipe w_count w_halved_n w_halved_is w_last_n w_last_is w_runs w_due w_rtt_any w_rtt_smooth w_rtt_spread w_rtt_rto now).trans a', b'⟩
theorem win_runsTo_c : FnC Go.Proofs.Tryz.prog 115 false 2 2 win_runsTo_in win_runsTo_out win_runsTo_S := by
  refine fn_ok (Λ := win_runsTo_Λ) mixed tab_ok g40 Go.Proofs.Tryz.func115 (by kernel_rfl) (body := fb Go.Proofs.Tryz.f115) rfl (ts := Go.Proofs.Tryz.f115.results.toList) rfl (cuts := []) (by kernel_rfl) (Nat.le_of_ble_eq_true (by kernel_rfl)) (by kernel_rfl) (rt := .tup []) rfl ?_ ?_
  · intro ls' r' h'
    unfold win_runsTo_S at h'
    obtain ⟨w_cwnd, l'1, rfl, h'1⟩ := un_i_some.1 h'
    obtain ⟨w_slow, l'2, rfl, h'2⟩ := un_i_some.1 h'1
    obtain ⟨w_pipe, l'3, rfl, h'3⟩ := un_i_some.1 h'2
    obtain ⟨w_count, l'4, rfl, h'4⟩ := un_i_some.1 h'3
    obtain ⟨w_halved_n, l'5, rfl, h'5⟩ := un_i_some.1 h'4
    obtain ⟨w_halved_is, l'6, rfl, h'6⟩ := un_b_some.1 h'5
    obtain ⟨w_last_n, l'7, rfl, h'7⟩ := un_i_some.1 h'6
    obtain ⟨w_last_is, l'8, rfl, h'8⟩ := un_b_some.1 h'7
    obtain ⟨w_runs, l'9, rfl, h'9⟩ := un_b_some.1 h'8
    obtain ⟨w_due, l'10, rfl, h'10⟩ := un_i_some.1 h'9
    obtain ⟨w_rtt_any, l'11, rfl, h'11⟩ := un_b_some.1 h'10
    obtain ⟨w_rtt_smooth, l'12, rfl, h'12⟩ := un_i_some.1 h'11
    obtain ⟨w_rtt_spread, l'13, rfl, h'13⟩ := un_i_some.1 h'12
    obtain ⟨w_rtt_rto, l'14, rfl, h'14⟩ := un_i_some.1 h'13
    obtain ⟨now, l'15, rfl, h'15⟩ := un_i_some.1 h'14
    obtain ⟨rfl, h'Z⟩ := un_nil_some.1 h'15
    exact (win_runsTo_e w_cwnd w_slow w_pipe w_count w_halved_n w_halved_is w_last_n w_last_is w_runs w_due w_rtt_any w_rtt_smooth w_rtt_spread w_rtt_rto now).symm.trans h'Z
  · intro E w0 ws ρ0 hk b hb
    rw [show loopsOf (fb Go.Proofs.Tryz.f115) = [] by kernel_rfl] at hb
    cases hb
noncomputable def G41 : Env := G40.addE 115 2 win_runsTo_in win_runsTo_out win_runsTo_SC
theorem g41 : EnvOk Go.Proofs.Tryz.prog G41 := EnvOk.addE g40 win_runsTo_c win_runsTo_says

-- ### win_Sent: function 86
def win_Sent_in : Tm := ⟨[.cells 96 [.int .i64, .int .i64, .int .i64, .int .i64, .ptr 1 0, .int .u64, .bool, .int .u64, .bool, .bool, .int .i64], .cells 165 [.bool, .int .i64, .int .i64, .int .i64]], [(0, .w (.at (.ptr 0 0))), (1, .w (.at (.int .u64))), (2, .w (.at (.int .i64)))]⟩
def win_Sent_out : Tm := ⟨[.cells 96 [.int .i64, .int .i64, .int .i64, .int .i64, .ptr 1 0, .int .u64, .bool, .int .u64, .bool, .bool, .int .i64], .cells 165 [.bool, .int .i64, .int .i64, .int .i64]], [(0, .w (.at (.bool)))]⟩

def win_Sent_Λd : Loops := Loops.none
def win_Sent_Λ : Loops := win_Sent_Λd 

theorem win_Sent_e (w_cwnd : Int) (w_slow : Int) (w_pipe : Int) (w_count : Int) (w_halved_n : Int) (w_halved_is : Bool) (w_last_n : Int) (w_last_is : Bool) (w_runs : Bool) (w_due : Int) (w_rtt_any : Bool) (w_rtt_smooth : Int) (w_rtt_spread : Int) (w_rtt_rto : Int) (n2 : Int) (now : Int) : win_Sent w_cwnd w_slow w_pipe w_count w_halved_n w_halved_is w_last_n w_last_is w_runs w_due w_rtt_any w_rtt_smooth w_rtt_spread w_rtt_rto n2 now = den G41 win_Sent_Λ false tab Go.Proofs.Tryz.f86.ntmps (fun fr H => finish tab 2 Go.Proofs.Tryz.f86.results.toList win_Sent_out [] fr H some) (fun _ _ _ => none) (fun fr H => finish tab 2 Go.Proofs.Tryz.f86.results.toList win_Sent_out [] fr H some) 10000 [.code (fb Go.Proofs.Tryz.f86)] (instFr win_Sent_in [.i w_cwnd, .i w_slow, .i w_pipe, .i w_count, .i w_halved_n, .b w_halved_is, .i w_last_n, .b w_last_is, .b w_runs, .i w_due, .b w_rtt_any, .i w_rtt_smooth, .i w_rtt_spread, .i w_rtt_rto, .i n2, .i now]) (instH win_Sent_in [.i w_cwnd, .i w_slow, .i w_pipe, .i w_count, .i w_halved_n, .b w_halved_is, .i w_last_n, .b w_last_is, .b w_runs, .i w_due, .b w_rtt_any, .i w_rtt_smooth, .i w_rtt_spread, .i w_rtt_rto, .i n2, .i now]) := by kernel_rfl
def win_Sent_S : List Leaf → Option (List Leaf) := fun ls => un_i ls fun w_cwnd rr => un_i rr fun w_slow rr => un_i rr fun w_pipe rr => un_i rr fun w_count rr => un_i rr fun w_halved_n rr => un_b rr fun w_halved_is rr => un_i rr fun w_last_n rr => un_b rr fun w_last_is rr => un_b rr fun w_runs rr => un_i rr fun w_due rr => un_b rr fun w_rtt_any rr => un_i rr fun w_rtt_smooth rr => un_i rr fun w_rtt_spread rr => un_i rr fun w_rtt_rto rr => un_i rr fun n2 rr => un_i rr fun now rr => un_nil rr (win_Sent w_cwnd w_slow w_pipe w_count w_halved_n w_halved_is w_last_n w_last_is w_runs w_due w_rtt_any w_rtt_smooth w_rtt_spread w_rtt_rto n2 now)
def win_Sent_SC : Tld := fun ls k' => un_i ls fun w_cwnd rr => un_i rr fun w_slow rr => un_i rr fun w_pipe rr => un_i rr fun w_count rr => un_i rr fun w_halved_n rr => un_b rr fun w_halved_is rr => un_i rr fun w_last_n rr => un_b rr fun w_last_is rr => un_b rr fun w_runs rr => un_i rr fun w_due rr => un_b rr fun w_rtt_any rr => un_i rr fun w_rtt_smooth rr => un_i rr fun w_rtt_spread rr => un_i rr fun w_rtt_rto rr => un_i rr fun n2 rr => un_i rr fun now rr => un_nil rr (out (win_Sent w_cwnd w_slow w_pipe w_count w_halved_n w_halved_is w_last_n w_last_is w_runs w_due w_rtt_any w_rtt_smooth w_rtt_spread w_rtt_rto n2 now) k')
theorem win_Sent_Se (w_cwnd : Int) (w_slow : Int) (w_pipe : Int) (w_count : Int) (w_halved_n : Int) (w_halved_is : Bool) (w_last_n : Int) (w_last_is : Bool) (w_runs : Bool) (w_due : Int) (w_rtt_any : Bool) (w_rtt_smooth : Int) (w_rtt_spread : Int) (w_rtt_rto : Int) (n2 : Int) (now : Int) : win_Sent_S [.i w_cwnd, .i w_slow, .i w_pipe, .i w_count, .i w_halved_n, .b w_halved_is, .i w_last_n, .b w_last_is, .b w_runs, .i w_due, .b w_rtt_any, .i w_rtt_smooth, .i w_rtt_spread, .i w_rtt_rto, .i n2, .i now] = win_Sent w_cwnd w_slow w_pipe w_count w_halved_n w_halved_is w_last_n w_last_is w_runs w_due w_rtt_any w_rtt_smooth w_rtt_spread w_rtt_rto n2 now := by
  unfold win_Sent_S
  simp only [un_i_ev, un_b_ev, un_s_ev, un_li_ev, un_lb_ev, un_ls_ev, un_nil_ev]
theorem win_Sent_says : Says win_Sent_SC win_Sent_S := by
  intro β ls' k' r' h'
  unfold win_Sent_SC at h'
  obtain ⟨w_cwnd, l'1, rfl, h'1⟩ := un_i_some.1 h'
  obtain ⟨w_slow, l'2, rfl, h'2⟩ := un_i_some.1 h'1
  obtain ⟨w_pipe, l'3, rfl, h'3⟩ := un_i_some.1 h'2
  obtain ⟨w_count, l'4, rfl, h'4⟩ := un_i_some.1 h'3
  obtain ⟨w_halved_n, l'5, rfl, h'5⟩ := un_i_some.1 h'4
  obtain ⟨w_halved_is, l'6, rfl, h'6⟩ := un_b_some.1 h'5
  obtain ⟨w_last_n, l'7, rfl, h'7⟩ := un_i_some.1 h'6
  obtain ⟨w_last_is, l'8, rfl, h'8⟩ := un_b_some.1 h'7
  obtain ⟨w_runs, l'9, rfl, h'9⟩ := un_b_some.1 h'8
  obtain ⟨w_due, l'10, rfl, h'10⟩ := un_i_some.1 h'9
  obtain ⟨w_rtt_any, l'11, rfl, h'11⟩ := un_b_some.1 h'10
  obtain ⟨w_rtt_smooth, l'12, rfl, h'12⟩ := un_i_some.1 h'11
  obtain ⟨w_rtt_spread, l'13, rfl, h'13⟩ := un_i_some.1 h'12
  obtain ⟨w_rtt_rto, l'14, rfl, h'14⟩ := un_i_some.1 h'13
  obtain ⟨n2, l'15, rfl, h'15⟩ := un_i_some.1 h'14
  obtain ⟨now, l'16, rfl, h'16⟩ := un_i_some.1 h'15
  obtain ⟨rfl, h'Z⟩ := un_nil_some.1 h'16
  obtain ⟨l', a', b'⟩ := out_some.1 h'Z
  exact ⟨l', (win_Sent_Se w_cwnd w_slow w_pipe w_count w_halved_n w_halved_is w_last_n w_last_is w_runs w_due w_rtt_any w_rtt_smooth w_rtt_spread w_rtt_rto n2 now).trans a', b'⟩
theorem win_Sent_c : FnC Go.Proofs.Tryz.prog 86 false 3 2 win_Sent_in win_Sent_out win_Sent_S := by
  refine fn_ok (Λ := win_Sent_Λ) mixed tab_ok g41 Go.Proofs.Tryz.func86 (by kernel_rfl) (body := fb Go.Proofs.Tryz.f86) rfl (ts := Go.Proofs.Tryz.f86.results.toList) rfl (cuts := []) (by kernel_rfl) (Nat.le_of_ble_eq_true (by kernel_rfl)) (by kernel_rfl) (rt := .w (.at (.bool))) rfl ?_ ?_
  · intro ls' r' h'
    unfold win_Sent_S at h'
    obtain ⟨w_cwnd, l'1, rfl, h'1⟩ := un_i_some.1 h'
    obtain ⟨w_slow, l'2, rfl, h'2⟩ := un_i_some.1 h'1
    obtain ⟨w_pipe, l'3, rfl, h'3⟩ := un_i_some.1 h'2
    obtain ⟨w_count, l'4, rfl, h'4⟩ := un_i_some.1 h'3
    obtain ⟨w_halved_n, l'5, rfl, h'5⟩ := un_i_some.1 h'4
    obtain ⟨w_halved_is, l'6, rfl, h'6⟩ := un_b_some.1 h'5
    obtain ⟨w_last_n, l'7, rfl, h'7⟩ := un_i_some.1 h'6
    obtain ⟨w_last_is, l'8, rfl, h'8⟩ := un_b_some.1 h'7
    obtain ⟨w_runs, l'9, rfl, h'9⟩ := un_b_some.1 h'8
    obtain ⟨w_due, l'10, rfl, h'10⟩ := un_i_some.1 h'9
    obtain ⟨w_rtt_any, l'11, rfl, h'11⟩ := un_b_some.1 h'10
    obtain ⟨w_rtt_smooth, l'12, rfl, h'12⟩ := un_i_some.1 h'11
    obtain ⟨w_rtt_spread, l'13, rfl, h'13⟩ := un_i_some.1 h'12
    obtain ⟨w_rtt_rto, l'14, rfl, h'14⟩ := un_i_some.1 h'13
    obtain ⟨n2, l'15, rfl, h'15⟩ := un_i_some.1 h'14
    obtain ⟨now, l'16, rfl, h'16⟩ := un_i_some.1 h'15
    obtain ⟨rfl, h'Z⟩ := un_nil_some.1 h'16
    exact (win_Sent_e w_cwnd w_slow w_pipe w_count w_halved_n w_halved_is w_last_n w_last_is w_runs w_due w_rtt_any w_rtt_smooth w_rtt_spread w_rtt_rto n2 now).symm.trans h'Z
  · intro E w0 ws ρ0 hk b hb
    rw [show loopsOf (fb Go.Proofs.Tryz.f86) = [] by kernel_rfl] at hb
    cases hb
noncomputable def G42 : Env := G41.addE 86 3 win_Sent_in win_Sent_out win_Sent_SC
theorem g42 : EnvOk Go.Proofs.Tryz.prog G42 := EnvOk.addE g41 win_Sent_c win_Sent_says

-- ### win_halve: function 242
def win_halve_in : Tm := ⟨[.cells 96 [.int .i64, .int .i64, .int .i64, .int .i64, .ptr 1 0, .int .u64, .bool, .int .u64, .bool, .bool, .int .i64], .cells 165 [.bool, .int .i64, .int .i64, .int .i64]], [(0, .w (.at (.ptr 0 0)))]⟩
def win_halve_out : Tm := ⟨[.cells 96 [.int .i64, .int .i64, .int .i64, .int .i64, .ptr 1 0, .int .u64, .bool, .int .u64, .bool, .bool, .int .i64], .cells 165 [.bool, .int .i64, .int .i64, .int .i64]], [(0, .tup [])]⟩

def win_halve_Λd : Loops := Loops.none
def win_halve_Λ : Loops := win_halve_Λd 

theorem win_halve_e (w_cwnd : Int) (w_slow : Int) (w_pipe : Int) (w_count : Int) (w_halved_n : Int) (w_halved_is : Bool) (w_last_n : Int) (w_last_is : Bool) (w_runs : Bool) (w_due : Int) (w_rtt_any : Bool) (w_rtt_smooth : Int) (w_rtt_spread : Int) (w_rtt_rto : Int) : win_halve w_cwnd w_slow w_pipe w_count w_halved_n w_halved_is w_last_n w_last_is w_runs w_due w_rtt_any w_rtt_smooth w_rtt_spread w_rtt_rto = den G42 win_halve_Λ false tab Go.Proofs.Tryz.f242.ntmps (fun fr H => finish tab 2 Go.Proofs.Tryz.f242.results.toList win_halve_out [] fr H some) (fun _ _ _ => none) (fun fr H => finish tab 2 Go.Proofs.Tryz.f242.results.toList win_halve_out [] fr H some) 10000 [.code (fb Go.Proofs.Tryz.f242)] (instFr win_halve_in [.i w_cwnd, .i w_slow, .i w_pipe, .i w_count, .i w_halved_n, .b w_halved_is, .i w_last_n, .b w_last_is, .b w_runs, .i w_due, .b w_rtt_any, .i w_rtt_smooth, .i w_rtt_spread, .i w_rtt_rto]) (instH win_halve_in [.i w_cwnd, .i w_slow, .i w_pipe, .i w_count, .i w_halved_n, .b w_halved_is, .i w_last_n, .b w_last_is, .b w_runs, .i w_due, .b w_rtt_any, .i w_rtt_smooth, .i w_rtt_spread, .i w_rtt_rto]) := by kernel_rfl
def win_halve_S : List Leaf → Option (List Leaf) := fun ls => un_i ls fun w_cwnd rr => un_i rr fun w_slow rr => un_i rr fun w_pipe rr => un_i rr fun w_count rr => un_i rr fun w_halved_n rr => un_b rr fun w_halved_is rr => un_i rr fun w_last_n rr => un_b rr fun w_last_is rr => un_b rr fun w_runs rr => un_i rr fun w_due rr => un_b rr fun w_rtt_any rr => un_i rr fun w_rtt_smooth rr => un_i rr fun w_rtt_spread rr => un_i rr fun w_rtt_rto rr => un_nil rr (win_halve w_cwnd w_slow w_pipe w_count w_halved_n w_halved_is w_last_n w_last_is w_runs w_due w_rtt_any w_rtt_smooth w_rtt_spread w_rtt_rto)
def win_halve_SC : Tld := fun ls k' => un_i ls fun w_cwnd rr => un_i rr fun w_slow rr => un_i rr fun w_pipe rr => un_i rr fun w_count rr => un_i rr fun w_halved_n rr => un_b rr fun w_halved_is rr => un_i rr fun w_last_n rr => un_b rr fun w_last_is rr => un_b rr fun w_runs rr => un_i rr fun w_due rr => un_b rr fun w_rtt_any rr => un_i rr fun w_rtt_smooth rr => un_i rr fun w_rtt_spread rr => un_i rr fun w_rtt_rto rr => un_nil rr (out (win_halve w_cwnd w_slow w_pipe w_count w_halved_n w_halved_is w_last_n w_last_is w_runs w_due w_rtt_any w_rtt_smooth w_rtt_spread w_rtt_rto) k')
theorem win_halve_Se (w_cwnd : Int) (w_slow : Int) (w_pipe : Int) (w_count : Int) (w_halved_n : Int) (w_halved_is : Bool) (w_last_n : Int) (w_last_is : Bool) (w_runs : Bool) (w_due : Int) (w_rtt_any : Bool) (w_rtt_smooth : Int) (w_rtt_spread : Int) (w_rtt_rto : Int) : win_halve_S [.i w_cwnd, .i w_slow, .i w_pipe, .i w_count, .i w_halved_n, .b w_halved_is, .i w_last_n, .b w_last_is, .b w_runs, .i w_due, .b w_rtt_any, .i w_rtt_smooth, .i w_rtt_spread, .i w_rtt_rto] = win_halve w_cwnd w_slow w_pipe w_count w_halved_n w_halved_is w_last_n w_last_is w_runs w_due w_rtt_any w_rtt_smooth w_rtt_spread w_rtt_rto := by
  unfold win_halve_S
  simp only [un_i_ev, un_b_ev, un_s_ev, un_li_ev, un_lb_ev, un_ls_ev, un_nil_ev]
theorem win_halve_says : Says win_halve_SC win_halve_S := by
  intro β ls' k' r' h'
  unfold win_halve_SC at h'
  obtain ⟨w_cwnd, l'1, rfl, h'1⟩ := un_i_some.1 h'
  obtain ⟨w_slow, l'2, rfl, h'2⟩ := un_i_some.1 h'1
  obtain ⟨w_pipe, l'3, rfl, h'3⟩ := un_i_some.1 h'2
  obtain ⟨w_count, l'4, rfl, h'4⟩ := un_i_some.1 h'3
  obtain ⟨w_halved_n, l'5, rfl, h'5⟩ := un_i_some.1 h'4
  obtain ⟨w_halved_is, l'6, rfl, h'6⟩ := un_b_some.1 h'5
  obtain ⟨w_last_n, l'7, rfl, h'7⟩ := un_i_some.1 h'6
  obtain ⟨w_last_is, l'8, rfl, h'8⟩ := un_b_some.1 h'7
  obtain ⟨w_runs, l'9, rfl, h'9⟩ := un_b_some.1 h'8
  obtain ⟨w_due, l'10, rfl, h'10⟩ := un_i_some.1 h'9
  obtain ⟨w_rtt_any, l'11, rfl, h'11⟩ := un_b_some.1 h'10
  obtain ⟨w_rtt_smooth, l'12, rfl, h'12⟩ := un_i_some.1 h'11
  obtain ⟨w_rtt_spread, l'13, rfl, h'13⟩ := un_i_some.1 h'12
  obtain ⟨w_rtt_rto, l'14, rfl, h'14⟩ := un_i_some.1 h'13
  obtain ⟨rfl, h'Z⟩ := un_nil_some.1 h'14
  obtain ⟨l', a', b'⟩ := out_some.1 h'Z
  exact ⟨l', (win_halve_Se w_cwnd w_slow w_pipe w_count w_halved_n w_halved_is w_last_n w_last_is w_runs w_due w_rtt_any w_rtt_smooth w_rtt_spread w_rtt_rto).trans a', b'⟩
theorem win_halve_c : FnC Go.Proofs.Tryz.prog 242 false 1 2 win_halve_in win_halve_out win_halve_S := by
  refine fn_ok (Λ := win_halve_Λ) mixed tab_ok g42 Go.Proofs.Tryz.func242 (by kernel_rfl) (body := fb Go.Proofs.Tryz.f242) rfl (ts := Go.Proofs.Tryz.f242.results.toList) rfl (cuts := []) (by kernel_rfl) (Nat.le_of_ble_eq_true (by kernel_rfl)) (by kernel_rfl) (rt := .tup []) rfl ?_ ?_
  · intro ls' r' h'
    unfold win_halve_S at h'
    obtain ⟨w_cwnd, l'1, rfl, h'1⟩ := un_i_some.1 h'
    obtain ⟨w_slow, l'2, rfl, h'2⟩ := un_i_some.1 h'1
    obtain ⟨w_pipe, l'3, rfl, h'3⟩ := un_i_some.1 h'2
    obtain ⟨w_count, l'4, rfl, h'4⟩ := un_i_some.1 h'3
    obtain ⟨w_halved_n, l'5, rfl, h'5⟩ := un_i_some.1 h'4
    obtain ⟨w_halved_is, l'6, rfl, h'6⟩ := un_b_some.1 h'5
    obtain ⟨w_last_n, l'7, rfl, h'7⟩ := un_i_some.1 h'6
    obtain ⟨w_last_is, l'8, rfl, h'8⟩ := un_b_some.1 h'7
    obtain ⟨w_runs, l'9, rfl, h'9⟩ := un_b_some.1 h'8
    obtain ⟨w_due, l'10, rfl, h'10⟩ := un_i_some.1 h'9
    obtain ⟨w_rtt_any, l'11, rfl, h'11⟩ := un_b_some.1 h'10
    obtain ⟨w_rtt_smooth, l'12, rfl, h'12⟩ := un_i_some.1 h'11
    obtain ⟨w_rtt_spread, l'13, rfl, h'13⟩ := un_i_some.1 h'12
    obtain ⟨w_rtt_rto, l'14, rfl, h'14⟩ := un_i_some.1 h'13
    obtain ⟨rfl, h'Z⟩ := un_nil_some.1 h'14
    exact (win_halve_e w_cwnd w_slow w_pipe w_count w_halved_n w_halved_is w_last_n w_last_is w_runs w_due w_rtt_any w_rtt_smooth w_rtt_spread w_rtt_rto).symm.trans h'Z
  · intro E w0 ws ρ0 hk b hb
    rw [show loopsOf (fb Go.Proofs.Tryz.f242) = [] by kernel_rfl] at hb
    cases hb
noncomputable def G43 : Env := G42.addE 242 1 win_halve_in win_halve_out win_halve_SC
theorem g43 : EnvOk Go.Proofs.Tryz.prog G43 := EnvOk.addE g42 win_halve_c win_halve_says

-- ### win_Due: function 88
def win_Due_in : Tm := ⟨[.cells 96 [.int .i64, .int .i64, .int .i64, .int .i64, .ptr 1 0, .int .u64, .bool, .int .u64, .bool, .bool, .int .i64], .cells 165 [.bool, .int .i64, .int .i64, .int .i64]], [(0, .w (.at (.ptr 0 0)))]⟩
def win_Due_out : Tm := ⟨[.dead, .dead], [(0, .tup [.at (.int .i64), .at (.bool)])]⟩

def win_Due_Λd : Loops := Loops.none
def win_Due_Λ : Loops := win_Due_Λd 

theorem win_Due_e (w_cwnd : Int) (w_slow : Int) (w_pipe : Int) (w_count : Int) (w_halved_n : Int) (w_halved_is : Bool) (w_last_n : Int) (w_last_is : Bool) (w_runs : Bool) (w_due : Int) (w_rtt_any : Bool) (w_rtt_smooth : Int) (w_rtt_spread : Int) (w_rtt_rto : Int) : win_Due w_cwnd w_slow w_pipe w_count w_halved_n w_halved_is w_last_n w_last_is w_runs w_due w_rtt_any w_rtt_smooth w_rtt_spread w_rtt_rto = den G43 win_Due_Λ true tab Go.Proofs.Tryz.f88.ntmps (fun fr H => finish tab 2 Go.Proofs.Tryz.f88.results.toList win_Due_out [] fr H some) (fun _ _ _ => none) (fun fr H => finish tab 2 Go.Proofs.Tryz.f88.results.toList win_Due_out [] fr H some) 10000 [.code (fb Go.Proofs.Tryz.f88)] (instFr win_Due_in [.i w_cwnd, .i w_slow, .i w_pipe, .i w_count, .i w_halved_n, .b w_halved_is, .i w_last_n, .b w_last_is, .b w_runs, .i w_due, .b w_rtt_any, .i w_rtt_smooth, .i w_rtt_spread, .i w_rtt_rto]) (instH win_Due_in [.i w_cwnd, .i w_slow, .i w_pipe, .i w_count, .i w_halved_n, .b w_halved_is, .i w_last_n, .b w_last_is, .b w_runs, .i w_due, .b w_rtt_any, .i w_rtt_smooth, .i w_rtt_spread, .i w_rtt_rto]) := by kernel_rfl
def win_Due_S : List Leaf → Option (List Leaf) := fun ls => un_i ls fun w_cwnd rr => un_i rr fun w_slow rr => un_i rr fun w_pipe rr => un_i rr fun w_count rr => un_i rr fun w_halved_n rr => un_b rr fun w_halved_is rr => un_i rr fun w_last_n rr => un_b rr fun w_last_is rr => un_b rr fun w_runs rr => un_i rr fun w_due rr => un_b rr fun w_rtt_any rr => un_i rr fun w_rtt_smooth rr => un_i rr fun w_rtt_spread rr => un_i rr fun w_rtt_rto rr => un_nil rr (win_Due w_cwnd w_slow w_pipe w_count w_halved_n w_halved_is w_last_n w_last_is w_runs w_due w_rtt_any w_rtt_smooth w_rtt_spread w_rtt_rto)
def win_Due_SC : Tld := fun ls k' => un_i ls fun w_cwnd rr => un_i rr fun w_slow rr => un_i rr fun w_pipe rr => un_i rr fun w_count rr => un_i rr fun w_halved_n rr => un_b rr fun w_halved_is rr => un_i rr fun w_last_n rr => un_b rr fun w_last_is rr => un_b rr fun w_runs rr => un_i rr fun w_due rr => un_b rr fun w_rtt_any rr => un_i rr fun w_rtt_smooth rr => un_i rr fun w_rtt_spread rr => un_i rr fun w_rtt_rto rr => un_nil rr (out (win_Due w_cwnd w_slow w_pipe w_count w_halved_n w_halved_is w_last_n w_last_is w_runs w_due w_rtt_any w_rtt_smooth w_rtt_spread w_rtt_rto) k')
theorem win_Due_Se (w_cwnd : Int) (w_slow : Int) (w_pipe : Int) (w_count : Int) (w_halved_n : Int) (w_halved_is : Bool) (w_last_n : Int) (w_last_is : Bool) (w_runs : Bool) (w_due : Int) (w_rtt_any : Bool) (w_rtt_smooth : Int) (w_rtt_spread : Int) (w_rtt_rto : Int) : win_Due_S [.i w_cwnd, .i w_slow, .i w_pipe, .i w_count, .i w_halved_n, .b w_halved_is, .i w_last_n, .b w_last_is, .b w_runs, .i w_due, .b w_rtt_any, .i w_rtt_smooth, .i w_rtt_spread, .i w_rtt_rto] = win_Due w_cwnd w_slow w_pipe w_count w_halved_n w_halved_is w_last_n w_last_is w_runs w_due w_rtt_any w_rtt_smooth w_rtt_spread w_rtt_rto := by
  unfold win_Due_S
  simp only [un_i_ev, un_b_ev, un_s_ev, un_li_ev, un_lb_ev, un_ls_ev, un_nil_ev]
theorem win_Due_says : Says win_Due_SC win_Due_S := by
  intro β ls' k' r' h'
  unfold win_Due_SC at h'
  obtain ⟨w_cwnd, l'1, rfl, h'1⟩ := un_i_some.1 h'
  obtain ⟨w_slow, l'2, rfl, h'2⟩ := un_i_some.1 h'1
  obtain ⟨w_pipe, l'3, rfl, h'3⟩ := un_i_some.1 h'2
  obtain ⟨w_count, l'4, rfl, h'4⟩ := un_i_some.1 h'3
  obtain ⟨w_halved_n, l'5, rfl, h'5⟩ := un_i_some.1 h'4
  obtain ⟨w_halved_is, l'6, rfl, h'6⟩ := un_b_some.1 h'5
  obtain ⟨w_last_n, l'7, rfl, h'7⟩ := un_i_some.1 h'6
  obtain ⟨w_last_is, l'8, rfl, h'8⟩ := un_b_some.1 h'7
  obtain ⟨w_runs, l'9, rfl, h'9⟩ := un_b_some.1 h'8
  obtain ⟨w_due, l'10, rfl, h'10⟩ := un_i_some.1 h'9
  obtain ⟨w_rtt_any, l'11, rfl, h'11⟩ := un_b_some.1 h'10
  obtain ⟨w_rtt_smooth, l'12, rfl, h'12⟩ := un_i_some.1 h'11
  obtain ⟨w_rtt_spread, l'13, rfl, h'13⟩ := un_i_some.1 h'12
  obtain ⟨w_rtt_rto, l'14, rfl, h'14⟩ := un_i_some.1 h'13
  obtain ⟨rfl, h'Z⟩ := un_nil_some.1 h'14
  obtain ⟨l', a', b'⟩ := out_some.1 h'Z
  exact ⟨l', (win_Due_Se w_cwnd w_slow w_pipe w_count w_halved_n w_halved_is w_last_n w_last_is w_runs w_due w_rtt_any w_rtt_smooth w_rtt_spread w_rtt_rto).trans a', b'⟩
theorem win_Due_c : FnC Go.Proofs.Tryz.prog 88 true 1 2 win_Due_in win_Due_out win_Due_S := by
  refine fn_ok (Λ := win_Due_Λ) mixed tab_ok g43 Go.Proofs.Tryz.func88 (by kernel_rfl) (body := fb Go.Proofs.Tryz.f88) rfl (ts := Go.Proofs.Tryz.f88.results.toList) rfl (cuts := []) (by kernel_rfl) (Nat.le_of_ble_eq_true (by kernel_rfl)) (by kernel_rfl) (rt := .tup [.at (.int .i64), .at (.bool)]) rfl ?_ ?_
  · intro ls' r' h'
    unfold win_Due_S at h'
    obtain ⟨w_cwnd, l'1, rfl, h'1⟩ := un_i_some.1 h'
    obtain ⟨w_slow, l'2, rfl, h'2⟩ := un_i_some.1 h'1
    obtain ⟨w_pipe, l'3, rfl, h'3⟩ := un_i_some.1 h'2
    obtain ⟨w_count, l'4, rfl, h'4⟩ := un_i_some.1 h'3
    obtain ⟨w_halved_n, l'5, rfl, h'5⟩ := un_i_some.1 h'4
    obtain ⟨w_halved_is, l'6, rfl, h'6⟩ := un_b_some.1 h'5
    obtain ⟨w_last_n, l'7, rfl, h'7⟩ := un_i_some.1 h'6
    obtain ⟨w_last_is, l'8, rfl, h'8⟩ := un_b_some.1 h'7
    obtain ⟨w_runs, l'9, rfl, h'9⟩ := un_b_some.1 h'8
    obtain ⟨w_due, l'10, rfl, h'10⟩ := un_i_some.1 h'9
    obtain ⟨w_rtt_any, l'11, rfl, h'11⟩ := un_b_some.1 h'10
    obtain ⟨w_rtt_smooth, l'12, rfl, h'12⟩ := un_i_some.1 h'11
    obtain ⟨w_rtt_spread, l'13, rfl, h'13⟩ := un_i_some.1 h'12
    obtain ⟨w_rtt_rto, l'14, rfl, h'14⟩ := un_i_some.1 h'13
    obtain ⟨rfl, h'Z⟩ := un_nil_some.1 h'14
    exact (win_Due_e w_cwnd w_slow w_pipe w_count w_halved_n w_halved_is w_last_n w_last_is w_runs w_due w_rtt_any w_rtt_smooth w_rtt_spread w_rtt_rto).symm.trans h'Z
  · intro E w0 ws ρ0 hk b hb
    rw [show loopsOf (fb Go.Proofs.Tryz.f88) = [] by kernel_rfl] at hb
    cases hb
noncomputable def G44 : Env := G43.addP 88 1 win_Due_in win_Due_out win_Due_SC
theorem g44 : EnvOk Go.Proofs.Tryz.prog G44 := EnvOk.addP g43 win_Due_c win_Due_says

-- ### win_Fire: function 241
def win_Fire_in : Tm := ⟨[.cells 96 [.int .i64, .int .i64, .int .i64, .int .i64, .ptr 1 0, .int .u64, .bool, .int .u64, .bool, .bool, .int .i64], .cells 165 [.bool, .int .i64, .int .i64, .int .i64]], [(0, .w (.at (.ptr 0 0))), (1, .w (.at (.int .i64)))]⟩
def win_Fire_out : Tm := ⟨[.cells 96 [.int .i64, .int .i64, .int .i64, .int .i64, .ptr 1 0, .int .u64, .bool, .int .u64, .bool, .bool, .int .i64], .cells 165 [.bool, .int .i64, .int .i64, .int .i64]], [(0, .w (.at (.bool)))]⟩

def win_Fire_Λd : Loops := Loops.none
def win_Fire_Λ : Loops := win_Fire_Λd 

theorem win_Fire_e (w_cwnd : Int) (w_slow : Int) (w_pipe : Int) (w_count : Int) (w_halved_n : Int) (w_halved_is : Bool) (w_last_n : Int) (w_last_is : Bool) (w_runs : Bool) (w_due : Int) (w_rtt_any : Bool) (w_rtt_smooth : Int) (w_rtt_spread : Int) (w_rtt_rto : Int) (now : Int) : win_Fire w_cwnd w_slow w_pipe w_count w_halved_n w_halved_is w_last_n w_last_is w_runs w_due w_rtt_any w_rtt_smooth w_rtt_spread w_rtt_rto now = den G44 win_Fire_Λ false tab Go.Proofs.Tryz.f241.ntmps (fun fr H => finish tab 2 Go.Proofs.Tryz.f241.results.toList win_Fire_out [] fr H some) (fun _ _ _ => none) (fun fr H => finish tab 2 Go.Proofs.Tryz.f241.results.toList win_Fire_out [] fr H some) 10000 [.code (fb Go.Proofs.Tryz.f241)] (instFr win_Fire_in [.i w_cwnd, .i w_slow, .i w_pipe, .i w_count, .i w_halved_n, .b w_halved_is, .i w_last_n, .b w_last_is, .b w_runs, .i w_due, .b w_rtt_any, .i w_rtt_smooth, .i w_rtt_spread, .i w_rtt_rto, .i now]) (instH win_Fire_in [.i w_cwnd, .i w_slow, .i w_pipe, .i w_count, .i w_halved_n, .b w_halved_is, .i w_last_n, .b w_last_is, .b w_runs, .i w_due, .b w_rtt_any, .i w_rtt_smooth, .i w_rtt_spread, .i w_rtt_rto, .i now]) := by kernel_rfl
def win_Fire_S : List Leaf → Option (List Leaf) := fun ls => un_i ls fun w_cwnd rr => un_i rr fun w_slow rr => un_i rr fun w_pipe rr => un_i rr fun w_count rr => un_i rr fun w_halved_n rr => un_b rr fun w_halved_is rr => un_i rr fun w_last_n rr => un_b rr fun w_last_is rr => un_b rr fun w_runs rr => un_i rr fun w_due rr => un_b rr fun w_rtt_any rr => un_i rr fun w_rtt_smooth rr => un_i rr fun w_rtt_spread rr => un_i rr fun w_rtt_rto rr => un_i rr fun now rr => un_nil rr (win_Fire w_cwnd w_slow w_pipe w_count w_halved_n w_halved_is w_last_n w_last_is w_runs w_due w_rtt_any w_rtt_smooth w_rtt_spread w_rtt_rto now)
def win_Fire_SC : Tld := fun ls k' => un_i ls fun w_cwnd rr => un_i rr fun w_slow rr => un_i rr fun w_pipe rr => un_i rr fun w_count rr => un_i rr fun w_halved_n rr => un_b rr fun w_halved_is rr => un_i rr fun w_last_n rr => un_b rr fun w_last_is rr => un_b rr fun w_runs rr => un_i rr fun w_due rr => un_b rr fun w_rtt_any rr => un_i rr fun w_rtt_smooth rr => un_i rr fun w_rtt_spread rr => un_i rr fun w_rtt_rto rr => un_i rr fun now rr => un_nil rr (out (win_Fire w_cwnd w_slow w_pipe w_count w_halved_n w_halved_is w_last_n w_last_is w_runs w_due w_rtt_any w_rtt_smooth w_rtt_spread w_rtt_rto now) k')
theorem win_Fire_Se (w_cwnd : Int) (w_slow : Int) (w_pipe : Int) (w_count : Int) (w_halved_n : Int) (w_halved_is : Bool) (w_last_n : Int) (w_last_is : Bool) (w_runs : Bool) (w_due : Int) (w_rtt_any : Bool) (w_rtt_smooth : Int) (w_rtt_spread : Int) (w_rtt_rto : Int) (now : Int) : win_Fire_S [.i w_cwnd, .i w_slow, .i w_pipe, .i w_count, .i w_halved_n, .b w_halved_is, .i w_last_n, .b w_last_is, .b w_runs, .i w_due, .b w_rtt_any, .i w_rtt_smooth, .i w_rtt_spread, .i w_rtt_rto, .i now] = win_Fire w_cwnd w_slow w_pipe w_count w_halved_n w_halved_is w_last_n w_last_is w_runs w_due w_rtt_any w_rtt_smooth w_rtt_spread w_rtt_rto now := by
  unfold win_Fire_S
  simp only [un_i_ev, un_b_ev, un_s_ev, un_li_ev, un_lb_ev, un_ls_ev, un_nil_ev]
theorem win_Fire_says : Says win_Fire_SC win_Fire_S := by
  intro β ls' k' r' h'
  unfold win_Fire_SC at h'
  obtain ⟨w_cwnd, l'1, rfl, h'1⟩ := un_i_some.1 h'
  obtain ⟨w_slow, l'2, rfl, h'2⟩ := un_i_some.1 h'1
  obtain ⟨w_pipe, l'3, rfl, h'3⟩ := un_i_some.1 h'2
  obtain ⟨w_count, l'4, rfl, h'4⟩ := un_i_some.1 h'3
  obtain ⟨w_halved_n, l'5, rfl, h'5⟩ := un_i_some.1 h'4
  obtain ⟨w_halved_is, l'6, rfl, h'6⟩ := un_b_some.1 h'5
  obtain ⟨w_last_n, l'7, rfl, h'7⟩ := un_i_some.1 h'6
  obtain ⟨w_last_is, l'8, rfl, h'8⟩ := un_b_some.1 h'7
  obtain ⟨w_runs, l'9, rfl, h'9⟩ := un_b_some.1 h'8
  obtain ⟨w_due, l'10, rfl, h'10⟩ := un_i_some.1 h'9
  obtain ⟨w_rtt_any, l'11, rfl, h'11⟩ := un_b_some.1 h'10
  obtain ⟨w_rtt_smooth, l'12, rfl, h'12⟩ := un_i_some.1 h'11
  obtain ⟨w_rtt_spread, l'13, rfl, h'13⟩ := un_i_some.1 h'12
  obtain ⟨w_rtt_rto, l'14, rfl, h'14⟩ := un_i_some.1 h'13
  obtain ⟨now, l'15, rfl, h'15⟩ := un_i_some.1 h'14
  obtain ⟨rfl, h'Z⟩ := un_nil_some.1 h'15
  obtain ⟨l', a', b'⟩ := out_some.1 h'Z
  exact ⟨l', (win_Fire_Se w_cwnd w_slow w_pipe w_count w_halved_n w_halved_is w_last_n w_last_is w_runs w_due w_rtt_any w_rtt_smooth w_rtt_spread w_rtt_rto now).trans a', b'⟩
theorem win_Fire_c : FnC Go.Proofs.Tryz.prog 241 false 2 2 win_Fire_in win_Fire_out win_Fire_S := by
  refine fn_ok (Λ := win_Fire_Λ) mixed tab_ok g44 Go.Proofs.Tryz.func241 (by kernel_rfl) (body := fb Go.Proofs.Tryz.f241) rfl (ts := Go.Proofs.Tryz.f241.results.toList) rfl (cuts := []) (by kernel_rfl) (Nat.le_of_ble_eq_true (by kernel_rfl)) (by kernel_rfl) (rt := .w (.at (.bool))) rfl ?_ ?_
  · intro ls' r' h'
    unfold win_Fire_S at h'
    obtain ⟨w_cwnd, l'1, rfl, h'1⟩ := un_i_some.1 h'
    obtain ⟨w_slow, l'2, rfl, h'2⟩ := un_i_some.1 h'1
    obtain ⟨w_pipe, l'3, rfl, h'3⟩ := un_i_some.1 h'2
    obtain ⟨w_count, l'4, rfl, h'4⟩ := un_i_some.1 h'3
    obtain ⟨w_halved_n, l'5, rfl, h'5⟩ := un_i_some.1 h'4
    obtain ⟨w_halved_is, l'6, rfl, h'6⟩ := un_b_some.1 h'5
    obtain ⟨w_last_n, l'7, rfl, h'7⟩ := un_i_some.1 h'6
    obtain ⟨w_last_is, l'8, rfl, h'8⟩ := un_b_some.1 h'7
    obtain ⟨w_runs, l'9, rfl, h'9⟩ := un_b_some.1 h'8
    obtain ⟨w_due, l'10, rfl, h'10⟩ := un_i_some.1 h'9
    obtain ⟨w_rtt_any, l'11, rfl, h'11⟩ := un_b_some.1 h'10
    obtain ⟨w_rtt_smooth, l'12, rfl, h'12⟩ := un_i_some.1 h'11
    obtain ⟨w_rtt_spread, l'13, rfl, h'13⟩ := un_i_some.1 h'12
    obtain ⟨w_rtt_rto, l'14, rfl, h'14⟩ := un_i_some.1 h'13
    obtain ⟨now, l'15, rfl, h'15⟩ := un_i_some.1 h'14
    obtain ⟨rfl, h'Z⟩ := un_nil_some.1 h'15
    exact (win_Fire_e w_cwnd w_slow w_pipe w_count w_halved_n w_halved_is w_last_n w_last_is w_runs w_due w_rtt_any w_rtt_smooth w_rtt_spread w_rtt_rto now).symm.trans h'Z
  · intro E w0 ws ρ0 hk b hb
    rw [show loopsOf (fb Go.Proofs.Tryz.f241) = [] by kernel_rfl] at hb
    cases hb
noncomputable def G45 : Env := G44.addE 241 2 win_Fire_in win_Fire_out win_Fire_SC
theorem g45 : EnvOk Go.Proofs.Tryz.prog G45 := EnvOk.addE g44 win_Fire_c win_Fire_says

-- ### win_Cwnd: function 12
def win_Cwnd_in : Tm := ⟨[.cells 96 [.int .i64, .int .i64, .int .i64, .int .i64, .ptr 1 0, .int .u64, .bool, .int .u64, .bool, .bool, .int .i64], .cells 165 [.bool, .int .i64, .int .i64, .int .i64]], [(0, .w (.at (.ptr 0 0)))]⟩
def win_Cwnd_out : Tm := ⟨[.dead, .dead], [(0, .w (.at (.int .i64)))]⟩

def win_Cwnd_Λd : Loops := Loops.none
def win_Cwnd_Λ : Loops := win_Cwnd_Λd 

theorem win_Cwnd_e (w_cwnd : Int) (w_slow : Int) (w_pipe : Int) (w_count : Int) (w_halved_n : Int) (w_halved_is : Bool) (w_last_n : Int) (w_last_is : Bool) (w_runs : Bool) (w_due : Int) (w_rtt_any : Bool) (w_rtt_smooth : Int) (w_rtt_spread : Int) (w_rtt_rto : Int) : win_Cwnd w_cwnd w_slow w_pipe w_count w_halved_n w_halved_is w_last_n w_last_is w_runs w_due w_rtt_any w_rtt_smooth w_rtt_spread w_rtt_rto = den G45 win_Cwnd_Λ true tab Go.Proofs.Tryz.f12.ntmps (fun fr H => finish tab 2 Go.Proofs.Tryz.f12.results.toList win_Cwnd_out [] fr H some) (fun _ _ _ => none) (fun fr H => finish tab 2 Go.Proofs.Tryz.f12.results.toList win_Cwnd_out [] fr H some) 10000 [.code (fb Go.Proofs.Tryz.f12)] (instFr win_Cwnd_in [.i w_cwnd, .i w_slow, .i w_pipe, .i w_count, .i w_halved_n, .b w_halved_is, .i w_last_n, .b w_last_is, .b w_runs, .i w_due, .b w_rtt_any, .i w_rtt_smooth, .i w_rtt_spread, .i w_rtt_rto]) (instH win_Cwnd_in [.i w_cwnd, .i w_slow, .i w_pipe, .i w_count, .i w_halved_n, .b w_halved_is, .i w_last_n, .b w_last_is, .b w_runs, .i w_due, .b w_rtt_any, .i w_rtt_smooth, .i w_rtt_spread, .i w_rtt_rto]) := by kernel_rfl
def win_Cwnd_S : List Leaf → Option (List Leaf) := fun ls => un_i ls fun w_cwnd rr => un_i rr fun w_slow rr => un_i rr fun w_pipe rr => un_i rr fun w_count rr => un_i rr fun w_halved_n rr => un_b rr fun w_halved_is rr => un_i rr fun w_last_n rr => un_b rr fun w_last_is rr => un_b rr fun w_runs rr => un_i rr fun w_due rr => un_b rr fun w_rtt_any rr => un_i rr fun w_rtt_smooth rr => un_i rr fun w_rtt_spread rr => un_i rr fun w_rtt_rto rr => un_nil rr (win_Cwnd w_cwnd w_slow w_pipe w_count w_halved_n w_halved_is w_last_n w_last_is w_runs w_due w_rtt_any w_rtt_smooth w_rtt_spread w_rtt_rto)
def win_Cwnd_SC : Tld := fun ls k' => un_i ls fun w_cwnd rr => un_i rr fun w_slow rr => un_i rr fun w_pipe rr => un_i rr fun w_count rr => un_i rr fun w_halved_n rr => un_b rr fun w_halved_is rr => un_i rr fun w_last_n rr => un_b rr fun w_last_is rr => un_b rr fun w_runs rr => un_i rr fun w_due rr => un_b rr fun w_rtt_any rr => un_i rr fun w_rtt_smooth rr => un_i rr fun w_rtt_spread rr => un_i rr fun w_rtt_rto rr => un_nil rr (out (win_Cwnd w_cwnd w_slow w_pipe w_count w_halved_n w_halved_is w_last_n w_last_is w_runs w_due w_rtt_any w_rtt_smooth w_rtt_spread w_rtt_rto) k')
theorem win_Cwnd_Se (w_cwnd : Int) (w_slow : Int) (w_pipe : Int) (w_count : Int) (w_halved_n : Int) (w_halved_is : Bool) (w_last_n : Int) (w_last_is : Bool) (w_runs : Bool) (w_due : Int) (w_rtt_any : Bool) (w_rtt_smooth : Int) (w_rtt_spread : Int) (w_rtt_rto : Int) : win_Cwnd_S [.i w_cwnd, .i w_slow, .i w_pipe, .i w_count, .i w_halved_n, .b w_halved_is, .i w_last_n, .b w_last_is, .b w_runs, .i w_due, .b w_rtt_any, .i w_rtt_smooth, .i w_rtt_spread, .i w_rtt_rto] = win_Cwnd w_cwnd w_slow w_pipe w_count w_halved_n w_halved_is w_last_n w_last_is w_runs w_due w_rtt_any w_rtt_smooth w_rtt_spread w_rtt_rto := by
  unfold win_Cwnd_S
  simp only [un_i_ev, un_b_ev, un_s_ev, un_li_ev, un_lb_ev, un_ls_ev, un_nil_ev]
theorem win_Cwnd_says : Says win_Cwnd_SC win_Cwnd_S := by
  intro β ls' k' r' h'
  unfold win_Cwnd_SC at h'
  obtain ⟨w_cwnd, l'1, rfl, h'1⟩ := un_i_some.1 h'
  obtain ⟨w_slow, l'2, rfl, h'2⟩ := un_i_some.1 h'1
  obtain ⟨w_pipe, l'3, rfl, h'3⟩ := un_i_some.1 h'2
  obtain ⟨w_count, l'4, rfl, h'4⟩ := un_i_some.1 h'3
  obtain ⟨w_halved_n, l'5, rfl, h'5⟩ := un_i_some.1 h'4
  obtain ⟨w_halved_is, l'6, rfl, h'6⟩ := un_b_some.1 h'5
  obtain ⟨w_last_n, l'7, rfl, h'7⟩ := un_i_some.1 h'6
  obtain ⟨w_last_is, l'8, rfl, h'8⟩ := un_b_some.1 h'7
  obtain ⟨w_runs, l'9, rfl, h'9⟩ := un_b_some.1 h'8
  obtain ⟨w_due, l'10, rfl, h'10⟩ := un_i_some.1 h'9
  obtain ⟨w_rtt_any, l'11, rfl, h'11⟩ := un_b_some.1 h'10
  obtain ⟨w_rtt_smooth, l'12, rfl, h'12⟩ := un_i_some.1 h'11
  obtain ⟨w_rtt_spread, l'13, rfl, h'13⟩ := un_i_some.1 h'12
  obtain ⟨w_rtt_rto, l'14, rfl, h'14⟩ := un_i_some.1 h'13
  obtain ⟨rfl, h'Z⟩ := un_nil_some.1 h'14
  obtain ⟨l', a', b'⟩ := out_some.1 h'Z
  exact ⟨l', (win_Cwnd_Se w_cwnd w_slow w_pipe w_count w_halved_n w_halved_is w_last_n w_last_is w_runs w_due w_rtt_any w_rtt_smooth w_rtt_spread w_rtt_rto).trans a', b'⟩
theorem win_Cwnd_c : FnC Go.Proofs.Tryz.prog 12 true 1 2 win_Cwnd_in win_Cwnd_out win_Cwnd_S := by
  refine fn_ok (Λ := win_Cwnd_Λ) mixed tab_ok g45 Go.Proofs.Tryz.func12 (by kernel_rfl) (body := fb Go.Proofs.Tryz.f12) rfl (ts := Go.Proofs.Tryz.f12.results.toList) rfl (cuts := []) (by kernel_rfl) (Nat.le_of_ble_eq_true (by kernel_rfl)) (by kernel_rfl) (rt := .w (.at (.int .i64))) rfl ?_ ?_
  · intro ls' r' h'
    unfold win_Cwnd_S at h'
    obtain ⟨w_cwnd, l'1, rfl, h'1⟩ := un_i_some.1 h'
    obtain ⟨w_slow, l'2, rfl, h'2⟩ := un_i_some.1 h'1
    obtain ⟨w_pipe, l'3, rfl, h'3⟩ := un_i_some.1 h'2
    obtain ⟨w_count, l'4, rfl, h'4⟩ := un_i_some.1 h'3
    obtain ⟨w_halved_n, l'5, rfl, h'5⟩ := un_i_some.1 h'4
    obtain ⟨w_halved_is, l'6, rfl, h'6⟩ := un_b_some.1 h'5
    obtain ⟨w_last_n, l'7, rfl, h'7⟩ := un_i_some.1 h'6
    obtain ⟨w_last_is, l'8, rfl, h'8⟩ := un_b_some.1 h'7
    obtain ⟨w_runs, l'9, rfl, h'9⟩ := un_b_some.1 h'8
    obtain ⟨w_due, l'10, rfl, h'10⟩ := un_i_some.1 h'9
    obtain ⟨w_rtt_any, l'11, rfl, h'11⟩ := un_b_some.1 h'10
    obtain ⟨w_rtt_smooth, l'12, rfl, h'12⟩ := un_i_some.1 h'11
    obtain ⟨w_rtt_spread, l'13, rfl, h'13⟩ := un_i_some.1 h'12
    obtain ⟨w_rtt_rto, l'14, rfl, h'14⟩ := un_i_some.1 h'13
    obtain ⟨rfl, h'Z⟩ := un_nil_some.1 h'14
    exact (win_Cwnd_e w_cwnd w_slow w_pipe w_count w_halved_n w_halved_is w_last_n w_last_is w_runs w_due w_rtt_any w_rtt_smooth w_rtt_spread w_rtt_rto).symm.trans h'Z
  · intro E w0 ws ρ0 hk b hb
    rw [show loopsOf (fb Go.Proofs.Tryz.f12) = [] by kernel_rfl] at hb
    cases hb
noncomputable def G46 : Env := G45.addP 12 1 win_Cwnd_in win_Cwnd_out win_Cwnd_SC
theorem g46 : EnvOk Go.Proofs.Tryz.prog G46 := EnvOk.addP g45 win_Cwnd_c win_Cwnd_says

-- ### win_Pipe: function 13
def win_Pipe_in : Tm := ⟨[.cells 96 [.int .i64, .int .i64, .int .i64, .int .i64, .ptr 1 0, .int .u64, .bool, .int .u64, .bool, .bool, .int .i64], .cells 165 [.bool, .int .i64, .int .i64, .int .i64]], [(0, .w (.at (.ptr 0 0)))]⟩
def win_Pipe_out : Tm := ⟨[.dead, .dead], [(0, .w (.at (.int .i64)))]⟩

def win_Pipe_Λd : Loops := Loops.none
def win_Pipe_Λ : Loops := win_Pipe_Λd 

theorem win_Pipe_e (w_cwnd : Int) (w_slow : Int) (w_pipe : Int) (w_count : Int) (w_halved_n : Int) (w_halved_is : Bool) (w_last_n : Int) (w_last_is : Bool) (w_runs : Bool) (w_due : Int) (w_rtt_any : Bool) (w_rtt_smooth : Int) (w_rtt_spread : Int) (w_rtt_rto : Int) : win_Pipe w_cwnd w_slow w_pipe w_count w_halved_n w_halved_is w_last_n w_last_is w_runs w_due w_rtt_any w_rtt_smooth w_rtt_spread w_rtt_rto = den G46 win_Pipe_Λ true tab Go.Proofs.Tryz.f13.ntmps (fun fr H => finish tab 2 Go.Proofs.Tryz.f13.results.toList win_Pipe_out [] fr H some) (fun _ _ _ => none) (fun fr H => finish tab 2 Go.Proofs.Tryz.f13.results.toList win_Pipe_out [] fr H some) 10000 [.code (fb Go.Proofs.Tryz.f13)] (instFr win_Pipe_in [.i w_cwnd, .i w_slow, .i w_pipe, .i w_count, .i w_halved_n, .b w_halved_is, .i w_last_n, .b w_last_is, .b w_runs, .i w_due, .b w_rtt_any, .i w_rtt_smooth, .i w_rtt_spread, .i w_rtt_rto]) (instH win_Pipe_in [.i w_cwnd, .i w_slow, .i w_pipe, .i w_count, .i w_halved_n, .b w_halved_is, .i w_last_n, .b w_last_is, .b w_runs, .i w_due, .b w_rtt_any, .i w_rtt_smooth, .i w_rtt_spread, .i w_rtt_rto]) := by kernel_rfl
def win_Pipe_S : List Leaf → Option (List Leaf) := fun ls => un_i ls fun w_cwnd rr => un_i rr fun w_slow rr => un_i rr fun w_pipe rr => un_i rr fun w_count rr => un_i rr fun w_halved_n rr => un_b rr fun w_halved_is rr => un_i rr fun w_last_n rr => un_b rr fun w_last_is rr => un_b rr fun w_runs rr => un_i rr fun w_due rr => un_b rr fun w_rtt_any rr => un_i rr fun w_rtt_smooth rr => un_i rr fun w_rtt_spread rr => un_i rr fun w_rtt_rto rr => un_nil rr (win_Pipe w_cwnd w_slow w_pipe w_count w_halved_n w_halved_is w_last_n w_last_is w_runs w_due w_rtt_any w_rtt_smooth w_rtt_spread w_rtt_rto)
def win_Pipe_SC : Tld := fun ls k' => un_i ls fun w_cwnd rr => un_i rr fun w_slow rr => un_i rr fun w_pipe rr => un_i rr fun w_count rr => un_i rr fun w_halved_n rr => un_b rr fun w_halved_is rr => un_i rr fun w_last_n rr => un_b rr fun w_last_is rr => un_b rr fun w_runs rr => un_i rr fun w_due rr => un_b rr fun w_rtt_any rr => un_i rr fun w_rtt_smooth rr => un_i rr fun w_rtt_spread rr => un_i rr fun w_rtt_rto rr => un_nil rr (out (win_Pipe w_cwnd w_slow w_pipe w_count w_halved_n w_halved_is w_last_n w_last_is w_runs w_due w_rtt_any w_rtt_smooth w_rtt_spread w_rtt_rto) k')
theorem win_Pipe_Se (w_cwnd : Int) (w_slow : Int) (w_pipe : Int) (w_count : Int) (w_halved_n : Int) (w_halved_is : Bool) (w_last_n : Int) (w_last_is : Bool) (w_runs : Bool) (w_due : Int) (w_rtt_any : Bool) (w_rtt_smooth : Int) (w_rtt_spread : Int) (w_rtt_rto : Int) : win_Pipe_S [.i w_cwnd, .i w_slow, .i w_pipe, .i w_count, .i w_halved_n, .b w_halved_is, .i w_last_n, .b w_last_is, .b w_runs, .i w_due, .b w_rtt_any, .i w_rtt_smooth, .i w_rtt_spread, .i w_rtt_rto] = win_Pipe w_cwnd w_slow w_pipe w_count w_halved_n w_halved_is w_last_n w_last_is w_runs w_due w_rtt_any w_rtt_smooth w_rtt_spread w_rtt_rto := by
  unfold win_Pipe_S
  simp only [un_i_ev, un_b_ev, un_s_ev, un_li_ev, un_lb_ev, un_ls_ev, un_nil_ev]
theorem win_Pipe_says : Says win_Pipe_SC win_Pipe_S := by
  intro β ls' k' r' h'
  unfold win_Pipe_SC at h'
  obtain ⟨w_cwnd, l'1, rfl, h'1⟩ := un_i_some.1 h'
  obtain ⟨w_slow, l'2, rfl, h'2⟩ := un_i_some.1 h'1
  obtain ⟨w_pipe, l'3, rfl, h'3⟩ := un_i_some.1 h'2
  obtain ⟨w_count, l'4, rfl, h'4⟩ := un_i_some.1 h'3
  obtain ⟨w_halved_n, l'5, rfl, h'5⟩ := un_i_some.1 h'4
  obtain ⟨w_halved_is, l'6, rfl, h'6⟩ := un_b_some.1 h'5
  obtain ⟨w_last_n, l'7, rfl, h'7⟩ := un_i_some.1 h'6
  obtain ⟨w_last_is, l'8, rfl, h'8⟩ := un_b_some.1 h'7
  obtain ⟨w_runs, l'9, rfl, h'9⟩ := un_b_some.1 h'8
  obtain ⟨w_due, l'10, rfl, h'10⟩ := un_i_some.1 h'9
  obtain ⟨w_rtt_any, l'11, rfl, h'11⟩ := un_b_some.1 h'10
  obtain ⟨w_rtt_smooth, l'12, rfl, h'12⟩ := un_i_some.1 h'11
  obtain ⟨w_rtt_spread, l'13, rfl, h'13⟩ := un_i_some.1 h'12
  obtain ⟨w_rtt_rto, l'14, rfl, h'14⟩ := un_i_some.1 h'13
  obtain ⟨rfl, h'Z⟩ := un_nil_some.1 h'14
  obtain ⟨l', a', b'⟩ := out_some.1 h'Z
  exact ⟨l', (win_Pipe_Se w_cwnd w_slow w_pipe w_count w_halved_n w_halved_is w_last_n w_last_is w_runs w_due w_rtt_any w_rtt_smooth w_rtt_spread w_rtt_rto).trans a', b'⟩
theorem win_Pipe_c : FnC Go.Proofs.Tryz.prog 13 true 1 2 win_Pipe_in win_Pipe_out win_Pipe_S := by
  refine fn_ok (Λ := win_Pipe_Λ) mixed tab_ok g46 Go.Proofs.Tryz.func13 (by kernel_rfl) (body := fb Go.Proofs.Tryz.f13) rfl (ts := Go.Proofs.Tryz.f13.results.toList) rfl (cuts := []) (by kernel_rfl) (Nat.le_of_ble_eq_true (by kernel_rfl)) (by kernel_rfl) (rt := .w (.at (.int .i64))) rfl ?_ ?_
  · intro ls' r' h'
    unfold win_Pipe_S at h'
    obtain ⟨w_cwnd, l'1, rfl, h'1⟩ := un_i_some.1 h'
    obtain ⟨w_slow, l'2, rfl, h'2⟩ := un_i_some.1 h'1
    obtain ⟨w_pipe, l'3, rfl, h'3⟩ := un_i_some.1 h'2
    obtain ⟨w_count, l'4, rfl, h'4⟩ := un_i_some.1 h'3
    obtain ⟨w_halved_n, l'5, rfl, h'5⟩ := un_i_some.1 h'4
    obtain ⟨w_halved_is, l'6, rfl, h'6⟩ := un_b_some.1 h'5
    obtain ⟨w_last_n, l'7, rfl, h'7⟩ := un_i_some.1 h'6
    obtain ⟨w_last_is, l'8, rfl, h'8⟩ := un_b_some.1 h'7
    obtain ⟨w_runs, l'9, rfl, h'9⟩ := un_b_some.1 h'8
    obtain ⟨w_due, l'10, rfl, h'10⟩ := un_i_some.1 h'9
    obtain ⟨w_rtt_any, l'11, rfl, h'11⟩ := un_b_some.1 h'10
    obtain ⟨w_rtt_smooth, l'12, rfl, h'12⟩ := un_i_some.1 h'11
    obtain ⟨w_rtt_spread, l'13, rfl, h'13⟩ := un_i_some.1 h'12
    obtain ⟨w_rtt_rto, l'14, rfl, h'14⟩ := un_i_some.1 h'13
    obtain ⟨rfl, h'Z⟩ := un_nil_some.1 h'14
    exact (win_Pipe_e w_cwnd w_slow w_pipe w_count w_halved_n w_halved_is w_last_n w_last_is w_runs w_due w_rtt_any w_rtt_smooth w_rtt_spread w_rtt_rto).symm.trans h'Z
  · intro E w0 ws ρ0 hk b hb
    rw [show loopsOf (fb Go.Proofs.Tryz.f13) = [] by kernel_rfl] at hb
    cases hb
noncomputable def G47 : Env := G46.addP 13 1 win_Pipe_in win_Pipe_out win_Pipe_SC
theorem g47 : EnvOk Go.Proofs.Tryz.prog G47 := EnvOk.addP g46 win_Pipe_c win_Pipe_says
end Go.Sx.T

