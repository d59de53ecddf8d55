import Derived.Test.YtngjglbakgdgaaaGreatDoorYnWinSpec
import Derived.Test.YtngjglbakgdgaaaGreatDoorYnTfrcCon
set_option linter.all false
namespace Go.Sx.T
open Go Go.Sx Go.Proofs
set_option maxRecDepth 100000

-- ### win_New: function 63
def win_New_in : Tm := ⟨[], []⟩
def win_New_out : Tm := ⟨[.cells 129 [.int .i64, .int .i64, .int .i64, .int .i64, .ptr 1 0, .int .u64, .bool, .int .u64, .bool, .bool, .int .i64], .cells 183 [.bool, .int .i64, .int .i64, .int .i64]], [(0, .w (.at (.ptr 0 0)))]⟩

def win_New_Λd : Loops := Loops.none
def win_New_Λ : Loops := win_New_Λd 

theorem win_New_e  : win_New  = den G49 win_New_Λ false tab Go.Proofs.Tryz.f63.ntmps (fun fr H => finish tab 0 Go.Proofs.Tryz.f63.results.toList win_New_out [] fr H some) (fun _ _ _ => none) (fun fr H => finish tab 0 Go.Proofs.Tryz.f63.results.toList win_New_out [] fr H some) 10000 [.code (fb Go.Proofs.Tryz.f63)] (instFr win_New_in []) (instH win_New_in []) := by kernel_rfl
def win_New_S : List Leaf → Option (List Leaf) := fun ls => un_nil ls (win_New )
def win_New_SC : Tld := fun ls k' => un_nil ls (out (win_New ) k')
theorem win_New_Se  : win_New_S [] = win_New  := by
  unfold win_New_S
  simp only [un_i_ev, un_b_ev, un_s_ev, un_li_ev, un_lb_ev, un_ls_ev, un_nil_ev]
theorem win_New_says : Says win_New_SC win_New_S := by
  intro β ls' k' r' h'
  unfold win_New_SC at h'
  obtain ⟨rfl, h'Z⟩ := un_nil_some.1 h'
  obtain ⟨l', a', b'⟩ := out_some.1 h'Z
  exact ⟨l', (win_New_Se ).trans a', b'⟩
theorem win_New_c : FnC Go.Proofs.Tryz.prog 63 false 0 0 win_New_in win_New_out win_New_S := by
  refine fn_ok (Λ := win_New_Λ) mixed tab_ok g49 Go.Proofs.Tryz.func63 (by kernel_rfl) (body := fb Go.Proofs.Tryz.f63) rfl (ts := Go.Proofs.Tryz.f63.results.toList) rfl (cuts := []) (by kernel_rfl) (Nat.le_of_ble_eq_true (by kernel_rfl)) (by kernel_rfl) (rt := .w (.at (.ptr 0 0))) rfl ?_ ?_
  · intro ls' r' h'
    unfold win_New_S at h'
    obtain ⟨rfl, h'Z⟩ := un_nil_some.1 h'
    exact (win_New_e ).symm.trans h'Z
  · intro E w0 ws ρ0 hk b hb
    rw [show loopsOf (fb Go.Proofs.Tryz.f63) = [] by kernel_rfl] at hb
    cases hb
noncomputable def G50 : Env := G49.addE 63 0 win_New_in win_New_out win_New_SC
theorem g50 : EnvOk Go.Proofs.Tryz.prog G50 := EnvOk.addE g49 win_New_c win_New_says

-- ### win_May: function 111
def win_May_in : Tm := ⟨[.cells 129 [.int .i64, .int .i64, .int .i64, .int .i64, .ptr 1 0, .int .u64, .bool, .int .u64, .bool, .bool, .int .i64], .cells 183 [.bool, .int .i64, .int .i64, .int .i64]], [(0, .w (.at (.ptr 0 0)))]⟩
def win_May_out : Tm := ⟨[.dead, .dead], [(0, .w (.at (.bool)))]⟩

def win_May_Λd : Loops := Loops.none
def win_May_Λ : Loops := win_May_Λd 

theorem win_May_e (w_cwnd : Int) (w_slow : Int) (w_pipe : Int) (w_count : Int) (w_halved_n : Int) (w_halved_is : Bool) (w_last_n : Int) (w_last_is : Bool) (w_runs : Bool) (w_due : Int) (w_rtt_any : Bool) (w_rtt_smooth : Int) (w_rtt_spread : Int) (w_rtt_rto : Int) : win_May w_cwnd w_slow w_pipe w_count w_halved_n w_halved_is w_last_n w_last_is w_runs w_due w_rtt_any w_rtt_smooth w_rtt_spread w_rtt_rto = den G50 win_May_Λ true tab Go.Proofs.Tryz.f111.ntmps (fun fr H => finish tab 2 Go.Proofs.Tryz.f111.results.toList win_May_out [] fr H some) (fun _ _ _ => none) (fun fr H => finish tab 2 Go.Proofs.Tryz.f111.results.toList win_May_out [] fr H some) 10000 [.code (fb Go.Proofs.Tryz.f111)] (instFr win_May_in [.i w_cwnd, .i w_slow, .i w_pipe, .i w_count, .i w_halved_n, .b w_halved_is, .i w_last_n, .b w_last_is, .b w_runs, .i w_due, .b w_rtt_any, .i w_rtt_smooth, .i w_rtt_spread, .i w_rtt_rto]) (instH win_May_in [.i w_cwnd, .i w_slow, .i w_pipe, .i w_count, .i w_halved_n, .b w_halved_is, .i w_last_n, .b w_last_is, .b w_runs, .i w_due, .b w_rtt_any, .i w_rtt_smooth, .i w_rtt_spread, .i w_rtt_rto]) := by kernel_rfl
def win_May_S : List Leaf → Option (List Leaf) := fun ls => un_i ls fun w_cwnd rr => un_i rr fun w_slow rr => un_i rr fun w_pipe rr => un_i rr fun w_count rr => un_i rr fun w_halved_n rr => un_b rr fun w_halved_is rr => un_i rr fun w_last_n rr => un_b rr fun w_last_is rr => un_b rr fun w_runs rr => un_i rr fun w_due rr => un_b rr fun w_rtt_any rr => un_i rr fun w_rtt_smooth rr => un_i rr fun w_rtt_spread rr => un_i rr fun w_rtt_rto rr => un_nil rr (win_May w_cwnd w_slow w_pipe w_count w_halved_n w_halved_is w_last_n w_last_is w_runs w_due w_rtt_any w_rtt_smooth w_rtt_spread w_rtt_rto)
def win_May_SC : Tld := fun ls k' => un_i ls fun w_cwnd rr => un_i rr fun w_slow rr => un_i rr fun w_pipe rr => un_i rr fun w_count rr => un_i rr fun w_halved_n rr => un_b rr fun w_halved_is rr => un_i rr fun w_last_n rr => un_b rr fun w_last_is rr => un_b rr fun w_runs rr => un_i rr fun w_due rr => un_b rr fun w_rtt_any rr => un_i rr fun w_rtt_smooth rr => un_i rr fun w_rtt_spread rr => un_i rr fun w_rtt_rto rr => un_nil rr (out (win_May w_cwnd w_slow w_pipe w_count w_halved_n w_halved_is w_last_n w_last_is w_runs w_due w_rtt_any w_rtt_smooth w_rtt_spread w_rtt_rto) k')
theorem win_May_Se (w_cwnd : Int) (w_slow : Int) (w_pipe : Int) (w_count : Int) (w_halved_n : Int) (w_halved_is : Bool) (w_last_n : Int) (w_last_is : Bool) (w_runs : Bool) (w_due : Int) (w_rtt_any : Bool) (w_rtt_smooth : Int) (w_rtt_spread : Int) (w_rtt_rto : Int) : win_May_S [.i w_cwnd, .i w_slow, .i w_pipe, .i w_count, .i w_halved_n, .b w_halved_is, .i w_last_n, .b w_last_is, .b w_runs, .i w_due, .b w_rtt_any, .i w_rtt_smooth, .i w_rtt_spread, .i w_rtt_rto] = win_May w_cwnd w_slow w_pipe w_count w_halved_n w_halved_is w_last_n w_last_is w_runs w_due w_rtt_any w_rtt_smooth w_rtt_spread w_rtt_rto := by
  unfold win_May_S
  simp only [un_i_ev, un_b_ev, un_s_ev, un_li_ev, un_lb_ev, un_ls_ev, un_nil_ev]
theorem win_May_says : Says win_May_SC win_May_S := by
  intro β ls' k' r' h'
  unfold win_May_SC at h'
  obtain ⟨w_cwnd, l'1, rfl, h'1⟩ := un_i_some.1 h'
  obtain ⟨w_slow, l'2, rfl, h'2⟩ := un_i_some.1 h'1
  obtain ⟨w_pipe, l'3, rfl, h'3⟩ := un_i_some.1 h'2
  obtain ⟨w_count, l'4, rfl, h'4⟩ := un_i_some.1 h'3
  obtain ⟨w_halved_n, l'5, rfl, h'5⟩ := un_i_some.1 h'4
  obtain ⟨w_halved_is, l'6, rfl, h'6⟩ := un_b_some.1 h'5
  obtain ⟨w_last_n, l'7, rfl, h'7⟩ := un_i_some.1 h'6
  obtain ⟨w_last_is, l'8, rfl, h'8⟩ := un_b_some.1 h'7
  obtain ⟨w_runs, l'9, rfl, h'9⟩ := un_b_some.1 h'8
  obtain ⟨w_due, l'10, rfl, h'10⟩ := un_i_some.1 h'9
  obtain ⟨w_rtt_any, l'11, rfl, h'11⟩ := un_b_some.1 h'10
  obtain ⟨w_rtt_smooth, l'12, rfl, h'12⟩ := un_i_some.1 h'11
  obtain ⟨w_rtt_spread, l'13, rfl, h'13⟩ := un_i_some.1 h'12
  obtain ⟨w_rtt_rto, l'14, rfl, h'14⟩ := un_i_some.1 h'13
  obtain ⟨rfl, h'Z⟩ := un_nil_some.1 h'14
  obtain ⟨l', a', b'⟩ := out_some.1 h'Z
  exact ⟨l', (win_May_Se w_cwnd w_slow w_pipe w_count w_halved_n w_halved_is w_last_n w_last_is w_runs w_due w_rtt_any w_rtt_smooth w_rtt_spread w_rtt_rto).trans a', b'⟩
theorem win_May_c : FnC Go.Proofs.Tryz.prog 111 true 1 2 win_May_in win_May_out win_May_S := by
  refine fn_ok (Λ := win_May_Λ) mixed tab_ok g50 Go.Proofs.Tryz.func111 (by kernel_rfl) (body := fb Go.Proofs.Tryz.f111) rfl (ts := Go.Proofs.Tryz.f111.results.toList) rfl (cuts := []) (by kernel_rfl) (Nat.le_of_ble_eq_true (by kernel_rfl)) (by kernel_rfl) (rt := .w (.at (.bool))) rfl ?_ ?_
  · intro ls' r' h'
    unfold win_May_S at h'
    obtain ⟨w_cwnd, l'1, rfl, h'1⟩ := un_i_some.1 h'
    obtain ⟨w_slow, l'2, rfl, h'2⟩ := un_i_some.1 h'1
    obtain ⟨w_pipe, l'3, rfl, h'3⟩ := un_i_some.1 h'2
    obtain ⟨w_count, l'4, rfl, h'4⟩ := un_i_some.1 h'3
    obtain ⟨w_halved_n, l'5, rfl, h'5⟩ := un_i_some.1 h'4
    obtain ⟨w_halved_is, l'6, rfl, h'6⟩ := un_b_some.1 h'5
    obtain ⟨w_last_n, l'7, rfl, h'7⟩ := un_i_some.1 h'6
    obtain ⟨w_last_is, l'8, rfl, h'8⟩ := un_b_some.1 h'7
    obtain ⟨w_runs, l'9, rfl, h'9⟩ := un_b_some.1 h'8
    obtain ⟨w_due, l'10, rfl, h'10⟩ := un_i_some.1 h'9
    obtain ⟨w_rtt_any, l'11, rfl, h'11⟩ := un_b_some.1 h'10
    obtain ⟨w_rtt_smooth, l'12, rfl, h'12⟩ := un_i_some.1 h'11
    obtain ⟨w_rtt_spread, l'13, rfl, h'13⟩ := un_i_some.1 h'12
    obtain ⟨w_rtt_rto, l'14, rfl, h'14⟩ := un_i_some.1 h'13
    obtain ⟨rfl, h'Z⟩ := un_nil_some.1 h'14
    exact (win_May_e w_cwnd w_slow w_pipe w_count w_halved_n w_halved_is w_last_n w_last_is w_runs w_due w_rtt_any w_rtt_smooth w_rtt_spread w_rtt_rto).symm.trans h'Z
  · intro E w0 ws ρ0 hk b hb
    rw [show loopsOf (fb Go.Proofs.Tryz.f111) = [] by kernel_rfl] at hb
    cases hb
noncomputable def G51 : Env := G50.addP 111 1 win_May_in win_May_out win_May_SC
theorem g51 : EnvOk Go.Proofs.Tryz.prog G51 := EnvOk.addP g50 win_May_c win_May_says

-- ### win_runsTo: function 137
def win_runsTo_in : Tm := ⟨[.cells 129 [.int .i64, .int .i64, .int .i64, .int .i64, .ptr 1 0, .int .u64, .bool, .int .u64, .bool, .bool, .int .i64], .cells 183 [.bool, .int .i64, .int .i64, .int .i64]], [(0, .w (.at (.ptr 0 0))), (1, .w (.at (.int .i64)))]⟩
def win_runsTo_out : Tm := ⟨[.cells 129 [.int .i64, .int .i64, .int .i64, .int .i64, .ptr 1 0, .int .u64, .bool, .int .u64, .bool, .bool, .int .i64], .cells 183 [.bool, .int .i64, .int .i64, .int .i64]], [(0, .tup [])]⟩

def win_runsTo_Λd : Loops := Loops.none
def win_runsTo_Λ : Loops := win_runsTo_Λd 

theorem win_runsTo_e (w_cwnd : Int) (w_slow : Int) (w_pipe : Int) (w_count : Int) (w_halved_n : Int) (w_halved_is : Bool) (w_last_n : Int) (w_last_is : Bool) (w_runs : Bool) (w_due : Int) (w_rtt_any : Bool) (w_rtt_smooth : Int) (w_rtt_spread : Int) (w_rtt_rto : Int) (now : Int) : win_runsTo w_cwnd w_slow w_pipe w_count w_halved_n w_halved_is w_last_n w_last_is w_runs w_due w_rtt_any w_rtt_smooth w_rtt_spread w_rtt_rto now = den G51 win_runsTo_Λ false tab Go.Proofs.Tryz.f137.ntmps (fun fr H => finish tab 2 Go.Proofs.Tryz.f137.results.toList win_runsTo_out [] fr H some) (fun _ _ _ => none) (fun fr H => finish tab 2 Go.Proofs.Tryz.f137.results.toList win_runsTo_out [] fr H some) 10000 [.code (fb Go.Proofs.Tryz.f137)] (instFr win_runsTo_in [.i w_cwnd, .i w_slow, .i w_pipe, .i w_count, .i w_halved_n, .b w_halved_is, .i w_last_n, .b w_last_is, .b w_runs, .i w_due, .b w_rtt_any, .i w_rtt_smooth, .i w_rtt_spread, .i w_rtt_rto, .i now]) (instH win_runsTo_in [.i w_cwnd, .i w_slow, .i w_pipe, .i w_count, .i w_halved_n, .b w_halved_is, .i w_last_n, .b w_last_is, .b w_runs, .i w_due, .b w_rtt_any, .i w_rtt_smooth, .i w_rtt_spread, .i w_rtt_rto, .i now]) := by kernel_rfl
def win_runsTo_S : List Leaf → Option (List Leaf) := fun ls => un_i ls fun w_cwnd rr => un_i rr fun w_slow rr => un_i rr fun w_pipe rr => un_i rr fun w_count rr => un_i rr fun w_halved_n rr => un_b rr fun w_halved_is rr => un_i rr fun w_last_n rr => un_b rr fun w_last_is rr => un_b rr fun w_runs rr => un_i rr fun w_due rr => un_b rr fun w_rtt_any rr => un_i rr fun w_rtt_smooth rr => un_i rr fun w_rtt_spread rr => un_i rr fun w_rtt_rto rr => un_i rr fun now rr => un_nil rr (win_runsTo w_cwnd w_slow w_pipe w_count w_halved_n w_halved_is w_last_n w_last_is w_runs w_due w_rtt_any w_rtt_smooth w_rtt_spread w_rtt_rto now)
def win_runsTo_SC : Tld := fun ls k' => un_i ls fun w_cwnd rr => un_i rr fun w_slow rr => un_i rr fun w_pipe rr => un_i rr fun w_count rr => un_i rr fun w_halved_n rr => un_b rr fun w_halved_is rr => un_i rr fun w_last_n rr => un_b rr fun w_last_is rr => un_b rr fun w_runs rr => un_i rr fun w_due rr => un_b rr fun w_rtt_any rr => un_i rr fun w_rtt_smooth rr => un_i rr fun w_rtt_spread rr => un_i rr fun w_rtt_rto rr => un_i rr fun now rr => un_nil rr (out (win_runsTo w_cwnd w_slow w_pipe w_count w_halved_n w_halved_is w_last_n w_last_is w_runs w_due w_rtt_any w_rtt_smooth w_rtt_spread w_rtt_rto now) k')
theorem win_runsTo_Se (w_cwnd : Int) (w_slow : Int) (w_pipe : Int) (w_count : Int) (w_halved_n : Int) (w_halved_is : Bool) (w_last_n : Int) (w_last_is : Bool) (w_runs : Bool) (w_due : Int) (w_rtt_any : Bool) (w_rtt_smooth : Int) (w_rtt_spread : Int) (w_rtt_rto : Int) (now : Int) : win_runsTo_S [.i w_cwnd, .i w_slow, .i w_pipe, .i w_count, .i w_halved_n, .b w_halved_is, .i w_last_n, .b w_last_is, .b w_runs, .i w_due, .b w_rtt_any, .i w_rtt_smooth, .i w_rtt_spread, .i w_rtt_rto, .i now] = win_runsTo w_cwnd w_slow w_pipe w_count w_halved_n w_halved_is w_last_n w_last_is w_runs w_due w_rtt_any w_rtt_smooth w_rtt_spread w_rtt_rto now := by
  unfold win_runsTo_S
  simp only [un_i_ev, un_b_ev, un_s_ev, un_li_ev, un_lb_ev, un_ls_ev, un_nil_ev]
theorem win_runsTo_says : Says win_runsTo_SC win_runsTo_S := by
  intro β ls' k' r' h'
  unfold win_runsTo_SC at h'
  obtain ⟨w_cwnd, l'1, rfl, h'1⟩ := un_i_some.1 h'
  obtain ⟨w_slow, l'2, rfl, h'2⟩ := un_i_some.1 h'1
  obtain ⟨w_pipe, l'3, rfl, h'3⟩ := un_i_some.1 h'2
  obtain ⟨w_count, l'4, rfl, h'4⟩ := un_i_some.1 h'3
  obtain ⟨w_halved_n, l'5, rfl, h'5⟩ := un_i_some.1 h'4
  obtain ⟨w_halved_is, l'6, rfl, h'6⟩ := un_b_some.1 h'5
  obtain ⟨w_last_n, l'7, rfl, h'7⟩ := un_i_some.1 h'6
  obtain ⟨w_last_is, l'8, rfl, h'8⟩ := un_b_some.1 h'7
  obtain ⟨w_runs, l'9, rfl, h'9⟩ := un_b_some.1 h'8
  obtain ⟨w_due, l'10, rfl, h'10⟩ := un_i_some.1 h'9
  obtain ⟨w_rtt_any, l'11, rfl, h'11⟩ := un_b_some.1 h'10
  obtain ⟨w_rtt_smooth, l'12, rfl, h'12⟩ := un_i_some.1 h'11
  obtain ⟨w_rtt_spread, l'13, rfl, h'13⟩ := un_i_some.1 h'12
  obtain ⟨w_rtt_rto, l'14, rfl, h'14⟩ := un_i_some.1 h'13
  obtain ⟨now, l'15, rfl, h'15⟩ := un_i_some.1 h'14
  obtain ⟨rfl, h'Z⟩ := un_nil_some.1 h'15
  obtain ⟨l', a', b'⟩ := out_some.1 h'Z
  exact ⟨l', (win_runsTo_Se w_cwnd w_slow w_pipe w_count w_halved_n w_halved_is w_last_n w_last_is w_runs w_due w_rtt_any w_rtt_smooth w_rtt_spread w_rtt_rto now).trans a', b'⟩
theorem win_runsTo_c : FnC Go.Proofs.Tryz.prog 137 false 2 2 win_runsTo_in win_runsTo_out win_runsTo_S := by
  refine fn_ok (Λ := win_runsTo_Λ) mixed tab_ok g51 Go.Proofs.Tryz.func137 (by kernel_rfl) (body := fb Go.Proofs.Tryz.f137) rfl (ts := Go.Proofs.Tryz.f137.results.toList) rfl (cuts := []) (by kernel_rfl) (Nat.le_of_ble_eq_true (by kernel_rfl)) (by kernel_rfl) (rt := .tup []) rfl ?_ ?_
  · intro ls' r' h'
    unfold win_runsTo_S at h'
    obtain ⟨w_cwnd, l'1, rfl, h'1⟩ := un_i_some.1 h'
    obtain ⟨w_slow, l'2, rfl, h'2⟩ := un_i_some.1 h'1
    obtain ⟨w_pipe, l'3, rfl, h'3⟩ := un_i_some.1 h'2
    obtain ⟨w_count, l'4, rfl, h'4⟩ := un_i_some.1 h'3
    obtain ⟨w_halved_n, l'5, rfl, h'5⟩ := un_i_some.1 h'4
    obtain ⟨w_halved_is, l'6, rfl, h'6⟩ := un_b_some.1 h'5
    obtain ⟨w_last_n, l'7, rfl, h'7⟩ := un_i_some.1 h'6
    obtain ⟨w_last_is, l'8, rfl, h'8⟩ := un_b_some.1 h'7
    obtain ⟨w_runs, l'9, rfl, h'9⟩ := un_b_some.1 h'8
    obtain ⟨w_due, l'10, rfl, h'10⟩ := un_i_some.1 h'9
    obtain ⟨w_rtt_any, l'11, rfl, h'11⟩ := un_b_some.1 h'10
    obtain ⟨w_rtt_smooth, l'12, rfl, h'12⟩ := un_i_some.1 h'11
    obtain ⟨w_rtt_spread, l'13, rfl, h'13⟩ := un_i_some.1 h'12
    obtain ⟨w_rtt_rto, l'14, rfl, h'14⟩ := un_i_some.1 h'13
    obtain ⟨now, l'15, rfl, h'15⟩ := un_i_some.1 h'14
    obtain ⟨rfl, h'Z⟩ := un_nil_some.1 h'15
    exact (win_runsTo_e w_cwnd w_slow w_pipe w_count w_halved_n w_halved_is w_last_n w_last_is w_runs w_due w_rtt_any w_rtt_smooth w_rtt_spread w_rtt_rto now).symm.trans h'Z
  · intro E w0 ws ρ0 hk b hb
    rw [show loopsOf (fb Go.Proofs.Tryz.f137) = [] by kernel_rfl] at hb
    cases hb
noncomputable def G52 : Env := G51.addE 137 2 win_runsTo_in win_runsTo_out win_runsTo_SC
theorem g52 : EnvOk Go.Proofs.Tryz.prog G52 := EnvOk.addE g51 win_runsTo_c win_runsTo_says

-- ### win_Sent: function 110
def win_Sent_in : Tm := ⟨[.cells 129 [.int .i64, .int .i64, .int .i64, .int .i64, .ptr 1 0, .int .u64, .bool, .int .u64, .bool, .bool, .int .i64], .cells 183 [.bool, .int .i64, .int .i64, .int .i64]], [(0, .w (.at (.ptr 0 0))), (1, .w (.at (.int .u64))), (2, .w (.at (.int .i64)))]⟩
def win_Sent_out : Tm := ⟨[.cells 129 [.int .i64, .int .i64, .int .i64, .int .i64, .ptr 1 0, .int .u64, .bool, .int .u64, .bool, .bool, .int .i64], .cells 183 [.bool, .int .i64, .int .i64, .int .i64]], [(0, .w (.at (.bool)))]⟩

def win_Sent_Λd : Loops := Loops.none
def win_Sent_Λ : Loops := win_Sent_Λd 

theorem win_Sent_e (w_cwnd : Int) (w_slow : Int) (w_pipe : Int) (w_count : Int) (w_halved_n : Int) (w_halved_is : Bool) (w_last_n : Int) (w_last_is : Bool) (w_runs : Bool) (w_due : Int) (w_rtt_any : Bool) (w_rtt_smooth : Int) (w_rtt_spread : Int) (w_rtt_rto : Int) (n2 : Int) (now : Int) : win_Sent w_cwnd w_slow w_pipe w_count w_halved_n w_halved_is w_last_n w_last_is w_runs w_due w_rtt_any w_rtt_smooth w_rtt_spread w_rtt_rto n2 now = den G52 win_Sent_Λ false tab Go.Proofs.Tryz.f110.ntmps (fun fr H => finish tab 2 Go.Proofs.Tryz.f110.results.toList win_Sent_out [] fr H some) (fun _ _ _ => none) (fun fr H => finish tab 2 Go.Proofs.Tryz.f110.results.toList win_Sent_out [] fr H some) 10000 [.code (fb Go.Proofs.Tryz.f110)] (instFr win_Sent_in [.i w_cwnd, .i w_slow, .i w_pipe, .i w_count, .i w_halved_n, .b w_halved_is, .i w_last_n, .b w_last_is, .b w_runs, .i w_due, .b w_rtt_any, .i w_rtt_smooth, .i w_rtt_spread, .i w_rtt_rto, .i n2, .i now]) (instH win_Sent_in [.i w_cwnd, .i w_slow, .i w_pipe, .i w_count, .i w_halved_n, .b w_halved_is, .i w_last_n, .b w_last_is, .b w_runs, .i w_due, .b w_rtt_any, .i w_rtt_smooth, .i w_rtt_spread, .i w_rtt_rto, .i n2, .i now]) := by kernel_rfl
def win_Sent_S : List Leaf → Option (List Leaf) := fun ls => un_i ls fun w_cwnd rr => un_i rr fun w_slow rr => un_i rr fun w_pipe rr => un_i rr fun w_count rr => un_i rr fun w_halved_n rr => un_b rr fun w_halved_is rr => un_i rr fun w_last_n rr => un_b rr fun w_last_is rr => un_b rr fun w_runs rr => un_i rr fun w_due rr => un_b rr fun w_rtt_any rr => un_i rr fun w_rtt_smooth rr => un_i rr fun w_rtt_spread rr => un_i rr fun w_rtt_rto rr => un_i rr fun n2 rr => un_i rr fun now rr => un_nil rr (win_Sent w_cwnd w_slow w_pipe w_count w_halved_n w_halved_is w_last_n w_last_is w_runs w_due w_rtt_any w_rtt_smooth w_rtt_spread w_rtt_rto n2 now)
def win_Sent_SC : Tld := fun ls k' => un_i ls fun w_cwnd rr => un_i rr fun w_slow rr => un_i rr fun w_pipe rr => un_i rr fun w_count rr => un_i rr fun w_halved_n rr => un_b rr fun w_halved_is rr => un_i rr fun w_last_n rr => un_b rr fun w_last_is rr => un_b rr fun w_runs rr => un_i rr fun w_due rr => un_b rr fun w_rtt_any rr => un_i rr fun w_rtt_smooth rr => un_i rr fun w_rtt_spread rr => un_i rr fun w_rtt_rto rr => un_i rr fun n2 rr => un_i rr fun now rr => un_nil rr (out (win_Sent w_cwnd w_slow w_pipe w_count w_halved_n w_halved_is w_last_n w_last_is w_runs w_due w_rtt_any w_rtt_smooth w_rtt_spread w_rtt_rto n2 now) k')
theorem win_Sent_Se (w_cwnd : Int) (w_slow : Int) (w_pipe : Int) (w_count : Int) (w_halved_n : Int) (w_halved_is : Bool) (w_last_n : Int) (w_last_is : Bool) (w_runs : Bool) (w_due : Int) (w_rtt_any : Bool) (w_rtt_smooth : Int) (w_rtt_spread : Int) (w_rtt_rto : Int) (n2 : Int) (now : Int) : win_Sent_S [.i w_cwnd, .i w_slow, .i w_pipe, .i w_count, .i w_halved_n, .b w_halved_is, .i w_last_n, .b w_last_is, .b w_runs, .i w_due, .b w_rtt_any, .i w_rtt_smooth, .i w_rtt_spread, .i w_rtt_rto, .i n2, .i now] = win_Sent w_cwnd w_slow w_pipe w_count w_halved_n w_halved_is w_last_n w_last_is w_runs w_due w_rtt_any w_rtt_smooth w_rtt_spread w_rtt_rto n2 now := by
  unfold win_Sent_S
  simp only [un_i_ev, un_b_ev, un_s_ev, un_li_ev, un_lb_ev, un_ls_ev, un_nil_ev]
theorem win_Sent_says : Says win_Sent_SC win_Sent_S := by
  intro β ls' k' r' h'
  unfold win_Sent_SC at h'
  obtain ⟨w_cwnd, l'1, rfl, h'1⟩ := un_i_some.1 h'
  obtain ⟨w_slow, l'2, rfl, h'2⟩ := un_i_some.1 h'1
  obtain ⟨w_pipe, l'3, rfl, h'3⟩ := un_i_some.1 h'2
  obtain ⟨w_count, l'4, rfl, h'4⟩ := un_i_some.1 h'3
  obtain ⟨w_halved_n, l'5, rfl, h'5⟩ := un_i_some.1 h'4
  obtain ⟨w_halved_is, l'6, rfl, h'6⟩ := un_b_some.1 h'5
  obtain ⟨w_last_n, l'7, rfl, h'7⟩ := un_i_some.1 h'6
  obtain ⟨w_last_is, l'8, rfl, h'8⟩ := un_b_some.1 h'7
  obtain ⟨w_runs, l'9, rfl, h'9⟩ := un_b_some.1 h'8
  obtain ⟨w_due, l'10, rfl, h'10⟩ := un_i_some.1 h'9
  obtain ⟨w_rtt_any, l'11, rfl, h'11⟩ := un_b_some.1 h'10
  obtain ⟨w_rtt_smooth, l'12, rfl, h'12⟩ := un_i_some.1 h'11
  obtain ⟨w_rtt_spread, l'13, rfl, h'13⟩ := un_i_some.1 h'12
  obtain ⟨w_rtt_rto, l'14, rfl, h'14⟩ := un_i_some.1 h'13
  obtain ⟨n2, l'15, rfl, h'15⟩ := un_i_some.1 h'14
  obtain ⟨now, l'16, rfl, h'16⟩ := un_i_some.1 h'15
  obtain ⟨rfl, h'Z⟩ := un_nil_some.1 h'16
  obtain ⟨l', a', b'⟩ := out_some.1 h'Z
  exact ⟨l', (win_Sent_Se w_cwnd w_slow w_pipe w_count w_halved_n w_halved_is w_last_n w_last_is w_runs w_due w_rtt_any w_rtt_smooth w_rtt_spread w_rtt_rto n2 now).trans a', b'⟩
theorem win_Sent_c : FnC Go.Proofs.Tryz.prog 110 false 3 2 win_Sent_in win_Sent_out win_Sent_S := by
  refine fn_ok (Λ := win_Sent_Λ) mixed tab_ok g52 Go.Proofs.Tryz.func110 (by kernel_rfl) (body := fb Go.Proofs.Tryz.f110) rfl (ts := Go.Proofs.Tryz.f110.results.toList) rfl (cuts := []) (by kernel_rfl) (Nat.le_of_ble_eq_true (by kernel_rfl)) (by kernel_rfl) (rt := .w (.at (.bool))) rfl ?_ ?_
  · intro ls' r' h'
    unfold win_Sent_S at h'
    obtain ⟨w_cwnd, l'1, rfl, h'1⟩ := un_i_some.1 h'
    obtain ⟨w_slow, l'2, rfl, h'2⟩ := un_i_some.1 h'1
    obtain ⟨w_pipe, l'3, rfl, h'3⟩ := un_i_some.1 h'2
    obtain ⟨w_count, l'4, rfl, h'4⟩ := un_i_some.1 h'3
    obtain ⟨w_halved_n, l'5, rfl, h'5⟩ := un_i_some.1 h'4
    obtain ⟨w_halved_is, l'6, rfl, h'6⟩ := un_b_some.1 h'5
    obtain ⟨w_last_n, l'7, rfl, h'7⟩ := un_i_some.1 h'6
    obtain ⟨w_last_is, l'8, rfl, h'8⟩ := un_b_some.1 h'7
    obtain ⟨w_runs, l'9, rfl, h'9⟩ := un_b_some.1 h'8
    obtain ⟨w_due, l'10, rfl, h'10⟩ := un_i_some.1 h'9
    obtain ⟨w_rtt_any, l'11, rfl, h'11⟩ := un_b_some.1 h'10
    obtain ⟨w_rtt_smooth, l'12, rfl, h'12⟩ := un_i_some.1 h'11
    obtain ⟨w_rtt_spread, l'13, rfl, h'13⟩ := un_i_some.1 h'12
    obtain ⟨w_rtt_rto, l'14, rfl, h'14⟩ := un_i_some.1 h'13
    obtain ⟨n2, l'15, rfl, h'15⟩ := un_i_some.1 h'14
    obtain ⟨now, l'16, rfl, h'16⟩ := un_i_some.1 h'15
    obtain ⟨rfl, h'Z⟩ := un_nil_some.1 h'16
    exact (win_Sent_e w_cwnd w_slow w_pipe w_count w_halved_n w_halved_is w_last_n w_last_is w_runs w_due w_rtt_any w_rtt_smooth w_rtt_spread w_rtt_rto n2 now).symm.trans h'Z
  · intro E w0 ws ρ0 hk b hb
    rw [show loopsOf (fb Go.Proofs.Tryz.f110) = [] by kernel_rfl] at hb
    cases hb
noncomputable def G53 : Env := G52.addE 110 3 win_Sent_in win_Sent_out win_Sent_SC
theorem g53 : EnvOk Go.Proofs.Tryz.prog G53 := EnvOk.addE g52 win_Sent_c win_Sent_says

-- ### win_grow: function 269
def win_grow_in : Tm := ⟨[.cells 129 [.int .i64, .int .i64, .int .i64, .int .i64, .ptr 1 0, .int .u64, .bool, .int .u64, .bool, .bool, .int .i64], .cells 183 [.bool, .int .i64, .int .i64, .int .i64]], [(0, .w (.at (.ptr 0 0))), (1, .w (.at (.int .i64)))]⟩
def win_grow_out : Tm := ⟨[.cells 129 [.int .i64, .int .i64, .int .i64, .int .i64, .ptr 1 0, .int .u64, .bool, .int .u64, .bool, .bool, .int .i64], .cells 183 [.bool, .int .i64, .int .i64, .int .i64]], [(0, .tup [])]⟩
def win_grow_5_T : Tm := ⟨[.cells 129 [.int .i64, .int .i64, .int .i64, .int .i64, .ptr 1 0, .int .u64, .bool, .int .u64, .bool, .bool, .int .i64], .cells 183 [.bool, .int .i64, .int .i64, .int .i64]], [(0, .w (.at (.ptr 0 0)))]⟩
def win_grow_5_X0 : Tm := ⟨[.cells 129 [.int .i64, .int .i64, .int .i64, .int .i64, .ptr 1 0, .int .u64, .bool, .int .u64, .bool, .bool, .int .i64], .cells 183 [.bool, .int .i64, .int .i64, .int .i64]], []⟩
def win_grow_5_X : Exits := [(0, (win_grow_5_X0, []))]
def win_grow_5_R : Tm := ⟨[], []⟩

def win_grow_Λd (L5 : ({β : Type} → (Nat → List Leaf → Option β) → (List Leaf → Option β) → Nat → Int → Int → Int → Int → Int → Bool → Int → Bool → Bool → Int → Bool → Int → Int → Int → Option β)) : Loops := ⟨fun b fr H kx kr => bif Nat.beq (rid b) 5 then loopE 2 win_grow_5_T [] win_grow_5_X win_grow_5_R (win_grow_5_F @L5 top) fr H kx kr else none⟩
def win_grow_Λ : Loops := win_grow_Λd @win_grow_5_L
theorem win_grow_5_e (L5 : ({β : Type} → (Nat → List Leaf → Option β) → (List Leaf → Option β) → Nat → Int → Int → Int → Int → Int → Bool → Int → Bool → Bool → Int → Bool → Int → Int → Int → Option β)) {α : Type} (kx : Nat → List Leaf → Option α) (kr : List Leaf → Option α) (again : Int → Int → Int → Int → Int → Bool → Int → Bool → Bool → Int → Bool → Int → Int → Int → Option α) (w_cwnd : Int) (w_slow : Int) (w_pipe : Int) (w_count : Int) (w_halved_n : Int) (w_halved_is : Bool) (w_last_n : Int) (w_last_is : Bool) (w_runs : Bool) (w_due : Int) (w_rtt_any : Bool) (w_rtt_smooth : Int) (w_rtt_spread : Int) (w_rtt_rto : Int) : win_grow_5_B  kx kr again w_cwnd w_slow w_pipe w_count w_halved_n w_halved_is w_last_n w_last_is w_runs w_due w_rtt_any w_rtt_smooth w_rtt_spread w_rtt_rto = loopB G53 (win_grow_Λd @L5) false tab Go.Proofs.Tryz.f269.ntmps 2 win_grow_5_T [] win_grow_5_X win_grow_5_R (bodyAt (fb Go.Proofs.Tryz.f269) 0) (fun ls => un_i ls fun w_cwnd rr => un_i rr fun w_slow rr => un_i rr fun w_pipe rr => un_i rr fun w_count rr => un_i rr fun w_halved_n rr => un_b rr fun w_halved_is rr => un_i rr fun w_last_n rr => un_b rr fun w_last_is rr => un_b rr fun w_runs rr => un_i rr fun w_due rr => un_b rr fun w_rtt_any rr => un_i rr fun w_rtt_smooth rr => un_i rr fun w_rtt_spread rr => un_i rr fun w_rtt_rto rr => un_nil rr (again w_cwnd w_slow w_pipe w_count w_halved_n w_halved_is w_last_n w_last_is w_runs w_due w_rtt_any w_rtt_smooth w_rtt_spread w_rtt_rto)) kx kr (instFr win_grow_5_T [.i w_cwnd, .i w_slow, .i w_pipe, .i w_count, .i w_halved_n, .b w_halved_is, .i w_last_n, .b w_last_is, .b w_runs, .i w_due, .b w_rtt_any, .i w_rtt_smooth, .i w_rtt_spread, .i w_rtt_rto]) (instH win_grow_5_T [.i w_cwnd, .i w_slow, .i w_pipe, .i w_count, .i w_halved_n, .b w_halved_is, .i w_last_n, .b w_last_is, .b w_runs, .i w_due, .b w_rtt_any, .i w_rtt_smooth, .i w_rtt_spread, .i w_rtt_rto]) := by kernel_rfl
theorem win_grow_5_lok (E : Nat → Prop) (w0 ws : World) (ρ0 : List Pl) (hk : ρ0.length = 2) : LOk Go.Proofs.Tryz.prog 269 Go.Proofs.Tryz.f269 false E w0 ws Go.Proofs.Tryz.f269.ntmps ρ0 win_grow_Λ (bodyAt (fb Go.Proofs.Tryz.f269) 0) := by
  refine lok mixed tab_ok g53 Go.Proofs.Tryz.func269 hk (T := win_grow_5_T) (rt := win_grow_5_R) (cuts := []) (ex := win_grow_5_X) (top := top) (F := win_grow_5_F @win_grow_5_L) (fun fr H kx kr => by kernel_rfl) ?_ ?_ ?_
  · intro α ls' kx' kr' r' h'
    unfold win_grow_5_F at h'
    obtain ⟨w_cwnd, l'1, rfl, h'1⟩ := un_i_some.1 h'
    obtain ⟨w_slow, l'2, rfl, h'2⟩ := un_i_some.1 h'1
    obtain ⟨w_pipe, l'3, rfl, h'3⟩ := un_i_some.1 h'2
    obtain ⟨w_count, l'4, rfl, h'4⟩ := un_i_some.1 h'3
    obtain ⟨w_halved_n, l'5, rfl, h'5⟩ := un_i_some.1 h'4
    obtain ⟨w_halved_is, l'6, rfl, h'6⟩ := un_b_some.1 h'5
    obtain ⟨w_last_n, l'7, rfl, h'7⟩ := un_i_some.1 h'6
    obtain ⟨w_last_is, l'8, rfl, h'8⟩ := un_b_some.1 h'7
    obtain ⟨w_runs, l'9, rfl, h'9⟩ := un_b_some.1 h'8
    obtain ⟨w_due, l'10, rfl, h'10⟩ := un_i_some.1 h'9
    obtain ⟨w_rtt_any, l'11, rfl, h'11⟩ := un_b_some.1 h'10
    obtain ⟨w_rtt_smooth, l'12, rfl, h'12⟩ := un_i_some.1 h'11
    obtain ⟨w_rtt_spread, l'13, rfl, h'13⟩ := un_i_some.1 h'12
    obtain ⟨w_rtt_rto, l'14, rfl, h'14⟩ := un_i_some.1 h'13
    obtain ⟨rfl, h'Z⟩ := un_nil_some.1 h'14
    cases h'Z
  · intro α n' ls' kx' kr' r' h'
    unfold win_grow_5_F at h'
    obtain ⟨w_cwnd, l'1, rfl, h'1⟩ := un_i_some.1 h'
    obtain ⟨w_slow, l'2, rfl, h'2⟩ := un_i_some.1 h'1
    obtain ⟨w_pipe, l'3, rfl, h'3⟩ := un_i_some.1 h'2
    obtain ⟨w_count, l'4, rfl, h'4⟩ := un_i_some.1 h'3
    obtain ⟨w_halved_n, l'5, rfl, h'5⟩ := un_i_some.1 h'4
    obtain ⟨w_halved_is, l'6, rfl, h'6⟩ := un_b_some.1 h'5
    obtain ⟨w_last_n, l'7, rfl, h'7⟩ := un_i_some.1 h'6
    obtain ⟨w_last_is, l'8, rfl, h'8⟩ := un_b_some.1 h'7
    obtain ⟨w_runs, l'9, rfl, h'9⟩ := un_b_some.1 h'8
    obtain ⟨w_due, l'10, rfl, h'10⟩ := un_i_some.1 h'9
    obtain ⟨w_rtt_any, l'11, rfl, h'11⟩ := un_b_some.1 h'10
    obtain ⟨w_rtt_smooth, l'12, rfl, h'12⟩ := un_i_some.1 h'11
    obtain ⟨w_rtt_spread, l'13, rfl, h'13⟩ := un_i_some.1 h'12
    obtain ⟨w_rtt_rto, l'14, rfl, h'14⟩ := un_i_some.1 h'13
    obtain ⟨rfl, h'Z⟩ := un_nil_some.1 h'14
    exact (win_grow_5_e @win_grow_5_L kx' kr' (win_grow_5_L kx' kr' n') w_cwnd w_slow w_pipe w_count w_halved_n w_halved_is w_last_n w_last_is w_runs w_due w_rtt_any w_rtt_smooth w_rtt_spread w_rtt_rto).symm.trans h'Z
  · intro b' hb
    rw [show loopsOf (bodyAt (fb Go.Proofs.Tryz.f269) 0) = [] by kernel_rfl] at hb
    cases hb
theorem win_grow_ed (L5 : ({β : Type} → (Nat → List Leaf → Option β) → (List Leaf → Option β) → Nat → Int → Int → Int → Int → Int → Bool → Int → Bool → Bool → Int → Bool → Int → Int → Int → Option β)) (w_cwnd : Int) (w_slow : Int) (w_pipe : Int) (w_count : Int) (w_halved_n : Int) (w_halved_is : Bool) (w_last_n : Int) (w_last_is : Bool) (w_runs : Bool) (w_due : Int) (w_rtt_any : Bool) (w_rtt_smooth : Int) (w_rtt_spread : Int) (w_rtt_rto : Int) (n2 : Int) : win_grow_d @L5 w_cwnd w_slow w_pipe w_count w_halved_n w_halved_is w_last_n w_last_is w_runs w_due w_rtt_any w_rtt_smooth w_rtt_spread w_rtt_rto n2 = den G53 (win_grow_Λd @L5) false tab Go.Proofs.Tryz.f269.ntmps (fun fr H => finish tab 2 Go.Proofs.Tryz.f269.results.toList win_grow_out [] fr H some) (fun _ _ _ => none) (fun fr H => finish tab 2 Go.Proofs.Tryz.f269.results.toList win_grow_out [] fr H some) 10000 [.code (fb Go.Proofs.Tryz.f269)] (instFr win_grow_in [.i w_cwnd, .i w_slow, .i w_pipe, .i w_count, .i w_halved_n, .b w_halved_is, .i w_last_n, .b w_last_is, .b w_runs, .i w_due, .b w_rtt_any, .i w_rtt_smooth, .i w_rtt_spread, .i w_rtt_rto, .i n2]) (instH win_grow_in [.i w_cwnd, .i w_slow, .i w_pipe, .i w_count, .i w_halved_n, .b w_halved_is, .i w_last_n, .b w_last_is, .b w_runs, .i w_due, .b w_rtt_any, .i w_rtt_smooth, .i w_rtt_spread, .i w_rtt_rto, .i n2]) := by kernel_rfl
theorem win_grow_e (w_cwnd : Int) (w_slow : Int) (w_pipe : Int) (w_count : Int) (w_halved_n : Int) (w_halved_is : Bool) (w_last_n : Int) (w_last_is : Bool) (w_runs : Bool) (w_due : Int) (w_rtt_any : Bool) (w_rtt_smooth : Int) (w_rtt_spread : Int) (w_rtt_rto : Int) (n2 : Int) : win_grow w_cwnd w_slow w_pipe w_count w_halved_n w_halved_is w_last_n w_last_is w_runs w_due w_rtt_any w_rtt_smooth w_rtt_spread w_rtt_rto n2 = den G53 win_grow_Λ false tab Go.Proofs.Tryz.f269.ntmps (fun fr H => finish tab 2 Go.Proofs.Tryz.f269.results.toList win_grow_out [] fr H some) (fun _ _ _ => none) (fun fr H => finish tab 2 Go.Proofs.Tryz.f269.results.toList win_grow_out [] fr H some) 10000 [.code (fb Go.Proofs.Tryz.f269)] (instFr win_grow_in [.i w_cwnd, .i w_slow, .i w_pipe, .i w_count, .i w_halved_n, .b w_halved_is, .i w_last_n, .b w_last_is, .b w_runs, .i w_due, .b w_rtt_any, .i w_rtt_smooth, .i w_rtt_spread, .i w_rtt_rto, .i n2]) (instH win_grow_in [.i w_cwnd, .i w_slow, .i w_pipe, .i w_count, .i w_halved_n, .b w_halved_is, .i w_last_n, .b w_last_is, .b w_runs, .i w_due, .b w_rtt_any, .i w_rtt_smooth, .i w_rtt_spread, .i w_rtt_rto, .i n2]) := win_grow_ed @win_grow_5_L w_cwnd w_slow w_pipe w_count w_halved_n w_halved_is w_last_n w_last_is w_runs w_due w_rtt_any w_rtt_smooth w_rtt_spread w_rtt_rto n2
def win_grow_S : List Leaf → Option (List Leaf) := fun ls => un_i ls fun w_cwnd rr => un_i rr fun w_slow rr => un_i rr fun w_pipe rr => un_i rr fun w_count rr => un_i rr fun w_halved_n rr => un_b rr fun w_halved_is rr => un_i rr fun w_last_n rr => un_b rr fun w_last_is rr => un_b rr fun w_runs rr => un_i rr fun w_due rr => un_b rr fun w_rtt_any rr => un_i rr fun w_rtt_smooth rr => un_i rr fun w_rtt_spread rr => un_i rr fun w_rtt_rto rr => un_i rr fun n2 rr => un_nil rr (win_grow w_cwnd w_slow w_pipe w_count w_halved_n w_halved_is w_last_n w_last_is w_runs w_due w_rtt_any w_rtt_smooth w_rtt_spread w_rtt_rto n2)
def win_grow_SC : Tld := fun ls k' => un_i ls fun w_cwnd rr => un_i rr fun w_slow rr => un_i rr fun w_pipe rr => un_i rr fun w_count rr => un_i rr fun w_halved_n rr => un_b rr fun w_halved_is rr => un_i rr fun w_last_n rr => un_b rr fun w_last_is rr => un_b rr fun w_runs rr => un_i rr fun w_due rr => un_b rr fun w_rtt_any rr => un_i rr fun w_rtt_smooth rr => un_i rr fun w_rtt_spread rr => un_i rr fun w_rtt_rto rr => un_i rr fun n2 rr => un_nil rr (out (win_grow w_cwnd w_slow w_pipe w_count w_halved_n w_halved_is w_last_n w_last_is w_runs w_due w_rtt_any w_rtt_smooth w_rtt_spread w_rtt_rto n2) k')
theorem win_grow_Se (w_cwnd : Int) (w_slow : Int) (w_pipe : Int) (w_count : Int) (w_halved_n : Int) (w_halved_is : Bool) (w_last_n : Int) (w_last_is : Bool) (w_runs : Bool) (w_due : Int) (w_rtt_any : Bool) (w_rtt_smooth : Int) (w_rtt_spread : Int) (w_rtt_rto : Int) (n2 : Int) : win_grow_S [.i w_cwnd, .i w_slow, .i w_pipe, .i w_count, .i w_halved_n, .b w_halved_is, .i w_last_n, .b w_last_is, .b w_runs, .i w_due, .b w_rtt_any, .i w_rtt_smooth, .i w_rtt_spread, .i w_rtt_rto, .i n2] = win_grow w_cwnd w_slow w_pipe w_count w_halved_n w_halved_is w_last_n w_last_is w_runs w_due w_rtt_any w_rtt_smooth w_rtt_spread w_rtt_rto n2 := by
  unfold win_grow_S
  simp only [un_i_ev, un_b_ev, un_s_ev, un_li_ev, un_lb_ev, un_ls_ev, un_nil_ev]
theorem win_grow_says : Says win_grow_SC win_grow_S := by
  intro β ls' k' r' h'
  unfold win_grow_SC at h'
  obtain ⟨w_cwnd, l'1, rfl, h'1⟩ := un_i_some.1 h'
  obtain ⟨w_slow, l'2, rfl, h'2⟩ := un_i_some.1 h'1
  obtain ⟨w_pipe, l'3, rfl, h'3⟩ := un_i_some.1 h'2
  obtain ⟨w_count, l'4, rfl, h'4⟩ := un_i_some.1 h'3
  obtain ⟨w_halved_n, l'5, rfl, h'5⟩ := un_i_some.1 h'4
  obtain ⟨w_halved_is, l'6, rfl, h'6⟩ := un_b_some.1 h'5
  obtain ⟨w_last_n, l'7, rfl, h'7⟩ := un_i_some.1 h'6
  obtain ⟨w_last_is, l'8, rfl, h'8⟩ := un_b_some.1 h'7
  obtain ⟨w_runs, l'9, rfl, h'9⟩ := un_b_some.1 h'8
  obtain ⟨w_due, l'10, rfl, h'10⟩ := un_i_some.1 h'9
  obtain ⟨w_rtt_any, l'11, rfl, h'11⟩ := un_b_some.1 h'10
  obtain ⟨w_rtt_smooth, l'12, rfl, h'12⟩ := un_i_some.1 h'11
  obtain ⟨w_rtt_spread, l'13, rfl, h'13⟩ := un_i_some.1 h'12
  obtain ⟨w_rtt_rto, l'14, rfl, h'14⟩ := un_i_some.1 h'13
  obtain ⟨n2, l'15, rfl, h'15⟩ := un_i_some.1 h'14
  obtain ⟨rfl, h'Z⟩ := un_nil_some.1 h'15
  obtain ⟨l', a', b'⟩ := out_some.1 h'Z
  exact ⟨l', (win_grow_Se w_cwnd w_slow w_pipe w_count w_halved_n w_halved_is w_last_n w_last_is w_runs w_due w_rtt_any w_rtt_smooth w_rtt_spread w_rtt_rto n2).trans a', b'⟩
theorem win_grow_c : FnC Go.Proofs.Tryz.prog 269 false 2 2 win_grow_in win_grow_out win_grow_S := by
  refine fn_ok (Λ := win_grow_Λ) mixed tab_ok g53 Go.Proofs.Tryz.func269 (by kernel_rfl) (body := fb Go.Proofs.Tryz.f269) rfl (ts := Go.Proofs.Tryz.f269.results.toList) rfl (cuts := []) (by kernel_rfl) (Nat.le_of_ble_eq_true (by kernel_rfl)) (by kernel_rfl) (rt := .tup []) rfl ?_ ?_
  · intro ls' r' h'
    unfold win_grow_S at h'
    obtain ⟨w_cwnd, l'1, rfl, h'1⟩ := un_i_some.1 h'
    obtain ⟨w_slow, l'2, rfl, h'2⟩ := un_i_some.1 h'1
    obtain ⟨w_pipe, l'3, rfl, h'3⟩ := un_i_some.1 h'2
    obtain ⟨w_count, l'4, rfl, h'4⟩ := un_i_some.1 h'3
    obtain ⟨w_halved_n, l'5, rfl, h'5⟩ := un_i_some.1 h'4
    obtain ⟨w_halved_is, l'6, rfl, h'6⟩ := un_b_some.1 h'5
    obtain ⟨w_last_n, l'7, rfl, h'7⟩ := un_i_some.1 h'6
    obtain ⟨w_last_is, l'8, rfl, h'8⟩ := un_b_some.1 h'7
    obtain ⟨w_runs, l'9, rfl, h'9⟩ := un_b_some.1 h'8
    obtain ⟨w_due, l'10, rfl, h'10⟩ := un_i_some.1 h'9
    obtain ⟨w_rtt_any, l'11, rfl, h'11⟩ := un_b_some.1 h'10
    obtain ⟨w_rtt_smooth, l'12, rfl, h'12⟩ := un_i_some.1 h'11
    obtain ⟨w_rtt_spread, l'13, rfl, h'13⟩ := un_i_some.1 h'12
    obtain ⟨w_rtt_rto, l'14, rfl, h'14⟩ := un_i_some.1 h'13
    obtain ⟨n2, l'15, rfl, h'15⟩ := un_i_some.1 h'14
    obtain ⟨rfl, h'Z⟩ := un_nil_some.1 h'15
    exact (win_grow_e w_cwnd w_slow w_pipe w_count w_halved_n w_halved_is w_last_n w_last_is w_runs w_due w_rtt_any w_rtt_smooth w_rtt_spread w_rtt_rto n2).symm.trans h'Z
  · intro E w0 ws ρ0 hk b hb
    rw [show loopsOf (fb Go.Proofs.Tryz.f269) = [(bodyAt (fb Go.Proofs.Tryz.f269) 0)] by kernel_rfl] at hb
    simp only [List.mem_cons, List.mem_nil_iff, or_false] at hb
    rcases hb with rfl
    · exact win_grow_5_lok E w0 ws ρ0 hk
noncomputable def G54 : Env := G53.addE 269 2 win_grow_in win_grow_out win_grow_SC
theorem g54 : EnvOk Go.Proofs.Tryz.prog G54 := EnvOk.addE g53 win_grow_c win_grow_says

-- ### win_Cwnd: function 26
def win_Cwnd_in : Tm := ⟨[.cells 129 [.int .i64, .int .i64, .int .i64, .int .i64, .ptr 1 0, .int .u64, .bool, .int .u64, .bool, .bool, .int .i64], .cells 183 [.bool, .int .i64, .int .i64, .int .i64]], [(0, .w (.at (.ptr 0 0)))]⟩
def win_Cwnd_out : Tm := ⟨[.dead, .dead], [(0, .w (.at (.int .i64)))]⟩

def win_Cwnd_Λd : Loops := Loops.none
def win_Cwnd_Λ : Loops := win_Cwnd_Λd 

theorem win_Cwnd_e (w_cwnd : Int) (w_slow : Int) (w_pipe : Int) (w_count : Int) (w_halved_n : Int) (w_halved_is : Bool) (w_last_n : Int) (w_last_is : Bool) (w_runs : Bool) (w_due : Int) (w_rtt_any : Bool) (w_rtt_smooth : Int) (w_rtt_spread : Int) (w_rtt_rto : Int) : win_Cwnd w_cwnd w_slow w_pipe w_count w_halved_n w_halved_is w_last_n w_last_is w_runs w_due w_rtt_any w_rtt_smooth w_rtt_spread w_rtt_rto = den G54 win_Cwnd_Λ true tab Go.Proofs.Tryz.f26.ntmps (fun fr H => finish tab 2 Go.Proofs.Tryz.f26.results.toList win_Cwnd_out [] fr H some) (fun _ _ _ => none) (fun fr H => finish tab 2 Go.Proofs.Tryz.f26.results.toList win_Cwnd_out [] fr H some) 10000 [.code (fb Go.Proofs.Tryz.f26)] (instFr win_Cwnd_in [.i w_cwnd, .i w_slow, .i w_pipe, .i w_count, .i w_halved_n, .b w_halved_is, .i w_last_n, .b w_last_is, .b w_runs, .i w_due, .b w_rtt_any, .i w_rtt_smooth, .i w_rtt_spread, .i w_rtt_rto]) (instH win_Cwnd_in [.i w_cwnd, .i w_slow, .i w_pipe, .i w_count, .i w_halved_n, .b w_halved_is, .i w_last_n, .b w_last_is, .b w_runs, .i w_due, .b w_rtt_any, .i w_rtt_smooth, .i w_rtt_spread, .i w_rtt_rto]) := by kernel_rfl
def win_Cwnd_S : List Leaf → Option (List Leaf) := fun ls => un_i ls fun w_cwnd rr => un_i rr fun w_slow rr => un_i rr fun w_pipe rr => un_i rr fun w_count rr => un_i rr fun w_halved_n rr => un_b rr fun w_halved_is rr => un_i rr fun w_last_n rr => un_b rr fun w_last_is rr => un_b rr fun w_runs rr => un_i rr fun w_due rr => un_b rr fun w_rtt_any rr => un_i rr fun w_rtt_smooth rr => un_i rr fun w_rtt_spread rr => un_i rr fun w_rtt_rto rr => un_nil rr (win_Cwnd w_cwnd w_slow w_pipe w_count w_halved_n w_halved_is w_last_n w_last_is w_runs w_due w_rtt_any w_rtt_smooth w_rtt_spread w_rtt_rto)
def win_Cwnd_SC : Tld := fun ls k' => un_i ls fun w_cwnd rr => un_i rr fun w_slow rr => un_i rr fun w_pipe rr => un_i rr fun w_count rr => un_i rr fun w_halved_n rr => un_b rr fun w_halved_is rr => un_i rr fun w_last_n rr => un_b rr fun w_last_is rr => un_b rr fun w_runs rr => un_i rr fun w_due rr => un_b rr fun w_rtt_any rr => un_i rr fun w_rtt_smooth rr => un_i rr fun w_rtt_spread rr => un_i rr fun w_rtt_rto rr => un_nil rr (out (win_Cwnd w_cwnd w_slow w_pipe w_count w_halved_n w_halved_is w_last_n w_last_is w_runs w_due w_rtt_any w_rtt_smooth w_rtt_spread w_rtt_rto) k')
theorem win_Cwnd_Se (w_cwnd : Int) (w_slow : Int) (w_pipe : Int) (w_count : Int) (w_halved_n : Int) (w_halved_is : Bool) (w_last_n : Int) (w_last_is : Bool) (w_runs : Bool) (w_due : Int) (w_rtt_any : Bool) (w_rtt_smooth : Int) (w_rtt_spread : Int) (w_rtt_rto : Int) : win_Cwnd_S [.i w_cwnd, .i w_slow, .i w_pipe, .i w_count, .i w_halved_n, .b w_halved_is, .i w_last_n, .b w_last_is, .b w_runs, .i w_due, .b w_rtt_any, .i w_rtt_smooth, .i w_rtt_spread, .i w_rtt_rto] = win_Cwnd w_cwnd w_slow w_pipe w_count w_halved_n w_halved_is w_last_n w_last_is w_runs w_due w_rtt_any w_rtt_smooth w_rtt_spread w_rtt_rto := by
  unfold win_Cwnd_S
  simp only [un_i_ev, un_b_ev, un_s_ev, un_li_ev, un_lb_ev, un_ls_ev, un_nil_ev]
theorem win_Cwnd_says : Says win_Cwnd_SC win_Cwnd_S := by
  intro β ls' k' r' h'
  unfold win_Cwnd_SC at h'
  obtain ⟨w_cwnd, l'1, rfl, h'1⟩ := un_i_some.1 h'
  obtain ⟨w_slow, l'2, rfl, h'2⟩ := un_i_some.1 h'1
  obtain ⟨w_pipe, l'3, rfl, h'3⟩ := un_i_some.1 h'2
  obtain ⟨w_count, l'4, rfl, h'4⟩ := un_i_some.1 h'3
  obtain ⟨w_halved_n, l'5, rfl, h'5⟩ := un_i_some.1 h'4
  obtain ⟨w_halved_is, l'6, rfl, h'6⟩ := un_b_some.1 h'5
  obtain ⟨w_last_n, l'7, rfl, h'7⟩ := un_i_some.1 h'6
  obtain ⟨w_last_is, l'8, rfl, h'8⟩ := un_b_some.1 h'7
  obtain ⟨w_runs, l'9, rfl, h'9⟩ := un_b_some.1 h'8
  obtain ⟨w_due, l'10, rfl, h'10⟩ := un_i_some.1 h'9
  obtain ⟨w_rtt_any, l'11, rfl, h'11⟩ := un_b_some.1 h'10
  obtain ⟨w_rtt_smooth, l'12, rfl, h'12⟩ := un_i_some.1 h'11
  obtain ⟨w_rtt_spread, l'13, rfl, h'13⟩ := un_i_some.1 h'12
  obtain ⟨w_rtt_rto, l'14, rfl, h'14⟩ := un_i_some.1 h'13
  obtain ⟨rfl, h'Z⟩ := un_nil_some.1 h'14
  obtain ⟨l', a', b'⟩ := out_some.1 h'Z
  exact ⟨l', (win_Cwnd_Se w_cwnd w_slow w_pipe w_count w_halved_n w_halved_is w_last_n w_last_is w_runs w_due w_rtt_any w_rtt_smooth w_rtt_spread w_rtt_rto).trans a', b'⟩
theorem win_Cwnd_c : FnC Go.Proofs.Tryz.prog 26 true 1 2 win_Cwnd_in win_Cwnd_out win_Cwnd_S := by
  refine fn_ok (Λ := win_Cwnd_Λ) mixed tab_ok g54 Go.Proofs.Tryz.func26 (by kernel_rfl) (body := fb Go.Proofs.Tryz.f26) rfl (ts := Go.Proofs.Tryz.f26.results.toList) rfl (cuts := []) (by kernel_rfl) (Nat.le_of_ble_eq_true (by kernel_rfl)) (by kernel_rfl) (rt := .w (.at (.int .i64))) rfl ?_ ?_
  · intro ls' r' h'
    unfold win_Cwnd_S at h'
    obtain ⟨w_cwnd, l'1, rfl, h'1⟩ := un_i_some.1 h'
    obtain ⟨w_slow, l'2, rfl, h'2⟩ := un_i_some.1 h'1
    obtain ⟨w_pipe, l'3, rfl, h'3⟩ := un_i_some.1 h'2
    obtain ⟨w_count, l'4, rfl, h'4⟩ := un_i_some.1 h'3
    obtain ⟨w_halved_n, l'5, rfl, h'5⟩ := un_i_some.1 h'4
    obtain ⟨w_halved_is, l'6, rfl, h'6⟩ := un_b_some.1 h'5
    obtain ⟨w_last_n, l'7, rfl, h'7⟩ := un_i_some.1 h'6
    obtain ⟨w_last_is, l'8, rfl, h'8⟩ := un_b_some.1 h'7
    obtain ⟨w_runs, l'9, rfl, h'9⟩ := un_b_some.1 h'8
    obtain ⟨w_due, l'10, rfl, h'10⟩ := un_i_some.1 h'9
    obtain ⟨w_rtt_any, l'11, rfl, h'11⟩ := un_b_some.1 h'10
    obtain ⟨w_rtt_smooth, l'12, rfl, h'12⟩ := un_i_some.1 h'11
    obtain ⟨w_rtt_spread, l'13, rfl, h'13⟩ := un_i_some.1 h'12
    obtain ⟨w_rtt_rto, l'14, rfl, h'14⟩ := un_i_some.1 h'13
    obtain ⟨rfl, h'Z⟩ := un_nil_some.1 h'14
    exact (win_Cwnd_e w_cwnd w_slow w_pipe w_count w_halved_n w_halved_is w_last_n w_last_is w_runs w_due w_rtt_any w_rtt_smooth w_rtt_spread w_rtt_rto).symm.trans h'Z
  · intro E w0 ws ρ0 hk b hb
    rw [show loopsOf (fb Go.Proofs.Tryz.f26) = [] by kernel_rfl] at hb
    cases hb
noncomputable def G55 : Env := G54.addP 26 1 win_Cwnd_in win_Cwnd_out win_Cwnd_SC
theorem g55 : EnvOk Go.Proofs.Tryz.prog G55 := EnvOk.addP g54 win_Cwnd_c win_Cwnd_says
end Go.Sx.T

