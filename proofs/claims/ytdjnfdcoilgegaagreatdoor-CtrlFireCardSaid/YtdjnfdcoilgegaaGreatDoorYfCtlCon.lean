import Derived.Test.YtdjnfdcoilgegaaGreatDoorYfCtlSpec
import Derived.Test.YtdjnfdcoilgegaaGreatDoorYfWinCon
set_option linter.all false
namespace Go.Sx.T
open Go Go.Sx Go.Proofs
set_option maxRecDepth 100000

-- ### cw_Sent: function 253
def cw_Sent_in : Tm := ⟨[.cells 87 [.ptr 1 0], .cells 96 [.int .i64, .int .i64, .int .i64, .int .i64, .ptr 2 0, .int .u64, .bool, .int .u64, .bool, .bool, .int .i64], .cells 165 [.bool, .int .i64, .int .i64, .int .i64]], [(0, .w (.at (.ptr 0 0))), (1, .w (.at (.int .i64))), (2, .w (.at (.int .u64))), (3, .w (.at (.int .i64)))]⟩
def cw_Sent_out : Tm := ⟨[.cells 87 [.ptr 1 0], .cells 96 [.int .i64, .int .i64, .int .i64, .int .i64, .ptr 2 0, .int .u64, .bool, .int .u64, .bool, .bool, .int .i64], .cells 165 [.bool, .int .i64, .int .i64, .int .i64]], [(0, .w (.at (.bool)))]⟩

def cw_Sent_Λd : Loops := Loops.none
def cw_Sent_Λ : Loops := cw_Sent_Λd 

theorem cw_Sent_e (c_w_cwnd : Int) (c_w_slow : Int) (c_w_pipe : Int) (c_w_count : Int) (c_w_halved_n : Int) (c_w_halved_is : Bool) (c_w_last_n : Int) (c_w_last_is : Bool) (c_w_runs : Bool) (c_w_due : Int) (c_w_rtt_any : Bool) (c_w_rtt_smooth : Int) (c_w_rtt_spread : Int) (c_w_rtt_rto : Int) (now : Int) (s : Int) (t3 : Int) : cw_Sent c_w_cwnd c_w_slow c_w_pipe c_w_count c_w_halved_n c_w_halved_is c_w_last_n c_w_last_is c_w_runs c_w_due c_w_rtt_any c_w_rtt_smooth c_w_rtt_spread c_w_rtt_rto now s t3 = den G47 cw_Sent_Λ false tab Go.Proofs.Tryz.f253.ntmps (fun fr H => finish tab 3 Go.Proofs.Tryz.f253.results.toList cw_Sent_out [] fr H some) (fun _ _ _ => none) (fun fr H => finish tab 3 Go.Proofs.Tryz.f253.results.toList cw_Sent_out [] fr H some) 10000 [.code (fb Go.Proofs.Tryz.f253)] (instFr cw_Sent_in [.i c_w_cwnd, .i c_w_slow, .i c_w_pipe, .i c_w_count, .i c_w_halved_n, .b c_w_halved_is, .i c_w_last_n, .b c_w_last_is, .b c_w_runs, .i c_w_due, .b c_w_rtt_any, .i c_w_rtt_smooth, .i c_w_rtt_spread, .i c_w_rtt_rto, .i now, .i s, .i t3]) (instH cw_Sent_in [.i c_w_cwnd, .i c_w_slow, .i c_w_pipe, .i c_w_count, .i c_w_halved_n, .b c_w_halved_is, .i c_w_last_n, .b c_w_last_is, .b c_w_runs, .i c_w_due, .b c_w_rtt_any, .i c_w_rtt_smooth, .i c_w_rtt_spread, .i c_w_rtt_rto, .i now, .i s, .i t3]) := by kernel_rfl
def cw_Sent_S : List Leaf → Option (List Leaf) := fun ls => un_i ls fun c_w_cwnd rr => un_i rr fun c_w_slow rr => un_i rr fun c_w_pipe rr => un_i rr fun c_w_count rr => un_i rr fun c_w_halved_n rr => un_b rr fun c_w_halved_is rr => un_i rr fun c_w_last_n rr => un_b rr fun c_w_last_is rr => un_b rr fun c_w_runs rr => un_i rr fun c_w_due rr => un_b rr fun c_w_rtt_any rr => un_i rr fun c_w_rtt_smooth rr => un_i rr fun c_w_rtt_spread rr => un_i rr fun c_w_rtt_rto rr => un_i rr fun now rr => un_i rr fun s rr => un_i rr fun t3 rr => un_nil rr (cw_Sent c_w_cwnd c_w_slow c_w_pipe c_w_count c_w_halved_n c_w_halved_is c_w_last_n c_w_last_is c_w_runs c_w_due c_w_rtt_any c_w_rtt_smooth c_w_rtt_spread c_w_rtt_rto now s t3)
def cw_Sent_SC : Tld := fun ls k' => un_i ls fun c_w_cwnd rr => un_i rr fun c_w_slow rr => un_i rr fun c_w_pipe rr => un_i rr fun c_w_count rr => un_i rr fun c_w_halved_n rr => un_b rr fun c_w_halved_is rr => un_i rr fun c_w_last_n rr => un_b rr fun c_w_last_is rr => un_b rr fun c_w_runs rr => un_i rr fun c_w_due rr => un_b rr fun c_w_rtt_any rr => un_i rr fun c_w_rtt_smooth rr => un_i rr fun c_w_rtt_spread rr => un_i rr fun c_w_rtt_rto rr => un_i rr fun now rr => un_i rr fun s rr => un_i rr fun t3 rr => un_nil rr (out (cw_Sent c_w_cwnd c_w_slow c_w_pipe c_w_count c_w_halved_n c_w_halved_is c_w_last_n c_w_last_is c_w_runs c_w_due c_w_rtt_any c_w_rtt_smooth c_w_rtt_spread c_w_rtt_rto now s t3) k')
theorem cw_Sent_Se (c_w_cwnd : Int) (c_w_slow : Int) (c_w_pipe : Int) (c_w_count : Int) (c_w_halved_n : Int) (c_w_halved_is : Bool) (c_w_last_n : Int) (c_w_last_is : Bool) (c_w_runs : Bool) (c_w_due : Int) (c_w_rtt_any : Bool) (c_w_rtt_smooth : Int) (c_w_rtt_spread : Int) (c_w_rtt_rto : Int) (now : Int) (s : Int) (t3 : Int) : cw_Sent_S [.i c_w_cwnd, .i c_w_slow, .i c_w_pipe, .i c_w_count, .i c_w_halved_n, .b c_w_halved_is, .i c_w_last_n, .b c_w_last_is, .b c_w_runs, .i c_w_due, .b c_w_rtt_any, .i c_w_rtt_smooth, .i c_w_rtt_spread, .i c_w_rtt_rto, .i now, .i s, .i t3] = cw_Sent c_w_cwnd c_w_slow c_w_pipe c_w_count c_w_halved_n c_w_halved_is c_w_last_n c_w_last_is c_w_runs c_w_due c_w_rtt_any c_w_rtt_smooth c_w_rtt_spread c_w_rtt_rto now s t3 := by
  unfold cw_Sent_S
  simp only [un_i_ev, un_b_ev, un_s_ev, un_li_ev, un_lb_ev, un_ls_ev, un_nil_ev]
theorem cw_Sent_says : Says cw_Sent_SC cw_Sent_S := by
  intro β ls' k' r' h'
  unfold cw_Sent_SC at h'
  obtain ⟨c_w_cwnd, l'1, rfl, h'1⟩ := un_i_some.1 h'
  obtain ⟨c_w_slow, l'2, rfl, h'2⟩ := un_i_some.1 h'1
  obtain ⟨c_w_pipe, l'3, rfl, h'3⟩ := un_i_some.1 h'2
  obtain ⟨c_w_count, l'4, rfl, h'4⟩ := un_i_some.1 h'3
  obtain ⟨c_w_halved_n, l'5, rfl, h'5⟩ := un_i_some.1 h'4
  obtain ⟨c_w_halved_is, l'6, rfl, h'6⟩ := un_b_some.1 h'5
  obtain ⟨c_w_last_n, l'7, rfl, h'7⟩ := un_i_some.1 h'6
  obtain ⟨c_w_last_is, l'8, rfl, h'8⟩ := un_b_some.1 h'7
  obtain ⟨c_w_runs, l'9, rfl, h'9⟩ := un_b_some.1 h'8
  obtain ⟨c_w_due, l'10, rfl, h'10⟩ := un_i_some.1 h'9
  obtain ⟨c_w_rtt_any, l'11, rfl, h'11⟩ := un_b_some.1 h'10
  obtain ⟨c_w_rtt_smooth, l'12, rfl, h'12⟩ := un_i_some.1 h'11
  obtain ⟨c_w_rtt_spread, l'13, rfl, h'13⟩ := un_i_some.1 h'12
  obtain ⟨c_w_rtt_rto, l'14, rfl, h'14⟩ := un_i_some.1 h'13
  obtain ⟨now, l'15, rfl, h'15⟩ := un_i_some.1 h'14
  obtain ⟨s, l'16, rfl, h'16⟩ := un_i_some.1 h'15
  obtain ⟨t3, l'17, rfl, h'17⟩ := un_i_some.1 h'16
  obtain ⟨rfl, h'Z⟩ := un_nil_some.1 h'17
  obtain ⟨l', a', b'⟩ := out_some.1 h'Z
  exact ⟨l', (cw_Sent_Se c_w_cwnd c_w_slow c_w_pipe c_w_count c_w_halved_n c_w_halved_is c_w_last_n c_w_last_is c_w_runs c_w_due c_w_rtt_any c_w_rtt_smooth c_w_rtt_spread c_w_rtt_rto now s t3).trans a', b'⟩
theorem cw_Sent_c : FnC Go.Proofs.Tryz.prog 253 false 4 3 cw_Sent_in cw_Sent_out cw_Sent_S := by
  refine fn_ok (Λ := cw_Sent_Λ) mixed tab_ok g47 Go.Proofs.Tryz.func253 (by kernel_rfl) (body := fb Go.Proofs.Tryz.f253) rfl (ts := Go.Proofs.Tryz.f253.results.toList) rfl (cuts := []) (by kernel_rfl) (Nat.le_of_ble_eq_true (by kernel_rfl)) (by kernel_rfl) (rt := .w (.at (.bool))) rfl ?_ ?_
  · intro ls' r' h'
    unfold cw_Sent_S at h'
    obtain ⟨c_w_cwnd, l'1, rfl, h'1⟩ := un_i_some.1 h'
    obtain ⟨c_w_slow, l'2, rfl, h'2⟩ := un_i_some.1 h'1
    obtain ⟨c_w_pipe, l'3, rfl, h'3⟩ := un_i_some.1 h'2
    obtain ⟨c_w_count, l'4, rfl, h'4⟩ := un_i_some.1 h'3
    obtain ⟨c_w_halved_n, l'5, rfl, h'5⟩ := un_i_some.1 h'4
    obtain ⟨c_w_halved_is, l'6, rfl, h'6⟩ := un_b_some.1 h'5
    obtain ⟨c_w_last_n, l'7, rfl, h'7⟩ := un_i_some.1 h'6
    obtain ⟨c_w_last_is, l'8, rfl, h'8⟩ := un_b_some.1 h'7
    obtain ⟨c_w_runs, l'9, rfl, h'9⟩ := un_b_some.1 h'8
    obtain ⟨c_w_due, l'10, rfl, h'10⟩ := un_i_some.1 h'9
    obtain ⟨c_w_rtt_any, l'11, rfl, h'11⟩ := un_b_some.1 h'10
    obtain ⟨c_w_rtt_smooth, l'12, rfl, h'12⟩ := un_i_some.1 h'11
    obtain ⟨c_w_rtt_spread, l'13, rfl, h'13⟩ := un_i_some.1 h'12
    obtain ⟨c_w_rtt_rto, l'14, rfl, h'14⟩ := un_i_some.1 h'13
    obtain ⟨now, l'15, rfl, h'15⟩ := un_i_some.1 h'14
    obtain ⟨s, l'16, rfl, h'16⟩ := un_i_some.1 h'15
    obtain ⟨t3, l'17, rfl, h'17⟩ := un_i_some.1 h'16
    obtain ⟨rfl, h'Z⟩ := un_nil_some.1 h'17
    exact (cw_Sent_e c_w_cwnd c_w_slow c_w_pipe c_w_count c_w_halved_n c_w_halved_is c_w_last_n c_w_last_is c_w_runs c_w_due c_w_rtt_any c_w_rtt_smooth c_w_rtt_spread c_w_rtt_rto now s t3).symm.trans h'Z
  · intro E w0 ws ρ0 hk b hb
    rw [show loopsOf (fb Go.Proofs.Tryz.f253) = [] by kernel_rfl] at hb
    cases hb
noncomputable def G48 : Env := G47.addE 253 4 cw_Sent_in cw_Sent_out cw_Sent_SC
theorem g48 : EnvOk Go.Proofs.Tryz.prog G48 := EnvOk.addE g47 cw_Sent_c cw_Sent_says

-- ### cw_Fire: function 249
def cw_Fire_in : Tm := ⟨[.cells 87 [.ptr 1 0], .cells 96 [.int .i64, .int .i64, .int .i64, .int .i64, .ptr 2 0, .int .u64, .bool, .int .u64, .bool, .bool, .int .i64], .cells 165 [.bool, .int .i64, .int .i64, .int .i64]], [(0, .w (.at (.ptr 0 0))), (1, .w (.at (.int .i64)))]⟩
def cw_Fire_out : Tm := ⟨[.cells 87 [.ptr 1 0], .cells 96 [.int .i64, .int .i64, .int .i64, .int .i64, .ptr 2 0, .int .u64, .bool, .int .u64, .bool, .bool, .int .i64], .cells 165 [.bool, .int .i64, .int .i64, .int .i64]], [(0, .w (.at (.bool)))]⟩

def cw_Fire_Λd : Loops := Loops.none
def cw_Fire_Λ : Loops := cw_Fire_Λd 

theorem cw_Fire_e (c_w_cwnd : Int) (c_w_slow : Int) (c_w_pipe : Int) (c_w_count : Int) (c_w_halved_n : Int) (c_w_halved_is : Bool) (c_w_last_n : Int) (c_w_last_is : Bool) (c_w_runs : Bool) (c_w_due : Int) (c_w_rtt_any : Bool) (c_w_rtt_smooth : Int) (c_w_rtt_spread : Int) (c_w_rtt_rto : Int) (now : Int) : cw_Fire c_w_cwnd c_w_slow c_w_pipe c_w_count c_w_halved_n c_w_halved_is c_w_last_n c_w_last_is c_w_runs c_w_due c_w_rtt_any c_w_rtt_smooth c_w_rtt_spread c_w_rtt_rto now = den G48 cw_Fire_Λ false tab Go.Proofs.Tryz.f249.ntmps (fun fr H => finish tab 3 Go.Proofs.Tryz.f249.results.toList cw_Fire_out [] fr H some) (fun _ _ _ => none) (fun fr H => finish tab 3 Go.Proofs.Tryz.f249.results.toList cw_Fire_out [] fr H some) 10000 [.code (fb Go.Proofs.Tryz.f249)] (instFr cw_Fire_in [.i c_w_cwnd, .i c_w_slow, .i c_w_pipe, .i c_w_count, .i c_w_halved_n, .b c_w_halved_is, .i c_w_last_n, .b c_w_last_is, .b c_w_runs, .i c_w_due, .b c_w_rtt_any, .i c_w_rtt_smooth, .i c_w_rtt_spread, .i c_w_rtt_rto, .i now]) (instH cw_Fire_in [.i c_w_cwnd, .i c_w_slow, .i c_w_pipe, .i c_w_count, .i c_w_halved_n, .b c_w_halved_is, .i c_w_last_n, .b c_w_last_is, .b c_w_runs, .i c_w_due, .b c_w_rtt_any, .i c_w_rtt_smooth, .i c_w_rtt_spread, .i c_w_rtt_rto, .i now]) := by kernel_rfl
def cw_Fire_S : List Leaf → Option (List Leaf) := fun ls => un_i ls fun c_w_cwnd rr => un_i rr fun c_w_slow rr => un_i rr fun c_w_pipe rr => un_i rr fun c_w_count rr => un_i rr fun c_w_halved_n rr => un_b rr fun c_w_halved_is rr => un_i rr fun c_w_last_n rr => un_b rr fun c_w_last_is rr => un_b rr fun c_w_runs rr => un_i rr fun c_w_due rr => un_b rr fun c_w_rtt_any rr => un_i rr fun c_w_rtt_smooth rr => un_i rr fun c_w_rtt_spread rr => un_i rr fun c_w_rtt_rto rr => un_i rr fun now rr => un_nil rr (cw_Fire c_w_cwnd c_w_slow c_w_pipe c_w_count c_w_halved_n c_w_halved_is c_w_last_n c_w_last_is c_w_runs c_w_due c_w_rtt_any c_w_rtt_smooth c_w_rtt_spread c_w_rtt_rto now)
def cw_Fire_SC : Tld := fun ls k' => un_i ls fun c_w_cwnd rr => un_i rr fun c_w_slow rr => un_i rr fun c_w_pipe rr => un_i rr fun c_w_count rr => un_i rr fun c_w_halved_n rr => un_b rr fun c_w_halved_is rr => un_i rr fun c_w_last_n rr => un_b rr fun c_w_last_is rr => un_b rr fun c_w_runs rr => un_i rr fun c_w_due rr => un_b rr fun c_w_rtt_any rr => un_i rr fun c_w_rtt_smooth rr => un_i rr fun c_w_rtt_spread rr => un_i rr fun c_w_rtt_rto rr => un_i rr fun now rr => un_nil rr (out (cw_Fire c_w_cwnd c_w_slow c_w_pipe c_w_count c_w_halved_n c_w_halved_is c_w_last_n c_w_last_is c_w_runs c_w_due c_w_rtt_any c_w_rtt_smooth c_w_rtt_spread c_w_rtt_rto now) k')
theorem cw_Fire_Se (c_w_cwnd : Int) (c_w_slow : Int) (c_w_pipe : Int) (c_w_count : Int) (c_w_halved_n : Int) (c_w_halved_is : Bool) (c_w_last_n : Int) (c_w_last_is : Bool) (c_w_runs : Bool) (c_w_due : Int) (c_w_rtt_any : Bool) (c_w_rtt_smooth : Int) (c_w_rtt_spread : Int) (c_w_rtt_rto : Int) (now : Int) : cw_Fire_S [.i c_w_cwnd, .i c_w_slow, .i c_w_pipe, .i c_w_count, .i c_w_halved_n, .b c_w_halved_is, .i c_w_last_n, .b c_w_last_is, .b c_w_runs, .i c_w_due, .b c_w_rtt_any, .i c_w_rtt_smooth, .i c_w_rtt_spread, .i c_w_rtt_rto, .i now] = cw_Fire c_w_cwnd c_w_slow c_w_pipe c_w_count c_w_halved_n c_w_halved_is c_w_last_n c_w_last_is c_w_runs c_w_due c_w_rtt_any c_w_rtt_smooth c_w_rtt_spread c_w_rtt_rto now := by
  unfold cw_Fire_S
  simp only [un_i_ev, un_b_ev, un_s_ev, un_li_ev, un_lb_ev, un_ls_ev, un_nil_ev]
theorem cw_Fire_says : Says cw_Fire_SC cw_Fire_S := by
  intro β ls' k' r' h'
  unfold cw_Fire_SC at h'
  obtain ⟨c_w_cwnd, l'1, rfl, h'1⟩ := un_i_some.1 h'
  obtain ⟨c_w_slow, l'2, rfl, h'2⟩ := un_i_some.1 h'1
  obtain ⟨c_w_pipe, l'3, rfl, h'3⟩ := un_i_some.1 h'2
  obtain ⟨c_w_count, l'4, rfl, h'4⟩ := un_i_some.1 h'3
  obtain ⟨c_w_halved_n, l'5, rfl, h'5⟩ := un_i_some.1 h'4
  obtain ⟨c_w_halved_is, l'6, rfl, h'6⟩ := un_b_some.1 h'5
  obtain ⟨c_w_last_n, l'7, rfl, h'7⟩ := un_i_some.1 h'6
  obtain ⟨c_w_last_is, l'8, rfl, h'8⟩ := un_b_some.1 h'7
  obtain ⟨c_w_runs, l'9, rfl, h'9⟩ := un_b_some.1 h'8
  obtain ⟨c_w_due, l'10, rfl, h'10⟩ := un_i_some.1 h'9
  obtain ⟨c_w_rtt_any, l'11, rfl, h'11⟩ := un_b_some.1 h'10
  obtain ⟨c_w_rtt_smooth, l'12, rfl, h'12⟩ := un_i_some.1 h'11
  obtain ⟨c_w_rtt_spread, l'13, rfl, h'13⟩ := un_i_some.1 h'12
  obtain ⟨c_w_rtt_rto, l'14, rfl, h'14⟩ := un_i_some.1 h'13
  obtain ⟨now, l'15, rfl, h'15⟩ := un_i_some.1 h'14
  obtain ⟨rfl, h'Z⟩ := un_nil_some.1 h'15
  obtain ⟨l', a', b'⟩ := out_some.1 h'Z
  exact ⟨l', (cw_Fire_Se c_w_cwnd c_w_slow c_w_pipe c_w_count c_w_halved_n c_w_halved_is c_w_last_n c_w_last_is c_w_runs c_w_due c_w_rtt_any c_w_rtt_smooth c_w_rtt_spread c_w_rtt_rto now).trans a', b'⟩
theorem cw_Fire_c : FnC Go.Proofs.Tryz.prog 249 false 2 3 cw_Fire_in cw_Fire_out cw_Fire_S := by
  refine fn_ok (Λ := cw_Fire_Λ) mixed tab_ok g48 Go.Proofs.Tryz.func249 (by kernel_rfl) (body := fb Go.Proofs.Tryz.f249) rfl (ts := Go.Proofs.Tryz.f249.results.toList) rfl (cuts := []) (by kernel_rfl) (Nat.le_of_ble_eq_true (by kernel_rfl)) (by kernel_rfl) (rt := .w (.at (.bool))) rfl ?_ ?_
  · intro ls' r' h'
    unfold cw_Fire_S at h'
    obtain ⟨c_w_cwnd, l'1, rfl, h'1⟩ := un_i_some.1 h'
    obtain ⟨c_w_slow, l'2, rfl, h'2⟩ := un_i_some.1 h'1
    obtain ⟨c_w_pipe, l'3, rfl, h'3⟩ := un_i_some.1 h'2
    obtain ⟨c_w_count, l'4, rfl, h'4⟩ := un_i_some.1 h'3
    obtain ⟨c_w_halved_n, l'5, rfl, h'5⟩ := un_i_some.1 h'4
    obtain ⟨c_w_halved_is, l'6, rfl, h'6⟩ := un_b_some.1 h'5
    obtain ⟨c_w_last_n, l'7, rfl, h'7⟩ := un_i_some.1 h'6
    obtain ⟨c_w_last_is, l'8, rfl, h'8⟩ := un_b_some.1 h'7
    obtain ⟨c_w_runs, l'9, rfl, h'9⟩ := un_b_some.1 h'8
    obtain ⟨c_w_due, l'10, rfl, h'10⟩ := un_i_some.1 h'9
    obtain ⟨c_w_rtt_any, l'11, rfl, h'11⟩ := un_b_some.1 h'10
    obtain ⟨c_w_rtt_smooth, l'12, rfl, h'12⟩ := un_i_some.1 h'11
    obtain ⟨c_w_rtt_spread, l'13, rfl, h'13⟩ := un_i_some.1 h'12
    obtain ⟨c_w_rtt_rto, l'14, rfl, h'14⟩ := un_i_some.1 h'13
    obtain ⟨now, l'15, rfl, h'15⟩ := un_i_some.1 h'14
    obtain ⟨rfl, h'Z⟩ := un_nil_some.1 h'15
    exact (cw_Fire_e c_w_cwnd c_w_slow c_w_pipe c_w_count c_w_halved_n c_w_halved_is c_w_last_n c_w_last_is c_w_runs c_w_due c_w_rtt_any c_w_rtt_smooth c_w_rtt_spread c_w_rtt_rto now).symm.trans h'Z
  · intro E w0 ws ρ0 hk b hb
    rw [show loopsOf (fb Go.Proofs.Tryz.f249) = [] by kernel_rfl] at hb
    cases hb
noncomputable def G49 : Env := G48.addE 249 2 cw_Fire_in cw_Fire_out cw_Fire_SC
theorem g49 : EnvOk Go.Proofs.Tryz.prog G49 := EnvOk.addE g48 cw_Fire_c cw_Fire_says

-- ### cw_Due: function 248
def cw_Due_in : Tm := ⟨[.cells 87 [.ptr 1 0], .cells 96 [.int .i64, .int .i64, .int .i64, .int .i64, .ptr 2 0, .int .u64, .bool, .int .u64, .bool, .bool, .int .i64], .cells 165 [.bool, .int .i64, .int .i64, .int .i64]], [(0, .w (.at (.ptr 0 0)))]⟩
def cw_Due_out : Tm := ⟨[.cells 87 [.ptr 1 0], .cells 96 [.int .i64, .int .i64, .int .i64, .int .i64, .ptr 2 0, .int .u64, .bool, .int .u64, .bool, .bool, .int .i64], .cells 165 [.bool, .int .i64, .int .i64, .int .i64]], [(0, .tup [.at (.int .i64), .at (.bool)])]⟩

def cw_Due_Λd : Loops := Loops.none
def cw_Due_Λ : Loops := cw_Due_Λd 

theorem cw_Due_e (c_w_cwnd : Int) (c_w_slow : Int) (c_w_pipe : Int) (c_w_count : Int) (c_w_halved_n : Int) (c_w_halved_is : Bool) (c_w_last_n : Int) (c_w_last_is : Bool) (c_w_runs : Bool) (c_w_due : Int) (c_w_rtt_any : Bool) (c_w_rtt_smooth : Int) (c_w_rtt_spread : Int) (c_w_rtt_rto : Int) : cw_Due c_w_cwnd c_w_slow c_w_pipe c_w_count c_w_halved_n c_w_halved_is c_w_last_n c_w_last_is c_w_runs c_w_due c_w_rtt_any c_w_rtt_smooth c_w_rtt_spread c_w_rtt_rto = den G49 cw_Due_Λ false tab Go.Proofs.Tryz.f248.ntmps (fun fr H => finish tab 3 Go.Proofs.Tryz.f248.results.toList cw_Due_out [] fr H some) (fun _ _ _ => none) (fun fr H => finish tab 3 Go.Proofs.Tryz.f248.results.toList cw_Due_out [] fr H some) 10000 [.code (fb Go.Proofs.Tryz.f248)] (instFr cw_Due_in [.i c_w_cwnd, .i c_w_slow, .i c_w_pipe, .i c_w_count, .i c_w_halved_n, .b c_w_halved_is, .i c_w_last_n, .b c_w_last_is, .b c_w_runs, .i c_w_due, .b c_w_rtt_any, .i c_w_rtt_smooth, .i c_w_rtt_spread, .i c_w_rtt_rto]) (instH cw_Due_in [.i c_w_cwnd, .i c_w_slow, .i c_w_pipe, .i c_w_count, .i c_w_halved_n, .b c_w_halved_is, .i c_w_last_n, .b c_w_last_is, .b c_w_runs, .i c_w_due, .b c_w_rtt_any, .i c_w_rtt_smooth, .i c_w_rtt_spread, .i c_w_rtt_rto]) := by kernel_rfl
def cw_Due_S : List Leaf → Option (List Leaf) := fun ls => un_i ls fun c_w_cwnd rr => un_i rr fun c_w_slow rr => un_i rr fun c_w_pipe rr => un_i rr fun c_w_count rr => un_i rr fun c_w_halved_n rr => un_b rr fun c_w_halved_is rr => un_i rr fun c_w_last_n rr => un_b rr fun c_w_last_is rr => un_b rr fun c_w_runs rr => un_i rr fun c_w_due rr => un_b rr fun c_w_rtt_any rr => un_i rr fun c_w_rtt_smooth rr => un_i rr fun c_w_rtt_spread rr => un_i rr fun c_w_rtt_rto rr => un_nil rr (cw_Due c_w_cwnd c_w_slow c_w_pipe c_w_count c_w_halved_n c_w_halved_is c_w_last_n c_w_last_is c_w_runs c_w_due c_w_rtt_any c_w_rtt_smooth c_w_rtt_spread c_w_rtt_rto)
def cw_Due_SC : Tld := fun ls k' => un_i ls fun c_w_cwnd rr => un_i rr fun c_w_slow rr => un_i rr fun c_w_pipe rr => un_i rr fun c_w_count rr => un_i rr fun c_w_halved_n rr => un_b rr fun c_w_halved_is rr => un_i rr fun c_w_last_n rr => un_b rr fun c_w_last_is rr => un_b rr fun c_w_runs rr => un_i rr fun c_w_due rr => un_b rr fun c_w_rtt_any rr => un_i rr fun c_w_rtt_smooth rr => un_i rr fun c_w_rtt_spread rr => un_i rr fun c_w_rtt_rto rr => un_nil rr (out (cw_Due c_w_cwnd c_w_slow c_w_pipe c_w_count c_w_halved_n c_w_halved_is c_w_last_n c_w_last_is c_w_runs c_w_due c_w_rtt_any c_w_rtt_smooth c_w_rtt_spread c_w_rtt_rto) k')
theorem cw_Due_Se (c_w_cwnd : Int) (c_w_slow : Int) (c_w_pipe : Int) (c_w_count : Int) (c_w_halved_n : Int) (c_w_halved_is : Bool) (c_w_last_n : Int) (c_w_last_is : Bool) (c_w_runs : Bool) (c_w_due : Int) (c_w_rtt_any : Bool) (c_w_rtt_smooth : Int) (c_w_rtt_spread : Int) (c_w_rtt_rto : Int) : cw_Due_S [.i c_w_cwnd, .i c_w_slow, .i c_w_pipe, .i c_w_count, .i c_w_halved_n, .b c_w_halved_is, .i c_w_last_n, .b c_w_last_is, .b c_w_runs, .i c_w_due, .b c_w_rtt_any, .i c_w_rtt_smooth, .i c_w_rtt_spread, .i c_w_rtt_rto] = cw_Due c_w_cwnd c_w_slow c_w_pipe c_w_count c_w_halved_n c_w_halved_is c_w_last_n c_w_last_is c_w_runs c_w_due c_w_rtt_any c_w_rtt_smooth c_w_rtt_spread c_w_rtt_rto := by
  unfold cw_Due_S
  simp only [un_i_ev, un_b_ev, un_s_ev, un_li_ev, un_lb_ev, un_ls_ev, un_nil_ev]
theorem cw_Due_says : Says cw_Due_SC cw_Due_S := by
  intro β ls' k' r' h'
  unfold cw_Due_SC at h'
  obtain ⟨c_w_cwnd, l'1, rfl, h'1⟩ := un_i_some.1 h'
  obtain ⟨c_w_slow, l'2, rfl, h'2⟩ := un_i_some.1 h'1
  obtain ⟨c_w_pipe, l'3, rfl, h'3⟩ := un_i_some.1 h'2
  obtain ⟨c_w_count, l'4, rfl, h'4⟩ := un_i_some.1 h'3
  obtain ⟨c_w_halved_n, l'5, rfl, h'5⟩ := un_i_some.1 h'4
  obtain ⟨c_w_halved_is, l'6, rfl, h'6⟩ := un_b_some.1 h'5
  obtain ⟨c_w_last_n, l'7, rfl, h'7⟩ := un_i_some.1 h'6
  obtain ⟨c_w_last_is, l'8, rfl, h'8⟩ := un_b_some.1 h'7
  obtain ⟨c_w_runs, l'9, rfl, h'9⟩ := un_b_some.1 h'8
  obtain ⟨c_w_due, l'10, rfl, h'10⟩ := un_i_some.1 h'9
  obtain ⟨c_w_rtt_any, l'11, rfl, h'11⟩ := un_b_some.1 h'10
  obtain ⟨c_w_rtt_smooth, l'12, rfl, h'12⟩ := un_i_some.1 h'11
  obtain ⟨c_w_rtt_spread, l'13, rfl, h'13⟩ := un_i_some.1 h'12
  obtain ⟨c_w_rtt_rto, l'14, rfl, h'14⟩ := un_i_some.1 h'13
  obtain ⟨rfl, h'Z⟩ := un_nil_some.1 h'14
  obtain ⟨l', a', b'⟩ := out_some.1 h'Z
  exact ⟨l', (cw_Due_Se c_w_cwnd c_w_slow c_w_pipe c_w_count c_w_halved_n c_w_halved_is c_w_last_n c_w_last_is c_w_runs c_w_due c_w_rtt_any c_w_rtt_smooth c_w_rtt_spread c_w_rtt_rto).trans a', b'⟩
theorem cw_Due_c : FnC Go.Proofs.Tryz.prog 248 false 1 3 cw_Due_in cw_Due_out cw_Due_S := by
  refine fn_ok (Λ := cw_Due_Λ) mixed tab_ok g49 Go.Proofs.Tryz.func248 (by kernel_rfl) (body := fb Go.Proofs.Tryz.f248) rfl (ts := Go.Proofs.Tryz.f248.results.toList) rfl (cuts := []) (by kernel_rfl) (Nat.le_of_ble_eq_true (by kernel_rfl)) (by kernel_rfl) (rt := .tup [.at (.int .i64), .at (.bool)]) rfl ?_ ?_
  · intro ls' r' h'
    unfold cw_Due_S at h'
    obtain ⟨c_w_cwnd, l'1, rfl, h'1⟩ := un_i_some.1 h'
    obtain ⟨c_w_slow, l'2, rfl, h'2⟩ := un_i_some.1 h'1
    obtain ⟨c_w_pipe, l'3, rfl, h'3⟩ := un_i_some.1 h'2
    obtain ⟨c_w_count, l'4, rfl, h'4⟩ := un_i_some.1 h'3
    obtain ⟨c_w_halved_n, l'5, rfl, h'5⟩ := un_i_some.1 h'4
    obtain ⟨c_w_halved_is, l'6, rfl, h'6⟩ := un_b_some.1 h'5
    obtain ⟨c_w_last_n, l'7, rfl, h'7⟩ := un_i_some.1 h'6
    obtain ⟨c_w_last_is, l'8, rfl, h'8⟩ := un_b_some.1 h'7
    obtain ⟨c_w_runs, l'9, rfl, h'9⟩ := un_b_some.1 h'8
    obtain ⟨c_w_due, l'10, rfl, h'10⟩ := un_i_some.1 h'9
    obtain ⟨c_w_rtt_any, l'11, rfl, h'11⟩ := un_b_some.1 h'10
    obtain ⟨c_w_rtt_smooth, l'12, rfl, h'12⟩ := un_i_some.1 h'11
    obtain ⟨c_w_rtt_spread, l'13, rfl, h'13⟩ := un_i_some.1 h'12
    obtain ⟨c_w_rtt_rto, l'14, rfl, h'14⟩ := un_i_some.1 h'13
    obtain ⟨rfl, h'Z⟩ := un_nil_some.1 h'14
    exact (cw_Due_e c_w_cwnd c_w_slow c_w_pipe c_w_count c_w_halved_n c_w_halved_is c_w_last_n c_w_last_is c_w_runs c_w_due c_w_rtt_any c_w_rtt_smooth c_w_rtt_spread c_w_rtt_rto).symm.trans h'Z
  · intro E w0 ws ρ0 hk b hb
    rw [show loopsOf (fb Go.Proofs.Tryz.f248) = [] by kernel_rfl] at hb
    cases hb
noncomputable def G50 : Env := G49.addE 248 1 cw_Due_in cw_Due_out cw_Due_SC
theorem g50 : EnvOk Go.Proofs.Tryz.prog G50 := EnvOk.addE g49 cw_Due_c cw_Due_says

-- ### cr_turns: function 260
def cr_turns_in : Tm := ⟨[.cells 90 [.ptr 1 0, .ptr 4 0, .int .u64], .cells 99 [.int .u64, .int .u64, .int .u64, .int .i64, .bool, .int .i64, .ptr 2 0, .bool, .bool, .int .i64], .cells 163 [.all 3 2], .row 160 2 [.int .i64, .int .u64], .cells 117 [.int .u64, .int .u64, .int .u64, .int .u64, .int .i64]], [(0, .w (.at (.ptr 0 0))), (1, .w (.at (.int .i64)))]⟩
def cr_turns_out : Tm := ⟨[.cells 90 [.ptr 1 0, .ptr 4 0, .int .u64], .cells 99 [.int .u64, .int .u64, .int .u64, .int .i64, .bool, .int .i64, .ptr 2 0, .bool, .bool, .int .i64], .cells 163 [.all 5 2], .dead, .cells 117 [.int .u64, .int .u64, .int .u64, .int .u64, .int .i64], .row 160 2 [.int .i64, .int .u64]], [(0, .tup [])]⟩

def cr_turns_Λd : Loops := Loops.none
def cr_turns_Λ : Loops := cr_turns_Λd 

theorem cr_turns_e (c_t_set_l0 : List Int) (c_t_set_l1 : List Int) (c_last : Int) (c_t_s : Int) (c_t_x : Int) (c_t_loss : Int) (c_t_rtt : Int) (c_t_heard : Bool) (c_t_doubled : Int) (c_t_began : Bool) (c_t_started : Bool) (c_t_due : Int) (c_p_s : Int) (c_p_tick : Int) (c_p_has : Int) (c_p_rate : Int) (c_p_now : Int) (now : Int) : cr_turns c_t_set_l0 c_t_set_l1 c_last c_t_s c_t_x c_t_loss c_t_rtt c_t_heard c_t_doubled c_t_began c_t_started c_t_due c_p_s c_p_tick c_p_has c_p_rate c_p_now now = den G50 cr_turns_Λ false tab Go.Proofs.Tryz.f260.ntmps (fun fr H => finish tab 5 Go.Proofs.Tryz.f260.results.toList cr_turns_out [] fr H some) (fun _ _ _ => none) (fun fr H => finish tab 5 Go.Proofs.Tryz.f260.results.toList cr_turns_out [] fr H some) 10000 [.code (fb Go.Proofs.Tryz.f260)] (instFr cr_turns_in [.li c_t_set_l0, .li c_t_set_l1, .i c_last, .i c_t_s, .i c_t_x, .i c_t_loss, .i c_t_rtt, .b c_t_heard, .i c_t_doubled, .b c_t_began, .b c_t_started, .i c_t_due, .i c_p_s, .i c_p_tick, .i c_p_has, .i c_p_rate, .i c_p_now, .i now]) (instH cr_turns_in [.li c_t_set_l0, .li c_t_set_l1, .i c_last, .i c_t_s, .i c_t_x, .i c_t_loss, .i c_t_rtt, .b c_t_heard, .i c_t_doubled, .b c_t_began, .b c_t_started, .i c_t_due, .i c_p_s, .i c_p_tick, .i c_p_has, .i c_p_rate, .i c_p_now, .i now]) := by kernel_rfl
def cr_turns_S : List Leaf → Option (List Leaf) := fun ls => un_li ls fun c_t_set_l0 rr => un_li rr fun c_t_set_l1 rr => un_i rr fun c_last rr => un_i rr fun c_t_s rr => un_i rr fun c_t_x rr => un_i rr fun c_t_loss rr => un_i rr fun c_t_rtt rr => un_b rr fun c_t_heard rr => un_i rr fun c_t_doubled rr => un_b rr fun c_t_began rr => un_b rr fun c_t_started rr => un_i rr fun c_t_due rr => un_i rr fun c_p_s rr => un_i rr fun c_p_tick rr => un_i rr fun c_p_has rr => un_i rr fun c_p_rate rr => un_i rr fun c_p_now rr => un_i rr fun now rr => un_nil rr (cr_turns c_t_set_l0 c_t_set_l1 c_last c_t_s c_t_x c_t_loss c_t_rtt c_t_heard c_t_doubled c_t_began c_t_started c_t_due c_p_s c_p_tick c_p_has c_p_rate c_p_now now)
def cr_turns_SC : Tld := fun ls k' => un_li ls fun c_t_set_l0 rr => un_li rr fun c_t_set_l1 rr => un_i rr fun c_last rr => un_i rr fun c_t_s rr => un_i rr fun c_t_x rr => un_i rr fun c_t_loss rr => un_i rr fun c_t_rtt rr => un_b rr fun c_t_heard rr => un_i rr fun c_t_doubled rr => un_b rr fun c_t_began rr => un_b rr fun c_t_started rr => un_i rr fun c_t_due rr => un_i rr fun c_p_s rr => un_i rr fun c_p_tick rr => un_i rr fun c_p_has rr => un_i rr fun c_p_rate rr => un_i rr fun c_p_now rr => un_i rr fun now rr => un_nil rr (out (cr_turns c_t_set_l0 c_t_set_l1 c_last c_t_s c_t_x c_t_loss c_t_rtt c_t_heard c_t_doubled c_t_began c_t_started c_t_due c_p_s c_p_tick c_p_has c_p_rate c_p_now now) k')
theorem cr_turns_Se (c_t_set_l0 : List Int) (c_t_set_l1 : List Int) (c_last : Int) (c_t_s : Int) (c_t_x : Int) (c_t_loss : Int) (c_t_rtt : Int) (c_t_heard : Bool) (c_t_doubled : Int) (c_t_began : Bool) (c_t_started : Bool) (c_t_due : Int) (c_p_s : Int) (c_p_tick : Int) (c_p_has : Int) (c_p_rate : Int) (c_p_now : Int) (now : Int) : cr_turns_S [.li c_t_set_l0, .li c_t_set_l1, .i c_last, .i c_t_s, .i c_t_x, .i c_t_loss, .i c_t_rtt, .b c_t_heard, .i c_t_doubled, .b c_t_began, .b c_t_started, .i c_t_due, .i c_p_s, .i c_p_tick, .i c_p_has, .i c_p_rate, .i c_p_now, .i now] = cr_turns c_t_set_l0 c_t_set_l1 c_last c_t_s c_t_x c_t_loss c_t_rtt c_t_heard c_t_doubled c_t_began c_t_started c_t_due c_p_s c_p_tick c_p_has c_p_rate c_p_now now := by
  unfold cr_turns_S
  simp only [un_i_ev, un_b_ev, un_s_ev, un_li_ev, un_lb_ev, un_ls_ev, un_nil_ev]
theorem cr_turns_says : Says cr_turns_SC cr_turns_S := by
  intro β ls' k' r' h'
  unfold cr_turns_SC at h'
  obtain ⟨c_t_set_l0, l'1, rfl, h'1⟩ := un_li_some.1 h'
  obtain ⟨c_t_set_l1, l'2, rfl, h'2⟩ := un_li_some.1 h'1
  obtain ⟨c_last, l'3, rfl, h'3⟩ := un_i_some.1 h'2
  obtain ⟨c_t_s, l'4, rfl, h'4⟩ := un_i_some.1 h'3
  obtain ⟨c_t_x, l'5, rfl, h'5⟩ := un_i_some.1 h'4
  obtain ⟨c_t_loss, l'6, rfl, h'6⟩ := un_i_some.1 h'5
  obtain ⟨c_t_rtt, l'7, rfl, h'7⟩ := un_i_some.1 h'6
  obtain ⟨c_t_heard, l'8, rfl, h'8⟩ := un_b_some.1 h'7
  obtain ⟨c_t_doubled, l'9, rfl, h'9⟩ := un_i_some.1 h'8
  obtain ⟨c_t_began, l'10, rfl, h'10⟩ := un_b_some.1 h'9
  obtain ⟨c_t_started, l'11, rfl, h'11⟩ := un_b_some.1 h'10
  obtain ⟨c_t_due, l'12, rfl, h'12⟩ := un_i_some.1 h'11
  obtain ⟨c_p_s, l'13, rfl, h'13⟩ := un_i_some.1 h'12
  obtain ⟨c_p_tick, l'14, rfl, h'14⟩ := un_i_some.1 h'13
  obtain ⟨c_p_has, l'15, rfl, h'15⟩ := un_i_some.1 h'14
  obtain ⟨c_p_rate, l'16, rfl, h'16⟩ := un_i_some.1 h'15
  obtain ⟨c_p_now, l'17, rfl, h'17⟩ := un_i_some.1 h'16
  obtain ⟨now, l'18, rfl, h'18⟩ := un_i_some.1 h'17
  obtain ⟨rfl, h'Z⟩ := un_nil_some.1 h'18
  obtain ⟨l', a', b'⟩ := out_some.1 h'Z
  exact ⟨l', (cr_turns_Se c_t_set_l0 c_t_set_l1 c_last c_t_s c_t_x c_t_loss c_t_rtt c_t_heard c_t_doubled c_t_began c_t_started c_t_due c_p_s c_p_tick c_p_has c_p_rate c_p_now now).trans a', b'⟩
theorem cr_turns_c : FnC Go.Proofs.Tryz.prog 260 false 2 5 cr_turns_in cr_turns_out cr_turns_S := by
  refine fn_ok (Λ := cr_turns_Λ) mixed tab_ok g50 Go.Proofs.Tryz.func260 (by kernel_rfl) (body := fb Go.Proofs.Tryz.f260) rfl (ts := Go.Proofs.Tryz.f260.results.toList) rfl (cuts := []) (by kernel_rfl) (Nat.le_of_ble_eq_true (by kernel_rfl)) (by kernel_rfl) (rt := .tup []) rfl ?_ ?_
  · intro ls' r' h'
    unfold cr_turns_S at h'
    obtain ⟨c_t_set_l0, l'1, rfl, h'1⟩ := un_li_some.1 h'
    obtain ⟨c_t_set_l1, l'2, rfl, h'2⟩ := un_li_some.1 h'1
    obtain ⟨c_last, l'3, rfl, h'3⟩ := un_i_some.1 h'2
    obtain ⟨c_t_s, l'4, rfl, h'4⟩ := un_i_some.1 h'3
    obtain ⟨c_t_x, l'5, rfl, h'5⟩ := un_i_some.1 h'4
    obtain ⟨c_t_loss, l'6, rfl, h'6⟩ := un_i_some.1 h'5
    obtain ⟨c_t_rtt, l'7, rfl, h'7⟩ := un_i_some.1 h'6
    obtain ⟨c_t_heard, l'8, rfl, h'8⟩ := un_b_some.1 h'7
    obtain ⟨c_t_doubled, l'9, rfl, h'9⟩ := un_i_some.1 h'8
    obtain ⟨c_t_began, l'10, rfl, h'10⟩ := un_b_some.1 h'9
    obtain ⟨c_t_started, l'11, rfl, h'11⟩ := un_b_some.1 h'10
    obtain ⟨c_t_due, l'12, rfl, h'12⟩ := un_i_some.1 h'11
    obtain ⟨c_p_s, l'13, rfl, h'13⟩ := un_i_some.1 h'12
    obtain ⟨c_p_tick, l'14, rfl, h'14⟩ := un_i_some.1 h'13
    obtain ⟨c_p_has, l'15, rfl, h'15⟩ := un_i_some.1 h'14
    obtain ⟨c_p_rate, l'16, rfl, h'16⟩ := un_i_some.1 h'15
    obtain ⟨c_p_now, l'17, rfl, h'17⟩ := un_i_some.1 h'16
    obtain ⟨now, l'18, rfl, h'18⟩ := un_i_some.1 h'17
    obtain ⟨rfl, h'Z⟩ := un_nil_some.1 h'18
    exact (cr_turns_e c_t_set_l0 c_t_set_l1 c_last c_t_s c_t_x c_t_loss c_t_rtt c_t_heard c_t_doubled c_t_began c_t_started c_t_due c_p_s c_p_tick c_p_has c_p_rate c_p_now now).symm.trans h'Z
  · intro E w0 ws ρ0 hk b hb
    rw [show loopsOf (fb Go.Proofs.Tryz.f260) = [] by kernel_rfl] at hb
    cases hb
noncomputable def G51 : Env := G50.addE 260 2 cr_turns_in cr_turns_out cr_turns_SC
theorem g51 : EnvOk Go.Proofs.Tryz.prog G51 := EnvOk.addE g50 cr_turns_c cr_turns_says

-- ### cr_Sent: function 259
def cr_Sent_in : Tm := ⟨[.cells 90 [.ptr 1 0, .ptr 4 0, .int .u64], .cells 99 [.int .u64, .int .u64, .int .u64, .int .i64, .bool, .int .i64, .ptr 2 0, .bool, .bool, .int .i64], .cells 163 [.all 3 2], .row 160 2 [.int .i64, .int .u64], .cells 117 [.int .u64, .int .u64, .int .u64, .int .u64, .int .i64]], [(0, .w (.at (.ptr 0 0))), (1, .w (.at (.int .i64))), (2, .w (.at (.int .u64))), (3, .w (.at (.int .i64)))]⟩
def cr_Sent_out : Tm := ⟨[.cells 90 [.ptr 1 0, .ptr 4 0, .int .u64], .cells 99 [.int .u64, .int .u64, .int .u64, .int .i64, .bool, .int .i64, .ptr 2 0, .bool, .bool, .int .i64], .cells 163 [.all 5 2], .dead, .cells 117 [.int .u64, .int .u64, .int .u64, .int .u64, .int .i64], .row 160 2 [.int .i64, .int .u64]], [(0, .w (.at (.bool)))]⟩

def cr_Sent_Λd : Loops := Loops.none
def cr_Sent_Λ : Loops := cr_Sent_Λd 

theorem cr_Sent_e (c_t_set_l0 : List Int) (c_t_set_l1 : List Int) (c_last : Int) (c_t_s : Int) (c_t_x : Int) (c_t_loss : Int) (c_t_rtt : Int) (c_t_heard : Bool) (c_t_doubled : Int) (c_t_began : Bool) (c_t_started : Bool) (c_t_due : Int) (c_p_s : Int) (c_p_tick : Int) (c_p_has : Int) (c_p_rate : Int) (c_p_now : Int) (now : Int) (t2 : Int) (n2 : Int) : cr_Sent c_t_set_l0 c_t_set_l1 c_last c_t_s c_t_x c_t_loss c_t_rtt c_t_heard c_t_doubled c_t_began c_t_started c_t_due c_p_s c_p_tick c_p_has c_p_rate c_p_now now t2 n2 = den G51 cr_Sent_Λ false tab Go.Proofs.Tryz.f259.ntmps (fun fr H => finish tab 5 Go.Proofs.Tryz.f259.results.toList cr_Sent_out [] fr H some) (fun _ _ _ => none) (fun fr H => finish tab 5 Go.Proofs.Tryz.f259.results.toList cr_Sent_out [] fr H some) 10000 [.code (fb Go.Proofs.Tryz.f259)] (instFr cr_Sent_in [.li c_t_set_l0, .li c_t_set_l1, .i c_last, .i c_t_s, .i c_t_x, .i c_t_loss, .i c_t_rtt, .b c_t_heard, .i c_t_doubled, .b c_t_began, .b c_t_started, .i c_t_due, .i c_p_s, .i c_p_tick, .i c_p_has, .i c_p_rate, .i c_p_now, .i now, .i t2, .i n2]) (instH cr_Sent_in [.li c_t_set_l0, .li c_t_set_l1, .i c_last, .i c_t_s, .i c_t_x, .i c_t_loss, .i c_t_rtt, .b c_t_heard, .i c_t_doubled, .b c_t_began, .b c_t_started, .i c_t_due, .i c_p_s, .i c_p_tick, .i c_p_has, .i c_p_rate, .i c_p_now, .i now, .i t2, .i n2]) := by kernel_rfl
def cr_Sent_S : List Leaf → Option (List Leaf) := fun ls => un_li ls fun c_t_set_l0 rr => un_li rr fun c_t_set_l1 rr => un_i rr fun c_last rr => un_i rr fun c_t_s rr => un_i rr fun c_t_x rr => un_i rr fun c_t_loss rr => un_i rr fun c_t_rtt rr => un_b rr fun c_t_heard rr => un_i rr fun c_t_doubled rr => un_b rr fun c_t_began rr => un_b rr fun c_t_started rr => un_i rr fun c_t_due rr => un_i rr fun c_p_s rr => un_i rr fun c_p_tick rr => un_i rr fun c_p_has rr => un_i rr fun c_p_rate rr => un_i rr fun c_p_now rr => un_i rr fun now rr => un_i rr fun t2 rr => un_i rr fun n2 rr => un_nil rr (cr_Sent c_t_set_l0 c_t_set_l1 c_last c_t_s c_t_x c_t_loss c_t_rtt c_t_heard c_t_doubled c_t_began c_t_started c_t_due c_p_s c_p_tick c_p_has c_p_rate c_p_now now t2 n2)
def cr_Sent_SC : Tld := fun ls k' => un_li ls fun c_t_set_l0 rr => un_li rr fun c_t_set_l1 rr => un_i rr fun c_last rr => un_i rr fun c_t_s rr => un_i rr fun c_t_x rr => un_i rr fun c_t_loss rr => un_i rr fun c_t_rtt rr => un_b rr fun c_t_heard rr => un_i rr fun c_t_doubled rr => un_b rr fun c_t_began rr => un_b rr fun c_t_started rr => un_i rr fun c_t_due rr => un_i rr fun c_p_s rr => un_i rr fun c_p_tick rr => un_i rr fun c_p_has rr => un_i rr fun c_p_rate rr => un_i rr fun c_p_now rr => un_i rr fun now rr => un_i rr fun t2 rr => un_i rr fun n2 rr => un_nil rr (out (cr_Sent c_t_set_l0 c_t_set_l1 c_last c_t_s c_t_x c_t_loss c_t_rtt c_t_heard c_t_doubled c_t_began c_t_started c_t_due c_p_s c_p_tick c_p_has c_p_rate c_p_now now t2 n2) k')
theorem cr_Sent_Se (c_t_set_l0 : List Int) (c_t_set_l1 : List Int) (c_last : Int) (c_t_s : Int) (c_t_x : Int) (c_t_loss : Int) (c_t_rtt : Int) (c_t_heard : Bool) (c_t_doubled : Int) (c_t_began : Bool) (c_t_started : Bool) (c_t_due : Int) (c_p_s : Int) (c_p_tick : Int) (c_p_has : Int) (c_p_rate : Int) (c_p_now : Int) (now : Int) (t2 : Int) (n2 : Int) : cr_Sent_S [.li c_t_set_l0, .li c_t_set_l1, .i c_last, .i c_t_s, .i c_t_x, .i c_t_loss, .i c_t_rtt, .b c_t_heard, .i c_t_doubled, .b c_t_began, .b c_t_started, .i c_t_due, .i c_p_s, .i c_p_tick, .i c_p_has, .i c_p_rate, .i c_p_now, .i now, .i t2, .i n2] = cr_Sent c_t_set_l0 c_t_set_l1 c_last c_t_s c_t_x c_t_loss c_t_rtt c_t_heard c_t_doubled c_t_began c_t_started c_t_due c_p_s c_p_tick c_p_has c_p_rate c_p_now now t2 n2 := by
  unfold cr_Sent_S
  simp only [un_i_ev, un_b_ev, un_s_ev, un_li_ev, un_lb_ev, un_ls_ev, un_nil_ev]
theorem cr_Sent_says : Says cr_Sent_SC cr_Sent_S := by
  intro β ls' k' r' h'
  unfold cr_Sent_SC at h'
  obtain ⟨c_t_set_l0, l'1, rfl, h'1⟩ := un_li_some.1 h'
  obtain ⟨c_t_set_l1, l'2, rfl, h'2⟩ := un_li_some.1 h'1
  obtain ⟨c_last, l'3, rfl, h'3⟩ := un_i_some.1 h'2
  obtain ⟨c_t_s, l'4, rfl, h'4⟩ := un_i_some.1 h'3
  obtain ⟨c_t_x, l'5, rfl, h'5⟩ := un_i_some.1 h'4
  obtain ⟨c_t_loss, l'6, rfl, h'6⟩ := un_i_some.1 h'5
  obtain ⟨c_t_rtt, l'7, rfl, h'7⟩ := un_i_some.1 h'6
  obtain ⟨c_t_heard, l'8, rfl, h'8⟩ := un_b_some.1 h'7
  obtain ⟨c_t_doubled, l'9, rfl, h'9⟩ := un_i_some.1 h'8
  obtain ⟨c_t_began, l'10, rfl, h'10⟩ := un_b_some.1 h'9
  obtain ⟨c_t_started, l'11, rfl, h'11⟩ := un_b_some.1 h'10
  obtain ⟨c_t_due, l'12, rfl, h'12⟩ := un_i_some.1 h'11
  obtain ⟨c_p_s, l'13, rfl, h'13⟩ := un_i_some.1 h'12
  obtain ⟨c_p_tick, l'14, rfl, h'14⟩ := un_i_some.1 h'13
  obtain ⟨c_p_has, l'15, rfl, h'15⟩ := un_i_some.1 h'14
  obtain ⟨c_p_rate, l'16, rfl, h'16⟩ := un_i_some.1 h'15
  obtain ⟨c_p_now, l'17, rfl, h'17⟩ := un_i_some.1 h'16
  obtain ⟨now, l'18, rfl, h'18⟩ := un_i_some.1 h'17
  obtain ⟨t2, l'19, rfl, h'19⟩ := un_i_some.1 h'18
  obtain ⟨n2, l'20, rfl, h'20⟩ := un_i_some.1 h'19
  obtain ⟨rfl, h'Z⟩ := un_nil_some.1 h'20
  obtain ⟨l', a', b'⟩ := out_some.1 h'Z
  exact ⟨l', (cr_Sent_Se c_t_set_l0 c_t_set_l1 c_last c_t_s c_t_x c_t_loss c_t_rtt c_t_heard c_t_doubled c_t_began c_t_started c_t_due c_p_s c_p_tick c_p_has c_p_rate c_p_now now t2 n2).trans a', b'⟩
theorem cr_Sent_c : FnC Go.Proofs.Tryz.prog 259 false 4 5 cr_Sent_in cr_Sent_out cr_Sent_S := by
  refine fn_ok (Λ := cr_Sent_Λ) mixed tab_ok g51 Go.Proofs.Tryz.func259 (by kernel_rfl) (body := fb Go.Proofs.Tryz.f259) rfl (ts := Go.Proofs.Tryz.f259.results.toList) rfl (cuts := []) (by kernel_rfl) (Nat.le_of_ble_eq_true (by kernel_rfl)) (by kernel_rfl) (rt := .w (.at (.bool))) rfl ?_ ?_
  · intro ls' r' h'
    unfold cr_Sent_S at h'
    obtain ⟨c_t_set_l0, l'1, rfl, h'1⟩ := un_li_some.1 h'
    obtain ⟨c_t_set_l1, l'2, rfl, h'2⟩ := un_li_some.1 h'1
    obtain ⟨c_last, l'3, rfl, h'3⟩ := un_i_some.1 h'2
    obtain ⟨c_t_s, l'4, rfl, h'4⟩ := un_i_some.1 h'3
    obtain ⟨c_t_x, l'5, rfl, h'5⟩ := un_i_some.1 h'4
    obtain ⟨c_t_loss, l'6, rfl, h'6⟩ := un_i_some.1 h'5
    obtain ⟨c_t_rtt, l'7, rfl, h'7⟩ := un_i_some.1 h'6
    obtain ⟨c_t_heard, l'8, rfl, h'8⟩ := un_b_some.1 h'7
    obtain ⟨c_t_doubled, l'9, rfl, h'9⟩ := un_i_some.1 h'8
    obtain ⟨c_t_began, l'10, rfl, h'10⟩ := un_b_some.1 h'9
    obtain ⟨c_t_started, l'11, rfl, h'11⟩ := un_b_some.1 h'10
    obtain ⟨c_t_due, l'12, rfl, h'12⟩ := un_i_some.1 h'11
    obtain ⟨c_p_s, l'13, rfl, h'13⟩ := un_i_some.1 h'12
    obtain ⟨c_p_tick, l'14, rfl, h'14⟩ := un_i_some.1 h'13
    obtain ⟨c_p_has, l'15, rfl, h'15⟩ := un_i_some.1 h'14
    obtain ⟨c_p_rate, l'16, rfl, h'16⟩ := un_i_some.1 h'15
    obtain ⟨c_p_now, l'17, rfl, h'17⟩ := un_i_some.1 h'16
    obtain ⟨now, l'18, rfl, h'18⟩ := un_i_some.1 h'17
    obtain ⟨t2, l'19, rfl, h'19⟩ := un_i_some.1 h'18
    obtain ⟨n2, l'20, rfl, h'20⟩ := un_i_some.1 h'19
    obtain ⟨rfl, h'Z⟩ := un_nil_some.1 h'20
    exact (cr_Sent_e c_t_set_l0 c_t_set_l1 c_last c_t_s c_t_x c_t_loss c_t_rtt c_t_heard c_t_doubled c_t_began c_t_started c_t_due c_p_s c_p_tick c_p_has c_p_rate c_p_now now t2 n2).symm.trans h'Z
  · intro E w0 ws ρ0 hk b hb
    rw [show loopsOf (fb Go.Proofs.Tryz.f259) = [] by kernel_rfl] at hb
    cases hb
noncomputable def G52 : Env := G51.addE 259 4 cr_Sent_in cr_Sent_out cr_Sent_SC
theorem g52 : EnvOk Go.Proofs.Tryz.prog G52 := EnvOk.addE g51 cr_Sent_c cr_Sent_says

-- ### cr_Fire: function 255
def cr_Fire_in : Tm := ⟨[.cells 90 [.ptr 1 0, .ptr 4 0, .int .u64], .cells 99 [.int .u64, .int .u64, .int .u64, .int .i64, .bool, .int .i64, .ptr 2 0, .bool, .bool, .int .i64], .cells 163 [.all 3 2], .row 160 2 [.int .i64, .int .u64], .cells 117 [.int .u64, .int .u64, .int .u64, .int .u64, .int .i64]], [(0, .w (.at (.ptr 0 0))), (1, .w (.at (.int .i64)))]⟩
def cr_Fire_out : Tm := ⟨[.cells 90 [.ptr 1 0, .ptr 4 0, .int .u64], .cells 99 [.int .u64, .int .u64, .int .u64, .int .i64, .bool, .int .i64, .ptr 2 0, .bool, .bool, .int .i64], .cells 163 [.all 5 2], .dead, .cells 117 [.int .u64, .int .u64, .int .u64, .int .u64, .int .i64], .row 160 2 [.int .i64, .int .u64]], [(0, .w (.at (.bool)))]⟩

def cr_Fire_Λd : Loops := Loops.none
def cr_Fire_Λ : Loops := cr_Fire_Λd 

theorem cr_Fire_e (c_t_set_l0 : List Int) (c_t_set_l1 : List Int) (c_last : Int) (c_t_s : Int) (c_t_x : Int) (c_t_loss : Int) (c_t_rtt : Int) (c_t_heard : Bool) (c_t_doubled : Int) (c_t_began : Bool) (c_t_started : Bool) (c_t_due : Int) (c_p_s : Int) (c_p_tick : Int) (c_p_has : Int) (c_p_rate : Int) (c_p_now : Int) (now : Int) : cr_Fire c_t_set_l0 c_t_set_l1 c_last c_t_s c_t_x c_t_loss c_t_rtt c_t_heard c_t_doubled c_t_began c_t_started c_t_due c_p_s c_p_tick c_p_has c_p_rate c_p_now now = den G52 cr_Fire_Λ false tab Go.Proofs.Tryz.f255.ntmps (fun fr H => finish tab 5 Go.Proofs.Tryz.f255.results.toList cr_Fire_out [] fr H some) (fun _ _ _ => none) (fun fr H => finish tab 5 Go.Proofs.Tryz.f255.results.toList cr_Fire_out [] fr H some) 10000 [.code (fb Go.Proofs.Tryz.f255)] (instFr cr_Fire_in [.li c_t_set_l0, .li c_t_set_l1, .i c_last, .i c_t_s, .i c_t_x, .i c_t_loss, .i c_t_rtt, .b c_t_heard, .i c_t_doubled, .b c_t_began, .b c_t_started, .i c_t_due, .i c_p_s, .i c_p_tick, .i c_p_has, .i c_p_rate, .i c_p_now, .i now]) (instH cr_Fire_in [.li c_t_set_l0, .li c_t_set_l1, .i c_last, .i c_t_s, .i c_t_x, .i c_t_loss, .i c_t_rtt, .b c_t_heard, .i c_t_doubled, .b c_t_began, .b c_t_started, .i c_t_due, .i c_p_s, .i c_p_tick, .i c_p_has, .i c_p_rate, .i c_p_now, .i now]) := by kernel_rfl
def cr_Fire_S : List Leaf → Option (List Leaf) := fun ls => un_li ls fun c_t_set_l0 rr => un_li rr fun c_t_set_l1 rr => un_i rr fun c_last rr => un_i rr fun c_t_s rr => un_i rr fun c_t_x rr => un_i rr fun c_t_loss rr => un_i rr fun c_t_rtt rr => un_b rr fun c_t_heard rr => un_i rr fun c_t_doubled rr => un_b rr fun c_t_began rr => un_b rr fun c_t_started rr => un_i rr fun c_t_due rr => un_i rr fun c_p_s rr => un_i rr fun c_p_tick rr => un_i rr fun c_p_has rr => un_i rr fun c_p_rate rr => un_i rr fun c_p_now rr => un_i rr fun now rr => un_nil rr (cr_Fire c_t_set_l0 c_t_set_l1 c_last c_t_s c_t_x c_t_loss c_t_rtt c_t_heard c_t_doubled c_t_began c_t_started c_t_due c_p_s c_p_tick c_p_has c_p_rate c_p_now now)
def cr_Fire_SC : Tld := fun ls k' => un_li ls fun c_t_set_l0 rr => un_li rr fun c_t_set_l1 rr => un_i rr fun c_last rr => un_i rr fun c_t_s rr => un_i rr fun c_t_x rr => un_i rr fun c_t_loss rr => un_i rr fun c_t_rtt rr => un_b rr fun c_t_heard rr => un_i rr fun c_t_doubled rr => un_b rr fun c_t_began rr => un_b rr fun c_t_started rr => un_i rr fun c_t_due rr => un_i rr fun c_p_s rr => un_i rr fun c_p_tick rr => un_i rr fun c_p_has rr => un_i rr fun c_p_rate rr => un_i rr fun c_p_now rr => un_i rr fun now rr => un_nil rr (out (cr_Fire c_t_set_l0 c_t_set_l1 c_last c_t_s c_t_x c_t_loss c_t_rtt c_t_heard c_t_doubled c_t_began c_t_started c_t_due c_p_s c_p_tick c_p_has c_p_rate c_p_now now) k')
theorem cr_Fire_Se (c_t_set_l0 : List Int) (c_t_set_l1 : List Int) (c_last : Int) (c_t_s : Int) (c_t_x : Int) (c_t_loss : Int) (c_t_rtt : Int) (c_t_heard : Bool) (c_t_doubled : Int) (c_t_began : Bool) (c_t_started : Bool) (c_t_due : Int) (c_p_s : Int) (c_p_tick : Int) (c_p_has : Int) (c_p_rate : Int) (c_p_now : Int) (now : Int) : cr_Fire_S [.li c_t_set_l0, .li c_t_set_l1, .i c_last, .i c_t_s, .i c_t_x, .i c_t_loss, .i c_t_rtt, .b c_t_heard, .i c_t_doubled, .b c_t_began, .b c_t_started, .i c_t_due, .i c_p_s, .i c_p_tick, .i c_p_has, .i c_p_rate, .i c_p_now, .i now] = cr_Fire c_t_set_l0 c_t_set_l1 c_last c_t_s c_t_x c_t_loss c_t_rtt c_t_heard c_t_doubled c_t_began c_t_started c_t_due c_p_s c_p_tick c_p_has c_p_rate c_p_now now := by
  unfold cr_Fire_S
  simp only [un_i_ev, un_b_ev, un_s_ev, un_li_ev, un_lb_ev, un_ls_ev, un_nil_ev]
theorem cr_Fire_says : Says cr_Fire_SC cr_Fire_S := by
  intro β ls' k' r' h'
  unfold cr_Fire_SC at h'
  obtain ⟨c_t_set_l0, l'1, rfl, h'1⟩ := un_li_some.1 h'
  obtain ⟨c_t_set_l1, l'2, rfl, h'2⟩ := un_li_some.1 h'1
  obtain ⟨c_last, l'3, rfl, h'3⟩ := un_i_some.1 h'2
  obtain ⟨c_t_s, l'4, rfl, h'4⟩ := un_i_some.1 h'3
  obtain ⟨c_t_x, l'5, rfl, h'5⟩ := un_i_some.1 h'4
  obtain ⟨c_t_loss, l'6, rfl, h'6⟩ := un_i_some.1 h'5
  obtain ⟨c_t_rtt, l'7, rfl, h'7⟩ := un_i_some.1 h'6
  obtain ⟨c_t_heard, l'8, rfl, h'8⟩ := un_b_some.1 h'7
  obtain ⟨c_t_doubled, l'9, rfl, h'9⟩ := un_i_some.1 h'8
  obtain ⟨c_t_began, l'10, rfl, h'10⟩ := un_b_some.1 h'9
  obtain ⟨c_t_started, l'11, rfl, h'11⟩ := un_b_some.1 h'10
  obtain ⟨c_t_due, l'12, rfl, h'12⟩ := un_i_some.1 h'11
  obtain ⟨c_p_s, l'13, rfl, h'13⟩ := un_i_some.1 h'12
  obtain ⟨c_p_tick, l'14, rfl, h'14⟩ := un_i_some.1 h'13
  obtain ⟨c_p_has, l'15, rfl, h'15⟩ := un_i_some.1 h'14
  obtain ⟨c_p_rate, l'16, rfl, h'16⟩ := un_i_some.1 h'15
  obtain ⟨c_p_now, l'17, rfl, h'17⟩ := un_i_some.1 h'16
  obtain ⟨now, l'18, rfl, h'18⟩ := un_i_some.1 h'17
  obtain ⟨rfl, h'Z⟩ := un_nil_some.1 h'18
  obtain ⟨l', a', b'⟩ := out_some.1 h'Z
  exact ⟨l', (cr_Fire_Se c_t_set_l0 c_t_set_l1 c_last c_t_s c_t_x c_t_loss c_t_rtt c_t_heard c_t_doubled c_t_began c_t_started c_t_due c_p_s c_p_tick c_p_has c_p_rate c_p_now now).trans a', b'⟩
theorem cr_Fire_c : FnC Go.Proofs.Tryz.prog 255 false 2 5 cr_Fire_in cr_Fire_out cr_Fire_S := by
  refine fn_ok (Λ := cr_Fire_Λ) mixed tab_ok g52 Go.Proofs.Tryz.func255 (by kernel_rfl) (body := fb Go.Proofs.Tryz.f255) rfl (ts := Go.Proofs.Tryz.f255.results.toList) rfl (cuts := []) (by kernel_rfl) (Nat.le_of_ble_eq_true (by kernel_rfl)) (by kernel_rfl) (rt := .w (.at (.bool))) rfl ?_ ?_
  · intro ls' r' h'
    unfold cr_Fire_S at h'
    obtain ⟨c_t_set_l0, l'1, rfl, h'1⟩ := un_li_some.1 h'
    obtain ⟨c_t_set_l1, l'2, rfl, h'2⟩ := un_li_some.1 h'1
    obtain ⟨c_last, l'3, rfl, h'3⟩ := un_i_some.1 h'2
    obtain ⟨c_t_s, l'4, rfl, h'4⟩ := un_i_some.1 h'3
    obtain ⟨c_t_x, l'5, rfl, h'5⟩ := un_i_some.1 h'4
    obtain ⟨c_t_loss, l'6, rfl, h'6⟩ := un_i_some.1 h'5
    obtain ⟨c_t_rtt, l'7, rfl, h'7⟩ := un_i_some.1 h'6
    obtain ⟨c_t_heard, l'8, rfl, h'8⟩ := un_b_some.1 h'7
    obtain ⟨c_t_doubled, l'9, rfl, h'9⟩ := un_i_some.1 h'8
    obtain ⟨c_t_began, l'10, rfl, h'10⟩ := un_b_some.1 h'9
    obtain ⟨c_t_started, l'11, rfl, h'11⟩ := un_b_some.1 h'10
    obtain ⟨c_t_due, l'12, rfl, h'12⟩ := un_i_some.1 h'11
    obtain ⟨c_p_s, l'13, rfl, h'13⟩ := un_i_some.1 h'12
    obtain ⟨c_p_tick, l'14, rfl, h'14⟩ := un_i_some.1 h'13
    obtain ⟨c_p_has, l'15, rfl, h'15⟩ := un_i_some.1 h'14
    obtain ⟨c_p_rate, l'16, rfl, h'16⟩ := un_i_some.1 h'15
    obtain ⟨c_p_now, l'17, rfl, h'17⟩ := un_i_some.1 h'16
    obtain ⟨now, l'18, rfl, h'18⟩ := un_i_some.1 h'17
    obtain ⟨rfl, h'Z⟩ := un_nil_some.1 h'18
    exact (cr_Fire_e c_t_set_l0 c_t_set_l1 c_last c_t_s c_t_x c_t_loss c_t_rtt c_t_heard c_t_doubled c_t_began c_t_started c_t_due c_p_s c_p_tick c_p_has c_p_rate c_p_now now).symm.trans h'Z
  · intro E w0 ws ρ0 hk b hb
    rw [show loopsOf (fb Go.Proofs.Tryz.f255) = [] by kernel_rfl] at hb
    cases hb
noncomputable def G53 : Env := G52.addE 255 2 cr_Fire_in cr_Fire_out cr_Fire_SC
theorem g53 : EnvOk Go.Proofs.Tryz.prog G53 := EnvOk.addE g52 cr_Fire_c cr_Fire_says

-- ### cr_Due: function 254
def cr_Due_in : Tm := ⟨[.cells 90 [.ptr 1 0, .ptr 4 0, .int .u64], .cells 99 [.int .u64, .int .u64, .int .u64, .int .i64, .bool, .int .i64, .ptr 2 0, .bool, .bool, .int .i64], .cells 163 [.all 3 2], .row 160 2 [.int .i64, .int .u64], .cells 117 [.int .u64, .int .u64, .int .u64, .int .u64, .int .i64]], [(0, .w (.at (.ptr 0 0)))]⟩
def cr_Due_out : Tm := ⟨[.cells 90 [.ptr 1 0, .ptr 4 0, .int .u64], .cells 99 [.int .u64, .int .u64, .int .u64, .int .i64, .bool, .int .i64, .ptr 2 0, .bool, .bool, .int .i64], .cells 163 [.all 5 2], .dead, .cells 117 [.int .u64, .int .u64, .int .u64, .int .u64, .int .i64], .row 160 2 [.int .i64, .int .u64]], [(0, .tup [.at (.int .i64), .at (.bool)])]⟩

def cr_Due_Λd : Loops := Loops.none
def cr_Due_Λ : Loops := cr_Due_Λd 

theorem cr_Due_e (c_t_set_l0 : List Int) (c_t_set_l1 : List Int) (c_last : Int) (c_t_s : Int) (c_t_x : Int) (c_t_loss : Int) (c_t_rtt : Int) (c_t_heard : Bool) (c_t_doubled : Int) (c_t_began : Bool) (c_t_started : Bool) (c_t_due : Int) (c_p_s : Int) (c_p_tick : Int) (c_p_has : Int) (c_p_rate : Int) (c_p_now : Int) : cr_Due c_t_set_l0 c_t_set_l1 c_last c_t_s c_t_x c_t_loss c_t_rtt c_t_heard c_t_doubled c_t_began c_t_started c_t_due c_p_s c_p_tick c_p_has c_p_rate c_p_now = den G53 cr_Due_Λ false tab Go.Proofs.Tryz.f254.ntmps (fun fr H => finish tab 5 Go.Proofs.Tryz.f254.results.toList cr_Due_out [] fr H some) (fun _ _ _ => none) (fun fr H => finish tab 5 Go.Proofs.Tryz.f254.results.toList cr_Due_out [] fr H some) 10000 [.code (fb Go.Proofs.Tryz.f254)] (instFr cr_Due_in [.li c_t_set_l0, .li c_t_set_l1, .i c_last, .i c_t_s, .i c_t_x, .i c_t_loss, .i c_t_rtt, .b c_t_heard, .i c_t_doubled, .b c_t_began, .b c_t_started, .i c_t_due, .i c_p_s, .i c_p_tick, .i c_p_has, .i c_p_rate, .i c_p_now]) (instH cr_Due_in [.li c_t_set_l0, .li c_t_set_l1, .i c_last, .i c_t_s, .i c_t_x, .i c_t_loss, .i c_t_rtt, .b c_t_heard, .i c_t_doubled, .b c_t_began, .b c_t_started, .i c_t_due, .i c_p_s, .i c_p_tick, .i c_p_has, .i c_p_rate, .i c_p_now]) := by kernel_rfl
def cr_Due_S : List Leaf → Option (List Leaf) := fun ls => un_li ls fun c_t_set_l0 rr => un_li rr fun c_t_set_l1 rr => un_i rr fun c_last rr => un_i rr fun c_t_s rr => un_i rr fun c_t_x rr => un_i rr fun c_t_loss rr => un_i rr fun c_t_rtt rr => un_b rr fun c_t_heard rr => un_i rr fun c_t_doubled rr => un_b rr fun c_t_began rr => un_b rr fun c_t_started rr => un_i rr fun c_t_due rr => un_i rr fun c_p_s rr => un_i rr fun c_p_tick rr => un_i rr fun c_p_has rr => un_i rr fun c_p_rate rr => un_i rr fun c_p_now rr => un_nil rr (cr_Due c_t_set_l0 c_t_set_l1 c_last c_t_s c_t_x c_t_loss c_t_rtt c_t_heard c_t_doubled c_t_began c_t_started c_t_due c_p_s c_p_tick c_p_has c_p_rate c_p_now)
def cr_Due_SC : Tld := fun ls k' => un_li ls fun c_t_set_l0 rr => un_li rr fun c_t_set_l1 rr => un_i rr fun c_last rr => un_i rr fun c_t_s rr => un_i rr fun c_t_x rr => un_i rr fun c_t_loss rr => un_i rr fun c_t_rtt rr => un_b rr fun c_t_heard rr => un_i rr fun c_t_doubled rr => un_b rr fun c_t_began rr => un_b rr fun c_t_started rr => un_i rr fun c_t_due rr => un_i rr fun c_p_s rr => un_i rr fun c_p_tick rr => un_i rr fun c_p_has rr => un_i rr fun c_p_rate rr => un_i rr fun c_p_now rr => un_nil rr (out (cr_Due c_t_set_l0 c_t_set_l1 c_last c_t_s c_t_x c_t_loss c_t_rtt c_t_heard c_t_doubled c_t_began c_t_started c_t_due c_p_s c_p_tick c_p_has c_p_rate c_p_now) k')
theorem cr_Due_Se (c_t_set_l0 : List Int) (c_t_set_l1 : List Int) (c_last : Int) (c_t_s : Int) (c_t_x : Int) (c_t_loss : Int) (c_t_rtt : Int) (c_t_heard : Bool) (c_t_doubled : Int) (c_t_began : Bool) (c_t_started : Bool) (c_t_due : Int) (c_p_s : Int) (c_p_tick : Int) (c_p_has : Int) (c_p_rate : Int) (c_p_now : Int) : cr_Due_S [.li c_t_set_l0, .li c_t_set_l1, .i c_last, .i c_t_s, .i c_t_x, .i c_t_loss, .i c_t_rtt, .b c_t_heard, .i c_t_doubled, .b c_t_began, .b c_t_started, .i c_t_due, .i c_p_s, .i c_p_tick, .i c_p_has, .i c_p_rate, .i c_p_now] = cr_Due c_t_set_l0 c_t_set_l1 c_last c_t_s c_t_x c_t_loss c_t_rtt c_t_heard c_t_doubled c_t_began c_t_started c_t_due c_p_s c_p_tick c_p_has c_p_rate c_p_now := by
  unfold cr_Due_S
  simp only [un_i_ev, un_b_ev, un_s_ev, un_li_ev, un_lb_ev, un_ls_ev, un_nil_ev]
theorem cr_Due_says : Says cr_Due_SC cr_Due_S := by
  intro β ls' k' r' h'
  unfold cr_Due_SC at h'
  obtain ⟨c_t_set_l0, l'1, rfl, h'1⟩ := un_li_some.1 h'
  obtain ⟨c_t_set_l1, l'2, rfl, h'2⟩ := un_li_some.1 h'1
  obtain ⟨c_last, l'3, rfl, h'3⟩ := un_i_some.1 h'2
  obtain ⟨c_t_s, l'4, rfl, h'4⟩ := un_i_some.1 h'3
  obtain ⟨c_t_x, l'5, rfl, h'5⟩ := un_i_some.1 h'4
  obtain ⟨c_t_loss, l'6, rfl, h'6⟩ := un_i_some.1 h'5
  obtain ⟨c_t_rtt, l'7, rfl, h'7⟩ := un_i_some.1 h'6
  obtain ⟨c_t_heard, l'8, rfl, h'8⟩ := un_b_some.1 h'7
  obtain ⟨c_t_doubled, l'9, rfl, h'9⟩ := un_i_some.1 h'8
  obtain ⟨c_t_began, l'10, rfl, h'10⟩ := un_b_some.1 h'9
  obtain ⟨c_t_started, l'11, rfl, h'11⟩ := un_b_some.1 h'10
  obtain ⟨c_t_due, l'12, rfl, h'12⟩ := un_i_some.1 h'11
  obtain ⟨c_p_s, l'13, rfl, h'13⟩ := un_i_some.1 h'12
  obtain ⟨c_p_tick, l'14, rfl, h'14⟩ := un_i_some.1 h'13
  obtain ⟨c_p_has, l'15, rfl, h'15⟩ := un_i_some.1 h'14
  obtain ⟨c_p_rate, l'16, rfl, h'16⟩ := un_i_some.1 h'15
  obtain ⟨c_p_now, l'17, rfl, h'17⟩ := un_i_some.1 h'16
  obtain ⟨rfl, h'Z⟩ := un_nil_some.1 h'17
  obtain ⟨l', a', b'⟩ := out_some.1 h'Z
  exact ⟨l', (cr_Due_Se c_t_set_l0 c_t_set_l1 c_last c_t_s c_t_x c_t_loss c_t_rtt c_t_heard c_t_doubled c_t_began c_t_started c_t_due c_p_s c_p_tick c_p_has c_p_rate c_p_now).trans a', b'⟩
theorem cr_Due_c : FnC Go.Proofs.Tryz.prog 254 false 1 5 cr_Due_in cr_Due_out cr_Due_S := by
  refine fn_ok (Λ := cr_Due_Λ) mixed tab_ok g53 Go.Proofs.Tryz.func254 (by kernel_rfl) (body := fb Go.Proofs.Tryz.f254) rfl (ts := Go.Proofs.Tryz.f254.results.toList) rfl (cuts := []) (by kernel_rfl) (Nat.le_of_ble_eq_true (by kernel_rfl)) (by kernel_rfl) (rt := .tup [.at (.int .i64), .at (.bool)]) rfl ?_ ?_
  · intro ls' r' h'
    unfold cr_Due_S at h'
    obtain ⟨c_t_set_l0, l'1, rfl, h'1⟩ := un_li_some.1 h'
    obtain ⟨c_t_set_l1, l'2, rfl, h'2⟩ := un_li_some.1 h'1
    obtain ⟨c_last, l'3, rfl, h'3⟩ := un_i_some.1 h'2
    obtain ⟨c_t_s, l'4, rfl, h'4⟩ := un_i_some.1 h'3
    obtain ⟨c_t_x, l'5, rfl, h'5⟩ := un_i_some.1 h'4
    obtain ⟨c_t_loss, l'6, rfl, h'6⟩ := un_i_some.1 h'5
    obtain ⟨c_t_rtt, l'7, rfl, h'7⟩ := un_i_some.1 h'6
    obtain ⟨c_t_heard, l'8, rfl, h'8⟩ := un_b_some.1 h'7
    obtain ⟨c_t_doubled, l'9, rfl, h'9⟩ := un_i_some.1 h'8
    obtain ⟨c_t_began, l'10, rfl, h'10⟩ := un_b_some.1 h'9
    obtain ⟨c_t_started, l'11, rfl, h'11⟩ := un_b_some.1 h'10
    obtain ⟨c_t_due, l'12, rfl, h'12⟩ := un_i_some.1 h'11
    obtain ⟨c_p_s, l'13, rfl, h'13⟩ := un_i_some.1 h'12
    obtain ⟨c_p_tick, l'14, rfl, h'14⟩ := un_i_some.1 h'13
    obtain ⟨c_p_has, l'15, rfl, h'15⟩ := un_i_some.1 h'14
    obtain ⟨c_p_rate, l'16, rfl, h'16⟩ := un_i_some.1 h'15
    obtain ⟨c_p_now, l'17, rfl, h'17⟩ := un_i_some.1 h'16
    obtain ⟨rfl, h'Z⟩ := un_nil_some.1 h'17
    exact (cr_Due_e c_t_set_l0 c_t_set_l1 c_last c_t_s c_t_x c_t_loss c_t_rtt c_t_heard c_t_doubled c_t_began c_t_started c_t_due c_p_s c_p_tick c_p_has c_p_rate c_p_now).symm.trans h'Z
  · intro E w0 ws ρ0 hk b hb
    rw [show loopsOf (fb Go.Proofs.Tryz.f254) = [] by kernel_rfl] at hb
    cases hb
noncomputable def G54 : Env := G53.addE 254 1 cr_Due_in cr_Due_out cr_Due_SC
theorem g54 : EnvOk Go.Proofs.Tryz.prog G54 := EnvOk.addE g53 cr_Due_c cr_Due_says
end Go.Sx.T

