import Derived.Test.YtopcljhdejindaaGreatDoorYWFSpec
import Derived.Test.YtopcljhdejindaaGreatDoorYWinCon
set_option linter.all false
namespace Go.Sx.T
open Go Go.Sx Go.Proofs

-- ### WinFire: function 9
def WinFire_in : Tm := ⟨[], [(0, .w (.at (.int .i64))), (1, .w (.at (.int .i64)))]⟩
def WinFire_out : Tm := ⟨[], [(0, .w (.at (.bool)))]⟩
def WinFire_13_T : Tm := ⟨[.cells 104 [.int .i64, .int .i64, .int .i64, .int .i64, .ptr 1 0, .int .u64, .bool, .int .u64, .bool, .bool, .int .i64], .cells 100 [.bool, .int .i64, .int .i64, .int .i64]], [(11, .w (.at (.int .i64))), (10, .w (.at (.int .i64))), (6, .w (.at (.ptr 0 0))), (9, .w (.at (.int .i64))), (0, .w (.at (.int .i64)))]⟩
def WinFire_13_X0 : Tm := ⟨[], []⟩
def WinFire_13_X : Exits := [(0, (WinFire_13_X0, []))]
def WinFire_13_R : Tm := ⟨[], [(4, .w (.at (.bool)))]⟩

def WinFire_Λd (L13 : ({β : Type} → (Nat → List Leaf → Option β) → (List Leaf → Option β) → Nat → Int → Int → Int → Int → Int → Bool → Int → Bool → Bool → Int → Bool → Int → Int → Int → Int → Int → Int → Int → Option β)) : Loops := ⟨fun b fr H kx kr => bif Nat.beq (rid b) 13 then loopE 0 WinFire_13_T [] WinFire_13_X WinFire_13_R (WinFire_13_F @L13 top) fr H kx kr else none⟩
def WinFire_Λ : Loops := WinFire_Λd @WinFire_13_L
theorem WinFire_13_e (L13 : ({β : Type} → (Nat → List Leaf → Option β) → (List Leaf → Option β) → Nat → Int → Int → Int → Int → Int → Bool → Int → Bool → Bool → Int → Bool → Int → Int → Int → Int → Int → Int → Int → Option β)) {α : Type} (kx : Nat → List Leaf → Option α) (kr : List Leaf → Option α) (again : Int → Int → Int → Int → Int → Bool → Int → Bool → Bool → Int → Bool → Int → Int → Int → Int → Int → Int → Int → Option α) (w_cwnd : Int) (w_slow : Int) (w_pipe : Int) (w_count : Int) (w_halved_n : Int) (w_halved_is : Bool) (w_last_n : Int) (w_last_is : Bool) (w_runs : Bool) (w_due : Int) (w_rtt_any : Bool) (w_rtt_smooth : Int) (w_rtt_spread : Int) (w_rtt_rto : Int) (i : Int) (wait : Int) (now : Int) (n2 : Int) : WinFire_13_B  kx kr again w_cwnd w_slow w_pipe w_count w_halved_n w_halved_is w_last_n w_last_is w_runs w_due w_rtt_any w_rtt_smooth w_rtt_spread w_rtt_rto i wait now n2 = loopB G84 (WinFire_Λd @L13) false tab Go.Proofs.Tryz.f9.ntmps 0 WinFire_13_T [] WinFire_13_X WinFire_13_R (bodyAt (fb Go.Proofs.Tryz.f9) 0) (fun ls => un_i ls fun w_cwnd rr => un_i rr fun w_slow rr => un_i rr fun w_pipe rr => un_i rr fun w_count rr => un_i rr fun w_halved_n rr => un_b rr fun w_halved_is rr => un_i rr fun w_last_n rr => un_b rr fun w_last_is rr => un_b rr fun w_runs rr => un_i rr fun w_due rr => un_b rr fun w_rtt_any rr => un_i rr fun w_rtt_smooth rr => un_i rr fun w_rtt_spread rr => un_i rr fun w_rtt_rto rr => un_i rr fun i rr => un_i rr fun wait rr => un_i rr fun now rr => un_i rr fun n2 rr => un_nil rr (again w_cwnd w_slow w_pipe w_count w_halved_n w_halved_is w_last_n w_last_is w_runs w_due w_rtt_any w_rtt_smooth w_rtt_spread w_rtt_rto i wait now n2)) kx kr (instFr WinFire_13_T [.i w_cwnd, .i w_slow, .i w_pipe, .i w_count, .i w_halved_n, .b w_halved_is, .i w_last_n, .b w_last_is, .b w_runs, .i w_due, .b w_rtt_any, .i w_rtt_smooth, .i w_rtt_spread, .i w_rtt_rto, .i i, .i wait, .i now, .i n2]) (instH WinFire_13_T [.i w_cwnd, .i w_slow, .i w_pipe, .i w_count, .i w_halved_n, .b w_halved_is, .i w_last_n, .b w_last_is, .b w_runs, .i w_due, .b w_rtt_any, .i w_rtt_smooth, .i w_rtt_spread, .i w_rtt_rto, .i i, .i wait, .i now, .i n2]) := by kernel_rfl
theorem WinFire_13_lok (E : Nat → Prop) (w0 ws : World) (ρ0 : List Pl) (hk : ρ0.length = 0) : LOk Go.Proofs.Tryz.prog 9 Go.Proofs.Tryz.f9 false E w0 ws Go.Proofs.Tryz.f9.ntmps ρ0 WinFire_Λ (bodyAt (fb Go.Proofs.Tryz.f9) 0) := by
  refine lok mixed tab_ok g84 Go.Proofs.Tryz.func9 hk (T := WinFire_13_T) (rt := WinFire_13_R) (cuts := []) (ex := WinFire_13_X) (top := top) (F := WinFire_13_F @WinFire_13_L) (fun fr H kx kr => by kernel_rfl) ?_ ?_ ?_
  · intro α ls' kx' kr' r' h'
    unfold WinFire_13_F at h'
    obtain ⟨w_cwnd, l'1, rfl, h'1⟩ := un_i_some.1 h'
    obtain ⟨w_slow, l'2, rfl, h'2⟩ := un_i_some.1 h'1
    obtain ⟨w_pipe, l'3, rfl, h'3⟩ := un_i_some.1 h'2
    obtain ⟨w_count, l'4, rfl, h'4⟩ := un_i_some.1 h'3
    obtain ⟨w_halved_n, l'5, rfl, h'5⟩ := un_i_some.1 h'4
    obtain ⟨w_halved_is, l'6, rfl, h'6⟩ := un_b_some.1 h'5
    obtain ⟨w_last_n, l'7, rfl, h'7⟩ := un_i_some.1 h'6
    obtain ⟨w_last_is, l'8, rfl, h'8⟩ := un_b_some.1 h'7
    obtain ⟨w_runs, l'9, rfl, h'9⟩ := un_b_some.1 h'8
    obtain ⟨w_due, l'10, rfl, h'10⟩ := un_i_some.1 h'9
    obtain ⟨w_rtt_any, l'11, rfl, h'11⟩ := un_b_some.1 h'10
    obtain ⟨w_rtt_smooth, l'12, rfl, h'12⟩ := un_i_some.1 h'11
    obtain ⟨w_rtt_spread, l'13, rfl, h'13⟩ := un_i_some.1 h'12
    obtain ⟨w_rtt_rto, l'14, rfl, h'14⟩ := un_i_some.1 h'13
    obtain ⟨i, l'15, rfl, h'15⟩ := un_i_some.1 h'14
    obtain ⟨wait, l'16, rfl, h'16⟩ := un_i_some.1 h'15
    obtain ⟨now, l'17, rfl, h'17⟩ := un_i_some.1 h'16
    obtain ⟨n2, l'18, rfl, h'18⟩ := un_i_some.1 h'17
    obtain ⟨rfl, h'Z⟩ := un_nil_some.1 h'18
    cases h'Z
  · intro α n' ls' kx' kr' r' h'
    unfold WinFire_13_F at h'
    obtain ⟨w_cwnd, l'1, rfl, h'1⟩ := un_i_some.1 h'
    obtain ⟨w_slow, l'2, rfl, h'2⟩ := un_i_some.1 h'1
    obtain ⟨w_pipe, l'3, rfl, h'3⟩ := un_i_some.1 h'2
    obtain ⟨w_count, l'4, rfl, h'4⟩ := un_i_some.1 h'3
    obtain ⟨w_halved_n, l'5, rfl, h'5⟩ := un_i_some.1 h'4
    obtain ⟨w_halved_is, l'6, rfl, h'6⟩ := un_b_some.1 h'5
    obtain ⟨w_last_n, l'7, rfl, h'7⟩ := un_i_some.1 h'6
    obtain ⟨w_last_is, l'8, rfl, h'8⟩ := un_b_some.1 h'7
    obtain ⟨w_runs, l'9, rfl, h'9⟩ := un_b_some.1 h'8
    obtain ⟨w_due, l'10, rfl, h'10⟩ := un_i_some.1 h'9
    obtain ⟨w_rtt_any, l'11, rfl, h'11⟩ := un_b_some.1 h'10
    obtain ⟨w_rtt_smooth, l'12, rfl, h'12⟩ := un_i_some.1 h'11
    obtain ⟨w_rtt_spread, l'13, rfl, h'13⟩ := un_i_some.1 h'12
    obtain ⟨w_rtt_rto, l'14, rfl, h'14⟩ := un_i_some.1 h'13
    obtain ⟨i, l'15, rfl, h'15⟩ := un_i_some.1 h'14
    obtain ⟨wait, l'16, rfl, h'16⟩ := un_i_some.1 h'15
    obtain ⟨now, l'17, rfl, h'17⟩ := un_i_some.1 h'16
    obtain ⟨n2, l'18, rfl, h'18⟩ := un_i_some.1 h'17
    obtain ⟨rfl, h'Z⟩ := un_nil_some.1 h'18
    exact (WinFire_13_e @WinFire_13_L kx' kr' (WinFire_13_L kx' kr' n') w_cwnd w_slow w_pipe w_count w_halved_n w_halved_is w_last_n w_last_is w_runs w_due w_rtt_any w_rtt_smooth w_rtt_spread w_rtt_rto i wait now n2).symm.trans h'Z
  · intro b' hb
    rw [show loopsOf (bodyAt (fb Go.Proofs.Tryz.f9) 0) = [] by kernel_rfl] at hb
    cases hb
theorem WinFire_ed (L13 : ({β : Type} → (Nat → List Leaf → Option β) → (List Leaf → Option β) → Nat → Int → Int → Int → Int → Int → Bool → Int → Bool → Bool → Int → Bool → Int → Int → Int → Int → Int → Int → Int → Option β)) (n2 : Int) (d : Int) : WinFire_d @L13 n2 d = den G84 (WinFire_Λd @L13) false tab Go.Proofs.Tryz.f9.ntmps (fun fr H => finish tab 0 Go.Proofs.Tryz.f9.results.toList WinFire_out [] fr H some) (fun _ _ _ => none) (fun fr H => finish tab 0 Go.Proofs.Tryz.f9.results.toList WinFire_out [] fr H some) 10000 [.code (fb Go.Proofs.Tryz.f9)] (instFr WinFire_in [.i n2, .i d]) (instH WinFire_in [.i n2, .i d]) := by kernel_rfl
theorem WinFire_e (n2 : Int) (d : Int) : WinFire n2 d = den G84 WinFire_Λ false tab Go.Proofs.Tryz.f9.ntmps (fun fr H => finish tab 0 Go.Proofs.Tryz.f9.results.toList WinFire_out [] fr H some) (fun _ _ _ => none) (fun fr H => finish tab 0 Go.Proofs.Tryz.f9.results.toList WinFire_out [] fr H some) 10000 [.code (fb Go.Proofs.Tryz.f9)] (instFr WinFire_in [.i n2, .i d]) (instH WinFire_in [.i n2, .i d]) := WinFire_ed @WinFire_13_L n2 d
def WinFire_S : List Leaf → Option (List Leaf) := fun ls => un_i ls fun n2 rr => un_i rr fun d rr => un_nil rr (WinFire n2 d)
def WinFire_SC : Tld := fun ls k' => un_i ls fun n2 rr => un_i rr fun d rr => un_nil rr (out (WinFire n2 d) k')
theorem WinFire_Se (n2 : Int) (d : Int) : WinFire_S [.i n2, .i d] = WinFire n2 d := by
  unfold WinFire_S
  simp only [un_i_ev, un_b_ev, un_s_ev, un_li_ev, un_lb_ev, un_ls_ev, un_nil_ev]
theorem WinFire_says : Says WinFire_SC WinFire_S := by
  intro β ls' k' r' h'
  unfold WinFire_SC at h'
  obtain ⟨n2, l'1, rfl, h'1⟩ := un_i_some.1 h'
  obtain ⟨d, l'2, rfl, h'2⟩ := un_i_some.1 h'1
  obtain ⟨rfl, h'Z⟩ := un_nil_some.1 h'2
  obtain ⟨l', a', b'⟩ := out_some.1 h'Z
  exact ⟨l', (WinFire_Se n2 d).trans a', b'⟩
theorem WinFire_c : FnC Go.Proofs.Tryz.prog 9 false 2 0 WinFire_in WinFire_out WinFire_S := by
  refine fn_ok (Λ := WinFire_Λ) mixed tab_ok g84 Go.Proofs.Tryz.func9 (by kernel_rfl) (body := fb Go.Proofs.Tryz.f9) rfl (ts := Go.Proofs.Tryz.f9.results.toList) rfl (cuts := []) (by kernel_rfl) (Nat.le_of_ble_eq_true (by kernel_rfl)) (by kernel_rfl) (rt := .w (.at (.bool))) rfl ?_ ?_
  · intro ls' r' h'
    unfold WinFire_S at h'
    obtain ⟨n2, l'1, rfl, h'1⟩ := un_i_some.1 h'
    obtain ⟨d, l'2, rfl, h'2⟩ := un_i_some.1 h'1
    obtain ⟨rfl, h'Z⟩ := un_nil_some.1 h'2
    exact (WinFire_e n2 d).symm.trans h'Z
  · intro E w0 ws ρ0 hk b hb
    rw [show loopsOf (fb Go.Proofs.Tryz.f9) = [(bodyAt (fb Go.Proofs.Tryz.f9) 0)] by kernel_rfl] at hb
    simp only [List.mem_cons, List.mem_nil_iff, or_false] at hb
    rcases hb with rfl
    · exact WinFire_13_lok E w0 ws ρ0 hk
def G85 : Env := G84.addE 9 2 WinFire_in WinFire_out WinFire_SC
theorem g85 : EnvOk Go.Proofs.Tryz.prog G85 := EnvOk.addE g84 WinFire_c WinFire_says
end Go.Sx.T

