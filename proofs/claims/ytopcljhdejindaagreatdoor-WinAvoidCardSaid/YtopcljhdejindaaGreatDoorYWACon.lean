import Derived.Test.YtopcljhdejindaaGreatDoorYWASpec
import Derived.Test.YtopcljhdejindaaGreatDoorYWFCon
set_option linter.all false
namespace Go.Sx.T
open Go Go.Sx Go.Proofs
noncomputable def fnsH : Fns := [(46, Go.Proofs.Tryz.f46), (88, Go.Proofs.Tryz.f88)]
theorem fnsH_ok : FnsOk Go.Proofs.Tryz.prog fnsH := .cons Go.Proofs.Tryz.func46 (by kernel_rfl) <| .cons Go.Proofs.Tryz.func88 (by kernel_rfl) <| .nil
noncomputable def G86 : Env := inlS fnsH [46] tab G85 5
theorem g86 : EnvOk Go.Proofs.Tryz.prog G86 := EnvOk.inlS mixed tab_ok g85 fnsH_ok [46] 5

-- ### WinAvoid: function 10
def WinAvoid_in : Tm := ⟨[], [(0, .w (.at (.int .i64))), (1, .w (.at (.int .i64)))]⟩
def WinAvoid_out : Tm := ⟨[], [(0, .w (.at (.bool)))]⟩
def WinAvoid_6_T : Tm := ⟨[.cells 104 [.int .i64, .int .i64, .int .i64, .int .i64, .ptr 1 0, .int .u64, .bool, .int .u64, .bool, .bool, .int .i64], .cells 100 [.bool, .int .i64, .int .i64, .int .i64]], [(6, .w (.at (.ptr 0 0))), (0, .w (.at (.int .i64))), (1, .w (.at (.int .i64)))]⟩
def WinAvoid_6_X0 : Tm := ⟨[.cells 104 [.int .i64, .int .i64, .int .i64, .int .i64, .ptr 1 0, .int .u64, .bool, .int .u64, .bool, .bool, .int .i64], .cells 100 [.bool, .int .i64, .int .i64, .int .i64]], [(6, .w (.at (.ptr 0 0))), (0, .w (.at (.int .i64))), (1, .w (.at (.int .i64)))]⟩
def WinAvoid_6_X : Exits := [(0, (WinAvoid_6_X0, []))]
def WinAvoid_6_R : Tm := ⟨[], []⟩
def WinAvoid_13_T : Tm := ⟨[.cells 104 [.int .i64, .int .i64, .int .i64, .int .i64, .ptr 1 0, .int .u64, .bool, .int .u64, .bool, .bool, .int .i64], .cells 100 [.bool, .int .i64, .int .i64, .int .i64]], [(11, .w (.at (.int .i64))), (6, .w (.at (.ptr 0 0))), (9, .w (.at (.int .i64))), (10, .w (.at (.int .i64))), (0, .w (.at (.int .i64))), (1, .w (.at (.int .i64)))]⟩
def WinAvoid_13_X2 : Tm := ⟨[.cells 104 [.int .i64, .int .i64, .int .i64, .int .i64, .ptr 1 0, .int .u64, .bool, .int .u64, .bool, .bool, .int .i64], .cells 100 [.bool, .int .i64, .int .i64, .int .i64]], [(0, .w (.at (.int .i64))), (6, .w (.at (.ptr 0 0)))]⟩
def WinAvoid_13_X : Exits := [(2, (WinAvoid_13_X2, []))]
def WinAvoid_13_R : Tm := ⟨[], [(4, .w (.at (.bool)))]⟩

def WinAvoid_Λd (L6 : ({β : Type} → (Nat → List Leaf → Option β) → (List Leaf → Option β) → Nat → Int → Int → Int → Int → Int → Bool → Int → Bool → Bool → Int → Bool → Int → Int → Int → Int → Int → Option β)) (L13 : ({β : Type} → (Nat → List Leaf → Option β) → (List Leaf → Option β) → Nat → Int → Int → Int → Int → Int → Bool → Int → Bool → Bool → Int → Bool → Int → Int → Int → Int → Int → Int → Int → Int → Option β)) : Loops := ⟨fun b fr H kx kr => bif Nat.beq (rid b) 6 then loopE 0 WinAvoid_6_T [] WinAvoid_6_X WinAvoid_6_R (WinAvoid_6_F @L6 top) fr H kx kr else bif Nat.beq (rid b) 13 then loopE 0 WinAvoid_13_T [] WinAvoid_13_X WinAvoid_13_R (WinAvoid_13_F @L13 top) fr H kx kr else none⟩
def WinAvoid_Λ : Loops := WinAvoid_Λd @WinAvoid_6_L @WinAvoid_13_L
theorem WinAvoid_6_e (L6 : ({β : Type} → (Nat → List Leaf → Option β) → (List Leaf → Option β) → Nat → Int → Int → Int → Int → Int → Bool → Int → Bool → Bool → Int → Bool → Int → Int → Int → Int → Int → Option β)) (L13 : ({β : Type} → (Nat → List Leaf → Option β) → (List Leaf → Option β) → Nat → Int → Int → Int → Int → Int → Bool → Int → Bool → Bool → Int → Bool → Int → Int → Int → Int → Int → Int → Int → Int → Option β)) {α : Type} (kx : Nat → List Leaf → Option α) (kr : List Leaf → Option α) (again : Int → Int → Int → Int → Int → Bool → Int → Bool → Bool → Int → Bool → Int → Int → Int → Int → Int → Option α) (w_cwnd : Int) (w_slow : Int) (w_pipe : Int) (w_count : Int) (w_halved_n : Int) (w_halved_is : Bool) (w_last_n : Int) (w_last_is : Bool) (w_runs : Bool) (w_due : Int) (w_rtt_any : Bool) (w_rtt_smooth : Int) (w_rtt_spread : Int) (w_rtt_rto : Int) (n2 : Int) (more : Int) : WinAvoid_6_B  kx kr again w_cwnd w_slow w_pipe w_count w_halved_n w_halved_is w_last_n w_last_is w_runs w_due w_rtt_any w_rtt_smooth w_rtt_spread w_rtt_rto n2 more = loopB G86 (WinAvoid_Λd @L6 @L13) false tab Go.Proofs.Tryz.f10.ntmps 0 WinAvoid_6_T [] WinAvoid_6_X WinAvoid_6_R (bodyAt (fb Go.Proofs.Tryz.f10) 0) (fun ls => un_i ls fun w_cwnd rr => un_i rr fun w_slow rr => un_i rr fun w_pipe rr => un_i rr fun w_count rr => un_i rr fun w_halved_n rr => un_b rr fun w_halved_is rr => un_i rr fun w_last_n rr => un_b rr fun w_last_is rr => un_b rr fun w_runs rr => un_i rr fun w_due rr => un_b rr fun w_rtt_any rr => un_i rr fun w_rtt_smooth rr => un_i rr fun w_rtt_spread rr => un_i rr fun w_rtt_rto rr => un_i rr fun n2 rr => un_i rr fun more rr => un_nil rr (again w_cwnd w_slow w_pipe w_count w_halved_n w_halved_is w_last_n w_last_is w_runs w_due w_rtt_any w_rtt_smooth w_rtt_spread w_rtt_rto n2 more)) kx kr (instFr WinAvoid_6_T [.i w_cwnd, .i w_slow, .i w_pipe, .i w_count, .i w_halved_n, .b w_halved_is, .i w_last_n, .b w_last_is, .b w_runs, .i w_due, .b w_rtt_any, .i w_rtt_smooth, .i w_rtt_spread, .i w_rtt_rto, .i n2, .i more]) (instH WinAvoid_6_T [.i w_cwnd, .i w_slow, .i w_pipe, .i w_count, .i w_halved_n, .b w_halved_is, .i w_last_n, .b w_last_is, .b w_runs, .i w_due, .b w_rtt_any, .i w_rtt_smooth, .i w_rtt_spread, .i w_rtt_rto, .i n2, .i more]) := by kernel_rfl
theorem WinAvoid_13_e (L6 : ({β : Type} → (Nat → List Leaf → Option β) → (List Leaf → Option β) → Nat → Int → Int → Int → Int → Int → Bool → Int → Bool → Bool → Int → Bool → Int → Int → Int → Int → Int → Option β)) (L13 : ({β : Type} → (Nat → List Leaf → Option β) → (List Leaf → Option β) → Nat → Int → Int → Int → Int → Int → Bool → Int → Bool → Bool → Int → Bool → Int → Int → Int → Int → Int → Int → Int → Int → Option β)) {α : Type} (kx : Nat → List Leaf → Option α) (kr : List Leaf → Option α) (again : Int → Int → Int → Int → Int → Bool → Int → Bool → Bool → Int → Bool → Int → Int → Int → Int → Int → Int → Int → Int → Option α) (w_cwnd : Int) (w_slow : Int) (w_pipe : Int) (w_count : Int) (w_halved_n : Int) (w_halved_is : Bool) (w_last_n : Int) (w_last_is : Bool) (w_runs : Bool) (w_due : Int) (w_rtt_any : Bool) (w_rtt_smooth : Int) (w_rtt_spread : Int) (w_rtt_rto : Int) (i : Int) (cwnd : Int) (count : Int) (n2 : Int) (more : Int) : WinAvoid_13_B  kx kr again w_cwnd w_slow w_pipe w_count w_halved_n w_halved_is w_last_n w_last_is w_runs w_due w_rtt_any w_rtt_smooth w_rtt_spread w_rtt_rto i cwnd count n2 more = loopB G86 (WinAvoid_Λd @L6 @L13) false tab Go.Proofs.Tryz.f10.ntmps 0 WinAvoid_13_T [] WinAvoid_13_X WinAvoid_13_R (bodyAt (fb Go.Proofs.Tryz.f10) 1) (fun ls => un_i ls fun w_cwnd rr => un_i rr fun w_slow rr => un_i rr fun w_pipe rr => un_i rr fun w_count rr => un_i rr fun w_halved_n rr => un_b rr fun w_halved_is rr => un_i rr fun w_last_n rr => un_b rr fun w_last_is rr => un_b rr fun w_runs rr => un_i rr fun w_due rr => un_b rr fun w_rtt_any rr => un_i rr fun w_rtt_smooth rr => un_i rr fun w_rtt_spread rr => un_i rr fun w_rtt_rto rr => un_i rr fun i rr => un_i rr fun cwnd rr => un_i rr fun count rr => un_i rr fun n2 rr => un_i rr fun more rr => un_nil rr (again w_cwnd w_slow w_pipe w_count w_halved_n w_halved_is w_last_n w_last_is w_runs w_due w_rtt_any w_rtt_smooth w_rtt_spread w_rtt_rto i cwnd count n2 more)) kx kr (instFr WinAvoid_13_T [.i w_cwnd, .i w_slow, .i w_pipe, .i w_count, .i w_halved_n, .b w_halved_is, .i w_last_n, .b w_last_is, .b w_runs, .i w_due, .b w_rtt_any, .i w_rtt_smooth, .i w_rtt_spread, .i w_rtt_rto, .i i, .i cwnd, .i count, .i n2, .i more]) (instH WinAvoid_13_T [.i w_cwnd, .i w_slow, .i w_pipe, .i w_count, .i w_halved_n, .b w_halved_is, .i w_last_n, .b w_last_is, .b w_runs, .i w_due, .b w_rtt_any, .i w_rtt_smooth, .i w_rtt_spread, .i w_rtt_rto, .i i, .i cwnd, .i count, .i n2, .i more]) := by kernel_rfl
theorem WinAvoid_13_lok (E : Nat → Prop) (w0 ws : World) (ρ0 : List Pl) (hk : ρ0.length = 0) : LOk Go.Proofs.Tryz.prog 10 Go.Proofs.Tryz.f10 false E w0 ws Go.Proofs.Tryz.f10.ntmps ρ0 WinAvoid_Λ (bodyAt (fb Go.Proofs.Tryz.f10) 1) := by
  refine lok mixed tab_ok g86 Go.Proofs.Tryz.func10 hk (T := WinAvoid_13_T) (rt := WinAvoid_13_R) (cuts := []) (ex := WinAvoid_13_X) (top := top) (F := WinAvoid_13_F @WinAvoid_13_L) (fun fr H kx kr => by kernel_rfl) ?_ ?_ ?_
  · intro α ls' kx' kr' r' h'
    unfold WinAvoid_13_F at h'
    obtain ⟨w_cwnd, l'1, rfl, h'1⟩ := un_i_some.1 h'
    obtain ⟨w_slow, l'2, rfl, h'2⟩ := un_i_some.1 h'1
    obtain ⟨w_pipe, l'3, rfl, h'3⟩ := un_i_some.1 h'2
    obtain ⟨w_count, l'4, rfl, h'4⟩ := un_i_some.1 h'3
    obtain ⟨w_halved_n, l'5, rfl, h'5⟩ := un_i_some.1 h'4
    obtain ⟨w_halved_is, l'6, rfl, h'6⟩ := un_b_some.1 h'5
    obtain ⟨w_last_n, l'7, rfl, h'7⟩ := un_i_some.1 h'6
    obtain ⟨w_last_is, l'8, rfl, h'8⟩ := un_b_some.1 h'7
    obtain ⟨w_runs, l'9, rfl, h'9⟩ := un_b_some.1 h'8
    obtain ⟨w_due, l'10, rfl, h'10⟩ := un_i_some.1 h'9
    obtain ⟨w_rtt_any, l'11, rfl, h'11⟩ := un_b_some.1 h'10
    obtain ⟨w_rtt_smooth, l'12, rfl, h'12⟩ := un_i_some.1 h'11
    obtain ⟨w_rtt_spread, l'13, rfl, h'13⟩ := un_i_some.1 h'12
    obtain ⟨w_rtt_rto, l'14, rfl, h'14⟩ := un_i_some.1 h'13
    obtain ⟨i, l'15, rfl, h'15⟩ := un_i_some.1 h'14
    obtain ⟨cwnd, l'16, rfl, h'16⟩ := un_i_some.1 h'15
    obtain ⟨count, l'17, rfl, h'17⟩ := un_i_some.1 h'16
    obtain ⟨n2, l'18, rfl, h'18⟩ := un_i_some.1 h'17
    obtain ⟨more, l'19, rfl, h'19⟩ := un_i_some.1 h'18
    obtain ⟨rfl, h'Z⟩ := un_nil_some.1 h'19
    cases h'Z
  · intro α n' ls' kx' kr' r' h'
    unfold WinAvoid_13_F at h'
    obtain ⟨w_cwnd, l'1, rfl, h'1⟩ := un_i_some.1 h'
    obtain ⟨w_slow, l'2, rfl, h'2⟩ := un_i_some.1 h'1
    obtain ⟨w_pipe, l'3, rfl, h'3⟩ := un_i_some.1 h'2
    obtain ⟨w_count, l'4, rfl, h'4⟩ := un_i_some.1 h'3
    obtain ⟨w_halved_n, l'5, rfl, h'5⟩ := un_i_some.1 h'4
    obtain ⟨w_halved_is, l'6, rfl, h'6⟩ := un_b_some.1 h'5
    obtain ⟨w_last_n, l'7, rfl, h'7⟩ := un_i_some.1 h'6
    obtain ⟨w_last_is, l'8, rfl, h'8⟩ := un_b_some.1 h'7
    obtain ⟨w_runs, l'9, rfl, h'9⟩ := un_b_some.1 h'8
    obtain ⟨w_due, l'10, rfl, h'10⟩ := un_i_some.1 h'9
    obtain ⟨w_rtt_any, l'11, rfl, h'11⟩ := un_b_some.1 h'10
    obtain ⟨w_rtt_smooth, l'12, rfl, h'12⟩ := un_i_some.1 h'11
    obtain ⟨w_rtt_spread, l'13, rfl, h'13⟩ := un_i_some.1 h'12
    obtain ⟨w_rtt_rto, l'14, rfl, h'14⟩ := un_i_some.1 h'13
    obtain ⟨i, l'15, rfl, h'15⟩ := un_i_some.1 h'14
    obtain ⟨cwnd, l'16, rfl, h'16⟩ := un_i_some.1 h'15
    obtain ⟨count, l'17, rfl, h'17⟩ := un_i_some.1 h'16
    obtain ⟨n2, l'18, rfl, h'18⟩ := un_i_some.1 h'17
    obtain ⟨more, l'19, rfl, h'19⟩ := un_i_some.1 h'18
    obtain ⟨rfl, h'Z⟩ := un_nil_some.1 h'19
    exact (WinAvoid_13_e @WinAvoid_6_L @WinAvoid_13_L kx' kr' (WinAvoid_13_L kx' kr' n') w_cwnd w_slow w_pipe w_count w_halved_n w_halved_is w_last_n w_last_is w_runs w_due w_rtt_any w_rtt_smooth w_rtt_spread w_rtt_rto i cwnd count n2 more).symm.trans h'Z
  · intro b' hb
    rw [show loopsOf (bodyAt (fb Go.Proofs.Tryz.f10) 1) = [] by kernel_rfl] at hb
    cases hb
theorem WinAvoid_6_lok (E : Nat → Prop) (w0 ws : World) (ρ0 : List Pl) (hk : ρ0.length = 0) : LOk Go.Proofs.Tryz.prog 10 Go.Proofs.Tryz.f10 false E w0 ws Go.Proofs.Tryz.f10.ntmps ρ0 WinAvoid_Λ (bodyAt (fb Go.Proofs.Tryz.f10) 0) := by
  refine lok mixed tab_ok g86 Go.Proofs.Tryz.func10 hk (T := WinAvoid_6_T) (rt := WinAvoid_6_R) (cuts := []) (ex := WinAvoid_6_X) (top := top) (F := WinAvoid_6_F @WinAvoid_6_L) (fun fr H kx kr => by kernel_rfl) ?_ ?_ ?_
  · intro α ls' kx' kr' r' h'
    unfold WinAvoid_6_F at h'
    obtain ⟨w_cwnd, l'1, rfl, h'1⟩ := un_i_some.1 h'
    obtain ⟨w_slow, l'2, rfl, h'2⟩ := un_i_some.1 h'1
    obtain ⟨w_pipe, l'3, rfl, h'3⟩ := un_i_some.1 h'2
    obtain ⟨w_count, l'4, rfl, h'4⟩ := un_i_some.1 h'3
    obtain ⟨w_halved_n, l'5, rfl, h'5⟩ := un_i_some.1 h'4
    obtain ⟨w_halved_is, l'6, rfl, h'6⟩ := un_b_some.1 h'5
    obtain ⟨w_last_n, l'7, rfl, h'7⟩ := un_i_some.1 h'6
    obtain ⟨w_last_is, l'8, rfl, h'8⟩ := un_b_some.1 h'7
    obtain ⟨w_runs, l'9, rfl, h'9⟩ := un_b_some.1 h'8
    obtain ⟨w_due, l'10, rfl, h'10⟩ := un_i_some.1 h'9
    obtain ⟨w_rtt_any, l'11, rfl, h'11⟩ := un_b_some.1 h'10
    obtain ⟨w_rtt_smooth, l'12, rfl, h'12⟩ := un_i_some.1 h'11
    obtain ⟨w_rtt_spread, l'13, rfl, h'13⟩ := un_i_some.1 h'12
    obtain ⟨w_rtt_rto, l'14, rfl, h'14⟩ := un_i_some.1 h'13
    obtain ⟨n2, l'15, rfl, h'15⟩ := un_i_some.1 h'14
    obtain ⟨more, l'16, rfl, h'16⟩ := un_i_some.1 h'15
    obtain ⟨rfl, h'Z⟩ := un_nil_some.1 h'16
    cases h'Z
  · intro α n' ls' kx' kr' r' h'
    unfold WinAvoid_6_F at h'
    obtain ⟨w_cwnd, l'1, rfl, h'1⟩ := un_i_some.1 h'
    obtain ⟨w_slow, l'2, rfl, h'2⟩ := un_i_some.1 h'1
    obtain ⟨w_pipe, l'3, rfl, h'3⟩ := un_i_some.1 h'2
    obtain ⟨w_count, l'4, rfl, h'4⟩ := un_i_some.1 h'3
    obtain ⟨w_halved_n, l'5, rfl, h'5⟩ := un_i_some.1 h'4
    obtain ⟨w_halved_is, l'6, rfl, h'6⟩ := un_b_some.1 h'5
    obtain ⟨w_last_n, l'7, rfl, h'7⟩ := un_i_some.1 h'6
    obtain ⟨w_last_is, l'8, rfl, h'8⟩ := un_b_some.1 h'7
    obtain ⟨w_runs, l'9, rfl, h'9⟩ := un_b_some.1 h'8
    obtain ⟨w_due, l'10, rfl, h'10⟩ := un_i_some.1 h'9
    obtain ⟨w_rtt_any, l'11, rfl, h'11⟩ := un_b_some.1 h'10
    obtain ⟨w_rtt_smooth, l'12, rfl, h'12⟩ := un_i_some.1 h'11
    obtain ⟨w_rtt_spread, l'13, rfl, h'13⟩ := un_i_some.1 h'12
    obtain ⟨w_rtt_rto, l'14, rfl, h'14⟩ := un_i_some.1 h'13
    obtain ⟨n2, l'15, rfl, h'15⟩ := un_i_some.1 h'14
    obtain ⟨more, l'16, rfl, h'16⟩ := un_i_some.1 h'15
    obtain ⟨rfl, h'Z⟩ := un_nil_some.1 h'16
    exact (WinAvoid_6_e @WinAvoid_6_L @WinAvoid_13_L kx' kr' (WinAvoid_6_L kx' kr' n') w_cwnd w_slow w_pipe w_count w_halved_n w_halved_is w_last_n w_last_is w_runs w_due w_rtt_any w_rtt_smooth w_rtt_spread w_rtt_rto n2 more).symm.trans h'Z
  · intro b' hb
    rw [show loopsOf (bodyAt (fb Go.Proofs.Tryz.f10) 0) = [] by kernel_rfl] at hb
    cases hb
theorem WinAvoid_ed (L6 : ({β : Type} → (Nat → List Leaf → Option β) → (List Leaf → Option β) → Nat → Int → Int → Int → Int → Int → Bool → Int → Bool → Bool → Int → Bool → Int → Int → Int → Int → Int → Option β)) (L13 : ({β : Type} → (Nat → List Leaf → Option β) → (List Leaf → Option β) → Nat → Int → Int → Int → Int → Int → Bool → Int → Bool → Bool → Int → Bool → Int → Int → Int → Int → Int → Int → Int → Int → Option β)) (n2 : Int) (more : Int) : WinAvoid_d @L6 @L13 n2 more = den G86 (WinAvoid_Λd @L6 @L13) false tab Go.Proofs.Tryz.f10.ntmps (fun fr H => finish tab 0 Go.Proofs.Tryz.f10.results.toList WinAvoid_out [] fr H some) (fun _ _ _ => none) (fun fr H => finish tab 0 Go.Proofs.Tryz.f10.results.toList WinAvoid_out [] fr H some) 10000 [.code (fb Go.Proofs.Tryz.f10)] (instFr WinAvoid_in [.i n2, .i more]) (instH WinAvoid_in [.i n2, .i more]) := by kernel_rfl
theorem WinAvoid_e (n2 : Int) (more : Int) : WinAvoid n2 more = den G86 WinAvoid_Λ false tab Go.Proofs.Tryz.f10.ntmps (fun fr H => finish tab 0 Go.Proofs.Tryz.f10.results.toList WinAvoid_out [] fr H some) (fun _ _ _ => none) (fun fr H => finish tab 0 Go.Proofs.Tryz.f10.results.toList WinAvoid_out [] fr H some) 10000 [.code (fb Go.Proofs.Tryz.f10)] (instFr WinAvoid_in [.i n2, .i more]) (instH WinAvoid_in [.i n2, .i more]) := WinAvoid_ed @WinAvoid_6_L @WinAvoid_13_L n2 more
def WinAvoid_S : List Leaf → Option (List Leaf) := fun ls => un_i ls fun n2 rr => un_i rr fun more rr => un_nil rr (WinAvoid n2 more)
def WinAvoid_SC : Tld := fun ls k' => un_i ls fun n2 rr => un_i rr fun more rr => un_nil rr (out (WinAvoid n2 more) k')
theorem WinAvoid_Se (n2 : Int) (more : Int) : WinAvoid_S [.i n2, .i more] = WinAvoid n2 more := by
  unfold WinAvoid_S
  simp only [un_i_ev, un_b_ev, un_s_ev, un_li_ev, un_lb_ev, un_ls_ev, un_nil_ev]
theorem WinAvoid_says : Says WinAvoid_SC WinAvoid_S := by
  intro β ls' k' r' h'
  unfold WinAvoid_SC at h'
  obtain ⟨n2, l'1, rfl, h'1⟩ := un_i_some.1 h'
  obtain ⟨more, l'2, rfl, h'2⟩ := un_i_some.1 h'1
  obtain ⟨rfl, h'Z⟩ := un_nil_some.1 h'2
  obtain ⟨l', a', b'⟩ := out_some.1 h'Z
  exact ⟨l', (WinAvoid_Se n2 more).trans a', b'⟩
theorem WinAvoid_c : FnC Go.Proofs.Tryz.prog 10 false 2 0 WinAvoid_in WinAvoid_out WinAvoid_S := by
  refine fn_ok (Λ := WinAvoid_Λ) mixed tab_ok g86 Go.Proofs.Tryz.func10 (by kernel_rfl) (body := fb Go.Proofs.Tryz.f10) rfl (ts := Go.Proofs.Tryz.f10.results.toList) rfl (cuts := []) (by kernel_rfl) (Nat.le_of_ble_eq_true (by kernel_rfl)) (by kernel_rfl) (rt := .w (.at (.bool))) rfl ?_ ?_
  · intro ls' r' h'
    unfold WinAvoid_S at h'
    obtain ⟨n2, l'1, rfl, h'1⟩ := un_i_some.1 h'
    obtain ⟨more, l'2, rfl, h'2⟩ := un_i_some.1 h'1
    obtain ⟨rfl, h'Z⟩ := un_nil_some.1 h'2
    exact (WinAvoid_e n2 more).symm.trans h'Z
  · intro E w0 ws ρ0 hk b hb
    rw [show loopsOf (fb Go.Proofs.Tryz.f10) = [(bodyAt (fb Go.Proofs.Tryz.f10) 0), (bodyAt (fb Go.Proofs.Tryz.f10) 1)] by kernel_rfl] at hb
    simp only [List.mem_cons, List.mem_nil_iff, or_false] at hb
    rcases hb with rfl | rfl
    · exact WinAvoid_6_lok E w0 ws ρ0 hk
    · exact WinAvoid_13_lok E w0 ws ρ0 hk
noncomputable def G87 : Env := G86.addE 10 2 WinAvoid_in WinAvoid_out WinAvoid_SC
theorem g87 : EnvOk Go.Proofs.Tryz.prog G87 := EnvOk.addE g86 WinAvoid_c WinAvoid_says
end Go.Sx.T

