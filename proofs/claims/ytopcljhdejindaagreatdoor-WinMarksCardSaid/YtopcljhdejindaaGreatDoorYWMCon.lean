import Derived.Test.YtopcljhdejindaaGreatDoorYWMSpec
import Derived.Test.YtopcljhdejindaaGreatDoorYWinCon
set_option linter.all false
namespace Go.Sx.T
open Go Go.Sx Go.Proofs
noncomputable def fnsH : Fns := [(46, Go.Proofs.Tryz.f46), (88, Go.Proofs.Tryz.f88)]
theorem fnsH_ok : FnsOk Go.Proofs.Tryz.prog fnsH := .cons Go.Proofs.Tryz.func46 (by kernel_rfl) <| .cons Go.Proofs.Tryz.func88 (by kernel_rfl) <| .nil
noncomputable def G28 : Env := inlS fnsH [46] tab G27 5
theorem g28 : EnvOk Go.Proofs.Tryz.prog G28 := EnvOk.inlS mixed tab_ok g27 fnsH_ok [46] 5

-- ### WinMarks: function 12
def WinMarks_in : Tm := ⟨[.ro 3 1 [.int .i64]], [(0, .w (.at (.int .i64))), (1, .w (.at (.all 0 1)))]⟩
def WinMarks_out : Tm := ⟨[.dead], [(0, .w (.at (.bool)))]⟩
def WinMarks_6_T : Tm := ⟨[.ro 3 1 [.int .i64], .cells 104 [.int .i64, .int .i64, .int .i64, .int .i64, .ptr 2 0, .int .u64, .bool, .int .u64, .bool, .bool, .int .i64], .cells 100 [.bool, .int .i64, .int .i64, .int .i64]], [(6, .w (.at (.ptr 1 0))), (1, .w (.at (.all 0 1))), (0, .w (.at (.int .i64)))]⟩
def WinMarks_6_X0 : Tm := ⟨[.ro 3 1 [.int .i64], .cells 104 [.int .i64, .int .i64, .int .i64, .int .i64, .ptr 2 0, .int .u64, .bool, .int .u64, .bool, .bool, .int .i64], .cells 100 [.bool, .int .i64, .int .i64, .int .i64]], [(6, .w (.at (.ptr 1 0))), (1, .w (.at (.all 0 1))), (0, .w (.at (.int .i64)))]⟩
def WinMarks_6_X : Exits := [(0, (WinMarks_6_X0, []))]
def WinMarks_6_R : Tm := ⟨[], []⟩
def WinMarks_10_T : Tm := ⟨[.ro 3 1 [.int .i64], .cells 104 [.int .i64, .int .i64, .int .i64, .int .i64, .ptr 2 0, .int .u64, .bool, .int .u64, .bool, .bool, .int .i64], .cells 100 [.bool, .int .i64, .int .i64, .int .i64]], [(9, .w (.at (.int .i64))), (6, .w (.at (.ptr 1 0))), (1, .w (.at (.all 0 1))), (0, .w (.at (.int .i64)))]⟩
def WinMarks_10_X2 : Tm := ⟨[.ro 3 1 [.int .i64], .cells 104 [.int .i64, .int .i64, .int .i64, .int .i64, .ptr 2 0, .int .u64, .bool, .int .u64, .bool, .bool, .int .i64], .cells 100 [.bool, .int .i64, .int .i64, .int .i64]], [(6, .w (.at (.ptr 1 0))), (1, .w (.at (.all 0 1)))]⟩
def WinMarks_10_X : Exits := [(2, (WinMarks_10_X2, []))]
def WinMarks_10_R : Tm := ⟨[], []⟩
def WinMarks_15_T : Tm := ⟨[.ro 3 1 [.int .i64], .cells 104 [.int .i64, .int .i64, .int .i64, .int .i64, .ptr 2 0, .int .u64, .bool, .int .u64, .bool, .bool, .int .i64], .cells 100 [.bool, .int .i64, .int .i64, .int .i64]], [(11, .w (.at (.int .i64))), (6, .w (.at (.ptr 1 0))), (10, .w (.at (.int .i64))), (1, .w (.at (.all 0 1)))]⟩
def WinMarks_15_X4 : Tm := ⟨[.ro 3 1 [.int .i64]], []⟩
def WinMarks_15_X : Exits := [(4, (WinMarks_15_X4, []))]
def WinMarks_15_R : Tm := ⟨[.ro 3 1 [.int .i64]], [(4, .w (.at (.bool)))]⟩

def WinMarks_Λd (L6 : ({β : Type} → (Nat → List Leaf → Option β) → (List Leaf → Option β) → Nat → List Int → Int → Int → Int → Int → Int → Bool → Int → Bool → Bool → Int → Bool → Int → Int → Int → Int → Option β)) (L10 : ({β : Type} → (Nat → List Leaf → Option β) → (List Leaf → Option β) → Nat → List Int → Int → Int → Int → Int → Int → Bool → Int → Bool → Bool → Int → Bool → Int → Int → Int → Int → Int → Option β)) (L15 : ({β : Type} → (Nat → List Leaf → Option β) → (List Leaf → Option β) → Nat → List Int → Int → Int → Int → Int → Int → Bool → Int → Bool → Bool → Int → Bool → Int → Int → Int → Int → Int → Option β)) : Loops := ⟨fun b fr H kx kr => bif Nat.beq (rid b) 6 then loopE 1 WinMarks_6_T [] WinMarks_6_X WinMarks_6_R (WinMarks_6_F @L6 top) fr H kx kr else bif Nat.beq (rid b) 10 then loopE 1 WinMarks_10_T [] WinMarks_10_X WinMarks_10_R (WinMarks_10_F @L10 top) fr H kx kr else bif Nat.beq (rid b) 15 then loopE 1 WinMarks_15_T [] WinMarks_15_X WinMarks_15_R (WinMarks_15_F @L15 top) fr H kx kr else none⟩
def WinMarks_Λ : Loops := WinMarks_Λd @WinMarks_6_L @WinMarks_10_L @WinMarks_15_L
theorem WinMarks_6_e (L6 : ({β : Type} → (Nat → List Leaf → Option β) → (List Leaf → Option β) → Nat → List Int → Int → Int → Int → Int → Int → Bool → Int → Bool → Bool → Int → Bool → Int → Int → Int → Int → Option β)) (L10 : ({β : Type} → (Nat → List Leaf → Option β) → (List Leaf → Option β) → Nat → List Int → Int → Int → Int → Int → Int → Bool → Int → Bool → Bool → Int → Bool → Int → Int → Int → Int → Int → Option β)) (L15 : ({β : Type} → (Nat → List Leaf → Option β) → (List Leaf → Option β) → Nat → List Int → Int → Int → Int → Int → Int → Bool → Int → Bool → Bool → Int → Bool → Int → Int → Int → Int → Int → Option β)) {α : Type} (kx : Nat → List Leaf → Option α) (kr : List Leaf → Option α) (again : List Int → Int → Int → Int → Int → Int → Bool → Int → Bool → Bool → Int → Bool → Int → Int → Int → Int → Option α) (marks : List Int) (w_cwnd : Int) (w_slow : Int) (w_pipe : Int) (w_count : Int) (w_halved_n : Int) (w_halved_is : Bool) (w_last_n : Int) (w_last_is : Bool) (w_runs : Bool) (w_due : Int) (w_rtt_any : Bool) (w_rtt_smooth : Int) (w_rtt_spread : Int) (w_rtt_rto : Int) (n2 : Int) : WinMarks_6_B  kx kr again marks w_cwnd w_slow w_pipe w_count w_halved_n w_halved_is w_last_n w_last_is w_runs w_due w_rtt_any w_rtt_smooth w_rtt_spread w_rtt_rto n2 = loopB G28 (WinMarks_Λd @L6 @L10 @L15) false tab Go.Proofs.Tryz.f12.ntmps 1 WinMarks_6_T [] WinMarks_6_X WinMarks_6_R (bodyAt (fb Go.Proofs.Tryz.f12) 0) (fun ls => un_li ls fun marks rr => un_i rr fun w_cwnd rr => un_i rr fun w_slow rr => un_i rr fun w_pipe rr => un_i rr fun w_count rr => un_i rr fun w_halved_n rr => un_b rr fun w_halved_is rr => un_i rr fun w_last_n rr => un_b rr fun w_last_is rr => un_b rr fun w_runs rr => un_i rr fun w_due rr => un_b rr fun w_rtt_any rr => un_i rr fun w_rtt_smooth rr => un_i rr fun w_rtt_spread rr => un_i rr fun w_rtt_rto rr => un_i rr fun n2 rr => un_nil rr (again marks w_cwnd w_slow w_pipe w_count w_halved_n w_halved_is w_last_n w_last_is w_runs w_due w_rtt_any w_rtt_smooth w_rtt_spread w_rtt_rto n2)) kx kr (instFr WinMarks_6_T [.li marks, .i w_cwnd, .i w_slow, .i w_pipe, .i w_count, .i w_halved_n, .b w_halved_is, .i w_last_n, .b w_last_is, .b w_runs, .i w_due, .b w_rtt_any, .i w_rtt_smooth, .i w_rtt_spread, .i w_rtt_rto, .i n2]) (instH WinMarks_6_T [.li marks, .i w_cwnd, .i w_slow, .i w_pipe, .i w_count, .i w_halved_n, .b w_halved_is, .i w_last_n, .b w_last_is, .b w_runs, .i w_due, .b w_rtt_any, .i w_rtt_smooth, .i w_rtt_spread, .i w_rtt_rto, .i n2]) := by kernel_rfl
theorem WinMarks_10_e (L6 : ({β : Type} → (Nat → List Leaf → Option β) → (List Leaf → Option β) → Nat → List Int → Int → Int → Int → Int → Int → Bool → Int → Bool → Bool → Int → Bool → Int → Int → Int → Int → Option β)) (L10 : ({β : Type} → (Nat → List Leaf → Option β) → (List Leaf → Option β) → Nat → List Int → Int → Int → Int → Int → Int → Bool → Int → Bool → Bool → Int → Bool → Int → Int → Int → Int → Int → Option β)) (L15 : ({β : Type} → (Nat → List Leaf → Option β) → (List Leaf → Option β) → Nat → List Int → Int → Int → Int → Int → Int → Bool → Int → Bool → Bool → Int → Bool → Int → Int → Int → Int → Int → Option β)) {α : Type} (kx : Nat → List Leaf → Option α) (kr : List Leaf → Option α) (again : List Int → Int → Int → Int → Int → Int → Bool → Int → Bool → Bool → Int → Bool → Int → Int → Int → Int → Int → Option α) (marks : List Int) (w_cwnd : Int) (w_slow : Int) (w_pipe : Int) (w_count : Int) (w_halved_n : Int) (w_halved_is : Bool) (w_last_n : Int) (w_last_is : Bool) (w_runs : Bool) (w_due : Int) (w_rtt_any : Bool) (w_rtt_smooth : Int) (w_rtt_spread : Int) (w_rtt_rto : Int) (i : Int) (n2 : Int) : WinMarks_10_B  kx kr again marks w_cwnd w_slow w_pipe w_count w_halved_n w_halved_is w_last_n w_last_is w_runs w_due w_rtt_any w_rtt_smooth w_rtt_spread w_rtt_rto i n2 = loopB G28 (WinMarks_Λd @L6 @L10 @L15) false tab Go.Proofs.Tryz.f12.ntmps 1 WinMarks_10_T [] WinMarks_10_X WinMarks_10_R (bodyAt (fb Go.Proofs.Tryz.f12) 1) (fun ls => un_li ls fun marks rr => un_i rr fun w_cwnd rr => un_i rr fun w_slow rr => un_i rr fun w_pipe rr => un_i rr fun w_count rr => un_i rr fun w_halved_n rr => un_b rr fun w_halved_is rr => un_i rr fun w_last_n rr => un_b rr fun w_last_is rr => un_b rr fun w_runs rr => un_i rr fun w_due rr => un_b rr fun w_rtt_any rr => un_i rr fun w_rtt_smooth rr => un_i rr fun w_rtt_spread rr => un_i rr fun w_rtt_rto rr => un_i rr fun i rr => un_i rr fun n2 rr => un_nil rr (again marks w_cwnd w_slow w_pipe w_count w_halved_n w_halved_is w_last_n w_last_is w_runs w_due w_rtt_any w_rtt_smooth w_rtt_spread w_rtt_rto i n2)) kx kr (instFr WinMarks_10_T [.li marks, .i w_cwnd, .i w_slow, .i w_pipe, .i w_count, .i w_halved_n, .b w_halved_is, .i w_last_n, .b w_last_is, .b w_runs, .i w_due, .b w_rtt_any, .i w_rtt_smooth, .i w_rtt_spread, .i w_rtt_rto, .i i, .i n2]) (instH WinMarks_10_T [.li marks, .i w_cwnd, .i w_slow, .i w_pipe, .i w_count, .i w_halved_n, .b w_halved_is, .i w_last_n, .b w_last_is, .b w_runs, .i w_due, .b w_rtt_any, .i w_rtt_smooth, .i w_rtt_spread, .i w_rtt_rto, .i i, .i n2]) := by kernel_rfl
theorem WinMarks_15_e (L6 : ({β : Type} → (Nat → List Leaf → Option β) → (List Leaf → Option β) → Nat → List Int → Int → Int → Int → Int → Int → Bool → Int → Bool → Bool → Int → Bool → Int → Int → Int → Int → Option β)) (L10 : ({β : Type} → (Nat → List Leaf → Option β) → (List Leaf → Option β) → Nat → List Int → Int → Int → Int → Int → Int → Bool → Int → Bool → Bool → Int → Bool → Int → Int → Int → Int → Int → Option β)) (L15 : ({β : Type} → (Nat → List Leaf → Option β) → (List Leaf → Option β) → Nat → List Int → Int → Int → Int → Int → Int → Bool → Int → Bool → Bool → Int → Bool → Int → Int → Int → Int → Int → Option β)) {α : Type} (kx : Nat → List Leaf → Option α) (kr : List Leaf → Option α) (again : List Int → Int → Int → Int → Int → Int → Bool → Int → Bool → Bool → Int → Bool → Int → Int → Int → Int → Int → Option α) (marks : List Int) (w_cwnd : Int) (w_slow : Int) (w_pipe : Int) (w_count : Int) (w_halved_n : Int) (w_halved_is : Bool) (w_last_n : Int) (w_last_is : Bool) (w_runs : Bool) (w_due : Int) (w_rtt_any : Bool) (w_rtt_smooth : Int) (w_rtt_spread : Int) (w_rtt_rto : Int) (i : Int) (was : Int) : WinMarks_15_B  kx kr again marks w_cwnd w_slow w_pipe w_count w_halved_n w_halved_is w_last_n w_last_is w_runs w_due w_rtt_any w_rtt_smooth w_rtt_spread w_rtt_rto i was = loopB G28 (WinMarks_Λd @L6 @L10 @L15) false tab Go.Proofs.Tryz.f12.ntmps 1 WinMarks_15_T [] WinMarks_15_X WinMarks_15_R (bodyAt (fb Go.Proofs.Tryz.f12) 2) (fun ls => un_li ls fun marks rr => un_i rr fun w_cwnd rr => un_i rr fun w_slow rr => un_i rr fun w_pipe rr => un_i rr fun w_count rr => un_i rr fun w_halved_n rr => un_b rr fun w_halved_is rr => un_i rr fun w_last_n rr => un_b rr fun w_last_is rr => un_b rr fun w_runs rr => un_i rr fun w_due rr => un_b rr fun w_rtt_any rr => un_i rr fun w_rtt_smooth rr => un_i rr fun w_rtt_spread rr => un_i rr fun w_rtt_rto rr => un_i rr fun i rr => un_i rr fun was rr => un_nil rr (again marks w_cwnd w_slow w_pipe w_count w_halved_n w_halved_is w_last_n w_last_is w_runs w_due w_rtt_any w_rtt_smooth w_rtt_spread w_rtt_rto i was)) kx kr (instFr WinMarks_15_T [.li marks, .i w_cwnd, .i w_slow, .i w_pipe, .i w_count, .i w_halved_n, .b w_halved_is, .i w_last_n, .b w_last_is, .b w_runs, .i w_due, .b w_rtt_any, .i w_rtt_smooth, .i w_rtt_spread, .i w_rtt_rto, .i i, .i was]) (instH WinMarks_15_T [.li marks, .i w_cwnd, .i w_slow, .i w_pipe, .i w_count, .i w_halved_n, .b w_halved_is, .i w_last_n, .b w_last_is, .b w_runs, .i w_due, .b w_rtt_any, .i w_rtt_smooth, .i w_rtt_spread, .i w_rtt_rto, .i i, .i was]) := by kernel_rfl
theorem WinMarks_15_lok (E : Nat → Prop) (w0 ws : World) (ρ0 : List Pl) (hk : ρ0.length = 1) : LOk Go.Proofs.Tryz.prog 12 Go.Proofs.Tryz.f12 false E w0 ws Go.Proofs.Tryz.f12.ntmps ρ0 WinMarks_Λ (bodyAt (fb Go.Proofs.Tryz.f12) 2) := by
  refine lok mixed tab_ok g28 Go.Proofs.Tryz.func12 hk (T := WinMarks_15_T) (rt := WinMarks_15_R) (cuts := []) (ex := WinMarks_15_X) (top := top) (F := WinMarks_15_F @WinMarks_15_L) (fun fr H kx kr => by kernel_rfl) ?_ ?_ ?_
  · intro α ls' kx' kr' r' h'
    unfold WinMarks_15_F at h'
    obtain ⟨marks, l'1, rfl, h'1⟩ := un_li_some.1 h'
    obtain ⟨w_cwnd, l'2, rfl, h'2⟩ := un_i_some.1 h'1
    obtain ⟨w_slow, l'3, rfl, h'3⟩ := un_i_some.1 h'2
    obtain ⟨w_pipe, l'4, rfl, h'4⟩ := un_i_some.1 h'3
    obtain ⟨w_count, l'5, rfl, h'5⟩ := un_i_some.1 h'4
    obtain ⟨w_halved_n, l'6, rfl, h'6⟩ := un_i_some.1 h'5
    obtain ⟨w_halved_is, l'7, rfl, h'7⟩ := un_b_some.1 h'6
    obtain ⟨w_last_n, l'8, rfl, h'8⟩ := un_i_some.1 h'7
    obtain ⟨w_last_is, l'9, rfl, h'9⟩ := un_b_some.1 h'8
    obtain ⟨w_runs, l'10, rfl, h'10⟩ := un_b_some.1 h'9
    obtain ⟨w_due, l'11, rfl, h'11⟩ := un_i_some.1 h'10
    obtain ⟨w_rtt_any, l'12, rfl, h'12⟩ := un_b_some.1 h'11
    obtain ⟨w_rtt_smooth, l'13, rfl, h'13⟩ := un_i_some.1 h'12
    obtain ⟨w_rtt_spread, l'14, rfl, h'14⟩ := un_i_some.1 h'13
    obtain ⟨w_rtt_rto, l'15, rfl, h'15⟩ := un_i_some.1 h'14
    obtain ⟨i, l'16, rfl, h'16⟩ := un_i_some.1 h'15
    obtain ⟨was, l'17, rfl, h'17⟩ := un_i_some.1 h'16
    obtain ⟨rfl, h'Z⟩ := un_nil_some.1 h'17
    cases h'Z
  · intro α n' ls' kx' kr' r' h'
    unfold WinMarks_15_F at h'
    obtain ⟨marks, l'1, rfl, h'1⟩ := un_li_some.1 h'
    obtain ⟨w_cwnd, l'2, rfl, h'2⟩ := un_i_some.1 h'1
    obtain ⟨w_slow, l'3, rfl, h'3⟩ := un_i_some.1 h'2
    obtain ⟨w_pipe, l'4, rfl, h'4⟩ := un_i_some.1 h'3
    obtain ⟨w_count, l'5, rfl, h'5⟩ := un_i_some.1 h'4
    obtain ⟨w_halved_n, l'6, rfl, h'6⟩ := un_i_some.1 h'5
    obtain ⟨w_halved_is, l'7, rfl, h'7⟩ := un_b_some.1 h'6
    obtain ⟨w_last_n, l'8, rfl, h'8⟩ := un_i_some.1 h'7
    obtain ⟨w_last_is, l'9, rfl, h'9⟩ := un_b_some.1 h'8
    obtain ⟨w_runs, l'10, rfl, h'10⟩ := un_b_some.1 h'9
    obtain ⟨w_due, l'11, rfl, h'11⟩ := un_i_some.1 h'10
    obtain ⟨w_rtt_any, l'12, rfl, h'12⟩ := un_b_some.1 h'11
    obtain ⟨w_rtt_smooth, l'13, rfl, h'13⟩ := un_i_some.1 h'12
    obtain ⟨w_rtt_spread, l'14, rfl, h'14⟩ := un_i_some.1 h'13
    obtain ⟨w_rtt_rto, l'15, rfl, h'15⟩ := un_i_some.1 h'14
    obtain ⟨i, l'16, rfl, h'16⟩ := un_i_some.1 h'15
    obtain ⟨was, l'17, rfl, h'17⟩ := un_i_some.1 h'16
    obtain ⟨rfl, h'Z⟩ := un_nil_some.1 h'17
    exact (WinMarks_15_e @WinMarks_6_L @WinMarks_10_L @WinMarks_15_L kx' kr' (WinMarks_15_L kx' kr' n') marks w_cwnd w_slow w_pipe w_count w_halved_n w_halved_is w_last_n w_last_is w_runs w_due w_rtt_any w_rtt_smooth w_rtt_spread w_rtt_rto i was).symm.trans h'Z
  · intro b' hb
    rw [show loopsOf (bodyAt (fb Go.Proofs.Tryz.f12) 2) = [] by kernel_rfl] at hb
    cases hb
theorem WinMarks_10_lok (E : Nat → Prop) (w0 ws : World) (ρ0 : List Pl) (hk : ρ0.length = 1) : LOk Go.Proofs.Tryz.prog 12 Go.Proofs.Tryz.f12 false E w0 ws Go.Proofs.Tryz.f12.ntmps ρ0 WinMarks_Λ (bodyAt (fb Go.Proofs.Tryz.f12) 1) := by
  refine lok mixed tab_ok g28 Go.Proofs.Tryz.func12 hk (T := WinMarks_10_T) (rt := WinMarks_10_R) (cuts := []) (ex := WinMarks_10_X) (top := top) (F := WinMarks_10_F @WinMarks_10_L) (fun fr H kx kr => by kernel_rfl) ?_ ?_ ?_
  · intro α ls' kx' kr' r' h'
    unfold WinMarks_10_F at h'
    obtain ⟨marks, l'1, rfl, h'1⟩ := un_li_some.1 h'
    obtain ⟨w_cwnd, l'2, rfl, h'2⟩ := un_i_some.1 h'1
    obtain ⟨w_slow, l'3, rfl, h'3⟩ := un_i_some.1 h'2
    obtain ⟨w_pipe, l'4, rfl, h'4⟩ := un_i_some.1 h'3
    obtain ⟨w_count, l'5, rfl, h'5⟩ := un_i_some.1 h'4
    obtain ⟨w_halved_n, l'6, rfl, h'6⟩ := un_i_some.1 h'5
    obtain ⟨w_halved_is, l'7, rfl, h'7⟩ := un_b_some.1 h'6
    obtain ⟨w_last_n, l'8, rfl, h'8⟩ := un_i_some.1 h'7
    obtain ⟨w_last_is, l'9, rfl, h'9⟩ := un_b_some.1 h'8
    obtain ⟨w_runs, l'10, rfl, h'10⟩ := un_b_some.1 h'9
    obtain ⟨w_due, l'11, rfl, h'11⟩ := un_i_some.1 h'10
    obtain ⟨w_rtt_any, l'12, rfl, h'12⟩ := un_b_some.1 h'11
    obtain ⟨w_rtt_smooth, l'13, rfl, h'13⟩ := un_i_some.1 h'12
    obtain ⟨w_rtt_spread, l'14, rfl, h'14⟩ := un_i_some.1 h'13
    obtain ⟨w_rtt_rto, l'15, rfl, h'15⟩ := un_i_some.1 h'14
    obtain ⟨i, l'16, rfl, h'16⟩ := un_i_some.1 h'15
    obtain ⟨n2, l'17, rfl, h'17⟩ := un_i_some.1 h'16
    obtain ⟨rfl, h'Z⟩ := un_nil_some.1 h'17
    cases h'Z
  · intro α n' ls' kx' kr' r' h'
    unfold WinMarks_10_F at h'
    obtain ⟨marks, l'1, rfl, h'1⟩ := un_li_some.1 h'
    obtain ⟨w_cwnd, l'2, rfl, h'2⟩ := un_i_some.1 h'1
    obtain ⟨w_slow, l'3, rfl, h'3⟩ := un_i_some.1 h'2
    obtain ⟨w_pipe, l'4, rfl, h'4⟩ := un_i_some.1 h'3
    obtain ⟨w_count, l'5, rfl, h'5⟩ := un_i_some.1 h'4
    obtain ⟨w_halved_n, l'6, rfl, h'6⟩ := un_i_some.1 h'5
    obtain ⟨w_halved_is, l'7, rfl, h'7⟩ := un_b_some.1 h'6
    obtain ⟨w_last_n, l'8, rfl, h'8⟩ := un_i_some.1 h'7
    obtain ⟨w_last_is, l'9, rfl, h'9⟩ := un_b_some.1 h'8
    obtain ⟨w_runs, l'10, rfl, h'10⟩ := un_b_some.1 h'9
    obtain ⟨w_due, l'11, rfl, h'11⟩ := un_i_some.1 h'10
    obtain ⟨w_rtt_any, l'12, rfl, h'12⟩ := un_b_some.1 h'11
    obtain ⟨w_rtt_smooth, l'13, rfl, h'13⟩ := un_i_some.1 h'12
    obtain ⟨w_rtt_spread, l'14, rfl, h'14⟩ := un_i_some.1 h'13
    obtain ⟨w_rtt_rto, l'15, rfl, h'15⟩ := un_i_some.1 h'14
    obtain ⟨i, l'16, rfl, h'16⟩ := un_i_some.1 h'15
    obtain ⟨n2, l'17, rfl, h'17⟩ := un_i_some.1 h'16
    obtain ⟨rfl, h'Z⟩ := un_nil_some.1 h'17
    exact (WinMarks_10_e @WinMarks_6_L @WinMarks_10_L @WinMarks_15_L kx' kr' (WinMarks_10_L kx' kr' n') marks w_cwnd w_slow w_pipe w_count w_halved_n w_halved_is w_last_n w_last_is w_runs w_due w_rtt_any w_rtt_smooth w_rtt_spread w_rtt_rto i n2).symm.trans h'Z
  · intro b' hb
    rw [show loopsOf (bodyAt (fb Go.Proofs.Tryz.f12) 1) = [] by kernel_rfl] at hb
    cases hb
theorem WinMarks_6_lok (E : Nat → Prop) (w0 ws : World) (ρ0 : List Pl) (hk : ρ0.length = 1) : LOk Go.Proofs.Tryz.prog 12 Go.Proofs.Tryz.f12 false E w0 ws Go.Proofs.Tryz.f12.ntmps ρ0 WinMarks_Λ (bodyAt (fb Go.Proofs.Tryz.f12) 0) := by
  refine lok mixed tab_ok g28 Go.Proofs.Tryz.func12 hk (T := WinMarks_6_T) (rt := WinMarks_6_R) (cuts := []) (ex := WinMarks_6_X) (top := top) (F := WinMarks_6_F @WinMarks_6_L) (fun fr H kx kr => by kernel_rfl) ?_ ?_ ?_
  · intro α ls' kx' kr' r' h'
    unfold WinMarks_6_F at h'
    obtain ⟨marks, l'1, rfl, h'1⟩ := un_li_some.1 h'
    obtain ⟨w_cwnd, l'2, rfl, h'2⟩ := un_i_some.1 h'1
    obtain ⟨w_slow, l'3, rfl, h'3⟩ := un_i_some.1 h'2
    obtain ⟨w_pipe, l'4, rfl, h'4⟩ := un_i_some.1 h'3
    obtain ⟨w_count, l'5, rfl, h'5⟩ := un_i_some.1 h'4
    obtain ⟨w_halved_n, l'6, rfl, h'6⟩ := un_i_some.1 h'5
    obtain ⟨w_halved_is, l'7, rfl, h'7⟩ := un_b_some.1 h'6
    obtain ⟨w_last_n, l'8, rfl, h'8⟩ := un_i_some.1 h'7
    obtain ⟨w_last_is, l'9, rfl, h'9⟩ := un_b_some.1 h'8
    obtain ⟨w_runs, l'10, rfl, h'10⟩ := un_b_some.1 h'9
    obtain ⟨w_due, l'11, rfl, h'11⟩ := un_i_some.1 h'10
    obtain ⟨w_rtt_any, l'12, rfl, h'12⟩ := un_b_some.1 h'11
    obtain ⟨w_rtt_smooth, l'13, rfl, h'13⟩ := un_i_some.1 h'12
    obtain ⟨w_rtt_spread, l'14, rfl, h'14⟩ := un_i_some.1 h'13
    obtain ⟨w_rtt_rto, l'15, rfl, h'15⟩ := un_i_some.1 h'14
    obtain ⟨n2, l'16, rfl, h'16⟩ := un_i_some.1 h'15
    obtain ⟨rfl, h'Z⟩ := un_nil_some.1 h'16
    cases h'Z
  · intro α n' ls' kx' kr' r' h'
    unfold WinMarks_6_F at h'
    obtain ⟨marks, l'1, rfl, h'1⟩ := un_li_some.1 h'
    obtain ⟨w_cwnd, l'2, rfl, h'2⟩ := un_i_some.1 h'1
    obtain ⟨w_slow, l'3, rfl, h'3⟩ := un_i_some.1 h'2
    obtain ⟨w_pipe, l'4, rfl, h'4⟩ := un_i_some.1 h'3
    obtain ⟨w_count, l'5, rfl, h'5⟩ := un_i_some.1 h'4
    obtain ⟨w_halved_n, l'6, rfl, h'6⟩ := un_i_some.1 h'5
    obtain ⟨w_halved_is, l'7, rfl, h'7⟩ := un_b_some.1 h'6
    obtain ⟨w_last_n, l'8, rfl, h'8⟩ := un_i_some.1 h'7
    obtain ⟨w_last_is, l'9, rfl, h'9⟩ := un_b_some.1 h'8
    obtain ⟨w_runs, l'10, rfl, h'10⟩ := un_b_some.1 h'9
    obtain ⟨w_due, l'11, rfl, h'11⟩ := un_i_some.1 h'10
    obtain ⟨w_rtt_any, l'12, rfl, h'12⟩ := un_b_some.1 h'11
    obtain ⟨w_rtt_smooth, l'13, rfl, h'13⟩ := un_i_some.1 h'12
    obtain ⟨w_rtt_spread, l'14, rfl, h'14⟩ := un_i_some.1 h'13
    obtain ⟨w_rtt_rto, l'15, rfl, h'15⟩ := un_i_some.1 h'14
    obtain ⟨n2, l'16, rfl, h'16⟩ := un_i_some.1 h'15
    obtain ⟨rfl, h'Z⟩ := un_nil_some.1 h'16
    exact (WinMarks_6_e @WinMarks_6_L @WinMarks_10_L @WinMarks_15_L kx' kr' (WinMarks_6_L kx' kr' n') marks w_cwnd w_slow w_pipe w_count w_halved_n w_halved_is w_last_n w_last_is w_runs w_due w_rtt_any w_rtt_smooth w_rtt_spread w_rtt_rto n2).symm.trans h'Z
  · intro b' hb
    rw [show loopsOf (bodyAt (fb Go.Proofs.Tryz.f12) 0) = [] by kernel_rfl] at hb
    cases hb
theorem WinMarks_ed (L6 : ({β : Type} → (Nat → List Leaf → Option β) → (List Leaf → Option β) → Nat → List Int → Int → Int → Int → Int → Int → Bool → Int → Bool → Bool → Int → Bool → Int → Int → Int → Int → Option β)) (L10 : ({β : Type} → (Nat → List Leaf → Option β) → (List Leaf → Option β) → Nat → List Int → Int → Int → Int → Int → Int → Bool → Int → Bool → Bool → Int → Bool → Int → Int → Int → Int → Int → Option β)) (L15 : ({β : Type} → (Nat → List Leaf → Option β) → (List Leaf → Option β) → Nat → List Int → Int → Int → Int → Int → Int → Bool → Int → Bool → Bool → Int → Bool → Int → Int → Int → Int → Int → Option β)) (marks : List Int) (n2 : Int) : WinMarks_d @L6 @L10 @L15 marks n2 = den G28 (WinMarks_Λd @L6 @L10 @L15) false tab Go.Proofs.Tryz.f12.ntmps (fun fr H => finish tab 1 Go.Proofs.Tryz.f12.results.toList WinMarks_out [] fr H some) (fun _ _ _ => none) (fun fr H => finish tab 1 Go.Proofs.Tryz.f12.results.toList WinMarks_out [] fr H some) 10000 [.code (fb Go.Proofs.Tryz.f12)] (instFr WinMarks_in [.li marks, .i n2]) (instH WinMarks_in [.li marks, .i n2]) := by kernel_rfl
theorem WinMarks_e (marks : List Int) (n2 : Int) : WinMarks marks n2 = den G28 WinMarks_Λ false tab Go.Proofs.Tryz.f12.ntmps (fun fr H => finish tab 1 Go.Proofs.Tryz.f12.results.toList WinMarks_out [] fr H some) (fun _ _ _ => none) (fun fr H => finish tab 1 Go.Proofs.Tryz.f12.results.toList WinMarks_out [] fr H some) 10000 [.code (fb Go.Proofs.Tryz.f12)] (instFr WinMarks_in [.li marks, .i n2]) (instH WinMarks_in [.li marks, .i n2]) := WinMarks_ed @WinMarks_6_L @WinMarks_10_L @WinMarks_15_L marks n2
def WinMarks_S : List Leaf → Option (List Leaf) := fun ls => un_li ls fun marks rr => un_i rr fun n2 rr => un_nil rr (WinMarks marks n2)
def WinMarks_SC : Tld := fun ls k' => un_li ls fun marks rr => un_i rr fun n2 rr => un_nil rr (out (WinMarks marks n2) k')
theorem WinMarks_Se (marks : List Int) (n2 : Int) : WinMarks_S [.li marks, .i n2] = WinMarks marks n2 := by
  unfold WinMarks_S
  simp only [un_i_ev, un_b_ev, un_s_ev, un_li_ev, un_lb_ev, un_ls_ev, un_nil_ev]
theorem WinMarks_says : Says WinMarks_SC WinMarks_S := by
  intro β ls' k' r' h'
  unfold WinMarks_SC at h'
  obtain ⟨marks, l'1, rfl, h'1⟩ := un_li_some.1 h'
  obtain ⟨n2, l'2, rfl, h'2⟩ := un_i_some.1 h'1
  obtain ⟨rfl, h'Z⟩ := un_nil_some.1 h'2
  obtain ⟨l', a', b'⟩ := out_some.1 h'Z
  exact ⟨l', (WinMarks_Se marks n2).trans a', b'⟩
theorem WinMarks_c : FnC Go.Proofs.Tryz.prog 12 false 2 1 WinMarks_in WinMarks_out WinMarks_S := by
  refine fn_ok (Λ := WinMarks_Λ) mixed tab_ok g28 Go.Proofs.Tryz.func12 (by kernel_rfl) (body := fb Go.Proofs.Tryz.f12) rfl (ts := Go.Proofs.Tryz.f12.results.toList) rfl (cuts := []) (by kernel_rfl) (Nat.le_of_ble_eq_true (by kernel_rfl)) (by kernel_rfl) (rt := .w (.at (.bool))) rfl ?_ ?_
  · intro ls' r' h'
    unfold WinMarks_S at h'
    obtain ⟨marks, l'1, rfl, h'1⟩ := un_li_some.1 h'
    obtain ⟨n2, l'2, rfl, h'2⟩ := un_i_some.1 h'1
    obtain ⟨rfl, h'Z⟩ := un_nil_some.1 h'2
    exact (WinMarks_e marks n2).symm.trans h'Z
  · intro E w0 ws ρ0 hk b hb
    rw [show loopsOf (fb Go.Proofs.Tryz.f12) = [(bodyAt (fb Go.Proofs.Tryz.f12) 0), (bodyAt (fb Go.Proofs.Tryz.f12) 1), (bodyAt (fb Go.Proofs.Tryz.f12) 2)] by kernel_rfl] at hb
    simp only [List.mem_cons, List.mem_nil_iff, or_false] at hb
    rcases hb with rfl | rfl | rfl
    · exact WinMarks_6_lok E w0 ws ρ0 hk
    · exact WinMarks_10_lok E w0 ws ρ0 hk
    · exact WinMarks_15_lok E w0 ws ρ0 hk
noncomputable def G29 : Env := G28.addE 12 2 WinMarks_in WinMarks_out WinMarks_SC
theorem g29 : EnvOk Go.Proofs.Tryz.prog G29 := EnvOk.addE g28 WinMarks_c WinMarks_says
end Go.Sx.T

