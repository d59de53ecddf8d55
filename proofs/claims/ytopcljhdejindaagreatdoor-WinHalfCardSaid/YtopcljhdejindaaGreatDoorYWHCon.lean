import Derived.Test.YtopcljhdejindaaGreatDoorYWHSpec
import Derived.Test.YtopcljhdejindaaGreatDoorYWMCon
set_option linter.all false
namespace Go.Sx.T
open Go Go.Sx Go.Proofs

-- ### WinHalf: function 13
def WinHalf_in : Tm := ⟨[.ro 3 1 [.int .i64]], [(0, .w (.at (.int .i64))), (1, .w (.at (.all 0 1)))]⟩
def WinHalf_out : Tm := ⟨[.dead], [(0, .w (.at (.bool)))]⟩
def WinHalf_7_T : Tm := ⟨[.ro 3 1 [.int .i64], .cells 104 [.int .i64, .int .i64, .int .i64, .int .i64, .ptr 2 0, .int .u64, .bool, .int .u64, .bool, .bool, .int .i64], .cells 100 [.bool, .int .i64, .int .i64, .int .i64]], [(7, .w (.at (.int .i64))), (6, .w (.at (.ptr 1 0))), (0, .w (.at (.int .i64))), (1, .w (.at (.all 0 1)))]⟩
def WinHalf_7_X0 : Tm := ⟨[.ro 3 1 [.int .i64], .cells 104 [.int .i64, .int .i64, .int .i64, .int .i64, .ptr 2 0, .int .u64, .bool, .int .u64, .bool, .bool, .int .i64], .cells 100 [.bool, .int .i64, .int .i64, .int .i64]], [(6, .w (.at (.ptr 1 0))), (0, .w (.at (.int .i64))), (1, .w (.at (.all 0 1)))]⟩
def WinHalf_7_X : Exits := [(0, (WinHalf_7_X0, []))]
def WinHalf_7_R : Tm := ⟨[], []⟩
def WinHalf_13_T : Tm := ⟨[.ro 3 1 [.int .i64], .cells 104 [.int .i64, .int .i64, .int .i64, .int .i64, .ptr 2 0, .int .u64, .bool, .int .u64, .bool, .bool, .int .i64], .cells 100 [.bool, .int .i64, .int .i64, .int .i64]], [(11, .w (.at (.int .i64))), (10, .w (.at (.int .u64))), (6, .w (.at (.ptr 1 0))), (0, .w (.at (.int .i64))), (1, .w (.at (.all 0 1)))]⟩
def WinHalf_13_X2 : Tm := ⟨[.ro 3 1 [.int .i64], .cells 104 [.int .i64, .int .i64, .int .i64, .int .i64, .ptr 2 0, .int .u64, .bool, .int .u64, .bool, .bool, .int .i64], .cells 100 [.bool, .int .i64, .int .i64, .int .i64]], [(6, .w (.at (.ptr 1 0))), (0, .w (.at (.int .i64))), (1, .w (.at (.all 0 1))), (10, .w (.at (.int .u64)))]⟩
def WinHalf_13_X : Exits := [(2, (WinHalf_13_X2, []))]
def WinHalf_13_R : Tm := ⟨[.ro 3 1 [.int .i64]], [(4, .w (.at (.bool)))]⟩
def WinHalf_19_T : Tm := ⟨[.ro 3 1 [.int .i64], .cells 104 [.int .i64, .int .i64, .int .i64, .int .i64, .ptr 2 0, .int .u64, .bool, .int .u64, .bool, .bool, .int .i64], .cells 100 [.bool, .int .i64, .int .i64, .int .i64]], [(13, .w (.at (.int .i64))), (12, .w (.at (.int .i64))), (6, .w (.at (.ptr 1 0))), (0, .w (.at (.int .i64))), (1, .w (.at (.all 0 1))), (10, .w (.at (.int .u64)))]⟩
def WinHalf_19_X4 : Tm := ⟨[.ro 3 1 [.int .i64], .cells 104 [.int .i64, .int .i64, .int .i64, .int .i64, .ptr 2 0, .int .u64, .bool, .int .u64, .bool, .bool, .int .i64], .cells 100 [.bool, .int .i64, .int .i64, .int .i64]], [(12, .w (.at (.int .i64))), (6, .w (.at (.ptr 1 0))), (10, .w (.at (.int .u64))), (1, .w (.at (.all 0 1)))]⟩
def WinHalf_19_X : Exits := [(4, (WinHalf_19_X4, []))]
def WinHalf_19_R : Tm := ⟨[.ro 3 1 [.int .i64]], [(4, .w (.at (.bool)))]⟩
def WinHalf_28_T : Tm := ⟨[.ro 3 1 [.int .i64], .cells 104 [.int .i64, .int .i64, .int .i64, .int .i64, .ptr 2 0, .int .u64, .bool, .int .u64, .bool, .bool, .int .i64], .cells 100 [.bool, .int .i64, .int .i64, .int .i64]], [(6, .w (.at (.ptr 1 0))), (10, .w (.at (.int .u64))), (16, .w (.at (.int .i64)))]⟩
def WinHalf_28_X6 : Tm := ⟨[.ro 3 1 [.int .i64], .cells 104 [.int .i64, .int .i64, .int .i64, .int .i64, .ptr 2 0, .int .u64, .bool, .int .u64, .bool, .bool, .int .i64], .cells 100 [.bool, .int .i64, .int .i64, .int .i64]], [(16, .w (.at (.int .i64))), (6, .w (.at (.ptr 1 0))), (10, .w (.at (.int .u64)))]⟩
def WinHalf_28_X : Exits := [(6, (WinHalf_28_X6, []))]
def WinHalf_28_R : Tm := ⟨[], []⟩

def WinHalf_Λd (L7 : ({β : Type} → (Nat → List Leaf → Option β) → (List Leaf → Option β) → Nat → List Int → Int → Int → Int → Int → Int → Bool → Int → Bool → Bool → Int → Bool → Int → Int → Int → Int → Int → Option β)) (L13 : ({β : Type} → (Nat → List Leaf → Option β) → (List Leaf → Option β) → Nat → List Int → Int → Int → Int → Int → Int → Bool → Int → Bool → Bool → Int → Bool → Int → Int → Int → Int → Int → Int → Option β)) (L19 : ({β : Type} → (Nat → List Leaf → Option β) → (List Leaf → Option β) → Nat → List Int → Int → Int → Int → Int → Int → Bool → Int → Bool → Bool → Int → Bool → Int → Int → Int → Int → Int → Int → Int → Option β)) (L28 : ({β : Type} → (Nat → List Leaf → Option β) → (List Leaf → Option β) → Nat → List Int → Int → Int → Int → Int → Int → Bool → Int → Bool → Bool → Int → Bool → Int → Int → Int → Int → Int → Option β)) : Loops := ⟨fun b fr H kx kr => bif Nat.beq (rid b) 7 then loopE 1 WinHalf_7_T [] WinHalf_7_X WinHalf_7_R (WinHalf_7_F @L7 top) fr H kx kr else bif Nat.beq (rid b) 13 then loopE 1 WinHalf_13_T [] WinHalf_13_X WinHalf_13_R (WinHalf_13_F @L13 top) fr H kx kr else bif Nat.beq (rid b) 19 then loopE 1 WinHalf_19_T [] WinHalf_19_X WinHalf_19_R (WinHalf_19_F @L19 top) fr H kx kr else bif Nat.beq (rid b) 28 then loopE 1 WinHalf_28_T [] WinHalf_28_X WinHalf_28_R (WinHalf_28_F @L28 top) fr H kx kr else none⟩
def WinHalf_Λ : Loops := WinHalf_Λd @WinHalf_7_L @WinHalf_13_L @WinHalf_19_L @WinHalf_28_L
theorem WinHalf_7_e (L7 : ({β : Type} → (Nat → List Leaf → Option β) → (List Leaf → Option β) → Nat → List Int → Int → Int → Int → Int → Int → Bool → Int → Bool → Bool → Int → Bool → Int → Int → Int → Int → Int → Option β)) (L13 : ({β : Type} → (Nat → List Leaf → Option β) → (List Leaf → Option β) → Nat → List Int → Int → Int → Int → Int → Int → Bool → Int → Bool → Bool → Int → Bool → Int → Int → Int → Int → Int → Int → Option β)) (L19 : ({β : Type} → (Nat → List Leaf → Option β) → (List Leaf → Option β) → Nat → List Int → Int → Int → Int → Int → Int → Bool → Int → Bool → Bool → Int → Bool → Int → Int → Int → Int → Int → Int → Int → Option β)) (L28 : ({β : Type} → (Nat → List Leaf → Option β) → (List Leaf → Option β) → Nat → List Int → Int → Int → Int → Int → Int → Bool → Int → Bool → Bool → Int → Bool → Int → Int → Int → Int → Int → Option β)) {α : Type} (kx : Nat → List Leaf → Option α) (kr : List Leaf → Option α) (again : List Int → Int → Int → Int → Int → Int → Bool → Int → Bool → Bool → Int → Bool → Int → Int → Int → Int → Int → Option α) (lost : List Int) (w_cwnd : Int) (w_slow : Int) (w_pipe : Int) (w_count : Int) (w_halved_n : Int) (w_halved_is : Bool) (w_last_n : Int) (w_last_is : Bool) (w_runs : Bool) (w_due : Int) (w_rtt_any : Bool) (w_rtt_smooth : Int) (w_rtt_spread : Int) (w_rtt_rto : Int) (i : Int) (n2 : Int) : WinHalf_7_B  kx kr again lost w_cwnd w_slow w_pipe w_count w_halved_n w_halved_is w_last_n w_last_is w_runs w_due w_rtt_any w_rtt_smooth w_rtt_spread w_rtt_rto i n2 = loopB G29 (WinHalf_Λd @L7 @L13 @L19 @L28) false tab Go.Proofs.Tryz.f13.ntmps 1 WinHalf_7_T [] WinHalf_7_X WinHalf_7_R (bodyAt (fb Go.Proofs.Tryz.f13) 0) (fun ls => un_li ls fun lost rr => un_i rr fun w_cwnd rr => un_i rr fun w_slow rr => un_i rr fun w_pipe rr => un_i rr fun w_count rr => un_i rr fun w_halved_n rr => un_b rr fun w_halved_is rr => un_i rr fun w_last_n rr => un_b rr fun w_last_is rr => un_b rr fun w_runs rr => un_i rr fun w_due rr => un_b rr fun w_rtt_any rr => un_i rr fun w_rtt_smooth rr => un_i rr fun w_rtt_spread rr => un_i rr fun w_rtt_rto rr => un_i rr fun i rr => un_i rr fun n2 rr => un_nil rr (again lost w_cwnd w_slow w_pipe w_count w_halved_n w_halved_is w_last_n w_last_is w_runs w_due w_rtt_any w_rtt_smooth w_rtt_spread w_rtt_rto i n2)) kx kr (instFr WinHalf_7_T [.li lost, .i w_cwnd, .i w_slow, .i w_pipe, .i w_count, .i w_halved_n, .b w_halved_is, .i w_last_n, .b w_last_is, .b w_runs, .i w_due, .b w_rtt_any, .i w_rtt_smooth, .i w_rtt_spread, .i w_rtt_rto, .i i, .i n2]) (instH WinHalf_7_T [.li lost, .i w_cwnd, .i w_slow, .i w_pipe, .i w_count, .i w_halved_n, .b w_halved_is, .i w_last_n, .b w_last_is, .b w_runs, .i w_due, .b w_rtt_any, .i w_rtt_smooth, .i w_rtt_spread, .i w_rtt_rto, .i i, .i n2]) := by kernel_rfl
theorem WinHalf_13_e (L7 : ({β : Type} → (Nat → List Leaf → Option β) → (List Leaf → Option β) → Nat → List Int → Int → Int → Int → Int → Int → Bool → Int → Bool → Bool → Int → Bool → Int → Int → Int → Int → Int → Option β)) (L13 : ({β : Type} → (Nat → List Leaf → Option β) → (List Leaf → Option β) → Nat → List Int → Int → Int → Int → Int → Int → Bool → Int → Bool → Bool → Int → Bool → Int → Int → Int → Int → Int → Int → Option β)) (L19 : ({β : Type} → (Nat → List Leaf → Option β) → (List Leaf → Option β) → Nat → List Int → Int → Int → Int → Int → Int → Bool → Int → Bool → Bool → Int → Bool → Int → Int → Int → Int → Int → Int → Int → Option β)) (L28 : ({β : Type} → (Nat → List Leaf → Option β) → (List Leaf → Option β) → Nat → List Int → Int → Int → Int → Int → Int → Bool → Int → Bool → Bool → Int → Bool → Int → Int → Int → Int → Int → Option β)) {α : Type} (kx : Nat → List Leaf → Option α) (kr : List Leaf → Option α) (again : List Int → Int → Int → Int → Int → Int → Bool → Int → Bool → Bool → Int → Bool → Int → Int → Int → Int → Int → Int → Option α) (lost : List Int) (w_cwnd : Int) (w_slow : Int) (w_pipe : Int) (w_count : Int) (w_halved_n : Int) (w_halved_is : Bool) (w_last_n : Int) (w_last_is : Bool) (w_runs : Bool) (w_due : Int) (w_rtt_any : Bool) (w_rtt_smooth : Int) (w_rtt_spread : Int) (w_rtt_rto : Int) (i : Int) (top2 : Int) (n2 : Int) : WinHalf_13_B  kx kr again lost w_cwnd w_slow w_pipe w_count w_halved_n w_halved_is w_last_n w_last_is w_runs w_due w_rtt_any w_rtt_smooth w_rtt_spread w_rtt_rto i top2 n2 = loopB G29 (WinHalf_Λd @L7 @L13 @L19 @L28) false tab Go.Proofs.Tryz.f13.ntmps 1 WinHalf_13_T [] WinHalf_13_X WinHalf_13_R (bodyAt (fb Go.Proofs.Tryz.f13) 1) (fun ls => un_li ls fun lost rr => un_i rr fun w_cwnd rr => un_i rr fun w_slow rr => un_i rr fun w_pipe rr => un_i rr fun w_count rr => un_i rr fun w_halved_n rr => un_b rr fun w_halved_is rr => un_i rr fun w_last_n rr => un_b rr fun w_last_is rr => un_b rr fun w_runs rr => un_i rr fun w_due rr => un_b rr fun w_rtt_any rr => un_i rr fun w_rtt_smooth rr => un_i rr fun w_rtt_spread rr => un_i rr fun w_rtt_rto rr => un_i rr fun i rr => un_i rr fun top2 rr => un_i rr fun n2 rr => un_nil rr (again lost w_cwnd w_slow w_pipe w_count w_halved_n w_halved_is w_last_n w_last_is w_runs w_due w_rtt_any w_rtt_smooth w_rtt_spread w_rtt_rto i top2 n2)) kx kr (instFr WinHalf_13_T [.li lost, .i w_cwnd, .i w_slow, .i w_pipe, .i w_count, .i w_halved_n, .b w_halved_is, .i w_last_n, .b w_last_is, .b w_runs, .i w_due, .b w_rtt_any, .i w_rtt_smooth, .i w_rtt_spread, .i w_rtt_rto, .i i, .i top2, .i n2]) (instH WinHalf_13_T [.li lost, .i w_cwnd, .i w_slow, .i w_pipe, .i w_count, .i w_halved_n, .b w_halved_is, .i w_last_n, .b w_last_is, .b w_runs, .i w_due, .b w_rtt_any, .i w_rtt_smooth, .i w_rtt_spread, .i w_rtt_rto, .i i, .i top2, .i n2]) := by kernel_rfl
theorem WinHalf_19_e (L7 : ({β : Type} → (Nat → List Leaf → Option β) → (List Leaf → Option β) → Nat → List Int → Int → Int → Int → Int → Int → Bool → Int → Bool → Bool → Int → Bool → Int → Int → Int → Int → Int → Option β)) (L13 : ({β : Type} → (Nat → List Leaf → Option β) → (List Leaf → Option β) → Nat → List Int → Int → Int → Int → Int → Int → Bool → Int → Bool → Bool → Int → Bool → Int → Int → Int → Int → Int → Int → Option β)) (L19 : ({β : Type} → (Nat → List Leaf → Option β) → (List Leaf → Option β) → Nat → List Int → Int → Int → Int → Int → Int → Bool → Int → Bool → Bool → Int → Bool → Int → Int → Int → Int → Int → Int → Int → Option β)) (L28 : ({β : Type} → (Nat → List Leaf → Option β) → (List Leaf → Option β) → Nat → List Int → Int → Int → Int → Int → Int → Bool → Int → Bool → Bool → Int → Bool → Int → Int → Int → Int → Int → Option β)) {α : Type} (kx : Nat → List Leaf → Option α) (kr : List Leaf → Option α) (again : List Int → Int → Int → Int → Int → Int → Bool → Int → Bool → Bool → Int → Bool → Int → Int → Int → Int → Int → Int → Int → Option α) (lost : List Int) (w_cwnd : Int) (w_slow : Int) (w_pipe : Int) (w_count : Int) (w_halved_n : Int) (w_halved_is : Bool) (w_last_n : Int) (w_last_is : Bool) (w_runs : Bool) (w_due : Int) (w_rtt_any : Bool) (w_rtt_smooth : Int) (w_rtt_spread : Int) (w_rtt_rto : Int) (i : Int) (was : Int) (n2 : Int) (top2 : Int) : WinHalf_19_B  kx kr again lost w_cwnd w_slow w_pipe w_count w_halved_n w_halved_is w_last_n w_last_is w_runs w_due w_rtt_any w_rtt_smooth w_rtt_spread w_rtt_rto i was n2 top2 = loopB G29 (WinHalf_Λd @L7 @L13 @L19 @L28) false tab Go.Proofs.Tryz.f13.ntmps 1 WinHalf_19_T [] WinHalf_19_X WinHalf_19_R (bodyAt (fb Go.Proofs.Tryz.f13) 2) (fun ls => un_li ls fun lost rr => un_i rr fun w_cwnd rr => un_i rr fun w_slow rr => un_i rr fun w_pipe rr => un_i rr fun w_count rr => un_i rr fun w_halved_n rr => un_b rr fun w_halved_is rr => un_i rr fun w_last_n rr => un_b rr fun w_last_is rr => un_b rr fun w_runs rr => un_i rr fun w_due rr => un_b rr fun w_rtt_any rr => un_i rr fun w_rtt_smooth rr => un_i rr fun w_rtt_spread rr => un_i rr fun w_rtt_rto rr => un_i rr fun i rr => un_i rr fun was rr => un_i rr fun n2 rr => un_i rr fun top2 rr => un_nil rr (again lost w_cwnd w_slow w_pipe w_count w_halved_n w_halved_is w_last_n w_last_is w_runs w_due w_rtt_any w_rtt_smooth w_rtt_spread w_rtt_rto i was n2 top2)) kx kr (instFr WinHalf_19_T [.li lost, .i w_cwnd, .i w_slow, .i w_pipe, .i w_count, .i w_halved_n, .b w_halved_is, .i w_last_n, .b w_last_is, .b w_runs, .i w_due, .b w_rtt_any, .i w_rtt_smooth, .i w_rtt_spread, .i w_rtt_rto, .i i, .i was, .i n2, .i top2]) (instH WinHalf_19_T [.li lost, .i w_cwnd, .i w_slow, .i w_pipe, .i w_count, .i w_halved_n, .b w_halved_is, .i w_last_n, .b w_last_is, .b w_runs, .i w_due, .b w_rtt_any, .i w_rtt_smooth, .i w_rtt_spread, .i w_rtt_rto, .i i, .i was, .i n2, .i top2]) := by kernel_rfl
theorem WinHalf_28_e (L7 : ({β : Type} → (Nat → List Leaf → Option β) → (List Leaf → Option β) → Nat → List Int → Int → Int → Int → Int → Int → Bool → Int → Bool → Bool → Int → Bool → Int → Int → Int → Int → Int → Option β)) (L13 : ({β : Type} → (Nat → List Leaf → Option β) → (List Leaf → Option β) → Nat → List Int → Int → Int → Int → Int → Int → Bool → Int → Bool → Bool → Int → Bool → Int → Int → Int → Int → Int → Int → Option β)) (L19 : ({β : Type} → (Nat → List Leaf → Option β) → (List Leaf → Option β) → Nat → List Int → Int → Int → Int → Int → Int → Bool → Int → Bool → Bool → Int → Bool → Int → Int → Int → Int → Int → Int → Int → Option β)) (L28 : ({β : Type} → (Nat → List Leaf → Option β) → (List Leaf → Option β) → Nat → List Int → Int → Int → Int → Int → Int → Bool → Int → Bool → Bool → Int → Bool → Int → Int → Int → Int → Int → Option β)) {α : Type} (kx : Nat → List Leaf → Option α) (kr : List Leaf → Option α) (again : List Int → Int → Int → Int → Int → Int → Bool → Int → Bool → Bool → Int → Bool → Int → Int → Int → Int → Int → Option α) (lost : List Int) (w_cwnd : Int) (w_slow : Int) (w_pipe : Int) (w_count : Int) (w_halved_n : Int) (w_halved_is : Bool) (w_last_n : Int) (w_last_is : Bool) (w_runs : Bool) (w_due : Int) (w_rtt_any : Bool) (w_rtt_smooth : Int) (w_rtt_spread : Int) (w_rtt_rto : Int) (top2 : Int) (half : Int) : WinHalf_28_B  kx kr again lost w_cwnd w_slow w_pipe w_count w_halved_n w_halved_is w_last_n w_last_is w_runs w_due w_rtt_any w_rtt_smooth w_rtt_spread w_rtt_rto top2 half = loopB G29 (WinHalf_Λd @L7 @L13 @L19 @L28) false tab Go.Proofs.Tryz.f13.ntmps 1 WinHalf_28_T [] WinHalf_28_X WinHalf_28_R (bodyAt (fb Go.Proofs.Tryz.f13) 3) (fun ls => un_li ls fun lost rr => un_i rr fun w_cwnd rr => un_i rr fun w_slow rr => un_i rr fun w_pipe rr => un_i rr fun w_count rr => un_i rr fun w_halved_n rr => un_b rr fun w_halved_is rr => un_i rr fun w_last_n rr => un_b rr fun w_last_is rr => un_b rr fun w_runs rr => un_i rr fun w_due rr => un_b rr fun w_rtt_any rr => un_i rr fun w_rtt_smooth rr => un_i rr fun w_rtt_spread rr => un_i rr fun w_rtt_rto rr => un_i rr fun top2 rr => un_i rr fun half rr => un_nil rr (again lost w_cwnd w_slow w_pipe w_count w_halved_n w_halved_is w_last_n w_last_is w_runs w_due w_rtt_any w_rtt_smooth w_rtt_spread w_rtt_rto top2 half)) kx kr (instFr WinHalf_28_T [.li lost, .i w_cwnd, .i w_slow, .i w_pipe, .i w_count, .i w_halved_n, .b w_halved_is, .i w_last_n, .b w_last_is, .b w_runs, .i w_due, .b w_rtt_any, .i w_rtt_smooth, .i w_rtt_spread, .i w_rtt_rto, .i top2, .i half]) (instH WinHalf_28_T [.li lost, .i w_cwnd, .i w_slow, .i w_pipe, .i w_count, .i w_halved_n, .b w_halved_is, .i w_last_n, .b w_last_is, .b w_runs, .i w_due, .b w_rtt_any, .i w_rtt_smooth, .i w_rtt_spread, .i w_rtt_rto, .i top2, .i half]) := by kernel_rfl
theorem WinHalf_28_lok (E : Nat → Prop) (w0 ws : World) (ρ0 : List Pl) (hk : ρ0.length = 1) : LOk Go.Proofs.Tryz.prog 13 Go.Proofs.Tryz.f13 false E w0 ws Go.Proofs.Tryz.f13.ntmps ρ0 WinHalf_Λ (bodyAt (fb Go.Proofs.Tryz.f13) 3) := by
  refine lok mixed tab_ok g29 Go.Proofs.Tryz.func13 hk (T := WinHalf_28_T) (rt := WinHalf_28_R) (cuts := []) (ex := WinHalf_28_X) (top := top) (F := WinHalf_28_F @WinHalf_28_L) (fun fr H kx kr => by kernel_rfl) ?_ ?_ ?_
  · intro α ls' kx' kr' r' h'
    unfold WinHalf_28_F at h'
    obtain ⟨lost, l'1, rfl, h'1⟩ := un_li_some.1 h'
    obtain ⟨w_cwnd, l'2, rfl, h'2⟩ := un_i_some.1 h'1
    obtain ⟨w_slow, l'3, rfl, h'3⟩ := un_i_some.1 h'2
    obtain ⟨w_pipe, l'4, rfl, h'4⟩ := un_i_some.1 h'3
    obtain ⟨w_count, l'5, rfl, h'5⟩ := un_i_some.1 h'4
    obtain ⟨w_halved_n, l'6, rfl, h'6⟩ := un_i_some.1 h'5
    obtain ⟨w_halved_is, l'7, rfl, h'7⟩ := un_b_some.1 h'6
    obtain ⟨w_last_n, l'8, rfl, h'8⟩ := un_i_some.1 h'7
    obtain ⟨w_last_is, l'9, rfl, h'9⟩ := un_b_some.1 h'8
    obtain ⟨w_runs, l'10, rfl, h'10⟩ := un_b_some.1 h'9
    obtain ⟨w_due, l'11, rfl, h'11⟩ := un_i_some.1 h'10
    obtain ⟨w_rtt_any, l'12, rfl, h'12⟩ := un_b_some.1 h'11
    obtain ⟨w_rtt_smooth, l'13, rfl, h'13⟩ := un_i_some.1 h'12
    obtain ⟨w_rtt_spread, l'14, rfl, h'14⟩ := un_i_some.1 h'13
    obtain ⟨w_rtt_rto, l'15, rfl, h'15⟩ := un_i_some.1 h'14
    obtain ⟨top2, l'16, rfl, h'16⟩ := un_i_some.1 h'15
    obtain ⟨half, l'17, rfl, h'17⟩ := un_i_some.1 h'16
    obtain ⟨rfl, h'Z⟩ := un_nil_some.1 h'17
    cases h'Z
  · intro α n' ls' kx' kr' r' h'
    unfold WinHalf_28_F at h'
    obtain ⟨lost, l'1, rfl, h'1⟩ := un_li_some.1 h'
    obtain ⟨w_cwnd, l'2, rfl, h'2⟩ := un_i_some.1 h'1
    obtain ⟨w_slow, l'3, rfl, h'3⟩ := un_i_some.1 h'2
    obtain ⟨w_pipe, l'4, rfl, h'4⟩ := un_i_some.1 h'3
    obtain ⟨w_count, l'5, rfl, h'5⟩ := un_i_some.1 h'4
    obtain ⟨w_halved_n, l'6, rfl, h'6⟩ := un_i_some.1 h'5
    obtain ⟨w_halved_is, l'7, rfl, h'7⟩ := un_b_some.1 h'6
    obtain ⟨w_last_n, l'8, rfl, h'8⟩ := un_i_some.1 h'7
    obtain ⟨w_last_is, l'9, rfl, h'9⟩ := un_b_some.1 h'8
    obtain ⟨w_runs, l'10, rfl, h'10⟩ := un_b_some.1 h'9
    obtain ⟨w_due, l'11, rfl, h'11⟩ := un_i_some.1 h'10
    obtain ⟨w_rtt_any, l'12, rfl, h'12⟩ := un_b_some.1 h'11
    obtain ⟨w_rtt_smooth, l'13, rfl, h'13⟩ := un_i_some.1 h'12
    obtain ⟨w_rtt_spread, l'14, rfl, h'14⟩ := un_i_some.1 h'13
    obtain ⟨w_rtt_rto, l'15, rfl, h'15⟩ := un_i_some.1 h'14
    obtain ⟨top2, l'16, rfl, h'16⟩ := un_i_some.1 h'15
    obtain ⟨half, l'17, rfl, h'17⟩ := un_i_some.1 h'16
    obtain ⟨rfl, h'Z⟩ := un_nil_some.1 h'17
    exact (WinHalf_28_e @WinHalf_7_L @WinHalf_13_L @WinHalf_19_L @WinHalf_28_L kx' kr' (WinHalf_28_L kx' kr' n') lost w_cwnd w_slow w_pipe w_count w_halved_n w_halved_is w_last_n w_last_is w_runs w_due w_rtt_any w_rtt_smooth w_rtt_spread w_rtt_rto top2 half).symm.trans h'Z
  · intro b' hb
    rw [show loopsOf (bodyAt (fb Go.Proofs.Tryz.f13) 3) = [] by kernel_rfl] at hb
    cases hb
theorem WinHalf_19_lok (E : Nat → Prop) (w0 ws : World) (ρ0 : List Pl) (hk : ρ0.length = 1) : LOk Go.Proofs.Tryz.prog 13 Go.Proofs.Tryz.f13 false E w0 ws Go.Proofs.Tryz.f13.ntmps ρ0 WinHalf_Λ (bodyAt (fb Go.Proofs.Tryz.f13) 2) := by
  refine lok mixed tab_ok g29 Go.Proofs.Tryz.func13 hk (T := WinHalf_19_T) (rt := WinHalf_19_R) (cuts := []) (ex := WinHalf_19_X) (top := top) (F := WinHalf_19_F @WinHalf_19_L) (fun fr H kx kr => by kernel_rfl) ?_ ?_ ?_
  · intro α ls' kx' kr' r' h'
    unfold WinHalf_19_F at h'
    obtain ⟨lost, l'1, rfl, h'1⟩ := un_li_some.1 h'
    obtain ⟨w_cwnd, l'2, rfl, h'2⟩ := un_i_some.1 h'1
    obtain ⟨w_slow, l'3, rfl, h'3⟩ := un_i_some.1 h'2
    obtain ⟨w_pipe, l'4, rfl, h'4⟩ := un_i_some.1 h'3
    obtain ⟨w_count, l'5, rfl, h'5⟩ := un_i_some.1 h'4
    obtain ⟨w_halved_n, l'6, rfl, h'6⟩ := un_i_some.1 h'5
    obtain ⟨w_halved_is, l'7, rfl, h'7⟩ := un_b_some.1 h'6
    obtain ⟨w_last_n, l'8, rfl, h'8⟩ := un_i_some.1 h'7
    obtain ⟨w_last_is, l'9, rfl, h'9⟩ := un_b_some.1 h'8
    obtain ⟨w_runs, l'10, rfl, h'10⟩ := un_b_some.1 h'9
    obtain ⟨w_due, l'11, rfl, h'11⟩ := un_i_some.1 h'10
    obtain ⟨w_rtt_any, l'12, rfl, h'12⟩ := un_b_some.1 h'11
    obtain ⟨w_rtt_smooth, l'13, rfl, h'13⟩ := un_i_some.1 h'12
    obtain ⟨w_rtt_spread, l'14, rfl, h'14⟩ := un_i_some.1 h'13
    obtain ⟨w_rtt_rto, l'15, rfl, h'15⟩ := un_i_some.1 h'14
    obtain ⟨i, l'16, rfl, h'16⟩ := un_i_some.1 h'15
    obtain ⟨was, l'17, rfl, h'17⟩ := un_i_some.1 h'16
    obtain ⟨n2, l'18, rfl, h'18⟩ := un_i_some.1 h'17
    obtain ⟨top2, l'19, rfl, h'19⟩ := un_i_some.1 h'18
    obtain ⟨rfl, h'Z⟩ := un_nil_some.1 h'19
    cases h'Z
  · intro α n' ls' kx' kr' r' h'
    unfold WinHalf_19_F at h'
    obtain ⟨lost, l'1, rfl, h'1⟩ := un_li_some.1 h'
    obtain ⟨w_cwnd, l'2, rfl, h'2⟩ := un_i_some.1 h'1
    obtain ⟨w_slow, l'3, rfl, h'3⟩ := un_i_some.1 h'2
    obtain ⟨w_pipe, l'4, rfl, h'4⟩ := un_i_some.1 h'3
    obtain ⟨w_count, l'5, rfl, h'5⟩ := un_i_some.1 h'4
    obtain ⟨w_halved_n, l'6, rfl, h'6⟩ := un_i_some.1 h'5
    obtain ⟨w_halved_is, l'7, rfl, h'7⟩ := un_b_some.1 h'6
    obtain ⟨w_last_n, l'8, rfl, h'8⟩ := un_i_some.1 h'7
    obtain ⟨w_last_is, l'9, rfl, h'9⟩ := un_b_some.1 h'8
    obtain ⟨w_runs, l'10, rfl, h'10⟩ := un_b_some.1 h'9
    obtain ⟨w_due, l'11, rfl, h'11⟩ := un_i_some.1 h'10
    obtain ⟨w_rtt_any, l'12, rfl, h'12⟩ := un_b_some.1 h'11
    obtain ⟨w_rtt_smooth, l'13, rfl, h'13⟩ := un_i_some.1 h'12
    obtain ⟨w_rtt_spread, l'14, rfl, h'14⟩ := un_i_some.1 h'13
    obtain ⟨w_rtt_rto, l'15, rfl, h'15⟩ := un_i_some.1 h'14
    obtain ⟨i, l'16, rfl, h'16⟩ := un_i_some.1 h'15
    obtain ⟨was, l'17, rfl, h'17⟩ := un_i_some.1 h'16
    obtain ⟨n2, l'18, rfl, h'18⟩ := un_i_some.1 h'17
    obtain ⟨top2, l'19, rfl, h'19⟩ := un_i_some.1 h'18
    obtain ⟨rfl, h'Z⟩ := un_nil_some.1 h'19
    exact (WinHalf_19_e @WinHalf_7_L @WinHalf_13_L @WinHalf_19_L @WinHalf_28_L kx' kr' (WinHalf_19_L kx' kr' n') lost w_cwnd w_slow w_pipe w_count w_halved_n w_halved_is w_last_n w_last_is w_runs w_due w_rtt_any w_rtt_smooth w_rtt_spread w_rtt_rto i was n2 top2).symm.trans h'Z
  · intro b' hb
    rw [show loopsOf (bodyAt (fb Go.Proofs.Tryz.f13) 2) = [] by kernel_rfl] at hb
    cases hb
theorem WinHalf_13_lok (E : Nat → Prop) (w0 ws : World) (ρ0 : List Pl) (hk : ρ0.length = 1) : LOk Go.Proofs.Tryz.prog 13 Go.Proofs.Tryz.f13 false E w0 ws Go.Proofs.Tryz.f13.ntmps ρ0 WinHalf_Λ (bodyAt (fb Go.Proofs.Tryz.f13) 1) := by
  refine lok mixed tab_ok g29 Go.Proofs.Tryz.func13 hk (T := WinHalf_13_T) (rt := WinHalf_13_R) (cuts := []) (ex := WinHalf_13_X) (top := top) (F := WinHalf_13_F @WinHalf_13_L) (fun fr H kx kr => by kernel_rfl) ?_ ?_ ?_
  · intro α ls' kx' kr' r' h'
    unfold WinHalf_13_F at h'
    obtain ⟨lost, l'1, rfl, h'1⟩ := un_li_some.1 h'
    obtain ⟨w_cwnd, l'2, rfl, h'2⟩ := un_i_some.1 h'1
    obtain ⟨w_slow, l'3, rfl, h'3⟩ := un_i_some.1 h'2
    obtain ⟨w_pipe, l'4, rfl, h'4⟩ := un_i_some.1 h'3
    obtain ⟨w_count, l'5, rfl, h'5⟩ := un_i_some.1 h'4
    obtain ⟨w_halved_n, l'6, rfl, h'6⟩ := un_i_some.1 h'5
    obtain ⟨w_halved_is, l'7, rfl, h'7⟩ := un_b_some.1 h'6
    obtain ⟨w_last_n, l'8, rfl, h'8⟩ := un_i_some.1 h'7
    obtain ⟨w_last_is, l'9, rfl, h'9⟩ := un_b_some.1 h'8
    obtain ⟨w_runs, l'10, rfl, h'10⟩ := un_b_some.1 h'9
    obtain ⟨w_due, l'11, rfl, h'11⟩ := un_i_some.1 h'10
    obtain ⟨w_rtt_any, l'12, rfl, h'12⟩ := un_b_some.1 h'11
    obtain ⟨w_rtt_smooth, l'13, rfl, h'13⟩ := un_i_some.1 h'12
    obtain ⟨w_rtt_spread, l'14, rfl, h'14⟩ := un_i_some.1 h'13
    obtain ⟨w_rtt_rto, l'15, rfl, h'15⟩ := un_i_some.1 h'14
    obtain ⟨i, l'16, rfl, h'16⟩ := un_i_some.1 h'15
    obtain ⟨top2, l'17, rfl, h'17⟩ := un_i_some.1 h'16
    obtain ⟨n2, l'18, rfl, h'18⟩ := un_i_some.1 h'17
    obtain ⟨rfl, h'Z⟩ := un_nil_some.1 h'18
    cases h'Z
  · intro α n' ls' kx' kr' r' h'
    unfold WinHalf_13_F at h'
    obtain ⟨lost, l'1, rfl, h'1⟩ := un_li_some.1 h'
    obtain ⟨w_cwnd, l'2, rfl, h'2⟩ := un_i_some.1 h'1
    obtain ⟨w_slow, l'3, rfl, h'3⟩ := un_i_some.1 h'2
    obtain ⟨w_pipe, l'4, rfl, h'4⟩ := un_i_some.1 h'3
    obtain ⟨w_count, l'5, rfl, h'5⟩ := un_i_some.1 h'4
    obtain ⟨w_halved_n, l'6, rfl, h'6⟩ := un_i_some.1 h'5
    obtain ⟨w_halved_is, l'7, rfl, h'7⟩ := un_b_some.1 h'6
    obtain ⟨w_last_n, l'8, rfl, h'8⟩ := un_i_some.1 h'7
    obtain ⟨w_last_is, l'9, rfl, h'9⟩ := un_b_some.1 h'8
    obtain ⟨w_runs, l'10, rfl, h'10⟩ := un_b_some.1 h'9
    obtain ⟨w_due, l'11, rfl, h'11⟩ := un_i_some.1 h'10
    obtain ⟨w_rtt_any, l'12, rfl, h'12⟩ := un_b_some.1 h'11
    obtain ⟨w_rtt_smooth, l'13, rfl, h'13⟩ := un_i_some.1 h'12
    obtain ⟨w_rtt_spread, l'14, rfl, h'14⟩ := un_i_some.1 h'13
    obtain ⟨w_rtt_rto, l'15, rfl, h'15⟩ := un_i_some.1 h'14
    obtain ⟨i, l'16, rfl, h'16⟩ := un_i_some.1 h'15
    obtain ⟨top2, l'17, rfl, h'17⟩ := un_i_some.1 h'16
    obtain ⟨n2, l'18, rfl, h'18⟩ := un_i_some.1 h'17
    obtain ⟨rfl, h'Z⟩ := un_nil_some.1 h'18
    exact (WinHalf_13_e @WinHalf_7_L @WinHalf_13_L @WinHalf_19_L @WinHalf_28_L kx' kr' (WinHalf_13_L kx' kr' n') lost w_cwnd w_slow w_pipe w_count w_halved_n w_halved_is w_last_n w_last_is w_runs w_due w_rtt_any w_rtt_smooth w_rtt_spread w_rtt_rto i top2 n2).symm.trans h'Z
  · intro b' hb
    rw [show loopsOf (bodyAt (fb Go.Proofs.Tryz.f13) 1) = [] by kernel_rfl] at hb
    cases hb
theorem WinHalf_7_lok (E : Nat → Prop) (w0 ws : World) (ρ0 : List Pl) (hk : ρ0.length = 1) : LOk Go.Proofs.Tryz.prog 13 Go.Proofs.Tryz.f13 false E w0 ws Go.Proofs.Tryz.f13.ntmps ρ0 WinHalf_Λ (bodyAt (fb Go.Proofs.Tryz.f13) 0) := by
  refine lok mixed tab_ok g29 Go.Proofs.Tryz.func13 hk (T := WinHalf_7_T) (rt := WinHalf_7_R) (cuts := []) (ex := WinHalf_7_X) (top := top) (F := WinHalf_7_F @WinHalf_7_L) (fun fr H kx kr => by kernel_rfl) ?_ ?_ ?_
  · intro α ls' kx' kr' r' h'
    unfold WinHalf_7_F at h'
    obtain ⟨lost, l'1, rfl, h'1⟩ := un_li_some.1 h'
    obtain ⟨w_cwnd, l'2, rfl, h'2⟩ := un_i_some.1 h'1
    obtain ⟨w_slow, l'3, rfl, h'3⟩ := un_i_some.1 h'2
    obtain ⟨w_pipe, l'4, rfl, h'4⟩ := un_i_some.1 h'3
    obtain ⟨w_count, l'5, rfl, h'5⟩ := un_i_some.1 h'4
    obtain ⟨w_halved_n, l'6, rfl, h'6⟩ := un_i_some.1 h'5
    obtain ⟨w_halved_is, l'7, rfl, h'7⟩ := un_b_some.1 h'6
    obtain ⟨w_last_n, l'8, rfl, h'8⟩ := un_i_some.1 h'7
    obtain ⟨w_last_is, l'9, rfl, h'9⟩ := un_b_some.1 h'8
    obtain ⟨w_runs, l'10, rfl, h'10⟩ := un_b_some.1 h'9
    obtain ⟨w_due, l'11, rfl, h'11⟩ := un_i_some.1 h'10
    obtain ⟨w_rtt_any, l'12, rfl, h'12⟩ := un_b_some.1 h'11
    obtain ⟨w_rtt_smooth, l'13, rfl, h'13⟩ := un_i_some.1 h'12
    obtain ⟨w_rtt_spread, l'14, rfl, h'14⟩ := un_i_some.1 h'13
    obtain ⟨w_rtt_rto, l'15, rfl, h'15⟩ := un_i_some.1 h'14
    obtain ⟨i, l'16, rfl, h'16⟩ := un_i_some.1 h'15
    obtain ⟨n2, l'17, rfl, h'17⟩ := un_i_some.1 h'16
    obtain ⟨rfl, h'Z⟩ := un_nil_some.1 h'17
    cases h'Z
  · intro α n' ls' kx' kr' r' h'
    unfold WinHalf_7_F at h'
    obtain ⟨lost, l'1, rfl, h'1⟩ := un_li_some.1 h'
    obtain ⟨w_cwnd, l'2, rfl, h'2⟩ := un_i_some.1 h'1
    obtain ⟨w_slow, l'3, rfl, h'3⟩ := un_i_some.1 h'2
    obtain ⟨w_pipe, l'4, rfl, h'4⟩ := un_i_some.1 h'3
    obtain ⟨w_count, l'5, rfl, h'5⟩ := un_i_some.1 h'4
    obtain ⟨w_halved_n, l'6, rfl, h'6⟩ := un_i_some.1 h'5
    obtain ⟨w_halved_is, l'7, rfl, h'7⟩ := un_b_some.1 h'6
    obtain ⟨w_last_n, l'8, rfl, h'8⟩ := un_i_some.1 h'7
    obtain ⟨w_last_is, l'9, rfl, h'9⟩ := un_b_some.1 h'8
    obtain ⟨w_runs, l'10, rfl, h'10⟩ := un_b_some.1 h'9
    obtain ⟨w_due, l'11, rfl, h'11⟩ := un_i_some.1 h'10
    obtain ⟨w_rtt_any, l'12, rfl, h'12⟩ := un_b_some.1 h'11
    obtain ⟨w_rtt_smooth, l'13, rfl, h'13⟩ := un_i_some.1 h'12
    obtain ⟨w_rtt_spread, l'14, rfl, h'14⟩ := un_i_some.1 h'13
    obtain ⟨w_rtt_rto, l'15, rfl, h'15⟩ := un_i_some.1 h'14
    obtain ⟨i, l'16, rfl, h'16⟩ := un_i_some.1 h'15
    obtain ⟨n2, l'17, rfl, h'17⟩ := un_i_some.1 h'16
    obtain ⟨rfl, h'Z⟩ := un_nil_some.1 h'17
    exact (WinHalf_7_e @WinHalf_7_L @WinHalf_13_L @WinHalf_19_L @WinHalf_28_L kx' kr' (WinHalf_7_L kx' kr' n') lost w_cwnd w_slow w_pipe w_count w_halved_n w_halved_is w_last_n w_last_is w_runs w_due w_rtt_any w_rtt_smooth w_rtt_spread w_rtt_rto i n2).symm.trans h'Z
  · intro b' hb
    rw [show loopsOf (bodyAt (fb Go.Proofs.Tryz.f13) 0) = [] by kernel_rfl] at hb
    cases hb
theorem WinHalf_ed (L7 : ({β : Type} → (Nat → List Leaf → Option β) → (List Leaf → Option β) → Nat → List Int → Int → Int → Int → Int → Int → Bool → Int → Bool → Bool → Int → Bool → Int → Int → Int → Int → Int → Option β)) (L13 : ({β : Type} → (Nat → List Leaf → Option β) → (List Leaf → Option β) → Nat → List Int → Int → Int → Int → Int → Int → Bool → Int → Bool → Bool → Int → Bool → Int → Int → Int → Int → Int → Int → Option β)) (L19 : ({β : Type} → (Nat → List Leaf → Option β) → (List Leaf → Option β) → Nat → List Int → Int → Int → Int → Int → Int → Bool → Int → Bool → Bool → Int → Bool → Int → Int → Int → Int → Int → Int → Int → Option β)) (L28 : ({β : Type} → (Nat → List Leaf → Option β) → (List Leaf → Option β) → Nat → List Int → Int → Int → Int → Int → Int → Bool → Int → Bool → Bool → Int → Bool → Int → Int → Int → Int → Int → Option β)) (lost : List Int) (n2 : Int) : WinHalf_d @L7 @L13 @L19 @L28 lost n2 = den G29 (WinHalf_Λd @L7 @L13 @L19 @L28) false tab Go.Proofs.Tryz.f13.ntmps (fun fr H => finish tab 1 Go.Proofs.Tryz.f13.results.toList WinHalf_out [] fr H some) (fun _ _ _ => none) (fun fr H => finish tab 1 Go.Proofs.Tryz.f13.results.toList WinHalf_out [] fr H some) 10000 [.code (fb Go.Proofs.Tryz.f13)] (instFr WinHalf_in [.li lost, .i n2]) (instH WinHalf_in [.li lost, .i n2]) := by kernel_rfl
theorem WinHalf_e (lost : List Int) (n2 : Int) : WinHalf lost n2 = den G29 WinHalf_Λ false tab Go.Proofs.Tryz.f13.ntmps (fun fr H => finish tab 1 Go.Proofs.Tryz.f13.results.toList WinHalf_out [] fr H some) (fun _ _ _ => none) (fun fr H => finish tab 1 Go.Proofs.Tryz.f13.results.toList WinHalf_out [] fr H some) 10000 [.code (fb Go.Proofs.Tryz.f13)] (instFr WinHalf_in [.li lost, .i n2]) (instH WinHalf_in [.li lost, .i n2]) := WinHalf_ed @WinHalf_7_L @WinHalf_13_L @WinHalf_19_L @WinHalf_28_L lost n2
def WinHalf_S : List Leaf → Option (List Leaf) := fun ls => un_li ls fun lost rr => un_i rr fun n2 rr => un_nil rr (WinHalf lost n2)
def WinHalf_SC : Tld := fun ls k' => un_li ls fun lost rr => un_i rr fun n2 rr => un_nil rr (out (WinHalf lost n2) k')
theorem WinHalf_Se (lost : List Int) (n2 : Int) : WinHalf_S [.li lost, .i n2] = WinHalf lost n2 := by
  unfold WinHalf_S
  simp only [un_i_ev, un_b_ev, un_s_ev, un_li_ev, un_lb_ev, un_ls_ev, un_nil_ev]
theorem WinHalf_says : Says WinHalf_SC WinHalf_S := by
  intro β ls' k' r' h'
  unfold WinHalf_SC at h'
  obtain ⟨lost, l'1, rfl, h'1⟩ := un_li_some.1 h'
  obtain ⟨n2, l'2, rfl, h'2⟩ := un_i_some.1 h'1
  obtain ⟨rfl, h'Z⟩ := un_nil_some.1 h'2
  obtain ⟨l', a', b'⟩ := out_some.1 h'Z
  exact ⟨l', (WinHalf_Se lost n2).trans a', b'⟩
theorem WinHalf_c : FnC Go.Proofs.Tryz.prog 13 false 2 1 WinHalf_in WinHalf_out WinHalf_S := by
  refine fn_ok (Λ := WinHalf_Λ) mixed tab_ok g29 Go.Proofs.Tryz.func13 (by kernel_rfl) (body := fb Go.Proofs.Tryz.f13) rfl (ts := Go.Proofs.Tryz.f13.results.toList) rfl (cuts := []) (by kernel_rfl) (Nat.le_of_ble_eq_true (by kernel_rfl)) (by kernel_rfl) (rt := .w (.at (.bool))) rfl ?_ ?_
  · intro ls' r' h'
    unfold WinHalf_S at h'
    obtain ⟨lost, l'1, rfl, h'1⟩ := un_li_some.1 h'
    obtain ⟨n2, l'2, rfl, h'2⟩ := un_i_some.1 h'1
    obtain ⟨rfl, h'Z⟩ := un_nil_some.1 h'2
    exact (WinHalf_e lost n2).symm.trans h'Z
  · intro E w0 ws ρ0 hk b hb
    rw [show loopsOf (fb Go.Proofs.Tryz.f13) = [(bodyAt (fb Go.Proofs.Tryz.f13) 0), (bodyAt (fb Go.Proofs.Tryz.f13) 1), (bodyAt (fb Go.Proofs.Tryz.f13) 2), (bodyAt (fb Go.Proofs.Tryz.f13) 3)] by kernel_rfl] at hb
    simp only [List.mem_cons, List.mem_nil_iff, or_false] at hb
    rcases hb with rfl | rfl | rfl | rfl
    · exact WinHalf_7_lok E w0 ws ρ0 hk
    · exact WinHalf_13_lok E w0 ws ρ0 hk
    · exact WinHalf_19_lok E w0 ws ρ0 hk
    · exact WinHalf_28_lok E w0 ws ρ0 hk
noncomputable def G30 : Env := G29.addE 13 2 WinHalf_in WinHalf_out WinHalf_SC
theorem g30 : EnvOk Go.Proofs.Tryz.prog G30 := EnvOk.addE g29 WinHalf_c WinHalf_says
end Go.Sx.T

