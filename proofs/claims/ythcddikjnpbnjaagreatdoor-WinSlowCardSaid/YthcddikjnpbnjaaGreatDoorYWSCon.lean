import Derived.Test.YthcddikjnpbnjaaGreatDoorYWSSpec
import Derived.Test.YthcddikjnpbnjaaGreatDoorYWinCon
import Derived.Test.YthcddikjnpbnjaaGreatDoorL6
set_option linter.all false
namespace Go.Sx.T
open Go Go.Sx Go.Proofs
set_option maxRecDepth 100000
noncomputable def fnsH : Fns := [(30, Go.Proofs.Tryz.f30)]
theorem fnsH_ok : FnsOk Go.Proofs.Tryz.prog fnsH := .cons Go.Proofs.Tryz.func30 (by kernel_rfl) <| .nil
noncomputable def G39 : Env := inlC fnsH tab G38 3
theorem g39 : EnvOk Go.Proofs.Tryz.prog G39 := EnvOk.inlC mixed tab_ok g38 fnsH_ok 3
noncomputable def G40 : Env := splitC 30 1 [0, 1, 2, 3, 4, 5] G39
theorem g40 : EnvOk Go.Proofs.Tryz.prog G40 := EnvOk.splitC g39 30 1 [0, 1, 2, 3, 4, 5]

-- ### WinSlow: function 7
def WinSlow_in : Tm := ⟨[.ro 3 1 [.int .i64]], [(0, .w (.at (.all 0 1)))]⟩
def WinSlow_out : Tm := ⟨[.dead], [(0, .w (.at (.bool)))]⟩
def WinSlow_11_T : Tm := ⟨[.ro 3 1 [.int .i64], .cells 113 [.int .i64, .int .i64, .int .i64, .int .i64, .ptr 2 0, .int .u64, .bool, .int .u64, .bool, .bool, .int .i64], .cells 130 [.bool, .int .i64, .int .i64, .int .i64]], [(9, .w (.at (.int .i64))), (5, .w (.at (.int .u64))), (6, .w (.at (.int .i64))), (4, .w (.at (.ptr 1 0))), (0, .w (.at (.all 0 1))), (23, .w (.at (.bool))), (22, .w (.at (.int .i64))), (7, .w (.at (.int .i64))), (8, .w (.at (.int .i64)))]⟩
def WinSlow_11_X2 : Tm := ⟨[.ro 3 1 [.int .i64], .cells 113 [.int .i64, .int .i64, .int .i64, .int .i64, .ptr 2 0, .int .u64, .bool, .int .u64, .bool, .bool, .int .i64], .cells 130 [.bool, .int .i64, .int .i64, .int .i64]], [(5, .w (.at (.int .u64))), (4, .w (.at (.ptr 1 0))), (0, .w (.at (.all 0 1))), (23, .w (.at (.bool))), (22, .w (.at (.int .i64))), (7, .w (.at (.int .i64))), (6, .w (.at (.int .i64))), (8, .w (.at (.int .i64)))]⟩
def WinSlow_11_X : Exits := [(2, (WinSlow_11_X2, []))]
def WinSlow_11_R : Tm := ⟨[.ro 3 1 [.int .i64]], [(2, .w (.at (.bool)))]⟩
def WinSlow_7_T : Tm := ⟨[.ro 3 1 [.int .i64], .cells 113 [.int .i64, .int .i64, .int .i64, .int .i64, .ptr 2 0, .int .u64, .bool, .int .u64, .bool, .bool, .int .i64], .cells 130 [.bool, .int .i64, .int .i64, .int .i64]], [(5, .w (.at (.int .u64))), (6, .w (.at (.int .i64))), (4, .w (.at (.ptr 1 0))), (7, .w (.at (.int .i64))), (0, .w (.at (.all 0 1)))]⟩
def WinSlow_7_X0 : Tm := ⟨[.ro 3 1 [.int .i64]], []⟩
def WinSlow_7_X : Exits := [(0, (WinSlow_7_X0, []))]
def WinSlow_7_R : Tm := ⟨[.ro 3 1 [.int .i64]], [(2, .w (.at (.bool)))]⟩

noncomputable def WinSlow_Λd (L11 : ({β : Type} → (Nat → List Leaf → Option β) → (List Leaf → Option β) → Nat → List Int → Int → Int → Int → Int → Int → Bool → Int → Bool → Bool → Int → Bool → Int → Int → Int → Int → Int → Int → Bool → Int → Int → Int → Option β)) (L7 : ({β : Type} → (Nat → List Leaf → Option β) → (List Leaf → Option β) → Nat → List Int → Int → Int → Int → Int → Int → Bool → Int → Bool → Bool → Int → Bool → Int → Int → Int → Int → Int → Int → Option β)) : Loops := ⟨fun b fr H kx kr => bif Nat.beq (rid b) 11 then loopE 1 WinSlow_11_T [] WinSlow_11_X WinSlow_11_R (WinSlow_11_F @L11 top) fr H kx kr else bif Nat.beq (rid b) 7 then loopE 1 WinSlow_7_T [] WinSlow_7_X WinSlow_7_R (WinSlow_7_F @L7 top) fr H kx kr else none⟩
noncomputable def WinSlow_Λ : Loops := WinSlow_Λd @WinSlow_11_L @WinSlow_7_L
theorem WinSlow_11_e (L11 : ({β : Type} → (Nat → List Leaf → Option β) → (List Leaf → Option β) → Nat → List Int → Int → Int → Int → Int → Int → Bool → Int → Bool → Bool → Int → Bool → Int → Int → Int → Int → Int → Int → Bool → Int → Int → Int → Option β)) (L7 : ({β : Type} → (Nat → List Leaf → Option β) → (List Leaf → Option β) → Nat → List Int → Int → Int → Int → Int → Int → Bool → Int → Bool → Bool → Int → Bool → Int → Int → Int → Int → Int → Int → Option β)) {α : Type} (kx : Nat → List Leaf → Option α) (kr : List Leaf → Option α) (again : List Int → Int → Int → Int → Int → Int → Bool → Int → Bool → Bool → Int → Bool → Int → Int → Int → Int → Int → Int → Bool → Int → Int → Int → Option α) (ns : List Int) (w_cwnd : Int) (w_slow : Int) (w_pipe : Int) (w_count : Int) (w_halved_n : Int) (w_halved_is : Bool) (w_last_n : Int) (w_last_is : Bool) (w_runs : Bool) (w_due : Int) (w_rtt_any : Bool) (w_rtt_smooth : Int) (w_rtt_spread : Int) (w_rtt_rto : Int) (j : Int) (n2 : Int) (sent : Int) (t23 : Bool) (t22 : Int) (i : Int) (k : Int) : WinSlow_11_B  kx kr again ns w_cwnd w_slow w_pipe w_count w_halved_n w_halved_is w_last_n w_last_is w_runs w_due w_rtt_any w_rtt_smooth w_rtt_spread w_rtt_rto j n2 sent t23 t22 i k = loopB G40 (WinSlow_Λd @L11 @L7) false tab Go.Proofs.Tryz.f7.ntmps 1 WinSlow_11_T [] WinSlow_11_X WinSlow_11_R (bodyAt (fb Go.Proofs.Tryz.f7) 1) (fun ls => un_li ls fun ns rr => un_i rr fun w_cwnd rr => un_i rr fun w_slow rr => un_i rr fun w_pipe rr => un_i rr fun w_count rr => un_i rr fun w_halved_n rr => un_b rr fun w_halved_is rr => un_i rr fun w_last_n rr => un_b rr fun w_last_is rr => un_b rr fun w_runs rr => un_i rr fun w_due rr => un_b rr fun w_rtt_any rr => un_i rr fun w_rtt_smooth rr => un_i rr fun w_rtt_spread rr => un_i rr fun w_rtt_rto rr => un_i rr fun j rr => un_i rr fun n2 rr => un_i rr fun sent rr => un_b rr fun t23 rr => un_i rr fun t22 rr => un_i rr fun i rr => un_i rr fun k rr => un_nil rr (again ns w_cwnd w_slow w_pipe w_count w_halved_n w_halved_is w_last_n w_last_is w_runs w_due w_rtt_any w_rtt_smooth w_rtt_spread w_rtt_rto j n2 sent t23 t22 i k)) kx kr (instFr WinSlow_11_T [.li ns, .i w_cwnd, .i w_slow, .i w_pipe, .i w_count, .i w_halved_n, .b w_halved_is, .i w_last_n, .b w_last_is, .b w_runs, .i w_due, .b w_rtt_any, .i w_rtt_smooth, .i w_rtt_spread, .i w_rtt_rto, .i j, .i n2, .i sent, .b t23, .i t22, .i i, .i k]) (instH WinSlow_11_T [.li ns, .i w_cwnd, .i w_slow, .i w_pipe, .i w_count, .i w_halved_n, .b w_halved_is, .i w_last_n, .b w_last_is, .b w_runs, .i w_due, .b w_rtt_any, .i w_rtt_smooth, .i w_rtt_spread, .i w_rtt_rto, .i j, .i n2, .i sent, .b t23, .i t22, .i i, .i k]) := by kernel_rfl
theorem WinSlow_7_e (L11 : ({β : Type} → (Nat → List Leaf → Option β) → (List Leaf → Option β) → Nat → List Int → Int → Int → Int → Int → Int → Bool → Int → Bool → Bool → Int → Bool → Int → Int → Int → Int → Int → Int → Bool → Int → Int → Int → Option β)) (L7 : ({β : Type} → (Nat → List Leaf → Option β) → (List Leaf → Option β) → Nat → List Int → Int → Int → Int → Int → Int → Bool → Int → Bool → Bool → Int → Bool → Int → Int → Int → Int → Int → Int → Option β)) {α : Type} (kx : Nat → List Leaf → Option α) (kr : List Leaf → Option α) (again : List Int → Int → Int → Int → Int → Int → Bool → Int → Bool → Bool → Int → Bool → Int → Int → Int → Int → Int → Int → Option α) (ns : List Int) (w_cwnd : Int) (w_slow : Int) (w_pipe : Int) (w_count : Int) (w_halved_n : Int) (w_halved_is : Bool) (w_last_n : Int) (w_last_is : Bool) (w_runs : Bool) (w_due : Int) (w_rtt_any : Bool) (w_rtt_smooth : Int) (w_rtt_spread : Int) (w_rtt_rto : Int) (n2 : Int) (sent : Int) (i : Int) : WinSlow_7_B @L11 kx kr again ns w_cwnd w_slow w_pipe w_count w_halved_n w_halved_is w_last_n w_last_is w_runs w_due w_rtt_any w_rtt_smooth w_rtt_spread w_rtt_rto n2 sent i = loopB G40 (WinSlow_Λd @L11 @L7) false tab Go.Proofs.Tryz.f7.ntmps 1 WinSlow_7_T [] WinSlow_7_X WinSlow_7_R (bodyAt (fb Go.Proofs.Tryz.f7) 0) (fun ls => un_li ls fun ns rr => un_i rr fun w_cwnd rr => un_i rr fun w_slow rr => un_i rr fun w_pipe rr => un_i rr fun w_count rr => un_i rr fun w_halved_n rr => un_b rr fun w_halved_is rr => un_i rr fun w_last_n rr => un_b rr fun w_last_is rr => un_b rr fun w_runs rr => un_i rr fun w_due rr => un_b rr fun w_rtt_any rr => un_i rr fun w_rtt_smooth rr => un_i rr fun w_rtt_spread rr => un_i rr fun w_rtt_rto rr => un_i rr fun n2 rr => un_i rr fun sent rr => un_i rr fun i rr => un_nil rr (again ns w_cwnd w_slow w_pipe w_count w_halved_n w_halved_is w_last_n w_last_is w_runs w_due w_rtt_any w_rtt_smooth w_rtt_spread w_rtt_rto n2 sent i)) kx kr (instFr WinSlow_7_T [.li ns, .i w_cwnd, .i w_slow, .i w_pipe, .i w_count, .i w_halved_n, .b w_halved_is, .i w_last_n, .b w_last_is, .b w_runs, .i w_due, .b w_rtt_any, .i w_rtt_smooth, .i w_rtt_spread, .i w_rtt_rto, .i n2, .i sent, .i i]) (instH WinSlow_7_T [.li ns, .i w_cwnd, .i w_slow, .i w_pipe, .i w_count, .i w_halved_n, .b w_halved_is, .i w_last_n, .b w_last_is, .b w_runs, .i w_due, .b w_rtt_any, .i w_rtt_smooth, .i w_rtt_spread, .i w_rtt_rto, .i n2, .i sent, .i i]) := by kernel_rfl
theorem WinSlow_11_lok (E : Nat → Prop) (w0 ws : World) (ρ0 : List Pl) (hk : ρ0.length = 1) : LOk Go.Proofs.Tryz.prog 7 Go.Proofs.Tryz.f7 false E w0 ws Go.Proofs.Tryz.f7.ntmps ρ0 WinSlow_Λ (bodyAt (fb Go.Proofs.Tryz.f7) 1) := by
  refine lok mixed tab_ok g40 Go.Proofs.Tryz.func7 hk (T := WinSlow_11_T) (rt := WinSlow_11_R) (cuts := []) (ex := WinSlow_11_X) (top := top) (F := WinSlow_11_F @WinSlow_11_L) (fun fr H kx kr => by kernel_rfl) ?_ ?_ ?_
  · intro α ls' kx' kr' r' h'
    unfold WinSlow_11_F at h'
    obtain ⟨ns, l'1, rfl, h'1⟩ := un_li_some.1 h'
    obtain ⟨w_cwnd, l'2, rfl, h'2⟩ := un_i_some.1 h'1
    obtain ⟨w_slow, l'3, rfl, h'3⟩ := un_i_some.1 h'2
    obtain ⟨w_pipe, l'4, rfl, h'4⟩ := un_i_some.1 h'3
    obtain ⟨w_count, l'5, rfl, h'5⟩ := un_i_some.1 h'4
    obtain ⟨w_halved_n, l'6, rfl, h'6⟩ := un_i_some.1 h'5
    obtain ⟨w_halved_is, l'7, rfl, h'7⟩ := un_b_some.1 h'6
    obtain ⟨w_last_n, l'8, rfl, h'8⟩ := un_i_some.1 h'7
    obtain ⟨w_last_is, l'9, rfl, h'9⟩ := un_b_some.1 h'8
    obtain ⟨w_runs, l'10, rfl, h'10⟩ := un_b_some.1 h'9
    obtain ⟨w_due, l'11, rfl, h'11⟩ := un_i_some.1 h'10
    obtain ⟨w_rtt_any, l'12, rfl, h'12⟩ := un_b_some.1 h'11
    obtain ⟨w_rtt_smooth, l'13, rfl, h'13⟩ := un_i_some.1 h'12
    obtain ⟨w_rtt_spread, l'14, rfl, h'14⟩ := un_i_some.1 h'13
    obtain ⟨w_rtt_rto, l'15, rfl, h'15⟩ := un_i_some.1 h'14
    obtain ⟨j, l'16, rfl, h'16⟩ := un_i_some.1 h'15
    obtain ⟨n2, l'17, rfl, h'17⟩ := un_i_some.1 h'16
    obtain ⟨sent, l'18, rfl, h'18⟩ := un_i_some.1 h'17
    obtain ⟨t23, l'19, rfl, h'19⟩ := un_b_some.1 h'18
    obtain ⟨t22, l'20, rfl, h'20⟩ := un_i_some.1 h'19
    obtain ⟨i, l'21, rfl, h'21⟩ := un_i_some.1 h'20
    obtain ⟨k, l'22, rfl, h'22⟩ := un_i_some.1 h'21
    obtain ⟨rfl, h'Z⟩ := un_nil_some.1 h'22
    cases h'Z
  · intro α n' ls' kx' kr' r' h'
    unfold WinSlow_11_F at h'
    obtain ⟨ns, l'1, rfl, h'1⟩ := un_li_some.1 h'
    obtain ⟨w_cwnd, l'2, rfl, h'2⟩ := un_i_some.1 h'1
    obtain ⟨w_slow, l'3, rfl, h'3⟩ := un_i_some.1 h'2
    obtain ⟨w_pipe, l'4, rfl, h'4⟩ := un_i_some.1 h'3
    obtain ⟨w_count, l'5, rfl, h'5⟩ := un_i_some.1 h'4
    obtain ⟨w_halved_n, l'6, rfl, h'6⟩ := un_i_some.1 h'5
    obtain ⟨w_halved_is, l'7, rfl, h'7⟩ := un_b_some.1 h'6
    obtain ⟨w_last_n, l'8, rfl, h'8⟩ := un_i_some.1 h'7
    obtain ⟨w_last_is, l'9, rfl, h'9⟩ := un_b_some.1 h'8
    obtain ⟨w_runs, l'10, rfl, h'10⟩ := un_b_some.1 h'9
    obtain ⟨w_due, l'11, rfl, h'11⟩ := un_i_some.1 h'10
    obtain ⟨w_rtt_any, l'12, rfl, h'12⟩ := un_b_some.1 h'11
    obtain ⟨w_rtt_smooth, l'13, rfl, h'13⟩ := un_i_some.1 h'12
    obtain ⟨w_rtt_spread, l'14, rfl, h'14⟩ := un_i_some.1 h'13
    obtain ⟨w_rtt_rto, l'15, rfl, h'15⟩ := un_i_some.1 h'14
    obtain ⟨j, l'16, rfl, h'16⟩ := un_i_some.1 h'15
    obtain ⟨n2, l'17, rfl, h'17⟩ := un_i_some.1 h'16
    obtain ⟨sent, l'18, rfl, h'18⟩ := un_i_some.1 h'17
    obtain ⟨t23, l'19, rfl, h'19⟩ := un_b_some.1 h'18
    obtain ⟨t22, l'20, rfl, h'20⟩ := un_i_some.1 h'19
    obtain ⟨i, l'21, rfl, h'21⟩ := un_i_some.1 h'20
    obtain ⟨k, l'22, rfl, h'22⟩ := un_i_some.1 h'21
    obtain ⟨rfl, h'Z⟩ := un_nil_some.1 h'22
    exact (WinSlow_11_e @WinSlow_11_L @WinSlow_7_L kx' kr' (WinSlow_11_L kx' kr' n') ns w_cwnd w_slow w_pipe w_count w_halved_n w_halved_is w_last_n w_last_is w_runs w_due w_rtt_any w_rtt_smooth w_rtt_spread w_rtt_rto j n2 sent t23 t22 i k).symm.trans h'Z
  · intro b' hb
    rw [show loopsOf (bodyAt (fb Go.Proofs.Tryz.f7) 1) = [] by kernel_rfl] at hb
    cases hb
theorem WinSlow_7_lok (E : Nat → Prop) (w0 ws : World) (ρ0 : List Pl) (hk : ρ0.length = 1) : LOk Go.Proofs.Tryz.prog 7 Go.Proofs.Tryz.f7 false E w0 ws Go.Proofs.Tryz.f7.ntmps ρ0 WinSlow_Λ (bodyAt (fb Go.Proofs.Tryz.f7) 0) := by
  refine lok mixed tab_ok g40 Go.Proofs.Tryz.func7 hk (T := WinSlow_7_T) (rt := WinSlow_7_R) (cuts := []) (ex := WinSlow_7_X) (top := top) (F := WinSlow_7_F @WinSlow_7_L) (fun fr H kx kr => by kernel_rfl) ?_ ?_ ?_
  · intro α ls' kx' kr' r' h'
    unfold WinSlow_7_F at h'
    obtain ⟨ns, l'1, rfl, h'1⟩ := un_li_some.1 h'
    obtain ⟨w_cwnd, l'2, rfl, h'2⟩ := un_i_some.1 h'1
    obtain ⟨w_slow, l'3, rfl, h'3⟩ := un_i_some.1 h'2
    obtain ⟨w_pipe, l'4, rfl, h'4⟩ := un_i_some.1 h'3
    obtain ⟨w_count, l'5, rfl, h'5⟩ := un_i_some.1 h'4
    obtain ⟨w_halved_n, l'6, rfl, h'6⟩ := un_i_some.1 h'5
    obtain ⟨w_halved_is, l'7, rfl, h'7⟩ := un_b_some.1 h'6
    obtain ⟨w_last_n, l'8, rfl, h'8⟩ := un_i_some.1 h'7
    obtain ⟨w_last_is, l'9, rfl, h'9⟩ := un_b_some.1 h'8
    obtain ⟨w_runs, l'10, rfl, h'10⟩ := un_b_some.1 h'9
    obtain ⟨w_due, l'11, rfl, h'11⟩ := un_i_some.1 h'10
    obtain ⟨w_rtt_any, l'12, rfl, h'12⟩ := un_b_some.1 h'11
    obtain ⟨w_rtt_smooth, l'13, rfl, h'13⟩ := un_i_some.1 h'12
    obtain ⟨w_rtt_spread, l'14, rfl, h'14⟩ := un_i_some.1 h'13
    obtain ⟨w_rtt_rto, l'15, rfl, h'15⟩ := un_i_some.1 h'14
    obtain ⟨n2, l'16, rfl, h'16⟩ := un_i_some.1 h'15
    obtain ⟨sent, l'17, rfl, h'17⟩ := un_i_some.1 h'16
    obtain ⟨i, l'18, rfl, h'18⟩ := un_i_some.1 h'17
    obtain ⟨rfl, h'Z⟩ := un_nil_some.1 h'18
    cases h'Z
  · intro α n' ls' kx' kr' r' h'
    unfold WinSlow_7_F at h'
    obtain ⟨ns, l'1, rfl, h'1⟩ := un_li_some.1 h'
    obtain ⟨w_cwnd, l'2, rfl, h'2⟩ := un_i_some.1 h'1
    obtain ⟨w_slow, l'3, rfl, h'3⟩ := un_i_some.1 h'2
    obtain ⟨w_pipe, l'4, rfl, h'4⟩ := un_i_some.1 h'3
    obtain ⟨w_count, l'5, rfl, h'5⟩ := un_i_some.1 h'4
    obtain ⟨w_halved_n, l'6, rfl, h'6⟩ := un_i_some.1 h'5
    obtain ⟨w_halved_is, l'7, rfl, h'7⟩ := un_b_some.1 h'6
    obtain ⟨w_last_n, l'8, rfl, h'8⟩ := un_i_some.1 h'7
    obtain ⟨w_last_is, l'9, rfl, h'9⟩ := un_b_some.1 h'8
    obtain ⟨w_runs, l'10, rfl, h'10⟩ := un_b_some.1 h'9
    obtain ⟨w_due, l'11, rfl, h'11⟩ := un_i_some.1 h'10
    obtain ⟨w_rtt_any, l'12, rfl, h'12⟩ := un_b_some.1 h'11
    obtain ⟨w_rtt_smooth, l'13, rfl, h'13⟩ := un_i_some.1 h'12
    obtain ⟨w_rtt_spread, l'14, rfl, h'14⟩ := un_i_some.1 h'13
    obtain ⟨w_rtt_rto, l'15, rfl, h'15⟩ := un_i_some.1 h'14
    obtain ⟨n2, l'16, rfl, h'16⟩ := un_i_some.1 h'15
    obtain ⟨sent, l'17, rfl, h'17⟩ := un_i_some.1 h'16
    obtain ⟨i, l'18, rfl, h'18⟩ := un_i_some.1 h'17
    obtain ⟨rfl, h'Z⟩ := un_nil_some.1 h'18
    exact (WinSlow_7_e @WinSlow_11_L @WinSlow_7_L kx' kr' (WinSlow_7_L kx' kr' n') ns w_cwnd w_slow w_pipe w_count w_halved_n w_halved_is w_last_n w_last_is w_runs w_due w_rtt_any w_rtt_smooth w_rtt_spread w_rtt_rto n2 sent i).symm.trans h'Z
  · intro b' hb
    rw [show loopsOf (bodyAt (fb Go.Proofs.Tryz.f7) 0) = [(bodyAt (fb Go.Proofs.Tryz.f7) 1)] by kernel_rfl] at hb
    simp only [List.mem_cons, List.mem_nil_iff, or_false] at hb
    rcases hb with rfl
    · exact WinSlow_11_lok E w0 ws ρ0 hk
theorem WinSlow_ed (L11 : ({β : Type} → (Nat → List Leaf → Option β) → (List Leaf → Option β) → Nat → List Int → Int → Int → Int → Int → Int → Bool → Int → Bool → Bool → Int → Bool → Int → Int → Int → Int → Int → Int → Bool → Int → Int → Int → Option β)) (L7 : ({β : Type} → (Nat → List Leaf → Option β) → (List Leaf → Option β) → Nat → List Int → Int → Int → Int → Int → Int → Bool → Int → Bool → Bool → Int → Bool → Int → Int → Int → Int → Int → Int → Option β)) (ns : List Int) : WinSlow_d @L7 ns = den G40 (WinSlow_Λd @L11 @L7) false tab Go.Proofs.Tryz.f7.ntmps (fun fr H => finish tab 1 Go.Proofs.Tryz.f7.results.toList WinSlow_out [] fr H some) (fun _ _ _ => none) (fun fr H => finish tab 1 Go.Proofs.Tryz.f7.results.toList WinSlow_out [] fr H some) 10000 [.code (fb Go.Proofs.Tryz.f7)] (instFr WinSlow_in [.li ns]) (instH WinSlow_in [.li ns]) := by kernel_rfl
theorem WinSlow_e (ns : List Int) : WinSlow ns = den G40 WinSlow_Λ false tab Go.Proofs.Tryz.f7.ntmps (fun fr H => finish tab 1 Go.Proofs.Tryz.f7.results.toList WinSlow_out [] fr H some) (fun _ _ _ => none) (fun fr H => finish tab 1 Go.Proofs.Tryz.f7.results.toList WinSlow_out [] fr H some) 10000 [.code (fb Go.Proofs.Tryz.f7)] (instFr WinSlow_in [.li ns]) (instH WinSlow_in [.li ns]) := WinSlow_ed @WinSlow_11_L @WinSlow_7_L ns
def WinSlow_S : List Leaf → Option (List Leaf) := fun ls => un_li ls fun ns rr => un_nil rr (WinSlow ns)
def WinSlow_SC : Tld := fun ls k' => un_li ls fun ns rr => un_nil rr (out (WinSlow ns) k')
theorem WinSlow_Se (ns : List Int) : WinSlow_S [.li ns] = WinSlow ns := by
  unfold WinSlow_S
  simp only [un_i_ev, un_b_ev, un_s_ev, un_li_ev, un_lb_ev, un_ls_ev, un_nil_ev]
theorem WinSlow_says : Says WinSlow_SC WinSlow_S := by
  intro β ls' k' r' h'
  unfold WinSlow_SC at h'
  obtain ⟨ns, l'1, rfl, h'1⟩ := un_li_some.1 h'
  obtain ⟨rfl, h'Z⟩ := un_nil_some.1 h'1
  obtain ⟨l', a', b'⟩ := out_some.1 h'Z
  exact ⟨l', (WinSlow_Se ns).trans a', b'⟩
theorem WinSlow_c : FnC Go.Proofs.Tryz.prog 7 false 1 1 WinSlow_in WinSlow_out WinSlow_S := by
  refine fn_ok (Λ := WinSlow_Λ) mixed tab_ok g40 Go.Proofs.Tryz.func7 (by kernel_rfl) (body := fb Go.Proofs.Tryz.f7) rfl (ts := Go.Proofs.Tryz.f7.results.toList) rfl (cuts := []) (by kernel_rfl) (Nat.le_of_ble_eq_true (by kernel_rfl)) (by kernel_rfl) (rt := .w (.at (.bool))) rfl ?_ ?_
  · intro ls' r' h'
    unfold WinSlow_S at h'
    obtain ⟨ns, l'1, rfl, h'1⟩ := un_li_some.1 h'
    obtain ⟨rfl, h'Z⟩ := un_nil_some.1 h'1
    exact (WinSlow_e ns).symm.trans h'Z
  · intro E w0 ws ρ0 hk b hb
    rw [show loopsOf (fb Go.Proofs.Tryz.f7) = [(bodyAt (fb Go.Proofs.Tryz.f7) 0), (bodyAt (fb Go.Proofs.Tryz.f7) 1)] by kernel_rfl] at hb
    simp only [List.mem_cons, List.mem_nil_iff, or_false] at hb
    rcases hb with rfl | rfl
    · exact WinSlow_7_lok E w0 ws ρ0 hk
    · exact WinSlow_11_lok E w0 ws ρ0 hk
noncomputable def G41 : Env := G40.addE 7 1 WinSlow_in WinSlow_out WinSlow_SC
theorem g41 : EnvOk Go.Proofs.Tryz.prog G41 := EnvOk.addE g40 WinSlow_c WinSlow_says
end Go.Sx.T

