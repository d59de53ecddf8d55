import Derived.Test.YtdjnfdcoilgegaaGreatDoorYCFSpec
import Derived.Test.YtdjnfdcoilgegaaGreatDoorYfCtlCon
import Derived.Test.YtdjnfdcoilgegaaGreatDoorL6
set_option linter.all false
namespace Go.Sx.T
open Go Go.Sx Go.Proofs
set_option maxRecDepth 100000
noncomputable def G55 : Env := G54.addM 84 "Kind" 251
theorem g55 : EnvOk Go.Proofs.Tryz.prog G55 := EnvOk.addM g54 (by kernel_rfl) Go.Proofs.Tryz.underlying84
noncomputable def G56 : Env := G55.addM 84 "May" 252
theorem g56 : EnvOk Go.Proofs.Tryz.prog G56 := EnvOk.addM g55 (by kernel_rfl) Go.Proofs.Tryz.underlying84
noncomputable def G57 : Env := G56.addM 84 "Sent" 253
theorem g57 : EnvOk Go.Proofs.Tryz.prog G57 := EnvOk.addM g56 (by kernel_rfl) Go.Proofs.Tryz.underlying84
noncomputable def G58 : Env := G57.addM 84 "Hear" 250
theorem g58 : EnvOk Go.Proofs.Tryz.prog G58 := EnvOk.addM g57 (by kernel_rfl) Go.Proofs.Tryz.underlying84
noncomputable def G59 : Env := G58.addM 84 "Fire" 249
theorem g59 : EnvOk Go.Proofs.Tryz.prog G59 := EnvOk.addM g58 (by kernel_rfl) Go.Proofs.Tryz.underlying84
noncomputable def G60 : Env := G59.addM 84 "Due" 248
theorem g60 : EnvOk Go.Proofs.Tryz.prog G60 := EnvOk.addM g59 (by kernel_rfl) Go.Proofs.Tryz.underlying84
noncomputable def G61 : Env := G60.addM 88 "Kind" 257
theorem g61 : EnvOk Go.Proofs.Tryz.prog G61 := EnvOk.addM g60 (by kernel_rfl) Go.Proofs.Tryz.underlying88
noncomputable def G62 : Env := G61.addM 88 "May" 258
theorem g62 : EnvOk Go.Proofs.Tryz.prog G62 := EnvOk.addM g61 (by kernel_rfl) Go.Proofs.Tryz.underlying88
noncomputable def G63 : Env := G62.addM 88 "Sent" 259
theorem g63 : EnvOk Go.Proofs.Tryz.prog G63 := EnvOk.addM g62 (by kernel_rfl) Go.Proofs.Tryz.underlying88
noncomputable def G64 : Env := G63.addM 88 "Hear" 256
theorem g64 : EnvOk Go.Proofs.Tryz.prog G64 := EnvOk.addM g63 (by kernel_rfl) Go.Proofs.Tryz.underlying88
noncomputable def G65 : Env := G64.addM 88 "Fire" 255
theorem g65 : EnvOk Go.Proofs.Tryz.prog G65 := EnvOk.addM g64 (by kernel_rfl) Go.Proofs.Tryz.underlying88
noncomputable def G66 : Env := G65.addM 88 "Due" 254
theorem g66 : EnvOk Go.Proofs.Tryz.prog G66 := EnvOk.addM g65 (by kernel_rfl) Go.Proofs.Tryz.underlying88
noncomputable def fnsC : Fns := [(10, Go.Proofs.Tryz.f10), (11, Go.Proofs.Tryz.f11), (35, Go.Proofs.Tryz.f35)]
theorem fnsC_ok : FnsOk Go.Proofs.Tryz.prog fnsC := .cons Go.Proofs.Tryz.func10 (by kernel_rfl) <| .cons Go.Proofs.Tryz.func11 (by kernel_rfl) <| .cons Go.Proofs.Tryz.func35 (by kernel_rfl) <| .nil
noncomputable def G67 : Env := inlC fnsC tab G66 6
theorem g67 : EnvOk Go.Proofs.Tryz.prog G67 := EnvOk.inlC mixed tab_ok g66 fnsC_ok 6
noncomputable def fnsR : Fns := [(14, Go.Proofs.Tryz.f14)]
theorem fnsR_ok : FnsOk Go.Proofs.Tryz.prog fnsR := .cons Go.Proofs.Tryz.func14 (by kernel_rfl) <| .nil
noncomputable def G68 : Env := inlR fnsR tab G67
theorem g68 : EnvOk Go.Proofs.Tryz.prog G68 := EnvOk.inlR mixed tab_ok g67 fnsR_ok

-- ### CtrlFire: function 3
def CtrlFire_in : Tm := ⟨[], [(0, .w (.at (.int .i64))), (1, .w (.at (.int .i64))), (2, .w (.at (.int .i64)))]⟩
def CtrlFire_out : Tm := ⟨[], [(0, .w (.at (.bool)))]⟩
def CtrlFire_13084_T : Tm := ⟨[.cells 87 [.ptr 1 0], .cells 96 [.int .i64, .int .i64, .int .i64, .int .i64, .ptr 2 0, .int .u64, .bool, .int .u64, .bool, .bool, .int .i64], .cells 165 [.bool, .int .i64, .int .i64, .int .i64]], [(12, .w (.at (.int .i64))), (8, .w (.at (.iface 84 0 0))), (11, .w (.at (.int .i64))), (2, .w (.at (.int .i64))), (1, .w (.at (.int .i64)))]⟩
def CtrlFire_13084_X0 : Tm := ⟨[.cells 87 [.ptr 1 0], .cells 96 [.int .i64, .int .i64, .int .i64, .int .i64, .ptr 2 0, .int .u64, .bool, .int .u64, .bool, .bool, .int .i64], .cells 165 [.bool, .int .i64, .int .i64, .int .i64]], [(2, .w (.at (.int .i64))), (1, .w (.at (.int .i64))), (8, .w (.at (.iface 84 0 0)))]⟩
def CtrlFire_13084_X : Exits := [(0, (CtrlFire_13084_X0, []))]
def CtrlFire_13084_R : Tm := ⟨[], [(6, .w (.at (.bool)))]⟩
def CtrlFire_13088_T : Tm := ⟨[.cells 90 [.ptr 1 0, .ptr 2 0, .int .u64], .cells 99 [.int .u64, .int .u64, .int .u64, .int .i64, .bool, .int .i64, .ptr 3 0, .bool, .bool, .int .i64], .cells 117 [.int .u64, .int .u64, .int .u64, .int .u64, .int .i64], .cells 163 [.all 4 2], .row 160 2 [.int .i64, .int .u64]], [(12, .w (.at (.int .i64))), (8, .w (.at (.iface 88 0 0))), (11, .w (.at (.int .i64))), (2, .w (.at (.int .i64))), (1, .w (.at (.int .i64)))]⟩
def CtrlFire_13088_X0 : Tm := ⟨[.cells 90 [.ptr 1 0, .ptr 2 0, .int .u64], .cells 99 [.int .u64, .int .u64, .int .u64, .int .i64, .bool, .int .i64, .ptr 3 0, .bool, .bool, .int .i64], .cells 117 [.int .u64, .int .u64, .int .u64, .int .u64, .int .i64], .cells 163 [.all 4 2], .row 160 2 [.int .i64, .int .u64]], [(2, .w (.at (.int .i64))), (1, .w (.at (.int .i64))), (8, .w (.at (.iface 88 0 0)))]⟩
def CtrlFire_13088_X : Exits := [(0, (CtrlFire_13088_X0, []))]
def CtrlFire_13088_R : Tm := ⟨[], [(6, .w (.at (.bool)))]⟩

def CtrlFire_Λd (L13084 : ({β : Type} → (Nat → List Leaf → Option β) → (List Leaf → Option β) → Nat → Int → Int → Int → Int → Int → Bool → Int → Bool → Bool → Int → Bool → Int → Int → Int → Int → Int → Int → Int → Option β)) (L13088 : ({β : Type} → (Nat → List Leaf → Option β) → (List Leaf → Option β) → Nat → List Int → List Int → Int → Int → Int → Int → Int → Bool → Int → Bool → Bool → Int → Int → Int → Int → Int → Int → Int → Int → Int → Int → Option β)) : Loops := ⟨fun b fr H kx kr => bif Nat.beq (rid b) 13 then (bif faceIs fr 8 84 then loopE 0 CtrlFire_13084_T [] CtrlFire_13084_X CtrlFire_13084_R (CtrlFire_13084_F @L13084 top) fr H kx kr else (bif faceIs fr 8 88 then loopE 0 CtrlFire_13088_T [] CtrlFire_13088_X CtrlFire_13088_R (CtrlFire_13088_F @L13088 top) fr H kx kr else none)) else none⟩
def CtrlFire_Λ : Loops := CtrlFire_Λd @CtrlFire_13084_L @CtrlFire_13088_L
theorem CtrlFire_13084_e (L13084 : ({β : Type} → (Nat → List Leaf → Option β) → (List Leaf → Option β) → Nat → Int → Int → Int → Int → Int → Bool → Int → Bool → Bool → Int → Bool → Int → Int → Int → Int → Int → Int → Int → Option β)) (L13088 : ({β : Type} → (Nat → List Leaf → Option β) → (List Leaf → Option β) → Nat → List Int → List Int → Int → Int → Int → Int → Int → Bool → Int → Bool → Bool → Int → Int → Int → Int → Int → Int → Int → Int → Int → Int → Option β)) {α : Type} (kx : Nat → List Leaf → Option α) (kr : List Leaf → Option α) (again : Int → Int → Int → Int → Int → Bool → Int → Bool → Bool → Int → Bool → Int → Int → Int → Int → Int → Int → Int → Option α) (c_w_cwnd : Int) (c_w_slow : Int) (c_w_pipe : Int) (c_w_count : Int) (c_w_halved_n : Int) (c_w_halved_is : Bool) (c_w_last_n : Int) (c_w_last_is : Bool) (c_w_runs : Bool) (c_w_due : Int) (c_w_rtt_any : Bool) (c_w_rtt_smooth : Int) (c_w_rtt_spread : Int) (c_w_rtt_rto : Int) (i : Int) (now : Int) (n2 : Int) (size : Int) : CtrlFire_13084_B  kx kr again c_w_cwnd c_w_slow c_w_pipe c_w_count c_w_halved_n c_w_halved_is c_w_last_n c_w_last_is c_w_runs c_w_due c_w_rtt_any c_w_rtt_smooth c_w_rtt_spread c_w_rtt_rto i now n2 size = loopB G68 (CtrlFire_Λd @L13084 @L13088) false tab Go.Proofs.Tryz.f3.ntmps 0 CtrlFire_13084_T [] CtrlFire_13084_X CtrlFire_13084_R (bodyAt (fb Go.Proofs.Tryz.f3) 0) (fun ls => un_i ls fun c_w_cwnd rr => un_i rr fun c_w_slow rr => un_i rr fun c_w_pipe rr => un_i rr fun c_w_count rr => un_i rr fun c_w_halved_n rr => un_b rr fun c_w_halved_is rr => un_i rr fun c_w_last_n rr => un_b rr fun c_w_last_is rr => un_b rr fun c_w_runs rr => un_i rr fun c_w_due rr => un_b rr fun c_w_rtt_any rr => un_i rr fun c_w_rtt_smooth rr => un_i rr fun c_w_rtt_spread rr => un_i rr fun c_w_rtt_rto rr => un_i rr fun i rr => un_i rr fun now rr => un_i rr fun n2 rr => un_i rr fun size rr => un_nil rr (again c_w_cwnd c_w_slow c_w_pipe c_w_count c_w_halved_n c_w_halved_is c_w_last_n c_w_last_is c_w_runs c_w_due c_w_rtt_any c_w_rtt_smooth c_w_rtt_spread c_w_rtt_rto i now n2 size)) kx kr (instFr CtrlFire_13084_T [.i c_w_cwnd, .i c_w_slow, .i c_w_pipe, .i c_w_count, .i c_w_halved_n, .b c_w_halved_is, .i c_w_last_n, .b c_w_last_is, .b c_w_runs, .i c_w_due, .b c_w_rtt_any, .i c_w_rtt_smooth, .i c_w_rtt_spread, .i c_w_rtt_rto, .i i, .i now, .i n2, .i size]) (instH CtrlFire_13084_T [.i c_w_cwnd, .i c_w_slow, .i c_w_pipe, .i c_w_count, .i c_w_halved_n, .b c_w_halved_is, .i c_w_last_n, .b c_w_last_is, .b c_w_runs, .i c_w_due, .b c_w_rtt_any, .i c_w_rtt_smooth, .i c_w_rtt_spread, .i c_w_rtt_rto, .i i, .i now, .i n2, .i size]) := by kernel_rfl
theorem CtrlFire_13088_e (L13084 : ({β : Type} → (Nat → List Leaf → Option β) → (List Leaf → Option β) → Nat → Int → Int → Int → Int → Int → Bool → Int → Bool → Bool → Int → Bool → Int → Int → Int → Int → Int → Int → Int → Option β)) (L13088 : ({β : Type} → (Nat → List Leaf → Option β) → (List Leaf → Option β) → Nat → List Int → List Int → Int → Int → Int → Int → Int → Bool → Int → Bool → Bool → Int → Int → Int → Int → Int → Int → Int → Int → Int → Int → Option β)) {α : Type} (kx : Nat → List Leaf → Option α) (kr : List Leaf → Option α) (again : List Int → List Int → Int → Int → Int → Int → Int → Bool → Int → Bool → Bool → Int → Int → Int → Int → Int → Int → Int → Int → Int → Int → Option α) (c_t_set_l0 : List Int) (c_t_set_l1 : List Int) (c_last : Int) (c_t_s : Int) (c_t_x : Int) (c_t_loss : Int) (c_t_rtt : Int) (c_t_heard : Bool) (c_t_doubled : Int) (c_t_began : Bool) (c_t_started : Bool) (c_t_due : Int) (c_p_s : Int) (c_p_tick : Int) (c_p_has : Int) (c_p_rate : Int) (c_p_now : Int) (i : Int) (now : Int) (n2 : Int) (size : Int) : CtrlFire_13088_B  kx kr again c_t_set_l0 c_t_set_l1 c_last c_t_s c_t_x c_t_loss c_t_rtt c_t_heard c_t_doubled c_t_began c_t_started c_t_due c_p_s c_p_tick c_p_has c_p_rate c_p_now i now n2 size = loopB G68 (CtrlFire_Λd @L13084 @L13088) false tab Go.Proofs.Tryz.f3.ntmps 0 CtrlFire_13088_T [] CtrlFire_13088_X CtrlFire_13088_R (bodyAt (fb Go.Proofs.Tryz.f3) 0) (fun ls => un_li ls fun c_t_set_l0 rr => un_li rr fun c_t_set_l1 rr => un_i rr fun c_last rr => un_i rr fun c_t_s rr => un_i rr fun c_t_x rr => un_i rr fun c_t_loss rr => un_i rr fun c_t_rtt rr => un_b rr fun c_t_heard rr => un_i rr fun c_t_doubled rr => un_b rr fun c_t_began rr => un_b rr fun c_t_started rr => un_i rr fun c_t_due rr => un_i rr fun c_p_s rr => un_i rr fun c_p_tick rr => un_i rr fun c_p_has rr => un_i rr fun c_p_rate rr => un_i rr fun c_p_now rr => un_i rr fun i rr => un_i rr fun now rr => un_i rr fun n2 rr => un_i rr fun size rr => un_nil rr (again c_t_set_l0 c_t_set_l1 c_last c_t_s c_t_x c_t_loss c_t_rtt c_t_heard c_t_doubled c_t_began c_t_started c_t_due c_p_s c_p_tick c_p_has c_p_rate c_p_now i now n2 size)) kx kr (instFr CtrlFire_13088_T [.li c_t_set_l0, .li c_t_set_l1, .i c_last, .i c_t_s, .i c_t_x, .i c_t_loss, .i c_t_rtt, .b c_t_heard, .i c_t_doubled, .b c_t_began, .b c_t_started, .i c_t_due, .i c_p_s, .i c_p_tick, .i c_p_has, .i c_p_rate, .i c_p_now, .i i, .i now, .i n2, .i size]) (instH CtrlFire_13088_T [.li c_t_set_l0, .li c_t_set_l1, .i c_last, .i c_t_s, .i c_t_x, .i c_t_loss, .i c_t_rtt, .b c_t_heard, .i c_t_doubled, .b c_t_began, .b c_t_started, .i c_t_due, .i c_p_s, .i c_p_tick, .i c_p_has, .i c_p_rate, .i c_p_now, .i i, .i now, .i n2, .i size]) := by kernel_rfl
theorem CtrlFire_13_pick {α : Type} (fr : Fr) (H : Heap) (kx : Nat → Fr → Heap → Option α) (kr : Fr → Heap → Option α) : CtrlFire_Λ.loop (bodyAt (fb Go.Proofs.Tryz.f3) 0) fr H kx kr = (bif faceIs fr 8 84 then loopE 0 CtrlFire_13084_T [] CtrlFire_13084_X CtrlFire_13084_R (CtrlFire_13084_F @CtrlFire_13084_L top) fr H kx kr else (bif faceIs fr 8 88 then loopE 0 CtrlFire_13088_T [] CtrlFire_13088_X CtrlFire_13088_R (CtrlFire_13088_F @CtrlFire_13088_L top) fr H kx kr else none)) := by kernel_rfl
theorem CtrlFire_13084_lokD (E : Nat → Prop) (w0 ws : World) (ρ0 : List Pl) (hk : ρ0.length = 0) : LOkD (fun fr => faceIs fr 8 84) Go.Proofs.Tryz.prog 3 Go.Proofs.Tryz.f3 false E w0 ws Go.Proofs.Tryz.f3.ntmps ρ0 CtrlFire_Λ (bodyAt (fb Go.Proofs.Tryz.f3) 0) := by
  refine lokD mixed tab_ok g68 Go.Proofs.Tryz.func3 hk (T := CtrlFire_13084_T) (rt := CtrlFire_13084_R) (cuts := []) (ex := CtrlFire_13084_X) (top := top) (F := CtrlFire_13084_F @CtrlFire_13084_L) (fun fr H kx kr hd => by rw [CtrlFire_13_pick, show faceIs fr 8 84 = true from hd]; rfl) ?_ ?_ ?_
  · intro α ls' kx' kr' r' h'
    unfold CtrlFire_13084_F at h'
    obtain ⟨c_w_cwnd, l'1, rfl, h'1⟩ := un_i_some.1 h'
    obtain ⟨c_w_slow, l'2, rfl, h'2⟩ := un_i_some.1 h'1
    obtain ⟨c_w_pipe, l'3, rfl, h'3⟩ := un_i_some.1 h'2
    obtain ⟨c_w_count, l'4, rfl, h'4⟩ := un_i_some.1 h'3
    obtain ⟨c_w_halved_n, l'5, rfl, h'5⟩ := un_i_some.1 h'4
    obtain ⟨c_w_halved_is, l'6, rfl, h'6⟩ := un_b_some.1 h'5
    obtain ⟨c_w_last_n, l'7, rfl, h'7⟩ := un_i_some.1 h'6
    obtain ⟨c_w_last_is, l'8, rfl, h'8⟩ := un_b_some.1 h'7
    obtain ⟨c_w_runs, l'9, rfl, h'9⟩ := un_b_some.1 h'8
    obtain ⟨c_w_due, l'10, rfl, h'10⟩ := un_i_some.1 h'9
    obtain ⟨c_w_rtt_any, l'11, rfl, h'11⟩ := un_b_some.1 h'10
    obtain ⟨c_w_rtt_smooth, l'12, rfl, h'12⟩ := un_i_some.1 h'11
    obtain ⟨c_w_rtt_spread, l'13, rfl, h'13⟩ := un_i_some.1 h'12
    obtain ⟨c_w_rtt_rto, l'14, rfl, h'14⟩ := un_i_some.1 h'13
    obtain ⟨i, l'15, rfl, h'15⟩ := un_i_some.1 h'14
    obtain ⟨now, l'16, rfl, h'16⟩ := un_i_some.1 h'15
    obtain ⟨n2, l'17, rfl, h'17⟩ := un_i_some.1 h'16
    obtain ⟨size, l'18, rfl, h'18⟩ := un_i_some.1 h'17
    obtain ⟨rfl, h'Z⟩ := un_nil_some.1 h'18
    cases h'Z
  · intro α n' ls' kx' kr' r' h'
    unfold CtrlFire_13084_F at h'
    obtain ⟨c_w_cwnd, l'1, rfl, h'1⟩ := un_i_some.1 h'
    obtain ⟨c_w_slow, l'2, rfl, h'2⟩ := un_i_some.1 h'1
    obtain ⟨c_w_pipe, l'3, rfl, h'3⟩ := un_i_some.1 h'2
    obtain ⟨c_w_count, l'4, rfl, h'4⟩ := un_i_some.1 h'3
    obtain ⟨c_w_halved_n, l'5, rfl, h'5⟩ := un_i_some.1 h'4
    obtain ⟨c_w_halved_is, l'6, rfl, h'6⟩ := un_b_some.1 h'5
    obtain ⟨c_w_last_n, l'7, rfl, h'7⟩ := un_i_some.1 h'6
    obtain ⟨c_w_last_is, l'8, rfl, h'8⟩ := un_b_some.1 h'7
    obtain ⟨c_w_runs, l'9, rfl, h'9⟩ := un_b_some.1 h'8
    obtain ⟨c_w_due, l'10, rfl, h'10⟩ := un_i_some.1 h'9
    obtain ⟨c_w_rtt_any, l'11, rfl, h'11⟩ := un_b_some.1 h'10
    obtain ⟨c_w_rtt_smooth, l'12, rfl, h'12⟩ := un_i_some.1 h'11
    obtain ⟨c_w_rtt_spread, l'13, rfl, h'13⟩ := un_i_some.1 h'12
    obtain ⟨c_w_rtt_rto, l'14, rfl, h'14⟩ := un_i_some.1 h'13
    obtain ⟨i, l'15, rfl, h'15⟩ := un_i_some.1 h'14
    obtain ⟨now, l'16, rfl, h'16⟩ := un_i_some.1 h'15
    obtain ⟨n2, l'17, rfl, h'17⟩ := un_i_some.1 h'16
    obtain ⟨size, l'18, rfl, h'18⟩ := un_i_some.1 h'17
    obtain ⟨rfl, h'Z⟩ := un_nil_some.1 h'18
    exact (CtrlFire_13084_e @CtrlFire_13084_L @CtrlFire_13088_L kx' kr' (CtrlFire_13084_L kx' kr' n') c_w_cwnd c_w_slow c_w_pipe c_w_count c_w_halved_n c_w_halved_is c_w_last_n c_w_last_is c_w_runs c_w_due c_w_rtt_any c_w_rtt_smooth c_w_rtt_spread c_w_rtt_rto i now n2 size).symm.trans h'Z
  · intro b' hb
    rw [show loopsOf (bodyAt (fb Go.Proofs.Tryz.f3) 0) = [] by kernel_rfl] at hb
    cases hb
theorem CtrlFire_13088_lokD (E : Nat → Prop) (w0 ws : World) (ρ0 : List Pl) (hk : ρ0.length = 0) : LOkD (fun fr => faceIs fr 8 88) Go.Proofs.Tryz.prog 3 Go.Proofs.Tryz.f3 false E w0 ws Go.Proofs.Tryz.f3.ntmps ρ0 CtrlFire_Λ (bodyAt (fb Go.Proofs.Tryz.f3) 0) := by
  refine lokD mixed tab_ok g68 Go.Proofs.Tryz.func3 hk (T := CtrlFire_13088_T) (rt := CtrlFire_13088_R) (cuts := []) (ex := CtrlFire_13088_X) (top := top) (F := CtrlFire_13088_F @CtrlFire_13088_L) (fun fr H kx kr hd => by rw [CtrlFire_13_pick, faceIs_ne (show 84 ≠ 88 by decide) hd, show faceIs fr 8 88 = true from hd]; rfl) ?_ ?_ ?_
  · intro α ls' kx' kr' r' h'
    unfold CtrlFire_13088_F at h'
    obtain ⟨c_t_set_l0, l'1, rfl, h'1⟩ := un_li_some.1 h'
    obtain ⟨c_t_set_l1, l'2, rfl, h'2⟩ := un_li_some.1 h'1
    obtain ⟨c_last, l'3, rfl, h'3⟩ := un_i_some.1 h'2
    obtain ⟨c_t_s, l'4, rfl, h'4⟩ := un_i_some.1 h'3
    obtain ⟨c_t_x, l'5, rfl, h'5⟩ := un_i_some.1 h'4
    obtain ⟨c_t_loss, l'6, rfl, h'6⟩ := un_i_some.1 h'5
    obtain ⟨c_t_rtt, l'7, rfl, h'7⟩ := un_i_some.1 h'6
    obtain ⟨c_t_heard, l'8, rfl, h'8⟩ := un_b_some.1 h'7
    obtain ⟨c_t_doubled, l'9, rfl, h'9⟩ := un_i_some.1 h'8
    obtain ⟨c_t_began, l'10, rfl, h'10⟩ := un_b_some.1 h'9
    obtain ⟨c_t_started, l'11, rfl, h'11⟩ := un_b_some.1 h'10
    obtain ⟨c_t_due, l'12, rfl, h'12⟩ := un_i_some.1 h'11
    obtain ⟨c_p_s, l'13, rfl, h'13⟩ := un_i_some.1 h'12
    obtain ⟨c_p_tick, l'14, rfl, h'14⟩ := un_i_some.1 h'13
    obtain ⟨c_p_has, l'15, rfl, h'15⟩ := un_i_some.1 h'14
    obtain ⟨c_p_rate, l'16, rfl, h'16⟩ := un_i_some.1 h'15
    obtain ⟨c_p_now, l'17, rfl, h'17⟩ := un_i_some.1 h'16
    obtain ⟨i, l'18, rfl, h'18⟩ := un_i_some.1 h'17
    obtain ⟨now, l'19, rfl, h'19⟩ := un_i_some.1 h'18
    obtain ⟨n2, l'20, rfl, h'20⟩ := un_i_some.1 h'19
    obtain ⟨size, l'21, rfl, h'21⟩ := un_i_some.1 h'20
    obtain ⟨rfl, h'Z⟩ := un_nil_some.1 h'21
    cases h'Z
  · intro α n' ls' kx' kr' r' h'
    unfold CtrlFire_13088_F at h'
    obtain ⟨c_t_set_l0, l'1, rfl, h'1⟩ := un_li_some.1 h'
    obtain ⟨c_t_set_l1, l'2, rfl, h'2⟩ := un_li_some.1 h'1
    obtain ⟨c_last, l'3, rfl, h'3⟩ := un_i_some.1 h'2
    obtain ⟨c_t_s, l'4, rfl, h'4⟩ := un_i_some.1 h'3
    obtain ⟨c_t_x, l'5, rfl, h'5⟩ := un_i_some.1 h'4
    obtain ⟨c_t_loss, l'6, rfl, h'6⟩ := un_i_some.1 h'5
    obtain ⟨c_t_rtt, l'7, rfl, h'7⟩ := un_i_some.1 h'6
    obtain ⟨c_t_heard, l'8, rfl, h'8⟩ := un_b_some.1 h'7
    obtain ⟨c_t_doubled, l'9, rfl, h'9⟩ := un_i_some.1 h'8
    obtain ⟨c_t_began, l'10, rfl, h'10⟩ := un_b_some.1 h'9
    obtain ⟨c_t_started, l'11, rfl, h'11⟩ := un_b_some.1 h'10
    obtain ⟨c_t_due, l'12, rfl, h'12⟩ := un_i_some.1 h'11
    obtain ⟨c_p_s, l'13, rfl, h'13⟩ := un_i_some.1 h'12
    obtain ⟨c_p_tick, l'14, rfl, h'14⟩ := un_i_some.1 h'13
    obtain ⟨c_p_has, l'15, rfl, h'15⟩ := un_i_some.1 h'14
    obtain ⟨c_p_rate, l'16, rfl, h'16⟩ := un_i_some.1 h'15
    obtain ⟨c_p_now, l'17, rfl, h'17⟩ := un_i_some.1 h'16
    obtain ⟨i, l'18, rfl, h'18⟩ := un_i_some.1 h'17
    obtain ⟨now, l'19, rfl, h'19⟩ := un_i_some.1 h'18
    obtain ⟨n2, l'20, rfl, h'20⟩ := un_i_some.1 h'19
    obtain ⟨size, l'21, rfl, h'21⟩ := un_i_some.1 h'20
    obtain ⟨rfl, h'Z⟩ := un_nil_some.1 h'21
    exact (CtrlFire_13088_e @CtrlFire_13084_L @CtrlFire_13088_L kx' kr' (CtrlFire_13088_L kx' kr' n') c_t_set_l0 c_t_set_l1 c_last c_t_s c_t_x c_t_loss c_t_rtt c_t_heard c_t_doubled c_t_began c_t_started c_t_due c_p_s c_p_tick c_p_has c_p_rate c_p_now i now n2 size).symm.trans h'Z
  · intro b' hb
    rw [show loopsOf (bodyAt (fb Go.Proofs.Tryz.f3) 0) = [] by kernel_rfl] at hb
    cases hb
theorem CtrlFire_13_lok (E : Nat → Prop) (w0 ws : World) (ρ0 : List Pl) (hk : ρ0.length = 0) : LOk Go.Proofs.Tryz.prog 3 Go.Proofs.Tryz.f3 false E w0 ws Go.Proofs.Tryz.f3.ntmps ρ0 CtrlFire_Λ (bodyAt (fb Go.Proofs.Tryz.f3) 0) :=
  lok_two (d1 := (fun fr => faceIs fr 8 84)) (d2 := (fun fr => faceIs fr 8 88)) (fun fr H kx kr h1 h2 => by rw [CtrlFire_13_pick, show faceIs fr 8 84 = false from h1, show faceIs fr 8 88 = false from h2]; rfl) (CtrlFire_13084_lokD E w0 ws ρ0 hk) (CtrlFire_13088_lokD E w0 ws ρ0 hk)
theorem CtrlFire_ed (L13084 : ({β : Type} → (Nat → List Leaf → Option β) → (List Leaf → Option β) → Nat → Int → Int → Int → Int → Int → Bool → Int → Bool → Bool → Int → Bool → Int → Int → Int → Int → Int → Int → Int → Option β)) (L13088 : ({β : Type} → (Nat → List Leaf → Option β) → (List Leaf → Option β) → Nat → List Int → List Int → Int → Int → Int → Int → Int → Bool → Int → Bool → Bool → Int → Int → Int → Int → Int → Int → Int → Int → Int → Int → Option β)) (kind : Int) (size : Int) (n2 : Int) : CtrlFire_d @L13084 @L13088 kind size n2 = den G68 (CtrlFire_Λd @L13084 @L13088) false tab Go.Proofs.Tryz.f3.ntmps (fun fr H => finish tab 0 Go.Proofs.Tryz.f3.results.toList CtrlFire_out [] fr H some) (fun _ _ _ => none) (fun fr H => finish tab 0 Go.Proofs.Tryz.f3.results.toList CtrlFire_out [] fr H some) 10000 [.code (fb Go.Proofs.Tryz.f3)] (instFr CtrlFire_in [.i kind, .i size, .i n2]) (instH CtrlFire_in [.i kind, .i size, .i n2]) := by kernel_rfl
theorem CtrlFire_e (kind : Int) (size : Int) (n2 : Int) : CtrlFire kind size n2 = den G68 CtrlFire_Λ false tab Go.Proofs.Tryz.f3.ntmps (fun fr H => finish tab 0 Go.Proofs.Tryz.f3.results.toList CtrlFire_out [] fr H some) (fun _ _ _ => none) (fun fr H => finish tab 0 Go.Proofs.Tryz.f3.results.toList CtrlFire_out [] fr H some) 10000 [.code (fb Go.Proofs.Tryz.f3)] (instFr CtrlFire_in [.i kind, .i size, .i n2]) (instH CtrlFire_in [.i kind, .i size, .i n2]) := CtrlFire_ed @CtrlFire_13084_L @CtrlFire_13088_L kind size n2
def CtrlFire_S : List Leaf → Option (List Leaf) := fun ls => un_i ls fun kind rr => un_i rr fun size rr => un_i rr fun n2 rr => un_nil rr (CtrlFire kind size n2)
def CtrlFire_SC : Tld := fun ls k' => un_i ls fun kind rr => un_i rr fun size rr => un_i rr fun n2 rr => un_nil rr (out (CtrlFire kind size n2) k')
theorem CtrlFire_Se (kind : Int) (size : Int) (n2 : Int) : CtrlFire_S [.i kind, .i size, .i n2] = CtrlFire kind size n2 := by
  unfold CtrlFire_S
  simp only [un_i_ev, un_b_ev, un_s_ev, un_li_ev, un_lb_ev, un_ls_ev, un_nil_ev]
theorem CtrlFire_says : Says CtrlFire_SC CtrlFire_S := by
  intro β ls' k' r' h'
  unfold CtrlFire_SC at h'
  obtain ⟨kind, l'1, rfl, h'1⟩ := un_i_some.1 h'
  obtain ⟨size, l'2, rfl, h'2⟩ := un_i_some.1 h'1
  obtain ⟨n2, l'3, rfl, h'3⟩ := un_i_some.1 h'2
  obtain ⟨rfl, h'Z⟩ := un_nil_some.1 h'3
  obtain ⟨l', a', b'⟩ := out_some.1 h'Z
  exact ⟨l', (CtrlFire_Se kind size n2).trans a', b'⟩
theorem CtrlFire_c : FnC Go.Proofs.Tryz.prog 3 false 3 0 CtrlFire_in CtrlFire_out CtrlFire_S := by
  refine fn_ok (Λ := CtrlFire_Λ) mixed tab_ok g68 Go.Proofs.Tryz.func3 (by kernel_rfl) (body := fb Go.Proofs.Tryz.f3) rfl (ts := Go.Proofs.Tryz.f3.results.toList) rfl (cuts := []) (by kernel_rfl) (Nat.le_of_ble_eq_true (by kernel_rfl)) (by kernel_rfl) (rt := .w (.at (.bool))) rfl ?_ ?_
  · intro ls' r' h'
    unfold CtrlFire_S at h'
    obtain ⟨kind, l'1, rfl, h'1⟩ := un_i_some.1 h'
    obtain ⟨size, l'2, rfl, h'2⟩ := un_i_some.1 h'1
    obtain ⟨n2, l'3, rfl, h'3⟩ := un_i_some.1 h'2
    obtain ⟨rfl, h'Z⟩ := un_nil_some.1 h'3
    exact (CtrlFire_e kind size n2).symm.trans h'Z
  · intro E w0 ws ρ0 hk b hb
    rw [show loopsOf (fb Go.Proofs.Tryz.f3) = [(bodyAt (fb Go.Proofs.Tryz.f3) 0)] by kernel_rfl] at hb
    simp only [List.mem_cons, List.mem_nil_iff, or_false] at hb
    rcases hb with rfl
    · exact CtrlFire_13_lok E w0 ws ρ0 hk
noncomputable def G69 : Env := G68.addE 3 3 CtrlFire_in CtrlFire_out CtrlFire_SC
theorem g69 : EnvOk Go.Proofs.Tryz.prog G69 := EnvOk.addE g68 CtrlFire_c CtrlFire_says
end Go.Sx.T

