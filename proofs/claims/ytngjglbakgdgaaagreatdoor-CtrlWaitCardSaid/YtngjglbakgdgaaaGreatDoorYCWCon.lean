import Derived.Test.YtngjglbakgdgaaaGreatDoorYCWSpec
import Derived.Test.YtngjglbakgdgaaaGreatDoorYwCtlCon
import Derived.Test.YtngjglbakgdgaaaGreatDoorL6
set_option linter.all false
namespace Go.Sx.T
open Go Go.Sx Go.Proofs
set_option maxRecDepth 100000
noncomputable def G45 : Env := G44.addM 111 "Kind" 275
theorem g45 : EnvOk Go.Proofs.Tryz.prog G45 := EnvOk.addM g44 (by kernel_rfl) Go.Proofs.Tryz.underlying111
noncomputable def G46 : Env := G45.addM 111 "May" 276
theorem g46 : EnvOk Go.Proofs.Tryz.prog G46 := EnvOk.addM g45 (by kernel_rfl) Go.Proofs.Tryz.underlying111
noncomputable def G47 : Env := G46.addM 111 "Sent" 277
theorem g47 : EnvOk Go.Proofs.Tryz.prog G47 := EnvOk.addM g46 (by kernel_rfl) Go.Proofs.Tryz.underlying111
noncomputable def G48 : Env := G47.addM 111 "Hear" 274
theorem g48 : EnvOk Go.Proofs.Tryz.prog G48 := EnvOk.addM g47 (by kernel_rfl) Go.Proofs.Tryz.underlying111
noncomputable def G49 : Env := G48.addM 111 "Fire" 273
theorem g49 : EnvOk Go.Proofs.Tryz.prog G49 := EnvOk.addM g48 (by kernel_rfl) Go.Proofs.Tryz.underlying111
noncomputable def G50 : Env := G49.addM 111 "Due" 272
theorem g50 : EnvOk Go.Proofs.Tryz.prog G50 := EnvOk.addM g49 (by kernel_rfl) Go.Proofs.Tryz.underlying111
noncomputable def G51 : Env := G50.addM 115 "Kind" 281
theorem g51 : EnvOk Go.Proofs.Tryz.prog G51 := EnvOk.addM g50 (by kernel_rfl) Go.Proofs.Tryz.underlying115
noncomputable def G52 : Env := G51.addM 115 "May" 282
theorem g52 : EnvOk Go.Proofs.Tryz.prog G52 := EnvOk.addM g51 (by kernel_rfl) Go.Proofs.Tryz.underlying115
noncomputable def G53 : Env := G52.addM 115 "Sent" 283
theorem g53 : EnvOk Go.Proofs.Tryz.prog G53 := EnvOk.addM g52 (by kernel_rfl) Go.Proofs.Tryz.underlying115
noncomputable def G54 : Env := G53.addM 115 "Hear" 280
theorem g54 : EnvOk Go.Proofs.Tryz.prog G54 := EnvOk.addM g53 (by kernel_rfl) Go.Proofs.Tryz.underlying115
noncomputable def G55 : Env := G54.addM 115 "Fire" 279
theorem g55 : EnvOk Go.Proofs.Tryz.prog G55 := EnvOk.addM g54 (by kernel_rfl) Go.Proofs.Tryz.underlying115
noncomputable def G56 : Env := G55.addM 115 "Due" 278
theorem g56 : EnvOk Go.Proofs.Tryz.prog G56 := EnvOk.addM g55 (by kernel_rfl) Go.Proofs.Tryz.underlying115
noncomputable def fnsC : Fns := [(19, Go.Proofs.Tryz.f19), (25, Go.Proofs.Tryz.f25), (54, Go.Proofs.Tryz.f54), (21, Go.Proofs.Tryz.f21)]
theorem fnsC_ok : FnsOk Go.Proofs.Tryz.prog fnsC := .cons Go.Proofs.Tryz.func19 (by kernel_rfl) <| .cons Go.Proofs.Tryz.func25 (by kernel_rfl) <| .cons Go.Proofs.Tryz.func54 (by kernel_rfl) <| .cons Go.Proofs.Tryz.func21 (by kernel_rfl) <| .nil
noncomputable def G57 : Env := inlC fnsC tab G56 6
theorem g57 : EnvOk Go.Proofs.Tryz.prog G57 := EnvOk.inlC mixed tab_ok g56 fnsC_ok 6

-- ### CtrlWait: function 4
def CtrlWait_in : Tm := ⟨[], [(0, .w (.at (.int .i64))), (1, .w (.at (.int .i64)))]⟩
def CtrlWait_out : Tm := ⟨[], [(0, .w (.at (.bool)))]⟩
def CtrlWait_9111_T : Tm := ⟨[.cells 114 [.ptr 1 0], .cells 129 [.int .i64, .int .i64, .int .i64, .int .i64, .ptr 2 0, .int .u64, .bool, .int .u64, .bool, .bool, .int .i64], .cells 183 [.bool, .int .i64, .int .i64, .int .i64], .cells 117 [.ptr 4 0, .ptr 5 0, .int .u64], .cells 123 [.int .u64, .int .u64, .int .u64, .int .i64, .bool, .int .i64, .ptr 6 0, .bool, .bool, .int .i64], .cells 142 [.int .u64, .int .u64, .int .u64, .int .u64, .int .i64], .cells 181 [.all 7 2], .row 178 2 [.int .i64, .int .u64]], [(8, .w (.at (.int .i64))), (1, .w (.at (.int .i64))), (6, .w (.at (.iface 111 0 0))), (7, .w (.at (.iface 115 3 0))), (0, .w (.at (.int .i64)))]⟩
def CtrlWait_9111_X0 : Tm := ⟨[.cells 117 [.ptr 1 0, .ptr 2 0, .int .u64], .cells 123 [.int .u64, .int .u64, .int .u64, .int .i64, .bool, .int .i64, .ptr 3 0, .bool, .bool, .int .i64], .cells 142 [.int .u64, .int .u64, .int .u64, .int .u64, .int .i64], .cells 181 [.all 4 2], .row 178 2 [.int .i64, .int .u64], .cells 114 [.ptr 6 0], .cells 129 [.int .i64, .int .i64, .int .i64, .int .i64, .ptr 7 0, .int .u64, .bool, .int .u64, .bool, .bool, .int .i64], .cells 183 [.bool, .int .i64, .int .i64, .int .i64]], [(1, .w (.at (.int .i64))), (7, .w (.at (.iface 115 0 0))), (0, .w (.at (.int .i64))), (6, .w (.at (.iface 111 5 0)))]⟩
def CtrlWait_9111_X : Exits := [(0, (CtrlWait_9111_X0, []))]
def CtrlWait_9111_R : Tm := ⟨[], [(4, .w (.at (.bool)))]⟩

def CtrlWait_Λd (L9111 : ({β : Type} → (Nat → List Leaf → Option β) → (List Leaf → Option β) → Nat → List Int → List Int → Int → Int → Int → Int → Int → Bool → Int → Bool → Bool → Int → Bool → Int → Int → Int → Int → Int → Int → Int → Int → Bool → Int → Bool → Bool → Int → Int → Int → Int → Int → Int → Int → Int → Int → Option β)) : Loops := ⟨fun b fr H kx kr => bif Nat.beq (rid b) 9 then (bif faceIs fr 6 111 then loopE 0 CtrlWait_9111_T [] CtrlWait_9111_X CtrlWait_9111_R (CtrlWait_9111_F @L9111 top) fr H kx kr else none) else none⟩
def CtrlWait_Λ : Loops := CtrlWait_Λd @CtrlWait_9111_L
theorem CtrlWait_9111_e (L9111 : ({β : Type} → (Nat → List Leaf → Option β) → (List Leaf → Option β) → Nat → List Int → List Int → Int → Int → Int → Int → Int → Bool → Int → Bool → Bool → Int → Bool → Int → Int → Int → Int → Int → Int → Int → Int → Bool → Int → Bool → Bool → Int → Int → Int → Int → Int → Int → Int → Int → Int → Option β)) {α : Type} (kx : Nat → List Leaf → Option α) (kr : List Leaf → Option α) (again : List Int → List Int → Int → Int → Int → Int → Int → Bool → Int → Bool → Bool → Int → Bool → Int → Int → Int → Int → Int → Int → Int → Int → Bool → Int → Bool → Bool → Int → Int → Int → Int → Int → Int → Int → Int → Int → Option α) (b_t_set_l0 : List Int) (b_t_set_l1 : List Int) (a_w_cwnd : Int) (a_w_slow : Int) (a_w_pipe : Int) (a_w_count : Int) (a_w_halved_n : Int) (a_w_halved_is : Bool) (a_w_last_n : Int) (a_w_last_is : Bool) (a_w_runs : Bool) (a_w_due : Int) (a_w_rtt_any : Bool) (a_w_rtt_smooth : Int) (a_w_rtt_spread : Int) (a_w_rtt_rto : Int) (b_last : Int) (b_t_s : Int) (b_t_x : Int) (b_t_loss : Int) (b_t_rtt : Int) (b_t_heard : Bool) (b_t_doubled : Int) (b_t_began : Bool) (b_t_started : Bool) (b_t_due : Int) (b_p_s : Int) (b_p_tick : Int) (b_p_has : Int) (b_p_rate : Int) (b_p_now : Int) (i : Int) (n2 : Int) (size : Int) : CtrlWait_9111_B  kx kr again b_t_set_l0 b_t_set_l1 a_w_cwnd a_w_slow a_w_pipe a_w_count a_w_halved_n a_w_halved_is a_w_last_n a_w_last_is a_w_runs a_w_due a_w_rtt_any a_w_rtt_smooth a_w_rtt_spread a_w_rtt_rto b_last b_t_s b_t_x b_t_loss b_t_rtt b_t_heard b_t_doubled b_t_began b_t_started b_t_due b_p_s b_p_tick b_p_has b_p_rate b_p_now i n2 size = loopB G57 (CtrlWait_Λd @L9111) false tab Go.Proofs.Tryz.f4.ntmps 0 CtrlWait_9111_T [] CtrlWait_9111_X CtrlWait_9111_R (bodyAt (fb Go.Proofs.Tryz.f4) 0) (fun ls => un_li ls fun b_t_set_l0 rr => un_li rr fun b_t_set_l1 rr => un_i rr fun a_w_cwnd rr => un_i rr fun a_w_slow rr => un_i rr fun a_w_pipe rr => un_i rr fun a_w_count rr => un_i rr fun a_w_halved_n rr => un_b rr fun a_w_halved_is rr => un_i rr fun a_w_last_n rr => un_b rr fun a_w_last_is rr => un_b rr fun a_w_runs rr => un_i rr fun a_w_due rr => un_b rr fun a_w_rtt_any rr => un_i rr fun a_w_rtt_smooth rr => un_i rr fun a_w_rtt_spread rr => un_i rr fun a_w_rtt_rto rr => un_i rr fun b_last rr => un_i rr fun b_t_s rr => un_i rr fun b_t_x rr => un_i rr fun b_t_loss rr => un_i rr fun b_t_rtt rr => un_b rr fun b_t_heard rr => un_i rr fun b_t_doubled rr => un_b rr fun b_t_began rr => un_b rr fun b_t_started rr => un_i rr fun b_t_due rr => un_i rr fun b_p_s rr => un_i rr fun b_p_tick rr => un_i rr fun b_p_has rr => un_i rr fun b_p_rate rr => un_i rr fun b_p_now rr => un_i rr fun i rr => un_i rr fun n2 rr => un_i rr fun size rr => un_nil rr (again b_t_set_l0 b_t_set_l1 a_w_cwnd a_w_slow a_w_pipe a_w_count a_w_halved_n a_w_halved_is a_w_last_n a_w_last_is a_w_runs a_w_due a_w_rtt_any a_w_rtt_smooth a_w_rtt_spread a_w_rtt_rto b_last b_t_s b_t_x b_t_loss b_t_rtt b_t_heard b_t_doubled b_t_began b_t_started b_t_due b_p_s b_p_tick b_p_has b_p_rate b_p_now i n2 size)) kx kr (instFr CtrlWait_9111_T [.li b_t_set_l0, .li b_t_set_l1, .i a_w_cwnd, .i a_w_slow, .i a_w_pipe, .i a_w_count, .i a_w_halved_n, .b a_w_halved_is, .i a_w_last_n, .b a_w_last_is, .b a_w_runs, .i a_w_due, .b a_w_rtt_any, .i a_w_rtt_smooth, .i a_w_rtt_spread, .i a_w_rtt_rto, .i b_last, .i b_t_s, .i b_t_x, .i b_t_loss, .i b_t_rtt, .b b_t_heard, .i b_t_doubled, .b b_t_began, .b b_t_started, .i b_t_due, .i b_p_s, .i b_p_tick, .i b_p_has, .i b_p_rate, .i b_p_now, .i i, .i n2, .i size]) (instH CtrlWait_9111_T [.li b_t_set_l0, .li b_t_set_l1, .i a_w_cwnd, .i a_w_slow, .i a_w_pipe, .i a_w_count, .i a_w_halved_n, .b a_w_halved_is, .i a_w_last_n, .b a_w_last_is, .b a_w_runs, .i a_w_due, .b a_w_rtt_any, .i a_w_rtt_smooth, .i a_w_rtt_spread, .i a_w_rtt_rto, .i b_last, .i b_t_s, .i b_t_x, .i b_t_loss, .i b_t_rtt, .b b_t_heard, .i b_t_doubled, .b b_t_began, .b b_t_started, .i b_t_due, .i b_p_s, .i b_p_tick, .i b_p_has, .i b_p_rate, .i b_p_now, .i i, .i n2, .i size]) := by kernel_rfl
theorem CtrlWait_9_pick {α : Type} (fr : Fr) (H : Heap) (kx : Nat → Fr → Heap → Option α) (kr : Fr → Heap → Option α) : CtrlWait_Λ.loop (bodyAt (fb Go.Proofs.Tryz.f4) 0) fr H kx kr = (bif faceIs fr 6 111 then loopE 0 CtrlWait_9111_T [] CtrlWait_9111_X CtrlWait_9111_R (CtrlWait_9111_F @CtrlWait_9111_L top) fr H kx kr else none) := by kernel_rfl
theorem CtrlWait_9111_lokD (E : Nat → Prop) (w0 ws : World) (ρ0 : List Pl) (hk : ρ0.length = 0) : LOkD (fun fr => faceIs fr 6 111) Go.Proofs.Tryz.prog 4 Go.Proofs.Tryz.f4 false E w0 ws Go.Proofs.Tryz.f4.ntmps ρ0 CtrlWait_Λ (bodyAt (fb Go.Proofs.Tryz.f4) 0) := by
  refine lokD mixed tab_ok g57 Go.Proofs.Tryz.func4 hk (T := CtrlWait_9111_T) (rt := CtrlWait_9111_R) (cuts := []) (ex := CtrlWait_9111_X) (top := top) (F := CtrlWait_9111_F @CtrlWait_9111_L) (fun fr H kx kr hd => by rw [CtrlWait_9_pick, show faceIs fr 6 111 = true from hd]; rfl) ?_ ?_ ?_
  · intro α ls' kx' kr' r' h'
    unfold CtrlWait_9111_F at h'
    obtain ⟨b_t_set_l0, l'1, rfl, h'1⟩ := un_li_some.1 h'
    obtain ⟨b_t_set_l1, l'2, rfl, h'2⟩ := un_li_some.1 h'1
    obtain ⟨a_w_cwnd, l'3, rfl, h'3⟩ := un_i_some.1 h'2
    obtain ⟨a_w_slow, l'4, rfl, h'4⟩ := un_i_some.1 h'3
    obtain ⟨a_w_pipe, l'5, rfl, h'5⟩ := un_i_some.1 h'4
    obtain ⟨a_w_count, l'6, rfl, h'6⟩ := un_i_some.1 h'5
    obtain ⟨a_w_halved_n, l'7, rfl, h'7⟩ := un_i_some.1 h'6
    obtain ⟨a_w_halved_is, l'8, rfl, h'8⟩ := un_b_some.1 h'7
    obtain ⟨a_w_last_n, l'9, rfl, h'9⟩ := un_i_some.1 h'8
    obtain ⟨a_w_last_is, l'10, rfl, h'10⟩ := un_b_some.1 h'9
    obtain ⟨a_w_runs, l'11, rfl, h'11⟩ := un_b_some.1 h'10
    obtain ⟨a_w_due, l'12, rfl, h'12⟩ := un_i_some.1 h'11
    obtain ⟨a_w_rtt_any, l'13, rfl, h'13⟩ := un_b_some.1 h'12
    obtain ⟨a_w_rtt_smooth, l'14, rfl, h'14⟩ := un_i_some.1 h'13
    obtain ⟨a_w_rtt_spread, l'15, rfl, h'15⟩ := un_i_some.1 h'14
    obtain ⟨a_w_rtt_rto, l'16, rfl, h'16⟩ := un_i_some.1 h'15
    obtain ⟨b_last, l'17, rfl, h'17⟩ := un_i_some.1 h'16
    obtain ⟨b_t_s, l'18, rfl, h'18⟩ := un_i_some.1 h'17
    obtain ⟨b_t_x, l'19, rfl, h'19⟩ := un_i_some.1 h'18
    obtain ⟨b_t_loss, l'20, rfl, h'20⟩ := un_i_some.1 h'19
    obtain ⟨b_t_rtt, l'21, rfl, h'21⟩ := un_i_some.1 h'20
    obtain ⟨b_t_heard, l'22, rfl, h'22⟩ := un_b_some.1 h'21
    obtain ⟨b_t_doubled, l'23, rfl, h'23⟩ := un_i_some.1 h'22
    obtain ⟨b_t_began, l'24, rfl, h'24⟩ := un_b_some.1 h'23
    obtain ⟨b_t_started, l'25, rfl, h'25⟩ := un_b_some.1 h'24
    obtain ⟨b_t_due, l'26, rfl, h'26⟩ := un_i_some.1 h'25
    obtain ⟨b_p_s, l'27, rfl, h'27⟩ := un_i_some.1 h'26
    obtain ⟨b_p_tick, l'28, rfl, h'28⟩ := un_i_some.1 h'27
    obtain ⟨b_p_has, l'29, rfl, h'29⟩ := un_i_some.1 h'28
    obtain ⟨b_p_rate, l'30, rfl, h'30⟩ := un_i_some.1 h'29
    obtain ⟨b_p_now, l'31, rfl, h'31⟩ := un_i_some.1 h'30
    obtain ⟨i, l'32, rfl, h'32⟩ := un_i_some.1 h'31
    obtain ⟨n2, l'33, rfl, h'33⟩ := un_i_some.1 h'32
    obtain ⟨size, l'34, rfl, h'34⟩ := un_i_some.1 h'33
    obtain ⟨rfl, h'Z⟩ := un_nil_some.1 h'34
    cases h'Z
  · intro α n' ls' kx' kr' r' h'
    unfold CtrlWait_9111_F at h'
    obtain ⟨b_t_set_l0, l'1, rfl, h'1⟩ := un_li_some.1 h'
    obtain ⟨b_t_set_l1, l'2, rfl, h'2⟩ := un_li_some.1 h'1
    obtain ⟨a_w_cwnd, l'3, rfl, h'3⟩ := un_i_some.1 h'2
    obtain ⟨a_w_slow, l'4, rfl, h'4⟩ := un_i_some.1 h'3
    obtain ⟨a_w_pipe, l'5, rfl, h'5⟩ := un_i_some.1 h'4
    obtain ⟨a_w_count, l'6, rfl, h'6⟩ := un_i_some.1 h'5
    obtain ⟨a_w_halved_n, l'7, rfl, h'7⟩ := un_i_some.1 h'6
    obtain ⟨a_w_halved_is, l'8, rfl, h'8⟩ := un_b_some.1 h'7
    obtain ⟨a_w_last_n, l'9, rfl, h'9⟩ := un_i_some.1 h'8
    obtain ⟨a_w_last_is, l'10, rfl, h'10⟩ := un_b_some.1 h'9
    obtain ⟨a_w_runs, l'11, rfl, h'11⟩ := un_b_some.1 h'10
    obtain ⟨a_w_due, l'12, rfl, h'12⟩ := un_i_some.1 h'11
    obtain ⟨a_w_rtt_any, l'13, rfl, h'13⟩ := un_b_some.1 h'12
    obtain ⟨a_w_rtt_smooth, l'14, rfl, h'14⟩ := un_i_some.1 h'13
    obtain ⟨a_w_rtt_spread, l'15, rfl, h'15⟩ := un_i_some.1 h'14
    obtain ⟨a_w_rtt_rto, l'16, rfl, h'16⟩ := un_i_some.1 h'15
    obtain ⟨b_last, l'17, rfl, h'17⟩ := un_i_some.1 h'16
    obtain ⟨b_t_s, l'18, rfl, h'18⟩ := un_i_some.1 h'17
    obtain ⟨b_t_x, l'19, rfl, h'19⟩ := un_i_some.1 h'18
    obtain ⟨b_t_loss, l'20, rfl, h'20⟩ := un_i_some.1 h'19
    obtain ⟨b_t_rtt, l'21, rfl, h'21⟩ := un_i_some.1 h'20
    obtain ⟨b_t_heard, l'22, rfl, h'22⟩ := un_b_some.1 h'21
    obtain ⟨b_t_doubled, l'23, rfl, h'23⟩ := un_i_some.1 h'22
    obtain ⟨b_t_began, l'24, rfl, h'24⟩ := un_b_some.1 h'23
    obtain ⟨b_t_started, l'25, rfl, h'25⟩ := un_b_some.1 h'24
    obtain ⟨b_t_due, l'26, rfl, h'26⟩ := un_i_some.1 h'25
    obtain ⟨b_p_s, l'27, rfl, h'27⟩ := un_i_some.1 h'26
    obtain ⟨b_p_tick, l'28, rfl, h'28⟩ := un_i_some.1 h'27
    obtain ⟨b_p_has, l'29, rfl, h'29⟩ := un_i_some.1 h'28
    obtain ⟨b_p_rate, l'30, rfl, h'30⟩ := un_i_some.1 h'29
    obtain ⟨b_p_now, l'31, rfl, h'31⟩ := un_i_some.1 h'30
    obtain ⟨i, l'32, rfl, h'32⟩ := un_i_some.1 h'31
    obtain ⟨n2, l'33, rfl, h'33⟩ := un_i_some.1 h'32
    obtain ⟨size, l'34, rfl, h'34⟩ := un_i_some.1 h'33
    obtain ⟨rfl, h'Z⟩ := un_nil_some.1 h'34
    exact (CtrlWait_9111_e @CtrlWait_9111_L kx' kr' (CtrlWait_9111_L kx' kr' n') b_t_set_l0 b_t_set_l1 a_w_cwnd a_w_slow a_w_pipe a_w_count a_w_halved_n a_w_halved_is a_w_last_n a_w_last_is a_w_runs a_w_due a_w_rtt_any a_w_rtt_smooth a_w_rtt_spread a_w_rtt_rto b_last b_t_s b_t_x b_t_loss b_t_rtt b_t_heard b_t_doubled b_t_began b_t_started b_t_due b_p_s b_p_tick b_p_has b_p_rate b_p_now i n2 size).symm.trans h'Z
  · intro b' hb
    rw [show loopsOf (bodyAt (fb Go.Proofs.Tryz.f4) 0) = [] by kernel_rfl] at hb
    cases hb
theorem CtrlWait_9_lok (E : Nat → Prop) (w0 ws : World) (ρ0 : List Pl) (hk : ρ0.length = 0) : LOk Go.Proofs.Tryz.prog 4 Go.Proofs.Tryz.f4 false E w0 ws Go.Proofs.Tryz.f4.ntmps ρ0 CtrlWait_Λ (bodyAt (fb Go.Proofs.Tryz.f4) 0) :=
  lok_two (d1 := (fun fr => faceIs fr 6 111)) (d2 := (fun fr => faceIs fr 6 111)) (fun fr H kx kr h1 _ => by rw [CtrlWait_9_pick, show faceIs fr 6 111 = false from h1]; rfl) (CtrlWait_9111_lokD E w0 ws ρ0 hk) (CtrlWait_9111_lokD E w0 ws ρ0 hk)
theorem CtrlWait_ed (L9111 : ({β : Type} → (Nat → List Leaf → Option β) → (List Leaf → Option β) → Nat → List Int → List Int → Int → Int → Int → Int → Int → Bool → Int → Bool → Bool → Int → Bool → Int → Int → Int → Int → Int → Int → Int → Int → Bool → Int → Bool → Bool → Int → Int → Int → Int → Int → Int → Int → Int → Int → Option β)) (size : Int) (n2 : Int) : CtrlWait_d @L9111 size n2 = den G57 (CtrlWait_Λd @L9111) false tab Go.Proofs.Tryz.f4.ntmps (fun fr H => finish tab 0 Go.Proofs.Tryz.f4.results.toList CtrlWait_out [] fr H some) (fun _ _ _ => none) (fun fr H => finish tab 0 Go.Proofs.Tryz.f4.results.toList CtrlWait_out [] fr H some) 10000 [.code (fb Go.Proofs.Tryz.f4)] (instFr CtrlWait_in [.i size, .i n2]) (instH CtrlWait_in [.i size, .i n2]) := by kernel_rfl
theorem CtrlWait_e (size : Int) (n2 : Int) : CtrlWait size n2 = den G57 CtrlWait_Λ false tab Go.Proofs.Tryz.f4.ntmps (fun fr H => finish tab 0 Go.Proofs.Tryz.f4.results.toList CtrlWait_out [] fr H some) (fun _ _ _ => none) (fun fr H => finish tab 0 Go.Proofs.Tryz.f4.results.toList CtrlWait_out [] fr H some) 10000 [.code (fb Go.Proofs.Tryz.f4)] (instFr CtrlWait_in [.i size, .i n2]) (instH CtrlWait_in [.i size, .i n2]) := CtrlWait_ed @CtrlWait_9111_L size n2
def CtrlWait_S : List Leaf → Option (List Leaf) := fun ls => un_i ls fun size rr => un_i rr fun n2 rr => un_nil rr (CtrlWait size n2)
def CtrlWait_SC : Tld := fun ls k' => un_i ls fun size rr => un_i rr fun n2 rr => un_nil rr (out (CtrlWait size n2) k')
theorem CtrlWait_Se (size : Int) (n2 : Int) : CtrlWait_S [.i size, .i n2] = CtrlWait size n2 := by
  unfold CtrlWait_S
  simp only [un_i_ev, un_b_ev, un_s_ev, un_li_ev, un_lb_ev, un_ls_ev, un_nil_ev]
theorem CtrlWait_says : Says CtrlWait_SC CtrlWait_S := by
  intro β ls' k' r' h'
  unfold CtrlWait_SC at h'
  obtain ⟨size, l'1, rfl, h'1⟩ := un_i_some.1 h'
  obtain ⟨n2, l'2, rfl, h'2⟩ := un_i_some.1 h'1
  obtain ⟨rfl, h'Z⟩ := un_nil_some.1 h'2
  obtain ⟨l', a', b'⟩ := out_some.1 h'Z
  exact ⟨l', (CtrlWait_Se size n2).trans a', b'⟩
theorem CtrlWait_c : FnC Go.Proofs.Tryz.prog 4 false 2 0 CtrlWait_in CtrlWait_out CtrlWait_S := by
  refine fn_ok (Λ := CtrlWait_Λ) mixed tab_ok g57 Go.Proofs.Tryz.func4 (by kernel_rfl) (body := fb Go.Proofs.Tryz.f4) rfl (ts := Go.Proofs.Tryz.f4.results.toList) rfl (cuts := []) (by kernel_rfl) (Nat.le_of_ble_eq_true (by kernel_rfl)) (by kernel_rfl) (rt := .w (.at (.bool))) rfl ?_ ?_
  · intro ls' r' h'
    unfold CtrlWait_S at h'
    obtain ⟨size, l'1, rfl, h'1⟩ := un_i_some.1 h'
    obtain ⟨n2, l'2, rfl, h'2⟩ := un_i_some.1 h'1
    obtain ⟨rfl, h'Z⟩ := un_nil_some.1 h'2
    exact (CtrlWait_e size n2).symm.trans h'Z
  · intro E w0 ws ρ0 hk b hb
    rw [show loopsOf (fb Go.Proofs.Tryz.f4) = [(bodyAt (fb Go.Proofs.Tryz.f4) 0)] by kernel_rfl] at hb
    simp only [List.mem_cons, List.mem_nil_iff, or_false] at hb
    rcases hb with rfl
    · exact CtrlWait_9_lok E w0 ws ρ0 hk
noncomputable def G58 : Env := G57.addE 4 2 CtrlWait_in CtrlWait_out CtrlWait_SC
theorem g58 : EnvOk Go.Proofs.Tryz.prog G58 := EnvOk.addE g57 CtrlWait_c CtrlWait_says
end Go.Sx.T

