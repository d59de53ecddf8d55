import Derived.Test.YtngjglbakgdgaaaGreatDoorYCLSpec
import Derived.Test.YtngjglbakgdgaaaGreatDoorYnCtlCon
import Derived.Test.YtngjglbakgdgaaaGreatDoorL6
set_option linter.all false
namespace Go.Sx.T
open Go Go.Sx Go.Proofs
set_option maxRecDepth 100000
noncomputable def G60 : Env := G59.addM 111 "Kind" 275
theorem g60 : EnvOk Go.Proofs.Tryz.prog G60 := EnvOk.addM g59 (by kernel_rfl) Go.Proofs.Tryz.underlying111
noncomputable def G61 : Env := G60.addM 111 "May" 276
theorem g61 : EnvOk Go.Proofs.Tryz.prog G61 := EnvOk.addM g60 (by kernel_rfl) Go.Proofs.Tryz.underlying111
noncomputable def G62 : Env := G61.addM 111 "Sent" 277
theorem g62 : EnvOk Go.Proofs.Tryz.prog G62 := EnvOk.addM g61 (by kernel_rfl) Go.Proofs.Tryz.underlying111
noncomputable def G63 : Env := G62.addM 111 "Hear" 274
theorem g63 : EnvOk Go.Proofs.Tryz.prog G63 := EnvOk.addM g62 (by kernel_rfl) Go.Proofs.Tryz.underlying111
noncomputable def G64 : Env := G63.addM 111 "Fire" 273
theorem g64 : EnvOk Go.Proofs.Tryz.prog G64 := EnvOk.addM g63 (by kernel_rfl) Go.Proofs.Tryz.underlying111
noncomputable def G65 : Env := G64.addM 111 "Due" 272
theorem g65 : EnvOk Go.Proofs.Tryz.prog G65 := EnvOk.addM g64 (by kernel_rfl) Go.Proofs.Tryz.underlying111
noncomputable def G66 : Env := G65.addM 115 "Kind" 281
theorem g66 : EnvOk Go.Proofs.Tryz.prog G66 := EnvOk.addM g65 (by kernel_rfl) Go.Proofs.Tryz.underlying115
noncomputable def G67 : Env := G66.addM 115 "May" 282
theorem g67 : EnvOk Go.Proofs.Tryz.prog G67 := EnvOk.addM g66 (by kernel_rfl) Go.Proofs.Tryz.underlying115
noncomputable def G68 : Env := G67.addM 115 "Sent" 283
theorem g68 : EnvOk Go.Proofs.Tryz.prog G68 := EnvOk.addM g67 (by kernel_rfl) Go.Proofs.Tryz.underlying115
noncomputable def G69 : Env := G68.addM 115 "Hear" 280
theorem g69 : EnvOk Go.Proofs.Tryz.prog G69 := EnvOk.addM g68 (by kernel_rfl) Go.Proofs.Tryz.underlying115
noncomputable def G70 : Env := G69.addM 115 "Fire" 279
theorem g70 : EnvOk Go.Proofs.Tryz.prog G70 := EnvOk.addM g69 (by kernel_rfl) Go.Proofs.Tryz.underlying115
noncomputable def G71 : Env := G70.addM 115 "Due" 278
theorem g71 : EnvOk Go.Proofs.Tryz.prog G71 := EnvOk.addM g70 (by kernel_rfl) Go.Proofs.Tryz.underlying115
noncomputable def fnsC : Fns := [(19, Go.Proofs.Tryz.f19), (25, Go.Proofs.Tryz.f25), (54, Go.Proofs.Tryz.f54), (21, Go.Proofs.Tryz.f21), (274, Go.Proofs.Tryz.f274), (266, Go.Proofs.Tryz.f266)]
theorem fnsC_ok : FnsOk Go.Proofs.Tryz.prog fnsC := .cons Go.Proofs.Tryz.func19 (by kernel_rfl) <| .cons Go.Proofs.Tryz.func25 (by kernel_rfl) <| .cons Go.Proofs.Tryz.func54 (by kernel_rfl) <| .cons Go.Proofs.Tryz.func21 (by kernel_rfl) <| .cons Go.Proofs.Tryz.func274 (by kernel_rfl) <| .cons Go.Proofs.Tryz.func266 (by kernel_rfl) <| .nil
noncomputable def G72 : Env := inlC fnsC tab G71 6
theorem g72 : EnvOk Go.Proofs.Tryz.prog G72 := EnvOk.inlC mixed tab_ok g71 fnsC_ok 6

-- ### CtrlNoLoss: function 7
def CtrlNoLoss_in : Tm := ⟨[], [(0, .w (.at (.int .i64))), (1, .w (.at (.int .i64))), (2, .w (.at (.int .i64))), (3, .w (.at (.int .i64)))]⟩
def CtrlNoLoss_out : Tm := ⟨[], [(0, .w (.at (.bool)))]⟩
def CtrlNoLoss_11111_T : Tm := ⟨[.cells 114 [.ptr 1 0], .cells 129 [.int .i64, .int .i64, .int .i64, .int .i64, .ptr 2 0, .int .u64, .bool, .int .u64, .bool, .bool, .int .i64], .cells 183 [.bool, .int .i64, .int .i64, .int .i64]], [(14, .w (.at (.int .i64))), (12, .w (.at (.int .i64))), (13, .w (.at (.int .u64))), (10, .w (.at (.iface 111 0 0))), (2, .w (.at (.int .i64))), (11, .w (.at (.int .i64))), (3, .w (.at (.int .i64)))]⟩
def CtrlNoLoss_11111_X0 : Tm := ⟨[], []⟩
def CtrlNoLoss_11111_X : Exits := [(0, (CtrlNoLoss_11111_X0, []))]
def CtrlNoLoss_11111_R : Tm := ⟨[], [(8, .w (.at (.bool)))]⟩
def CtrlNoLoss_11115_T : Tm := ⟨[.cells 117 [.ptr 1 0, .ptr 2 0, .int .u64], .cells 123 [.int .u64, .int .u64, .int .u64, .int .i64, .bool, .int .i64, .ptr 3 0, .bool, .bool, .int .i64], .cells 142 [.int .u64, .int .u64, .int .u64, .int .u64, .int .i64], .cells 181 [.all 4 2], .row 178 2 [.int .i64, .int .u64]], [(14, .w (.at (.int .i64))), (12, .w (.at (.int .i64))), (13, .w (.at (.int .u64))), (10, .w (.at (.iface 115 0 0))), (2, .w (.at (.int .i64))), (11, .w (.at (.int .i64))), (3, .w (.at (.int .i64)))]⟩
def CtrlNoLoss_11115_X0 : Tm := ⟨[], []⟩
def CtrlNoLoss_11115_X : Exits := [(0, (CtrlNoLoss_11115_X0, []))]
def CtrlNoLoss_11115_R : Tm := ⟨[], [(8, .w (.at (.bool)))]⟩

def CtrlNoLoss_Λd (L11111 : ({β : Type} → (Nat → List Leaf → Option β) → (List Leaf → Option β) → Nat → Int → Int → Int → Int → Int → Bool → Int → Bool → Bool → Int → Bool → Int → Int → Int → Int → Int → Int → Int → Int → Int → Option β)) (L11115 : ({β : Type} → (Nat → List Leaf → Option β) → (List Leaf → Option β) → Nat → List Int → List Int → Int → Int → Int → Int → Int → Bool → Int → Bool → Bool → Int → Int → Int → Int → Int → Int → Int → Int → Int → Int → Int → Int → Option β)) : Loops := ⟨fun b fr H kx kr => bif Nat.beq (rid b) 11 then (bif faceIs fr 10 111 then loopE 0 CtrlNoLoss_11111_T [] CtrlNoLoss_11111_X CtrlNoLoss_11111_R (CtrlNoLoss_11111_F @L11111 top) fr H kx kr else (bif faceIs fr 10 115 then loopE 0 CtrlNoLoss_11115_T [] CtrlNoLoss_11115_X CtrlNoLoss_11115_R (CtrlNoLoss_11115_F @L11115 top) fr H kx kr else none)) else none⟩
def CtrlNoLoss_Λ : Loops := CtrlNoLoss_Λd @CtrlNoLoss_11111_L @CtrlNoLoss_11115_L
theorem CtrlNoLoss_11111_e (L11111 : ({β : Type} → (Nat → List Leaf → Option β) → (List Leaf → Option β) → Nat → Int → Int → Int → Int → Int → Bool → Int → Bool → Bool → Int → Bool → Int → Int → Int → Int → Int → Int → Int → Int → Int → Option β)) (L11115 : ({β : Type} → (Nat → List Leaf → Option β) → (List Leaf → Option β) → Nat → List Int → List Int → Int → Int → Int → Int → Int → Bool → Int → Bool → Bool → Int → Int → Int → Int → Int → Int → Int → Int → Int → Int → Int → Int → Option β)) {α : Type} (kx : Nat → List Leaf → Option α) (kr : List Leaf → Option α) (again : Int → Int → Int → Int → Int → Bool → Int → Bool → Bool → Int → Bool → Int → Int → Int → Int → Int → Int → Int → Int → Int → Option α) (c_w_cwnd : Int) (c_w_slow : Int) (c_w_pipe : Int) (c_w_count : Int) (c_w_halved_n : Int) (c_w_halved_is : Bool) (c_w_last_n : Int) (c_w_last_is : Bool) (c_w_runs : Bool) (c_w_due : Int) (c_w_rtt_any : Bool) (c_w_rtt_smooth : Int) (c_w_rtt_spread : Int) (c_w_rtt_rto : Int) (i : Int) (cwnd : Int) (rate : Int) (r : Int) (now : Int) (n2 : Int) : CtrlNoLoss_11111_B  kx kr again c_w_cwnd c_w_slow c_w_pipe c_w_count c_w_halved_n c_w_halved_is c_w_last_n c_w_last_is c_w_runs c_w_due c_w_rtt_any c_w_rtt_smooth c_w_rtt_spread c_w_rtt_rto i cwnd rate r now n2 = loopB G72 (CtrlNoLoss_Λd @L11111 @L11115) false tab Go.Proofs.Tryz.f7.ntmps 0 CtrlNoLoss_11111_T [] CtrlNoLoss_11111_X CtrlNoLoss_11111_R (bodyAt (fb Go.Proofs.Tryz.f7) 0) (fun ls => un_i ls fun c_w_cwnd rr => un_i rr fun c_w_slow rr => un_i rr fun c_w_pipe rr => un_i rr fun c_w_count rr => un_i rr fun c_w_halved_n rr => un_b rr fun c_w_halved_is rr => un_i rr fun c_w_last_n rr => un_b rr fun c_w_last_is rr => un_b rr fun c_w_runs rr => un_i rr fun c_w_due rr => un_b rr fun c_w_rtt_any rr => un_i rr fun c_w_rtt_smooth rr => un_i rr fun c_w_rtt_spread rr => un_i rr fun c_w_rtt_rto rr => un_i rr fun i rr => un_i rr fun cwnd rr => un_i rr fun rate rr => un_i rr fun r rr => un_i rr fun now rr => un_i rr fun n2 rr => un_nil rr (again c_w_cwnd c_w_slow c_w_pipe c_w_count c_w_halved_n c_w_halved_is c_w_last_n c_w_last_is c_w_runs c_w_due c_w_rtt_any c_w_rtt_smooth c_w_rtt_spread c_w_rtt_rto i cwnd rate r now n2)) kx kr (instFr CtrlNoLoss_11111_T [.i c_w_cwnd, .i c_w_slow, .i c_w_pipe, .i c_w_count, .i c_w_halved_n, .b c_w_halved_is, .i c_w_last_n, .b c_w_last_is, .b c_w_runs, .i c_w_due, .b c_w_rtt_any, .i c_w_rtt_smooth, .i c_w_rtt_spread, .i c_w_rtt_rto, .i i, .i cwnd, .i rate, .i r, .i now, .i n2]) (instH CtrlNoLoss_11111_T [.i c_w_cwnd, .i c_w_slow, .i c_w_pipe, .i c_w_count, .i c_w_halved_n, .b c_w_halved_is, .i c_w_last_n, .b c_w_last_is, .b c_w_runs, .i c_w_due, .b c_w_rtt_any, .i c_w_rtt_smooth, .i c_w_rtt_spread, .i c_w_rtt_rto, .i i, .i cwnd, .i rate, .i r, .i now, .i n2]) := by kernel_rfl
theorem CtrlNoLoss_11115_e (L11111 : ({β : Type} → (Nat → List Leaf → Option β) → (List Leaf → Option β) → Nat → Int → Int → Int → Int → Int → Bool → Int → Bool → Bool → Int → Bool → Int → Int → Int → Int → Int → Int → Int → Int → Int → Option β)) (L11115 : ({β : Type} → (Nat → List Leaf → Option β) → (List Leaf → Option β) → Nat → List Int → List Int → Int → Int → Int → Int → Int → Bool → Int → Bool → Bool → Int → Int → Int → Int → Int → Int → Int → Int → Int → Int → Int → Int → Option β)) {α : Type} (kx : Nat → List Leaf → Option α) (kr : List Leaf → Option α) (again : List Int → List Int → Int → Int → Int → Int → Int → Bool → Int → Bool → Bool → Int → Int → Int → Int → Int → Int → Int → Int → Int → Int → Int → Int → Option α) (c_t_set_l0 : List Int) (c_t_set_l1 : List Int) (c_last : Int) (c_t_s : Int) (c_t_x : Int) (c_t_loss : Int) (c_t_rtt : Int) (c_t_heard : Bool) (c_t_doubled : Int) (c_t_began : Bool) (c_t_started : Bool) (c_t_due : Int) (c_p_s : Int) (c_p_tick : Int) (c_p_has : Int) (c_p_rate : Int) (c_p_now : Int) (i : Int) (cwnd : Int) (rate : Int) (r : Int) (now : Int) (n2 : Int) : CtrlNoLoss_11115_B  kx kr again c_t_set_l0 c_t_set_l1 c_last c_t_s c_t_x c_t_loss c_t_rtt c_t_heard c_t_doubled c_t_began c_t_started c_t_due c_p_s c_p_tick c_p_has c_p_rate c_p_now i cwnd rate r now n2 = loopB G72 (CtrlNoLoss_Λd @L11111 @L11115) false tab Go.Proofs.Tryz.f7.ntmps 0 CtrlNoLoss_11115_T [] CtrlNoLoss_11115_X CtrlNoLoss_11115_R (bodyAt (fb Go.Proofs.Tryz.f7) 0) (fun ls => un_li ls fun c_t_set_l0 rr => un_li rr fun c_t_set_l1 rr => un_i rr fun c_last rr => un_i rr fun c_t_s rr => un_i rr fun c_t_x rr => un_i rr fun c_t_loss rr => un_i rr fun c_t_rtt rr => un_b rr fun c_t_heard rr => un_i rr fun c_t_doubled rr => un_b rr fun c_t_began rr => un_b rr fun c_t_started rr => un_i rr fun c_t_due rr => un_i rr fun c_p_s rr => un_i rr fun c_p_tick rr => un_i rr fun c_p_has rr => un_i rr fun c_p_rate rr => un_i rr fun c_p_now rr => un_i rr fun i rr => un_i rr fun cwnd rr => un_i rr fun rate rr => un_i rr fun r rr => un_i rr fun now rr => un_i rr fun n2 rr => un_nil rr (again c_t_set_l0 c_t_set_l1 c_last c_t_s c_t_x c_t_loss c_t_rtt c_t_heard c_t_doubled c_t_began c_t_started c_t_due c_p_s c_p_tick c_p_has c_p_rate c_p_now i cwnd rate r now n2)) kx kr (instFr CtrlNoLoss_11115_T [.li c_t_set_l0, .li c_t_set_l1, .i c_last, .i c_t_s, .i c_t_x, .i c_t_loss, .i c_t_rtt, .b c_t_heard, .i c_t_doubled, .b c_t_began, .b c_t_started, .i c_t_due, .i c_p_s, .i c_p_tick, .i c_p_has, .i c_p_rate, .i c_p_now, .i i, .i cwnd, .i rate, .i r, .i now, .i n2]) (instH CtrlNoLoss_11115_T [.li c_t_set_l0, .li c_t_set_l1, .i c_last, .i c_t_s, .i c_t_x, .i c_t_loss, .i c_t_rtt, .b c_t_heard, .i c_t_doubled, .b c_t_began, .b c_t_started, .i c_t_due, .i c_p_s, .i c_p_tick, .i c_p_has, .i c_p_rate, .i c_p_now, .i i, .i cwnd, .i rate, .i r, .i now, .i n2]) := by kernel_rfl
theorem CtrlNoLoss_11_pick {α : Type} (fr : Fr) (H : Heap) (kx : Nat → Fr → Heap → Option α) (kr : Fr → Heap → Option α) : CtrlNoLoss_Λ.loop (bodyAt (fb Go.Proofs.Tryz.f7) 0) fr H kx kr = (bif faceIs fr 10 111 then loopE 0 CtrlNoLoss_11111_T [] CtrlNoLoss_11111_X CtrlNoLoss_11111_R (CtrlNoLoss_11111_F @CtrlNoLoss_11111_L top) fr H kx kr else (bif faceIs fr 10 115 then loopE 0 CtrlNoLoss_11115_T [] CtrlNoLoss_11115_X CtrlNoLoss_11115_R (CtrlNoLoss_11115_F @CtrlNoLoss_11115_L top) fr H kx kr else none)) := by kernel_rfl
theorem CtrlNoLoss_11111_lokD (E : Nat → Prop) (w0 ws : World) (ρ0 : List Pl) (hk : ρ0.length = 0) : LOkD (fun fr => faceIs fr 10 111) Go.Proofs.Tryz.prog 7 Go.Proofs.Tryz.f7 false E w0 ws Go.Proofs.Tryz.f7.ntmps ρ0 CtrlNoLoss_Λ (bodyAt (fb Go.Proofs.Tryz.f7) 0) := by
  refine lokD mixed tab_ok g72 Go.Proofs.Tryz.func7 hk (T := CtrlNoLoss_11111_T) (rt := CtrlNoLoss_11111_R) (cuts := []) (ex := CtrlNoLoss_11111_X) (top := top) (F := CtrlNoLoss_11111_F @CtrlNoLoss_11111_L) (fun fr H kx kr hd => by rw [CtrlNoLoss_11_pick, show faceIs fr 10 111 = true from hd]; rfl) ?_ ?_ ?_
  · intro α ls' kx' kr' r' h'
    unfold CtrlNoLoss_11111_F at h'
    obtain ⟨c_w_cwnd, l'1, rfl, h'1⟩ := un_i_some.1 h'
    obtain ⟨c_w_slow, l'2, rfl, h'2⟩ := un_i_some.1 h'1
    obtain ⟨c_w_pipe, l'3, rfl, h'3⟩ := un_i_some.1 h'2
    obtain ⟨c_w_count, l'4, rfl, h'4⟩ := un_i_some.1 h'3
    obtain ⟨c_w_halved_n, l'5, rfl, h'5⟩ := un_i_some.1 h'4
    obtain ⟨c_w_halved_is, l'6, rfl, h'6⟩ := un_b_some.1 h'5
    obtain ⟨c_w_last_n, l'7, rfl, h'7⟩ := un_i_some.1 h'6
    obtain ⟨c_w_last_is, l'8, rfl, h'8⟩ := un_b_some.1 h'7
    obtain ⟨c_w_runs, l'9, rfl, h'9⟩ := un_b_some.1 h'8
    obtain ⟨c_w_due, l'10, rfl, h'10⟩ := un_i_some.1 h'9
    obtain ⟨c_w_rtt_any, l'11, rfl, h'11⟩ := un_b_some.1 h'10
    obtain ⟨c_w_rtt_smooth, l'12, rfl, h'12⟩ := un_i_some.1 h'11
    obtain ⟨c_w_rtt_spread, l'13, rfl, h'13⟩ := un_i_some.1 h'12
    obtain ⟨c_w_rtt_rto, l'14, rfl, h'14⟩ := un_i_some.1 h'13
    obtain ⟨i, l'15, rfl, h'15⟩ := un_i_some.1 h'14
    obtain ⟨cwnd, l'16, rfl, h'16⟩ := un_i_some.1 h'15
    obtain ⟨rate, l'17, rfl, h'17⟩ := un_i_some.1 h'16
    obtain ⟨r, l'18, rfl, h'18⟩ := un_i_some.1 h'17
    obtain ⟨now, l'19, rfl, h'19⟩ := un_i_some.1 h'18
    obtain ⟨n2, l'20, rfl, h'20⟩ := un_i_some.1 h'19
    obtain ⟨rfl, h'Z⟩ := un_nil_some.1 h'20
    cases h'Z
  · intro α n' ls' kx' kr' r' h'
    unfold CtrlNoLoss_11111_F at h'
    obtain ⟨c_w_cwnd, l'1, rfl, h'1⟩ := un_i_some.1 h'
    obtain ⟨c_w_slow, l'2, rfl, h'2⟩ := un_i_some.1 h'1
    obtain ⟨c_w_pipe, l'3, rfl, h'3⟩ := un_i_some.1 h'2
    obtain ⟨c_w_count, l'4, rfl, h'4⟩ := un_i_some.1 h'3
    obtain ⟨c_w_halved_n, l'5, rfl, h'5⟩ := un_i_some.1 h'4
    obtain ⟨c_w_halved_is, l'6, rfl, h'6⟩ := un_b_some.1 h'5
    obtain ⟨c_w_last_n, l'7, rfl, h'7⟩ := un_i_some.1 h'6
    obtain ⟨c_w_last_is, l'8, rfl, h'8⟩ := un_b_some.1 h'7
    obtain ⟨c_w_runs, l'9, rfl, h'9⟩ := un_b_some.1 h'8
    obtain ⟨c_w_due, l'10, rfl, h'10⟩ := un_i_some.1 h'9
    obtain ⟨c_w_rtt_any, l'11, rfl, h'11⟩ := un_b_some.1 h'10
    obtain ⟨c_w_rtt_smooth, l'12, rfl, h'12⟩ := un_i_some.1 h'11
    obtain ⟨c_w_rtt_spread, l'13, rfl, h'13⟩ := un_i_some.1 h'12
    obtain ⟨c_w_rtt_rto, l'14, rfl, h'14⟩ := un_i_some.1 h'13
    obtain ⟨i, l'15, rfl, h'15⟩ := un_i_some.1 h'14
    obtain ⟨cwnd, l'16, rfl, h'16⟩ := un_i_some.1 h'15
    obtain ⟨rate, l'17, rfl, h'17⟩ := un_i_some.1 h'16
    obtain ⟨r, l'18, rfl, h'18⟩ := un_i_some.1 h'17
    obtain ⟨now, l'19, rfl, h'19⟩ := un_i_some.1 h'18
    obtain ⟨n2, l'20, rfl, h'20⟩ := un_i_some.1 h'19
    obtain ⟨rfl, h'Z⟩ := un_nil_some.1 h'20
    exact (CtrlNoLoss_11111_e @CtrlNoLoss_11111_L @CtrlNoLoss_11115_L kx' kr' (CtrlNoLoss_11111_L kx' kr' n') c_w_cwnd c_w_slow c_w_pipe c_w_count c_w_halved_n c_w_halved_is c_w_last_n c_w_last_is c_w_runs c_w_due c_w_rtt_any c_w_rtt_smooth c_w_rtt_spread c_w_rtt_rto i cwnd rate r now n2).symm.trans h'Z
  · intro b' hb
    rw [show loopsOf (bodyAt (fb Go.Proofs.Tryz.f7) 0) = [] by kernel_rfl] at hb
    cases hb
theorem CtrlNoLoss_11115_lokD (E : Nat → Prop) (w0 ws : World) (ρ0 : List Pl) (hk : ρ0.length = 0) : LOkD (fun fr => faceIs fr 10 115) Go.Proofs.Tryz.prog 7 Go.Proofs.Tryz.f7 false E w0 ws Go.Proofs.Tryz.f7.ntmps ρ0 CtrlNoLoss_Λ (bodyAt (fb Go.Proofs.Tryz.f7) 0) := by
  refine lokD mixed tab_ok g72 Go.Proofs.Tryz.func7 hk (T := CtrlNoLoss_11115_T) (rt := CtrlNoLoss_11115_R) (cuts := []) (ex := CtrlNoLoss_11115_X) (top := top) (F := CtrlNoLoss_11115_F @CtrlNoLoss_11115_L) (fun fr H kx kr hd => by rw [CtrlNoLoss_11_pick, faceIs_ne (show 111 ≠ 115 by decide) hd, show faceIs fr 10 115 = true from hd]; rfl) ?_ ?_ ?_
  · intro α ls' kx' kr' r' h'
    unfold CtrlNoLoss_11115_F at h'
    obtain ⟨c_t_set_l0, l'1, rfl, h'1⟩ := un_li_some.1 h'
    obtain ⟨c_t_set_l1, l'2, rfl, h'2⟩ := un_li_some.1 h'1
    obtain ⟨c_last, l'3, rfl, h'3⟩ := un_i_some.1 h'2
    obtain ⟨c_t_s, l'4, rfl, h'4⟩ := un_i_some.1 h'3
    obtain ⟨c_t_x, l'5, rfl, h'5⟩ := un_i_some.1 h'4
    obtain ⟨c_t_loss, l'6, rfl, h'6⟩ := un_i_some.1 h'5
    obtain ⟨c_t_rtt, l'7, rfl, h'7⟩ := un_i_some.1 h'6
    obtain ⟨c_t_heard, l'8, rfl, h'8⟩ := un_b_some.1 h'7
    obtain ⟨c_t_doubled, l'9, rfl, h'9⟩ := un_i_some.1 h'8
    obtain ⟨c_t_began, l'10, rfl, h'10⟩ := un_b_some.1 h'9
    obtain ⟨c_t_started, l'11, rfl, h'11⟩ := un_b_some.1 h'10
    obtain ⟨c_t_due, l'12, rfl, h'12⟩ := un_i_some.1 h'11
    obtain ⟨c_p_s, l'13, rfl, h'13⟩ := un_i_some.1 h'12
    obtain ⟨c_p_tick, l'14, rfl, h'14⟩ := un_i_some.1 h'13
    obtain ⟨c_p_has, l'15, rfl, h'15⟩ := un_i_some.1 h'14
    obtain ⟨c_p_rate, l'16, rfl, h'16⟩ := un_i_some.1 h'15
    obtain ⟨c_p_now, l'17, rfl, h'17⟩ := un_i_some.1 h'16
    obtain ⟨i, l'18, rfl, h'18⟩ := un_i_some.1 h'17
    obtain ⟨cwnd, l'19, rfl, h'19⟩ := un_i_some.1 h'18
    obtain ⟨rate, l'20, rfl, h'20⟩ := un_i_some.1 h'19
    obtain ⟨r, l'21, rfl, h'21⟩ := un_i_some.1 h'20
    obtain ⟨now, l'22, rfl, h'22⟩ := un_i_some.1 h'21
    obtain ⟨n2, l'23, rfl, h'23⟩ := un_i_some.1 h'22
    obtain ⟨rfl, h'Z⟩ := un_nil_some.1 h'23
    cases h'Z
  · intro α n' ls' kx' kr' r' h'
    unfold CtrlNoLoss_11115_F at h'
    obtain ⟨c_t_set_l0, l'1, rfl, h'1⟩ := un_li_some.1 h'
    obtain ⟨c_t_set_l1, l'2, rfl, h'2⟩ := un_li_some.1 h'1
    obtain ⟨c_last, l'3, rfl, h'3⟩ := un_i_some.1 h'2
    obtain ⟨c_t_s, l'4, rfl, h'4⟩ := un_i_some.1 h'3
    obtain ⟨c_t_x, l'5, rfl, h'5⟩ := un_i_some.1 h'4
    obtain ⟨c_t_loss, l'6, rfl, h'6⟩ := un_i_some.1 h'5
    obtain ⟨c_t_rtt, l'7, rfl, h'7⟩ := un_i_some.1 h'6
    obtain ⟨c_t_heard, l'8, rfl, h'8⟩ := un_b_some.1 h'7
    obtain ⟨c_t_doubled, l'9, rfl, h'9⟩ := un_i_some.1 h'8
    obtain ⟨c_t_began, l'10, rfl, h'10⟩ := un_b_some.1 h'9
    obtain ⟨c_t_started, l'11, rfl, h'11⟩ := un_b_some.1 h'10
    obtain ⟨c_t_due, l'12, rfl, h'12⟩ := un_i_some.1 h'11
    obtain ⟨c_p_s, l'13, rfl, h'13⟩ := un_i_some.1 h'12
    obtain ⟨c_p_tick, l'14, rfl, h'14⟩ := un_i_some.1 h'13
    obtain ⟨c_p_has, l'15, rfl, h'15⟩ := un_i_some.1 h'14
    obtain ⟨c_p_rate, l'16, rfl, h'16⟩ := un_i_some.1 h'15
    obtain ⟨c_p_now, l'17, rfl, h'17⟩ := un_i_some.1 h'16
    obtain ⟨i, l'18, rfl, h'18⟩ := un_i_some.1 h'17
    obtain ⟨cwnd, l'19, rfl, h'19⟩ := un_i_some.1 h'18
    obtain ⟨rate, l'20, rfl, h'20⟩ := un_i_some.1 h'19
    obtain ⟨r, l'21, rfl, h'21⟩ := un_i_some.1 h'20
    obtain ⟨now, l'22, rfl, h'22⟩ := un_i_some.1 h'21
    obtain ⟨n2, l'23, rfl, h'23⟩ := un_i_some.1 h'22
    obtain ⟨rfl, h'Z⟩ := un_nil_some.1 h'23
    exact (CtrlNoLoss_11115_e @CtrlNoLoss_11111_L @CtrlNoLoss_11115_L kx' kr' (CtrlNoLoss_11115_L kx' kr' n') c_t_set_l0 c_t_set_l1 c_last c_t_s c_t_x c_t_loss c_t_rtt c_t_heard c_t_doubled c_t_began c_t_started c_t_due c_p_s c_p_tick c_p_has c_p_rate c_p_now i cwnd rate r now n2).symm.trans h'Z
  · intro b' hb
    rw [show loopsOf (bodyAt (fb Go.Proofs.Tryz.f7) 0) = [] by kernel_rfl] at hb
    cases hb
theorem CtrlNoLoss_11_lok (E : Nat → Prop) (w0 ws : World) (ρ0 : List Pl) (hk : ρ0.length = 0) : LOk Go.Proofs.Tryz.prog 7 Go.Proofs.Tryz.f7 false E w0 ws Go.Proofs.Tryz.f7.ntmps ρ0 CtrlNoLoss_Λ (bodyAt (fb Go.Proofs.Tryz.f7) 0) :=
  lok_two (d1 := (fun fr => faceIs fr 10 111)) (d2 := (fun fr => faceIs fr 10 115)) (fun fr H kx kr h1 h2 => by rw [CtrlNoLoss_11_pick, show faceIs fr 10 111 = false from h1, show faceIs fr 10 115 = false from h2]; rfl) (CtrlNoLoss_11111_lokD E w0 ws ρ0 hk) (CtrlNoLoss_11115_lokD E w0 ws ρ0 hk)
theorem CtrlNoLoss_ed (L11111 : ({β : Type} → (Nat → List Leaf → Option β) → (List Leaf → Option β) → Nat → Int → Int → Int → Int → Int → Bool → Int → Bool → Bool → Int → Bool → Int → Int → Int → Int → Int → Int → Int → Int → Int → Option β)) (L11115 : ({β : Type} → (Nat → List Leaf → Option β) → (List Leaf → Option β) → Nat → List Int → List Int → Int → Int → Int → Int → Int → Bool → Int → Bool → Bool → Int → Int → Int → Int → Int → Int → Int → Int → Int → Int → Int → Int → Option β)) (kind : Int) (size : Int) (r : Int) (n2 : Int) : CtrlNoLoss_d @L11111 @L11115 kind size r n2 = den G72 (CtrlNoLoss_Λd @L11111 @L11115) false tab Go.Proofs.Tryz.f7.ntmps (fun fr H => finish tab 0 Go.Proofs.Tryz.f7.results.toList CtrlNoLoss_out [] fr H some) (fun _ _ _ => none) (fun fr H => finish tab 0 Go.Proofs.Tryz.f7.results.toList CtrlNoLoss_out [] fr H some) 10000 [.code (fb Go.Proofs.Tryz.f7)] (instFr CtrlNoLoss_in [.i kind, .i size, .i r, .i n2]) (instH CtrlNoLoss_in [.i kind, .i size, .i r, .i n2]) := by kernel_rfl
theorem CtrlNoLoss_e (kind : Int) (size : Int) (r : Int) (n2 : Int) : CtrlNoLoss kind size r n2 = den G72 CtrlNoLoss_Λ false tab Go.Proofs.Tryz.f7.ntmps (fun fr H => finish tab 0 Go.Proofs.Tryz.f7.results.toList CtrlNoLoss_out [] fr H some) (fun _ _ _ => none) (fun fr H => finish tab 0 Go.Proofs.Tryz.f7.results.toList CtrlNoLoss_out [] fr H some) 10000 [.code (fb Go.Proofs.Tryz.f7)] (instFr CtrlNoLoss_in [.i kind, .i size, .i r, .i n2]) (instH CtrlNoLoss_in [.i kind, .i size, .i r, .i n2]) := CtrlNoLoss_ed @CtrlNoLoss_11111_L @CtrlNoLoss_11115_L kind size r n2
def CtrlNoLoss_S : List Leaf → Option (List Leaf) := fun ls => un_i ls fun kind rr => un_i rr fun size rr => un_i rr fun r rr => un_i rr fun n2 rr => un_nil rr (CtrlNoLoss kind size r n2)
def CtrlNoLoss_SC : Tld := fun ls k' => un_i ls fun kind rr => un_i rr fun size rr => un_i rr fun r rr => un_i rr fun n2 rr => un_nil rr (out (CtrlNoLoss kind size r n2) k')
theorem CtrlNoLoss_Se (kind : Int) (size : Int) (r : Int) (n2 : Int) : CtrlNoLoss_S [.i kind, .i size, .i r, .i n2] = CtrlNoLoss kind size r n2 := by
  unfold CtrlNoLoss_S
  simp only [un_i_ev, un_b_ev, un_s_ev, un_li_ev, un_lb_ev, un_ls_ev, un_nil_ev]
theorem CtrlNoLoss_says : Says CtrlNoLoss_SC CtrlNoLoss_S := by
  intro β ls' k' r' h'
  unfold CtrlNoLoss_SC at h'
  obtain ⟨kind, l'1, rfl, h'1⟩ := un_i_some.1 h'
  obtain ⟨size, l'2, rfl, h'2⟩ := un_i_some.1 h'1
  obtain ⟨r, l'3, rfl, h'3⟩ := un_i_some.1 h'2
  obtain ⟨n2, l'4, rfl, h'4⟩ := un_i_some.1 h'3
  obtain ⟨rfl, h'Z⟩ := un_nil_some.1 h'4
  obtain ⟨l', a', b'⟩ := out_some.1 h'Z
  exact ⟨l', (CtrlNoLoss_Se kind size r n2).trans a', b'⟩
theorem CtrlNoLoss_c : FnC Go.Proofs.Tryz.prog 7 false 4 0 CtrlNoLoss_in CtrlNoLoss_out CtrlNoLoss_S := by
  refine fn_ok (Λ := CtrlNoLoss_Λ) mixed tab_ok g72 Go.Proofs.Tryz.func7 (by kernel_rfl) (body := fb Go.Proofs.Tryz.f7) rfl (ts := Go.Proofs.Tryz.f7.results.toList) rfl (cuts := []) (by kernel_rfl) (Nat.le_of_ble_eq_true (by kernel_rfl)) (by kernel_rfl) (rt := .w (.at (.bool))) rfl ?_ ?_
  · intro ls' r' h'
    unfold CtrlNoLoss_S at h'
    obtain ⟨kind, l'1, rfl, h'1⟩ := un_i_some.1 h'
    obtain ⟨size, l'2, rfl, h'2⟩ := un_i_some.1 h'1
    obtain ⟨r, l'3, rfl, h'3⟩ := un_i_some.1 h'2
    obtain ⟨n2, l'4, rfl, h'4⟩ := un_i_some.1 h'3
    obtain ⟨rfl, h'Z⟩ := un_nil_some.1 h'4
    exact (CtrlNoLoss_e kind size r n2).symm.trans h'Z
  · intro E w0 ws ρ0 hk b hb
    rw [show loopsOf (fb Go.Proofs.Tryz.f7) = [(bodyAt (fb Go.Proofs.Tryz.f7) 0)] by kernel_rfl] at hb
    simp only [List.mem_cons, List.mem_nil_iff, or_false] at hb
    rcases hb with rfl
    · exact CtrlNoLoss_11_lok E w0 ws ρ0 hk
noncomputable def G73 : Env := G72.addE 7 4 CtrlNoLoss_in CtrlNoLoss_out CtrlNoLoss_SC
theorem g73 : EnvOk Go.Proofs.Tryz.prog G73 := EnvOk.addE g72 CtrlNoLoss_c CtrlNoLoss_says
end Go.Sx.T

