import Derived.Test.YtllgbgponmkijaaGreatDoorYPASpec
import Derived.Test.YtllgbgponmkijaaGreatDoorYQueCon
set_option linter.all false
namespace Go.Sx.T
open Go Go.Sx Go.Proofs
set_option maxRecDepth 100000
noncomputable def fnsN : Fns := [(16, Go.Proofs.Tryz.f16), (39, Go.Proofs.Tryz.f39)]
theorem fnsN_ok : FnsOk Go.Proofs.Tryz.prog fnsN := .cons Go.Proofs.Tryz.func16 (by kernel_rfl) <| .cons Go.Proofs.Tryz.func39 (by kernel_rfl) <| .nil
noncomputable def G61 : Env := inlC fnsN tab G60 5
theorem g61 : EnvOk Go.Proofs.Tryz.prog G61 := EnvOk.inlC mixed tab_ok g60 fnsN_ok 5

-- ### PaceAll: function 6
def PaceAll_in : Tm := ⟨[.ro 39 4 [.int .i64, .int .i64, .int .u64, .int .i64]], [(0, .w (.at (.int .i64))), (1, .w (.at (.int .i64))), (2, .w (.at (.all 0 4)))]⟩
def PaceAll_out : Tm := ⟨[.dead], [(0, .w (.at (.bool)))]⟩
def PaceAll_9_T : Tm := ⟨[.ro 39 4 [.int .i64, .int .i64, .int .u64, .int .i64], .cells 28 [.int .u64, .int .u64, .int .u64, .int .u64, .int .i64], .cells 104 [.int .u64, .int .u64, .int .u64, .int .u64, .int .i64]], [(10, .w (.at (.int .i64))), (9, .w (.at (.ptr 1 0))), (8, .w (.at (.ptr 2 0))), (2, .w (.at (.all 0 4)))]⟩
def PaceAll_9_X0 : Tm := ⟨[.ro 39 4 [.int .i64, .int .i64, .int .u64, .int .i64]], []⟩
def PaceAll_9_X : Exits := [(0, (PaceAll_9_X0, []))]
def PaceAll_9_R : Tm := ⟨[.ro 39 4 [.int .i64, .int .i64, .int .u64, .int .i64]], [(6, .w (.at (.bool)))]⟩

def PaceAll_Λd (L9 : ({β : Type} → (Nat → List Leaf → Option β) → (List Leaf → Option β) → Nat → List Int → List Int → List Int → List Int → Int → Int → Int → Int → Int → Int → Int → Int → Int → Int → Int → Option β)) : Loops := ⟨fun b fr H kx kr => bif Nat.beq (rid b) 9 then loopE 1 PaceAll_9_T [] PaceAll_9_X PaceAll_9_R (PaceAll_9_F @L9 top) fr H kx kr else none⟩
def PaceAll_Λ : Loops := PaceAll_Λd @PaceAll_9_L
theorem PaceAll_9_e (L9 : ({β : Type} → (Nat → List Leaf → Option β) → (List Leaf → Option β) → Nat → List Int → List Int → List Int → List Int → Int → Int → Int → Int → Int → Int → Int → Int → Int → Int → Int → Option β)) {α : Type} (kx : Nat → List Leaf → Option α) (kr : List Leaf → Option α) (again : List Int → List Int → List Int → List Int → Int → Int → Int → Int → Int → Int → Int → Int → Int → Int → Int → Option α) (ops0 : List Int) (ops1 : List Int) (ops2 : List Int) (ops3 : List Int) (w_S : Int) (w_X : Int) (w_Tick : Int) (w_Has : Int) (w_Now : Int) (p_s : Int) (p_tick : Int) (p_has : Int) (p_rate : Int) (p_now : Int) (i : Int) : PaceAll_9_B  kx kr again ops0 ops1 ops2 ops3 w_S w_X w_Tick w_Has w_Now p_s p_tick p_has p_rate p_now i = loopB G61 (PaceAll_Λd @L9) false tab Go.Proofs.Tryz.f6.ntmps 1 PaceAll_9_T [] PaceAll_9_X PaceAll_9_R (bodyAt (fb Go.Proofs.Tryz.f6) 0) (fun ls => un_li ls fun ops0 rr => un_li rr fun ops1 rr => un_li rr fun ops2 rr => un_li rr fun ops3 rr => un_i rr fun w_S rr => un_i rr fun w_X rr => un_i rr fun w_Tick rr => un_i rr fun w_Has rr => un_i rr fun w_Now rr => un_i rr fun p_s rr => un_i rr fun p_tick rr => un_i rr fun p_has rr => un_i rr fun p_rate rr => un_i rr fun p_now rr => un_i rr fun i rr => un_nil rr (again ops0 ops1 ops2 ops3 w_S w_X w_Tick w_Has w_Now p_s p_tick p_has p_rate p_now i)) kx kr (instFr PaceAll_9_T [.li ops0, .li ops1, .li ops2, .li ops3, .i w_S, .i w_X, .i w_Tick, .i w_Has, .i w_Now, .i p_s, .i p_tick, .i p_has, .i p_rate, .i p_now, .i i]) (instH PaceAll_9_T [.li ops0, .li ops1, .li ops2, .li ops3, .i w_S, .i w_X, .i w_Tick, .i w_Has, .i w_Now, .i p_s, .i p_tick, .i p_has, .i p_rate, .i p_now, .i i]) := by kernel_rfl
theorem PaceAll_9_lok (E : Nat → Prop) (w0 ws : World) (ρ0 : List Pl) (hk : ρ0.length = 1) : LOk Go.Proofs.Tryz.prog 6 Go.Proofs.Tryz.f6 false E w0 ws Go.Proofs.Tryz.f6.ntmps ρ0 PaceAll_Λ (bodyAt (fb Go.Proofs.Tryz.f6) 0) := by
  refine lok mixed tab_ok g61 Go.Proofs.Tryz.func6 hk (T := PaceAll_9_T) (rt := PaceAll_9_R) (cuts := []) (ex := PaceAll_9_X) (top := top) (F := PaceAll_9_F @PaceAll_9_L) (fun fr H kx kr => by kernel_rfl) ?_ ?_ ?_
  · intro α ls' kx' kr' r' h'
    unfold PaceAll_9_F at h'
    obtain ⟨ops0, l'1, rfl, h'1⟩ := un_li_some.1 h'
    obtain ⟨ops1, l'2, rfl, h'2⟩ := un_li_some.1 h'1
    obtain ⟨ops2, l'3, rfl, h'3⟩ := un_li_some.1 h'2
    obtain ⟨ops3, l'4, rfl, h'4⟩ := un_li_some.1 h'3
    obtain ⟨w_S, l'5, rfl, h'5⟩ := un_i_some.1 h'4
    obtain ⟨w_X, l'6, rfl, h'6⟩ := un_i_some.1 h'5
    obtain ⟨w_Tick, l'7, rfl, h'7⟩ := un_i_some.1 h'6
    obtain ⟨w_Has, l'8, rfl, h'8⟩ := un_i_some.1 h'7
    obtain ⟨w_Now, l'9, rfl, h'9⟩ := un_i_some.1 h'8
    obtain ⟨p_s, l'10, rfl, h'10⟩ := un_i_some.1 h'9
    obtain ⟨p_tick, l'11, rfl, h'11⟩ := un_i_some.1 h'10
    obtain ⟨p_has, l'12, rfl, h'12⟩ := un_i_some.1 h'11
    obtain ⟨p_rate, l'13, rfl, h'13⟩ := un_i_some.1 h'12
    obtain ⟨p_now, l'14, rfl, h'14⟩ := un_i_some.1 h'13
    obtain ⟨i, l'15, rfl, h'15⟩ := un_i_some.1 h'14
    obtain ⟨rfl, h'Z⟩ := un_nil_some.1 h'15
    cases h'Z
  · intro α n' ls' kx' kr' r' h'
    unfold PaceAll_9_F at h'
    obtain ⟨ops0, l'1, rfl, h'1⟩ := un_li_some.1 h'
    obtain ⟨ops1, l'2, rfl, h'2⟩ := un_li_some.1 h'1
    obtain ⟨ops2, l'3, rfl, h'3⟩ := un_li_some.1 h'2
    obtain ⟨ops3, l'4, rfl, h'4⟩ := un_li_some.1 h'3
    obtain ⟨w_S, l'5, rfl, h'5⟩ := un_i_some.1 h'4
    obtain ⟨w_X, l'6, rfl, h'6⟩ := un_i_some.1 h'5
    obtain ⟨w_Tick, l'7, rfl, h'7⟩ := un_i_some.1 h'6
    obtain ⟨w_Has, l'8, rfl, h'8⟩ := un_i_some.1 h'7
    obtain ⟨w_Now, l'9, rfl, h'9⟩ := un_i_some.1 h'8
    obtain ⟨p_s, l'10, rfl, h'10⟩ := un_i_some.1 h'9
    obtain ⟨p_tick, l'11, rfl, h'11⟩ := un_i_some.1 h'10
    obtain ⟨p_has, l'12, rfl, h'12⟩ := un_i_some.1 h'11
    obtain ⟨p_rate, l'13, rfl, h'13⟩ := un_i_some.1 h'12
    obtain ⟨p_now, l'14, rfl, h'14⟩ := un_i_some.1 h'13
    obtain ⟨i, l'15, rfl, h'15⟩ := un_i_some.1 h'14
    obtain ⟨rfl, h'Z⟩ := un_nil_some.1 h'15
    exact (PaceAll_9_e @PaceAll_9_L kx' kr' (PaceAll_9_L kx' kr' n') ops0 ops1 ops2 ops3 w_S w_X w_Tick w_Has w_Now p_s p_tick p_has p_rate p_now i).symm.trans h'Z
  · intro b' hb
    rw [show loopsOf (bodyAt (fb Go.Proofs.Tryz.f6) 0) = [] by kernel_rfl] at hb
    cases hb
theorem PaceAll_ed (L9 : ({β : Type} → (Nat → List Leaf → Option β) → (List Leaf → Option β) → Nat → List Int → List Int → List Int → List Int → Int → Int → Int → Int → Int → Int → Int → Int → Int → Int → Int → Option β)) (ops0 : List Int) (ops1 : List Int) (ops2 : List Int) (ops3 : List Int) (s : Int) (tick : Int) : PaceAll_d @L9 ops0 ops1 ops2 ops3 s tick = den G61 (PaceAll_Λd @L9) false tab Go.Proofs.Tryz.f6.ntmps (fun fr H => finish tab 1 Go.Proofs.Tryz.f6.results.toList PaceAll_out [] fr H some) (fun _ _ _ => none) (fun fr H => finish tab 1 Go.Proofs.Tryz.f6.results.toList PaceAll_out [] fr H some) 10000 [.code (fb Go.Proofs.Tryz.f6)] (instFr PaceAll_in [.li ops0, .li ops1, .li ops2, .li ops3, .i s, .i tick]) (instH PaceAll_in [.li ops0, .li ops1, .li ops2, .li ops3, .i s, .i tick]) := by kernel_rfl
theorem PaceAll_e (ops0 : List Int) (ops1 : List Int) (ops2 : List Int) (ops3 : List Int) (s : Int) (tick : Int) : PaceAll ops0 ops1 ops2 ops3 s tick = den G61 PaceAll_Λ false tab Go.Proofs.Tryz.f6.ntmps (fun fr H => finish tab 1 Go.Proofs.Tryz.f6.results.toList PaceAll_out [] fr H some) (fun _ _ _ => none) (fun fr H => finish tab 1 Go.Proofs.Tryz.f6.results.toList PaceAll_out [] fr H some) 10000 [.code (fb Go.Proofs.Tryz.f6)] (instFr PaceAll_in [.li ops0, .li ops1, .li ops2, .li ops3, .i s, .i tick]) (instH PaceAll_in [.li ops0, .li ops1, .li ops2, .li ops3, .i s, .i tick]) := PaceAll_ed @PaceAll_9_L ops0 ops1 ops2 ops3 s tick
def PaceAll_S : List Leaf → Option (List Leaf) := fun ls => un_li ls fun ops0 rr => un_li rr fun ops1 rr => un_li rr fun ops2 rr => un_li rr fun ops3 rr => un_i rr fun s rr => un_i rr fun tick rr => un_nil rr (PaceAll ops0 ops1 ops2 ops3 s tick)
def PaceAll_SC : Tld := fun ls k' => un_li ls fun ops0 rr => un_li rr fun ops1 rr => un_li rr fun ops2 rr => un_li rr fun ops3 rr => un_i rr fun s rr => un_i rr fun tick rr => un_nil rr (out (PaceAll ops0 ops1 ops2 ops3 s tick) k')
theorem PaceAll_Se (ops0 : List Int) (ops1 : List Int) (ops2 : List Int) (ops3 : List Int) (s : Int) (tick : Int) : PaceAll_S [.li ops0, .li ops1, .li ops2, .li ops3, .i s, .i tick] = PaceAll ops0 ops1 ops2 ops3 s tick := by
  unfold PaceAll_S
  simp only [un_i_ev, un_b_ev, un_s_ev, un_li_ev, un_lb_ev, un_ls_ev, un_nil_ev]
theorem PaceAll_says : Says PaceAll_SC PaceAll_S := by
  intro β ls' k' r' h'
  unfold PaceAll_SC at h'
  obtain ⟨ops0, l'1, rfl, h'1⟩ := un_li_some.1 h'
  obtain ⟨ops1, l'2, rfl, h'2⟩ := un_li_some.1 h'1
  obtain ⟨ops2, l'3, rfl, h'3⟩ := un_li_some.1 h'2
  obtain ⟨ops3, l'4, rfl, h'4⟩ := un_li_some.1 h'3
  obtain ⟨s, l'5, rfl, h'5⟩ := un_i_some.1 h'4
  obtain ⟨tick, l'6, rfl, h'6⟩ := un_i_some.1 h'5
  obtain ⟨rfl, h'Z⟩ := un_nil_some.1 h'6
  obtain ⟨l', a', b'⟩ := out_some.1 h'Z
  exact ⟨l', (PaceAll_Se ops0 ops1 ops2 ops3 s tick).trans a', b'⟩
theorem PaceAll_c : FnC Go.Proofs.Tryz.prog 6 false 3 1 PaceAll_in PaceAll_out PaceAll_S := by
  refine fn_ok (Λ := PaceAll_Λ) mixed tab_ok g61 Go.Proofs.Tryz.func6 (by kernel_rfl) (body := fb Go.Proofs.Tryz.f6) rfl (ts := Go.Proofs.Tryz.f6.results.toList) rfl (cuts := []) (by kernel_rfl) (Nat.le_of_ble_eq_true (by kernel_rfl)) (by kernel_rfl) (rt := .w (.at (.bool))) rfl ?_ ?_
  · intro ls' r' h'
    unfold PaceAll_S at h'
    obtain ⟨ops0, l'1, rfl, h'1⟩ := un_li_some.1 h'
    obtain ⟨ops1, l'2, rfl, h'2⟩ := un_li_some.1 h'1
    obtain ⟨ops2, l'3, rfl, h'3⟩ := un_li_some.1 h'2
    obtain ⟨ops3, l'4, rfl, h'4⟩ := un_li_some.1 h'3
    obtain ⟨s, l'5, rfl, h'5⟩ := un_i_some.1 h'4
    obtain ⟨tick, l'6, rfl, h'6⟩ := un_i_some.1 h'5
    obtain ⟨rfl, h'Z⟩ := un_nil_some.1 h'6
    exact (PaceAll_e ops0 ops1 ops2 ops3 s tick).symm.trans h'Z
  · intro E w0 ws ρ0 hk b hb
    rw [show loopsOf (fb Go.Proofs.Tryz.f6) = [(bodyAt (fb Go.Proofs.Tryz.f6) 0)] by kernel_rfl] at hb
    simp only [List.mem_cons, List.mem_nil_iff, or_false] at hb
    rcases hb with rfl
    · exact PaceAll_9_lok E w0 ws ρ0 hk
noncomputable def G62 : Env := G61.addE 6 3 PaceAll_in PaceAll_out PaceAll_SC
theorem g62 : EnvOk Go.Proofs.Tryz.prog G62 := EnvOk.addE g61 PaceAll_c PaceAll_says
end Go.Sx.T

