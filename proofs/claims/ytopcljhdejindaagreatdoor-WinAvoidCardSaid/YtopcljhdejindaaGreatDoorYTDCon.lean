import Derived.Test.YtopcljhdejindaaGreatDoorYTDSpec
import Derived.Test.YtopcljhdejindaaGreatDoorYTLCon
set_option linter.all false
namespace Go.Sx.T
open Go Go.Sx Go.Proofs

-- ### TfrcDoubles: function 5
def TfrcDoubles_in : Tm := ⟨[.ro 22 1 [.int .u64]], [(0, .w (.at (.int .i64))), (1, .w (.at (.int .i64))), (2, .w (.at (.all 0 1)))]⟩
def TfrcDoubles_out : Tm := ⟨[.dead], [(0, .w (.at (.bool)))]⟩
def TfrcDoubles_10_T : Tm := ⟨[.ro 22 1 [.int .u64], .cells 95 [.int .u64, .int .u64, .int .u64, .int .i64, .bool, .int .i64, .ptr 2 0, .bool, .bool, .int .i64], .cells 127 [.all 3 2], .row 124 2 [.int .i64, .int .u64]], [(11, .w (.at (.int .i64))), (8, .w (.at (.ptr 1 0))), (2, .w (.at (.all 0 1))), (1, .w (.at (.int .i64))), (0, .w (.at (.int .i64))), (10, .w (.at (.int .u64))), (9, .w (.at (.int .i64)))]⟩
def TfrcDoubles_10_X0 : Tm := ⟨[.ro 22 1 [.int .u64]], []⟩
def TfrcDoubles_10_X : Exits := [(0, (TfrcDoubles_10_X0, []))]
def TfrcDoubles_10_R : Tm := ⟨[.ro 22 1 [.int .u64]], [(6, .w (.at (.bool)))]⟩

def TfrcDoubles_Λd (L10 : ({β : Type} → (Nat → List Leaf → Option β) → (List Leaf → Option β) → Nat → List Int → List Int → List Int → Int → Int → Int → Int → Bool → Int → Bool → Bool → Int → Int → Int → Int → Int → Int → Option β)) : Loops := ⟨fun b fr H kx kr => bif Nat.beq (rid b) 10 then loopE 1 TfrcDoubles_10_T [] TfrcDoubles_10_X TfrcDoubles_10_R (TfrcDoubles_10_F @L10 top) fr H kx kr else none⟩
def TfrcDoubles_Λ : Loops := TfrcDoubles_Λd @TfrcDoubles_10_L
theorem TfrcDoubles_10_e (L10 : ({β : Type} → (Nat → List Leaf → Option β) → (List Leaf → Option β) → Nat → List Int → List Int → List Int → Int → Int → Int → Int → Bool → Int → Bool → Bool → Int → Int → Int → Int → Int → Int → Option β)) {α : Type} (kx : Nat → List Leaf → Option α) (kr : List Leaf → Option α) (again : List Int → List Int → List Int → Int → Int → Int → Int → Bool → Int → Bool → Bool → Int → Int → Int → Int → Int → Int → Option α) (xs : List Int) (t_set_l0 : List Int) (t_set_l1 : List Int) (t_s : Int) (t_x : Int) (t_loss : Int) (t_rtt : Int) (t_heard : Bool) (t_doubled : Int) (t_began : Bool) (t_started : Bool) (t_due : Int) (i : Int) (r : Int) (size : Int) (first : Int) (now : Int) : TfrcDoubles_10_B  kx kr again xs t_set_l0 t_set_l1 t_s t_x t_loss t_rtt t_heard t_doubled t_began t_started t_due i r size first now = loopB G69 (TfrcDoubles_Λd @L10) false tab Go.Proofs.Tryz.f5.ntmps 1 TfrcDoubles_10_T [] TfrcDoubles_10_X TfrcDoubles_10_R (bodyAt (fb Go.Proofs.Tryz.f5) 0) (fun ls => un_li ls fun xs rr => un_li rr fun t_set_l0 rr => un_li rr fun t_set_l1 rr => un_i rr fun t_s rr => un_i rr fun t_x rr => un_i rr fun t_loss rr => un_i rr fun t_rtt rr => un_b rr fun t_heard rr => un_i rr fun t_doubled rr => un_b rr fun t_began rr => un_b rr fun t_started rr => un_i rr fun t_due rr => un_i rr fun i rr => un_i rr fun r rr => un_i rr fun size rr => un_i rr fun first rr => un_i rr fun now rr => un_nil rr (again xs t_set_l0 t_set_l1 t_s t_x t_loss t_rtt t_heard t_doubled t_began t_started t_due i r size first now)) kx kr (instFr TfrcDoubles_10_T [.li xs, .li t_set_l0, .li t_set_l1, .i t_s, .i t_x, .i t_loss, .i t_rtt, .b t_heard, .i t_doubled, .b t_began, .b t_started, .i t_due, .i i, .i r, .i size, .i first, .i now]) (instH TfrcDoubles_10_T [.li xs, .li t_set_l0, .li t_set_l1, .i t_s, .i t_x, .i t_loss, .i t_rtt, .b t_heard, .i t_doubled, .b t_began, .b t_started, .i t_due, .i i, .i r, .i size, .i first, .i now]) := by kernel_rfl
theorem TfrcDoubles_10_lok (E : Nat → Prop) (w0 ws : World) (ρ0 : List Pl) (hk : ρ0.length = 1) : LOk Go.Proofs.Tryz.prog 5 Go.Proofs.Tryz.f5 false E w0 ws Go.Proofs.Tryz.f5.ntmps ρ0 TfrcDoubles_Λ (bodyAt (fb Go.Proofs.Tryz.f5) 0) := by
  refine lok mixed tab_ok g69 Go.Proofs.Tryz.func5 hk (T := TfrcDoubles_10_T) (rt := TfrcDoubles_10_R) (cuts := []) (ex := TfrcDoubles_10_X) (top := top) (F := TfrcDoubles_10_F @TfrcDoubles_10_L) (fun fr H kx kr => by kernel_rfl) ?_ ?_ ?_
  · intro α ls' kx' kr' r' h'
    unfold TfrcDoubles_10_F at h'
    obtain ⟨xs, l'1, rfl, h'1⟩ := un_li_some.1 h'
    obtain ⟨t_set_l0, l'2, rfl, h'2⟩ := un_li_some.1 h'1
    obtain ⟨t_set_l1, l'3, rfl, h'3⟩ := un_li_some.1 h'2
    obtain ⟨t_s, l'4, rfl, h'4⟩ := un_i_some.1 h'3
    obtain ⟨t_x, l'5, rfl, h'5⟩ := un_i_some.1 h'4
    obtain ⟨t_loss, l'6, rfl, h'6⟩ := un_i_some.1 h'5
    obtain ⟨t_rtt, l'7, rfl, h'7⟩ := un_i_some.1 h'6
    obtain ⟨t_heard, l'8, rfl, h'8⟩ := un_b_some.1 h'7
    obtain ⟨t_doubled, l'9, rfl, h'9⟩ := un_i_some.1 h'8
    obtain ⟨t_began, l'10, rfl, h'10⟩ := un_b_some.1 h'9
    obtain ⟨t_started, l'11, rfl, h'11⟩ := un_b_some.1 h'10
    obtain ⟨t_due, l'12, rfl, h'12⟩ := un_i_some.1 h'11
    obtain ⟨i, l'13, rfl, h'13⟩ := un_i_some.1 h'12
    obtain ⟨r, l'14, rfl, h'14⟩ := un_i_some.1 h'13
    obtain ⟨size, l'15, rfl, h'15⟩ := un_i_some.1 h'14
    obtain ⟨first, l'16, rfl, h'16⟩ := un_i_some.1 h'15
    obtain ⟨now, l'17, rfl, h'17⟩ := un_i_some.1 h'16
    obtain ⟨rfl, h'Z⟩ := un_nil_some.1 h'17
    cases h'Z
  · intro α n' ls' kx' kr' r' h'
    unfold TfrcDoubles_10_F at h'
    obtain ⟨xs, l'1, rfl, h'1⟩ := un_li_some.1 h'
    obtain ⟨t_set_l0, l'2, rfl, h'2⟩ := un_li_some.1 h'1
    obtain ⟨t_set_l1, l'3, rfl, h'3⟩ := un_li_some.1 h'2
    obtain ⟨t_s, l'4, rfl, h'4⟩ := un_i_some.1 h'3
    obtain ⟨t_x, l'5, rfl, h'5⟩ := un_i_some.1 h'4
    obtain ⟨t_loss, l'6, rfl, h'6⟩ := un_i_some.1 h'5
    obtain ⟨t_rtt, l'7, rfl, h'7⟩ := un_i_some.1 h'6
    obtain ⟨t_heard, l'8, rfl, h'8⟩ := un_b_some.1 h'7
    obtain ⟨t_doubled, l'9, rfl, h'9⟩ := un_i_some.1 h'8
    obtain ⟨t_began, l'10, rfl, h'10⟩ := un_b_some.1 h'9
    obtain ⟨t_started, l'11, rfl, h'11⟩ := un_b_some.1 h'10
    obtain ⟨t_due, l'12, rfl, h'12⟩ := un_i_some.1 h'11
    obtain ⟨i, l'13, rfl, h'13⟩ := un_i_some.1 h'12
    obtain ⟨r, l'14, rfl, h'14⟩ := un_i_some.1 h'13
    obtain ⟨size, l'15, rfl, h'15⟩ := un_i_some.1 h'14
    obtain ⟨first, l'16, rfl, h'16⟩ := un_i_some.1 h'15
    obtain ⟨now, l'17, rfl, h'17⟩ := un_i_some.1 h'16
    obtain ⟨rfl, h'Z⟩ := un_nil_some.1 h'17
    exact (TfrcDoubles_10_e @TfrcDoubles_10_L kx' kr' (TfrcDoubles_10_L kx' kr' n') xs t_set_l0 t_set_l1 t_s t_x t_loss t_rtt t_heard t_doubled t_began t_started t_due i r size first now).symm.trans h'Z
  · intro b' hb
    rw [show loopsOf (bodyAt (fb Go.Proofs.Tryz.f5) 0) = [] by kernel_rfl] at hb
    cases hb
theorem TfrcDoubles_ed (L10 : ({β : Type} → (Nat → List Leaf → Option β) → (List Leaf → Option β) → Nat → List Int → List Int → List Int → Int → Int → Int → Int → Bool → Int → Bool → Bool → Int → Int → Int → Int → Int → Int → Option β)) (xs : List Int) (size : Int) (r : Int) : TfrcDoubles_d @L10 xs size r = den G69 (TfrcDoubles_Λd @L10) false tab Go.Proofs.Tryz.f5.ntmps (fun fr H => finish tab 1 Go.Proofs.Tryz.f5.results.toList TfrcDoubles_out [] fr H some) (fun _ _ _ => none) (fun fr H => finish tab 1 Go.Proofs.Tryz.f5.results.toList TfrcDoubles_out [] fr H some) 10000 [.code (fb Go.Proofs.Tryz.f5)] (instFr TfrcDoubles_in [.li xs, .i size, .i r]) (instH TfrcDoubles_in [.li xs, .i size, .i r]) := by kernel_rfl
theorem TfrcDoubles_e (xs : List Int) (size : Int) (r : Int) : TfrcDoubles xs size r = den G69 TfrcDoubles_Λ false tab Go.Proofs.Tryz.f5.ntmps (fun fr H => finish tab 1 Go.Proofs.Tryz.f5.results.toList TfrcDoubles_out [] fr H some) (fun _ _ _ => none) (fun fr H => finish tab 1 Go.Proofs.Tryz.f5.results.toList TfrcDoubles_out [] fr H some) 10000 [.code (fb Go.Proofs.Tryz.f5)] (instFr TfrcDoubles_in [.li xs, .i size, .i r]) (instH TfrcDoubles_in [.li xs, .i size, .i r]) := TfrcDoubles_ed @TfrcDoubles_10_L xs size r
def TfrcDoubles_S : List Leaf → Option (List Leaf) := fun ls => un_li ls fun xs rr => un_i rr fun size rr => un_i rr fun r rr => un_nil rr (TfrcDoubles xs size r)
def TfrcDoubles_SC : Tld := fun ls k' => un_li ls fun xs rr => un_i rr fun size rr => un_i rr fun r rr => un_nil rr (out (TfrcDoubles xs size r) k')
theorem TfrcDoubles_Se (xs : List Int) (size : Int) (r : Int) : TfrcDoubles_S [.li xs, .i size, .i r] = TfrcDoubles xs size r := by
  unfold TfrcDoubles_S
  simp only [un_i_ev, un_b_ev, un_s_ev, un_li_ev, un_lb_ev, un_ls_ev, un_nil_ev]
theorem TfrcDoubles_says : Says TfrcDoubles_SC TfrcDoubles_S := by
  intro β ls' k' r' h'
  unfold TfrcDoubles_SC at h'
  obtain ⟨xs, l'1, rfl, h'1⟩ := un_li_some.1 h'
  obtain ⟨size, l'2, rfl, h'2⟩ := un_i_some.1 h'1
  obtain ⟨r, l'3, rfl, h'3⟩ := un_i_some.1 h'2
  obtain ⟨rfl, h'Z⟩ := un_nil_some.1 h'3
  obtain ⟨l', a', b'⟩ := out_some.1 h'Z
  exact ⟨l', (TfrcDoubles_Se xs size r).trans a', b'⟩
theorem TfrcDoubles_c : FnC Go.Proofs.Tryz.prog 5 false 3 1 TfrcDoubles_in TfrcDoubles_out TfrcDoubles_S := by
  refine fn_ok (Λ := TfrcDoubles_Λ) mixed tab_ok g69 Go.Proofs.Tryz.func5 (by kernel_rfl) (body := fb Go.Proofs.Tryz.f5) rfl (ts := Go.Proofs.Tryz.f5.results.toList) rfl (cuts := []) (by kernel_rfl) (Nat.le_of_ble_eq_true (by kernel_rfl)) (by kernel_rfl) (rt := .w (.at (.bool))) rfl ?_ ?_
  · intro ls' r' h'
    unfold TfrcDoubles_S at h'
    obtain ⟨xs, l'1, rfl, h'1⟩ := un_li_some.1 h'
    obtain ⟨size, l'2, rfl, h'2⟩ := un_i_some.1 h'1
    obtain ⟨r, l'3, rfl, h'3⟩ := un_i_some.1 h'2
    obtain ⟨rfl, h'Z⟩ := un_nil_some.1 h'3
    exact (TfrcDoubles_e xs size r).symm.trans h'Z
  · intro E w0 ws ρ0 hk b hb
    rw [show loopsOf (fb Go.Proofs.Tryz.f5) = [(bodyAt (fb Go.Proofs.Tryz.f5) 0)] by kernel_rfl] at hb
    simp only [List.mem_cons, List.mem_nil_iff, or_false] at hb
    rcases hb with rfl
    · exact TfrcDoubles_10_lok E w0 ws ρ0 hk
def G70 : Env := G69.addE 5 3 TfrcDoubles_in TfrcDoubles_out TfrcDoubles_SC
theorem g70 : EnvOk Go.Proofs.Tryz.prog G70 := EnvOk.addE g69 TfrcDoubles_c TfrcDoubles_says
end Go.Sx.T

