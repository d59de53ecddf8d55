import Derived.Test.YthcddikjnpbnjaaGreatDoorYTHSpec
import Derived.Test.YthcddikjnpbnjaaGreatDoorYTfrcCon
set_option linter.all false
namespace Go.Sx.T
open Go Go.Sx Go.Proofs
set_option maxRecDepth 100000

-- ### TfrcHalves: function 6
def TfrcHalves_in : Tm := ⟨[], [(0, .w (.at (.int .i64))), (1, .w (.at (.int .i64))), (2, .w (.at (.int .u64))), (3, .w (.at (.int .u64)))]⟩
def TfrcHalves_out : Tm := ⟨[], [(0, .w (.at (.bool)))]⟩
def TfrcHalves_10_T : Tm := ⟨[.cells 106 [.int .u64, .int .u64, .int .u64, .int .i64, .bool, .int .i64, .ptr 1 0, .bool, .bool, .int .i64], .cells 135 [.all 2 2], .row 132 2 [.int .i64, .int .u64]], [(10, .w (.at (.ptr 0 0))), (0, .w (.at (.int .i64))), (12, .w (.at (.int .i64))), (11, .w (.at (.int .i64)))]⟩
def TfrcHalves_10_X0 : Tm := ⟨[.cells 106 [.int .u64, .int .u64, .int .u64, .int .i64, .bool, .int .i64, .ptr 1 0, .bool, .bool, .int .i64], .cells 135 [.all 2 2], .row 132 2 [.int .i64, .int .u64]], [(10, .w (.at (.ptr 0 0))), (0, .w (.at (.int .i64)))]⟩
def TfrcHalves_10_X : Exits := [(0, (TfrcHalves_10_X0, []))]
def TfrcHalves_10_R : Tm := ⟨[], [(8, .w (.at (.bool)))]⟩

def TfrcHalves_Λd (L10 : ({β : Type} → (Nat → List Leaf → Option β) → (List Leaf → Option β) → Nat → List Int → List Int → Int → Int → Int → Int → Bool → Int → Bool → Bool → Int → Int → Int → Int → Option β)) : Loops := ⟨fun b fr H kx kr => bif Nat.beq (rid b) 10 then loopE 0 TfrcHalves_10_T [] TfrcHalves_10_X TfrcHalves_10_R (TfrcHalves_10_F @L10 top) fr H kx kr else none⟩
def TfrcHalves_Λ : Loops := TfrcHalves_Λd @TfrcHalves_10_L
theorem TfrcHalves_10_e (L10 : ({β : Type} → (Nat → List Leaf → Option β) → (List Leaf → Option β) → Nat → List Int → List Int → Int → Int → Int → Int → Bool → Int → Bool → Bool → Int → Int → Int → Int → Option β)) {α : Type} (kx : Nat → List Leaf → Option α) (kr : List Leaf → Option α) (again : List Int → List Int → Int → Int → Int → Int → Bool → Int → Bool → Bool → Int → Int → Int → Int → Option α) (t_set_l0 : List Int) (t_set_l1 : List Int) (t_s : Int) (t_x : Int) (t_loss : Int) (t_rtt : Int) (t_heard : Bool) (t_doubled : Int) (t_began : Bool) (t_started : Bool) (t_due : Int) (size : Int) (i : Int) (now : Int) : TfrcHalves_10_B  kx kr again t_set_l0 t_set_l1 t_s t_x t_loss t_rtt t_heard t_doubled t_began t_started t_due size i now = loopB G44 (TfrcHalves_Λd @L10) false tab Go.Proofs.Tryz.f6.ntmps 0 TfrcHalves_10_T [] TfrcHalves_10_X TfrcHalves_10_R (bodyAt (fb Go.Proofs.Tryz.f6) 0) (fun ls => un_li ls fun t_set_l0 rr => un_li rr fun t_set_l1 rr => un_i rr fun t_s rr => un_i rr fun t_x rr => un_i rr fun t_loss rr => un_i rr fun t_rtt rr => un_b rr fun t_heard rr => un_i rr fun t_doubled rr => un_b rr fun t_began rr => un_b rr fun t_started rr => un_i rr fun t_due rr => un_i rr fun size rr => un_i rr fun i rr => un_i rr fun now rr => un_nil rr (again t_set_l0 t_set_l1 t_s t_x t_loss t_rtt t_heard t_doubled t_began t_started t_due size i now)) kx kr (instFr TfrcHalves_10_T [.li t_set_l0, .li t_set_l1, .i t_s, .i t_x, .i t_loss, .i t_rtt, .b t_heard, .i t_doubled, .b t_began, .b t_started, .i t_due, .i size, .i i, .i now]) (instH TfrcHalves_10_T [.li t_set_l0, .li t_set_l1, .i t_s, .i t_x, .i t_loss, .i t_rtt, .b t_heard, .i t_doubled, .b t_began, .b t_started, .i t_due, .i size, .i i, .i now]) := by kernel_rfl
theorem TfrcHalves_10_lok (E : Nat → Prop) (w0 ws : World) (ρ0 : List Pl) (hk : ρ0.length = 0) : LOk Go.Proofs.Tryz.prog 6 Go.Proofs.Tryz.f6 false E w0 ws Go.Proofs.Tryz.f6.ntmps ρ0 TfrcHalves_Λ (bodyAt (fb Go.Proofs.Tryz.f6) 0) := by
  refine lok mixed tab_ok g44 Go.Proofs.Tryz.func6 hk (T := TfrcHalves_10_T) (rt := TfrcHalves_10_R) (cuts := []) (ex := TfrcHalves_10_X) (top := top) (F := TfrcHalves_10_F @TfrcHalves_10_L) (fun fr H kx kr => by kernel_rfl) ?_ ?_ ?_
  · intro α ls' kx' kr' r' h'
    unfold TfrcHalves_10_F at h'
    obtain ⟨t_set_l0, l'1, rfl, h'1⟩ := un_li_some.1 h'
    obtain ⟨t_set_l1, l'2, rfl, h'2⟩ := un_li_some.1 h'1
    obtain ⟨t_s, l'3, rfl, h'3⟩ := un_i_some.1 h'2
    obtain ⟨t_x, l'4, rfl, h'4⟩ := un_i_some.1 h'3
    obtain ⟨t_loss, l'5, rfl, h'5⟩ := un_i_some.1 h'4
    obtain ⟨t_rtt, l'6, rfl, h'6⟩ := un_i_some.1 h'5
    obtain ⟨t_heard, l'7, rfl, h'7⟩ := un_b_some.1 h'6
    obtain ⟨t_doubled, l'8, rfl, h'8⟩ := un_i_some.1 h'7
    obtain ⟨t_began, l'9, rfl, h'9⟩ := un_b_some.1 h'8
    obtain ⟨t_started, l'10, rfl, h'10⟩ := un_b_some.1 h'9
    obtain ⟨t_due, l'11, rfl, h'11⟩ := un_i_some.1 h'10
    obtain ⟨size, l'12, rfl, h'12⟩ := un_i_some.1 h'11
    obtain ⟨i, l'13, rfl, h'13⟩ := un_i_some.1 h'12
    obtain ⟨now, l'14, rfl, h'14⟩ := un_i_some.1 h'13
    obtain ⟨rfl, h'Z⟩ := un_nil_some.1 h'14
    cases h'Z
  · intro α n' ls' kx' kr' r' h'
    unfold TfrcHalves_10_F at h'
    obtain ⟨t_set_l0, l'1, rfl, h'1⟩ := un_li_some.1 h'
    obtain ⟨t_set_l1, l'2, rfl, h'2⟩ := un_li_some.1 h'1
    obtain ⟨t_s, l'3, rfl, h'3⟩ := un_i_some.1 h'2
    obtain ⟨t_x, l'4, rfl, h'4⟩ := un_i_some.1 h'3
    obtain ⟨t_loss, l'5, rfl, h'5⟩ := un_i_some.1 h'4
    obtain ⟨t_rtt, l'6, rfl, h'6⟩ := un_i_some.1 h'5
    obtain ⟨t_heard, l'7, rfl, h'7⟩ := un_b_some.1 h'6
    obtain ⟨t_doubled, l'8, rfl, h'8⟩ := un_i_some.1 h'7
    obtain ⟨t_began, l'9, rfl, h'9⟩ := un_b_some.1 h'8
    obtain ⟨t_started, l'10, rfl, h'10⟩ := un_b_some.1 h'9
    obtain ⟨t_due, l'11, rfl, h'11⟩ := un_i_some.1 h'10
    obtain ⟨size, l'12, rfl, h'12⟩ := un_i_some.1 h'11
    obtain ⟨i, l'13, rfl, h'13⟩ := un_i_some.1 h'12
    obtain ⟨now, l'14, rfl, h'14⟩ := un_i_some.1 h'13
    obtain ⟨rfl, h'Z⟩ := un_nil_some.1 h'14
    exact (TfrcHalves_10_e @TfrcHalves_10_L kx' kr' (TfrcHalves_10_L kx' kr' n') t_set_l0 t_set_l1 t_s t_x t_loss t_rtt t_heard t_doubled t_began t_started t_due size i now).symm.trans h'Z
  · intro b' hb
    rw [show loopsOf (bodyAt (fb Go.Proofs.Tryz.f6) 0) = [] by kernel_rfl] at hb
    cases hb
theorem TfrcHalves_ed (L10 : ({β : Type} → (Nat → List Leaf → Option β) → (List Leaf → Option β) → Nat → List Int → List Int → Int → Int → Int → Int → Bool → Int → Bool → Bool → Int → Int → Int → Int → Option β)) (size : Int) (sample : Int) (x : Int) (p : Int) : TfrcHalves_d @L10 size sample x p = den G44 (TfrcHalves_Λd @L10) false tab Go.Proofs.Tryz.f6.ntmps (fun fr H => finish tab 0 Go.Proofs.Tryz.f6.results.toList TfrcHalves_out [] fr H some) (fun _ _ _ => none) (fun fr H => finish tab 0 Go.Proofs.Tryz.f6.results.toList TfrcHalves_out [] fr H some) 10000 [.code (fb Go.Proofs.Tryz.f6)] (instFr TfrcHalves_in [.i size, .i sample, .i x, .i p]) (instH TfrcHalves_in [.i size, .i sample, .i x, .i p]) := by kernel_rfl
theorem TfrcHalves_e (size : Int) (sample : Int) (x : Int) (p : Int) : TfrcHalves size sample x p = den G44 TfrcHalves_Λ false tab Go.Proofs.Tryz.f6.ntmps (fun fr H => finish tab 0 Go.Proofs.Tryz.f6.results.toList TfrcHalves_out [] fr H some) (fun _ _ _ => none) (fun fr H => finish tab 0 Go.Proofs.Tryz.f6.results.toList TfrcHalves_out [] fr H some) 10000 [.code (fb Go.Proofs.Tryz.f6)] (instFr TfrcHalves_in [.i size, .i sample, .i x, .i p]) (instH TfrcHalves_in [.i size, .i sample, .i x, .i p]) := TfrcHalves_ed @TfrcHalves_10_L size sample x p
def TfrcHalves_S : List Leaf → Option (List Leaf) := fun ls => un_i ls fun size rr => un_i rr fun sample rr => un_i rr fun x rr => un_i rr fun p rr => un_nil rr (TfrcHalves size sample x p)
def TfrcHalves_SC : Tld := fun ls k' => un_i ls fun size rr => un_i rr fun sample rr => un_i rr fun x rr => un_i rr fun p rr => un_nil rr (out (TfrcHalves size sample x p) k')
theorem TfrcHalves_Se (size : Int) (sample : Int) (x : Int) (p : Int) : TfrcHalves_S [.i size, .i sample, .i x, .i p] = TfrcHalves size sample x p := by
  unfold TfrcHalves_S
  simp only [un_i_ev, un_b_ev, un_s_ev, un_li_ev, un_lb_ev, un_ls_ev, un_nil_ev]
theorem TfrcHalves_says : Says TfrcHalves_SC TfrcHalves_S := by
  intro β ls' k' r' h'
  unfold TfrcHalves_SC at h'
  obtain ⟨size, l'1, rfl, h'1⟩ := un_i_some.1 h'
  obtain ⟨sample, l'2, rfl, h'2⟩ := un_i_some.1 h'1
  obtain ⟨x, l'3, rfl, h'3⟩ := un_i_some.1 h'2
  obtain ⟨p, l'4, rfl, h'4⟩ := un_i_some.1 h'3
  obtain ⟨rfl, h'Z⟩ := un_nil_some.1 h'4
  obtain ⟨l', a', b'⟩ := out_some.1 h'Z
  exact ⟨l', (TfrcHalves_Se size sample x p).trans a', b'⟩
theorem TfrcHalves_c : FnC Go.Proofs.Tryz.prog 6 false 4 0 TfrcHalves_in TfrcHalves_out TfrcHalves_S := by
  refine fn_ok (Λ := TfrcHalves_Λ) mixed tab_ok g44 Go.Proofs.Tryz.func6 (by kernel_rfl) (body := fb Go.Proofs.Tryz.f6) rfl (ts := Go.Proofs.Tryz.f6.results.toList) rfl (cuts := []) (by kernel_rfl) (Nat.le_of_ble_eq_true (by kernel_rfl)) (by kernel_rfl) (rt := .w (.at (.bool))) rfl ?_ ?_
  · intro ls' r' h'
    unfold TfrcHalves_S at h'
    obtain ⟨size, l'1, rfl, h'1⟩ := un_i_some.1 h'
    obtain ⟨sample, l'2, rfl, h'2⟩ := un_i_some.1 h'1
    obtain ⟨x, l'3, rfl, h'3⟩ := un_i_some.1 h'2
    obtain ⟨p, l'4, rfl, h'4⟩ := un_i_some.1 h'3
    obtain ⟨rfl, h'Z⟩ := un_nil_some.1 h'4
    exact (TfrcHalves_e size sample x p).symm.trans h'Z
  · intro E w0 ws ρ0 hk b hb
    rw [show loopsOf (fb Go.Proofs.Tryz.f6) = [(bodyAt (fb Go.Proofs.Tryz.f6) 0)] by kernel_rfl] at hb
    simp only [List.mem_cons, List.mem_nil_iff, or_false] at hb
    rcases hb with rfl
    · exact TfrcHalves_10_lok E w0 ws ρ0 hk
noncomputable def G45 : Env := G44.addE 6 4 TfrcHalves_in TfrcHalves_out TfrcHalves_SC
theorem g45 : EnvOk Go.Proofs.Tryz.prog G45 := EnvOk.addE g44 TfrcHalves_c TfrcHalves_says
end Go.Sx.T

