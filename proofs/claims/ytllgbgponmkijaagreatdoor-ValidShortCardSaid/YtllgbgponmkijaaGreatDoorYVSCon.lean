import Derived.Test.YtllgbgponmkijaaGreatDoorYVSSpec
import Derived.Test.YtllgbgponmkijaaGreatDoorYValCon
set_option linter.all false
namespace Go.Sx.T
open Go Go.Sx Go.Proofs
set_option maxRecDepth 100000

-- ### ref_HasAck: function 29
def ref_HasAck_in : Tm := ⟨[], [(0, .w (.at (.int .i64)))]⟩
def ref_HasAck_out : Tm := ⟨[], [(0, .w (.at (.bool)))]⟩

def ref_HasAck_Λd : Loops := Loops.none
def ref_HasAck_Λ : Loops := ref_HasAck_Λd 

theorem ref_HasAck_e (t : Int) : ref_HasAck t = den G43 ref_HasAck_Λ true tab Go.Proofs.Tryz.f29.ntmps (fun fr H => finish tab 0 Go.Proofs.Tryz.f29.results.toList ref_HasAck_out [] fr H some) (fun _ _ _ => none) (fun fr H => finish tab 0 Go.Proofs.Tryz.f29.results.toList ref_HasAck_out [] fr H some) 10000 [.code (fb Go.Proofs.Tryz.f29)] (instFr ref_HasAck_in [.i t]) (instH ref_HasAck_in [.i t]) := by kernel_rfl
def ref_HasAck_S : List Leaf → Option (List Leaf) := fun ls => un_i ls fun t rr => un_nil rr (ref_HasAck t)
def ref_HasAck_SC : Tld := fun ls k' => un_i ls fun t rr => un_nil rr (out (ref_HasAck t) k')
theorem ref_HasAck_Se (t : Int) : ref_HasAck_S [.i t] = ref_HasAck t := by
  unfold ref_HasAck_S
  simp only [un_i_ev, un_b_ev, un_s_ev, un_li_ev, un_lb_ev, un_ls_ev, un_nil_ev]
theorem ref_HasAck_says : Says ref_HasAck_SC ref_HasAck_S := by
  intro β ls' k' r' h'
  unfold ref_HasAck_SC at h'
  obtain ⟨t, l'1, rfl, h'1⟩ := un_i_some.1 h'
  obtain ⟨rfl, h'Z⟩ := un_nil_some.1 h'1
  obtain ⟨l', a', b'⟩ := out_some.1 h'Z
  exact ⟨l', (ref_HasAck_Se t).trans a', b'⟩
theorem ref_HasAck_c : FnC Go.Proofs.Tryz.prog 29 true 1 0 ref_HasAck_in ref_HasAck_out ref_HasAck_S := by
  refine fn_ok (Λ := ref_HasAck_Λ) mixed tab_ok g43 Go.Proofs.Tryz.func29 (by kernel_rfl) (body := fb Go.Proofs.Tryz.f29) rfl (ts := Go.Proofs.Tryz.f29.results.toList) rfl (cuts := []) (by kernel_rfl) (Nat.le_of_ble_eq_true (by kernel_rfl)) (by kernel_rfl) (rt := .w (.at (.bool))) rfl ?_ ?_
  · intro ls' r' h'
    unfold ref_HasAck_S at h'
    obtain ⟨t, l'1, rfl, h'1⟩ := un_i_some.1 h'
    obtain ⟨rfl, h'Z⟩ := un_nil_some.1 h'1
    exact (ref_HasAck_e t).symm.trans h'Z
  · intro E w0 ws ρ0 hk b hb
    rw [show loopsOf (fb Go.Proofs.Tryz.f29) = [] by kernel_rfl] at hb
    cases hb
noncomputable def G44 : Env := G43.addP 29 1 ref_HasAck_in ref_HasAck_out ref_HasAck_SC
theorem g44 : EnvOk Go.Proofs.Tryz.prog G44 := EnvOk.addP g43 ref_HasAck_c ref_HasAck_says

-- ### ValidStates: function 8
def ValidStates_in : Tm := ⟨[], [(0, .w (.agg [.int .i64, .int .u64, .int .u64, .int .u64, .int .u64, .int .u64, .int .i64, .int .i64])), (1, .w (.at (.int .i64)))]⟩
def ValidStates_out : Tm := ⟨[], [(0, .w (.at (.bool)))]⟩
def ValidStates_10_T : Tm := ⟨[.cells 47 [.int .i64, .int .u64, .int .u64, .int .u64, .int .u64, .int .u64, .int .i64, .int .i64]], [(7, .w (.at (.int .i64))), (6, .w (.at (.str))), (2, .w (.at (.ptr 0 0))), (1, .w (.at (.int .i64)))]⟩
def ValidStates_10_X0 : Tm := ⟨[], [(1, .w (.at (.int .i64))), (6, .w (.at (.str)))]⟩
def ValidStates_10_X : Exits := [(0, (ValidStates_10_X0, []))]
def ValidStates_10_R : Tm := ⟨[], []⟩

def ValidStates_Λd (L10 : ({β : Type} → (Nat → List Leaf → Option β) → (List Leaf → Option β) → Nat → Int → Int → Int → Int → Int → Int → Int → Int → Int → ByteArray → Int → Option β)) : Loops := ⟨fun b fr H kx kr => bif Nat.beq (rid b) 10 then loopE 0 ValidStates_10_T [] ValidStates_10_X ValidStates_10_R (ValidStates_10_F @L10 top) fr H kx kr else none⟩
def ValidStates_Λ : Loops := ValidStates_Λd @ValidStates_10_L
theorem ValidStates_10_e (L10 : ({β : Type} → (Nat → List Leaf → Option β) → (List Leaf → Option β) → Nat → Int → Int → Int → Int → Int → Int → Int → Int → Int → ByteArray → Int → Option β)) {α : Type} (kx : Nat → List Leaf → Option α) (kr : List Leaf → Option α) (again : Int → Int → Int → Int → Int → Int → Int → Int → Int → ByteArray → Int → Option α) (v_State : Int) (v_Gss : Int) (v_Gsr : Int) (v_Gar : Int) (v_Iss : Int) (v_Isr : Int) (v_Mine : Int) (v_Theirs : Int) (t : Int) (good : ByteArray) (state : Int) : ValidStates_10_B  kx kr again v_State v_Gss v_Gsr v_Gar v_Iss v_Isr v_Mine v_Theirs t good state = loopB G44 (ValidStates_Λd @L10) false tab Go.Proofs.Tryz.f8.ntmps 0 ValidStates_10_T [] ValidStates_10_X ValidStates_10_R (bodyAt (fb Go.Proofs.Tryz.f8) 0) (fun ls => un_i ls fun v_State rr => un_i rr fun v_Gss rr => un_i rr fun v_Gsr rr => un_i rr fun v_Gar rr => un_i rr fun v_Iss rr => un_i rr fun v_Isr rr => un_i rr fun v_Mine rr => un_i rr fun v_Theirs rr => un_i rr fun t rr => un_s rr fun good rr => un_i rr fun state rr => un_nil rr (again v_State v_Gss v_Gsr v_Gar v_Iss v_Isr v_Mine v_Theirs t good state)) kx kr (instFr ValidStates_10_T [.i v_State, .i v_Gss, .i v_Gsr, .i v_Gar, .i v_Iss, .i v_Isr, .i v_Mine, .i v_Theirs, .i t, .s good, .i state]) (instH ValidStates_10_T [.i v_State, .i v_Gss, .i v_Gsr, .i v_Gar, .i v_Iss, .i v_Isr, .i v_Mine, .i v_Theirs, .i t, .s good, .i state]) := by kernel_rfl
theorem ValidStates_10_lok (E : Nat → Prop) (w0 ws : World) (ρ0 : List Pl) (hk : ρ0.length = 0) : LOk Go.Proofs.Tryz.prog 8 Go.Proofs.Tryz.f8 false E w0 ws Go.Proofs.Tryz.f8.ntmps ρ0 ValidStates_Λ (bodyAt (fb Go.Proofs.Tryz.f8) 0) := by
  refine lok mixed tab_ok g44 Go.Proofs.Tryz.func8 hk (T := ValidStates_10_T) (rt := ValidStates_10_R) (cuts := []) (ex := ValidStates_10_X) (top := top) (F := ValidStates_10_F @ValidStates_10_L) (fun fr H kx kr => by kernel_rfl) ?_ ?_ ?_
  · intro α ls' kx' kr' r' h'
    unfold ValidStates_10_F at h'
    obtain ⟨v_State, l'1, rfl, h'1⟩ := un_i_some.1 h'
    obtain ⟨v_Gss, l'2, rfl, h'2⟩ := un_i_some.1 h'1
    obtain ⟨v_Gsr, l'3, rfl, h'3⟩ := un_i_some.1 h'2
    obtain ⟨v_Gar, l'4, rfl, h'4⟩ := un_i_some.1 h'3
    obtain ⟨v_Iss, l'5, rfl, h'5⟩ := un_i_some.1 h'4
    obtain ⟨v_Isr, l'6, rfl, h'6⟩ := un_i_some.1 h'5
    obtain ⟨v_Mine, l'7, rfl, h'7⟩ := un_i_some.1 h'6
    obtain ⟨v_Theirs, l'8, rfl, h'8⟩ := un_i_some.1 h'7
    obtain ⟨t, l'9, rfl, h'9⟩ := un_i_some.1 h'8
    obtain ⟨good, l'10, rfl, h'10⟩ := un_s_some.1 h'9
    obtain ⟨state, l'11, rfl, h'11⟩ := un_i_some.1 h'10
    obtain ⟨rfl, h'Z⟩ := un_nil_some.1 h'11
    cases h'Z
  · intro α n' ls' kx' kr' r' h'
    unfold ValidStates_10_F at h'
    obtain ⟨v_State, l'1, rfl, h'1⟩ := un_i_some.1 h'
    obtain ⟨v_Gss, l'2, rfl, h'2⟩ := un_i_some.1 h'1
    obtain ⟨v_Gsr, l'3, rfl, h'3⟩ := un_i_some.1 h'2
    obtain ⟨v_Gar, l'4, rfl, h'4⟩ := un_i_some.1 h'3
    obtain ⟨v_Iss, l'5, rfl, h'5⟩ := un_i_some.1 h'4
    obtain ⟨v_Isr, l'6, rfl, h'6⟩ := un_i_some.1 h'5
    obtain ⟨v_Mine, l'7, rfl, h'7⟩ := un_i_some.1 h'6
    obtain ⟨v_Theirs, l'8, rfl, h'8⟩ := un_i_some.1 h'7
    obtain ⟨t, l'9, rfl, h'9⟩ := un_i_some.1 h'8
    obtain ⟨good, l'10, rfl, h'10⟩ := un_s_some.1 h'9
    obtain ⟨state, l'11, rfl, h'11⟩ := un_i_some.1 h'10
    obtain ⟨rfl, h'Z⟩ := un_nil_some.1 h'11
    exact (ValidStates_10_e @ValidStates_10_L kx' kr' (ValidStates_10_L kx' kr' n') v_State v_Gss v_Gsr v_Gar v_Iss v_Isr v_Mine v_Theirs t good state).symm.trans h'Z
  · intro b' hb
    rw [show loopsOf (bodyAt (fb Go.Proofs.Tryz.f8) 0) = [] by kernel_rfl] at hb
    cases hb
theorem ValidStates_ed (L10 : ({β : Type} → (Nat → List Leaf → Option β) → (List Leaf → Option β) → Nat → Int → Int → Int → Int → Int → Int → Int → Int → Int → ByteArray → Int → Option β)) (v_State : Int) (v_Gss : Int) (v_Gsr : Int) (v_Gar : Int) (v_Iss : Int) (v_Isr : Int) (v_Mine : Int) (v_Theirs : Int) (state : Int) : ValidStates_d @L10 v_State v_Gss v_Gsr v_Gar v_Iss v_Isr v_Mine v_Theirs state = den G44 (ValidStates_Λd @L10) false tab Go.Proofs.Tryz.f8.ntmps (fun fr H => finish tab 0 Go.Proofs.Tryz.f8.results.toList ValidStates_out [] fr H some) (fun _ _ _ => none) (fun fr H => finish tab 0 Go.Proofs.Tryz.f8.results.toList ValidStates_out [] fr H some) 10000 [.code (fb Go.Proofs.Tryz.f8)] (instFr ValidStates_in [.i v_State, .i v_Gss, .i v_Gsr, .i v_Gar, .i v_Iss, .i v_Isr, .i v_Mine, .i v_Theirs, .i state]) (instH ValidStates_in [.i v_State, .i v_Gss, .i v_Gsr, .i v_Gar, .i v_Iss, .i v_Isr, .i v_Mine, .i v_Theirs, .i state]) := by kernel_rfl
theorem ValidStates_e (v_State : Int) (v_Gss : Int) (v_Gsr : Int) (v_Gar : Int) (v_Iss : Int) (v_Isr : Int) (v_Mine : Int) (v_Theirs : Int) (state : Int) : ValidStates v_State v_Gss v_Gsr v_Gar v_Iss v_Isr v_Mine v_Theirs state = den G44 ValidStates_Λ false tab Go.Proofs.Tryz.f8.ntmps (fun fr H => finish tab 0 Go.Proofs.Tryz.f8.results.toList ValidStates_out [] fr H some) (fun _ _ _ => none) (fun fr H => finish tab 0 Go.Proofs.Tryz.f8.results.toList ValidStates_out [] fr H some) 10000 [.code (fb Go.Proofs.Tryz.f8)] (instFr ValidStates_in [.i v_State, .i v_Gss, .i v_Gsr, .i v_Gar, .i v_Iss, .i v_Isr, .i v_Mine, .i v_Theirs, .i state]) (instH ValidStates_in [.i v_State, .i v_Gss, .i v_Gsr, .i v_Gar, .i v_Iss, .i v_Isr, .i v_Mine, .i v_Theirs, .i state]) := ValidStates_ed @ValidStates_10_L v_State v_Gss v_Gsr v_Gar v_Iss v_Isr v_Mine v_Theirs state
def ValidStates_S : List Leaf → Option (List Leaf) := fun ls => un_i ls fun v_State rr => un_i rr fun v_Gss rr => un_i rr fun v_Gsr rr => un_i rr fun v_Gar rr => un_i rr fun v_Iss rr => un_i rr fun v_Isr rr => un_i rr fun v_Mine rr => un_i rr fun v_Theirs rr => un_i rr fun state rr => un_nil rr (ValidStates v_State v_Gss v_Gsr v_Gar v_Iss v_Isr v_Mine v_Theirs state)
def ValidStates_SC : Tld := fun ls k' => un_i ls fun v_State rr => un_i rr fun v_Gss rr => un_i rr fun v_Gsr rr => un_i rr fun v_Gar rr => un_i rr fun v_Iss rr => un_i rr fun v_Isr rr => un_i rr fun v_Mine rr => un_i rr fun v_Theirs rr => un_i rr fun state rr => un_nil rr (out (ValidStates v_State v_Gss v_Gsr v_Gar v_Iss v_Isr v_Mine v_Theirs state) k')
theorem ValidStates_Se (v_State : Int) (v_Gss : Int) (v_Gsr : Int) (v_Gar : Int) (v_Iss : Int) (v_Isr : Int) (v_Mine : Int) (v_Theirs : Int) (state : Int) : ValidStates_S [.i v_State, .i v_Gss, .i v_Gsr, .i v_Gar, .i v_Iss, .i v_Isr, .i v_Mine, .i v_Theirs, .i state] = ValidStates v_State v_Gss v_Gsr v_Gar v_Iss v_Isr v_Mine v_Theirs state := by
  unfold ValidStates_S
  simp only [un_i_ev, un_b_ev, un_s_ev, un_li_ev, un_lb_ev, un_ls_ev, un_nil_ev]
theorem ValidStates_says : Says ValidStates_SC ValidStates_S := by
  intro β ls' k' r' h'
  unfold ValidStates_SC at h'
  obtain ⟨v_State, l'1, rfl, h'1⟩ := un_i_some.1 h'
  obtain ⟨v_Gss, l'2, rfl, h'2⟩ := un_i_some.1 h'1
  obtain ⟨v_Gsr, l'3, rfl, h'3⟩ := un_i_some.1 h'2
  obtain ⟨v_Gar, l'4, rfl, h'4⟩ := un_i_some.1 h'3
  obtain ⟨v_Iss, l'5, rfl, h'5⟩ := un_i_some.1 h'4
  obtain ⟨v_Isr, l'6, rfl, h'6⟩ := un_i_some.1 h'5
  obtain ⟨v_Mine, l'7, rfl, h'7⟩ := un_i_some.1 h'6
  obtain ⟨v_Theirs, l'8, rfl, h'8⟩ := un_i_some.1 h'7
  obtain ⟨state, l'9, rfl, h'9⟩ := un_i_some.1 h'8
  obtain ⟨rfl, h'Z⟩ := un_nil_some.1 h'9
  obtain ⟨l', a', b'⟩ := out_some.1 h'Z
  exact ⟨l', (ValidStates_Se v_State v_Gss v_Gsr v_Gar v_Iss v_Isr v_Mine v_Theirs state).trans a', b'⟩
theorem ValidStates_c : FnC Go.Proofs.Tryz.prog 8 false 2 0 ValidStates_in ValidStates_out ValidStates_S := by
  refine fn_ok (Λ := ValidStates_Λ) mixed tab_ok g44 Go.Proofs.Tryz.func8 (by kernel_rfl) (body := fb Go.Proofs.Tryz.f8) rfl (ts := Go.Proofs.Tryz.f8.results.toList) rfl (cuts := []) (by kernel_rfl) (Nat.le_of_ble_eq_true (by kernel_rfl)) (by kernel_rfl) (rt := .w (.at (.bool))) rfl ?_ ?_
  · intro ls' r' h'
    unfold ValidStates_S at h'
    obtain ⟨v_State, l'1, rfl, h'1⟩ := un_i_some.1 h'
    obtain ⟨v_Gss, l'2, rfl, h'2⟩ := un_i_some.1 h'1
    obtain ⟨v_Gsr, l'3, rfl, h'3⟩ := un_i_some.1 h'2
    obtain ⟨v_Gar, l'4, rfl, h'4⟩ := un_i_some.1 h'3
    obtain ⟨v_Iss, l'5, rfl, h'5⟩ := un_i_some.1 h'4
    obtain ⟨v_Isr, l'6, rfl, h'6⟩ := un_i_some.1 h'5
    obtain ⟨v_Mine, l'7, rfl, h'7⟩ := un_i_some.1 h'6
    obtain ⟨v_Theirs, l'8, rfl, h'8⟩ := un_i_some.1 h'7
    obtain ⟨state, l'9, rfl, h'9⟩ := un_i_some.1 h'8
    obtain ⟨rfl, h'Z⟩ := un_nil_some.1 h'9
    exact (ValidStates_e v_State v_Gss v_Gsr v_Gar v_Iss v_Isr v_Mine v_Theirs state).symm.trans h'Z
  · intro E w0 ws ρ0 hk b hb
    rw [show loopsOf (fb Go.Proofs.Tryz.f8) = [(bodyAt (fb Go.Proofs.Tryz.f8) 0)] by kernel_rfl] at hb
    simp only [List.mem_cons, List.mem_nil_iff, or_false] at hb
    rcases hb with rfl
    · exact ValidStates_10_lok E w0 ws ρ0 hk
noncomputable def G45 : Env := G44.addE 8 2 ValidStates_in ValidStates_out ValidStates_SC
theorem g45 : EnvOk Go.Proofs.Tryz.prog G45 := EnvOk.addE g44 ValidStates_c ValidStates_says
end Go.Sx.T

