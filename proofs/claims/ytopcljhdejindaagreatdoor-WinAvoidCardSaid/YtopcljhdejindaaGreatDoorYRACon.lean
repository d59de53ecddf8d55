import Derived.Test.YtopcljhdejindaaGreatDoorYRASpec
import Derived.Test.YtopcljhdejindaaGreatDoorYRttCon
set_option linter.all false
namespace Go.Sx.T
open Go Go.Sx Go.Proofs

-- ### refRtt_Sample: function 30
def refRtt_Sample_in : Tm := ⟨[.cells 46 [.bool, .int .i64, .int .i64, .int .i64]], [(0, .w (.at (.ptr 0 0))), (1, .w (.at (.int .i64)))]⟩
def refRtt_Sample_out : Tm := ⟨[.cells 46 [.bool, .int .i64, .int .i64, .int .i64]], [(0, .tup [])]⟩

def refRtt_Sample_Λd : Loops := Loops.none
def refRtt_Sample_Λ : Loops := refRtt_Sample_Λd 

theorem refRtt_Sample_e (r_Any : Bool) (r_Smooth : Int) (r_Wide : Int) (r_Twice : Int) (d : Int) : refRtt_Sample r_Any r_Smooth r_Wide r_Twice d = den G39 refRtt_Sample_Λ false tab Go.Proofs.Tryz.f30.ntmps (fun fr H => finish tab 1 Go.Proofs.Tryz.f30.results.toList refRtt_Sample_out [] fr H some) (fun _ _ _ => none) (fun fr H => finish tab 1 Go.Proofs.Tryz.f30.results.toList refRtt_Sample_out [] fr H some) 10000 [.code (fb Go.Proofs.Tryz.f30)] (instFr refRtt_Sample_in [.b r_Any, .i r_Smooth, .i r_Wide, .i r_Twice, .i d]) (instH refRtt_Sample_in [.b r_Any, .i r_Smooth, .i r_Wide, .i r_Twice, .i d]) := by kernel_rfl
def refRtt_Sample_S : List Leaf → Option (List Leaf) := fun ls => un_b ls fun r_Any rr => un_i rr fun r_Smooth rr => un_i rr fun r_Wide rr => un_i rr fun r_Twice rr => un_i rr fun d rr => un_nil rr (refRtt_Sample r_Any r_Smooth r_Wide r_Twice d)
def refRtt_Sample_SC : Tld := fun ls k' => un_b ls fun r_Any rr => un_i rr fun r_Smooth rr => un_i rr fun r_Wide rr => un_i rr fun r_Twice rr => un_i rr fun d rr => un_nil rr (out (refRtt_Sample r_Any r_Smooth r_Wide r_Twice d) k')
theorem refRtt_Sample_Se (r_Any : Bool) (r_Smooth : Int) (r_Wide : Int) (r_Twice : Int) (d : Int) : refRtt_Sample_S [.b r_Any, .i r_Smooth, .i r_Wide, .i r_Twice, .i d] = refRtt_Sample r_Any r_Smooth r_Wide r_Twice d := by
  unfold refRtt_Sample_S
  simp only [un_i_ev, un_b_ev, un_s_ev, un_li_ev, un_lb_ev, un_ls_ev, un_nil_ev]
theorem refRtt_Sample_says : Says refRtt_Sample_SC refRtt_Sample_S := by
  intro β ls' k' r' h'
  unfold refRtt_Sample_SC at h'
  obtain ⟨r_Any, l'1, rfl, h'1⟩ := un_b_some.1 h'
  obtain ⟨r_Smooth, l'2, rfl, h'2⟩ := un_i_some.1 h'1
  obtain ⟨r_Wide, l'3, rfl, h'3⟩ := un_i_some.1 h'2
  obtain ⟨r_Twice, l'4, rfl, h'4⟩ := un_i_some.1 h'3
  obtain ⟨d, l'5, rfl, h'5⟩ := un_i_some.1 h'4
  obtain ⟨rfl, h'Z⟩ := un_nil_some.1 h'5
  obtain ⟨l', a', b'⟩ := out_some.1 h'Z
  exact ⟨l', (refRtt_Sample_Se r_Any r_Smooth r_Wide r_Twice d).trans a', b'⟩
theorem refRtt_Sample_c : FnC Go.Proofs.Tryz.prog 30 false 2 1 refRtt_Sample_in refRtt_Sample_out refRtt_Sample_S := by
  refine fn_ok (Λ := refRtt_Sample_Λ) mixed tab_ok g39 Go.Proofs.Tryz.func30 (by kernel_rfl) (body := fb Go.Proofs.Tryz.f30) rfl (ts := Go.Proofs.Tryz.f30.results.toList) rfl (cuts := []) (by kernel_rfl) (Nat.le_of_ble_eq_true (by kernel_rfl)) (by kernel_rfl) (rt := .tup []) rfl ?_ ?_
  · intro ls' r' h'
    unfold refRtt_Sample_S at h'
    obtain ⟨r_Any, l'1, rfl, h'1⟩ := un_b_some.1 h'
    obtain ⟨r_Smooth, l'2, rfl, h'2⟩ := un_i_some.1 h'1
    obtain ⟨r_Wide, l'3, rfl, h'3⟩ := un_i_some.1 h'2
    obtain ⟨r_Twice, l'4, rfl, h'4⟩ := un_i_some.1 h'3
    obtain ⟨d, l'5, rfl, h'5⟩ := un_i_some.1 h'4
    obtain ⟨rfl, h'Z⟩ := un_nil_some.1 h'5
    exact (refRtt_Sample_e r_Any r_Smooth r_Wide r_Twice d).symm.trans h'Z
  · intro E w0 ws ρ0 hk b hb
    rw [show loopsOf (fb Go.Proofs.Tryz.f30) = [] by kernel_rfl] at hb
    cases hb
def G40 : Env := G39.addE 30 2 refRtt_Sample_in refRtt_Sample_out refRtt_Sample_SC
theorem g40 : EnvOk Go.Proofs.Tryz.prog G40 := EnvOk.addE g39 refRtt_Sample_c refRtt_Sample_says

-- ### refRtt_Rto: function 34
def refRtt_Rto_in : Tm := ⟨[.cells 46 [.bool, .int .i64, .int .i64, .int .i64]], [(0, .w (.at (.ptr 0 0)))]⟩
def refRtt_Rto_out : Tm := ⟨[.dead], [(0, .w (.at (.int .i64)))]⟩
def refRtt_Rto_5_T : Tm := ⟨[.cells 46 [.bool, .int .i64, .int .i64, .int .i64]], [(4, .w (.at (.int .i64))), (3, .w (.at (.int .i64))), (0, .w (.at (.ptr 0 0)))]⟩
def refRtt_Rto_5_X0 : Tm := ⟨[.cells 46 [.bool, .int .i64, .int .i64, .int .i64]], [(3, .w (.at (.int .i64)))]⟩
def refRtt_Rto_5_X : Exits := [(0, (refRtt_Rto_5_X0, []))]
def refRtt_Rto_5_R : Tm := ⟨[], []⟩

def refRtt_Rto_Λd (L5 : ({β : Type} → (Nat → List Leaf → Option β) → (List Leaf → Option β) → Nat → Bool → Int → Int → Int → Int → Int → Option β)) : Loops := ⟨fun b fr H kx kr => bif Nat.beq (rid b) 5 then loopE 1 refRtt_Rto_5_T [] refRtt_Rto_5_X refRtt_Rto_5_R (refRtt_Rto_5_F @L5 top) fr H kx kr else none⟩
def refRtt_Rto_Λ : Loops := refRtt_Rto_Λd @refRtt_Rto_5_L
theorem refRtt_Rto_5_e (L5 : ({β : Type} → (Nat → List Leaf → Option β) → (List Leaf → Option β) → Nat → Bool → Int → Int → Int → Int → Int → Option β)) {α : Type} (kx : Nat → List Leaf → Option α) (kr : List Leaf → Option α) (again : Bool → Int → Int → Int → Int → Int → Option α) (r_Any : Bool) (r_Smooth : Int) (r_Wide : Int) (r_Twice : Int) (i : Int) (n2 : Int) : refRtt_Rto_5_B  kx kr again r_Any r_Smooth r_Wide r_Twice i n2 = loopB G40 (refRtt_Rto_Λd @L5) true tab Go.Proofs.Tryz.f34.ntmps 1 refRtt_Rto_5_T [] refRtt_Rto_5_X refRtt_Rto_5_R (bodyAt (fb Go.Proofs.Tryz.f34) 0) (fun ls => un_b ls fun r_Any rr => un_i rr fun r_Smooth rr => un_i rr fun r_Wide rr => un_i rr fun r_Twice rr => un_i rr fun i rr => un_i rr fun n2 rr => un_nil rr (again r_Any r_Smooth r_Wide r_Twice i n2)) kx kr (instFr refRtt_Rto_5_T [.b r_Any, .i r_Smooth, .i r_Wide, .i r_Twice, .i i, .i n2]) (instH refRtt_Rto_5_T [.b r_Any, .i r_Smooth, .i r_Wide, .i r_Twice, .i i, .i n2]) := by kernel_rfl
theorem refRtt_Rto_5_lok (E : Nat → Prop) (w0 ws : World) (ρ0 : List Pl) (hk : ρ0.length = 1) : LOk Go.Proofs.Tryz.prog 34 Go.Proofs.Tryz.f34 true E w0 ws Go.Proofs.Tryz.f34.ntmps ρ0 refRtt_Rto_Λ (bodyAt (fb Go.Proofs.Tryz.f34) 0) := by
  refine lok mixed tab_ok g40 Go.Proofs.Tryz.func34 hk (T := refRtt_Rto_5_T) (rt := refRtt_Rto_5_R) (cuts := []) (ex := refRtt_Rto_5_X) (top := top) (F := refRtt_Rto_5_F @refRtt_Rto_5_L) (fun fr H kx kr => by kernel_rfl) ?_ ?_ ?_
  · intro α ls' kx' kr' r' h'
    unfold refRtt_Rto_5_F at h'
    obtain ⟨r_Any, l'1, rfl, h'1⟩ := un_b_some.1 h'
    obtain ⟨r_Smooth, l'2, rfl, h'2⟩ := un_i_some.1 h'1
    obtain ⟨r_Wide, l'3, rfl, h'3⟩ := un_i_some.1 h'2
    obtain ⟨r_Twice, l'4, rfl, h'4⟩ := un_i_some.1 h'3
    obtain ⟨i, l'5, rfl, h'5⟩ := un_i_some.1 h'4
    obtain ⟨n2, l'6, rfl, h'6⟩ := un_i_some.1 h'5
    obtain ⟨rfl, h'Z⟩ := un_nil_some.1 h'6
    cases h'Z
  · intro α n' ls' kx' kr' r' h'
    unfold refRtt_Rto_5_F at h'
    obtain ⟨r_Any, l'1, rfl, h'1⟩ := un_b_some.1 h'
    obtain ⟨r_Smooth, l'2, rfl, h'2⟩ := un_i_some.1 h'1
    obtain ⟨r_Wide, l'3, rfl, h'3⟩ := un_i_some.1 h'2
    obtain ⟨r_Twice, l'4, rfl, h'4⟩ := un_i_some.1 h'3
    obtain ⟨i, l'5, rfl, h'5⟩ := un_i_some.1 h'4
    obtain ⟨n2, l'6, rfl, h'6⟩ := un_i_some.1 h'5
    obtain ⟨rfl, h'Z⟩ := un_nil_some.1 h'6
    exact (refRtt_Rto_5_e @refRtt_Rto_5_L kx' kr' (refRtt_Rto_5_L kx' kr' n') r_Any r_Smooth r_Wide r_Twice i n2).symm.trans h'Z
  · intro b' hb
    rw [show loopsOf (bodyAt (fb Go.Proofs.Tryz.f34) 0) = [] by kernel_rfl] at hb
    cases hb
theorem refRtt_Rto_ed (L5 : ({β : Type} → (Nat → List Leaf → Option β) → (List Leaf → Option β) → Nat → Bool → Int → Int → Int → Int → Int → Option β)) (r_Any : Bool) (r_Smooth : Int) (r_Wide : Int) (r_Twice : Int) : refRtt_Rto_d @L5 r_Any r_Smooth r_Wide r_Twice = den G40 (refRtt_Rto_Λd @L5) true tab Go.Proofs.Tryz.f34.ntmps (fun fr H => finish tab 1 Go.Proofs.Tryz.f34.results.toList refRtt_Rto_out [] fr H some) (fun _ _ _ => none) (fun fr H => finish tab 1 Go.Proofs.Tryz.f34.results.toList refRtt_Rto_out [] fr H some) 10000 [.code (fb Go.Proofs.Tryz.f34)] (instFr refRtt_Rto_in [.b r_Any, .i r_Smooth, .i r_Wide, .i r_Twice]) (instH refRtt_Rto_in [.b r_Any, .i r_Smooth, .i r_Wide, .i r_Twice]) := by kernel_rfl
theorem refRtt_Rto_e (r_Any : Bool) (r_Smooth : Int) (r_Wide : Int) (r_Twice : Int) : refRtt_Rto r_Any r_Smooth r_Wide r_Twice = den G40 refRtt_Rto_Λ true tab Go.Proofs.Tryz.f34.ntmps (fun fr H => finish tab 1 Go.Proofs.Tryz.f34.results.toList refRtt_Rto_out [] fr H some) (fun _ _ _ => none) (fun fr H => finish tab 1 Go.Proofs.Tryz.f34.results.toList refRtt_Rto_out [] fr H some) 10000 [.code (fb Go.Proofs.Tryz.f34)] (instFr refRtt_Rto_in [.b r_Any, .i r_Smooth, .i r_Wide, .i r_Twice]) (instH refRtt_Rto_in [.b r_Any, .i r_Smooth, .i r_Wide, .i r_Twice]) := refRtt_Rto_ed @refRtt_Rto_5_L r_Any r_Smooth r_Wide r_Twice
def refRtt_Rto_S : List Leaf → Option (List Leaf) := fun ls => un_b ls fun r_Any rr => un_i rr fun r_Smooth rr => un_i rr fun r_Wide rr => un_i rr fun r_Twice rr => un_nil rr (refRtt_Rto r_Any r_Smooth r_Wide r_Twice)
def refRtt_Rto_SC : Tld := fun ls k' => un_b ls fun r_Any rr => un_i rr fun r_Smooth rr => un_i rr fun r_Wide rr => un_i rr fun r_Twice rr => un_nil rr (out (refRtt_Rto r_Any r_Smooth r_Wide r_Twice) k')
theorem refRtt_Rto_Se (r_Any : Bool) (r_Smooth : Int) (r_Wide : Int) (r_Twice : Int) : refRtt_Rto_S [.b r_Any, .i r_Smooth, .i r_Wide, .i r_Twice] = refRtt_Rto r_Any r_Smooth r_Wide r_Twice := by
  unfold refRtt_Rto_S
  simp only [un_i_ev, un_b_ev, un_s_ev, un_li_ev, un_lb_ev, un_ls_ev, un_nil_ev]
theorem refRtt_Rto_says : Says refRtt_Rto_SC refRtt_Rto_S := by
  intro β ls' k' r' h'
  unfold refRtt_Rto_SC at h'
  obtain ⟨r_Any, l'1, rfl, h'1⟩ := un_b_some.1 h'
  obtain ⟨r_Smooth, l'2, rfl, h'2⟩ := un_i_some.1 h'1
  obtain ⟨r_Wide, l'3, rfl, h'3⟩ := un_i_some.1 h'2
  obtain ⟨r_Twice, l'4, rfl, h'4⟩ := un_i_some.1 h'3
  obtain ⟨rfl, h'Z⟩ := un_nil_some.1 h'4
  obtain ⟨l', a', b'⟩ := out_some.1 h'Z
  exact ⟨l', (refRtt_Rto_Se r_Any r_Smooth r_Wide r_Twice).trans a', b'⟩
theorem refRtt_Rto_c : FnC Go.Proofs.Tryz.prog 34 true 1 1 refRtt_Rto_in refRtt_Rto_out refRtt_Rto_S := by
  refine fn_ok (Λ := refRtt_Rto_Λ) mixed tab_ok g40 Go.Proofs.Tryz.func34 (by kernel_rfl) (body := fb Go.Proofs.Tryz.f34) rfl (ts := Go.Proofs.Tryz.f34.results.toList) rfl (cuts := []) (by kernel_rfl) (Nat.le_of_ble_eq_true (by kernel_rfl)) (by kernel_rfl) (rt := .w (.at (.int .i64))) rfl ?_ ?_
  · intro ls' r' h'
    unfold refRtt_Rto_S at h'
    obtain ⟨r_Any, l'1, rfl, h'1⟩ := un_b_some.1 h'
    obtain ⟨r_Smooth, l'2, rfl, h'2⟩ := un_i_some.1 h'1
    obtain ⟨r_Wide, l'3, rfl, h'3⟩ := un_i_some.1 h'2
    obtain ⟨r_Twice, l'4, rfl, h'4⟩ := un_i_some.1 h'3
    obtain ⟨rfl, h'Z⟩ := un_nil_some.1 h'4
    exact (refRtt_Rto_e r_Any r_Smooth r_Wide r_Twice).symm.trans h'Z
  · intro E w0 ws ρ0 hk b hb
    rw [show loopsOf (fb Go.Proofs.Tryz.f34) = [(bodyAt (fb Go.Proofs.Tryz.f34) 0)] by kernel_rfl] at hb
    simp only [List.mem_cons, List.mem_nil_iff, or_false] at hb
    rcases hb with rfl
    · exact refRtt_Rto_5_lok E w0 ws ρ0 hk
def G41 : Env := G40.addP 34 1 refRtt_Rto_in refRtt_Rto_out refRtt_Rto_SC
theorem g41 : EnvOk Go.Proofs.Tryz.prog G41 := EnvOk.addP g40 refRtt_Rto_c refRtt_Rto_says

-- ### RttAll: function 7
def RttAll_in : Tm := ⟨[.ro 48 2 [.int .i64, .int .i64]], [(0, .w (.at (.all 0 2)))]⟩
def RttAll_out : Tm := ⟨[.dead], [(0, .w (.at (.bool)))]⟩
def RttAll_6_T : Tm := ⟨[.ro 48 2 [.int .i64, .int .i64], .cells 46 [.bool, .int .i64, .int .i64, .int .i64], .cells 100 [.bool, .int .i64, .int .i64, .int .i64]], [(6, .w (.at (.int .i64))), (5, .w (.at (.ptr 1 0))), (4, .w (.at (.ptr 2 0))), (0, .w (.at (.all 0 2)))]⟩
def RttAll_6_X0 : Tm := ⟨[.ro 48 2 [.int .i64, .int .i64], .cells 100 [.bool, .int .i64, .int .i64, .int .i64]], [(4, .w (.at (.ptr 1 0))), (0, .w (.at (.all 0 2)))]⟩
def RttAll_6_X : Exits := [(0, (RttAll_6_X0, []))]
def RttAll_6_R : Tm := ⟨[.ro 48 2 [.int .i64, .int .i64]], [(2, .w (.at (.bool)))]⟩

def RttAll_Λd (L6 : ({β : Type} → (Nat → List Leaf → Option β) → (List Leaf → Option β) → Nat → List Int → List Int → Bool → Int → Int → Int → Bool → Int → Int → Int → Int → Option β)) : Loops := ⟨fun b fr H kx kr => bif Nat.beq (rid b) 6 then loopE 1 RttAll_6_T [] RttAll_6_X RttAll_6_R (RttAll_6_F @L6 top) fr H kx kr else none⟩
def RttAll_Λ : Loops := RttAll_Λd @RttAll_6_L
theorem RttAll_6_e (L6 : ({β : Type} → (Nat → List Leaf → Option β) → (List Leaf → Option β) → Nat → List Int → List Int → Bool → Int → Int → Int → Bool → Int → Int → Int → Int → Option β)) {α : Type} (kx : Nat → List Leaf → Option α) (kr : List Leaf → Option α) (again : List Int → List Int → Bool → Int → Int → Int → Bool → Int → Int → Int → Int → Option α) (ops0 : List Int) (ops1 : List Int) (w_Any : Bool) (w_Smooth : Int) (w_Wide : Int) (w_Twice : Int) (r_any : Bool) (r_smooth : Int) (r_spread : Int) (r_rto : Int) (i : Int) : RttAll_6_B  kx kr again ops0 ops1 w_Any w_Smooth w_Wide w_Twice r_any r_smooth r_spread r_rto i = loopB G41 (RttAll_Λd @L6) false tab Go.Proofs.Tryz.f7.ntmps 1 RttAll_6_T [] RttAll_6_X RttAll_6_R (bodyAt (fb Go.Proofs.Tryz.f7) 0) (fun ls => un_li ls fun ops0 rr => un_li rr fun ops1 rr => un_b rr fun w_Any rr => un_i rr fun w_Smooth rr => un_i rr fun w_Wide rr => un_i rr fun w_Twice rr => un_b rr fun r_any rr => un_i rr fun r_smooth rr => un_i rr fun r_spread rr => un_i rr fun r_rto rr => un_i rr fun i rr => un_nil rr (again ops0 ops1 w_Any w_Smooth w_Wide w_Twice r_any r_smooth r_spread r_rto i)) kx kr (instFr RttAll_6_T [.li ops0, .li ops1, .b w_Any, .i w_Smooth, .i w_Wide, .i w_Twice, .b r_any, .i r_smooth, .i r_spread, .i r_rto, .i i]) (instH RttAll_6_T [.li ops0, .li ops1, .b w_Any, .i w_Smooth, .i w_Wide, .i w_Twice, .b r_any, .i r_smooth, .i r_spread, .i r_rto, .i i]) := by kernel_rfl
theorem RttAll_6_lok (E : Nat → Prop) (w0 ws : World) (ρ0 : List Pl) (hk : ρ0.length = 1) : LOk Go.Proofs.Tryz.prog 7 Go.Proofs.Tryz.f7 false E w0 ws Go.Proofs.Tryz.f7.ntmps ρ0 RttAll_Λ (bodyAt (fb Go.Proofs.Tryz.f7) 0) := by
  refine lok mixed tab_ok g41 Go.Proofs.Tryz.func7 hk (T := RttAll_6_T) (rt := RttAll_6_R) (cuts := []) (ex := RttAll_6_X) (top := top) (F := RttAll_6_F @RttAll_6_L) (fun fr H kx kr => by kernel_rfl) ?_ ?_ ?_
  · intro α ls' kx' kr' r' h'
    unfold RttAll_6_F at h'
    obtain ⟨ops0, l'1, rfl, h'1⟩ := un_li_some.1 h'
    obtain ⟨ops1, l'2, rfl, h'2⟩ := un_li_some.1 h'1
    obtain ⟨w_Any, l'3, rfl, h'3⟩ := un_b_some.1 h'2
    obtain ⟨w_Smooth, l'4, rfl, h'4⟩ := un_i_some.1 h'3
    obtain ⟨w_Wide, l'5, rfl, h'5⟩ := un_i_some.1 h'4
    obtain ⟨w_Twice, l'6, rfl, h'6⟩ := un_i_some.1 h'5
    obtain ⟨r_any, l'7, rfl, h'7⟩ := un_b_some.1 h'6
    obtain ⟨r_smooth, l'8, rfl, h'8⟩ := un_i_some.1 h'7
    obtain ⟨r_spread, l'9, rfl, h'9⟩ := un_i_some.1 h'8
    obtain ⟨r_rto, l'10, rfl, h'10⟩ := un_i_some.1 h'9
    obtain ⟨i, l'11, rfl, h'11⟩ := un_i_some.1 h'10
    obtain ⟨rfl, h'Z⟩ := un_nil_some.1 h'11
    cases h'Z
  · intro α n' ls' kx' kr' r' h'
    unfold RttAll_6_F at h'
    obtain ⟨ops0, l'1, rfl, h'1⟩ := un_li_some.1 h'
    obtain ⟨ops1, l'2, rfl, h'2⟩ := un_li_some.1 h'1
    obtain ⟨w_Any, l'3, rfl, h'3⟩ := un_b_some.1 h'2
    obtain ⟨w_Smooth, l'4, rfl, h'4⟩ := un_i_some.1 h'3
    obtain ⟨w_Wide, l'5, rfl, h'5⟩ := un_i_some.1 h'4
    obtain ⟨w_Twice, l'6, rfl, h'6⟩ := un_i_some.1 h'5
    obtain ⟨r_any, l'7, rfl, h'7⟩ := un_b_some.1 h'6
    obtain ⟨r_smooth, l'8, rfl, h'8⟩ := un_i_some.1 h'7
    obtain ⟨r_spread, l'9, rfl, h'9⟩ := un_i_some.1 h'8
    obtain ⟨r_rto, l'10, rfl, h'10⟩ := un_i_some.1 h'9
    obtain ⟨i, l'11, rfl, h'11⟩ := un_i_some.1 h'10
    obtain ⟨rfl, h'Z⟩ := un_nil_some.1 h'11
    exact (RttAll_6_e @RttAll_6_L kx' kr' (RttAll_6_L kx' kr' n') ops0 ops1 w_Any w_Smooth w_Wide w_Twice r_any r_smooth r_spread r_rto i).symm.trans h'Z
  · intro b' hb
    rw [show loopsOf (bodyAt (fb Go.Proofs.Tryz.f7) 0) = [] by kernel_rfl] at hb
    cases hb
theorem RttAll_ed (L6 : ({β : Type} → (Nat → List Leaf → Option β) → (List Leaf → Option β) → Nat → List Int → List Int → Bool → Int → Int → Int → Bool → Int → Int → Int → Int → Option β)) (ops0 : List Int) (ops1 : List Int) : RttAll_d @L6 ops0 ops1 = den G41 (RttAll_Λd @L6) false tab Go.Proofs.Tryz.f7.ntmps (fun fr H => finish tab 1 Go.Proofs.Tryz.f7.results.toList RttAll_out [] fr H some) (fun _ _ _ => none) (fun fr H => finish tab 1 Go.Proofs.Tryz.f7.results.toList RttAll_out [] fr H some) 10000 [.code (fb Go.Proofs.Tryz.f7)] (instFr RttAll_in [.li ops0, .li ops1]) (instH RttAll_in [.li ops0, .li ops1]) := by kernel_rfl
theorem RttAll_e (ops0 : List Int) (ops1 : List Int) : RttAll ops0 ops1 = den G41 RttAll_Λ false tab Go.Proofs.Tryz.f7.ntmps (fun fr H => finish tab 1 Go.Proofs.Tryz.f7.results.toList RttAll_out [] fr H some) (fun _ _ _ => none) (fun fr H => finish tab 1 Go.Proofs.Tryz.f7.results.toList RttAll_out [] fr H some) 10000 [.code (fb Go.Proofs.Tryz.f7)] (instFr RttAll_in [.li ops0, .li ops1]) (instH RttAll_in [.li ops0, .li ops1]) := RttAll_ed @RttAll_6_L ops0 ops1
def RttAll_S : List Leaf → Option (List Leaf) := fun ls => un_li ls fun ops0 rr => un_li rr fun ops1 rr => un_nil rr (RttAll ops0 ops1)
def RttAll_SC : Tld := fun ls k' => un_li ls fun ops0 rr => un_li rr fun ops1 rr => un_nil rr (out (RttAll ops0 ops1) k')
theorem RttAll_Se (ops0 : List Int) (ops1 : List Int) : RttAll_S [.li ops0, .li ops1] = RttAll ops0 ops1 := by
  unfold RttAll_S
  simp only [un_i_ev, un_b_ev, un_s_ev, un_li_ev, un_lb_ev, un_ls_ev, un_nil_ev]
theorem RttAll_says : Says RttAll_SC RttAll_S := by
  intro β ls' k' r' h'
  unfold RttAll_SC at h'
  obtain ⟨ops0, l'1, rfl, h'1⟩ := un_li_some.1 h'
  obtain ⟨ops1, l'2, rfl, h'2⟩ := un_li_some.1 h'1
  obtain ⟨rfl, h'Z⟩ := un_nil_some.1 h'2
  obtain ⟨l', a', b'⟩ := out_some.1 h'Z
  exact ⟨l', (RttAll_Se ops0 ops1).trans a', b'⟩
theorem RttAll_c : FnC Go.Proofs.Tryz.prog 7 false 1 1 RttAll_in RttAll_out RttAll_S := by
  refine fn_ok (Λ := RttAll_Λ) mixed tab_ok g41 Go.Proofs.Tryz.func7 (by kernel_rfl) (body := fb Go.Proofs.Tryz.f7) rfl (ts := Go.Proofs.Tryz.f7.results.toList) rfl (cuts := []) (by kernel_rfl) (Nat.le_of_ble_eq_true (by kernel_rfl)) (by kernel_rfl) (rt := .w (.at (.bool))) rfl ?_ ?_
  · intro ls' r' h'
    unfold RttAll_S at h'
    obtain ⟨ops0, l'1, rfl, h'1⟩ := un_li_some.1 h'
    obtain ⟨ops1, l'2, rfl, h'2⟩ := un_li_some.1 h'1
    obtain ⟨rfl, h'Z⟩ := un_nil_some.1 h'2
    exact (RttAll_e ops0 ops1).symm.trans h'Z
  · intro E w0 ws ρ0 hk b hb
    rw [show loopsOf (fb Go.Proofs.Tryz.f7) = [(bodyAt (fb Go.Proofs.Tryz.f7) 0)] by kernel_rfl] at hb
    simp only [List.mem_cons, List.mem_nil_iff, or_false] at hb
    rcases hb with rfl
    · exact RttAll_6_lok E w0 ws ρ0 hk
def G42 : Env := G41.addE 7 1 RttAll_in RttAll_out RttAll_SC
theorem g42 : EnvOk Go.Proofs.Tryz.prog G42 := EnvOk.addE g41 RttAll_c RttAll_says
end Go.Sx.T

