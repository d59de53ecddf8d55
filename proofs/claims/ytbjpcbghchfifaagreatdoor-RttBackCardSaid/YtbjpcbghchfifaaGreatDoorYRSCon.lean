import Derived.Test.YtbjpcbghchfifaaGreatDoorYRSSpec
import Derived.Test.YtbjpcbghchfifaaGreatDoorYIvalCon
set_option linter.all false
namespace Go.Sx.T
open Go Go.Sx Go.Proofs

-- ### RttSteady: function 3
def RttSteady_in : Tm := ⟨[], [(0, .w (.at (.int .i64))), (1, .w (.at (.int .i64)))]⟩
def RttSteady_out : Tm := ⟨[], [(0, .w (.at (.bool)))]⟩
def RttSteady_9_T : Tm := ⟨[.cells 96 [.bool, .int .i64, .int .i64, .int .i64]], [(7, .w (.at (.int .i64))), (0, .w (.at (.int .i64))), (6, .w (.at (.ptr 0 0))), (1, .w (.at (.int .i64)))]⟩
def RttSteady_9_X0 : Tm := ⟨[.cells 96 [.bool, .int .i64, .int .i64, .int .i64]], [(0, .w (.at (.int .i64))), (6, .w (.at (.ptr 0 0)))]⟩
def RttSteady_9_X : Exits := [(0, (RttSteady_9_X0, []))]
def RttSteady_9_R : Tm := ⟨[], [(4, .w (.at (.bool)))]⟩
def RttSteady_16_T : Tm := ⟨[.cells 96 [.bool, .int .i64, .int .i64, .int .i64]], [(10, .w (.at (.int .i64))), (0, .w (.at (.int .i64))), (6, .w (.at (.ptr 0 0)))]⟩
def RttSteady_16_X2 : Tm := ⟨[.cells 96 [.bool, .int .i64, .int .i64, .int .i64]], [(0, .w (.at (.int .i64))), (6, .w (.at (.ptr 0 0)))]⟩
def RttSteady_16_X : Exits := [(2, (RttSteady_16_X2, []))]
def RttSteady_16_R : Tm := ⟨[], []⟩

def RttSteady_Λd (L9 : ({β : Type} → (Nat → List Leaf → Option β) → (List Leaf → Option β) → Nat → Bool → Int → Int → Int → Int → Int → Int → Option β)) (L16 : ({β : Type} → (Nat → List Leaf → Option β) → (List Leaf → Option β) → Nat → Bool → Int → Int → Int → Int → Int → Option β)) : Loops := ⟨fun b fr H kx kr => bif Nat.beq (rid b) 9 then loopE 0 RttSteady_9_T [] RttSteady_9_X RttSteady_9_R (RttSteady_9_F @L9 top) fr H kx kr else bif Nat.beq (rid b) 16 then loopE 0 RttSteady_16_T [] RttSteady_16_X RttSteady_16_R (RttSteady_16_F @L16 top) fr H kx kr else none⟩
def RttSteady_Λ : Loops := RttSteady_Λd @RttSteady_9_L @RttSteady_16_L
theorem RttSteady_9_e (L9 : ({β : Type} → (Nat → List Leaf → Option β) → (List Leaf → Option β) → Nat → Bool → Int → Int → Int → Int → Int → Int → Option β)) (L16 : ({β : Type} → (Nat → List Leaf → Option β) → (List Leaf → Option β) → Nat → Bool → Int → Int → Int → Int → Int → Option β)) {α : Type} (kx : Nat → List Leaf → Option α) (kr : List Leaf → Option α) (again : Bool → Int → Int → Int → Int → Int → Int → Option α) (r_any : Bool) (r_smooth : Int) (r_spread : Int) (r_rto : Int) (i : Int) (d : Int) (n2 : Int) : RttSteady_9_B  kx kr again r_any r_smooth r_spread r_rto i d n2 = loopB G38 (RttSteady_Λd @L9 @L16) false tab Go.Proofs.Tryz.f3.ntmps 0 RttSteady_9_T [] RttSteady_9_X RttSteady_9_R (bodyAt (fb Go.Proofs.Tryz.f3) 0) (fun ls => un_b ls fun r_any rr => un_i rr fun r_smooth rr => un_i rr fun r_spread rr => un_i rr fun r_rto rr => un_i rr fun i rr => un_i rr fun d rr => un_i rr fun n2 rr => un_nil rr (again r_any r_smooth r_spread r_rto i d n2)) kx kr (instFr RttSteady_9_T [.b r_any, .i r_smooth, .i r_spread, .i r_rto, .i i, .i d, .i n2]) (instH RttSteady_9_T [.b r_any, .i r_smooth, .i r_spread, .i r_rto, .i i, .i d, .i n2]) := by kernel_rfl
theorem RttSteady_16_e (L9 : ({β : Type} → (Nat → List Leaf → Option β) → (List Leaf → Option β) → Nat → Bool → Int → Int → Int → Int → Int → Int → Option β)) (L16 : ({β : Type} → (Nat → List Leaf → Option β) → (List Leaf → Option β) → Nat → Bool → Int → Int → Int → Int → Int → Option β)) {α : Type} (kx : Nat → List Leaf → Option α) (kr : List Leaf → Option α) (again : Bool → Int → Int → Int → Int → Int → Option α) (r_any : Bool) (r_smooth : Int) (r_spread : Int) (r_rto : Int) (i : Int) (d : Int) : RttSteady_16_B  kx kr again r_any r_smooth r_spread r_rto i d = loopB G38 (RttSteady_Λd @L9 @L16) false tab Go.Proofs.Tryz.f3.ntmps 0 RttSteady_16_T [] RttSteady_16_X RttSteady_16_R (bodyAt (fb Go.Proofs.Tryz.f3) 1) (fun ls => un_b ls fun r_any rr => un_i rr fun r_smooth rr => un_i rr fun r_spread rr => un_i rr fun r_rto rr => un_i rr fun i rr => un_i rr fun d rr => un_nil rr (again r_any r_smooth r_spread r_rto i d)) kx kr (instFr RttSteady_16_T [.b r_any, .i r_smooth, .i r_spread, .i r_rto, .i i, .i d]) (instH RttSteady_16_T [.b r_any, .i r_smooth, .i r_spread, .i r_rto, .i i, .i d]) := by kernel_rfl
theorem RttSteady_16_lok (E : Nat → Prop) (w0 ws : World) (ρ0 : List Pl) (hk : ρ0.length = 0) : LOk Go.Proofs.Tryz.prog 3 Go.Proofs.Tryz.f3 false E w0 ws Go.Proofs.Tryz.f3.ntmps ρ0 RttSteady_Λ (bodyAt (fb Go.Proofs.Tryz.f3) 1) := by
  refine lok mixed tab_ok g38 Go.Proofs.Tryz.func3 hk (T := RttSteady_16_T) (rt := RttSteady_16_R) (cuts := []) (ex := RttSteady_16_X) (top := top) (F := RttSteady_16_F @RttSteady_16_L) (fun fr H kx kr => by kernel_rfl) ?_ ?_ ?_
  · intro α ls' kx' kr' r' h'
    unfold RttSteady_16_F at h'
    obtain ⟨r_any, l'1, rfl, h'1⟩ := un_b_some.1 h'
    obtain ⟨r_smooth, l'2, rfl, h'2⟩ := un_i_some.1 h'1
    obtain ⟨r_spread, l'3, rfl, h'3⟩ := un_i_some.1 h'2
    obtain ⟨r_rto, l'4, rfl, h'4⟩ := un_i_some.1 h'3
    obtain ⟨i, l'5, rfl, h'5⟩ := un_i_some.1 h'4
    obtain ⟨d, l'6, rfl, h'6⟩ := un_i_some.1 h'5
    obtain ⟨rfl, h'Z⟩ := un_nil_some.1 h'6
    cases h'Z
  · intro α n' ls' kx' kr' r' h'
    unfold RttSteady_16_F at h'
    obtain ⟨r_any, l'1, rfl, h'1⟩ := un_b_some.1 h'
    obtain ⟨r_smooth, l'2, rfl, h'2⟩ := un_i_some.1 h'1
    obtain ⟨r_spread, l'3, rfl, h'3⟩ := un_i_some.1 h'2
    obtain ⟨r_rto, l'4, rfl, h'4⟩ := un_i_some.1 h'3
    obtain ⟨i, l'5, rfl, h'5⟩ := un_i_some.1 h'4
    obtain ⟨d, l'6, rfl, h'6⟩ := un_i_some.1 h'5
    obtain ⟨rfl, h'Z⟩ := un_nil_some.1 h'6
    exact (RttSteady_16_e @RttSteady_9_L @RttSteady_16_L kx' kr' (RttSteady_16_L kx' kr' n') r_any r_smooth r_spread r_rto i d).symm.trans h'Z
  · intro b' hb
    rw [show loopsOf (bodyAt (fb Go.Proofs.Tryz.f3) 1) = [] by kernel_rfl] at hb
    cases hb
theorem RttSteady_9_lok (E : Nat → Prop) (w0 ws : World) (ρ0 : List Pl) (hk : ρ0.length = 0) : LOk Go.Proofs.Tryz.prog 3 Go.Proofs.Tryz.f3 false E w0 ws Go.Proofs.Tryz.f3.ntmps ρ0 RttSteady_Λ (bodyAt (fb Go.Proofs.Tryz.f3) 0) := by
  refine lok mixed tab_ok g38 Go.Proofs.Tryz.func3 hk (T := RttSteady_9_T) (rt := RttSteady_9_R) (cuts := []) (ex := RttSteady_9_X) (top := top) (F := RttSteady_9_F @RttSteady_9_L) (fun fr H kx kr => by kernel_rfl) ?_ ?_ ?_
  · intro α ls' kx' kr' r' h'
    unfold RttSteady_9_F at h'
    obtain ⟨r_any, l'1, rfl, h'1⟩ := un_b_some.1 h'
    obtain ⟨r_smooth, l'2, rfl, h'2⟩ := un_i_some.1 h'1
    obtain ⟨r_spread, l'3, rfl, h'3⟩ := un_i_some.1 h'2
    obtain ⟨r_rto, l'4, rfl, h'4⟩ := un_i_some.1 h'3
    obtain ⟨i, l'5, rfl, h'5⟩ := un_i_some.1 h'4
    obtain ⟨d, l'6, rfl, h'6⟩ := un_i_some.1 h'5
    obtain ⟨n2, l'7, rfl, h'7⟩ := un_i_some.1 h'6
    obtain ⟨rfl, h'Z⟩ := un_nil_some.1 h'7
    cases h'Z
  · intro α n' ls' kx' kr' r' h'
    unfold RttSteady_9_F at h'
    obtain ⟨r_any, l'1, rfl, h'1⟩ := un_b_some.1 h'
    obtain ⟨r_smooth, l'2, rfl, h'2⟩ := un_i_some.1 h'1
    obtain ⟨r_spread, l'3, rfl, h'3⟩ := un_i_some.1 h'2
    obtain ⟨r_rto, l'4, rfl, h'4⟩ := un_i_some.1 h'3
    obtain ⟨i, l'5, rfl, h'5⟩ := un_i_some.1 h'4
    obtain ⟨d, l'6, rfl, h'6⟩ := un_i_some.1 h'5
    obtain ⟨n2, l'7, rfl, h'7⟩ := un_i_some.1 h'6
    obtain ⟨rfl, h'Z⟩ := un_nil_some.1 h'7
    exact (RttSteady_9_e @RttSteady_9_L @RttSteady_16_L kx' kr' (RttSteady_9_L kx' kr' n') r_any r_smooth r_spread r_rto i d n2).symm.trans h'Z
  · intro b' hb
    rw [show loopsOf (bodyAt (fb Go.Proofs.Tryz.f3) 0) = [] by kernel_rfl] at hb
    cases hb
theorem RttSteady_ed (L9 : ({β : Type} → (Nat → List Leaf → Option β) → (List Leaf → Option β) → Nat → Bool → Int → Int → Int → Int → Int → Int → Option β)) (L16 : ({β : Type} → (Nat → List Leaf → Option β) → (List Leaf → Option β) → Nat → Bool → Int → Int → Int → Int → Int → Option β)) (d : Int) (n2 : Int) : RttSteady_d @L9 @L16 d n2 = den G38 (RttSteady_Λd @L9 @L16) false tab Go.Proofs.Tryz.f3.ntmps (fun fr H => finish tab 0 Go.Proofs.Tryz.f3.results.toList RttSteady_out [] fr H some) (fun _ _ _ => none) (fun fr H => finish tab 0 Go.Proofs.Tryz.f3.results.toList RttSteady_out [] fr H some) 10000 [.code (fb Go.Proofs.Tryz.f3)] (instFr RttSteady_in [.i d, .i n2]) (instH RttSteady_in [.i d, .i n2]) := by kernel_rfl
theorem RttSteady_e (d : Int) (n2 : Int) : RttSteady d n2 = den G38 RttSteady_Λ false tab Go.Proofs.Tryz.f3.ntmps (fun fr H => finish tab 0 Go.Proofs.Tryz.f3.results.toList RttSteady_out [] fr H some) (fun _ _ _ => none) (fun fr H => finish tab 0 Go.Proofs.Tryz.f3.results.toList RttSteady_out [] fr H some) 10000 [.code (fb Go.Proofs.Tryz.f3)] (instFr RttSteady_in [.i d, .i n2]) (instH RttSteady_in [.i d, .i n2]) := RttSteady_ed @RttSteady_9_L @RttSteady_16_L d n2
def RttSteady_S : List Leaf → Option (List Leaf) := fun ls => un_i ls fun d rr => un_i rr fun n2 rr => un_nil rr (RttSteady d n2)
def RttSteady_SC : Tld := fun ls k' => un_i ls fun d rr => un_i rr fun n2 rr => un_nil rr (out (RttSteady d n2) k')
theorem RttSteady_Se (d : Int) (n2 : Int) : RttSteady_S [.i d, .i n2] = RttSteady d n2 := by
  unfold RttSteady_S
  simp only [un_i_ev, un_b_ev, un_s_ev, un_li_ev, un_lb_ev, un_ls_ev, un_nil_ev]
theorem RttSteady_says : Says RttSteady_SC RttSteady_S := by
  intro β ls' k' r' h'
  unfold RttSteady_SC at h'
  obtain ⟨d, l'1, rfl, h'1⟩ := un_i_some.1 h'
  obtain ⟨n2, l'2, rfl, h'2⟩ := un_i_some.1 h'1
  obtain ⟨rfl, h'Z⟩ := un_nil_some.1 h'2
  obtain ⟨l', a', b'⟩ := out_some.1 h'Z
  exact ⟨l', (RttSteady_Se d n2).trans a', b'⟩
theorem RttSteady_c : FnC Go.Proofs.Tryz.prog 3 false 2 0 RttSteady_in RttSteady_out RttSteady_S := by
  refine fn_ok (Λ := RttSteady_Λ) mixed tab_ok g38 Go.Proofs.Tryz.func3 (by kernel_rfl) (body := fb Go.Proofs.Tryz.f3) rfl (ts := Go.Proofs.Tryz.f3.results.toList) rfl (cuts := []) (by kernel_rfl) (Nat.le_of_ble_eq_true (by kernel_rfl)) (by kernel_rfl) (rt := .w (.at (.bool))) rfl ?_ ?_
  · intro ls' r' h'
    unfold RttSteady_S at h'
    obtain ⟨d, l'1, rfl, h'1⟩ := un_i_some.1 h'
    obtain ⟨n2, l'2, rfl, h'2⟩ := un_i_some.1 h'1
    obtain ⟨rfl, h'Z⟩ := un_nil_some.1 h'2
    exact (RttSteady_e d n2).symm.trans h'Z
  · intro E w0 ws ρ0 hk b hb
    rw [show loopsOf (fb Go.Proofs.Tryz.f3) = [(bodyAt (fb Go.Proofs.Tryz.f3) 0), (bodyAt (fb Go.Proofs.Tryz.f3) 1)] by kernel_rfl] at hb
    simp only [List.mem_cons, List.mem_nil_iff, or_false] at hb
    rcases hb with rfl | rfl
    · exact RttSteady_9_lok E w0 ws ρ0 hk
    · exact RttSteady_16_lok E w0 ws ρ0 hk
def G39 : Env := G38.addE 3 2 RttSteady_in RttSteady_out RttSteady_SC
theorem g39 : EnvOk Go.Proofs.Tryz.prog G39 := EnvOk.addE g38 RttSteady_c RttSteady_says
end Go.Sx.T

