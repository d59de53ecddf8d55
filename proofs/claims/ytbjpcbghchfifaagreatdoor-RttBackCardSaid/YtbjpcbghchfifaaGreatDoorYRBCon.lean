import Derived.Test.YtbjpcbghchfifaaGreatDoorYRBSpec
import Derived.Test.YtbjpcbghchfifaaGreatDoorYI1Con
set_option linter.all false
namespace Go.Sx.T
open Go Go.Sx Go.Proofs

-- ### RttBack: function 13
def RttBack_in : Tm := ⟨[.ro 2 1 [.int .i64]], [(0, .w (.at (.all 0 1))), (1, .w (.at (.int .i64)))]⟩
def RttBack_out : Tm := ⟨[.dead], [(0, .w (.at (.bool)))]⟩
def RttBack_6_T : Tm := ⟨[.ro 2 1 [.int .i64], .cells 96 [.bool, .int .i64, .int .i64, .int .i64]], [(7, .w (.at (.int .i64))), (0, .w (.at (.all 0 1))), (6, .w (.at (.ptr 1 0))), (1, .w (.at (.int .i64)))]⟩
def RttBack_6_X0 : Tm := ⟨[.ro 2 1 [.int .i64], .cells 96 [.bool, .int .i64, .int .i64, .int .i64]], [(6, .w (.at (.ptr 1 0))), (0, .w (.at (.all 0 1))), (1, .w (.at (.int .i64)))]⟩
def RttBack_6_X : Exits := [(0, (RttBack_6_X0, []))]
def RttBack_6_R : Tm := ⟨[], []⟩
def RttBack_12_T : Tm := ⟨[.ro 2 1 [.int .i64], .cells 96 [.bool, .int .i64, .int .i64, .int .i64]], [(10, .w (.at (.int .i64))), (6, .w (.at (.ptr 1 0))), (9, .w (.at (.int .i64))), (8, .w (.at (.int .i64))), (0, .w (.at (.all 0 1))), (1, .w (.at (.int .i64)))]⟩
def RttBack_12_X2 : Tm := ⟨[.ro 2 1 [.int .i64], .cells 96 [.bool, .int .i64, .int .i64, .int .i64]], [(6, .w (.at (.ptr 1 0))), (8, .w (.at (.int .i64))), (0, .w (.at (.all 0 1)))]⟩
def RttBack_12_X : Exits := [(2, (RttBack_12_X2, []))]
def RttBack_12_R : Tm := ⟨[.ro 2 1 [.int .i64]], [(4, .w (.at (.bool)))]⟩

def RttBack_Λd (L6 : ({β : Type} → (Nat → List Leaf → Option β) → (List Leaf → Option β) → Nat → List Int → Bool → Int → Int → Int → Int → Int → Option β)) (L12 : ({β : Type} → (Nat → List Leaf → Option β) → (List Leaf → Option β) → Nat → List Int → Bool → Int → Int → Int → Int → Int → Int → Int → Option β)) : Loops := ⟨fun b fr H kx kr => bif Nat.beq (rid b) 6 then loopE 1 RttBack_6_T [] RttBack_6_X RttBack_6_R (RttBack_6_F @L6 top) fr H kx kr else bif Nat.beq (rid b) 12 then loopE 1 RttBack_12_T [] RttBack_12_X RttBack_12_R (RttBack_12_F @L12 top) fr H kx kr else none⟩
def RttBack_Λ : Loops := RttBack_Λd @RttBack_6_L @RttBack_12_L
theorem RttBack_6_e (L6 : ({β : Type} → (Nat → List Leaf → Option β) → (List Leaf → Option β) → Nat → List Int → Bool → Int → Int → Int → Int → Int → Option β)) (L12 : ({β : Type} → (Nat → List Leaf → Option β) → (List Leaf → Option β) → Nat → List Int → Bool → Int → Int → Int → Int → Int → Int → Int → Option β)) {α : Type} (kx : Nat → List Leaf → Option α) (kr : List Leaf → Option α) (again : List Int → Bool → Int → Int → Int → Int → Int → Option α) (ds : List Int) (r_any : Bool) (r_smooth : Int) (r_spread : Int) (r_rto : Int) (i : Int) (n2 : Int) : RttBack_6_B  kx kr again ds r_any r_smooth r_spread r_rto i n2 = loopB G40 (RttBack_Λd @L6 @L12) false tab Go.Proofs.Tryz.f13.ntmps 1 RttBack_6_T [] RttBack_6_X RttBack_6_R (bodyAt (fb Go.Proofs.Tryz.f13) 0) (fun ls => un_li ls fun ds rr => un_b rr fun r_any rr => un_i rr fun r_smooth rr => un_i rr fun r_spread rr => un_i rr fun r_rto rr => un_i rr fun i rr => un_i rr fun n2 rr => un_nil rr (again ds r_any r_smooth r_spread r_rto i n2)) kx kr (instFr RttBack_6_T [.li ds, .b r_any, .i r_smooth, .i r_spread, .i r_rto, .i i, .i n2]) (instH RttBack_6_T [.li ds, .b r_any, .i r_smooth, .i r_spread, .i r_rto, .i i, .i n2]) := by kernel_rfl
theorem RttBack_12_e (L6 : ({β : Type} → (Nat → List Leaf → Option β) → (List Leaf → Option β) → Nat → List Int → Bool → Int → Int → Int → Int → Int → Option β)) (L12 : ({β : Type} → (Nat → List Leaf → Option β) → (List Leaf → Option β) → Nat → List Int → Bool → Int → Int → Int → Int → Int → Int → Int → Option β)) {α : Type} (kx : Nat → List Leaf → Option α) (kr : List Leaf → Option α) (again : List Int → Bool → Int → Int → Int → Int → Int → Int → Int → Option α) (ds : List Int) (r_any : Bool) (r_smooth : Int) (r_spread : Int) (r_rto : Int) (i : Int) (want : Int) (was : Int) (n2 : Int) : RttBack_12_B  kx kr again ds r_any r_smooth r_spread r_rto i want was n2 = loopB G40 (RttBack_Λd @L6 @L12) false tab Go.Proofs.Tryz.f13.ntmps 1 RttBack_12_T [] RttBack_12_X RttBack_12_R (bodyAt (fb Go.Proofs.Tryz.f13) 1) (fun ls => un_li ls fun ds rr => un_b rr fun r_any rr => un_i rr fun r_smooth rr => un_i rr fun r_spread rr => un_i rr fun r_rto rr => un_i rr fun i rr => un_i rr fun want rr => un_i rr fun was rr => un_i rr fun n2 rr => un_nil rr (again ds r_any r_smooth r_spread r_rto i want was n2)) kx kr (instFr RttBack_12_T [.li ds, .b r_any, .i r_smooth, .i r_spread, .i r_rto, .i i, .i want, .i was, .i n2]) (instH RttBack_12_T [.li ds, .b r_any, .i r_smooth, .i r_spread, .i r_rto, .i i, .i want, .i was, .i n2]) := by kernel_rfl
theorem RttBack_12_lok (E : Nat → Prop) (w0 ws : World) (ρ0 : List Pl) (hk : ρ0.length = 1) : LOk Go.Proofs.Tryz.prog 13 Go.Proofs.Tryz.f13 false E w0 ws Go.Proofs.Tryz.f13.ntmps ρ0 RttBack_Λ (bodyAt (fb Go.Proofs.Tryz.f13) 1) := by
  refine lok mixed tab_ok g40 Go.Proofs.Tryz.func13 hk (T := RttBack_12_T) (rt := RttBack_12_R) (cuts := []) (ex := RttBack_12_X) (top := top) (F := RttBack_12_F @RttBack_12_L) (fun fr H kx kr => by kernel_rfl) ?_ ?_ ?_
  · intro α ls' kx' kr' r' h'
    unfold RttBack_12_F at h'
    obtain ⟨ds, l'1, rfl, h'1⟩ := un_li_some.1 h'
    obtain ⟨r_any, l'2, rfl, h'2⟩ := un_b_some.1 h'1
    obtain ⟨r_smooth, l'3, rfl, h'3⟩ := un_i_some.1 h'2
    obtain ⟨r_spread, l'4, rfl, h'4⟩ := un_i_some.1 h'3
    obtain ⟨r_rto, l'5, rfl, h'5⟩ := un_i_some.1 h'4
    obtain ⟨i, l'6, rfl, h'6⟩ := un_i_some.1 h'5
    obtain ⟨want, l'7, rfl, h'7⟩ := un_i_some.1 h'6
    obtain ⟨was, l'8, rfl, h'8⟩ := un_i_some.1 h'7
    obtain ⟨n2, l'9, rfl, h'9⟩ := un_i_some.1 h'8
    obtain ⟨rfl, h'Z⟩ := un_nil_some.1 h'9
    cases h'Z
  · intro α n' ls' kx' kr' r' h'
    unfold RttBack_12_F at h'
    obtain ⟨ds, l'1, rfl, h'1⟩ := un_li_some.1 h'
    obtain ⟨r_any, l'2, rfl, h'2⟩ := un_b_some.1 h'1
    obtain ⟨r_smooth, l'3, rfl, h'3⟩ := un_i_some.1 h'2
    obtain ⟨r_spread, l'4, rfl, h'4⟩ := un_i_some.1 h'3
    obtain ⟨r_rto, l'5, rfl, h'5⟩ := un_i_some.1 h'4
    obtain ⟨i, l'6, rfl, h'6⟩ := un_i_some.1 h'5
    obtain ⟨want, l'7, rfl, h'7⟩ := un_i_some.1 h'6
    obtain ⟨was, l'8, rfl, h'8⟩ := un_i_some.1 h'7
    obtain ⟨n2, l'9, rfl, h'9⟩ := un_i_some.1 h'8
    obtain ⟨rfl, h'Z⟩ := un_nil_some.1 h'9
    exact (RttBack_12_e @RttBack_6_L @RttBack_12_L kx' kr' (RttBack_12_L kx' kr' n') ds r_any r_smooth r_spread r_rto i want was n2).symm.trans h'Z
  · intro b' hb
    rw [show loopsOf (bodyAt (fb Go.Proofs.Tryz.f13) 1) = [] by kernel_rfl] at hb
    cases hb
theorem RttBack_6_lok (E : Nat → Prop) (w0 ws : World) (ρ0 : List Pl) (hk : ρ0.length = 1) : LOk Go.Proofs.Tryz.prog 13 Go.Proofs.Tryz.f13 false E w0 ws Go.Proofs.Tryz.f13.ntmps ρ0 RttBack_Λ (bodyAt (fb Go.Proofs.Tryz.f13) 0) := by
  refine lok mixed tab_ok g40 Go.Proofs.Tryz.func13 hk (T := RttBack_6_T) (rt := RttBack_6_R) (cuts := []) (ex := RttBack_6_X) (top := top) (F := RttBack_6_F @RttBack_6_L) (fun fr H kx kr => by kernel_rfl) ?_ ?_ ?_
  · intro α ls' kx' kr' r' h'
    unfold RttBack_6_F at h'
    obtain ⟨ds, l'1, rfl, h'1⟩ := un_li_some.1 h'
    obtain ⟨r_any, l'2, rfl, h'2⟩ := un_b_some.1 h'1
    obtain ⟨r_smooth, l'3, rfl, h'3⟩ := un_i_some.1 h'2
    obtain ⟨r_spread, l'4, rfl, h'4⟩ := un_i_some.1 h'3
    obtain ⟨r_rto, l'5, rfl, h'5⟩ := un_i_some.1 h'4
    obtain ⟨i, l'6, rfl, h'6⟩ := un_i_some.1 h'5
    obtain ⟨n2, l'7, rfl, h'7⟩ := un_i_some.1 h'6
    obtain ⟨rfl, h'Z⟩ := un_nil_some.1 h'7
    cases h'Z
  · intro α n' ls' kx' kr' r' h'
    unfold RttBack_6_F at h'
    obtain ⟨ds, l'1, rfl, h'1⟩ := un_li_some.1 h'
    obtain ⟨r_any, l'2, rfl, h'2⟩ := un_b_some.1 h'1
    obtain ⟨r_smooth, l'3, rfl, h'3⟩ := un_i_some.1 h'2
    obtain ⟨r_spread, l'4, rfl, h'4⟩ := un_i_some.1 h'3
    obtain ⟨r_rto, l'5, rfl, h'5⟩ := un_i_some.1 h'4
    obtain ⟨i, l'6, rfl, h'6⟩ := un_i_some.1 h'5
    obtain ⟨n2, l'7, rfl, h'7⟩ := un_i_some.1 h'6
    obtain ⟨rfl, h'Z⟩ := un_nil_some.1 h'7
    exact (RttBack_6_e @RttBack_6_L @RttBack_12_L kx' kr' (RttBack_6_L kx' kr' n') ds r_any r_smooth r_spread r_rto i n2).symm.trans h'Z
  · intro b' hb
    rw [show loopsOf (bodyAt (fb Go.Proofs.Tryz.f13) 0) = [] by kernel_rfl] at hb
    cases hb
theorem RttBack_ed (L6 : ({β : Type} → (Nat → List Leaf → Option β) → (List Leaf → Option β) → Nat → List Int → Bool → Int → Int → Int → Int → Int → Option β)) (L12 : ({β : Type} → (Nat → List Leaf → Option β) → (List Leaf → Option β) → Nat → List Int → Bool → Int → Int → Int → Int → Int → Int → Int → Option β)) (ds : List Int) (n2 : Int) : RttBack_d @L6 @L12 ds n2 = den G40 (RttBack_Λd @L6 @L12) false tab Go.Proofs.Tryz.f13.ntmps (fun fr H => finish tab 1 Go.Proofs.Tryz.f13.results.toList RttBack_out [] fr H some) (fun _ _ _ => none) (fun fr H => finish tab 1 Go.Proofs.Tryz.f13.results.toList RttBack_out [] fr H some) 10000 [.code (fb Go.Proofs.Tryz.f13)] (instFr RttBack_in [.li ds, .i n2]) (instH RttBack_in [.li ds, .i n2]) := by kernel_rfl
theorem RttBack_e (ds : List Int) (n2 : Int) : RttBack ds n2 = den G40 RttBack_Λ false tab Go.Proofs.Tryz.f13.ntmps (fun fr H => finish tab 1 Go.Proofs.Tryz.f13.results.toList RttBack_out [] fr H some) (fun _ _ _ => none) (fun fr H => finish tab 1 Go.Proofs.Tryz.f13.results.toList RttBack_out [] fr H some) 10000 [.code (fb Go.Proofs.Tryz.f13)] (instFr RttBack_in [.li ds, .i n2]) (instH RttBack_in [.li ds, .i n2]) := RttBack_ed @RttBack_6_L @RttBack_12_L ds n2
def RttBack_S : List Leaf → Option (List Leaf) := fun ls => un_li ls fun ds rr => un_i rr fun n2 rr => un_nil rr (RttBack ds n2)
def RttBack_SC : Tld := fun ls k' => un_li ls fun ds rr => un_i rr fun n2 rr => un_nil rr (out (RttBack ds n2) k')
theorem RttBack_Se (ds : List Int) (n2 : Int) : RttBack_S [.li ds, .i n2] = RttBack ds n2 := by
  unfold RttBack_S
  simp only [un_i_ev, un_b_ev, un_s_ev, un_li_ev, un_lb_ev, un_ls_ev, un_nil_ev]
theorem RttBack_says : Says RttBack_SC RttBack_S := by
  intro β ls' k' r' h'
  unfold RttBack_SC at h'
  obtain ⟨ds, l'1, rfl, h'1⟩ := un_li_some.1 h'
  obtain ⟨n2, l'2, rfl, h'2⟩ := un_i_some.1 h'1
  obtain ⟨rfl, h'Z⟩ := un_nil_some.1 h'2
  obtain ⟨l', a', b'⟩ := out_some.1 h'Z
  exact ⟨l', (RttBack_Se ds n2).trans a', b'⟩
theorem RttBack_c : FnC Go.Proofs.Tryz.prog 13 false 2 1 RttBack_in RttBack_out RttBack_S := by
  refine fn_ok (Λ := RttBack_Λ) mixed tab_ok g40 Go.Proofs.Tryz.func13 (by kernel_rfl) (body := fb Go.Proofs.Tryz.f13) rfl (ts := Go.Proofs.Tryz.f13.results.toList) rfl (cuts := []) (by kernel_rfl) (Nat.le_of_ble_eq_true (by kernel_rfl)) (by kernel_rfl) (rt := .w (.at (.bool))) rfl ?_ ?_
  · intro ls' r' h'
    unfold RttBack_S at h'
    obtain ⟨ds, l'1, rfl, h'1⟩ := un_li_some.1 h'
    obtain ⟨n2, l'2, rfl, h'2⟩ := un_i_some.1 h'1
    obtain ⟨rfl, h'Z⟩ := un_nil_some.1 h'2
    exact (RttBack_e ds n2).symm.trans h'Z
  · intro E w0 ws ρ0 hk b hb
    rw [show loopsOf (fb Go.Proofs.Tryz.f13) = [(bodyAt (fb Go.Proofs.Tryz.f13) 0), (bodyAt (fb Go.Proofs.Tryz.f13) 1)] by kernel_rfl] at hb
    simp only [List.mem_cons, List.mem_nil_iff, or_false] at hb
    rcases hb with rfl | rfl
    · exact RttBack_6_lok E w0 ws ρ0 hk
    · exact RttBack_12_lok E w0 ws ρ0 hk
def G41 : Env := G40.addE 13 2 RttBack_in RttBack_out RttBack_SC
theorem g41 : EnvOk Go.Proofs.Tryz.prog G41 := EnvOk.addE g40 RttBack_c RttBack_says
end Go.Sx.T

