import Derived.Test.YtabdgalicaifhaaGreatDoorYGVSpec
import Derived.Test.YtabdgalicaifhaaGreatDoorYGFCon
set_option linter.all false
namespace Go.Sx.T
open Go Go.Sx Go.Proofs
set_option maxRecDepth 100000

-- ### GotVector: function 13
def GotVector_in : Tm := ⟨[.ro 3 1 [.int .i64]], [(0, .w (.at (.int .u64))), (1, .w (.at (.all 0 1)))]⟩
def GotVector_out : Tm := ⟨[.dead], [(0, .w (.at (.bool)))]⟩
def GotVector_11_T : Tm := ⟨[.ro 3 1 [.int .i64], .map .i64 (.bool), .cells 113 [.map 3, .int .u64, .bool, .int .u64, .bool], .map .u64 (.int .i64)], [(10, .w (.at (.int .i64))), (9, .w (.at (.int .i64))), (7, .w (.at (.map 1))), (0, .w (.at (.int .u64))), (6, .w (.at (.ptr 2 0))), (1, .w (.at (.all 0 1))), (8, .w (.at (.int .i64)))]⟩
def GotVector_11_X0 : Tm := ⟨[.ro 3 1 [.int .i64], .map .i64 (.bool), .cells 113 [.map 3, .int .u64, .bool, .int .u64, .bool], .map .u64 (.int .i64)], [(9, .w (.at (.int .i64))), (7, .w (.at (.map 1))), (6, .w (.at (.ptr 2 0)))]⟩
def GotVector_11_X : Exits := [(0, (GotVector_11_X0, []))]
def GotVector_11_R : Tm := ⟨[.ro 3 1 [.int .i64]], [(4, .w (.at (.bool)))]⟩
def GotVector_23_T : Tm := ⟨[.ro 3 1 [.int .i64], .map .i64 (.bool), .row 3 1 [.int .i64]], [(73, .w (.at (.int .i64))), (9, .w (.at (.int .i64))), (7, .w (.at (.map 1))), (11, .w (.at (.all 2 1))), (72, .w (.at (.int .i64)))]⟩
def GotVector_23_X2 : Tm := ⟨[.ro 3 1 [.int .i64]], []⟩
def GotVector_23_X : Exits := [(2, (GotVector_23_X2, []))]
def GotVector_23_R : Tm := ⟨[.ro 3 1 [.int .i64]], [(4, .w (.at (.bool)))]⟩

def GotVector_Λd (L11 : ({β : Type} → (Nat → List Leaf → Option β) → (List Leaf → Option β) → Nat → List Int → List Int → List Bool → List Int → List Int → Int → Bool → Int → Bool → Int → Int → Int → Int → Option β)) (L23 : ({β : Type} → (Nat → List Leaf → Option β) → (List Leaf → Option β) → Nat → List Int → List Int → List Bool → List Int → Int → Int → Int → Option β)) : Loops := ⟨fun b fr H kx kr => bif Nat.beq (rid b) 11 then loopE 1 GotVector_11_T [] GotVector_11_X GotVector_11_R (GotVector_11_F @L11 top) fr H kx kr else bif Nat.beq (rid b) 23 then loopE 1 GotVector_23_T [] GotVector_23_X GotVector_23_R (GotVector_23_F @L23 top) fr H kx kr else none⟩
def GotVector_Λ : Loops := GotVector_Λd @GotVector_11_L @GotVector_23_L
theorem GotVector_11_e (L11 : ({β : Type} → (Nat → List Leaf → Option β) → (List Leaf → Option β) → Nat → List Int → List Int → List Bool → List Int → List Int → Int → Bool → Int → Bool → Int → Int → Int → Int → Option β)) (L23 : ({β : Type} → (Nat → List Leaf → Option β) → (List Leaf → Option β) → Nat → List Int → List Int → List Bool → List Int → Int → Int → Int → Option β)) {α : Type} (kx : Nat → List Leaf → Option α) (kr : List Leaf → Option α) (again : List Int → List Int → List Bool → List Int → List Int → Int → Bool → Int → Bool → Int → Int → Int → Int → Option α) (steps : List Int) (was_k : List Int) (was_v : List Bool) (g_l_k : List Int) (g_l_v : List Int) (g_newest : Int) (g_any : Bool) (g_forgotten : Int) (g_forgot : Bool) (i : Int) (top2 : Int) (first : Int) (at2 : Int) : GotVector_11_B  kx kr again steps was_k was_v g_l_k g_l_v g_newest g_any g_forgotten g_forgot i top2 first at2 = loopB G53 (GotVector_Λd @L11 @L23) false tab Go.Proofs.Tryz.f13.ntmps 1 GotVector_11_T [] GotVector_11_X GotVector_11_R (bodyAt (fb Go.Proofs.Tryz.f13) 0) (fun ls => un_li ls fun steps rr => un_li rr fun was_k rr => un_lb rr fun was_v rr => un_li rr fun g_l_k rr => un_li rr fun g_l_v rr => un_i rr fun g_newest rr => un_b rr fun g_any rr => un_i rr fun g_forgotten rr => un_b rr fun g_forgot rr => un_i rr fun i rr => un_i rr fun top2 rr => un_i rr fun first rr => un_i rr fun at2 rr => un_nil rr (again steps was_k was_v g_l_k g_l_v g_newest g_any g_forgotten g_forgot i top2 first at2)) kx kr (instFr GotVector_11_T [.li steps, .li was_k, .lb was_v, .li g_l_k, .li g_l_v, .i g_newest, .b g_any, .i g_forgotten, .b g_forgot, .i i, .i top2, .i first, .i at2]) (instH GotVector_11_T [.li steps, .li was_k, .lb was_v, .li g_l_k, .li g_l_v, .i g_newest, .b g_any, .i g_forgotten, .b g_forgot, .i i, .i top2, .i first, .i at2]) := by kernel_rfl
theorem GotVector_23_e (L11 : ({β : Type} → (Nat → List Leaf → Option β) → (List Leaf → Option β) → Nat → List Int → List Int → List Bool → List Int → List Int → Int → Bool → Int → Bool → Int → Int → Int → Int → Option β)) (L23 : ({β : Type} → (Nat → List Leaf → Option β) → (List Leaf → Option β) → Nat → List Int → List Int → List Bool → List Int → Int → Int → Int → Option β)) {α : Type} (kx : Nat → List Leaf → Option α) (kr : List Leaf → Option α) (again : List Int → List Int → List Bool → List Int → Int → Int → Int → Option α) (steps : List Int) (was_k : List Int) (was_v : List Bool) (l : List Int) (t73 : Int) (top2 : Int) (t72 : Int) : GotVector_23_B  kx kr again steps was_k was_v l t73 top2 t72 = loopB G53 (GotVector_Λd @L11 @L23) false tab Go.Proofs.Tryz.f13.ntmps 1 GotVector_23_T [] GotVector_23_X GotVector_23_R (bodyAt (fb Go.Proofs.Tryz.f13) 1) (fun ls => un_li ls fun steps rr => un_li rr fun was_k rr => un_lb rr fun was_v rr => un_li rr fun l rr => un_i rr fun t73 rr => un_i rr fun top2 rr => un_i rr fun t72 rr => un_nil rr (again steps was_k was_v l t73 top2 t72)) kx kr (instFr GotVector_23_T [.li steps, .li was_k, .lb was_v, .li l, .i t73, .i top2, .i t72]) (instH GotVector_23_T [.li steps, .li was_k, .lb was_v, .li l, .i t73, .i top2, .i t72]) := by kernel_rfl
theorem GotVector_23_lok (E : Nat → Prop) (w0 ws : World) (ρ0 : List Pl) (hk : ρ0.length = 1) : LOk Go.Proofs.Tryz.prog 13 Go.Proofs.Tryz.f13 false E w0 ws Go.Proofs.Tryz.f13.ntmps ρ0 GotVector_Λ (bodyAt (fb Go.Proofs.Tryz.f13) 1) := by
  refine lok mixed tab_ok g53 Go.Proofs.Tryz.func13 hk (T := GotVector_23_T) (rt := GotVector_23_R) (cuts := []) (ex := GotVector_23_X) (top := top) (F := GotVector_23_F @GotVector_23_L) (fun fr H kx kr => by kernel_rfl) ?_ ?_ ?_
  · intro α ls' kx' kr' r' h'
    unfold GotVector_23_F at h'
    obtain ⟨steps, l'1, rfl, h'1⟩ := un_li_some.1 h'
    obtain ⟨was_k, l'2, rfl, h'2⟩ := un_li_some.1 h'1
    obtain ⟨was_v, l'3, rfl, h'3⟩ := un_lb_some.1 h'2
    obtain ⟨l, l'4, rfl, h'4⟩ := un_li_some.1 h'3
    obtain ⟨t73, l'5, rfl, h'5⟩ := un_i_some.1 h'4
    obtain ⟨top2, l'6, rfl, h'6⟩ := un_i_some.1 h'5
    obtain ⟨t72, l'7, rfl, h'7⟩ := un_i_some.1 h'6
    obtain ⟨rfl, h'Z⟩ := un_nil_some.1 h'7
    cases h'Z
  · intro α n' ls' kx' kr' r' h'
    unfold GotVector_23_F at h'
    obtain ⟨steps, l'1, rfl, h'1⟩ := un_li_some.1 h'
    obtain ⟨was_k, l'2, rfl, h'2⟩ := un_li_some.1 h'1
    obtain ⟨was_v, l'3, rfl, h'3⟩ := un_lb_some.1 h'2
    obtain ⟨l, l'4, rfl, h'4⟩ := un_li_some.1 h'3
    obtain ⟨t73, l'5, rfl, h'5⟩ := un_i_some.1 h'4
    obtain ⟨top2, l'6, rfl, h'6⟩ := un_i_some.1 h'5
    obtain ⟨t72, l'7, rfl, h'7⟩ := un_i_some.1 h'6
    obtain ⟨rfl, h'Z⟩ := un_nil_some.1 h'7
    exact (GotVector_23_e @GotVector_11_L @GotVector_23_L kx' kr' (GotVector_23_L kx' kr' n') steps was_k was_v l t73 top2 t72).symm.trans h'Z
  · intro b' hb
    rw [show loopsOf (bodyAt (fb Go.Proofs.Tryz.f13) 1) = [] by kernel_rfl] at hb
    cases hb
theorem GotVector_11_lok (E : Nat → Prop) (w0 ws : World) (ρ0 : List Pl) (hk : ρ0.length = 1) : LOk Go.Proofs.Tryz.prog 13 Go.Proofs.Tryz.f13 false E w0 ws Go.Proofs.Tryz.f13.ntmps ρ0 GotVector_Λ (bodyAt (fb Go.Proofs.Tryz.f13) 0) := by
  refine lok mixed tab_ok g53 Go.Proofs.Tryz.func13 hk (T := GotVector_11_T) (rt := GotVector_11_R) (cuts := []) (ex := GotVector_11_X) (top := top) (F := GotVector_11_F @GotVector_11_L) (fun fr H kx kr => by kernel_rfl) ?_ ?_ ?_
  · intro α ls' kx' kr' r' h'
    unfold GotVector_11_F at h'
    obtain ⟨steps, l'1, rfl, h'1⟩ := un_li_some.1 h'
    obtain ⟨was_k, l'2, rfl, h'2⟩ := un_li_some.1 h'1
    obtain ⟨was_v, l'3, rfl, h'3⟩ := un_lb_some.1 h'2
    obtain ⟨g_l_k, l'4, rfl, h'4⟩ := un_li_some.1 h'3
    obtain ⟨g_l_v, l'5, rfl, h'5⟩ := un_li_some.1 h'4
    obtain ⟨g_newest, l'6, rfl, h'6⟩ := un_i_some.1 h'5
    obtain ⟨g_any, l'7, rfl, h'7⟩ := un_b_some.1 h'6
    obtain ⟨g_forgotten, l'8, rfl, h'8⟩ := un_i_some.1 h'7
    obtain ⟨g_forgot, l'9, rfl, h'9⟩ := un_b_some.1 h'8
    obtain ⟨i, l'10, rfl, h'10⟩ := un_i_some.1 h'9
    obtain ⟨top2, l'11, rfl, h'11⟩ := un_i_some.1 h'10
    obtain ⟨first, l'12, rfl, h'12⟩ := un_i_some.1 h'11
    obtain ⟨at2, l'13, rfl, h'13⟩ := un_i_some.1 h'12
    obtain ⟨rfl, h'Z⟩ := un_nil_some.1 h'13
    cases h'Z
  · intro α n' ls' kx' kr' r' h'
    unfold GotVector_11_F at h'
    obtain ⟨steps, l'1, rfl, h'1⟩ := un_li_some.1 h'
    obtain ⟨was_k, l'2, rfl, h'2⟩ := un_li_some.1 h'1
    obtain ⟨was_v, l'3, rfl, h'3⟩ := un_lb_some.1 h'2
    obtain ⟨g_l_k, l'4, rfl, h'4⟩ := un_li_some.1 h'3
    obtain ⟨g_l_v, l'5, rfl, h'5⟩ := un_li_some.1 h'4
    obtain ⟨g_newest, l'6, rfl, h'6⟩ := un_i_some.1 h'5
    obtain ⟨g_any, l'7, rfl, h'7⟩ := un_b_some.1 h'6
    obtain ⟨g_forgotten, l'8, rfl, h'8⟩ := un_i_some.1 h'7
    obtain ⟨g_forgot, l'9, rfl, h'9⟩ := un_b_some.1 h'8
    obtain ⟨i, l'10, rfl, h'10⟩ := un_i_some.1 h'9
    obtain ⟨top2, l'11, rfl, h'11⟩ := un_i_some.1 h'10
    obtain ⟨first, l'12, rfl, h'12⟩ := un_i_some.1 h'11
    obtain ⟨at2, l'13, rfl, h'13⟩ := un_i_some.1 h'12
    obtain ⟨rfl, h'Z⟩ := un_nil_some.1 h'13
    exact (GotVector_11_e @GotVector_11_L @GotVector_23_L kx' kr' (GotVector_11_L kx' kr' n') steps was_k was_v g_l_k g_l_v g_newest g_any g_forgotten g_forgot i top2 first at2).symm.trans h'Z
  · intro b' hb
    rw [show loopsOf (bodyAt (fb Go.Proofs.Tryz.f13) 0) = [] by kernel_rfl] at hb
    cases hb
theorem GotVector_ed (L11 : ({β : Type} → (Nat → List Leaf → Option β) → (List Leaf → Option β) → Nat → List Int → List Int → List Bool → List Int → List Int → Int → Bool → Int → Bool → Int → Int → Int → Int → Option β)) (L23 : ({β : Type} → (Nat → List Leaf → Option β) → (List Leaf → Option β) → Nat → List Int → List Int → List Bool → List Int → Int → Int → Int → Option β)) (steps : List Int) (first : Int) : GotVector_d @L11 @L23 steps first = den G53 (GotVector_Λd @L11 @L23) false tab Go.Proofs.Tryz.f13.ntmps (fun fr H => finish tab 1 Go.Proofs.Tryz.f13.results.toList GotVector_out [] fr H some) (fun _ _ _ => none) (fun fr H => finish tab 1 Go.Proofs.Tryz.f13.results.toList GotVector_out [] fr H some) 10000 [.code (fb Go.Proofs.Tryz.f13)] (instFr GotVector_in [.li steps, .i first]) (instH GotVector_in [.li steps, .i first]) := by kernel_rfl
theorem GotVector_e (steps : List Int) (first : Int) : GotVector steps first = den G53 GotVector_Λ false tab Go.Proofs.Tryz.f13.ntmps (fun fr H => finish tab 1 Go.Proofs.Tryz.f13.results.toList GotVector_out [] fr H some) (fun _ _ _ => none) (fun fr H => finish tab 1 Go.Proofs.Tryz.f13.results.toList GotVector_out [] fr H some) 10000 [.code (fb Go.Proofs.Tryz.f13)] (instFr GotVector_in [.li steps, .i first]) (instH GotVector_in [.li steps, .i first]) := GotVector_ed @GotVector_11_L @GotVector_23_L steps first
def GotVector_S : List Leaf → Option (List Leaf) := fun ls => un_li ls fun steps rr => un_i rr fun first rr => un_nil rr (GotVector steps first)
def GotVector_SC : Tld := fun ls k' => un_li ls fun steps rr => un_i rr fun first rr => un_nil rr (out (GotVector steps first) k')
theorem GotVector_Se (steps : List Int) (first : Int) : GotVector_S [.li steps, .i first] = GotVector steps first := by
  unfold GotVector_S
  simp only [un_i_ev, un_b_ev, un_s_ev, un_li_ev, un_lb_ev, un_ls_ev, un_nil_ev]
theorem GotVector_says : Says GotVector_SC GotVector_S := by
  intro β ls' k' r' h'
  unfold GotVector_SC at h'
  obtain ⟨steps, l'1, rfl, h'1⟩ := un_li_some.1 h'
  obtain ⟨first, l'2, rfl, h'2⟩ := un_i_some.1 h'1
  obtain ⟨rfl, h'Z⟩ := un_nil_some.1 h'2
  obtain ⟨l', a', b'⟩ := out_some.1 h'Z
  exact ⟨l', (GotVector_Se steps first).trans a', b'⟩
theorem GotVector_c : FnC Go.Proofs.Tryz.prog 13 false 2 1 GotVector_in GotVector_out GotVector_S := by
  refine fn_ok (Λ := GotVector_Λ) mixed tab_ok g53 Go.Proofs.Tryz.func13 (by kernel_rfl) (body := fb Go.Proofs.Tryz.f13) rfl (ts := Go.Proofs.Tryz.f13.results.toList) rfl (cuts := []) (by kernel_rfl) (Nat.le_of_ble_eq_true (by kernel_rfl)) (by kernel_rfl) (rt := .w (.at (.bool))) rfl ?_ ?_
  · intro ls' r' h'
    unfold GotVector_S at h'
    obtain ⟨steps, l'1, rfl, h'1⟩ := un_li_some.1 h'
    obtain ⟨first, l'2, rfl, h'2⟩ := un_i_some.1 h'1
    obtain ⟨rfl, h'Z⟩ := un_nil_some.1 h'2
    exact (GotVector_e steps first).symm.trans h'Z
  · intro E w0 ws ρ0 hk b hb
    rw [show loopsOf (fb Go.Proofs.Tryz.f13) = [(bodyAt (fb Go.Proofs.Tryz.f13) 0), (bodyAt (fb Go.Proofs.Tryz.f13) 1)] by kernel_rfl] at hb
    simp only [List.mem_cons, List.mem_nil_iff, or_false] at hb
    rcases hb with rfl | rfl
    · exact GotVector_11_lok E w0 ws ρ0 hk
    · exact GotVector_23_lok E w0 ws ρ0 hk
noncomputable def G54 : Env := G53.addE 13 2 GotVector_in GotVector_out GotVector_SC
theorem g54 : EnvOk Go.Proofs.Tryz.prog G54 := EnvOk.addE g53 GotVector_c GotVector_says
end Go.Sx.T

