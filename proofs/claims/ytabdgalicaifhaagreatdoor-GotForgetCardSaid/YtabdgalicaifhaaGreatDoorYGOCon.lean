import Derived.Test.YtabdgalicaifhaaGreatDoorYGOSpec
import Derived.Test.YtabdgalicaifhaaGreatDoorYFgCon
set_option linter.all false
namespace Go.Sx.T
open Go Go.Sx Go.Proofs
set_option maxRecDepth 100000

-- ### GotForget: function 14
def GotForget_in : Tm := ⟨[], [(0, .w (.at (.int .u64))), (1, .w (.at (.int .i64))), (2, .w (.at (.int .i64)))]⟩
def GotForget_out : Tm := ⟨[], [(0, .w (.at (.bool)))]⟩
def GotForget_8_T : Tm := ⟨[.cells 113 [.map 1, .int .u64, .bool, .int .u64, .bool], .map .u64 (.int .i64)], [(9, .w (.at (.int .i64))), (0, .w (.at (.int .u64))), (8, .w (.at (.ptr 0 0))), (1, .w (.at (.int .i64))), (2, .w (.at (.int .i64)))]⟩
def GotForget_8_X0 : Tm := ⟨[.cells 113 [.map 1, .int .u64, .bool, .int .u64, .bool], .map .u64 (.int .i64)], [(0, .w (.at (.int .u64))), (8, .w (.at (.ptr 0 0))), (1, .w (.at (.int .i64))), (2, .w (.at (.int .i64)))]⟩
def GotForget_8_X : Exits := [(0, (GotForget_8_X0, []))]
def GotForget_8_R : Tm := ⟨[], []⟩
def GotForget_13_T : Tm := ⟨[.cells 113 [.map 1, .int .u64, .bool, .int .u64, .bool], .map .u64 (.int .i64)], [(10, .w (.at (.int .i64))), (0, .w (.at (.int .u64))), (8, .w (.at (.ptr 0 0))), (1, .w (.at (.int .i64))), (2, .w (.at (.int .i64)))]⟩
def GotForget_13_X2 : Tm := ⟨[.cells 113 [.map 1, .int .u64, .bool, .int .u64, .bool], .map .u64 (.int .i64)], [(2, .w (.at (.int .i64))), (1, .w (.at (.int .i64))), (0, .w (.at (.int .u64))), (8, .w (.at (.ptr 0 0)))]⟩
def GotForget_13_X : Exits := [(2, (GotForget_13_X2, []))]
def GotForget_13_R : Tm := ⟨[], [(6, .w (.at (.bool)))]⟩

def GotForget_Λd (L8 : ({β : Type} → (Nat → List Leaf → Option β) → (List Leaf → Option β) → Nat → List Int → List Int → Int → Bool → Int → Bool → Int → Int → Int → Int → Option β)) (L13 : ({β : Type} → (Nat → List Leaf → Option β) → (List Leaf → Option β) → Nat → List Int → List Int → Int → Bool → Int → Bool → Int → Int → Int → Int → Option β)) : Loops := ⟨fun b fr H kx kr => bif Nat.beq (rid b) 8 then loopE 0 GotForget_8_T [] GotForget_8_X GotForget_8_R (GotForget_8_F @L8 top) fr H kx kr else bif Nat.beq (rid b) 13 then loopE 0 GotForget_13_T [] GotForget_13_X GotForget_13_R (GotForget_13_F @L13 top) fr H kx kr else none⟩
def GotForget_Λ : Loops := GotForget_Λd @GotForget_8_L @GotForget_13_L
theorem GotForget_8_e (L8 : ({β : Type} → (Nat → List Leaf → Option β) → (List Leaf → Option β) → Nat → List Int → List Int → Int → Bool → Int → Bool → Int → Int → Int → Int → Option β)) (L13 : ({β : Type} → (Nat → List Leaf → Option β) → (List Leaf → Option β) → Nat → List Int → List Int → Int → Bool → Int → Bool → Int → Int → Int → Int → Option β)) {α : Type} (kx : Nat → List Leaf → Option α) (kr : List Leaf → Option α) (again : List Int → List Int → Int → Bool → Int → Bool → Int → Int → Int → Int → Option α) (g_l_k : List Int) (g_l_v : List Int) (g_newest : Int) (g_any : Bool) (g_forgotten : Int) (g_forgot : Bool) (i : Int) (first : Int) (n2 : Int) (at2 : Int) : GotForget_8_B  kx kr again g_l_k g_l_v g_newest g_any g_forgotten g_forgot i first n2 at2 = loopB G64 (GotForget_Λd @L8 @L13) false tab Go.Proofs.Tryz.f14.ntmps 0 GotForget_8_T [] GotForget_8_X GotForget_8_R (bodyAt (fb Go.Proofs.Tryz.f14) 0) (fun ls => un_li ls fun g_l_k rr => un_li rr fun g_l_v rr => un_i rr fun g_newest rr => un_b rr fun g_any rr => un_i rr fun g_forgotten rr => un_b rr fun g_forgot rr => un_i rr fun i rr => un_i rr fun first rr => un_i rr fun n2 rr => un_i rr fun at2 rr => un_nil rr (again g_l_k g_l_v g_newest g_any g_forgotten g_forgot i first n2 at2)) kx kr (instFr GotForget_8_T [.li g_l_k, .li g_l_v, .i g_newest, .b g_any, .i g_forgotten, .b g_forgot, .i i, .i first, .i n2, .i at2]) (instH GotForget_8_T [.li g_l_k, .li g_l_v, .i g_newest, .b g_any, .i g_forgotten, .b g_forgot, .i i, .i first, .i n2, .i at2]) := by kernel_rfl
theorem GotForget_13_e (L8 : ({β : Type} → (Nat → List Leaf → Option β) → (List Leaf → Option β) → Nat → List Int → List Int → Int → Bool → Int → Bool → Int → Int → Int → Int → Option β)) (L13 : ({β : Type} → (Nat → List Leaf → Option β) → (List Leaf → Option β) → Nat → List Int → List Int → Int → Bool → Int → Bool → Int → Int → Int → Int → Option β)) {α : Type} (kx : Nat → List Leaf → Option α) (kr : List Leaf → Option α) (again : List Int → List Int → Int → Bool → Int → Bool → Int → Int → Int → Int → Option α) (g_l_k : List Int) (g_l_v : List Int) (g_newest : Int) (g_any : Bool) (g_forgotten : Int) (g_forgot : Bool) (i : Int) (first : Int) (n2 : Int) (at2 : Int) : GotForget_13_B  kx kr again g_l_k g_l_v g_newest g_any g_forgotten g_forgot i first n2 at2 = loopB G64 (GotForget_Λd @L8 @L13) false tab Go.Proofs.Tryz.f14.ntmps 0 GotForget_13_T [] GotForget_13_X GotForget_13_R (bodyAt (fb Go.Proofs.Tryz.f14) 1) (fun ls => un_li ls fun g_l_k rr => un_li rr fun g_l_v rr => un_i rr fun g_newest rr => un_b rr fun g_any rr => un_i rr fun g_forgotten rr => un_b rr fun g_forgot rr => un_i rr fun i rr => un_i rr fun first rr => un_i rr fun n2 rr => un_i rr fun at2 rr => un_nil rr (again g_l_k g_l_v g_newest g_any g_forgotten g_forgot i first n2 at2)) kx kr (instFr GotForget_13_T [.li g_l_k, .li g_l_v, .i g_newest, .b g_any, .i g_forgotten, .b g_forgot, .i i, .i first, .i n2, .i at2]) (instH GotForget_13_T [.li g_l_k, .li g_l_v, .i g_newest, .b g_any, .i g_forgotten, .b g_forgot, .i i, .i first, .i n2, .i at2]) := by kernel_rfl
theorem GotForget_13_lok (E : Nat → Prop) (w0 ws : World) (ρ0 : List Pl) (hk : ρ0.length = 0) : LOk Go.Proofs.Tryz.prog 14 Go.Proofs.Tryz.f14 false E w0 ws Go.Proofs.Tryz.f14.ntmps ρ0 GotForget_Λ (bodyAt (fb Go.Proofs.Tryz.f14) 1) := by
  refine lok mixed tab_ok g64 Go.Proofs.Tryz.func14 hk (T := GotForget_13_T) (rt := GotForget_13_R) (cuts := []) (ex := GotForget_13_X) (top := top) (F := GotForget_13_F @GotForget_13_L) (fun fr H kx kr => by kernel_rfl) ?_ ?_ ?_
  · intro α ls' kx' kr' r' h'
    unfold GotForget_13_F at h'
    obtain ⟨g_l_k, l'1, rfl, h'1⟩ := un_li_some.1 h'
    obtain ⟨g_l_v, l'2, rfl, h'2⟩ := un_li_some.1 h'1
    obtain ⟨g_newest, l'3, rfl, h'3⟩ := un_i_some.1 h'2
    obtain ⟨g_any, l'4, rfl, h'4⟩ := un_b_some.1 h'3
    obtain ⟨g_forgotten, l'5, rfl, h'5⟩ := un_i_some.1 h'4
    obtain ⟨g_forgot, l'6, rfl, h'6⟩ := un_b_some.1 h'5
    obtain ⟨i, l'7, rfl, h'7⟩ := un_i_some.1 h'6
    obtain ⟨first, l'8, rfl, h'8⟩ := un_i_some.1 h'7
    obtain ⟨n2, l'9, rfl, h'9⟩ := un_i_some.1 h'8
    obtain ⟨at2, l'10, rfl, h'10⟩ := un_i_some.1 h'9
    obtain ⟨rfl, h'Z⟩ := un_nil_some.1 h'10
    cases h'Z
  · intro α n' ls' kx' kr' r' h'
    unfold GotForget_13_F at h'
    obtain ⟨g_l_k, l'1, rfl, h'1⟩ := un_li_some.1 h'
    obtain ⟨g_l_v, l'2, rfl, h'2⟩ := un_li_some.1 h'1
    obtain ⟨g_newest, l'3, rfl, h'3⟩ := un_i_some.1 h'2
    obtain ⟨g_any, l'4, rfl, h'4⟩ := un_b_some.1 h'3
    obtain ⟨g_forgotten, l'5, rfl, h'5⟩ := un_i_some.1 h'4
    obtain ⟨g_forgot, l'6, rfl, h'6⟩ := un_b_some.1 h'5
    obtain ⟨i, l'7, rfl, h'7⟩ := un_i_some.1 h'6
    obtain ⟨first, l'8, rfl, h'8⟩ := un_i_some.1 h'7
    obtain ⟨n2, l'9, rfl, h'9⟩ := un_i_some.1 h'8
    obtain ⟨at2, l'10, rfl, h'10⟩ := un_i_some.1 h'9
    obtain ⟨rfl, h'Z⟩ := un_nil_some.1 h'10
    exact (GotForget_13_e @GotForget_8_L @GotForget_13_L kx' kr' (GotForget_13_L kx' kr' n') g_l_k g_l_v g_newest g_any g_forgotten g_forgot i first n2 at2).symm.trans h'Z
  · intro b' hb
    rw [show loopsOf (bodyAt (fb Go.Proofs.Tryz.f14) 1) = [] by kernel_rfl] at hb
    cases hb
theorem GotForget_8_lok (E : Nat → Prop) (w0 ws : World) (ρ0 : List Pl) (hk : ρ0.length = 0) : LOk Go.Proofs.Tryz.prog 14 Go.Proofs.Tryz.f14 false E w0 ws Go.Proofs.Tryz.f14.ntmps ρ0 GotForget_Λ (bodyAt (fb Go.Proofs.Tryz.f14) 0) := by
  refine lok mixed tab_ok g64 Go.Proofs.Tryz.func14 hk (T := GotForget_8_T) (rt := GotForget_8_R) (cuts := []) (ex := GotForget_8_X) (top := top) (F := GotForget_8_F @GotForget_8_L) (fun fr H kx kr => by kernel_rfl) ?_ ?_ ?_
  · intro α ls' kx' kr' r' h'
    unfold GotForget_8_F at h'
    obtain ⟨g_l_k, l'1, rfl, h'1⟩ := un_li_some.1 h'
    obtain ⟨g_l_v, l'2, rfl, h'2⟩ := un_li_some.1 h'1
    obtain ⟨g_newest, l'3, rfl, h'3⟩ := un_i_some.1 h'2
    obtain ⟨g_any, l'4, rfl, h'4⟩ := un_b_some.1 h'3
    obtain ⟨g_forgotten, l'5, rfl, h'5⟩ := un_i_some.1 h'4
    obtain ⟨g_forgot, l'6, rfl, h'6⟩ := un_b_some.1 h'5
    obtain ⟨i, l'7, rfl, h'7⟩ := un_i_some.1 h'6
    obtain ⟨first, l'8, rfl, h'8⟩ := un_i_some.1 h'7
    obtain ⟨n2, l'9, rfl, h'9⟩ := un_i_some.1 h'8
    obtain ⟨at2, l'10, rfl, h'10⟩ := un_i_some.1 h'9
    obtain ⟨rfl, h'Z⟩ := un_nil_some.1 h'10
    cases h'Z
  · intro α n' ls' kx' kr' r' h'
    unfold GotForget_8_F at h'
    obtain ⟨g_l_k, l'1, rfl, h'1⟩ := un_li_some.1 h'
    obtain ⟨g_l_v, l'2, rfl, h'2⟩ := un_li_some.1 h'1
    obtain ⟨g_newest, l'3, rfl, h'3⟩ := un_i_some.1 h'2
    obtain ⟨g_any, l'4, rfl, h'4⟩ := un_b_some.1 h'3
    obtain ⟨g_forgotten, l'5, rfl, h'5⟩ := un_i_some.1 h'4
    obtain ⟨g_forgot, l'6, rfl, h'6⟩ := un_b_some.1 h'5
    obtain ⟨i, l'7, rfl, h'7⟩ := un_i_some.1 h'6
    obtain ⟨first, l'8, rfl, h'8⟩ := un_i_some.1 h'7
    obtain ⟨n2, l'9, rfl, h'9⟩ := un_i_some.1 h'8
    obtain ⟨at2, l'10, rfl, h'10⟩ := un_i_some.1 h'9
    obtain ⟨rfl, h'Z⟩ := un_nil_some.1 h'10
    exact (GotForget_8_e @GotForget_8_L @GotForget_13_L kx' kr' (GotForget_8_L kx' kr' n') g_l_k g_l_v g_newest g_any g_forgotten g_forgot i first n2 at2).symm.trans h'Z
  · intro b' hb
    rw [show loopsOf (bodyAt (fb Go.Proofs.Tryz.f14) 0) = [] by kernel_rfl] at hb
    cases hb
theorem GotForget_ed (L8 : ({β : Type} → (Nat → List Leaf → Option β) → (List Leaf → Option β) → Nat → List Int → List Int → Int → Bool → Int → Bool → Int → Int → Int → Int → Option β)) (L13 : ({β : Type} → (Nat → List Leaf → Option β) → (List Leaf → Option β) → Nat → List Int → List Int → Int → Bool → Int → Bool → Int → Int → Int → Int → Option β)) (first : Int) (n2 : Int) (at2 : Int) : GotForget_d @L8 @L13 first n2 at2 = den G64 (GotForget_Λd @L8 @L13) false tab Go.Proofs.Tryz.f14.ntmps (fun fr H => finish tab 0 Go.Proofs.Tryz.f14.results.toList GotForget_out [] fr H some) (fun _ _ _ => none) (fun fr H => finish tab 0 Go.Proofs.Tryz.f14.results.toList GotForget_out [] fr H some) 10000 [.code (fb Go.Proofs.Tryz.f14)] (instFr GotForget_in [.i first, .i n2, .i at2]) (instH GotForget_in [.i first, .i n2, .i at2]) := by kernel_rfl
theorem GotForget_e (first : Int) (n2 : Int) (at2 : Int) : GotForget first n2 at2 = den G64 GotForget_Λ false tab Go.Proofs.Tryz.f14.ntmps (fun fr H => finish tab 0 Go.Proofs.Tryz.f14.results.toList GotForget_out [] fr H some) (fun _ _ _ => none) (fun fr H => finish tab 0 Go.Proofs.Tryz.f14.results.toList GotForget_out [] fr H some) 10000 [.code (fb Go.Proofs.Tryz.f14)] (instFr GotForget_in [.i first, .i n2, .i at2]) (instH GotForget_in [.i first, .i n2, .i at2]) := GotForget_ed @GotForget_8_L @GotForget_13_L first n2 at2
def GotForget_S : List Leaf → Option (List Leaf) := fun ls => un_i ls fun first rr => un_i rr fun n2 rr => un_i rr fun at2 rr => un_nil rr (GotForget first n2 at2)
def GotForget_SC : Tld := fun ls k' => un_i ls fun first rr => un_i rr fun n2 rr => un_i rr fun at2 rr => un_nil rr (out (GotForget first n2 at2) k')
theorem GotForget_Se (first : Int) (n2 : Int) (at2 : Int) : GotForget_S [.i first, .i n2, .i at2] = GotForget first n2 at2 := by
  unfold GotForget_S
  simp only [un_i_ev, un_b_ev, un_s_ev, un_li_ev, un_lb_ev, un_ls_ev, un_nil_ev]
theorem GotForget_says : Says GotForget_SC GotForget_S := by
  intro β ls' k' r' h'
  unfold GotForget_SC at h'
  obtain ⟨first, l'1, rfl, h'1⟩ := un_i_some.1 h'
  obtain ⟨n2, l'2, rfl, h'2⟩ := un_i_some.1 h'1
  obtain ⟨at2, l'3, rfl, h'3⟩ := un_i_some.1 h'2
  obtain ⟨rfl, h'Z⟩ := un_nil_some.1 h'3
  obtain ⟨l', a', b'⟩ := out_some.1 h'Z
  exact ⟨l', (GotForget_Se first n2 at2).trans a', b'⟩
theorem GotForget_c : FnC Go.Proofs.Tryz.prog 14 false 3 0 GotForget_in GotForget_out GotForget_S := by
  refine fn_ok (Λ := GotForget_Λ) mixed tab_ok g64 Go.Proofs.Tryz.func14 (by kernel_rfl) (body := fb Go.Proofs.Tryz.f14) rfl (ts := Go.Proofs.Tryz.f14.results.toList) rfl (cuts := []) (by kernel_rfl) (Nat.le_of_ble_eq_true (by kernel_rfl)) (by kernel_rfl) (rt := .w (.at (.bool))) rfl ?_ ?_
  · intro ls' r' h'
    unfold GotForget_S at h'
    obtain ⟨first, l'1, rfl, h'1⟩ := un_i_some.1 h'
    obtain ⟨n2, l'2, rfl, h'2⟩ := un_i_some.1 h'1
    obtain ⟨at2, l'3, rfl, h'3⟩ := un_i_some.1 h'2
    obtain ⟨rfl, h'Z⟩ := un_nil_some.1 h'3
    exact (GotForget_e first n2 at2).symm.trans h'Z
  · intro E w0 ws ρ0 hk b hb
    rw [show loopsOf (fb Go.Proofs.Tryz.f14) = [(bodyAt (fb Go.Proofs.Tryz.f14) 0), (bodyAt (fb Go.Proofs.Tryz.f14) 1)] by kernel_rfl] at hb
    simp only [List.mem_cons, List.mem_nil_iff, or_false] at hb
    rcases hb with rfl | rfl
    · exact GotForget_8_lok E w0 ws ρ0 hk
    · exact GotForget_13_lok E w0 ws ρ0 hk
noncomputable def G65 : Env := G64.addE 14 3 GotForget_in GotForget_out GotForget_SC
theorem g65 : EnvOk Go.Proofs.Tryz.prog G65 := EnvOk.addE g64 GotForget_c GotForget_says
end Go.Sx.T

