import Derived.Test.YtfcaemjklnelhaaGreatDoorYCelSpec
import Derived.Test.YtfcaemjklnelhaaGreatDoorYPut
set_option linter.all false
namespace Go.Sx.T
open Go Go.Sx Go.Proofs
set_option maxRecDepth 100000
noncomputable def G19 : Env := G18.addE 8 1 vec_Put_in vec_Put_out vec_Put_SC
theorem g19 : EnvOk Go.Proofs.Tryz.prog G19 := EnvOk.addE g18 vec_Put_c vec_Put_says

-- ### law_cells: function 11
def law_cells_in : Tm := ⟨[.ro 38 2 [.int .i64, .int .i64], .ro 38 2 [.int .i64, .int .i64]], [(0, .w (.at (.all 0 2))), (1, .w (.at (.all 1 2)))]⟩
def law_cells_out : Tm := ⟨[.dead, .dead], [(0, .w (.at (.bool)))]⟩
def law_cells_4_T : Tm := ⟨[.ro 38 2 [.int .i64, .int .i64], .ro 38 2 [.int .i64, .int .i64]], [(13, .w (.at (.int .i64))), (1, .w (.at (.all 1 2))), (0, .w (.at (.all 0 2))), (12, .w (.at (.int .i64)))]⟩
def law_cells_4_X0 : Tm := ⟨[.ro 38 2 [.int .i64, .int .i64], .ro 38 2 [.int .i64, .int .i64]], []⟩
def law_cells_4_X : Exits := [(0, (law_cells_4_X0, []))]
def law_cells_4_R : Tm := ⟨[.ro 38 2 [.int .i64, .int .i64], .ro 38 2 [.int .i64, .int .i64]], [(4, .w (.at (.bool)))]⟩

def law_cells_Λd (L4 : ({β : Type} → (Nat → List Leaf → Option β) → (List Leaf → Option β) → Nat → List Int → List Int → List Int → List Int → Int → Int → Option β)) : Loops := ⟨fun b fr H kx kr => bif Nat.beq (rid b) 4 then loopE 2 law_cells_4_T [] law_cells_4_X law_cells_4_R (law_cells_4_F @L4 top) fr H kx kr else none⟩
def law_cells_Λ : Loops := law_cells_Λd @law_cells_4_L
theorem law_cells_4_e (L4 : ({β : Type} → (Nat → List Leaf → Option β) → (List Leaf → Option β) → Nat → List Int → List Int → List Int → List Int → Int → Int → Option β)) {α : Type} (kx : Nat → List Leaf → Option α) (kr : List Leaf → Option α) (again : List Int → List Int → List Int → List Int → Int → Int → Option α) (a0 : List Int) (a1 : List Int) (b0 : List Int) (b1 : List Int) (t13 : Int) (t12 : Int) : law_cells_4_B  kx kr again a0 a1 b0 b1 t13 t12 = loopB G19 (law_cells_Λd @L4) true tab Go.Proofs.Tryz.f11.ntmps 2 law_cells_4_T [] law_cells_4_X law_cells_4_R (bodyAt (fb Go.Proofs.Tryz.f11) 0) (fun ls => un_li ls fun a0 rr => un_li rr fun a1 rr => un_li rr fun b0 rr => un_li rr fun b1 rr => un_i rr fun t13 rr => un_i rr fun t12 rr => un_nil rr (again a0 a1 b0 b1 t13 t12)) kx kr (instFr law_cells_4_T [.li a0, .li a1, .li b0, .li b1, .i t13, .i t12]) (instH law_cells_4_T [.li a0, .li a1, .li b0, .li b1, .i t13, .i t12]) := by kernel_rfl
theorem law_cells_4_lok (E : Nat → Prop) (w0 ws : World) (ρ0 : List Pl) (hk : ρ0.length = 2) : LOk Go.Proofs.Tryz.prog 11 Go.Proofs.Tryz.f11 true E w0 ws Go.Proofs.Tryz.f11.ntmps ρ0 law_cells_Λ (bodyAt (fb Go.Proofs.Tryz.f11) 0) := by
  refine lok mixed tab_ok g19 Go.Proofs.Tryz.func11 hk (T := law_cells_4_T) (rt := law_cells_4_R) (cuts := []) (ex := law_cells_4_X) (top := top) (F := law_cells_4_F @law_cells_4_L) (fun fr H kx kr => by kernel_rfl) ?_ ?_ ?_
  · intro α ls' kx' kr' r' h'
    unfold law_cells_4_F at h'
    obtain ⟨a0, l'1, rfl, h'1⟩ := un_li_some.1 h'
    obtain ⟨a1, l'2, rfl, h'2⟩ := un_li_some.1 h'1
    obtain ⟨b0, l'3, rfl, h'3⟩ := un_li_some.1 h'2
    obtain ⟨b1, l'4, rfl, h'4⟩ := un_li_some.1 h'3
    obtain ⟨t13, l'5, rfl, h'5⟩ := un_i_some.1 h'4
    obtain ⟨t12, l'6, rfl, h'6⟩ := un_i_some.1 h'5
    obtain ⟨rfl, h'Z⟩ := un_nil_some.1 h'6
    cases h'Z
  · intro α n' ls' kx' kr' r' h'
    unfold law_cells_4_F at h'
    obtain ⟨a0, l'1, rfl, h'1⟩ := un_li_some.1 h'
    obtain ⟨a1, l'2, rfl, h'2⟩ := un_li_some.1 h'1
    obtain ⟨b0, l'3, rfl, h'3⟩ := un_li_some.1 h'2
    obtain ⟨b1, l'4, rfl, h'4⟩ := un_li_some.1 h'3
    obtain ⟨t13, l'5, rfl, h'5⟩ := un_i_some.1 h'4
    obtain ⟨t12, l'6, rfl, h'6⟩ := un_i_some.1 h'5
    obtain ⟨rfl, h'Z⟩ := un_nil_some.1 h'6
    exact (law_cells_4_e @law_cells_4_L kx' kr' (law_cells_4_L kx' kr' n') a0 a1 b0 b1 t13 t12).symm.trans h'Z
  · intro b' hb
    rw [show loopsOf (bodyAt (fb Go.Proofs.Tryz.f11) 0) = [] by kernel_rfl] at hb
    cases hb
theorem law_cells_ed (L4 : ({β : Type} → (Nat → List Leaf → Option β) → (List Leaf → Option β) → Nat → List Int → List Int → List Int → List Int → Int → Int → Option β)) (a0 : List Int) (a1 : List Int) (b0 : List Int) (b1 : List Int) : law_cells_d @L4 a0 a1 b0 b1 = den G19 (law_cells_Λd @L4) true tab Go.Proofs.Tryz.f11.ntmps (fun fr H => finish tab 2 Go.Proofs.Tryz.f11.results.toList law_cells_out [] fr H some) (fun _ _ _ => none) (fun fr H => finish tab 2 Go.Proofs.Tryz.f11.results.toList law_cells_out [] fr H some) 10000 [.code (fb Go.Proofs.Tryz.f11)] (instFr law_cells_in [.li a0, .li a1, .li b0, .li b1]) (instH law_cells_in [.li a0, .li a1, .li b0, .li b1]) := by kernel_rfl
theorem law_cells_e (a0 : List Int) (a1 : List Int) (b0 : List Int) (b1 : List Int) : law_cells a0 a1 b0 b1 = den G19 law_cells_Λ true tab Go.Proofs.Tryz.f11.ntmps (fun fr H => finish tab 2 Go.Proofs.Tryz.f11.results.toList law_cells_out [] fr H some) (fun _ _ _ => none) (fun fr H => finish tab 2 Go.Proofs.Tryz.f11.results.toList law_cells_out [] fr H some) 10000 [.code (fb Go.Proofs.Tryz.f11)] (instFr law_cells_in [.li a0, .li a1, .li b0, .li b1]) (instH law_cells_in [.li a0, .li a1, .li b0, .li b1]) := law_cells_ed @law_cells_4_L a0 a1 b0 b1
def law_cells_S : List Leaf → Option (List Leaf) := fun ls => un_li ls fun a0 rr => un_li rr fun a1 rr => un_li rr fun b0 rr => un_li rr fun b1 rr => un_nil rr (law_cells a0 a1 b0 b1)
def law_cells_SC : Tld := fun ls k' => un_li ls fun a0 rr => un_li rr fun a1 rr => un_li rr fun b0 rr => un_li rr fun b1 rr => un_nil rr (out (law_cells a0 a1 b0 b1) k')
theorem law_cells_Se (a0 : List Int) (a1 : List Int) (b0 : List Int) (b1 : List Int) : law_cells_S [.li a0, .li a1, .li b0, .li b1] = law_cells a0 a1 b0 b1 := by
  unfold law_cells_S
  simp only [un_i_ev, un_b_ev, un_s_ev, un_li_ev, un_lb_ev, un_ls_ev, un_nil_ev]
theorem law_cells_says : Says law_cells_SC law_cells_S := by
  intro β ls' k' r' h'
  unfold law_cells_SC at h'
  obtain ⟨a0, l'1, rfl, h'1⟩ := un_li_some.1 h'
  obtain ⟨a1, l'2, rfl, h'2⟩ := un_li_some.1 h'1
  obtain ⟨b0, l'3, rfl, h'3⟩ := un_li_some.1 h'2
  obtain ⟨b1, l'4, rfl, h'4⟩ := un_li_some.1 h'3
  obtain ⟨rfl, h'Z⟩ := un_nil_some.1 h'4
  obtain ⟨l', a', b'⟩ := out_some.1 h'Z
  exact ⟨l', (law_cells_Se a0 a1 b0 b1).trans a', b'⟩
theorem law_cells_c : FnC Go.Proofs.Tryz.prog 11 true 2 2 law_cells_in law_cells_out law_cells_S := by
  refine fn_ok (Λ := law_cells_Λ) mixed tab_ok g19 Go.Proofs.Tryz.func11 (by kernel_rfl) (body := fb Go.Proofs.Tryz.f11) rfl (ts := Go.Proofs.Tryz.f11.results.toList) rfl (cuts := []) (by kernel_rfl) (Nat.le_of_ble_eq_true (by kernel_rfl)) (by kernel_rfl) (rt := .w (.at (.bool))) rfl ?_ ?_
  · intro ls' r' h'
    unfold law_cells_S at h'
    obtain ⟨a0, l'1, rfl, h'1⟩ := un_li_some.1 h'
    obtain ⟨a1, l'2, rfl, h'2⟩ := un_li_some.1 h'1
    obtain ⟨b0, l'3, rfl, h'3⟩ := un_li_some.1 h'2
    obtain ⟨b1, l'4, rfl, h'4⟩ := un_li_some.1 h'3
    obtain ⟨rfl, h'Z⟩ := un_nil_some.1 h'4
    exact (law_cells_e a0 a1 b0 b1).symm.trans h'Z
  · intro E w0 ws ρ0 hk b hb
    rw [show loopsOf (fb Go.Proofs.Tryz.f11) = [(bodyAt (fb Go.Proofs.Tryz.f11) 0)] by kernel_rfl] at hb
    simp only [List.mem_cons, List.mem_nil_iff, or_false] at hb
    rcases hb with rfl
    · exact law_cells_4_lok E w0 ws ρ0 hk
noncomputable def G20 : Env := G19.addP 11 2 law_cells_in law_cells_out law_cells_SC
theorem g20 : EnvOk Go.Proofs.Tryz.prog G20 := EnvOk.addP g19 law_cells_c law_cells_says
end Go.Sx.T

