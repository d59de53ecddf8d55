import Derived.Test.YtabdgalicaifhaaGreatDoorYSUSpec
import Derived.Test.YtabdgalicaifhaaGreatDoorYSTCon
set_option linter.all false
namespace Go.Sx.T
open Go Go.Sx Go.Proofs
set_option maxRecDepth 100000

-- ### ref_State: function 86
def ref_State_in : Tm := ⟨[], [(0, .w (.at (.int .i64)))]⟩
def ref_State_out : Tm := ⟨[], [(0, .w (.at (.bool)))]⟩

def ref_State_Λd : Loops := Loops.none
def ref_State_Λ : Loops := ref_State_Λd 

theorem ref_State_e (s : Int) : ref_State s = den G42 ref_State_Λ true tab Go.Proofs.Tryz.f86.ntmps (fun fr H => finish tab 0 Go.Proofs.Tryz.f86.results.toList ref_State_out [] fr H some) (fun _ _ _ => none) (fun fr H => finish tab 0 Go.Proofs.Tryz.f86.results.toList ref_State_out [] fr H some) 10000 [.code (fb Go.Proofs.Tryz.f86)] (instFr ref_State_in [.i s]) (instH ref_State_in [.i s]) := by kernel_rfl
def ref_State_S : List Leaf → Option (List Leaf) := fun ls => un_i ls fun s rr => un_nil rr (ref_State s)
def ref_State_SC : Tld := fun ls k' => un_i ls fun s rr => un_nil rr (out (ref_State s) k')
theorem ref_State_Se (s : Int) : ref_State_S [.i s] = ref_State s := by
  unfold ref_State_S
  simp only [un_i_ev, un_b_ev, un_s_ev, un_li_ev, un_lb_ev, un_ls_ev, un_nil_ev]
theorem ref_State_says : Says ref_State_SC ref_State_S := by
  intro β ls' k' r' h'
  unfold ref_State_SC at h'
  obtain ⟨s, l'1, rfl, h'1⟩ := un_i_some.1 h'
  obtain ⟨rfl, h'Z⟩ := un_nil_some.1 h'1
  obtain ⟨l', a', b'⟩ := out_some.1 h'Z
  exact ⟨l', (ref_State_Se s).trans a', b'⟩
theorem ref_State_c : FnC Go.Proofs.Tryz.prog 86 true 1 0 ref_State_in ref_State_out ref_State_S := by
  refine fn_ok (Λ := ref_State_Λ) mixed tab_ok g42 Go.Proofs.Tryz.func86 (by kernel_rfl) (body := fb Go.Proofs.Tryz.f86) rfl (ts := Go.Proofs.Tryz.f86.results.toList) rfl (cuts := []) (by kernel_rfl) (Nat.le_of_ble_eq_true (by kernel_rfl)) (by kernel_rfl) (rt := .w (.at (.bool))) rfl ?_ ?_
  · intro ls' r' h'
    unfold ref_State_S at h'
    obtain ⟨s, l'1, rfl, h'1⟩ := un_i_some.1 h'
    obtain ⟨rfl, h'Z⟩ := un_nil_some.1 h'1
    exact (ref_State_e s).symm.trans h'Z
  · intro E w0 ws ρ0 hk b hb
    rw [show loopsOf (fb Go.Proofs.Tryz.f86) = [] by kernel_rfl] at hb
    cases hb
noncomputable def G43 : Env := G42.addP 86 1 ref_State_in ref_State_out ref_State_SC
theorem g43 : EnvOk Go.Proofs.Tryz.prog G43 := EnvOk.addP g42 ref_State_c ref_State_says

-- ### ref_MayCells: function 65
def ref_MayCells_in : Tm := ⟨[.ro 36 2 [.int .i64, .int .i64]], [(0, .w (.at (.all 0 2)))]⟩
def ref_MayCells_out : Tm := ⟨[.dead], [(0, .w (.at (.bool)))]⟩
def ref_MayCells_3_T : Tm := ⟨[.ro 36 2 [.int .i64, .int .i64]], [(4, .w (.at (.int .i64))), (0, .w (.at (.all 0 2))), (3, .w (.at (.int .i64)))]⟩
def ref_MayCells_3_X0 : Tm := ⟨[.ro 36 2 [.int .i64, .int .i64]], []⟩
def ref_MayCells_3_X : Exits := [(0, (ref_MayCells_3_X0, []))]
def ref_MayCells_3_R : Tm := ⟨[.ro 36 2 [.int .i64, .int .i64]], [(2, .w (.at (.bool)))]⟩

def ref_MayCells_Λd (L3 : ({β : Type} → (Nat → List Leaf → Option β) → (List Leaf → Option β) → Nat → List Int → List Int → Int → Int → Option β)) : Loops := ⟨fun b fr H kx kr => bif Nat.beq (rid b) 3 then loopE 1 ref_MayCells_3_T [] ref_MayCells_3_X ref_MayCells_3_R (ref_MayCells_3_F @L3 top) fr H kx kr else none⟩
def ref_MayCells_Λ : Loops := ref_MayCells_Λd @ref_MayCells_3_L
theorem ref_MayCells_3_e (L3 : ({β : Type} → (Nat → List Leaf → Option β) → (List Leaf → Option β) → Nat → List Int → List Int → Int → Int → Option β)) {α : Type} (kx : Nat → List Leaf → Option α) (kr : List Leaf → Option α) (again : List Int → List Int → Int → Int → Option α) (cs0 : List Int) (cs1 : List Int) (i : Int) (n2 : Int) : ref_MayCells_3_B  kx kr again cs0 cs1 i n2 = loopB G43 (ref_MayCells_Λd @L3) true tab Go.Proofs.Tryz.f65.ntmps 1 ref_MayCells_3_T [] ref_MayCells_3_X ref_MayCells_3_R (bodyAt (fb Go.Proofs.Tryz.f65) 0) (fun ls => un_li ls fun cs0 rr => un_li rr fun cs1 rr => un_i rr fun i rr => un_i rr fun n2 rr => un_nil rr (again cs0 cs1 i n2)) kx kr (instFr ref_MayCells_3_T [.li cs0, .li cs1, .i i, .i n2]) (instH ref_MayCells_3_T [.li cs0, .li cs1, .i i, .i n2]) := by kernel_rfl
theorem ref_MayCells_3_lok (E : Nat → Prop) (w0 ws : World) (ρ0 : List Pl) (hk : ρ0.length = 1) : LOk Go.Proofs.Tryz.prog 65 Go.Proofs.Tryz.f65 true E w0 ws Go.Proofs.Tryz.f65.ntmps ρ0 ref_MayCells_Λ (bodyAt (fb Go.Proofs.Tryz.f65) 0) := by
  refine lok mixed tab_ok g43 Go.Proofs.Tryz.func65 hk (T := ref_MayCells_3_T) (rt := ref_MayCells_3_R) (cuts := []) (ex := ref_MayCells_3_X) (top := top) (F := ref_MayCells_3_F @ref_MayCells_3_L) (fun fr H kx kr => by kernel_rfl) ?_ ?_ ?_
  · intro α ls' kx' kr' r' h'
    unfold ref_MayCells_3_F at h'
    obtain ⟨cs0, l'1, rfl, h'1⟩ := un_li_some.1 h'
    obtain ⟨cs1, l'2, rfl, h'2⟩ := un_li_some.1 h'1
    obtain ⟨i, l'3, rfl, h'3⟩ := un_i_some.1 h'2
    obtain ⟨n2, l'4, rfl, h'4⟩ := un_i_some.1 h'3
    obtain ⟨rfl, h'Z⟩ := un_nil_some.1 h'4
    cases h'Z
  · intro α n' ls' kx' kr' r' h'
    unfold ref_MayCells_3_F at h'
    obtain ⟨cs0, l'1, rfl, h'1⟩ := un_li_some.1 h'
    obtain ⟨cs1, l'2, rfl, h'2⟩ := un_li_some.1 h'1
    obtain ⟨i, l'3, rfl, h'3⟩ := un_i_some.1 h'2
    obtain ⟨n2, l'4, rfl, h'4⟩ := un_i_some.1 h'3
    obtain ⟨rfl, h'Z⟩ := un_nil_some.1 h'4
    exact (ref_MayCells_3_e @ref_MayCells_3_L kx' kr' (ref_MayCells_3_L kx' kr' n') cs0 cs1 i n2).symm.trans h'Z
  · intro b' hb
    rw [show loopsOf (bodyAt (fb Go.Proofs.Tryz.f65) 0) = [] by kernel_rfl] at hb
    cases hb
theorem ref_MayCells_ed (L3 : ({β : Type} → (Nat → List Leaf → Option β) → (List Leaf → Option β) → Nat → List Int → List Int → Int → Int → Option β)) (cs0 : List Int) (cs1 : List Int) : ref_MayCells_d @L3 cs0 cs1 = den G43 (ref_MayCells_Λd @L3) true tab Go.Proofs.Tryz.f65.ntmps (fun fr H => finish tab 1 Go.Proofs.Tryz.f65.results.toList ref_MayCells_out [] fr H some) (fun _ _ _ => none) (fun fr H => finish tab 1 Go.Proofs.Tryz.f65.results.toList ref_MayCells_out [] fr H some) 10000 [.code (fb Go.Proofs.Tryz.f65)] (instFr ref_MayCells_in [.li cs0, .li cs1]) (instH ref_MayCells_in [.li cs0, .li cs1]) := by kernel_rfl
theorem ref_MayCells_e (cs0 : List Int) (cs1 : List Int) : ref_MayCells cs0 cs1 = den G43 ref_MayCells_Λ true tab Go.Proofs.Tryz.f65.ntmps (fun fr H => finish tab 1 Go.Proofs.Tryz.f65.results.toList ref_MayCells_out [] fr H some) (fun _ _ _ => none) (fun fr H => finish tab 1 Go.Proofs.Tryz.f65.results.toList ref_MayCells_out [] fr H some) 10000 [.code (fb Go.Proofs.Tryz.f65)] (instFr ref_MayCells_in [.li cs0, .li cs1]) (instH ref_MayCells_in [.li cs0, .li cs1]) := ref_MayCells_ed @ref_MayCells_3_L cs0 cs1
def ref_MayCells_S : List Leaf → Option (List Leaf) := fun ls => un_li ls fun cs0 rr => un_li rr fun cs1 rr => un_nil rr (ref_MayCells cs0 cs1)
def ref_MayCells_SC : Tld := fun ls k' => un_li ls fun cs0 rr => un_li rr fun cs1 rr => un_nil rr (out (ref_MayCells cs0 cs1) k')
theorem ref_MayCells_Se (cs0 : List Int) (cs1 : List Int) : ref_MayCells_S [.li cs0, .li cs1] = ref_MayCells cs0 cs1 := by
  unfold ref_MayCells_S
  simp only [un_i_ev, un_b_ev, un_s_ev, un_li_ev, un_lb_ev, un_ls_ev, un_nil_ev]
theorem ref_MayCells_says : Says ref_MayCells_SC ref_MayCells_S := by
  intro β ls' k' r' h'
  unfold ref_MayCells_SC at h'
  obtain ⟨cs0, l'1, rfl, h'1⟩ := un_li_some.1 h'
  obtain ⟨cs1, l'2, rfl, h'2⟩ := un_li_some.1 h'1
  obtain ⟨rfl, h'Z⟩ := un_nil_some.1 h'2
  obtain ⟨l', a', b'⟩ := out_some.1 h'Z
  exact ⟨l', (ref_MayCells_Se cs0 cs1).trans a', b'⟩
theorem ref_MayCells_c : FnC Go.Proofs.Tryz.prog 65 true 1 1 ref_MayCells_in ref_MayCells_out ref_MayCells_S := by
  refine fn_ok (Λ := ref_MayCells_Λ) mixed tab_ok g43 Go.Proofs.Tryz.func65 (by kernel_rfl) (body := fb Go.Proofs.Tryz.f65) rfl (ts := Go.Proofs.Tryz.f65.results.toList) rfl (cuts := []) (by kernel_rfl) (Nat.le_of_ble_eq_true (by kernel_rfl)) (by kernel_rfl) (rt := .w (.at (.bool))) rfl ?_ ?_
  · intro ls' r' h'
    unfold ref_MayCells_S at h'
    obtain ⟨cs0, l'1, rfl, h'1⟩ := un_li_some.1 h'
    obtain ⟨cs1, l'2, rfl, h'2⟩ := un_li_some.1 h'1
    obtain ⟨rfl, h'Z⟩ := un_nil_some.1 h'2
    exact (ref_MayCells_e cs0 cs1).symm.trans h'Z
  · intro E w0 ws ρ0 hk b hb
    rw [show loopsOf (fb Go.Proofs.Tryz.f65) = [(bodyAt (fb Go.Proofs.Tryz.f65) 0)] by kernel_rfl] at hb
    simp only [List.mem_cons, List.mem_nil_iff, or_false] at hb
    rcases hb with rfl
    · exact ref_MayCells_3_lok E w0 ws ρ0 hk
noncomputable def G44 : Env := G43.addP 65 1 ref_MayCells_in ref_MayCells_out ref_MayCells_SC
theorem g44 : EnvOk Go.Proofs.Tryz.prog G44 := EnvOk.addP g43 ref_MayCells_c ref_MayCells_says

-- ### ref_Spread: function 24
def ref_Spread_in : Tm := ⟨[.ro 36 2 [.int .i64, .int .i64]], [(0, .w (.at (.all 0 2)))]⟩
def ref_Spread_out : Tm := ⟨[.dead, .row 3 1 [.int .i64]], [(0, .w (.at (.all 1 1)))]⟩
def ref_Spread_8_T : Tm := ⟨[.ro 36 2 [.int .i64, .int .i64], .row 3 1 [.int .i64]], [(5, .w (.at (.int .i64))), (4, .w (.at (.int .i64))), (0, .w (.at (.all 0 2))), (3, .w (.at (.all 1 1)))]⟩
def ref_Spread_8_X2 : Tm := ⟨[.ro 36 2 [.int .i64, .int .i64], .row 3 1 [.int .i64]], [(0, .w (.at (.all 0 2))), (3, .w (.at (.all 1 1))), (4, .w (.at (.int .i64)))]⟩
def ref_Spread_8_X : Exits := [(2, (ref_Spread_8_X2, []))]
def ref_Spread_8_R : Tm := ⟨[], []⟩
def ref_Spread_5_T : Tm := ⟨[.ro 36 2 [.int .i64, .int .i64], .row 3 1 [.int .i64]], [(4, .w (.at (.int .i64))), (0, .w (.at (.all 0 2))), (3, .w (.at (.all 1 1)))]⟩
def ref_Spread_5_X0 : Tm := ⟨[.ro 36 2 [.int .i64, .int .i64], .row 3 1 [.int .i64]], [(3, .w (.at (.all 1 1)))]⟩
def ref_Spread_5_X : Exits := [(0, (ref_Spread_5_X0, []))]
def ref_Spread_5_R : Tm := ⟨[.dead], []⟩

def ref_Spread_Λd (L8 : ({β : Type} → (Nat → List Leaf → Option β) → (List Leaf → Option β) → Nat → List Int → List Int → List Int → Int → Int → Option β)) (L5 : ({β : Type} → (Nat → List Leaf → Option β) → (List Leaf → Option β) → Nat → List Int → List Int → List Int → Int → Option β)) : Loops := ⟨fun b fr H kx kr => bif Nat.beq (rid b) 8 then loopE 1 ref_Spread_8_T [] ref_Spread_8_X ref_Spread_8_R (ref_Spread_8_F @L8 top) fr H kx kr else bif Nat.beq (rid b) 5 then loopE 1 ref_Spread_5_T [] ref_Spread_5_X ref_Spread_5_R (ref_Spread_5_F @L5 top) fr H kx kr else none⟩
def ref_Spread_Λ : Loops := ref_Spread_Λd @ref_Spread_8_L @ref_Spread_5_L
theorem ref_Spread_8_e (L8 : ({β : Type} → (Nat → List Leaf → Option β) → (List Leaf → Option β) → Nat → List Int → List Int → List Int → Int → Int → Option β)) (L5 : ({β : Type} → (Nat → List Leaf → Option β) → (List Leaf → Option β) → Nat → List Int → List Int → List Int → Int → Option β)) {α : Type} (kx : Nat → List Leaf → Option α) (kr : List Leaf → Option α) (again : List Int → List Int → List Int → Int → Int → Option α) (cs0 : List Int) (cs1 : List Int) (l : List Int) (k : Int) (i : Int) : ref_Spread_8_B  kx kr again cs0 cs1 l k i = loopB G44 (ref_Spread_Λd @L8 @L5) false tab Go.Proofs.Tryz.f24.ntmps 1 ref_Spread_8_T [] ref_Spread_8_X ref_Spread_8_R (bodyAt (fb Go.Proofs.Tryz.f24) 1) (fun ls => un_li ls fun cs0 rr => un_li rr fun cs1 rr => un_li rr fun l rr => un_i rr fun k rr => un_i rr fun i rr => un_nil rr (again cs0 cs1 l k i)) kx kr (instFr ref_Spread_8_T [.li cs0, .li cs1, .li l, .i k, .i i]) (instH ref_Spread_8_T [.li cs0, .li cs1, .li l, .i k, .i i]) := by kernel_rfl
theorem ref_Spread_5_e (L8 : ({β : Type} → (Nat → List Leaf → Option β) → (List Leaf → Option β) → Nat → List Int → List Int → List Int → Int → Int → Option β)) (L5 : ({β : Type} → (Nat → List Leaf → Option β) → (List Leaf → Option β) → Nat → List Int → List Int → List Int → Int → Option β)) {α : Type} (kx : Nat → List Leaf → Option α) (kr : List Leaf → Option α) (again : List Int → List Int → List Int → Int → Option α) (cs0 : List Int) (cs1 : List Int) (l : List Int) (i : Int) : ref_Spread_5_B @L8 kx kr again cs0 cs1 l i = loopB G44 (ref_Spread_Λd @L8 @L5) false tab Go.Proofs.Tryz.f24.ntmps 1 ref_Spread_5_T [] ref_Spread_5_X ref_Spread_5_R (bodyAt (fb Go.Proofs.Tryz.f24) 0) (fun ls => un_li ls fun cs0 rr => un_li rr fun cs1 rr => un_li rr fun l rr => un_i rr fun i rr => un_nil rr (again cs0 cs1 l i)) kx kr (instFr ref_Spread_5_T [.li cs0, .li cs1, .li l, .i i]) (instH ref_Spread_5_T [.li cs0, .li cs1, .li l, .i i]) := by kernel_rfl
theorem ref_Spread_8_lok (E : Nat → Prop) (w0 ws : World) (ρ0 : List Pl) (hk : ρ0.length = 1) : LOk Go.Proofs.Tryz.prog 24 Go.Proofs.Tryz.f24 false E w0 ws Go.Proofs.Tryz.f24.ntmps ρ0 ref_Spread_Λ (bodyAt (fb Go.Proofs.Tryz.f24) 1) := by
  refine lok mixed tab_ok g44 Go.Proofs.Tryz.func24 hk (T := ref_Spread_8_T) (rt := ref_Spread_8_R) (cuts := []) (ex := ref_Spread_8_X) (top := top) (F := ref_Spread_8_F @ref_Spread_8_L) (fun fr H kx kr => by kernel_rfl) ?_ ?_ ?_
  · intro α ls' kx' kr' r' h'
    unfold ref_Spread_8_F at h'
    obtain ⟨cs0, l'1, rfl, h'1⟩ := un_li_some.1 h'
    obtain ⟨cs1, l'2, rfl, h'2⟩ := un_li_some.1 h'1
    obtain ⟨l, l'3, rfl, h'3⟩ := un_li_some.1 h'2
    obtain ⟨k, l'4, rfl, h'4⟩ := un_i_some.1 h'3
    obtain ⟨i, l'5, rfl, h'5⟩ := un_i_some.1 h'4
    obtain ⟨rfl, h'Z⟩ := un_nil_some.1 h'5
    cases h'Z
  · intro α n' ls' kx' kr' r' h'
    unfold ref_Spread_8_F at h'
    obtain ⟨cs0, l'1, rfl, h'1⟩ := un_li_some.1 h'
    obtain ⟨cs1, l'2, rfl, h'2⟩ := un_li_some.1 h'1
    obtain ⟨l, l'3, rfl, h'3⟩ := un_li_some.1 h'2
    obtain ⟨k, l'4, rfl, h'4⟩ := un_i_some.1 h'3
    obtain ⟨i, l'5, rfl, h'5⟩ := un_i_some.1 h'4
    obtain ⟨rfl, h'Z⟩ := un_nil_some.1 h'5
    exact (ref_Spread_8_e @ref_Spread_8_L @ref_Spread_5_L kx' kr' (ref_Spread_8_L kx' kr' n') cs0 cs1 l k i).symm.trans h'Z
  · intro b' hb
    rw [show loopsOf (bodyAt (fb Go.Proofs.Tryz.f24) 1) = [] by kernel_rfl] at hb
    cases hb
theorem ref_Spread_5_lok (E : Nat → Prop) (w0 ws : World) (ρ0 : List Pl) (hk : ρ0.length = 1) : LOk Go.Proofs.Tryz.prog 24 Go.Proofs.Tryz.f24 false E w0 ws Go.Proofs.Tryz.f24.ntmps ρ0 ref_Spread_Λ (bodyAt (fb Go.Proofs.Tryz.f24) 0) := by
  refine lok mixed tab_ok g44 Go.Proofs.Tryz.func24 hk (T := ref_Spread_5_T) (rt := ref_Spread_5_R) (cuts := []) (ex := ref_Spread_5_X) (top := top) (F := ref_Spread_5_F @ref_Spread_5_L) (fun fr H kx kr => by kernel_rfl) ?_ ?_ ?_
  · intro α ls' kx' kr' r' h'
    unfold ref_Spread_5_F at h'
    obtain ⟨cs0, l'1, rfl, h'1⟩ := un_li_some.1 h'
    obtain ⟨cs1, l'2, rfl, h'2⟩ := un_li_some.1 h'1
    obtain ⟨l, l'3, rfl, h'3⟩ := un_li_some.1 h'2
    obtain ⟨i, l'4, rfl, h'4⟩ := un_i_some.1 h'3
    obtain ⟨rfl, h'Z⟩ := un_nil_some.1 h'4
    cases h'Z
  · intro α n' ls' kx' kr' r' h'
    unfold ref_Spread_5_F at h'
    obtain ⟨cs0, l'1, rfl, h'1⟩ := un_li_some.1 h'
    obtain ⟨cs1, l'2, rfl, h'2⟩ := un_li_some.1 h'1
    obtain ⟨l, l'3, rfl, h'3⟩ := un_li_some.1 h'2
    obtain ⟨i, l'4, rfl, h'4⟩ := un_i_some.1 h'3
    obtain ⟨rfl, h'Z⟩ := un_nil_some.1 h'4
    exact (ref_Spread_5_e @ref_Spread_8_L @ref_Spread_5_L kx' kr' (ref_Spread_5_L kx' kr' n') cs0 cs1 l i).symm.trans h'Z
  · intro b' hb
    rw [show loopsOf (bodyAt (fb Go.Proofs.Tryz.f24) 0) = [(bodyAt (fb Go.Proofs.Tryz.f24) 1)] by kernel_rfl] at hb
    simp only [List.mem_cons, List.mem_nil_iff, or_false] at hb
    rcases hb with rfl
    · exact ref_Spread_8_lok E w0 ws ρ0 hk
theorem ref_Spread_ed (L8 : ({β : Type} → (Nat → List Leaf → Option β) → (List Leaf → Option β) → Nat → List Int → List Int → List Int → Int → Int → Option β)) (L5 : ({β : Type} → (Nat → List Leaf → Option β) → (List Leaf → Option β) → Nat → List Int → List Int → List Int → Int → Option β)) (cs0 : List Int) (cs1 : List Int) : ref_Spread_d @L5 cs0 cs1 = den G44 (ref_Spread_Λd @L8 @L5) false tab Go.Proofs.Tryz.f24.ntmps (fun fr H => finish tab 1 Go.Proofs.Tryz.f24.results.toList ref_Spread_out [] fr H some) (fun _ _ _ => none) (fun fr H => finish tab 1 Go.Proofs.Tryz.f24.results.toList ref_Spread_out [] fr H some) 10000 [.code (fb Go.Proofs.Tryz.f24)] (instFr ref_Spread_in [.li cs0, .li cs1]) (instH ref_Spread_in [.li cs0, .li cs1]) := by kernel_rfl
theorem ref_Spread_e (cs0 : List Int) (cs1 : List Int) : ref_Spread cs0 cs1 = den G44 ref_Spread_Λ false tab Go.Proofs.Tryz.f24.ntmps (fun fr H => finish tab 1 Go.Proofs.Tryz.f24.results.toList ref_Spread_out [] fr H some) (fun _ _ _ => none) (fun fr H => finish tab 1 Go.Proofs.Tryz.f24.results.toList ref_Spread_out [] fr H some) 10000 [.code (fb Go.Proofs.Tryz.f24)] (instFr ref_Spread_in [.li cs0, .li cs1]) (instH ref_Spread_in [.li cs0, .li cs1]) := ref_Spread_ed @ref_Spread_8_L @ref_Spread_5_L cs0 cs1
def ref_Spread_S : List Leaf → Option (List Leaf) := fun ls => un_li ls fun cs0 rr => un_li rr fun cs1 rr => un_nil rr (ref_Spread cs0 cs1)
def ref_Spread_SC : Tld := fun ls k' => un_li ls fun cs0 rr => un_li rr fun cs1 rr => un_nil rr (out (ref_Spread cs0 cs1) k')
theorem ref_Spread_Se (cs0 : List Int) (cs1 : List Int) : ref_Spread_S [.li cs0, .li cs1] = ref_Spread cs0 cs1 := by
  unfold ref_Spread_S
  simp only [un_i_ev, un_b_ev, un_s_ev, un_li_ev, un_lb_ev, un_ls_ev, un_nil_ev]
theorem ref_Spread_says : Says ref_Spread_SC ref_Spread_S := by
  intro β ls' k' r' h'
  unfold ref_Spread_SC at h'
  obtain ⟨cs0, l'1, rfl, h'1⟩ := un_li_some.1 h'
  obtain ⟨cs1, l'2, rfl, h'2⟩ := un_li_some.1 h'1
  obtain ⟨rfl, h'Z⟩ := un_nil_some.1 h'2
  obtain ⟨l', a', b'⟩ := out_some.1 h'Z
  exact ⟨l', (ref_Spread_Se cs0 cs1).trans a', b'⟩
theorem ref_Spread_c : FnC Go.Proofs.Tryz.prog 24 false 1 1 ref_Spread_in ref_Spread_out ref_Spread_S := by
  refine fn_ok (Λ := ref_Spread_Λ) mixed tab_ok g44 Go.Proofs.Tryz.func24 (by kernel_rfl) (body := fb Go.Proofs.Tryz.f24) rfl (ts := Go.Proofs.Tryz.f24.results.toList) rfl (cuts := []) (by kernel_rfl) (Nat.le_of_ble_eq_true (by kernel_rfl)) (by kernel_rfl) (rt := .w (.at (.all 1 1))) rfl ?_ ?_
  · intro ls' r' h'
    unfold ref_Spread_S at h'
    obtain ⟨cs0, l'1, rfl, h'1⟩ := un_li_some.1 h'
    obtain ⟨cs1, l'2, rfl, h'2⟩ := un_li_some.1 h'1
    obtain ⟨rfl, h'Z⟩ := un_nil_some.1 h'2
    exact (ref_Spread_e cs0 cs1).symm.trans h'Z
  · intro E w0 ws ρ0 hk b hb
    rw [show loopsOf (fb Go.Proofs.Tryz.f24) = [(bodyAt (fb Go.Proofs.Tryz.f24) 0), (bodyAt (fb Go.Proofs.Tryz.f24) 1)] by kernel_rfl] at hb
    simp only [List.mem_cons, List.mem_nil_iff, or_false] at hb
    rcases hb with rfl | rfl
    · exact ref_Spread_5_lok E w0 ws ρ0 hk
    · exact ref_Spread_8_lok E w0 ws ρ0 hk
noncomputable def G45 : Env := G44.addE 24 1 ref_Spread_in ref_Spread_out ref_Spread_SC
theorem g45 : EnvOk Go.Proofs.Tryz.prog G45 := EnvOk.addE g44 ref_Spread_c ref_Spread_says

-- ### SentUnknown: function 6
def SentUnknown_in : Tm := ⟨[.ro 36 2 [.int .i64, .int .i64]], [(0, .w (.at (.int .u64))), (1, .w (.at (.int .i64))), (2, .w (.at (.int .i64))), (3, .w (.at (.all 0 2)))]⟩
def SentUnknown_out : Tm := ⟨[.dead], [(0, .w (.at (.bool)))]⟩
def SentUnknown_7_T : Tm := ⟨[.ro 36 2 [.int .i64, .int .i64], .cells 95 [.all 2 3, .int .u64, .bool], .row 98 3 [.int .u64, .int .i64, .int .i64]], [(11, .w (.at (.int .i64))), (0, .w (.at (.int .u64))), (10, .w (.at (.ptr 1 0))), (1, .w (.at (.int .i64))), (3, .w (.at (.all 0 2))), (2, .w (.at (.int .i64)))]⟩
def SentUnknown_7_X0 : Tm := ⟨[.ro 36 2 [.int .i64, .int .i64], .cells 95 [.all 2 3, .int .u64, .bool], .row 98 3 [.int .u64, .int .i64, .int .i64]], [(1, .w (.at (.int .i64))), (10, .w (.at (.ptr 1 0))), (0, .w (.at (.int .u64))), (3, .w (.at (.all 0 2))), (2, .w (.at (.int .i64)))]⟩
def SentUnknown_7_X : Exits := [(0, (SentUnknown_7_X0, []))]
def SentUnknown_7_R : Tm := ⟨[], []⟩

def SentUnknown_Λd (L7 : ({β : Type} → (Nat → List Leaf → Option β) → (List Leaf → Option β) → Nat → List Int → List Int → List Int → List Int → List Int → Int → Bool → Int → Int → Int → Int → Option β)) : Loops := ⟨fun b fr H kx kr => bif Nat.beq (rid b) 7 then loopE 1 SentUnknown_7_T [] SentUnknown_7_X SentUnknown_7_R (SentUnknown_7_F @L7 top) fr H kx kr else none⟩
def SentUnknown_Λ : Loops := SentUnknown_Λd @SentUnknown_7_L
theorem SentUnknown_7_e (L7 : ({β : Type} → (Nat → List Leaf → Option β) → (List Leaf → Option β) → Nat → List Int → List Int → List Int → List Int → List Int → Int → Bool → Int → Int → Int → Int → Option β)) {α : Type} (kx : Nat → List Leaf → Option α) (kr : List Leaf → Option α) (again : List Int → List Int → List Int → List Int → List Int → Int → Bool → Int → Int → Int → Int → Option α) (cells0 : List Int) (cells1 : List Int) (s_l0 : List Int) (s_l1 : List Int) (s_l2 : List Int) (s_last : Int) (s_any : Bool) (i : Int) (first : Int) (n2 : Int) (off : Int) : SentUnknown_7_B  kx kr again cells0 cells1 s_l0 s_l1 s_l2 s_last s_any i first n2 off = loopB G45 (SentUnknown_Λd @L7) false tab Go.Proofs.Tryz.f6.ntmps 1 SentUnknown_7_T [] SentUnknown_7_X SentUnknown_7_R (bodyAt (fb Go.Proofs.Tryz.f6) 0) (fun ls => un_li ls fun cells0 rr => un_li rr fun cells1 rr => un_li rr fun s_l0 rr => un_li rr fun s_l1 rr => un_li rr fun s_l2 rr => un_i rr fun s_last rr => un_b rr fun s_any rr => un_i rr fun i rr => un_i rr fun first rr => un_i rr fun n2 rr => un_i rr fun off rr => un_nil rr (again cells0 cells1 s_l0 s_l1 s_l2 s_last s_any i first n2 off)) kx kr (instFr SentUnknown_7_T [.li cells0, .li cells1, .li s_l0, .li s_l1, .li s_l2, .i s_last, .b s_any, .i i, .i first, .i n2, .i off]) (instH SentUnknown_7_T [.li cells0, .li cells1, .li s_l0, .li s_l1, .li s_l2, .i s_last, .b s_any, .i i, .i first, .i n2, .i off]) := by kernel_rfl
theorem SentUnknown_7_lok (E : Nat → Prop) (w0 ws : World) (ρ0 : List Pl) (hk : ρ0.length = 1) : LOk Go.Proofs.Tryz.prog 6 Go.Proofs.Tryz.f6 false E w0 ws Go.Proofs.Tryz.f6.ntmps ρ0 SentUnknown_Λ (bodyAt (fb Go.Proofs.Tryz.f6) 0) := by
  refine lok mixed tab_ok g45 Go.Proofs.Tryz.func6 hk (T := SentUnknown_7_T) (rt := SentUnknown_7_R) (cuts := []) (ex := SentUnknown_7_X) (top := top) (F := SentUnknown_7_F @SentUnknown_7_L) (fun fr H kx kr => by kernel_rfl) ?_ ?_ ?_
  · intro α ls' kx' kr' r' h'
    unfold SentUnknown_7_F at h'
    obtain ⟨cells0, l'1, rfl, h'1⟩ := un_li_some.1 h'
    obtain ⟨cells1, l'2, rfl, h'2⟩ := un_li_some.1 h'1
    obtain ⟨s_l0, l'3, rfl, h'3⟩ := un_li_some.1 h'2
    obtain ⟨s_l1, l'4, rfl, h'4⟩ := un_li_some.1 h'3
    obtain ⟨s_l2, l'5, rfl, h'5⟩ := un_li_some.1 h'4
    obtain ⟨s_last, l'6, rfl, h'6⟩ := un_i_some.1 h'5
    obtain ⟨s_any, l'7, rfl, h'7⟩ := un_b_some.1 h'6
    obtain ⟨i, l'8, rfl, h'8⟩ := un_i_some.1 h'7
    obtain ⟨first, l'9, rfl, h'9⟩ := un_i_some.1 h'8
    obtain ⟨n2, l'10, rfl, h'10⟩ := un_i_some.1 h'9
    obtain ⟨off, l'11, rfl, h'11⟩ := un_i_some.1 h'10
    obtain ⟨rfl, h'Z⟩ := un_nil_some.1 h'11
    cases h'Z
  · intro α n' ls' kx' kr' r' h'
    unfold SentUnknown_7_F at h'
    obtain ⟨cells0, l'1, rfl, h'1⟩ := un_li_some.1 h'
    obtain ⟨cells1, l'2, rfl, h'2⟩ := un_li_some.1 h'1
    obtain ⟨s_l0, l'3, rfl, h'3⟩ := un_li_some.1 h'2
    obtain ⟨s_l1, l'4, rfl, h'4⟩ := un_li_some.1 h'3
    obtain ⟨s_l2, l'5, rfl, h'5⟩ := un_li_some.1 h'4
    obtain ⟨s_last, l'6, rfl, h'6⟩ := un_i_some.1 h'5
    obtain ⟨s_any, l'7, rfl, h'7⟩ := un_b_some.1 h'6
    obtain ⟨i, l'8, rfl, h'8⟩ := un_i_some.1 h'7
    obtain ⟨first, l'9, rfl, h'9⟩ := un_i_some.1 h'8
    obtain ⟨n2, l'10, rfl, h'10⟩ := un_i_some.1 h'9
    obtain ⟨off, l'11, rfl, h'11⟩ := un_i_some.1 h'10
    obtain ⟨rfl, h'Z⟩ := un_nil_some.1 h'11
    exact (SentUnknown_7_e @SentUnknown_7_L kx' kr' (SentUnknown_7_L kx' kr' n') cells0 cells1 s_l0 s_l1 s_l2 s_last s_any i first n2 off).symm.trans h'Z
  · intro b' hb
    rw [show loopsOf (bodyAt (fb Go.Proofs.Tryz.f6) 0) = [] by kernel_rfl] at hb
    cases hb
theorem SentUnknown_ed (L7 : ({β : Type} → (Nat → List Leaf → Option β) → (List Leaf → Option β) → Nat → List Int → List Int → List Int → List Int → List Int → Int → Bool → Int → Int → Int → Int → Option β)) (cells0 : List Int) (cells1 : List Int) (first : Int) (n2 : Int) (off : Int) : SentUnknown_d @L7 cells0 cells1 first n2 off = den G45 (SentUnknown_Λd @L7) false tab Go.Proofs.Tryz.f6.ntmps (fun fr H => finish tab 1 Go.Proofs.Tryz.f6.results.toList SentUnknown_out [] fr H some) (fun _ _ _ => none) (fun fr H => finish tab 1 Go.Proofs.Tryz.f6.results.toList SentUnknown_out [] fr H some) 10000 [.code (fb Go.Proofs.Tryz.f6)] (instFr SentUnknown_in [.li cells0, .li cells1, .i first, .i n2, .i off]) (instH SentUnknown_in [.li cells0, .li cells1, .i first, .i n2, .i off]) := by kernel_rfl
theorem SentUnknown_e (cells0 : List Int) (cells1 : List Int) (first : Int) (n2 : Int) (off : Int) : SentUnknown cells0 cells1 first n2 off = den G45 SentUnknown_Λ false tab Go.Proofs.Tryz.f6.ntmps (fun fr H => finish tab 1 Go.Proofs.Tryz.f6.results.toList SentUnknown_out [] fr H some) (fun _ _ _ => none) (fun fr H => finish tab 1 Go.Proofs.Tryz.f6.results.toList SentUnknown_out [] fr H some) 10000 [.code (fb Go.Proofs.Tryz.f6)] (instFr SentUnknown_in [.li cells0, .li cells1, .i first, .i n2, .i off]) (instH SentUnknown_in [.li cells0, .li cells1, .i first, .i n2, .i off]) := SentUnknown_ed @SentUnknown_7_L cells0 cells1 first n2 off
def SentUnknown_S : List Leaf → Option (List Leaf) := fun ls => un_li ls fun cells0 rr => un_li rr fun cells1 rr => un_i rr fun first rr => un_i rr fun n2 rr => un_i rr fun off rr => un_nil rr (SentUnknown cells0 cells1 first n2 off)
def SentUnknown_SC : Tld := fun ls k' => un_li ls fun cells0 rr => un_li rr fun cells1 rr => un_i rr fun first rr => un_i rr fun n2 rr => un_i rr fun off rr => un_nil rr (out (SentUnknown cells0 cells1 first n2 off) k')
theorem SentUnknown_Se (cells0 : List Int) (cells1 : List Int) (first : Int) (n2 : Int) (off : Int) : SentUnknown_S [.li cells0, .li cells1, .i first, .i n2, .i off] = SentUnknown cells0 cells1 first n2 off := by
  unfold SentUnknown_S
  simp only [un_i_ev, un_b_ev, un_s_ev, un_li_ev, un_lb_ev, un_ls_ev, un_nil_ev]
theorem SentUnknown_says : Says SentUnknown_SC SentUnknown_S := by
  intro β ls' k' r' h'
  unfold SentUnknown_SC at h'
  obtain ⟨cells0, l'1, rfl, h'1⟩ := un_li_some.1 h'
  obtain ⟨cells1, l'2, rfl, h'2⟩ := un_li_some.1 h'1
  obtain ⟨first, l'3, rfl, h'3⟩ := un_i_some.1 h'2
  obtain ⟨n2, l'4, rfl, h'4⟩ := un_i_some.1 h'3
  obtain ⟨off, l'5, rfl, h'5⟩ := un_i_some.1 h'4
  obtain ⟨rfl, h'Z⟩ := un_nil_some.1 h'5
  obtain ⟨l', a', b'⟩ := out_some.1 h'Z
  exact ⟨l', (SentUnknown_Se cells0 cells1 first n2 off).trans a', b'⟩
theorem SentUnknown_c : FnC Go.Proofs.Tryz.prog 6 false 4 1 SentUnknown_in SentUnknown_out SentUnknown_S := by
  refine fn_ok (Λ := SentUnknown_Λ) mixed tab_ok g45 Go.Proofs.Tryz.func6 (by kernel_rfl) (body := fb Go.Proofs.Tryz.f6) rfl (ts := Go.Proofs.Tryz.f6.results.toList) rfl (cuts := []) (by kernel_rfl) (Nat.le_of_ble_eq_true (by kernel_rfl)) (by kernel_rfl) (rt := .w (.at (.bool))) rfl ?_ ?_
  · intro ls' r' h'
    unfold SentUnknown_S at h'
    obtain ⟨cells0, l'1, rfl, h'1⟩ := un_li_some.1 h'
    obtain ⟨cells1, l'2, rfl, h'2⟩ := un_li_some.1 h'1
    obtain ⟨first, l'3, rfl, h'3⟩ := un_i_some.1 h'2
    obtain ⟨n2, l'4, rfl, h'4⟩ := un_i_some.1 h'3
    obtain ⟨off, l'5, rfl, h'5⟩ := un_i_some.1 h'4
    obtain ⟨rfl, h'Z⟩ := un_nil_some.1 h'5
    exact (SentUnknown_e cells0 cells1 first n2 off).symm.trans h'Z
  · intro E w0 ws ρ0 hk b hb
    rw [show loopsOf (fb Go.Proofs.Tryz.f6) = [(bodyAt (fb Go.Proofs.Tryz.f6) 0)] by kernel_rfl] at hb
    simp only [List.mem_cons, List.mem_nil_iff, or_false] at hb
    rcases hb with rfl
    · exact SentUnknown_7_lok E w0 ws ρ0 hk
noncomputable def G46 : Env := G45.addE 6 4 SentUnknown_in SentUnknown_out SentUnknown_SC
theorem g46 : EnvOk Go.Proofs.Tryz.prog G46 := EnvOk.addE g45 SentUnknown_c SentUnknown_says
end Go.Sx.T

