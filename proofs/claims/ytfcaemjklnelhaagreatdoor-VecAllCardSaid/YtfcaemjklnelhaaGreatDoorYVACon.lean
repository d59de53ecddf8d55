import Derived.Test.YtfcaemjklnelhaaGreatDoorYVASpec
import Derived.Test.YtfcaemjklnelhaaGreatDoorYVLCon
set_option linter.all false
namespace Go.Sx.T
open Go Go.Sx Go.Proofs
set_option maxRecDepth 100000

-- ### law1_Text: function 6
def law1_Text_in : Tm := ⟨[], [(0, .w (.at (.str))), (1, .w (.at (.int .i64)))]⟩
def law1_Text_out : Tm := ⟨[], [(0, .w (.at (.str)))]⟩

def law1_Text_Λd : Loops := Loops.none
def law1_Text_Λ : Loops := law1_Text_Λd 

theorem law1_Text_e (s : ByteArray) (n2 : Int) : law1_Text s n2 = den G21 law1_Text_Λ true tab Go.Proofs.Tryz.f6.ntmps (fun fr H => finish tab 0 Go.Proofs.Tryz.f6.results.toList law1_Text_out [] fr H some) (fun _ _ _ => none) (fun fr H => finish tab 0 Go.Proofs.Tryz.f6.results.toList law1_Text_out [] fr H some) 10000 [.code (fb Go.Proofs.Tryz.f6)] (instFr law1_Text_in [.s s, .i n2]) (instH law1_Text_in [.s s, .i n2]) := by kernel_rfl
def law1_Text_S : List Leaf → Option (List Leaf) := fun ls => un_s ls fun s rr => un_i rr fun n2 rr => un_nil rr (law1_Text s n2)
def law1_Text_SC : Tld := fun ls k' => un_s ls fun s rr => un_i rr fun n2 rr => un_nil rr (out (law1_Text s n2) k')
theorem law1_Text_Se (s : ByteArray) (n2 : Int) : law1_Text_S [.s s, .i n2] = law1_Text s n2 := by
  unfold law1_Text_S
  simp only [un_i_ev, un_b_ev, un_s_ev, un_li_ev, un_lb_ev, un_ls_ev, un_nil_ev]
theorem law1_Text_says : Says law1_Text_SC law1_Text_S := by
  intro β ls' k' r' h'
  unfold law1_Text_SC at h'
  obtain ⟨s, l'1, rfl, h'1⟩ := un_s_some.1 h'
  obtain ⟨n2, l'2, rfl, h'2⟩ := un_i_some.1 h'1
  obtain ⟨rfl, h'Z⟩ := un_nil_some.1 h'2
  obtain ⟨l', a', b'⟩ := out_some.1 h'Z
  exact ⟨l', (law1_Text_Se s n2).trans a', b'⟩
theorem law1_Text_c : FnC Go.Proofs.Tryz.prog 6 true 2 0 law1_Text_in law1_Text_out law1_Text_S := by
  refine fn_ok (Λ := law1_Text_Λ) mixed tab_ok g21 Go.Proofs.Tryz.func6 (by kernel_rfl) (body := fb Go.Proofs.Tryz.f6) rfl (ts := Go.Proofs.Tryz.f6.results.toList) rfl (cuts := []) (by kernel_rfl) (Nat.le_of_ble_eq_true (by kernel_rfl)) (by kernel_rfl) (rt := .w (.at (.str))) rfl ?_ ?_
  · intro ls' r' h'
    unfold law1_Text_S at h'
    obtain ⟨s, l'1, rfl, h'1⟩ := un_s_some.1 h'
    obtain ⟨n2, l'2, rfl, h'2⟩ := un_i_some.1 h'1
    obtain ⟨rfl, h'Z⟩ := un_nil_some.1 h'2
    exact (law1_Text_e s n2).symm.trans h'Z
  · intro E w0 ws ρ0 hk b hb
    rw [show loopsOf (fb Go.Proofs.Tryz.f6) = [] by kernel_rfl] at hb
    cases hb
noncomputable def G22 : Env := G21.addP 6 2 law1_Text_in law1_Text_out law1_Text_SC
theorem g22 : EnvOk Go.Proofs.Tryz.prog G22 := EnvOk.addP g21 law1_Text_c law1_Text_says

-- ### ref_State: function 46
def ref_State_in : Tm := ⟨[], [(0, .w (.at (.int .i64)))]⟩
def ref_State_out : Tm := ⟨[], [(0, .w (.at (.bool)))]⟩

def ref_State_Λd : Loops := Loops.none
def ref_State_Λ : Loops := ref_State_Λd 

theorem ref_State_e (s : Int) : ref_State s = den G22 ref_State_Λ true tab Go.Proofs.Tryz.f46.ntmps (fun fr H => finish tab 0 Go.Proofs.Tryz.f46.results.toList ref_State_out [] fr H some) (fun _ _ _ => none) (fun fr H => finish tab 0 Go.Proofs.Tryz.f46.results.toList ref_State_out [] fr H some) 10000 [.code (fb Go.Proofs.Tryz.f46)] (instFr ref_State_in [.i s]) (instH ref_State_in [.i s]) := by kernel_rfl
def ref_State_S : List Leaf → Option (List Leaf) := fun ls => un_i ls fun s rr => un_nil rr (ref_State s)
def ref_State_SC : Tld := fun ls k' => un_i ls fun s rr => un_nil rr (out (ref_State s) k')
theorem ref_State_Se (s : Int) : ref_State_S [.i s] = ref_State s := by
  unfold ref_State_S
  simp only [un_i_ev, un_b_ev, un_s_ev, un_li_ev, un_lb_ev, un_ls_ev, un_nil_ev]
theorem ref_State_says : Says ref_State_SC ref_State_S := by
  intro β ls' k' r' h'
  unfold ref_State_SC at h'
  obtain ⟨s, l'1, rfl, h'1⟩ := un_i_some.1 h'
  obtain ⟨rfl, h'Z⟩ := un_nil_some.1 h'1
  obtain ⟨l', a', b'⟩ := out_some.1 h'Z
  exact ⟨l', (ref_State_Se s).trans a', b'⟩
theorem ref_State_c : FnC Go.Proofs.Tryz.prog 46 true 1 0 ref_State_in ref_State_out ref_State_S := by
  refine fn_ok (Λ := ref_State_Λ) mixed tab_ok g22 Go.Proofs.Tryz.func46 (by kernel_rfl) (body := fb Go.Proofs.Tryz.f46) rfl (ts := Go.Proofs.Tryz.f46.results.toList) rfl (cuts := []) (by kernel_rfl) (Nat.le_of_ble_eq_true (by kernel_rfl)) (by kernel_rfl) (rt := .w (.at (.bool))) rfl ?_ ?_
  · intro ls' r' h'
    unfold ref_State_S at h'
    obtain ⟨s, l'1, rfl, h'1⟩ := un_i_some.1 h'
    obtain ⟨rfl, h'Z⟩ := un_nil_some.1 h'1
    exact (ref_State_e s).symm.trans h'Z
  · intro E w0 ws ρ0 hk b hb
    rw [show loopsOf (fb Go.Proofs.Tryz.f46) = [] by kernel_rfl] at hb
    cases hb
noncomputable def G23 : Env := G22.addP 46 1 ref_State_in ref_State_out ref_State_SC
theorem g23 : EnvOk Go.Proofs.Tryz.prog G23 := EnvOk.addP g22 ref_State_c ref_State_says

-- ### ref_MayCells: function 7
def ref_MayCells_in : Tm := ⟨[.ro 38 2 [.int .i64, .int .i64]], [(0, .w (.at (.all 0 2)))]⟩
def ref_MayCells_out : Tm := ⟨[.dead], [(0, .w (.at (.bool)))]⟩
def ref_MayCells_3_T : Tm := ⟨[.ro 38 2 [.int .i64, .int .i64]], [(4, .w (.at (.int .i64))), (0, .w (.at (.all 0 2))), (3, .w (.at (.int .i64)))]⟩
def ref_MayCells_3_X0 : Tm := ⟨[.ro 38 2 [.int .i64, .int .i64]], []⟩
def ref_MayCells_3_X : Exits := [(0, (ref_MayCells_3_X0, []))]
def ref_MayCells_3_R : Tm := ⟨[.ro 38 2 [.int .i64, .int .i64]], [(2, .w (.at (.bool)))]⟩

def ref_MayCells_Λd (L3 : ({β : Type} → (Nat → List Leaf → Option β) → (List Leaf → Option β) → Nat → List Int → List Int → Int → Int → Option β)) : Loops := ⟨fun b fr H kx kr => bif Nat.beq (rid b) 3 then loopE 1 ref_MayCells_3_T [] ref_MayCells_3_X ref_MayCells_3_R (ref_MayCells_3_F @L3 top) fr H kx kr else none⟩
def ref_MayCells_Λ : Loops := ref_MayCells_Λd @ref_MayCells_3_L
theorem ref_MayCells_3_e (L3 : ({β : Type} → (Nat → List Leaf → Option β) → (List Leaf → Option β) → Nat → List Int → List Int → Int → Int → Option β)) {α : Type} (kx : Nat → List Leaf → Option α) (kr : List Leaf → Option α) (again : List Int → List Int → Int → Int → Option α) (cs0 : List Int) (cs1 : List Int) (i : Int) (n2 : Int) : ref_MayCells_3_B  kx kr again cs0 cs1 i n2 = loopB G23 (ref_MayCells_Λd @L3) true tab Go.Proofs.Tryz.f7.ntmps 1 ref_MayCells_3_T [] ref_MayCells_3_X ref_MayCells_3_R (bodyAt (fb Go.Proofs.Tryz.f7) 0) (fun ls => un_li ls fun cs0 rr => un_li rr fun cs1 rr => un_i rr fun i rr => un_i rr fun n2 rr => un_nil rr (again cs0 cs1 i n2)) kx kr (instFr ref_MayCells_3_T [.li cs0, .li cs1, .i i, .i n2]) (instH ref_MayCells_3_T [.li cs0, .li cs1, .i i, .i n2]) := by kernel_rfl
theorem ref_MayCells_3_lok (E : Nat → Prop) (w0 ws : World) (ρ0 : List Pl) (hk : ρ0.length = 1) : LOk Go.Proofs.Tryz.prog 7 Go.Proofs.Tryz.f7 true E w0 ws Go.Proofs.Tryz.f7.ntmps ρ0 ref_MayCells_Λ (bodyAt (fb Go.Proofs.Tryz.f7) 0) := by
  refine lok mixed tab_ok g23 Go.Proofs.Tryz.func7 hk (T := ref_MayCells_3_T) (rt := ref_MayCells_3_R) (cuts := []) (ex := ref_MayCells_3_X) (top := top) (F := ref_MayCells_3_F @ref_MayCells_3_L) (fun fr H kx kr => by kernel_rfl) ?_ ?_ ?_
  · intro α ls' kx' kr' r' h'
    unfold ref_MayCells_3_F at h'
    obtain ⟨cs0, l'1, rfl, h'1⟩ := un_li_some.1 h'
    obtain ⟨cs1, l'2, rfl, h'2⟩ := un_li_some.1 h'1
    obtain ⟨i, l'3, rfl, h'3⟩ := un_i_some.1 h'2
    obtain ⟨n2, l'4, rfl, h'4⟩ := un_i_some.1 h'3
    obtain ⟨rfl, h'Z⟩ := un_nil_some.1 h'4
    cases h'Z
  · intro α n' ls' kx' kr' r' h'
    unfold ref_MayCells_3_F at h'
    obtain ⟨cs0, l'1, rfl, h'1⟩ := un_li_some.1 h'
    obtain ⟨cs1, l'2, rfl, h'2⟩ := un_li_some.1 h'1
    obtain ⟨i, l'3, rfl, h'3⟩ := un_i_some.1 h'2
    obtain ⟨n2, l'4, rfl, h'4⟩ := un_i_some.1 h'3
    obtain ⟨rfl, h'Z⟩ := un_nil_some.1 h'4
    exact (ref_MayCells_3_e @ref_MayCells_3_L kx' kr' (ref_MayCells_3_L kx' kr' n') cs0 cs1 i n2).symm.trans h'Z
  · intro b' hb
    rw [show loopsOf (bodyAt (fb Go.Proofs.Tryz.f7) 0) = [] by kernel_rfl] at hb
    cases hb
theorem ref_MayCells_ed (L3 : ({β : Type} → (Nat → List Leaf → Option β) → (List Leaf → Option β) → Nat → List Int → List Int → Int → Int → Option β)) (cs0 : List Int) (cs1 : List Int) : ref_MayCells_d @L3 cs0 cs1 = den G23 (ref_MayCells_Λd @L3) true tab Go.Proofs.Tryz.f7.ntmps (fun fr H => finish tab 1 Go.Proofs.Tryz.f7.results.toList ref_MayCells_out [] fr H some) (fun _ _ _ => none) (fun fr H => finish tab 1 Go.Proofs.Tryz.f7.results.toList ref_MayCells_out [] fr H some) 10000 [.code (fb Go.Proofs.Tryz.f7)] (instFr ref_MayCells_in [.li cs0, .li cs1]) (instH ref_MayCells_in [.li cs0, .li cs1]) := by kernel_rfl
theorem ref_MayCells_e (cs0 : List Int) (cs1 : List Int) : ref_MayCells cs0 cs1 = den G23 ref_MayCells_Λ true tab Go.Proofs.Tryz.f7.ntmps (fun fr H => finish tab 1 Go.Proofs.Tryz.f7.results.toList ref_MayCells_out [] fr H some) (fun _ _ _ => none) (fun fr H => finish tab 1 Go.Proofs.Tryz.f7.results.toList ref_MayCells_out [] fr H some) 10000 [.code (fb Go.Proofs.Tryz.f7)] (instFr ref_MayCells_in [.li cs0, .li cs1]) (instH ref_MayCells_in [.li cs0, .li cs1]) := ref_MayCells_ed @ref_MayCells_3_L cs0 cs1
def ref_MayCells_S : List Leaf → Option (List Leaf) := fun ls => un_li ls fun cs0 rr => un_li rr fun cs1 rr => un_nil rr (ref_MayCells cs0 cs1)
def ref_MayCells_SC : Tld := fun ls k' => un_li ls fun cs0 rr => un_li rr fun cs1 rr => un_nil rr (out (ref_MayCells cs0 cs1) k')
theorem ref_MayCells_Se (cs0 : List Int) (cs1 : List Int) : ref_MayCells_S [.li cs0, .li cs1] = ref_MayCells cs0 cs1 := by
  unfold ref_MayCells_S
  simp only [un_i_ev, un_b_ev, un_s_ev, un_li_ev, un_lb_ev, un_ls_ev, un_nil_ev]
theorem ref_MayCells_says : Says ref_MayCells_SC ref_MayCells_S := by
  intro β ls' k' r' h'
  unfold ref_MayCells_SC at h'
  obtain ⟨cs0, l'1, rfl, h'1⟩ := un_li_some.1 h'
  obtain ⟨cs1, l'2, rfl, h'2⟩ := un_li_some.1 h'1
  obtain ⟨rfl, h'Z⟩ := un_nil_some.1 h'2
  obtain ⟨l', a', b'⟩ := out_some.1 h'Z
  exact ⟨l', (ref_MayCells_Se cs0 cs1).trans a', b'⟩
theorem ref_MayCells_c : FnC Go.Proofs.Tryz.prog 7 true 1 1 ref_MayCells_in ref_MayCells_out ref_MayCells_S := by
  refine fn_ok (Λ := ref_MayCells_Λ) mixed tab_ok g23 Go.Proofs.Tryz.func7 (by kernel_rfl) (body := fb Go.Proofs.Tryz.f7) rfl (ts := Go.Proofs.Tryz.f7.results.toList) rfl (cuts := []) (by kernel_rfl) (Nat.le_of_ble_eq_true (by kernel_rfl)) (by kernel_rfl) (rt := .w (.at (.bool))) rfl ?_ ?_
  · intro ls' r' h'
    unfold ref_MayCells_S at h'
    obtain ⟨cs0, l'1, rfl, h'1⟩ := un_li_some.1 h'
    obtain ⟨cs1, l'2, rfl, h'2⟩ := un_li_some.1 h'1
    obtain ⟨rfl, h'Z⟩ := un_nil_some.1 h'2
    exact (ref_MayCells_e cs0 cs1).symm.trans h'Z
  · intro E w0 ws ρ0 hk b hb
    rw [show loopsOf (fb Go.Proofs.Tryz.f7) = [(bodyAt (fb Go.Proofs.Tryz.f7) 0)] by kernel_rfl] at hb
    simp only [List.mem_cons, List.mem_nil_iff, or_false] at hb
    rcases hb with rfl
    · exact ref_MayCells_3_lok E w0 ws ρ0 hk
noncomputable def G24 : Env := G23.addP 7 1 ref_MayCells_in ref_MayCells_out ref_MayCells_SC
theorem g24 : EnvOk Go.Proofs.Tryz.prog G24 := EnvOk.addP g23 ref_MayCells_c ref_MayCells_says

-- ### ref_Spread: function 17
def ref_Spread_in : Tm := ⟨[.ro 38 2 [.int .i64, .int .i64]], [(0, .w (.at (.all 0 2)))]⟩
def ref_Spread_out : Tm := ⟨[.dead, .row 3 1 [.int .i64]], [(0, .w (.at (.all 1 1)))]⟩
def ref_Spread_8_T : Tm := ⟨[.ro 38 2 [.int .i64, .int .i64], .row 3 1 [.int .i64]], [(5, .w (.at (.int .i64))), (4, .w (.at (.int .i64))), (0, .w (.at (.all 0 2))), (3, .w (.at (.all 1 1)))]⟩
def ref_Spread_8_X2 : Tm := ⟨[.ro 38 2 [.int .i64, .int .i64], .row 3 1 [.int .i64]], [(0, .w (.at (.all 0 2))), (3, .w (.at (.all 1 1))), (4, .w (.at (.int .i64)))]⟩
def ref_Spread_8_X : Exits := [(2, (ref_Spread_8_X2, []))]
def ref_Spread_8_R : Tm := ⟨[], []⟩
def ref_Spread_5_T : Tm := ⟨[.ro 38 2 [.int .i64, .int .i64], .row 3 1 [.int .i64]], [(4, .w (.at (.int .i64))), (0, .w (.at (.all 0 2))), (3, .w (.at (.all 1 1)))]⟩
def ref_Spread_5_X0 : Tm := ⟨[.ro 38 2 [.int .i64, .int .i64], .row 3 1 [.int .i64]], [(3, .w (.at (.all 1 1)))]⟩
def ref_Spread_5_X : Exits := [(0, (ref_Spread_5_X0, []))]
def ref_Spread_5_R : Tm := ⟨[.dead], []⟩

def ref_Spread_Λd (L8 : ({β : Type} → (Nat → List Leaf → Option β) → (List Leaf → Option β) → Nat → List Int → List Int → List Int → Int → Int → Option β)) (L5 : ({β : Type} → (Nat → List Leaf → Option β) → (List Leaf → Option β) → Nat → List Int → List Int → List Int → Int → Option β)) : Loops := ⟨fun b fr H kx kr => bif Nat.beq (rid b) 8 then loopE 1 ref_Spread_8_T [] ref_Spread_8_X ref_Spread_8_R (ref_Spread_8_F @L8 top) fr H kx kr else bif Nat.beq (rid b) 5 then loopE 1 ref_Spread_5_T [] ref_Spread_5_X ref_Spread_5_R (ref_Spread_5_F @L5 top) fr H kx kr else none⟩
def ref_Spread_Λ : Loops := ref_Spread_Λd @ref_Spread_8_L @ref_Spread_5_L
theorem ref_Spread_8_e (L8 : ({β : Type} → (Nat → List Leaf → Option β) → (List Leaf → Option β) → Nat → List Int → List Int → List Int → Int → Int → Option β)) (L5 : ({β : Type} → (Nat → List Leaf → Option β) → (List Leaf → Option β) → Nat → List Int → List Int → List Int → Int → Option β)) {α : Type} (kx : Nat → List Leaf → Option α) (kr : List Leaf → Option α) (again : List Int → List Int → List Int → Int → Int → Option α) (cs0 : List Int) (cs1 : List Int) (l : List Int) (k : Int) (i : Int) : ref_Spread_8_B  kx kr again cs0 cs1 l k i = loopB G24 (ref_Spread_Λd @L8 @L5) false tab Go.Proofs.Tryz.f17.ntmps 1 ref_Spread_8_T [] ref_Spread_8_X ref_Spread_8_R (bodyAt (fb Go.Proofs.Tryz.f17) 1) (fun ls => un_li ls fun cs0 rr => un_li rr fun cs1 rr => un_li rr fun l rr => un_i rr fun k rr => un_i rr fun i rr => un_nil rr (again cs0 cs1 l k i)) kx kr (instFr ref_Spread_8_T [.li cs0, .li cs1, .li l, .i k, .i i]) (instH ref_Spread_8_T [.li cs0, .li cs1, .li l, .i k, .i i]) := by kernel_rfl
theorem ref_Spread_5_e (L8 : ({β : Type} → (Nat → List Leaf → Option β) → (List Leaf → Option β) → Nat → List Int → List Int → List Int → Int → Int → Option β)) (L5 : ({β : Type} → (Nat → List Leaf → Option β) → (List Leaf → Option β) → Nat → List Int → List Int → List Int → Int → Option β)) {α : Type} (kx : Nat → List Leaf → Option α) (kr : List Leaf → Option α) (again : List Int → List Int → List Int → Int → Option α) (cs0 : List Int) (cs1 : List Int) (l : List Int) (i : Int) : ref_Spread_5_B @L8 kx kr again cs0 cs1 l i = loopB G24 (ref_Spread_Λd @L8 @L5) false tab Go.Proofs.Tryz.f17.ntmps 1 ref_Spread_5_T [] ref_Spread_5_X ref_Spread_5_R (bodyAt (fb Go.Proofs.Tryz.f17) 0) (fun ls => un_li ls fun cs0 rr => un_li rr fun cs1 rr => un_li rr fun l rr => un_i rr fun i rr => un_nil rr (again cs0 cs1 l i)) kx kr (instFr ref_Spread_5_T [.li cs0, .li cs1, .li l, .i i]) (instH ref_Spread_5_T [.li cs0, .li cs1, .li l, .i i]) := by kernel_rfl
theorem ref_Spread_8_lok (E : Nat → Prop) (w0 ws : World) (ρ0 : List Pl) (hk : ρ0.length = 1) : LOk Go.Proofs.Tryz.prog 17 Go.Proofs.Tryz.f17 false E w0 ws Go.Proofs.Tryz.f17.ntmps ρ0 ref_Spread_Λ (bodyAt (fb Go.Proofs.Tryz.f17) 1) := by
  refine lok mixed tab_ok g24 Go.Proofs.Tryz.func17 hk (T := ref_Spread_8_T) (rt := ref_Spread_8_R) (cuts := []) (ex := ref_Spread_8_X) (top := top) (F := ref_Spread_8_F @ref_Spread_8_L) (fun fr H kx kr => by kernel_rfl) ?_ ?_ ?_
  · intro α ls' kx' kr' r' h'
    unfold ref_Spread_8_F at h'
    obtain ⟨cs0, l'1, rfl, h'1⟩ := un_li_some.1 h'
    obtain ⟨cs1, l'2, rfl, h'2⟩ := un_li_some.1 h'1
    obtain ⟨l, l'3, rfl, h'3⟩ := un_li_some.1 h'2
    obtain ⟨k, l'4, rfl, h'4⟩ := un_i_some.1 h'3
    obtain ⟨i, l'5, rfl, h'5⟩ := un_i_some.1 h'4
    obtain ⟨rfl, h'Z⟩ := un_nil_some.1 h'5
    cases h'Z
  · intro α n' ls' kx' kr' r' h'
    unfold ref_Spread_8_F at h'
    obtain ⟨cs0, l'1, rfl, h'1⟩ := un_li_some.1 h'
    obtain ⟨cs1, l'2, rfl, h'2⟩ := un_li_some.1 h'1
    obtain ⟨l, l'3, rfl, h'3⟩ := un_li_some.1 h'2
    obtain ⟨k, l'4, rfl, h'4⟩ := un_i_some.1 h'3
    obtain ⟨i, l'5, rfl, h'5⟩ := un_i_some.1 h'4
    obtain ⟨rfl, h'Z⟩ := un_nil_some.1 h'5
    exact (ref_Spread_8_e @ref_Spread_8_L @ref_Spread_5_L kx' kr' (ref_Spread_8_L kx' kr' n') cs0 cs1 l k i).symm.trans h'Z
  · intro b' hb
    rw [show loopsOf (bodyAt (fb Go.Proofs.Tryz.f17) 1) = [] by kernel_rfl] at hb
    cases hb
theorem ref_Spread_5_lok (E : Nat → Prop) (w0 ws : World) (ρ0 : List Pl) (hk : ρ0.length = 1) : LOk Go.Proofs.Tryz.prog 17 Go.Proofs.Tryz.f17 false E w0 ws Go.Proofs.Tryz.f17.ntmps ρ0 ref_Spread_Λ (bodyAt (fb Go.Proofs.Tryz.f17) 0) := by
  refine lok mixed tab_ok g24 Go.Proofs.Tryz.func17 hk (T := ref_Spread_5_T) (rt := ref_Spread_5_R) (cuts := []) (ex := ref_Spread_5_X) (top := top) (F := ref_Spread_5_F @ref_Spread_5_L) (fun fr H kx kr => by kernel_rfl) ?_ ?_ ?_
  · intro α ls' kx' kr' r' h'
    unfold ref_Spread_5_F at h'
    obtain ⟨cs0, l'1, rfl, h'1⟩ := un_li_some.1 h'
    obtain ⟨cs1, l'2, rfl, h'2⟩ := un_li_some.1 h'1
    obtain ⟨l, l'3, rfl, h'3⟩ := un_li_some.1 h'2
    obtain ⟨i, l'4, rfl, h'4⟩ := un_i_some.1 h'3
    obtain ⟨rfl, h'Z⟩ := un_nil_some.1 h'4
    cases h'Z
  · intro α n' ls' kx' kr' r' h'
    unfold ref_Spread_5_F at h'
    obtain ⟨cs0, l'1, rfl, h'1⟩ := un_li_some.1 h'
    obtain ⟨cs1, l'2, rfl, h'2⟩ := un_li_some.1 h'1
    obtain ⟨l, l'3, rfl, h'3⟩ := un_li_some.1 h'2
    obtain ⟨i, l'4, rfl, h'4⟩ := un_i_some.1 h'3
    obtain ⟨rfl, h'Z⟩ := un_nil_some.1 h'4
    exact (ref_Spread_5_e @ref_Spread_8_L @ref_Spread_5_L kx' kr' (ref_Spread_5_L kx' kr' n') cs0 cs1 l i).symm.trans h'Z
  · intro b' hb
    rw [show loopsOf (bodyAt (fb Go.Proofs.Tryz.f17) 0) = [(bodyAt (fb Go.Proofs.Tryz.f17) 1)] by kernel_rfl] at hb
    simp only [List.mem_cons, List.mem_nil_iff, or_false] at hb
    rcases hb with rfl
    · exact ref_Spread_8_lok E w0 ws ρ0 hk
theorem ref_Spread_ed (L8 : ({β : Type} → (Nat → List Leaf → Option β) → (List Leaf → Option β) → Nat → List Int → List Int → List Int → Int → Int → Option β)) (L5 : ({β : Type} → (Nat → List Leaf → Option β) → (List Leaf → Option β) → Nat → List Int → List Int → List Int → Int → Option β)) (cs0 : List Int) (cs1 : List Int) : ref_Spread_d @L5 cs0 cs1 = den G24 (ref_Spread_Λd @L8 @L5) false tab Go.Proofs.Tryz.f17.ntmps (fun fr H => finish tab 1 Go.Proofs.Tryz.f17.results.toList ref_Spread_out [] fr H some) (fun _ _ _ => none) (fun fr H => finish tab 1 Go.Proofs.Tryz.f17.results.toList ref_Spread_out [] fr H some) 10000 [.code (fb Go.Proofs.Tryz.f17)] (instFr ref_Spread_in [.li cs0, .li cs1]) (instH ref_Spread_in [.li cs0, .li cs1]) := by kernel_rfl
theorem ref_Spread_e (cs0 : List Int) (cs1 : List Int) : ref_Spread cs0 cs1 = den G24 ref_Spread_Λ false tab Go.Proofs.Tryz.f17.ntmps (fun fr H => finish tab 1 Go.Proofs.Tryz.f17.results.toList ref_Spread_out [] fr H some) (fun _ _ _ => none) (fun fr H => finish tab 1 Go.Proofs.Tryz.f17.results.toList ref_Spread_out [] fr H some) 10000 [.code (fb Go.Proofs.Tryz.f17)] (instFr ref_Spread_in [.li cs0, .li cs1]) (instH ref_Spread_in [.li cs0, .li cs1]) := ref_Spread_ed @ref_Spread_8_L @ref_Spread_5_L cs0 cs1
def ref_Spread_S : List Leaf → Option (List Leaf) := fun ls => un_li ls fun cs0 rr => un_li rr fun cs1 rr => un_nil rr (ref_Spread cs0 cs1)
def ref_Spread_SC : Tld := fun ls k' => un_li ls fun cs0 rr => un_li rr fun cs1 rr => un_nil rr (out (ref_Spread cs0 cs1) k')
theorem ref_Spread_Se (cs0 : List Int) (cs1 : List Int) : ref_Spread_S [.li cs0, .li cs1] = ref_Spread cs0 cs1 := by
  unfold ref_Spread_S
  simp only [un_i_ev, un_b_ev, un_s_ev, un_li_ev, un_lb_ev, un_ls_ev, un_nil_ev]
theorem ref_Spread_says : Says ref_Spread_SC ref_Spread_S := by
  intro β ls' k' r' h'
  unfold ref_Spread_SC at h'
  obtain ⟨cs0, l'1, rfl, h'1⟩ := un_li_some.1 h'
  obtain ⟨cs1, l'2, rfl, h'2⟩ := un_li_some.1 h'1
  obtain ⟨rfl, h'Z⟩ := un_nil_some.1 h'2
  obtain ⟨l', a', b'⟩ := out_some.1 h'Z
  exact ⟨l', (ref_Spread_Se cs0 cs1).trans a', b'⟩
theorem ref_Spread_c : FnC Go.Proofs.Tryz.prog 17 false 1 1 ref_Spread_in ref_Spread_out ref_Spread_S := by
  refine fn_ok (Λ := ref_Spread_Λ) mixed tab_ok g24 Go.Proofs.Tryz.func17 (by kernel_rfl) (body := fb Go.Proofs.Tryz.f17) rfl (ts := Go.Proofs.Tryz.f17.results.toList) rfl (cuts := []) (by kernel_rfl) (Nat.le_of_ble_eq_true (by kernel_rfl)) (by kernel_rfl) (rt := .w (.at (.all 1 1))) rfl ?_ ?_
  · intro ls' r' h'
    unfold ref_Spread_S at h'
    obtain ⟨cs0, l'1, rfl, h'1⟩ := un_li_some.1 h'
    obtain ⟨cs1, l'2, rfl, h'2⟩ := un_li_some.1 h'1
    obtain ⟨rfl, h'Z⟩ := un_nil_some.1 h'2
    exact (ref_Spread_e cs0 cs1).symm.trans h'Z
  · intro E w0 ws ρ0 hk b hb
    rw [show loopsOf (fb Go.Proofs.Tryz.f17) = [(bodyAt (fb Go.Proofs.Tryz.f17) 0), (bodyAt (fb Go.Proofs.Tryz.f17) 1)] by kernel_rfl] at hb
    simp only [List.mem_cons, List.mem_nil_iff, or_false] at hb
    rcases hb with rfl | rfl
    · exact ref_Spread_5_lok E w0 ws ρ0 hk
    · exact ref_Spread_8_lok E w0 ws ρ0 hk
noncomputable def G25 : Env := G24.addE 17 1 ref_Spread_in ref_Spread_out ref_Spread_SC
theorem g25 : EnvOk Go.Proofs.Tryz.prog G25 := EnvOk.addE g24 ref_Spread_c ref_Spread_says

-- ### ref_Of: function 13
def ref_Of_in : Tm := ⟨[.ro 3 1 [.int .i64]], [(0, .w (.at (.all 0 1)))]⟩
def ref_Of_out : Tm := ⟨[.dead, .row 38 2 [.int .i64, .int .i64]], [(0, .w (.at (.all 1 2)))]⟩
def ref_Of_3_T : Tm := ⟨[.ro 3 1 [.int .i64], .row 38 2 [.int .i64, .int .i64]], [(4, .w (.at (.int .i64))), (3, .w (.at (.all 1 2))), (0, .w (.at (.all 0 1)))]⟩
def ref_Of_3_X0 : Tm := ⟨[.ro 3 1 [.int .i64], .row 38 2 [.int .i64, .int .i64]], [(3, .w (.at (.all 1 2)))]⟩
def ref_Of_3_X : Exits := [(0, (ref_Of_3_X0, []))]
def ref_Of_3_R : Tm := ⟨[.ro 3 1 [.int .i64], .row 38 2 [.int .i64, .int .i64]], [(2, .w (.at (.all 1 2)))]⟩

def ref_Of_Λd (L3 : ({β : Type} → (Nat → List Leaf → Option β) → (List Leaf → Option β) → Nat → List Int → List Int → List Int → Int → Option β)) : Loops := ⟨fun b fr H kx kr => bif Nat.beq (rid b) 3 then loopE 1 ref_Of_3_T [] ref_Of_3_X ref_Of_3_R (ref_Of_3_F @L3 top) fr H kx kr else none⟩
def ref_Of_Λ : Loops := ref_Of_Λd @ref_Of_3_L
theorem ref_Of_3_e (L3 : ({β : Type} → (Nat → List Leaf → Option β) → (List Leaf → Option β) → Nat → List Int → List Int → List Int → Int → Option β)) {α : Type} (kx : Nat → List Leaf → Option α) (kr : List Leaf → Option α) (again : List Int → List Int → List Int → Int → Option α) (states : List Int) (l0 : List Int) (l1 : List Int) (i : Int) : ref_Of_3_B  kx kr again states l0 l1 i = loopB G25 (ref_Of_Λd @L3) false tab Go.Proofs.Tryz.f13.ntmps 1 ref_Of_3_T [] ref_Of_3_X ref_Of_3_R (bodyAt (fb Go.Proofs.Tryz.f13) 0) (fun ls => un_li ls fun states rr => un_li rr fun l0 rr => un_li rr fun l1 rr => un_i rr fun i rr => un_nil rr (again states l0 l1 i)) kx kr (instFr ref_Of_3_T [.li states, .li l0, .li l1, .i i]) (instH ref_Of_3_T [.li states, .li l0, .li l1, .i i]) := by kernel_rfl
theorem ref_Of_3_lok (E : Nat → Prop) (w0 ws : World) (ρ0 : List Pl) (hk : ρ0.length = 1) : LOk Go.Proofs.Tryz.prog 13 Go.Proofs.Tryz.f13 false E w0 ws Go.Proofs.Tryz.f13.ntmps ρ0 ref_Of_Λ (bodyAt (fb Go.Proofs.Tryz.f13) 0) := by
  refine lok mixed tab_ok g25 Go.Proofs.Tryz.func13 hk (T := ref_Of_3_T) (rt := ref_Of_3_R) (cuts := []) (ex := ref_Of_3_X) (top := top) (F := ref_Of_3_F @ref_Of_3_L) (fun fr H kx kr => by kernel_rfl) ?_ ?_ ?_
  · intro α ls' kx' kr' r' h'
    unfold ref_Of_3_F at h'
    obtain ⟨states, l'1, rfl, h'1⟩ := un_li_some.1 h'
    obtain ⟨l0, l'2, rfl, h'2⟩ := un_li_some.1 h'1
    obtain ⟨l1, l'3, rfl, h'3⟩ := un_li_some.1 h'2
    obtain ⟨i, l'4, rfl, h'4⟩ := un_i_some.1 h'3
    obtain ⟨rfl, h'Z⟩ := un_nil_some.1 h'4
    cases h'Z
  · intro α n' ls' kx' kr' r' h'
    unfold ref_Of_3_F at h'
    obtain ⟨states, l'1, rfl, h'1⟩ := un_li_some.1 h'
    obtain ⟨l0, l'2, rfl, h'2⟩ := un_li_some.1 h'1
    obtain ⟨l1, l'3, rfl, h'3⟩ := un_li_some.1 h'2
    obtain ⟨i, l'4, rfl, h'4⟩ := un_i_some.1 h'3
    obtain ⟨rfl, h'Z⟩ := un_nil_some.1 h'4
    exact (ref_Of_3_e @ref_Of_3_L kx' kr' (ref_Of_3_L kx' kr' n') states l0 l1 i).symm.trans h'Z
  · intro b' hb
    rw [show loopsOf (bodyAt (fb Go.Proofs.Tryz.f13) 0) = [] by kernel_rfl] at hb
    cases hb
theorem ref_Of_ed (L3 : ({β : Type} → (Nat → List Leaf → Option β) → (List Leaf → Option β) → Nat → List Int → List Int → List Int → Int → Option β)) (states : List Int) : ref_Of_d @L3 states = den G25 (ref_Of_Λd @L3) false tab Go.Proofs.Tryz.f13.ntmps (fun fr H => finish tab 1 Go.Proofs.Tryz.f13.results.toList ref_Of_out [] fr H some) (fun _ _ _ => none) (fun fr H => finish tab 1 Go.Proofs.Tryz.f13.results.toList ref_Of_out [] fr H some) 10000 [.code (fb Go.Proofs.Tryz.f13)] (instFr ref_Of_in [.li states]) (instH ref_Of_in [.li states]) := by kernel_rfl
theorem ref_Of_e (states : List Int) : ref_Of states = den G25 ref_Of_Λ false tab Go.Proofs.Tryz.f13.ntmps (fun fr H => finish tab 1 Go.Proofs.Tryz.f13.results.toList ref_Of_out [] fr H some) (fun _ _ _ => none) (fun fr H => finish tab 1 Go.Proofs.Tryz.f13.results.toList ref_Of_out [] fr H some) 10000 [.code (fb Go.Proofs.Tryz.f13)] (instFr ref_Of_in [.li states]) (instH ref_Of_in [.li states]) := ref_Of_ed @ref_Of_3_L states
def ref_Of_S : List Leaf → Option (List Leaf) := fun ls => un_li ls fun states rr => un_nil rr (ref_Of states)
def ref_Of_SC : Tld := fun ls k' => un_li ls fun states rr => un_nil rr (out (ref_Of states) k')
theorem ref_Of_Se (states : List Int) : ref_Of_S [.li states] = ref_Of states := by
  unfold ref_Of_S
  simp only [un_i_ev, un_b_ev, un_s_ev, un_li_ev, un_lb_ev, un_ls_ev, un_nil_ev]
theorem ref_Of_says : Says ref_Of_SC ref_Of_S := by
  intro β ls' k' r' h'
  unfold ref_Of_SC at h'
  obtain ⟨states, l'1, rfl, h'1⟩ := un_li_some.1 h'
  obtain ⟨rfl, h'Z⟩ := un_nil_some.1 h'1
  obtain ⟨l', a', b'⟩ := out_some.1 h'Z
  exact ⟨l', (ref_Of_Se states).trans a', b'⟩
theorem ref_Of_c : FnC Go.Proofs.Tryz.prog 13 false 1 1 ref_Of_in ref_Of_out ref_Of_S := by
  refine fn_ok (Λ := ref_Of_Λ) mixed tab_ok g25 Go.Proofs.Tryz.func13 (by kernel_rfl) (body := fb Go.Proofs.Tryz.f13) rfl (ts := Go.Proofs.Tryz.f13.results.toList) rfl (cuts := []) (by kernel_rfl) (Nat.le_of_ble_eq_true (by kernel_rfl)) (by kernel_rfl) (rt := .w (.at (.all 1 2))) rfl ?_ ?_
  · intro ls' r' h'
    unfold ref_Of_S at h'
    obtain ⟨states, l'1, rfl, h'1⟩ := un_li_some.1 h'
    obtain ⟨rfl, h'Z⟩ := un_nil_some.1 h'1
    exact (ref_Of_e states).symm.trans h'Z
  · intro E w0 ws ρ0 hk b hb
    rw [show loopsOf (fb Go.Proofs.Tryz.f13) = [(bodyAt (fb Go.Proofs.Tryz.f13) 0)] by kernel_rfl] at hb
    simp only [List.mem_cons, List.mem_nil_iff, or_false] at hb
    rcases hb with rfl
    · exact ref_Of_3_lok E w0 ws ρ0 hk
noncomputable def G26 : Env := G25.addE 13 1 ref_Of_in ref_Of_out ref_Of_SC
theorem g26 : EnvOk Go.Proofs.Tryz.prog G26 := EnvOk.addE g25 ref_Of_c ref_Of_says

-- ### ref_Vector: function 9
def ref_Vector_in : Tm := ⟨[.ro 38 2 [.int .i64, .int .i64]], [(0, .w (.at (.all 0 2)))]⟩
def ref_Vector_out : Tm := ⟨[.dead, .row 9 1 [.str]], [(0, .w (.at (.all 1 1)))]⟩
def ref_Vector_5_T : Tm := ⟨[.ro 38 2 [.int .i64, .int .i64], .row 9 1 [.str]], [(4, .w (.at (.int .i64))), (0, .w (.at (.all 0 2))), (3, .w (.at (.all 1 1)))]⟩
def ref_Vector_5_X0 : Tm := ⟨[.ro 38 2 [.int .i64, .int .i64], .row 9 1 [.str]], [(3, .w (.at (.all 1 1)))]⟩
def ref_Vector_5_X : Exits := [(0, (ref_Vector_5_X0, []))]
def ref_Vector_5_R : Tm := ⟨[], []⟩

def ref_Vector_Λd (L5 : ({β : Type} → (Nat → List Leaf → Option β) → (List Leaf → Option β) → Nat → List Int → List Int → List ByteArray → Int → Option β)) : Loops := ⟨fun b fr H kx kr => bif Nat.beq (rid b) 5 then loopE 1 ref_Vector_5_T [] ref_Vector_5_X ref_Vector_5_R (ref_Vector_5_F @L5 top) fr H kx kr else none⟩
def ref_Vector_Λ : Loops := ref_Vector_Λd @ref_Vector_5_L
theorem ref_Vector_5_e (L5 : ({β : Type} → (Nat → List Leaf → Option β) → (List Leaf → Option β) → Nat → List Int → List Int → List ByteArray → Int → Option β)) {α : Type} (kx : Nat → List Leaf → Option α) (kr : List Leaf → Option α) (again : List Int → List Int → List ByteArray → Int → Option α) (cs0 : List Int) (cs1 : List Int) (l : List ByteArray) (i : Int) : ref_Vector_5_B  kx kr again cs0 cs1 l i = loopB G26 (ref_Vector_Λd @L5) false tab Go.Proofs.Tryz.f9.ntmps 1 ref_Vector_5_T [] ref_Vector_5_X ref_Vector_5_R (bodyAt (fb Go.Proofs.Tryz.f9) 0) (fun ls => un_li ls fun cs0 rr => un_li rr fun cs1 rr => un_ls rr fun l rr => un_i rr fun i rr => un_nil rr (again cs0 cs1 l i)) kx kr (instFr ref_Vector_5_T [.li cs0, .li cs1, .ls l, .i i]) (instH ref_Vector_5_T [.li cs0, .li cs1, .ls l, .i i]) := by kernel_rfl
theorem ref_Vector_5_lok (E : Nat → Prop) (w0 ws : World) (ρ0 : List Pl) (hk : ρ0.length = 1) : LOk Go.Proofs.Tryz.prog 9 Go.Proofs.Tryz.f9 false E w0 ws Go.Proofs.Tryz.f9.ntmps ρ0 ref_Vector_Λ (bodyAt (fb Go.Proofs.Tryz.f9) 0) := by
  refine lok mixed tab_ok g26 Go.Proofs.Tryz.func9 hk (T := ref_Vector_5_T) (rt := ref_Vector_5_R) (cuts := []) (ex := ref_Vector_5_X) (top := top) (F := ref_Vector_5_F @ref_Vector_5_L) (fun fr H kx kr => by kernel_rfl) ?_ ?_ ?_
  · intro α ls' kx' kr' r' h'
    unfold ref_Vector_5_F at h'
    obtain ⟨cs0, l'1, rfl, h'1⟩ := un_li_some.1 h'
    obtain ⟨cs1, l'2, rfl, h'2⟩ := un_li_some.1 h'1
    obtain ⟨l, l'3, rfl, h'3⟩ := un_ls_some.1 h'2
    obtain ⟨i, l'4, rfl, h'4⟩ := un_i_some.1 h'3
    obtain ⟨rfl, h'Z⟩ := un_nil_some.1 h'4
    cases h'Z
  · intro α n' ls' kx' kr' r' h'
    unfold ref_Vector_5_F at h'
    obtain ⟨cs0, l'1, rfl, h'1⟩ := un_li_some.1 h'
    obtain ⟨cs1, l'2, rfl, h'2⟩ := un_li_some.1 h'1
    obtain ⟨l, l'3, rfl, h'3⟩ := un_ls_some.1 h'2
    obtain ⟨i, l'4, rfl, h'4⟩ := un_i_some.1 h'3
    obtain ⟨rfl, h'Z⟩ := un_nil_some.1 h'4
    exact (ref_Vector_5_e @ref_Vector_5_L kx' kr' (ref_Vector_5_L kx' kr' n') cs0 cs1 l i).symm.trans h'Z
  · intro b' hb
    rw [show loopsOf (bodyAt (fb Go.Proofs.Tryz.f9) 0) = [] by kernel_rfl] at hb
    cases hb
theorem ref_Vector_ed (L5 : ({β : Type} → (Nat → List Leaf → Option β) → (List Leaf → Option β) → Nat → List Int → List Int → List ByteArray → Int → Option β)) (cs0 : List Int) (cs1 : List Int) : ref_Vector_d @L5 cs0 cs1 = den G26 (ref_Vector_Λd @L5) false tab Go.Proofs.Tryz.f9.ntmps (fun fr H => finish tab 1 Go.Proofs.Tryz.f9.results.toList ref_Vector_out [] fr H some) (fun _ _ _ => none) (fun fr H => finish tab 1 Go.Proofs.Tryz.f9.results.toList ref_Vector_out [] fr H some) 10000 [.code (fb Go.Proofs.Tryz.f9)] (instFr ref_Vector_in [.li cs0, .li cs1]) (instH ref_Vector_in [.li cs0, .li cs1]) := by kernel_rfl
theorem ref_Vector_e (cs0 : List Int) (cs1 : List Int) : ref_Vector cs0 cs1 = den G26 ref_Vector_Λ false tab Go.Proofs.Tryz.f9.ntmps (fun fr H => finish tab 1 Go.Proofs.Tryz.f9.results.toList ref_Vector_out [] fr H some) (fun _ _ _ => none) (fun fr H => finish tab 1 Go.Proofs.Tryz.f9.results.toList ref_Vector_out [] fr H some) 10000 [.code (fb Go.Proofs.Tryz.f9)] (instFr ref_Vector_in [.li cs0, .li cs1]) (instH ref_Vector_in [.li cs0, .li cs1]) := ref_Vector_ed @ref_Vector_5_L cs0 cs1
def ref_Vector_S : List Leaf → Option (List Leaf) := fun ls => un_li ls fun cs0 rr => un_li rr fun cs1 rr => un_nil rr (ref_Vector cs0 cs1)
def ref_Vector_SC : Tld := fun ls k' => un_li ls fun cs0 rr => un_li rr fun cs1 rr => un_nil rr (out (ref_Vector cs0 cs1) k')
theorem ref_Vector_Se (cs0 : List Int) (cs1 : List Int) : ref_Vector_S [.li cs0, .li cs1] = ref_Vector cs0 cs1 := by
  unfold ref_Vector_S
  simp only [un_i_ev, un_b_ev, un_s_ev, un_li_ev, un_lb_ev, un_ls_ev, un_nil_ev]
theorem ref_Vector_says : Says ref_Vector_SC ref_Vector_S := by
  intro β ls' k' r' h'
  unfold ref_Vector_SC at h'
  obtain ⟨cs0, l'1, rfl, h'1⟩ := un_li_some.1 h'
  obtain ⟨cs1, l'2, rfl, h'2⟩ := un_li_some.1 h'1
  obtain ⟨rfl, h'Z⟩ := un_nil_some.1 h'2
  obtain ⟨l', a', b'⟩ := out_some.1 h'Z
  exact ⟨l', (ref_Vector_Se cs0 cs1).trans a', b'⟩
theorem ref_Vector_c : FnC Go.Proofs.Tryz.prog 9 false 1 1 ref_Vector_in ref_Vector_out ref_Vector_S := by
  refine fn_ok (Λ := ref_Vector_Λ) mixed tab_ok g26 Go.Proofs.Tryz.func9 (by kernel_rfl) (body := fb Go.Proofs.Tryz.f9) rfl (ts := Go.Proofs.Tryz.f9.results.toList) rfl (cuts := []) (by kernel_rfl) (Nat.le_of_ble_eq_true (by kernel_rfl)) (by kernel_rfl) (rt := .w (.at (.all 1 1))) rfl ?_ ?_
  · intro ls' r' h'
    unfold ref_Vector_S at h'
    obtain ⟨cs0, l'1, rfl, h'1⟩ := un_li_some.1 h'
    obtain ⟨cs1, l'2, rfl, h'2⟩ := un_li_some.1 h'1
    obtain ⟨rfl, h'Z⟩ := un_nil_some.1 h'2
    exact (ref_Vector_e cs0 cs1).symm.trans h'Z
  · intro E w0 ws ρ0 hk b hb
    rw [show loopsOf (fb Go.Proofs.Tryz.f9) = [(bodyAt (fb Go.Proofs.Tryz.f9) 0)] by kernel_rfl] at hb
    simp only [List.mem_cons, List.mem_nil_iff, or_false] at hb
    rcases hb with rfl
    · exact ref_Vector_5_lok E w0 ws ρ0 hk
noncomputable def G27 : Env := G26.addE 9 1 ref_Vector_in ref_Vector_out ref_Vector_SC
theorem g27 : EnvOk Go.Proofs.Tryz.prog G27 := EnvOk.addE g26 ref_Vector_c ref_Vector_says

-- ### ref_GetVector: function 15
def ref_GetVector_in : Tm := ⟨[], [(0, .w (.at (.str)))]⟩
def ref_GetVector_out : Tm := ⟨[.row 38 2 [.int .i64, .int .i64]], [(0, .tup [.at (.all 0 2), .at (.bool)])]⟩
def ref_GetVector_3_T : Tm := ⟨[.row 38 2 [.int .i64, .int .i64]], [(5, .w (.at (.int .i64))), (4, .w (.at (.all 0 2))), (0, .w (.at (.str)))]⟩
def ref_GetVector_3_X0 : Tm := ⟨[.row 38 2 [.int .i64, .int .i64]], [(4, .w (.at (.all 0 2)))]⟩
def ref_GetVector_3_X : Exits := [(0, (ref_GetVector_3_X0, []))]
def ref_GetVector_3_R : Tm := ⟨[.row 38 2 [.int .i64, .int .i64]], [(2, .w (.at (.all 0 2))), (3, .w (.at (.bool)))]⟩

def ref_GetVector_Λd (L3 : ({β : Type} → (Nat → List Leaf → Option β) → (List Leaf → Option β) → Nat → List Int → List Int → Int → ByteArray → Option β)) : Loops := ⟨fun b fr H kx kr => bif Nat.beq (rid b) 3 then loopE 0 ref_GetVector_3_T [] ref_GetVector_3_X ref_GetVector_3_R (ref_GetVector_3_F @L3 top) fr H kx kr else none⟩
def ref_GetVector_Λ : Loops := ref_GetVector_Λd @ref_GetVector_3_L
theorem ref_GetVector_3_e (L3 : ({β : Type} → (Nat → List Leaf → Option β) → (List Leaf → Option β) → Nat → List Int → List Int → Int → ByteArray → Option β)) {α : Type} (kx : Nat → List Leaf → Option α) (kr : List Leaf → Option α) (again : List Int → List Int → Int → ByteArray → Option α) (l0 : List Int) (l1 : List Int) (i : Int) (s : ByteArray) : ref_GetVector_3_B  kx kr again l0 l1 i s = loopB G27 (ref_GetVector_Λd @L3) false tab Go.Proofs.Tryz.f15.ntmps 0 ref_GetVector_3_T [] ref_GetVector_3_X ref_GetVector_3_R (bodyAt (fb Go.Proofs.Tryz.f15) 0) (fun ls => un_li ls fun l0 rr => un_li rr fun l1 rr => un_i rr fun i rr => un_s rr fun s rr => un_nil rr (again l0 l1 i s)) kx kr (instFr ref_GetVector_3_T [.li l0, .li l1, .i i, .s s]) (instH ref_GetVector_3_T [.li l0, .li l1, .i i, .s s]) := by kernel_rfl
theorem ref_GetVector_3_lok (E : Nat → Prop) (w0 ws : World) (ρ0 : List Pl) (hk : ρ0.length = 0) : LOk Go.Proofs.Tryz.prog 15 Go.Proofs.Tryz.f15 false E w0 ws Go.Proofs.Tryz.f15.ntmps ρ0 ref_GetVector_Λ (bodyAt (fb Go.Proofs.Tryz.f15) 0) := by
  refine lok mixed tab_ok g27 Go.Proofs.Tryz.func15 hk (T := ref_GetVector_3_T) (rt := ref_GetVector_3_R) (cuts := []) (ex := ref_GetVector_3_X) (top := top) (F := ref_GetVector_3_F @ref_GetVector_3_L) (fun fr H kx kr => by kernel_rfl) ?_ ?_ ?_
  · intro α ls' kx' kr' r' h'
    unfold ref_GetVector_3_F at h'
    obtain ⟨l0, l'1, rfl, h'1⟩ := un_li_some.1 h'
    obtain ⟨l1, l'2, rfl, h'2⟩ := un_li_some.1 h'1
    obtain ⟨i, l'3, rfl, h'3⟩ := un_i_some.1 h'2
    obtain ⟨s, l'4, rfl, h'4⟩ := un_s_some.1 h'3
    obtain ⟨rfl, h'Z⟩ := un_nil_some.1 h'4
    cases h'Z
  · intro α n' ls' kx' kr' r' h'
    unfold ref_GetVector_3_F at h'
    obtain ⟨l0, l'1, rfl, h'1⟩ := un_li_some.1 h'
    obtain ⟨l1, l'2, rfl, h'2⟩ := un_li_some.1 h'1
    obtain ⟨i, l'3, rfl, h'3⟩ := un_i_some.1 h'2
    obtain ⟨s, l'4, rfl, h'4⟩ := un_s_some.1 h'3
    obtain ⟨rfl, h'Z⟩ := un_nil_some.1 h'4
    exact (ref_GetVector_3_e @ref_GetVector_3_L kx' kr' (ref_GetVector_3_L kx' kr' n') l0 l1 i s).symm.trans h'Z
  · intro b' hb
    rw [show loopsOf (bodyAt (fb Go.Proofs.Tryz.f15) 0) = [] by kernel_rfl] at hb
    cases hb
theorem ref_GetVector_ed (L3 : ({β : Type} → (Nat → List Leaf → Option β) → (List Leaf → Option β) → Nat → List Int → List Int → Int → ByteArray → Option β)) (s : ByteArray) : ref_GetVector_d @L3 s = den G27 (ref_GetVector_Λd @L3) false tab Go.Proofs.Tryz.f15.ntmps (fun fr H => finish tab 0 Go.Proofs.Tryz.f15.results.toList ref_GetVector_out [] fr H some) (fun _ _ _ => none) (fun fr H => finish tab 0 Go.Proofs.Tryz.f15.results.toList ref_GetVector_out [] fr H some) 10000 [.code (fb Go.Proofs.Tryz.f15)] (instFr ref_GetVector_in [.s s]) (instH ref_GetVector_in [.s s]) := by kernel_rfl
theorem ref_GetVector_e (s : ByteArray) : ref_GetVector s = den G27 ref_GetVector_Λ false tab Go.Proofs.Tryz.f15.ntmps (fun fr H => finish tab 0 Go.Proofs.Tryz.f15.results.toList ref_GetVector_out [] fr H some) (fun _ _ _ => none) (fun fr H => finish tab 0 Go.Proofs.Tryz.f15.results.toList ref_GetVector_out [] fr H some) 10000 [.code (fb Go.Proofs.Tryz.f15)] (instFr ref_GetVector_in [.s s]) (instH ref_GetVector_in [.s s]) := ref_GetVector_ed @ref_GetVector_3_L s
def ref_GetVector_S : List Leaf → Option (List Leaf) := fun ls => un_s ls fun s rr => un_nil rr (ref_GetVector s)
def ref_GetVector_SC : Tld := fun ls k' => un_s ls fun s rr => un_nil rr (out (ref_GetVector s) k')
theorem ref_GetVector_Se (s : ByteArray) : ref_GetVector_S [.s s] = ref_GetVector s := by
  unfold ref_GetVector_S
  simp only [un_i_ev, un_b_ev, un_s_ev, un_li_ev, un_lb_ev, un_ls_ev, un_nil_ev]
theorem ref_GetVector_says : Says ref_GetVector_SC ref_GetVector_S := by
  intro β ls' k' r' h'
  unfold ref_GetVector_SC at h'
  obtain ⟨s, l'1, rfl, h'1⟩ := un_s_some.1 h'
  obtain ⟨rfl, h'Z⟩ := un_nil_some.1 h'1
  obtain ⟨l', a', b'⟩ := out_some.1 h'Z
  exact ⟨l', (ref_GetVector_Se s).trans a', b'⟩
theorem ref_GetVector_c : FnC Go.Proofs.Tryz.prog 15 false 1 0 ref_GetVector_in ref_GetVector_out ref_GetVector_S := by
  refine fn_ok (Λ := ref_GetVector_Λ) mixed tab_ok g27 Go.Proofs.Tryz.func15 (by kernel_rfl) (body := fb Go.Proofs.Tryz.f15) rfl (ts := Go.Proofs.Tryz.f15.results.toList) rfl (cuts := []) (by kernel_rfl) (Nat.le_of_ble_eq_true (by kernel_rfl)) (by kernel_rfl) (rt := .tup [.at (.all 0 2), .at (.bool)]) rfl ?_ ?_
  · intro ls' r' h'
    unfold ref_GetVector_S at h'
    obtain ⟨s, l'1, rfl, h'1⟩ := un_s_some.1 h'
    obtain ⟨rfl, h'Z⟩ := un_nil_some.1 h'1
    exact (ref_GetVector_e s).symm.trans h'Z
  · intro E w0 ws ρ0 hk b hb
    rw [show loopsOf (fb Go.Proofs.Tryz.f15) = [(bodyAt (fb Go.Proofs.Tryz.f15) 0)] by kernel_rfl] at hb
    simp only [List.mem_cons, List.mem_nil_iff, or_false] at hb
    rcases hb with rfl
    · exact ref_GetVector_3_lok E w0 ws ρ0 hk
noncomputable def G28 : Env := G27.addE 15 1 ref_GetVector_in ref_GetVector_out ref_GetVector_SC
theorem g28 : EnvOk Go.Proofs.Tryz.prog G28 := EnvOk.addE g27 ref_GetVector_c ref_GetVector_says

-- ### VecAll: function 3
def VecAll_in : Tm := ⟨[.ro 38 2 [.int .i64, .int .i64], .ro 3 1 [.int .i64]], [(0, .w (.at (.all 0 2))), (1, .w (.at (.all 1 1))), (2, .w (.at (.str)))]⟩
def VecAll_out : Tm := ⟨[.dead, .dead], [(0, .w (.at (.bool)))]⟩
def VecAll_11_T : Tm := ⟨[.ro 38 2 [.int .i64, .int .i64], .ro 3 1 [.int .i64], .row 38 2 [.int .i64, .int .i64], .row 9 1 [.str], .row 9 1 [.str]], [(64, .w (.at (.int .i64))), (11, .w (.at (.all 2 2))), (10, .w (.at (.all 3 1))), (9, .w (.at (.all 4 1))), (8, .w (.at (.bool))), (0, .w (.at (.sl 0 2))), (2, .w (.at (.str))), (63, .w (.at (.int .i64)))]⟩
def VecAll_11_X0 : Tm := ⟨[.ro 38 2 [.int .i64, .int .i64], .ro 3 1 [.int .i64], .row 9 1 [.str], .row 38 2 [.int .i64, .int .i64]], [(9, .w (.at (.all 2 1))), (8, .w (.at (.bool))), (0, .w (.at (.sl 0 2))), (11, .w (.at (.all 3 2))), (2, .w (.at (.str)))]⟩
def VecAll_11_X : Exits := [(0, (VecAll_11_X0, []))]
def VecAll_11_R : Tm := ⟨[.ro 38 2 [.int .i64, .int .i64], .ro 3 1 [.int .i64]], [(6, .w (.at (.bool)))]⟩
def VecAll_24_T : Tm := ⟨[.ro 38 2 [.int .i64, .int .i64], .ro 3 1 [.int .i64], .row 3 1 [.int .i64], .row 3 1 [.int .i64], .row 9 1 [.str]], [(133, .w (.at (.int .i64))), (20, .w (.at (.all 2 1))), (19, .w (.at (.all 3 1))), (9, .w (.at (.all 4 1))), (8, .w (.at (.bool))), (132, .w (.at (.int .i64)))]⟩
def VecAll_24_X2 : Tm := ⟨[.ro 38 2 [.int .i64, .int .i64], .ro 3 1 [.int .i64], .row 9 1 [.str]], [(9, .w (.at (.all 2 1))), (8, .w (.at (.bool)))]⟩
def VecAll_24_X : Exits := [(2, (VecAll_24_X2, []))]
def VecAll_24_R : Tm := ⟨[.ro 38 2 [.int .i64, .int .i64], .ro 3 1 [.int .i64]], [(6, .w (.at (.bool)))]⟩

def VecAll_Λd (L11 : ({β : Type} → (Nat → List Leaf → Option β) → (List Leaf → Option β) → Nat → List Int → List Int → List Int → List Int → List Int → List ByteArray → List ByteArray → Int → Bool → Int → Int → ByteArray → Int → Option β)) (L24 : ({β : Type} → (Nat → List Leaf → Option β) → (List Leaf → Option β) → Nat → List Int → List Int → List Int → List Int → List Int → List ByteArray → Int → Bool → Int → Option β)) : Loops := ⟨fun b fr H kx kr => bif Nat.beq (rid b) 11 then loopE 2 VecAll_11_T [] VecAll_11_X VecAll_11_R (VecAll_11_F @L11 top) fr H kx kr else bif Nat.beq (rid b) 24 then loopE 2 VecAll_24_T [] VecAll_24_X VecAll_24_R (VecAll_24_F @L24 top) fr H kx kr else none⟩
def VecAll_Λ : Loops := VecAll_Λd @VecAll_11_L @VecAll_24_L
theorem VecAll_11_e (L11 : ({β : Type} → (Nat → List Leaf → Option β) → (List Leaf → Option β) → Nat → List Int → List Int → List Int → List Int → List Int → List ByteArray → List ByteArray → Int → Bool → Int → Int → ByteArray → Int → Option β)) (L24 : ({β : Type} → (Nat → List Leaf → Option β) → (List Leaf → Option β) → Nat → List Int → List Int → List Int → List Int → List Int → List ByteArray → Int → Bool → Int → Option β)) {α : Type} (kx : Nat → List Leaf → Option α) (kr : List Leaf → Option α) (again : List Int → List Int → List Int → List Int → List Int → List ByteArray → List ByteArray → Int → Bool → Int → Int → ByteArray → Int → Option α) (cs0 : List Int) (cs1 : List Int) (states : List Int) (back0 : List Int) (back1 : List Int) (w : List ByteArray) (l : List ByteArray) (t64 : Int) (may : Bool) (cs_o : Int) (cs_n : Int) (b : ByteArray) (t63 : Int) : VecAll_11_B  kx kr again cs0 cs1 states back0 back1 w l t64 may cs_o cs_n b t63 = loopB G28 (VecAll_Λd @L11 @L24) false tab Go.Proofs.Tryz.f3.ntmps 2 VecAll_11_T [] VecAll_11_X VecAll_11_R (bodyAt (fb Go.Proofs.Tryz.f3) 0) (fun ls => un_li ls fun cs0 rr => un_li rr fun cs1 rr => un_li rr fun states rr => un_li rr fun back0 rr => un_li rr fun back1 rr => un_ls rr fun w rr => un_ls rr fun l rr => un_i rr fun t64 rr => un_b rr fun may rr => un_i rr fun cs_o rr => un_i rr fun cs_n rr => un_s rr fun b rr => un_i rr fun t63 rr => un_nil rr (again cs0 cs1 states back0 back1 w l t64 may cs_o cs_n b t63)) kx kr (instFr VecAll_11_T [.li cs0, .li cs1, .li states, .li back0, .li back1, .ls w, .ls l, .i t64, .b may, .i cs_o, .i cs_n, .s b, .i t63]) (instH VecAll_11_T [.li cs0, .li cs1, .li states, .li back0, .li back1, .ls w, .ls l, .i t64, .b may, .i cs_o, .i cs_n, .s b, .i t63]) := by kernel_rfl
theorem VecAll_24_e (L11 : ({β : Type} → (Nat → List Leaf → Option β) → (List Leaf → Option β) → Nat → List Int → List Int → List Int → List Int → List Int → List ByteArray → List ByteArray → Int → Bool → Int → Int → ByteArray → Int → Option β)) (L24 : ({β : Type} → (Nat → List Leaf → Option β) → (List Leaf → Option β) → Nat → List Int → List Int → List Int → List Int → List Int → List ByteArray → Int → Bool → Int → Option β)) {α : Type} (kx : Nat → List Leaf → Option α) (kr : List Leaf → Option α) (again : List Int → List Int → List Int → List Int → List Int → List ByteArray → Int → Bool → Int → Option α) (cs0 : List Int) (cs1 : List Int) (states : List Int) (c : List Int) (a : List Int) (l : List ByteArray) (t133 : Int) (may : Bool) (t132 : Int) : VecAll_24_B  kx kr again cs0 cs1 states c a l t133 may t132 = loopB G28 (VecAll_Λd @L11 @L24) false tab Go.Proofs.Tryz.f3.ntmps 2 VecAll_24_T [] VecAll_24_X VecAll_24_R (bodyAt (fb Go.Proofs.Tryz.f3) 1) (fun ls => un_li ls fun cs0 rr => un_li rr fun cs1 rr => un_li rr fun states rr => un_li rr fun c rr => un_li rr fun a rr => un_ls rr fun l rr => un_i rr fun t133 rr => un_b rr fun may rr => un_i rr fun t132 rr => un_nil rr (again cs0 cs1 states c a l t133 may t132)) kx kr (instFr VecAll_24_T [.li cs0, .li cs1, .li states, .li c, .li a, .ls l, .i t133, .b may, .i t132]) (instH VecAll_24_T [.li cs0, .li cs1, .li states, .li c, .li a, .ls l, .i t133, .b may, .i t132]) := by kernel_rfl
theorem VecAll_24_lok (E : Nat → Prop) (w0 ws : World) (ρ0 : List Pl) (hk : ρ0.length = 2) : LOk Go.Proofs.Tryz.prog 3 Go.Proofs.Tryz.f3 false E w0 ws Go.Proofs.Tryz.f3.ntmps ρ0 VecAll_Λ (bodyAt (fb Go.Proofs.Tryz.f3) 1) := by
  refine lok mixed tab_ok g28 Go.Proofs.Tryz.func3 hk (T := VecAll_24_T) (rt := VecAll_24_R) (cuts := []) (ex := VecAll_24_X) (top := top) (F := VecAll_24_F @VecAll_24_L) (fun fr H kx kr => by kernel_rfl) ?_ ?_ ?_
  · intro α ls' kx' kr' r' h'
    unfold VecAll_24_F at h'
    obtain ⟨cs0, l'1, rfl, h'1⟩ := un_li_some.1 h'
    obtain ⟨cs1, l'2, rfl, h'2⟩ := un_li_some.1 h'1
    obtain ⟨states, l'3, rfl, h'3⟩ := un_li_some.1 h'2
    obtain ⟨c, l'4, rfl, h'4⟩ := un_li_some.1 h'3
    obtain ⟨a, l'5, rfl, h'5⟩ := un_li_some.1 h'4
    obtain ⟨l, l'6, rfl, h'6⟩ := un_ls_some.1 h'5
    obtain ⟨t133, l'7, rfl, h'7⟩ := un_i_some.1 h'6
    obtain ⟨may, l'8, rfl, h'8⟩ := un_b_some.1 h'7
    obtain ⟨t132, l'9, rfl, h'9⟩ := un_i_some.1 h'8
    obtain ⟨rfl, h'Z⟩ := un_nil_some.1 h'9
    cases h'Z
  · intro α n' ls' kx' kr' r' h'
    unfold VecAll_24_F at h'
    obtain ⟨cs0, l'1, rfl, h'1⟩ := un_li_some.1 h'
    obtain ⟨cs1, l'2, rfl, h'2⟩ := un_li_some.1 h'1
    obtain ⟨states, l'3, rfl, h'3⟩ := un_li_some.1 h'2
    obtain ⟨c, l'4, rfl, h'4⟩ := un_li_some.1 h'3
    obtain ⟨a, l'5, rfl, h'5⟩ := un_li_some.1 h'4
    obtain ⟨l, l'6, rfl, h'6⟩ := un_ls_some.1 h'5
    obtain ⟨t133, l'7, rfl, h'7⟩ := un_i_some.1 h'6
    obtain ⟨may, l'8, rfl, h'8⟩ := un_b_some.1 h'7
    obtain ⟨t132, l'9, rfl, h'9⟩ := un_i_some.1 h'8
    obtain ⟨rfl, h'Z⟩ := un_nil_some.1 h'9
    exact (VecAll_24_e @VecAll_11_L @VecAll_24_L kx' kr' (VecAll_24_L kx' kr' n') cs0 cs1 states c a l t133 may t132).symm.trans h'Z
  · intro b' hb
    rw [show loopsOf (bodyAt (fb Go.Proofs.Tryz.f3) 1) = [] by kernel_rfl] at hb
    cases hb
theorem VecAll_11_lok (E : Nat → Prop) (w0 ws : World) (ρ0 : List Pl) (hk : ρ0.length = 2) : LOk Go.Proofs.Tryz.prog 3 Go.Proofs.Tryz.f3 false E w0 ws Go.Proofs.Tryz.f3.ntmps ρ0 VecAll_Λ (bodyAt (fb Go.Proofs.Tryz.f3) 0) := by
  refine lok mixed tab_ok g28 Go.Proofs.Tryz.func3 hk (T := VecAll_11_T) (rt := VecAll_11_R) (cuts := []) (ex := VecAll_11_X) (top := top) (F := VecAll_11_F @VecAll_11_L) (fun fr H kx kr => by kernel_rfl) ?_ ?_ ?_
  · intro α ls' kx' kr' r' h'
    unfold VecAll_11_F at h'
    obtain ⟨cs0, l'1, rfl, h'1⟩ := un_li_some.1 h'
    obtain ⟨cs1, l'2, rfl, h'2⟩ := un_li_some.1 h'1
    obtain ⟨states, l'3, rfl, h'3⟩ := un_li_some.1 h'2
    obtain ⟨back0, l'4, rfl, h'4⟩ := un_li_some.1 h'3
    obtain ⟨back1, l'5, rfl, h'5⟩ := un_li_some.1 h'4
    obtain ⟨w, l'6, rfl, h'6⟩ := un_ls_some.1 h'5
    obtain ⟨l, l'7, rfl, h'7⟩ := un_ls_some.1 h'6
    obtain ⟨t64, l'8, rfl, h'8⟩ := un_i_some.1 h'7
    obtain ⟨may, l'9, rfl, h'9⟩ := un_b_some.1 h'8
    obtain ⟨cs_o, l'10, rfl, h'10⟩ := un_i_some.1 h'9
    obtain ⟨cs_n, l'11, rfl, h'11⟩ := un_i_some.1 h'10
    obtain ⟨b, l'12, rfl, h'12⟩ := un_s_some.1 h'11
    obtain ⟨t63, l'13, rfl, h'13⟩ := un_i_some.1 h'12
    obtain ⟨rfl, h'Z⟩ := un_nil_some.1 h'13
    cases h'Z
  · intro α n' ls' kx' kr' r' h'
    unfold VecAll_11_F at h'
    obtain ⟨cs0, l'1, rfl, h'1⟩ := un_li_some.1 h'
    obtain ⟨cs1, l'2, rfl, h'2⟩ := un_li_some.1 h'1
    obtain ⟨states, l'3, rfl, h'3⟩ := un_li_some.1 h'2
    obtain ⟨back0, l'4, rfl, h'4⟩ := un_li_some.1 h'3
    obtain ⟨back1, l'5, rfl, h'5⟩ := un_li_some.1 h'4
    obtain ⟨w, l'6, rfl, h'6⟩ := un_ls_some.1 h'5
    obtain ⟨l, l'7, rfl, h'7⟩ := un_ls_some.1 h'6
    obtain ⟨t64, l'8, rfl, h'8⟩ := un_i_some.1 h'7
    obtain ⟨may, l'9, rfl, h'9⟩ := un_b_some.1 h'8
    obtain ⟨cs_o, l'10, rfl, h'10⟩ := un_i_some.1 h'9
    obtain ⟨cs_n, l'11, rfl, h'11⟩ := un_i_some.1 h'10
    obtain ⟨b, l'12, rfl, h'12⟩ := un_s_some.1 h'11
    obtain ⟨t63, l'13, rfl, h'13⟩ := un_i_some.1 h'12
    obtain ⟨rfl, h'Z⟩ := un_nil_some.1 h'13
    exact (VecAll_11_e @VecAll_11_L @VecAll_24_L kx' kr' (VecAll_11_L kx' kr' n') cs0 cs1 states back0 back1 w l t64 may cs_o cs_n b t63).symm.trans h'Z
  · intro b' hb
    rw [show loopsOf (bodyAt (fb Go.Proofs.Tryz.f3) 0) = [] by kernel_rfl] at hb
    cases hb
theorem VecAll_ed (L11 : ({β : Type} → (Nat → List Leaf → Option β) → (List Leaf → Option β) → Nat → List Int → List Int → List Int → List Int → List Int → List ByteArray → List ByteArray → Int → Bool → Int → Int → ByteArray → Int → Option β)) (L24 : ({β : Type} → (Nat → List Leaf → Option β) → (List Leaf → Option β) → Nat → List Int → List Int → List Int → List Int → List Int → List ByteArray → Int → Bool → Int → Option β)) (cs0 : List Int) (cs1 : List Int) (states : List Int) (b : ByteArray) : VecAll_d @L11 @L24 cs0 cs1 states b = den G28 (VecAll_Λd @L11 @L24) false tab Go.Proofs.Tryz.f3.ntmps (fun fr H => finish tab 2 Go.Proofs.Tryz.f3.results.toList VecAll_out [] fr H some) (fun _ _ _ => none) (fun fr H => finish tab 2 Go.Proofs.Tryz.f3.results.toList VecAll_out [] fr H some) 10000 [.code (fb Go.Proofs.Tryz.f3)] (instFr VecAll_in [.li cs0, .li cs1, .li states, .s b]) (instH VecAll_in [.li cs0, .li cs1, .li states, .s b]) := by kernel_rfl
theorem VecAll_e (cs0 : List Int) (cs1 : List Int) (states : List Int) (b : ByteArray) : VecAll cs0 cs1 states b = den G28 VecAll_Λ false tab Go.Proofs.Tryz.f3.ntmps (fun fr H => finish tab 2 Go.Proofs.Tryz.f3.results.toList VecAll_out [] fr H some) (fun _ _ _ => none) (fun fr H => finish tab 2 Go.Proofs.Tryz.f3.results.toList VecAll_out [] fr H some) 10000 [.code (fb Go.Proofs.Tryz.f3)] (instFr VecAll_in [.li cs0, .li cs1, .li states, .s b]) (instH VecAll_in [.li cs0, .li cs1, .li states, .s b]) := VecAll_ed @VecAll_11_L @VecAll_24_L cs0 cs1 states b
def VecAll_S : List Leaf → Option (List Leaf) := fun ls => un_li ls fun cs0 rr => un_li rr fun cs1 rr => un_li rr fun states rr => un_s rr fun b rr => un_nil rr (VecAll cs0 cs1 states b)
def VecAll_SC : Tld := fun ls k' => un_li ls fun cs0 rr => un_li rr fun cs1 rr => un_li rr fun states rr => un_s rr fun b rr => un_nil rr (out (VecAll cs0 cs1 states b) k')
theorem VecAll_Se (cs0 : List Int) (cs1 : List Int) (states : List Int) (b : ByteArray) : VecAll_S [.li cs0, .li cs1, .li states, .s b] = VecAll cs0 cs1 states b := by
  unfold VecAll_S
  simp only [un_i_ev, un_b_ev, un_s_ev, un_li_ev, un_lb_ev, un_ls_ev, un_nil_ev]
theorem VecAll_says : Says VecAll_SC VecAll_S := by
  intro β ls' k' r' h'
  unfold VecAll_SC at h'
  obtain ⟨cs0, l'1, rfl, h'1⟩ := un_li_some.1 h'
  obtain ⟨cs1, l'2, rfl, h'2⟩ := un_li_some.1 h'1
  obtain ⟨states, l'3, rfl, h'3⟩ := un_li_some.1 h'2
  obtain ⟨b, l'4, rfl, h'4⟩ := un_s_some.1 h'3
  obtain ⟨rfl, h'Z⟩ := un_nil_some.1 h'4
  obtain ⟨l', a', b'⟩ := out_some.1 h'Z
  exact ⟨l', (VecAll_Se cs0 cs1 states b).trans a', b'⟩
theorem VecAll_c : FnC Go.Proofs.Tryz.prog 3 false 3 2 VecAll_in VecAll_out VecAll_S := by
  refine fn_ok (Λ := VecAll_Λ) mixed tab_ok g28 Go.Proofs.Tryz.func3 (by kernel_rfl) (body := fb Go.Proofs.Tryz.f3) rfl (ts := Go.Proofs.Tryz.f3.results.toList) rfl (cuts := []) (by kernel_rfl) (Nat.le_of_ble_eq_true (by kernel_rfl)) (by kernel_rfl) (rt := .w (.at (.bool))) rfl ?_ ?_
  · intro ls' r' h'
    unfold VecAll_S at h'
    obtain ⟨cs0, l'1, rfl, h'1⟩ := un_li_some.1 h'
    obtain ⟨cs1, l'2, rfl, h'2⟩ := un_li_some.1 h'1
    obtain ⟨states, l'3, rfl, h'3⟩ := un_li_some.1 h'2
    obtain ⟨b, l'4, rfl, h'4⟩ := un_s_some.1 h'3
    obtain ⟨rfl, h'Z⟩ := un_nil_some.1 h'4
    exact (VecAll_e cs0 cs1 states b).symm.trans h'Z
  · intro E w0 ws ρ0 hk b hb
    rw [show loopsOf (fb Go.Proofs.Tryz.f3) = [(bodyAt (fb Go.Proofs.Tryz.f3) 0), (bodyAt (fb Go.Proofs.Tryz.f3) 1)] by kernel_rfl] at hb
    simp only [List.mem_cons, List.mem_nil_iff, or_false] at hb
    rcases hb with rfl | rfl
    · exact VecAll_11_lok E w0 ws ρ0 hk
    · exact VecAll_24_lok E w0 ws ρ0 hk
noncomputable def G29 : Env := G28.addE 3 3 VecAll_in VecAll_out VecAll_SC
theorem g29 : EnvOk Go.Proofs.Tryz.prog G29 := EnvOk.addE g28 VecAll_c VecAll_says
end Go.Sx.T

