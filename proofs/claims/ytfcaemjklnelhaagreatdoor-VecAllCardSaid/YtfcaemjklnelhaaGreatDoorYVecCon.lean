import Derived.Test.YtfcaemjklnelhaaGreatDoorYVecSpec
import Derived.Test.YtfcaemjklnelhaaGreatDoorYBeg2
set_option linter.all false
namespace Go.Sx.T
open Go Go.Sx Go.Proofs
set_option maxRecDepth 100000
noncomputable def G7 : Env := G6.addE 54 2 drop_in drop_out drop_SC
theorem g7 : EnvOk Go.Proofs.Tryz.prog G7 := EnvOk.addE g6 got_drop_c drop_says
noncomputable def G8 : Env := G7.addK 5 (.at (.raw (.bool true)))
theorem g8 : EnvOk Go.Proofs.Tryz.prog G8 := EnvOk.addK g7 begun_fn rfl begun_gives
noncomputable def G9 : Env := G8.addEqS 38 [.int .i64, .int .i64]
theorem g9 : EnvOk Go.Proofs.Tryz.prog G9 := EnvOk.addEqS g8 tab_ok (by kernel_rfl) (by kernel_rfl) (by kernel_rfl) (by kernel_rfl)
noncomputable def G10 : Env := G9.addEqS 130 [.int .u8, .int .u8, .int .u8]
theorem g10 : EnvOk Go.Proofs.Tryz.prog G10 := EnvOk.addEqS g9 tab_ok (by kernel_rfl) (by kernel_rfl) (by kernel_rfl) (by kernel_rfl)

-- ### bits_Mul64: function 78
def bits_Mul64_in : Tm := ⟨[], [(0, .w (.at (.int .u64))), (1, .w (.at (.int .u64)))]⟩
def bits_Mul64_out : Tm := ⟨[], [(0, .tup [.at (.int .u64), .at (.int .u64)])]⟩

def bits_Mul64_Λd : Loops := Loops.none
def bits_Mul64_Λ : Loops := bits_Mul64_Λd 

theorem bits_Mul64_e (x : Int) (y : Int) : bits_Mul64 x y = den G10 bits_Mul64_Λ true tab Go.Proofs.Tryz.f78.ntmps (fun fr H => finish tab 0 Go.Proofs.Tryz.f78.results.toList bits_Mul64_out [] fr H some) (fun _ _ _ => none) (fun fr H => finish tab 0 Go.Proofs.Tryz.f78.results.toList bits_Mul64_out [] fr H some) 10000 [.code (fb Go.Proofs.Tryz.f78)] (instFr bits_Mul64_in [.i x, .i y]) (instH bits_Mul64_in [.i x, .i y]) := by kernel_rfl
def bits_Mul64_S : List Leaf → Option (List Leaf) := fun ls => un_i ls fun x rr => un_i rr fun y rr => un_nil rr (bits_Mul64 x y)
def bits_Mul64_SC : Tld := fun ls k' => un_i ls fun x rr => un_i rr fun y rr => un_nil rr (out (bits_Mul64 x y) k')
theorem bits_Mul64_Se (x : Int) (y : Int) : bits_Mul64_S [.i x, .i y] = bits_Mul64 x y := by
  unfold bits_Mul64_S
  simp only [un_i_ev, un_b_ev, un_s_ev, un_li_ev, un_lb_ev, un_ls_ev, un_nil_ev]
theorem bits_Mul64_says : Says bits_Mul64_SC bits_Mul64_S := by
  intro β ls' k' r' h'
  unfold bits_Mul64_SC at h'
  obtain ⟨x, l'1, rfl, h'1⟩ := un_i_some.1 h'
  obtain ⟨y, l'2, rfl, h'2⟩ := un_i_some.1 h'1
  obtain ⟨rfl, h'Z⟩ := un_nil_some.1 h'2
  obtain ⟨l', a', b'⟩ := out_some.1 h'Z
  exact ⟨l', (bits_Mul64_Se x y).trans a', b'⟩
theorem bits_Mul64_c : FnC Go.Proofs.Tryz.prog 78 true 2 0 bits_Mul64_in bits_Mul64_out bits_Mul64_S := by
  refine fn_ok (Λ := bits_Mul64_Λ) mixed tab_ok g10 Go.Proofs.Tryz.func78 (by kernel_rfl) (body := fb Go.Proofs.Tryz.f78) rfl (ts := Go.Proofs.Tryz.f78.results.toList) rfl (cuts := []) (by kernel_rfl) (Nat.le_of_ble_eq_true (by kernel_rfl)) (by kernel_rfl) (rt := .tup [.at (.int .u64), .at (.int .u64)]) rfl ?_ ?_
  · intro ls' r' h'
    unfold bits_Mul64_S at h'
    obtain ⟨x, l'1, rfl, h'1⟩ := un_i_some.1 h'
    obtain ⟨y, l'2, rfl, h'2⟩ := un_i_some.1 h'1
    obtain ⟨rfl, h'Z⟩ := un_nil_some.1 h'2
    exact (bits_Mul64_e x y).symm.trans h'Z
  · intro E w0 ws ρ0 hk b hb
    rw [show loopsOf (fb Go.Proofs.Tryz.f78) = [] by kernel_rfl] at hb
    cases hb
noncomputable def G11 : Env := G10.addP 78 2 bits_Mul64_in bits_Mul64_out bits_Mul64_SC
theorem g11 : EnvOk Go.Proofs.Tryz.prog G11 := EnvOk.addP g10 bits_Mul64_c bits_Mul64_says

-- ### bits_Mul: function 74
def bits_Mul_in : Tm := ⟨[], [(0, .w (.at (.int .u64))), (1, .w (.at (.int .u64)))]⟩
def bits_Mul_out : Tm := ⟨[], [(0, .tup [.at (.int .u64), .at (.int .u64)])]⟩

def bits_Mul_Λd : Loops := Loops.none
def bits_Mul_Λ : Loops := bits_Mul_Λd 

theorem bits_Mul_e (x : Int) (y : Int) : bits_Mul x y = den G11 bits_Mul_Λ true tab Go.Proofs.Tryz.f74.ntmps (fun fr H => finish tab 0 Go.Proofs.Tryz.f74.results.toList bits_Mul_out [] fr H some) (fun _ _ _ => none) (fun fr H => finish tab 0 Go.Proofs.Tryz.f74.results.toList bits_Mul_out [] fr H some) 10000 [.code (fb Go.Proofs.Tryz.f74)] (instFr bits_Mul_in [.i x, .i y]) (instH bits_Mul_in [.i x, .i y]) := by kernel_rfl
def bits_Mul_S : List Leaf → Option (List Leaf) := fun ls => un_i ls fun x rr => un_i rr fun y rr => un_nil rr (bits_Mul x y)
def bits_Mul_SC : Tld := fun ls k' => un_i ls fun x rr => un_i rr fun y rr => un_nil rr (out (bits_Mul x y) k')
theorem bits_Mul_Se (x : Int) (y : Int) : bits_Mul_S [.i x, .i y] = bits_Mul x y := by
  unfold bits_Mul_S
  simp only [un_i_ev, un_b_ev, un_s_ev, un_li_ev, un_lb_ev, un_ls_ev, un_nil_ev]
theorem bits_Mul_says : Says bits_Mul_SC bits_Mul_S := by
  intro β ls' k' r' h'
  unfold bits_Mul_SC at h'
  obtain ⟨x, l'1, rfl, h'1⟩ := un_i_some.1 h'
  obtain ⟨y, l'2, rfl, h'2⟩ := un_i_some.1 h'1
  obtain ⟨rfl, h'Z⟩ := un_nil_some.1 h'2
  obtain ⟨l', a', b'⟩ := out_some.1 h'Z
  exact ⟨l', (bits_Mul_Se x y).trans a', b'⟩
theorem bits_Mul_c : FnC Go.Proofs.Tryz.prog 74 true 2 0 bits_Mul_in bits_Mul_out bits_Mul_S := by
  refine fn_ok (Λ := bits_Mul_Λ) mixed tab_ok g11 Go.Proofs.Tryz.func74 (by kernel_rfl) (body := fb Go.Proofs.Tryz.f74) rfl (ts := Go.Proofs.Tryz.f74.results.toList) rfl (cuts := []) (by kernel_rfl) (Nat.le_of_ble_eq_true (by kernel_rfl)) (by kernel_rfl) (rt := .tup [.at (.int .u64), .at (.int .u64)]) rfl ?_ ?_
  · intro ls' r' h'
    unfold bits_Mul_S at h'
    obtain ⟨x, l'1, rfl, h'1⟩ := un_i_some.1 h'
    obtain ⟨y, l'2, rfl, h'2⟩ := un_i_some.1 h'1
    obtain ⟨rfl, h'Z⟩ := un_nil_some.1 h'2
    exact (bits_Mul_e x y).symm.trans h'Z
  · intro E w0 ws ρ0 hk b hb
    rw [show loopsOf (fb Go.Proofs.Tryz.f74) = [] by kernel_rfl] at hb
    cases hb
noncomputable def G12 : Env := G11.addP 74 2 bits_Mul_in bits_Mul_out bits_Mul_SC
theorem g12 : EnvOk Go.Proofs.Tryz.prog G12 := EnvOk.addP g11 bits_Mul_c bits_Mul_says

-- ### vec_state: function 48
def vec_state_in : Tm := ⟨[], [(0, .w (.at (.int .i64)))]⟩
def vec_state_out : Tm := ⟨[], [(0, .w (.at (.bool)))]⟩

def vec_state_Λd : Loops := Loops.none
def vec_state_Λ : Loops := vec_state_Λd 

theorem vec_state_e (s : Int) : vec_state s = den G12 vec_state_Λ true tab Go.Proofs.Tryz.f48.ntmps (fun fr H => finish tab 0 Go.Proofs.Tryz.f48.results.toList vec_state_out [] fr H some) (fun _ _ _ => none) (fun fr H => finish tab 0 Go.Proofs.Tryz.f48.results.toList vec_state_out [] fr H some) 10000 [.code (fb Go.Proofs.Tryz.f48)] (instFr vec_state_in [.i s]) (instH vec_state_in [.i s]) := by kernel_rfl
def vec_state_S : List Leaf → Option (List Leaf) := fun ls => un_i ls fun s rr => un_nil rr (vec_state s)
def vec_state_SC : Tld := fun ls k' => un_i ls fun s rr => un_nil rr (out (vec_state s) k')
theorem vec_state_Se (s : Int) : vec_state_S [.i s] = vec_state s := by
  unfold vec_state_S
  simp only [un_i_ev, un_b_ev, un_s_ev, un_li_ev, un_lb_ev, un_ls_ev, un_nil_ev]
theorem vec_state_says : Says vec_state_SC vec_state_S := by
  intro β ls' k' r' h'
  unfold vec_state_SC at h'
  obtain ⟨s, l'1, rfl, h'1⟩ := un_i_some.1 h'
  obtain ⟨rfl, h'Z⟩ := un_nil_some.1 h'1
  obtain ⟨l', a', b'⟩ := out_some.1 h'Z
  exact ⟨l', (vec_state_Se s).trans a', b'⟩
theorem vec_state_c : FnC Go.Proofs.Tryz.prog 48 true 1 0 vec_state_in vec_state_out vec_state_S := by
  refine fn_ok (Λ := vec_state_Λ) mixed tab_ok g12 Go.Proofs.Tryz.func48 (by kernel_rfl) (body := fb Go.Proofs.Tryz.f48) rfl (ts := Go.Proofs.Tryz.f48.results.toList) rfl (cuts := []) (by kernel_rfl) (Nat.le_of_ble_eq_true (by kernel_rfl)) (by kernel_rfl) (rt := .w (.at (.bool))) rfl ?_ ?_
  · intro ls' r' h'
    unfold vec_state_S at h'
    obtain ⟨s, l'1, rfl, h'1⟩ := un_i_some.1 h'
    obtain ⟨rfl, h'Z⟩ := un_nil_some.1 h'1
    exact (vec_state_e s).symm.trans h'Z
  · intro E w0 ws ρ0 hk b hb
    rw [show loopsOf (fb Go.Proofs.Tryz.f48) = [] by kernel_rfl] at hb
    cases hb
noncomputable def G13 : Env := G12.addP 48 1 vec_state_in vec_state_out vec_state_SC
theorem g13 : EnvOk Go.Proofs.Tryz.prog G13 := EnvOk.addP g12 vec_state_c vec_state_says

-- ### vec_May: function 10
def vec_May_in : Tm := ⟨[.ro 38 2 [.int .i64, .int .i64]], [(0, .w (.at (.all 0 2)))]⟩
def vec_May_out : Tm := ⟨[.dead], [(0, .w (.at (.bool)))]⟩
def vec_May_3_T : Tm := ⟨[.ro 38 2 [.int .i64, .int .i64]], [(8, .w (.at (.int .i64))), (3, .w (.at (.int .i64))), (6, .w (.at (.all 0 2))), (7, .w (.at (.int .i64)))]⟩
def vec_May_3_X0 : Tm := ⟨[.ro 38 2 [.int .i64, .int .i64]], []⟩
def vec_May_3_X : Exits := [(0, (vec_May_3_X0, []))]
def vec_May_3_R : Tm := ⟨[.ro 38 2 [.int .i64, .int .i64]], [(2, .w (.at (.bool)))]⟩

def vec_May_Λd (L3 : ({β : Type} → (Nat → List Leaf → Option β) → (List Leaf → Option β) → Nat → List Int → List Int → Int → Int → Int → Option β)) : Loops := ⟨fun b fr H kx kr => bif Nat.beq (rid b) 3 then loopE 1 vec_May_3_T [] vec_May_3_X vec_May_3_R (vec_May_3_F @L3 top) fr H kx kr else none⟩
def vec_May_Λ : Loops := vec_May_Λd @vec_May_3_L
theorem vec_May_3_e (L3 : ({β : Type} → (Nat → List Leaf → Option β) → (List Leaf → Option β) → Nat → List Int → List Int → Int → Int → Int → Option β)) {α : Type} (kx : Nat → List Leaf → Option α) (kr : List Leaf → Option α) (again : List Int → List Int → Int → Int → Int → Option α) (cs0 : List Int) (cs1 : List Int) (t8 : Int) (n2 : Int) (t7 : Int) : vec_May_3_B  kx kr again cs0 cs1 t8 n2 t7 = loopB G13 (vec_May_Λd @L3) false tab Go.Proofs.Tryz.f10.ntmps 1 vec_May_3_T [] vec_May_3_X vec_May_3_R (bodyAt (fb Go.Proofs.Tryz.f10) 0) (fun ls => un_li ls fun cs0 rr => un_li rr fun cs1 rr => un_i rr fun t8 rr => un_i rr fun n2 rr => un_i rr fun t7 rr => un_nil rr (again cs0 cs1 t8 n2 t7)) kx kr (instFr vec_May_3_T [.li cs0, .li cs1, .i t8, .i n2, .i t7]) (instH vec_May_3_T [.li cs0, .li cs1, .i t8, .i n2, .i t7]) := by kernel_rfl
theorem vec_May_3_lok (E : Nat → Prop) (w0 ws : World) (ρ0 : List Pl) (hk : ρ0.length = 1) : LOk Go.Proofs.Tryz.prog 10 Go.Proofs.Tryz.f10 false E w0 ws Go.Proofs.Tryz.f10.ntmps ρ0 vec_May_Λ (bodyAt (fb Go.Proofs.Tryz.f10) 0) := by
  refine lok mixed tab_ok g13 Go.Proofs.Tryz.func10 hk (T := vec_May_3_T) (rt := vec_May_3_R) (cuts := []) (ex := vec_May_3_X) (top := top) (F := vec_May_3_F @vec_May_3_L) (fun fr H kx kr => by kernel_rfl) ?_ ?_ ?_
  · intro α ls' kx' kr' r' h'
    unfold vec_May_3_F at h'
    obtain ⟨cs0, l'1, rfl, h'1⟩ := un_li_some.1 h'
    obtain ⟨cs1, l'2, rfl, h'2⟩ := un_li_some.1 h'1
    obtain ⟨t8, l'3, rfl, h'3⟩ := un_i_some.1 h'2
    obtain ⟨n2, l'4, rfl, h'4⟩ := un_i_some.1 h'3
    obtain ⟨t7, l'5, rfl, h'5⟩ := un_i_some.1 h'4
    obtain ⟨rfl, h'Z⟩ := un_nil_some.1 h'5
    cases h'Z
  · intro α n' ls' kx' kr' r' h'
    unfold vec_May_3_F at h'
    obtain ⟨cs0, l'1, rfl, h'1⟩ := un_li_some.1 h'
    obtain ⟨cs1, l'2, rfl, h'2⟩ := un_li_some.1 h'1
    obtain ⟨t8, l'3, rfl, h'3⟩ := un_i_some.1 h'2
    obtain ⟨n2, l'4, rfl, h'4⟩ := un_i_some.1 h'3
    obtain ⟨t7, l'5, rfl, h'5⟩ := un_i_some.1 h'4
    obtain ⟨rfl, h'Z⟩ := un_nil_some.1 h'5
    exact (vec_May_3_e @vec_May_3_L kx' kr' (vec_May_3_L kx' kr' n') cs0 cs1 t8 n2 t7).symm.trans h'Z
  · intro b' hb
    rw [show loopsOf (bodyAt (fb Go.Proofs.Tryz.f10) 0) = [] by kernel_rfl] at hb
    cases hb
theorem vec_May_ed (L3 : ({β : Type} → (Nat → List Leaf → Option β) → (List Leaf → Option β) → Nat → List Int → List Int → Int → Int → Int → Option β)) (cs0 : List Int) (cs1 : List Int) : vec_May_d @L3 cs0 cs1 = den G13 (vec_May_Λd @L3) false tab Go.Proofs.Tryz.f10.ntmps (fun fr H => finish tab 1 Go.Proofs.Tryz.f10.results.toList vec_May_out [] fr H some) (fun _ _ _ => none) (fun fr H => finish tab 1 Go.Proofs.Tryz.f10.results.toList vec_May_out [] fr H some) 10000 [.code (fb Go.Proofs.Tryz.f10)] (instFr vec_May_in [.li cs0, .li cs1]) (instH vec_May_in [.li cs0, .li cs1]) := by kernel_rfl
theorem vec_May_e (cs0 : List Int) (cs1 : List Int) : vec_May cs0 cs1 = den G13 vec_May_Λ false tab Go.Proofs.Tryz.f10.ntmps (fun fr H => finish tab 1 Go.Proofs.Tryz.f10.results.toList vec_May_out [] fr H some) (fun _ _ _ => none) (fun fr H => finish tab 1 Go.Proofs.Tryz.f10.results.toList vec_May_out [] fr H some) 10000 [.code (fb Go.Proofs.Tryz.f10)] (instFr vec_May_in [.li cs0, .li cs1]) (instH vec_May_in [.li cs0, .li cs1]) := vec_May_ed @vec_May_3_L cs0 cs1
def vec_May_S : List Leaf → Option (List Leaf) := fun ls => un_li ls fun cs0 rr => un_li rr fun cs1 rr => un_nil rr (vec_May cs0 cs1)
def vec_May_SC : Tld := fun ls k' => un_li ls fun cs0 rr => un_li rr fun cs1 rr => un_nil rr (out (vec_May cs0 cs1) k')
theorem vec_May_Se (cs0 : List Int) (cs1 : List Int) : vec_May_S [.li cs0, .li cs1] = vec_May cs0 cs1 := by
  unfold vec_May_S
  simp only [un_i_ev, un_b_ev, un_s_ev, un_li_ev, un_lb_ev, un_ls_ev, un_nil_ev]
theorem vec_May_says : Says vec_May_SC vec_May_S := by
  intro β ls' k' r' h'
  unfold vec_May_SC at h'
  obtain ⟨cs0, l'1, rfl, h'1⟩ := un_li_some.1 h'
  obtain ⟨cs1, l'2, rfl, h'2⟩ := un_li_some.1 h'1
  obtain ⟨rfl, h'Z⟩ := un_nil_some.1 h'2
  obtain ⟨l', a', b'⟩ := out_some.1 h'Z
  exact ⟨l', (vec_May_Se cs0 cs1).trans a', b'⟩
theorem vec_May_c : FnC Go.Proofs.Tryz.prog 10 false 1 1 vec_May_in vec_May_out vec_May_S := by
  refine fn_ok (Λ := vec_May_Λ) mixed tab_ok g13 Go.Proofs.Tryz.func10 (by kernel_rfl) (body := fb Go.Proofs.Tryz.f10) rfl (ts := Go.Proofs.Tryz.f10.results.toList) rfl (cuts := []) (by kernel_rfl) (Nat.le_of_ble_eq_true (by kernel_rfl)) (by kernel_rfl) (rt := .w (.at (.bool))) rfl ?_ ?_
  · intro ls' r' h'
    unfold vec_May_S at h'
    obtain ⟨cs0, l'1, rfl, h'1⟩ := un_li_some.1 h'
    obtain ⟨cs1, l'2, rfl, h'2⟩ := un_li_some.1 h'1
    obtain ⟨rfl, h'Z⟩ := un_nil_some.1 h'2
    exact (vec_May_e cs0 cs1).symm.trans h'Z
  · intro E w0 ws ρ0 hk b hb
    rw [show loopsOf (fb Go.Proofs.Tryz.f10) = [(bodyAt (fb Go.Proofs.Tryz.f10) 0)] by kernel_rfl] at hb
    simp only [List.mem_cons, List.mem_nil_iff, or_false] at hb
    rcases hb with rfl
    · exact vec_May_3_lok E w0 ws ρ0 hk
noncomputable def G14 : Env := G13.addE 10 1 vec_May_in vec_May_out vec_May_SC
theorem g14 : EnvOk Go.Proofs.Tryz.prog G14 := EnvOk.addE g13 vec_May_c vec_May_says

-- ### vec_Repeat: function 49
def vec_Repeat_in : Tm := ⟨[.ro 3 1 [.int .i64]], [(0, .w (.at (.all 0 1))), (1, .w (.at (.int .i64)))]⟩
def vec_Repeat_out : Tm := ⟨[.dead, .row 3 1 [.int .i64]], [(0, .w (.at (.all 1 1)))]⟩
def vec_Repeat_8_T : Tm := ⟨[.ro 3 1 [.int .i64], .row 3 1 [.int .i64]], [(8, .w (.at (.int .i64))), (7, .w (.at (.all 1 1)))]⟩
def vec_Repeat_8_X0 : Tm := ⟨[.ro 3 1 [.int .i64], .row 3 1 [.int .i64]], [(7, .w (.at (.all 1 1)))]⟩
def vec_Repeat_8_X : Exits := [(0, (vec_Repeat_8_X0, []))]
def vec_Repeat_8_R : Tm := ⟨[], []⟩

def vec_Repeat_Λd (L8 : ({β : Type} → (Nat → List Leaf → Option β) → (List Leaf → Option β) → Nat → List Int → List Int → Int → Option β)) : Loops := ⟨fun b fr H kx kr => bif Nat.beq (rid b) 8 then loopE 1 vec_Repeat_8_T [] vec_Repeat_8_X vec_Repeat_8_R (vec_Repeat_8_F @L8 top) fr H kx kr else none⟩
def vec_Repeat_Λ : Loops := vec_Repeat_Λd @vec_Repeat_8_L
theorem vec_Repeat_8_e (L8 : ({β : Type} → (Nat → List Leaf → Option β) → (List Leaf → Option β) → Nat → List Int → List Int → Int → Option β)) {α : Type} (kx : Nat → List Leaf → Option α) (kr : List Leaf → Option α) (again : List Int → List Int → Int → Option α) (x : List Int) (newslice : List Int) (n2 : Int) : vec_Repeat_8_B  kx kr again x newslice n2 = loopB G14 (vec_Repeat_Λd @L8) false tab Go.Proofs.Tryz.f49.ntmps 1 vec_Repeat_8_T [] vec_Repeat_8_X vec_Repeat_8_R (bodyAt (fb Go.Proofs.Tryz.f49) 0) (fun ls => un_li ls fun x rr => un_li rr fun newslice rr => un_i rr fun n2 rr => un_nil rr (again x newslice n2)) kx kr (instFr vec_Repeat_8_T [.li x, .li newslice, .i n2]) (instH vec_Repeat_8_T [.li x, .li newslice, .i n2]) := by kernel_rfl
theorem vec_Repeat_8_lok (E : Nat → Prop) (w0 ws : World) (ρ0 : List Pl) (hk : ρ0.length = 1) : LOk Go.Proofs.Tryz.prog 49 Go.Proofs.Tryz.f49 false E w0 ws Go.Proofs.Tryz.f49.ntmps ρ0 vec_Repeat_Λ (bodyAt (fb Go.Proofs.Tryz.f49) 0) := by
  refine lok mixed tab_ok g14 Go.Proofs.Tryz.func49 hk (T := vec_Repeat_8_T) (rt := vec_Repeat_8_R) (cuts := []) (ex := vec_Repeat_8_X) (top := top) (F := vec_Repeat_8_F @vec_Repeat_8_L) (fun fr H kx kr => by kernel_rfl) ?_ ?_ ?_
  · intro α ls' kx' kr' r' h'
    unfold vec_Repeat_8_F at h'
    obtain ⟨x, l'1, rfl, h'1⟩ := un_li_some.1 h'
    obtain ⟨newslice, l'2, rfl, h'2⟩ := un_li_some.1 h'1
    obtain ⟨n2, l'3, rfl, h'3⟩ := un_i_some.1 h'2
    obtain ⟨rfl, h'Z⟩ := un_nil_some.1 h'3
    cases h'Z
  · intro α n' ls' kx' kr' r' h'
    unfold vec_Repeat_8_F at h'
    obtain ⟨x, l'1, rfl, h'1⟩ := un_li_some.1 h'
    obtain ⟨newslice, l'2, rfl, h'2⟩ := un_li_some.1 h'1
    obtain ⟨n2, l'3, rfl, h'3⟩ := un_i_some.1 h'2
    obtain ⟨rfl, h'Z⟩ := un_nil_some.1 h'3
    exact (vec_Repeat_8_e @vec_Repeat_8_L kx' kr' (vec_Repeat_8_L kx' kr' n') x newslice n2).symm.trans h'Z
  · intro b' hb
    rw [show loopsOf (bodyAt (fb Go.Proofs.Tryz.f49) 0) = [] by kernel_rfl] at hb
    cases hb
theorem vec_Repeat_ed (L8 : ({β : Type} → (Nat → List Leaf → Option β) → (List Leaf → Option β) → Nat → List Int → List Int → Int → Option β)) (x : List Int) (count : Int) : vec_Repeat_d @L8 x count = den G14 (vec_Repeat_Λd @L8) false tab Go.Proofs.Tryz.f49.ntmps (fun fr H => finish tab 1 Go.Proofs.Tryz.f49.results.toList vec_Repeat_out [] fr H some) (fun _ _ _ => none) (fun fr H => finish tab 1 Go.Proofs.Tryz.f49.results.toList vec_Repeat_out [] fr H some) 10000 [.code (fb Go.Proofs.Tryz.f49)] (instFr vec_Repeat_in [.li x, .i count]) (instH vec_Repeat_in [.li x, .i count]) := by kernel_rfl
theorem vec_Repeat_e (x : List Int) (count : Int) : vec_Repeat x count = den G14 vec_Repeat_Λ false tab Go.Proofs.Tryz.f49.ntmps (fun fr H => finish tab 1 Go.Proofs.Tryz.f49.results.toList vec_Repeat_out [] fr H some) (fun _ _ _ => none) (fun fr H => finish tab 1 Go.Proofs.Tryz.f49.results.toList vec_Repeat_out [] fr H some) 10000 [.code (fb Go.Proofs.Tryz.f49)] (instFr vec_Repeat_in [.li x, .i count]) (instH vec_Repeat_in [.li x, .i count]) := vec_Repeat_ed @vec_Repeat_8_L x count
def vec_Repeat_S : List Leaf → Option (List Leaf) := fun ls => un_li ls fun x rr => un_i rr fun count rr => un_nil rr (vec_Repeat x count)
def vec_Repeat_SC : Tld := fun ls k' => un_li ls fun x rr => un_i rr fun count rr => un_nil rr (out (vec_Repeat x count) k')
theorem vec_Repeat_Se (x : List Int) (count : Int) : vec_Repeat_S [.li x, .i count] = vec_Repeat x count := by
  unfold vec_Repeat_S
  simp only [un_i_ev, un_b_ev, un_s_ev, un_li_ev, un_lb_ev, un_ls_ev, un_nil_ev]
theorem vec_Repeat_says : Says vec_Repeat_SC vec_Repeat_S := by
  intro β ls' k' r' h'
  unfold vec_Repeat_SC at h'
  obtain ⟨x, l'1, rfl, h'1⟩ := un_li_some.1 h'
  obtain ⟨count, l'2, rfl, h'2⟩ := un_i_some.1 h'1
  obtain ⟨rfl, h'Z⟩ := un_nil_some.1 h'2
  obtain ⟨l', a', b'⟩ := out_some.1 h'Z
  exact ⟨l', (vec_Repeat_Se x count).trans a', b'⟩
theorem vec_Repeat_c : FnC Go.Proofs.Tryz.prog 49 false 2 1 vec_Repeat_in vec_Repeat_out vec_Repeat_S := by
  refine fn_ok (Λ := vec_Repeat_Λ) mixed tab_ok g14 Go.Proofs.Tryz.func49 (by kernel_rfl) (body := fb Go.Proofs.Tryz.f49) rfl (ts := Go.Proofs.Tryz.f49.results.toList) rfl (cuts := []) (by kernel_rfl) (Nat.le_of_ble_eq_true (by kernel_rfl)) (by kernel_rfl) (rt := .w (.at (.all 1 1))) rfl ?_ ?_
  · intro ls' r' h'
    unfold vec_Repeat_S at h'
    obtain ⟨x, l'1, rfl, h'1⟩ := un_li_some.1 h'
    obtain ⟨count, l'2, rfl, h'2⟩ := un_i_some.1 h'1
    obtain ⟨rfl, h'Z⟩ := un_nil_some.1 h'2
    exact (vec_Repeat_e x count).symm.trans h'Z
  · intro E w0 ws ρ0 hk b hb
    rw [show loopsOf (fb Go.Proofs.Tryz.f49) = [(bodyAt (fb Go.Proofs.Tryz.f49) 0)] by kernel_rfl] at hb
    simp only [List.mem_cons, List.mem_nil_iff, or_false] at hb
    rcases hb with rfl
    · exact vec_Repeat_8_lok E w0 ws ρ0 hk
noncomputable def G15 : Env := G14.addE 49 2 vec_Repeat_in vec_Repeat_out vec_Repeat_SC
theorem g15 : EnvOk Go.Proofs.Tryz.prog G15 := EnvOk.addE g14 vec_Repeat_c vec_Repeat_says

-- ### vec_Spread: function 16
def vec_Spread_in : Tm := ⟨[.ro 38 2 [.int .i64, .int .i64]], [(0, .w (.at (.all 0 2)))]⟩
def vec_Spread_out : Tm := ⟨[.dead, .row 3 1 [.int .i64]], [(0, .w (.at (.all 1 1)))]⟩
def vec_Spread_5_T : Tm := ⟨[.ro 38 2 [.int .i64, .int .i64], .row 3 1 [.int .i64]], [(11, .w (.at (.int .i64))), (3, .w (.at (.all 1 1))), (9, .w (.at (.all 0 2))), (10, .w (.at (.int .i64)))]⟩
def vec_Spread_5_X0 : Tm := ⟨[.ro 38 2 [.int .i64, .int .i64], .row 3 1 [.int .i64]], [(3, .w (.at (.all 1 1)))]⟩
def vec_Spread_5_X : Exits := [(0, (vec_Spread_5_X0, []))]
def vec_Spread_5_R : Tm := ⟨[], []⟩

def vec_Spread_Λd (L5 : ({β : Type} → (Nat → List Leaf → Option β) → (List Leaf → Option β) → Nat → List Int → List Int → List Int → Int → Int → Option β)) : Loops := ⟨fun b fr H kx kr => bif Nat.beq (rid b) 5 then loopE 1 vec_Spread_5_T [] vec_Spread_5_X vec_Spread_5_R (vec_Spread_5_F @L5 top) fr H kx kr else none⟩
def vec_Spread_Λ : Loops := vec_Spread_Λd @vec_Spread_5_L
theorem vec_Spread_5_e (L5 : ({β : Type} → (Nat → List Leaf → Option β) → (List Leaf → Option β) → Nat → List Int → List Int → List Int → Int → Int → Option β)) {α : Type} (kx : Nat → List Leaf → Option α) (kr : List Leaf → Option α) (again : List Int → List Int → List Int → Int → Int → Option α) (cs0 : List Int) (cs1 : List Int) (out2 : List Int) (t11 : Int) (t10 : Int) : vec_Spread_5_B  kx kr again cs0 cs1 out2 t11 t10 = loopB G15 (vec_Spread_Λd @L5) false tab Go.Proofs.Tryz.f16.ntmps 1 vec_Spread_5_T [] vec_Spread_5_X vec_Spread_5_R (bodyAt (fb Go.Proofs.Tryz.f16) 0) (fun ls => un_li ls fun cs0 rr => un_li rr fun cs1 rr => un_li rr fun out2 rr => un_i rr fun t11 rr => un_i rr fun t10 rr => un_nil rr (again cs0 cs1 out2 t11 t10)) kx kr (instFr vec_Spread_5_T [.li cs0, .li cs1, .li out2, .i t11, .i t10]) (instH vec_Spread_5_T [.li cs0, .li cs1, .li out2, .i t11, .i t10]) := by kernel_rfl
theorem vec_Spread_5_lok (E : Nat → Prop) (w0 ws : World) (ρ0 : List Pl) (hk : ρ0.length = 1) : LOk Go.Proofs.Tryz.prog 16 Go.Proofs.Tryz.f16 false E w0 ws Go.Proofs.Tryz.f16.ntmps ρ0 vec_Spread_Λ (bodyAt (fb Go.Proofs.Tryz.f16) 0) := by
  refine lok mixed tab_ok g15 Go.Proofs.Tryz.func16 hk (T := vec_Spread_5_T) (rt := vec_Spread_5_R) (cuts := []) (ex := vec_Spread_5_X) (top := top) (F := vec_Spread_5_F @vec_Spread_5_L) (fun fr H kx kr => by kernel_rfl) ?_ ?_ ?_
  · intro α ls' kx' kr' r' h'
    unfold vec_Spread_5_F at h'
    obtain ⟨cs0, l'1, rfl, h'1⟩ := un_li_some.1 h'
    obtain ⟨cs1, l'2, rfl, h'2⟩ := un_li_some.1 h'1
    obtain ⟨out2, l'3, rfl, h'3⟩ := un_li_some.1 h'2
    obtain ⟨t11, l'4, rfl, h'4⟩ := un_i_some.1 h'3
    obtain ⟨t10, l'5, rfl, h'5⟩ := un_i_some.1 h'4
    obtain ⟨rfl, h'Z⟩ := un_nil_some.1 h'5
    cases h'Z
  · intro α n' ls' kx' kr' r' h'
    unfold vec_Spread_5_F at h'
    obtain ⟨cs0, l'1, rfl, h'1⟩ := un_li_some.1 h'
    obtain ⟨cs1, l'2, rfl, h'2⟩ := un_li_some.1 h'1
    obtain ⟨out2, l'3, rfl, h'3⟩ := un_li_some.1 h'2
    obtain ⟨t11, l'4, rfl, h'4⟩ := un_i_some.1 h'3
    obtain ⟨t10, l'5, rfl, h'5⟩ := un_i_some.1 h'4
    obtain ⟨rfl, h'Z⟩ := un_nil_some.1 h'5
    exact (vec_Spread_5_e @vec_Spread_5_L kx' kr' (vec_Spread_5_L kx' kr' n') cs0 cs1 out2 t11 t10).symm.trans h'Z
  · intro b' hb
    rw [show loopsOf (bodyAt (fb Go.Proofs.Tryz.f16) 0) = [] by kernel_rfl] at hb
    cases hb
theorem vec_Spread_ed (L5 : ({β : Type} → (Nat → List Leaf → Option β) → (List Leaf → Option β) → Nat → List Int → List Int → List Int → Int → Int → Option β)) (cs0 : List Int) (cs1 : List Int) : vec_Spread_d @L5 cs0 cs1 = den G15 (vec_Spread_Λd @L5) false tab Go.Proofs.Tryz.f16.ntmps (fun fr H => finish tab 1 Go.Proofs.Tryz.f16.results.toList vec_Spread_out [] fr H some) (fun _ _ _ => none) (fun fr H => finish tab 1 Go.Proofs.Tryz.f16.results.toList vec_Spread_out [] fr H some) 10000 [.code (fb Go.Proofs.Tryz.f16)] (instFr vec_Spread_in [.li cs0, .li cs1]) (instH vec_Spread_in [.li cs0, .li cs1]) := by kernel_rfl
theorem vec_Spread_e (cs0 : List Int) (cs1 : List Int) : vec_Spread cs0 cs1 = den G15 vec_Spread_Λ false tab Go.Proofs.Tryz.f16.ntmps (fun fr H => finish tab 1 Go.Proofs.Tryz.f16.results.toList vec_Spread_out [] fr H some) (fun _ _ _ => none) (fun fr H => finish tab 1 Go.Proofs.Tryz.f16.results.toList vec_Spread_out [] fr H some) 10000 [.code (fb Go.Proofs.Tryz.f16)] (instFr vec_Spread_in [.li cs0, .li cs1]) (instH vec_Spread_in [.li cs0, .li cs1]) := vec_Spread_ed @vec_Spread_5_L cs0 cs1
def vec_Spread_S : List Leaf → Option (List Leaf) := fun ls => un_li ls fun cs0 rr => un_li rr fun cs1 rr => un_nil rr (vec_Spread cs0 cs1)
def vec_Spread_SC : Tld := fun ls k' => un_li ls fun cs0 rr => un_li rr fun cs1 rr => un_nil rr (out (vec_Spread cs0 cs1) k')
theorem vec_Spread_Se (cs0 : List Int) (cs1 : List Int) : vec_Spread_S [.li cs0, .li cs1] = vec_Spread cs0 cs1 := by
  unfold vec_Spread_S
  simp only [un_i_ev, un_b_ev, un_s_ev, un_li_ev, un_lb_ev, un_ls_ev, un_nil_ev]
theorem vec_Spread_says : Says vec_Spread_SC vec_Spread_S := by
  intro β ls' k' r' h'
  unfold vec_Spread_SC at h'
  obtain ⟨cs0, l'1, rfl, h'1⟩ := un_li_some.1 h'
  obtain ⟨cs1, l'2, rfl, h'2⟩ := un_li_some.1 h'1
  obtain ⟨rfl, h'Z⟩ := un_nil_some.1 h'2
  obtain ⟨l', a', b'⟩ := out_some.1 h'Z
  exact ⟨l', (vec_Spread_Se cs0 cs1).trans a', b'⟩
theorem vec_Spread_c : FnC Go.Proofs.Tryz.prog 16 false 1 1 vec_Spread_in vec_Spread_out vec_Spread_S := by
  refine fn_ok (Λ := vec_Spread_Λ) mixed tab_ok g15 Go.Proofs.Tryz.func16 (by kernel_rfl) (body := fb Go.Proofs.Tryz.f16) rfl (ts := Go.Proofs.Tryz.f16.results.toList) rfl (cuts := []) (by kernel_rfl) (Nat.le_of_ble_eq_true (by kernel_rfl)) (by kernel_rfl) (rt := .w (.at (.all 1 1))) rfl ?_ ?_
  · intro ls' r' h'
    unfold vec_Spread_S at h'
    obtain ⟨cs0, l'1, rfl, h'1⟩ := un_li_some.1 h'
    obtain ⟨cs1, l'2, rfl, h'2⟩ := un_li_some.1 h'1
    obtain ⟨rfl, h'Z⟩ := un_nil_some.1 h'2
    exact (vec_Spread_e cs0 cs1).symm.trans h'Z
  · intro E w0 ws ρ0 hk b hb
    rw [show loopsOf (fb Go.Proofs.Tryz.f16) = [(bodyAt (fb Go.Proofs.Tryz.f16) 0)] by kernel_rfl] at hb
    simp only [List.mem_cons, List.mem_nil_iff, or_false] at hb
    rcases hb with rfl
    · exact vec_Spread_5_lok E w0 ws ρ0 hk
noncomputable def G16 : Env := G15.addE 16 1 vec_Spread_in vec_Spread_out vec_Spread_SC
theorem g16 : EnvOk Go.Proofs.Tryz.prog G16 := EnvOk.addE g15 vec_Spread_c vec_Spread_says

-- ### vec_Of: function 12
def vec_Of_in : Tm := ⟨[.ro 3 1 [.int .i64]], [(0, .w (.at (.all 0 1)))]⟩
def vec_Of_out : Tm := ⟨[.dead, .row 38 2 [.int .i64, .int .i64]], [(0, .w (.at (.all 1 2)))]⟩
def vec_Of_3_T : Tm := ⟨[.ro 3 1 [.int .i64], .row 38 2 [.int .i64, .int .i64]], [(9, .w (.at (.int .i64))), (3, .w (.at (.all 1 2))), (7, .w (.at (.all 0 1))), (8, .w (.at (.int .i64)))]⟩
def vec_Of_3_X0 : Tm := ⟨[.ro 3 1 [.int .i64], .row 38 2 [.int .i64, .int .i64]], [(3, .w (.at (.all 1 2)))]⟩
def vec_Of_3_X : Exits := [(0, (vec_Of_3_X0, []))]
def vec_Of_3_R : Tm := ⟨[.ro 3 1 [.int .i64], .row 38 2 [.int .i64, .int .i64]], [(2, .w (.at (.all 1 2)))]⟩

def vec_Of_Λd (L3 : ({β : Type} → (Nat → List Leaf → Option β) → (List Leaf → Option β) → Nat → List Int → List Int → List Int → Int → Int → Option β)) : Loops := ⟨fun b fr H kx kr => bif Nat.beq (rid b) 3 then loopE 1 vec_Of_3_T [] vec_Of_3_X vec_Of_3_R (vec_Of_3_F @L3 top) fr H kx kr else none⟩
def vec_Of_Λ : Loops := vec_Of_Λd @vec_Of_3_L
theorem vec_Of_3_e (L3 : ({β : Type} → (Nat → List Leaf → Option β) → (List Leaf → Option β) → Nat → List Int → List Int → List Int → Int → Int → Option β)) {α : Type} (kx : Nat → List Leaf → Option α) (kr : List Leaf → Option α) (again : List Int → List Int → List Int → Int → Int → Option α) (states : List Int) (out0 : List Int) (out1 : List Int) (t9 : Int) (t8 : Int) : vec_Of_3_B  kx kr again states out0 out1 t9 t8 = loopB G16 (vec_Of_Λd @L3) false tab Go.Proofs.Tryz.f12.ntmps 1 vec_Of_3_T [] vec_Of_3_X vec_Of_3_R (bodyAt (fb Go.Proofs.Tryz.f12) 0) (fun ls => un_li ls fun states rr => un_li rr fun out0 rr => un_li rr fun out1 rr => un_i rr fun t9 rr => un_i rr fun t8 rr => un_nil rr (again states out0 out1 t9 t8)) kx kr (instFr vec_Of_3_T [.li states, .li out0, .li out1, .i t9, .i t8]) (instH vec_Of_3_T [.li states, .li out0, .li out1, .i t9, .i t8]) := by kernel_rfl
theorem vec_Of_3_lok (E : Nat → Prop) (w0 ws : World) (ρ0 : List Pl) (hk : ρ0.length = 1) : LOk Go.Proofs.Tryz.prog 12 Go.Proofs.Tryz.f12 false E w0 ws Go.Proofs.Tryz.f12.ntmps ρ0 vec_Of_Λ (bodyAt (fb Go.Proofs.Tryz.f12) 0) := by
  refine lok mixed tab_ok g16 Go.Proofs.Tryz.func12 hk (T := vec_Of_3_T) (rt := vec_Of_3_R) (cuts := []) (ex := vec_Of_3_X) (top := top) (F := vec_Of_3_F @vec_Of_3_L) (fun fr H kx kr => by kernel_rfl) ?_ ?_ ?_
  · intro α ls' kx' kr' r' h'
    unfold vec_Of_3_F at h'
    obtain ⟨states, l'1, rfl, h'1⟩ := un_li_some.1 h'
    obtain ⟨out0, l'2, rfl, h'2⟩ := un_li_some.1 h'1
    obtain ⟨out1, l'3, rfl, h'3⟩ := un_li_some.1 h'2
    obtain ⟨t9, l'4, rfl, h'4⟩ := un_i_some.1 h'3
    obtain ⟨t8, l'5, rfl, h'5⟩ := un_i_some.1 h'4
    obtain ⟨rfl, h'Z⟩ := un_nil_some.1 h'5
    cases h'Z
  · intro α n' ls' kx' kr' r' h'
    unfold vec_Of_3_F at h'
    obtain ⟨states, l'1, rfl, h'1⟩ := un_li_some.1 h'
    obtain ⟨out0, l'2, rfl, h'2⟩ := un_li_some.1 h'1
    obtain ⟨out1, l'3, rfl, h'3⟩ := un_li_some.1 h'2
    obtain ⟨t9, l'4, rfl, h'4⟩ := un_i_some.1 h'3
    obtain ⟨t8, l'5, rfl, h'5⟩ := un_i_some.1 h'4
    obtain ⟨rfl, h'Z⟩ := un_nil_some.1 h'5
    exact (vec_Of_3_e @vec_Of_3_L kx' kr' (vec_Of_3_L kx' kr' n') states out0 out1 t9 t8).symm.trans h'Z
  · intro b' hb
    rw [show loopsOf (bodyAt (fb Go.Proofs.Tryz.f12) 0) = [] by kernel_rfl] at hb
    cases hb
theorem vec_Of_ed (L3 : ({β : Type} → (Nat → List Leaf → Option β) → (List Leaf → Option β) → Nat → List Int → List Int → List Int → Int → Int → Option β)) (states : List Int) : vec_Of_d @L3 states = den G16 (vec_Of_Λd @L3) false tab Go.Proofs.Tryz.f12.ntmps (fun fr H => finish tab 1 Go.Proofs.Tryz.f12.results.toList vec_Of_out [] fr H some) (fun _ _ _ => none) (fun fr H => finish tab 1 Go.Proofs.Tryz.f12.results.toList vec_Of_out [] fr H some) 10000 [.code (fb Go.Proofs.Tryz.f12)] (instFr vec_Of_in [.li states]) (instH vec_Of_in [.li states]) := by kernel_rfl
theorem vec_Of_e (states : List Int) : vec_Of states = den G16 vec_Of_Λ false tab Go.Proofs.Tryz.f12.ntmps (fun fr H => finish tab 1 Go.Proofs.Tryz.f12.results.toList vec_Of_out [] fr H some) (fun _ _ _ => none) (fun fr H => finish tab 1 Go.Proofs.Tryz.f12.results.toList vec_Of_out [] fr H some) 10000 [.code (fb Go.Proofs.Tryz.f12)] (instFr vec_Of_in [.li states]) (instH vec_Of_in [.li states]) := vec_Of_ed @vec_Of_3_L states
def vec_Of_S : List Leaf → Option (List Leaf) := fun ls => un_li ls fun states rr => un_nil rr (vec_Of states)
def vec_Of_SC : Tld := fun ls k' => un_li ls fun states rr => un_nil rr (out (vec_Of states) k')
theorem vec_Of_Se (states : List Int) : vec_Of_S [.li states] = vec_Of states := by
  unfold vec_Of_S
  simp only [un_i_ev, un_b_ev, un_s_ev, un_li_ev, un_lb_ev, un_ls_ev, un_nil_ev]
theorem vec_Of_says : Says vec_Of_SC vec_Of_S := by
  intro β ls' k' r' h'
  unfold vec_Of_SC at h'
  obtain ⟨states, l'1, rfl, h'1⟩ := un_li_some.1 h'
  obtain ⟨rfl, h'Z⟩ := un_nil_some.1 h'1
  obtain ⟨l', a', b'⟩ := out_some.1 h'Z
  exact ⟨l', (vec_Of_Se states).trans a', b'⟩
theorem vec_Of_c : FnC Go.Proofs.Tryz.prog 12 false 1 1 vec_Of_in vec_Of_out vec_Of_S := by
  refine fn_ok (Λ := vec_Of_Λ) mixed tab_ok g16 Go.Proofs.Tryz.func12 (by kernel_rfl) (body := fb Go.Proofs.Tryz.f12) rfl (ts := Go.Proofs.Tryz.f12.results.toList) rfl (cuts := []) (by kernel_rfl) (Nat.le_of_ble_eq_true (by kernel_rfl)) (by kernel_rfl) (rt := .w (.at (.all 1 2))) rfl ?_ ?_
  · intro ls' r' h'
    unfold vec_Of_S at h'
    obtain ⟨states, l'1, rfl, h'1⟩ := un_li_some.1 h'
    obtain ⟨rfl, h'Z⟩ := un_nil_some.1 h'1
    exact (vec_Of_e states).symm.trans h'Z
  · intro E w0 ws ρ0 hk b hb
    rw [show loopsOf (fb Go.Proofs.Tryz.f12) = [(bodyAt (fb Go.Proofs.Tryz.f12) 0)] by kernel_rfl] at hb
    simp only [List.mem_cons, List.mem_nil_iff, or_false] at hb
    rcases hb with rfl
    · exact vec_Of_3_lok E w0 ws ρ0 hk
noncomputable def G17 : Env := G16.addE 12 1 vec_Of_in vec_Of_out vec_Of_SC
theorem g17 : EnvOk Go.Proofs.Tryz.prog G17 := EnvOk.addE g16 vec_Of_c vec_Of_says

-- ### vec_Get: function 14
def vec_Get_in : Tm := ⟨[], [(0, .w (.at (.str)))]⟩
def vec_Get_out : Tm := ⟨[.row 38 2 [.int .i64, .int .i64]], [(0, .tup [.at (.all 0 2), .at (.bool)])]⟩
def vec_Get_3_T : Tm := ⟨[.row 38 2 [.int .i64, .int .i64]], [(9, .w (.at (.int .i64))), (4, .w (.at (.all 0 2))), (0, .w (.at (.str))), (8, .w (.at (.int .i64)))]⟩
def vec_Get_3_X0 : Tm := ⟨[.row 38 2 [.int .i64, .int .i64]], [(4, .w (.at (.all 0 2)))]⟩
def vec_Get_3_X : Exits := [(0, (vec_Get_3_X0, []))]
def vec_Get_3_R : Tm := ⟨[.row 38 2 [.int .i64, .int .i64]], [(2, .w (.at (.all 0 2))), (3, .w (.at (.bool)))]⟩

def vec_Get_Λd (L3 : ({β : Type} → (Nat → List Leaf → Option β) → (List Leaf → Option β) → Nat → List Int → List Int → Int → ByteArray → Int → Option β)) : Loops := ⟨fun b fr H kx kr => bif Nat.beq (rid b) 3 then loopE 0 vec_Get_3_T [] vec_Get_3_X vec_Get_3_R (vec_Get_3_F @L3 top) fr H kx kr else none⟩
def vec_Get_Λ : Loops := vec_Get_Λd @vec_Get_3_L
theorem vec_Get_3_e (L3 : ({β : Type} → (Nat → List Leaf → Option β) → (List Leaf → Option β) → Nat → List Int → List Int → Int → ByteArray → Int → Option β)) {α : Type} (kx : Nat → List Leaf → Option α) (kr : List Leaf → Option α) (again : List Int → List Int → Int → ByteArray → Int → Option α) (out0 : List Int) (out1 : List Int) (t9 : Int) (s : ByteArray) (t8 : Int) : vec_Get_3_B  kx kr again out0 out1 t9 s t8 = loopB G17 (vec_Get_Λd @L3) false tab Go.Proofs.Tryz.f14.ntmps 0 vec_Get_3_T [] vec_Get_3_X vec_Get_3_R (bodyAt (fb Go.Proofs.Tryz.f14) 0) (fun ls => un_li ls fun out0 rr => un_li rr fun out1 rr => un_i rr fun t9 rr => un_s rr fun s rr => un_i rr fun t8 rr => un_nil rr (again out0 out1 t9 s t8)) kx kr (instFr vec_Get_3_T [.li out0, .li out1, .i t9, .s s, .i t8]) (instH vec_Get_3_T [.li out0, .li out1, .i t9, .s s, .i t8]) := by kernel_rfl
theorem vec_Get_3_lok (E : Nat → Prop) (w0 ws : World) (ρ0 : List Pl) (hk : ρ0.length = 0) : LOk Go.Proofs.Tryz.prog 14 Go.Proofs.Tryz.f14 false E w0 ws Go.Proofs.Tryz.f14.ntmps ρ0 vec_Get_Λ (bodyAt (fb Go.Proofs.Tryz.f14) 0) := by
  refine lok mixed tab_ok g17 Go.Proofs.Tryz.func14 hk (T := vec_Get_3_T) (rt := vec_Get_3_R) (cuts := []) (ex := vec_Get_3_X) (top := top) (F := vec_Get_3_F @vec_Get_3_L) (fun fr H kx kr => by kernel_rfl) ?_ ?_ ?_
  · intro α ls' kx' kr' r' h'
    unfold vec_Get_3_F at h'
    obtain ⟨out0, l'1, rfl, h'1⟩ := un_li_some.1 h'
    obtain ⟨out1, l'2, rfl, h'2⟩ := un_li_some.1 h'1
    obtain ⟨t9, l'3, rfl, h'3⟩ := un_i_some.1 h'2
    obtain ⟨s, l'4, rfl, h'4⟩ := un_s_some.1 h'3
    obtain ⟨t8, l'5, rfl, h'5⟩ := un_i_some.1 h'4
    obtain ⟨rfl, h'Z⟩ := un_nil_some.1 h'5
    cases h'Z
  · intro α n' ls' kx' kr' r' h'
    unfold vec_Get_3_F at h'
    obtain ⟨out0, l'1, rfl, h'1⟩ := un_li_some.1 h'
    obtain ⟨out1, l'2, rfl, h'2⟩ := un_li_some.1 h'1
    obtain ⟨t9, l'3, rfl, h'3⟩ := un_i_some.1 h'2
    obtain ⟨s, l'4, rfl, h'4⟩ := un_s_some.1 h'3
    obtain ⟨t8, l'5, rfl, h'5⟩ := un_i_some.1 h'4
    obtain ⟨rfl, h'Z⟩ := un_nil_some.1 h'5
    exact (vec_Get_3_e @vec_Get_3_L kx' kr' (vec_Get_3_L kx' kr' n') out0 out1 t9 s t8).symm.trans h'Z
  · intro b' hb
    rw [show loopsOf (bodyAt (fb Go.Proofs.Tryz.f14) 0) = [] by kernel_rfl] at hb
    cases hb
theorem vec_Get_ed (L3 : ({β : Type} → (Nat → List Leaf → Option β) → (List Leaf → Option β) → Nat → List Int → List Int → Int → ByteArray → Int → Option β)) (s : ByteArray) : vec_Get_d @L3 s = den G17 (vec_Get_Λd @L3) false tab Go.Proofs.Tryz.f14.ntmps (fun fr H => finish tab 0 Go.Proofs.Tryz.f14.results.toList vec_Get_out [] fr H some) (fun _ _ _ => none) (fun fr H => finish tab 0 Go.Proofs.Tryz.f14.results.toList vec_Get_out [] fr H some) 10000 [.code (fb Go.Proofs.Tryz.f14)] (instFr vec_Get_in [.s s]) (instH vec_Get_in [.s s]) := by kernel_rfl
theorem vec_Get_e (s : ByteArray) : vec_Get s = den G17 vec_Get_Λ false tab Go.Proofs.Tryz.f14.ntmps (fun fr H => finish tab 0 Go.Proofs.Tryz.f14.results.toList vec_Get_out [] fr H some) (fun _ _ _ => none) (fun fr H => finish tab 0 Go.Proofs.Tryz.f14.results.toList vec_Get_out [] fr H some) 10000 [.code (fb Go.Proofs.Tryz.f14)] (instFr vec_Get_in [.s s]) (instH vec_Get_in [.s s]) := vec_Get_ed @vec_Get_3_L s
def vec_Get_S : List Leaf → Option (List Leaf) := fun ls => un_s ls fun s rr => un_nil rr (vec_Get s)
def vec_Get_SC : Tld := fun ls k' => un_s ls fun s rr => un_nil rr (out (vec_Get s) k')
theorem vec_Get_Se (s : ByteArray) : vec_Get_S [.s s] = vec_Get s := by
  unfold vec_Get_S
  simp only [un_i_ev, un_b_ev, un_s_ev, un_li_ev, un_lb_ev, un_ls_ev, un_nil_ev]
theorem vec_Get_says : Says vec_Get_SC vec_Get_S := by
  intro β ls' k' r' h'
  unfold vec_Get_SC at h'
  obtain ⟨s, l'1, rfl, h'1⟩ := un_s_some.1 h'
  obtain ⟨rfl, h'Z⟩ := un_nil_some.1 h'1
  obtain ⟨l', a', b'⟩ := out_some.1 h'Z
  exact ⟨l', (vec_Get_Se s).trans a', b'⟩
theorem vec_Get_c : FnC Go.Proofs.Tryz.prog 14 false 1 0 vec_Get_in vec_Get_out vec_Get_S := by
  refine fn_ok (Λ := vec_Get_Λ) mixed tab_ok g17 Go.Proofs.Tryz.func14 (by kernel_rfl) (body := fb Go.Proofs.Tryz.f14) rfl (ts := Go.Proofs.Tryz.f14.results.toList) rfl (cuts := []) (by kernel_rfl) (Nat.le_of_ble_eq_true (by kernel_rfl)) (by kernel_rfl) (rt := .tup [.at (.all 0 2), .at (.bool)]) rfl ?_ ?_
  · intro ls' r' h'
    unfold vec_Get_S at h'
    obtain ⟨s, l'1, rfl, h'1⟩ := un_s_some.1 h'
    obtain ⟨rfl, h'Z⟩ := un_nil_some.1 h'1
    exact (vec_Get_e s).symm.trans h'Z
  · intro E w0 ws ρ0 hk b hb
    rw [show loopsOf (fb Go.Proofs.Tryz.f14) = [(bodyAt (fb Go.Proofs.Tryz.f14) 0)] by kernel_rfl] at hb
    simp only [List.mem_cons, List.mem_nil_iff, or_false] at hb
    rcases hb with rfl
    · exact vec_Get_3_lok E w0 ws ρ0 hk
noncomputable def G18 : Env := G17.addE 14 1 vec_Get_in vec_Get_out vec_Get_SC
theorem g18 : EnvOk Go.Proofs.Tryz.prog G18 := EnvOk.addE g17 vec_Get_c vec_Get_says
end Go.Sx.T

