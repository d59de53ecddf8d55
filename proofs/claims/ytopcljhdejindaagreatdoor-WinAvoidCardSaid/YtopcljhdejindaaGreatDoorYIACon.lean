import Derived.Test.YtopcljhdejindaaGreatDoorYIASpec
import Derived.Test.YtopcljhdejindaaGreatDoorYRACon
set_option linter.all false
namespace Go.Sx.T
open Go Go.Sx Go.Proofs

-- ### ref_Weigh: function 81
def ref_Weigh_in : Tm := ⟨[.ro 22 1 [.int .u64]], [(0, .w (.at (.int .u64))), (1, .w (.at (.all 0 1)))]⟩
def ref_Weigh_out : Tm := ⟨[.dead], [(0, .tup [.at (.int .u64), .at (.int .u64)])]⟩
def ref_Weigh_5_T : Tm := ⟨[.ro 22 1 [.int .u64], .cells 144 [.int .u64, .int .u64, .int .u64, .int .u64, .int .u64, .int .u64, .int .u64, .int .u64]], [(11, .w (.at (.int .i64))), (6, .w (.at (.ptr 1 0))), (1, .w (.at (.all 0 1))), (9, .w (.at (.int .u64))), (7, .w (.at (.int .i64))), (10, .w (.at (.int .u64))), (8, .w (.at (.int .u64)))]⟩
def ref_Weigh_5_X0 : Tm := ⟨[.ro 22 1 [.int .u64]], [(10, .w (.at (.int .u64))), (9, .w (.at (.int .u64))), (8, .w (.at (.int .u64)))]⟩
def ref_Weigh_5_X : Exits := [(0, (ref_Weigh_5_X0, []))]
def ref_Weigh_5_R : Tm := ⟨[], []⟩

def ref_Weigh_Λd (L5 : ({β : Type} → (Nat → List Leaf → Option β) → (List Leaf → Option β) → Nat → List Int → Int → Int → Int → Int → Int → Int → Int → Int → Int → Int → Int → Int → Int → Option β)) : Loops := ⟨fun b fr H kx kr => bif Nat.beq (rid b) 5 then loopE 1 ref_Weigh_5_T [] ref_Weigh_5_X ref_Weigh_5_R (ref_Weigh_5_F @L5 top) fr H kx kr else none⟩
def ref_Weigh_Λ : Loops := ref_Weigh_Λd @ref_Weigh_5_L
theorem ref_Weigh_5_e (L5 : ({β : Type} → (Nat → List Leaf → Option β) → (List Leaf → Option β) → Nat → List Int → Int → Int → Int → Int → Int → Int → Int → Int → Int → Int → Int → Int → Int → Option β)) {α : Type} (kx : Nat → List Leaf → Option α) (kr : List Leaf → Option α) (again : List Int → Int → Int → Int → Int → Int → Int → Int → Int → Int → Int → Int → Int → Int → Option α) (closed : List Int) (w_0 : Int) (w_1 : Int) (w_2 : Int) (w_3 : Int) (w_4 : Int) (w_5 : Int) (w_6 : Int) (w_7 : Int) (i : Int) (a : Int) (k : Int) (b : Int) (sum : Int) : ref_Weigh_5_B  kx kr again closed w_0 w_1 w_2 w_3 w_4 w_5 w_6 w_7 i a k b sum = loopB G42 (ref_Weigh_Λd @L5) false tab Go.Proofs.Tryz.f81.ntmps 1 ref_Weigh_5_T [] ref_Weigh_5_X ref_Weigh_5_R (bodyAt (fb Go.Proofs.Tryz.f81) 0) (fun ls => un_li ls fun closed rr => un_i rr fun w_0 rr => un_i rr fun w_1 rr => un_i rr fun w_2 rr => un_i rr fun w_3 rr => un_i rr fun w_4 rr => un_i rr fun w_5 rr => un_i rr fun w_6 rr => un_i rr fun w_7 rr => un_i rr fun i rr => un_i rr fun a rr => un_i rr fun k rr => un_i rr fun b rr => un_i rr fun sum rr => un_nil rr (again closed w_0 w_1 w_2 w_3 w_4 w_5 w_6 w_7 i a k b sum)) kx kr (instFr ref_Weigh_5_T [.li closed, .i w_0, .i w_1, .i w_2, .i w_3, .i w_4, .i w_5, .i w_6, .i w_7, .i i, .i a, .i k, .i b, .i sum]) (instH ref_Weigh_5_T [.li closed, .i w_0, .i w_1, .i w_2, .i w_3, .i w_4, .i w_5, .i w_6, .i w_7, .i i, .i a, .i k, .i b, .i sum]) := by kernel_rfl
theorem ref_Weigh_5_lok (E : Nat → Prop) (w0 ws : World) (ρ0 : List Pl) (hk : ρ0.length = 1) : LOk Go.Proofs.Tryz.prog 81 Go.Proofs.Tryz.f81 false E w0 ws Go.Proofs.Tryz.f81.ntmps ρ0 ref_Weigh_Λ (bodyAt (fb Go.Proofs.Tryz.f81) 0) := by
  refine lok mixed tab_ok g42 Go.Proofs.Tryz.func81 hk (T := ref_Weigh_5_T) (rt := ref_Weigh_5_R) (cuts := []) (ex := ref_Weigh_5_X) (top := top) (F := ref_Weigh_5_F @ref_Weigh_5_L) (fun fr H kx kr => by kernel_rfl) ?_ ?_ ?_
  · intro α ls' kx' kr' r' h'
    unfold ref_Weigh_5_F at h'
    obtain ⟨closed, l'1, rfl, h'1⟩ := un_li_some.1 h'
    obtain ⟨w_0, l'2, rfl, h'2⟩ := un_i_some.1 h'1
    obtain ⟨w_1, l'3, rfl, h'3⟩ := un_i_some.1 h'2
    obtain ⟨w_2, l'4, rfl, h'4⟩ := un_i_some.1 h'3
    obtain ⟨w_3, l'5, rfl, h'5⟩ := un_i_some.1 h'4
    obtain ⟨w_4, l'6, rfl, h'6⟩ := un_i_some.1 h'5
    obtain ⟨w_5, l'7, rfl, h'7⟩ := un_i_some.1 h'6
    obtain ⟨w_6, l'8, rfl, h'8⟩ := un_i_some.1 h'7
    obtain ⟨w_7, l'9, rfl, h'9⟩ := un_i_some.1 h'8
    obtain ⟨i, l'10, rfl, h'10⟩ := un_i_some.1 h'9
    obtain ⟨a, l'11, rfl, h'11⟩ := un_i_some.1 h'10
    obtain ⟨k, l'12, rfl, h'12⟩ := un_i_some.1 h'11
    obtain ⟨b, l'13, rfl, h'13⟩ := un_i_some.1 h'12
    obtain ⟨sum, l'14, rfl, h'14⟩ := un_i_some.1 h'13
    obtain ⟨rfl, h'Z⟩ := un_nil_some.1 h'14
    cases h'Z
  · intro α n' ls' kx' kr' r' h'
    unfold ref_Weigh_5_F at h'
    obtain ⟨closed, l'1, rfl, h'1⟩ := un_li_some.1 h'
    obtain ⟨w_0, l'2, rfl, h'2⟩ := un_i_some.1 h'1
    obtain ⟨w_1, l'3, rfl, h'3⟩ := un_i_some.1 h'2
    obtain ⟨w_2, l'4, rfl, h'4⟩ := un_i_some.1 h'3
    obtain ⟨w_3, l'5, rfl, h'5⟩ := un_i_some.1 h'4
    obtain ⟨w_4, l'6, rfl, h'6⟩ := un_i_some.1 h'5
    obtain ⟨w_5, l'7, rfl, h'7⟩ := un_i_some.1 h'6
    obtain ⟨w_6, l'8, rfl, h'8⟩ := un_i_some.1 h'7
    obtain ⟨w_7, l'9, rfl, h'9⟩ := un_i_some.1 h'8
    obtain ⟨i, l'10, rfl, h'10⟩ := un_i_some.1 h'9
    obtain ⟨a, l'11, rfl, h'11⟩ := un_i_some.1 h'10
    obtain ⟨k, l'12, rfl, h'12⟩ := un_i_some.1 h'11
    obtain ⟨b, l'13, rfl, h'13⟩ := un_i_some.1 h'12
    obtain ⟨sum, l'14, rfl, h'14⟩ := un_i_some.1 h'13
    obtain ⟨rfl, h'Z⟩ := un_nil_some.1 h'14
    exact (ref_Weigh_5_e @ref_Weigh_5_L kx' kr' (ref_Weigh_5_L kx' kr' n') closed w_0 w_1 w_2 w_3 w_4 w_5 w_6 w_7 i a k b sum).symm.trans h'Z
  · intro b' hb
    rw [show loopsOf (bodyAt (fb Go.Proofs.Tryz.f81) 0) = [] by kernel_rfl] at hb
    cases hb
theorem ref_Weigh_ed (L5 : ({β : Type} → (Nat → List Leaf → Option β) → (List Leaf → Option β) → Nat → List Int → Int → Int → Int → Int → Int → Int → Int → Int → Int → Int → Int → Int → Int → Option β)) (closed : List Int) (open2 : Int) : ref_Weigh_d @L5 closed open2 = den G42 (ref_Weigh_Λd @L5) false tab Go.Proofs.Tryz.f81.ntmps (fun fr H => finish tab 1 Go.Proofs.Tryz.f81.results.toList ref_Weigh_out [] fr H some) (fun _ _ _ => none) (fun fr H => finish tab 1 Go.Proofs.Tryz.f81.results.toList ref_Weigh_out [] fr H some) 10000 [.code (fb Go.Proofs.Tryz.f81)] (instFr ref_Weigh_in [.li closed, .i open2]) (instH ref_Weigh_in [.li closed, .i open2]) := by kernel_rfl
theorem ref_Weigh_e (closed : List Int) (open2 : Int) : ref_Weigh closed open2 = den G42 ref_Weigh_Λ false tab Go.Proofs.Tryz.f81.ntmps (fun fr H => finish tab 1 Go.Proofs.Tryz.f81.results.toList ref_Weigh_out [] fr H some) (fun _ _ _ => none) (fun fr H => finish tab 1 Go.Proofs.Tryz.f81.results.toList ref_Weigh_out [] fr H some) 10000 [.code (fb Go.Proofs.Tryz.f81)] (instFr ref_Weigh_in [.li closed, .i open2]) (instH ref_Weigh_in [.li closed, .i open2]) := ref_Weigh_ed @ref_Weigh_5_L closed open2
def ref_Weigh_S : List Leaf → Option (List Leaf) := fun ls => un_li ls fun closed rr => un_i rr fun open2 rr => un_nil rr (ref_Weigh closed open2)
def ref_Weigh_SC : Tld := fun ls k' => un_li ls fun closed rr => un_i rr fun open2 rr => un_nil rr (out (ref_Weigh closed open2) k')
theorem ref_Weigh_Se (closed : List Int) (open2 : Int) : ref_Weigh_S [.li closed, .i open2] = ref_Weigh closed open2 := by
  unfold ref_Weigh_S
  simp only [un_i_ev, un_b_ev, un_s_ev, un_li_ev, un_lb_ev, un_ls_ev, un_nil_ev]
theorem ref_Weigh_says : Says ref_Weigh_SC ref_Weigh_S := by
  intro β ls' k' r' h'
  unfold ref_Weigh_SC at h'
  obtain ⟨closed, l'1, rfl, h'1⟩ := un_li_some.1 h'
  obtain ⟨open2, l'2, rfl, h'2⟩ := un_i_some.1 h'1
  obtain ⟨rfl, h'Z⟩ := un_nil_some.1 h'2
  obtain ⟨l', a', b'⟩ := out_some.1 h'Z
  exact ⟨l', (ref_Weigh_Se closed open2).trans a', b'⟩
theorem ref_Weigh_c : FnC Go.Proofs.Tryz.prog 81 false 2 1 ref_Weigh_in ref_Weigh_out ref_Weigh_S := by
  refine fn_ok (Λ := ref_Weigh_Λ) mixed tab_ok g42 Go.Proofs.Tryz.func81 (by kernel_rfl) (body := fb Go.Proofs.Tryz.f81) rfl (ts := Go.Proofs.Tryz.f81.results.toList) rfl (cuts := []) (by kernel_rfl) (Nat.le_of_ble_eq_true (by kernel_rfl)) (by kernel_rfl) (rt := .tup [.at (.int .u64), .at (.int .u64)]) rfl ?_ ?_
  · intro ls' r' h'
    unfold ref_Weigh_S at h'
    obtain ⟨closed, l'1, rfl, h'1⟩ := un_li_some.1 h'
    obtain ⟨open2, l'2, rfl, h'2⟩ := un_i_some.1 h'1
    obtain ⟨rfl, h'Z⟩ := un_nil_some.1 h'2
    exact (ref_Weigh_e closed open2).symm.trans h'Z
  · intro E w0 ws ρ0 hk b hb
    rw [show loopsOf (fb Go.Proofs.Tryz.f81) = [(bodyAt (fb Go.Proofs.Tryz.f81) 0)] by kernel_rfl] at hb
    simp only [List.mem_cons, List.mem_nil_iff, or_false] at hb
    rcases hb with rfl
    · exact ref_Weigh_5_lok E w0 ws ρ0 hk
def G43 : Env := G42.addE 81 2 ref_Weigh_in ref_Weigh_out ref_Weigh_SC
theorem g43 : EnvOk Go.Proofs.Tryz.prog G43 := EnvOk.addE g42 ref_Weigh_c ref_Weigh_says

-- ### ref_Mean: function 37
def ref_Mean_in : Tm := ⟨[.ro 22 1 [.int .u64]], [(0, .w (.at (.int .u64))), (1, .w (.at (.all 0 1)))]⟩
def ref_Mean_out : Tm := ⟨[.dead], [(0, .w (.at (.int .u64)))]⟩

def ref_Mean_Λd : Loops := Loops.none
def ref_Mean_Λ : Loops := ref_Mean_Λd 

theorem ref_Mean_e (closed : List Int) (open2 : Int) : ref_Mean closed open2 = den G43 ref_Mean_Λ false tab Go.Proofs.Tryz.f37.ntmps (fun fr H => finish tab 1 Go.Proofs.Tryz.f37.results.toList ref_Mean_out [] fr H some) (fun _ _ _ => none) (fun fr H => finish tab 1 Go.Proofs.Tryz.f37.results.toList ref_Mean_out [] fr H some) 10000 [.code (fb Go.Proofs.Tryz.f37)] (instFr ref_Mean_in [.li closed, .i open2]) (instH ref_Mean_in [.li closed, .i open2]) := by kernel_rfl
def ref_Mean_S : List Leaf → Option (List Leaf) := fun ls => un_li ls fun closed rr => un_i rr fun open2 rr => un_nil rr (ref_Mean closed open2)
def ref_Mean_SC : Tld := fun ls k' => un_li ls fun closed rr => un_i rr fun open2 rr => un_nil rr (out (ref_Mean closed open2) k')
theorem ref_Mean_Se (closed : List Int) (open2 : Int) : ref_Mean_S [.li closed, .i open2] = ref_Mean closed open2 := by
  unfold ref_Mean_S
  simp only [un_i_ev, un_b_ev, un_s_ev, un_li_ev, un_lb_ev, un_ls_ev, un_nil_ev]
theorem ref_Mean_says : Says ref_Mean_SC ref_Mean_S := by
  intro β ls' k' r' h'
  unfold ref_Mean_SC at h'
  obtain ⟨closed, l'1, rfl, h'1⟩ := un_li_some.1 h'
  obtain ⟨open2, l'2, rfl, h'2⟩ := un_i_some.1 h'1
  obtain ⟨rfl, h'Z⟩ := un_nil_some.1 h'2
  obtain ⟨l', a', b'⟩ := out_some.1 h'Z
  exact ⟨l', (ref_Mean_Se closed open2).trans a', b'⟩
theorem ref_Mean_c : FnC Go.Proofs.Tryz.prog 37 false 2 1 ref_Mean_in ref_Mean_out ref_Mean_S := by
  refine fn_ok (Λ := ref_Mean_Λ) mixed tab_ok g43 Go.Proofs.Tryz.func37 (by kernel_rfl) (body := fb Go.Proofs.Tryz.f37) rfl (ts := Go.Proofs.Tryz.f37.results.toList) rfl (cuts := []) (by kernel_rfl) (Nat.le_of_ble_eq_true (by kernel_rfl)) (by kernel_rfl) (rt := .w (.at (.int .u64))) rfl ?_ ?_
  · intro ls' r' h'
    unfold ref_Mean_S at h'
    obtain ⟨closed, l'1, rfl, h'1⟩ := un_li_some.1 h'
    obtain ⟨open2, l'2, rfl, h'2⟩ := un_i_some.1 h'1
    obtain ⟨rfl, h'Z⟩ := un_nil_some.1 h'2
    exact (ref_Mean_e closed open2).symm.trans h'Z
  · intro E w0 ws ρ0 hk b hb
    rw [show loopsOf (fb Go.Proofs.Tryz.f37) = [] by kernel_rfl] at hb
    cases hb
def G44 : Env := G43.addE 37 2 ref_Mean_in ref_Mean_out ref_Mean_SC
theorem g44 : EnvOk Go.Proofs.Tryz.prog G44 := EnvOk.addE g43 ref_Mean_c ref_Mean_says

-- ### ref_LossRate: function 38
def ref_LossRate_in : Tm := ⟨[.ro 22 1 [.int .u64]], [(0, .w (.at (.int .u64))), (1, .w (.at (.all 0 1)))]⟩
def ref_LossRate_out : Tm := ⟨[.dead], [(0, .w (.at (.int .u64)))]⟩

def ref_LossRate_Λd : Loops := Loops.none
def ref_LossRate_Λ : Loops := ref_LossRate_Λd 

theorem ref_LossRate_e (closed : List Int) (open2 : Int) : ref_LossRate closed open2 = den G44 ref_LossRate_Λ false tab Go.Proofs.Tryz.f38.ntmps (fun fr H => finish tab 1 Go.Proofs.Tryz.f38.results.toList ref_LossRate_out [] fr H some) (fun _ _ _ => none) (fun fr H => finish tab 1 Go.Proofs.Tryz.f38.results.toList ref_LossRate_out [] fr H some) 10000 [.code (fb Go.Proofs.Tryz.f38)] (instFr ref_LossRate_in [.li closed, .i open2]) (instH ref_LossRate_in [.li closed, .i open2]) := by kernel_rfl
def ref_LossRate_S : List Leaf → Option (List Leaf) := fun ls => un_li ls fun closed rr => un_i rr fun open2 rr => un_nil rr (ref_LossRate closed open2)
def ref_LossRate_SC : Tld := fun ls k' => un_li ls fun closed rr => un_i rr fun open2 rr => un_nil rr (out (ref_LossRate closed open2) k')
theorem ref_LossRate_Se (closed : List Int) (open2 : Int) : ref_LossRate_S [.li closed, .i open2] = ref_LossRate closed open2 := by
  unfold ref_LossRate_S
  simp only [un_i_ev, un_b_ev, un_s_ev, un_li_ev, un_lb_ev, un_ls_ev, un_nil_ev]
theorem ref_LossRate_says : Says ref_LossRate_SC ref_LossRate_S := by
  intro β ls' k' r' h'
  unfold ref_LossRate_SC at h'
  obtain ⟨closed, l'1, rfl, h'1⟩ := un_li_some.1 h'
  obtain ⟨open2, l'2, rfl, h'2⟩ := un_i_some.1 h'1
  obtain ⟨rfl, h'Z⟩ := un_nil_some.1 h'2
  obtain ⟨l', a', b'⟩ := out_some.1 h'Z
  exact ⟨l', (ref_LossRate_Se closed open2).trans a', b'⟩
theorem ref_LossRate_c : FnC Go.Proofs.Tryz.prog 38 false 2 1 ref_LossRate_in ref_LossRate_out ref_LossRate_S := by
  refine fn_ok (Λ := ref_LossRate_Λ) mixed tab_ok g44 Go.Proofs.Tryz.func38 (by kernel_rfl) (body := fb Go.Proofs.Tryz.f38) rfl (ts := Go.Proofs.Tryz.f38.results.toList) rfl (cuts := []) (by kernel_rfl) (Nat.le_of_ble_eq_true (by kernel_rfl)) (by kernel_rfl) (rt := .w (.at (.int .u64))) rfl ?_ ?_
  · intro ls' r' h'
    unfold ref_LossRate_S at h'
    obtain ⟨closed, l'1, rfl, h'1⟩ := un_li_some.1 h'
    obtain ⟨open2, l'2, rfl, h'2⟩ := un_i_some.1 h'1
    obtain ⟨rfl, h'Z⟩ := un_nil_some.1 h'2
    exact (ref_LossRate_e closed open2).symm.trans h'Z
  · intro E w0 ws ρ0 hk b hb
    rw [show loopsOf (fb Go.Proofs.Tryz.f38) = [] by kernel_rfl] at hb
    cases hb
def G45 : Env := G44.addE 38 2 ref_LossRate_in ref_LossRate_out ref_LossRate_SC
theorem g45 : EnvOk Go.Proofs.Tryz.prog G45 := EnvOk.addE g44 ref_LossRate_c ref_LossRate_says

-- ### IvalAll: function 8
def IvalAll_in : Tm := ⟨[.ro 22 1 [.int .u64]], [(0, .w (.at (.int .u64))), (1, .w (.at (.all 0 1))), (2, .w (.at (.int .i64)))]⟩
def IvalAll_out : Tm := ⟨[.dead], [(0, .w (.at (.bool)))]⟩

def IvalAll_Λd : Loops := Loops.none
def IvalAll_Λ : Loops := IvalAll_Λd 

theorem IvalAll_e (closed : List Int) (open2 : Int) (i : Int) : IvalAll closed open2 i = den G45 IvalAll_Λ false tab Go.Proofs.Tryz.f8.ntmps (fun fr H => finish tab 1 Go.Proofs.Tryz.f8.results.toList IvalAll_out [] fr H some) (fun _ _ _ => none) (fun fr H => finish tab 1 Go.Proofs.Tryz.f8.results.toList IvalAll_out [] fr H some) 10000 [.code (fb Go.Proofs.Tryz.f8)] (instFr IvalAll_in [.li closed, .i open2, .i i]) (instH IvalAll_in [.li closed, .i open2, .i i]) := by kernel_rfl
def IvalAll_S : List Leaf → Option (List Leaf) := fun ls => un_li ls fun closed rr => un_i rr fun open2 rr => un_i rr fun i rr => un_nil rr (IvalAll closed open2 i)
def IvalAll_SC : Tld := fun ls k' => un_li ls fun closed rr => un_i rr fun open2 rr => un_i rr fun i rr => un_nil rr (out (IvalAll closed open2 i) k')
theorem IvalAll_Se (closed : List Int) (open2 : Int) (i : Int) : IvalAll_S [.li closed, .i open2, .i i] = IvalAll closed open2 i := by
  unfold IvalAll_S
  simp only [un_i_ev, un_b_ev, un_s_ev, un_li_ev, un_lb_ev, un_ls_ev, un_nil_ev]
theorem IvalAll_says : Says IvalAll_SC IvalAll_S := by
  intro β ls' k' r' h'
  unfold IvalAll_SC at h'
  obtain ⟨closed, l'1, rfl, h'1⟩ := un_li_some.1 h'
  obtain ⟨open2, l'2, rfl, h'2⟩ := un_i_some.1 h'1
  obtain ⟨i, l'3, rfl, h'3⟩ := un_i_some.1 h'2
  obtain ⟨rfl, h'Z⟩ := un_nil_some.1 h'3
  obtain ⟨l', a', b'⟩ := out_some.1 h'Z
  exact ⟨l', (IvalAll_Se closed open2 i).trans a', b'⟩
theorem IvalAll_c : FnC Go.Proofs.Tryz.prog 8 false 3 1 IvalAll_in IvalAll_out IvalAll_S := by
  refine fn_ok (Λ := IvalAll_Λ) mixed tab_ok g45 Go.Proofs.Tryz.func8 (by kernel_rfl) (body := fb Go.Proofs.Tryz.f8) rfl (ts := Go.Proofs.Tryz.f8.results.toList) rfl (cuts := []) (by kernel_rfl) (Nat.le_of_ble_eq_true (by kernel_rfl)) (by kernel_rfl) (rt := .w (.at (.bool))) rfl ?_ ?_
  · intro ls' r' h'
    unfold IvalAll_S at h'
    obtain ⟨closed, l'1, rfl, h'1⟩ := un_li_some.1 h'
    obtain ⟨open2, l'2, rfl, h'2⟩ := un_i_some.1 h'1
    obtain ⟨i, l'3, rfl, h'3⟩ := un_i_some.1 h'2
    obtain ⟨rfl, h'Z⟩ := un_nil_some.1 h'3
    exact (IvalAll_e closed open2 i).symm.trans h'Z
  · intro E w0 ws ρ0 hk b hb
    rw [show loopsOf (fb Go.Proofs.Tryz.f8) = [] by kernel_rfl] at hb
    cases hb
def G46 : Env := G45.addE 8 3 IvalAll_in IvalAll_out IvalAll_SC
theorem g46 : EnvOk Go.Proofs.Tryz.prog G46 := EnvOk.addE g45 IvalAll_c IvalAll_says
end Go.Sx.T

