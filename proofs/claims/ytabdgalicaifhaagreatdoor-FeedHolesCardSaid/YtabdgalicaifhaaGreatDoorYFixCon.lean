import Derived.Test.YtabdgalicaifhaaGreatDoorYFixSpec
import Derived.Test.YtabdgalicaifhaaGreatDoorYBeg2
set_option linter.all false
namespace Go.Sx.T
open Go Go.Sx Go.Proofs
set_option maxRecDepth 100000
noncomputable def G8 : Env := G7.addE 73 2 drop_in drop_out drop_SC
theorem g8 : EnvOk Go.Proofs.Tryz.prog G8 := EnvOk.addE g7 got_drop_c drop_says
noncomputable def G9 : Env := G8.addK 15 (.at (.raw (.bool true)))
theorem g9 : EnvOk Go.Proofs.Tryz.prog G9 := EnvOk.addK g8 begun_fn rfl begun_gives
noncomputable def G10 : Env := G9.addEqS 137 [.int .u8, .int .u8, .int .u8]
theorem g10 : EnvOk Go.Proofs.Tryz.prog G10 := EnvOk.addEqS g9 tab_ok (by kernel_rfl) (by kernel_rfl) (by kernel_rfl) (by kernel_rfl)

-- ### bits_Mul64: function 88
def bits_Mul64_in : Tm := ⟨[], [(0, .w (.at (.int .u64))), (1, .w (.at (.int .u64)))]⟩
def bits_Mul64_out : Tm := ⟨[], [(0, .tup [.at (.int .u64), .at (.int .u64)])]⟩

def bits_Mul64_Λd : Loops := Loops.none
def bits_Mul64_Λ : Loops := bits_Mul64_Λd 

theorem bits_Mul64_e (x : Int) (y : Int) : bits_Mul64 x y = den G10 bits_Mul64_Λ true tab Go.Proofs.Tryz.f88.ntmps (fun fr H => finish tab 0 Go.Proofs.Tryz.f88.results.toList bits_Mul64_out [] fr H some) (fun _ _ _ => none) (fun fr H => finish tab 0 Go.Proofs.Tryz.f88.results.toList bits_Mul64_out [] fr H some) 10000 [.code (fb Go.Proofs.Tryz.f88)] (instFr bits_Mul64_in [.i x, .i y]) (instH bits_Mul64_in [.i x, .i y]) := by kernel_rfl
def bits_Mul64_S : List Leaf → Option (List Leaf) := fun ls => un_i ls fun x rr => un_i rr fun y rr => un_nil rr (bits_Mul64 x y)
def bits_Mul64_SC : Tld := fun ls k' => un_i ls fun x rr => un_i rr fun y rr => un_nil rr (out (bits_Mul64 x y) k')
theorem bits_Mul64_Se (x : Int) (y : Int) : bits_Mul64_S [.i x, .i y] = bits_Mul64 x y := by
  unfold bits_Mul64_S
  simp only [un_i_ev, un_b_ev, un_s_ev, un_li_ev, un_lb_ev, un_ls_ev, un_nil_ev]
theorem bits_Mul64_says : Says bits_Mul64_SC bits_Mul64_S := by
  intro β ls' k' r' h'
  unfold bits_Mul64_SC at h'
  obtain ⟨x, l'1, rfl, h'1⟩ := un_i_some.1 h'
  obtain ⟨y, l'2, rfl, h'2⟩ := un_i_some.1 h'1
  obtain ⟨rfl, h'Z⟩ := un_nil_some.1 h'2
  obtain ⟨l', a', b'⟩ := out_some.1 h'Z
  exact ⟨l', (bits_Mul64_Se x y).trans a', b'⟩
theorem bits_Mul64_c : FnC Go.Proofs.Tryz.prog 88 true 2 0 bits_Mul64_in bits_Mul64_out bits_Mul64_S := by
  refine fn_ok (Λ := bits_Mul64_Λ) mixed tab_ok g10 Go.Proofs.Tryz.func88 (by kernel_rfl) (body := fb Go.Proofs.Tryz.f88) rfl (ts := Go.Proofs.Tryz.f88.results.toList) rfl (cuts := []) (by kernel_rfl) (Nat.le_of_ble_eq_true (by kernel_rfl)) (by kernel_rfl) (rt := .tup [.at (.int .u64), .at (.int .u64)]) rfl ?_ ?_
  · intro ls' r' h'
    unfold bits_Mul64_S at h'
    obtain ⟨x, l'1, rfl, h'1⟩ := un_i_some.1 h'
    obtain ⟨y, l'2, rfl, h'2⟩ := un_i_some.1 h'1
    obtain ⟨rfl, h'Z⟩ := un_nil_some.1 h'2
    exact (bits_Mul64_e x y).symm.trans h'Z
  · intro E w0 ws ρ0 hk b hb
    rw [show loopsOf (fb Go.Proofs.Tryz.f88) = [] by kernel_rfl] at hb
    cases hb
noncomputable def G11 : Env := G10.addP 88 2 bits_Mul64_in bits_Mul64_out bits_Mul64_SC
theorem g11 : EnvOk Go.Proofs.Tryz.prog G11 := EnvOk.addP g10 bits_Mul64_c bits_Mul64_says

-- ### bits_Mul: function 90
def bits_Mul_in : Tm := ⟨[], [(0, .w (.at (.int .u64))), (1, .w (.at (.int .u64)))]⟩
def bits_Mul_out : Tm := ⟨[], [(0, .tup [.at (.int .u64), .at (.int .u64)])]⟩

def bits_Mul_Λd : Loops := Loops.none
def bits_Mul_Λ : Loops := bits_Mul_Λd 

theorem bits_Mul_e (x : Int) (y : Int) : bits_Mul x y = den G11 bits_Mul_Λ true tab Go.Proofs.Tryz.f90.ntmps (fun fr H => finish tab 0 Go.Proofs.Tryz.f90.results.toList bits_Mul_out [] fr H some) (fun _ _ _ => none) (fun fr H => finish tab 0 Go.Proofs.Tryz.f90.results.toList bits_Mul_out [] fr H some) 10000 [.code (fb Go.Proofs.Tryz.f90)] (instFr bits_Mul_in [.i x, .i y]) (instH bits_Mul_in [.i x, .i y]) := by kernel_rfl
def bits_Mul_S : List Leaf → Option (List Leaf) := fun ls => un_i ls fun x rr => un_i rr fun y rr => un_nil rr (bits_Mul x y)
def bits_Mul_SC : Tld := fun ls k' => un_i ls fun x rr => un_i rr fun y rr => un_nil rr (out (bits_Mul x y) k')
theorem bits_Mul_Se (x : Int) (y : Int) : bits_Mul_S [.i x, .i y] = bits_Mul x y := by
  unfold bits_Mul_S
  simp only [un_i_ev, un_b_ev, un_s_ev, un_li_ev, un_lb_ev, un_ls_ev, un_nil_ev]
theorem bits_Mul_says : Says bits_Mul_SC bits_Mul_S := by
  intro β ls' k' r' h'
  unfold bits_Mul_SC at h'
  obtain ⟨x, l'1, rfl, h'1⟩ := un_i_some.1 h'
  obtain ⟨y, l'2, rfl, h'2⟩ := un_i_some.1 h'1
  obtain ⟨rfl, h'Z⟩ := un_nil_some.1 h'2
  obtain ⟨l', a', b'⟩ := out_some.1 h'Z
  exact ⟨l', (bits_Mul_Se x y).trans a', b'⟩
theorem bits_Mul_c : FnC Go.Proofs.Tryz.prog 90 true 2 0 bits_Mul_in bits_Mul_out bits_Mul_S := by
  refine fn_ok (Λ := bits_Mul_Λ) mixed tab_ok g11 Go.Proofs.Tryz.func90 (by kernel_rfl) (body := fb Go.Proofs.Tryz.f90) rfl (ts := Go.Proofs.Tryz.f90.results.toList) rfl (cuts := []) (by kernel_rfl) (Nat.le_of_ble_eq_true (by kernel_rfl)) (by kernel_rfl) (rt := .tup [.at (.int .u64), .at (.int .u64)]) rfl ?_ ?_
  · intro ls' r' h'
    unfold bits_Mul_S at h'
    obtain ⟨x, l'1, rfl, h'1⟩ := un_i_some.1 h'
    obtain ⟨y, l'2, rfl, h'2⟩ := un_i_some.1 h'1
    obtain ⟨rfl, h'Z⟩ := un_nil_some.1 h'2
    exact (bits_Mul_e x y).symm.trans h'Z
  · intro E w0 ws ρ0 hk b hb
    rw [show loopsOf (fb Go.Proofs.Tryz.f90) = [] by kernel_rfl] at hb
    cases hb
noncomputable def G12 : Env := G11.addP 90 2 bits_Mul_in bits_Mul_out bits_Mul_SC
theorem g12 : EnvOk Go.Proofs.Tryz.prog G12 := EnvOk.addP g11 bits_Mul_c bits_Mul_says

-- ### bits_Len64: function 130
def bits_Len64_in : Tm := ⟨[], [(0, .w (.at (.int .u64)))]⟩
def bits_Len64_out : Tm := ⟨[], [(0, .w (.at (.int .i64)))]⟩

def bits_Len64_Λd : Loops := Loops.none
def bits_Len64_Λ : Loops := bits_Len64_Λd 

theorem bits_Len64_e (x : Int) : bits_Len64 x = den G12 bits_Len64_Λ true tab Go.Proofs.Tryz.f130.ntmps (fun fr H => finish tab 0 Go.Proofs.Tryz.f130.results.toList bits_Len64_out [] fr H some) (fun _ _ _ => none) (fun fr H => finish tab 0 Go.Proofs.Tryz.f130.results.toList bits_Len64_out [] fr H some) 10000 [.code (fb Go.Proofs.Tryz.f130)] (instFr bits_Len64_in [.i x]) (instH bits_Len64_in [.i x]) := by kernel_rfl
def bits_Len64_S : List Leaf → Option (List Leaf) := fun ls => un_i ls fun x rr => un_nil rr (bits_Len64 x)
def bits_Len64_SC : Tld := fun ls k' => un_i ls fun x rr => un_nil rr (out (bits_Len64 x) k')
theorem bits_Len64_Se (x : Int) : bits_Len64_S [.i x] = bits_Len64 x := by
  unfold bits_Len64_S
  simp only [un_i_ev, un_b_ev, un_s_ev, un_li_ev, un_lb_ev, un_ls_ev, un_nil_ev]
theorem bits_Len64_says : Says bits_Len64_SC bits_Len64_S := by
  intro β ls' k' r' h'
  unfold bits_Len64_SC at h'
  obtain ⟨x, l'1, rfl, h'1⟩ := un_i_some.1 h'
  obtain ⟨rfl, h'Z⟩ := un_nil_some.1 h'1
  obtain ⟨l', a', b'⟩ := out_some.1 h'Z
  exact ⟨l', (bits_Len64_Se x).trans a', b'⟩
theorem bits_Len64_c : FnC Go.Proofs.Tryz.prog 130 true 1 0 bits_Len64_in bits_Len64_out bits_Len64_S := by
  refine fn_ok (Λ := bits_Len64_Λ) mixed tab_ok g12 Go.Proofs.Tryz.func130 (by kernel_rfl) (body := fb Go.Proofs.Tryz.f130) rfl (ts := Go.Proofs.Tryz.f130.results.toList) rfl (cuts := []) (by kernel_rfl) (Nat.le_of_ble_eq_true (by kernel_rfl)) (by kernel_rfl) (rt := .w (.at (.int .i64))) rfl ?_ ?_
  · intro ls' r' h'
    unfold bits_Len64_S at h'
    obtain ⟨x, l'1, rfl, h'1⟩ := un_i_some.1 h'
    obtain ⟨rfl, h'Z⟩ := un_nil_some.1 h'1
    exact (bits_Len64_e x).symm.trans h'Z
  · intro E w0 ws ρ0 hk b hb
    rw [show loopsOf (fb Go.Proofs.Tryz.f130) = [] by kernel_rfl] at hb
    cases hb
noncomputable def G13 : Env := G12.addP 130 1 bits_Len64_in bits_Len64_out bits_Len64_SC
theorem g13 : EnvOk Go.Proofs.Tryz.prog G13 := EnvOk.addP g12 bits_Len64_c bits_Len64_says

-- ### bits_LeadingZeros64: function 104
def bits_LeadingZeros64_in : Tm := ⟨[], [(0, .w (.at (.int .u64)))]⟩
def bits_LeadingZeros64_out : Tm := ⟨[], [(0, .w (.at (.int .i64)))]⟩

def bits_LeadingZeros64_Λd : Loops := Loops.none
def bits_LeadingZeros64_Λ : Loops := bits_LeadingZeros64_Λd 

theorem bits_LeadingZeros64_e (x : Int) : bits_LeadingZeros64 x = den G13 bits_LeadingZeros64_Λ true tab Go.Proofs.Tryz.f104.ntmps (fun fr H => finish tab 0 Go.Proofs.Tryz.f104.results.toList bits_LeadingZeros64_out [] fr H some) (fun _ _ _ => none) (fun fr H => finish tab 0 Go.Proofs.Tryz.f104.results.toList bits_LeadingZeros64_out [] fr H some) 10000 [.code (fb Go.Proofs.Tryz.f104)] (instFr bits_LeadingZeros64_in [.i x]) (instH bits_LeadingZeros64_in [.i x]) := by kernel_rfl
def bits_LeadingZeros64_S : List Leaf → Option (List Leaf) := fun ls => un_i ls fun x rr => un_nil rr (bits_LeadingZeros64 x)
def bits_LeadingZeros64_SC : Tld := fun ls k' => un_i ls fun x rr => un_nil rr (out (bits_LeadingZeros64 x) k')
theorem bits_LeadingZeros64_Se (x : Int) : bits_LeadingZeros64_S [.i x] = bits_LeadingZeros64 x := by
  unfold bits_LeadingZeros64_S
  simp only [un_i_ev, un_b_ev, un_s_ev, un_li_ev, un_lb_ev, un_ls_ev, un_nil_ev]
theorem bits_LeadingZeros64_says : Says bits_LeadingZeros64_SC bits_LeadingZeros64_S := by
  intro β ls' k' r' h'
  unfold bits_LeadingZeros64_SC at h'
  obtain ⟨x, l'1, rfl, h'1⟩ := un_i_some.1 h'
  obtain ⟨rfl, h'Z⟩ := un_nil_some.1 h'1
  obtain ⟨l', a', b'⟩ := out_some.1 h'Z
  exact ⟨l', (bits_LeadingZeros64_Se x).trans a', b'⟩
theorem bits_LeadingZeros64_c : FnC Go.Proofs.Tryz.prog 104 true 1 0 bits_LeadingZeros64_in bits_LeadingZeros64_out bits_LeadingZeros64_S := by
  refine fn_ok (Λ := bits_LeadingZeros64_Λ) mixed tab_ok g13 Go.Proofs.Tryz.func104 (by kernel_rfl) (body := fb Go.Proofs.Tryz.f104) rfl (ts := Go.Proofs.Tryz.f104.results.toList) rfl (cuts := []) (by kernel_rfl) (Nat.le_of_ble_eq_true (by kernel_rfl)) (by kernel_rfl) (rt := .w (.at (.int .i64))) rfl ?_ ?_
  · intro ls' r' h'
    unfold bits_LeadingZeros64_S at h'
    obtain ⟨x, l'1, rfl, h'1⟩ := un_i_some.1 h'
    obtain ⟨rfl, h'Z⟩ := un_nil_some.1 h'1
    exact (bits_LeadingZeros64_e x).symm.trans h'Z
  · intro E w0 ws ρ0 hk b hb
    rw [show loopsOf (fb Go.Proofs.Tryz.f104) = [] by kernel_rfl] at hb
    cases hb
noncomputable def G14 : Env := G13.addP 104 1 bits_LeadingZeros64_in bits_LeadingZeros64_out bits_LeadingZeros64_SC
theorem g14 : EnvOk Go.Proofs.Tryz.prog G14 := EnvOk.addP g13 bits_LeadingZeros64_c bits_LeadingZeros64_says

-- ### bits_Div64: function 89
def bits_Div64_in : Tm := ⟨[], [(0, .w (.at (.int .u64))), (1, .w (.at (.int .u64))), (2, .w (.at (.int .u64)))]⟩
def bits_Div64_out : Tm := ⟨[], [(0, .tup [.at (.int .u64), .at (.int .u64)])]⟩
def bits_Div64_17_T : Tm := ⟨[], [(8, .w (.at (.int .u64))), (2, .w (.at (.int .u64))), (14, .w (.at (.int .u64))), (9, .w (.at (.int .u64))), (10, .w (.at (.int .u64))), (13, .w (.at (.int .u64))), (11, .w (.at (.int .u64))), (16, .w (.at (.int .u64))), (15, .w (.at (.int .u64)))]⟩
def bits_Div64_17_X0 : Tm := ⟨[], [(8, .w (.at (.int .u64))), (2, .w (.at (.int .u64))), (14, .w (.at (.int .u64))), (15, .w (.at (.int .u64))), (9, .w (.at (.int .u64))), (10, .w (.at (.int .u64))), (13, .w (.at (.int .u64))), (11, .w (.at (.int .u64)))]⟩
def bits_Div64_17_X : Exits := [(0, (bits_Div64_17_X0, []))]
def bits_Div64_17_R : Tm := ⟨[], []⟩
def bits_Div64_24_T : Tm := ⟨[], [(8, .w (.at (.int .u64))), (2, .w (.at (.int .u64))), (14, .w (.at (.int .u64))), (17, .w (.at (.int .u64))), (15, .w (.at (.int .u64))), (9, .w (.at (.int .u64))), (16, .w (.at (.int .u64))), (18, .w (.at (.int .u64))), (10, .w (.at (.int .u64)))]⟩
def bits_Div64_24_X2 : Tm := ⟨[], [(8, .w (.at (.int .u64))), (2, .w (.at (.int .u64))), (18, .w (.at (.int .u64))), (14, .w (.at (.int .u64))), (17, .w (.at (.int .u64))), (15, .w (.at (.int .u64)))]⟩
def bits_Div64_24_X : Exits := [(2, (bits_Div64_24_X2, []))]
def bits_Div64_24_R : Tm := ⟨[], []⟩

def bits_Div64_Λd (L17 : ({β : Type} → (Nat → List Leaf → Option β) → (List Leaf → Option β) → Nat → Int → Int → Int → Int → Int → Int → Int → Int → Int → Option β)) (L24 : ({β : Type} → (Nat → List Leaf → Option β) → (List Leaf → Option β) → Nat → Int → Int → Int → Int → Int → Int → Int → Int → Int → Option β)) : Loops := ⟨fun b fr H kx kr => bif Nat.beq (rid b) 17 then loopE 0 bits_Div64_17_T [] bits_Div64_17_X bits_Div64_17_R (bits_Div64_17_F @L17 top) fr H kx kr else bif Nat.beq (rid b) 24 then loopE 0 bits_Div64_24_T [] bits_Div64_24_X bits_Div64_24_R (bits_Div64_24_F @L24 top) fr H kx kr else none⟩
def bits_Div64_Λ : Loops := bits_Div64_Λd @bits_Div64_17_L @bits_Div64_24_L
theorem bits_Div64_17_e (L17 : ({β : Type} → (Nat → List Leaf → Option β) → (List Leaf → Option β) → Nat → Int → Int → Int → Int → Int → Int → Int → Int → Int → Option β)) (L24 : ({β : Type} → (Nat → List Leaf → Option β) → (List Leaf → Option β) → Nat → Int → Int → Int → Int → Int → Int → Int → Int → Int → Option β)) {α : Type} (kx : Nat → List Leaf → Option α) (kr : List Leaf → Option α) (again : Int → Int → Int → Int → Int → Int → Int → Int → Int → Option α) (s : Int) (y : Int) (un0 : Int) (yn1 : Int) (yn0 : Int) (un1 : Int) (un32 : Int) (rhat : Int) (q1 : Int) : bits_Div64_17_B  kx kr again s y un0 yn1 yn0 un1 un32 rhat q1 = loopB G14 (bits_Div64_Λd @L17 @L24) true tab Go.Proofs.Tryz.f89.ntmps 0 bits_Div64_17_T [] bits_Div64_17_X bits_Div64_17_R (bodyAt (fb Go.Proofs.Tryz.f89) 0) (fun ls => un_i ls fun s rr => un_i rr fun y rr => un_i rr fun un0 rr => un_i rr fun yn1 rr => un_i rr fun yn0 rr => un_i rr fun un1 rr => un_i rr fun un32 rr => un_i rr fun rhat rr => un_i rr fun q1 rr => un_nil rr (again s y un0 yn1 yn0 un1 un32 rhat q1)) kx kr (instFr bits_Div64_17_T [.i s, .i y, .i un0, .i yn1, .i yn0, .i un1, .i un32, .i rhat, .i q1]) (instH bits_Div64_17_T [.i s, .i y, .i un0, .i yn1, .i yn0, .i un1, .i un32, .i rhat, .i q1]) := by kernel_rfl
theorem bits_Div64_24_e (L17 : ({β : Type} → (Nat → List Leaf → Option β) → (List Leaf → Option β) → Nat → Int → Int → Int → Int → Int → Int → Int → Int → Int → Option β)) (L24 : ({β : Type} → (Nat → List Leaf → Option β) → (List Leaf → Option β) → Nat → Int → Int → Int → Int → Int → Int → Int → Int → Int → Option β)) {α : Type} (kx : Nat → List Leaf → Option α) (kr : List Leaf → Option α) (again : Int → Int → Int → Int → Int → Int → Int → Int → Int → Option α) (s : Int) (y : Int) (un0 : Int) (un21 : Int) (q1 : Int) (yn1 : Int) (rhat : Int) (q0 : Int) (yn0 : Int) : bits_Div64_24_B  kx kr again s y un0 un21 q1 yn1 rhat q0 yn0 = loopB G14 (bits_Div64_Λd @L17 @L24) true tab Go.Proofs.Tryz.f89.ntmps 0 bits_Div64_24_T [] bits_Div64_24_X bits_Div64_24_R (bodyAt (fb Go.Proofs.Tryz.f89) 1) (fun ls => un_i ls fun s rr => un_i rr fun y rr => un_i rr fun un0 rr => un_i rr fun un21 rr => un_i rr fun q1 rr => un_i rr fun yn1 rr => un_i rr fun rhat rr => un_i rr fun q0 rr => un_i rr fun yn0 rr => un_nil rr (again s y un0 un21 q1 yn1 rhat q0 yn0)) kx kr (instFr bits_Div64_24_T [.i s, .i y, .i un0, .i un21, .i q1, .i yn1, .i rhat, .i q0, .i yn0]) (instH bits_Div64_24_T [.i s, .i y, .i un0, .i un21, .i q1, .i yn1, .i rhat, .i q0, .i yn0]) := by kernel_rfl
theorem bits_Div64_24_lok (E : Nat → Prop) (w0 ws : World) (ρ0 : List Pl) (hk : ρ0.length = 0) : LOk Go.Proofs.Tryz.prog 89 Go.Proofs.Tryz.f89 true E w0 ws Go.Proofs.Tryz.f89.ntmps ρ0 bits_Div64_Λ (bodyAt (fb Go.Proofs.Tryz.f89) 1) := by
  refine lok mixed tab_ok g14 Go.Proofs.Tryz.func89 hk (T := bits_Div64_24_T) (rt := bits_Div64_24_R) (cuts := []) (ex := bits_Div64_24_X) (top := top) (F := bits_Div64_24_F @bits_Div64_24_L) (fun fr H kx kr => by kernel_rfl) ?_ ?_ ?_
  · intro α ls' kx' kr' r' h'
    unfold bits_Div64_24_F at h'
    obtain ⟨s, l'1, rfl, h'1⟩ := un_i_some.1 h'
    obtain ⟨y, l'2, rfl, h'2⟩ := un_i_some.1 h'1
    obtain ⟨un0, l'3, rfl, h'3⟩ := un_i_some.1 h'2
    obtain ⟨un21, l'4, rfl, h'4⟩ := un_i_some.1 h'3
    obtain ⟨q1, l'5, rfl, h'5⟩ := un_i_some.1 h'4
    obtain ⟨yn1, l'6, rfl, h'6⟩ := un_i_some.1 h'5
    obtain ⟨rhat, l'7, rfl, h'7⟩ := un_i_some.1 h'6
    obtain ⟨q0, l'8, rfl, h'8⟩ := un_i_some.1 h'7
    obtain ⟨yn0, l'9, rfl, h'9⟩ := un_i_some.1 h'8
    obtain ⟨rfl, h'Z⟩ := un_nil_some.1 h'9
    cases h'Z
  · intro α n' ls' kx' kr' r' h'
    unfold bits_Div64_24_F at h'
    obtain ⟨s, l'1, rfl, h'1⟩ := un_i_some.1 h'
    obtain ⟨y, l'2, rfl, h'2⟩ := un_i_some.1 h'1
    obtain ⟨un0, l'3, rfl, h'3⟩ := un_i_some.1 h'2
    obtain ⟨un21, l'4, rfl, h'4⟩ := un_i_some.1 h'3
    obtain ⟨q1, l'5, rfl, h'5⟩ := un_i_some.1 h'4
    obtain ⟨yn1, l'6, rfl, h'6⟩ := un_i_some.1 h'5
    obtain ⟨rhat, l'7, rfl, h'7⟩ := un_i_some.1 h'6
    obtain ⟨q0, l'8, rfl, h'8⟩ := un_i_some.1 h'7
    obtain ⟨yn0, l'9, rfl, h'9⟩ := un_i_some.1 h'8
    obtain ⟨rfl, h'Z⟩ := un_nil_some.1 h'9
    exact (bits_Div64_24_e @bits_Div64_17_L @bits_Div64_24_L kx' kr' (bits_Div64_24_L kx' kr' n') s y un0 un21 q1 yn1 rhat q0 yn0).symm.trans h'Z
  · intro b' hb
    rw [show loopsOf (bodyAt (fb Go.Proofs.Tryz.f89) 1) = [] by kernel_rfl] at hb
    cases hb
theorem bits_Div64_17_lok (E : Nat → Prop) (w0 ws : World) (ρ0 : List Pl) (hk : ρ0.length = 0) : LOk Go.Proofs.Tryz.prog 89 Go.Proofs.Tryz.f89 true E w0 ws Go.Proofs.Tryz.f89.ntmps ρ0 bits_Div64_Λ (bodyAt (fb Go.Proofs.Tryz.f89) 0) := by
  refine lok mixed tab_ok g14 Go.Proofs.Tryz.func89 hk (T := bits_Div64_17_T) (rt := bits_Div64_17_R) (cuts := []) (ex := bits_Div64_17_X) (top := top) (F := bits_Div64_17_F @bits_Div64_17_L) (fun fr H kx kr => by kernel_rfl) ?_ ?_ ?_
  · intro α ls' kx' kr' r' h'
    unfold bits_Div64_17_F at h'
    obtain ⟨s, l'1, rfl, h'1⟩ := un_i_some.1 h'
    obtain ⟨y, l'2, rfl, h'2⟩ := un_i_some.1 h'1
    obtain ⟨un0, l'3, rfl, h'3⟩ := un_i_some.1 h'2
    obtain ⟨yn1, l'4, rfl, h'4⟩ := un_i_some.1 h'3
    obtain ⟨yn0, l'5, rfl, h'5⟩ := un_i_some.1 h'4
    obtain ⟨un1, l'6, rfl, h'6⟩ := un_i_some.1 h'5
    obtain ⟨un32, l'7, rfl, h'7⟩ := un_i_some.1 h'6
    obtain ⟨rhat, l'8, rfl, h'8⟩ := un_i_some.1 h'7
    obtain ⟨q1, l'9, rfl, h'9⟩ := un_i_some.1 h'8
    obtain ⟨rfl, h'Z⟩ := un_nil_some.1 h'9
    cases h'Z
  · intro α n' ls' kx' kr' r' h'
    unfold bits_Div64_17_F at h'
    obtain ⟨s, l'1, rfl, h'1⟩ := un_i_some.1 h'
    obtain ⟨y, l'2, rfl, h'2⟩ := un_i_some.1 h'1
    obtain ⟨un0, l'3, rfl, h'3⟩ := un_i_some.1 h'2
    obtain ⟨yn1, l'4, rfl, h'4⟩ := un_i_some.1 h'3
    obtain ⟨yn0, l'5, rfl, h'5⟩ := un_i_some.1 h'4
    obtain ⟨un1, l'6, rfl, h'6⟩ := un_i_some.1 h'5
    obtain ⟨un32, l'7, rfl, h'7⟩ := un_i_some.1 h'6
    obtain ⟨rhat, l'8, rfl, h'8⟩ := un_i_some.1 h'7
    obtain ⟨q1, l'9, rfl, h'9⟩ := un_i_some.1 h'8
    obtain ⟨rfl, h'Z⟩ := un_nil_some.1 h'9
    exact (bits_Div64_17_e @bits_Div64_17_L @bits_Div64_24_L kx' kr' (bits_Div64_17_L kx' kr' n') s y un0 yn1 yn0 un1 un32 rhat q1).symm.trans h'Z
  · intro b' hb
    rw [show loopsOf (bodyAt (fb Go.Proofs.Tryz.f89) 0) = [] by kernel_rfl] at hb
    cases hb
theorem bits_Div64_ed (L17 : ({β : Type} → (Nat → List Leaf → Option β) → (List Leaf → Option β) → Nat → Int → Int → Int → Int → Int → Int → Int → Int → Int → Option β)) (L24 : ({β : Type} → (Nat → List Leaf → Option β) → (List Leaf → Option β) → Nat → Int → Int → Int → Int → Int → Int → Int → Int → Int → Option β)) (hi : Int) (lo : Int) (y : Int) : bits_Div64_d @L17 @L24 hi lo y = den G14 (bits_Div64_Λd @L17 @L24) true tab Go.Proofs.Tryz.f89.ntmps (fun fr H => finish tab 0 Go.Proofs.Tryz.f89.results.toList bits_Div64_out [] fr H some) (fun _ _ _ => none) (fun fr H => finish tab 0 Go.Proofs.Tryz.f89.results.toList bits_Div64_out [] fr H some) 10000 [.code (fb Go.Proofs.Tryz.f89)] (instFr bits_Div64_in [.i hi, .i lo, .i y]) (instH bits_Div64_in [.i hi, .i lo, .i y]) := by kernel_rfl
theorem bits_Div64_e (hi : Int) (lo : Int) (y : Int) : bits_Div64 hi lo y = den G14 bits_Div64_Λ true tab Go.Proofs.Tryz.f89.ntmps (fun fr H => finish tab 0 Go.Proofs.Tryz.f89.results.toList bits_Div64_out [] fr H some) (fun _ _ _ => none) (fun fr H => finish tab 0 Go.Proofs.Tryz.f89.results.toList bits_Div64_out [] fr H some) 10000 [.code (fb Go.Proofs.Tryz.f89)] (instFr bits_Div64_in [.i hi, .i lo, .i y]) (instH bits_Div64_in [.i hi, .i lo, .i y]) := bits_Div64_ed @bits_Div64_17_L @bits_Div64_24_L hi lo y
def bits_Div64_S : List Leaf → Option (List Leaf) := fun ls => un_i ls fun hi rr => un_i rr fun lo rr => un_i rr fun y rr => un_nil rr (bits_Div64 hi lo y)
def bits_Div64_SC : Tld := fun ls k' => un_i ls fun hi rr => un_i rr fun lo rr => un_i rr fun y rr => un_nil rr (out (bits_Div64 hi lo y) k')
theorem bits_Div64_Se (hi : Int) (lo : Int) (y : Int) : bits_Div64_S [.i hi, .i lo, .i y] = bits_Div64 hi lo y := by
  unfold bits_Div64_S
  simp only [un_i_ev, un_b_ev, un_s_ev, un_li_ev, un_lb_ev, un_ls_ev, un_nil_ev]
theorem bits_Div64_says : Says bits_Div64_SC bits_Div64_S := by
  intro β ls' k' r' h'
  unfold bits_Div64_SC at h'
  obtain ⟨hi, l'1, rfl, h'1⟩ := un_i_some.1 h'
  obtain ⟨lo, l'2, rfl, h'2⟩ := un_i_some.1 h'1
  obtain ⟨y, l'3, rfl, h'3⟩ := un_i_some.1 h'2
  obtain ⟨rfl, h'Z⟩ := un_nil_some.1 h'3
  obtain ⟨l', a', b'⟩ := out_some.1 h'Z
  exact ⟨l', (bits_Div64_Se hi lo y).trans a', b'⟩
theorem bits_Div64_c : FnC Go.Proofs.Tryz.prog 89 true 3 0 bits_Div64_in bits_Div64_out bits_Div64_S := by
  refine fn_ok (Λ := bits_Div64_Λ) mixed tab_ok g14 Go.Proofs.Tryz.func89 (by kernel_rfl) (body := fb Go.Proofs.Tryz.f89) rfl (ts := Go.Proofs.Tryz.f89.results.toList) rfl (cuts := []) (by kernel_rfl) (Nat.le_of_ble_eq_true (by kernel_rfl)) (by kernel_rfl) (rt := .tup [.at (.int .u64), .at (.int .u64)]) rfl ?_ ?_
  · intro ls' r' h'
    unfold bits_Div64_S at h'
    obtain ⟨hi, l'1, rfl, h'1⟩ := un_i_some.1 h'
    obtain ⟨lo, l'2, rfl, h'2⟩ := un_i_some.1 h'1
    obtain ⟨y, l'3, rfl, h'3⟩ := un_i_some.1 h'2
    obtain ⟨rfl, h'Z⟩ := un_nil_some.1 h'3
    exact (bits_Div64_e hi lo y).symm.trans h'Z
  · intro E w0 ws ρ0 hk b hb
    rw [show loopsOf (fb Go.Proofs.Tryz.f89) = [(bodyAt (fb Go.Proofs.Tryz.f89) 0), (bodyAt (fb Go.Proofs.Tryz.f89) 1)] by kernel_rfl] at hb
    simp only [List.mem_cons, List.mem_nil_iff, or_false] at hb
    rcases hb with rfl | rfl
    · exact bits_Div64_17_lok E w0 ws ρ0 hk
    · exact bits_Div64_24_lok E w0 ws ρ0 hk
noncomputable def G15 : Env := G14.addP 89 3 bits_Div64_in bits_Div64_out bits_Div64_SC
theorem g15 : EnvOk Go.Proofs.Tryz.prog G15 := EnvOk.addP g14 bits_Div64_c bits_Div64_says

-- ### fix_Add: function 103
def fix_Add_in : Tm := ⟨[], [(0, .w (.at (.int .u64))), (1, .w (.at (.int .u64)))]⟩
def fix_Add_out : Tm := ⟨[], [(0, .w (.at (.int .u64)))]⟩

def fix_Add_Λd : Loops := Loops.none
def fix_Add_Λ : Loops := fix_Add_Λd 

theorem fix_Add_e (a : Int) (b : Int) : fix_Add a b = den G15 fix_Add_Λ true tab Go.Proofs.Tryz.f103.ntmps (fun fr H => finish tab 0 Go.Proofs.Tryz.f103.results.toList fix_Add_out [] fr H some) (fun _ _ _ => none) (fun fr H => finish tab 0 Go.Proofs.Tryz.f103.results.toList fix_Add_out [] fr H some) 10000 [.code (fb Go.Proofs.Tryz.f103)] (instFr fix_Add_in [.i a, .i b]) (instH fix_Add_in [.i a, .i b]) := by kernel_rfl
def fix_Add_S : List Leaf → Option (List Leaf) := fun ls => un_i ls fun a rr => un_i rr fun b rr => un_nil rr (fix_Add a b)
def fix_Add_SC : Tld := fun ls k' => un_i ls fun a rr => un_i rr fun b rr => un_nil rr (out (fix_Add a b) k')
theorem fix_Add_Se (a : Int) (b : Int) : fix_Add_S [.i a, .i b] = fix_Add a b := by
  unfold fix_Add_S
  simp only [un_i_ev, un_b_ev, un_s_ev, un_li_ev, un_lb_ev, un_ls_ev, un_nil_ev]
theorem fix_Add_says : Says fix_Add_SC fix_Add_S := by
  intro β ls' k' r' h'
  unfold fix_Add_SC at h'
  obtain ⟨a, l'1, rfl, h'1⟩ := un_i_some.1 h'
  obtain ⟨b, l'2, rfl, h'2⟩ := un_i_some.1 h'1
  obtain ⟨rfl, h'Z⟩ := un_nil_some.1 h'2
  obtain ⟨l', a', b'⟩ := out_some.1 h'Z
  exact ⟨l', (fix_Add_Se a b).trans a', b'⟩
theorem fix_Add_c : FnC Go.Proofs.Tryz.prog 103 true 2 0 fix_Add_in fix_Add_out fix_Add_S := by
  refine fn_ok (Λ := fix_Add_Λ) mixed tab_ok g15 Go.Proofs.Tryz.func103 (by kernel_rfl) (body := fb Go.Proofs.Tryz.f103) rfl (ts := Go.Proofs.Tryz.f103.results.toList) rfl (cuts := []) (by kernel_rfl) (Nat.le_of_ble_eq_true (by kernel_rfl)) (by kernel_rfl) (rt := .w (.at (.int .u64))) rfl ?_ ?_
  · intro ls' r' h'
    unfold fix_Add_S at h'
    obtain ⟨a, l'1, rfl, h'1⟩ := un_i_some.1 h'
    obtain ⟨b, l'2, rfl, h'2⟩ := un_i_some.1 h'1
    obtain ⟨rfl, h'Z⟩ := un_nil_some.1 h'2
    exact (fix_Add_e a b).symm.trans h'Z
  · intro E w0 ws ρ0 hk b hb
    rw [show loopsOf (fb Go.Proofs.Tryz.f103) = [] by kernel_rfl] at hb
    cases hb
noncomputable def G16 : Env := G15.addP 103 2 fix_Add_in fix_Add_out fix_Add_SC
theorem g16 : EnvOk Go.Proofs.Tryz.prog G16 := EnvOk.addP g15 fix_Add_c fix_Add_says

-- ### fix_Mul: function 80
def fix_Mul_in : Tm := ⟨[], [(0, .w (.at (.int .u64))), (1, .w (.at (.int .u64)))]⟩
def fix_Mul_out : Tm := ⟨[], [(0, .w (.at (.int .u64)))]⟩

def fix_Mul_Λd : Loops := Loops.none
def fix_Mul_Λ : Loops := fix_Mul_Λd 

theorem fix_Mul_e (a : Int) (b : Int) : fix_Mul a b = den G16 fix_Mul_Λ true tab Go.Proofs.Tryz.f80.ntmps (fun fr H => finish tab 0 Go.Proofs.Tryz.f80.results.toList fix_Mul_out [] fr H some) (fun _ _ _ => none) (fun fr H => finish tab 0 Go.Proofs.Tryz.f80.results.toList fix_Mul_out [] fr H some) 10000 [.code (fb Go.Proofs.Tryz.f80)] (instFr fix_Mul_in [.i a, .i b]) (instH fix_Mul_in [.i a, .i b]) := by kernel_rfl
def fix_Mul_S : List Leaf → Option (List Leaf) := fun ls => un_i ls fun a rr => un_i rr fun b rr => un_nil rr (fix_Mul a b)
def fix_Mul_SC : Tld := fun ls k' => un_i ls fun a rr => un_i rr fun b rr => un_nil rr (out (fix_Mul a b) k')
theorem fix_Mul_Se (a : Int) (b : Int) : fix_Mul_S [.i a, .i b] = fix_Mul a b := by
  unfold fix_Mul_S
  simp only [un_i_ev, un_b_ev, un_s_ev, un_li_ev, un_lb_ev, un_ls_ev, un_nil_ev]
theorem fix_Mul_says : Says fix_Mul_SC fix_Mul_S := by
  intro β ls' k' r' h'
  unfold fix_Mul_SC at h'
  obtain ⟨a, l'1, rfl, h'1⟩ := un_i_some.1 h'
  obtain ⟨b, l'2, rfl, h'2⟩ := un_i_some.1 h'1
  obtain ⟨rfl, h'Z⟩ := un_nil_some.1 h'2
  obtain ⟨l', a', b'⟩ := out_some.1 h'Z
  exact ⟨l', (fix_Mul_Se a b).trans a', b'⟩
theorem fix_Mul_c : FnC Go.Proofs.Tryz.prog 80 true 2 0 fix_Mul_in fix_Mul_out fix_Mul_S := by
  refine fn_ok (Λ := fix_Mul_Λ) mixed tab_ok g16 Go.Proofs.Tryz.func80 (by kernel_rfl) (body := fb Go.Proofs.Tryz.f80) rfl (ts := Go.Proofs.Tryz.f80.results.toList) rfl (cuts := []) (by kernel_rfl) (Nat.le_of_ble_eq_true (by kernel_rfl)) (by kernel_rfl) (rt := .w (.at (.int .u64))) rfl ?_ ?_
  · intro ls' r' h'
    unfold fix_Mul_S at h'
    obtain ⟨a, l'1, rfl, h'1⟩ := un_i_some.1 h'
    obtain ⟨b, l'2, rfl, h'2⟩ := un_i_some.1 h'1
    obtain ⟨rfl, h'Z⟩ := un_nil_some.1 h'2
    exact (fix_Mul_e a b).symm.trans h'Z
  · intro E w0 ws ρ0 hk b hb
    rw [show loopsOf (fb Go.Proofs.Tryz.f80) = [] by kernel_rfl] at hb
    cases hb
noncomputable def G17 : Env := G16.addP 80 2 fix_Mul_in fix_Mul_out fix_Mul_SC
theorem g17 : EnvOk Go.Proofs.Tryz.prog G17 := EnvOk.addP g16 fix_Mul_c fix_Mul_says

-- ### fix_MulDiv: function 69
def fix_MulDiv_in : Tm := ⟨[], [(0, .w (.at (.int .u64))), (1, .w (.at (.int .u64))), (2, .w (.at (.int .u64)))]⟩
def fix_MulDiv_out : Tm := ⟨[], [(0, .w (.at (.int .u64)))]⟩

def fix_MulDiv_Λd : Loops := Loops.none
def fix_MulDiv_Λ : Loops := fix_MulDiv_Λd 

theorem fix_MulDiv_e (a : Int) (b : Int) (c : Int) : fix_MulDiv a b c = den G17 fix_MulDiv_Λ true tab Go.Proofs.Tryz.f69.ntmps (fun fr H => finish tab 0 Go.Proofs.Tryz.f69.results.toList fix_MulDiv_out [] fr H some) (fun _ _ _ => none) (fun fr H => finish tab 0 Go.Proofs.Tryz.f69.results.toList fix_MulDiv_out [] fr H some) 10000 [.code (fb Go.Proofs.Tryz.f69)] (instFr fix_MulDiv_in [.i a, .i b, .i c]) (instH fix_MulDiv_in [.i a, .i b, .i c]) := by kernel_rfl
def fix_MulDiv_S : List Leaf → Option (List Leaf) := fun ls => un_i ls fun a rr => un_i rr fun b rr => un_i rr fun c rr => un_nil rr (fix_MulDiv a b c)
def fix_MulDiv_SC : Tld := fun ls k' => un_i ls fun a rr => un_i rr fun b rr => un_i rr fun c rr => un_nil rr (out (fix_MulDiv a b c) k')
theorem fix_MulDiv_Se (a : Int) (b : Int) (c : Int) : fix_MulDiv_S [.i a, .i b, .i c] = fix_MulDiv a b c := by
  unfold fix_MulDiv_S
  simp only [un_i_ev, un_b_ev, un_s_ev, un_li_ev, un_lb_ev, un_ls_ev, un_nil_ev]
theorem fix_MulDiv_says : Says fix_MulDiv_SC fix_MulDiv_S := by
  intro β ls' k' r' h'
  unfold fix_MulDiv_SC at h'
  obtain ⟨a, l'1, rfl, h'1⟩ := un_i_some.1 h'
  obtain ⟨b, l'2, rfl, h'2⟩ := un_i_some.1 h'1
  obtain ⟨c, l'3, rfl, h'3⟩ := un_i_some.1 h'2
  obtain ⟨rfl, h'Z⟩ := un_nil_some.1 h'3
  obtain ⟨l', a', b'⟩ := out_some.1 h'Z
  exact ⟨l', (fix_MulDiv_Se a b c).trans a', b'⟩
theorem fix_MulDiv_c : FnC Go.Proofs.Tryz.prog 69 true 3 0 fix_MulDiv_in fix_MulDiv_out fix_MulDiv_S := by
  refine fn_ok (Λ := fix_MulDiv_Λ) mixed tab_ok g17 Go.Proofs.Tryz.func69 (by kernel_rfl) (body := fb Go.Proofs.Tryz.f69) rfl (ts := Go.Proofs.Tryz.f69.results.toList) rfl (cuts := []) (by kernel_rfl) (Nat.le_of_ble_eq_true (by kernel_rfl)) (by kernel_rfl) (rt := .w (.at (.int .u64))) rfl ?_ ?_
  · intro ls' r' h'
    unfold fix_MulDiv_S at h'
    obtain ⟨a, l'1, rfl, h'1⟩ := un_i_some.1 h'
    obtain ⟨b, l'2, rfl, h'2⟩ := un_i_some.1 h'1
    obtain ⟨c, l'3, rfl, h'3⟩ := un_i_some.1 h'2
    obtain ⟨rfl, h'Z⟩ := un_nil_some.1 h'3
    exact (fix_MulDiv_e a b c).symm.trans h'Z
  · intro E w0 ws ρ0 hk b hb
    rw [show loopsOf (fb Go.Proofs.Tryz.f69) = [] by kernel_rfl] at hb
    cases hb
noncomputable def G18 : Env := G17.addP 69 3 fix_MulDiv_in fix_MulDiv_out fix_MulDiv_SC
theorem g18 : EnvOk Go.Proofs.Tryz.prog G18 := EnvOk.addP g17 fix_MulDiv_c fix_MulDiv_says

-- ### ref_Seq: function 31
def ref_Seq_in : Tm := ⟨[], [(0, .w (.at (.int .u64)))]⟩
def ref_Seq_out : Tm := ⟨[], [(0, .w (.at (.int .u64)))]⟩

def ref_Seq_Λd : Loops := Loops.none
def ref_Seq_Λ : Loops := ref_Seq_Λd 

theorem ref_Seq_e (n2 : Int) : ref_Seq n2 = den G18 ref_Seq_Λ true tab Go.Proofs.Tryz.f31.ntmps (fun fr H => finish tab 0 Go.Proofs.Tryz.f31.results.toList ref_Seq_out [] fr H some) (fun _ _ _ => none) (fun fr H => finish tab 0 Go.Proofs.Tryz.f31.results.toList ref_Seq_out [] fr H some) 10000 [.code (fb Go.Proofs.Tryz.f31)] (instFr ref_Seq_in [.i n2]) (instH ref_Seq_in [.i n2]) := by kernel_rfl
def ref_Seq_S : List Leaf → Option (List Leaf) := fun ls => un_i ls fun n2 rr => un_nil rr (ref_Seq n2)
def ref_Seq_SC : Tld := fun ls k' => un_i ls fun n2 rr => un_nil rr (out (ref_Seq n2) k')
theorem ref_Seq_Se (n2 : Int) : ref_Seq_S [.i n2] = ref_Seq n2 := by
  unfold ref_Seq_S
  simp only [un_i_ev, un_b_ev, un_s_ev, un_li_ev, un_lb_ev, un_ls_ev, un_nil_ev]
theorem ref_Seq_says : Says ref_Seq_SC ref_Seq_S := by
  intro β ls' k' r' h'
  unfold ref_Seq_SC at h'
  obtain ⟨n2, l'1, rfl, h'1⟩ := un_i_some.1 h'
  obtain ⟨rfl, h'Z⟩ := un_nil_some.1 h'1
  obtain ⟨l', a', b'⟩ := out_some.1 h'Z
  exact ⟨l', (ref_Seq_Se n2).trans a', b'⟩
theorem ref_Seq_c : FnC Go.Proofs.Tryz.prog 31 true 1 0 ref_Seq_in ref_Seq_out ref_Seq_S := by
  refine fn_ok (Λ := ref_Seq_Λ) mixed tab_ok g18 Go.Proofs.Tryz.func31 (by kernel_rfl) (body := fb Go.Proofs.Tryz.f31) rfl (ts := Go.Proofs.Tryz.f31.results.toList) rfl (cuts := []) (by kernel_rfl) (Nat.le_of_ble_eq_true (by kernel_rfl)) (by kernel_rfl) (rt := .w (.at (.int .u64))) rfl ?_ ?_
  · intro ls' r' h'
    unfold ref_Seq_S at h'
    obtain ⟨n2, l'1, rfl, h'1⟩ := un_i_some.1 h'
    obtain ⟨rfl, h'Z⟩ := un_nil_some.1 h'1
    exact (ref_Seq_e n2).symm.trans h'Z
  · intro E w0 ws ρ0 hk b hb
    rw [show loopsOf (fb Go.Proofs.Tryz.f31) = [] by kernel_rfl] at hb
    cases hb
noncomputable def G19 : Env := G18.addP 31 1 ref_Seq_in ref_Seq_out ref_Seq_SC
theorem g19 : EnvOk Go.Proofs.Tryz.prog G19 := EnvOk.addP g18 ref_Seq_c ref_Seq_says

-- ### ref_Step: function 18
def ref_Step_in : Tm := ⟨[], [(0, .w (.at (.int .u64))), (1, .w (.at (.int .i64)))]⟩
def ref_Step_out : Tm := ⟨[], [(0, .w (.at (.int .u64)))]⟩

def ref_Step_Λd : Loops := Loops.none
def ref_Step_Λ : Loops := ref_Step_Λd 

theorem ref_Step_e (s : Int) (n2 : Int) : ref_Step s n2 = den G19 ref_Step_Λ true tab Go.Proofs.Tryz.f18.ntmps (fun fr H => finish tab 0 Go.Proofs.Tryz.f18.results.toList ref_Step_out [] fr H some) (fun _ _ _ => none) (fun fr H => finish tab 0 Go.Proofs.Tryz.f18.results.toList ref_Step_out [] fr H some) 10000 [.code (fb Go.Proofs.Tryz.f18)] (instFr ref_Step_in [.i s, .i n2]) (instH ref_Step_in [.i s, .i n2]) := by kernel_rfl
def ref_Step_S : List Leaf → Option (List Leaf) := fun ls => un_i ls fun s rr => un_i rr fun n2 rr => un_nil rr (ref_Step s n2)
def ref_Step_SC : Tld := fun ls k' => un_i ls fun s rr => un_i rr fun n2 rr => un_nil rr (out (ref_Step s n2) k')
theorem ref_Step_Se (s : Int) (n2 : Int) : ref_Step_S [.i s, .i n2] = ref_Step s n2 := by
  unfold ref_Step_S
  simp only [un_i_ev, un_b_ev, un_s_ev, un_li_ev, un_lb_ev, un_ls_ev, un_nil_ev]
theorem ref_Step_says : Says ref_Step_SC ref_Step_S := by
  intro β ls' k' r' h'
  unfold ref_Step_SC at h'
  obtain ⟨s, l'1, rfl, h'1⟩ := un_i_some.1 h'
  obtain ⟨n2, l'2, rfl, h'2⟩ := un_i_some.1 h'1
  obtain ⟨rfl, h'Z⟩ := un_nil_some.1 h'2
  obtain ⟨l', a', b'⟩ := out_some.1 h'Z
  exact ⟨l', (ref_Step_Se s n2).trans a', b'⟩
theorem ref_Step_c : FnC Go.Proofs.Tryz.prog 18 true 2 0 ref_Step_in ref_Step_out ref_Step_S := by
  refine fn_ok (Λ := ref_Step_Λ) mixed tab_ok g19 Go.Proofs.Tryz.func18 (by kernel_rfl) (body := fb Go.Proofs.Tryz.f18) rfl (ts := Go.Proofs.Tryz.f18.results.toList) rfl (cuts := []) (by kernel_rfl) (Nat.le_of_ble_eq_true (by kernel_rfl)) (by kernel_rfl) (rt := .w (.at (.int .u64))) rfl ?_ ?_
  · intro ls' r' h'
    unfold ref_Step_S at h'
    obtain ⟨s, l'1, rfl, h'1⟩ := un_i_some.1 h'
    obtain ⟨n2, l'2, rfl, h'2⟩ := un_i_some.1 h'1
    obtain ⟨rfl, h'Z⟩ := un_nil_some.1 h'2
    exact (ref_Step_e s n2).symm.trans h'Z
  · intro E w0 ws ρ0 hk b hb
    rw [show loopsOf (fb Go.Proofs.Tryz.f18) = [] by kernel_rfl] at hb
    cases hb
noncomputable def G20 : Env := G19.addP 18 2 ref_Step_in ref_Step_out ref_Step_SC
theorem g20 : EnvOk Go.Proofs.Tryz.prog G20 := EnvOk.addP g19 ref_Step_c ref_Step_says

-- ### ref_Wide: function 70
def ref_Wide_in : Tm := ⟨[], [(0, .w (.at (.int .u64))), (1, .w (.at (.int .u64)))]⟩
def ref_Wide_out : Tm := ⟨[], [(0, .tup [.at (.int .u64), .at (.int .u64)])]⟩

def ref_Wide_Λd : Loops := Loops.none
def ref_Wide_Λ : Loops := ref_Wide_Λd 

theorem ref_Wide_e (a : Int) (b : Int) : ref_Wide a b = den G20 ref_Wide_Λ true tab Go.Proofs.Tryz.f70.ntmps (fun fr H => finish tab 0 Go.Proofs.Tryz.f70.results.toList ref_Wide_out [] fr H some) (fun _ _ _ => none) (fun fr H => finish tab 0 Go.Proofs.Tryz.f70.results.toList ref_Wide_out [] fr H some) 10000 [.code (fb Go.Proofs.Tryz.f70)] (instFr ref_Wide_in [.i a, .i b]) (instH ref_Wide_in [.i a, .i b]) := by kernel_rfl
def ref_Wide_S : List Leaf → Option (List Leaf) := fun ls => un_i ls fun a rr => un_i rr fun b rr => un_nil rr (ref_Wide a b)
def ref_Wide_SC : Tld := fun ls k' => un_i ls fun a rr => un_i rr fun b rr => un_nil rr (out (ref_Wide a b) k')
theorem ref_Wide_Se (a : Int) (b : Int) : ref_Wide_S [.i a, .i b] = ref_Wide a b := by
  unfold ref_Wide_S
  simp only [un_i_ev, un_b_ev, un_s_ev, un_li_ev, un_lb_ev, un_ls_ev, un_nil_ev]
theorem ref_Wide_says : Says ref_Wide_SC ref_Wide_S := by
  intro β ls' k' r' h'
  unfold ref_Wide_SC at h'
  obtain ⟨a, l'1, rfl, h'1⟩ := un_i_some.1 h'
  obtain ⟨b, l'2, rfl, h'2⟩ := un_i_some.1 h'1
  obtain ⟨rfl, h'Z⟩ := un_nil_some.1 h'2
  obtain ⟨l', a', b'⟩ := out_some.1 h'Z
  exact ⟨l', (ref_Wide_Se a b).trans a', b'⟩
theorem ref_Wide_c : FnC Go.Proofs.Tryz.prog 70 true 2 0 ref_Wide_in ref_Wide_out ref_Wide_S := by
  refine fn_ok (Λ := ref_Wide_Λ) mixed tab_ok g20 Go.Proofs.Tryz.func70 (by kernel_rfl) (body := fb Go.Proofs.Tryz.f70) rfl (ts := Go.Proofs.Tryz.f70.results.toList) rfl (cuts := []) (by kernel_rfl) (Nat.le_of_ble_eq_true (by kernel_rfl)) (by kernel_rfl) (rt := .tup [.at (.int .u64), .at (.int .u64)]) rfl ?_ ?_
  · intro ls' r' h'
    unfold ref_Wide_S at h'
    obtain ⟨a, l'1, rfl, h'1⟩ := un_i_some.1 h'
    obtain ⟨b, l'2, rfl, h'2⟩ := un_i_some.1 h'1
    obtain ⟨rfl, h'Z⟩ := un_nil_some.1 h'2
    exact (ref_Wide_e a b).symm.trans h'Z
  · intro E w0 ws ρ0 hk b hb
    rw [show loopsOf (fb Go.Proofs.Tryz.f70) = [] by kernel_rfl] at hb
    cases hb
noncomputable def G21 : Env := G20.addP 70 2 ref_Wide_in ref_Wide_out ref_Wide_SC
theorem g21 : EnvOk Go.Proofs.Tryz.prog G21 := EnvOk.addP g20 ref_Wide_c ref_Wide_says

-- ### ref_MulDiv: function 30
def ref_MulDiv_in : Tm := ⟨[], [(0, .w (.at (.int .u64))), (1, .w (.at (.int .u64))), (2, .w (.at (.int .u64)))]⟩
def ref_MulDiv_out : Tm := ⟨[], [(0, .w (.at (.int .u64)))]⟩
def ref_MulDiv_7_T : Tm := ⟨[], [(11, .w (.at (.int .i64))), (2, .w (.at (.int .u64))), (10, .w (.at (.int .u64))), (8, .w (.at (.int .u64))), (9, .w (.at (.int .u64)))]⟩
def ref_MulDiv_7_X0 : Tm := ⟨[], [(10, .w (.at (.int .u64)))]⟩
def ref_MulDiv_7_X : Exits := [(0, (ref_MulDiv_7_X0, []))]
def ref_MulDiv_7_R : Tm := ⟨[], []⟩

def ref_MulDiv_Λd (L7 : ({β : Type} → (Nat → List Leaf → Option β) → (List Leaf → Option β) → Nat → Int → Int → Int → Int → Int → Option β)) : Loops := ⟨fun b fr H kx kr => bif Nat.beq (rid b) 7 then loopE 0 ref_MulDiv_7_T [] ref_MulDiv_7_X ref_MulDiv_7_R (ref_MulDiv_7_F @L7 top) fr H kx kr else none⟩
def ref_MulDiv_Λ : Loops := ref_MulDiv_Λd @ref_MulDiv_7_L
theorem ref_MulDiv_7_e (L7 : ({β : Type} → (Nat → List Leaf → Option β) → (List Leaf → Option β) → Nat → Int → Int → Int → Int → Int → Option β)) {α : Type} (kx : Nat → List Leaf → Option α) (kr : List Leaf → Option α) (again : Int → Int → Int → Int → Int → Option α) (i : Int) (c : Int) (q : Int) (l : Int) (rest : Int) : ref_MulDiv_7_B  kx kr again i c q l rest = loopB G21 (ref_MulDiv_Λd @L7) true tab Go.Proofs.Tryz.f30.ntmps 0 ref_MulDiv_7_T [] ref_MulDiv_7_X ref_MulDiv_7_R (bodyAt (fb Go.Proofs.Tryz.f30) 0) (fun ls => un_i ls fun i rr => un_i rr fun c rr => un_i rr fun q rr => un_i rr fun l rr => un_i rr fun rest rr => un_nil rr (again i c q l rest)) kx kr (instFr ref_MulDiv_7_T [.i i, .i c, .i q, .i l, .i rest]) (instH ref_MulDiv_7_T [.i i, .i c, .i q, .i l, .i rest]) := by kernel_rfl
theorem ref_MulDiv_7_lok (E : Nat → Prop) (w0 ws : World) (ρ0 : List Pl) (hk : ρ0.length = 0) : LOk Go.Proofs.Tryz.prog 30 Go.Proofs.Tryz.f30 true E w0 ws Go.Proofs.Tryz.f30.ntmps ρ0 ref_MulDiv_Λ (bodyAt (fb Go.Proofs.Tryz.f30) 0) := by
  refine lok mixed tab_ok g21 Go.Proofs.Tryz.func30 hk (T := ref_MulDiv_7_T) (rt := ref_MulDiv_7_R) (cuts := []) (ex := ref_MulDiv_7_X) (top := top) (F := ref_MulDiv_7_F @ref_MulDiv_7_L) (fun fr H kx kr => by kernel_rfl) ?_ ?_ ?_
  · intro α ls' kx' kr' r' h'
    unfold ref_MulDiv_7_F at h'
    obtain ⟨i, l'1, rfl, h'1⟩ := un_i_some.1 h'
    obtain ⟨c, l'2, rfl, h'2⟩ := un_i_some.1 h'1
    obtain ⟨q, l'3, rfl, h'3⟩ := un_i_some.1 h'2
    obtain ⟨l, l'4, rfl, h'4⟩ := un_i_some.1 h'3
    obtain ⟨rest, l'5, rfl, h'5⟩ := un_i_some.1 h'4
    obtain ⟨rfl, h'Z⟩ := un_nil_some.1 h'5
    cases h'Z
  · intro α n' ls' kx' kr' r' h'
    unfold ref_MulDiv_7_F at h'
    obtain ⟨i, l'1, rfl, h'1⟩ := un_i_some.1 h'
    obtain ⟨c, l'2, rfl, h'2⟩ := un_i_some.1 h'1
    obtain ⟨q, l'3, rfl, h'3⟩ := un_i_some.1 h'2
    obtain ⟨l, l'4, rfl, h'4⟩ := un_i_some.1 h'3
    obtain ⟨rest, l'5, rfl, h'5⟩ := un_i_some.1 h'4
    obtain ⟨rfl, h'Z⟩ := un_nil_some.1 h'5
    exact (ref_MulDiv_7_e @ref_MulDiv_7_L kx' kr' (ref_MulDiv_7_L kx' kr' n') i c q l rest).symm.trans h'Z
  · intro b' hb
    rw [show loopsOf (bodyAt (fb Go.Proofs.Tryz.f30) 0) = [] by kernel_rfl] at hb
    cases hb
theorem ref_MulDiv_ed (L7 : ({β : Type} → (Nat → List Leaf → Option β) → (List Leaf → Option β) → Nat → Int → Int → Int → Int → Int → Option β)) (a : Int) (b : Int) (c : Int) : ref_MulDiv_d @L7 a b c = den G21 (ref_MulDiv_Λd @L7) true tab Go.Proofs.Tryz.f30.ntmps (fun fr H => finish tab 0 Go.Proofs.Tryz.f30.results.toList ref_MulDiv_out [] fr H some) (fun _ _ _ => none) (fun fr H => finish tab 0 Go.Proofs.Tryz.f30.results.toList ref_MulDiv_out [] fr H some) 10000 [.code (fb Go.Proofs.Tryz.f30)] (instFr ref_MulDiv_in [.i a, .i b, .i c]) (instH ref_MulDiv_in [.i a, .i b, .i c]) := by kernel_rfl
theorem ref_MulDiv_e (a : Int) (b : Int) (c : Int) : ref_MulDiv a b c = den G21 ref_MulDiv_Λ true tab Go.Proofs.Tryz.f30.ntmps (fun fr H => finish tab 0 Go.Proofs.Tryz.f30.results.toList ref_MulDiv_out [] fr H some) (fun _ _ _ => none) (fun fr H => finish tab 0 Go.Proofs.Tryz.f30.results.toList ref_MulDiv_out [] fr H some) 10000 [.code (fb Go.Proofs.Tryz.f30)] (instFr ref_MulDiv_in [.i a, .i b, .i c]) (instH ref_MulDiv_in [.i a, .i b, .i c]) := ref_MulDiv_ed @ref_MulDiv_7_L a b c
def ref_MulDiv_S : List Leaf → Option (List Leaf) := fun ls => un_i ls fun a rr => un_i rr fun b rr => un_i rr fun c rr => un_nil rr (ref_MulDiv a b c)
def ref_MulDiv_SC : Tld := fun ls k' => un_i ls fun a rr => un_i rr fun b rr => un_i rr fun c rr => un_nil rr (out (ref_MulDiv a b c) k')
theorem ref_MulDiv_Se (a : Int) (b : Int) (c : Int) : ref_MulDiv_S [.i a, .i b, .i c] = ref_MulDiv a b c := by
  unfold ref_MulDiv_S
  simp only [un_i_ev, un_b_ev, un_s_ev, un_li_ev, un_lb_ev, un_ls_ev, un_nil_ev]
theorem ref_MulDiv_says : Says ref_MulDiv_SC ref_MulDiv_S := by
  intro β ls' k' r' h'
  unfold ref_MulDiv_SC at h'
  obtain ⟨a, l'1, rfl, h'1⟩ := un_i_some.1 h'
  obtain ⟨b, l'2, rfl, h'2⟩ := un_i_some.1 h'1
  obtain ⟨c, l'3, rfl, h'3⟩ := un_i_some.1 h'2
  obtain ⟨rfl, h'Z⟩ := un_nil_some.1 h'3
  obtain ⟨l', a', b'⟩ := out_some.1 h'Z
  exact ⟨l', (ref_MulDiv_Se a b c).trans a', b'⟩
theorem ref_MulDiv_c : FnC Go.Proofs.Tryz.prog 30 true 3 0 ref_MulDiv_in ref_MulDiv_out ref_MulDiv_S := by
  refine fn_ok (Λ := ref_MulDiv_Λ) mixed tab_ok g21 Go.Proofs.Tryz.func30 (by kernel_rfl) (body := fb Go.Proofs.Tryz.f30) rfl (ts := Go.Proofs.Tryz.f30.results.toList) rfl (cuts := []) (by kernel_rfl) (Nat.le_of_ble_eq_true (by kernel_rfl)) (by kernel_rfl) (rt := .w (.at (.int .u64))) rfl ?_ ?_
  · intro ls' r' h'
    unfold ref_MulDiv_S at h'
    obtain ⟨a, l'1, rfl, h'1⟩ := un_i_some.1 h'
    obtain ⟨b, l'2, rfl, h'2⟩ := un_i_some.1 h'1
    obtain ⟨c, l'3, rfl, h'3⟩ := un_i_some.1 h'2
    obtain ⟨rfl, h'Z⟩ := un_nil_some.1 h'3
    exact (ref_MulDiv_e a b c).symm.trans h'Z
  · intro E w0 ws ρ0 hk b hb
    rw [show loopsOf (fb Go.Proofs.Tryz.f30) = [(bodyAt (fb Go.Proofs.Tryz.f30) 0)] by kernel_rfl] at hb
    simp only [List.mem_cons, List.mem_nil_iff, or_false] at hb
    rcases hb with rfl
    · exact ref_MulDiv_7_lok E w0 ws ρ0 hk
noncomputable def G22 : Env := G21.addP 30 3 ref_MulDiv_in ref_MulDiv_out ref_MulDiv_SC
theorem g22 : EnvOk Go.Proofs.Tryz.prog G22 := EnvOk.addP g21 ref_MulDiv_c ref_MulDiv_says

-- ### ival_Weight: function 102
def ival_Weight_in : Tm := ⟨[], [(0, .w (.at (.int .i64)))]⟩
def ival_Weight_out : Tm := ⟨[], [(0, .w (.at (.int .u64)))]⟩

def ival_Weight_Λd : Loops := Loops.none
def ival_Weight_Λ : Loops := ival_Weight_Λd 

theorem ival_Weight_e (i : Int) : ival_Weight i = den G22 ival_Weight_Λ false tab Go.Proofs.Tryz.f102.ntmps (fun fr H => finish tab 0 Go.Proofs.Tryz.f102.results.toList ival_Weight_out [] fr H some) (fun _ _ _ => none) (fun fr H => finish tab 0 Go.Proofs.Tryz.f102.results.toList ival_Weight_out [] fr H some) 10000 [.code (fb Go.Proofs.Tryz.f102)] (instFr ival_Weight_in [.i i]) (instH ival_Weight_in [.i i]) := by kernel_rfl
def ival_Weight_S : List Leaf → Option (List Leaf) := fun ls => un_i ls fun i rr => un_nil rr (ival_Weight i)
def ival_Weight_SC : Tld := fun ls k' => un_i ls fun i rr => un_nil rr (out (ival_Weight i) k')
theorem ival_Weight_Se (i : Int) : ival_Weight_S [.i i] = ival_Weight i := by
  unfold ival_Weight_S
  simp only [un_i_ev, un_b_ev, un_s_ev, un_li_ev, un_lb_ev, un_ls_ev, un_nil_ev]
theorem ival_Weight_says : Says ival_Weight_SC ival_Weight_S := by
  intro β ls' k' r' h'
  unfold ival_Weight_SC at h'
  obtain ⟨i, l'1, rfl, h'1⟩ := un_i_some.1 h'
  obtain ⟨rfl, h'Z⟩ := un_nil_some.1 h'1
  obtain ⟨l', a', b'⟩ := out_some.1 h'Z
  exact ⟨l', (ival_Weight_Se i).trans a', b'⟩
theorem ival_Weight_c : FnC Go.Proofs.Tryz.prog 102 false 1 0 ival_Weight_in ival_Weight_out ival_Weight_S := by
  refine fn_ok (Λ := ival_Weight_Λ) mixed tab_ok g22 Go.Proofs.Tryz.func102 (by kernel_rfl) (body := fb Go.Proofs.Tryz.f102) rfl (ts := Go.Proofs.Tryz.f102.results.toList) rfl (cuts := []) (by kernel_rfl) (Nat.le_of_ble_eq_true (by kernel_rfl)) (by kernel_rfl) (rt := .w (.at (.int .u64))) rfl ?_ ?_
  · intro ls' r' h'
    unfold ival_Weight_S at h'
    obtain ⟨i, l'1, rfl, h'1⟩ := un_i_some.1 h'
    obtain ⟨rfl, h'Z⟩ := un_nil_some.1 h'1
    exact (ival_Weight_e i).symm.trans h'Z
  · intro E w0 ws ρ0 hk b hb
    rw [show loopsOf (fb Go.Proofs.Tryz.f102) = [] by kernel_rfl] at hb
    cases hb
noncomputable def G23 : Env := G22.addE 102 1 ival_Weight_in ival_Weight_out ival_Weight_SC
theorem g23 : EnvOk Go.Proofs.Tryz.prog G23 := EnvOk.addE g22 ival_Weight_c ival_Weight_says

-- ### ival_sums: function 83
def ival_sums_in : Tm := ⟨[.ro 22 1 [.int .u64]], [(0, .w (.at (.int .u64))), (1, .w (.at (.all 0 1)))]⟩
def ival_sums_out : Tm := ⟨[.dead], [(0, .tup [.at (.int .u64), .at (.int .u64)])]⟩
def ival_sums_4_T : Tm := ⟨[.ro 22 1 [.int .u64]], [(20, .w (.at (.int .i64))), (6, .w (.at (.int .u64))), (1, .w (.at (.sl 0 1))), (7, .w (.at (.int .u64))), (4, .w (.at (.int .u64))), (18, .w (.at (.sl 0 1))), (19, .w (.at (.int .i64)))]⟩
def ival_sums_4_X0 : Tm := ⟨[.ro 22 1 [.int .u64]], [(7, .w (.at (.int .u64))), (6, .w (.at (.int .u64))), (4, .w (.at (.int .u64)))]⟩
def ival_sums_4_X : Exits := [(0, (ival_sums_4_X0, []))]
def ival_sums_4_R : Tm := ⟨[], []⟩

def ival_sums_Λd (L4 : ({β : Type} → (Nat → List Leaf → Option β) → (List Leaf → Option β) → Nat → List Int → Int → Int → Int → Int → Int → Int → Int → Int → Int → Option β)) : Loops := ⟨fun b fr H kx kr => bif Nat.beq (rid b) 4 then loopE 1 ival_sums_4_T [] ival_sums_4_X ival_sums_4_R (ival_sums_4_F @L4 top) fr H kx kr else none⟩
def ival_sums_Λ : Loops := ival_sums_Λd @ival_sums_4_L
theorem ival_sums_4_e (L4 : ({β : Type} → (Nat → List Leaf → Option β) → (List Leaf → Option β) → Nat → List Int → Int → Int → Int → Int → Int → Int → Int → Int → Int → Option β)) {α : Type} (kx : Nat → List Leaf → Option α) (kr : List Leaf → Option α) (again : List Int → Int → Int → Int → Int → Int → Int → Int → Int → Int → Option α) (closed : List Int) (t20 : Int) (a : Int) (closed_o : Int) (closed_n : Int) (b : Int) (w : Int) (t18_o : Int) (t18_n : Int) (t19 : Int) : ival_sums_4_B  kx kr again closed t20 a closed_o closed_n b w t18_o t18_n t19 = loopB G23 (ival_sums_Λd @L4) false tab Go.Proofs.Tryz.f83.ntmps 1 ival_sums_4_T [] ival_sums_4_X ival_sums_4_R (bodyAt (fb Go.Proofs.Tryz.f83) 0) (fun ls => un_li ls fun closed rr => un_i rr fun t20 rr => un_i rr fun a rr => un_i rr fun closed_o rr => un_i rr fun closed_n rr => un_i rr fun b rr => un_i rr fun w rr => un_i rr fun t18_o rr => un_i rr fun t18_n rr => un_i rr fun t19 rr => un_nil rr (again closed t20 a closed_o closed_n b w t18_o t18_n t19)) kx kr (instFr ival_sums_4_T [.li closed, .i t20, .i a, .i closed_o, .i closed_n, .i b, .i w, .i t18_o, .i t18_n, .i t19]) (instH ival_sums_4_T [.li closed, .i t20, .i a, .i closed_o, .i closed_n, .i b, .i w, .i t18_o, .i t18_n, .i t19]) := by kernel_rfl
theorem ival_sums_4_lok (E : Nat → Prop) (w0 ws : World) (ρ0 : List Pl) (hk : ρ0.length = 1) : LOk Go.Proofs.Tryz.prog 83 Go.Proofs.Tryz.f83 false E w0 ws Go.Proofs.Tryz.f83.ntmps ρ0 ival_sums_Λ (bodyAt (fb Go.Proofs.Tryz.f83) 0) := by
  refine lok mixed tab_ok g23 Go.Proofs.Tryz.func83 hk (T := ival_sums_4_T) (rt := ival_sums_4_R) (cuts := []) (ex := ival_sums_4_X) (top := top) (F := ival_sums_4_F @ival_sums_4_L) (fun fr H kx kr => by kernel_rfl) ?_ ?_ ?_
  · intro α ls' kx' kr' r' h'
    unfold ival_sums_4_F at h'
    obtain ⟨closed, l'1, rfl, h'1⟩ := un_li_some.1 h'
    obtain ⟨t20, l'2, rfl, h'2⟩ := un_i_some.1 h'1
    obtain ⟨a, l'3, rfl, h'3⟩ := un_i_some.1 h'2
    obtain ⟨closed_o, l'4, rfl, h'4⟩ := un_i_some.1 h'3
    obtain ⟨closed_n, l'5, rfl, h'5⟩ := un_i_some.1 h'4
    obtain ⟨b, l'6, rfl, h'6⟩ := un_i_some.1 h'5
    obtain ⟨w, l'7, rfl, h'7⟩ := un_i_some.1 h'6
    obtain ⟨t18_o, l'8, rfl, h'8⟩ := un_i_some.1 h'7
    obtain ⟨t18_n, l'9, rfl, h'9⟩ := un_i_some.1 h'8
    obtain ⟨t19, l'10, rfl, h'10⟩ := un_i_some.1 h'9
    obtain ⟨rfl, h'Z⟩ := un_nil_some.1 h'10
    cases h'Z
  · intro α n' ls' kx' kr' r' h'
    unfold ival_sums_4_F at h'
    obtain ⟨closed, l'1, rfl, h'1⟩ := un_li_some.1 h'
    obtain ⟨t20, l'2, rfl, h'2⟩ := un_i_some.1 h'1
    obtain ⟨a, l'3, rfl, h'3⟩ := un_i_some.1 h'2
    obtain ⟨closed_o, l'4, rfl, h'4⟩ := un_i_some.1 h'3
    obtain ⟨closed_n, l'5, rfl, h'5⟩ := un_i_some.1 h'4
    obtain ⟨b, l'6, rfl, h'6⟩ := un_i_some.1 h'5
    obtain ⟨w, l'7, rfl, h'7⟩ := un_i_some.1 h'6
    obtain ⟨t18_o, l'8, rfl, h'8⟩ := un_i_some.1 h'7
    obtain ⟨t18_n, l'9, rfl, h'9⟩ := un_i_some.1 h'8
    obtain ⟨t19, l'10, rfl, h'10⟩ := un_i_some.1 h'9
    obtain ⟨rfl, h'Z⟩ := un_nil_some.1 h'10
    exact (ival_sums_4_e @ival_sums_4_L kx' kr' (ival_sums_4_L kx' kr' n') closed t20 a closed_o closed_n b w t18_o t18_n t19).symm.trans h'Z
  · intro b' hb
    rw [show loopsOf (bodyAt (fb Go.Proofs.Tryz.f83) 0) = [] by kernel_rfl] at hb
    cases hb
theorem ival_sums_ed (L4 : ({β : Type} → (Nat → List Leaf → Option β) → (List Leaf → Option β) → Nat → List Int → Int → Int → Int → Int → Int → Int → Int → Int → Int → Option β)) (closed : List Int) (open2 : Int) : ival_sums_d @L4 closed open2 = den G23 (ival_sums_Λd @L4) false tab Go.Proofs.Tryz.f83.ntmps (fun fr H => finish tab 1 Go.Proofs.Tryz.f83.results.toList ival_sums_out [] fr H some) (fun _ _ _ => none) (fun fr H => finish tab 1 Go.Proofs.Tryz.f83.results.toList ival_sums_out [] fr H some) 10000 [.code (fb Go.Proofs.Tryz.f83)] (instFr ival_sums_in [.li closed, .i open2]) (instH ival_sums_in [.li closed, .i open2]) := by kernel_rfl
theorem ival_sums_e (closed : List Int) (open2 : Int) : ival_sums closed open2 = den G23 ival_sums_Λ false tab Go.Proofs.Tryz.f83.ntmps (fun fr H => finish tab 1 Go.Proofs.Tryz.f83.results.toList ival_sums_out [] fr H some) (fun _ _ _ => none) (fun fr H => finish tab 1 Go.Proofs.Tryz.f83.results.toList ival_sums_out [] fr H some) 10000 [.code (fb Go.Proofs.Tryz.f83)] (instFr ival_sums_in [.li closed, .i open2]) (instH ival_sums_in [.li closed, .i open2]) := ival_sums_ed @ival_sums_4_L closed open2
def ival_sums_S : List Leaf → Option (List Leaf) := fun ls => un_li ls fun closed rr => un_i rr fun open2 rr => un_nil rr (ival_sums closed open2)
def ival_sums_SC : Tld := fun ls k' => un_li ls fun closed rr => un_i rr fun open2 rr => un_nil rr (out (ival_sums closed open2) k')
theorem ival_sums_Se (closed : List Int) (open2 : Int) : ival_sums_S [.li closed, .i open2] = ival_sums closed open2 := by
  unfold ival_sums_S
  simp only [un_i_ev, un_b_ev, un_s_ev, un_li_ev, un_lb_ev, un_ls_ev, un_nil_ev]
theorem ival_sums_says : Says ival_sums_SC ival_sums_S := by
  intro β ls' k' r' h'
  unfold ival_sums_SC at h'
  obtain ⟨closed, l'1, rfl, h'1⟩ := un_li_some.1 h'
  obtain ⟨open2, l'2, rfl, h'2⟩ := un_i_some.1 h'1
  obtain ⟨rfl, h'Z⟩ := un_nil_some.1 h'2
  obtain ⟨l', a', b'⟩ := out_some.1 h'Z
  exact ⟨l', (ival_sums_Se closed open2).trans a', b'⟩
theorem ival_sums_c : FnC Go.Proofs.Tryz.prog 83 false 2 1 ival_sums_in ival_sums_out ival_sums_S := by
  refine fn_ok (Λ := ival_sums_Λ) mixed tab_ok g23 Go.Proofs.Tryz.func83 (by kernel_rfl) (body := fb Go.Proofs.Tryz.f83) rfl (ts := Go.Proofs.Tryz.f83.results.toList) rfl (cuts := []) (by kernel_rfl) (Nat.le_of_ble_eq_true (by kernel_rfl)) (by kernel_rfl) (rt := .tup [.at (.int .u64), .at (.int .u64)]) rfl ?_ ?_
  · intro ls' r' h'
    unfold ival_sums_S at h'
    obtain ⟨closed, l'1, rfl, h'1⟩ := un_li_some.1 h'
    obtain ⟨open2, l'2, rfl, h'2⟩ := un_i_some.1 h'1
    obtain ⟨rfl, h'Z⟩ := un_nil_some.1 h'2
    exact (ival_sums_e closed open2).symm.trans h'Z
  · intro E w0 ws ρ0 hk b hb
    rw [show loopsOf (fb Go.Proofs.Tryz.f83) = [(bodyAt (fb Go.Proofs.Tryz.f83) 0)] by kernel_rfl] at hb
    simp only [List.mem_cons, List.mem_nil_iff, or_false] at hb
    rcases hb with rfl
    · exact ival_sums_4_lok E w0 ws ρ0 hk
noncomputable def G24 : Env := G23.addE 83 2 ival_sums_in ival_sums_out ival_sums_SC
theorem g24 : EnvOk Go.Proofs.Tryz.prog G24 := EnvOk.addE g23 ival_sums_c ival_sums_says

-- ### ival_Rate: function 58
def ival_Rate_in : Tm := ⟨[.ro 22 1 [.int .u64]], [(0, .w (.at (.int .u64))), (1, .w (.at (.all 0 1)))]⟩
def ival_Rate_out : Tm := ⟨[.dead], [(0, .w (.at (.int .u64)))]⟩

def ival_Rate_Λd : Loops := Loops.none
def ival_Rate_Λ : Loops := ival_Rate_Λd 

theorem ival_Rate_e (closed : List Int) (open2 : Int) : ival_Rate closed open2 = den G24 ival_Rate_Λ false tab Go.Proofs.Tryz.f58.ntmps (fun fr H => finish tab 1 Go.Proofs.Tryz.f58.results.toList ival_Rate_out [] fr H some) (fun _ _ _ => none) (fun fr H => finish tab 1 Go.Proofs.Tryz.f58.results.toList ival_Rate_out [] fr H some) 10000 [.code (fb Go.Proofs.Tryz.f58)] (instFr ival_Rate_in [.li closed, .i open2]) (instH ival_Rate_in [.li closed, .i open2]) := by kernel_rfl
def ival_Rate_S : List Leaf → Option (List Leaf) := fun ls => un_li ls fun closed rr => un_i rr fun open2 rr => un_nil rr (ival_Rate closed open2)
def ival_Rate_SC : Tld := fun ls k' => un_li ls fun closed rr => un_i rr fun open2 rr => un_nil rr (out (ival_Rate closed open2) k')
theorem ival_Rate_Se (closed : List Int) (open2 : Int) : ival_Rate_S [.li closed, .i open2] = ival_Rate closed open2 := by
  unfold ival_Rate_S
  simp only [un_i_ev, un_b_ev, un_s_ev, un_li_ev, un_lb_ev, un_ls_ev, un_nil_ev]
theorem ival_Rate_says : Says ival_Rate_SC ival_Rate_S := by
  intro β ls' k' r' h'
  unfold ival_Rate_SC at h'
  obtain ⟨closed, l'1, rfl, h'1⟩ := un_li_some.1 h'
  obtain ⟨open2, l'2, rfl, h'2⟩ := un_i_some.1 h'1
  obtain ⟨rfl, h'Z⟩ := un_nil_some.1 h'2
  obtain ⟨l', a', b'⟩ := out_some.1 h'Z
  exact ⟨l', (ival_Rate_Se closed open2).trans a', b'⟩
theorem ival_Rate_c : FnC Go.Proofs.Tryz.prog 58 false 2 1 ival_Rate_in ival_Rate_out ival_Rate_S := by
  refine fn_ok (Λ := ival_Rate_Λ) mixed tab_ok g24 Go.Proofs.Tryz.func58 (by kernel_rfl) (body := fb Go.Proofs.Tryz.f58) rfl (ts := Go.Proofs.Tryz.f58.results.toList) rfl (cuts := []) (by kernel_rfl) (Nat.le_of_ble_eq_true (by kernel_rfl)) (by kernel_rfl) (rt := .w (.at (.int .u64))) rfl ?_ ?_
  · intro ls' r' h'
    unfold ival_Rate_S at h'
    obtain ⟨closed, l'1, rfl, h'1⟩ := un_li_some.1 h'
    obtain ⟨open2, l'2, rfl, h'2⟩ := un_i_some.1 h'1
    obtain ⟨rfl, h'Z⟩ := un_nil_some.1 h'2
    exact (ival_Rate_e closed open2).symm.trans h'Z
  · intro E w0 ws ρ0 hk b hb
    rw [show loopsOf (fb Go.Proofs.Tryz.f58) = [] by kernel_rfl] at hb
    cases hb
noncomputable def G25 : Env := G24.addE 58 2 ival_Rate_in ival_Rate_out ival_Rate_SC
theorem g25 : EnvOk Go.Proofs.Tryz.prog G25 := EnvOk.addE g24 ival_Rate_c ival_Rate_says
end Go.Sx.T

