import Derived.Test.YtdjnfdcoilgegaaGreatDoorYFixSpec
import Derived.Test.YtdjnfdcoilgegaaGreatDoorYBeg3
set_option linter.all false
namespace Go.Sx.T
open Go Go.Sx Go.Proofs
set_option maxRecDepth 100000
noncomputable def G8 : Env := G7.addE 108 2 drop_in drop_out drop_SC
theorem g8 : EnvOk Go.Proofs.Tryz.prog G8 := EnvOk.addE g7 got_drop_c drop_says
noncomputable def G9 : Env := G8.addK 9 (.at (.raw (.bool true)))
theorem g9 : EnvOk Go.Proofs.Tryz.prog G9 := EnvOk.addK g8 beg_fn2 rfl beg_gives2

-- ### bits_Mul64: function 105
def bits_Mul64_in : Tm := ⟨[], [(0, .w (.at (.int .u64))), (1, .w (.at (.int .u64)))]⟩
def bits_Mul64_out : Tm := ⟨[], [(0, .tup [.at (.int .u64), .at (.int .u64)])]⟩

def bits_Mul64_Λd : Loops := Loops.none
def bits_Mul64_Λ : Loops := bits_Mul64_Λd 

theorem bits_Mul64_e (x : Int) (y : Int) : bits_Mul64 x y = den G9 bits_Mul64_Λ true tab Go.Proofs.Tryz.f105.ntmps (fun fr H => finish tab 0 Go.Proofs.Tryz.f105.results.toList bits_Mul64_out [] fr H some) (fun _ _ _ => none) (fun fr H => finish tab 0 Go.Proofs.Tryz.f105.results.toList bits_Mul64_out [] fr H some) 10000 [.code (fb Go.Proofs.Tryz.f105)] (instFr bits_Mul64_in [.i x, .i y]) (instH bits_Mul64_in [.i x, .i y]) := by kernel_rfl
def bits_Mul64_S : List Leaf → Option (List Leaf) := fun ls => un_i ls fun x rr => un_i rr fun y rr => un_nil rr (bits_Mul64 x y)
def bits_Mul64_SC : Tld := fun ls k' => un_i ls fun x rr => un_i rr fun y rr => un_nil rr (out (bits_Mul64 x y) k')
theorem bits_Mul64_Se (x : Int) (y : Int) : bits_Mul64_S [.i x, .i y] = bits_Mul64 x y := by
  unfold bits_Mul64_S
  simp only [un_i_ev, un_b_ev, un_s_ev, un_li_ev, un_lb_ev, un_ls_ev, un_nil_ev]
theorem bits_Mul64_says : Says bits_Mul64_SC bits_Mul64_S := by
  intro β ls' k' r' h'
  unfold bits_Mul64_SC at h'
  obtain ⟨x, l'1, rfl, h'1⟩ := un_i_some.1 h'
  obtain ⟨y, l'2, rfl, h'2⟩ := un_i_some.1 h'1
  obtain ⟨rfl, h'Z⟩ := un_nil_some.1 h'2
  obtain ⟨l', a', b'⟩ := out_some.1 h'Z
  exact ⟨l', (bits_Mul64_Se x y).trans a', b'⟩
theorem bits_Mul64_c : FnC Go.Proofs.Tryz.prog 105 true 2 0 bits_Mul64_in bits_Mul64_out bits_Mul64_S := by
  refine fn_ok (Λ := bits_Mul64_Λ) mixed tab_ok g9 Go.Proofs.Tryz.func105 (by kernel_rfl) (body := fb Go.Proofs.Tryz.f105) rfl (ts := Go.Proofs.Tryz.f105.results.toList) rfl (cuts := []) (by kernel_rfl) (Nat.le_of_ble_eq_true (by kernel_rfl)) (by kernel_rfl) (rt := .tup [.at (.int .u64), .at (.int .u64)]) rfl ?_ ?_
  · intro ls' r' h'
    unfold bits_Mul64_S at h'
    obtain ⟨x, l'1, rfl, h'1⟩ := un_i_some.1 h'
    obtain ⟨y, l'2, rfl, h'2⟩ := un_i_some.1 h'1
    obtain ⟨rfl, h'Z⟩ := un_nil_some.1 h'2
    exact (bits_Mul64_e x y).symm.trans h'Z
  · intro E w0 ws ρ0 hk b hb
    rw [show loopsOf (fb Go.Proofs.Tryz.f105) = [] by kernel_rfl] at hb
    cases hb
noncomputable def G10 : Env := G9.addP 105 2 bits_Mul64_in bits_Mul64_out bits_Mul64_SC
theorem g10 : EnvOk Go.Proofs.Tryz.prog G10 := EnvOk.addP g9 bits_Mul64_c bits_Mul64_says

-- ### bits_Mul: function 145
def bits_Mul_in : Tm := ⟨[], [(0, .w (.at (.int .u64))), (1, .w (.at (.int .u64)))]⟩
def bits_Mul_out : Tm := ⟨[], [(0, .tup [.at (.int .u64), .at (.int .u64)])]⟩

def bits_Mul_Λd : Loops := Loops.none
def bits_Mul_Λ : Loops := bits_Mul_Λd 

theorem bits_Mul_e (x : Int) (y : Int) : bits_Mul x y = den G10 bits_Mul_Λ true tab Go.Proofs.Tryz.f145.ntmps (fun fr H => finish tab 0 Go.Proofs.Tryz.f145.results.toList bits_Mul_out [] fr H some) (fun _ _ _ => none) (fun fr H => finish tab 0 Go.Proofs.Tryz.f145.results.toList bits_Mul_out [] fr H some) 10000 [.code (fb Go.Proofs.Tryz.f145)] (instFr bits_Mul_in [.i x, .i y]) (instH bits_Mul_in [.i x, .i y]) := by kernel_rfl
def bits_Mul_S : List Leaf → Option (List Leaf) := fun ls => un_i ls fun x rr => un_i rr fun y rr => un_nil rr (bits_Mul x y)
def bits_Mul_SC : Tld := fun ls k' => un_i ls fun x rr => un_i rr fun y rr => un_nil rr (out (bits_Mul x y) k')
theorem bits_Mul_Se (x : Int) (y : Int) : bits_Mul_S [.i x, .i y] = bits_Mul x y := by
  unfold bits_Mul_S
  simp only [un_i_ev, un_b_ev, un_s_ev, un_li_ev, un_lb_ev, un_ls_ev, un_nil_ev]
theorem bits_Mul_says : Says bits_Mul_SC bits_Mul_S := by
  intro β ls' k' r' h'
  unfold bits_Mul_SC at h'
  obtain ⟨x, l'1, rfl, h'1⟩ := un_i_some.1 h'
  obtain ⟨y, l'2, rfl, h'2⟩ := un_i_some.1 h'1
  obtain ⟨rfl, h'Z⟩ := un_nil_some.1 h'2
  obtain ⟨l', a', b'⟩ := out_some.1 h'Z
  exact ⟨l', (bits_Mul_Se x y).trans a', b'⟩
theorem bits_Mul_c : FnC Go.Proofs.Tryz.prog 145 true 2 0 bits_Mul_in bits_Mul_out bits_Mul_S := by
  refine fn_ok (Λ := bits_Mul_Λ) mixed tab_ok g10 Go.Proofs.Tryz.func145 (by kernel_rfl) (body := fb Go.Proofs.Tryz.f145) rfl (ts := Go.Proofs.Tryz.f145.results.toList) rfl (cuts := []) (by kernel_rfl) (Nat.le_of_ble_eq_true (by kernel_rfl)) (by kernel_rfl) (rt := .tup [.at (.int .u64), .at (.int .u64)]) rfl ?_ ?_
  · intro ls' r' h'
    unfold bits_Mul_S at h'
    obtain ⟨x, l'1, rfl, h'1⟩ := un_i_some.1 h'
    obtain ⟨y, l'2, rfl, h'2⟩ := un_i_some.1 h'1
    obtain ⟨rfl, h'Z⟩ := un_nil_some.1 h'2
    exact (bits_Mul_e x y).symm.trans h'Z
  · intro E w0 ws ρ0 hk b hb
    rw [show loopsOf (fb Go.Proofs.Tryz.f145) = [] by kernel_rfl] at hb
    cases hb
noncomputable def G11 : Env := G10.addP 145 2 bits_Mul_in bits_Mul_out bits_Mul_SC
theorem g11 : EnvOk Go.Proofs.Tryz.prog G11 := EnvOk.addP g10 bits_Mul_c bits_Mul_says

-- ### bits_Len64: function 170
def bits_Len64_in : Tm := ⟨[], [(0, .w (.at (.int .u64)))]⟩
def bits_Len64_out : Tm := ⟨[], [(0, .w (.at (.int .i64)))]⟩

def bits_Len64_Λd : Loops := Loops.none
def bits_Len64_Λ : Loops := bits_Len64_Λd 

theorem bits_Len64_e (x : Int) : bits_Len64 x = den G11 bits_Len64_Λ true tab Go.Proofs.Tryz.f170.ntmps (fun fr H => finish tab 0 Go.Proofs.Tryz.f170.results.toList bits_Len64_out [] fr H some) (fun _ _ _ => none) (fun fr H => finish tab 0 Go.Proofs.Tryz.f170.results.toList bits_Len64_out [] fr H some) 10000 [.code (fb Go.Proofs.Tryz.f170)] (instFr bits_Len64_in [.i x]) (instH bits_Len64_in [.i x]) := by kernel_rfl
def bits_Len64_S : List Leaf → Option (List Leaf) := fun ls => un_i ls fun x rr => un_nil rr (bits_Len64 x)
def bits_Len64_SC : Tld := fun ls k' => un_i ls fun x rr => un_nil rr (out (bits_Len64 x) k')
theorem bits_Len64_Se (x : Int) : bits_Len64_S [.i x] = bits_Len64 x := by
  unfold bits_Len64_S
  simp only [un_i_ev, un_b_ev, un_s_ev, un_li_ev, un_lb_ev, un_ls_ev, un_nil_ev]
theorem bits_Len64_says : Says bits_Len64_SC bits_Len64_S := by
  intro β ls' k' r' h'
  unfold bits_Len64_SC at h'
  obtain ⟨x, l'1, rfl, h'1⟩ := un_i_some.1 h'
  obtain ⟨rfl, h'Z⟩ := un_nil_some.1 h'1
  obtain ⟨l', a', b'⟩ := out_some.1 h'Z
  exact ⟨l', (bits_Len64_Se x).trans a', b'⟩
theorem bits_Len64_c : FnC Go.Proofs.Tryz.prog 170 true 1 0 bits_Len64_in bits_Len64_out bits_Len64_S := by
  refine fn_ok (Λ := bits_Len64_Λ) mixed tab_ok g11 Go.Proofs.Tryz.func170 (by kernel_rfl) (body := fb Go.Proofs.Tryz.f170) rfl (ts := Go.Proofs.Tryz.f170.results.toList) rfl (cuts := []) (by kernel_rfl) (Nat.le_of_ble_eq_true (by kernel_rfl)) (by kernel_rfl) (rt := .w (.at (.int .i64))) rfl ?_ ?_
  · intro ls' r' h'
    unfold bits_Len64_S at h'
    obtain ⟨x, l'1, rfl, h'1⟩ := un_i_some.1 h'
    obtain ⟨rfl, h'Z⟩ := un_nil_some.1 h'1
    exact (bits_Len64_e x).symm.trans h'Z
  · intro E w0 ws ρ0 hk b hb
    rw [show loopsOf (fb Go.Proofs.Tryz.f170) = [] by kernel_rfl] at hb
    cases hb
noncomputable def G12 : Env := G11.addP 170 1 bits_Len64_in bits_Len64_out bits_Len64_SC
theorem g12 : EnvOk Go.Proofs.Tryz.prog G12 := EnvOk.addP g11 bits_Len64_c bits_Len64_says

-- ### bits_LeadingZeros64: function 149
def bits_LeadingZeros64_in : Tm := ⟨[], [(0, .w (.at (.int .u64)))]⟩
def bits_LeadingZeros64_out : Tm := ⟨[], [(0, .w (.at (.int .i64)))]⟩

def bits_LeadingZeros64_Λd : Loops := Loops.none
def bits_LeadingZeros64_Λ : Loops := bits_LeadingZeros64_Λd 

theorem bits_LeadingZeros64_e (x : Int) : bits_LeadingZeros64 x = den G12 bits_LeadingZeros64_Λ true tab Go.Proofs.Tryz.f149.ntmps (fun fr H => finish tab 0 Go.Proofs.Tryz.f149.results.toList bits_LeadingZeros64_out [] fr H some) (fun _ _ _ => none) (fun fr H => finish tab 0 Go.Proofs.Tryz.f149.results.toList bits_LeadingZeros64_out [] fr H some) 10000 [.code (fb Go.Proofs.Tryz.f149)] (instFr bits_LeadingZeros64_in [.i x]) (instH bits_LeadingZeros64_in [.i x]) := by kernel_rfl
def bits_LeadingZeros64_S : List Leaf → Option (List Leaf) := fun ls => un_i ls fun x rr => un_nil rr (bits_LeadingZeros64 x)
def bits_LeadingZeros64_SC : Tld := fun ls k' => un_i ls fun x rr => un_nil rr (out (bits_LeadingZeros64 x) k')
theorem bits_LeadingZeros64_Se (x : Int) : bits_LeadingZeros64_S [.i x] = bits_LeadingZeros64 x := by
  unfold bits_LeadingZeros64_S
  simp only [un_i_ev, un_b_ev, un_s_ev, un_li_ev, un_lb_ev, un_ls_ev, un_nil_ev]
theorem bits_LeadingZeros64_says : Says bits_LeadingZeros64_SC bits_LeadingZeros64_S := by
  intro β ls' k' r' h'
  unfold bits_LeadingZeros64_SC at h'
  obtain ⟨x, l'1, rfl, h'1⟩ := un_i_some.1 h'
  obtain ⟨rfl, h'Z⟩ := un_nil_some.1 h'1
  obtain ⟨l', a', b'⟩ := out_some.1 h'Z
  exact ⟨l', (bits_LeadingZeros64_Se x).trans a', b'⟩
theorem bits_LeadingZeros64_c : FnC Go.Proofs.Tryz.prog 149 true 1 0 bits_LeadingZeros64_in bits_LeadingZeros64_out bits_LeadingZeros64_S := by
  refine fn_ok (Λ := bits_LeadingZeros64_Λ) mixed tab_ok g12 Go.Proofs.Tryz.func149 (by kernel_rfl) (body := fb Go.Proofs.Tryz.f149) rfl (ts := Go.Proofs.Tryz.f149.results.toList) rfl (cuts := []) (by kernel_rfl) (Nat.le_of_ble_eq_true (by kernel_rfl)) (by kernel_rfl) (rt := .w (.at (.int .i64))) rfl ?_ ?_
  · intro ls' r' h'
    unfold bits_LeadingZeros64_S at h'
    obtain ⟨x, l'1, rfl, h'1⟩ := un_i_some.1 h'
    obtain ⟨rfl, h'Z⟩ := un_nil_some.1 h'1
    exact (bits_LeadingZeros64_e x).symm.trans h'Z
  · intro E w0 ws ρ0 hk b hb
    rw [show loopsOf (fb Go.Proofs.Tryz.f149) = [] by kernel_rfl] at hb
    cases hb
noncomputable def G13 : Env := G12.addP 149 1 bits_LeadingZeros64_in bits_LeadingZeros64_out bits_LeadingZeros64_SC
theorem g13 : EnvOk Go.Proofs.Tryz.prog G13 := EnvOk.addP g12 bits_LeadingZeros64_c bits_LeadingZeros64_says

-- ### bits_Div64: function 135
def bits_Div64_in : Tm := ⟨[], [(0, .w (.at (.int .u64))), (1, .w (.at (.int .u64))), (2, .w (.at (.int .u64)))]⟩
def bits_Div64_out : Tm := ⟨[], [(0, .tup [.at (.int .u64), .at (.int .u64)])]⟩
def bits_Div64_17_T : Tm := ⟨[], [(8, .w (.at (.int .u64))), (2, .w (.at (.int .u64))), (14, .w (.at (.int .u64))), (9, .w (.at (.int .u64))), (10, .w (.at (.int .u64))), (13, .w (.at (.int .u64))), (11, .w (.at (.int .u64))), (16, .w (.at (.int .u64))), (15, .w (.at (.int .u64)))]⟩
def bits_Div64_17_X0 : Tm := ⟨[], [(8, .w (.at (.int .u64))), (2, .w (.at (.int .u64))), (14, .w (.at (.int .u64))), (15, .w (.at (.int .u64))), (9, .w (.at (.int .u64))), (10, .w (.at (.int .u64))), (13, .w (.at (.int .u64))), (11, .w (.at (.int .u64)))]⟩
def bits_Div64_17_X : Exits := [(0, (bits_Div64_17_X0, []))]
def bits_Div64_17_R : Tm := ⟨[], []⟩
def bits_Div64_24_T : Tm := ⟨[], [(8, .w (.at (.int .u64))), (2, .w (.at (.int .u64))), (14, .w (.at (.int .u64))), (17, .w (.at (.int .u64))), (15, .w (.at (.int .u64))), (9, .w (.at (.int .u64))), (16, .w (.at (.int .u64))), (18, .w (.at (.int .u64))), (10, .w (.at (.int .u64)))]⟩
def bits_Div64_24_X2 : Tm := ⟨[], [(8, .w (.at (.int .u64))), (2, .w (.at (.int .u64))), (18, .w (.at (.int .u64))), (14, .w (.at (.int .u64))), (17, .w (.at (.int .u64))), (15, .w (.at (.int .u64)))]⟩
def bits_Div64_24_X : Exits := [(2, (bits_Div64_24_X2, []))]
def bits_Div64_24_R : Tm := ⟨[], []⟩

def bits_Div64_Λd (L17 : ({β : Type} → (Nat → List Leaf → Option β) → (List Leaf → Option β) → Nat → Int → Int → Int → Int → Int → Int → Int → Int → Int → Option β)) (L24 : ({β : Type} → (Nat → List Leaf → Option β) → (List Leaf → Option β) → Nat → Int → Int → Int → Int → Int → Int → Int → Int → Int → Option β)) : Loops := ⟨fun b fr H kx kr => bif Nat.beq (rid b) 17 then loopE 0 bits_Div64_17_T [] bits_Div64_17_X bits_Div64_17_R (bits_Div64_17_F @L17 top) fr H kx kr else bif Nat.beq (rid b) 24 then loopE 0 bits_Div64_24_T [] bits_Div64_24_X bits_Div64_24_R (bits_Div64_24_F @L24 top) fr H kx kr else none⟩
def bits_Div64_Λ : Loops := bits_Div64_Λd @bits_Div64_17_L @bits_Div64_24_L
theorem bits_Div64_17_e (L17 : ({β : Type} → (Nat → List Leaf → Option β) → (List Leaf → Option β) → Nat → Int → Int → Int → Int → Int → Int → Int → Int → Int → Option β)) (L24 : ({β : Type} → (Nat → List Leaf → Option β) → (List Leaf → Option β) → Nat → Int → Int → Int → Int → Int → Int → Int → Int → Int → Option β)) {α : Type} (kx : Nat → List Leaf → Option α) (kr : List Leaf → Option α) (again : Int → Int → Int → Int → Int → Int → Int → Int → Int → Option α) (s : Int) (y : Int) (un0 : Int) (yn1 : Int) (yn0 : Int) (un1 : Int) (un32 : Int) (rhat : Int) (q1 : Int) : bits_Div64_17_B  kx kr again s y un0 yn1 yn0 un1 un32 rhat q1 = loopB G13 (bits_Div64_Λd @L17 @L24) true tab Go.Proofs.Tryz.f135.ntmps 0 bits_Div64_17_T [] bits_Div64_17_X bits_Div64_17_R (bodyAt (fb Go.Proofs.Tryz.f135) 0) (fun ls => un_i ls fun s rr => un_i rr fun y rr => un_i rr fun un0 rr => un_i rr fun yn1 rr => un_i rr fun yn0 rr => un_i rr fun un1 rr => un_i rr fun un32 rr => un_i rr fun rhat rr => un_i rr fun q1 rr => un_nil rr (again s y un0 yn1 yn0 un1 un32 rhat q1)) kx kr (instFr bits_Div64_17_T [.i s, .i y, .i un0, .i yn1, .i yn0, .i un1, .i un32, .i rhat, .i q1]) (instH bits_Div64_17_T [.i s, .i y, .i un0, .i yn1, .i yn0, .i un1, .i un32, .i rhat, .i q1]) := by kernel_rfl
theorem bits_Div64_24_e (L17 : ({β : Type} → (Nat → List Leaf → Option β) → (List Leaf → Option β) → Nat → Int → Int → Int → Int → Int → Int → Int → Int → Int → Option β)) (L24 : ({β : Type} → (Nat → List Leaf → Option β) → (List Leaf → Option β) → Nat → Int → Int → Int → Int → Int → Int → Int → Int → Int → Option β)) {α : Type} (kx : Nat → List Leaf → Option α) (kr : List Leaf → Option α) (again : Int → Int → Int → Int → Int → Int → Int → Int → Int → Option α) (s : Int) (y : Int) (un0 : Int) (un21 : Int) (q1 : Int) (yn1 : Int) (rhat : Int) (q0 : Int) (yn0 : Int) : bits_Div64_24_B  kx kr again s y un0 un21 q1 yn1 rhat q0 yn0 = loopB G13 (bits_Div64_Λd @L17 @L24) true tab Go.Proofs.Tryz.f135.ntmps 0 bits_Div64_24_T [] bits_Div64_24_X bits_Div64_24_R (bodyAt (fb Go.Proofs.Tryz.f135) 1) (fun ls => un_i ls fun s rr => un_i rr fun y rr => un_i rr fun un0 rr => un_i rr fun un21 rr => un_i rr fun q1 rr => un_i rr fun yn1 rr => un_i rr fun rhat rr => un_i rr fun q0 rr => un_i rr fun yn0 rr => un_nil rr (again s y un0 un21 q1 yn1 rhat q0 yn0)) kx kr (instFr bits_Div64_24_T [.i s, .i y, .i un0, .i un21, .i q1, .i yn1, .i rhat, .i q0, .i yn0]) (instH bits_Div64_24_T [.i s, .i y, .i un0, .i un21, .i q1, .i yn1, .i rhat, .i q0, .i yn0]) := by kernel_rfl
theorem bits_Div64_24_lok (E : Nat → Prop) (w0 ws : World) (ρ0 : List Pl) (hk : ρ0.length = 0) : LOk Go.Proofs.Tryz.prog 135 Go.Proofs.Tryz.f135 true E w0 ws Go.Proofs.Tryz.f135.ntmps ρ0 bits_Div64_Λ (bodyAt (fb Go.Proofs.Tryz.f135) 1) := by
  refine lok mixed tab_ok g13 Go.Proofs.Tryz.func135 hk (T := bits_Div64_24_T) (rt := bits_Div64_24_R) (cuts := []) (ex := bits_Div64_24_X) (top := top) (F := bits_Div64_24_F @bits_Div64_24_L) (fun fr H kx kr => by kernel_rfl) ?_ ?_ ?_
  · intro α ls' kx' kr' r' h'
    unfold bits_Div64_24_F at h'
    obtain ⟨s, l'1, rfl, h'1⟩ := un_i_some.1 h'
    obtain ⟨y, l'2, rfl, h'2⟩ := un_i_some.1 h'1
    obtain ⟨un0, l'3, rfl, h'3⟩ := un_i_some.1 h'2
    obtain ⟨un21, l'4, rfl, h'4⟩ := un_i_some.1 h'3
    obtain ⟨q1, l'5, rfl, h'5⟩ := un_i_some.1 h'4
    obtain ⟨yn1, l'6, rfl, h'6⟩ := un_i_some.1 h'5
    obtain ⟨rhat, l'7, rfl, h'7⟩ := un_i_some.1 h'6
    obtain ⟨q0, l'8, rfl, h'8⟩ := un_i_some.1 h'7
    obtain ⟨yn0, l'9, rfl, h'9⟩ := un_i_some.1 h'8
    obtain ⟨rfl, h'Z⟩ := un_nil_some.1 h'9
    cases h'Z
  · intro α n' ls' kx' kr' r' h'
    unfold bits_Div64_24_F at h'
    obtain ⟨s, l'1, rfl, h'1⟩ := un_i_some.1 h'
    obtain ⟨y, l'2, rfl, h'2⟩ := un_i_some.1 h'1
    obtain ⟨un0, l'3, rfl, h'3⟩ := un_i_some.1 h'2
    obtain ⟨un21, l'4, rfl, h'4⟩ := un_i_some.1 h'3
    obtain ⟨q1, l'5, rfl, h'5⟩ := un_i_some.1 h'4
    obtain ⟨yn1, l'6, rfl, h'6⟩ := un_i_some.1 h'5
    obtain ⟨rhat, l'7, rfl, h'7⟩ := un_i_some.1 h'6
    obtain ⟨q0, l'8, rfl, h'8⟩ := un_i_some.1 h'7
    obtain ⟨yn0, l'9, rfl, h'9⟩ := un_i_some.1 h'8
    obtain ⟨rfl, h'Z⟩ := un_nil_some.1 h'9
    exact (bits_Div64_24_e @bits_Div64_17_L @bits_Div64_24_L kx' kr' (bits_Div64_24_L kx' kr' n') s y un0 un21 q1 yn1 rhat q0 yn0).symm.trans h'Z
  · intro b' hb
    rw [show loopsOf (bodyAt (fb Go.Proofs.Tryz.f135) 1) = [] by kernel_rfl] at hb
    cases hb
theorem bits_Div64_17_lok (E : Nat → Prop) (w0 ws : World) (ρ0 : List Pl) (hk : ρ0.length = 0) : LOk Go.Proofs.Tryz.prog 135 Go.Proofs.Tryz.f135 true E w0 ws Go.Proofs.Tryz.f135.ntmps ρ0 bits_Div64_Λ (bodyAt (fb Go.Proofs.Tryz.f135) 0) := by
  refine lok mixed tab_ok g13 Go.Proofs.Tryz.func135 hk (T := bits_Div64_17_T) (rt := bits_Div64_17_R) (cuts := []) (ex := bits_Div64_17_X) (top := top) (F := bits_Div64_17_F @bits_Div64_17_L) (fun fr H kx kr => by kernel_rfl) ?_ ?_ ?_
  · intro α ls' kx' kr' r' h'
    unfold bits_Div64_17_F at h'
    obtain ⟨s, l'1, rfl, h'1⟩ := un_i_some.1 h'
    obtain ⟨y, l'2, rfl, h'2⟩ := un_i_some.1 h'1
    obtain ⟨un0, l'3, rfl, h'3⟩ := un_i_some.1 h'2
    obtain ⟨yn1, l'4, rfl, h'4⟩ := un_i_some.1 h'3
    obtain ⟨yn0, l'5, rfl, h'5⟩ := un_i_some.1 h'4
    obtain ⟨un1, l'6, rfl, h'6⟩ := un_i_some.1 h'5
    obtain ⟨un32, l'7, rfl, h'7⟩ := un_i_some.1 h'6
    obtain ⟨rhat, l'8, rfl, h'8⟩ := un_i_some.1 h'7
    obtain ⟨q1, l'9, rfl, h'9⟩ := un_i_some.1 h'8
    obtain ⟨rfl, h'Z⟩ := un_nil_some.1 h'9
    cases h'Z
  · intro α n' ls' kx' kr' r' h'
    unfold bits_Div64_17_F at h'
    obtain ⟨s, l'1, rfl, h'1⟩ := un_i_some.1 h'
    obtain ⟨y, l'2, rfl, h'2⟩ := un_i_some.1 h'1
    obtain ⟨un0, l'3, rfl, h'3⟩ := un_i_some.1 h'2
    obtain ⟨yn1, l'4, rfl, h'4⟩ := un_i_some.1 h'3
    obtain ⟨yn0, l'5, rfl, h'5⟩ := un_i_some.1 h'4
    obtain ⟨un1, l'6, rfl, h'6⟩ := un_i_some.1 h'5
    obtain ⟨un32, l'7, rfl, h'7⟩ := un_i_some.1 h'6
    obtain ⟨rhat, l'8, rfl, h'8⟩ := un_i_some.1 h'7
    obtain ⟨q1, l'9, rfl, h'9⟩ := un_i_some.1 h'8
    obtain ⟨rfl, h'Z⟩ := un_nil_some.1 h'9
    exact (bits_Div64_17_e @bits_Div64_17_L @bits_Div64_24_L kx' kr' (bits_Div64_17_L kx' kr' n') s y un0 yn1 yn0 un1 un32 rhat q1).symm.trans h'Z
  · intro b' hb
    rw [show loopsOf (bodyAt (fb Go.Proofs.Tryz.f135) 0) = [] by kernel_rfl] at hb
    cases hb
theorem bits_Div64_ed (L17 : ({β : Type} → (Nat → List Leaf → Option β) → (List Leaf → Option β) → Nat → Int → Int → Int → Int → Int → Int → Int → Int → Int → Option β)) (L24 : ({β : Type} → (Nat → List Leaf → Option β) → (List Leaf → Option β) → Nat → Int → Int → Int → Int → Int → Int → Int → Int → Int → Option β)) (hi : Int) (lo : Int) (y : Int) : bits_Div64_d @L17 @L24 hi lo y = den G13 (bits_Div64_Λd @L17 @L24) true tab Go.Proofs.Tryz.f135.ntmps (fun fr H => finish tab 0 Go.Proofs.Tryz.f135.results.toList bits_Div64_out [] fr H some) (fun _ _ _ => none) (fun fr H => finish tab 0 Go.Proofs.Tryz.f135.results.toList bits_Div64_out [] fr H some) 10000 [.code (fb Go.Proofs.Tryz.f135)] (instFr bits_Div64_in [.i hi, .i lo, .i y]) (instH bits_Div64_in [.i hi, .i lo, .i y]) := by kernel_rfl
theorem bits_Div64_e (hi : Int) (lo : Int) (y : Int) : bits_Div64 hi lo y = den G13 bits_Div64_Λ true tab Go.Proofs.Tryz.f135.ntmps (fun fr H => finish tab 0 Go.Proofs.Tryz.f135.results.toList bits_Div64_out [] fr H some) (fun _ _ _ => none) (fun fr H => finish tab 0 Go.Proofs.Tryz.f135.results.toList bits_Div64_out [] fr H some) 10000 [.code (fb Go.Proofs.Tryz.f135)] (instFr bits_Div64_in [.i hi, .i lo, .i y]) (instH bits_Div64_in [.i hi, .i lo, .i y]) := bits_Div64_ed @bits_Div64_17_L @bits_Div64_24_L hi lo y
def bits_Div64_S : List Leaf → Option (List Leaf) := fun ls => un_i ls fun hi rr => un_i rr fun lo rr => un_i rr fun y rr => un_nil rr (bits_Div64 hi lo y)
def bits_Div64_SC : Tld := fun ls k' => un_i ls fun hi rr => un_i rr fun lo rr => un_i rr fun y rr => un_nil rr (out (bits_Div64 hi lo y) k')
theorem bits_Div64_Se (hi : Int) (lo : Int) (y : Int) : bits_Div64_S [.i hi, .i lo, .i y] = bits_Div64 hi lo y := by
  unfold bits_Div64_S
  simp only [un_i_ev, un_b_ev, un_s_ev, un_li_ev, un_lb_ev, un_ls_ev, un_nil_ev]
theorem bits_Div64_says : Says bits_Div64_SC bits_Div64_S := by
  intro β ls' k' r' h'
  unfold bits_Div64_SC at h'
  obtain ⟨hi, l'1, rfl, h'1⟩ := un_i_some.1 h'
  obtain ⟨lo, l'2, rfl, h'2⟩ := un_i_some.1 h'1
  obtain ⟨y, l'3, rfl, h'3⟩ := un_i_some.1 h'2
  obtain ⟨rfl, h'Z⟩ := un_nil_some.1 h'3
  obtain ⟨l', a', b'⟩ := out_some.1 h'Z
  exact ⟨l', (bits_Div64_Se hi lo y).trans a', b'⟩
theorem bits_Div64_c : FnC Go.Proofs.Tryz.prog 135 true 3 0 bits_Div64_in bits_Div64_out bits_Div64_S := by
  refine fn_ok (Λ := bits_Div64_Λ) mixed tab_ok g13 Go.Proofs.Tryz.func135 (by kernel_rfl) (body := fb Go.Proofs.Tryz.f135) rfl (ts := Go.Proofs.Tryz.f135.results.toList) rfl (cuts := []) (by kernel_rfl) (Nat.le_of_ble_eq_true (by kernel_rfl)) (by kernel_rfl) (rt := .tup [.at (.int .u64), .at (.int .u64)]) rfl ?_ ?_
  · intro ls' r' h'
    unfold bits_Div64_S at h'
    obtain ⟨hi, l'1, rfl, h'1⟩ := un_i_some.1 h'
    obtain ⟨lo, l'2, rfl, h'2⟩ := un_i_some.1 h'1
    obtain ⟨y, l'3, rfl, h'3⟩ := un_i_some.1 h'2
    obtain ⟨rfl, h'Z⟩ := un_nil_some.1 h'3
    exact (bits_Div64_e hi lo y).symm.trans h'Z
  · intro E w0 ws ρ0 hk b hb
    rw [show loopsOf (fb Go.Proofs.Tryz.f135) = [(bodyAt (fb Go.Proofs.Tryz.f135) 0), (bodyAt (fb Go.Proofs.Tryz.f135) 1)] by kernel_rfl] at hb
    simp only [List.mem_cons, List.mem_nil_iff, or_false] at hb
    rcases hb with rfl | rfl
    · exact bits_Div64_17_lok E w0 ws ρ0 hk
    · exact bits_Div64_24_lok E w0 ws ρ0 hk
noncomputable def G14 : Env := G13.addP 135 3 bits_Div64_in bits_Div64_out bits_Div64_SC
theorem g14 : EnvOk Go.Proofs.Tryz.prog G14 := EnvOk.addP g13 bits_Div64_c bits_Div64_says

-- ### fix_Add: function 75
def fix_Add_in : Tm := ⟨[], [(0, .w (.at (.int .u64))), (1, .w (.at (.int .u64)))]⟩
def fix_Add_out : Tm := ⟨[], [(0, .w (.at (.int .u64)))]⟩

def fix_Add_Λd : Loops := Loops.none
def fix_Add_Λ : Loops := fix_Add_Λd 

theorem fix_Add_e (a : Int) (b : Int) : fix_Add a b = den G14 fix_Add_Λ true tab Go.Proofs.Tryz.f75.ntmps (fun fr H => finish tab 0 Go.Proofs.Tryz.f75.results.toList fix_Add_out [] fr H some) (fun _ _ _ => none) (fun fr H => finish tab 0 Go.Proofs.Tryz.f75.results.toList fix_Add_out [] fr H some) 10000 [.code (fb Go.Proofs.Tryz.f75)] (instFr fix_Add_in [.i a, .i b]) (instH fix_Add_in [.i a, .i b]) := by kernel_rfl
def fix_Add_S : List Leaf → Option (List Leaf) := fun ls => un_i ls fun a rr => un_i rr fun b rr => un_nil rr (fix_Add a b)
def fix_Add_SC : Tld := fun ls k' => un_i ls fun a rr => un_i rr fun b rr => un_nil rr (out (fix_Add a b) k')
theorem fix_Add_Se (a : Int) (b : Int) : fix_Add_S [.i a, .i b] = fix_Add a b := by
  unfold fix_Add_S
  simp only [un_i_ev, un_b_ev, un_s_ev, un_li_ev, un_lb_ev, un_ls_ev, un_nil_ev]
theorem fix_Add_says : Says fix_Add_SC fix_Add_S := by
  intro β ls' k' r' h'
  unfold fix_Add_SC at h'
  obtain ⟨a, l'1, rfl, h'1⟩ := un_i_some.1 h'
  obtain ⟨b, l'2, rfl, h'2⟩ := un_i_some.1 h'1
  obtain ⟨rfl, h'Z⟩ := un_nil_some.1 h'2
  obtain ⟨l', a', b'⟩ := out_some.1 h'Z
  exact ⟨l', (fix_Add_Se a b).trans a', b'⟩
theorem fix_Add_c : FnC Go.Proofs.Tryz.prog 75 true 2 0 fix_Add_in fix_Add_out fix_Add_S := by
  refine fn_ok (Λ := fix_Add_Λ) mixed tab_ok g14 Go.Proofs.Tryz.func75 (by kernel_rfl) (body := fb Go.Proofs.Tryz.f75) rfl (ts := Go.Proofs.Tryz.f75.results.toList) rfl (cuts := []) (by kernel_rfl) (Nat.le_of_ble_eq_true (by kernel_rfl)) (by kernel_rfl) (rt := .w (.at (.int .u64))) rfl ?_ ?_
  · intro ls' r' h'
    unfold fix_Add_S at h'
    obtain ⟨a, l'1, rfl, h'1⟩ := un_i_some.1 h'
    obtain ⟨b, l'2, rfl, h'2⟩ := un_i_some.1 h'1
    obtain ⟨rfl, h'Z⟩ := un_nil_some.1 h'2
    exact (fix_Add_e a b).symm.trans h'Z
  · intro E w0 ws ρ0 hk b hb
    rw [show loopsOf (fb Go.Proofs.Tryz.f75) = [] by kernel_rfl] at hb
    cases hb
noncomputable def G15 : Env := G14.addP 75 2 fix_Add_in fix_Add_out fix_Add_SC
theorem g15 : EnvOk Go.Proofs.Tryz.prog G15 := EnvOk.addP g14 fix_Add_c fix_Add_says

-- ### fix_Mul: function 76
def fix_Mul_in : Tm := ⟨[], [(0, .w (.at (.int .u64))), (1, .w (.at (.int .u64)))]⟩
def fix_Mul_out : Tm := ⟨[], [(0, .w (.at (.int .u64)))]⟩

def fix_Mul_Λd : Loops := Loops.none
def fix_Mul_Λ : Loops := fix_Mul_Λd 

theorem fix_Mul_e (a : Int) (b : Int) : fix_Mul a b = den G15 fix_Mul_Λ true tab Go.Proofs.Tryz.f76.ntmps (fun fr H => finish tab 0 Go.Proofs.Tryz.f76.results.toList fix_Mul_out [] fr H some) (fun _ _ _ => none) (fun fr H => finish tab 0 Go.Proofs.Tryz.f76.results.toList fix_Mul_out [] fr H some) 10000 [.code (fb Go.Proofs.Tryz.f76)] (instFr fix_Mul_in [.i a, .i b]) (instH fix_Mul_in [.i a, .i b]) := by kernel_rfl
def fix_Mul_S : List Leaf → Option (List Leaf) := fun ls => un_i ls fun a rr => un_i rr fun b rr => un_nil rr (fix_Mul a b)
def fix_Mul_SC : Tld := fun ls k' => un_i ls fun a rr => un_i rr fun b rr => un_nil rr (out (fix_Mul a b) k')
theorem fix_Mul_Se (a : Int) (b : Int) : fix_Mul_S [.i a, .i b] = fix_Mul a b := by
  unfold fix_Mul_S
  simp only [un_i_ev, un_b_ev, un_s_ev, un_li_ev, un_lb_ev, un_ls_ev, un_nil_ev]
theorem fix_Mul_says : Says fix_Mul_SC fix_Mul_S := by
  intro β ls' k' r' h'
  unfold fix_Mul_SC at h'
  obtain ⟨a, l'1, rfl, h'1⟩ := un_i_some.1 h'
  obtain ⟨b, l'2, rfl, h'2⟩ := un_i_some.1 h'1
  obtain ⟨rfl, h'Z⟩ := un_nil_some.1 h'2
  obtain ⟨l', a', b'⟩ := out_some.1 h'Z
  exact ⟨l', (fix_Mul_Se a b).trans a', b'⟩
theorem fix_Mul_c : FnC Go.Proofs.Tryz.prog 76 true 2 0 fix_Mul_in fix_Mul_out fix_Mul_S := by
  refine fn_ok (Λ := fix_Mul_Λ) mixed tab_ok g15 Go.Proofs.Tryz.func76 (by kernel_rfl) (body := fb Go.Proofs.Tryz.f76) rfl (ts := Go.Proofs.Tryz.f76.results.toList) rfl (cuts := []) (by kernel_rfl) (Nat.le_of_ble_eq_true (by kernel_rfl)) (by kernel_rfl) (rt := .w (.at (.int .u64))) rfl ?_ ?_
  · intro ls' r' h'
    unfold fix_Mul_S at h'
    obtain ⟨a, l'1, rfl, h'1⟩ := un_i_some.1 h'
    obtain ⟨b, l'2, rfl, h'2⟩ := un_i_some.1 h'1
    obtain ⟨rfl, h'Z⟩ := un_nil_some.1 h'2
    exact (fix_Mul_e a b).symm.trans h'Z
  · intro E w0 ws ρ0 hk b hb
    rw [show loopsOf (fb Go.Proofs.Tryz.f76) = [] by kernel_rfl] at hb
    cases hb
noncomputable def G16 : Env := G15.addP 76 2 fix_Mul_in fix_Mul_out fix_Mul_SC
theorem g16 : EnvOk Go.Proofs.Tryz.prog G16 := EnvOk.addP g15 fix_Mul_c fix_Mul_says

-- ### fix_MulDiv: function 121
def fix_MulDiv_in : Tm := ⟨[], [(0, .w (.at (.int .u64))), (1, .w (.at (.int .u64))), (2, .w (.at (.int .u64)))]⟩
def fix_MulDiv_out : Tm := ⟨[], [(0, .w (.at (.int .u64)))]⟩

def fix_MulDiv_Λd : Loops := Loops.none
def fix_MulDiv_Λ : Loops := fix_MulDiv_Λd 

theorem fix_MulDiv_e (a : Int) (b : Int) (c : Int) : fix_MulDiv a b c = den G16 fix_MulDiv_Λ true tab Go.Proofs.Tryz.f121.ntmps (fun fr H => finish tab 0 Go.Proofs.Tryz.f121.results.toList fix_MulDiv_out [] fr H some) (fun _ _ _ => none) (fun fr H => finish tab 0 Go.Proofs.Tryz.f121.results.toList fix_MulDiv_out [] fr H some) 10000 [.code (fb Go.Proofs.Tryz.f121)] (instFr fix_MulDiv_in [.i a, .i b, .i c]) (instH fix_MulDiv_in [.i a, .i b, .i c]) := by kernel_rfl
def fix_MulDiv_S : List Leaf → Option (List Leaf) := fun ls => un_i ls fun a rr => un_i rr fun b rr => un_i rr fun c rr => un_nil rr (fix_MulDiv a b c)
def fix_MulDiv_SC : Tld := fun ls k' => un_i ls fun a rr => un_i rr fun b rr => un_i rr fun c rr => un_nil rr (out (fix_MulDiv a b c) k')
theorem fix_MulDiv_Se (a : Int) (b : Int) (c : Int) : fix_MulDiv_S [.i a, .i b, .i c] = fix_MulDiv a b c := by
  unfold fix_MulDiv_S
  simp only [un_i_ev, un_b_ev, un_s_ev, un_li_ev, un_lb_ev, un_ls_ev, un_nil_ev]
theorem fix_MulDiv_says : Says fix_MulDiv_SC fix_MulDiv_S := by
  intro β ls' k' r' h'
  unfold fix_MulDiv_SC at h'
  obtain ⟨a, l'1, rfl, h'1⟩ := un_i_some.1 h'
  obtain ⟨b, l'2, rfl, h'2⟩ := un_i_some.1 h'1
  obtain ⟨c, l'3, rfl, h'3⟩ := un_i_some.1 h'2
  obtain ⟨rfl, h'Z⟩ := un_nil_some.1 h'3
  obtain ⟨l', a', b'⟩ := out_some.1 h'Z
  exact ⟨l', (fix_MulDiv_Se a b c).trans a', b'⟩
theorem fix_MulDiv_c : FnC Go.Proofs.Tryz.prog 121 true 3 0 fix_MulDiv_in fix_MulDiv_out fix_MulDiv_S := by
  refine fn_ok (Λ := fix_MulDiv_Λ) mixed tab_ok g16 Go.Proofs.Tryz.func121 (by kernel_rfl) (body := fb Go.Proofs.Tryz.f121) rfl (ts := Go.Proofs.Tryz.f121.results.toList) rfl (cuts := []) (by kernel_rfl) (Nat.le_of_ble_eq_true (by kernel_rfl)) (by kernel_rfl) (rt := .w (.at (.int .u64))) rfl ?_ ?_
  · intro ls' r' h'
    unfold fix_MulDiv_S at h'
    obtain ⟨a, l'1, rfl, h'1⟩ := un_i_some.1 h'
    obtain ⟨b, l'2, rfl, h'2⟩ := un_i_some.1 h'1
    obtain ⟨c, l'3, rfl, h'3⟩ := un_i_some.1 h'2
    obtain ⟨rfl, h'Z⟩ := un_nil_some.1 h'3
    exact (fix_MulDiv_e a b c).symm.trans h'Z
  · intro E w0 ws ρ0 hk b hb
    rw [show loopsOf (fb Go.Proofs.Tryz.f121) = [] by kernel_rfl] at hb
    cases hb
noncomputable def G17 : Env := G16.addP 121 3 fix_MulDiv_in fix_MulDiv_out fix_MulDiv_SC
theorem g17 : EnvOk Go.Proofs.Tryz.prog G17 := EnvOk.addP g16 fix_MulDiv_c fix_MulDiv_says

-- ### fix_SqrtMul: function 163
def fix_SqrtMul_in : Tm := ⟨[], [(0, .w (.at (.int .u64))), (1, .w (.at (.int .u64)))]⟩
def fix_SqrtMul_out : Tm := ⟨[], [(0, .w (.at (.int .u64)))]⟩
def fix_SqrtMul_4_T : Tm := ⟨[], [(8, .w (.at (.int .u64))), (7, .w (.at (.int .u64))), (6, .w (.at (.int .u64))), (5, .w (.at (.int .u64)))]⟩
def fix_SqrtMul_4_X0 : Tm := ⟨[], [(7, .w (.at (.int .u64)))]⟩
def fix_SqrtMul_4_X : Exits := [(0, (fix_SqrtMul_4_X0, []))]
def fix_SqrtMul_4_R : Tm := ⟨[], []⟩

def fix_SqrtMul_Λd (L4 : ({β : Type} → (Nat → List Leaf → Option β) → (List Leaf → Option β) → Nat → Int → Int → Int → Int → Option β)) : Loops := ⟨fun b fr H kx kr => bif Nat.beq (rid b) 4 then loopE 0 fix_SqrtMul_4_T [] fix_SqrtMul_4_X fix_SqrtMul_4_R (fix_SqrtMul_4_F @L4 top) fr H kx kr else none⟩
def fix_SqrtMul_Λ : Loops := fix_SqrtMul_Λd @fix_SqrtMul_4_L
theorem fix_SqrtMul_4_e (L4 : ({β : Type} → (Nat → List Leaf → Option β) → (List Leaf → Option β) → Nat → Int → Int → Int → Int → Option β)) {α : Type} (kx : Nat → List Leaf → Option α) (kr : List Leaf → Option α) (again : Int → Int → Int → Int → Option α) (bit : Int) (root : Int) (low : Int) (high : Int) : fix_SqrtMul_4_B  kx kr again bit root low high = loopB G17 (fix_SqrtMul_Λd @L4) true tab Go.Proofs.Tryz.f163.ntmps 0 fix_SqrtMul_4_T [] fix_SqrtMul_4_X fix_SqrtMul_4_R (bodyAt (fb Go.Proofs.Tryz.f163) 0) (fun ls => un_i ls fun bit rr => un_i rr fun root rr => un_i rr fun low rr => un_i rr fun high rr => un_nil rr (again bit root low high)) kx kr (instFr fix_SqrtMul_4_T [.i bit, .i root, .i low, .i high]) (instH fix_SqrtMul_4_T [.i bit, .i root, .i low, .i high]) := by kernel_rfl
theorem fix_SqrtMul_4_lok (E : Nat → Prop) (w0 ws : World) (ρ0 : List Pl) (hk : ρ0.length = 0) : LOk Go.Proofs.Tryz.prog 163 Go.Proofs.Tryz.f163 true E w0 ws Go.Proofs.Tryz.f163.ntmps ρ0 fix_SqrtMul_Λ (bodyAt (fb Go.Proofs.Tryz.f163) 0) := by
  refine lok mixed tab_ok g17 Go.Proofs.Tryz.func163 hk (T := fix_SqrtMul_4_T) (rt := fix_SqrtMul_4_R) (cuts := []) (ex := fix_SqrtMul_4_X) (top := top) (F := fix_SqrtMul_4_F @fix_SqrtMul_4_L) (fun fr H kx kr => by kernel_rfl) ?_ ?_ ?_
  · intro α ls' kx' kr' r' h'
    unfold fix_SqrtMul_4_F at h'
    obtain ⟨bit, l'1, rfl, h'1⟩ := un_i_some.1 h'
    obtain ⟨root, l'2, rfl, h'2⟩ := un_i_some.1 h'1
    obtain ⟨low, l'3, rfl, h'3⟩ := un_i_some.1 h'2
    obtain ⟨high, l'4, rfl, h'4⟩ := un_i_some.1 h'3
    obtain ⟨rfl, h'Z⟩ := un_nil_some.1 h'4
    cases h'Z
  · intro α n' ls' kx' kr' r' h'
    unfold fix_SqrtMul_4_F at h'
    obtain ⟨bit, l'1, rfl, h'1⟩ := un_i_some.1 h'
    obtain ⟨root, l'2, rfl, h'2⟩ := un_i_some.1 h'1
    obtain ⟨low, l'3, rfl, h'3⟩ := un_i_some.1 h'2
    obtain ⟨high, l'4, rfl, h'4⟩ := un_i_some.1 h'3
    obtain ⟨rfl, h'Z⟩ := un_nil_some.1 h'4
    exact (fix_SqrtMul_4_e @fix_SqrtMul_4_L kx' kr' (fix_SqrtMul_4_L kx' kr' n') bit root low high).symm.trans h'Z
  · intro b' hb
    rw [show loopsOf (bodyAt (fb Go.Proofs.Tryz.f163) 0) = [] by kernel_rfl] at hb
    cases hb
theorem fix_SqrtMul_ed (L4 : ({β : Type} → (Nat → List Leaf → Option β) → (List Leaf → Option β) → Nat → Int → Int → Int → Int → Option β)) (a : Int) (b : Int) : fix_SqrtMul_d @L4 a b = den G17 (fix_SqrtMul_Λd @L4) true tab Go.Proofs.Tryz.f163.ntmps (fun fr H => finish tab 0 Go.Proofs.Tryz.f163.results.toList fix_SqrtMul_out [] fr H some) (fun _ _ _ => none) (fun fr H => finish tab 0 Go.Proofs.Tryz.f163.results.toList fix_SqrtMul_out [] fr H some) 10000 [.code (fb Go.Proofs.Tryz.f163)] (instFr fix_SqrtMul_in [.i a, .i b]) (instH fix_SqrtMul_in [.i a, .i b]) := by kernel_rfl
theorem fix_SqrtMul_e (a : Int) (b : Int) : fix_SqrtMul a b = den G17 fix_SqrtMul_Λ true tab Go.Proofs.Tryz.f163.ntmps (fun fr H => finish tab 0 Go.Proofs.Tryz.f163.results.toList fix_SqrtMul_out [] fr H some) (fun _ _ _ => none) (fun fr H => finish tab 0 Go.Proofs.Tryz.f163.results.toList fix_SqrtMul_out [] fr H some) 10000 [.code (fb Go.Proofs.Tryz.f163)] (instFr fix_SqrtMul_in [.i a, .i b]) (instH fix_SqrtMul_in [.i a, .i b]) := fix_SqrtMul_ed @fix_SqrtMul_4_L a b
def fix_SqrtMul_S : List Leaf → Option (List Leaf) := fun ls => un_i ls fun a rr => un_i rr fun b rr => un_nil rr (fix_SqrtMul a b)
def fix_SqrtMul_SC : Tld := fun ls k' => un_i ls fun a rr => un_i rr fun b rr => un_nil rr (out (fix_SqrtMul a b) k')
theorem fix_SqrtMul_Se (a : Int) (b : Int) : fix_SqrtMul_S [.i a, .i b] = fix_SqrtMul a b := by
  unfold fix_SqrtMul_S
  simp only [un_i_ev, un_b_ev, un_s_ev, un_li_ev, un_lb_ev, un_ls_ev, un_nil_ev]
theorem fix_SqrtMul_says : Says fix_SqrtMul_SC fix_SqrtMul_S := by
  intro β ls' k' r' h'
  unfold fix_SqrtMul_SC at h'
  obtain ⟨a, l'1, rfl, h'1⟩ := un_i_some.1 h'
  obtain ⟨b, l'2, rfl, h'2⟩ := un_i_some.1 h'1
  obtain ⟨rfl, h'Z⟩ := un_nil_some.1 h'2
  obtain ⟨l', a', b'⟩ := out_some.1 h'Z
  exact ⟨l', (fix_SqrtMul_Se a b).trans a', b'⟩
theorem fix_SqrtMul_c : FnC Go.Proofs.Tryz.prog 163 true 2 0 fix_SqrtMul_in fix_SqrtMul_out fix_SqrtMul_S := by
  refine fn_ok (Λ := fix_SqrtMul_Λ) mixed tab_ok g17 Go.Proofs.Tryz.func163 (by kernel_rfl) (body := fb Go.Proofs.Tryz.f163) rfl (ts := Go.Proofs.Tryz.f163.results.toList) rfl (cuts := []) (by kernel_rfl) (Nat.le_of_ble_eq_true (by kernel_rfl)) (by kernel_rfl) (rt := .w (.at (.int .u64))) rfl ?_ ?_
  · intro ls' r' h'
    unfold fix_SqrtMul_S at h'
    obtain ⟨a, l'1, rfl, h'1⟩ := un_i_some.1 h'
    obtain ⟨b, l'2, rfl, h'2⟩ := un_i_some.1 h'1
    obtain ⟨rfl, h'Z⟩ := un_nil_some.1 h'2
    exact (fix_SqrtMul_e a b).symm.trans h'Z
  · intro E w0 ws ρ0 hk b hb
    rw [show loopsOf (fb Go.Proofs.Tryz.f163) = [(bodyAt (fb Go.Proofs.Tryz.f163) 0)] by kernel_rfl] at hb
    simp only [List.mem_cons, List.mem_nil_iff, or_false] at hb
    rcases hb with rfl
    · exact fix_SqrtMul_4_lok E w0 ws ρ0 hk
noncomputable def G18 : Env := G17.addP 163 2 fix_SqrtMul_in fix_SqrtMul_out fix_SqrtMul_SC
theorem g18 : EnvOk Go.Proofs.Tryz.prog G18 := EnvOk.addP g17 fix_SqrtMul_c fix_SqrtMul_says

-- ### fix_Sqrt: function 140
def fix_Sqrt_in : Tm := ⟨[], [(0, .w (.at (.int .u64)))]⟩
def fix_Sqrt_out : Tm := ⟨[], [(0, .w (.at (.int .u64)))]⟩

def fix_Sqrt_Λd : Loops := Loops.none
def fix_Sqrt_Λ : Loops := fix_Sqrt_Λd 

theorem fix_Sqrt_e (n2 : Int) : fix_Sqrt n2 = den G18 fix_Sqrt_Λ true tab Go.Proofs.Tryz.f140.ntmps (fun fr H => finish tab 0 Go.Proofs.Tryz.f140.results.toList fix_Sqrt_out [] fr H some) (fun _ _ _ => none) (fun fr H => finish tab 0 Go.Proofs.Tryz.f140.results.toList fix_Sqrt_out [] fr H some) 10000 [.code (fb Go.Proofs.Tryz.f140)] (instFr fix_Sqrt_in [.i n2]) (instH fix_Sqrt_in [.i n2]) := by kernel_rfl
def fix_Sqrt_S : List Leaf → Option (List Leaf) := fun ls => un_i ls fun n2 rr => un_nil rr (fix_Sqrt n2)
def fix_Sqrt_SC : Tld := fun ls k' => un_i ls fun n2 rr => un_nil rr (out (fix_Sqrt n2) k')
theorem fix_Sqrt_Se (n2 : Int) : fix_Sqrt_S [.i n2] = fix_Sqrt n2 := by
  unfold fix_Sqrt_S
  simp only [un_i_ev, un_b_ev, un_s_ev, un_li_ev, un_lb_ev, un_ls_ev, un_nil_ev]
theorem fix_Sqrt_says : Says fix_Sqrt_SC fix_Sqrt_S := by
  intro β ls' k' r' h'
  unfold fix_Sqrt_SC at h'
  obtain ⟨n2, l'1, rfl, h'1⟩ := un_i_some.1 h'
  obtain ⟨rfl, h'Z⟩ := un_nil_some.1 h'1
  obtain ⟨l', a', b'⟩ := out_some.1 h'Z
  exact ⟨l', (fix_Sqrt_Se n2).trans a', b'⟩
theorem fix_Sqrt_c : FnC Go.Proofs.Tryz.prog 140 true 1 0 fix_Sqrt_in fix_Sqrt_out fix_Sqrt_S := by
  refine fn_ok (Λ := fix_Sqrt_Λ) mixed tab_ok g18 Go.Proofs.Tryz.func140 (by kernel_rfl) (body := fb Go.Proofs.Tryz.f140) rfl (ts := Go.Proofs.Tryz.f140.results.toList) rfl (cuts := []) (by kernel_rfl) (Nat.le_of_ble_eq_true (by kernel_rfl)) (by kernel_rfl) (rt := .w (.at (.int .u64))) rfl ?_ ?_
  · intro ls' r' h'
    unfold fix_Sqrt_S at h'
    obtain ⟨n2, l'1, rfl, h'1⟩ := un_i_some.1 h'
    obtain ⟨rfl, h'Z⟩ := un_nil_some.1 h'1
    exact (fix_Sqrt_e n2).symm.trans h'Z
  · intro E w0 ws ρ0 hk b hb
    rw [show loopsOf (fb Go.Proofs.Tryz.f140) = [] by kernel_rfl] at hb
    cases hb
noncomputable def G19 : Env := G18.addP 140 1 fix_Sqrt_in fix_Sqrt_out fix_Sqrt_SC
theorem g19 : EnvOk Go.Proofs.Tryz.prog G19 := EnvOk.addP g18 fix_Sqrt_c fix_Sqrt_says

-- ### eqn_F: function 127
def eqn_F_in : Tm := ⟨[], [(0, .w (.at (.int .u64)))]⟩
def eqn_F_out : Tm := ⟨[], [(0, .w (.at (.int .u64)))]⟩

def eqn_F_Λd : Loops := Loops.none
def eqn_F_Λ : Loops := eqn_F_Λd 

theorem eqn_F_e (n2 : Int) : eqn_F n2 = den G19 eqn_F_Λ true tab Go.Proofs.Tryz.f127.ntmps (fun fr H => finish tab 0 Go.Proofs.Tryz.f127.results.toList eqn_F_out [] fr H some) (fun _ _ _ => none) (fun fr H => finish tab 0 Go.Proofs.Tryz.f127.results.toList eqn_F_out [] fr H some) 10000 [.code (fb Go.Proofs.Tryz.f127)] (instFr eqn_F_in [.i n2]) (instH eqn_F_in [.i n2]) := by kernel_rfl
def eqn_F_S : List Leaf → Option (List Leaf) := fun ls => un_i ls fun n2 rr => un_nil rr (eqn_F n2)
def eqn_F_SC : Tld := fun ls k' => un_i ls fun n2 rr => un_nil rr (out (eqn_F n2) k')
theorem eqn_F_Se (n2 : Int) : eqn_F_S [.i n2] = eqn_F n2 := by
  unfold eqn_F_S
  simp only [un_i_ev, un_b_ev, un_s_ev, un_li_ev, un_lb_ev, un_ls_ev, un_nil_ev]
theorem eqn_F_says : Says eqn_F_SC eqn_F_S := by
  intro β ls' k' r' h'
  unfold eqn_F_SC at h'
  obtain ⟨n2, l'1, rfl, h'1⟩ := un_i_some.1 h'
  obtain ⟨rfl, h'Z⟩ := un_nil_some.1 h'1
  obtain ⟨l', a', b'⟩ := out_some.1 h'Z
  exact ⟨l', (eqn_F_Se n2).trans a', b'⟩
theorem eqn_F_c : FnC Go.Proofs.Tryz.prog 127 true 1 0 eqn_F_in eqn_F_out eqn_F_S := by
  refine fn_ok (Λ := eqn_F_Λ) mixed tab_ok g19 Go.Proofs.Tryz.func127 (by kernel_rfl) (body := fb Go.Proofs.Tryz.f127) rfl (ts := Go.Proofs.Tryz.f127.results.toList) rfl (cuts := []) (by kernel_rfl) (Nat.le_of_ble_eq_true (by kernel_rfl)) (by kernel_rfl) (rt := .w (.at (.int .u64))) rfl ?_ ?_
  · intro ls' r' h'
    unfold eqn_F_S at h'
    obtain ⟨n2, l'1, rfl, h'1⟩ := un_i_some.1 h'
    obtain ⟨rfl, h'Z⟩ := un_nil_some.1 h'1
    exact (eqn_F_e n2).symm.trans h'Z
  · intro E w0 ws ρ0 hk b hb
    rw [show loopsOf (fb Go.Proofs.Tryz.f127) = [] by kernel_rfl] at hb
    cases hb
noncomputable def G20 : Env := G19.addP 127 1 eqn_F_in eqn_F_out eqn_F_SC
theorem g20 : EnvOk Go.Proofs.Tryz.prog G20 := EnvOk.addP g19 eqn_F_c eqn_F_says

-- ### eqn_Rate: function 99
def eqn_Rate_in : Tm := ⟨[], [(0, .w (.at (.int .u64))), (1, .w (.at (.int .u64))), (2, .w (.at (.int .u64)))]⟩
def eqn_Rate_out : Tm := ⟨[], [(0, .w (.at (.int .u64)))]⟩

def eqn_Rate_Λd : Loops := Loops.none
def eqn_Rate_Λ : Loops := eqn_Rate_Λd 

theorem eqn_Rate_e (s : Int) (r : Int) (n2 : Int) : eqn_Rate s r n2 = den G20 eqn_Rate_Λ true tab Go.Proofs.Tryz.f99.ntmps (fun fr H => finish tab 0 Go.Proofs.Tryz.f99.results.toList eqn_Rate_out [] fr H some) (fun _ _ _ => none) (fun fr H => finish tab 0 Go.Proofs.Tryz.f99.results.toList eqn_Rate_out [] fr H some) 10000 [.code (fb Go.Proofs.Tryz.f99)] (instFr eqn_Rate_in [.i s, .i r, .i n2]) (instH eqn_Rate_in [.i s, .i r, .i n2]) := by kernel_rfl
def eqn_Rate_S : List Leaf → Option (List Leaf) := fun ls => un_i ls fun s rr => un_i rr fun r rr => un_i rr fun n2 rr => un_nil rr (eqn_Rate s r n2)
def eqn_Rate_SC : Tld := fun ls k' => un_i ls fun s rr => un_i rr fun r rr => un_i rr fun n2 rr => un_nil rr (out (eqn_Rate s r n2) k')
theorem eqn_Rate_Se (s : Int) (r : Int) (n2 : Int) : eqn_Rate_S [.i s, .i r, .i n2] = eqn_Rate s r n2 := by
  unfold eqn_Rate_S
  simp only [un_i_ev, un_b_ev, un_s_ev, un_li_ev, un_lb_ev, un_ls_ev, un_nil_ev]
theorem eqn_Rate_says : Says eqn_Rate_SC eqn_Rate_S := by
  intro β ls' k' r' h'
  unfold eqn_Rate_SC at h'
  obtain ⟨s, l'1, rfl, h'1⟩ := un_i_some.1 h'
  obtain ⟨r, l'2, rfl, h'2⟩ := un_i_some.1 h'1
  obtain ⟨n2, l'3, rfl, h'3⟩ := un_i_some.1 h'2
  obtain ⟨rfl, h'Z⟩ := un_nil_some.1 h'3
  obtain ⟨l', a', b'⟩ := out_some.1 h'Z
  exact ⟨l', (eqn_Rate_Se s r n2).trans a', b'⟩
theorem eqn_Rate_c : FnC Go.Proofs.Tryz.prog 99 true 3 0 eqn_Rate_in eqn_Rate_out eqn_Rate_S := by
  refine fn_ok (Λ := eqn_Rate_Λ) mixed tab_ok g20 Go.Proofs.Tryz.func99 (by kernel_rfl) (body := fb Go.Proofs.Tryz.f99) rfl (ts := Go.Proofs.Tryz.f99.results.toList) rfl (cuts := []) (by kernel_rfl) (Nat.le_of_ble_eq_true (by kernel_rfl)) (by kernel_rfl) (rt := .w (.at (.int .u64))) rfl ?_ ?_
  · intro ls' r' h'
    unfold eqn_Rate_S at h'
    obtain ⟨s, l'1, rfl, h'1⟩ := un_i_some.1 h'
    obtain ⟨r, l'2, rfl, h'2⟩ := un_i_some.1 h'1
    obtain ⟨n2, l'3, rfl, h'3⟩ := un_i_some.1 h'2
    obtain ⟨rfl, h'Z⟩ := un_nil_some.1 h'3
    exact (eqn_Rate_e s r n2).symm.trans h'Z
  · intro E w0 ws ρ0 hk b hb
    rw [show loopsOf (fb Go.Proofs.Tryz.f99) = [] by kernel_rfl] at hb
    cases hb
noncomputable def G21 : Env := G20.addP 99 3 eqn_Rate_in eqn_Rate_out eqn_Rate_SC
theorem g21 : EnvOk Go.Proofs.Tryz.prog G21 := EnvOk.addP g20 eqn_Rate_c eqn_Rate_says
end Go.Sx.T

