import Derived.Test.YtopcljhdejindaaGreatDoorYFixSpec
import Derived.Test.YtopcljhdejindaaGreatDoorYBeg2
set_option linter.all false
namespace Go.Sx.T
open Go Go.Sx Go.Proofs
def G7 : Env := G6.addE 94 2 drop_in drop_out drop_SC
theorem g7 : EnvOk Go.Proofs.Tryz.prog G7 := EnvOk.addE g6 got_drop_c drop_says
def G8 : Env := G7.addK 15 (.at (.raw (.bool true)))
theorem g8 : EnvOk Go.Proofs.Tryz.prog G8 := EnvOk.addK g7 begun_fn rfl begun_gives

-- ### bits_Mul64: function 107
def bits_Mul64_in : Tm := ⟨[], [(0, .w (.at (.int .u64))), (1, .w (.at (.int .u64)))]⟩
def bits_Mul64_out : Tm := ⟨[], [(0, .tup [.at (.int .u64), .at (.int .u64)])]⟩

def bits_Mul64_Λd : Loops := Loops.none
def bits_Mul64_Λ : Loops := bits_Mul64_Λd 

theorem bits_Mul64_e (x : Int) (y : Int) : bits_Mul64 x y = den G8 bits_Mul64_Λ true tab Go.Proofs.Tryz.f107.ntmps (fun fr H => finish tab 0 Go.Proofs.Tryz.f107.results.toList bits_Mul64_out [] fr H some) (fun _ _ _ => none) (fun fr H => finish tab 0 Go.Proofs.Tryz.f107.results.toList bits_Mul64_out [] fr H some) 10000 [.code (fb Go.Proofs.Tryz.f107)] (instFr bits_Mul64_in [.i x, .i y]) (instH bits_Mul64_in [.i x, .i y]) := by kernel_rfl
def bits_Mul64_S : List Leaf → Option (List Leaf) := fun ls => un_i ls fun x rr => un_i rr fun y rr => un_nil rr (bits_Mul64 x y)
def bits_Mul64_SC : Tld := fun ls k' => un_i ls fun x rr => un_i rr fun y rr => un_nil rr (out (bits_Mul64 x y) k')
theorem bits_Mul64_Se (x : Int) (y : Int) : bits_Mul64_S [.i x, .i y] = bits_Mul64 x y := by
  unfold bits_Mul64_S
  simp only [un_i_ev, un_b_ev, un_s_ev, un_li_ev, un_lb_ev, un_ls_ev, un_nil_ev]
theorem bits_Mul64_says : Says bits_Mul64_SC bits_Mul64_S := by
  intro β ls' k' r' h'
  unfold bits_Mul64_SC at h'
  obtain ⟨x, l'1, rfl, h'1⟩ := un_i_some.1 h'
  obtain ⟨y, l'2, rfl, h'2⟩ := un_i_some.1 h'1
  obtain ⟨rfl, h'Z⟩ := un_nil_some.1 h'2
  obtain ⟨l', a', b'⟩ := out_some.1 h'Z
  exact ⟨l', (bits_Mul64_Se x y).trans a', b'⟩
theorem bits_Mul64_c : FnC Go.Proofs.Tryz.prog 107 true 2 0 bits_Mul64_in bits_Mul64_out bits_Mul64_S := by
  refine fn_ok (Λ := bits_Mul64_Λ) mixed tab_ok g8 Go.Proofs.Tryz.func107 (by kernel_rfl) (body := fb Go.Proofs.Tryz.f107) rfl (ts := Go.Proofs.Tryz.f107.results.toList) rfl (cuts := []) (by kernel_rfl) (Nat.le_of_ble_eq_true (by kernel_rfl)) (by kernel_rfl) (rt := .tup [.at (.int .u64), .at (.int .u64)]) rfl ?_ ?_
  · intro ls' r' h'
    unfold bits_Mul64_S at h'
    obtain ⟨x, l'1, rfl, h'1⟩ := un_i_some.1 h'
    obtain ⟨y, l'2, rfl, h'2⟩ := un_i_some.1 h'1
    obtain ⟨rfl, h'Z⟩ := un_nil_some.1 h'2
    exact (bits_Mul64_e x y).symm.trans h'Z
  · intro E w0 ws ρ0 hk b hb
    rw [show loopsOf (fb Go.Proofs.Tryz.f107) = [] by kernel_rfl] at hb
    cases hb
def G9 : Env := G8.addP 107 2 bits_Mul64_in bits_Mul64_out bits_Mul64_SC
theorem g9 : EnvOk Go.Proofs.Tryz.prog G9 := EnvOk.addP g8 bits_Mul64_c bits_Mul64_says

-- ### bits_Len64: function 152
def bits_Len64_in : Tm := ⟨[], [(0, .w (.at (.int .u64)))]⟩
def bits_Len64_out : Tm := ⟨[], [(0, .w (.at (.int .i64)))]⟩

def bits_Len64_Λd : Loops := Loops.none
def bits_Len64_Λ : Loops := bits_Len64_Λd 

theorem bits_Len64_e (x : Int) : bits_Len64 x = den G9 bits_Len64_Λ true tab Go.Proofs.Tryz.f152.ntmps (fun fr H => finish tab 0 Go.Proofs.Tryz.f152.results.toList bits_Len64_out [] fr H some) (fun _ _ _ => none) (fun fr H => finish tab 0 Go.Proofs.Tryz.f152.results.toList bits_Len64_out [] fr H some) 10000 [.code (fb Go.Proofs.Tryz.f152)] (instFr bits_Len64_in [.i x]) (instH bits_Len64_in [.i x]) := by kernel_rfl
def bits_Len64_S : List Leaf → Option (List Leaf) := fun ls => un_i ls fun x rr => un_nil rr (bits_Len64 x)
def bits_Len64_SC : Tld := fun ls k' => un_i ls fun x rr => un_nil rr (out (bits_Len64 x) k')
theorem bits_Len64_Se (x : Int) : bits_Len64_S [.i x] = bits_Len64 x := by
  unfold bits_Len64_S
  simp only [un_i_ev, un_b_ev, un_s_ev, un_li_ev, un_lb_ev, un_ls_ev, un_nil_ev]
theorem bits_Len64_says : Says bits_Len64_SC bits_Len64_S := by
  intro β ls' k' r' h'
  unfold bits_Len64_SC at h'
  obtain ⟨x, l'1, rfl, h'1⟩ := un_i_some.1 h'
  obtain ⟨rfl, h'Z⟩ := un_nil_some.1 h'1
  obtain ⟨l', a', b'⟩ := out_some.1 h'Z
  exact ⟨l', (bits_Len64_Se x).trans a', b'⟩
theorem bits_Len64_c : FnC Go.Proofs.Tryz.prog 152 true 1 0 bits_Len64_in bits_Len64_out bits_Len64_S := by
  refine fn_ok (Λ := bits_Len64_Λ) mixed tab_ok g9 Go.Proofs.Tryz.func152 (by kernel_rfl) (body := fb Go.Proofs.Tryz.f152) rfl (ts := Go.Proofs.Tryz.f152.results.toList) rfl (cuts := []) (by kernel_rfl) (Nat.le_of_ble_eq_true (by kernel_rfl)) (by kernel_rfl) (rt := .w (.at (.int .i64))) rfl ?_ ?_
  · intro ls' r' h'
    unfold bits_Len64_S at h'
    obtain ⟨x, l'1, rfl, h'1⟩ := un_i_some.1 h'
    obtain ⟨rfl, h'Z⟩ := un_nil_some.1 h'1
    exact (bits_Len64_e x).symm.trans h'Z
  · intro E w0 ws ρ0 hk b hb
    rw [show loopsOf (fb Go.Proofs.Tryz.f152) = [] by kernel_rfl] at hb
    cases hb
def G10 : Env := G9.addP 152 1 bits_Len64_in bits_Len64_out bits_Len64_SC
theorem g10 : EnvOk Go.Proofs.Tryz.prog G10 := EnvOk.addP g9 bits_Len64_c bits_Len64_says

-- ### bits_LeadingZeros64: function 127
def bits_LeadingZeros64_in : Tm := ⟨[], [(0, .w (.at (.int .u64)))]⟩
def bits_LeadingZeros64_out : Tm := ⟨[], [(0, .w (.at (.int .i64)))]⟩

def bits_LeadingZeros64_Λd : Loops := Loops.none
def bits_LeadingZeros64_Λ : Loops := bits_LeadingZeros64_Λd 

theorem bits_LeadingZeros64_e (x : Int) : bits_LeadingZeros64 x = den G10 bits_LeadingZeros64_Λ true tab Go.Proofs.Tryz.f127.ntmps (fun fr H => finish tab 0 Go.Proofs.Tryz.f127.results.toList bits_LeadingZeros64_out [] fr H some) (fun _ _ _ => none) (fun fr H => finish tab 0 Go.Proofs.Tryz.f127.results.toList bits_LeadingZeros64_out [] fr H some) 10000 [.code (fb Go.Proofs.Tryz.f127)] (instFr bits_LeadingZeros64_in [.i x]) (instH bits_LeadingZeros64_in [.i x]) := by kernel_rfl
def bits_LeadingZeros64_S : List Leaf → Option (List Leaf) := fun ls => un_i ls fun x rr => un_nil rr (bits_LeadingZeros64 x)
def bits_LeadingZeros64_SC : Tld := fun ls k' => un_i ls fun x rr => un_nil rr (out (bits_LeadingZeros64 x) k')
theorem bits_LeadingZeros64_Se (x : Int) : bits_LeadingZeros64_S [.i x] = bits_LeadingZeros64 x := by
  unfold bits_LeadingZeros64_S
  simp only [un_i_ev, un_b_ev, un_s_ev, un_li_ev, un_lb_ev, un_ls_ev, un_nil_ev]
theorem bits_LeadingZeros64_says : Says bits_LeadingZeros64_SC bits_LeadingZeros64_S := by
  intro β ls' k' r' h'
  unfold bits_LeadingZeros64_SC at h'
  obtain ⟨x, l'1, rfl, h'1⟩ := un_i_some.1 h'
  obtain ⟨rfl, h'Z⟩ := un_nil_some.1 h'1
  obtain ⟨l', a', b'⟩ := out_some.1 h'Z
  exact ⟨l', (bits_LeadingZeros64_Se x).trans a', b'⟩
theorem bits_LeadingZeros64_c : FnC Go.Proofs.Tryz.prog 127 true 1 0 bits_LeadingZeros64_in bits_LeadingZeros64_out bits_LeadingZeros64_S := by
  refine fn_ok (Λ := bits_LeadingZeros64_Λ) mixed tab_ok g10 Go.Proofs.Tryz.func127 (by kernel_rfl) (body := fb Go.Proofs.Tryz.f127) rfl (ts := Go.Proofs.Tryz.f127.results.toList) rfl (cuts := []) (by kernel_rfl) (Nat.le_of_ble_eq_true (by kernel_rfl)) (by kernel_rfl) (rt := .w (.at (.int .i64))) rfl ?_ ?_
  · intro ls' r' h'
    unfold bits_LeadingZeros64_S at h'
    obtain ⟨x, l'1, rfl, h'1⟩ := un_i_some.1 h'
    obtain ⟨rfl, h'Z⟩ := un_nil_some.1 h'1
    exact (bits_LeadingZeros64_e x).symm.trans h'Z
  · intro E w0 ws ρ0 hk b hb
    rw [show loopsOf (fb Go.Proofs.Tryz.f127) = [] by kernel_rfl] at hb
    cases hb
def G11 : Env := G10.addP 127 1 bits_LeadingZeros64_in bits_LeadingZeros64_out bits_LeadingZeros64_SC
theorem g11 : EnvOk Go.Proofs.Tryz.prog G11 := EnvOk.addP g10 bits_LeadingZeros64_c bits_LeadingZeros64_says

-- ### bits_Div64: function 108
def bits_Div64_in : Tm := ⟨[], [(0, .w (.at (.int .u64))), (1, .w (.at (.int .u64))), (2, .w (.at (.int .u64)))]⟩
def bits_Div64_out : Tm := ⟨[], [(0, .tup [.at (.int .u64), .at (.int .u64)])]⟩
def bits_Div64_17_T : Tm := ⟨[], [(8, .w (.at (.int .u64))), (2, .w (.at (.int .u64))), (14, .w (.at (.int .u64))), (9, .w (.at (.int .u64))), (10, .w (.at (.int .u64))), (13, .w (.at (.int .u64))), (11, .w (.at (.int .u64))), (16, .w (.at (.int .u64))), (15, .w (.at (.int .u64)))]⟩
def bits_Div64_17_X0 : Tm := ⟨[], [(8, .w (.at (.int .u64))), (2, .w (.at (.int .u64))), (14, .w (.at (.int .u64))), (15, .w (.at (.int .u64))), (9, .w (.at (.int .u64))), (10, .w (.at (.int .u64))), (13, .w (.at (.int .u64))), (11, .w (.at (.int .u64)))]⟩
def bits_Div64_17_X : Exits := [(0, (bits_Div64_17_X0, []))]
def bits_Div64_17_R : Tm := ⟨[], []⟩
def bits_Div64_24_T : Tm := ⟨[], [(8, .w (.at (.int .u64))), (2, .w (.at (.int .u64))), (14, .w (.at (.int .u64))), (17, .w (.at (.int .u64))), (15, .w (.at (.int .u64))), (9, .w (.at (.int .u64))), (16, .w (.at (.int .u64))), (18, .w (.at (.int .u64))), (10, .w (.at (.int .u64)))]⟩
def bits_Div64_24_X2 : Tm := ⟨[], [(8, .w (.at (.int .u64))), (2, .w (.at (.int .u64))), (18, .w (.at (.int .u64))), (14, .w (.at (.int .u64))), (17, .w (.at (.int .u64))), (15, .w (.at (.int .u64)))]⟩
def bits_Div64_24_X : Exits := [(2, (bits_Div64_24_X2, []))]
def bits_Div64_24_R : Tm := ⟨[], []⟩

def bits_Div64_Λd (L17 : ({β : Type} → (Nat → List Leaf → Option β) → (List Leaf → Option β) → Nat → Int → Int → Int → Int → Int → Int → Int → Int → Int → Option β)) (L24 : ({β : Type} → (Nat → List Leaf → Option β) → (List Leaf → Option β) → Nat → Int → Int → Int → Int → Int → Int → Int → Int → Int → Option β)) : Loops := ⟨fun b fr H kx kr => bif Nat.beq (rid b) 17 then loopE 0 bits_Div64_17_T [] bits_Div64_17_X bits_Div64_17_R (bits_Div64_17_F @L17 top) fr H kx kr else bif Nat.beq (rid b) 24 then loopE 0 bits_Div64_24_T [] bits_Div64_24_X bits_Div64_24_R (bits_Div64_24_F @L24 top) fr H kx kr else none⟩
def bits_Div64_Λ : Loops := bits_Div64_Λd @bits_Div64_17_L @bits_Div64_24_L
theorem bits_Div64_17_e (L17 : ({β : Type} → (Nat → List Leaf → Option β) → (List Leaf → Option β) → Nat → Int → Int → Int → Int → Int → Int → Int → Int → Int → Option β)) (L24 : ({β : Type} → (Nat → List Leaf → Option β) → (List Leaf → Option β) → Nat → Int → Int → Int → Int → Int → Int → Int → Int → Int → Option β)) {α : Type} (kx : Nat → List Leaf → Option α) (kr : List Leaf → Option α) (again : Int → Int → Int → Int → Int → Int → Int → Int → Int → Option α) (s : Int) (y : Int) (un0 : Int) (yn1 : Int) (yn0 : Int) (un1 : Int) (un32 : Int) (rhat : Int) (q1 : Int) : bits_Div64_17_B  kx kr again s y un0 yn1 yn0 un1 un32 rhat q1 = loopB G11 (bits_Div64_Λd @L17 @L24) true tab Go.Proofs.Tryz.f108.ntmps 0 bits_Div64_17_T [] bits_Div64_17_X bits_Div64_17_R (bodyAt (fb Go.Proofs.Tryz.f108) 0) (fun ls => un_i ls fun s rr => un_i rr fun y rr => un_i rr fun un0 rr => un_i rr fun yn1 rr => un_i rr fun yn0 rr => un_i rr fun un1 rr => un_i rr fun un32 rr => un_i rr fun rhat rr => un_i rr fun q1 rr => un_nil rr (again s y un0 yn1 yn0 un1 un32 rhat q1)) kx kr (instFr bits_Div64_17_T [.i s, .i y, .i un0, .i yn1, .i yn0, .i un1, .i un32, .i rhat, .i q1]) (instH bits_Div64_17_T [.i s, .i y, .i un0, .i yn1, .i yn0, .i un1, .i un32, .i rhat, .i q1]) := by kernel_rfl
theorem bits_Div64_24_e (L17 : ({β : Type} → (Nat → List Leaf → Option β) → (List Leaf → Option β) → Nat → Int → Int → Int → Int → Int → Int → Int → Int → Int → Option β)) (L24 : ({β : Type} → (Nat → List Leaf → Option β) → (List Leaf → Option β) → Nat → Int → Int → Int → Int → Int → Int → Int → Int → Int → Option β)) {α : Type} (kx : Nat → List Leaf → Option α) (kr : List Leaf → Option α) (again : Int → Int → Int → Int → Int → Int → Int → Int → Int → Option α) (s : Int) (y : Int) (un0 : Int) (un21 : Int) (q1 : Int) (yn1 : Int) (rhat : Int) (q0 : Int) (yn0 : Int) : bits_Div64_24_B  kx kr again s y un0 un21 q1 yn1 rhat q0 yn0 = loopB G11 (bits_Div64_Λd @L17 @L24) true tab Go.Proofs.Tryz.f108.ntmps 0 bits_Div64_24_T [] bits_Div64_24_X bits_Div64_24_R (bodyAt (fb Go.Proofs.Tryz.f108) 1) (fun ls => un_i ls fun s rr => un_i rr fun y rr => un_i rr fun un0 rr => un_i rr fun un21 rr => un_i rr fun q1 rr => un_i rr fun yn1 rr => un_i rr fun rhat rr => un_i rr fun q0 rr => un_i rr fun yn0 rr => un_nil rr (again s y un0 un21 q1 yn1 rhat q0 yn0)) kx kr (instFr bits_Div64_24_T [.i s, .i y, .i un0, .i un21, .i q1, .i yn1, .i rhat, .i q0, .i yn0]) (instH bits_Div64_24_T [.i s, .i y, .i un0, .i un21, .i q1, .i yn1, .i rhat, .i q0, .i yn0]) := by kernel_rfl
theorem bits_Div64_24_lok (E : Nat → Prop) (w0 ws : World) (ρ0 : List Pl) (hk : ρ0.length = 0) : LOk Go.Proofs.Tryz.prog 108 Go.Proofs.Tryz.f108 true E w0 ws Go.Proofs.Tryz.f108.ntmps ρ0 bits_Div64_Λ (bodyAt (fb Go.Proofs.Tryz.f108) 1) := by
  refine lok mixed tab_ok g11 Go.Proofs.Tryz.func108 hk (T := bits_Div64_24_T) (rt := bits_Div64_24_R) (cuts := []) (ex := bits_Div64_24_X) (top := top) (F := bits_Div64_24_F @bits_Div64_24_L) (fun fr H kx kr => by kernel_rfl) ?_ ?_ ?_
  · intro α ls' kx' kr' r' h'
    unfold bits_Div64_24_F at h'
    obtain ⟨s, l'1, rfl, h'1⟩ := un_i_some.1 h'
    obtain ⟨y, l'2, rfl, h'2⟩ := un_i_some.1 h'1
    obtain ⟨un0, l'3, rfl, h'3⟩ := un_i_some.1 h'2
    obtain ⟨un21, l'4, rfl, h'4⟩ := un_i_some.1 h'3
    obtain ⟨q1, l'5, rfl, h'5⟩ := un_i_some.1 h'4
    obtain ⟨yn1, l'6, rfl, h'6⟩ := un_i_some.1 h'5
    obtain ⟨rhat, l'7, rfl, h'7⟩ := un_i_some.1 h'6
    obtain ⟨q0, l'8, rfl, h'8⟩ := un_i_some.1 h'7
    obtain ⟨yn0, l'9, rfl, h'9⟩ := un_i_some.1 h'8
    obtain ⟨rfl, h'Z⟩ := un_nil_some.1 h'9
    cases h'Z
  · intro α n' ls' kx' kr' r' h'
    unfold bits_Div64_24_F at h'
    obtain ⟨s, l'1, rfl, h'1⟩ := un_i_some.1 h'
    obtain ⟨y, l'2, rfl, h'2⟩ := un_i_some.1 h'1
    obtain ⟨un0, l'3, rfl, h'3⟩ := un_i_some.1 h'2
    obtain ⟨un21, l'4, rfl, h'4⟩ := un_i_some.1 h'3
    obtain ⟨q1, l'5, rfl, h'5⟩ := un_i_some.1 h'4
    obtain ⟨yn1, l'6, rfl, h'6⟩ := un_i_some.1 h'5
    obtain ⟨rhat, l'7, rfl, h'7⟩ := un_i_some.1 h'6
    obtain ⟨q0, l'8, rfl, h'8⟩ := un_i_some.1 h'7
    obtain ⟨yn0, l'9, rfl, h'9⟩ := un_i_some.1 h'8
    obtain ⟨rfl, h'Z⟩ := un_nil_some.1 h'9
    exact (bits_Div64_24_e @bits_Div64_17_L @bits_Div64_24_L kx' kr' (bits_Div64_24_L kx' kr' n') s y un0 un21 q1 yn1 rhat q0 yn0).symm.trans h'Z
  · intro b' hb
    rw [show loopsOf (bodyAt (fb Go.Proofs.Tryz.f108) 1) = [] by kernel_rfl] at hb
    cases hb
theorem bits_Div64_17_lok (E : Nat → Prop) (w0 ws : World) (ρ0 : List Pl) (hk : ρ0.length = 0) : LOk Go.Proofs.Tryz.prog 108 Go.Proofs.Tryz.f108 true E w0 ws Go.Proofs.Tryz.f108.ntmps ρ0 bits_Div64_Λ (bodyAt (fb Go.Proofs.Tryz.f108) 0) := by
  refine lok mixed tab_ok g11 Go.Proofs.Tryz.func108 hk (T := bits_Div64_17_T) (rt := bits_Div64_17_R) (cuts := []) (ex := bits_Div64_17_X) (top := top) (F := bits_Div64_17_F @bits_Div64_17_L) (fun fr H kx kr => by kernel_rfl) ?_ ?_ ?_
  · intro α ls' kx' kr' r' h'
    unfold bits_Div64_17_F at h'
    obtain ⟨s, l'1, rfl, h'1⟩ := un_i_some.1 h'
    obtain ⟨y, l'2, rfl, h'2⟩ := un_i_some.1 h'1
    obtain ⟨un0, l'3, rfl, h'3⟩ := un_i_some.1 h'2
    obtain ⟨yn1, l'4, rfl, h'4⟩ := un_i_some.1 h'3
    obtain ⟨yn0, l'5, rfl, h'5⟩ := un_i_some.1 h'4
    obtain ⟨un1, l'6, rfl, h'6⟩ := un_i_some.1 h'5
    obtain ⟨un32, l'7, rfl, h'7⟩ := un_i_some.1 h'6
    obtain ⟨rhat, l'8, rfl, h'8⟩ := un_i_some.1 h'7
    obtain ⟨q1, l'9, rfl, h'9⟩ := un_i_some.1 h'8
    obtain ⟨rfl, h'Z⟩ := un_nil_some.1 h'9
    cases h'Z
  · intro α n' ls' kx' kr' r' h'
    unfold bits_Div64_17_F at h'
    obtain ⟨s, l'1, rfl, h'1⟩ := un_i_some.1 h'
    obtain ⟨y, l'2, rfl, h'2⟩ := un_i_some.1 h'1
    obtain ⟨un0, l'3, rfl, h'3⟩ := un_i_some.1 h'2
    obtain ⟨yn1, l'4, rfl, h'4⟩ := un_i_some.1 h'3
    obtain ⟨yn0, l'5, rfl, h'5⟩ := un_i_some.1 h'4
    obtain ⟨un1, l'6, rfl, h'6⟩ := un_i_some.1 h'5
    obtain ⟨un32, l'7, rfl, h'7⟩ := un_i_some.1 h'6
    obtain ⟨rhat, l'8, rfl, h'8⟩ := un_i_some.1 h'7
    obtain ⟨q1, l'9, rfl, h'9⟩ := un_i_some.1 h'8
    obtain ⟨rfl, h'Z⟩ := un_nil_some.1 h'9
    exact (bits_Div64_17_e @bits_Div64_17_L @bits_Div64_24_L kx' kr' (bits_Div64_17_L kx' kr' n') s y un0 yn1 yn0 un1 un32 rhat q1).symm.trans h'Z
  · intro b' hb
    rw [show loopsOf (bodyAt (fb Go.Proofs.Tryz.f108) 0) = [] by kernel_rfl] at hb
    cases hb
theorem bits_Div64_ed (L17 : ({β : Type} → (Nat → List Leaf → Option β) → (List Leaf → Option β) → Nat → Int → Int → Int → Int → Int → Int → Int → Int → Int → Option β)) (L24 : ({β : Type} → (Nat → List Leaf → Option β) → (List Leaf → Option β) → Nat → Int → Int → Int → Int → Int → Int → Int → Int → Int → Option β)) (hi : Int) (lo : Int) (y : Int) : bits_Div64_d @L17 @L24 hi lo y = den G11 (bits_Div64_Λd @L17 @L24) true tab Go.Proofs.Tryz.f108.ntmps (fun fr H => finish tab 0 Go.Proofs.Tryz.f108.results.toList bits_Div64_out [] fr H some) (fun _ _ _ => none) (fun fr H => finish tab 0 Go.Proofs.Tryz.f108.results.toList bits_Div64_out [] fr H some) 10000 [.code (fb Go.Proofs.Tryz.f108)] (instFr bits_Div64_in [.i hi, .i lo, .i y]) (instH bits_Div64_in [.i hi, .i lo, .i y]) := by kernel_rfl
theorem bits_Div64_e (hi : Int) (lo : Int) (y : Int) : bits_Div64 hi lo y = den G11 bits_Div64_Λ true tab Go.Proofs.Tryz.f108.ntmps (fun fr H => finish tab 0 Go.Proofs.Tryz.f108.results.toList bits_Div64_out [] fr H some) (fun _ _ _ => none) (fun fr H => finish tab 0 Go.Proofs.Tryz.f108.results.toList bits_Div64_out [] fr H some) 10000 [.code (fb Go.Proofs.Tryz.f108)] (instFr bits_Div64_in [.i hi, .i lo, .i y]) (instH bits_Div64_in [.i hi, .i lo, .i y]) := bits_Div64_ed @bits_Div64_17_L @bits_Div64_24_L hi lo y
def bits_Div64_S : List Leaf → Option (List Leaf) := fun ls => un_i ls fun hi rr => un_i rr fun lo rr => un_i rr fun y rr => un_nil rr (bits_Div64 hi lo y)
def bits_Div64_SC : Tld := fun ls k' => un_i ls fun hi rr => un_i rr fun lo rr => un_i rr fun y rr => un_nil rr (out (bits_Div64 hi lo y) k')
theorem bits_Div64_Se (hi : Int) (lo : Int) (y : Int) : bits_Div64_S [.i hi, .i lo, .i y] = bits_Div64 hi lo y := by
  unfold bits_Div64_S
  simp only [un_i_ev, un_b_ev, un_s_ev, un_li_ev, un_lb_ev, un_ls_ev, un_nil_ev]
theorem bits_Div64_says : Says bits_Div64_SC bits_Div64_S := by
  intro β ls' k' r' h'
  unfold bits_Div64_SC at h'
  obtain ⟨hi, l'1, rfl, h'1⟩ := un_i_some.1 h'
  obtain ⟨lo, l'2, rfl, h'2⟩ := un_i_some.1 h'1
  obtain ⟨y, l'3, rfl, h'3⟩ := un_i_some.1 h'2
  obtain ⟨rfl, h'Z⟩ := un_nil_some.1 h'3
  obtain ⟨l', a', b'⟩ := out_some.1 h'Z
  exact ⟨l', (bits_Div64_Se hi lo y).trans a', b'⟩
theorem bits_Div64_c : FnC Go.Proofs.Tryz.prog 108 true 3 0 bits_Div64_in bits_Div64_out bits_Div64_S := by
  refine fn_ok (Λ := bits_Div64_Λ) mixed tab_ok g11 Go.Proofs.Tryz.func108 (by kernel_rfl) (body := fb Go.Proofs.Tryz.f108) rfl (ts := Go.Proofs.Tryz.f108.results.toList) rfl (cuts := []) (by kernel_rfl) (Nat.le_of_ble_eq_true (by kernel_rfl)) (by kernel_rfl) (rt := .tup [.at (.int .u64), .at (.int .u64)]) rfl ?_ ?_
  · intro ls' r' h'
    unfold bits_Div64_S at h'
    obtain ⟨hi, l'1, rfl, h'1⟩ := un_i_some.1 h'
    obtain ⟨lo, l'2, rfl, h'2⟩ := un_i_some.1 h'1
    obtain ⟨y, l'3, rfl, h'3⟩ := un_i_some.1 h'2
    obtain ⟨rfl, h'Z⟩ := un_nil_some.1 h'3
    exact (bits_Div64_e hi lo y).symm.trans h'Z
  · intro E w0 ws ρ0 hk b hb
    rw [show loopsOf (fb Go.Proofs.Tryz.f108) = [(bodyAt (fb Go.Proofs.Tryz.f108) 0), (bodyAt (fb Go.Proofs.Tryz.f108) 1)] by kernel_rfl] at hb
    simp only [List.mem_cons, List.mem_nil_iff, or_false] at hb
    rcases hb with rfl | rfl
    · exact bits_Div64_17_lok E w0 ws ρ0 hk
    · exact bits_Div64_24_lok E w0 ws ρ0 hk
def G12 : Env := G11.addP 108 3 bits_Div64_in bits_Div64_out bits_Div64_SC
theorem g12 : EnvOk Go.Proofs.Tryz.prog G12 := EnvOk.addP g11 bits_Div64_c bits_Div64_says

-- ### fix_Add: function 106
def fix_Add_in : Tm := ⟨[], [(0, .w (.at (.int .u64))), (1, .w (.at (.int .u64)))]⟩
def fix_Add_out : Tm := ⟨[], [(0, .w (.at (.int .u64)))]⟩

def fix_Add_Λd : Loops := Loops.none
def fix_Add_Λ : Loops := fix_Add_Λd 

theorem fix_Add_e (a : Int) (b : Int) : fix_Add a b = den G12 fix_Add_Λ true tab Go.Proofs.Tryz.f106.ntmps (fun fr H => finish tab 0 Go.Proofs.Tryz.f106.results.toList fix_Add_out [] fr H some) (fun _ _ _ => none) (fun fr H => finish tab 0 Go.Proofs.Tryz.f106.results.toList fix_Add_out [] fr H some) 10000 [.code (fb Go.Proofs.Tryz.f106)] (instFr fix_Add_in [.i a, .i b]) (instH fix_Add_in [.i a, .i b]) := by kernel_rfl
def fix_Add_S : List Leaf → Option (List Leaf) := fun ls => un_i ls fun a rr => un_i rr fun b rr => un_nil rr (fix_Add a b)
def fix_Add_SC : Tld := fun ls k' => un_i ls fun a rr => un_i rr fun b rr => un_nil rr (out (fix_Add a b) k')
theorem fix_Add_Se (a : Int) (b : Int) : fix_Add_S [.i a, .i b] = fix_Add a b := by
  unfold fix_Add_S
  simp only [un_i_ev, un_b_ev, un_s_ev, un_li_ev, un_lb_ev, un_ls_ev, un_nil_ev]
theorem fix_Add_says : Says fix_Add_SC fix_Add_S := by
  intro β ls' k' r' h'
  unfold fix_Add_SC at h'
  obtain ⟨a, l'1, rfl, h'1⟩ := un_i_some.1 h'
  obtain ⟨b, l'2, rfl, h'2⟩ := un_i_some.1 h'1
  obtain ⟨rfl, h'Z⟩ := un_nil_some.1 h'2
  obtain ⟨l', a', b'⟩ := out_some.1 h'Z
  exact ⟨l', (fix_Add_Se a b).trans a', b'⟩
theorem fix_Add_c : FnC Go.Proofs.Tryz.prog 106 true 2 0 fix_Add_in fix_Add_out fix_Add_S := by
  refine fn_ok (Λ := fix_Add_Λ) mixed tab_ok g12 Go.Proofs.Tryz.func106 (by kernel_rfl) (body := fb Go.Proofs.Tryz.f106) rfl (ts := Go.Proofs.Tryz.f106.results.toList) rfl (cuts := []) (by kernel_rfl) (Nat.le_of_ble_eq_true (by kernel_rfl)) (by kernel_rfl) (rt := .w (.at (.int .u64))) rfl ?_ ?_
  · intro ls' r' h'
    unfold fix_Add_S at h'
    obtain ⟨a, l'1, rfl, h'1⟩ := un_i_some.1 h'
    obtain ⟨b, l'2, rfl, h'2⟩ := un_i_some.1 h'1
    obtain ⟨rfl, h'Z⟩ := un_nil_some.1 h'2
    exact (fix_Add_e a b).symm.trans h'Z
  · intro E w0 ws ρ0 hk b hb
    rw [show loopsOf (fb Go.Proofs.Tryz.f106) = [] by kernel_rfl] at hb
    cases hb
def G13 : Env := G12.addP 106 2 fix_Add_in fix_Add_out fix_Add_SC
theorem g13 : EnvOk Go.Proofs.Tryz.prog G13 := EnvOk.addP g12 fix_Add_c fix_Add_says

-- ### fix_Mul: function 76
def fix_Mul_in : Tm := ⟨[], [(0, .w (.at (.int .u64))), (1, .w (.at (.int .u64)))]⟩
def fix_Mul_out : Tm := ⟨[], [(0, .w (.at (.int .u64)))]⟩

def fix_Mul_Λd : Loops := Loops.none
def fix_Mul_Λ : Loops := fix_Mul_Λd 

theorem fix_Mul_e (a : Int) (b : Int) : fix_Mul a b = den G13 fix_Mul_Λ true tab Go.Proofs.Tryz.f76.ntmps (fun fr H => finish tab 0 Go.Proofs.Tryz.f76.results.toList fix_Mul_out [] fr H some) (fun _ _ _ => none) (fun fr H => finish tab 0 Go.Proofs.Tryz.f76.results.toList fix_Mul_out [] fr H some) 10000 [.code (fb Go.Proofs.Tryz.f76)] (instFr fix_Mul_in [.i a, .i b]) (instH fix_Mul_in [.i a, .i b]) := by kernel_rfl
def fix_Mul_S : List Leaf → Option (List Leaf) := fun ls => un_i ls fun a rr => un_i rr fun b rr => un_nil rr (fix_Mul a b)
def fix_Mul_SC : Tld := fun ls k' => un_i ls fun a rr => un_i rr fun b rr => un_nil rr (out (fix_Mul a b) k')
theorem fix_Mul_Se (a : Int) (b : Int) : fix_Mul_S [.i a, .i b] = fix_Mul a b := by
  unfold fix_Mul_S
  simp only [un_i_ev, un_b_ev, un_s_ev, un_li_ev, un_lb_ev, un_ls_ev, un_nil_ev]
theorem fix_Mul_says : Says fix_Mul_SC fix_Mul_S := by
  intro β ls' k' r' h'
  unfold fix_Mul_SC at h'
  obtain ⟨a, l'1, rfl, h'1⟩ := un_i_some.1 h'
  obtain ⟨b, l'2, rfl, h'2⟩ := un_i_some.1 h'1
  obtain ⟨rfl, h'Z⟩ := un_nil_some.1 h'2
  obtain ⟨l', a', b'⟩ := out_some.1 h'Z
  exact ⟨l', (fix_Mul_Se a b).trans a', b'⟩
theorem fix_Mul_c : FnC Go.Proofs.Tryz.prog 76 true 2 0 fix_Mul_in fix_Mul_out fix_Mul_S := by
  refine fn_ok (Λ := fix_Mul_Λ) mixed tab_ok g13 Go.Proofs.Tryz.func76 (by kernel_rfl) (body := fb Go.Proofs.Tryz.f76) rfl (ts := Go.Proofs.Tryz.f76.results.toList) rfl (cuts := []) (by kernel_rfl) (Nat.le_of_ble_eq_true (by kernel_rfl)) (by kernel_rfl) (rt := .w (.at (.int .u64))) rfl ?_ ?_
  · intro ls' r' h'
    unfold fix_Mul_S at h'
    obtain ⟨a, l'1, rfl, h'1⟩ := un_i_some.1 h'
    obtain ⟨b, l'2, rfl, h'2⟩ := un_i_some.1 h'1
    obtain ⟨rfl, h'Z⟩ := un_nil_some.1 h'2
    exact (fix_Mul_e a b).symm.trans h'Z
  · intro E w0 ws ρ0 hk b hb
    rw [show loopsOf (fb Go.Proofs.Tryz.f76) = [] by kernel_rfl] at hb
    cases hb
def G14 : Env := G13.addP 76 2 fix_Mul_in fix_Mul_out fix_Mul_SC
theorem g14 : EnvOk Go.Proofs.Tryz.prog G14 := EnvOk.addP g13 fix_Mul_c fix_Mul_says

-- ### fix_MulDiv: function 73
def fix_MulDiv_in : Tm := ⟨[], [(0, .w (.at (.int .u64))), (1, .w (.at (.int .u64))), (2, .w (.at (.int .u64)))]⟩
def fix_MulDiv_out : Tm := ⟨[], [(0, .w (.at (.int .u64)))]⟩

def fix_MulDiv_Λd : Loops := Loops.none
def fix_MulDiv_Λ : Loops := fix_MulDiv_Λd 

theorem fix_MulDiv_e (a : Int) (b : Int) (c : Int) : fix_MulDiv a b c = den G14 fix_MulDiv_Λ true tab Go.Proofs.Tryz.f73.ntmps (fun fr H => finish tab 0 Go.Proofs.Tryz.f73.results.toList fix_MulDiv_out [] fr H some) (fun _ _ _ => none) (fun fr H => finish tab 0 Go.Proofs.Tryz.f73.results.toList fix_MulDiv_out [] fr H some) 10000 [.code (fb Go.Proofs.Tryz.f73)] (instFr fix_MulDiv_in [.i a, .i b, .i c]) (instH fix_MulDiv_in [.i a, .i b, .i c]) := by kernel_rfl
def fix_MulDiv_S : List Leaf → Option (List Leaf) := fun ls => un_i ls fun a rr => un_i rr fun b rr => un_i rr fun c rr => un_nil rr (fix_MulDiv a b c)
def fix_MulDiv_SC : Tld := fun ls k' => un_i ls fun a rr => un_i rr fun b rr => un_i rr fun c rr => un_nil rr (out (fix_MulDiv a b c) k')
theorem fix_MulDiv_Se (a : Int) (b : Int) (c : Int) : fix_MulDiv_S [.i a, .i b, .i c] = fix_MulDiv a b c := by
  unfold fix_MulDiv_S
  simp only [un_i_ev, un_b_ev, un_s_ev, un_li_ev, un_lb_ev, un_ls_ev, un_nil_ev]
theorem fix_MulDiv_says : Says fix_MulDiv_SC fix_MulDiv_S := by
  intro β ls' k' r' h'
  unfold fix_MulDiv_SC at h'
  obtain ⟨a, l'1, rfl, h'1⟩ := un_i_some.1 h'
  obtain ⟨b, l'2, rfl, h'2⟩ := un_i_some.1 h'1
  obtain ⟨c, l'3, rfl, h'3⟩ := un_i_some.1 h'2
  obtain ⟨rfl, h'Z⟩ := un_nil_some.1 h'3
  obtain ⟨l', a', b'⟩ := out_some.1 h'Z
  exact ⟨l', (fix_MulDiv_Se a b c).trans a', b'⟩
theorem fix_MulDiv_c : FnC Go.Proofs.Tryz.prog 73 true 3 0 fix_MulDiv_in fix_MulDiv_out fix_MulDiv_S := by
  refine fn_ok (Λ := fix_MulDiv_Λ) mixed tab_ok g14 Go.Proofs.Tryz.func73 (by kernel_rfl) (body := fb Go.Proofs.Tryz.f73) rfl (ts := Go.Proofs.Tryz.f73.results.toList) rfl (cuts := []) (by kernel_rfl) (Nat.le_of_ble_eq_true (by kernel_rfl)) (by kernel_rfl) (rt := .w (.at (.int .u64))) rfl ?_ ?_
  · intro ls' r' h'
    unfold fix_MulDiv_S at h'
    obtain ⟨a, l'1, rfl, h'1⟩ := un_i_some.1 h'
    obtain ⟨b, l'2, rfl, h'2⟩ := un_i_some.1 h'1
    obtain ⟨c, l'3, rfl, h'3⟩ := un_i_some.1 h'2
    obtain ⟨rfl, h'Z⟩ := un_nil_some.1 h'3
    exact (fix_MulDiv_e a b c).symm.trans h'Z
  · intro E w0 ws ρ0 hk b hb
    rw [show loopsOf (fb Go.Proofs.Tryz.f73) = [] by kernel_rfl] at hb
    cases hb
def G15 : Env := G14.addP 73 3 fix_MulDiv_in fix_MulDiv_out fix_MulDiv_SC
theorem g15 : EnvOk Go.Proofs.Tryz.prog G15 := EnvOk.addP g14 fix_MulDiv_c fix_MulDiv_says

-- ### fix_SqrtMul: function 145
def fix_SqrtMul_in : Tm := ⟨[], [(0, .w (.at (.int .u64))), (1, .w (.at (.int .u64)))]⟩
def fix_SqrtMul_out : Tm := ⟨[], [(0, .w (.at (.int .u64)))]⟩
def fix_SqrtMul_4_T : Tm := ⟨[], [(8, .w (.at (.int .u64))), (7, .w (.at (.int .u64))), (6, .w (.at (.int .u64))), (5, .w (.at (.int .u64)))]⟩
def fix_SqrtMul_4_X0 : Tm := ⟨[], [(7, .w (.at (.int .u64)))]⟩
def fix_SqrtMul_4_X : Exits := [(0, (fix_SqrtMul_4_X0, []))]
def fix_SqrtMul_4_R : Tm := ⟨[], []⟩

def fix_SqrtMul_Λd (L4 : ({β : Type} → (Nat → List Leaf → Option β) → (List Leaf → Option β) → Nat → Int → Int → Int → Int → Option β)) : Loops := ⟨fun b fr H kx kr => bif Nat.beq (rid b) 4 then loopE 0 fix_SqrtMul_4_T [] fix_SqrtMul_4_X fix_SqrtMul_4_R (fix_SqrtMul_4_F @L4 top) fr H kx kr else none⟩
def fix_SqrtMul_Λ : Loops := fix_SqrtMul_Λd @fix_SqrtMul_4_L
theorem fix_SqrtMul_4_e (L4 : ({β : Type} → (Nat → List Leaf → Option β) → (List Leaf → Option β) → Nat → Int → Int → Int → Int → Option β)) {α : Type} (kx : Nat → List Leaf → Option α) (kr : List Leaf → Option α) (again : Int → Int → Int → Int → Option α) (bit : Int) (root : Int) (low : Int) (high : Int) : fix_SqrtMul_4_B  kx kr again bit root low high = loopB G15 (fix_SqrtMul_Λd @L4) true tab Go.Proofs.Tryz.f145.ntmps 0 fix_SqrtMul_4_T [] fix_SqrtMul_4_X fix_SqrtMul_4_R (bodyAt (fb Go.Proofs.Tryz.f145) 0) (fun ls => un_i ls fun bit rr => un_i rr fun root rr => un_i rr fun low rr => un_i rr fun high rr => un_nil rr (again bit root low high)) kx kr (instFr fix_SqrtMul_4_T [.i bit, .i root, .i low, .i high]) (instH fix_SqrtMul_4_T [.i bit, .i root, .i low, .i high]) := by kernel_rfl
theorem fix_SqrtMul_4_lok (E : Nat → Prop) (w0 ws : World) (ρ0 : List Pl) (hk : ρ0.length = 0) : LOk Go.Proofs.Tryz.prog 145 Go.Proofs.Tryz.f145 true E w0 ws Go.Proofs.Tryz.f145.ntmps ρ0 fix_SqrtMul_Λ (bodyAt (fb Go.Proofs.Tryz.f145) 0) := by
  refine lok mixed tab_ok g15 Go.Proofs.Tryz.func145 hk (T := fix_SqrtMul_4_T) (rt := fix_SqrtMul_4_R) (cuts := []) (ex := fix_SqrtMul_4_X) (top := top) (F := fix_SqrtMul_4_F @fix_SqrtMul_4_L) (fun fr H kx kr => by kernel_rfl) ?_ ?_ ?_
  · intro α ls' kx' kr' r' h'
    unfold fix_SqrtMul_4_F at h'
    obtain ⟨bit, l'1, rfl, h'1⟩ := un_i_some.1 h'
    obtain ⟨root, l'2, rfl, h'2⟩ := un_i_some.1 h'1
    obtain ⟨low, l'3, rfl, h'3⟩ := un_i_some.1 h'2
    obtain ⟨high, l'4, rfl, h'4⟩ := un_i_some.1 h'3
    obtain ⟨rfl, h'Z⟩ := un_nil_some.1 h'4
    cases h'Z
  · intro α n' ls' kx' kr' r' h'
    unfold fix_SqrtMul_4_F at h'
    obtain ⟨bit, l'1, rfl, h'1⟩ := un_i_some.1 h'
    obtain ⟨root, l'2, rfl, h'2⟩ := un_i_some.1 h'1
    obtain ⟨low, l'3, rfl, h'3⟩ := un_i_some.1 h'2
    obtain ⟨high, l'4, rfl, h'4⟩ := un_i_some.1 h'3
    obtain ⟨rfl, h'Z⟩ := un_nil_some.1 h'4
    exact (fix_SqrtMul_4_e @fix_SqrtMul_4_L kx' kr' (fix_SqrtMul_4_L kx' kr' n') bit root low high).symm.trans h'Z
  · intro b' hb
    rw [show loopsOf (bodyAt (fb Go.Proofs.Tryz.f145) 0) = [] by kernel_rfl] at hb
    cases hb
theorem fix_SqrtMul_ed (L4 : ({β : Type} → (Nat → List Leaf → Option β) → (List Leaf → Option β) → Nat → Int → Int → Int → Int → Option β)) (a : Int) (b : Int) : fix_SqrtMul_d @L4 a b = den G15 (fix_SqrtMul_Λd @L4) true tab Go.Proofs.Tryz.f145.ntmps (fun fr H => finish tab 0 Go.Proofs.Tryz.f145.results.toList fix_SqrtMul_out [] fr H some) (fun _ _ _ => none) (fun fr H => finish tab 0 Go.Proofs.Tryz.f145.results.toList fix_SqrtMul_out [] fr H some) 10000 [.code (fb Go.Proofs.Tryz.f145)] (instFr fix_SqrtMul_in [.i a, .i b]) (instH fix_SqrtMul_in [.i a, .i b]) := by kernel_rfl
theorem fix_SqrtMul_e (a : Int) (b : Int) : fix_SqrtMul a b = den G15 fix_SqrtMul_Λ true tab Go.Proofs.Tryz.f145.ntmps (fun fr H => finish tab 0 Go.Proofs.Tryz.f145.results.toList fix_SqrtMul_out [] fr H some) (fun _ _ _ => none) (fun fr H => finish tab 0 Go.Proofs.Tryz.f145.results.toList fix_SqrtMul_out [] fr H some) 10000 [.code (fb Go.Proofs.Tryz.f145)] (instFr fix_SqrtMul_in [.i a, .i b]) (instH fix_SqrtMul_in [.i a, .i b]) := fix_SqrtMul_ed @fix_SqrtMul_4_L a b
def fix_SqrtMul_S : List Leaf → Option (List Leaf) := fun ls => un_i ls fun a rr => un_i rr fun b rr => un_nil rr (fix_SqrtMul a b)
def fix_SqrtMul_SC : Tld := fun ls k' => un_i ls fun a rr => un_i rr fun b rr => un_nil rr (out (fix_SqrtMul a b) k')
theorem fix_SqrtMul_Se (a : Int) (b : Int) : fix_SqrtMul_S [.i a, .i b] = fix_SqrtMul a b := by
  unfold fix_SqrtMul_S
  simp only [un_i_ev, un_b_ev, un_s_ev, un_li_ev, un_lb_ev, un_ls_ev, un_nil_ev]
theorem fix_SqrtMul_says : Says fix_SqrtMul_SC fix_SqrtMul_S := by
  intro β ls' k' r' h'
  unfold fix_SqrtMul_SC at h'
  obtain ⟨a, l'1, rfl, h'1⟩ := un_i_some.1 h'
  obtain ⟨b, l'2, rfl, h'2⟩ := un_i_some.1 h'1
  obtain ⟨rfl, h'Z⟩ := un_nil_some.1 h'2
  obtain ⟨l', a', b'⟩ := out_some.1 h'Z
  exact ⟨l', (fix_SqrtMul_Se a b).trans a', b'⟩
theorem fix_SqrtMul_c : FnC Go.Proofs.Tryz.prog 145 true 2 0 fix_SqrtMul_in fix_SqrtMul_out fix_SqrtMul_S := by
  refine fn_ok (Λ := fix_SqrtMul_Λ) mixed tab_ok g15 Go.Proofs.Tryz.func145 (by kernel_rfl) (body := fb Go.Proofs.Tryz.f145) rfl (ts := Go.Proofs.Tryz.f145.results.toList) rfl (cuts := []) (by kernel_rfl) (Nat.le_of_ble_eq_true (by kernel_rfl)) (by kernel_rfl) (rt := .w (.at (.int .u64))) rfl ?_ ?_
  · intro ls' r' h'
    unfold fix_SqrtMul_S at h'
    obtain ⟨a, l'1, rfl, h'1⟩ := un_i_some.1 h'
    obtain ⟨b, l'2, rfl, h'2⟩ := un_i_some.1 h'1
    obtain ⟨rfl, h'Z⟩ := un_nil_some.1 h'2
    exact (fix_SqrtMul_e a b).symm.trans h'Z
  · intro E w0 ws ρ0 hk b hb
    rw [show loopsOf (fb Go.Proofs.Tryz.f145) = [(bodyAt (fb Go.Proofs.Tryz.f145) 0)] by kernel_rfl] at hb
    simp only [List.mem_cons, List.mem_nil_iff, or_false] at hb
    rcases hb with rfl
    · exact fix_SqrtMul_4_lok E w0 ws ρ0 hk
def G16 : Env := G15.addP 145 2 fix_SqrtMul_in fix_SqrtMul_out fix_SqrtMul_SC
theorem g16 : EnvOk Go.Proofs.Tryz.prog G16 := EnvOk.addP g15 fix_SqrtMul_c fix_SqrtMul_says

-- ### fix_Sqrt: function 121
def fix_Sqrt_in : Tm := ⟨[], [(0, .w (.at (.int .u64)))]⟩
def fix_Sqrt_out : Tm := ⟨[], [(0, .w (.at (.int .u64)))]⟩

def fix_Sqrt_Λd : Loops := Loops.none
def fix_Sqrt_Λ : Loops := fix_Sqrt_Λd 

theorem fix_Sqrt_e (n2 : Int) : fix_Sqrt n2 = den G16 fix_Sqrt_Λ true tab Go.Proofs.Tryz.f121.ntmps (fun fr H => finish tab 0 Go.Proofs.Tryz.f121.results.toList fix_Sqrt_out [] fr H some) (fun _ _ _ => none) (fun fr H => finish tab 0 Go.Proofs.Tryz.f121.results.toList fix_Sqrt_out [] fr H some) 10000 [.code (fb Go.Proofs.Tryz.f121)] (instFr fix_Sqrt_in [.i n2]) (instH fix_Sqrt_in [.i n2]) := by kernel_rfl
def fix_Sqrt_S : List Leaf → Option (List Leaf) := fun ls => un_i ls fun n2 rr => un_nil rr (fix_Sqrt n2)
def fix_Sqrt_SC : Tld := fun ls k' => un_i ls fun n2 rr => un_nil rr (out (fix_Sqrt n2) k')
theorem fix_Sqrt_Se (n2 : Int) : fix_Sqrt_S [.i n2] = fix_Sqrt n2 := by
  unfold fix_Sqrt_S
  simp only [un_i_ev, un_b_ev, un_s_ev, un_li_ev, un_lb_ev, un_ls_ev, un_nil_ev]
theorem fix_Sqrt_says : Says fix_Sqrt_SC fix_Sqrt_S := by
  intro β ls' k' r' h'
  unfold fix_Sqrt_SC at h'
  obtain ⟨n2, l'1, rfl, h'1⟩ := un_i_some.1 h'
  obtain ⟨rfl, h'Z⟩ := un_nil_some.1 h'1
  obtain ⟨l', a', b'⟩ := out_some.1 h'Z
  exact ⟨l', (fix_Sqrt_Se n2).trans a', b'⟩
theorem fix_Sqrt_c : FnC Go.Proofs.Tryz.prog 121 true 1 0 fix_Sqrt_in fix_Sqrt_out fix_Sqrt_S := by
  refine fn_ok (Λ := fix_Sqrt_Λ) mixed tab_ok g16 Go.Proofs.Tryz.func121 (by kernel_rfl) (body := fb Go.Proofs.Tryz.f121) rfl (ts := Go.Proofs.Tryz.f121.results.toList) rfl (cuts := []) (by kernel_rfl) (Nat.le_of_ble_eq_true (by kernel_rfl)) (by kernel_rfl) (rt := .w (.at (.int .u64))) rfl ?_ ?_
  · intro ls' r' h'
    unfold fix_Sqrt_S at h'
    obtain ⟨n2, l'1, rfl, h'1⟩ := un_i_some.1 h'
    obtain ⟨rfl, h'Z⟩ := un_nil_some.1 h'1
    exact (fix_Sqrt_e n2).symm.trans h'Z
  · intro E w0 ws ρ0 hk b hb
    rw [show loopsOf (fb Go.Proofs.Tryz.f121) = [] by kernel_rfl] at hb
    cases hb
def G17 : Env := G16.addP 121 1 fix_Sqrt_in fix_Sqrt_out fix_Sqrt_SC
theorem g17 : EnvOk Go.Proofs.Tryz.prog G17 := EnvOk.addP g16 fix_Sqrt_c fix_Sqrt_says

-- ### ref_Seq: function 88
def ref_Seq_in : Tm := ⟨[], [(0, .w (.at (.int .u64)))]⟩
def ref_Seq_out : Tm := ⟨[], [(0, .w (.at (.int .u64)))]⟩

def ref_Seq_Λd : Loops := Loops.none
def ref_Seq_Λ : Loops := ref_Seq_Λd 

theorem ref_Seq_e (n2 : Int) : ref_Seq n2 = den G17 ref_Seq_Λ true tab Go.Proofs.Tryz.f88.ntmps (fun fr H => finish tab 0 Go.Proofs.Tryz.f88.results.toList ref_Seq_out [] fr H some) (fun _ _ _ => none) (fun fr H => finish tab 0 Go.Proofs.Tryz.f88.results.toList ref_Seq_out [] fr H some) 10000 [.code (fb Go.Proofs.Tryz.f88)] (instFr ref_Seq_in [.i n2]) (instH ref_Seq_in [.i n2]) := by kernel_rfl
def ref_Seq_S : List Leaf → Option (List Leaf) := fun ls => un_i ls fun n2 rr => un_nil rr (ref_Seq n2)
def ref_Seq_SC : Tld := fun ls k' => un_i ls fun n2 rr => un_nil rr (out (ref_Seq n2) k')
theorem ref_Seq_Se (n2 : Int) : ref_Seq_S [.i n2] = ref_Seq n2 := by
  unfold ref_Seq_S
  simp only [un_i_ev, un_b_ev, un_s_ev, un_li_ev, un_lb_ev, un_ls_ev, un_nil_ev]
theorem ref_Seq_says : Says ref_Seq_SC ref_Seq_S := by
  intro β ls' k' r' h'
  unfold ref_Seq_SC at h'
  obtain ⟨n2, l'1, rfl, h'1⟩ := un_i_some.1 h'
  obtain ⟨rfl, h'Z⟩ := un_nil_some.1 h'1
  obtain ⟨l', a', b'⟩ := out_some.1 h'Z
  exact ⟨l', (ref_Seq_Se n2).trans a', b'⟩
theorem ref_Seq_c : FnC Go.Proofs.Tryz.prog 88 true 1 0 ref_Seq_in ref_Seq_out ref_Seq_S := by
  refine fn_ok (Λ := ref_Seq_Λ) mixed tab_ok g17 Go.Proofs.Tryz.func88 (by kernel_rfl) (body := fb Go.Proofs.Tryz.f88) rfl (ts := Go.Proofs.Tryz.f88.results.toList) rfl (cuts := []) (by kernel_rfl) (Nat.le_of_ble_eq_true (by kernel_rfl)) (by kernel_rfl) (rt := .w (.at (.int .u64))) rfl ?_ ?_
  · intro ls' r' h'
    unfold ref_Seq_S at h'
    obtain ⟨n2, l'1, rfl, h'1⟩ := un_i_some.1 h'
    obtain ⟨rfl, h'Z⟩ := un_nil_some.1 h'1
    exact (ref_Seq_e n2).symm.trans h'Z
  · intro E w0 ws ρ0 hk b hb
    rw [show loopsOf (fb Go.Proofs.Tryz.f88) = [] by kernel_rfl] at hb
    cases hb
def G18 : Env := G17.addP 88 1 ref_Seq_in ref_Seq_out ref_Seq_SC
theorem g18 : EnvOk Go.Proofs.Tryz.prog G18 := EnvOk.addP g17 ref_Seq_c ref_Seq_says

-- ### ref_Add: function 17
def ref_Add_in : Tm := ⟨[], [(0, .w (.at (.int .u64))), (1, .w (.at (.int .u64)))]⟩
def ref_Add_out : Tm := ⟨[], [(0, .w (.at (.int .u64)))]⟩

def ref_Add_Λd : Loops := Loops.none
def ref_Add_Λ : Loops := ref_Add_Λd 

theorem ref_Add_e (a : Int) (b : Int) : ref_Add a b = den G18 ref_Add_Λ true tab Go.Proofs.Tryz.f17.ntmps (fun fr H => finish tab 0 Go.Proofs.Tryz.f17.results.toList ref_Add_out [] fr H some) (fun _ _ _ => none) (fun fr H => finish tab 0 Go.Proofs.Tryz.f17.results.toList ref_Add_out [] fr H some) 10000 [.code (fb Go.Proofs.Tryz.f17)] (instFr ref_Add_in [.i a, .i b]) (instH ref_Add_in [.i a, .i b]) := by kernel_rfl
def ref_Add_S : List Leaf → Option (List Leaf) := fun ls => un_i ls fun a rr => un_i rr fun b rr => un_nil rr (ref_Add a b)
def ref_Add_SC : Tld := fun ls k' => un_i ls fun a rr => un_i rr fun b rr => un_nil rr (out (ref_Add a b) k')
theorem ref_Add_Se (a : Int) (b : Int) : ref_Add_S [.i a, .i b] = ref_Add a b := by
  unfold ref_Add_S
  simp only [un_i_ev, un_b_ev, un_s_ev, un_li_ev, un_lb_ev, un_ls_ev, un_nil_ev]
theorem ref_Add_says : Says ref_Add_SC ref_Add_S := by
  intro β ls' k' r' h'
  unfold ref_Add_SC at h'
  obtain ⟨a, l'1, rfl, h'1⟩ := un_i_some.1 h'
  obtain ⟨b, l'2, rfl, h'2⟩ := un_i_some.1 h'1
  obtain ⟨rfl, h'Z⟩ := un_nil_some.1 h'2
  obtain ⟨l', a', b'⟩ := out_some.1 h'Z
  exact ⟨l', (ref_Add_Se a b).trans a', b'⟩
theorem ref_Add_c : FnC Go.Proofs.Tryz.prog 17 true 2 0 ref_Add_in ref_Add_out ref_Add_S := by
  refine fn_ok (Λ := ref_Add_Λ) mixed tab_ok g18 Go.Proofs.Tryz.func17 (by kernel_rfl) (body := fb Go.Proofs.Tryz.f17) rfl (ts := Go.Proofs.Tryz.f17.results.toList) rfl (cuts := []) (by kernel_rfl) (Nat.le_of_ble_eq_true (by kernel_rfl)) (by kernel_rfl) (rt := .w (.at (.int .u64))) rfl ?_ ?_
  · intro ls' r' h'
    unfold ref_Add_S at h'
    obtain ⟨a, l'1, rfl, h'1⟩ := un_i_some.1 h'
    obtain ⟨b, l'2, rfl, h'2⟩ := un_i_some.1 h'1
    obtain ⟨rfl, h'Z⟩ := un_nil_some.1 h'2
    exact (ref_Add_e a b).symm.trans h'Z
  · intro E w0 ws ρ0 hk b hb
    rw [show loopsOf (fb Go.Proofs.Tryz.f17) = [] by kernel_rfl] at hb
    cases hb
def G19 : Env := G18.addP 17 2 ref_Add_in ref_Add_out ref_Add_SC
theorem g19 : EnvOk Go.Proofs.Tryz.prog G19 := EnvOk.addP g18 ref_Add_c ref_Add_says

-- ### ref_Over: function 154
def ref_Over_in : Tm := ⟨[], [(0, .w (.at (.int .u64))), (1, .w (.at (.int .u64))), (2, .w (.at (.int .u64))), (3, .w (.at (.int .u64)))]⟩
def ref_Over_out : Tm := ⟨[], [(0, .w (.at (.bool)))]⟩

def ref_Over_Λd : Loops := Loops.none
def ref_Over_Λ : Loops := ref_Over_Λd 

theorem ref_Over_e (a : Int) (b : Int) (c : Int) (d : Int) : ref_Over a b c d = den G19 ref_Over_Λ true tab Go.Proofs.Tryz.f154.ntmps (fun fr H => finish tab 0 Go.Proofs.Tryz.f154.results.toList ref_Over_out [] fr H some) (fun _ _ _ => none) (fun fr H => finish tab 0 Go.Proofs.Tryz.f154.results.toList ref_Over_out [] fr H some) 10000 [.code (fb Go.Proofs.Tryz.f154)] (instFr ref_Over_in [.i a, .i b, .i c, .i d]) (instH ref_Over_in [.i a, .i b, .i c, .i d]) := by kernel_rfl
def ref_Over_S : List Leaf → Option (List Leaf) := fun ls => un_i ls fun a rr => un_i rr fun b rr => un_i rr fun c rr => un_i rr fun d rr => un_nil rr (ref_Over a b c d)
def ref_Over_SC : Tld := fun ls k' => un_i ls fun a rr => un_i rr fun b rr => un_i rr fun c rr => un_i rr fun d rr => un_nil rr (out (ref_Over a b c d) k')
theorem ref_Over_Se (a : Int) (b : Int) (c : Int) (d : Int) : ref_Over_S [.i a, .i b, .i c, .i d] = ref_Over a b c d := by
  unfold ref_Over_S
  simp only [un_i_ev, un_b_ev, un_s_ev, un_li_ev, un_lb_ev, un_ls_ev, un_nil_ev]
theorem ref_Over_says : Says ref_Over_SC ref_Over_S := by
  intro β ls' k' r' h'
  unfold ref_Over_SC at h'
  obtain ⟨a, l'1, rfl, h'1⟩ := un_i_some.1 h'
  obtain ⟨b, l'2, rfl, h'2⟩ := un_i_some.1 h'1
  obtain ⟨c, l'3, rfl, h'3⟩ := un_i_some.1 h'2
  obtain ⟨d, l'4, rfl, h'4⟩ := un_i_some.1 h'3
  obtain ⟨rfl, h'Z⟩ := un_nil_some.1 h'4
  obtain ⟨l', a', b'⟩ := out_some.1 h'Z
  exact ⟨l', (ref_Over_Se a b c d).trans a', b'⟩
theorem ref_Over_c : FnC Go.Proofs.Tryz.prog 154 true 4 0 ref_Over_in ref_Over_out ref_Over_S := by
  refine fn_ok (Λ := ref_Over_Λ) mixed tab_ok g19 Go.Proofs.Tryz.func154 (by kernel_rfl) (body := fb Go.Proofs.Tryz.f154) rfl (ts := Go.Proofs.Tryz.f154.results.toList) rfl (cuts := []) (by kernel_rfl) (Nat.le_of_ble_eq_true (by kernel_rfl)) (by kernel_rfl) (rt := .w (.at (.bool))) rfl ?_ ?_
  · intro ls' r' h'
    unfold ref_Over_S at h'
    obtain ⟨a, l'1, rfl, h'1⟩ := un_i_some.1 h'
    obtain ⟨b, l'2, rfl, h'2⟩ := un_i_some.1 h'1
    obtain ⟨c, l'3, rfl, h'3⟩ := un_i_some.1 h'2
    obtain ⟨d, l'4, rfl, h'4⟩ := un_i_some.1 h'3
    obtain ⟨rfl, h'Z⟩ := un_nil_some.1 h'4
    exact (ref_Over_e a b c d).symm.trans h'Z
  · intro E w0 ws ρ0 hk b hb
    rw [show loopsOf (fb Go.Proofs.Tryz.f154) = [] by kernel_rfl] at hb
    cases hb
def G20 : Env := G19.addP 154 4 ref_Over_in ref_Over_out ref_Over_SC
theorem g20 : EnvOk Go.Proofs.Tryz.prog G20 := EnvOk.addP g19 ref_Over_c ref_Over_says

-- ### ref_Wide: function 111
def ref_Wide_in : Tm := ⟨[], [(0, .w (.at (.int .u64))), (1, .w (.at (.int .u64)))]⟩
def ref_Wide_out : Tm := ⟨[], [(0, .tup [.at (.int .u64), .at (.int .u64)])]⟩

def ref_Wide_Λd : Loops := Loops.none
def ref_Wide_Λ : Loops := ref_Wide_Λd 

theorem ref_Wide_e (a : Int) (b : Int) : ref_Wide a b = den G20 ref_Wide_Λ true tab Go.Proofs.Tryz.f111.ntmps (fun fr H => finish tab 0 Go.Proofs.Tryz.f111.results.toList ref_Wide_out [] fr H some) (fun _ _ _ => none) (fun fr H => finish tab 0 Go.Proofs.Tryz.f111.results.toList ref_Wide_out [] fr H some) 10000 [.code (fb Go.Proofs.Tryz.f111)] (instFr ref_Wide_in [.i a, .i b]) (instH ref_Wide_in [.i a, .i b]) := by kernel_rfl
def ref_Wide_S : List Leaf → Option (List Leaf) := fun ls => un_i ls fun a rr => un_i rr fun b rr => un_nil rr (ref_Wide a b)
def ref_Wide_SC : Tld := fun ls k' => un_i ls fun a rr => un_i rr fun b rr => un_nil rr (out (ref_Wide a b) k')
theorem ref_Wide_Se (a : Int) (b : Int) : ref_Wide_S [.i a, .i b] = ref_Wide a b := by
  unfold ref_Wide_S
  simp only [un_i_ev, un_b_ev, un_s_ev, un_li_ev, un_lb_ev, un_ls_ev, un_nil_ev]
theorem ref_Wide_says : Says ref_Wide_SC ref_Wide_S := by
  intro β ls' k' r' h'
  unfold ref_Wide_SC at h'
  obtain ⟨a, l'1, rfl, h'1⟩ := un_i_some.1 h'
  obtain ⟨b, l'2, rfl, h'2⟩ := un_i_some.1 h'1
  obtain ⟨rfl, h'Z⟩ := un_nil_some.1 h'2
  obtain ⟨l', a', b'⟩ := out_some.1 h'Z
  exact ⟨l', (ref_Wide_Se a b).trans a', b'⟩
theorem ref_Wide_c : FnC Go.Proofs.Tryz.prog 111 true 2 0 ref_Wide_in ref_Wide_out ref_Wide_S := by
  refine fn_ok (Λ := ref_Wide_Λ) mixed tab_ok g20 Go.Proofs.Tryz.func111 (by kernel_rfl) (body := fb Go.Proofs.Tryz.f111) rfl (ts := Go.Proofs.Tryz.f111.results.toList) rfl (cuts := []) (by kernel_rfl) (Nat.le_of_ble_eq_true (by kernel_rfl)) (by kernel_rfl) (rt := .tup [.at (.int .u64), .at (.int .u64)]) rfl ?_ ?_
  · intro ls' r' h'
    unfold ref_Wide_S at h'
    obtain ⟨a, l'1, rfl, h'1⟩ := un_i_some.1 h'
    obtain ⟨b, l'2, rfl, h'2⟩ := un_i_some.1 h'1
    obtain ⟨rfl, h'Z⟩ := un_nil_some.1 h'2
    exact (ref_Wide_e a b).symm.trans h'Z
  · intro E w0 ws ρ0 hk b hb
    rw [show loopsOf (fb Go.Proofs.Tryz.f111) = [] by kernel_rfl] at hb
    cases hb
def G21 : Env := G20.addP 111 2 ref_Wide_in ref_Wide_out ref_Wide_SC
theorem g21 : EnvOk Go.Proofs.Tryz.prog G21 := EnvOk.addP g20 ref_Wide_c ref_Wide_says

-- ### ref_MulDiv: function 78
def ref_MulDiv_in : Tm := ⟨[], [(0, .w (.at (.int .u64))), (1, .w (.at (.int .u64))), (2, .w (.at (.int .u64)))]⟩
def ref_MulDiv_out : Tm := ⟨[], [(0, .w (.at (.int .u64)))]⟩
def ref_MulDiv_7_T : Tm := ⟨[], [(11, .w (.at (.int .i64))), (2, .w (.at (.int .u64))), (10, .w (.at (.int .u64))), (8, .w (.at (.int .u64))), (9, .w (.at (.int .u64)))]⟩
def ref_MulDiv_7_X0 : Tm := ⟨[], [(10, .w (.at (.int .u64)))]⟩
def ref_MulDiv_7_X : Exits := [(0, (ref_MulDiv_7_X0, []))]
def ref_MulDiv_7_R : Tm := ⟨[], []⟩

def ref_MulDiv_Λd (L7 : ({β : Type} → (Nat → List Leaf → Option β) → (List Leaf → Option β) → Nat → Int → Int → Int → Int → Int → Option β)) : Loops := ⟨fun b fr H kx kr => bif Nat.beq (rid b) 7 then loopE 0 ref_MulDiv_7_T [] ref_MulDiv_7_X ref_MulDiv_7_R (ref_MulDiv_7_F @L7 top) fr H kx kr else none⟩
def ref_MulDiv_Λ : Loops := ref_MulDiv_Λd @ref_MulDiv_7_L
theorem ref_MulDiv_7_e (L7 : ({β : Type} → (Nat → List Leaf → Option β) → (List Leaf → Option β) → Nat → Int → Int → Int → Int → Int → Option β)) {α : Type} (kx : Nat → List Leaf → Option α) (kr : List Leaf → Option α) (again : Int → Int → Int → Int → Int → Option α) (i : Int) (c : Int) (q : Int) (l : Int) (rest : Int) : ref_MulDiv_7_B  kx kr again i c q l rest = loopB G21 (ref_MulDiv_Λd @L7) true tab Go.Proofs.Tryz.f78.ntmps 0 ref_MulDiv_7_T [] ref_MulDiv_7_X ref_MulDiv_7_R (bodyAt (fb Go.Proofs.Tryz.f78) 0) (fun ls => un_i ls fun i rr => un_i rr fun c rr => un_i rr fun q rr => un_i rr fun l rr => un_i rr fun rest rr => un_nil rr (again i c q l rest)) kx kr (instFr ref_MulDiv_7_T [.i i, .i c, .i q, .i l, .i rest]) (instH ref_MulDiv_7_T [.i i, .i c, .i q, .i l, .i rest]) := by kernel_rfl
theorem ref_MulDiv_7_lok (E : Nat → Prop) (w0 ws : World) (ρ0 : List Pl) (hk : ρ0.length = 0) : LOk Go.Proofs.Tryz.prog 78 Go.Proofs.Tryz.f78 true E w0 ws Go.Proofs.Tryz.f78.ntmps ρ0 ref_MulDiv_Λ (bodyAt (fb Go.Proofs.Tryz.f78) 0) := by
  refine lok mixed tab_ok g21 Go.Proofs.Tryz.func78 hk (T := ref_MulDiv_7_T) (rt := ref_MulDiv_7_R) (cuts := []) (ex := ref_MulDiv_7_X) (top := top) (F := ref_MulDiv_7_F @ref_MulDiv_7_L) (fun fr H kx kr => by kernel_rfl) ?_ ?_ ?_
  · intro α ls' kx' kr' r' h'
    unfold ref_MulDiv_7_F at h'
    obtain ⟨i, l'1, rfl, h'1⟩ := un_i_some.1 h'
    obtain ⟨c, l'2, rfl, h'2⟩ := un_i_some.1 h'1
    obtain ⟨q, l'3, rfl, h'3⟩ := un_i_some.1 h'2
    obtain ⟨l, l'4, rfl, h'4⟩ := un_i_some.1 h'3
    obtain ⟨rest, l'5, rfl, h'5⟩ := un_i_some.1 h'4
    obtain ⟨rfl, h'Z⟩ := un_nil_some.1 h'5
    cases h'Z
  · intro α n' ls' kx' kr' r' h'
    unfold ref_MulDiv_7_F at h'
    obtain ⟨i, l'1, rfl, h'1⟩ := un_i_some.1 h'
    obtain ⟨c, l'2, rfl, h'2⟩ := un_i_some.1 h'1
    obtain ⟨q, l'3, rfl, h'3⟩ := un_i_some.1 h'2
    obtain ⟨l, l'4, rfl, h'4⟩ := un_i_some.1 h'3
    obtain ⟨rest, l'5, rfl, h'5⟩ := un_i_some.1 h'4
    obtain ⟨rfl, h'Z⟩ := un_nil_some.1 h'5
    exact (ref_MulDiv_7_e @ref_MulDiv_7_L kx' kr' (ref_MulDiv_7_L kx' kr' n') i c q l rest).symm.trans h'Z
  · intro b' hb
    rw [show loopsOf (bodyAt (fb Go.Proofs.Tryz.f78) 0) = [] by kernel_rfl] at hb
    cases hb
theorem ref_MulDiv_ed (L7 : ({β : Type} → (Nat → List Leaf → Option β) → (List Leaf → Option β) → Nat → Int → Int → Int → Int → Int → Option β)) (a : Int) (b : Int) (c : Int) : ref_MulDiv_d @L7 a b c = den G21 (ref_MulDiv_Λd @L7) true tab Go.Proofs.Tryz.f78.ntmps (fun fr H => finish tab 0 Go.Proofs.Tryz.f78.results.toList ref_MulDiv_out [] fr H some) (fun _ _ _ => none) (fun fr H => finish tab 0 Go.Proofs.Tryz.f78.results.toList ref_MulDiv_out [] fr H some) 10000 [.code (fb Go.Proofs.Tryz.f78)] (instFr ref_MulDiv_in [.i a, .i b, .i c]) (instH ref_MulDiv_in [.i a, .i b, .i c]) := by kernel_rfl
theorem ref_MulDiv_e (a : Int) (b : Int) (c : Int) : ref_MulDiv a b c = den G21 ref_MulDiv_Λ true tab Go.Proofs.Tryz.f78.ntmps (fun fr H => finish tab 0 Go.Proofs.Tryz.f78.results.toList ref_MulDiv_out [] fr H some) (fun _ _ _ => none) (fun fr H => finish tab 0 Go.Proofs.Tryz.f78.results.toList ref_MulDiv_out [] fr H some) 10000 [.code (fb Go.Proofs.Tryz.f78)] (instFr ref_MulDiv_in [.i a, .i b, .i c]) (instH ref_MulDiv_in [.i a, .i b, .i c]) := ref_MulDiv_ed @ref_MulDiv_7_L a b c
def ref_MulDiv_S : List Leaf → Option (List Leaf) := fun ls => un_i ls fun a rr => un_i rr fun b rr => un_i rr fun c rr => un_nil rr (ref_MulDiv a b c)
def ref_MulDiv_SC : Tld := fun ls k' => un_i ls fun a rr => un_i rr fun b rr => un_i rr fun c rr => un_nil rr (out (ref_MulDiv a b c) k')
theorem ref_MulDiv_Se (a : Int) (b : Int) (c : Int) : ref_MulDiv_S [.i a, .i b, .i c] = ref_MulDiv a b c := by
  unfold ref_MulDiv_S
  simp only [un_i_ev, un_b_ev, un_s_ev, un_li_ev, un_lb_ev, un_ls_ev, un_nil_ev]
theorem ref_MulDiv_says : Says ref_MulDiv_SC ref_MulDiv_S := by
  intro β ls' k' r' h'
  unfold ref_MulDiv_SC at h'
  obtain ⟨a, l'1, rfl, h'1⟩ := un_i_some.1 h'
  obtain ⟨b, l'2, rfl, h'2⟩ := un_i_some.1 h'1
  obtain ⟨c, l'3, rfl, h'3⟩ := un_i_some.1 h'2
  obtain ⟨rfl, h'Z⟩ := un_nil_some.1 h'3
  obtain ⟨l', a', b'⟩ := out_some.1 h'Z
  exact ⟨l', (ref_MulDiv_Se a b c).trans a', b'⟩
theorem ref_MulDiv_c : FnC Go.Proofs.Tryz.prog 78 true 3 0 ref_MulDiv_in ref_MulDiv_out ref_MulDiv_S := by
  refine fn_ok (Λ := ref_MulDiv_Λ) mixed tab_ok g21 Go.Proofs.Tryz.func78 (by kernel_rfl) (body := fb Go.Proofs.Tryz.f78) rfl (ts := Go.Proofs.Tryz.f78.results.toList) rfl (cuts := []) (by kernel_rfl) (Nat.le_of_ble_eq_true (by kernel_rfl)) (by kernel_rfl) (rt := .w (.at (.int .u64))) rfl ?_ ?_
  · intro ls' r' h'
    unfold ref_MulDiv_S at h'
    obtain ⟨a, l'1, rfl, h'1⟩ := un_i_some.1 h'
    obtain ⟨b, l'2, rfl, h'2⟩ := un_i_some.1 h'1
    obtain ⟨c, l'3, rfl, h'3⟩ := un_i_some.1 h'2
    obtain ⟨rfl, h'Z⟩ := un_nil_some.1 h'3
    exact (ref_MulDiv_e a b c).symm.trans h'Z
  · intro E w0 ws ρ0 hk b hb
    rw [show loopsOf (fb Go.Proofs.Tryz.f78) = [(bodyAt (fb Go.Proofs.Tryz.f78) 0)] by kernel_rfl] at hb
    simp only [List.mem_cons, List.mem_nil_iff, or_false] at hb
    rcases hb with rfl
    · exact ref_MulDiv_7_lok E w0 ws ρ0 hk
def G22 : Env := G21.addP 78 3 ref_MulDiv_in ref_MulDiv_out ref_MulDiv_SC
theorem g22 : EnvOk Go.Proofs.Tryz.prog G22 := EnvOk.addP g21 ref_MulDiv_c ref_MulDiv_says

-- ### ref_SqrtMul: function 130
def ref_SqrtMul_in : Tm := ⟨[], [(0, .w (.at (.int .u64))), (1, .w (.at (.int .u64)))]⟩
def ref_SqrtMul_out : Tm := ⟨[], [(0, .w (.at (.int .u64)))]⟩
def ref_SqrtMul_4_T : Tm := ⟨[], [(8, .w (.at (.int .i64))), (6, .w (.at (.int .u64))), (5, .w (.at (.int .u64))), (7, .w (.at (.int .u64)))]⟩
def ref_SqrtMul_4_X0 : Tm := ⟨[], [(7, .w (.at (.int .u64)))]⟩
def ref_SqrtMul_4_X : Exits := [(0, (ref_SqrtMul_4_X0, []))]
def ref_SqrtMul_4_R : Tm := ⟨[], []⟩

def ref_SqrtMul_Λd (L4 : ({β : Type} → (Nat → List Leaf → Option β) → (List Leaf → Option β) → Nat → Int → Int → Int → Int → Option β)) : Loops := ⟨fun b fr H kx kr => bif Nat.beq (rid b) 4 then loopE 0 ref_SqrtMul_4_T [] ref_SqrtMul_4_X ref_SqrtMul_4_R (ref_SqrtMul_4_F @L4 top) fr H kx kr else none⟩
def ref_SqrtMul_Λ : Loops := ref_SqrtMul_Λd @ref_SqrtMul_4_L
theorem ref_SqrtMul_4_e (L4 : ({β : Type} → (Nat → List Leaf → Option β) → (List Leaf → Option β) → Nat → Int → Int → Int → Int → Option β)) {α : Type} (kx : Nat → List Leaf → Option α) (kr : List Leaf → Option α) (again : Int → Int → Int → Int → Option α) (i : Int) (l : Int) (h : Int) (r : Int) : ref_SqrtMul_4_B  kx kr again i l h r = loopB G22 (ref_SqrtMul_Λd @L4) true tab Go.Proofs.Tryz.f130.ntmps 0 ref_SqrtMul_4_T [] ref_SqrtMul_4_X ref_SqrtMul_4_R (bodyAt (fb Go.Proofs.Tryz.f130) 0) (fun ls => un_i ls fun i rr => un_i rr fun l rr => un_i rr fun h rr => un_i rr fun r rr => un_nil rr (again i l h r)) kx kr (instFr ref_SqrtMul_4_T [.i i, .i l, .i h, .i r]) (instH ref_SqrtMul_4_T [.i i, .i l, .i h, .i r]) := by kernel_rfl
theorem ref_SqrtMul_4_lok (E : Nat → Prop) (w0 ws : World) (ρ0 : List Pl) (hk : ρ0.length = 0) : LOk Go.Proofs.Tryz.prog 130 Go.Proofs.Tryz.f130 true E w0 ws Go.Proofs.Tryz.f130.ntmps ρ0 ref_SqrtMul_Λ (bodyAt (fb Go.Proofs.Tryz.f130) 0) := by
  refine lok mixed tab_ok g22 Go.Proofs.Tryz.func130 hk (T := ref_SqrtMul_4_T) (rt := ref_SqrtMul_4_R) (cuts := []) (ex := ref_SqrtMul_4_X) (top := top) (F := ref_SqrtMul_4_F @ref_SqrtMul_4_L) (fun fr H kx kr => by kernel_rfl) ?_ ?_ ?_
  · intro α ls' kx' kr' r' h'
    unfold ref_SqrtMul_4_F at h'
    obtain ⟨i, l'1, rfl, h'1⟩ := un_i_some.1 h'
    obtain ⟨l, l'2, rfl, h'2⟩ := un_i_some.1 h'1
    obtain ⟨h, l'3, rfl, h'3⟩ := un_i_some.1 h'2
    obtain ⟨r, l'4, rfl, h'4⟩ := un_i_some.1 h'3
    obtain ⟨rfl, h'Z⟩ := un_nil_some.1 h'4
    cases h'Z
  · intro α n' ls' kx' kr' r' h'
    unfold ref_SqrtMul_4_F at h'
    obtain ⟨i, l'1, rfl, h'1⟩ := un_i_some.1 h'
    obtain ⟨l, l'2, rfl, h'2⟩ := un_i_some.1 h'1
    obtain ⟨h, l'3, rfl, h'3⟩ := un_i_some.1 h'2
    obtain ⟨r, l'4, rfl, h'4⟩ := un_i_some.1 h'3
    obtain ⟨rfl, h'Z⟩ := un_nil_some.1 h'4
    exact (ref_SqrtMul_4_e @ref_SqrtMul_4_L kx' kr' (ref_SqrtMul_4_L kx' kr' n') i l h r).symm.trans h'Z
  · intro b' hb
    rw [show loopsOf (bodyAt (fb Go.Proofs.Tryz.f130) 0) = [] by kernel_rfl] at hb
    cases hb
theorem ref_SqrtMul_ed (L4 : ({β : Type} → (Nat → List Leaf → Option β) → (List Leaf → Option β) → Nat → Int → Int → Int → Int → Option β)) (a : Int) (b : Int) : ref_SqrtMul_d @L4 a b = den G22 (ref_SqrtMul_Λd @L4) true tab Go.Proofs.Tryz.f130.ntmps (fun fr H => finish tab 0 Go.Proofs.Tryz.f130.results.toList ref_SqrtMul_out [] fr H some) (fun _ _ _ => none) (fun fr H => finish tab 0 Go.Proofs.Tryz.f130.results.toList ref_SqrtMul_out [] fr H some) 10000 [.code (fb Go.Proofs.Tryz.f130)] (instFr ref_SqrtMul_in [.i a, .i b]) (instH ref_SqrtMul_in [.i a, .i b]) := by kernel_rfl
theorem ref_SqrtMul_e (a : Int) (b : Int) : ref_SqrtMul a b = den G22 ref_SqrtMul_Λ true tab Go.Proofs.Tryz.f130.ntmps (fun fr H => finish tab 0 Go.Proofs.Tryz.f130.results.toList ref_SqrtMul_out [] fr H some) (fun _ _ _ => none) (fun fr H => finish tab 0 Go.Proofs.Tryz.f130.results.toList ref_SqrtMul_out [] fr H some) 10000 [.code (fb Go.Proofs.Tryz.f130)] (instFr ref_SqrtMul_in [.i a, .i b]) (instH ref_SqrtMul_in [.i a, .i b]) := ref_SqrtMul_ed @ref_SqrtMul_4_L a b
def ref_SqrtMul_S : List Leaf → Option (List Leaf) := fun ls => un_i ls fun a rr => un_i rr fun b rr => un_nil rr (ref_SqrtMul a b)
def ref_SqrtMul_SC : Tld := fun ls k' => un_i ls fun a rr => un_i rr fun b rr => un_nil rr (out (ref_SqrtMul a b) k')
theorem ref_SqrtMul_Se (a : Int) (b : Int) : ref_SqrtMul_S [.i a, .i b] = ref_SqrtMul a b := by
  unfold ref_SqrtMul_S
  simp only [un_i_ev, un_b_ev, un_s_ev, un_li_ev, un_lb_ev, un_ls_ev, un_nil_ev]
theorem ref_SqrtMul_says : Says ref_SqrtMul_SC ref_SqrtMul_S := by
  intro β ls' k' r' h'
  unfold ref_SqrtMul_SC at h'
  obtain ⟨a, l'1, rfl, h'1⟩ := un_i_some.1 h'
  obtain ⟨b, l'2, rfl, h'2⟩ := un_i_some.1 h'1
  obtain ⟨rfl, h'Z⟩ := un_nil_some.1 h'2
  obtain ⟨l', a', b'⟩ := out_some.1 h'Z
  exact ⟨l', (ref_SqrtMul_Se a b).trans a', b'⟩
theorem ref_SqrtMul_c : FnC Go.Proofs.Tryz.prog 130 true 2 0 ref_SqrtMul_in ref_SqrtMul_out ref_SqrtMul_S := by
  refine fn_ok (Λ := ref_SqrtMul_Λ) mixed tab_ok g22 Go.Proofs.Tryz.func130 (by kernel_rfl) (body := fb Go.Proofs.Tryz.f130) rfl (ts := Go.Proofs.Tryz.f130.results.toList) rfl (cuts := []) (by kernel_rfl) (Nat.le_of_ble_eq_true (by kernel_rfl)) (by kernel_rfl) (rt := .w (.at (.int .u64))) rfl ?_ ?_
  · intro ls' r' h'
    unfold ref_SqrtMul_S at h'
    obtain ⟨a, l'1, rfl, h'1⟩ := un_i_some.1 h'
    obtain ⟨b, l'2, rfl, h'2⟩ := un_i_some.1 h'1
    obtain ⟨rfl, h'Z⟩ := un_nil_some.1 h'2
    exact (ref_SqrtMul_e a b).symm.trans h'Z
  · intro E w0 ws ρ0 hk b hb
    rw [show loopsOf (fb Go.Proofs.Tryz.f130) = [(bodyAt (fb Go.Proofs.Tryz.f130) 0)] by kernel_rfl] at hb
    simp only [List.mem_cons, List.mem_nil_iff, or_false] at hb
    rcases hb with rfl
    · exact ref_SqrtMul_4_lok E w0 ws ρ0 hk
def G23 : Env := G22.addP 130 2 ref_SqrtMul_in ref_SqrtMul_out ref_SqrtMul_SC
theorem g23 : EnvOk Go.Proofs.Tryz.prog G23 := EnvOk.addP g22 ref_SqrtMul_c ref_SqrtMul_says

-- ### ref_Sqrt: function 112
def ref_Sqrt_in : Tm := ⟨[], [(0, .w (.at (.int .u64)))]⟩
def ref_Sqrt_out : Tm := ⟨[], [(0, .w (.at (.int .u64)))]⟩

def ref_Sqrt_Λd : Loops := Loops.none
def ref_Sqrt_Λ : Loops := ref_Sqrt_Λd 

theorem ref_Sqrt_e (n2 : Int) : ref_Sqrt n2 = den G23 ref_Sqrt_Λ true tab Go.Proofs.Tryz.f112.ntmps (fun fr H => finish tab 0 Go.Proofs.Tryz.f112.results.toList ref_Sqrt_out [] fr H some) (fun _ _ _ => none) (fun fr H => finish tab 0 Go.Proofs.Tryz.f112.results.toList ref_Sqrt_out [] fr H some) 10000 [.code (fb Go.Proofs.Tryz.f112)] (instFr ref_Sqrt_in [.i n2]) (instH ref_Sqrt_in [.i n2]) := by kernel_rfl
def ref_Sqrt_S : List Leaf → Option (List Leaf) := fun ls => un_i ls fun n2 rr => un_nil rr (ref_Sqrt n2)
def ref_Sqrt_SC : Tld := fun ls k' => un_i ls fun n2 rr => un_nil rr (out (ref_Sqrt n2) k')
theorem ref_Sqrt_Se (n2 : Int) : ref_Sqrt_S [.i n2] = ref_Sqrt n2 := by
  unfold ref_Sqrt_S
  simp only [un_i_ev, un_b_ev, un_s_ev, un_li_ev, un_lb_ev, un_ls_ev, un_nil_ev]
theorem ref_Sqrt_says : Says ref_Sqrt_SC ref_Sqrt_S := by
  intro β ls' k' r' h'
  unfold ref_Sqrt_SC at h'
  obtain ⟨n2, l'1, rfl, h'1⟩ := un_i_some.1 h'
  obtain ⟨rfl, h'Z⟩ := un_nil_some.1 h'1
  obtain ⟨l', a', b'⟩ := out_some.1 h'Z
  exact ⟨l', (ref_Sqrt_Se n2).trans a', b'⟩
theorem ref_Sqrt_c : FnC Go.Proofs.Tryz.prog 112 true 1 0 ref_Sqrt_in ref_Sqrt_out ref_Sqrt_S := by
  refine fn_ok (Λ := ref_Sqrt_Λ) mixed tab_ok g23 Go.Proofs.Tryz.func112 (by kernel_rfl) (body := fb Go.Proofs.Tryz.f112) rfl (ts := Go.Proofs.Tryz.f112.results.toList) rfl (cuts := []) (by kernel_rfl) (Nat.le_of_ble_eq_true (by kernel_rfl)) (by kernel_rfl) (rt := .w (.at (.int .u64))) rfl ?_ ?_
  · intro ls' r' h'
    unfold ref_Sqrt_S at h'
    obtain ⟨n2, l'1, rfl, h'1⟩ := un_i_some.1 h'
    obtain ⟨rfl, h'Z⟩ := un_nil_some.1 h'1
    exact (ref_Sqrt_e n2).symm.trans h'Z
  · intro E w0 ws ρ0 hk b hb
    rw [show loopsOf (fb Go.Proofs.Tryz.f112) = [] by kernel_rfl] at hb
    cases hb
def G24 : Env := G23.addP 112 1 ref_Sqrt_in ref_Sqrt_out ref_Sqrt_SC
theorem g24 : EnvOk Go.Proofs.Tryz.prog G24 := EnvOk.addP g23 ref_Sqrt_c ref_Sqrt_says

-- ### ref_Mul: function 113
def ref_Mul_in : Tm := ⟨[], [(0, .w (.at (.int .u64))), (1, .w (.at (.int .u64)))]⟩
def ref_Mul_out : Tm := ⟨[], [(0, .w (.at (.int .u64)))]⟩

def ref_Mul_Λd : Loops := Loops.none
def ref_Mul_Λ : Loops := ref_Mul_Λd 

theorem ref_Mul_e (a : Int) (b : Int) : ref_Mul a b = den G24 ref_Mul_Λ true tab Go.Proofs.Tryz.f113.ntmps (fun fr H => finish tab 0 Go.Proofs.Tryz.f113.results.toList ref_Mul_out [] fr H some) (fun _ _ _ => none) (fun fr H => finish tab 0 Go.Proofs.Tryz.f113.results.toList ref_Mul_out [] fr H some) 10000 [.code (fb Go.Proofs.Tryz.f113)] (instFr ref_Mul_in [.i a, .i b]) (instH ref_Mul_in [.i a, .i b]) := by kernel_rfl
def ref_Mul_S : List Leaf → Option (List Leaf) := fun ls => un_i ls fun a rr => un_i rr fun b rr => un_nil rr (ref_Mul a b)
def ref_Mul_SC : Tld := fun ls k' => un_i ls fun a rr => un_i rr fun b rr => un_nil rr (out (ref_Mul a b) k')
theorem ref_Mul_Se (a : Int) (b : Int) : ref_Mul_S [.i a, .i b] = ref_Mul a b := by
  unfold ref_Mul_S
  simp only [un_i_ev, un_b_ev, un_s_ev, un_li_ev, un_lb_ev, un_ls_ev, un_nil_ev]
theorem ref_Mul_says : Says ref_Mul_SC ref_Mul_S := by
  intro β ls' k' r' h'
  unfold ref_Mul_SC at h'
  obtain ⟨a, l'1, rfl, h'1⟩ := un_i_some.1 h'
  obtain ⟨b, l'2, rfl, h'2⟩ := un_i_some.1 h'1
  obtain ⟨rfl, h'Z⟩ := un_nil_some.1 h'2
  obtain ⟨l', a', b'⟩ := out_some.1 h'Z
  exact ⟨l', (ref_Mul_Se a b).trans a', b'⟩
theorem ref_Mul_c : FnC Go.Proofs.Tryz.prog 113 true 2 0 ref_Mul_in ref_Mul_out ref_Mul_S := by
  refine fn_ok (Λ := ref_Mul_Λ) mixed tab_ok g24 Go.Proofs.Tryz.func113 (by kernel_rfl) (body := fb Go.Proofs.Tryz.f113) rfl (ts := Go.Proofs.Tryz.f113.results.toList) rfl (cuts := []) (by kernel_rfl) (Nat.le_of_ble_eq_true (by kernel_rfl)) (by kernel_rfl) (rt := .w (.at (.int .u64))) rfl ?_ ?_
  · intro ls' r' h'
    unfold ref_Mul_S at h'
    obtain ⟨a, l'1, rfl, h'1⟩ := un_i_some.1 h'
    obtain ⟨b, l'2, rfl, h'2⟩ := un_i_some.1 h'1
    obtain ⟨rfl, h'Z⟩ := un_nil_some.1 h'2
    exact (ref_Mul_e a b).symm.trans h'Z
  · intro E w0 ws ρ0 hk b hb
    rw [show loopsOf (fb Go.Proofs.Tryz.f113) = [] by kernel_rfl] at hb
    cases hb
def G25 : Env := G24.addP 113 2 ref_Mul_in ref_Mul_out ref_Mul_SC
theorem g25 : EnvOk Go.Proofs.Tryz.prog G25 := EnvOk.addP g24 ref_Mul_c ref_Mul_says

-- ### eqn_F: function 105
def eqn_F_in : Tm := ⟨[], [(0, .w (.at (.int .u64)))]⟩
def eqn_F_out : Tm := ⟨[], [(0, .w (.at (.int .u64)))]⟩

def eqn_F_Λd : Loops := Loops.none
def eqn_F_Λ : Loops := eqn_F_Λd 

theorem eqn_F_e (n2 : Int) : eqn_F n2 = den G25 eqn_F_Λ true tab Go.Proofs.Tryz.f105.ntmps (fun fr H => finish tab 0 Go.Proofs.Tryz.f105.results.toList eqn_F_out [] fr H some) (fun _ _ _ => none) (fun fr H => finish tab 0 Go.Proofs.Tryz.f105.results.toList eqn_F_out [] fr H some) 10000 [.code (fb Go.Proofs.Tryz.f105)] (instFr eqn_F_in [.i n2]) (instH eqn_F_in [.i n2]) := by kernel_rfl
def eqn_F_S : List Leaf → Option (List Leaf) := fun ls => un_i ls fun n2 rr => un_nil rr (eqn_F n2)
def eqn_F_SC : Tld := fun ls k' => un_i ls fun n2 rr => un_nil rr (out (eqn_F n2) k')
theorem eqn_F_Se (n2 : Int) : eqn_F_S [.i n2] = eqn_F n2 := by
  unfold eqn_F_S
  simp only [un_i_ev, un_b_ev, un_s_ev, un_li_ev, un_lb_ev, un_ls_ev, un_nil_ev]
theorem eqn_F_says : Says eqn_F_SC eqn_F_S := by
  intro β ls' k' r' h'
  unfold eqn_F_SC at h'
  obtain ⟨n2, l'1, rfl, h'1⟩ := un_i_some.1 h'
  obtain ⟨rfl, h'Z⟩ := un_nil_some.1 h'1
  obtain ⟨l', a', b'⟩ := out_some.1 h'Z
  exact ⟨l', (eqn_F_Se n2).trans a', b'⟩
theorem eqn_F_c : FnC Go.Proofs.Tryz.prog 105 true 1 0 eqn_F_in eqn_F_out eqn_F_S := by
  refine fn_ok (Λ := eqn_F_Λ) mixed tab_ok g25 Go.Proofs.Tryz.func105 (by kernel_rfl) (body := fb Go.Proofs.Tryz.f105) rfl (ts := Go.Proofs.Tryz.f105.results.toList) rfl (cuts := []) (by kernel_rfl) (Nat.le_of_ble_eq_true (by kernel_rfl)) (by kernel_rfl) (rt := .w (.at (.int .u64))) rfl ?_ ?_
  · intro ls' r' h'
    unfold eqn_F_S at h'
    obtain ⟨n2, l'1, rfl, h'1⟩ := un_i_some.1 h'
    obtain ⟨rfl, h'Z⟩ := un_nil_some.1 h'1
    exact (eqn_F_e n2).symm.trans h'Z
  · intro E w0 ws ρ0 hk b hb
    rw [show loopsOf (fb Go.Proofs.Tryz.f105) = [] by kernel_rfl] at hb
    cases hb
def G26 : Env := G25.addP 105 1 eqn_F_in eqn_F_out eqn_F_SC
theorem g26 : EnvOk Go.Proofs.Tryz.prog G26 := EnvOk.addP g25 eqn_F_c eqn_F_says

-- ### eqn_Rate: function 71
def eqn_Rate_in : Tm := ⟨[], [(0, .w (.at (.int .u64))), (1, .w (.at (.int .u64))), (2, .w (.at (.int .u64)))]⟩
def eqn_Rate_out : Tm := ⟨[], [(0, .w (.at (.int .u64)))]⟩

def eqn_Rate_Λd : Loops := Loops.none
def eqn_Rate_Λ : Loops := eqn_Rate_Λd 

theorem eqn_Rate_e (s : Int) (r : Int) (n2 : Int) : eqn_Rate s r n2 = den G26 eqn_Rate_Λ true tab Go.Proofs.Tryz.f71.ntmps (fun fr H => finish tab 0 Go.Proofs.Tryz.f71.results.toList eqn_Rate_out [] fr H some) (fun _ _ _ => none) (fun fr H => finish tab 0 Go.Proofs.Tryz.f71.results.toList eqn_Rate_out [] fr H some) 10000 [.code (fb Go.Proofs.Tryz.f71)] (instFr eqn_Rate_in [.i s, .i r, .i n2]) (instH eqn_Rate_in [.i s, .i r, .i n2]) := by kernel_rfl
def eqn_Rate_S : List Leaf → Option (List Leaf) := fun ls => un_i ls fun s rr => un_i rr fun r rr => un_i rr fun n2 rr => un_nil rr (eqn_Rate s r n2)
def eqn_Rate_SC : Tld := fun ls k' => un_i ls fun s rr => un_i rr fun r rr => un_i rr fun n2 rr => un_nil rr (out (eqn_Rate s r n2) k')
theorem eqn_Rate_Se (s : Int) (r : Int) (n2 : Int) : eqn_Rate_S [.i s, .i r, .i n2] = eqn_Rate s r n2 := by
  unfold eqn_Rate_S
  simp only [un_i_ev, un_b_ev, un_s_ev, un_li_ev, un_lb_ev, un_ls_ev, un_nil_ev]
theorem eqn_Rate_says : Says eqn_Rate_SC eqn_Rate_S := by
  intro β ls' k' r' h'
  unfold eqn_Rate_SC at h'
  obtain ⟨s, l'1, rfl, h'1⟩ := un_i_some.1 h'
  obtain ⟨r, l'2, rfl, h'2⟩ := un_i_some.1 h'1
  obtain ⟨n2, l'3, rfl, h'3⟩ := un_i_some.1 h'2
  obtain ⟨rfl, h'Z⟩ := un_nil_some.1 h'3
  obtain ⟨l', a', b'⟩ := out_some.1 h'Z
  exact ⟨l', (eqn_Rate_Se s r n2).trans a', b'⟩
theorem eqn_Rate_c : FnC Go.Proofs.Tryz.prog 71 true 3 0 eqn_Rate_in eqn_Rate_out eqn_Rate_S := by
  refine fn_ok (Λ := eqn_Rate_Λ) mixed tab_ok g26 Go.Proofs.Tryz.func71 (by kernel_rfl) (body := fb Go.Proofs.Tryz.f71) rfl (ts := Go.Proofs.Tryz.f71.results.toList) rfl (cuts := []) (by kernel_rfl) (Nat.le_of_ble_eq_true (by kernel_rfl)) (by kernel_rfl) (rt := .w (.at (.int .u64))) rfl ?_ ?_
  · intro ls' r' h'
    unfold eqn_Rate_S at h'
    obtain ⟨s, l'1, rfl, h'1⟩ := un_i_some.1 h'
    obtain ⟨r, l'2, rfl, h'2⟩ := un_i_some.1 h'1
    obtain ⟨n2, l'3, rfl, h'3⟩ := un_i_some.1 h'2
    obtain ⟨rfl, h'Z⟩ := un_nil_some.1 h'3
    exact (eqn_Rate_e s r n2).symm.trans h'Z
  · intro E w0 ws ρ0 hk b hb
    rw [show loopsOf (fb Go.Proofs.Tryz.f71) = [] by kernel_rfl] at hb
    cases hb
def G27 : Env := G26.addP 71 3 eqn_Rate_in eqn_Rate_out eqn_Rate_SC
theorem g27 : EnvOk Go.Proofs.Tryz.prog G27 := EnvOk.addP g26 eqn_Rate_c eqn_Rate_says

-- ### ref_F: function 79
def ref_F_in : Tm := ⟨[], [(0, .w (.at (.int .u64)))]⟩
def ref_F_out : Tm := ⟨[], [(0, .w (.at (.int .u64)))]⟩

def ref_F_Λd : Loops := Loops.none
def ref_F_Λ : Loops := ref_F_Λd 

theorem ref_F_e (n2 : Int) : ref_F n2 = den G27 ref_F_Λ true tab Go.Proofs.Tryz.f79.ntmps (fun fr H => finish tab 0 Go.Proofs.Tryz.f79.results.toList ref_F_out [] fr H some) (fun _ _ _ => none) (fun fr H => finish tab 0 Go.Proofs.Tryz.f79.results.toList ref_F_out [] fr H some) 10000 [.code (fb Go.Proofs.Tryz.f79)] (instFr ref_F_in [.i n2]) (instH ref_F_in [.i n2]) := by kernel_rfl
def ref_F_S : List Leaf → Option (List Leaf) := fun ls => un_i ls fun n2 rr => un_nil rr (ref_F n2)
def ref_F_SC : Tld := fun ls k' => un_i ls fun n2 rr => un_nil rr (out (ref_F n2) k')
theorem ref_F_Se (n2 : Int) : ref_F_S [.i n2] = ref_F n2 := by
  unfold ref_F_S
  simp only [un_i_ev, un_b_ev, un_s_ev, un_li_ev, un_lb_ev, un_ls_ev, un_nil_ev]
theorem ref_F_says : Says ref_F_SC ref_F_S := by
  intro β ls' k' r' h'
  unfold ref_F_SC at h'
  obtain ⟨n2, l'1, rfl, h'1⟩ := un_i_some.1 h'
  obtain ⟨rfl, h'Z⟩ := un_nil_some.1 h'1
  obtain ⟨l', a', b'⟩ := out_some.1 h'Z
  exact ⟨l', (ref_F_Se n2).trans a', b'⟩
theorem ref_F_c : FnC Go.Proofs.Tryz.prog 79 true 1 0 ref_F_in ref_F_out ref_F_S := by
  refine fn_ok (Λ := ref_F_Λ) mixed tab_ok g27 Go.Proofs.Tryz.func79 (by kernel_rfl) (body := fb Go.Proofs.Tryz.f79) rfl (ts := Go.Proofs.Tryz.f79.results.toList) rfl (cuts := []) (by kernel_rfl) (Nat.le_of_ble_eq_true (by kernel_rfl)) (by kernel_rfl) (rt := .w (.at (.int .u64))) rfl ?_ ?_
  · intro ls' r' h'
    unfold ref_F_S at h'
    obtain ⟨n2, l'1, rfl, h'1⟩ := un_i_some.1 h'
    obtain ⟨rfl, h'Z⟩ := un_nil_some.1 h'1
    exact (ref_F_e n2).symm.trans h'Z
  · intro E w0 ws ρ0 hk b hb
    rw [show loopsOf (fb Go.Proofs.Tryz.f79) = [] by kernel_rfl] at hb
    cases hb
def G28 : Env := G27.addP 79 1 ref_F_in ref_F_out ref_F_SC
theorem g28 : EnvOk Go.Proofs.Tryz.prog G28 := EnvOk.addP g27 ref_F_c ref_F_says

-- ### ref_Rate: function 22
def ref_Rate_in : Tm := ⟨[], [(0, .w (.at (.int .u64))), (1, .w (.at (.int .u64))), (2, .w (.at (.int .u64)))]⟩
def ref_Rate_out : Tm := ⟨[], [(0, .w (.at (.int .u64)))]⟩

def ref_Rate_Λd : Loops := Loops.none
def ref_Rate_Λ : Loops := ref_Rate_Λd 

theorem ref_Rate_e (s : Int) (r : Int) (n2 : Int) : ref_Rate s r n2 = den G28 ref_Rate_Λ true tab Go.Proofs.Tryz.f22.ntmps (fun fr H => finish tab 0 Go.Proofs.Tryz.f22.results.toList ref_Rate_out [] fr H some) (fun _ _ _ => none) (fun fr H => finish tab 0 Go.Proofs.Tryz.f22.results.toList ref_Rate_out [] fr H some) 10000 [.code (fb Go.Proofs.Tryz.f22)] (instFr ref_Rate_in [.i s, .i r, .i n2]) (instH ref_Rate_in [.i s, .i r, .i n2]) := by kernel_rfl
def ref_Rate_S : List Leaf → Option (List Leaf) := fun ls => un_i ls fun s rr => un_i rr fun r rr => un_i rr fun n2 rr => un_nil rr (ref_Rate s r n2)
def ref_Rate_SC : Tld := fun ls k' => un_i ls fun s rr => un_i rr fun r rr => un_i rr fun n2 rr => un_nil rr (out (ref_Rate s r n2) k')
theorem ref_Rate_Se (s : Int) (r : Int) (n2 : Int) : ref_Rate_S [.i s, .i r, .i n2] = ref_Rate s r n2 := by
  unfold ref_Rate_S
  simp only [un_i_ev, un_b_ev, un_s_ev, un_li_ev, un_lb_ev, un_ls_ev, un_nil_ev]
theorem ref_Rate_says : Says ref_Rate_SC ref_Rate_S := by
  intro β ls' k' r' h'
  unfold ref_Rate_SC at h'
  obtain ⟨s, l'1, rfl, h'1⟩ := un_i_some.1 h'
  obtain ⟨r, l'2, rfl, h'2⟩ := un_i_some.1 h'1
  obtain ⟨n2, l'3, rfl, h'3⟩ := un_i_some.1 h'2
  obtain ⟨rfl, h'Z⟩ := un_nil_some.1 h'3
  obtain ⟨l', a', b'⟩ := out_some.1 h'Z
  exact ⟨l', (ref_Rate_Se s r n2).trans a', b'⟩
theorem ref_Rate_c : FnC Go.Proofs.Tryz.prog 22 true 3 0 ref_Rate_in ref_Rate_out ref_Rate_S := by
  refine fn_ok (Λ := ref_Rate_Λ) mixed tab_ok g28 Go.Proofs.Tryz.func22 (by kernel_rfl) (body := fb Go.Proofs.Tryz.f22) rfl (ts := Go.Proofs.Tryz.f22.results.toList) rfl (cuts := []) (by kernel_rfl) (Nat.le_of_ble_eq_true (by kernel_rfl)) (by kernel_rfl) (rt := .w (.at (.int .u64))) rfl ?_ ?_
  · intro ls' r' h'
    unfold ref_Rate_S at h'
    obtain ⟨s, l'1, rfl, h'1⟩ := un_i_some.1 h'
    obtain ⟨r, l'2, rfl, h'2⟩ := un_i_some.1 h'1
    obtain ⟨n2, l'3, rfl, h'3⟩ := un_i_some.1 h'2
    obtain ⟨rfl, h'Z⟩ := un_nil_some.1 h'3
    exact (ref_Rate_e s r n2).symm.trans h'Z
  · intro E w0 ws ρ0 hk b hb
    rw [show loopsOf (fb Go.Proofs.Tryz.f22) = [] by kernel_rfl] at hb
    cases hb
def G29 : Env := G28.addP 22 3 ref_Rate_in ref_Rate_out ref_Rate_SC
theorem g29 : EnvOk Go.Proofs.Tryz.prog G29 := EnvOk.addP g28 ref_Rate_c ref_Rate_says
end Go.Sx.T

