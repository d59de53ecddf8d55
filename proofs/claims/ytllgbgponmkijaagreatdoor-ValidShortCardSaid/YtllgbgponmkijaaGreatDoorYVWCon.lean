import Derived.Test.YtllgbgponmkijaaGreatDoorYVWSpec
import Derived.Test.YtllgbgponmkijaaGreatDoorYR18Con
set_option linter.all false
namespace Go.Sx.T
open Go Go.Sx Go.Proofs
set_option maxRecDepth 100000

-- ### ValidWindow: function 9
def ValidWindow_in : Tm := ⟨[], [(0, .w (.agg [.int .i64, .int .u64, .int .u64, .int .u64, .int .u64, .int .u64, .int .i64, .int .i64])), (1, .w (.at (.int .i64)))]⟩
def ValidWindow_out : Tm := ⟨[], [(0, .w (.at (.bool)))]⟩
def ValidWindow_10_T : Tm := ⟨[.cells 47 [.int .i64, .int .u64, .int .u64, .int .u64, .int .u64, .int .u64, .int .i64, .int .i64], .row 2 1 [.int .i64]], [(66, .w (.at (.int .i64))), (8, .w (.at (.int .i64))), (7, .w (.at (.int .i64))), (2, .w (.at (.ptr 0 0))), (64, .w (.at (.all 1 1))), (6, .w (.at (.int .i64))), (65, .w (.at (.int .i64)))]⟩
def ValidWindow_10_X0 : Tm := ⟨[.cells 47 [.int .i64, .int .u64, .int .u64, .int .u64, .int .u64, .int .u64, .int .i64, .int .i64]], [(6, .w (.at (.int .i64))), (2, .w (.at (.ptr 0 0)))]⟩
def ValidWindow_10_X : Exits := [(0, (ValidWindow_10_X0, []))]
def ValidWindow_10_R : Tm := ⟨[], [(4, .w (.at (.bool)))]⟩
def ValidWindow_17_T : Tm := ⟨[.cells 47 [.int .i64, .int .u64, .int .u64, .int .u64, .int .u64, .int .u64, .int .i64, .int .i64], .row 2 1 [.int .i64]], [(96, .w (.at (.int .i64))), (6, .w (.at (.int .i64))), (2, .w (.at (.ptr 0 0))), (94, .w (.at (.all 1 1))), (95, .w (.at (.int .i64)))]⟩
def ValidWindow_17_X2 : Tm := ⟨[.cells 47 [.int .i64, .int .u64, .int .u64, .int .u64, .int .u64, .int .u64, .int .i64, .int .i64]], [(2, .w (.at (.ptr 0 0)))]⟩
def ValidWindow_17_X : Exits := [(2, (ValidWindow_17_X2, []))]
def ValidWindow_17_R : Tm := ⟨[], [(4, .w (.at (.bool)))]⟩

def ValidWindow_Λd (L10 : ({β : Type} → (Nat → List Leaf → Option β) → (List Leaf → Option β) → Nat → List Int → Int → Int → Int → Int → Int → Int → Int → Int → Int → Int → Int → Int → Int → Option β)) (L17 : ({β : Type} → (Nat → List Leaf → Option β) → (List Leaf → Option β) → Nat → List Int → Int → Int → Int → Int → Int → Int → Int → Int → Int → Int → Int → Option β)) : Loops := ⟨fun b fr H kx kr => bif Nat.beq (rid b) 10 then loopE 0 ValidWindow_10_T [] ValidWindow_10_X ValidWindow_10_R (ValidWindow_10_F @L10 top) fr H kx kr else bif Nat.beq (rid b) 17 then loopE 0 ValidWindow_17_T [] ValidWindow_17_X ValidWindow_17_R (ValidWindow_17_F @L17 top) fr H kx kr else none⟩
def ValidWindow_Λ : Loops := ValidWindow_Λd @ValidWindow_10_L @ValidWindow_17_L
theorem ValidWindow_10_e (L10 : ({β : Type} → (Nat → List Leaf → Option β) → (List Leaf → Option β) → Nat → List Int → Int → Int → Int → Int → Int → Int → Int → Int → Int → Int → Int → Int → Int → Option β)) (L17 : ({β : Type} → (Nat → List Leaf → Option β) → (List Leaf → Option β) → Nat → List Int → Int → Int → Int → Int → Int → Int → Int → Int → Int → Int → Int → Option β)) {α : Type} (kx : Nat → List Leaf → Option α) (kr : List Leaf → Option α) (again : List Int → Int → Int → Int → Int → Int → Int → Int → Int → Int → Int → Int → Int → Int → Option α) (t64 : List Int) (v_State : Int) (v_Gss : Int) (v_Gsr : Int) (v_Gar : Int) (v_Iss : Int) (v_Isr : Int) (v_Mine : Int) (v_Theirs : Int) (t66 : Int) (high : Int) (low : Int) (n2 : Int) (t65 : Int) : ValidWindow_10_B  kx kr again t64 v_State v_Gss v_Gsr v_Gar v_Iss v_Isr v_Mine v_Theirs t66 high low n2 t65 = loopB G52 (ValidWindow_Λd @L10 @L17) false tab Go.Proofs.Tryz.f9.ntmps 0 ValidWindow_10_T [] ValidWindow_10_X ValidWindow_10_R (bodyAt (fb Go.Proofs.Tryz.f9) 0) (fun ls => un_li ls fun t64 rr => un_i rr fun v_State rr => un_i rr fun v_Gss rr => un_i rr fun v_Gsr rr => un_i rr fun v_Gar rr => un_i rr fun v_Iss rr => un_i rr fun v_Isr rr => un_i rr fun v_Mine rr => un_i rr fun v_Theirs rr => un_i rr fun t66 rr => un_i rr fun high rr => un_i rr fun low rr => un_i rr fun n2 rr => un_i rr fun t65 rr => un_nil rr (again t64 v_State v_Gss v_Gsr v_Gar v_Iss v_Isr v_Mine v_Theirs t66 high low n2 t65)) kx kr (instFr ValidWindow_10_T [.li t64, .i v_State, .i v_Gss, .i v_Gsr, .i v_Gar, .i v_Iss, .i v_Isr, .i v_Mine, .i v_Theirs, .i t66, .i high, .i low, .i n2, .i t65]) (instH ValidWindow_10_T [.li t64, .i v_State, .i v_Gss, .i v_Gsr, .i v_Gar, .i v_Iss, .i v_Isr, .i v_Mine, .i v_Theirs, .i t66, .i high, .i low, .i n2, .i t65]) := by kernel_rfl
theorem ValidWindow_17_e (L10 : ({β : Type} → (Nat → List Leaf → Option β) → (List Leaf → Option β) → Nat → List Int → Int → Int → Int → Int → Int → Int → Int → Int → Int → Int → Int → Int → Int → Option β)) (L17 : ({β : Type} → (Nat → List Leaf → Option β) → (List Leaf → Option β) → Nat → List Int → Int → Int → Int → Int → Int → Int → Int → Int → Int → Int → Int → Option β)) {α : Type} (kx : Nat → List Leaf → Option α) (kr : List Leaf → Option α) (again : List Int → Int → Int → Int → Int → Int → Int → Int → Int → Int → Int → Int → Option α) (t94 : List Int) (v_State : Int) (v_Gss : Int) (v_Gsr : Int) (v_Gar : Int) (v_Iss : Int) (v_Isr : Int) (v_Mine : Int) (v_Theirs : Int) (t96 : Int) (n2 : Int) (t95 : Int) : ValidWindow_17_B  kx kr again t94 v_State v_Gss v_Gsr v_Gar v_Iss v_Isr v_Mine v_Theirs t96 n2 t95 = loopB G52 (ValidWindow_Λd @L10 @L17) false tab Go.Proofs.Tryz.f9.ntmps 0 ValidWindow_17_T [] ValidWindow_17_X ValidWindow_17_R (bodyAt (fb Go.Proofs.Tryz.f9) 1) (fun ls => un_li ls fun t94 rr => un_i rr fun v_State rr => un_i rr fun v_Gss rr => un_i rr fun v_Gsr rr => un_i rr fun v_Gar rr => un_i rr fun v_Iss rr => un_i rr fun v_Isr rr => un_i rr fun v_Mine rr => un_i rr fun v_Theirs rr => un_i rr fun t96 rr => un_i rr fun n2 rr => un_i rr fun t95 rr => un_nil rr (again t94 v_State v_Gss v_Gsr v_Gar v_Iss v_Isr v_Mine v_Theirs t96 n2 t95)) kx kr (instFr ValidWindow_17_T [.li t94, .i v_State, .i v_Gss, .i v_Gsr, .i v_Gar, .i v_Iss, .i v_Isr, .i v_Mine, .i v_Theirs, .i t96, .i n2, .i t95]) (instH ValidWindow_17_T [.li t94, .i v_State, .i v_Gss, .i v_Gsr, .i v_Gar, .i v_Iss, .i v_Isr, .i v_Mine, .i v_Theirs, .i t96, .i n2, .i t95]) := by kernel_rfl
theorem ValidWindow_17_lok (E : Nat → Prop) (w0 ws : World) (ρ0 : List Pl) (hk : ρ0.length = 0) : LOk Go.Proofs.Tryz.prog 9 Go.Proofs.Tryz.f9 false E w0 ws Go.Proofs.Tryz.f9.ntmps ρ0 ValidWindow_Λ (bodyAt (fb Go.Proofs.Tryz.f9) 1) := by
  refine lok mixed tab_ok g52 Go.Proofs.Tryz.func9 hk (T := ValidWindow_17_T) (rt := ValidWindow_17_R) (cuts := []) (ex := ValidWindow_17_X) (top := top) (F := ValidWindow_17_F @ValidWindow_17_L) (fun fr H kx kr => by kernel_rfl) ?_ ?_ ?_
  · intro α ls' kx' kr' r' h'
    unfold ValidWindow_17_F at h'
    obtain ⟨t94, l'1, rfl, h'1⟩ := un_li_some.1 h'
    obtain ⟨v_State, l'2, rfl, h'2⟩ := un_i_some.1 h'1
    obtain ⟨v_Gss, l'3, rfl, h'3⟩ := un_i_some.1 h'2
    obtain ⟨v_Gsr, l'4, rfl, h'4⟩ := un_i_some.1 h'3
    obtain ⟨v_Gar, l'5, rfl, h'5⟩ := un_i_some.1 h'4
    obtain ⟨v_Iss, l'6, rfl, h'6⟩ := un_i_some.1 h'5
    obtain ⟨v_Isr, l'7, rfl, h'7⟩ := un_i_some.1 h'6
    obtain ⟨v_Mine, l'8, rfl, h'8⟩ := un_i_some.1 h'7
    obtain ⟨v_Theirs, l'9, rfl, h'9⟩ := un_i_some.1 h'8
    obtain ⟨t96, l'10, rfl, h'10⟩ := un_i_some.1 h'9
    obtain ⟨n2, l'11, rfl, h'11⟩ := un_i_some.1 h'10
    obtain ⟨t95, l'12, rfl, h'12⟩ := un_i_some.1 h'11
    obtain ⟨rfl, h'Z⟩ := un_nil_some.1 h'12
    cases h'Z
  · intro α n' ls' kx' kr' r' h'
    unfold ValidWindow_17_F at h'
    obtain ⟨t94, l'1, rfl, h'1⟩ := un_li_some.1 h'
    obtain ⟨v_State, l'2, rfl, h'2⟩ := un_i_some.1 h'1
    obtain ⟨v_Gss, l'3, rfl, h'3⟩ := un_i_some.1 h'2
    obtain ⟨v_Gsr, l'4, rfl, h'4⟩ := un_i_some.1 h'3
    obtain ⟨v_Gar, l'5, rfl, h'5⟩ := un_i_some.1 h'4
    obtain ⟨v_Iss, l'6, rfl, h'6⟩ := un_i_some.1 h'5
    obtain ⟨v_Isr, l'7, rfl, h'7⟩ := un_i_some.1 h'6
    obtain ⟨v_Mine, l'8, rfl, h'8⟩ := un_i_some.1 h'7
    obtain ⟨v_Theirs, l'9, rfl, h'9⟩ := un_i_some.1 h'8
    obtain ⟨t96, l'10, rfl, h'10⟩ := un_i_some.1 h'9
    obtain ⟨n2, l'11, rfl, h'11⟩ := un_i_some.1 h'10
    obtain ⟨t95, l'12, rfl, h'12⟩ := un_i_some.1 h'11
    obtain ⟨rfl, h'Z⟩ := un_nil_some.1 h'12
    exact (ValidWindow_17_e @ValidWindow_10_L @ValidWindow_17_L kx' kr' (ValidWindow_17_L kx' kr' n') t94 v_State v_Gss v_Gsr v_Gar v_Iss v_Isr v_Mine v_Theirs t96 n2 t95).symm.trans h'Z
  · intro b' hb
    rw [show loopsOf (bodyAt (fb Go.Proofs.Tryz.f9) 1) = [] by kernel_rfl] at hb
    cases hb
theorem ValidWindow_10_lok (E : Nat → Prop) (w0 ws : World) (ρ0 : List Pl) (hk : ρ0.length = 0) : LOk Go.Proofs.Tryz.prog 9 Go.Proofs.Tryz.f9 false E w0 ws Go.Proofs.Tryz.f9.ntmps ρ0 ValidWindow_Λ (bodyAt (fb Go.Proofs.Tryz.f9) 0) := by
  refine lok mixed tab_ok g52 Go.Proofs.Tryz.func9 hk (T := ValidWindow_10_T) (rt := ValidWindow_10_R) (cuts := []) (ex := ValidWindow_10_X) (top := top) (F := ValidWindow_10_F @ValidWindow_10_L) (fun fr H kx kr => by kernel_rfl) ?_ ?_ ?_
  · intro α ls' kx' kr' r' h'
    unfold ValidWindow_10_F at h'
    obtain ⟨t64, l'1, rfl, h'1⟩ := un_li_some.1 h'
    obtain ⟨v_State, l'2, rfl, h'2⟩ := un_i_some.1 h'1
    obtain ⟨v_Gss, l'3, rfl, h'3⟩ := un_i_some.1 h'2
    obtain ⟨v_Gsr, l'4, rfl, h'4⟩ := un_i_some.1 h'3
    obtain ⟨v_Gar, l'5, rfl, h'5⟩ := un_i_some.1 h'4
    obtain ⟨v_Iss, l'6, rfl, h'6⟩ := un_i_some.1 h'5
    obtain ⟨v_Isr, l'7, rfl, h'7⟩ := un_i_some.1 h'6
    obtain ⟨v_Mine, l'8, rfl, h'8⟩ := un_i_some.1 h'7
    obtain ⟨v_Theirs, l'9, rfl, h'9⟩ := un_i_some.1 h'8
    obtain ⟨t66, l'10, rfl, h'10⟩ := un_i_some.1 h'9
    obtain ⟨high, l'11, rfl, h'11⟩ := un_i_some.1 h'10
    obtain ⟨low, l'12, rfl, h'12⟩ := un_i_some.1 h'11
    obtain ⟨n2, l'13, rfl, h'13⟩ := un_i_some.1 h'12
    obtain ⟨t65, l'14, rfl, h'14⟩ := un_i_some.1 h'13
    obtain ⟨rfl, h'Z⟩ := un_nil_some.1 h'14
    cases h'Z
  · intro α n' ls' kx' kr' r' h'
    unfold ValidWindow_10_F at h'
    obtain ⟨t64, l'1, rfl, h'1⟩ := un_li_some.1 h'
    obtain ⟨v_State, l'2, rfl, h'2⟩ := un_i_some.1 h'1
    obtain ⟨v_Gss, l'3, rfl, h'3⟩ := un_i_some.1 h'2
    obtain ⟨v_Gsr, l'4, rfl, h'4⟩ := un_i_some.1 h'3
    obtain ⟨v_Gar, l'5, rfl, h'5⟩ := un_i_some.1 h'4
    obtain ⟨v_Iss, l'6, rfl, h'6⟩ := un_i_some.1 h'5
    obtain ⟨v_Isr, l'7, rfl, h'7⟩ := un_i_some.1 h'6
    obtain ⟨v_Mine, l'8, rfl, h'8⟩ := un_i_some.1 h'7
    obtain ⟨v_Theirs, l'9, rfl, h'9⟩ := un_i_some.1 h'8
    obtain ⟨t66, l'10, rfl, h'10⟩ := un_i_some.1 h'9
    obtain ⟨high, l'11, rfl, h'11⟩ := un_i_some.1 h'10
    obtain ⟨low, l'12, rfl, h'12⟩ := un_i_some.1 h'11
    obtain ⟨n2, l'13, rfl, h'13⟩ := un_i_some.1 h'12
    obtain ⟨t65, l'14, rfl, h'14⟩ := un_i_some.1 h'13
    obtain ⟨rfl, h'Z⟩ := un_nil_some.1 h'14
    exact (ValidWindow_10_e @ValidWindow_10_L @ValidWindow_17_L kx' kr' (ValidWindow_10_L kx' kr' n') t64 v_State v_Gss v_Gsr v_Gar v_Iss v_Isr v_Mine v_Theirs t66 high low n2 t65).symm.trans h'Z
  · intro b' hb
    rw [show loopsOf (bodyAt (fb Go.Proofs.Tryz.f9) 0) = [] by kernel_rfl] at hb
    cases hb
theorem ValidWindow_ed (L10 : ({β : Type} → (Nat → List Leaf → Option β) → (List Leaf → Option β) → Nat → List Int → Int → Int → Int → Int → Int → Int → Int → Int → Int → Int → Int → Int → Int → Option β)) (L17 : ({β : Type} → (Nat → List Leaf → Option β) → (List Leaf → Option β) → Nat → List Int → Int → Int → Int → Int → Int → Int → Int → Int → Int → Int → Int → Option β)) (v_State : Int) (v_Gss : Int) (v_Gsr : Int) (v_Gar : Int) (v_Iss : Int) (v_Isr : Int) (v_Mine : Int) (v_Theirs : Int) (w : Int) : ValidWindow_d @L10 @L17 v_State v_Gss v_Gsr v_Gar v_Iss v_Isr v_Mine v_Theirs w = den G52 (ValidWindow_Λd @L10 @L17) false tab Go.Proofs.Tryz.f9.ntmps (fun fr H => finish tab 0 Go.Proofs.Tryz.f9.results.toList ValidWindow_out [] fr H some) (fun _ _ _ => none) (fun fr H => finish tab 0 Go.Proofs.Tryz.f9.results.toList ValidWindow_out [] fr H some) 10000 [.code (fb Go.Proofs.Tryz.f9)] (instFr ValidWindow_in [.i v_State, .i v_Gss, .i v_Gsr, .i v_Gar, .i v_Iss, .i v_Isr, .i v_Mine, .i v_Theirs, .i w]) (instH ValidWindow_in [.i v_State, .i v_Gss, .i v_Gsr, .i v_Gar, .i v_Iss, .i v_Isr, .i v_Mine, .i v_Theirs, .i w]) := by kernel_rfl
theorem ValidWindow_e (v_State : Int) (v_Gss : Int) (v_Gsr : Int) (v_Gar : Int) (v_Iss : Int) (v_Isr : Int) (v_Mine : Int) (v_Theirs : Int) (w : Int) : ValidWindow v_State v_Gss v_Gsr v_Gar v_Iss v_Isr v_Mine v_Theirs w = den G52 ValidWindow_Λ false tab Go.Proofs.Tryz.f9.ntmps (fun fr H => finish tab 0 Go.Proofs.Tryz.f9.results.toList ValidWindow_out [] fr H some) (fun _ _ _ => none) (fun fr H => finish tab 0 Go.Proofs.Tryz.f9.results.toList ValidWindow_out [] fr H some) 10000 [.code (fb Go.Proofs.Tryz.f9)] (instFr ValidWindow_in [.i v_State, .i v_Gss, .i v_Gsr, .i v_Gar, .i v_Iss, .i v_Isr, .i v_Mine, .i v_Theirs, .i w]) (instH ValidWindow_in [.i v_State, .i v_Gss, .i v_Gsr, .i v_Gar, .i v_Iss, .i v_Isr, .i v_Mine, .i v_Theirs, .i w]) := ValidWindow_ed @ValidWindow_10_L @ValidWindow_17_L v_State v_Gss v_Gsr v_Gar v_Iss v_Isr v_Mine v_Theirs w
def ValidWindow_S : List Leaf → Option (List Leaf) := fun ls => un_i ls fun v_State rr => un_i rr fun v_Gss rr => un_i rr fun v_Gsr rr => un_i rr fun v_Gar rr => un_i rr fun v_Iss rr => un_i rr fun v_Isr rr => un_i rr fun v_Mine rr => un_i rr fun v_Theirs rr => un_i rr fun w rr => un_nil rr (ValidWindow v_State v_Gss v_Gsr v_Gar v_Iss v_Isr v_Mine v_Theirs w)
def ValidWindow_SC : Tld := fun ls k' => un_i ls fun v_State rr => un_i rr fun v_Gss rr => un_i rr fun v_Gsr rr => un_i rr fun v_Gar rr => un_i rr fun v_Iss rr => un_i rr fun v_Isr rr => un_i rr fun v_Mine rr => un_i rr fun v_Theirs rr => un_i rr fun w rr => un_nil rr (out (ValidWindow v_State v_Gss v_Gsr v_Gar v_Iss v_Isr v_Mine v_Theirs w) k')
theorem ValidWindow_Se (v_State : Int) (v_Gss : Int) (v_Gsr : Int) (v_Gar : Int) (v_Iss : Int) (v_Isr : Int) (v_Mine : Int) (v_Theirs : Int) (w : Int) : ValidWindow_S [.i v_State, .i v_Gss, .i v_Gsr, .i v_Gar, .i v_Iss, .i v_Isr, .i v_Mine, .i v_Theirs, .i w] = ValidWindow v_State v_Gss v_Gsr v_Gar v_Iss v_Isr v_Mine v_Theirs w := by
  unfold ValidWindow_S
  simp only [un_i_ev, un_b_ev, un_s_ev, un_li_ev, un_lb_ev, un_ls_ev, un_nil_ev]
theorem ValidWindow_says : Says ValidWindow_SC ValidWindow_S := by
  intro β ls' k' r' h'
  unfold ValidWindow_SC at h'
  obtain ⟨v_State, l'1, rfl, h'1⟩ := un_i_some.1 h'
  obtain ⟨v_Gss, l'2, rfl, h'2⟩ := un_i_some.1 h'1
  obtain ⟨v_Gsr, l'3, rfl, h'3⟩ := un_i_some.1 h'2
  obtain ⟨v_Gar, l'4, rfl, h'4⟩ := un_i_some.1 h'3
  obtain ⟨v_Iss, l'5, rfl, h'5⟩ := un_i_some.1 h'4
  obtain ⟨v_Isr, l'6, rfl, h'6⟩ := un_i_some.1 h'5
  obtain ⟨v_Mine, l'7, rfl, h'7⟩ := un_i_some.1 h'6
  obtain ⟨v_Theirs, l'8, rfl, h'8⟩ := un_i_some.1 h'7
  obtain ⟨w, l'9, rfl, h'9⟩ := un_i_some.1 h'8
  obtain ⟨rfl, h'Z⟩ := un_nil_some.1 h'9
  obtain ⟨l', a', b'⟩ := out_some.1 h'Z
  exact ⟨l', (ValidWindow_Se v_State v_Gss v_Gsr v_Gar v_Iss v_Isr v_Mine v_Theirs w).trans a', b'⟩
theorem ValidWindow_c : FnC Go.Proofs.Tryz.prog 9 false 2 0 ValidWindow_in ValidWindow_out ValidWindow_S := by
  refine fn_ok (Λ := ValidWindow_Λ) mixed tab_ok g52 Go.Proofs.Tryz.func9 (by kernel_rfl) (body := fb Go.Proofs.Tryz.f9) rfl (ts := Go.Proofs.Tryz.f9.results.toList) rfl (cuts := []) (by kernel_rfl) (Nat.le_of_ble_eq_true (by kernel_rfl)) (by kernel_rfl) (rt := .w (.at (.bool))) rfl ?_ ?_
  · intro ls' r' h'
    unfold ValidWindow_S at h'
    obtain ⟨v_State, l'1, rfl, h'1⟩ := un_i_some.1 h'
    obtain ⟨v_Gss, l'2, rfl, h'2⟩ := un_i_some.1 h'1
    obtain ⟨v_Gsr, l'3, rfl, h'3⟩ := un_i_some.1 h'2
    obtain ⟨v_Gar, l'4, rfl, h'4⟩ := un_i_some.1 h'3
    obtain ⟨v_Iss, l'5, rfl, h'5⟩ := un_i_some.1 h'4
    obtain ⟨v_Isr, l'6, rfl, h'6⟩ := un_i_some.1 h'5
    obtain ⟨v_Mine, l'7, rfl, h'7⟩ := un_i_some.1 h'6
    obtain ⟨v_Theirs, l'8, rfl, h'8⟩ := un_i_some.1 h'7
    obtain ⟨w, l'9, rfl, h'9⟩ := un_i_some.1 h'8
    obtain ⟨rfl, h'Z⟩ := un_nil_some.1 h'9
    exact (ValidWindow_e v_State v_Gss v_Gsr v_Gar v_Iss v_Isr v_Mine v_Theirs w).symm.trans h'Z
  · intro E w0 ws ρ0 hk b hb
    rw [show loopsOf (fb Go.Proofs.Tryz.f9) = [(bodyAt (fb Go.Proofs.Tryz.f9) 0), (bodyAt (fb Go.Proofs.Tryz.f9) 1)] by kernel_rfl] at hb
    simp only [List.mem_cons, List.mem_nil_iff, or_false] at hb
    rcases hb with rfl | rfl
    · exact ValidWindow_10_lok E w0 ws ρ0 hk
    · exact ValidWindow_17_lok E w0 ws ρ0 hk
noncomputable def G53 : Env := G52.addE 9 2 ValidWindow_in ValidWindow_out ValidWindow_SC
theorem g53 : EnvOk Go.Proofs.Tryz.prog G53 := EnvOk.addE g52 ValidWindow_c ValidWindow_says
end Go.Sx.T

