import Derived.Test.YtfcaemjklnelhaaGreatDoorYVLSpec
import Derived.Test.YtfcaemjklnelhaaGreatDoorYCelCon
set_option linter.all false
namespace Go.Sx.T
open Go Go.Sx Go.Proofs
set_option maxRecDepth 100000

-- ### VecLong: function 4
def VecLong_in : Tm := ⟨[], [(0, .w (.at (.int .i64))), (1, .w (.at (.int .i64)))]⟩
def VecLong_out : Tm := ⟨[], [(0, .w (.at (.bool)))]⟩
def VecLong_7_T : Tm := ⟨[.row 38 2 [.int .i64, .int .i64]], [(7, .w (.at (.int .i64))), (1, .w (.at (.int .i64))), (6, .w (.at (.all 0 2))), (0, .w (.at (.int .i64)))]⟩
def VecLong_7_X0 : Tm := ⟨[.row 38 2 [.int .i64, .int .i64]], [(6, .w (.at (.all 0 2))), (0, .w (.at (.int .i64)))]⟩
def VecLong_7_X : Exits := [(0, (VecLong_7_X0, []))]
def VecLong_7_R : Tm := ⟨[], []⟩
def VecLong_15_T : Tm := ⟨[.row 38 2 [.int .i64, .int .i64], .row 9 1 [.str], .row 38 2 [.int .i64, .int .i64]], [(48, .w (.at (.int .i64))), (9, .w (.at (.all 0 2))), (8, .w (.at (.all 1 1))), (6, .w (.at (.all 2 2))), (47, .w (.at (.int .i64)))]⟩
def VecLong_15_X2 : Tm := ⟨[.row 38 2 [.int .i64, .int .i64], .row 38 2 [.int .i64, .int .i64]], [(6, .w (.at (.all 0 2))), (9, .w (.at (.all 1 2)))]⟩
def VecLong_15_X : Exits := [(2, (VecLong_15_X2, []))]
def VecLong_15_R : Tm := ⟨[], [(4, .w (.at (.bool)))]⟩

def VecLong_Λd (L7 : ({β : Type} → (Nat → List Leaf → Option β) → (List Leaf → Option β) → Nat → List Int → List Int → Int → Int → Int → Option β)) (L15 : ({β : Type} → (Nat → List Leaf → Option β) → (List Leaf → Option β) → Nat → List Int → List Int → List ByteArray → List Int → List Int → Int → Int → Option β)) : Loops := ⟨fun b fr H kx kr => bif Nat.beq (rid b) 7 then loopE 0 VecLong_7_T [] VecLong_7_X VecLong_7_R (VecLong_7_F @L7 top) fr H kx kr else bif Nat.beq (rid b) 15 then loopE 0 VecLong_15_T [] VecLong_15_X VecLong_15_R (VecLong_15_F @L15 top) fr H kx kr else none⟩
def VecLong_Λ : Loops := VecLong_Λd @VecLong_7_L @VecLong_15_L
theorem VecLong_7_e (L7 : ({β : Type} → (Nat → List Leaf → Option β) → (List Leaf → Option β) → Nat → List Int → List Int → Int → Int → Int → Option β)) (L15 : ({β : Type} → (Nat → List Leaf → Option β) → (List Leaf → Option β) → Nat → List Int → List Int → List ByteArray → List Int → List Int → Int → Int → Option β)) {α : Type} (kx : Nat → List Leaf → Option α) (kr : List Leaf → Option α) (again : List Int → List Int → Int → Int → Int → Option α) (cs0 : List Int) (cs1 : List Int) (i : Int) (s : Int) (n2 : Int) : VecLong_7_B  kx kr again cs0 cs1 i s n2 = loopB G20 (VecLong_Λd @L7 @L15) false tab Go.Proofs.Tryz.f4.ntmps 0 VecLong_7_T [] VecLong_7_X VecLong_7_R (bodyAt (fb Go.Proofs.Tryz.f4) 0) (fun ls => un_li ls fun cs0 rr => un_li rr fun cs1 rr => un_i rr fun i rr => un_i rr fun s rr => un_i rr fun n2 rr => un_nil rr (again cs0 cs1 i s n2)) kx kr (instFr VecLong_7_T [.li cs0, .li cs1, .i i, .i s, .i n2]) (instH VecLong_7_T [.li cs0, .li cs1, .i i, .i s, .i n2]) := by kernel_rfl
theorem VecLong_15_e (L7 : ({β : Type} → (Nat → List Leaf → Option β) → (List Leaf → Option β) → Nat → List Int → List Int → Int → Int → Int → Option β)) (L15 : ({β : Type} → (Nat → List Leaf → Option β) → (List Leaf → Option β) → Nat → List Int → List Int → List ByteArray → List Int → List Int → Int → Int → Option β)) {α : Type} (kx : Nat → List Leaf → Option α) (kr : List Leaf → Option α) (again : List Int → List Int → List ByteArray → List Int → List Int → Int → Int → Option α) (back0 : List Int) (back1 : List Int) (l : List ByteArray) (cs0 : List Int) (cs1 : List Int) (t48 : Int) (t47 : Int) : VecLong_15_B  kx kr again back0 back1 l cs0 cs1 t48 t47 = loopB G20 (VecLong_Λd @L7 @L15) false tab Go.Proofs.Tryz.f4.ntmps 0 VecLong_15_T [] VecLong_15_X VecLong_15_R (bodyAt (fb Go.Proofs.Tryz.f4) 1) (fun ls => un_li ls fun back0 rr => un_li rr fun back1 rr => un_ls rr fun l rr => un_li rr fun cs0 rr => un_li rr fun cs1 rr => un_i rr fun t48 rr => un_i rr fun t47 rr => un_nil rr (again back0 back1 l cs0 cs1 t48 t47)) kx kr (instFr VecLong_15_T [.li back0, .li back1, .ls l, .li cs0, .li cs1, .i t48, .i t47]) (instH VecLong_15_T [.li back0, .li back1, .ls l, .li cs0, .li cs1, .i t48, .i t47]) := by kernel_rfl
theorem VecLong_15_lok (E : Nat → Prop) (w0 ws : World) (ρ0 : List Pl) (hk : ρ0.length = 0) : LOk Go.Proofs.Tryz.prog 4 Go.Proofs.Tryz.f4 false E w0 ws Go.Proofs.Tryz.f4.ntmps ρ0 VecLong_Λ (bodyAt (fb Go.Proofs.Tryz.f4) 1) := by
  refine lok mixed tab_ok g20 Go.Proofs.Tryz.func4 hk (T := VecLong_15_T) (rt := VecLong_15_R) (cuts := []) (ex := VecLong_15_X) (top := top) (F := VecLong_15_F @VecLong_15_L) (fun fr H kx kr => by kernel_rfl) ?_ ?_ ?_
  · intro α ls' kx' kr' r' h'
    unfold VecLong_15_F at h'
    obtain ⟨back0, l'1, rfl, h'1⟩ := un_li_some.1 h'
    obtain ⟨back1, l'2, rfl, h'2⟩ := un_li_some.1 h'1
    obtain ⟨l, l'3, rfl, h'3⟩ := un_ls_some.1 h'2
    obtain ⟨cs0, l'4, rfl, h'4⟩ := un_li_some.1 h'3
    obtain ⟨cs1, l'5, rfl, h'5⟩ := un_li_some.1 h'4
    obtain ⟨t48, l'6, rfl, h'6⟩ := un_i_some.1 h'5
    obtain ⟨t47, l'7, rfl, h'7⟩ := un_i_some.1 h'6
    obtain ⟨rfl, h'Z⟩ := un_nil_some.1 h'7
    cases h'Z
  · intro α n' ls' kx' kr' r' h'
    unfold VecLong_15_F at h'
    obtain ⟨back0, l'1, rfl, h'1⟩ := un_li_some.1 h'
    obtain ⟨back1, l'2, rfl, h'2⟩ := un_li_some.1 h'1
    obtain ⟨l, l'3, rfl, h'3⟩ := un_ls_some.1 h'2
    obtain ⟨cs0, l'4, rfl, h'4⟩ := un_li_some.1 h'3
    obtain ⟨cs1, l'5, rfl, h'5⟩ := un_li_some.1 h'4
    obtain ⟨t48, l'6, rfl, h'6⟩ := un_i_some.1 h'5
    obtain ⟨t47, l'7, rfl, h'7⟩ := un_i_some.1 h'6
    obtain ⟨rfl, h'Z⟩ := un_nil_some.1 h'7
    exact (VecLong_15_e @VecLong_7_L @VecLong_15_L kx' kr' (VecLong_15_L kx' kr' n') back0 back1 l cs0 cs1 t48 t47).symm.trans h'Z
  · intro b' hb
    rw [show loopsOf (bodyAt (fb Go.Proofs.Tryz.f4) 1) = [] by kernel_rfl] at hb
    cases hb
theorem VecLong_7_lok (E : Nat → Prop) (w0 ws : World) (ρ0 : List Pl) (hk : ρ0.length = 0) : LOk Go.Proofs.Tryz.prog 4 Go.Proofs.Tryz.f4 false E w0 ws Go.Proofs.Tryz.f4.ntmps ρ0 VecLong_Λ (bodyAt (fb Go.Proofs.Tryz.f4) 0) := by
  refine lok mixed tab_ok g20 Go.Proofs.Tryz.func4 hk (T := VecLong_7_T) (rt := VecLong_7_R) (cuts := []) (ex := VecLong_7_X) (top := top) (F := VecLong_7_F @VecLong_7_L) (fun fr H kx kr => by kernel_rfl) ?_ ?_ ?_
  · intro α ls' kx' kr' r' h'
    unfold VecLong_7_F at h'
    obtain ⟨cs0, l'1, rfl, h'1⟩ := un_li_some.1 h'
    obtain ⟨cs1, l'2, rfl, h'2⟩ := un_li_some.1 h'1
    obtain ⟨i, l'3, rfl, h'3⟩ := un_i_some.1 h'2
    obtain ⟨s, l'4, rfl, h'4⟩ := un_i_some.1 h'3
    obtain ⟨n2, l'5, rfl, h'5⟩ := un_i_some.1 h'4
    obtain ⟨rfl, h'Z⟩ := un_nil_some.1 h'5
    cases h'Z
  · intro α n' ls' kx' kr' r' h'
    unfold VecLong_7_F at h'
    obtain ⟨cs0, l'1, rfl, h'1⟩ := un_li_some.1 h'
    obtain ⟨cs1, l'2, rfl, h'2⟩ := un_li_some.1 h'1
    obtain ⟨i, l'3, rfl, h'3⟩ := un_i_some.1 h'2
    obtain ⟨s, l'4, rfl, h'4⟩ := un_i_some.1 h'3
    obtain ⟨n2, l'5, rfl, h'5⟩ := un_i_some.1 h'4
    obtain ⟨rfl, h'Z⟩ := un_nil_some.1 h'5
    exact (VecLong_7_e @VecLong_7_L @VecLong_15_L kx' kr' (VecLong_7_L kx' kr' n') cs0 cs1 i s n2).symm.trans h'Z
  · intro b' hb
    rw [show loopsOf (bodyAt (fb Go.Proofs.Tryz.f4) 0) = [] by kernel_rfl] at hb
    cases hb
theorem VecLong_ed (L7 : ({β : Type} → (Nat → List Leaf → Option β) → (List Leaf → Option β) → Nat → List Int → List Int → Int → Int → Int → Option β)) (L15 : ({β : Type} → (Nat → List Leaf → Option β) → (List Leaf → Option β) → Nat → List Int → List Int → List ByteArray → List Int → List Int → Int → Int → Option β)) (n2 : Int) (s : Int) : VecLong_d @L7 @L15 n2 s = den G20 (VecLong_Λd @L7 @L15) false tab Go.Proofs.Tryz.f4.ntmps (fun fr H => finish tab 0 Go.Proofs.Tryz.f4.results.toList VecLong_out [] fr H some) (fun _ _ _ => none) (fun fr H => finish tab 0 Go.Proofs.Tryz.f4.results.toList VecLong_out [] fr H some) 10000 [.code (fb Go.Proofs.Tryz.f4)] (instFr VecLong_in [.i n2, .i s]) (instH VecLong_in [.i n2, .i s]) := by kernel_rfl
theorem VecLong_e (n2 : Int) (s : Int) : VecLong n2 s = den G20 VecLong_Λ false tab Go.Proofs.Tryz.f4.ntmps (fun fr H => finish tab 0 Go.Proofs.Tryz.f4.results.toList VecLong_out [] fr H some) (fun _ _ _ => none) (fun fr H => finish tab 0 Go.Proofs.Tryz.f4.results.toList VecLong_out [] fr H some) 10000 [.code (fb Go.Proofs.Tryz.f4)] (instFr VecLong_in [.i n2, .i s]) (instH VecLong_in [.i n2, .i s]) := VecLong_ed @VecLong_7_L @VecLong_15_L n2 s
def VecLong_S : List Leaf → Option (List Leaf) := fun ls => un_i ls fun n2 rr => un_i rr fun s rr => un_nil rr (VecLong n2 s)
def VecLong_SC : Tld := fun ls k' => un_i ls fun n2 rr => un_i rr fun s rr => un_nil rr (out (VecLong n2 s) k')
theorem VecLong_Se (n2 : Int) (s : Int) : VecLong_S [.i n2, .i s] = VecLong n2 s := by
  unfold VecLong_S
  simp only [un_i_ev, un_b_ev, un_s_ev, un_li_ev, un_lb_ev, un_ls_ev, un_nil_ev]
theorem VecLong_says : Says VecLong_SC VecLong_S := by
  intro β ls' k' r' h'
  unfold VecLong_SC at h'
  obtain ⟨n2, l'1, rfl, h'1⟩ := un_i_some.1 h'
  obtain ⟨s, l'2, rfl, h'2⟩ := un_i_some.1 h'1
  obtain ⟨rfl, h'Z⟩ := un_nil_some.1 h'2
  obtain ⟨l', a', b'⟩ := out_some.1 h'Z
  exact ⟨l', (VecLong_Se n2 s).trans a', b'⟩
theorem VecLong_c : FnC Go.Proofs.Tryz.prog 4 false 2 0 VecLong_in VecLong_out VecLong_S := by
  refine fn_ok (Λ := VecLong_Λ) mixed tab_ok g20 Go.Proofs.Tryz.func4 (by kernel_rfl) (body := fb Go.Proofs.Tryz.f4) rfl (ts := Go.Proofs.Tryz.f4.results.toList) rfl (cuts := []) (by kernel_rfl) (Nat.le_of_ble_eq_true (by kernel_rfl)) (by kernel_rfl) (rt := .w (.at (.bool))) rfl ?_ ?_
  · intro ls' r' h'
    unfold VecLong_S at h'
    obtain ⟨n2, l'1, rfl, h'1⟩ := un_i_some.1 h'
    obtain ⟨s, l'2, rfl, h'2⟩ := un_i_some.1 h'1
    obtain ⟨rfl, h'Z⟩ := un_nil_some.1 h'2
    exact (VecLong_e n2 s).symm.trans h'Z
  · intro E w0 ws ρ0 hk b hb
    rw [show loopsOf (fb Go.Proofs.Tryz.f4) = [(bodyAt (fb Go.Proofs.Tryz.f4) 0), (bodyAt (fb Go.Proofs.Tryz.f4) 1)] by kernel_rfl] at hb
    simp only [List.mem_cons, List.mem_nil_iff, or_false] at hb
    rcases hb with rfl | rfl
    · exact VecLong_7_lok E w0 ws ρ0 hk
    · exact VecLong_15_lok E w0 ws ρ0 hk
noncomputable def G21 : Env := G20.addE 4 2 VecLong_in VecLong_out VecLong_SC
theorem g21 : EnvOk Go.Proofs.Tryz.prog G21 := EnvOk.addE g20 VecLong_c VecLong_says
end Go.Sx.T

