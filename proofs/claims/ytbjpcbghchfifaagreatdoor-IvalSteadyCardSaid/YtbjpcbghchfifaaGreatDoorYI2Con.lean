import Derived.Test.YtbjpcbghchfifaaGreatDoorYI2Spec
import Derived.Test.YtbjpcbghchfifaaGreatDoorYRBCon
set_option linter.all false
namespace Go.Sx.T
open Go Go.Sx Go.Proofs

-- ### IvalSteady: function 10
def IvalSteady_in : Tm := ⟨[], [(0, .w (.at (.int .u64))), (1, .w (.at (.int .i64)))]⟩
def IvalSteady_out : Tm := ⟨[], [(0, .w (.at (.bool)))]⟩
def IvalSteady_8_T : Tm := ⟨[.row 30 1 [.int .u64]], [(7, .w (.at (.int .i64))), (0, .w (.at (.int .u64))), (6, .w (.at (.all 0 1))), (1, .w (.at (.int .i64)))]⟩
def IvalSteady_8_X0 : Tm := ⟨[.row 30 1 [.int .u64]], [(0, .w (.at (.int .u64))), (6, .w (.at (.all 0 1)))]⟩
def IvalSteady_8_X : Exits := [(0, (IvalSteady_8_X0, []))]
def IvalSteady_8_R : Tm := ⟨[], []⟩

def IvalSteady_Λd (L8 : ({β : Type} → (Nat → List Leaf → Option β) → (List Leaf → Option β) → Nat → List Int → Int → Int → Int → Option β)) : Loops := ⟨fun b fr H kx kr => bif Nat.beq (rid b) 8 then loopE 0 IvalSteady_8_T [] IvalSteady_8_X IvalSteady_8_R (IvalSteady_8_F @L8 top) fr H kx kr else none⟩
def IvalSteady_Λ : Loops := IvalSteady_Λd @IvalSteady_8_L
theorem IvalSteady_8_e (L8 : ({β : Type} → (Nat → List Leaf → Option β) → (List Leaf → Option β) → Nat → List Int → Int → Int → Int → Option β)) {α : Type} (kx : Nat → List Leaf → Option α) (kr : List Leaf → Option α) (again : List Int → Int → Int → Int → Option α) (l : List Int) (i : Int) (n2 : Int) (k : Int) : IvalSteady_8_B  kx kr again l i n2 k = loopB G41 (IvalSteady_Λd @L8) false tab Go.Proofs.Tryz.f10.ntmps 0 IvalSteady_8_T [] IvalSteady_8_X IvalSteady_8_R (bodyAt (fb Go.Proofs.Tryz.f10) 0) (fun ls => un_li ls fun l rr => un_i rr fun i rr => un_i rr fun n2 rr => un_i rr fun k rr => un_nil rr (again l i n2 k)) kx kr (instFr IvalSteady_8_T [.li l, .i i, .i n2, .i k]) (instH IvalSteady_8_T [.li l, .i i, .i n2, .i k]) := by kernel_rfl
theorem IvalSteady_8_lok (E : Nat → Prop) (w0 ws : World) (ρ0 : List Pl) (hk : ρ0.length = 0) : LOk Go.Proofs.Tryz.prog 10 Go.Proofs.Tryz.f10 false E w0 ws Go.Proofs.Tryz.f10.ntmps ρ0 IvalSteady_Λ (bodyAt (fb Go.Proofs.Tryz.f10) 0) := by
  refine lok mixed tab_ok g41 Go.Proofs.Tryz.func10 hk (T := IvalSteady_8_T) (rt := IvalSteady_8_R) (cuts := []) (ex := IvalSteady_8_X) (top := top) (F := IvalSteady_8_F @IvalSteady_8_L) (fun fr H kx kr => by kernel_rfl) ?_ ?_ ?_
  · intro α ls' kx' kr' r' h'
    unfold IvalSteady_8_F at h'
    obtain ⟨l, l'1, rfl, h'1⟩ := un_li_some.1 h'
    obtain ⟨i, l'2, rfl, h'2⟩ := un_i_some.1 h'1
    obtain ⟨n2, l'3, rfl, h'3⟩ := un_i_some.1 h'2
    obtain ⟨k, l'4, rfl, h'4⟩ := un_i_some.1 h'3
    obtain ⟨rfl, h'Z⟩ := un_nil_some.1 h'4
    cases h'Z
  · intro α n' ls' kx' kr' r' h'
    unfold IvalSteady_8_F at h'
    obtain ⟨l, l'1, rfl, h'1⟩ := un_li_some.1 h'
    obtain ⟨i, l'2, rfl, h'2⟩ := un_i_some.1 h'1
    obtain ⟨n2, l'3, rfl, h'3⟩ := un_i_some.1 h'2
    obtain ⟨k, l'4, rfl, h'4⟩ := un_i_some.1 h'3
    obtain ⟨rfl, h'Z⟩ := un_nil_some.1 h'4
    exact (IvalSteady_8_e @IvalSteady_8_L kx' kr' (IvalSteady_8_L kx' kr' n') l i n2 k).symm.trans h'Z
  · intro b' hb
    rw [show loopsOf (bodyAt (fb Go.Proofs.Tryz.f10) 0) = [] by kernel_rfl] at hb
    cases hb
theorem IvalSteady_ed (L8 : ({β : Type} → (Nat → List Leaf → Option β) → (List Leaf → Option β) → Nat → List Int → Int → Int → Int → Option β)) (n2 : Int) (k : Int) : IvalSteady_d @L8 n2 k = den G41 (IvalSteady_Λd @L8) false tab Go.Proofs.Tryz.f10.ntmps (fun fr H => finish tab 0 Go.Proofs.Tryz.f10.results.toList IvalSteady_out [] fr H some) (fun _ _ _ => none) (fun fr H => finish tab 0 Go.Proofs.Tryz.f10.results.toList IvalSteady_out [] fr H some) 10000 [.code (fb Go.Proofs.Tryz.f10)] (instFr IvalSteady_in [.i n2, .i k]) (instH IvalSteady_in [.i n2, .i k]) := by kernel_rfl
theorem IvalSteady_e (n2 : Int) (k : Int) : IvalSteady n2 k = den G41 IvalSteady_Λ false tab Go.Proofs.Tryz.f10.ntmps (fun fr H => finish tab 0 Go.Proofs.Tryz.f10.results.toList IvalSteady_out [] fr H some) (fun _ _ _ => none) (fun fr H => finish tab 0 Go.Proofs.Tryz.f10.results.toList IvalSteady_out [] fr H some) 10000 [.code (fb Go.Proofs.Tryz.f10)] (instFr IvalSteady_in [.i n2, .i k]) (instH IvalSteady_in [.i n2, .i k]) := IvalSteady_ed @IvalSteady_8_L n2 k
def IvalSteady_S : List Leaf → Option (List Leaf) := fun ls => un_i ls fun n2 rr => un_i rr fun k rr => un_nil rr (IvalSteady n2 k)
def IvalSteady_SC : Tld := fun ls k' => un_i ls fun n2 rr => un_i rr fun k rr => un_nil rr (out (IvalSteady n2 k) k')
theorem IvalSteady_Se (n2 : Int) (k : Int) : IvalSteady_S [.i n2, .i k] = IvalSteady n2 k := by
  unfold IvalSteady_S
  simp only [un_i_ev, un_b_ev, un_s_ev, un_li_ev, un_lb_ev, un_ls_ev, un_nil_ev]
theorem IvalSteady_says : Says IvalSteady_SC IvalSteady_S := by
  intro β ls' k' r' h'
  unfold IvalSteady_SC at h'
  obtain ⟨n2, l'1, rfl, h'1⟩ := un_i_some.1 h'
  obtain ⟨k, l'2, rfl, h'2⟩ := un_i_some.1 h'1
  obtain ⟨rfl, h'Z⟩ := un_nil_some.1 h'2
  obtain ⟨l', a', b'⟩ := out_some.1 h'Z
  exact ⟨l', (IvalSteady_Se n2 k).trans a', b'⟩
theorem IvalSteady_c : FnC Go.Proofs.Tryz.prog 10 false 2 0 IvalSteady_in IvalSteady_out IvalSteady_S := by
  refine fn_ok (Λ := IvalSteady_Λ) mixed tab_ok g41 Go.Proofs.Tryz.func10 (by kernel_rfl) (body := fb Go.Proofs.Tryz.f10) rfl (ts := Go.Proofs.Tryz.f10.results.toList) rfl (cuts := []) (by kernel_rfl) (Nat.le_of_ble_eq_true (by kernel_rfl)) (by kernel_rfl) (rt := .w (.at (.bool))) rfl ?_ ?_
  · intro ls' r' h'
    unfold IvalSteady_S at h'
    obtain ⟨n2, l'1, rfl, h'1⟩ := un_i_some.1 h'
    obtain ⟨k, l'2, rfl, h'2⟩ := un_i_some.1 h'1
    obtain ⟨rfl, h'Z⟩ := un_nil_some.1 h'2
    exact (IvalSteady_e n2 k).symm.trans h'Z
  · intro E w0 ws ρ0 hk b hb
    rw [show loopsOf (fb Go.Proofs.Tryz.f10) = [(bodyAt (fb Go.Proofs.Tryz.f10) 0)] by kernel_rfl] at hb
    simp only [List.mem_cons, List.mem_nil_iff, or_false] at hb
    rcases hb with rfl
    · exact IvalSteady_8_lok E w0 ws ρ0 hk
def G42 : Env := G41.addE 10 2 IvalSteady_in IvalSteady_out IvalSteady_SC
theorem g42 : EnvOk Go.Proofs.Tryz.prog G42 := EnvOk.addE g41 IvalSteady_c IvalSteady_says
end Go.Sx.T

