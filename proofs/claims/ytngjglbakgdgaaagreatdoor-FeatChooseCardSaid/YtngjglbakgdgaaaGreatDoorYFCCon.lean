import Derived.Test.YtngjglbakgdgaaaGreatDoorYFCSpec
import Derived.Test.YtngjglbakgdgaaaGreatDoorYFeatCon
set_option linter.all false
namespace Go.Sx.T
open Go Go.Sx Go.Proofs
set_option maxRecDepth 100000

-- ### FeatChoose: function 3
def FeatChoose_in : Tm := ⟨[], [(0, .w (.at (.int .i64))), (1, .w (.at (.str))), (2, .w (.at (.str)))]⟩
def FeatChoose_out : Tm := ⟨[], [(0, .w (.at (.bool)))]⟩
def FeatChoose_14_T : Tm := ⟨[], [(10, .w (.at (.int .i64))), (1, .w (.at (.str))), (8, .w (.at (.str))), (9, .w (.at (.bool))), (11, .w (.at (.int .i64))), (2, .w (.at (.str)))]⟩
def FeatChoose_14_X2 : Tm := ⟨[], [(1, .w (.at (.str))), (8, .w (.at (.str))), (9, .w (.at (.bool))), (2, .w (.at (.str))), (10, .w (.at (.int .i64)))]⟩
def FeatChoose_14_X : Exits := [(2, (FeatChoose_14_X2, []))]
def FeatChoose_14_R : Tm := ⟨[], [(6, .w (.at (.bool)))]⟩
def FeatChoose_11_T : Tm := ⟨[], [(10, .w (.at (.int .i64))), (1, .w (.at (.str))), (8, .w (.at (.str))), (9, .w (.at (.bool))), (2, .w (.at (.str)))]⟩
def FeatChoose_11_X0 : Tm := ⟨[], [(8, .w (.at (.str))), (9, .w (.at (.bool)))]⟩
def FeatChoose_11_X : Exits := [(0, (FeatChoose_11_X0, []))]
def FeatChoose_11_R : Tm := ⟨[], [(6, .w (.at (.bool)))]⟩

def FeatChoose_Λd (L14 : ({β : Type} → (Nat → List Leaf → Option β) → (List Leaf → Option β) → Nat → Int → ByteArray → ByteArray → Bool → Int → ByteArray → Option β)) (L11 : ({β : Type} → (Nat → List Leaf → Option β) → (List Leaf → Option β) → Nat → Int → ByteArray → ByteArray → Bool → ByteArray → Option β)) : Loops := ⟨fun b fr H kx kr => bif Nat.beq (rid b) 14 then loopE 0 FeatChoose_14_T [] FeatChoose_14_X FeatChoose_14_R (FeatChoose_14_F @L14 top) fr H kx kr else bif Nat.beq (rid b) 11 then loopE 0 FeatChoose_11_T [] FeatChoose_11_X FeatChoose_11_R (FeatChoose_11_F @L11 top) fr H kx kr else none⟩
def FeatChoose_Λ : Loops := FeatChoose_Λd @FeatChoose_14_L @FeatChoose_11_L
theorem FeatChoose_14_e (L14 : ({β : Type} → (Nat → List Leaf → Option β) → (List Leaf → Option β) → Nat → Int → ByteArray → ByteArray → Bool → Int → ByteArray → Option β)) (L11 : ({β : Type} → (Nat → List Leaf → Option β) → (List Leaf → Option β) → Nat → Int → ByteArray → ByteArray → Bool → ByteArray → Option β)) {α : Type} (kx : Nat → List Leaf → Option α) (kr : List Leaf → Option α) (again : Int → ByteArray → ByteArray → Bool → Int → ByteArray → Option α) (i : Int) (a : ByteArray) (x : ByteArray) (ok : Bool) (k : Int) (b : ByteArray) : FeatChoose_14_B  kx kr again i a x ok k b = loopB G40 (FeatChoose_Λd @L14 @L11) false tab Go.Proofs.Tryz.f3.ntmps 0 FeatChoose_14_T [] FeatChoose_14_X FeatChoose_14_R (bodyAt (fb Go.Proofs.Tryz.f3) 1) (fun ls => un_i ls fun i rr => un_s rr fun a rr => un_s rr fun x rr => un_b rr fun ok rr => un_i rr fun k rr => un_s rr fun b rr => un_nil rr (again i a x ok k b)) kx kr (instFr FeatChoose_14_T [.i i, .s a, .s x, .b ok, .i k, .s b]) (instH FeatChoose_14_T [.i i, .s a, .s x, .b ok, .i k, .s b]) := by kernel_rfl
theorem FeatChoose_11_e (L14 : ({β : Type} → (Nat → List Leaf → Option β) → (List Leaf → Option β) → Nat → Int → ByteArray → ByteArray → Bool → Int → ByteArray → Option β)) (L11 : ({β : Type} → (Nat → List Leaf → Option β) → (List Leaf → Option β) → Nat → Int → ByteArray → ByteArray → Bool → ByteArray → Option β)) {α : Type} (kx : Nat → List Leaf → Option α) (kr : List Leaf → Option α) (again : Int → ByteArray → ByteArray → Bool → ByteArray → Option α) (i : Int) (a : ByteArray) (x : ByteArray) (ok : Bool) (b : ByteArray) : FeatChoose_11_B @L14 kx kr again i a x ok b = loopB G40 (FeatChoose_Λd @L14 @L11) false tab Go.Proofs.Tryz.f3.ntmps 0 FeatChoose_11_T [] FeatChoose_11_X FeatChoose_11_R (bodyAt (fb Go.Proofs.Tryz.f3) 0) (fun ls => un_i ls fun i rr => un_s rr fun a rr => un_s rr fun x rr => un_b rr fun ok rr => un_s rr fun b rr => un_nil rr (again i a x ok b)) kx kr (instFr FeatChoose_11_T [.i i, .s a, .s x, .b ok, .s b]) (instH FeatChoose_11_T [.i i, .s a, .s x, .b ok, .s b]) := by kernel_rfl
theorem FeatChoose_14_lok (E : Nat → Prop) (w0 ws : World) (ρ0 : List Pl) (hk : ρ0.length = 0) : LOk Go.Proofs.Tryz.prog 3 Go.Proofs.Tryz.f3 false E w0 ws Go.Proofs.Tryz.f3.ntmps ρ0 FeatChoose_Λ (bodyAt (fb Go.Proofs.Tryz.f3) 1) := by
  refine lok mixed tab_ok g40 Go.Proofs.Tryz.func3 hk (T := FeatChoose_14_T) (rt := FeatChoose_14_R) (cuts := []) (ex := FeatChoose_14_X) (top := top) (F := FeatChoose_14_F @FeatChoose_14_L) (fun fr H kx kr => by kernel_rfl) ?_ ?_ ?_
  · intro α ls' kx' kr' r' h'
    unfold FeatChoose_14_F at h'
    obtain ⟨i, l'1, rfl, h'1⟩ := un_i_some.1 h'
    obtain ⟨a, l'2, rfl, h'2⟩ := un_s_some.1 h'1
    obtain ⟨x, l'3, rfl, h'3⟩ := un_s_some.1 h'2
    obtain ⟨ok, l'4, rfl, h'4⟩ := un_b_some.1 h'3
    obtain ⟨k, l'5, rfl, h'5⟩ := un_i_some.1 h'4
    obtain ⟨b, l'6, rfl, h'6⟩ := un_s_some.1 h'5
    obtain ⟨rfl, h'Z⟩ := un_nil_some.1 h'6
    cases h'Z
  · intro α n' ls' kx' kr' r' h'
    unfold FeatChoose_14_F at h'
    obtain ⟨i, l'1, rfl, h'1⟩ := un_i_some.1 h'
    obtain ⟨a, l'2, rfl, h'2⟩ := un_s_some.1 h'1
    obtain ⟨x, l'3, rfl, h'3⟩ := un_s_some.1 h'2
    obtain ⟨ok, l'4, rfl, h'4⟩ := un_b_some.1 h'3
    obtain ⟨k, l'5, rfl, h'5⟩ := un_i_some.1 h'4
    obtain ⟨b, l'6, rfl, h'6⟩ := un_s_some.1 h'5
    obtain ⟨rfl, h'Z⟩ := un_nil_some.1 h'6
    exact (FeatChoose_14_e @FeatChoose_14_L @FeatChoose_11_L kx' kr' (FeatChoose_14_L kx' kr' n') i a x ok k b).symm.trans h'Z
  · intro b' hb
    rw [show loopsOf (bodyAt (fb Go.Proofs.Tryz.f3) 1) = [] by kernel_rfl] at hb
    cases hb
theorem FeatChoose_11_lok (E : Nat → Prop) (w0 ws : World) (ρ0 : List Pl) (hk : ρ0.length = 0) : LOk Go.Proofs.Tryz.prog 3 Go.Proofs.Tryz.f3 false E w0 ws Go.Proofs.Tryz.f3.ntmps ρ0 FeatChoose_Λ (bodyAt (fb Go.Proofs.Tryz.f3) 0) := by
  refine lok mixed tab_ok g40 Go.Proofs.Tryz.func3 hk (T := FeatChoose_11_T) (rt := FeatChoose_11_R) (cuts := []) (ex := FeatChoose_11_X) (top := top) (F := FeatChoose_11_F @FeatChoose_11_L) (fun fr H kx kr => by kernel_rfl) ?_ ?_ ?_
  · intro α ls' kx' kr' r' h'
    unfold FeatChoose_11_F at h'
    obtain ⟨i, l'1, rfl, h'1⟩ := un_i_some.1 h'
    obtain ⟨a, l'2, rfl, h'2⟩ := un_s_some.1 h'1
    obtain ⟨x, l'3, rfl, h'3⟩ := un_s_some.1 h'2
    obtain ⟨ok, l'4, rfl, h'4⟩ := un_b_some.1 h'3
    obtain ⟨b, l'5, rfl, h'5⟩ := un_s_some.1 h'4
    obtain ⟨rfl, h'Z⟩ := un_nil_some.1 h'5
    cases h'Z
  · intro α n' ls' kx' kr' r' h'
    unfold FeatChoose_11_F at h'
    obtain ⟨i, l'1, rfl, h'1⟩ := un_i_some.1 h'
    obtain ⟨a, l'2, rfl, h'2⟩ := un_s_some.1 h'1
    obtain ⟨x, l'3, rfl, h'3⟩ := un_s_some.1 h'2
    obtain ⟨ok, l'4, rfl, h'4⟩ := un_b_some.1 h'3
    obtain ⟨b, l'5, rfl, h'5⟩ := un_s_some.1 h'4
    obtain ⟨rfl, h'Z⟩ := un_nil_some.1 h'5
    exact (FeatChoose_11_e @FeatChoose_14_L @FeatChoose_11_L kx' kr' (FeatChoose_11_L kx' kr' n') i a x ok b).symm.trans h'Z
  · intro b' hb
    rw [show loopsOf (bodyAt (fb Go.Proofs.Tryz.f3) 0) = [(bodyAt (fb Go.Proofs.Tryz.f3) 1)] by kernel_rfl] at hb
    simp only [List.mem_cons, List.mem_nil_iff, or_false] at hb
    rcases hb with rfl
    · exact FeatChoose_14_lok E w0 ws ρ0 hk
theorem FeatChoose_ed (L14 : ({β : Type} → (Nat → List Leaf → Option β) → (List Leaf → Option β) → Nat → Int → ByteArray → ByteArray → Bool → Int → ByteArray → Option β)) (L11 : ({β : Type} → (Nat → List Leaf → Option β) → (List Leaf → Option β) → Nat → Int → ByteArray → ByteArray → Bool → ByteArray → Option β)) (f : Int) (a : ByteArray) (b : ByteArray) : FeatChoose_d @L11 f a b = den G40 (FeatChoose_Λd @L14 @L11) false tab Go.Proofs.Tryz.f3.ntmps (fun fr H => finish tab 0 Go.Proofs.Tryz.f3.results.toList FeatChoose_out [] fr H some) (fun _ _ _ => none) (fun fr H => finish tab 0 Go.Proofs.Tryz.f3.results.toList FeatChoose_out [] fr H some) 10000 [.code (fb Go.Proofs.Tryz.f3)] (instFr FeatChoose_in [.i f, .s a, .s b]) (instH FeatChoose_in [.i f, .s a, .s b]) := by kernel_rfl
theorem FeatChoose_e (f : Int) (a : ByteArray) (b : ByteArray) : FeatChoose f a b = den G40 FeatChoose_Λ false tab Go.Proofs.Tryz.f3.ntmps (fun fr H => finish tab 0 Go.Proofs.Tryz.f3.results.toList FeatChoose_out [] fr H some) (fun _ _ _ => none) (fun fr H => finish tab 0 Go.Proofs.Tryz.f3.results.toList FeatChoose_out [] fr H some) 10000 [.code (fb Go.Proofs.Tryz.f3)] (instFr FeatChoose_in [.i f, .s a, .s b]) (instH FeatChoose_in [.i f, .s a, .s b]) := FeatChoose_ed @FeatChoose_14_L @FeatChoose_11_L f a b
def FeatChoose_S : List Leaf → Option (List Leaf) := fun ls => un_i ls fun f rr => un_s rr fun a rr => un_s rr fun b rr => un_nil rr (FeatChoose f a b)
def FeatChoose_SC : Tld := fun ls k' => un_i ls fun f rr => un_s rr fun a rr => un_s rr fun b rr => un_nil rr (out (FeatChoose f a b) k')
theorem FeatChoose_Se (f : Int) (a : ByteArray) (b : ByteArray) : FeatChoose_S [.i f, .s a, .s b] = FeatChoose f a b := by
  unfold FeatChoose_S
  simp only [un_i_ev, un_b_ev, un_s_ev, un_li_ev, un_lb_ev, un_ls_ev, un_nil_ev]
theorem FeatChoose_says : Says FeatChoose_SC FeatChoose_S := by
  intro β ls' k' r' h'
  unfold FeatChoose_SC at h'
  obtain ⟨f, l'1, rfl, h'1⟩ := un_i_some.1 h'
  obtain ⟨a, l'2, rfl, h'2⟩ := un_s_some.1 h'1
  obtain ⟨b, l'3, rfl, h'3⟩ := un_s_some.1 h'2
  obtain ⟨rfl, h'Z⟩ := un_nil_some.1 h'3
  obtain ⟨l', a', b'⟩ := out_some.1 h'Z
  exact ⟨l', (FeatChoose_Se f a b).trans a', b'⟩
theorem FeatChoose_c : FnC Go.Proofs.Tryz.prog 3 false 3 0 FeatChoose_in FeatChoose_out FeatChoose_S := by
  refine fn_ok (Λ := FeatChoose_Λ) mixed tab_ok g40 Go.Proofs.Tryz.func3 (by kernel_rfl) (body := fb Go.Proofs.Tryz.f3) rfl (ts := Go.Proofs.Tryz.f3.results.toList) rfl (cuts := []) (by kernel_rfl) (Nat.le_of_ble_eq_true (by kernel_rfl)) (by kernel_rfl) (rt := .w (.at (.bool))) rfl ?_ ?_
  · intro ls' r' h'
    unfold FeatChoose_S at h'
    obtain ⟨f, l'1, rfl, h'1⟩ := un_i_some.1 h'
    obtain ⟨a, l'2, rfl, h'2⟩ := un_s_some.1 h'1
    obtain ⟨b, l'3, rfl, h'3⟩ := un_s_some.1 h'2
    obtain ⟨rfl, h'Z⟩ := un_nil_some.1 h'3
    exact (FeatChoose_e f a b).symm.trans h'Z
  · intro E w0 ws ρ0 hk b hb
    rw [show loopsOf (fb Go.Proofs.Tryz.f3) = [(bodyAt (fb Go.Proofs.Tryz.f3) 0), (bodyAt (fb Go.Proofs.Tryz.f3) 1)] by kernel_rfl] at hb
    simp only [List.mem_cons, List.mem_nil_iff, or_false] at hb
    rcases hb with rfl | rfl
    · exact FeatChoose_11_lok E w0 ws ρ0 hk
    · exact FeatChoose_14_lok E w0 ws ρ0 hk
noncomputable def G41 : Env := G40.addE 3 3 FeatChoose_in FeatChoose_out FeatChoose_SC
theorem g41 : EnvOk Go.Proofs.Tryz.prog G41 := EnvOk.addE g40 FeatChoose_c FeatChoose_says
end Go.Sx.T

