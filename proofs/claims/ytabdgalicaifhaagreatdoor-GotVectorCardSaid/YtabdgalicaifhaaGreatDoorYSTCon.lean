import Derived.Test.YtabdgalicaifhaaGreatDoorYSTSpec
import Derived.Test.YtabdgalicaifhaaGreatDoorYSFCon
set_option linter.all false
namespace Go.Sx.T
open Go Go.Sx Go.Proofs
set_option maxRecDepth 100000

-- ### SentThree: function 5
def SentThree_in : Tm := ⟨[], [(0, .w (.at (.int .i64))), (1, .w (.at (.int .i64))), (2, .w (.at (.int .u64)))]⟩
def SentThree_out : Tm := ⟨[], [(0, .w (.at (.bool)))]⟩
def SentThree_8_T : Tm := ⟨[.cells 95 [.all 1 3, .int .u64, .bool], .row 98 3 [.int .u64, .int .i64, .int .i64]], [(9, .w (.at (.int .i64))), (2, .w (.at (.int .u64))), (8, .w (.at (.ptr 0 0))), (1, .w (.at (.int .i64))), (0, .w (.at (.int .i64)))]⟩
def SentThree_8_X0 : Tm := ⟨[.cells 95 [.all 1 3, .int .u64, .bool], .row 98 3 [.int .u64, .int .i64, .int .i64]], [(1, .w (.at (.int .i64))), (8, .w (.at (.ptr 0 0))), (0, .w (.at (.int .i64))), (2, .w (.at (.int .u64)))]⟩
def SentThree_8_X : Exits := [(0, (SentThree_8_X0, []))]
def SentThree_8_R : Tm := ⟨[], [(6, .w (.at (.bool)))]⟩
def SentThree_14_T : Tm := ⟨[.row 36 2 [.int .i64, .int .i64], .cells 95 [.all 2 3, .int .u64, .bool], .row 98 3 [.int .u64, .int .i64, .int .i64]], [(11, .w (.at (.int .i64))), (10, .w (.at (.all 0 2))), (1, .w (.at (.int .i64))), (8, .w (.at (.ptr 1 0))), (0, .w (.at (.int .i64))), (2, .w (.at (.int .u64)))]⟩
def SentThree_14_X2 : Tm := ⟨[.cells 95 [.all 1 3, .int .u64, .bool], .row 98 3 [.int .u64, .int .i64, .int .i64], .row 36 2 [.int .i64, .int .i64]], [(8, .w (.at (.ptr 0 0))), (10, .w (.at (.all 2 2))), (1, .w (.at (.int .i64))), (0, .w (.at (.int .i64))), (2, .w (.at (.int .u64)))]⟩
def SentThree_14_X : Exits := [(2, (SentThree_14_X2, []))]
def SentThree_14_R : Tm := ⟨[], []⟩

def SentThree_Λd (L8 : ({β : Type} → (Nat → List Leaf → Option β) → (List Leaf → Option β) → Nat → List Int → List Int → List Int → Int → Bool → Int → Int → Int → Int → Option β)) (L14 : ({β : Type} → (Nat → List Leaf → Option β) → (List Leaf → Option β) → Nat → List Int → List Int → List Int → List Int → List Int → Int → Bool → Int → Int → Int → Int → Option β)) : Loops := ⟨fun b fr H kx kr => bif Nat.beq (rid b) 8 then loopE 0 SentThree_8_T [] SentThree_8_X SentThree_8_R (SentThree_8_F @L8 top) fr H kx kr else bif Nat.beq (rid b) 14 then loopE 0 SentThree_14_T [] SentThree_14_X SentThree_14_R (SentThree_14_F @L14 top) fr H kx kr else none⟩
def SentThree_Λ : Loops := SentThree_Λd @SentThree_8_L @SentThree_14_L
theorem SentThree_8_e (L8 : ({β : Type} → (Nat → List Leaf → Option β) → (List Leaf → Option β) → Nat → List Int → List Int → List Int → Int → Bool → Int → Int → Int → Int → Option β)) (L14 : ({β : Type} → (Nat → List Leaf → Option β) → (List Leaf → Option β) → Nat → List Int → List Int → List Int → List Int → List Int → Int → Bool → Int → Int → Int → Int → Option β)) {α : Type} (kx : Nat → List Leaf → Option α) (kr : List Leaf → Option α) (again : List Int → List Int → List Int → Int → Bool → Int → Int → Int → Int → Option α) (s_l0 : List Int) (s_l1 : List Int) (s_l2 : List Int) (s_last : Int) (s_any : Bool) (i : Int) (first : Int) (hole : Int) (n2 : Int) : SentThree_8_B  kx kr again s_l0 s_l1 s_l2 s_last s_any i first hole n2 = loopB G41 (SentThree_Λd @L8 @L14) false tab Go.Proofs.Tryz.f5.ntmps 0 SentThree_8_T [] SentThree_8_X SentThree_8_R (bodyAt (fb Go.Proofs.Tryz.f5) 0) (fun ls => un_li ls fun s_l0 rr => un_li rr fun s_l1 rr => un_li rr fun s_l2 rr => un_i rr fun s_last rr => un_b rr fun s_any rr => un_i rr fun i rr => un_i rr fun first rr => un_i rr fun hole rr => un_i rr fun n2 rr => un_nil rr (again s_l0 s_l1 s_l2 s_last s_any i first hole n2)) kx kr (instFr SentThree_8_T [.li s_l0, .li s_l1, .li s_l2, .i s_last, .b s_any, .i i, .i first, .i hole, .i n2]) (instH SentThree_8_T [.li s_l0, .li s_l1, .li s_l2, .i s_last, .b s_any, .i i, .i first, .i hole, .i n2]) := by kernel_rfl
theorem SentThree_14_e (L8 : ({β : Type} → (Nat → List Leaf → Option β) → (List Leaf → Option β) → Nat → List Int → List Int → List Int → Int → Bool → Int → Int → Int → Int → Option β)) (L14 : ({β : Type} → (Nat → List Leaf → Option β) → (List Leaf → Option β) → Nat → List Int → List Int → List Int → List Int → List Int → Int → Bool → Int → Int → Int → Int → Option β)) {α : Type} (kx : Nat → List Leaf → Option α) (kr : List Leaf → Option α) (again : List Int → List Int → List Int → List Int → List Int → Int → Bool → Int → Int → Int → Int → Option α) (cells0 : List Int) (cells1 : List Int) (s_l0 : List Int) (s_l1 : List Int) (s_l2 : List Int) (s_last : Int) (s_any : Bool) (i : Int) (hole : Int) (n2 : Int) (first : Int) : SentThree_14_B  kx kr again cells0 cells1 s_l0 s_l1 s_l2 s_last s_any i hole n2 first = loopB G41 (SentThree_Λd @L8 @L14) false tab Go.Proofs.Tryz.f5.ntmps 0 SentThree_14_T [] SentThree_14_X SentThree_14_R (bodyAt (fb Go.Proofs.Tryz.f5) 1) (fun ls => un_li ls fun cells0 rr => un_li rr fun cells1 rr => un_li rr fun s_l0 rr => un_li rr fun s_l1 rr => un_li rr fun s_l2 rr => un_i rr fun s_last rr => un_b rr fun s_any rr => un_i rr fun i rr => un_i rr fun hole rr => un_i rr fun n2 rr => un_i rr fun first rr => un_nil rr (again cells0 cells1 s_l0 s_l1 s_l2 s_last s_any i hole n2 first)) kx kr (instFr SentThree_14_T [.li cells0, .li cells1, .li s_l0, .li s_l1, .li s_l2, .i s_last, .b s_any, .i i, .i hole, .i n2, .i first]) (instH SentThree_14_T [.li cells0, .li cells1, .li s_l0, .li s_l1, .li s_l2, .i s_last, .b s_any, .i i, .i hole, .i n2, .i first]) := by kernel_rfl
theorem SentThree_14_lok (E : Nat → Prop) (w0 ws : World) (ρ0 : List Pl) (hk : ρ0.length = 0) : LOk Go.Proofs.Tryz.prog 5 Go.Proofs.Tryz.f5 false E w0 ws Go.Proofs.Tryz.f5.ntmps ρ0 SentThree_Λ (bodyAt (fb Go.Proofs.Tryz.f5) 1) := by
  refine lok mixed tab_ok g41 Go.Proofs.Tryz.func5 hk (T := SentThree_14_T) (rt := SentThree_14_R) (cuts := []) (ex := SentThree_14_X) (top := top) (F := SentThree_14_F @SentThree_14_L) (fun fr H kx kr => by kernel_rfl) ?_ ?_ ?_
  · intro α ls' kx' kr' r' h'
    unfold SentThree_14_F at h'
    obtain ⟨cells0, l'1, rfl, h'1⟩ := un_li_some.1 h'
    obtain ⟨cells1, l'2, rfl, h'2⟩ := un_li_some.1 h'1
    obtain ⟨s_l0, l'3, rfl, h'3⟩ := un_li_some.1 h'2
    obtain ⟨s_l1, l'4, rfl, h'4⟩ := un_li_some.1 h'3
    obtain ⟨s_l2, l'5, rfl, h'5⟩ := un_li_some.1 h'4
    obtain ⟨s_last, l'6, rfl, h'6⟩ := un_i_some.1 h'5
    obtain ⟨s_any, l'7, rfl, h'7⟩ := un_b_some.1 h'6
    obtain ⟨i, l'8, rfl, h'8⟩ := un_i_some.1 h'7
    obtain ⟨hole, l'9, rfl, h'9⟩ := un_i_some.1 h'8
    obtain ⟨n2, l'10, rfl, h'10⟩ := un_i_some.1 h'9
    obtain ⟨first, l'11, rfl, h'11⟩ := un_i_some.1 h'10
    obtain ⟨rfl, h'Z⟩ := un_nil_some.1 h'11
    cases h'Z
  · intro α n' ls' kx' kr' r' h'
    unfold SentThree_14_F at h'
    obtain ⟨cells0, l'1, rfl, h'1⟩ := un_li_some.1 h'
    obtain ⟨cells1, l'2, rfl, h'2⟩ := un_li_some.1 h'1
    obtain ⟨s_l0, l'3, rfl, h'3⟩ := un_li_some.1 h'2
    obtain ⟨s_l1, l'4, rfl, h'4⟩ := un_li_some.1 h'3
    obtain ⟨s_l2, l'5, rfl, h'5⟩ := un_li_some.1 h'4
    obtain ⟨s_last, l'6, rfl, h'6⟩ := un_i_some.1 h'5
    obtain ⟨s_any, l'7, rfl, h'7⟩ := un_b_some.1 h'6
    obtain ⟨i, l'8, rfl, h'8⟩ := un_i_some.1 h'7
    obtain ⟨hole, l'9, rfl, h'9⟩ := un_i_some.1 h'8
    obtain ⟨n2, l'10, rfl, h'10⟩ := un_i_some.1 h'9
    obtain ⟨first, l'11, rfl, h'11⟩ := un_i_some.1 h'10
    obtain ⟨rfl, h'Z⟩ := un_nil_some.1 h'11
    exact (SentThree_14_e @SentThree_8_L @SentThree_14_L kx' kr' (SentThree_14_L kx' kr' n') cells0 cells1 s_l0 s_l1 s_l2 s_last s_any i hole n2 first).symm.trans h'Z
  · intro b' hb
    rw [show loopsOf (bodyAt (fb Go.Proofs.Tryz.f5) 1) = [] by kernel_rfl] at hb
    cases hb
theorem SentThree_8_lok (E : Nat → Prop) (w0 ws : World) (ρ0 : List Pl) (hk : ρ0.length = 0) : LOk Go.Proofs.Tryz.prog 5 Go.Proofs.Tryz.f5 false E w0 ws Go.Proofs.Tryz.f5.ntmps ρ0 SentThree_Λ (bodyAt (fb Go.Proofs.Tryz.f5) 0) := by
  refine lok mixed tab_ok g41 Go.Proofs.Tryz.func5 hk (T := SentThree_8_T) (rt := SentThree_8_R) (cuts := []) (ex := SentThree_8_X) (top := top) (F := SentThree_8_F @SentThree_8_L) (fun fr H kx kr => by kernel_rfl) ?_ ?_ ?_
  · intro α ls' kx' kr' r' h'
    unfold SentThree_8_F at h'
    obtain ⟨s_l0, l'1, rfl, h'1⟩ := un_li_some.1 h'
    obtain ⟨s_l1, l'2, rfl, h'2⟩ := un_li_some.1 h'1
    obtain ⟨s_l2, l'3, rfl, h'3⟩ := un_li_some.1 h'2
    obtain ⟨s_last, l'4, rfl, h'4⟩ := un_i_some.1 h'3
    obtain ⟨s_any, l'5, rfl, h'5⟩ := un_b_some.1 h'4
    obtain ⟨i, l'6, rfl, h'6⟩ := un_i_some.1 h'5
    obtain ⟨first, l'7, rfl, h'7⟩ := un_i_some.1 h'6
    obtain ⟨hole, l'8, rfl, h'8⟩ := un_i_some.1 h'7
    obtain ⟨n2, l'9, rfl, h'9⟩ := un_i_some.1 h'8
    obtain ⟨rfl, h'Z⟩ := un_nil_some.1 h'9
    cases h'Z
  · intro α n' ls' kx' kr' r' h'
    unfold SentThree_8_F at h'
    obtain ⟨s_l0, l'1, rfl, h'1⟩ := un_li_some.1 h'
    obtain ⟨s_l1, l'2, rfl, h'2⟩ := un_li_some.1 h'1
    obtain ⟨s_l2, l'3, rfl, h'3⟩ := un_li_some.1 h'2
    obtain ⟨s_last, l'4, rfl, h'4⟩ := un_i_some.1 h'3
    obtain ⟨s_any, l'5, rfl, h'5⟩ := un_b_some.1 h'4
    obtain ⟨i, l'6, rfl, h'6⟩ := un_i_some.1 h'5
    obtain ⟨first, l'7, rfl, h'7⟩ := un_i_some.1 h'6
    obtain ⟨hole, l'8, rfl, h'8⟩ := un_i_some.1 h'7
    obtain ⟨n2, l'9, rfl, h'9⟩ := un_i_some.1 h'8
    obtain ⟨rfl, h'Z⟩ := un_nil_some.1 h'9
    exact (SentThree_8_e @SentThree_8_L @SentThree_14_L kx' kr' (SentThree_8_L kx' kr' n') s_l0 s_l1 s_l2 s_last s_any i first hole n2).symm.trans h'Z
  · intro b' hb
    rw [show loopsOf (bodyAt (fb Go.Proofs.Tryz.f5) 0) = [] by kernel_rfl] at hb
    cases hb
theorem SentThree_ed (L8 : ({β : Type} → (Nat → List Leaf → Option β) → (List Leaf → Option β) → Nat → List Int → List Int → List Int → Int → Bool → Int → Int → Int → Int → Option β)) (L14 : ({β : Type} → (Nat → List Leaf → Option β) → (List Leaf → Option β) → Nat → List Int → List Int → List Int → List Int → List Int → Int → Bool → Int → Int → Int → Int → Option β)) (n2 : Int) (hole : Int) (first : Int) : SentThree_d @L8 @L14 n2 hole first = den G41 (SentThree_Λd @L8 @L14) false tab Go.Proofs.Tryz.f5.ntmps (fun fr H => finish tab 0 Go.Proofs.Tryz.f5.results.toList SentThree_out [] fr H some) (fun _ _ _ => none) (fun fr H => finish tab 0 Go.Proofs.Tryz.f5.results.toList SentThree_out [] fr H some) 10000 [.code (fb Go.Proofs.Tryz.f5)] (instFr SentThree_in [.i n2, .i hole, .i first]) (instH SentThree_in [.i n2, .i hole, .i first]) := by kernel_rfl
theorem SentThree_e (n2 : Int) (hole : Int) (first : Int) : SentThree n2 hole first = den G41 SentThree_Λ false tab Go.Proofs.Tryz.f5.ntmps (fun fr H => finish tab 0 Go.Proofs.Tryz.f5.results.toList SentThree_out [] fr H some) (fun _ _ _ => none) (fun fr H => finish tab 0 Go.Proofs.Tryz.f5.results.toList SentThree_out [] fr H some) 10000 [.code (fb Go.Proofs.Tryz.f5)] (instFr SentThree_in [.i n2, .i hole, .i first]) (instH SentThree_in [.i n2, .i hole, .i first]) := SentThree_ed @SentThree_8_L @SentThree_14_L n2 hole first
def SentThree_S : List Leaf → Option (List Leaf) := fun ls => un_i ls fun n2 rr => un_i rr fun hole rr => un_i rr fun first rr => un_nil rr (SentThree n2 hole first)
def SentThree_SC : Tld := fun ls k' => un_i ls fun n2 rr => un_i rr fun hole rr => un_i rr fun first rr => un_nil rr (out (SentThree n2 hole first) k')
theorem SentThree_Se (n2 : Int) (hole : Int) (first : Int) : SentThree_S [.i n2, .i hole, .i first] = SentThree n2 hole first := by
  unfold SentThree_S
  simp only [un_i_ev, un_b_ev, un_s_ev, un_li_ev, un_lb_ev, un_ls_ev, un_nil_ev]
theorem SentThree_says : Says SentThree_SC SentThree_S := by
  intro β ls' k' r' h'
  unfold SentThree_SC at h'
  obtain ⟨n2, l'1, rfl, h'1⟩ := un_i_some.1 h'
  obtain ⟨hole, l'2, rfl, h'2⟩ := un_i_some.1 h'1
  obtain ⟨first, l'3, rfl, h'3⟩ := un_i_some.1 h'2
  obtain ⟨rfl, h'Z⟩ := un_nil_some.1 h'3
  obtain ⟨l', a', b'⟩ := out_some.1 h'Z
  exact ⟨l', (SentThree_Se n2 hole first).trans a', b'⟩
theorem SentThree_c : FnC Go.Proofs.Tryz.prog 5 false 3 0 SentThree_in SentThree_out SentThree_S := by
  refine fn_ok (Λ := SentThree_Λ) mixed tab_ok g41 Go.Proofs.Tryz.func5 (by kernel_rfl) (body := fb Go.Proofs.Tryz.f5) rfl (ts := Go.Proofs.Tryz.f5.results.toList) rfl (cuts := []) (by kernel_rfl) (Nat.le_of_ble_eq_true (by kernel_rfl)) (by kernel_rfl) (rt := .w (.at (.bool))) rfl ?_ ?_
  · intro ls' r' h'
    unfold SentThree_S at h'
    obtain ⟨n2, l'1, rfl, h'1⟩ := un_i_some.1 h'
    obtain ⟨hole, l'2, rfl, h'2⟩ := un_i_some.1 h'1
    obtain ⟨first, l'3, rfl, h'3⟩ := un_i_some.1 h'2
    obtain ⟨rfl, h'Z⟩ := un_nil_some.1 h'3
    exact (SentThree_e n2 hole first).symm.trans h'Z
  · intro E w0 ws ρ0 hk b hb
    rw [show loopsOf (fb Go.Proofs.Tryz.f5) = [(bodyAt (fb Go.Proofs.Tryz.f5) 0), (bodyAt (fb Go.Proofs.Tryz.f5) 1)] by kernel_rfl] at hb
    simp only [List.mem_cons, List.mem_nil_iff, or_false] at hb
    rcases hb with rfl | rfl
    · exact SentThree_8_lok E w0 ws ρ0 hk
    · exact SentThree_14_lok E w0 ws ρ0 hk
noncomputable def G42 : Env := G41.addE 5 3 SentThree_in SentThree_out SentThree_SC
theorem g42 : EnvOk Go.Proofs.Tryz.prog G42 := EnvOk.addE g41 SentThree_c SentThree_says
end Go.Sx.T

