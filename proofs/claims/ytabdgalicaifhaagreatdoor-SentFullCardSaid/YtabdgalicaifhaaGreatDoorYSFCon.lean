import Derived.Test.YtabdgalicaifhaaGreatDoorYSFSpec
import Derived.Test.YtabdgalicaifhaaGreatDoorYSRCon
set_option linter.all false
namespace Go.Sx.T
open Go Go.Sx Go.Proofs
set_option maxRecDepth 100000

-- ### law_has: function 23
def law_has_in : Tm := ⟨[], [(0, .w (.at (.int .i64)))]⟩
def law_has_out : Tm := ⟨[], [(0, .w (.at (.int .i64)))]⟩

def law_has_Λd : Loops := Loops.none
def law_has_Λ : Loops := law_has_Λd 

theorem law_has_e (n2 : Int) : law_has n2 = den G39 law_has_Λ true tab Go.Proofs.Tryz.f23.ntmps (fun fr H => finish tab 0 Go.Proofs.Tryz.f23.results.toList law_has_out [] fr H some) (fun _ _ _ => none) (fun fr H => finish tab 0 Go.Proofs.Tryz.f23.results.toList law_has_out [] fr H some) 10000 [.code (fb Go.Proofs.Tryz.f23)] (instFr law_has_in [.i n2]) (instH law_has_in [.i n2]) := by kernel_rfl
def law_has_S : List Leaf → Option (List Leaf) := fun ls => un_i ls fun n2 rr => un_nil rr (law_has n2)
def law_has_SC : Tld := fun ls k' => un_i ls fun n2 rr => un_nil rr (out (law_has n2) k')
theorem law_has_Se (n2 : Int) : law_has_S [.i n2] = law_has n2 := by
  unfold law_has_S
  simp only [un_i_ev, un_b_ev, un_s_ev, un_li_ev, un_lb_ev, un_ls_ev, un_nil_ev]
theorem law_has_says : Says law_has_SC law_has_S := by
  intro β ls' k' r' h'
  unfold law_has_SC at h'
  obtain ⟨n2, l'1, rfl, h'1⟩ := un_i_some.1 h'
  obtain ⟨rfl, h'Z⟩ := un_nil_some.1 h'1
  obtain ⟨l', a', b'⟩ := out_some.1 h'Z
  exact ⟨l', (law_has_Se n2).trans a', b'⟩
theorem law_has_c : FnC Go.Proofs.Tryz.prog 23 true 1 0 law_has_in law_has_out law_has_S := by
  refine fn_ok (Λ := law_has_Λ) mixed tab_ok g39 Go.Proofs.Tryz.func23 (by kernel_rfl) (body := fb Go.Proofs.Tryz.f23) rfl (ts := Go.Proofs.Tryz.f23.results.toList) rfl (cuts := []) (by kernel_rfl) (Nat.le_of_ble_eq_true (by kernel_rfl)) (by kernel_rfl) (rt := .w (.at (.int .i64))) rfl ?_ ?_
  · intro ls' r' h'
    unfold law_has_S at h'
    obtain ⟨n2, l'1, rfl, h'1⟩ := un_i_some.1 h'
    obtain ⟨rfl, h'Z⟩ := un_nil_some.1 h'1
    exact (law_has_e n2).symm.trans h'Z
  · intro E w0 ws ρ0 hk b hb
    rw [show loopsOf (fb Go.Proofs.Tryz.f23) = [] by kernel_rfl] at hb
    cases hb
noncomputable def G40 : Env := G39.addP 23 1 law_has_in law_has_out law_has_SC
theorem g40 : EnvOk Go.Proofs.Tryz.prog G40 := EnvOk.addP g39 law_has_c law_has_says

-- ### SentFull: function 3
def SentFull_in : Tm := ⟨[], [(0, .w (.at (.int .u64))), (1, .w (.at (.int .i64)))]⟩
def SentFull_out : Tm := ⟨[], [(0, .w (.at (.bool)))]⟩
def SentFull_7_T : Tm := ⟨[.cells 95 [.all 1 3, .int .u64, .bool], .row 98 3 [.int .u64, .int .i64, .int .i64]], [(7, .w (.at (.int .i64))), (0, .w (.at (.int .u64))), (6, .w (.at (.ptr 0 0))), (1, .w (.at (.int .i64)))]⟩
def SentFull_7_X0 : Tm := ⟨[.cells 95 [.all 1 3, .int .u64, .bool], .row 98 3 [.int .u64, .int .i64, .int .i64]], [(1, .w (.at (.int .i64))), (6, .w (.at (.ptr 0 0))), (0, .w (.at (.int .u64)))]⟩
def SentFull_7_X : Exits := [(0, (SentFull_7_X0, []))]
def SentFull_7_R : Tm := ⟨[], [(4, .w (.at (.bool)))]⟩

def SentFull_Λd (L7 : ({β : Type} → (Nat → List Leaf → Option β) → (List Leaf → Option β) → Nat → List Int → List Int → List Int → Int → Bool → Int → Int → Int → Option β)) : Loops := ⟨fun b fr H kx kr => bif Nat.beq (rid b) 7 then loopE 0 SentFull_7_T [] SentFull_7_X SentFull_7_R (SentFull_7_F @L7 top) fr H kx kr else none⟩
def SentFull_Λ : Loops := SentFull_Λd @SentFull_7_L
theorem SentFull_7_e (L7 : ({β : Type} → (Nat → List Leaf → Option β) → (List Leaf → Option β) → Nat → List Int → List Int → List Int → Int → Bool → Int → Int → Int → Option β)) {α : Type} (kx : Nat → List Leaf → Option α) (kr : List Leaf → Option α) (again : List Int → List Int → List Int → Int → Bool → Int → Int → Int → Option α) (s_l0 : List Int) (s_l1 : List Int) (s_l2 : List Int) (s_last : Int) (s_any : Bool) (i : Int) (first : Int) (n2 : Int) : SentFull_7_B  kx kr again s_l0 s_l1 s_l2 s_last s_any i first n2 = loopB G40 (SentFull_Λd @L7) false tab Go.Proofs.Tryz.f3.ntmps 0 SentFull_7_T [] SentFull_7_X SentFull_7_R (bodyAt (fb Go.Proofs.Tryz.f3) 0) (fun ls => un_li ls fun s_l0 rr => un_li rr fun s_l1 rr => un_li rr fun s_l2 rr => un_i rr fun s_last rr => un_b rr fun s_any rr => un_i rr fun i rr => un_i rr fun first rr => un_i rr fun n2 rr => un_nil rr (again s_l0 s_l1 s_l2 s_last s_any i first n2)) kx kr (instFr SentFull_7_T [.li s_l0, .li s_l1, .li s_l2, .i s_last, .b s_any, .i i, .i first, .i n2]) (instH SentFull_7_T [.li s_l0, .li s_l1, .li s_l2, .i s_last, .b s_any, .i i, .i first, .i n2]) := by kernel_rfl
theorem SentFull_7_lok (E : Nat → Prop) (w0 ws : World) (ρ0 : List Pl) (hk : ρ0.length = 0) : LOk Go.Proofs.Tryz.prog 3 Go.Proofs.Tryz.f3 false E w0 ws Go.Proofs.Tryz.f3.ntmps ρ0 SentFull_Λ (bodyAt (fb Go.Proofs.Tryz.f3) 0) := by
  refine lok mixed tab_ok g40 Go.Proofs.Tryz.func3 hk (T := SentFull_7_T) (rt := SentFull_7_R) (cuts := []) (ex := SentFull_7_X) (top := top) (F := SentFull_7_F @SentFull_7_L) (fun fr H kx kr => by kernel_rfl) ?_ ?_ ?_
  · intro α ls' kx' kr' r' h'
    unfold SentFull_7_F at h'
    obtain ⟨s_l0, l'1, rfl, h'1⟩ := un_li_some.1 h'
    obtain ⟨s_l1, l'2, rfl, h'2⟩ := un_li_some.1 h'1
    obtain ⟨s_l2, l'3, rfl, h'3⟩ := un_li_some.1 h'2
    obtain ⟨s_last, l'4, rfl, h'4⟩ := un_i_some.1 h'3
    obtain ⟨s_any, l'5, rfl, h'5⟩ := un_b_some.1 h'4
    obtain ⟨i, l'6, rfl, h'6⟩ := un_i_some.1 h'5
    obtain ⟨first, l'7, rfl, h'7⟩ := un_i_some.1 h'6
    obtain ⟨n2, l'8, rfl, h'8⟩ := un_i_some.1 h'7
    obtain ⟨rfl, h'Z⟩ := un_nil_some.1 h'8
    cases h'Z
  · intro α n' ls' kx' kr' r' h'
    unfold SentFull_7_F at h'
    obtain ⟨s_l0, l'1, rfl, h'1⟩ := un_li_some.1 h'
    obtain ⟨s_l1, l'2, rfl, h'2⟩ := un_li_some.1 h'1
    obtain ⟨s_l2, l'3, rfl, h'3⟩ := un_li_some.1 h'2
    obtain ⟨s_last, l'4, rfl, h'4⟩ := un_i_some.1 h'3
    obtain ⟨s_any, l'5, rfl, h'5⟩ := un_b_some.1 h'4
    obtain ⟨i, l'6, rfl, h'6⟩ := un_i_some.1 h'5
    obtain ⟨first, l'7, rfl, h'7⟩ := un_i_some.1 h'6
    obtain ⟨n2, l'8, rfl, h'8⟩ := un_i_some.1 h'7
    obtain ⟨rfl, h'Z⟩ := un_nil_some.1 h'8
    exact (SentFull_7_e @SentFull_7_L kx' kr' (SentFull_7_L kx' kr' n') s_l0 s_l1 s_l2 s_last s_any i first n2).symm.trans h'Z
  · intro b' hb
    rw [show loopsOf (bodyAt (fb Go.Proofs.Tryz.f3) 0) = [] by kernel_rfl] at hb
    cases hb
theorem SentFull_ed (L7 : ({β : Type} → (Nat → List Leaf → Option β) → (List Leaf → Option β) → Nat → List Int → List Int → List Int → Int → Bool → Int → Int → Int → Option β)) (first : Int) (n2 : Int) : SentFull_d @L7 first n2 = den G40 (SentFull_Λd @L7) false tab Go.Proofs.Tryz.f3.ntmps (fun fr H => finish tab 0 Go.Proofs.Tryz.f3.results.toList SentFull_out [] fr H some) (fun _ _ _ => none) (fun fr H => finish tab 0 Go.Proofs.Tryz.f3.results.toList SentFull_out [] fr H some) 10000 [.code (fb Go.Proofs.Tryz.f3)] (instFr SentFull_in [.i first, .i n2]) (instH SentFull_in [.i first, .i n2]) := by kernel_rfl
theorem SentFull_e (first : Int) (n2 : Int) : SentFull first n2 = den G40 SentFull_Λ false tab Go.Proofs.Tryz.f3.ntmps (fun fr H => finish tab 0 Go.Proofs.Tryz.f3.results.toList SentFull_out [] fr H some) (fun _ _ _ => none) (fun fr H => finish tab 0 Go.Proofs.Tryz.f3.results.toList SentFull_out [] fr H some) 10000 [.code (fb Go.Proofs.Tryz.f3)] (instFr SentFull_in [.i first, .i n2]) (instH SentFull_in [.i first, .i n2]) := SentFull_ed @SentFull_7_L first n2
def SentFull_S : List Leaf → Option (List Leaf) := fun ls => un_i ls fun first rr => un_i rr fun n2 rr => un_nil rr (SentFull first n2)
def SentFull_SC : Tld := fun ls k' => un_i ls fun first rr => un_i rr fun n2 rr => un_nil rr (out (SentFull first n2) k')
theorem SentFull_Se (first : Int) (n2 : Int) : SentFull_S [.i first, .i n2] = SentFull first n2 := by
  unfold SentFull_S
  simp only [un_i_ev, un_b_ev, un_s_ev, un_li_ev, un_lb_ev, un_ls_ev, un_nil_ev]
theorem SentFull_says : Says SentFull_SC SentFull_S := by
  intro β ls' k' r' h'
  unfold SentFull_SC at h'
  obtain ⟨first, l'1, rfl, h'1⟩ := un_i_some.1 h'
  obtain ⟨n2, l'2, rfl, h'2⟩ := un_i_some.1 h'1
  obtain ⟨rfl, h'Z⟩ := un_nil_some.1 h'2
  obtain ⟨l', a', b'⟩ := out_some.1 h'Z
  exact ⟨l', (SentFull_Se first n2).trans a', b'⟩
theorem SentFull_c : FnC Go.Proofs.Tryz.prog 3 false 2 0 SentFull_in SentFull_out SentFull_S := by
  refine fn_ok (Λ := SentFull_Λ) mixed tab_ok g40 Go.Proofs.Tryz.func3 (by kernel_rfl) (body := fb Go.Proofs.Tryz.f3) rfl (ts := Go.Proofs.Tryz.f3.results.toList) rfl (cuts := []) (by kernel_rfl) (Nat.le_of_ble_eq_true (by kernel_rfl)) (by kernel_rfl) (rt := .w (.at (.bool))) rfl ?_ ?_
  · intro ls' r' h'
    unfold SentFull_S at h'
    obtain ⟨first, l'1, rfl, h'1⟩ := un_i_some.1 h'
    obtain ⟨n2, l'2, rfl, h'2⟩ := un_i_some.1 h'1
    obtain ⟨rfl, h'Z⟩ := un_nil_some.1 h'2
    exact (SentFull_e first n2).symm.trans h'Z
  · intro E w0 ws ρ0 hk b hb
    rw [show loopsOf (fb Go.Proofs.Tryz.f3) = [(bodyAt (fb Go.Proofs.Tryz.f3) 0)] by kernel_rfl] at hb
    simp only [List.mem_cons, List.mem_nil_iff, or_false] at hb
    rcases hb with rfl
    · exact SentFull_7_lok E w0 ws ρ0 hk
noncomputable def G41 : Env := G40.addE 3 2 SentFull_in SentFull_out SentFull_SC
theorem g41 : EnvOk Go.Proofs.Tryz.prog G41 := EnvOk.addE g40 SentFull_c SentFull_says
end Go.Sx.T

