import Derived.Test.YthcddikjnpbnjaaGreatDoorYIvalSpec
import Derived.Test.YthcddikjnpbnjaaGreatDoorYFixCon
set_option linter.all false
namespace Go.Sx.T
open Go Go.Sx Go.Proofs
set_option maxRecDepth 100000

-- ### ival_Weight: function 111
def ival_Weight_in : Tm := ⟨[], [(0, .w (.at (.int .i64)))]⟩
def ival_Weight_out : Tm := ⟨[], [(0, .w (.at (.int .u64)))]⟩

def ival_Weight_Λd : Loops := Loops.none
def ival_Weight_Λ : Loops := ival_Weight_Λd 

theorem ival_Weight_e (i : Int) : ival_Weight i = den G24 ival_Weight_Λ false tab Go.Proofs.Tryz.f111.ntmps (fun fr H => finish tab 0 Go.Proofs.Tryz.f111.results.toList ival_Weight_out [] fr H some) (fun _ _ _ => none) (fun fr H => finish tab 0 Go.Proofs.Tryz.f111.results.toList ival_Weight_out [] fr H some) 10000 [.code (fb Go.Proofs.Tryz.f111)] (instFr ival_Weight_in [.i i]) (instH ival_Weight_in [.i i]) := by kernel_rfl
def ival_Weight_S : List Leaf → Option (List Leaf) := fun ls => un_i ls fun i rr => un_nil rr (ival_Weight i)
def ival_Weight_SC : Tld := fun ls k' => un_i ls fun i rr => un_nil rr (out (ival_Weight i) k')
theorem ival_Weight_Se (i : Int) : ival_Weight_S [.i i] = ival_Weight i := by
  unfold ival_Weight_S
  simp only [un_i_ev, un_b_ev, un_s_ev, un_li_ev, un_lb_ev, un_ls_ev, un_nil_ev]
theorem ival_Weight_says : Says ival_Weight_SC ival_Weight_S := by
  intro β ls' k' r' h'
  unfold ival_Weight_SC at h'
  obtain ⟨i, l'1, rfl, h'1⟩ := un_i_some.1 h'
  obtain ⟨rfl, h'Z⟩ := un_nil_some.1 h'1
  obtain ⟨l', a', b'⟩ := out_some.1 h'Z
  exact ⟨l', (ival_Weight_Se i).trans a', b'⟩
theorem ival_Weight_c : FnC Go.Proofs.Tryz.prog 111 false 1 0 ival_Weight_in ival_Weight_out ival_Weight_S := by
  refine fn_ok (Λ := ival_Weight_Λ) mixed tab_ok g24 Go.Proofs.Tryz.func111 (by kernel_rfl) (body := fb Go.Proofs.Tryz.f111) rfl (ts := Go.Proofs.Tryz.f111.results.toList) rfl (cuts := []) (by kernel_rfl) (Nat.le_of_ble_eq_true (by kernel_rfl)) (by kernel_rfl) (rt := .w (.at (.int .u64))) rfl ?_ ?_
  · intro ls' r' h'
    unfold ival_Weight_S at h'
    obtain ⟨i, l'1, rfl, h'1⟩ := un_i_some.1 h'
    obtain ⟨rfl, h'Z⟩ := un_nil_some.1 h'1
    exact (ival_Weight_e i).symm.trans h'Z
  · intro E w0 ws ρ0 hk b hb
    rw [show loopsOf (fb Go.Proofs.Tryz.f111) = [] by kernel_rfl] at hb
    cases hb
noncomputable def G25 : Env := G24.addE 111 1 ival_Weight_in ival_Weight_out ival_Weight_SC
theorem g25 : EnvOk Go.Proofs.Tryz.prog G25 := EnvOk.addE g24 ival_Weight_c ival_Weight_says

-- ### ival_sums: function 92
def ival_sums_in : Tm := ⟨[.ro 22 1 [.int .u64]], [(0, .w (.at (.int .u64))), (1, .w (.at (.all 0 1)))]⟩
def ival_sums_out : Tm := ⟨[.dead], [(0, .tup [.at (.int .u64), .at (.int .u64)])]⟩
def ival_sums_4_T : Tm := ⟨[.ro 22 1 [.int .u64]], [(20, .w (.at (.int .i64))), (6, .w (.at (.int .u64))), (1, .w (.at (.sl 0 1))), (7, .w (.at (.int .u64))), (4, .w (.at (.int .u64))), (18, .w (.at (.sl 0 1))), (19, .w (.at (.int .i64)))]⟩
def ival_sums_4_X0 : Tm := ⟨[.ro 22 1 [.int .u64]], [(7, .w (.at (.int .u64))), (6, .w (.at (.int .u64))), (4, .w (.at (.int .u64)))]⟩
def ival_sums_4_X : Exits := [(0, (ival_sums_4_X0, []))]
def ival_sums_4_R : Tm := ⟨[], []⟩

def ival_sums_Λd (L4 : ({β : Type} → (Nat → List Leaf → Option β) → (List Leaf → Option β) → Nat → List Int → Int → Int → Int → Int → Int → Int → Int → Int → Int → Option β)) : Loops := ⟨fun b fr H kx kr => bif Nat.beq (rid b) 4 then loopE 1 ival_sums_4_T [] ival_sums_4_X ival_sums_4_R (ival_sums_4_F @L4 top) fr H kx kr else none⟩
def ival_sums_Λ : Loops := ival_sums_Λd @ival_sums_4_L
theorem ival_sums_4_e (L4 : ({β : Type} → (Nat → List Leaf → Option β) → (List Leaf → Option β) → Nat → List Int → Int → Int → Int → Int → Int → Int → Int → Int → Int → Option β)) {α : Type} (kx : Nat → List Leaf → Option α) (kr : List Leaf → Option α) (again : List Int → Int → Int → Int → Int → Int → Int → Int → Int → Int → Option α) (closed : List Int) (t20 : Int) (a : Int) (closed_o : Int) (closed_n : Int) (b : Int) (w : Int) (t18_o : Int) (t18_n : Int) (t19 : Int) : ival_sums_4_B  kx kr again closed t20 a closed_o closed_n b w t18_o t18_n t19 = loopB G25 (ival_sums_Λd @L4) false tab Go.Proofs.Tryz.f92.ntmps 1 ival_sums_4_T [] ival_sums_4_X ival_sums_4_R (bodyAt (fb Go.Proofs.Tryz.f92) 0) (fun ls => un_li ls fun closed rr => un_i rr fun t20 rr => un_i rr fun a rr => un_i rr fun closed_o rr => un_i rr fun closed_n rr => un_i rr fun b rr => un_i rr fun w rr => un_i rr fun t18_o rr => un_i rr fun t18_n rr => un_i rr fun t19 rr => un_nil rr (again closed t20 a closed_o closed_n b w t18_o t18_n t19)) kx kr (instFr ival_sums_4_T [.li closed, .i t20, .i a, .i closed_o, .i closed_n, .i b, .i w, .i t18_o, .i t18_n, .i t19]) (instH ival_sums_4_T [.li closed, .i t20, .i a, .i closed_o, .i closed_n, .i b, .i w, .i t18_o, .i t18_n, .i t19]) := by kernel_rfl
theorem ival_sums_4_lok (E : Nat → Prop) (w0 ws : World) (ρ0 : List Pl) (hk : ρ0.length = 1) : LOk Go.Proofs.Tryz.prog 92 Go.Proofs.Tryz.f92 false E w0 ws Go.Proofs.Tryz.f92.ntmps ρ0 ival_sums_Λ (bodyAt (fb Go.Proofs.Tryz.f92) 0) := by
  refine lok mixed tab_ok g25 Go.Proofs.Tryz.func92 hk (T := ival_sums_4_T) (rt := ival_sums_4_R) (cuts := []) (ex := ival_sums_4_X) (top := top) (F := ival_sums_4_F @ival_sums_4_L) (fun fr H kx kr => by kernel_rfl) ?_ ?_ ?_
  · intro α ls' kx' kr' r' h'
    unfold ival_sums_4_F at h'
    obtain ⟨closed, l'1, rfl, h'1⟩ := un_li_some.1 h'
    obtain ⟨t20, l'2, rfl, h'2⟩ := un_i_some.1 h'1
    obtain ⟨a, l'3, rfl, h'3⟩ := un_i_some.1 h'2
    obtain ⟨closed_o, l'4, rfl, h'4⟩ := un_i_some.1 h'3
    obtain ⟨closed_n, l'5, rfl, h'5⟩ := un_i_some.1 h'4
    obtain ⟨b, l'6, rfl, h'6⟩ := un_i_some.1 h'5
    obtain ⟨w, l'7, rfl, h'7⟩ := un_i_some.1 h'6
    obtain ⟨t18_o, l'8, rfl, h'8⟩ := un_i_some.1 h'7
    obtain ⟨t18_n, l'9, rfl, h'9⟩ := un_i_some.1 h'8
    obtain ⟨t19, l'10, rfl, h'10⟩ := un_i_some.1 h'9
    obtain ⟨rfl, h'Z⟩ := un_nil_some.1 h'10
    cases h'Z
  · intro α n' ls' kx' kr' r' h'
    unfold ival_sums_4_F at h'
    obtain ⟨closed, l'1, rfl, h'1⟩ := un_li_some.1 h'
    obtain ⟨t20, l'2, rfl, h'2⟩ := un_i_some.1 h'1
    obtain ⟨a, l'3, rfl, h'3⟩ := un_i_some.1 h'2
    obtain ⟨closed_o, l'4, rfl, h'4⟩ := un_i_some.1 h'3
    obtain ⟨closed_n, l'5, rfl, h'5⟩ := un_i_some.1 h'4
    obtain ⟨b, l'6, rfl, h'6⟩ := un_i_some.1 h'5
    obtain ⟨w, l'7, rfl, h'7⟩ := un_i_some.1 h'6
    obtain ⟨t18_o, l'8, rfl, h'8⟩ := un_i_some.1 h'7
    obtain ⟨t18_n, l'9, rfl, h'9⟩ := un_i_some.1 h'8
    obtain ⟨t19, l'10, rfl, h'10⟩ := un_i_some.1 h'9
    obtain ⟨rfl, h'Z⟩ := un_nil_some.1 h'10
    exact (ival_sums_4_e @ival_sums_4_L kx' kr' (ival_sums_4_L kx' kr' n') closed t20 a closed_o closed_n b w t18_o t18_n t19).symm.trans h'Z
  · intro b' hb
    rw [show loopsOf (bodyAt (fb Go.Proofs.Tryz.f92) 0) = [] by kernel_rfl] at hb
    cases hb
theorem ival_sums_ed (L4 : ({β : Type} → (Nat → List Leaf → Option β) → (List Leaf → Option β) → Nat → List Int → Int → Int → Int → Int → Int → Int → Int → Int → Int → Option β)) (closed : List Int) (open2 : Int) : ival_sums_d @L4 closed open2 = den G25 (ival_sums_Λd @L4) false tab Go.Proofs.Tryz.f92.ntmps (fun fr H => finish tab 1 Go.Proofs.Tryz.f92.results.toList ival_sums_out [] fr H some) (fun _ _ _ => none) (fun fr H => finish tab 1 Go.Proofs.Tryz.f92.results.toList ival_sums_out [] fr H some) 10000 [.code (fb Go.Proofs.Tryz.f92)] (instFr ival_sums_in [.li closed, .i open2]) (instH ival_sums_in [.li closed, .i open2]) := by kernel_rfl
theorem ival_sums_e (closed : List Int) (open2 : Int) : ival_sums closed open2 = den G25 ival_sums_Λ false tab Go.Proofs.Tryz.f92.ntmps (fun fr H => finish tab 1 Go.Proofs.Tryz.f92.results.toList ival_sums_out [] fr H some) (fun _ _ _ => none) (fun fr H => finish tab 1 Go.Proofs.Tryz.f92.results.toList ival_sums_out [] fr H some) 10000 [.code (fb Go.Proofs.Tryz.f92)] (instFr ival_sums_in [.li closed, .i open2]) (instH ival_sums_in [.li closed, .i open2]) := ival_sums_ed @ival_sums_4_L closed open2
def ival_sums_S : List Leaf → Option (List Leaf) := fun ls => un_li ls fun closed rr => un_i rr fun open2 rr => un_nil rr (ival_sums closed open2)
def ival_sums_SC : Tld := fun ls k' => un_li ls fun closed rr => un_i rr fun open2 rr => un_nil rr (out (ival_sums closed open2) k')
theorem ival_sums_Se (closed : List Int) (open2 : Int) : ival_sums_S [.li closed, .i open2] = ival_sums closed open2 := by
  unfold ival_sums_S
  simp only [un_i_ev, un_b_ev, un_s_ev, un_li_ev, un_lb_ev, un_ls_ev, un_nil_ev]
theorem ival_sums_says : Says ival_sums_SC ival_sums_S := by
  intro β ls' k' r' h'
  unfold ival_sums_SC at h'
  obtain ⟨closed, l'1, rfl, h'1⟩ := un_li_some.1 h'
  obtain ⟨open2, l'2, rfl, h'2⟩ := un_i_some.1 h'1
  obtain ⟨rfl, h'Z⟩ := un_nil_some.1 h'2
  obtain ⟨l', a', b'⟩ := out_some.1 h'Z
  exact ⟨l', (ival_sums_Se closed open2).trans a', b'⟩
theorem ival_sums_c : FnC Go.Proofs.Tryz.prog 92 false 2 1 ival_sums_in ival_sums_out ival_sums_S := by
  refine fn_ok (Λ := ival_sums_Λ) mixed tab_ok g25 Go.Proofs.Tryz.func92 (by kernel_rfl) (body := fb Go.Proofs.Tryz.f92) rfl (ts := Go.Proofs.Tryz.f92.results.toList) rfl (cuts := []) (by kernel_rfl) (Nat.le_of_ble_eq_true (by kernel_rfl)) (by kernel_rfl) (rt := .tup [.at (.int .u64), .at (.int .u64)]) rfl ?_ ?_
  · intro ls' r' h'
    unfold ival_sums_S at h'
    obtain ⟨closed, l'1, rfl, h'1⟩ := un_li_some.1 h'
    obtain ⟨open2, l'2, rfl, h'2⟩ := un_i_some.1 h'1
    obtain ⟨rfl, h'Z⟩ := un_nil_some.1 h'2
    exact (ival_sums_e closed open2).symm.trans h'Z
  · intro E w0 ws ρ0 hk b hb
    rw [show loopsOf (fb Go.Proofs.Tryz.f92) = [(bodyAt (fb Go.Proofs.Tryz.f92) 0)] by kernel_rfl] at hb
    simp only [List.mem_cons, List.mem_nil_iff, or_false] at hb
    rcases hb with rfl
    · exact ival_sums_4_lok E w0 ws ρ0 hk
noncomputable def G26 : Env := G25.addE 92 2 ival_sums_in ival_sums_out ival_sums_SC
theorem g26 : EnvOk Go.Proofs.Tryz.prog G26 := EnvOk.addE g25 ival_sums_c ival_sums_says

-- ### ival_Rate: function 61
def ival_Rate_in : Tm := ⟨[.ro 22 1 [.int .u64]], [(0, .w (.at (.int .u64))), (1, .w (.at (.all 0 1)))]⟩
def ival_Rate_out : Tm := ⟨[.dead], [(0, .w (.at (.int .u64)))]⟩

def ival_Rate_Λd : Loops := Loops.none
def ival_Rate_Λ : Loops := ival_Rate_Λd 

theorem ival_Rate_e (closed : List Int) (open2 : Int) : ival_Rate closed open2 = den G26 ival_Rate_Λ false tab Go.Proofs.Tryz.f61.ntmps (fun fr H => finish tab 1 Go.Proofs.Tryz.f61.results.toList ival_Rate_out [] fr H some) (fun _ _ _ => none) (fun fr H => finish tab 1 Go.Proofs.Tryz.f61.results.toList ival_Rate_out [] fr H some) 10000 [.code (fb Go.Proofs.Tryz.f61)] (instFr ival_Rate_in [.li closed, .i open2]) (instH ival_Rate_in [.li closed, .i open2]) := by kernel_rfl
def ival_Rate_S : List Leaf → Option (List Leaf) := fun ls => un_li ls fun closed rr => un_i rr fun open2 rr => un_nil rr (ival_Rate closed open2)
def ival_Rate_SC : Tld := fun ls k' => un_li ls fun closed rr => un_i rr fun open2 rr => un_nil rr (out (ival_Rate closed open2) k')
theorem ival_Rate_Se (closed : List Int) (open2 : Int) : ival_Rate_S [.li closed, .i open2] = ival_Rate closed open2 := by
  unfold ival_Rate_S
  simp only [un_i_ev, un_b_ev, un_s_ev, un_li_ev, un_lb_ev, un_ls_ev, un_nil_ev]
theorem ival_Rate_says : Says ival_Rate_SC ival_Rate_S := by
  intro β ls' k' r' h'
  unfold ival_Rate_SC at h'
  obtain ⟨closed, l'1, rfl, h'1⟩ := un_li_some.1 h'
  obtain ⟨open2, l'2, rfl, h'2⟩ := un_i_some.1 h'1
  obtain ⟨rfl, h'Z⟩ := un_nil_some.1 h'2
  obtain ⟨l', a', b'⟩ := out_some.1 h'Z
  exact ⟨l', (ival_Rate_Se closed open2).trans a', b'⟩
theorem ival_Rate_c : FnC Go.Proofs.Tryz.prog 61 false 2 1 ival_Rate_in ival_Rate_out ival_Rate_S := by
  refine fn_ok (Λ := ival_Rate_Λ) mixed tab_ok g26 Go.Proofs.Tryz.func61 (by kernel_rfl) (body := fb Go.Proofs.Tryz.f61) rfl (ts := Go.Proofs.Tryz.f61.results.toList) rfl (cuts := []) (by kernel_rfl) (Nat.le_of_ble_eq_true (by kernel_rfl)) (by kernel_rfl) (rt := .w (.at (.int .u64))) rfl ?_ ?_
  · intro ls' r' h'
    unfold ival_Rate_S at h'
    obtain ⟨closed, l'1, rfl, h'1⟩ := un_li_some.1 h'
    obtain ⟨open2, l'2, rfl, h'2⟩ := un_i_some.1 h'1
    obtain ⟨rfl, h'Z⟩ := un_nil_some.1 h'2
    exact (ival_Rate_e closed open2).symm.trans h'Z
  · intro E w0 ws ρ0 hk b hb
    rw [show loopsOf (fb Go.Proofs.Tryz.f61) = [] by kernel_rfl] at hb
    cases hb
noncomputable def G27 : Env := G26.addE 61 2 ival_Rate_in ival_Rate_out ival_Rate_SC
theorem g27 : EnvOk Go.Proofs.Tryz.prog G27 := EnvOk.addE g26 ival_Rate_c ival_Rate_says
end Go.Sx.T

