import Derived.Test.YtngjglbakgdgaaaGreatDoorYnSetSpec
import Derived.Test.YtngjglbakgdgaaaGreatDoorYnRttCon
set_option linter.all false
namespace Go.Sx.T
open Go Go.Sx Go.Proofs
set_option maxRecDepth 100000

-- ### rset_New: function 92
def rset_New_in : Tm := ⟨[], []⟩
def rset_New_out : Tm := ⟨[.cells 181 [.all 1 2], .row 178 2 [.int .i64, .int .u64]], [(0, .w (.at (.ptr 0 0)))]⟩

def rset_New_Λd : Loops := Loops.none
def rset_New_Λ : Loops := rset_New_Λd 

theorem rset_New_e  : rset_New  = den G32 rset_New_Λ false tab Go.Proofs.Tryz.f92.ntmps (fun fr H => finish tab 0 Go.Proofs.Tryz.f92.results.toList rset_New_out [] fr H some) (fun _ _ _ => none) (fun fr H => finish tab 0 Go.Proofs.Tryz.f92.results.toList rset_New_out [] fr H some) 10000 [.code (fb Go.Proofs.Tryz.f92)] (instFr rset_New_in []) (instH rset_New_in []) := by kernel_rfl
def rset_New_S : List Leaf → Option (List Leaf) := fun ls => un_nil ls (rset_New )
def rset_New_SC : Tld := fun ls k' => un_nil ls (out (rset_New ) k')
theorem rset_New_Se  : rset_New_S [] = rset_New  := by
  unfold rset_New_S
  simp only [un_i_ev, un_b_ev, un_s_ev, un_li_ev, un_lb_ev, un_ls_ev, un_nil_ev]
theorem rset_New_says : Says rset_New_SC rset_New_S := by
  intro β ls' k' r' h'
  unfold rset_New_SC at h'
  obtain ⟨rfl, h'Z⟩ := un_nil_some.1 h'
  obtain ⟨l', a', b'⟩ := out_some.1 h'Z
  exact ⟨l', (rset_New_Se ).trans a', b'⟩
theorem rset_New_c : FnC Go.Proofs.Tryz.prog 92 false 0 0 rset_New_in rset_New_out rset_New_S := by
  refine fn_ok (Λ := rset_New_Λ) mixed tab_ok g32 Go.Proofs.Tryz.func92 (by kernel_rfl) (body := fb Go.Proofs.Tryz.f92) rfl (ts := Go.Proofs.Tryz.f92.results.toList) rfl (cuts := []) (by kernel_rfl) (Nat.le_of_ble_eq_true (by kernel_rfl)) (by kernel_rfl) (rt := .w (.at (.ptr 0 0))) rfl ?_ ?_
  · intro ls' r' h'
    unfold rset_New_S at h'
    obtain ⟨rfl, h'Z⟩ := un_nil_some.1 h'
    exact (rset_New_e ).symm.trans h'Z
  · intro E w0 ws ρ0 hk b hb
    rw [show loopsOf (fb Go.Proofs.Tryz.f92) = [] by kernel_rfl] at hb
    cases hb
noncomputable def G33 : Env := G32.addE 92 0 rset_New_in rset_New_out rset_New_SC
theorem g33 : EnvOk Go.Proofs.Tryz.prog G33 := EnvOk.addE g32 rset_New_c rset_New_says

-- ### rset_Len: function 150
def rset_Len_in : Tm := ⟨[.cells 181 [.all 1 2], .row 178 2 [.int .i64, .int .u64]], [(0, .w (.at (.ptr 0 0)))]⟩
def rset_Len_out : Tm := ⟨[.dead, .dead], [(0, .w (.at (.int .i64)))]⟩

def rset_Len_Λd : Loops := Loops.none
def rset_Len_Λ : Loops := rset_Len_Λd 

theorem rset_Len_e (s_l0 : List Int) (s_l1 : List Int) : rset_Len s_l0 s_l1 = den G33 rset_Len_Λ true tab Go.Proofs.Tryz.f150.ntmps (fun fr H => finish tab 2 Go.Proofs.Tryz.f150.results.toList rset_Len_out [] fr H some) (fun _ _ _ => none) (fun fr H => finish tab 2 Go.Proofs.Tryz.f150.results.toList rset_Len_out [] fr H some) 10000 [.code (fb Go.Proofs.Tryz.f150)] (instFr rset_Len_in [.li s_l0, .li s_l1]) (instH rset_Len_in [.li s_l0, .li s_l1]) := by kernel_rfl
def rset_Len_S : List Leaf → Option (List Leaf) := fun ls => un_li ls fun s_l0 rr => un_li rr fun s_l1 rr => un_nil rr (rset_Len s_l0 s_l1)
def rset_Len_SC : Tld := fun ls k' => un_li ls fun s_l0 rr => un_li rr fun s_l1 rr => un_nil rr (out (rset_Len s_l0 s_l1) k')
theorem rset_Len_Se (s_l0 : List Int) (s_l1 : List Int) : rset_Len_S [.li s_l0, .li s_l1] = rset_Len s_l0 s_l1 := by
  unfold rset_Len_S
  simp only [un_i_ev, un_b_ev, un_s_ev, un_li_ev, un_lb_ev, un_ls_ev, un_nil_ev]
theorem rset_Len_says : Says rset_Len_SC rset_Len_S := by
  intro β ls' k' r' h'
  unfold rset_Len_SC at h'
  obtain ⟨s_l0, l'1, rfl, h'1⟩ := un_li_some.1 h'
  obtain ⟨s_l1, l'2, rfl, h'2⟩ := un_li_some.1 h'1
  obtain ⟨rfl, h'Z⟩ := un_nil_some.1 h'2
  obtain ⟨l', a', b'⟩ := out_some.1 h'Z
  exact ⟨l', (rset_Len_Se s_l0 s_l1).trans a', b'⟩
theorem rset_Len_c : FnC Go.Proofs.Tryz.prog 150 true 1 2 rset_Len_in rset_Len_out rset_Len_S := by
  refine fn_ok (Λ := rset_Len_Λ) mixed tab_ok g33 Go.Proofs.Tryz.func150 (by kernel_rfl) (body := fb Go.Proofs.Tryz.f150) rfl (ts := Go.Proofs.Tryz.f150.results.toList) rfl (cuts := []) (by kernel_rfl) (Nat.le_of_ble_eq_true (by kernel_rfl)) (by kernel_rfl) (rt := .w (.at (.int .i64))) rfl ?_ ?_
  · intro ls' r' h'
    unfold rset_Len_S at h'
    obtain ⟨s_l0, l'1, rfl, h'1⟩ := un_li_some.1 h'
    obtain ⟨s_l1, l'2, rfl, h'2⟩ := un_li_some.1 h'1
    obtain ⟨rfl, h'Z⟩ := un_nil_some.1 h'2
    exact (rset_Len_e s_l0 s_l1).symm.trans h'Z
  · intro E w0 ws ρ0 hk b hb
    rw [show loopsOf (fb Go.Proofs.Tryz.f150) = [] by kernel_rfl] at hb
    cases hb
noncomputable def G34 : Env := G33.addP 150 1 rset_Len_in rset_Len_out rset_Len_SC
theorem g34 : EnvOk Go.Proofs.Tryz.prog G34 := EnvOk.addP g33 rset_Len_c rset_Len_says

-- ### rset_Max: function 123
def rset_Max_in : Tm := ⟨[.cells 181 [.all 1 2], .row 178 2 [.int .i64, .int .u64]], [(0, .w (.at (.ptr 0 0)))]⟩
def rset_Max_out : Tm := ⟨[.dead, .dead], [(0, .w (.at (.int .u64)))]⟩
def rset_Max_3_T : Tm := ⟨[.cells 181 [.all 1 2], .row 178 2 [.int .i64, .int .u64]], [(7, .w (.at (.int .i64))), (0, .w (.at (.ptr 0 0))), (3, .w (.at (.int .u64))), (6, .w (.at (.int .i64)))]⟩
def rset_Max_3_X0 : Tm := ⟨[.cells 181 [.all 1 2], .row 178 2 [.int .i64, .int .u64]], [(3, .w (.at (.int .u64)))]⟩
def rset_Max_3_X : Exits := [(0, (rset_Max_3_X0, []))]
def rset_Max_3_R : Tm := ⟨[], []⟩

def rset_Max_Λd (L3 : ({β : Type} → (Nat → List Leaf → Option β) → (List Leaf → Option β) → Nat → List Int → List Int → Int → Int → Int → Option β)) : Loops := ⟨fun b fr H kx kr => bif Nat.beq (rid b) 3 then loopE 2 rset_Max_3_T [] rset_Max_3_X rset_Max_3_R (rset_Max_3_F @L3 top) fr H kx kr else none⟩
def rset_Max_Λ : Loops := rset_Max_Λd @rset_Max_3_L
theorem rset_Max_3_e (L3 : ({β : Type} → (Nat → List Leaf → Option β) → (List Leaf → Option β) → Nat → List Int → List Int → Int → Int → Int → Option β)) {α : Type} (kx : Nat → List Leaf → Option α) (kr : List Leaf → Option α) (again : List Int → List Int → Int → Int → Int → Option α) (s_l0 : List Int) (s_l1 : List Int) (t7 : Int) (most : Int) (t6 : Int) : rset_Max_3_B  kx kr again s_l0 s_l1 t7 most t6 = loopB G34 (rset_Max_Λd @L3) true tab Go.Proofs.Tryz.f123.ntmps 2 rset_Max_3_T [] rset_Max_3_X rset_Max_3_R (bodyAt (fb Go.Proofs.Tryz.f123) 0) (fun ls => un_li ls fun s_l0 rr => un_li rr fun s_l1 rr => un_i rr fun t7 rr => un_i rr fun most rr => un_i rr fun t6 rr => un_nil rr (again s_l0 s_l1 t7 most t6)) kx kr (instFr rset_Max_3_T [.li s_l0, .li s_l1, .i t7, .i most, .i t6]) (instH rset_Max_3_T [.li s_l0, .li s_l1, .i t7, .i most, .i t6]) := by kernel_rfl
theorem rset_Max_3_lok (E : Nat → Prop) (w0 ws : World) (ρ0 : List Pl) (hk : ρ0.length = 2) : LOk Go.Proofs.Tryz.prog 123 Go.Proofs.Tryz.f123 true E w0 ws Go.Proofs.Tryz.f123.ntmps ρ0 rset_Max_Λ (bodyAt (fb Go.Proofs.Tryz.f123) 0) := by
  refine lok mixed tab_ok g34 Go.Proofs.Tryz.func123 hk (T := rset_Max_3_T) (rt := rset_Max_3_R) (cuts := []) (ex := rset_Max_3_X) (top := top) (F := rset_Max_3_F @rset_Max_3_L) (fun fr H kx kr => by kernel_rfl) ?_ ?_ ?_
  · intro α ls' kx' kr' r' h'
    unfold rset_Max_3_F at h'
    obtain ⟨s_l0, l'1, rfl, h'1⟩ := un_li_some.1 h'
    obtain ⟨s_l1, l'2, rfl, h'2⟩ := un_li_some.1 h'1
    obtain ⟨t7, l'3, rfl, h'3⟩ := un_i_some.1 h'2
    obtain ⟨most, l'4, rfl, h'4⟩ := un_i_some.1 h'3
    obtain ⟨t6, l'5, rfl, h'5⟩ := un_i_some.1 h'4
    obtain ⟨rfl, h'Z⟩ := un_nil_some.1 h'5
    cases h'Z
  · intro α n' ls' kx' kr' r' h'
    unfold rset_Max_3_F at h'
    obtain ⟨s_l0, l'1, rfl, h'1⟩ := un_li_some.1 h'
    obtain ⟨s_l1, l'2, rfl, h'2⟩ := un_li_some.1 h'1
    obtain ⟨t7, l'3, rfl, h'3⟩ := un_i_some.1 h'2
    obtain ⟨most, l'4, rfl, h'4⟩ := un_i_some.1 h'3
    obtain ⟨t6, l'5, rfl, h'5⟩ := un_i_some.1 h'4
    obtain ⟨rfl, h'Z⟩ := un_nil_some.1 h'5
    exact (rset_Max_3_e @rset_Max_3_L kx' kr' (rset_Max_3_L kx' kr' n') s_l0 s_l1 t7 most t6).symm.trans h'Z
  · intro b' hb
    rw [show loopsOf (bodyAt (fb Go.Proofs.Tryz.f123) 0) = [] by kernel_rfl] at hb
    cases hb
theorem rset_Max_ed (L3 : ({β : Type} → (Nat → List Leaf → Option β) → (List Leaf → Option β) → Nat → List Int → List Int → Int → Int → Int → Option β)) (s_l0 : List Int) (s_l1 : List Int) : rset_Max_d @L3 s_l0 s_l1 = den G34 (rset_Max_Λd @L3) true tab Go.Proofs.Tryz.f123.ntmps (fun fr H => finish tab 2 Go.Proofs.Tryz.f123.results.toList rset_Max_out [] fr H some) (fun _ _ _ => none) (fun fr H => finish tab 2 Go.Proofs.Tryz.f123.results.toList rset_Max_out [] fr H some) 10000 [.code (fb Go.Proofs.Tryz.f123)] (instFr rset_Max_in [.li s_l0, .li s_l1]) (instH rset_Max_in [.li s_l0, .li s_l1]) := by kernel_rfl
theorem rset_Max_e (s_l0 : List Int) (s_l1 : List Int) : rset_Max s_l0 s_l1 = den G34 rset_Max_Λ true tab Go.Proofs.Tryz.f123.ntmps (fun fr H => finish tab 2 Go.Proofs.Tryz.f123.results.toList rset_Max_out [] fr H some) (fun _ _ _ => none) (fun fr H => finish tab 2 Go.Proofs.Tryz.f123.results.toList rset_Max_out [] fr H some) 10000 [.code (fb Go.Proofs.Tryz.f123)] (instFr rset_Max_in [.li s_l0, .li s_l1]) (instH rset_Max_in [.li s_l0, .li s_l1]) := rset_Max_ed @rset_Max_3_L s_l0 s_l1
def rset_Max_S : List Leaf → Option (List Leaf) := fun ls => un_li ls fun s_l0 rr => un_li rr fun s_l1 rr => un_nil rr (rset_Max s_l0 s_l1)
def rset_Max_SC : Tld := fun ls k' => un_li ls fun s_l0 rr => un_li rr fun s_l1 rr => un_nil rr (out (rset_Max s_l0 s_l1) k')
theorem rset_Max_Se (s_l0 : List Int) (s_l1 : List Int) : rset_Max_S [.li s_l0, .li s_l1] = rset_Max s_l0 s_l1 := by
  unfold rset_Max_S
  simp only [un_i_ev, un_b_ev, un_s_ev, un_li_ev, un_lb_ev, un_ls_ev, un_nil_ev]
theorem rset_Max_says : Says rset_Max_SC rset_Max_S := by
  intro β ls' k' r' h'
  unfold rset_Max_SC at h'
  obtain ⟨s_l0, l'1, rfl, h'1⟩ := un_li_some.1 h'
  obtain ⟨s_l1, l'2, rfl, h'2⟩ := un_li_some.1 h'1
  obtain ⟨rfl, h'Z⟩ := un_nil_some.1 h'2
  obtain ⟨l', a', b'⟩ := out_some.1 h'Z
  exact ⟨l', (rset_Max_Se s_l0 s_l1).trans a', b'⟩
theorem rset_Max_c : FnC Go.Proofs.Tryz.prog 123 true 1 2 rset_Max_in rset_Max_out rset_Max_S := by
  refine fn_ok (Λ := rset_Max_Λ) mixed tab_ok g34 Go.Proofs.Tryz.func123 (by kernel_rfl) (body := fb Go.Proofs.Tryz.f123) rfl (ts := Go.Proofs.Tryz.f123.results.toList) rfl (cuts := []) (by kernel_rfl) (Nat.le_of_ble_eq_true (by kernel_rfl)) (by kernel_rfl) (rt := .w (.at (.int .u64))) rfl ?_ ?_
  · intro ls' r' h'
    unfold rset_Max_S at h'
    obtain ⟨s_l0, l'1, rfl, h'1⟩ := un_li_some.1 h'
    obtain ⟨s_l1, l'2, rfl, h'2⟩ := un_li_some.1 h'1
    obtain ⟨rfl, h'Z⟩ := un_nil_some.1 h'2
    exact (rset_Max_e s_l0 s_l1).symm.trans h'Z
  · intro E w0 ws ρ0 hk b hb
    rw [show loopsOf (fb Go.Proofs.Tryz.f123) = [(bodyAt (fb Go.Proofs.Tryz.f123) 0)] by kernel_rfl] at hb
    simp only [List.mem_cons, List.mem_nil_iff, or_false] at hb
    rcases hb with rfl
    · exact rset_Max_3_lok E w0 ws ρ0 hk
noncomputable def G35 : Env := G34.addP 123 1 rset_Max_in rset_Max_out rset_Max_SC
theorem g35 : EnvOk Go.Proofs.Tryz.prog G35 := EnvOk.addP g34 rset_Max_c rset_Max_says

-- ### rset_Only: function 168
def rset_Only_in : Tm := ⟨[.cells 181 [.all 1 2], .row 178 2 [.int .i64, .int .u64]], [(0, .w (.at (.ptr 0 0))), (1, .w (.at (.int .u64))), (2, .w (.at (.int .i64)))]⟩
def rset_Only_out : Tm := ⟨[.cells 181 [.all 2 2], .dead, .row 178 2 [.int .i64, .int .u64]], [(0, .tup [])]⟩

def rset_Only_Λd : Loops := Loops.none
def rset_Only_Λ : Loops := rset_Only_Λd 

theorem rset_Only_e (s_l0 : List Int) (s_l1 : List Int) (x : Int) (now : Int) : rset_Only s_l0 s_l1 x now = den G35 rset_Only_Λ false tab Go.Proofs.Tryz.f168.ntmps (fun fr H => finish tab 2 Go.Proofs.Tryz.f168.results.toList rset_Only_out [] fr H some) (fun _ _ _ => none) (fun fr H => finish tab 2 Go.Proofs.Tryz.f168.results.toList rset_Only_out [] fr H some) 10000 [.code (fb Go.Proofs.Tryz.f168)] (instFr rset_Only_in [.li s_l0, .li s_l1, .i x, .i now]) (instH rset_Only_in [.li s_l0, .li s_l1, .i x, .i now]) := by kernel_rfl
def rset_Only_S : List Leaf → Option (List Leaf) := fun ls => un_li ls fun s_l0 rr => un_li rr fun s_l1 rr => un_i rr fun x rr => un_i rr fun now rr => un_nil rr (rset_Only s_l0 s_l1 x now)
def rset_Only_SC : Tld := fun ls k' => un_li ls fun s_l0 rr => un_li rr fun s_l1 rr => un_i rr fun x rr => un_i rr fun now rr => un_nil rr (out (rset_Only s_l0 s_l1 x now) k')
theorem rset_Only_Se (s_l0 : List Int) (s_l1 : List Int) (x : Int) (now : Int) : rset_Only_S [.li s_l0, .li s_l1, .i x, .i now] = rset_Only s_l0 s_l1 x now := by
  unfold rset_Only_S
  simp only [un_i_ev, un_b_ev, un_s_ev, un_li_ev, un_lb_ev, un_ls_ev, un_nil_ev]
theorem rset_Only_says : Says rset_Only_SC rset_Only_S := by
  intro β ls' k' r' h'
  unfold rset_Only_SC at h'
  obtain ⟨s_l0, l'1, rfl, h'1⟩ := un_li_some.1 h'
  obtain ⟨s_l1, l'2, rfl, h'2⟩ := un_li_some.1 h'1
  obtain ⟨x, l'3, rfl, h'3⟩ := un_i_some.1 h'2
  obtain ⟨now, l'4, rfl, h'4⟩ := un_i_some.1 h'3
  obtain ⟨rfl, h'Z⟩ := un_nil_some.1 h'4
  obtain ⟨l', a', b'⟩ := out_some.1 h'Z
  exact ⟨l', (rset_Only_Se s_l0 s_l1 x now).trans a', b'⟩
theorem rset_Only_c : FnC Go.Proofs.Tryz.prog 168 false 3 2 rset_Only_in rset_Only_out rset_Only_S := by
  refine fn_ok (Λ := rset_Only_Λ) mixed tab_ok g35 Go.Proofs.Tryz.func168 (by kernel_rfl) (body := fb Go.Proofs.Tryz.f168) rfl (ts := Go.Proofs.Tryz.f168.results.toList) rfl (cuts := []) (by kernel_rfl) (Nat.le_of_ble_eq_true (by kernel_rfl)) (by kernel_rfl) (rt := .tup []) rfl ?_ ?_
  · intro ls' r' h'
    unfold rset_Only_S at h'
    obtain ⟨s_l0, l'1, rfl, h'1⟩ := un_li_some.1 h'
    obtain ⟨s_l1, l'2, rfl, h'2⟩ := un_li_some.1 h'1
    obtain ⟨x, l'3, rfl, h'3⟩ := un_i_some.1 h'2
    obtain ⟨now, l'4, rfl, h'4⟩ := un_i_some.1 h'3
    obtain ⟨rfl, h'Z⟩ := un_nil_some.1 h'4
    exact (rset_Only_e s_l0 s_l1 x now).symm.trans h'Z
  · intro E w0 ws ρ0 hk b hb
    rw [show loopsOf (fb Go.Proofs.Tryz.f168) = [] by kernel_rfl] at hb
    cases hb
noncomputable def G36 : Env := G35.addE 168 3 rset_Only_in rset_Only_out rset_Only_SC
theorem g36 : EnvOk Go.Proofs.Tryz.prog G36 := EnvOk.addE g35 rset_Only_c rset_Only_says

-- ### rset_Maximize: function 154
def rset_Maximize_in : Tm := ⟨[.cells 181 [.all 1 2], .row 178 2 [.int .i64, .int .u64]], [(0, .w (.at (.ptr 0 0))), (1, .w (.at (.int .u64))), (2, .w (.at (.int .i64)))]⟩
def rset_Maximize_out : Tm := ⟨[.cells 181 [.all 2 2], .dead, .row 178 2 [.int .i64, .int .u64]], [(0, .tup [])]⟩
def rset_Maximize_1_T : Tm := ⟨[.cells 181 [.all 1 2], .row 178 2 [.int .i64, .int .u64]], [(9, .w (.at (.int .i64))), (0, .w (.at (.ptr 0 0))), (1, .w (.at (.int .u64))), (2, .w (.at (.int .i64))), (8, .w (.at (.int .i64)))]⟩
def rset_Maximize_1_X0 : Tm := ⟨[.cells 181 [.all 1 2], .row 178 2 [.int .i64, .int .u64]], [(2, .w (.at (.int .i64))), (1, .w (.at (.int .u64))), (0, .w (.at (.ptr 0 0)))]⟩
def rset_Maximize_1_X : Exits := [(0, (rset_Maximize_1_X0, []))]
def rset_Maximize_1_R : Tm := ⟨[], []⟩

def rset_Maximize_Λd (L1 : ({β : Type} → (Nat → List Leaf → Option β) → (List Leaf → Option β) → Nat → List Int → List Int → Int → Int → Int → Int → Option β)) : Loops := ⟨fun b fr H kx kr => bif Nat.beq (rid b) 1 then loopE 2 rset_Maximize_1_T [] rset_Maximize_1_X rset_Maximize_1_R (rset_Maximize_1_F @L1 top) fr H kx kr else none⟩
def rset_Maximize_Λ : Loops := rset_Maximize_Λd @rset_Maximize_1_L
theorem rset_Maximize_1_e (L1 : ({β : Type} → (Nat → List Leaf → Option β) → (List Leaf → Option β) → Nat → List Int → List Int → Int → Int → Int → Int → Option β)) {α : Type} (kx : Nat → List Leaf → Option α) (kr : List Leaf → Option α) (again : List Int → List Int → Int → Int → Int → Int → Option α) (s_l0 : List Int) (s_l1 : List Int) (t9 : Int) (x : Int) (now : Int) (t8 : Int) : rset_Maximize_1_B  kx kr again s_l0 s_l1 t9 x now t8 = loopB G36 (rset_Maximize_Λd @L1) false tab Go.Proofs.Tryz.f154.ntmps 2 rset_Maximize_1_T [] rset_Maximize_1_X rset_Maximize_1_R (bodyAt (fb Go.Proofs.Tryz.f154) 0) (fun ls => un_li ls fun s_l0 rr => un_li rr fun s_l1 rr => un_i rr fun t9 rr => un_i rr fun x rr => un_i rr fun now rr => un_i rr fun t8 rr => un_nil rr (again s_l0 s_l1 t9 x now t8)) kx kr (instFr rset_Maximize_1_T [.li s_l0, .li s_l1, .i t9, .i x, .i now, .i t8]) (instH rset_Maximize_1_T [.li s_l0, .li s_l1, .i t9, .i x, .i now, .i t8]) := by kernel_rfl
theorem rset_Maximize_1_lok (E : Nat → Prop) (w0 ws : World) (ρ0 : List Pl) (hk : ρ0.length = 2) : LOk Go.Proofs.Tryz.prog 154 Go.Proofs.Tryz.f154 false E w0 ws Go.Proofs.Tryz.f154.ntmps ρ0 rset_Maximize_Λ (bodyAt (fb Go.Proofs.Tryz.f154) 0) := by
  refine lok mixed tab_ok g36 Go.Proofs.Tryz.func154 hk (T := rset_Maximize_1_T) (rt := rset_Maximize_1_R) (cuts := []) (ex := rset_Maximize_1_X) (top := top) (F := rset_Maximize_1_F @rset_Maximize_1_L) (fun fr H kx kr => by kernel_rfl) ?_ ?_ ?_
  · intro α ls' kx' kr' r' h'
    unfold rset_Maximize_1_F at h'
    obtain ⟨s_l0, l'1, rfl, h'1⟩ := un_li_some.1 h'
    obtain ⟨s_l1, l'2, rfl, h'2⟩ := un_li_some.1 h'1
    obtain ⟨t9, l'3, rfl, h'3⟩ := un_i_some.1 h'2
    obtain ⟨x, l'4, rfl, h'4⟩ := un_i_some.1 h'3
    obtain ⟨now, l'5, rfl, h'5⟩ := un_i_some.1 h'4
    obtain ⟨t8, l'6, rfl, h'6⟩ := un_i_some.1 h'5
    obtain ⟨rfl, h'Z⟩ := un_nil_some.1 h'6
    cases h'Z
  · intro α n' ls' kx' kr' r' h'
    unfold rset_Maximize_1_F at h'
    obtain ⟨s_l0, l'1, rfl, h'1⟩ := un_li_some.1 h'
    obtain ⟨s_l1, l'2, rfl, h'2⟩ := un_li_some.1 h'1
    obtain ⟨t9, l'3, rfl, h'3⟩ := un_i_some.1 h'2
    obtain ⟨x, l'4, rfl, h'4⟩ := un_i_some.1 h'3
    obtain ⟨now, l'5, rfl, h'5⟩ := un_i_some.1 h'4
    obtain ⟨t8, l'6, rfl, h'6⟩ := un_i_some.1 h'5
    obtain ⟨rfl, h'Z⟩ := un_nil_some.1 h'6
    exact (rset_Maximize_1_e @rset_Maximize_1_L kx' kr' (rset_Maximize_1_L kx' kr' n') s_l0 s_l1 t9 x now t8).symm.trans h'Z
  · intro b' hb
    rw [show loopsOf (bodyAt (fb Go.Proofs.Tryz.f154) 0) = [] by kernel_rfl] at hb
    cases hb
theorem rset_Maximize_ed (L1 : ({β : Type} → (Nat → List Leaf → Option β) → (List Leaf → Option β) → Nat → List Int → List Int → Int → Int → Int → Int → Option β)) (s_l0 : List Int) (s_l1 : List Int) (x : Int) (now : Int) : rset_Maximize_d @L1 s_l0 s_l1 x now = den G36 (rset_Maximize_Λd @L1) false tab Go.Proofs.Tryz.f154.ntmps (fun fr H => finish tab 2 Go.Proofs.Tryz.f154.results.toList rset_Maximize_out [] fr H some) (fun _ _ _ => none) (fun fr H => finish tab 2 Go.Proofs.Tryz.f154.results.toList rset_Maximize_out [] fr H some) 10000 [.code (fb Go.Proofs.Tryz.f154)] (instFr rset_Maximize_in [.li s_l0, .li s_l1, .i x, .i now]) (instH rset_Maximize_in [.li s_l0, .li s_l1, .i x, .i now]) := by kernel_rfl
theorem rset_Maximize_e (s_l0 : List Int) (s_l1 : List Int) (x : Int) (now : Int) : rset_Maximize s_l0 s_l1 x now = den G36 rset_Maximize_Λ false tab Go.Proofs.Tryz.f154.ntmps (fun fr H => finish tab 2 Go.Proofs.Tryz.f154.results.toList rset_Maximize_out [] fr H some) (fun _ _ _ => none) (fun fr H => finish tab 2 Go.Proofs.Tryz.f154.results.toList rset_Maximize_out [] fr H some) 10000 [.code (fb Go.Proofs.Tryz.f154)] (instFr rset_Maximize_in [.li s_l0, .li s_l1, .i x, .i now]) (instH rset_Maximize_in [.li s_l0, .li s_l1, .i x, .i now]) := rset_Maximize_ed @rset_Maximize_1_L s_l0 s_l1 x now
def rset_Maximize_S : List Leaf → Option (List Leaf) := fun ls => un_li ls fun s_l0 rr => un_li rr fun s_l1 rr => un_i rr fun x rr => un_i rr fun now rr => un_nil rr (rset_Maximize s_l0 s_l1 x now)
def rset_Maximize_SC : Tld := fun ls k' => un_li ls fun s_l0 rr => un_li rr fun s_l1 rr => un_i rr fun x rr => un_i rr fun now rr => un_nil rr (out (rset_Maximize s_l0 s_l1 x now) k')
theorem rset_Maximize_Se (s_l0 : List Int) (s_l1 : List Int) (x : Int) (now : Int) : rset_Maximize_S [.li s_l0, .li s_l1, .i x, .i now] = rset_Maximize s_l0 s_l1 x now := by
  unfold rset_Maximize_S
  simp only [un_i_ev, un_b_ev, un_s_ev, un_li_ev, un_lb_ev, un_ls_ev, un_nil_ev]
theorem rset_Maximize_says : Says rset_Maximize_SC rset_Maximize_S := by
  intro β ls' k' r' h'
  unfold rset_Maximize_SC at h'
  obtain ⟨s_l0, l'1, rfl, h'1⟩ := un_li_some.1 h'
  obtain ⟨s_l1, l'2, rfl, h'2⟩ := un_li_some.1 h'1
  obtain ⟨x, l'3, rfl, h'3⟩ := un_i_some.1 h'2
  obtain ⟨now, l'4, rfl, h'4⟩ := un_i_some.1 h'3
  obtain ⟨rfl, h'Z⟩ := un_nil_some.1 h'4
  obtain ⟨l', a', b'⟩ := out_some.1 h'Z
  exact ⟨l', (rset_Maximize_Se s_l0 s_l1 x now).trans a', b'⟩
theorem rset_Maximize_c : FnC Go.Proofs.Tryz.prog 154 false 3 2 rset_Maximize_in rset_Maximize_out rset_Maximize_S := by
  refine fn_ok (Λ := rset_Maximize_Λ) mixed tab_ok g36 Go.Proofs.Tryz.func154 (by kernel_rfl) (body := fb Go.Proofs.Tryz.f154) rfl (ts := Go.Proofs.Tryz.f154.results.toList) rfl (cuts := []) (by kernel_rfl) (Nat.le_of_ble_eq_true (by kernel_rfl)) (by kernel_rfl) (rt := .tup []) rfl ?_ ?_
  · intro ls' r' h'
    unfold rset_Maximize_S at h'
    obtain ⟨s_l0, l'1, rfl, h'1⟩ := un_li_some.1 h'
    obtain ⟨s_l1, l'2, rfl, h'2⟩ := un_li_some.1 h'1
    obtain ⟨x, l'3, rfl, h'3⟩ := un_i_some.1 h'2
    obtain ⟨now, l'4, rfl, h'4⟩ := un_i_some.1 h'3
    obtain ⟨rfl, h'Z⟩ := un_nil_some.1 h'4
    exact (rset_Maximize_e s_l0 s_l1 x now).symm.trans h'Z
  · intro E w0 ws ρ0 hk b hb
    rw [show loopsOf (fb Go.Proofs.Tryz.f154) = [(bodyAt (fb Go.Proofs.Tryz.f154) 0)] by kernel_rfl] at hb
    simp only [List.mem_cons, List.mem_nil_iff, or_false] at hb
    rcases hb with rfl
    · exact rset_Maximize_1_lok E w0 ws ρ0 hk
noncomputable def G37 : Env := G36.addE 154 3 rset_Maximize_in rset_Maximize_out rset_Maximize_SC
theorem g37 : EnvOk Go.Proofs.Tryz.prog G37 := EnvOk.addE g36 rset_Maximize_c rset_Maximize_says

-- ### rset_Halve: function 153
def rset_Halve_in : Tm := ⟨[.cells 181 [.all 1 2], .row 178 2 [.int .i64, .int .u64]], [(0, .w (.at (.ptr 0 0)))]⟩
def rset_Halve_out : Tm := ⟨[.cells 181 [.all 2 2], .dead, .row 178 2 [.int .i64, .int .u64]], [(0, .tup [])]⟩
def rset_Halve_1_T : Tm := ⟨[.cells 181 [.all 1 2], .row 178 2 [.int .i64, .int .u64]], [(5, .w (.at (.int .i64))), (0, .w (.at (.ptr 0 0))), (4, .w (.at (.int .i64)))]⟩
def rset_Halve_1_X0 : Tm := ⟨[.cells 181 [.all 1 2], .row 178 2 [.int .i64, .int .u64]], []⟩
def rset_Halve_1_X : Exits := [(0, (rset_Halve_1_X0, []))]
def rset_Halve_1_R : Tm := ⟨[], []⟩

def rset_Halve_Λd (L1 : ({β : Type} → (Nat → List Leaf → Option β) → (List Leaf → Option β) → Nat → List Int → List Int → Int → Int → Option β)) : Loops := ⟨fun b fr H kx kr => bif Nat.beq (rid b) 1 then loopE 2 rset_Halve_1_T [] rset_Halve_1_X rset_Halve_1_R (rset_Halve_1_F @L1 top) fr H kx kr else none⟩
def rset_Halve_Λ : Loops := rset_Halve_Λd @rset_Halve_1_L
theorem rset_Halve_1_e (L1 : ({β : Type} → (Nat → List Leaf → Option β) → (List Leaf → Option β) → Nat → List Int → List Int → Int → Int → Option β)) {α : Type} (kx : Nat → List Leaf → Option α) (kr : List Leaf → Option α) (again : List Int → List Int → Int → Int → Option α) (s_l0 : List Int) (s_l1 : List Int) (t5 : Int) (t4 : Int) : rset_Halve_1_B  kx kr again s_l0 s_l1 t5 t4 = loopB G37 (rset_Halve_Λd @L1) false tab Go.Proofs.Tryz.f153.ntmps 2 rset_Halve_1_T [] rset_Halve_1_X rset_Halve_1_R (bodyAt (fb Go.Proofs.Tryz.f153) 0) (fun ls => un_li ls fun s_l0 rr => un_li rr fun s_l1 rr => un_i rr fun t5 rr => un_i rr fun t4 rr => un_nil rr (again s_l0 s_l1 t5 t4)) kx kr (instFr rset_Halve_1_T [.li s_l0, .li s_l1, .i t5, .i t4]) (instH rset_Halve_1_T [.li s_l0, .li s_l1, .i t5, .i t4]) := by kernel_rfl
theorem rset_Halve_1_lok (E : Nat → Prop) (w0 ws : World) (ρ0 : List Pl) (hk : ρ0.length = 2) : LOk Go.Proofs.Tryz.prog 153 Go.Proofs.Tryz.f153 false E w0 ws Go.Proofs.Tryz.f153.ntmps ρ0 rset_Halve_Λ (bodyAt (fb Go.Proofs.Tryz.f153) 0) := by
  refine lok mixed tab_ok g37 Go.Proofs.Tryz.func153 hk (T := rset_Halve_1_T) (rt := rset_Halve_1_R) (cuts := []) (ex := rset_Halve_1_X) (top := top) (F := rset_Halve_1_F @rset_Halve_1_L) (fun fr H kx kr => by kernel_rfl) ?_ ?_ ?_
  · intro α ls' kx' kr' r' h'
    unfold rset_Halve_1_F at h'
    obtain ⟨s_l0, l'1, rfl, h'1⟩ := un_li_some.1 h'
    obtain ⟨s_l1, l'2, rfl, h'2⟩ := un_li_some.1 h'1
    obtain ⟨t5, l'3, rfl, h'3⟩ := un_i_some.1 h'2
    obtain ⟨t4, l'4, rfl, h'4⟩ := un_i_some.1 h'3
    obtain ⟨rfl, h'Z⟩ := un_nil_some.1 h'4
    cases h'Z
  · intro α n' ls' kx' kr' r' h'
    unfold rset_Halve_1_F at h'
    obtain ⟨s_l0, l'1, rfl, h'1⟩ := un_li_some.1 h'
    obtain ⟨s_l1, l'2, rfl, h'2⟩ := un_li_some.1 h'1
    obtain ⟨t5, l'3, rfl, h'3⟩ := un_i_some.1 h'2
    obtain ⟨t4, l'4, rfl, h'4⟩ := un_i_some.1 h'3
    obtain ⟨rfl, h'Z⟩ := un_nil_some.1 h'4
    exact (rset_Halve_1_e @rset_Halve_1_L kx' kr' (rset_Halve_1_L kx' kr' n') s_l0 s_l1 t5 t4).symm.trans h'Z
  · intro b' hb
    rw [show loopsOf (bodyAt (fb Go.Proofs.Tryz.f153) 0) = [] by kernel_rfl] at hb
    cases hb
theorem rset_Halve_ed (L1 : ({β : Type} → (Nat → List Leaf → Option β) → (List Leaf → Option β) → Nat → List Int → List Int → Int → Int → Option β)) (s_l0 : List Int) (s_l1 : List Int) : rset_Halve_d @L1 s_l0 s_l1 = den G37 (rset_Halve_Λd @L1) false tab Go.Proofs.Tryz.f153.ntmps (fun fr H => finish tab 2 Go.Proofs.Tryz.f153.results.toList rset_Halve_out [] fr H some) (fun _ _ _ => none) (fun fr H => finish tab 2 Go.Proofs.Tryz.f153.results.toList rset_Halve_out [] fr H some) 10000 [.code (fb Go.Proofs.Tryz.f153)] (instFr rset_Halve_in [.li s_l0, .li s_l1]) (instH rset_Halve_in [.li s_l0, .li s_l1]) := by kernel_rfl
theorem rset_Halve_e (s_l0 : List Int) (s_l1 : List Int) : rset_Halve s_l0 s_l1 = den G37 rset_Halve_Λ false tab Go.Proofs.Tryz.f153.ntmps (fun fr H => finish tab 2 Go.Proofs.Tryz.f153.results.toList rset_Halve_out [] fr H some) (fun _ _ _ => none) (fun fr H => finish tab 2 Go.Proofs.Tryz.f153.results.toList rset_Halve_out [] fr H some) 10000 [.code (fb Go.Proofs.Tryz.f153)] (instFr rset_Halve_in [.li s_l0, .li s_l1]) (instH rset_Halve_in [.li s_l0, .li s_l1]) := rset_Halve_ed @rset_Halve_1_L s_l0 s_l1
def rset_Halve_S : List Leaf → Option (List Leaf) := fun ls => un_li ls fun s_l0 rr => un_li rr fun s_l1 rr => un_nil rr (rset_Halve s_l0 s_l1)
def rset_Halve_SC : Tld := fun ls k' => un_li ls fun s_l0 rr => un_li rr fun s_l1 rr => un_nil rr (out (rset_Halve s_l0 s_l1) k')
theorem rset_Halve_Se (s_l0 : List Int) (s_l1 : List Int) : rset_Halve_S [.li s_l0, .li s_l1] = rset_Halve s_l0 s_l1 := by
  unfold rset_Halve_S
  simp only [un_i_ev, un_b_ev, un_s_ev, un_li_ev, un_lb_ev, un_ls_ev, un_nil_ev]
theorem rset_Halve_says : Says rset_Halve_SC rset_Halve_S := by
  intro β ls' k' r' h'
  unfold rset_Halve_SC at h'
  obtain ⟨s_l0, l'1, rfl, h'1⟩ := un_li_some.1 h'
  obtain ⟨s_l1, l'2, rfl, h'2⟩ := un_li_some.1 h'1
  obtain ⟨rfl, h'Z⟩ := un_nil_some.1 h'2
  obtain ⟨l', a', b'⟩ := out_some.1 h'Z
  exact ⟨l', (rset_Halve_Se s_l0 s_l1).trans a', b'⟩
theorem rset_Halve_c : FnC Go.Proofs.Tryz.prog 153 false 1 2 rset_Halve_in rset_Halve_out rset_Halve_S := by
  refine fn_ok (Λ := rset_Halve_Λ) mixed tab_ok g37 Go.Proofs.Tryz.func153 (by kernel_rfl) (body := fb Go.Proofs.Tryz.f153) rfl (ts := Go.Proofs.Tryz.f153.results.toList) rfl (cuts := []) (by kernel_rfl) (Nat.le_of_ble_eq_true (by kernel_rfl)) (by kernel_rfl) (rt := .tup []) rfl ?_ ?_
  · intro ls' r' h'
    unfold rset_Halve_S at h'
    obtain ⟨s_l0, l'1, rfl, h'1⟩ := un_li_some.1 h'
    obtain ⟨s_l1, l'2, rfl, h'2⟩ := un_li_some.1 h'1
    obtain ⟨rfl, h'Z⟩ := un_nil_some.1 h'2
    exact (rset_Halve_e s_l0 s_l1).symm.trans h'Z
  · intro E w0 ws ρ0 hk b hb
    rw [show loopsOf (fb Go.Proofs.Tryz.f153) = [(bodyAt (fb Go.Proofs.Tryz.f153) 0)] by kernel_rfl] at hb
    simp only [List.mem_cons, List.mem_nil_iff, or_false] at hb
    rcases hb with rfl
    · exact rset_Halve_1_lok E w0 ws ρ0 hk
noncomputable def G38 : Env := G37.addE 153 1 rset_Halve_in rset_Halve_out rset_Halve_SC
theorem g38 : EnvOk Go.Proofs.Tryz.prog G38 := EnvOk.addE g37 rset_Halve_c rset_Halve_says

-- ### rset_Update_1: function 170
def rset_Update_1_in : Tm := ⟨[.cells 2 [.int .i64], .cells 2 [.int .i64]], [(0, .w (.agg [.int .i64, .int .u64])), (1, .w (.at (.ptr 0 0))), (2, .w (.at (.ptr 1 0)))]⟩
def rset_Update_1_out : Tm := ⟨[.cells 2 [.int .i64], .cells 2 [.int .i64]], [(0, .w (.at (.bool)))]⟩

def rset_Update_1_Λd : Loops := Loops.none
def rset_Update_1_Λ : Loops := rset_Update_1_Λd 

theorem rset_Update_1_e (now : Int) (r : Int) (p_at : Int) (p_x : Int) : rset_Update_1 now r p_at p_x = den G38 rset_Update_1_Λ false tab Go.Proofs.Tryz.f170.ntmps (fun fr H => finish tab 2 Go.Proofs.Tryz.f170.results.toList rset_Update_1_out [] fr H some) (fun _ _ _ => none) (fun fr H => finish tab 2 Go.Proofs.Tryz.f170.results.toList rset_Update_1_out [] fr H some) 10000 [.code (fb Go.Proofs.Tryz.f170)] (instFr rset_Update_1_in [.i now, .i r, .i p_at, .i p_x]) (instH rset_Update_1_in [.i now, .i r, .i p_at, .i p_x]) := by kernel_rfl
def rset_Update_1_S : List Leaf → Option (List Leaf) := fun ls => un_i ls fun now rr => un_i rr fun r rr => un_i rr fun p_at rr => un_i rr fun p_x rr => un_nil rr (rset_Update_1 now r p_at p_x)
def rset_Update_1_SC : Tld := fun ls k' => un_i ls fun now rr => un_i rr fun r rr => un_i rr fun p_at rr => un_i rr fun p_x rr => un_nil rr (out (rset_Update_1 now r p_at p_x) k')
theorem rset_Update_1_Se (now : Int) (r : Int) (p_at : Int) (p_x : Int) : rset_Update_1_S [.i now, .i r, .i p_at, .i p_x] = rset_Update_1 now r p_at p_x := by
  unfold rset_Update_1_S
  simp only [un_i_ev, un_b_ev, un_s_ev, un_li_ev, un_lb_ev, un_ls_ev, un_nil_ev]
theorem rset_Update_1_says : Says rset_Update_1_SC rset_Update_1_S := by
  intro β ls' k' r' h'
  unfold rset_Update_1_SC at h'
  obtain ⟨now, l'1, rfl, h'1⟩ := un_i_some.1 h'
  obtain ⟨r, l'2, rfl, h'2⟩ := un_i_some.1 h'1
  obtain ⟨p_at, l'3, rfl, h'3⟩ := un_i_some.1 h'2
  obtain ⟨p_x, l'4, rfl, h'4⟩ := un_i_some.1 h'3
  obtain ⟨rfl, h'Z⟩ := un_nil_some.1 h'4
  obtain ⟨l', a', b'⟩ := out_some.1 h'Z
  exact ⟨l', (rset_Update_1_Se now r p_at p_x).trans a', b'⟩
theorem rset_Update_1_c : FnC Go.Proofs.Tryz.prog 170 false 3 2 rset_Update_1_in rset_Update_1_out rset_Update_1_S := by
  refine fn_ok (Λ := rset_Update_1_Λ) mixed tab_ok g38 Go.Proofs.Tryz.func170 (by kernel_rfl) (body := fb Go.Proofs.Tryz.f170) rfl (ts := Go.Proofs.Tryz.f170.results.toList) rfl (cuts := []) (by kernel_rfl) (Nat.le_of_ble_eq_true (by kernel_rfl)) (by kernel_rfl) (rt := .w (.at (.bool))) rfl ?_ ?_
  · intro ls' r' h'
    unfold rset_Update_1_S at h'
    obtain ⟨now, l'1, rfl, h'1⟩ := un_i_some.1 h'
    obtain ⟨r, l'2, rfl, h'2⟩ := un_i_some.1 h'1
    obtain ⟨p_at, l'3, rfl, h'3⟩ := un_i_some.1 h'2
    obtain ⟨p_x, l'4, rfl, h'4⟩ := un_i_some.1 h'3
    obtain ⟨rfl, h'Z⟩ := un_nil_some.1 h'4
    exact (rset_Update_1_e now r p_at p_x).symm.trans h'Z
  · intro E w0 ws ρ0 hk b hb
    rw [show loopsOf (fb Go.Proofs.Tryz.f170) = [] by kernel_rfl] at hb
    cases hb
noncomputable def G39 : Env := G38.addE 170 3 rset_Update_1_in rset_Update_1_out rset_Update_1_SC
theorem g39 : EnvOk Go.Proofs.Tryz.prog G39 := EnvOk.addE g38 rset_Update_1_c rset_Update_1_says

-- ### set_IndexFunc: function 191
def set_IndexFunc_in : Tm := ⟨[.ro 178 2 [.int .i64, .int .u64], .cells 2 [.int .i64], .cells 2 [.int .i64]], [(0, .w (.at (.all 0 2))), (1, .w (.at (.fn 170 [(1, 0), (2, 0)])))]⟩
def set_IndexFunc_out : Tm := ⟨[.dead, .cells 2 [.int .i64], .cells 2 [.int .i64]], [(0, .w (.at (.int .i64)))]⟩
def set_IndexFunc_2_T : Tm := ⟨[.ro 178 2 [.int .i64, .int .u64], .cells 2 [.int .i64], .cells 2 [.int .i64]], [(8, .w (.at (.int .i64))), (0, .w (.at (.all 0 2))), (1, .w (.at (.fn 170 [(1, 0), (2, 0)]))), (7, .w (.at (.int .i64)))]⟩
def set_IndexFunc_2_X0 : Tm := ⟨[.ro 178 2 [.int .i64, .int .u64], .cells 2 [.int .i64], .cells 2 [.int .i64]], []⟩
def set_IndexFunc_2_X : Exits := [(0, (set_IndexFunc_2_X0, []))]
def set_IndexFunc_2_R : Tm := ⟨[.ro 178 2 [.int .i64, .int .u64], .cells 2 [.int .i64], .cells 2 [.int .i64]], [(4, .w (.at (.int .i64)))]⟩

def set_IndexFunc_Λd (L2 : ({β : Type} → (Nat → List Leaf → Option β) → (List Leaf → Option β) → Nat → List Int → List Int → Int → Int → Int → Int → Option β)) : Loops := ⟨fun b fr H kx kr => bif Nat.beq (rid b) 2 then loopE 3 set_IndexFunc_2_T [] set_IndexFunc_2_X set_IndexFunc_2_R (set_IndexFunc_2_F @L2 top) fr H kx kr else none⟩
def set_IndexFunc_Λ : Loops := set_IndexFunc_Λd @set_IndexFunc_2_L
theorem set_IndexFunc_2_e (L2 : ({β : Type} → (Nat → List Leaf → Option β) → (List Leaf → Option β) → Nat → List Int → List Int → Int → Int → Int → Int → Option β)) {α : Type} (kx : Nat → List Leaf → Option α) (kr : List Leaf → Option α) (again : List Int → List Int → Int → Int → Int → Int → Option α) (s0 : List Int) (s1 : List Int) (now : Int) (r : Int) (t8 : Int) (t7 : Int) : set_IndexFunc_2_B  kx kr again s0 s1 now r t8 t7 = loopB G39 (set_IndexFunc_Λd @L2) false tab Go.Proofs.Tryz.f191.ntmps 3 set_IndexFunc_2_T [] set_IndexFunc_2_X set_IndexFunc_2_R (bodyAt (fb Go.Proofs.Tryz.f191) 0) (fun ls => un_li ls fun s0 rr => un_li rr fun s1 rr => un_i rr fun now rr => un_i rr fun r rr => un_i rr fun t8 rr => un_i rr fun t7 rr => un_nil rr (again s0 s1 now r t8 t7)) kx kr (instFr set_IndexFunc_2_T [.li s0, .li s1, .i now, .i r, .i t8, .i t7]) (instH set_IndexFunc_2_T [.li s0, .li s1, .i now, .i r, .i t8, .i t7]) := by kernel_rfl
theorem set_IndexFunc_2_lok (E : Nat → Prop) (w0 ws : World) (ρ0 : List Pl) (hk : ρ0.length = 3) : LOk Go.Proofs.Tryz.prog 191 Go.Proofs.Tryz.f191 false E w0 ws Go.Proofs.Tryz.f191.ntmps ρ0 set_IndexFunc_Λ (bodyAt (fb Go.Proofs.Tryz.f191) 0) := by
  refine lok mixed tab_ok g39 Go.Proofs.Tryz.func191 hk (T := set_IndexFunc_2_T) (rt := set_IndexFunc_2_R) (cuts := []) (ex := set_IndexFunc_2_X) (top := top) (F := set_IndexFunc_2_F @set_IndexFunc_2_L) (fun fr H kx kr => by kernel_rfl) ?_ ?_ ?_
  · intro α ls' kx' kr' r' h'
    unfold set_IndexFunc_2_F at h'
    obtain ⟨s0, l'1, rfl, h'1⟩ := un_li_some.1 h'
    obtain ⟨s1, l'2, rfl, h'2⟩ := un_li_some.1 h'1
    obtain ⟨now, l'3, rfl, h'3⟩ := un_i_some.1 h'2
    obtain ⟨r, l'4, rfl, h'4⟩ := un_i_some.1 h'3
    obtain ⟨t8, l'5, rfl, h'5⟩ := un_i_some.1 h'4
    obtain ⟨t7, l'6, rfl, h'6⟩ := un_i_some.1 h'5
    obtain ⟨rfl, h'Z⟩ := un_nil_some.1 h'6
    cases h'Z
  · intro α n' ls' kx' kr' r' h'
    unfold set_IndexFunc_2_F at h'
    obtain ⟨s0, l'1, rfl, h'1⟩ := un_li_some.1 h'
    obtain ⟨s1, l'2, rfl, h'2⟩ := un_li_some.1 h'1
    obtain ⟨now, l'3, rfl, h'3⟩ := un_i_some.1 h'2
    obtain ⟨r, l'4, rfl, h'4⟩ := un_i_some.1 h'3
    obtain ⟨t8, l'5, rfl, h'5⟩ := un_i_some.1 h'4
    obtain ⟨t7, l'6, rfl, h'6⟩ := un_i_some.1 h'5
    obtain ⟨rfl, h'Z⟩ := un_nil_some.1 h'6
    exact (set_IndexFunc_2_e @set_IndexFunc_2_L kx' kr' (set_IndexFunc_2_L kx' kr' n') s0 s1 now r t8 t7).symm.trans h'Z
  · intro b' hb
    rw [show loopsOf (bodyAt (fb Go.Proofs.Tryz.f191) 0) = [] by kernel_rfl] at hb
    cases hb
theorem set_IndexFunc_ed (L2 : ({β : Type} → (Nat → List Leaf → Option β) → (List Leaf → Option β) → Nat → List Int → List Int → Int → Int → Int → Int → Option β)) (s0 : List Int) (s1 : List Int) (now : Int) (r : Int) : set_IndexFunc_d @L2 s0 s1 now r = den G39 (set_IndexFunc_Λd @L2) false tab Go.Proofs.Tryz.f191.ntmps (fun fr H => finish tab 3 Go.Proofs.Tryz.f191.results.toList set_IndexFunc_out [] fr H some) (fun _ _ _ => none) (fun fr H => finish tab 3 Go.Proofs.Tryz.f191.results.toList set_IndexFunc_out [] fr H some) 10000 [.code (fb Go.Proofs.Tryz.f191)] (instFr set_IndexFunc_in [.li s0, .li s1, .i now, .i r]) (instH set_IndexFunc_in [.li s0, .li s1, .i now, .i r]) := by kernel_rfl
theorem set_IndexFunc_e (s0 : List Int) (s1 : List Int) (now : Int) (r : Int) : set_IndexFunc s0 s1 now r = den G39 set_IndexFunc_Λ false tab Go.Proofs.Tryz.f191.ntmps (fun fr H => finish tab 3 Go.Proofs.Tryz.f191.results.toList set_IndexFunc_out [] fr H some) (fun _ _ _ => none) (fun fr H => finish tab 3 Go.Proofs.Tryz.f191.results.toList set_IndexFunc_out [] fr H some) 10000 [.code (fb Go.Proofs.Tryz.f191)] (instFr set_IndexFunc_in [.li s0, .li s1, .i now, .i r]) (instH set_IndexFunc_in [.li s0, .li s1, .i now, .i r]) := set_IndexFunc_ed @set_IndexFunc_2_L s0 s1 now r
def set_IndexFunc_S : List Leaf → Option (List Leaf) := fun ls => un_li ls fun s0 rr => un_li rr fun s1 rr => un_i rr fun now rr => un_i rr fun r rr => un_nil rr (set_IndexFunc s0 s1 now r)
def set_IndexFunc_SC : Tld := fun ls k' => un_li ls fun s0 rr => un_li rr fun s1 rr => un_i rr fun now rr => un_i rr fun r rr => un_nil rr (out (set_IndexFunc s0 s1 now r) k')
theorem set_IndexFunc_Se (s0 : List Int) (s1 : List Int) (now : Int) (r : Int) : set_IndexFunc_S [.li s0, .li s1, .i now, .i r] = set_IndexFunc s0 s1 now r := by
  unfold set_IndexFunc_S
  simp only [un_i_ev, un_b_ev, un_s_ev, un_li_ev, un_lb_ev, un_ls_ev, un_nil_ev]
theorem set_IndexFunc_says : Says set_IndexFunc_SC set_IndexFunc_S := by
  intro β ls' k' r' h'
  unfold set_IndexFunc_SC at h'
  obtain ⟨s0, l'1, rfl, h'1⟩ := un_li_some.1 h'
  obtain ⟨s1, l'2, rfl, h'2⟩ := un_li_some.1 h'1
  obtain ⟨now, l'3, rfl, h'3⟩ := un_i_some.1 h'2
  obtain ⟨r, l'4, rfl, h'4⟩ := un_i_some.1 h'3
  obtain ⟨rfl, h'Z⟩ := un_nil_some.1 h'4
  obtain ⟨l', a', b'⟩ := out_some.1 h'Z
  exact ⟨l', (set_IndexFunc_Se s0 s1 now r).trans a', b'⟩
theorem set_IndexFunc_c : FnC Go.Proofs.Tryz.prog 191 false 2 3 set_IndexFunc_in set_IndexFunc_out set_IndexFunc_S := by
  refine fn_ok (Λ := set_IndexFunc_Λ) mixed tab_ok g39 Go.Proofs.Tryz.func191 (by kernel_rfl) (body := fb Go.Proofs.Tryz.f191) rfl (ts := Go.Proofs.Tryz.f191.results.toList) rfl (cuts := []) (by kernel_rfl) (Nat.le_of_ble_eq_true (by kernel_rfl)) (by kernel_rfl) (rt := .w (.at (.int .i64))) rfl ?_ ?_
  · intro ls' r' h'
    unfold set_IndexFunc_S at h'
    obtain ⟨s0, l'1, rfl, h'1⟩ := un_li_some.1 h'
    obtain ⟨s1, l'2, rfl, h'2⟩ := un_li_some.1 h'1
    obtain ⟨now, l'3, rfl, h'3⟩ := un_i_some.1 h'2
    obtain ⟨r, l'4, rfl, h'4⟩ := un_i_some.1 h'3
    obtain ⟨rfl, h'Z⟩ := un_nil_some.1 h'4
    exact (set_IndexFunc_e s0 s1 now r).symm.trans h'Z
  · intro E w0 ws ρ0 hk b hb
    rw [show loopsOf (fb Go.Proofs.Tryz.f191) = [(bodyAt (fb Go.Proofs.Tryz.f191) 0)] by kernel_rfl] at hb
    simp only [List.mem_cons, List.mem_nil_iff, or_false] at hb
    rcases hb with rfl
    · exact set_IndexFunc_2_lok E w0 ws ρ0 hk
noncomputable def G40 : Env := G39.addE 191 2 set_IndexFunc_in set_IndexFunc_out set_IndexFunc_SC
theorem g40 : EnvOk Go.Proofs.Tryz.prog G40 := EnvOk.addE g39 set_IndexFunc_c set_IndexFunc_says

-- ### set_DeleteFunc: function 169
def set_DeleteFunc_in : Tm := ⟨[.row 178 2 [.int .i64, .int .u64], .cells 2 [.int .i64], .cells 2 [.int .i64]], [(0, .w (.at (.all 0 2))), (1, .w (.at (.fn 170 [(1, 0), (2, 0)])))]⟩
def set_DeleteFunc_out : Tm := ⟨[.dead, .cells 2 [.int .i64], .cells 2 [.int .i64], .row 178 2 [.int .i64, .int .u64]], [(0, .w (.at (.all 3 2)))]⟩
def set_DeleteFunc_5_T : Tm := ⟨[.row 178 2 [.int .i64, .int .u64], .cells 2 [.int .i64], .cells 2 [.int .i64]], [(6, .w (.at (.int .i64))), (5, .w (.at (.int .i64))), (0, .w (.at (.all 0 2))), (1, .w (.at (.fn 170 [(1, 0), (2, 0)])))]⟩
def set_DeleteFunc_5_X0 : Tm := ⟨[.row 178 2 [.int .i64, .int .u64], .cells 2 [.int .i64], .cells 2 [.int .i64]], [(5, .w (.at (.int .i64))), (0, .w (.at (.all 0 2)))]⟩
def set_DeleteFunc_5_X : Exits := [(0, (set_DeleteFunc_5_X0, []))]
def set_DeleteFunc_5_R : Tm := ⟨[], []⟩

def set_DeleteFunc_Λd (L5 : ({β : Type} → (Nat → List Leaf → Option β) → (List Leaf → Option β) → Nat → List Int → List Int → Int → Int → Int → Int → Option β)) : Loops := ⟨fun b fr H kx kr => bif Nat.beq (rid b) 5 then loopE 3 set_DeleteFunc_5_T [] set_DeleteFunc_5_X set_DeleteFunc_5_R (set_DeleteFunc_5_F @L5 top) fr H kx kr else none⟩
def set_DeleteFunc_Λ : Loops := set_DeleteFunc_Λd @set_DeleteFunc_5_L
theorem set_DeleteFunc_5_e (L5 : ({β : Type} → (Nat → List Leaf → Option β) → (List Leaf → Option β) → Nat → List Int → List Int → Int → Int → Int → Int → Option β)) {α : Type} (kx : Nat → List Leaf → Option α) (kr : List Leaf → Option α) (again : List Int → List Int → Int → Int → Int → Int → Option α) (s0 : List Int) (s1 : List Int) (now : Int) (r : Int) (j : Int) (i : Int) : set_DeleteFunc_5_B  kx kr again s0 s1 now r j i = loopB G40 (set_DeleteFunc_Λd @L5) false tab Go.Proofs.Tryz.f169.ntmps 3 set_DeleteFunc_5_T [] set_DeleteFunc_5_X set_DeleteFunc_5_R (bodyAt (fb Go.Proofs.Tryz.f169) 0) (fun ls => un_li ls fun s0 rr => un_li rr fun s1 rr => un_i rr fun now rr => un_i rr fun r rr => un_i rr fun j rr => un_i rr fun i rr => un_nil rr (again s0 s1 now r j i)) kx kr (instFr set_DeleteFunc_5_T [.li s0, .li s1, .i now, .i r, .i j, .i i]) (instH set_DeleteFunc_5_T [.li s0, .li s1, .i now, .i r, .i j, .i i]) := by kernel_rfl
theorem set_DeleteFunc_5_lok (E : Nat → Prop) (w0 ws : World) (ρ0 : List Pl) (hk : ρ0.length = 3) : LOk Go.Proofs.Tryz.prog 169 Go.Proofs.Tryz.f169 false E w0 ws Go.Proofs.Tryz.f169.ntmps ρ0 set_DeleteFunc_Λ (bodyAt (fb Go.Proofs.Tryz.f169) 0) := by
  refine lok mixed tab_ok g40 Go.Proofs.Tryz.func169 hk (T := set_DeleteFunc_5_T) (rt := set_DeleteFunc_5_R) (cuts := []) (ex := set_DeleteFunc_5_X) (top := top) (F := set_DeleteFunc_5_F @set_DeleteFunc_5_L) (fun fr H kx kr => by kernel_rfl) ?_ ?_ ?_
  · intro α ls' kx' kr' r' h'
    unfold set_DeleteFunc_5_F at h'
    obtain ⟨s0, l'1, rfl, h'1⟩ := un_li_some.1 h'
    obtain ⟨s1, l'2, rfl, h'2⟩ := un_li_some.1 h'1
    obtain ⟨now, l'3, rfl, h'3⟩ := un_i_some.1 h'2
    obtain ⟨r, l'4, rfl, h'4⟩ := un_i_some.1 h'3
    obtain ⟨j, l'5, rfl, h'5⟩ := un_i_some.1 h'4
    obtain ⟨i, l'6, rfl, h'6⟩ := un_i_some.1 h'5
    obtain ⟨rfl, h'Z⟩ := un_nil_some.1 h'6
    cases h'Z
  · intro α n' ls' kx' kr' r' h'
    unfold set_DeleteFunc_5_F at h'
    obtain ⟨s0, l'1, rfl, h'1⟩ := un_li_some.1 h'
    obtain ⟨s1, l'2, rfl, h'2⟩ := un_li_some.1 h'1
    obtain ⟨now, l'3, rfl, h'3⟩ := un_i_some.1 h'2
    obtain ⟨r, l'4, rfl, h'4⟩ := un_i_some.1 h'3
    obtain ⟨j, l'5, rfl, h'5⟩ := un_i_some.1 h'4
    obtain ⟨i, l'6, rfl, h'6⟩ := un_i_some.1 h'5
    obtain ⟨rfl, h'Z⟩ := un_nil_some.1 h'6
    exact (set_DeleteFunc_5_e @set_DeleteFunc_5_L kx' kr' (set_DeleteFunc_5_L kx' kr' n') s0 s1 now r j i).symm.trans h'Z
  · intro b' hb
    rw [show loopsOf (bodyAt (fb Go.Proofs.Tryz.f169) 0) = [] by kernel_rfl] at hb
    cases hb
theorem set_DeleteFunc_ed (L5 : ({β : Type} → (Nat → List Leaf → Option β) → (List Leaf → Option β) → Nat → List Int → List Int → Int → Int → Int → Int → Option β)) (s0 : List Int) (s1 : List Int) (now : Int) (r : Int) : set_DeleteFunc_d @L5 s0 s1 now r = den G40 (set_DeleteFunc_Λd @L5) false tab Go.Proofs.Tryz.f169.ntmps (fun fr H => finish tab 3 Go.Proofs.Tryz.f169.results.toList set_DeleteFunc_out [3] fr H some) (fun _ _ _ => none) (fun fr H => finish tab 3 Go.Proofs.Tryz.f169.results.toList set_DeleteFunc_out [3] fr H some) 10000 [.code (fb Go.Proofs.Tryz.f169)] (instFr set_DeleteFunc_in [.li s0, .li s1, .i now, .i r]) (instH set_DeleteFunc_in [.li s0, .li s1, .i now, .i r]) := by kernel_rfl
theorem set_DeleteFunc_e (s0 : List Int) (s1 : List Int) (now : Int) (r : Int) : set_DeleteFunc s0 s1 now r = den G40 set_DeleteFunc_Λ false tab Go.Proofs.Tryz.f169.ntmps (fun fr H => finish tab 3 Go.Proofs.Tryz.f169.results.toList set_DeleteFunc_out [3] fr H some) (fun _ _ _ => none) (fun fr H => finish tab 3 Go.Proofs.Tryz.f169.results.toList set_DeleteFunc_out [3] fr H some) 10000 [.code (fb Go.Proofs.Tryz.f169)] (instFr set_DeleteFunc_in [.li s0, .li s1, .i now, .i r]) (instH set_DeleteFunc_in [.li s0, .li s1, .i now, .i r]) := set_DeleteFunc_ed @set_DeleteFunc_5_L s0 s1 now r
def set_DeleteFunc_S : List Leaf → Option (List Leaf) := fun ls => un_li ls fun s0 rr => un_li rr fun s1 rr => un_i rr fun now rr => un_i rr fun r rr => un_nil rr (set_DeleteFunc s0 s1 now r)
def set_DeleteFunc_SC : Tld := fun ls k' => un_li ls fun s0 rr => un_li rr fun s1 rr => un_i rr fun now rr => un_i rr fun r rr => un_nil rr (out (set_DeleteFunc s0 s1 now r) k')
theorem set_DeleteFunc_Se (s0 : List Int) (s1 : List Int) (now : Int) (r : Int) : set_DeleteFunc_S [.li s0, .li s1, .i now, .i r] = set_DeleteFunc s0 s1 now r := by
  unfold set_DeleteFunc_S
  simp only [un_i_ev, un_b_ev, un_s_ev, un_li_ev, un_lb_ev, un_ls_ev, un_nil_ev]
theorem set_DeleteFunc_says : Says set_DeleteFunc_SC set_DeleteFunc_S := by
  intro β ls' k' r' h'
  unfold set_DeleteFunc_SC at h'
  obtain ⟨s0, l'1, rfl, h'1⟩ := un_li_some.1 h'
  obtain ⟨s1, l'2, rfl, h'2⟩ := un_li_some.1 h'1
  obtain ⟨now, l'3, rfl, h'3⟩ := un_i_some.1 h'2
  obtain ⟨r, l'4, rfl, h'4⟩ := un_i_some.1 h'3
  obtain ⟨rfl, h'Z⟩ := un_nil_some.1 h'4
  obtain ⟨l', a', b'⟩ := out_some.1 h'Z
  exact ⟨l', (set_DeleteFunc_Se s0 s1 now r).trans a', b'⟩
theorem set_DeleteFunc_c : FnC Go.Proofs.Tryz.prog 169 false 2 3 set_DeleteFunc_in set_DeleteFunc_out set_DeleteFunc_S := by
  refine fn_ok (Λ := set_DeleteFunc_Λ) mixed tab_ok g40 Go.Proofs.Tryz.func169 (by kernel_rfl) (body := fb Go.Proofs.Tryz.f169) rfl (ts := Go.Proofs.Tryz.f169.results.toList) rfl (cuts := [3]) (by kernel_rfl) (Nat.le_of_ble_eq_true (by kernel_rfl)) (by kernel_rfl) (rt := .w (.at (.all 3 2))) rfl ?_ ?_
  · intro ls' r' h'
    unfold set_DeleteFunc_S at h'
    obtain ⟨s0, l'1, rfl, h'1⟩ := un_li_some.1 h'
    obtain ⟨s1, l'2, rfl, h'2⟩ := un_li_some.1 h'1
    obtain ⟨now, l'3, rfl, h'3⟩ := un_i_some.1 h'2
    obtain ⟨r, l'4, rfl, h'4⟩ := un_i_some.1 h'3
    obtain ⟨rfl, h'Z⟩ := un_nil_some.1 h'4
    exact (set_DeleteFunc_e s0 s1 now r).symm.trans h'Z
  · intro E w0 ws ρ0 hk b hb
    rw [show loopsOf (fb Go.Proofs.Tryz.f169) = [(bodyAt (fb Go.Proofs.Tryz.f169) 0)] by kernel_rfl] at hb
    simp only [List.mem_cons, List.mem_nil_iff, or_false] at hb
    rcases hb with rfl
    · exact set_DeleteFunc_5_lok E w0 ws ρ0 hk
noncomputable def G41 : Env := G40.addE 169 2 set_DeleteFunc_in set_DeleteFunc_out set_DeleteFunc_SC
theorem g41 : EnvOk Go.Proofs.Tryz.prog G41 := EnvOk.addE g40 set_DeleteFunc_c set_DeleteFunc_says

-- ### rset_Update: function 155
def rset_Update_in : Tm := ⟨[.cells 181 [.all 1 2], .row 178 2 [.int .i64, .int .u64]], [(0, .w (.at (.ptr 0 0))), (1, .w (.at (.int .u64))), (2, .w (.at (.int .i64))), (3, .w (.at (.int .i64)))]⟩
def rset_Update_out : Tm := ⟨[.cells 181 [.all 2 2], .dead, .row 178 2 [.int .i64, .int .u64]], [(0, .tup [])]⟩

def rset_Update_Λd : Loops := Loops.none
def rset_Update_Λ : Loops := rset_Update_Λd 

theorem rset_Update_e (s_l0 : List Int) (s_l1 : List Int) (x : Int) (now : Int) (r : Int) : rset_Update s_l0 s_l1 x now r = den G41 rset_Update_Λ false tab Go.Proofs.Tryz.f155.ntmps (fun fr H => finish tab 2 Go.Proofs.Tryz.f155.results.toList rset_Update_out [] fr H some) (fun _ _ _ => none) (fun fr H => finish tab 2 Go.Proofs.Tryz.f155.results.toList rset_Update_out [] fr H some) 10000 [.code (fb Go.Proofs.Tryz.f155)] (instFr rset_Update_in [.li s_l0, .li s_l1, .i x, .i now, .i r]) (instH rset_Update_in [.li s_l0, .li s_l1, .i x, .i now, .i r]) := by kernel_rfl
def rset_Update_S : List Leaf → Option (List Leaf) := fun ls => un_li ls fun s_l0 rr => un_li rr fun s_l1 rr => un_i rr fun x rr => un_i rr fun now rr => un_i rr fun r rr => un_nil rr (rset_Update s_l0 s_l1 x now r)
def rset_Update_SC : Tld := fun ls k' => un_li ls fun s_l0 rr => un_li rr fun s_l1 rr => un_i rr fun x rr => un_i rr fun now rr => un_i rr fun r rr => un_nil rr (out (rset_Update s_l0 s_l1 x now r) k')
theorem rset_Update_Se (s_l0 : List Int) (s_l1 : List Int) (x : Int) (now : Int) (r : Int) : rset_Update_S [.li s_l0, .li s_l1, .i x, .i now, .i r] = rset_Update s_l0 s_l1 x now r := by
  unfold rset_Update_S
  simp only [un_i_ev, un_b_ev, un_s_ev, un_li_ev, un_lb_ev, un_ls_ev, un_nil_ev]
theorem rset_Update_says : Says rset_Update_SC rset_Update_S := by
  intro β ls' k' r' h'
  unfold rset_Update_SC at h'
  obtain ⟨s_l0, l'1, rfl, h'1⟩ := un_li_some.1 h'
  obtain ⟨s_l1, l'2, rfl, h'2⟩ := un_li_some.1 h'1
  obtain ⟨x, l'3, rfl, h'3⟩ := un_i_some.1 h'2
  obtain ⟨now, l'4, rfl, h'4⟩ := un_i_some.1 h'3
  obtain ⟨r, l'5, rfl, h'5⟩ := un_i_some.1 h'4
  obtain ⟨rfl, h'Z⟩ := un_nil_some.1 h'5
  obtain ⟨l', a', b'⟩ := out_some.1 h'Z
  exact ⟨l', (rset_Update_Se s_l0 s_l1 x now r).trans a', b'⟩
theorem rset_Update_c : FnC Go.Proofs.Tryz.prog 155 false 4 2 rset_Update_in rset_Update_out rset_Update_S := by
  refine fn_ok (Λ := rset_Update_Λ) mixed tab_ok g41 Go.Proofs.Tryz.func155 (by kernel_rfl) (body := fb Go.Proofs.Tryz.f155) rfl (ts := Go.Proofs.Tryz.f155.results.toList) rfl (cuts := []) (by kernel_rfl) (Nat.le_of_ble_eq_true (by kernel_rfl)) (by kernel_rfl) (rt := .tup []) rfl ?_ ?_
  · intro ls' r' h'
    unfold rset_Update_S at h'
    obtain ⟨s_l0, l'1, rfl, h'1⟩ := un_li_some.1 h'
    obtain ⟨s_l1, l'2, rfl, h'2⟩ := un_li_some.1 h'1
    obtain ⟨x, l'3, rfl, h'3⟩ := un_i_some.1 h'2
    obtain ⟨now, l'4, rfl, h'4⟩ := un_i_some.1 h'3
    obtain ⟨r, l'5, rfl, h'5⟩ := un_i_some.1 h'4
    obtain ⟨rfl, h'Z⟩ := un_nil_some.1 h'5
    exact (rset_Update_e s_l0 s_l1 x now r).symm.trans h'Z
  · intro E w0 ws ρ0 hk b hb
    rw [show loopsOf (fb Go.Proofs.Tryz.f155) = [] by kernel_rfl] at hb
    cases hb
noncomputable def G42 : Env := G41.addE 155 4 rset_Update_in rset_Update_out rset_Update_SC
theorem g42 : EnvOk Go.Proofs.Tryz.prog G42 := EnvOk.addE g41 rset_Update_c rset_Update_says
end Go.Sx.T

