import Derived.Test.YtabdgalicaifhaaGreatDoorYGotSpec
import Derived.Test.YtabdgalicaifhaaGreatDoorYVecCon
set_option linter.all false
namespace Go.Sx.T
open Go Go.Sx Go.Proofs
set_option maxRecDepth 100000

-- ### got_New: function 37
def got_New_in : Tm := ⟨[], []⟩
def got_New_out : Tm := ⟨[.cells 113 [.map 1, .int .u64, .bool, .int .u64, .bool], .map .u64 (.int .i64)], [(0, .w (.at (.ptr 0 0)))]⟩

def got_New_Λd : Loops := Loops.none
def got_New_Λ : Loops := got_New_Λd 

theorem got_New_e  : got_New  = den G30 got_New_Λ false tab Go.Proofs.Tryz.f37.ntmps (fun fr H => finish tab 0 Go.Proofs.Tryz.f37.results.toList got_New_out [] fr H some) (fun _ _ _ => none) (fun fr H => finish tab 0 Go.Proofs.Tryz.f37.results.toList got_New_out [] fr H some) 10000 [.code (fb Go.Proofs.Tryz.f37)] (instFr got_New_in []) (instH got_New_in []) := by kernel_rfl
def got_New_S : List Leaf → Option (List Leaf) := fun ls => un_nil ls (got_New )
def got_New_SC : Tld := fun ls k' => un_nil ls (out (got_New ) k')
theorem got_New_Se  : got_New_S [] = got_New  := by
  unfold got_New_S
  simp only [un_i_ev, un_b_ev, un_s_ev, un_li_ev, un_lb_ev, un_ls_ev, un_nil_ev]
theorem got_New_says : Says got_New_SC got_New_S := by
  intro β ls' k' r' h'
  unfold got_New_SC at h'
  obtain ⟨rfl, h'Z⟩ := un_nil_some.1 h'
  obtain ⟨l', a', b'⟩ := out_some.1 h'Z
  exact ⟨l', (got_New_Se ).trans a', b'⟩
theorem got_New_c : FnC Go.Proofs.Tryz.prog 37 false 0 0 got_New_in got_New_out got_New_S := by
  refine fn_ok (Λ := got_New_Λ) mixed tab_ok g30 Go.Proofs.Tryz.func37 (by kernel_rfl) (body := fb Go.Proofs.Tryz.f37) rfl (ts := Go.Proofs.Tryz.f37.results.toList) rfl (cuts := []) (by kernel_rfl) (Nat.le_of_ble_eq_true (by kernel_rfl)) (by kernel_rfl) (rt := .w (.at (.ptr 0 0))) rfl ?_ ?_
  · intro ls' r' h'
    unfold got_New_S at h'
    obtain ⟨rfl, h'Z⟩ := un_nil_some.1 h'
    exact (got_New_e ).symm.trans h'Z
  · intro E w0 ws ρ0 hk b hb
    rw [show loopsOf (fb Go.Proofs.Tryz.f37) = [] by kernel_rfl] at hb
    cases hb
noncomputable def G48 : Env := G30.addE 37 0 got_New_in got_New_out got_New_SC
theorem g48 : EnvOk Go.Proofs.Tryz.prog G48 := EnvOk.addE g30 got_New_c got_New_says

-- ### got_Has: function 40
def got_Has_in : Tm := ⟨[.cells 113 [.map 1, .int .u64, .bool, .int .u64, .bool], .map .u64 (.int .i64)], [(0, .w (.at (.ptr 0 0))), (1, .w (.at (.int .u64)))]⟩
def got_Has_out : Tm := ⟨[.dead, .dead], [(0, .w (.at (.bool)))]⟩

def got_Has_Λd : Loops := Loops.none
def got_Has_Λ : Loops := got_Has_Λd 

theorem got_Has_e (g_l_k : List Int) (g_l_v : List Int) (g_newest : Int) (g_any : Bool) (g_forgotten : Int) (g_forgot : Bool) (s : Int) : got_Has g_l_k g_l_v g_newest g_any g_forgotten g_forgot s = den G48 got_Has_Λ true tab Go.Proofs.Tryz.f40.ntmps (fun fr H => finish tab 2 Go.Proofs.Tryz.f40.results.toList got_Has_out [] fr H some) (fun _ _ _ => none) (fun fr H => finish tab 2 Go.Proofs.Tryz.f40.results.toList got_Has_out [] fr H some) 10000 [.code (fb Go.Proofs.Tryz.f40)] (instFr got_Has_in [.li g_l_k, .li g_l_v, .i g_newest, .b g_any, .i g_forgotten, .b g_forgot, .i s]) (instH got_Has_in [.li g_l_k, .li g_l_v, .i g_newest, .b g_any, .i g_forgotten, .b g_forgot, .i s]) := by kernel_rfl
def got_Has_S : List Leaf → Option (List Leaf) := fun ls => un_li ls fun g_l_k rr => un_li rr fun g_l_v rr => un_i rr fun g_newest rr => un_b rr fun g_any rr => un_i rr fun g_forgotten rr => un_b rr fun g_forgot rr => un_i rr fun s rr => un_nil rr (got_Has g_l_k g_l_v g_newest g_any g_forgotten g_forgot s)
def got_Has_SC : Tld := fun ls k' => un_li ls fun g_l_k rr => un_li rr fun g_l_v rr => un_i rr fun g_newest rr => un_b rr fun g_any rr => un_i rr fun g_forgotten rr => un_b rr fun g_forgot rr => un_i rr fun s rr => un_nil rr (out (got_Has g_l_k g_l_v g_newest g_any g_forgotten g_forgot s) k')
theorem got_Has_Se (g_l_k : List Int) (g_l_v : List Int) (g_newest : Int) (g_any : Bool) (g_forgotten : Int) (g_forgot : Bool) (s : Int) : got_Has_S [.li g_l_k, .li g_l_v, .i g_newest, .b g_any, .i g_forgotten, .b g_forgot, .i s] = got_Has g_l_k g_l_v g_newest g_any g_forgotten g_forgot s := by
  unfold got_Has_S
  simp only [un_i_ev, un_b_ev, un_s_ev, un_li_ev, un_lb_ev, un_ls_ev, un_nil_ev]
theorem got_Has_says : Says got_Has_SC got_Has_S := by
  intro β ls' k' r' h'
  unfold got_Has_SC at h'
  obtain ⟨g_l_k, l'1, rfl, h'1⟩ := un_li_some.1 h'
  obtain ⟨g_l_v, l'2, rfl, h'2⟩ := un_li_some.1 h'1
  obtain ⟨g_newest, l'3, rfl, h'3⟩ := un_i_some.1 h'2
  obtain ⟨g_any, l'4, rfl, h'4⟩ := un_b_some.1 h'3
  obtain ⟨g_forgotten, l'5, rfl, h'5⟩ := un_i_some.1 h'4
  obtain ⟨g_forgot, l'6, rfl, h'6⟩ := un_b_some.1 h'5
  obtain ⟨s, l'7, rfl, h'7⟩ := un_i_some.1 h'6
  obtain ⟨rfl, h'Z⟩ := un_nil_some.1 h'7
  obtain ⟨l', a', b'⟩ := out_some.1 h'Z
  exact ⟨l', (got_Has_Se g_l_k g_l_v g_newest g_any g_forgotten g_forgot s).trans a', b'⟩
theorem got_Has_c : FnC Go.Proofs.Tryz.prog 40 true 2 2 got_Has_in got_Has_out got_Has_S := by
  refine fn_ok (Λ := got_Has_Λ) mixed tab_ok g48 Go.Proofs.Tryz.func40 (by kernel_rfl) (body := fb Go.Proofs.Tryz.f40) rfl (ts := Go.Proofs.Tryz.f40.results.toList) rfl (cuts := []) (by kernel_rfl) (Nat.le_of_ble_eq_true (by kernel_rfl)) (by kernel_rfl) (rt := .w (.at (.bool))) rfl ?_ ?_
  · intro ls' r' h'
    unfold got_Has_S at h'
    obtain ⟨g_l_k, l'1, rfl, h'1⟩ := un_li_some.1 h'
    obtain ⟨g_l_v, l'2, rfl, h'2⟩ := un_li_some.1 h'1
    obtain ⟨g_newest, l'3, rfl, h'3⟩ := un_i_some.1 h'2
    obtain ⟨g_any, l'4, rfl, h'4⟩ := un_b_some.1 h'3
    obtain ⟨g_forgotten, l'5, rfl, h'5⟩ := un_i_some.1 h'4
    obtain ⟨g_forgot, l'6, rfl, h'6⟩ := un_b_some.1 h'5
    obtain ⟨s, l'7, rfl, h'7⟩ := un_i_some.1 h'6
    obtain ⟨rfl, h'Z⟩ := un_nil_some.1 h'7
    exact (got_Has_e g_l_k g_l_v g_newest g_any g_forgotten g_forgot s).symm.trans h'Z
  · intro E w0 ws ρ0 hk b hb
    rw [show loopsOf (fb Go.Proofs.Tryz.f40) = [] by kernel_rfl] at hb
    cases hb
noncomputable def G49 : Env := G48.addP 40 2 got_Has_in got_Has_out got_Has_SC
theorem g49 : EnvOk Go.Proofs.Tryz.prog G49 := EnvOk.addP g48 got_Has_c got_Has_says

-- ### got_Put: function 38
def got_Put_in : Tm := ⟨[.cells 113 [.map 1, .int .u64, .bool, .int .u64, .bool], .map .u64 (.int .i64)], [(0, .w (.at (.ptr 0 0))), (1, .w (.at (.int .u64))), (2, .w (.at (.bool)))]⟩
def got_Put_out : Tm := ⟨[.cells 113 [.map 1, .int .u64, .bool, .int .u64, .bool], .map .u64 (.int .i64)], [(0, .w (.at (.bool)))]⟩

def got_Put_Λd : Loops := Loops.none
def got_Put_Λ : Loops := got_Put_Λd 

theorem got_Put_e (g_l_k : List Int) (g_l_v : List Int) (g_newest : Int) (g_any : Bool) (g_forgotten : Int) (g_forgot : Bool) (s : Int) (mark : Bool) : got_Put g_l_k g_l_v g_newest g_any g_forgotten g_forgot s mark = den G49 got_Put_Λ false tab Go.Proofs.Tryz.f38.ntmps (fun fr H => finish tab 2 Go.Proofs.Tryz.f38.results.toList got_Put_out [] fr H some) (fun _ _ _ => none) (fun fr H => finish tab 2 Go.Proofs.Tryz.f38.results.toList got_Put_out [] fr H some) 10000 [.code (fb Go.Proofs.Tryz.f38)] (instFr got_Put_in [.li g_l_k, .li g_l_v, .i g_newest, .b g_any, .i g_forgotten, .b g_forgot, .i s, .b mark]) (instH got_Put_in [.li g_l_k, .li g_l_v, .i g_newest, .b g_any, .i g_forgotten, .b g_forgot, .i s, .b mark]) := by kernel_rfl
def got_Put_S : List Leaf → Option (List Leaf) := fun ls => un_li ls fun g_l_k rr => un_li rr fun g_l_v rr => un_i rr fun g_newest rr => un_b rr fun g_any rr => un_i rr fun g_forgotten rr => un_b rr fun g_forgot rr => un_i rr fun s rr => un_b rr fun mark rr => un_nil rr (got_Put g_l_k g_l_v g_newest g_any g_forgotten g_forgot s mark)
def got_Put_SC : Tld := fun ls k' => un_li ls fun g_l_k rr => un_li rr fun g_l_v rr => un_i rr fun g_newest rr => un_b rr fun g_any rr => un_i rr fun g_forgotten rr => un_b rr fun g_forgot rr => un_i rr fun s rr => un_b rr fun mark rr => un_nil rr (out (got_Put g_l_k g_l_v g_newest g_any g_forgotten g_forgot s mark) k')
theorem got_Put_Se (g_l_k : List Int) (g_l_v : List Int) (g_newest : Int) (g_any : Bool) (g_forgotten : Int) (g_forgot : Bool) (s : Int) (mark : Bool) : got_Put_S [.li g_l_k, .li g_l_v, .i g_newest, .b g_any, .i g_forgotten, .b g_forgot, .i s, .b mark] = got_Put g_l_k g_l_v g_newest g_any g_forgotten g_forgot s mark := by
  unfold got_Put_S
  simp only [un_i_ev, un_b_ev, un_s_ev, un_li_ev, un_lb_ev, un_ls_ev, un_nil_ev]
theorem got_Put_says : Says got_Put_SC got_Put_S := by
  intro β ls' k' r' h'
  unfold got_Put_SC at h'
  obtain ⟨g_l_k, l'1, rfl, h'1⟩ := un_li_some.1 h'
  obtain ⟨g_l_v, l'2, rfl, h'2⟩ := un_li_some.1 h'1
  obtain ⟨g_newest, l'3, rfl, h'3⟩ := un_i_some.1 h'2
  obtain ⟨g_any, l'4, rfl, h'4⟩ := un_b_some.1 h'3
  obtain ⟨g_forgotten, l'5, rfl, h'5⟩ := un_i_some.1 h'4
  obtain ⟨g_forgot, l'6, rfl, h'6⟩ := un_b_some.1 h'5
  obtain ⟨s, l'7, rfl, h'7⟩ := un_i_some.1 h'6
  obtain ⟨mark, l'8, rfl, h'8⟩ := un_b_some.1 h'7
  obtain ⟨rfl, h'Z⟩ := un_nil_some.1 h'8
  obtain ⟨l', a', b'⟩ := out_some.1 h'Z
  exact ⟨l', (got_Put_Se g_l_k g_l_v g_newest g_any g_forgotten g_forgot s mark).trans a', b'⟩
theorem got_Put_c : FnC Go.Proofs.Tryz.prog 38 false 3 2 got_Put_in got_Put_out got_Put_S := by
  refine fn_ok (Λ := got_Put_Λ) mixed tab_ok g49 Go.Proofs.Tryz.func38 (by kernel_rfl) (body := fb Go.Proofs.Tryz.f38) rfl (ts := Go.Proofs.Tryz.f38.results.toList) rfl (cuts := []) (by kernel_rfl) (Nat.le_of_ble_eq_true (by kernel_rfl)) (by kernel_rfl) (rt := .w (.at (.bool))) rfl ?_ ?_
  · intro ls' r' h'
    unfold got_Put_S at h'
    obtain ⟨g_l_k, l'1, rfl, h'1⟩ := un_li_some.1 h'
    obtain ⟨g_l_v, l'2, rfl, h'2⟩ := un_li_some.1 h'1
    obtain ⟨g_newest, l'3, rfl, h'3⟩ := un_i_some.1 h'2
    obtain ⟨g_any, l'4, rfl, h'4⟩ := un_b_some.1 h'3
    obtain ⟨g_forgotten, l'5, rfl, h'5⟩ := un_i_some.1 h'4
    obtain ⟨g_forgot, l'6, rfl, h'6⟩ := un_b_some.1 h'5
    obtain ⟨s, l'7, rfl, h'7⟩ := un_i_some.1 h'6
    obtain ⟨mark, l'8, rfl, h'8⟩ := un_b_some.1 h'7
    obtain ⟨rfl, h'Z⟩ := un_nil_some.1 h'8
    exact (got_Put_e g_l_k g_l_v g_newest g_any g_forgotten g_forgot s mark).symm.trans h'Z
  · intro E w0 ws ρ0 hk b hb
    rw [show loopsOf (fb Go.Proofs.Tryz.f38) = [] by kernel_rfl] at hb
    cases hb
noncomputable def G50 : Env := G49.addE 38 3 got_Put_in got_Put_out got_Put_SC
theorem g50 : EnvOk Go.Proofs.Tryz.prog G50 := EnvOk.addE g49 got_Put_c got_Put_says

-- ### got_Cells: function 39
def got_Cells_in : Tm := ⟨[.cells 113 [.map 1, .int .u64, .bool, .int .u64, .bool], .map .u64 (.int .i64)], [(0, .w (.at (.ptr 0 0)))]⟩
def got_Cells_out : Tm := ⟨[.cells 113 [.map 1, .int .u64, .bool, .int .u64, .bool], .map .u64 (.int .i64), .row 36 2 [.int .i64, .int .i64]], [(0, .w (.at (.all 2 2)))]⟩
def got_Cells_5_T : Tm := ⟨[.cells 113 [.map 1, .int .u64, .bool, .int .u64, .bool], .map .u64 (.int .i64), .row 3 1 [.int .i64]], [(5, .w (.at (.int .u64))), (3, .w (.at (.all 2 1))), (4, .w (.at (.int .i64))), (0, .w (.at (.ptr 0 0)))]⟩
def got_Cells_5_X0 : Tm := ⟨[.cells 113 [.map 1, .int .u64, .bool, .int .u64, .bool], .map .u64 (.int .i64), .row 3 1 [.int .i64]], [(3, .w (.at (.all 2 1)))]⟩
def got_Cells_5_X : Exits := [(0, (got_Cells_5_X0, []))]
def got_Cells_5_R : Tm := ⟨[], []⟩

def got_Cells_Λd (L5 : ({β : Type} → (Nat → List Leaf → Option β) → (List Leaf → Option β) → Nat → List Int → List Int → List Int → Int → Bool → Int → Bool → Int → Int → Option β)) : Loops := ⟨fun b fr H kx kr => bif Nat.beq (rid b) 5 then loopE 2 got_Cells_5_T [] got_Cells_5_X got_Cells_5_R (got_Cells_5_F @L5 top) fr H kx kr else none⟩
def got_Cells_Λ : Loops := got_Cells_Λd @got_Cells_5_L
theorem got_Cells_5_e (L5 : ({β : Type} → (Nat → List Leaf → Option β) → (List Leaf → Option β) → Nat → List Int → List Int → List Int → Int → Bool → Int → Bool → Int → Int → Option β)) {α : Type} (kx : Nat → List Leaf → Option α) (kr : List Leaf → Option α) (again : List Int → List Int → List Int → Int → Bool → Int → Bool → Int → Int → Option α) (g_l_k : List Int) (g_l_v : List Int) (states : List Int) (g_newest : Int) (g_any : Bool) (g_forgotten : Int) (g_forgot : Bool) (n2 : Int) (left : Int) : got_Cells_5_B  kx kr again g_l_k g_l_v states g_newest g_any g_forgotten g_forgot n2 left = loopB G50 (got_Cells_Λd @L5) false tab Go.Proofs.Tryz.f39.ntmps 2 got_Cells_5_T [] got_Cells_5_X got_Cells_5_R (bodyAt (fb Go.Proofs.Tryz.f39) 0) (fun ls => un_li ls fun g_l_k rr => un_li rr fun g_l_v rr => un_li rr fun states rr => un_i rr fun g_newest rr => un_b rr fun g_any rr => un_i rr fun g_forgotten rr => un_b rr fun g_forgot rr => un_i rr fun n2 rr => un_i rr fun left rr => un_nil rr (again g_l_k g_l_v states g_newest g_any g_forgotten g_forgot n2 left)) kx kr (instFr got_Cells_5_T [.li g_l_k, .li g_l_v, .li states, .i g_newest, .b g_any, .i g_forgotten, .b g_forgot, .i n2, .i left]) (instH got_Cells_5_T [.li g_l_k, .li g_l_v, .li states, .i g_newest, .b g_any, .i g_forgotten, .b g_forgot, .i n2, .i left]) := by kernel_rfl
theorem got_Cells_5_lok (E : Nat → Prop) (w0 ws : World) (ρ0 : List Pl) (hk : ρ0.length = 2) : LOk Go.Proofs.Tryz.prog 39 Go.Proofs.Tryz.f39 false E w0 ws Go.Proofs.Tryz.f39.ntmps ρ0 got_Cells_Λ (bodyAt (fb Go.Proofs.Tryz.f39) 0) := by
  refine lok mixed tab_ok g50 Go.Proofs.Tryz.func39 hk (T := got_Cells_5_T) (rt := got_Cells_5_R) (cuts := []) (ex := got_Cells_5_X) (top := top) (F := got_Cells_5_F @got_Cells_5_L) (fun fr H kx kr => by kernel_rfl) ?_ ?_ ?_
  · intro α ls' kx' kr' r' h'
    unfold got_Cells_5_F at h'
    obtain ⟨g_l_k, l'1, rfl, h'1⟩ := un_li_some.1 h'
    obtain ⟨g_l_v, l'2, rfl, h'2⟩ := un_li_some.1 h'1
    obtain ⟨states, l'3, rfl, h'3⟩ := un_li_some.1 h'2
    obtain ⟨g_newest, l'4, rfl, h'4⟩ := un_i_some.1 h'3
    obtain ⟨g_any, l'5, rfl, h'5⟩ := un_b_some.1 h'4
    obtain ⟨g_forgotten, l'6, rfl, h'6⟩ := un_i_some.1 h'5
    obtain ⟨g_forgot, l'7, rfl, h'7⟩ := un_b_some.1 h'6
    obtain ⟨n2, l'8, rfl, h'8⟩ := un_i_some.1 h'7
    obtain ⟨left, l'9, rfl, h'9⟩ := un_i_some.1 h'8
    obtain ⟨rfl, h'Z⟩ := un_nil_some.1 h'9
    cases h'Z
  · intro α n' ls' kx' kr' r' h'
    unfold got_Cells_5_F at h'
    obtain ⟨g_l_k, l'1, rfl, h'1⟩ := un_li_some.1 h'
    obtain ⟨g_l_v, l'2, rfl, h'2⟩ := un_li_some.1 h'1
    obtain ⟨states, l'3, rfl, h'3⟩ := un_li_some.1 h'2
    obtain ⟨g_newest, l'4, rfl, h'4⟩ := un_i_some.1 h'3
    obtain ⟨g_any, l'5, rfl, h'5⟩ := un_b_some.1 h'4
    obtain ⟨g_forgotten, l'6, rfl, h'6⟩ := un_i_some.1 h'5
    obtain ⟨g_forgot, l'7, rfl, h'7⟩ := un_b_some.1 h'6
    obtain ⟨n2, l'8, rfl, h'8⟩ := un_i_some.1 h'7
    obtain ⟨left, l'9, rfl, h'9⟩ := un_i_some.1 h'8
    obtain ⟨rfl, h'Z⟩ := un_nil_some.1 h'9
    exact (got_Cells_5_e @got_Cells_5_L kx' kr' (got_Cells_5_L kx' kr' n') g_l_k g_l_v states g_newest g_any g_forgotten g_forgot n2 left).symm.trans h'Z
  · intro b' hb
    rw [show loopsOf (bodyAt (fb Go.Proofs.Tryz.f39) 0) = [] by kernel_rfl] at hb
    cases hb
theorem got_Cells_ed (L5 : ({β : Type} → (Nat → List Leaf → Option β) → (List Leaf → Option β) → Nat → List Int → List Int → List Int → Int → Bool → Int → Bool → Int → Int → Option β)) (g_l_k : List Int) (g_l_v : List Int) (g_newest : Int) (g_any : Bool) (g_forgotten : Int) (g_forgot : Bool) : got_Cells_d @L5 g_l_k g_l_v g_newest g_any g_forgotten g_forgot = den G50 (got_Cells_Λd @L5) false tab Go.Proofs.Tryz.f39.ntmps (fun fr H => finish tab 2 Go.Proofs.Tryz.f39.results.toList got_Cells_out [] fr H some) (fun _ _ _ => none) (fun fr H => finish tab 2 Go.Proofs.Tryz.f39.results.toList got_Cells_out [] fr H some) 10000 [.code (fb Go.Proofs.Tryz.f39)] (instFr got_Cells_in [.li g_l_k, .li g_l_v, .i g_newest, .b g_any, .i g_forgotten, .b g_forgot]) (instH got_Cells_in [.li g_l_k, .li g_l_v, .i g_newest, .b g_any, .i g_forgotten, .b g_forgot]) := by kernel_rfl
theorem got_Cells_e (g_l_k : List Int) (g_l_v : List Int) (g_newest : Int) (g_any : Bool) (g_forgotten : Int) (g_forgot : Bool) : got_Cells g_l_k g_l_v g_newest g_any g_forgotten g_forgot = den G50 got_Cells_Λ false tab Go.Proofs.Tryz.f39.ntmps (fun fr H => finish tab 2 Go.Proofs.Tryz.f39.results.toList got_Cells_out [] fr H some) (fun _ _ _ => none) (fun fr H => finish tab 2 Go.Proofs.Tryz.f39.results.toList got_Cells_out [] fr H some) 10000 [.code (fb Go.Proofs.Tryz.f39)] (instFr got_Cells_in [.li g_l_k, .li g_l_v, .i g_newest, .b g_any, .i g_forgotten, .b g_forgot]) (instH got_Cells_in [.li g_l_k, .li g_l_v, .i g_newest, .b g_any, .i g_forgotten, .b g_forgot]) := got_Cells_ed @got_Cells_5_L g_l_k g_l_v g_newest g_any g_forgotten g_forgot
def got_Cells_S : List Leaf → Option (List Leaf) := fun ls => un_li ls fun g_l_k rr => un_li rr fun g_l_v rr => un_i rr fun g_newest rr => un_b rr fun g_any rr => un_i rr fun g_forgotten rr => un_b rr fun g_forgot rr => un_nil rr (got_Cells g_l_k g_l_v g_newest g_any g_forgotten g_forgot)
def got_Cells_SC : Tld := fun ls k' => un_li ls fun g_l_k rr => un_li rr fun g_l_v rr => un_i rr fun g_newest rr => un_b rr fun g_any rr => un_i rr fun g_forgotten rr => un_b rr fun g_forgot rr => un_nil rr (out (got_Cells g_l_k g_l_v g_newest g_any g_forgotten g_forgot) k')
theorem got_Cells_Se (g_l_k : List Int) (g_l_v : List Int) (g_newest : Int) (g_any : Bool) (g_forgotten : Int) (g_forgot : Bool) : got_Cells_S [.li g_l_k, .li g_l_v, .i g_newest, .b g_any, .i g_forgotten, .b g_forgot] = got_Cells g_l_k g_l_v g_newest g_any g_forgotten g_forgot := by
  unfold got_Cells_S
  simp only [un_i_ev, un_b_ev, un_s_ev, un_li_ev, un_lb_ev, un_ls_ev, un_nil_ev]
theorem got_Cells_says : Says got_Cells_SC got_Cells_S := by
  intro β ls' k' r' h'
  unfold got_Cells_SC at h'
  obtain ⟨g_l_k, l'1, rfl, h'1⟩ := un_li_some.1 h'
  obtain ⟨g_l_v, l'2, rfl, h'2⟩ := un_li_some.1 h'1
  obtain ⟨g_newest, l'3, rfl, h'3⟩ := un_i_some.1 h'2
  obtain ⟨g_any, l'4, rfl, h'4⟩ := un_b_some.1 h'3
  obtain ⟨g_forgotten, l'5, rfl, h'5⟩ := un_i_some.1 h'4
  obtain ⟨g_forgot, l'6, rfl, h'6⟩ := un_b_some.1 h'5
  obtain ⟨rfl, h'Z⟩ := un_nil_some.1 h'6
  obtain ⟨l', a', b'⟩ := out_some.1 h'Z
  exact ⟨l', (got_Cells_Se g_l_k g_l_v g_newest g_any g_forgotten g_forgot).trans a', b'⟩
theorem got_Cells_c : FnC Go.Proofs.Tryz.prog 39 false 1 2 got_Cells_in got_Cells_out got_Cells_S := by
  refine fn_ok (Λ := got_Cells_Λ) mixed tab_ok g50 Go.Proofs.Tryz.func39 (by kernel_rfl) (body := fb Go.Proofs.Tryz.f39) rfl (ts := Go.Proofs.Tryz.f39.results.toList) rfl (cuts := []) (by kernel_rfl) (Nat.le_of_ble_eq_true (by kernel_rfl)) (by kernel_rfl) (rt := .w (.at (.all 2 2))) rfl ?_ ?_
  · intro ls' r' h'
    unfold got_Cells_S at h'
    obtain ⟨g_l_k, l'1, rfl, h'1⟩ := un_li_some.1 h'
    obtain ⟨g_l_v, l'2, rfl, h'2⟩ := un_li_some.1 h'1
    obtain ⟨g_newest, l'3, rfl, h'3⟩ := un_i_some.1 h'2
    obtain ⟨g_any, l'4, rfl, h'4⟩ := un_b_some.1 h'3
    obtain ⟨g_forgotten, l'5, rfl, h'5⟩ := un_i_some.1 h'4
    obtain ⟨g_forgot, l'6, rfl, h'6⟩ := un_b_some.1 h'5
    obtain ⟨rfl, h'Z⟩ := un_nil_some.1 h'6
    exact (got_Cells_e g_l_k g_l_v g_newest g_any g_forgotten g_forgot).symm.trans h'Z
  · intro E w0 ws ρ0 hk b hb
    rw [show loopsOf (fb Go.Proofs.Tryz.f39) = [(bodyAt (fb Go.Proofs.Tryz.f39) 0)] by kernel_rfl] at hb
    simp only [List.mem_cons, List.mem_nil_iff, or_false] at hb
    rcases hb with rfl
    · exact got_Cells_5_lok E w0 ws ρ0 hk
noncomputable def G51 : Env := G50.addE 39 1 got_Cells_in got_Cells_out got_Cells_SC
theorem g51 : EnvOk Go.Proofs.Tryz.prog G51 := EnvOk.addE g50 got_Cells_c got_Cells_says

-- ### got_Newest: function 42
def got_Newest_in : Tm := ⟨[.cells 113 [.map 1, .int .u64, .bool, .int .u64, .bool], .map .u64 (.int .i64)], [(0, .w (.at (.ptr 0 0)))]⟩
def got_Newest_out : Tm := ⟨[.dead, .dead], [(0, .tup [.at (.int .u64), .at (.bool)])]⟩

def got_Newest_Λd : Loops := Loops.none
def got_Newest_Λ : Loops := got_Newest_Λd 

theorem got_Newest_e (g_l_k : List Int) (g_l_v : List Int) (g_newest : Int) (g_any : Bool) (g_forgotten : Int) (g_forgot : Bool) : got_Newest g_l_k g_l_v g_newest g_any g_forgotten g_forgot = den G51 got_Newest_Λ true tab Go.Proofs.Tryz.f42.ntmps (fun fr H => finish tab 2 Go.Proofs.Tryz.f42.results.toList got_Newest_out [] fr H some) (fun _ _ _ => none) (fun fr H => finish tab 2 Go.Proofs.Tryz.f42.results.toList got_Newest_out [] fr H some) 10000 [.code (fb Go.Proofs.Tryz.f42)] (instFr got_Newest_in [.li g_l_k, .li g_l_v, .i g_newest, .b g_any, .i g_forgotten, .b g_forgot]) (instH got_Newest_in [.li g_l_k, .li g_l_v, .i g_newest, .b g_any, .i g_forgotten, .b g_forgot]) := by kernel_rfl
def got_Newest_S : List Leaf → Option (List Leaf) := fun ls => un_li ls fun g_l_k rr => un_li rr fun g_l_v rr => un_i rr fun g_newest rr => un_b rr fun g_any rr => un_i rr fun g_forgotten rr => un_b rr fun g_forgot rr => un_nil rr (got_Newest g_l_k g_l_v g_newest g_any g_forgotten g_forgot)
def got_Newest_SC : Tld := fun ls k' => un_li ls fun g_l_k rr => un_li rr fun g_l_v rr => un_i rr fun g_newest rr => un_b rr fun g_any rr => un_i rr fun g_forgotten rr => un_b rr fun g_forgot rr => un_nil rr (out (got_Newest g_l_k g_l_v g_newest g_any g_forgotten g_forgot) k')
theorem got_Newest_Se (g_l_k : List Int) (g_l_v : List Int) (g_newest : Int) (g_any : Bool) (g_forgotten : Int) (g_forgot : Bool) : got_Newest_S [.li g_l_k, .li g_l_v, .i g_newest, .b g_any, .i g_forgotten, .b g_forgot] = got_Newest g_l_k g_l_v g_newest g_any g_forgotten g_forgot := by
  unfold got_Newest_S
  simp only [un_i_ev, un_b_ev, un_s_ev, un_li_ev, un_lb_ev, un_ls_ev, un_nil_ev]
theorem got_Newest_says : Says got_Newest_SC got_Newest_S := by
  intro β ls' k' r' h'
  unfold got_Newest_SC at h'
  obtain ⟨g_l_k, l'1, rfl, h'1⟩ := un_li_some.1 h'
  obtain ⟨g_l_v, l'2, rfl, h'2⟩ := un_li_some.1 h'1
  obtain ⟨g_newest, l'3, rfl, h'3⟩ := un_i_some.1 h'2
  obtain ⟨g_any, l'4, rfl, h'4⟩ := un_b_some.1 h'3
  obtain ⟨g_forgotten, l'5, rfl, h'5⟩ := un_i_some.1 h'4
  obtain ⟨g_forgot, l'6, rfl, h'6⟩ := un_b_some.1 h'5
  obtain ⟨rfl, h'Z⟩ := un_nil_some.1 h'6
  obtain ⟨l', a', b'⟩ := out_some.1 h'Z
  exact ⟨l', (got_Newest_Se g_l_k g_l_v g_newest g_any g_forgotten g_forgot).trans a', b'⟩
theorem got_Newest_c : FnC Go.Proofs.Tryz.prog 42 true 1 2 got_Newest_in got_Newest_out got_Newest_S := by
  refine fn_ok (Λ := got_Newest_Λ) mixed tab_ok g51 Go.Proofs.Tryz.func42 (by kernel_rfl) (body := fb Go.Proofs.Tryz.f42) rfl (ts := Go.Proofs.Tryz.f42.results.toList) rfl (cuts := []) (by kernel_rfl) (Nat.le_of_ble_eq_true (by kernel_rfl)) (by kernel_rfl) (rt := .tup [.at (.int .u64), .at (.bool)]) rfl ?_ ?_
  · intro ls' r' h'
    unfold got_Newest_S at h'
    obtain ⟨g_l_k, l'1, rfl, h'1⟩ := un_li_some.1 h'
    obtain ⟨g_l_v, l'2, rfl, h'2⟩ := un_li_some.1 h'1
    obtain ⟨g_newest, l'3, rfl, h'3⟩ := un_i_some.1 h'2
    obtain ⟨g_any, l'4, rfl, h'4⟩ := un_b_some.1 h'3
    obtain ⟨g_forgotten, l'5, rfl, h'5⟩ := un_i_some.1 h'4
    obtain ⟨g_forgot, l'6, rfl, h'6⟩ := un_b_some.1 h'5
    obtain ⟨rfl, h'Z⟩ := un_nil_some.1 h'6
    exact (got_Newest_e g_l_k g_l_v g_newest g_any g_forgotten g_forgot).symm.trans h'Z
  · intro E w0 ws ρ0 hk b hb
    rw [show loopsOf (fb Go.Proofs.Tryz.f42) = [] by kernel_rfl] at hb
    cases hb
noncomputable def G52 : Env := G51.addP 42 1 got_Newest_in got_Newest_out got_Newest_SC
theorem g52 : EnvOk Go.Proofs.Tryz.prog G52 := EnvOk.addP g51 got_Newest_c got_Newest_says
end Go.Sx.T

