import Derived.Test.YtdjnfdcoilgegaaGreatDoorYfTfrcSpec
import Derived.Test.YtdjnfdcoilgegaaGreatDoorYfSetCon
set_option linter.all false
namespace Go.Sx.T
open Go Go.Sx Go.Proofs
set_option maxRecDepth 100000

-- ### tfrc_New: function 41
def tfrc_New_in : Tm := ⟨[], [(0, .w (.at (.int .i64)))]⟩
def tfrc_New_out : Tm := ⟨[.cells 99 [.int .u64, .int .u64, .int .u64, .int .i64, .bool, .int .i64, .ptr 1 0, .bool, .bool, .int .i64], .cells 163 [.all 2 2], .row 160 2 [.int .i64, .int .u64]], [(0, .w (.at (.ptr 0 0)))]⟩

def tfrc_New_Λd : Loops := Loops.none
def tfrc_New_Λ : Loops := tfrc_New_Λd 

theorem tfrc_New_e (s : Int) : tfrc_New s = den G32 tfrc_New_Λ false tab Go.Proofs.Tryz.f41.ntmps (fun fr H => finish tab 0 Go.Proofs.Tryz.f41.results.toList tfrc_New_out [] fr H some) (fun _ _ _ => none) (fun fr H => finish tab 0 Go.Proofs.Tryz.f41.results.toList tfrc_New_out [] fr H some) 10000 [.code (fb Go.Proofs.Tryz.f41)] (instFr tfrc_New_in [.i s]) (instH tfrc_New_in [.i s]) := by kernel_rfl
def tfrc_New_S : List Leaf → Option (List Leaf) := fun ls => un_i ls fun s rr => un_nil rr (tfrc_New s)
def tfrc_New_SC : Tld := fun ls k' => un_i ls fun s rr => un_nil rr (out (tfrc_New s) k')
theorem tfrc_New_Se (s : Int) : tfrc_New_S [.i s] = tfrc_New s := by
  unfold tfrc_New_S
  simp only [un_i_ev, un_b_ev, un_s_ev, un_li_ev, un_lb_ev, un_ls_ev, un_nil_ev]
theorem tfrc_New_says : Says tfrc_New_SC tfrc_New_S := by
  intro β ls' k' r' h'
  unfold tfrc_New_SC at h'
  obtain ⟨s, l'1, rfl, h'1⟩ := un_i_some.1 h'
  obtain ⟨rfl, h'Z⟩ := un_nil_some.1 h'1
  obtain ⟨l', a', b'⟩ := out_some.1 h'Z
  exact ⟨l', (tfrc_New_Se s).trans a', b'⟩
theorem tfrc_New_c : FnC Go.Proofs.Tryz.prog 41 false 1 0 tfrc_New_in tfrc_New_out tfrc_New_S := by
  refine fn_ok (Λ := tfrc_New_Λ) mixed tab_ok g32 Go.Proofs.Tryz.func41 (by kernel_rfl) (body := fb Go.Proofs.Tryz.f41) rfl (ts := Go.Proofs.Tryz.f41.results.toList) rfl (cuts := []) (by kernel_rfl) (Nat.le_of_ble_eq_true (by kernel_rfl)) (by kernel_rfl) (rt := .w (.at (.ptr 0 0))) rfl ?_ ?_
  · intro ls' r' h'
    unfold tfrc_New_S at h'
    obtain ⟨s, l'1, rfl, h'1⟩ := un_i_some.1 h'
    obtain ⟨rfl, h'Z⟩ := un_nil_some.1 h'1
    exact (tfrc_New_e s).symm.trans h'Z
  · intro E w0 ws ρ0 hk b hb
    rw [show loopsOf (fb Go.Proofs.Tryz.f41) = [] by kernel_rfl] at hb
    cases hb
noncomputable def G33 : Env := G32.addE 41 1 tfrc_New_in tfrc_New_out tfrc_New_SC
theorem g33 : EnvOk Go.Proofs.Tryz.prog G33 := EnvOk.addE g32 tfrc_New_c tfrc_New_says

-- ### tfrc_waits: function 118
def tfrc_waits_in : Tm := ⟨[.cells 99 [.int .u64, .int .u64, .int .u64, .int .i64, .bool, .int .i64, .ptr 1 0, .bool, .bool, .int .i64], .cells 163 [.all 2 2], .row 160 2 [.int .i64, .int .u64]], [(0, .w (.at (.ptr 0 0))), (1, .w (.at (.int .i64)))]⟩
def tfrc_waits_out : Tm := ⟨[.cells 99 [.int .u64, .int .u64, .int .u64, .int .i64, .bool, .int .i64, .ptr 1 0, .bool, .bool, .int .i64], .cells 163 [.all 3 2], .dead, .row 160 2 [.int .i64, .int .u64]], [(0, .tup [])]⟩

def tfrc_waits_Λd : Loops := Loops.none
def tfrc_waits_Λ : Loops := tfrc_waits_Λd 

theorem tfrc_waits_e (t_set_l0 : List Int) (t_set_l1 : List Int) (t_s : Int) (t_x : Int) (t_loss : Int) (t_rtt : Int) (t_heard : Bool) (t_doubled : Int) (t_began : Bool) (t_started : Bool) (t_due : Int) (now : Int) : tfrc_waits t_set_l0 t_set_l1 t_s t_x t_loss t_rtt t_heard t_doubled t_began t_started t_due now = den G33 tfrc_waits_Λ false tab Go.Proofs.Tryz.f118.ntmps (fun fr H => finish tab 3 Go.Proofs.Tryz.f118.results.toList tfrc_waits_out [] fr H some) (fun _ _ _ => none) (fun fr H => finish tab 3 Go.Proofs.Tryz.f118.results.toList tfrc_waits_out [] fr H some) 10000 [.code (fb Go.Proofs.Tryz.f118)] (instFr tfrc_waits_in [.li t_set_l0, .li t_set_l1, .i t_s, .i t_x, .i t_loss, .i t_rtt, .b t_heard, .i t_doubled, .b t_began, .b t_started, .i t_due, .i now]) (instH tfrc_waits_in [.li t_set_l0, .li t_set_l1, .i t_s, .i t_x, .i t_loss, .i t_rtt, .b t_heard, .i t_doubled, .b t_began, .b t_started, .i t_due, .i now]) := by kernel_rfl
def tfrc_waits_S : List Leaf → Option (List Leaf) := fun ls => un_li ls fun t_set_l0 rr => un_li rr fun t_set_l1 rr => un_i rr fun t_s rr => un_i rr fun t_x rr => un_i rr fun t_loss rr => un_i rr fun t_rtt rr => un_b rr fun t_heard rr => un_i rr fun t_doubled rr => un_b rr fun t_began rr => un_b rr fun t_started rr => un_i rr fun t_due rr => un_i rr fun now rr => un_nil rr (tfrc_waits t_set_l0 t_set_l1 t_s t_x t_loss t_rtt t_heard t_doubled t_began t_started t_due now)
def tfrc_waits_SC : Tld := fun ls k' => un_li ls fun t_set_l0 rr => un_li rr fun t_set_l1 rr => un_i rr fun t_s rr => un_i rr fun t_x rr => un_i rr fun t_loss rr => un_i rr fun t_rtt rr => un_b rr fun t_heard rr => un_i rr fun t_doubled rr => un_b rr fun t_began rr => un_b rr fun t_started rr => un_i rr fun t_due rr => un_i rr fun now rr => un_nil rr (out (tfrc_waits t_set_l0 t_set_l1 t_s t_x t_loss t_rtt t_heard t_doubled t_began t_started t_due now) k')
theorem tfrc_waits_Se (t_set_l0 : List Int) (t_set_l1 : List Int) (t_s : Int) (t_x : Int) (t_loss : Int) (t_rtt : Int) (t_heard : Bool) (t_doubled : Int) (t_began : Bool) (t_started : Bool) (t_due : Int) (now : Int) : tfrc_waits_S [.li t_set_l0, .li t_set_l1, .i t_s, .i t_x, .i t_loss, .i t_rtt, .b t_heard, .i t_doubled, .b t_began, .b t_started, .i t_due, .i now] = tfrc_waits t_set_l0 t_set_l1 t_s t_x t_loss t_rtt t_heard t_doubled t_began t_started t_due now := by
  unfold tfrc_waits_S
  simp only [un_i_ev, un_b_ev, un_s_ev, un_li_ev, un_lb_ev, un_ls_ev, un_nil_ev]
theorem tfrc_waits_says : Says tfrc_waits_SC tfrc_waits_S := by
  intro β ls' k' r' h'
  unfold tfrc_waits_SC at h'
  obtain ⟨t_set_l0, l'1, rfl, h'1⟩ := un_li_some.1 h'
  obtain ⟨t_set_l1, l'2, rfl, h'2⟩ := un_li_some.1 h'1
  obtain ⟨t_s, l'3, rfl, h'3⟩ := un_i_some.1 h'2
  obtain ⟨t_x, l'4, rfl, h'4⟩ := un_i_some.1 h'3
  obtain ⟨t_loss, l'5, rfl, h'5⟩ := un_i_some.1 h'4
  obtain ⟨t_rtt, l'6, rfl, h'6⟩ := un_i_some.1 h'5
  obtain ⟨t_heard, l'7, rfl, h'7⟩ := un_b_some.1 h'6
  obtain ⟨t_doubled, l'8, rfl, h'8⟩ := un_i_some.1 h'7
  obtain ⟨t_began, l'9, rfl, h'9⟩ := un_b_some.1 h'8
  obtain ⟨t_started, l'10, rfl, h'10⟩ := un_b_some.1 h'9
  obtain ⟨t_due, l'11, rfl, h'11⟩ := un_i_some.1 h'10
  obtain ⟨now, l'12, rfl, h'12⟩ := un_i_some.1 h'11
  obtain ⟨rfl, h'Z⟩ := un_nil_some.1 h'12
  obtain ⟨l', a', b'⟩ := out_some.1 h'Z
  exact ⟨l', (tfrc_waits_Se t_set_l0 t_set_l1 t_s t_x t_loss t_rtt t_heard t_doubled t_began t_started t_due now).trans a', b'⟩
theorem tfrc_waits_c : FnC Go.Proofs.Tryz.prog 118 false 2 3 tfrc_waits_in tfrc_waits_out tfrc_waits_S := by
  refine fn_ok (Λ := tfrc_waits_Λ) mixed tab_ok g33 Go.Proofs.Tryz.func118 (by kernel_rfl) (body := fb Go.Proofs.Tryz.f118) rfl (ts := Go.Proofs.Tryz.f118.results.toList) rfl (cuts := []) (by kernel_rfl) (Nat.le_of_ble_eq_true (by kernel_rfl)) (by kernel_rfl) (rt := .tup []) rfl ?_ ?_
  · intro ls' r' h'
    unfold tfrc_waits_S at h'
    obtain ⟨t_set_l0, l'1, rfl, h'1⟩ := un_li_some.1 h'
    obtain ⟨t_set_l1, l'2, rfl, h'2⟩ := un_li_some.1 h'1
    obtain ⟨t_s, l'3, rfl, h'3⟩ := un_i_some.1 h'2
    obtain ⟨t_x, l'4, rfl, h'4⟩ := un_i_some.1 h'3
    obtain ⟨t_loss, l'5, rfl, h'5⟩ := un_i_some.1 h'4
    obtain ⟨t_rtt, l'6, rfl, h'6⟩ := un_i_some.1 h'5
    obtain ⟨t_heard, l'7, rfl, h'7⟩ := un_b_some.1 h'6
    obtain ⟨t_doubled, l'8, rfl, h'8⟩ := un_i_some.1 h'7
    obtain ⟨t_began, l'9, rfl, h'9⟩ := un_b_some.1 h'8
    obtain ⟨t_started, l'10, rfl, h'10⟩ := un_b_some.1 h'9
    obtain ⟨t_due, l'11, rfl, h'11⟩ := un_i_some.1 h'10
    obtain ⟨now, l'12, rfl, h'12⟩ := un_i_some.1 h'11
    obtain ⟨rfl, h'Z⟩ := un_nil_some.1 h'12
    exact (tfrc_waits_e t_set_l0 t_set_l1 t_s t_x t_loss t_rtt t_heard t_doubled t_began t_started t_due now).symm.trans h'Z
  · intro E w0 ws ρ0 hk b hb
    rw [show loopsOf (fb Go.Proofs.Tryz.f118) = [] by kernel_rfl] at hb
    cases hb
noncomputable def G34 : Env := G33.addE 118 2 tfrc_waits_in tfrc_waits_out tfrc_waits_SC
theorem g34 : EnvOk Go.Proofs.Tryz.prog G34 := EnvOk.addE g33 tfrc_waits_c tfrc_waits_says

-- ### tfrc_Rate: function 15
def tfrc_Rate_in : Tm := ⟨[.cells 99 [.int .u64, .int .u64, .int .u64, .int .i64, .bool, .int .i64, .ptr 1 0, .bool, .bool, .int .i64], .cells 163 [.all 2 2], .row 160 2 [.int .i64, .int .u64]], [(0, .w (.at (.ptr 0 0)))]⟩
def tfrc_Rate_out : Tm := ⟨[.dead, .dead, .dead], [(0, .w (.at (.int .u64)))]⟩

def tfrc_Rate_Λd : Loops := Loops.none
def tfrc_Rate_Λ : Loops := tfrc_Rate_Λd 

theorem tfrc_Rate_e (t_set_l0 : List Int) (t_set_l1 : List Int) (t_s : Int) (t_x : Int) (t_loss : Int) (t_rtt : Int) (t_heard : Bool) (t_doubled : Int) (t_began : Bool) (t_started : Bool) (t_due : Int) : tfrc_Rate t_set_l0 t_set_l1 t_s t_x t_loss t_rtt t_heard t_doubled t_began t_started t_due = den G34 tfrc_Rate_Λ true tab Go.Proofs.Tryz.f15.ntmps (fun fr H => finish tab 3 Go.Proofs.Tryz.f15.results.toList tfrc_Rate_out [] fr H some) (fun _ _ _ => none) (fun fr H => finish tab 3 Go.Proofs.Tryz.f15.results.toList tfrc_Rate_out [] fr H some) 10000 [.code (fb Go.Proofs.Tryz.f15)] (instFr tfrc_Rate_in [.li t_set_l0, .li t_set_l1, .i t_s, .i t_x, .i t_loss, .i t_rtt, .b t_heard, .i t_doubled, .b t_began, .b t_started, .i t_due]) (instH tfrc_Rate_in [.li t_set_l0, .li t_set_l1, .i t_s, .i t_x, .i t_loss, .i t_rtt, .b t_heard, .i t_doubled, .b t_began, .b t_started, .i t_due]) := by kernel_rfl
def tfrc_Rate_S : List Leaf → Option (List Leaf) := fun ls => un_li ls fun t_set_l0 rr => un_li rr fun t_set_l1 rr => un_i rr fun t_s rr => un_i rr fun t_x rr => un_i rr fun t_loss rr => un_i rr fun t_rtt rr => un_b rr fun t_heard rr => un_i rr fun t_doubled rr => un_b rr fun t_began rr => un_b rr fun t_started rr => un_i rr fun t_due rr => un_nil rr (tfrc_Rate t_set_l0 t_set_l1 t_s t_x t_loss t_rtt t_heard t_doubled t_began t_started t_due)
def tfrc_Rate_SC : Tld := fun ls k' => un_li ls fun t_set_l0 rr => un_li rr fun t_set_l1 rr => un_i rr fun t_s rr => un_i rr fun t_x rr => un_i rr fun t_loss rr => un_i rr fun t_rtt rr => un_b rr fun t_heard rr => un_i rr fun t_doubled rr => un_b rr fun t_began rr => un_b rr fun t_started rr => un_i rr fun t_due rr => un_nil rr (out (tfrc_Rate t_set_l0 t_set_l1 t_s t_x t_loss t_rtt t_heard t_doubled t_began t_started t_due) k')
theorem tfrc_Rate_Se (t_set_l0 : List Int) (t_set_l1 : List Int) (t_s : Int) (t_x : Int) (t_loss : Int) (t_rtt : Int) (t_heard : Bool) (t_doubled : Int) (t_began : Bool) (t_started : Bool) (t_due : Int) : tfrc_Rate_S [.li t_set_l0, .li t_set_l1, .i t_s, .i t_x, .i t_loss, .i t_rtt, .b t_heard, .i t_doubled, .b t_began, .b t_started, .i t_due] = tfrc_Rate t_set_l0 t_set_l1 t_s t_x t_loss t_rtt t_heard t_doubled t_began t_started t_due := by
  unfold tfrc_Rate_S
  simp only [un_i_ev, un_b_ev, un_s_ev, un_li_ev, un_lb_ev, un_ls_ev, un_nil_ev]
theorem tfrc_Rate_says : Says tfrc_Rate_SC tfrc_Rate_S := by
  intro β ls' k' r' h'
  unfold tfrc_Rate_SC at h'
  obtain ⟨t_set_l0, l'1, rfl, h'1⟩ := un_li_some.1 h'
  obtain ⟨t_set_l1, l'2, rfl, h'2⟩ := un_li_some.1 h'1
  obtain ⟨t_s, l'3, rfl, h'3⟩ := un_i_some.1 h'2
  obtain ⟨t_x, l'4, rfl, h'4⟩ := un_i_some.1 h'3
  obtain ⟨t_loss, l'5, rfl, h'5⟩ := un_i_some.1 h'4
  obtain ⟨t_rtt, l'6, rfl, h'6⟩ := un_i_some.1 h'5
  obtain ⟨t_heard, l'7, rfl, h'7⟩ := un_b_some.1 h'6
  obtain ⟨t_doubled, l'8, rfl, h'8⟩ := un_i_some.1 h'7
  obtain ⟨t_began, l'9, rfl, h'9⟩ := un_b_some.1 h'8
  obtain ⟨t_started, l'10, rfl, h'10⟩ := un_b_some.1 h'9
  obtain ⟨t_due, l'11, rfl, h'11⟩ := un_i_some.1 h'10
  obtain ⟨rfl, h'Z⟩ := un_nil_some.1 h'11
  obtain ⟨l', a', b'⟩ := out_some.1 h'Z
  exact ⟨l', (tfrc_Rate_Se t_set_l0 t_set_l1 t_s t_x t_loss t_rtt t_heard t_doubled t_began t_started t_due).trans a', b'⟩
theorem tfrc_Rate_c : FnC Go.Proofs.Tryz.prog 15 true 1 3 tfrc_Rate_in tfrc_Rate_out tfrc_Rate_S := by
  refine fn_ok (Λ := tfrc_Rate_Λ) mixed tab_ok g34 Go.Proofs.Tryz.func15 (by kernel_rfl) (body := fb Go.Proofs.Tryz.f15) rfl (ts := Go.Proofs.Tryz.f15.results.toList) rfl (cuts := []) (by kernel_rfl) (Nat.le_of_ble_eq_true (by kernel_rfl)) (by kernel_rfl) (rt := .w (.at (.int .u64))) rfl ?_ ?_
  · intro ls' r' h'
    unfold tfrc_Rate_S at h'
    obtain ⟨t_set_l0, l'1, rfl, h'1⟩ := un_li_some.1 h'
    obtain ⟨t_set_l1, l'2, rfl, h'2⟩ := un_li_some.1 h'1
    obtain ⟨t_s, l'3, rfl, h'3⟩ := un_i_some.1 h'2
    obtain ⟨t_x, l'4, rfl, h'4⟩ := un_i_some.1 h'3
    obtain ⟨t_loss, l'5, rfl, h'5⟩ := un_i_some.1 h'4
    obtain ⟨t_rtt, l'6, rfl, h'6⟩ := un_i_some.1 h'5
    obtain ⟨t_heard, l'7, rfl, h'7⟩ := un_b_some.1 h'6
    obtain ⟨t_doubled, l'8, rfl, h'8⟩ := un_i_some.1 h'7
    obtain ⟨t_began, l'9, rfl, h'9⟩ := un_b_some.1 h'8
    obtain ⟨t_started, l'10, rfl, h'10⟩ := un_b_some.1 h'9
    obtain ⟨t_due, l'11, rfl, h'11⟩ := un_i_some.1 h'10
    obtain ⟨rfl, h'Z⟩ := un_nil_some.1 h'11
    exact (tfrc_Rate_e t_set_l0 t_set_l1 t_s t_x t_loss t_rtt t_heard t_doubled t_began t_started t_due).symm.trans h'Z
  · intro E w0 ws ρ0 hk b hb
    rw [show loopsOf (fb Go.Proofs.Tryz.f15) = [] by kernel_rfl] at hb
    cases hb
noncomputable def G35 : Env := G34.addP 15 1 tfrc_Rate_in tfrc_Rate_out tfrc_Rate_SC
theorem g35 : EnvOk Go.Proofs.Tryz.prog G35 := EnvOk.addP g34 tfrc_Rate_c tfrc_Rate_says

-- ### tfrc_Start: function 89
def tfrc_Start_in : Tm := ⟨[.cells 99 [.int .u64, .int .u64, .int .u64, .int .i64, .bool, .int .i64, .ptr 1 0, .bool, .bool, .int .i64], .cells 163 [.all 2 2], .row 160 2 [.int .i64, .int .u64]], [(0, .w (.at (.ptr 0 0))), (1, .w (.at (.int .i64)))]⟩
def tfrc_Start_out : Tm := ⟨[.cells 99 [.int .u64, .int .u64, .int .u64, .int .i64, .bool, .int .i64, .ptr 1 0, .bool, .bool, .int .i64], .cells 163 [.all 3 2], .dead, .row 160 2 [.int .i64, .int .u64]], [(0, .tup [])]⟩

def tfrc_Start_Λd : Loops := Loops.none
def tfrc_Start_Λ : Loops := tfrc_Start_Λd 

theorem tfrc_Start_e (t_set_l0 : List Int) (t_set_l1 : List Int) (t_s : Int) (t_x : Int) (t_loss : Int) (t_rtt : Int) (t_heard : Bool) (t_doubled : Int) (t_began : Bool) (t_started : Bool) (t_due : Int) (now : Int) : tfrc_Start t_set_l0 t_set_l1 t_s t_x t_loss t_rtt t_heard t_doubled t_began t_started t_due now = den G35 tfrc_Start_Λ false tab Go.Proofs.Tryz.f89.ntmps (fun fr H => finish tab 3 Go.Proofs.Tryz.f89.results.toList tfrc_Start_out [] fr H some) (fun _ _ _ => none) (fun fr H => finish tab 3 Go.Proofs.Tryz.f89.results.toList tfrc_Start_out [] fr H some) 10000 [.code (fb Go.Proofs.Tryz.f89)] (instFr tfrc_Start_in [.li t_set_l0, .li t_set_l1, .i t_s, .i t_x, .i t_loss, .i t_rtt, .b t_heard, .i t_doubled, .b t_began, .b t_started, .i t_due, .i now]) (instH tfrc_Start_in [.li t_set_l0, .li t_set_l1, .i t_s, .i t_x, .i t_loss, .i t_rtt, .b t_heard, .i t_doubled, .b t_began, .b t_started, .i t_due, .i now]) := by kernel_rfl
def tfrc_Start_S : List Leaf → Option (List Leaf) := fun ls => un_li ls fun t_set_l0 rr => un_li rr fun t_set_l1 rr => un_i rr fun t_s rr => un_i rr fun t_x rr => un_i rr fun t_loss rr => un_i rr fun t_rtt rr => un_b rr fun t_heard rr => un_i rr fun t_doubled rr => un_b rr fun t_began rr => un_b rr fun t_started rr => un_i rr fun t_due rr => un_i rr fun now rr => un_nil rr (tfrc_Start t_set_l0 t_set_l1 t_s t_x t_loss t_rtt t_heard t_doubled t_began t_started t_due now)
def tfrc_Start_SC : Tld := fun ls k' => un_li ls fun t_set_l0 rr => un_li rr fun t_set_l1 rr => un_i rr fun t_s rr => un_i rr fun t_x rr => un_i rr fun t_loss rr => un_i rr fun t_rtt rr => un_b rr fun t_heard rr => un_i rr fun t_doubled rr => un_b rr fun t_began rr => un_b rr fun t_started rr => un_i rr fun t_due rr => un_i rr fun now rr => un_nil rr (out (tfrc_Start t_set_l0 t_set_l1 t_s t_x t_loss t_rtt t_heard t_doubled t_began t_started t_due now) k')
theorem tfrc_Start_Se (t_set_l0 : List Int) (t_set_l1 : List Int) (t_s : Int) (t_x : Int) (t_loss : Int) (t_rtt : Int) (t_heard : Bool) (t_doubled : Int) (t_began : Bool) (t_started : Bool) (t_due : Int) (now : Int) : tfrc_Start_S [.li t_set_l0, .li t_set_l1, .i t_s, .i t_x, .i t_loss, .i t_rtt, .b t_heard, .i t_doubled, .b t_began, .b t_started, .i t_due, .i now] = tfrc_Start t_set_l0 t_set_l1 t_s t_x t_loss t_rtt t_heard t_doubled t_began t_started t_due now := by
  unfold tfrc_Start_S
  simp only [un_i_ev, un_b_ev, un_s_ev, un_li_ev, un_lb_ev, un_ls_ev, un_nil_ev]
theorem tfrc_Start_says : Says tfrc_Start_SC tfrc_Start_S := by
  intro β ls' k' r' h'
  unfold tfrc_Start_SC at h'
  obtain ⟨t_set_l0, l'1, rfl, h'1⟩ := un_li_some.1 h'
  obtain ⟨t_set_l1, l'2, rfl, h'2⟩ := un_li_some.1 h'1
  obtain ⟨t_s, l'3, rfl, h'3⟩ := un_i_some.1 h'2
  obtain ⟨t_x, l'4, rfl, h'4⟩ := un_i_some.1 h'3
  obtain ⟨t_loss, l'5, rfl, h'5⟩ := un_i_some.1 h'4
  obtain ⟨t_rtt, l'6, rfl, h'6⟩ := un_i_some.1 h'5
  obtain ⟨t_heard, l'7, rfl, h'7⟩ := un_b_some.1 h'6
  obtain ⟨t_doubled, l'8, rfl, h'8⟩ := un_i_some.1 h'7
  obtain ⟨t_began, l'9, rfl, h'9⟩ := un_b_some.1 h'8
  obtain ⟨t_started, l'10, rfl, h'10⟩ := un_b_some.1 h'9
  obtain ⟨t_due, l'11, rfl, h'11⟩ := un_i_some.1 h'10
  obtain ⟨now, l'12, rfl, h'12⟩ := un_i_some.1 h'11
  obtain ⟨rfl, h'Z⟩ := un_nil_some.1 h'12
  obtain ⟨l', a', b'⟩ := out_some.1 h'Z
  exact ⟨l', (tfrc_Start_Se t_set_l0 t_set_l1 t_s t_x t_loss t_rtt t_heard t_doubled t_began t_started t_due now).trans a', b'⟩
theorem tfrc_Start_c : FnC Go.Proofs.Tryz.prog 89 false 2 3 tfrc_Start_in tfrc_Start_out tfrc_Start_S := by
  refine fn_ok (Λ := tfrc_Start_Λ) mixed tab_ok g35 Go.Proofs.Tryz.func89 (by kernel_rfl) (body := fb Go.Proofs.Tryz.f89) rfl (ts := Go.Proofs.Tryz.f89.results.toList) rfl (cuts := []) (by kernel_rfl) (Nat.le_of_ble_eq_true (by kernel_rfl)) (by kernel_rfl) (rt := .tup []) rfl ?_ ?_
  · intro ls' r' h'
    unfold tfrc_Start_S at h'
    obtain ⟨t_set_l0, l'1, rfl, h'1⟩ := un_li_some.1 h'
    obtain ⟨t_set_l1, l'2, rfl, h'2⟩ := un_li_some.1 h'1
    obtain ⟨t_s, l'3, rfl, h'3⟩ := un_i_some.1 h'2
    obtain ⟨t_x, l'4, rfl, h'4⟩ := un_i_some.1 h'3
    obtain ⟨t_loss, l'5, rfl, h'5⟩ := un_i_some.1 h'4
    obtain ⟨t_rtt, l'6, rfl, h'6⟩ := un_i_some.1 h'5
    obtain ⟨t_heard, l'7, rfl, h'7⟩ := un_b_some.1 h'6
    obtain ⟨t_doubled, l'8, rfl, h'8⟩ := un_i_some.1 h'7
    obtain ⟨t_began, l'9, rfl, h'9⟩ := un_b_some.1 h'8
    obtain ⟨t_started, l'10, rfl, h'10⟩ := un_b_some.1 h'9
    obtain ⟨t_due, l'11, rfl, h'11⟩ := un_i_some.1 h'10
    obtain ⟨now, l'12, rfl, h'12⟩ := un_i_some.1 h'11
    obtain ⟨rfl, h'Z⟩ := un_nil_some.1 h'12
    exact (tfrc_Start_e t_set_l0 t_set_l1 t_s t_x t_loss t_rtt t_heard t_doubled t_began t_started t_due now).symm.trans h'Z
  · intro E w0 ws ρ0 hk b hb
    rw [show loopsOf (fb Go.Proofs.Tryz.f89) = [] by kernel_rfl] at hb
    cases hb
noncomputable def G36 : Env := G35.addE 89 2 tfrc_Start_in tfrc_Start_out tfrc_Start_SC
theorem g36 : EnvOk Go.Proofs.Tryz.prog G36 := EnvOk.addE g35 tfrc_Start_c tfrc_Start_says

-- ### tfrc_Due: function 244
def tfrc_Due_in : Tm := ⟨[.cells 99 [.int .u64, .int .u64, .int .u64, .int .i64, .bool, .int .i64, .ptr 1 0, .bool, .bool, .int .i64], .cells 163 [.all 2 2], .row 160 2 [.int .i64, .int .u64]], [(0, .w (.at (.ptr 0 0)))]⟩
def tfrc_Due_out : Tm := ⟨[.dead, .dead, .dead], [(0, .tup [.at (.int .i64), .at (.bool)])]⟩

def tfrc_Due_Λd : Loops := Loops.none
def tfrc_Due_Λ : Loops := tfrc_Due_Λd 

theorem tfrc_Due_e (t_set_l0 : List Int) (t_set_l1 : List Int) (t_s : Int) (t_x : Int) (t_loss : Int) (t_rtt : Int) (t_heard : Bool) (t_doubled : Int) (t_began : Bool) (t_started : Bool) (t_due : Int) : tfrc_Due t_set_l0 t_set_l1 t_s t_x t_loss t_rtt t_heard t_doubled t_began t_started t_due = den G36 tfrc_Due_Λ true tab Go.Proofs.Tryz.f244.ntmps (fun fr H => finish tab 3 Go.Proofs.Tryz.f244.results.toList tfrc_Due_out [] fr H some) (fun _ _ _ => none) (fun fr H => finish tab 3 Go.Proofs.Tryz.f244.results.toList tfrc_Due_out [] fr H some) 10000 [.code (fb Go.Proofs.Tryz.f244)] (instFr tfrc_Due_in [.li t_set_l0, .li t_set_l1, .i t_s, .i t_x, .i t_loss, .i t_rtt, .b t_heard, .i t_doubled, .b t_began, .b t_started, .i t_due]) (instH tfrc_Due_in [.li t_set_l0, .li t_set_l1, .i t_s, .i t_x, .i t_loss, .i t_rtt, .b t_heard, .i t_doubled, .b t_began, .b t_started, .i t_due]) := by kernel_rfl
def tfrc_Due_S : List Leaf → Option (List Leaf) := fun ls => un_li ls fun t_set_l0 rr => un_li rr fun t_set_l1 rr => un_i rr fun t_s rr => un_i rr fun t_x rr => un_i rr fun t_loss rr => un_i rr fun t_rtt rr => un_b rr fun t_heard rr => un_i rr fun t_doubled rr => un_b rr fun t_began rr => un_b rr fun t_started rr => un_i rr fun t_due rr => un_nil rr (tfrc_Due t_set_l0 t_set_l1 t_s t_x t_loss t_rtt t_heard t_doubled t_began t_started t_due)
def tfrc_Due_SC : Tld := fun ls k' => un_li ls fun t_set_l0 rr => un_li rr fun t_set_l1 rr => un_i rr fun t_s rr => un_i rr fun t_x rr => un_i rr fun t_loss rr => un_i rr fun t_rtt rr => un_b rr fun t_heard rr => un_i rr fun t_doubled rr => un_b rr fun t_began rr => un_b rr fun t_started rr => un_i rr fun t_due rr => un_nil rr (out (tfrc_Due t_set_l0 t_set_l1 t_s t_x t_loss t_rtt t_heard t_doubled t_began t_started t_due) k')
theorem tfrc_Due_Se (t_set_l0 : List Int) (t_set_l1 : List Int) (t_s : Int) (t_x : Int) (t_loss : Int) (t_rtt : Int) (t_heard : Bool) (t_doubled : Int) (t_began : Bool) (t_started : Bool) (t_due : Int) : tfrc_Due_S [.li t_set_l0, .li t_set_l1, .i t_s, .i t_x, .i t_loss, .i t_rtt, .b t_heard, .i t_doubled, .b t_began, .b t_started, .i t_due] = tfrc_Due t_set_l0 t_set_l1 t_s t_x t_loss t_rtt t_heard t_doubled t_began t_started t_due := by
  unfold tfrc_Due_S
  simp only [un_i_ev, un_b_ev, un_s_ev, un_li_ev, un_lb_ev, un_ls_ev, un_nil_ev]
theorem tfrc_Due_says : Says tfrc_Due_SC tfrc_Due_S := by
  intro β ls' k' r' h'
  unfold tfrc_Due_SC at h'
  obtain ⟨t_set_l0, l'1, rfl, h'1⟩ := un_li_some.1 h'
  obtain ⟨t_set_l1, l'2, rfl, h'2⟩ := un_li_some.1 h'1
  obtain ⟨t_s, l'3, rfl, h'3⟩ := un_i_some.1 h'2
  obtain ⟨t_x, l'4, rfl, h'4⟩ := un_i_some.1 h'3
  obtain ⟨t_loss, l'5, rfl, h'5⟩ := un_i_some.1 h'4
  obtain ⟨t_rtt, l'6, rfl, h'6⟩ := un_i_some.1 h'5
  obtain ⟨t_heard, l'7, rfl, h'7⟩ := un_b_some.1 h'6
  obtain ⟨t_doubled, l'8, rfl, h'8⟩ := un_i_some.1 h'7
  obtain ⟨t_began, l'9, rfl, h'9⟩ := un_b_some.1 h'8
  obtain ⟨t_started, l'10, rfl, h'10⟩ := un_b_some.1 h'9
  obtain ⟨t_due, l'11, rfl, h'11⟩ := un_i_some.1 h'10
  obtain ⟨rfl, h'Z⟩ := un_nil_some.1 h'11
  obtain ⟨l', a', b'⟩ := out_some.1 h'Z
  exact ⟨l', (tfrc_Due_Se t_set_l0 t_set_l1 t_s t_x t_loss t_rtt t_heard t_doubled t_began t_started t_due).trans a', b'⟩
theorem tfrc_Due_c : FnC Go.Proofs.Tryz.prog 244 true 1 3 tfrc_Due_in tfrc_Due_out tfrc_Due_S := by
  refine fn_ok (Λ := tfrc_Due_Λ) mixed tab_ok g36 Go.Proofs.Tryz.func244 (by kernel_rfl) (body := fb Go.Proofs.Tryz.f244) rfl (ts := Go.Proofs.Tryz.f244.results.toList) rfl (cuts := []) (by kernel_rfl) (Nat.le_of_ble_eq_true (by kernel_rfl)) (by kernel_rfl) (rt := .tup [.at (.int .i64), .at (.bool)]) rfl ?_ ?_
  · intro ls' r' h'
    unfold tfrc_Due_S at h'
    obtain ⟨t_set_l0, l'1, rfl, h'1⟩ := un_li_some.1 h'
    obtain ⟨t_set_l1, l'2, rfl, h'2⟩ := un_li_some.1 h'1
    obtain ⟨t_s, l'3, rfl, h'3⟩ := un_i_some.1 h'2
    obtain ⟨t_x, l'4, rfl, h'4⟩ := un_i_some.1 h'3
    obtain ⟨t_loss, l'5, rfl, h'5⟩ := un_i_some.1 h'4
    obtain ⟨t_rtt, l'6, rfl, h'6⟩ := un_i_some.1 h'5
    obtain ⟨t_heard, l'7, rfl, h'7⟩ := un_b_some.1 h'6
    obtain ⟨t_doubled, l'8, rfl, h'8⟩ := un_i_some.1 h'7
    obtain ⟨t_began, l'9, rfl, h'9⟩ := un_b_some.1 h'8
    obtain ⟨t_started, l'10, rfl, h'10⟩ := un_b_some.1 h'9
    obtain ⟨t_due, l'11, rfl, h'11⟩ := un_i_some.1 h'10
    obtain ⟨rfl, h'Z⟩ := un_nil_some.1 h'11
    exact (tfrc_Due_e t_set_l0 t_set_l1 t_s t_x t_loss t_rtt t_heard t_doubled t_began t_started t_due).symm.trans h'Z
  · intro E w0 ws ρ0 hk b hb
    rw [show loopsOf (fb Go.Proofs.Tryz.f244) = [] by kernel_rfl] at hb
    cases hb
noncomputable def G37 : Env := G36.addP 244 1 tfrc_Due_in tfrc_Due_out tfrc_Due_SC
theorem g37 : EnvOk Go.Proofs.Tryz.prog G37 := EnvOk.addP g36 tfrc_Due_c tfrc_Due_says

-- ### tfrc_Fire: function 245
def tfrc_Fire_in : Tm := ⟨[.cells 99 [.int .u64, .int .u64, .int .u64, .int .i64, .bool, .int .i64, .ptr 1 0, .bool, .bool, .int .i64], .cells 163 [.all 2 2], .row 160 2 [.int .i64, .int .u64]], [(0, .w (.at (.ptr 0 0))), (1, .w (.at (.int .i64)))]⟩
def tfrc_Fire_out : Tm := ⟨[.cells 99 [.int .u64, .int .u64, .int .u64, .int .i64, .bool, .int .i64, .ptr 1 0, .bool, .bool, .int .i64], .cells 163 [.all 3 2], .dead, .row 160 2 [.int .i64, .int .u64]], [(0, .w (.at (.bool)))]⟩

def tfrc_Fire_Λd : Loops := Loops.none
def tfrc_Fire_Λ : Loops := tfrc_Fire_Λd 

theorem tfrc_Fire_e (t_set_l0 : List Int) (t_set_l1 : List Int) (t_s : Int) (t_x : Int) (t_loss : Int) (t_rtt : Int) (t_heard : Bool) (t_doubled : Int) (t_began : Bool) (t_started : Bool) (t_due : Int) (now : Int) : tfrc_Fire t_set_l0 t_set_l1 t_s t_x t_loss t_rtt t_heard t_doubled t_began t_started t_due now = den G37 tfrc_Fire_Λ false tab Go.Proofs.Tryz.f245.ntmps (fun fr H => finish tab 3 Go.Proofs.Tryz.f245.results.toList tfrc_Fire_out [] fr H some) (fun _ _ _ => none) (fun fr H => finish tab 3 Go.Proofs.Tryz.f245.results.toList tfrc_Fire_out [] fr H some) 10000 [.code (fb Go.Proofs.Tryz.f245)] (instFr tfrc_Fire_in [.li t_set_l0, .li t_set_l1, .i t_s, .i t_x, .i t_loss, .i t_rtt, .b t_heard, .i t_doubled, .b t_began, .b t_started, .i t_due, .i now]) (instH tfrc_Fire_in [.li t_set_l0, .li t_set_l1, .i t_s, .i t_x, .i t_loss, .i t_rtt, .b t_heard, .i t_doubled, .b t_began, .b t_started, .i t_due, .i now]) := by kernel_rfl
def tfrc_Fire_S : List Leaf → Option (List Leaf) := fun ls => un_li ls fun t_set_l0 rr => un_li rr fun t_set_l1 rr => un_i rr fun t_s rr => un_i rr fun t_x rr => un_i rr fun t_loss rr => un_i rr fun t_rtt rr => un_b rr fun t_heard rr => un_i rr fun t_doubled rr => un_b rr fun t_began rr => un_b rr fun t_started rr => un_i rr fun t_due rr => un_i rr fun now rr => un_nil rr (tfrc_Fire t_set_l0 t_set_l1 t_s t_x t_loss t_rtt t_heard t_doubled t_began t_started t_due now)
def tfrc_Fire_SC : Tld := fun ls k' => un_li ls fun t_set_l0 rr => un_li rr fun t_set_l1 rr => un_i rr fun t_s rr => un_i rr fun t_x rr => un_i rr fun t_loss rr => un_i rr fun t_rtt rr => un_b rr fun t_heard rr => un_i rr fun t_doubled rr => un_b rr fun t_began rr => un_b rr fun t_started rr => un_i rr fun t_due rr => un_i rr fun now rr => un_nil rr (out (tfrc_Fire t_set_l0 t_set_l1 t_s t_x t_loss t_rtt t_heard t_doubled t_began t_started t_due now) k')
theorem tfrc_Fire_Se (t_set_l0 : List Int) (t_set_l1 : List Int) (t_s : Int) (t_x : Int) (t_loss : Int) (t_rtt : Int) (t_heard : Bool) (t_doubled : Int) (t_began : Bool) (t_started : Bool) (t_due : Int) (now : Int) : tfrc_Fire_S [.li t_set_l0, .li t_set_l1, .i t_s, .i t_x, .i t_loss, .i t_rtt, .b t_heard, .i t_doubled, .b t_began, .b t_started, .i t_due, .i now] = tfrc_Fire t_set_l0 t_set_l1 t_s t_x t_loss t_rtt t_heard t_doubled t_began t_started t_due now := by
  unfold tfrc_Fire_S
  simp only [un_i_ev, un_b_ev, un_s_ev, un_li_ev, un_lb_ev, un_ls_ev, un_nil_ev]
theorem tfrc_Fire_says : Says tfrc_Fire_SC tfrc_Fire_S := by
  intro β ls' k' r' h'
  unfold tfrc_Fire_SC at h'
  obtain ⟨t_set_l0, l'1, rfl, h'1⟩ := un_li_some.1 h'
  obtain ⟨t_set_l1, l'2, rfl, h'2⟩ := un_li_some.1 h'1
  obtain ⟨t_s, l'3, rfl, h'3⟩ := un_i_some.1 h'2
  obtain ⟨t_x, l'4, rfl, h'4⟩ := un_i_some.1 h'3
  obtain ⟨t_loss, l'5, rfl, h'5⟩ := un_i_some.1 h'4
  obtain ⟨t_rtt, l'6, rfl, h'6⟩ := un_i_some.1 h'5
  obtain ⟨t_heard, l'7, rfl, h'7⟩ := un_b_some.1 h'6
  obtain ⟨t_doubled, l'8, rfl, h'8⟩ := un_i_some.1 h'7
  obtain ⟨t_began, l'9, rfl, h'9⟩ := un_b_some.1 h'8
  obtain ⟨t_started, l'10, rfl, h'10⟩ := un_b_some.1 h'9
  obtain ⟨t_due, l'11, rfl, h'11⟩ := un_i_some.1 h'10
  obtain ⟨now, l'12, rfl, h'12⟩ := un_i_some.1 h'11
  obtain ⟨rfl, h'Z⟩ := un_nil_some.1 h'12
  obtain ⟨l', a', b'⟩ := out_some.1 h'Z
  exact ⟨l', (tfrc_Fire_Se t_set_l0 t_set_l1 t_s t_x t_loss t_rtt t_heard t_doubled t_began t_started t_due now).trans a', b'⟩
theorem tfrc_Fire_c : FnC Go.Proofs.Tryz.prog 245 false 2 3 tfrc_Fire_in tfrc_Fire_out tfrc_Fire_S := by
  refine fn_ok (Λ := tfrc_Fire_Λ) mixed tab_ok g37 Go.Proofs.Tryz.func245 (by kernel_rfl) (body := fb Go.Proofs.Tryz.f245) rfl (ts := Go.Proofs.Tryz.f245.results.toList) rfl (cuts := []) (by kernel_rfl) (Nat.le_of_ble_eq_true (by kernel_rfl)) (by kernel_rfl) (rt := .w (.at (.bool))) rfl ?_ ?_
  · intro ls' r' h'
    unfold tfrc_Fire_S at h'
    obtain ⟨t_set_l0, l'1, rfl, h'1⟩ := un_li_some.1 h'
    obtain ⟨t_set_l1, l'2, rfl, h'2⟩ := un_li_some.1 h'1
    obtain ⟨t_s, l'3, rfl, h'3⟩ := un_i_some.1 h'2
    obtain ⟨t_x, l'4, rfl, h'4⟩ := un_i_some.1 h'3
    obtain ⟨t_loss, l'5, rfl, h'5⟩ := un_i_some.1 h'4
    obtain ⟨t_rtt, l'6, rfl, h'6⟩ := un_i_some.1 h'5
    obtain ⟨t_heard, l'7, rfl, h'7⟩ := un_b_some.1 h'6
    obtain ⟨t_doubled, l'8, rfl, h'8⟩ := un_i_some.1 h'7
    obtain ⟨t_began, l'9, rfl, h'9⟩ := un_b_some.1 h'8
    obtain ⟨t_started, l'10, rfl, h'10⟩ := un_b_some.1 h'9
    obtain ⟨t_due, l'11, rfl, h'11⟩ := un_i_some.1 h'10
    obtain ⟨now, l'12, rfl, h'12⟩ := un_i_some.1 h'11
    obtain ⟨rfl, h'Z⟩ := un_nil_some.1 h'12
    exact (tfrc_Fire_e t_set_l0 t_set_l1 t_s t_x t_loss t_rtt t_heard t_doubled t_began t_started t_due now).symm.trans h'Z
  · intro E w0 ws ρ0 hk b hb
    rw [show loopsOf (fb Go.Proofs.Tryz.f245) = [] by kernel_rfl] at hb
    cases hb
noncomputable def G38 : Env := G37.addE 245 2 tfrc_Fire_in tfrc_Fire_out tfrc_Fire_SC
theorem g38 : EnvOk Go.Proofs.Tryz.prog G38 := EnvOk.addE g37 tfrc_Fire_c tfrc_Fire_says
end Go.Sx.T

