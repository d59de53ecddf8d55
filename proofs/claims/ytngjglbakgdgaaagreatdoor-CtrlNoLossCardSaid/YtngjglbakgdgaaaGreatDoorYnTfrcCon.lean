import Derived.Test.YtngjglbakgdgaaaGreatDoorYnTfrcSpec
import Derived.Test.YtngjglbakgdgaaaGreatDoorYnSetCon
set_option linter.all false
namespace Go.Sx.T
open Go Go.Sx Go.Proofs
set_option maxRecDepth 100000

-- ### tfrc_New: function 62
def tfrc_New_in : Tm := ⟨[], [(0, .w (.at (.int .i64)))]⟩
def tfrc_New_out : Tm := ⟨[.cells 123 [.int .u64, .int .u64, .int .u64, .int .i64, .bool, .int .i64, .ptr 1 0, .bool, .bool, .int .i64], .cells 181 [.all 2 2], .row 178 2 [.int .i64, .int .u64]], [(0, .w (.at (.ptr 0 0)))]⟩

def tfrc_New_Λd : Loops := Loops.none
def tfrc_New_Λ : Loops := tfrc_New_Λd 

theorem tfrc_New_e (s : Int) : tfrc_New s = den G42 tfrc_New_Λ false tab Go.Proofs.Tryz.f62.ntmps (fun fr H => finish tab 0 Go.Proofs.Tryz.f62.results.toList tfrc_New_out [] fr H some) (fun _ _ _ => none) (fun fr H => finish tab 0 Go.Proofs.Tryz.f62.results.toList tfrc_New_out [] fr H some) 10000 [.code (fb Go.Proofs.Tryz.f62)] (instFr tfrc_New_in [.i s]) (instH tfrc_New_in [.i s]) := by kernel_rfl
def tfrc_New_S : List Leaf → Option (List Leaf) := fun ls => un_i ls fun s rr => un_nil rr (tfrc_New s)
def tfrc_New_SC : Tld := fun ls k' => un_i ls fun s rr => un_nil rr (out (tfrc_New s) k')
theorem tfrc_New_Se (s : Int) : tfrc_New_S [.i s] = tfrc_New s := by
  unfold tfrc_New_S
  simp only [un_i_ev, un_b_ev, un_s_ev, un_li_ev, un_lb_ev, un_ls_ev, un_nil_ev]
theorem tfrc_New_says : Says tfrc_New_SC tfrc_New_S := by
  intro β ls' k' r' h'
  unfold tfrc_New_SC at h'
  obtain ⟨s, l'1, rfl, h'1⟩ := un_i_some.1 h'
  obtain ⟨rfl, h'Z⟩ := un_nil_some.1 h'1
  obtain ⟨l', a', b'⟩ := out_some.1 h'Z
  exact ⟨l', (tfrc_New_Se s).trans a', b'⟩
theorem tfrc_New_c : FnC Go.Proofs.Tryz.prog 62 false 1 0 tfrc_New_in tfrc_New_out tfrc_New_S := by
  refine fn_ok (Λ := tfrc_New_Λ) mixed tab_ok g42 Go.Proofs.Tryz.func62 (by kernel_rfl) (body := fb Go.Proofs.Tryz.f62) rfl (ts := Go.Proofs.Tryz.f62.results.toList) rfl (cuts := []) (by kernel_rfl) (Nat.le_of_ble_eq_true (by kernel_rfl)) (by kernel_rfl) (rt := .w (.at (.ptr 0 0))) rfl ?_ ?_
  · intro ls' r' h'
    unfold tfrc_New_S at h'
    obtain ⟨s, l'1, rfl, h'1⟩ := un_i_some.1 h'
    obtain ⟨rfl, h'Z⟩ := un_nil_some.1 h'1
    exact (tfrc_New_e s).symm.trans h'Z
  · intro E w0 ws ρ0 hk b hb
    rw [show loopsOf (fb Go.Proofs.Tryz.f62) = [] by kernel_rfl] at hb
    cases hb
noncomputable def G43 : Env := G42.addE 62 1 tfrc_New_in tfrc_New_out tfrc_New_SC
theorem g43 : EnvOk Go.Proofs.Tryz.prog G43 := EnvOk.addE g42 tfrc_New_c tfrc_New_says

-- ### tfrc_begin: function 138
def tfrc_begin_in : Tm := ⟨[.cells 123 [.int .u64, .int .u64, .int .u64, .int .i64, .bool, .int .i64, .ptr 1 0, .bool, .bool, .int .i64], .cells 181 [.all 2 2], .row 178 2 [.int .i64, .int .u64]], [(0, .w (.at (.ptr 0 0)))]⟩
def tfrc_begin_out : Tm := ⟨[.dead, .dead, .dead], [(0, .w (.at (.int .u64)))]⟩

def tfrc_begin_Λd : Loops := Loops.none
def tfrc_begin_Λ : Loops := tfrc_begin_Λd 

theorem tfrc_begin_e (t_set_l0 : List Int) (t_set_l1 : List Int) (t_s : Int) (t_x : Int) (t_loss : Int) (t_rtt : Int) (t_heard : Bool) (t_doubled : Int) (t_began : Bool) (t_started : Bool) (t_due : Int) : tfrc_begin t_set_l0 t_set_l1 t_s t_x t_loss t_rtt t_heard t_doubled t_began t_started t_due = den G43 tfrc_begin_Λ true tab Go.Proofs.Tryz.f138.ntmps (fun fr H => finish tab 3 Go.Proofs.Tryz.f138.results.toList tfrc_begin_out [] fr H some) (fun _ _ _ => none) (fun fr H => finish tab 3 Go.Proofs.Tryz.f138.results.toList tfrc_begin_out [] fr H some) 10000 [.code (fb Go.Proofs.Tryz.f138)] (instFr tfrc_begin_in [.li t_set_l0, .li t_set_l1, .i t_s, .i t_x, .i t_loss, .i t_rtt, .b t_heard, .i t_doubled, .b t_began, .b t_started, .i t_due]) (instH tfrc_begin_in [.li t_set_l0, .li t_set_l1, .i t_s, .i t_x, .i t_loss, .i t_rtt, .b t_heard, .i t_doubled, .b t_began, .b t_started, .i t_due]) := by kernel_rfl
def tfrc_begin_S : List Leaf → Option (List Leaf) := fun ls => un_li ls fun t_set_l0 rr => un_li rr fun t_set_l1 rr => un_i rr fun t_s rr => un_i rr fun t_x rr => un_i rr fun t_loss rr => un_i rr fun t_rtt rr => un_b rr fun t_heard rr => un_i rr fun t_doubled rr => un_b rr fun t_began rr => un_b rr fun t_started rr => un_i rr fun t_due rr => un_nil rr (tfrc_begin t_set_l0 t_set_l1 t_s t_x t_loss t_rtt t_heard t_doubled t_began t_started t_due)
def tfrc_begin_SC : Tld := fun ls k' => un_li ls fun t_set_l0 rr => un_li rr fun t_set_l1 rr => un_i rr fun t_s rr => un_i rr fun t_x rr => un_i rr fun t_loss rr => un_i rr fun t_rtt rr => un_b rr fun t_heard rr => un_i rr fun t_doubled rr => un_b rr fun t_began rr => un_b rr fun t_started rr => un_i rr fun t_due rr => un_nil rr (out (tfrc_begin t_set_l0 t_set_l1 t_s t_x t_loss t_rtt t_heard t_doubled t_began t_started t_due) k')
theorem tfrc_begin_Se (t_set_l0 : List Int) (t_set_l1 : List Int) (t_s : Int) (t_x : Int) (t_loss : Int) (t_rtt : Int) (t_heard : Bool) (t_doubled : Int) (t_began : Bool) (t_started : Bool) (t_due : Int) : tfrc_begin_S [.li t_set_l0, .li t_set_l1, .i t_s, .i t_x, .i t_loss, .i t_rtt, .b t_heard, .i t_doubled, .b t_began, .b t_started, .i t_due] = tfrc_begin t_set_l0 t_set_l1 t_s t_x t_loss t_rtt t_heard t_doubled t_began t_started t_due := by
  unfold tfrc_begin_S
  simp only [un_i_ev, un_b_ev, un_s_ev, un_li_ev, un_lb_ev, un_ls_ev, un_nil_ev]
theorem tfrc_begin_says : Says tfrc_begin_SC tfrc_begin_S := by
  intro β ls' k' r' h'
  unfold tfrc_begin_SC at h'
  obtain ⟨t_set_l0, l'1, rfl, h'1⟩ := un_li_some.1 h'
  obtain ⟨t_set_l1, l'2, rfl, h'2⟩ := un_li_some.1 h'1
  obtain ⟨t_s, l'3, rfl, h'3⟩ := un_i_some.1 h'2
  obtain ⟨t_x, l'4, rfl, h'4⟩ := un_i_some.1 h'3
  obtain ⟨t_loss, l'5, rfl, h'5⟩ := un_i_some.1 h'4
  obtain ⟨t_rtt, l'6, rfl, h'6⟩ := un_i_some.1 h'5
  obtain ⟨t_heard, l'7, rfl, h'7⟩ := un_b_some.1 h'6
  obtain ⟨t_doubled, l'8, rfl, h'8⟩ := un_i_some.1 h'7
  obtain ⟨t_began, l'9, rfl, h'9⟩ := un_b_some.1 h'8
  obtain ⟨t_started, l'10, rfl, h'10⟩ := un_b_some.1 h'9
  obtain ⟨t_due, l'11, rfl, h'11⟩ := un_i_some.1 h'10
  obtain ⟨rfl, h'Z⟩ := un_nil_some.1 h'11
  obtain ⟨l', a', b'⟩ := out_some.1 h'Z
  exact ⟨l', (tfrc_begin_Se t_set_l0 t_set_l1 t_s t_x t_loss t_rtt t_heard t_doubled t_began t_started t_due).trans a', b'⟩
theorem tfrc_begin_c : FnC Go.Proofs.Tryz.prog 138 true 1 3 tfrc_begin_in tfrc_begin_out tfrc_begin_S := by
  refine fn_ok (Λ := tfrc_begin_Λ) mixed tab_ok g43 Go.Proofs.Tryz.func138 (by kernel_rfl) (body := fb Go.Proofs.Tryz.f138) rfl (ts := Go.Proofs.Tryz.f138.results.toList) rfl (cuts := []) (by kernel_rfl) (Nat.le_of_ble_eq_true (by kernel_rfl)) (by kernel_rfl) (rt := .w (.at (.int .u64))) rfl ?_ ?_
  · intro ls' r' h'
    unfold tfrc_begin_S at h'
    obtain ⟨t_set_l0, l'1, rfl, h'1⟩ := un_li_some.1 h'
    obtain ⟨t_set_l1, l'2, rfl, h'2⟩ := un_li_some.1 h'1
    obtain ⟨t_s, l'3, rfl, h'3⟩ := un_i_some.1 h'2
    obtain ⟨t_x, l'4, rfl, h'4⟩ := un_i_some.1 h'3
    obtain ⟨t_loss, l'5, rfl, h'5⟩ := un_i_some.1 h'4
    obtain ⟨t_rtt, l'6, rfl, h'6⟩ := un_i_some.1 h'5
    obtain ⟨t_heard, l'7, rfl, h'7⟩ := un_b_some.1 h'6
    obtain ⟨t_doubled, l'8, rfl, h'8⟩ := un_i_some.1 h'7
    obtain ⟨t_began, l'9, rfl, h'9⟩ := un_b_some.1 h'8
    obtain ⟨t_started, l'10, rfl, h'10⟩ := un_b_some.1 h'9
    obtain ⟨t_due, l'11, rfl, h'11⟩ := un_i_some.1 h'10
    obtain ⟨rfl, h'Z⟩ := un_nil_some.1 h'11
    exact (tfrc_begin_e t_set_l0 t_set_l1 t_s t_x t_loss t_rtt t_heard t_doubled t_began t_started t_due).symm.trans h'Z
  · intro E w0 ws ρ0 hk b hb
    rw [show loopsOf (fb Go.Proofs.Tryz.f138) = [] by kernel_rfl] at hb
    cases hb
noncomputable def G44 : Env := G43.addP 138 1 tfrc_begin_in tfrc_begin_out tfrc_begin_SC
theorem g44 : EnvOk Go.Proofs.Tryz.prog G44 := EnvOk.addP g43 tfrc_begin_c tfrc_begin_says

-- ### tfrc_limit: function 139
def tfrc_limit_in : Tm := ⟨[.cells 123 [.int .u64, .int .u64, .int .u64, .int .i64, .bool, .int .i64, .ptr 1 0, .bool, .bool, .int .i64], .cells 181 [.all 2 2], .row 178 2 [.int .i64, .int .u64]], [(0, .w (.at (.ptr 0 0))), (1, .w (.at (.int .i64))), (2, .w (.at (.int .u64))), (3, .w (.at (.int .u64))), (4, .w (.at (.bool)))]⟩
def tfrc_limit_out : Tm := ⟨[.cells 123 [.int .u64, .int .u64, .int .u64, .int .i64, .bool, .int .i64, .ptr 1 0, .bool, .bool, .int .i64], .cells 181 [.all 3 2], .dead, .row 178 2 [.int .i64, .int .u64]], [(0, .w (.at (.int .u64)))]⟩

def tfrc_limit_Λd : Loops := Loops.none
def tfrc_limit_Λ : Loops := tfrc_limit_Λd 

theorem tfrc_limit_e (t_set_l0 : List Int) (t_set_l1 : List Int) (t_s : Int) (t_x : Int) (t_loss : Int) (t_rtt : Int) (t_heard : Bool) (t_doubled : Int) (t_began : Bool) (t_started : Bool) (t_due : Int) (now : Int) (x : Int) (p : Int) (limited : Bool) : tfrc_limit t_set_l0 t_set_l1 t_s t_x t_loss t_rtt t_heard t_doubled t_began t_started t_due now x p limited = den G44 tfrc_limit_Λ false tab Go.Proofs.Tryz.f139.ntmps (fun fr H => finish tab 3 Go.Proofs.Tryz.f139.results.toList tfrc_limit_out [] fr H some) (fun _ _ _ => none) (fun fr H => finish tab 3 Go.Proofs.Tryz.f139.results.toList tfrc_limit_out [] fr H some) 10000 [.code (fb Go.Proofs.Tryz.f139)] (instFr tfrc_limit_in [.li t_set_l0, .li t_set_l1, .i t_s, .i t_x, .i t_loss, .i t_rtt, .b t_heard, .i t_doubled, .b t_began, .b t_started, .i t_due, .i now, .i x, .i p, .b limited]) (instH tfrc_limit_in [.li t_set_l0, .li t_set_l1, .i t_s, .i t_x, .i t_loss, .i t_rtt, .b t_heard, .i t_doubled, .b t_began, .b t_started, .i t_due, .i now, .i x, .i p, .b limited]) := by kernel_rfl
def tfrc_limit_S : List Leaf → Option (List Leaf) := fun ls => un_li ls fun t_set_l0 rr => un_li rr fun t_set_l1 rr => un_i rr fun t_s rr => un_i rr fun t_x rr => un_i rr fun t_loss rr => un_i rr fun t_rtt rr => un_b rr fun t_heard rr => un_i rr fun t_doubled rr => un_b rr fun t_began rr => un_b rr fun t_started rr => un_i rr fun t_due rr => un_i rr fun now rr => un_i rr fun x rr => un_i rr fun p rr => un_b rr fun limited rr => un_nil rr (tfrc_limit t_set_l0 t_set_l1 t_s t_x t_loss t_rtt t_heard t_doubled t_began t_started t_due now x p limited)
def tfrc_limit_SC : Tld := fun ls k' => un_li ls fun t_set_l0 rr => un_li rr fun t_set_l1 rr => un_i rr fun t_s rr => un_i rr fun t_x rr => un_i rr fun t_loss rr => un_i rr fun t_rtt rr => un_b rr fun t_heard rr => un_i rr fun t_doubled rr => un_b rr fun t_began rr => un_b rr fun t_started rr => un_i rr fun t_due rr => un_i rr fun now rr => un_i rr fun x rr => un_i rr fun p rr => un_b rr fun limited rr => un_nil rr (out (tfrc_limit t_set_l0 t_set_l1 t_s t_x t_loss t_rtt t_heard t_doubled t_began t_started t_due now x p limited) k')
theorem tfrc_limit_Se (t_set_l0 : List Int) (t_set_l1 : List Int) (t_s : Int) (t_x : Int) (t_loss : Int) (t_rtt : Int) (t_heard : Bool) (t_doubled : Int) (t_began : Bool) (t_started : Bool) (t_due : Int) (now : Int) (x : Int) (p : Int) (limited : Bool) : tfrc_limit_S [.li t_set_l0, .li t_set_l1, .i t_s, .i t_x, .i t_loss, .i t_rtt, .b t_heard, .i t_doubled, .b t_began, .b t_started, .i t_due, .i now, .i x, .i p, .b limited] = tfrc_limit t_set_l0 t_set_l1 t_s t_x t_loss t_rtt t_heard t_doubled t_began t_started t_due now x p limited := by
  unfold tfrc_limit_S
  simp only [un_i_ev, un_b_ev, un_s_ev, un_li_ev, un_lb_ev, un_ls_ev, un_nil_ev]
theorem tfrc_limit_says : Says tfrc_limit_SC tfrc_limit_S := by
  intro β ls' k' r' h'
  unfold tfrc_limit_SC at h'
  obtain ⟨t_set_l0, l'1, rfl, h'1⟩ := un_li_some.1 h'
  obtain ⟨t_set_l1, l'2, rfl, h'2⟩ := un_li_some.1 h'1
  obtain ⟨t_s, l'3, rfl, h'3⟩ := un_i_some.1 h'2
  obtain ⟨t_x, l'4, rfl, h'4⟩ := un_i_some.1 h'3
  obtain ⟨t_loss, l'5, rfl, h'5⟩ := un_i_some.1 h'4
  obtain ⟨t_rtt, l'6, rfl, h'6⟩ := un_i_some.1 h'5
  obtain ⟨t_heard, l'7, rfl, h'7⟩ := un_b_some.1 h'6
  obtain ⟨t_doubled, l'8, rfl, h'8⟩ := un_i_some.1 h'7
  obtain ⟨t_began, l'9, rfl, h'9⟩ := un_b_some.1 h'8
  obtain ⟨t_started, l'10, rfl, h'10⟩ := un_b_some.1 h'9
  obtain ⟨t_due, l'11, rfl, h'11⟩ := un_i_some.1 h'10
  obtain ⟨now, l'12, rfl, h'12⟩ := un_i_some.1 h'11
  obtain ⟨x, l'13, rfl, h'13⟩ := un_i_some.1 h'12
  obtain ⟨p, l'14, rfl, h'14⟩ := un_i_some.1 h'13
  obtain ⟨limited, l'15, rfl, h'15⟩ := un_b_some.1 h'14
  obtain ⟨rfl, h'Z⟩ := un_nil_some.1 h'15
  obtain ⟨l', a', b'⟩ := out_some.1 h'Z
  exact ⟨l', (tfrc_limit_Se t_set_l0 t_set_l1 t_s t_x t_loss t_rtt t_heard t_doubled t_began t_started t_due now x p limited).trans a', b'⟩
theorem tfrc_limit_c : FnC Go.Proofs.Tryz.prog 139 false 5 3 tfrc_limit_in tfrc_limit_out tfrc_limit_S := by
  refine fn_ok (Λ := tfrc_limit_Λ) mixed tab_ok g44 Go.Proofs.Tryz.func139 (by kernel_rfl) (body := fb Go.Proofs.Tryz.f139) rfl (ts := Go.Proofs.Tryz.f139.results.toList) rfl (cuts := []) (by kernel_rfl) (Nat.le_of_ble_eq_true (by kernel_rfl)) (by kernel_rfl) (rt := .w (.at (.int .u64))) rfl ?_ ?_
  · intro ls' r' h'
    unfold tfrc_limit_S at h'
    obtain ⟨t_set_l0, l'1, rfl, h'1⟩ := un_li_some.1 h'
    obtain ⟨t_set_l1, l'2, rfl, h'2⟩ := un_li_some.1 h'1
    obtain ⟨t_s, l'3, rfl, h'3⟩ := un_i_some.1 h'2
    obtain ⟨t_x, l'4, rfl, h'4⟩ := un_i_some.1 h'3
    obtain ⟨t_loss, l'5, rfl, h'5⟩ := un_i_some.1 h'4
    obtain ⟨t_rtt, l'6, rfl, h'6⟩ := un_i_some.1 h'5
    obtain ⟨t_heard, l'7, rfl, h'7⟩ := un_b_some.1 h'6
    obtain ⟨t_doubled, l'8, rfl, h'8⟩ := un_i_some.1 h'7
    obtain ⟨t_began, l'9, rfl, h'9⟩ := un_b_some.1 h'8
    obtain ⟨t_started, l'10, rfl, h'10⟩ := un_b_some.1 h'9
    obtain ⟨t_due, l'11, rfl, h'11⟩ := un_i_some.1 h'10
    obtain ⟨now, l'12, rfl, h'12⟩ := un_i_some.1 h'11
    obtain ⟨x, l'13, rfl, h'13⟩ := un_i_some.1 h'12
    obtain ⟨p, l'14, rfl, h'14⟩ := un_i_some.1 h'13
    obtain ⟨limited, l'15, rfl, h'15⟩ := un_b_some.1 h'14
    obtain ⟨rfl, h'Z⟩ := un_nil_some.1 h'15
    exact (tfrc_limit_e t_set_l0 t_set_l1 t_s t_x t_loss t_rtt t_heard t_doubled t_began t_started t_due now x p limited).symm.trans h'Z
  · intro E w0 ws ρ0 hk b hb
    rw [show loopsOf (fb Go.Proofs.Tryz.f139) = [] by kernel_rfl] at hb
    cases hb
noncomputable def G45 : Env := G44.addE 139 5 tfrc_limit_in tfrc_limit_out tfrc_limit_SC
theorem g45 : EnvOk Go.Proofs.Tryz.prog G45 := EnvOk.addE g44 tfrc_limit_c tfrc_limit_says

-- ### tfrc_waits: function 140
def tfrc_waits_in : Tm := ⟨[.cells 123 [.int .u64, .int .u64, .int .u64, .int .i64, .bool, .int .i64, .ptr 1 0, .bool, .bool, .int .i64], .cells 181 [.all 2 2], .row 178 2 [.int .i64, .int .u64]], [(0, .w (.at (.ptr 0 0))), (1, .w (.at (.int .i64)))]⟩
def tfrc_waits_out : Tm := ⟨[.cells 123 [.int .u64, .int .u64, .int .u64, .int .i64, .bool, .int .i64, .ptr 1 0, .bool, .bool, .int .i64], .cells 181 [.all 3 2], .dead, .row 178 2 [.int .i64, .int .u64]], [(0, .tup [])]⟩

def tfrc_waits_Λd : Loops := Loops.none
def tfrc_waits_Λ : Loops := tfrc_waits_Λd 

theorem tfrc_waits_e (t_set_l0 : List Int) (t_set_l1 : List Int) (t_s : Int) (t_x : Int) (t_loss : Int) (t_rtt : Int) (t_heard : Bool) (t_doubled : Int) (t_began : Bool) (t_started : Bool) (t_due : Int) (now : Int) : tfrc_waits t_set_l0 t_set_l1 t_s t_x t_loss t_rtt t_heard t_doubled t_began t_started t_due now = den G45 tfrc_waits_Λ false tab Go.Proofs.Tryz.f140.ntmps (fun fr H => finish tab 3 Go.Proofs.Tryz.f140.results.toList tfrc_waits_out [] fr H some) (fun _ _ _ => none) (fun fr H => finish tab 3 Go.Proofs.Tryz.f140.results.toList tfrc_waits_out [] fr H some) 10000 [.code (fb Go.Proofs.Tryz.f140)] (instFr tfrc_waits_in [.li t_set_l0, .li t_set_l1, .i t_s, .i t_x, .i t_loss, .i t_rtt, .b t_heard, .i t_doubled, .b t_began, .b t_started, .i t_due, .i now]) (instH tfrc_waits_in [.li t_set_l0, .li t_set_l1, .i t_s, .i t_x, .i t_loss, .i t_rtt, .b t_heard, .i t_doubled, .b t_began, .b t_started, .i t_due, .i now]) := by kernel_rfl
def tfrc_waits_S : List Leaf → Option (List Leaf) := fun ls => un_li ls fun t_set_l0 rr => un_li rr fun t_set_l1 rr => un_i rr fun t_s rr => un_i rr fun t_x rr => un_i rr fun t_loss rr => un_i rr fun t_rtt rr => un_b rr fun t_heard rr => un_i rr fun t_doubled rr => un_b rr fun t_began rr => un_b rr fun t_started rr => un_i rr fun t_due rr => un_i rr fun now rr => un_nil rr (tfrc_waits t_set_l0 t_set_l1 t_s t_x t_loss t_rtt t_heard t_doubled t_began t_started t_due now)
def tfrc_waits_SC : Tld := fun ls k' => un_li ls fun t_set_l0 rr => un_li rr fun t_set_l1 rr => un_i rr fun t_s rr => un_i rr fun t_x rr => un_i rr fun t_loss rr => un_i rr fun t_rtt rr => un_b rr fun t_heard rr => un_i rr fun t_doubled rr => un_b rr fun t_began rr => un_b rr fun t_started rr => un_i rr fun t_due rr => un_i rr fun now rr => un_nil rr (out (tfrc_waits t_set_l0 t_set_l1 t_s t_x t_loss t_rtt t_heard t_doubled t_began t_started t_due now) k')
theorem tfrc_waits_Se (t_set_l0 : List Int) (t_set_l1 : List Int) (t_s : Int) (t_x : Int) (t_loss : Int) (t_rtt : Int) (t_heard : Bool) (t_doubled : Int) (t_began : Bool) (t_started : Bool) (t_due : Int) (now : Int) : tfrc_waits_S [.li t_set_l0, .li t_set_l1, .i t_s, .i t_x, .i t_loss, .i t_rtt, .b t_heard, .i t_doubled, .b t_began, .b t_started, .i t_due, .i now] = tfrc_waits t_set_l0 t_set_l1 t_s t_x t_loss t_rtt t_heard t_doubled t_began t_started t_due now := by
  unfold tfrc_waits_S
  simp only [un_i_ev, un_b_ev, un_s_ev, un_li_ev, un_lb_ev, un_ls_ev, un_nil_ev]
theorem tfrc_waits_says : Says tfrc_waits_SC tfrc_waits_S := by
  intro β ls' k' r' h'
  unfold tfrc_waits_SC at h'
  obtain ⟨t_set_l0, l'1, rfl, h'1⟩ := un_li_some.1 h'
  obtain ⟨t_set_l1, l'2, rfl, h'2⟩ := un_li_some.1 h'1
  obtain ⟨t_s, l'3, rfl, h'3⟩ := un_i_some.1 h'2
  obtain ⟨t_x, l'4, rfl, h'4⟩ := un_i_some.1 h'3
  obtain ⟨t_loss, l'5, rfl, h'5⟩ := un_i_some.1 h'4
  obtain ⟨t_rtt, l'6, rfl, h'6⟩ := un_i_some.1 h'5
  obtain ⟨t_heard, l'7, rfl, h'7⟩ := un_b_some.1 h'6
  obtain ⟨t_doubled, l'8, rfl, h'8⟩ := un_i_some.1 h'7
  obtain ⟨t_began, l'9, rfl, h'9⟩ := un_b_some.1 h'8
  obtain ⟨t_started, l'10, rfl, h'10⟩ := un_b_some.1 h'9
  obtain ⟨t_due, l'11, rfl, h'11⟩ := un_i_some.1 h'10
  obtain ⟨now, l'12, rfl, h'12⟩ := un_i_some.1 h'11
  obtain ⟨rfl, h'Z⟩ := un_nil_some.1 h'12
  obtain ⟨l', a', b'⟩ := out_some.1 h'Z
  exact ⟨l', (tfrc_waits_Se t_set_l0 t_set_l1 t_s t_x t_loss t_rtt t_heard t_doubled t_began t_started t_due now).trans a', b'⟩
theorem tfrc_waits_c : FnC Go.Proofs.Tryz.prog 140 false 2 3 tfrc_waits_in tfrc_waits_out tfrc_waits_S := by
  refine fn_ok (Λ := tfrc_waits_Λ) mixed tab_ok g45 Go.Proofs.Tryz.func140 (by kernel_rfl) (body := fb Go.Proofs.Tryz.f140) rfl (ts := Go.Proofs.Tryz.f140.results.toList) rfl (cuts := []) (by kernel_rfl) (Nat.le_of_ble_eq_true (by kernel_rfl)) (by kernel_rfl) (rt := .tup []) rfl ?_ ?_
  · intro ls' r' h'
    unfold tfrc_waits_S at h'
    obtain ⟨t_set_l0, l'1, rfl, h'1⟩ := un_li_some.1 h'
    obtain ⟨t_set_l1, l'2, rfl, h'2⟩ := un_li_some.1 h'1
    obtain ⟨t_s, l'3, rfl, h'3⟩ := un_i_some.1 h'2
    obtain ⟨t_x, l'4, rfl, h'4⟩ := un_i_some.1 h'3
    obtain ⟨t_loss, l'5, rfl, h'5⟩ := un_i_some.1 h'4
    obtain ⟨t_rtt, l'6, rfl, h'6⟩ := un_i_some.1 h'5
    obtain ⟨t_heard, l'7, rfl, h'7⟩ := un_b_some.1 h'6
    obtain ⟨t_doubled, l'8, rfl, h'8⟩ := un_i_some.1 h'7
    obtain ⟨t_began, l'9, rfl, h'9⟩ := un_b_some.1 h'8
    obtain ⟨t_started, l'10, rfl, h'10⟩ := un_b_some.1 h'9
    obtain ⟨t_due, l'11, rfl, h'11⟩ := un_i_some.1 h'10
    obtain ⟨now, l'12, rfl, h'12⟩ := un_i_some.1 h'11
    obtain ⟨rfl, h'Z⟩ := un_nil_some.1 h'12
    exact (tfrc_waits_e t_set_l0 t_set_l1 t_s t_x t_loss t_rtt t_heard t_doubled t_began t_started t_due now).symm.trans h'Z
  · intro E w0 ws ρ0 hk b hb
    rw [show loopsOf (fb Go.Proofs.Tryz.f140) = [] by kernel_rfl] at hb
    cases hb
noncomputable def G46 : Env := G45.addE 140 2 tfrc_waits_in tfrc_waits_out tfrc_waits_SC
theorem g46 : EnvOk Go.Proofs.Tryz.prog G46 := EnvOk.addE g45 tfrc_waits_c tfrc_waits_says

-- ### tfrc_Hear: function 114
def tfrc_Hear_in : Tm := ⟨[.cells 123 [.int .u64, .int .u64, .int .u64, .int .i64, .bool, .int .i64, .ptr 1 0, .bool, .bool, .int .i64], .cells 181 [.all 2 2], .row 178 2 [.int .i64, .int .u64]], [(0, .w (.at (.ptr 0 0))), (1, .w (.at (.int .i64))), (2, .w (.at (.int .i64))), (3, .w (.at (.int .u64))), (4, .w (.at (.int .u64))), (5, .w (.at (.bool)))]⟩
def tfrc_Hear_out : Tm := ⟨[.cells 123 [.int .u64, .int .u64, .int .u64, .int .i64, .bool, .int .i64, .ptr 1 0, .bool, .bool, .int .i64], .cells 181 [.all 3 2], .dead, .row 178 2 [.int .i64, .int .u64]], [(0, .tup [])]⟩

def tfrc_Hear_Λd : Loops := Loops.none
def tfrc_Hear_Λ : Loops := tfrc_Hear_Λd 

theorem tfrc_Hear_e (t_set_l0 : List Int) (t_set_l1 : List Int) (t_s : Int) (t_x : Int) (t_loss : Int) (t_rtt : Int) (t_heard : Bool) (t_doubled : Int) (t_began : Bool) (t_started : Bool) (t_due : Int) (now : Int) (sample : Int) (x : Int) (p : Int) (limited : Bool) : tfrc_Hear t_set_l0 t_set_l1 t_s t_x t_loss t_rtt t_heard t_doubled t_began t_started t_due now sample x p limited = den G46 tfrc_Hear_Λ false tab Go.Proofs.Tryz.f114.ntmps (fun fr H => finish tab 3 Go.Proofs.Tryz.f114.results.toList tfrc_Hear_out [] fr H some) (fun _ _ _ => none) (fun fr H => finish tab 3 Go.Proofs.Tryz.f114.results.toList tfrc_Hear_out [] fr H some) 10000 [.code (fb Go.Proofs.Tryz.f114)] (instFr tfrc_Hear_in [.li t_set_l0, .li t_set_l1, .i t_s, .i t_x, .i t_loss, .i t_rtt, .b t_heard, .i t_doubled, .b t_began, .b t_started, .i t_due, .i now, .i sample, .i x, .i p, .b limited]) (instH tfrc_Hear_in [.li t_set_l0, .li t_set_l1, .i t_s, .i t_x, .i t_loss, .i t_rtt, .b t_heard, .i t_doubled, .b t_began, .b t_started, .i t_due, .i now, .i sample, .i x, .i p, .b limited]) := by kernel_rfl
def tfrc_Hear_S : List Leaf → Option (List Leaf) := fun ls => un_li ls fun t_set_l0 rr => un_li rr fun t_set_l1 rr => un_i rr fun t_s rr => un_i rr fun t_x rr => un_i rr fun t_loss rr => un_i rr fun t_rtt rr => un_b rr fun t_heard rr => un_i rr fun t_doubled rr => un_b rr fun t_began rr => un_b rr fun t_started rr => un_i rr fun t_due rr => un_i rr fun now rr => un_i rr fun sample rr => un_i rr fun x rr => un_i rr fun p rr => un_b rr fun limited rr => un_nil rr (tfrc_Hear t_set_l0 t_set_l1 t_s t_x t_loss t_rtt t_heard t_doubled t_began t_started t_due now sample x p limited)
def tfrc_Hear_SC : Tld := fun ls k' => un_li ls fun t_set_l0 rr => un_li rr fun t_set_l1 rr => un_i rr fun t_s rr => un_i rr fun t_x rr => un_i rr fun t_loss rr => un_i rr fun t_rtt rr => un_b rr fun t_heard rr => un_i rr fun t_doubled rr => un_b rr fun t_began rr => un_b rr fun t_started rr => un_i rr fun t_due rr => un_i rr fun now rr => un_i rr fun sample rr => un_i rr fun x rr => un_i rr fun p rr => un_b rr fun limited rr => un_nil rr (out (tfrc_Hear t_set_l0 t_set_l1 t_s t_x t_loss t_rtt t_heard t_doubled t_began t_started t_due now sample x p limited) k')
theorem tfrc_Hear_Se (t_set_l0 : List Int) (t_set_l1 : List Int) (t_s : Int) (t_x : Int) (t_loss : Int) (t_rtt : Int) (t_heard : Bool) (t_doubled : Int) (t_began : Bool) (t_started : Bool) (t_due : Int) (now : Int) (sample : Int) (x : Int) (p : Int) (limited : Bool) : tfrc_Hear_S [.li t_set_l0, .li t_set_l1, .i t_s, .i t_x, .i t_loss, .i t_rtt, .b t_heard, .i t_doubled, .b t_began, .b t_started, .i t_due, .i now, .i sample, .i x, .i p, .b limited] = tfrc_Hear t_set_l0 t_set_l1 t_s t_x t_loss t_rtt t_heard t_doubled t_began t_started t_due now sample x p limited := by
  unfold tfrc_Hear_S
  simp only [un_i_ev, un_b_ev, un_s_ev, un_li_ev, un_lb_ev, un_ls_ev, un_nil_ev]
theorem tfrc_Hear_says : Says tfrc_Hear_SC tfrc_Hear_S := by
  intro β ls' k' r' h'
  unfold tfrc_Hear_SC at h'
  obtain ⟨t_set_l0, l'1, rfl, h'1⟩ := un_li_some.1 h'
  obtain ⟨t_set_l1, l'2, rfl, h'2⟩ := un_li_some.1 h'1
  obtain ⟨t_s, l'3, rfl, h'3⟩ := un_i_some.1 h'2
  obtain ⟨t_x, l'4, rfl, h'4⟩ := un_i_some.1 h'3
  obtain ⟨t_loss, l'5, rfl, h'5⟩ := un_i_some.1 h'4
  obtain ⟨t_rtt, l'6, rfl, h'6⟩ := un_i_some.1 h'5
  obtain ⟨t_heard, l'7, rfl, h'7⟩ := un_b_some.1 h'6
  obtain ⟨t_doubled, l'8, rfl, h'8⟩ := un_i_some.1 h'7
  obtain ⟨t_began, l'9, rfl, h'9⟩ := un_b_some.1 h'8
  obtain ⟨t_started, l'10, rfl, h'10⟩ := un_b_some.1 h'9
  obtain ⟨t_due, l'11, rfl, h'11⟩ := un_i_some.1 h'10
  obtain ⟨now, l'12, rfl, h'12⟩ := un_i_some.1 h'11
  obtain ⟨sample, l'13, rfl, h'13⟩ := un_i_some.1 h'12
  obtain ⟨x, l'14, rfl, h'14⟩ := un_i_some.1 h'13
  obtain ⟨p, l'15, rfl, h'15⟩ := un_i_some.1 h'14
  obtain ⟨limited, l'16, rfl, h'16⟩ := un_b_some.1 h'15
  obtain ⟨rfl, h'Z⟩ := un_nil_some.1 h'16
  obtain ⟨l', a', b'⟩ := out_some.1 h'Z
  exact ⟨l', (tfrc_Hear_Se t_set_l0 t_set_l1 t_s t_x t_loss t_rtt t_heard t_doubled t_began t_started t_due now sample x p limited).trans a', b'⟩
theorem tfrc_Hear_c : FnC Go.Proofs.Tryz.prog 114 false 6 3 tfrc_Hear_in tfrc_Hear_out tfrc_Hear_S := by
  refine fn_ok (Λ := tfrc_Hear_Λ) mixed tab_ok g46 Go.Proofs.Tryz.func114 (by kernel_rfl) (body := fb Go.Proofs.Tryz.f114) rfl (ts := Go.Proofs.Tryz.f114.results.toList) rfl (cuts := []) (by kernel_rfl) (Nat.le_of_ble_eq_true (by kernel_rfl)) (by kernel_rfl) (rt := .tup []) rfl ?_ ?_
  · intro ls' r' h'
    unfold tfrc_Hear_S at h'
    obtain ⟨t_set_l0, l'1, rfl, h'1⟩ := un_li_some.1 h'
    obtain ⟨t_set_l1, l'2, rfl, h'2⟩ := un_li_some.1 h'1
    obtain ⟨t_s, l'3, rfl, h'3⟩ := un_i_some.1 h'2
    obtain ⟨t_x, l'4, rfl, h'4⟩ := un_i_some.1 h'3
    obtain ⟨t_loss, l'5, rfl, h'5⟩ := un_i_some.1 h'4
    obtain ⟨t_rtt, l'6, rfl, h'6⟩ := un_i_some.1 h'5
    obtain ⟨t_heard, l'7, rfl, h'7⟩ := un_b_some.1 h'6
    obtain ⟨t_doubled, l'8, rfl, h'8⟩ := un_i_some.1 h'7
    obtain ⟨t_began, l'9, rfl, h'9⟩ := un_b_some.1 h'8
    obtain ⟨t_started, l'10, rfl, h'10⟩ := un_b_some.1 h'9
    obtain ⟨t_due, l'11, rfl, h'11⟩ := un_i_some.1 h'10
    obtain ⟨now, l'12, rfl, h'12⟩ := un_i_some.1 h'11
    obtain ⟨sample, l'13, rfl, h'13⟩ := un_i_some.1 h'12
    obtain ⟨x, l'14, rfl, h'14⟩ := un_i_some.1 h'13
    obtain ⟨p, l'15, rfl, h'15⟩ := un_i_some.1 h'14
    obtain ⟨limited, l'16, rfl, h'16⟩ := un_b_some.1 h'15
    obtain ⟨rfl, h'Z⟩ := un_nil_some.1 h'16
    exact (tfrc_Hear_e t_set_l0 t_set_l1 t_s t_x t_loss t_rtt t_heard t_doubled t_began t_started t_due now sample x p limited).symm.trans h'Z
  · intro E w0 ws ρ0 hk b hb
    rw [show loopsOf (fb Go.Proofs.Tryz.f114) = [] by kernel_rfl] at hb
    cases hb
noncomputable def G47 : Env := G46.addE 114 6 tfrc_Hear_in tfrc_Hear_out tfrc_Hear_SC
theorem g47 : EnvOk Go.Proofs.Tryz.prog G47 := EnvOk.addE g46 tfrc_Hear_c tfrc_Hear_says

-- ### tfrc_Rate: function 22
def tfrc_Rate_in : Tm := ⟨[.cells 123 [.int .u64, .int .u64, .int .u64, .int .i64, .bool, .int .i64, .ptr 1 0, .bool, .bool, .int .i64], .cells 181 [.all 2 2], .row 178 2 [.int .i64, .int .u64]], [(0, .w (.at (.ptr 0 0)))]⟩
def tfrc_Rate_out : Tm := ⟨[.dead, .dead, .dead], [(0, .w (.at (.int .u64)))]⟩

def tfrc_Rate_Λd : Loops := Loops.none
def tfrc_Rate_Λ : Loops := tfrc_Rate_Λd 

theorem tfrc_Rate_e (t_set_l0 : List Int) (t_set_l1 : List Int) (t_s : Int) (t_x : Int) (t_loss : Int) (t_rtt : Int) (t_heard : Bool) (t_doubled : Int) (t_began : Bool) (t_started : Bool) (t_due : Int) : tfrc_Rate t_set_l0 t_set_l1 t_s t_x t_loss t_rtt t_heard t_doubled t_began t_started t_due = den G47 tfrc_Rate_Λ true tab Go.Proofs.Tryz.f22.ntmps (fun fr H => finish tab 3 Go.Proofs.Tryz.f22.results.toList tfrc_Rate_out [] fr H some) (fun _ _ _ => none) (fun fr H => finish tab 3 Go.Proofs.Tryz.f22.results.toList tfrc_Rate_out [] fr H some) 10000 [.code (fb Go.Proofs.Tryz.f22)] (instFr tfrc_Rate_in [.li t_set_l0, .li t_set_l1, .i t_s, .i t_x, .i t_loss, .i t_rtt, .b t_heard, .i t_doubled, .b t_began, .b t_started, .i t_due]) (instH tfrc_Rate_in [.li t_set_l0, .li t_set_l1, .i t_s, .i t_x, .i t_loss, .i t_rtt, .b t_heard, .i t_doubled, .b t_began, .b t_started, .i t_due]) := by kernel_rfl
def tfrc_Rate_S : List Leaf → Option (List Leaf) := fun ls => un_li ls fun t_set_l0 rr => un_li rr fun t_set_l1 rr => un_i rr fun t_s rr => un_i rr fun t_x rr => un_i rr fun t_loss rr => un_i rr fun t_rtt rr => un_b rr fun t_heard rr => un_i rr fun t_doubled rr => un_b rr fun t_began rr => un_b rr fun t_started rr => un_i rr fun t_due rr => un_nil rr (tfrc_Rate t_set_l0 t_set_l1 t_s t_x t_loss t_rtt t_heard t_doubled t_began t_started t_due)
def tfrc_Rate_SC : Tld := fun ls k' => un_li ls fun t_set_l0 rr => un_li rr fun t_set_l1 rr => un_i rr fun t_s rr => un_i rr fun t_x rr => un_i rr fun t_loss rr => un_i rr fun t_rtt rr => un_b rr fun t_heard rr => un_i rr fun t_doubled rr => un_b rr fun t_began rr => un_b rr fun t_started rr => un_i rr fun t_due rr => un_nil rr (out (tfrc_Rate t_set_l0 t_set_l1 t_s t_x t_loss t_rtt t_heard t_doubled t_began t_started t_due) k')
theorem tfrc_Rate_Se (t_set_l0 : List Int) (t_set_l1 : List Int) (t_s : Int) (t_x : Int) (t_loss : Int) (t_rtt : Int) (t_heard : Bool) (t_doubled : Int) (t_began : Bool) (t_started : Bool) (t_due : Int) : tfrc_Rate_S [.li t_set_l0, .li t_set_l1, .i t_s, .i t_x, .i t_loss, .i t_rtt, .b t_heard, .i t_doubled, .b t_began, .b t_started, .i t_due] = tfrc_Rate t_set_l0 t_set_l1 t_s t_x t_loss t_rtt t_heard t_doubled t_began t_started t_due := by
  unfold tfrc_Rate_S
  simp only [un_i_ev, un_b_ev, un_s_ev, un_li_ev, un_lb_ev, un_ls_ev, un_nil_ev]
theorem tfrc_Rate_says : Says tfrc_Rate_SC tfrc_Rate_S := by
  intro β ls' k' r' h'
  unfold tfrc_Rate_SC at h'
  obtain ⟨t_set_l0, l'1, rfl, h'1⟩ := un_li_some.1 h'
  obtain ⟨t_set_l1, l'2, rfl, h'2⟩ := un_li_some.1 h'1
  obtain ⟨t_s, l'3, rfl, h'3⟩ := un_i_some.1 h'2
  obtain ⟨t_x, l'4, rfl, h'4⟩ := un_i_some.1 h'3
  obtain ⟨t_loss, l'5, rfl, h'5⟩ := un_i_some.1 h'4
  obtain ⟨t_rtt, l'6, rfl, h'6⟩ := un_i_some.1 h'5
  obtain ⟨t_heard, l'7, rfl, h'7⟩ := un_b_some.1 h'6
  obtain ⟨t_doubled, l'8, rfl, h'8⟩ := un_i_some.1 h'7
  obtain ⟨t_began, l'9, rfl, h'9⟩ := un_b_some.1 h'8
  obtain ⟨t_started, l'10, rfl, h'10⟩ := un_b_some.1 h'9
  obtain ⟨t_due, l'11, rfl, h'11⟩ := un_i_some.1 h'10
  obtain ⟨rfl, h'Z⟩ := un_nil_some.1 h'11
  obtain ⟨l', a', b'⟩ := out_some.1 h'Z
  exact ⟨l', (tfrc_Rate_Se t_set_l0 t_set_l1 t_s t_x t_loss t_rtt t_heard t_doubled t_began t_started t_due).trans a', b'⟩
theorem tfrc_Rate_c : FnC Go.Proofs.Tryz.prog 22 true 1 3 tfrc_Rate_in tfrc_Rate_out tfrc_Rate_S := by
  refine fn_ok (Λ := tfrc_Rate_Λ) mixed tab_ok g47 Go.Proofs.Tryz.func22 (by kernel_rfl) (body := fb Go.Proofs.Tryz.f22) rfl (ts := Go.Proofs.Tryz.f22.results.toList) rfl (cuts := []) (by kernel_rfl) (Nat.le_of_ble_eq_true (by kernel_rfl)) (by kernel_rfl) (rt := .w (.at (.int .u64))) rfl ?_ ?_
  · intro ls' r' h'
    unfold tfrc_Rate_S at h'
    obtain ⟨t_set_l0, l'1, rfl, h'1⟩ := un_li_some.1 h'
    obtain ⟨t_set_l1, l'2, rfl, h'2⟩ := un_li_some.1 h'1
    obtain ⟨t_s, l'3, rfl, h'3⟩ := un_i_some.1 h'2
    obtain ⟨t_x, l'4, rfl, h'4⟩ := un_i_some.1 h'3
    obtain ⟨t_loss, l'5, rfl, h'5⟩ := un_i_some.1 h'4
    obtain ⟨t_rtt, l'6, rfl, h'6⟩ := un_i_some.1 h'5
    obtain ⟨t_heard, l'7, rfl, h'7⟩ := un_b_some.1 h'6
    obtain ⟨t_doubled, l'8, rfl, h'8⟩ := un_i_some.1 h'7
    obtain ⟨t_began, l'9, rfl, h'9⟩ := un_b_some.1 h'8
    obtain ⟨t_started, l'10, rfl, h'10⟩ := un_b_some.1 h'9
    obtain ⟨t_due, l'11, rfl, h'11⟩ := un_i_some.1 h'10
    obtain ⟨rfl, h'Z⟩ := un_nil_some.1 h'11
    exact (tfrc_Rate_e t_set_l0 t_set_l1 t_s t_x t_loss t_rtt t_heard t_doubled t_began t_started t_due).symm.trans h'Z
  · intro E w0 ws ρ0 hk b hb
    rw [show loopsOf (fb Go.Proofs.Tryz.f22) = [] by kernel_rfl] at hb
    cases hb
noncomputable def G48 : Env := G47.addP 22 1 tfrc_Rate_in tfrc_Rate_out tfrc_Rate_SC
theorem g48 : EnvOk Go.Proofs.Tryz.prog G48 := EnvOk.addP g47 tfrc_Rate_c tfrc_Rate_says

-- ### tfrc_Start: function 113
def tfrc_Start_in : Tm := ⟨[.cells 123 [.int .u64, .int .u64, .int .u64, .int .i64, .bool, .int .i64, .ptr 1 0, .bool, .bool, .int .i64], .cells 181 [.all 2 2], .row 178 2 [.int .i64, .int .u64]], [(0, .w (.at (.ptr 0 0))), (1, .w (.at (.int .i64)))]⟩
def tfrc_Start_out : Tm := ⟨[.cells 123 [.int .u64, .int .u64, .int .u64, .int .i64, .bool, .int .i64, .ptr 1 0, .bool, .bool, .int .i64], .cells 181 [.all 3 2], .dead, .row 178 2 [.int .i64, .int .u64]], [(0, .tup [])]⟩

def tfrc_Start_Λd : Loops := Loops.none
def tfrc_Start_Λ : Loops := tfrc_Start_Λd 

theorem tfrc_Start_e (t_set_l0 : List Int) (t_set_l1 : List Int) (t_s : Int) (t_x : Int) (t_loss : Int) (t_rtt : Int) (t_heard : Bool) (t_doubled : Int) (t_began : Bool) (t_started : Bool) (t_due : Int) (now : Int) : tfrc_Start t_set_l0 t_set_l1 t_s t_x t_loss t_rtt t_heard t_doubled t_began t_started t_due now = den G48 tfrc_Start_Λ false tab Go.Proofs.Tryz.f113.ntmps (fun fr H => finish tab 3 Go.Proofs.Tryz.f113.results.toList tfrc_Start_out [] fr H some) (fun _ _ _ => none) (fun fr H => finish tab 3 Go.Proofs.Tryz.f113.results.toList tfrc_Start_out [] fr H some) 10000 [.code (fb Go.Proofs.Tryz.f113)] (instFr tfrc_Start_in [.li t_set_l0, .li t_set_l1, .i t_s, .i t_x, .i t_loss, .i t_rtt, .b t_heard, .i t_doubled, .b t_began, .b t_started, .i t_due, .i now]) (instH tfrc_Start_in [.li t_set_l0, .li t_set_l1, .i t_s, .i t_x, .i t_loss, .i t_rtt, .b t_heard, .i t_doubled, .b t_began, .b t_started, .i t_due, .i now]) := by kernel_rfl
def tfrc_Start_S : List Leaf → Option (List Leaf) := fun ls => un_li ls fun t_set_l0 rr => un_li rr fun t_set_l1 rr => un_i rr fun t_s rr => un_i rr fun t_x rr => un_i rr fun t_loss rr => un_i rr fun t_rtt rr => un_b rr fun t_heard rr => un_i rr fun t_doubled rr => un_b rr fun t_began rr => un_b rr fun t_started rr => un_i rr fun t_due rr => un_i rr fun now rr => un_nil rr (tfrc_Start t_set_l0 t_set_l1 t_s t_x t_loss t_rtt t_heard t_doubled t_began t_started t_due now)
def tfrc_Start_SC : Tld := fun ls k' => un_li ls fun t_set_l0 rr => un_li rr fun t_set_l1 rr => un_i rr fun t_s rr => un_i rr fun t_x rr => un_i rr fun t_loss rr => un_i rr fun t_rtt rr => un_b rr fun t_heard rr => un_i rr fun t_doubled rr => un_b rr fun t_began rr => un_b rr fun t_started rr => un_i rr fun t_due rr => un_i rr fun now rr => un_nil rr (out (tfrc_Start t_set_l0 t_set_l1 t_s t_x t_loss t_rtt t_heard t_doubled t_began t_started t_due now) k')
theorem tfrc_Start_Se (t_set_l0 : List Int) (t_set_l1 : List Int) (t_s : Int) (t_x : Int) (t_loss : Int) (t_rtt : Int) (t_heard : Bool) (t_doubled : Int) (t_began : Bool) (t_started : Bool) (t_due : Int) (now : Int) : tfrc_Start_S [.li t_set_l0, .li t_set_l1, .i t_s, .i t_x, .i t_loss, .i t_rtt, .b t_heard, .i t_doubled, .b t_began, .b t_started, .i t_due, .i now] = tfrc_Start t_set_l0 t_set_l1 t_s t_x t_loss t_rtt t_heard t_doubled t_began t_started t_due now := by
  unfold tfrc_Start_S
  simp only [un_i_ev, un_b_ev, un_s_ev, un_li_ev, un_lb_ev, un_ls_ev, un_nil_ev]
theorem tfrc_Start_says : Says tfrc_Start_SC tfrc_Start_S := by
  intro β ls' k' r' h'
  unfold tfrc_Start_SC at h'
  obtain ⟨t_set_l0, l'1, rfl, h'1⟩ := un_li_some.1 h'
  obtain ⟨t_set_l1, l'2, rfl, h'2⟩ := un_li_some.1 h'1
  obtain ⟨t_s, l'3, rfl, h'3⟩ := un_i_some.1 h'2
  obtain ⟨t_x, l'4, rfl, h'4⟩ := un_i_some.1 h'3
  obtain ⟨t_loss, l'5, rfl, h'5⟩ := un_i_some.1 h'4
  obtain ⟨t_rtt, l'6, rfl, h'6⟩ := un_i_some.1 h'5
  obtain ⟨t_heard, l'7, rfl, h'7⟩ := un_b_some.1 h'6
  obtain ⟨t_doubled, l'8, rfl, h'8⟩ := un_i_some.1 h'7
  obtain ⟨t_began, l'9, rfl, h'9⟩ := un_b_some.1 h'8
  obtain ⟨t_started, l'10, rfl, h'10⟩ := un_b_some.1 h'9
  obtain ⟨t_due, l'11, rfl, h'11⟩ := un_i_some.1 h'10
  obtain ⟨now, l'12, rfl, h'12⟩ := un_i_some.1 h'11
  obtain ⟨rfl, h'Z⟩ := un_nil_some.1 h'12
  obtain ⟨l', a', b'⟩ := out_some.1 h'Z
  exact ⟨l', (tfrc_Start_Se t_set_l0 t_set_l1 t_s t_x t_loss t_rtt t_heard t_doubled t_began t_started t_due now).trans a', b'⟩
theorem tfrc_Start_c : FnC Go.Proofs.Tryz.prog 113 false 2 3 tfrc_Start_in tfrc_Start_out tfrc_Start_S := by
  refine fn_ok (Λ := tfrc_Start_Λ) mixed tab_ok g48 Go.Proofs.Tryz.func113 (by kernel_rfl) (body := fb Go.Proofs.Tryz.f113) rfl (ts := Go.Proofs.Tryz.f113.results.toList) rfl (cuts := []) (by kernel_rfl) (Nat.le_of_ble_eq_true (by kernel_rfl)) (by kernel_rfl) (rt := .tup []) rfl ?_ ?_
  · intro ls' r' h'
    unfold tfrc_Start_S at h'
    obtain ⟨t_set_l0, l'1, rfl, h'1⟩ := un_li_some.1 h'
    obtain ⟨t_set_l1, l'2, rfl, h'2⟩ := un_li_some.1 h'1
    obtain ⟨t_s, l'3, rfl, h'3⟩ := un_i_some.1 h'2
    obtain ⟨t_x, l'4, rfl, h'4⟩ := un_i_some.1 h'3
    obtain ⟨t_loss, l'5, rfl, h'5⟩ := un_i_some.1 h'4
    obtain ⟨t_rtt, l'6, rfl, h'6⟩ := un_i_some.1 h'5
    obtain ⟨t_heard, l'7, rfl, h'7⟩ := un_b_some.1 h'6
    obtain ⟨t_doubled, l'8, rfl, h'8⟩ := un_i_some.1 h'7
    obtain ⟨t_began, l'9, rfl, h'9⟩ := un_b_some.1 h'8
    obtain ⟨t_started, l'10, rfl, h'10⟩ := un_b_some.1 h'9
    obtain ⟨t_due, l'11, rfl, h'11⟩ := un_i_some.1 h'10
    obtain ⟨now, l'12, rfl, h'12⟩ := un_i_some.1 h'11
    obtain ⟨rfl, h'Z⟩ := un_nil_some.1 h'12
    exact (tfrc_Start_e t_set_l0 t_set_l1 t_s t_x t_loss t_rtt t_heard t_doubled t_began t_started t_due now).symm.trans h'Z
  · intro E w0 ws ρ0 hk b hb
    rw [show loopsOf (fb Go.Proofs.Tryz.f113) = [] by kernel_rfl] at hb
    cases hb
noncomputable def G49 : Env := G48.addE 113 2 tfrc_Start_in tfrc_Start_out tfrc_Start_SC
theorem g49 : EnvOk Go.Proofs.Tryz.prog G49 := EnvOk.addE g48 tfrc_Start_c tfrc_Start_says
end Go.Sx.T

