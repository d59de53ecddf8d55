import Derived.Test.YtngjglbakgdgaaaGreatDoorYhCtlSpec
import Derived.Test.YtngjglbakgdgaaaGreatDoorYhTfrcCon
set_option linter.all false
namespace Go.Sx.T
open Go Go.Sx Go.Proofs
set_option maxRecDepth 100000

-- ### cr_turns: function 284
def cr_turns_in : Tm := ⟨[.cells 117 [.ptr 1 0, .ptr 4 0, .int .u64], .cells 123 [.int .u64, .int .u64, .int .u64, .int .i64, .bool, .int .i64, .ptr 2 0, .bool, .bool, .int .i64], .cells 181 [.all 3 2], .row 178 2 [.int .i64, .int .u64], .cells 142 [.int .u64, .int .u64, .int .u64, .int .u64, .int .i64]], [(0, .w (.at (.ptr 0 0))), (1, .w (.at (.int .i64)))]⟩
def cr_turns_out : Tm := ⟨[.cells 117 [.ptr 1 0, .ptr 4 0, .int .u64], .cells 123 [.int .u64, .int .u64, .int .u64, .int .i64, .bool, .int .i64, .ptr 2 0, .bool, .bool, .int .i64], .cells 181 [.all 5 2], .dead, .cells 142 [.int .u64, .int .u64, .int .u64, .int .u64, .int .i64], .row 178 2 [.int .i64, .int .u64]], [(0, .tup [])]⟩

def cr_turns_Λd : Loops := Loops.none
def cr_turns_Λ : Loops := cr_turns_Λd 

theorem cr_turns_e (c_t_set_l0 : List Int) (c_t_set_l1 : List Int) (c_last : Int) (c_t_s : Int) (c_t_x : Int) (c_t_loss : Int) (c_t_rtt : Int) (c_t_heard : Bool) (c_t_doubled : Int) (c_t_began : Bool) (c_t_started : Bool) (c_t_due : Int) (c_p_s : Int) (c_p_tick : Int) (c_p_has : Int) (c_p_rate : Int) (c_p_now : Int) (now : Int) : cr_turns c_t_set_l0 c_t_set_l1 c_last c_t_s c_t_x c_t_loss c_t_rtt c_t_heard c_t_doubled c_t_began c_t_started c_t_due c_p_s c_p_tick c_p_has c_p_rate c_p_now now = den G47 cr_turns_Λ false tab Go.Proofs.Tryz.f284.ntmps (fun fr H => finish tab 5 Go.Proofs.Tryz.f284.results.toList cr_turns_out [] fr H some) (fun _ _ _ => none) (fun fr H => finish tab 5 Go.Proofs.Tryz.f284.results.toList cr_turns_out [] fr H some) 10000 [.code (fb Go.Proofs.Tryz.f284)] (instFr cr_turns_in [.li c_t_set_l0, .li c_t_set_l1, .i c_last, .i c_t_s, .i c_t_x, .i c_t_loss, .i c_t_rtt, .b c_t_heard, .i c_t_doubled, .b c_t_began, .b c_t_started, .i c_t_due, .i c_p_s, .i c_p_tick, .i c_p_has, .i c_p_rate, .i c_p_now, .i now]) (instH cr_turns_in [.li c_t_set_l0, .li c_t_set_l1, .i c_last, .i c_t_s, .i c_t_x, .i c_t_loss, .i c_t_rtt, .b c_t_heard, .i c_t_doubled, .b c_t_began, .b c_t_started, .i c_t_due, .i c_p_s, .i c_p_tick, .i c_p_has, .i c_p_rate, .i c_p_now, .i now]) := by kernel_rfl
def cr_turns_S : List Leaf → Option (List Leaf) := fun ls => un_li ls fun c_t_set_l0 rr => un_li rr fun c_t_set_l1 rr => un_i rr fun c_last rr => un_i rr fun c_t_s rr => un_i rr fun c_t_x rr => un_i rr fun c_t_loss rr => un_i rr fun c_t_rtt rr => un_b rr fun c_t_heard rr => un_i rr fun c_t_doubled rr => un_b rr fun c_t_began rr => un_b rr fun c_t_started rr => un_i rr fun c_t_due rr => un_i rr fun c_p_s rr => un_i rr fun c_p_tick rr => un_i rr fun c_p_has rr => un_i rr fun c_p_rate rr => un_i rr fun c_p_now rr => un_i rr fun now rr => un_nil rr (cr_turns c_t_set_l0 c_t_set_l1 c_last c_t_s c_t_x c_t_loss c_t_rtt c_t_heard c_t_doubled c_t_began c_t_started c_t_due c_p_s c_p_tick c_p_has c_p_rate c_p_now now)
def cr_turns_SC : Tld := fun ls k' => un_li ls fun c_t_set_l0 rr => un_li rr fun c_t_set_l1 rr => un_i rr fun c_last rr => un_i rr fun c_t_s rr => un_i rr fun c_t_x rr => un_i rr fun c_t_loss rr => un_i rr fun c_t_rtt rr => un_b rr fun c_t_heard rr => un_i rr fun c_t_doubled rr => un_b rr fun c_t_began rr => un_b rr fun c_t_started rr => un_i rr fun c_t_due rr => un_i rr fun c_p_s rr => un_i rr fun c_p_tick rr => un_i rr fun c_p_has rr => un_i rr fun c_p_rate rr => un_i rr fun c_p_now rr => un_i rr fun now rr => un_nil rr (out (cr_turns c_t_set_l0 c_t_set_l1 c_last c_t_s c_t_x c_t_loss c_t_rtt c_t_heard c_t_doubled c_t_began c_t_started c_t_due c_p_s c_p_tick c_p_has c_p_rate c_p_now now) k')
theorem cr_turns_Se (c_t_set_l0 : List Int) (c_t_set_l1 : List Int) (c_last : Int) (c_t_s : Int) (c_t_x : Int) (c_t_loss : Int) (c_t_rtt : Int) (c_t_heard : Bool) (c_t_doubled : Int) (c_t_began : Bool) (c_t_started : Bool) (c_t_due : Int) (c_p_s : Int) (c_p_tick : Int) (c_p_has : Int) (c_p_rate : Int) (c_p_now : Int) (now : Int) : cr_turns_S [.li c_t_set_l0, .li c_t_set_l1, .i c_last, .i c_t_s, .i c_t_x, .i c_t_loss, .i c_t_rtt, .b c_t_heard, .i c_t_doubled, .b c_t_began, .b c_t_started, .i c_t_due, .i c_p_s, .i c_p_tick, .i c_p_has, .i c_p_rate, .i c_p_now, .i now] = cr_turns c_t_set_l0 c_t_set_l1 c_last c_t_s c_t_x c_t_loss c_t_rtt c_t_heard c_t_doubled c_t_began c_t_started c_t_due c_p_s c_p_tick c_p_has c_p_rate c_p_now now := by
  unfold cr_turns_S
  simp only [un_i_ev, un_b_ev, un_s_ev, un_li_ev, un_lb_ev, un_ls_ev, un_nil_ev]
theorem cr_turns_says : Says cr_turns_SC cr_turns_S := by
  intro β ls' k' r' h'
  unfold cr_turns_SC at h'
  obtain ⟨c_t_set_l0, l'1, rfl, h'1⟩ := un_li_some.1 h'
  obtain ⟨c_t_set_l1, l'2, rfl, h'2⟩ := un_li_some.1 h'1
  obtain ⟨c_last, l'3, rfl, h'3⟩ := un_i_some.1 h'2
  obtain ⟨c_t_s, l'4, rfl, h'4⟩ := un_i_some.1 h'3
  obtain ⟨c_t_x, l'5, rfl, h'5⟩ := un_i_some.1 h'4
  obtain ⟨c_t_loss, l'6, rfl, h'6⟩ := un_i_some.1 h'5
  obtain ⟨c_t_rtt, l'7, rfl, h'7⟩ := un_i_some.1 h'6
  obtain ⟨c_t_heard, l'8, rfl, h'8⟩ := un_b_some.1 h'7
  obtain ⟨c_t_doubled, l'9, rfl, h'9⟩ := un_i_some.1 h'8
  obtain ⟨c_t_began, l'10, rfl, h'10⟩ := un_b_some.1 h'9
  obtain ⟨c_t_started, l'11, rfl, h'11⟩ := un_b_some.1 h'10
  obtain ⟨c_t_due, l'12, rfl, h'12⟩ := un_i_some.1 h'11
  obtain ⟨c_p_s, l'13, rfl, h'13⟩ := un_i_some.1 h'12
  obtain ⟨c_p_tick, l'14, rfl, h'14⟩ := un_i_some.1 h'13
  obtain ⟨c_p_has, l'15, rfl, h'15⟩ := un_i_some.1 h'14
  obtain ⟨c_p_rate, l'16, rfl, h'16⟩ := un_i_some.1 h'15
  obtain ⟨c_p_now, l'17, rfl, h'17⟩ := un_i_some.1 h'16
  obtain ⟨now, l'18, rfl, h'18⟩ := un_i_some.1 h'17
  obtain ⟨rfl, h'Z⟩ := un_nil_some.1 h'18
  obtain ⟨l', a', b'⟩ := out_some.1 h'Z
  exact ⟨l', (cr_turns_Se c_t_set_l0 c_t_set_l1 c_last c_t_s c_t_x c_t_loss c_t_rtt c_t_heard c_t_doubled c_t_began c_t_started c_t_due c_p_s c_p_tick c_p_has c_p_rate c_p_now now).trans a', b'⟩
theorem cr_turns_c : FnC Go.Proofs.Tryz.prog 284 false 2 5 cr_turns_in cr_turns_out cr_turns_S := by
  refine fn_ok (Λ := cr_turns_Λ) mixed tab_ok g47 Go.Proofs.Tryz.func284 (by kernel_rfl) (body := fb Go.Proofs.Tryz.f284) rfl (ts := Go.Proofs.Tryz.f284.results.toList) rfl (cuts := []) (by kernel_rfl) (Nat.le_of_ble_eq_true (by kernel_rfl)) (by kernel_rfl) (rt := .tup []) rfl ?_ ?_
  · intro ls' r' h'
    unfold cr_turns_S at h'
    obtain ⟨c_t_set_l0, l'1, rfl, h'1⟩ := un_li_some.1 h'
    obtain ⟨c_t_set_l1, l'2, rfl, h'2⟩ := un_li_some.1 h'1
    obtain ⟨c_last, l'3, rfl, h'3⟩ := un_i_some.1 h'2
    obtain ⟨c_t_s, l'4, rfl, h'4⟩ := un_i_some.1 h'3
    obtain ⟨c_t_x, l'5, rfl, h'5⟩ := un_i_some.1 h'4
    obtain ⟨c_t_loss, l'6, rfl, h'6⟩ := un_i_some.1 h'5
    obtain ⟨c_t_rtt, l'7, rfl, h'7⟩ := un_i_some.1 h'6
    obtain ⟨c_t_heard, l'8, rfl, h'8⟩ := un_b_some.1 h'7
    obtain ⟨c_t_doubled, l'9, rfl, h'9⟩ := un_i_some.1 h'8
    obtain ⟨c_t_began, l'10, rfl, h'10⟩ := un_b_some.1 h'9
    obtain ⟨c_t_started, l'11, rfl, h'11⟩ := un_b_some.1 h'10
    obtain ⟨c_t_due, l'12, rfl, h'12⟩ := un_i_some.1 h'11
    obtain ⟨c_p_s, l'13, rfl, h'13⟩ := un_i_some.1 h'12
    obtain ⟨c_p_tick, l'14, rfl, h'14⟩ := un_i_some.1 h'13
    obtain ⟨c_p_has, l'15, rfl, h'15⟩ := un_i_some.1 h'14
    obtain ⟨c_p_rate, l'16, rfl, h'16⟩ := un_i_some.1 h'15
    obtain ⟨c_p_now, l'17, rfl, h'17⟩ := un_i_some.1 h'16
    obtain ⟨now, l'18, rfl, h'18⟩ := un_i_some.1 h'17
    obtain ⟨rfl, h'Z⟩ := un_nil_some.1 h'18
    exact (cr_turns_e c_t_set_l0 c_t_set_l1 c_last c_t_s c_t_x c_t_loss c_t_rtt c_t_heard c_t_doubled c_t_began c_t_started c_t_due c_p_s c_p_tick c_p_has c_p_rate c_p_now now).symm.trans h'Z
  · intro E w0 ws ρ0 hk b hb
    rw [show loopsOf (fb Go.Proofs.Tryz.f284) = [] by kernel_rfl] at hb
    cases hb
noncomputable def G48 : Env := G47.addE 284 2 cr_turns_in cr_turns_out cr_turns_SC
theorem g48 : EnvOk Go.Proofs.Tryz.prog G48 := EnvOk.addE g47 cr_turns_c cr_turns_says

-- ### cr_Hear: function 280
def cr_Hear_in : Tm := ⟨[.cells 117 [.ptr 1 0, .ptr 4 0, .int .u64], .cells 123 [.int .u64, .int .u64, .int .u64, .int .i64, .bool, .int .i64, .ptr 2 0, .bool, .bool, .int .i64], .cells 181 [.all 3 2], .row 178 2 [.int .i64, .int .u64], .cells 142 [.int .u64, .int .u64, .int .u64, .int .u64, .int .i64], .ro 33 1 [.int .u64], .ro 33 1 [.int .u64], .ro 33 1 [.int .u64]], [(0, .w (.at (.ptr 0 0))), (1, .w (.at (.int .i64))), (2, .w (.agg [.all 5 1, .all 6 1, .all 7 1, .int .i64, .int .i64])), (3, .w (.at (.int .u64))), (4, .w (.at (.int .u64)))]⟩
def cr_Hear_out : Tm := ⟨[.cells 117 [.ptr 1 0, .ptr 4 0, .int .u64], .cells 123 [.int .u64, .int .u64, .int .u64, .int .i64, .bool, .int .i64, .ptr 2 0, .bool, .bool, .int .i64], .cells 181 [.all 8 2], .dead, .cells 142 [.int .u64, .int .u64, .int .u64, .int .u64, .int .i64], .dead, .dead, .dead, .row 178 2 [.int .i64, .int .u64]], [(0, .tup [])]⟩

def cr_Hear_Λd : Loops := Loops.none
def cr_Hear_Λ : Loops := cr_Hear_Λd 

theorem cr_Hear_e (c_t_set_l0 : List Int) (c_t_set_l1 : List Int) (h_Got : List Int) (h_Late : List Int) (h_Lost : List Int) (c_last : Int) (c_t_s : Int) (c_t_x : Int) (c_t_loss : Int) (c_t_rtt : Int) (c_t_heard : Bool) (c_t_doubled : Int) (c_t_began : Bool) (c_t_started : Bool) (c_t_due : Int) (c_p_s : Int) (c_p_tick : Int) (c_p_has : Int) (c_p_rate : Int) (c_p_now : Int) (now : Int) (h_Marks : Int) (h_Rtt : Int) (x : Int) (p : Int) : cr_Hear c_t_set_l0 c_t_set_l1 h_Got h_Late h_Lost c_last c_t_s c_t_x c_t_loss c_t_rtt c_t_heard c_t_doubled c_t_began c_t_started c_t_due c_p_s c_p_tick c_p_has c_p_rate c_p_now now h_Marks h_Rtt x p = den G48 cr_Hear_Λ false tab Go.Proofs.Tryz.f280.ntmps (fun fr H => finish tab 8 Go.Proofs.Tryz.f280.results.toList cr_Hear_out [] fr H some) (fun _ _ _ => none) (fun fr H => finish tab 8 Go.Proofs.Tryz.f280.results.toList cr_Hear_out [] fr H some) 10000 [.code (fb Go.Proofs.Tryz.f280)] (instFr cr_Hear_in [.li c_t_set_l0, .li c_t_set_l1, .li h_Got, .li h_Late, .li h_Lost, .i c_last, .i c_t_s, .i c_t_x, .i c_t_loss, .i c_t_rtt, .b c_t_heard, .i c_t_doubled, .b c_t_began, .b c_t_started, .i c_t_due, .i c_p_s, .i c_p_tick, .i c_p_has, .i c_p_rate, .i c_p_now, .i now, .i h_Marks, .i h_Rtt, .i x, .i p]) (instH cr_Hear_in [.li c_t_set_l0, .li c_t_set_l1, .li h_Got, .li h_Late, .li h_Lost, .i c_last, .i c_t_s, .i c_t_x, .i c_t_loss, .i c_t_rtt, .b c_t_heard, .i c_t_doubled, .b c_t_began, .b c_t_started, .i c_t_due, .i c_p_s, .i c_p_tick, .i c_p_has, .i c_p_rate, .i c_p_now, .i now, .i h_Marks, .i h_Rtt, .i x, .i p]) := by kernel_rfl
def cr_Hear_S : List Leaf → Option (List Leaf) := fun ls => un_li ls fun c_t_set_l0 rr => un_li rr fun c_t_set_l1 rr => un_li rr fun h_Got rr => un_li rr fun h_Late rr => un_li rr fun h_Lost rr => un_i rr fun c_last rr => un_i rr fun c_t_s rr => un_i rr fun c_t_x rr => un_i rr fun c_t_loss rr => un_i rr fun c_t_rtt rr => un_b rr fun c_t_heard rr => un_i rr fun c_t_doubled rr => un_b rr fun c_t_began rr => un_b rr fun c_t_started rr => un_i rr fun c_t_due rr => un_i rr fun c_p_s rr => un_i rr fun c_p_tick rr => un_i rr fun c_p_has rr => un_i rr fun c_p_rate rr => un_i rr fun c_p_now rr => un_i rr fun now rr => un_i rr fun h_Marks rr => un_i rr fun h_Rtt rr => un_i rr fun x rr => un_i rr fun p rr => un_nil rr (cr_Hear c_t_set_l0 c_t_set_l1 h_Got h_Late h_Lost c_last c_t_s c_t_x c_t_loss c_t_rtt c_t_heard c_t_doubled c_t_began c_t_started c_t_due c_p_s c_p_tick c_p_has c_p_rate c_p_now now h_Marks h_Rtt x p)
def cr_Hear_SC : Tld := fun ls k' => un_li ls fun c_t_set_l0 rr => un_li rr fun c_t_set_l1 rr => un_li rr fun h_Got rr => un_li rr fun h_Late rr => un_li rr fun h_Lost rr => un_i rr fun c_last rr => un_i rr fun c_t_s rr => un_i rr fun c_t_x rr => un_i rr fun c_t_loss rr => un_i rr fun c_t_rtt rr => un_b rr fun c_t_heard rr => un_i rr fun c_t_doubled rr => un_b rr fun c_t_began rr => un_b rr fun c_t_started rr => un_i rr fun c_t_due rr => un_i rr fun c_p_s rr => un_i rr fun c_p_tick rr => un_i rr fun c_p_has rr => un_i rr fun c_p_rate rr => un_i rr fun c_p_now rr => un_i rr fun now rr => un_i rr fun h_Marks rr => un_i rr fun h_Rtt rr => un_i rr fun x rr => un_i rr fun p rr => un_nil rr (out (cr_Hear c_t_set_l0 c_t_set_l1 h_Got h_Late h_Lost c_last c_t_s c_t_x c_t_loss c_t_rtt c_t_heard c_t_doubled c_t_began c_t_started c_t_due c_p_s c_p_tick c_p_has c_p_rate c_p_now now h_Marks h_Rtt x p) k')
theorem cr_Hear_Se (c_t_set_l0 : List Int) (c_t_set_l1 : List Int) (h_Got : List Int) (h_Late : List Int) (h_Lost : List Int) (c_last : Int) (c_t_s : Int) (c_t_x : Int) (c_t_loss : Int) (c_t_rtt : Int) (c_t_heard : Bool) (c_t_doubled : Int) (c_t_began : Bool) (c_t_started : Bool) (c_t_due : Int) (c_p_s : Int) (c_p_tick : Int) (c_p_has : Int) (c_p_rate : Int) (c_p_now : Int) (now : Int) (h_Marks : Int) (h_Rtt : Int) (x : Int) (p : Int) : cr_Hear_S [.li c_t_set_l0, .li c_t_set_l1, .li h_Got, .li h_Late, .li h_Lost, .i c_last, .i c_t_s, .i c_t_x, .i c_t_loss, .i c_t_rtt, .b c_t_heard, .i c_t_doubled, .b c_t_began, .b c_t_started, .i c_t_due, .i c_p_s, .i c_p_tick, .i c_p_has, .i c_p_rate, .i c_p_now, .i now, .i h_Marks, .i h_Rtt, .i x, .i p] = cr_Hear c_t_set_l0 c_t_set_l1 h_Got h_Late h_Lost c_last c_t_s c_t_x c_t_loss c_t_rtt c_t_heard c_t_doubled c_t_began c_t_started c_t_due c_p_s c_p_tick c_p_has c_p_rate c_p_now now h_Marks h_Rtt x p := by
  unfold cr_Hear_S
  simp only [un_i_ev, un_b_ev, un_s_ev, un_li_ev, un_lb_ev, un_ls_ev, un_nil_ev]
theorem cr_Hear_says : Says cr_Hear_SC cr_Hear_S := by
  intro β ls' k' r' h'
  unfold cr_Hear_SC at h'
  obtain ⟨c_t_set_l0, l'1, rfl, h'1⟩ := un_li_some.1 h'
  obtain ⟨c_t_set_l1, l'2, rfl, h'2⟩ := un_li_some.1 h'1
  obtain ⟨h_Got, l'3, rfl, h'3⟩ := un_li_some.1 h'2
  obtain ⟨h_Late, l'4, rfl, h'4⟩ := un_li_some.1 h'3
  obtain ⟨h_Lost, l'5, rfl, h'5⟩ := un_li_some.1 h'4
  obtain ⟨c_last, l'6, rfl, h'6⟩ := un_i_some.1 h'5
  obtain ⟨c_t_s, l'7, rfl, h'7⟩ := un_i_some.1 h'6
  obtain ⟨c_t_x, l'8, rfl, h'8⟩ := un_i_some.1 h'7
  obtain ⟨c_t_loss, l'9, rfl, h'9⟩ := un_i_some.1 h'8
  obtain ⟨c_t_rtt, l'10, rfl, h'10⟩ := un_i_some.1 h'9
  obtain ⟨c_t_heard, l'11, rfl, h'11⟩ := un_b_some.1 h'10
  obtain ⟨c_t_doubled, l'12, rfl, h'12⟩ := un_i_some.1 h'11
  obtain ⟨c_t_began, l'13, rfl, h'13⟩ := un_b_some.1 h'12
  obtain ⟨c_t_started, l'14, rfl, h'14⟩ := un_b_some.1 h'13
  obtain ⟨c_t_due, l'15, rfl, h'15⟩ := un_i_some.1 h'14
  obtain ⟨c_p_s, l'16, rfl, h'16⟩ := un_i_some.1 h'15
  obtain ⟨c_p_tick, l'17, rfl, h'17⟩ := un_i_some.1 h'16
  obtain ⟨c_p_has, l'18, rfl, h'18⟩ := un_i_some.1 h'17
  obtain ⟨c_p_rate, l'19, rfl, h'19⟩ := un_i_some.1 h'18
  obtain ⟨c_p_now, l'20, rfl, h'20⟩ := un_i_some.1 h'19
  obtain ⟨now, l'21, rfl, h'21⟩ := un_i_some.1 h'20
  obtain ⟨h_Marks, l'22, rfl, h'22⟩ := un_i_some.1 h'21
  obtain ⟨h_Rtt, l'23, rfl, h'23⟩ := un_i_some.1 h'22
  obtain ⟨x, l'24, rfl, h'24⟩ := un_i_some.1 h'23
  obtain ⟨p, l'25, rfl, h'25⟩ := un_i_some.1 h'24
  obtain ⟨rfl, h'Z⟩ := un_nil_some.1 h'25
  obtain ⟨l', a', b'⟩ := out_some.1 h'Z
  exact ⟨l', (cr_Hear_Se c_t_set_l0 c_t_set_l1 h_Got h_Late h_Lost c_last c_t_s c_t_x c_t_loss c_t_rtt c_t_heard c_t_doubled c_t_began c_t_started c_t_due c_p_s c_p_tick c_p_has c_p_rate c_p_now now h_Marks h_Rtt x p).trans a', b'⟩
theorem cr_Hear_c : FnC Go.Proofs.Tryz.prog 280 false 5 8 cr_Hear_in cr_Hear_out cr_Hear_S := by
  refine fn_ok (Λ := cr_Hear_Λ) mixed tab_ok g48 Go.Proofs.Tryz.func280 (by kernel_rfl) (body := fb Go.Proofs.Tryz.f280) rfl (ts := Go.Proofs.Tryz.f280.results.toList) rfl (cuts := []) (by kernel_rfl) (Nat.le_of_ble_eq_true (by kernel_rfl)) (by kernel_rfl) (rt := .tup []) rfl ?_ ?_
  · intro ls' r' h'
    unfold cr_Hear_S at h'
    obtain ⟨c_t_set_l0, l'1, rfl, h'1⟩ := un_li_some.1 h'
    obtain ⟨c_t_set_l1, l'2, rfl, h'2⟩ := un_li_some.1 h'1
    obtain ⟨h_Got, l'3, rfl, h'3⟩ := un_li_some.1 h'2
    obtain ⟨h_Late, l'4, rfl, h'4⟩ := un_li_some.1 h'3
    obtain ⟨h_Lost, l'5, rfl, h'5⟩ := un_li_some.1 h'4
    obtain ⟨c_last, l'6, rfl, h'6⟩ := un_i_some.1 h'5
    obtain ⟨c_t_s, l'7, rfl, h'7⟩ := un_i_some.1 h'6
    obtain ⟨c_t_x, l'8, rfl, h'8⟩ := un_i_some.1 h'7
    obtain ⟨c_t_loss, l'9, rfl, h'9⟩ := un_i_some.1 h'8
    obtain ⟨c_t_rtt, l'10, rfl, h'10⟩ := un_i_some.1 h'9
    obtain ⟨c_t_heard, l'11, rfl, h'11⟩ := un_b_some.1 h'10
    obtain ⟨c_t_doubled, l'12, rfl, h'12⟩ := un_i_some.1 h'11
    obtain ⟨c_t_began, l'13, rfl, h'13⟩ := un_b_some.1 h'12
    obtain ⟨c_t_started, l'14, rfl, h'14⟩ := un_b_some.1 h'13
    obtain ⟨c_t_due, l'15, rfl, h'15⟩ := un_i_some.1 h'14
    obtain ⟨c_p_s, l'16, rfl, h'16⟩ := un_i_some.1 h'15
    obtain ⟨c_p_tick, l'17, rfl, h'17⟩ := un_i_some.1 h'16
    obtain ⟨c_p_has, l'18, rfl, h'18⟩ := un_i_some.1 h'17
    obtain ⟨c_p_rate, l'19, rfl, h'19⟩ := un_i_some.1 h'18
    obtain ⟨c_p_now, l'20, rfl, h'20⟩ := un_i_some.1 h'19
    obtain ⟨now, l'21, rfl, h'21⟩ := un_i_some.1 h'20
    obtain ⟨h_Marks, l'22, rfl, h'22⟩ := un_i_some.1 h'21
    obtain ⟨h_Rtt, l'23, rfl, h'23⟩ := un_i_some.1 h'22
    obtain ⟨x, l'24, rfl, h'24⟩ := un_i_some.1 h'23
    obtain ⟨p, l'25, rfl, h'25⟩ := un_i_some.1 h'24
    obtain ⟨rfl, h'Z⟩ := un_nil_some.1 h'25
    exact (cr_Hear_e c_t_set_l0 c_t_set_l1 h_Got h_Late h_Lost c_last c_t_s c_t_x c_t_loss c_t_rtt c_t_heard c_t_doubled c_t_began c_t_started c_t_due c_p_s c_p_tick c_p_has c_p_rate c_p_now now h_Marks h_Rtt x p).symm.trans h'Z
  · intro E w0 ws ρ0 hk b hb
    rw [show loopsOf (fb Go.Proofs.Tryz.f280) = [] by kernel_rfl] at hb
    cases hb
noncomputable def G49 : Env := G48.addE 280 5 cr_Hear_in cr_Hear_out cr_Hear_SC
theorem g49 : EnvOk Go.Proofs.Tryz.prog G49 := EnvOk.addE g48 cr_Hear_c cr_Hear_says
end Go.Sx.T

