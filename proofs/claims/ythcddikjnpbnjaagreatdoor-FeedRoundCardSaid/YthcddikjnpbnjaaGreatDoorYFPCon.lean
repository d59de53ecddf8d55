import Derived.Test.YthcddikjnpbnjaaGreatDoorYFPSpec
import Derived.Test.YthcddikjnpbnjaaGreatDoorYFeedCon
import Derived.Test.YthcddikjnpbnjaaGreatDoorYOld
set_option linter.all false
namespace Go.Sx.T
open Go Go.Sx Go.Proofs
set_option maxRecDepth 100000
noncomputable def G35 : Env := G34.addE 67 1 old_in old_out old_SC
theorem g35 : EnvOk Go.Proofs.Tryz.prog G35 := EnvOk.addE g34 feed_old_c old_says

-- ### feed_Put: function 13
def feed_Put_in : Tm := ⟨[.cells 100 [.int .i64, .bool, .int .i64, .int .u64, .int .u64, .map 1, .map 2, .int .i64, .bool, .int .i64, .int .u64, .all 3 1, .int .u64, .int .i64], .map .u64 (.int .i64), .map .u64 (.bool), .row 22 1 [.int .u64]], [(0, .w (.at (.ptr 0 0))), (1, .w (.at (.int .i64))), (2, .w (.at (.int .u64))), (3, .w (.at (.int .i64)))]⟩
def feed_Put_out : Tm := ⟨[.cells 100 [.int .i64, .bool, .int .i64, .int .u64, .int .u64, .map 1, .map 2, .int .i64, .bool, .int .i64, .int .u64, .all 4 1, .int .u64, .int .i64], .map .u64 (.int .i64), .map .u64 (.bool), .dead, .row 22 1 [.int .u64]], [(0, .w (.at (.bool)))]⟩

def feed_Put_Λd : Loops := Loops.none
def feed_Put_Λ : Loops := feed_Put_Λd 

theorem feed_Put_e (f_got_k : List Int) (f_got_v : List Int) (f_lost_k : List Int) (f_lost_v : List Bool) (f_closed : List Int) (f_r : Int) (f_any : Bool) (f_now : Int) (f_first : Int) (f_newest : Int) (f_count : Int) (f_event : Bool) (f_eventAt : Int) (f_eventN : Int) (f_bytes : Int) (f_since : Int) (now : Int) (n2 : Int) (size : Int) : feed_Put f_got_k f_got_v f_lost_k f_lost_v f_closed f_r f_any f_now f_first f_newest f_count f_event f_eventAt f_eventN f_bytes f_since now n2 size = den G35 feed_Put_Λ false tab Go.Proofs.Tryz.f13.ntmps (fun fr H => finish tab 4 Go.Proofs.Tryz.f13.results.toList feed_Put_out [] fr H some) (fun _ _ _ => none) (fun fr H => finish tab 4 Go.Proofs.Tryz.f13.results.toList feed_Put_out [] fr H some) 10000 [.code (fb Go.Proofs.Tryz.f13)] (instFr feed_Put_in [.li f_got_k, .li f_got_v, .li f_lost_k, .lb f_lost_v, .li f_closed, .i f_r, .b f_any, .i f_now, .i f_first, .i f_newest, .i f_count, .b f_event, .i f_eventAt, .i f_eventN, .i f_bytes, .i f_since, .i now, .i n2, .i size]) (instH feed_Put_in [.li f_got_k, .li f_got_v, .li f_lost_k, .lb f_lost_v, .li f_closed, .i f_r, .b f_any, .i f_now, .i f_first, .i f_newest, .i f_count, .b f_event, .i f_eventAt, .i f_eventN, .i f_bytes, .i f_since, .i now, .i n2, .i size]) := by kernel_rfl
def feed_Put_S : List Leaf → Option (List Leaf) := fun ls => un_li ls fun f_got_k rr => un_li rr fun f_got_v rr => un_li rr fun f_lost_k rr => un_lb rr fun f_lost_v rr => un_li rr fun f_closed rr => un_i rr fun f_r rr => un_b rr fun f_any rr => un_i rr fun f_now rr => un_i rr fun f_first rr => un_i rr fun f_newest rr => un_i rr fun f_count rr => un_b rr fun f_event rr => un_i rr fun f_eventAt rr => un_i rr fun f_eventN rr => un_i rr fun f_bytes rr => un_i rr fun f_since rr => un_i rr fun now rr => un_i rr fun n2 rr => un_i rr fun size rr => un_nil rr (feed_Put f_got_k f_got_v f_lost_k f_lost_v f_closed f_r f_any f_now f_first f_newest f_count f_event f_eventAt f_eventN f_bytes f_since now n2 size)
def feed_Put_SC : Tld := fun ls k' => un_li ls fun f_got_k rr => un_li rr fun f_got_v rr => un_li rr fun f_lost_k rr => un_lb rr fun f_lost_v rr => un_li rr fun f_closed rr => un_i rr fun f_r rr => un_b rr fun f_any rr => un_i rr fun f_now rr => un_i rr fun f_first rr => un_i rr fun f_newest rr => un_i rr fun f_count rr => un_b rr fun f_event rr => un_i rr fun f_eventAt rr => un_i rr fun f_eventN rr => un_i rr fun f_bytes rr => un_i rr fun f_since rr => un_i rr fun now rr => un_i rr fun n2 rr => un_i rr fun size rr => un_nil rr (out (feed_Put f_got_k f_got_v f_lost_k f_lost_v f_closed f_r f_any f_now f_first f_newest f_count f_event f_eventAt f_eventN f_bytes f_since now n2 size) k')
theorem feed_Put_Se (f_got_k : List Int) (f_got_v : List Int) (f_lost_k : List Int) (f_lost_v : List Bool) (f_closed : List Int) (f_r : Int) (f_any : Bool) (f_now : Int) (f_first : Int) (f_newest : Int) (f_count : Int) (f_event : Bool) (f_eventAt : Int) (f_eventN : Int) (f_bytes : Int) (f_since : Int) (now : Int) (n2 : Int) (size : Int) : feed_Put_S [.li f_got_k, .li f_got_v, .li f_lost_k, .lb f_lost_v, .li f_closed, .i f_r, .b f_any, .i f_now, .i f_first, .i f_newest, .i f_count, .b f_event, .i f_eventAt, .i f_eventN, .i f_bytes, .i f_since, .i now, .i n2, .i size] = feed_Put f_got_k f_got_v f_lost_k f_lost_v f_closed f_r f_any f_now f_first f_newest f_count f_event f_eventAt f_eventN f_bytes f_since now n2 size := by
  unfold feed_Put_S
  simp only [un_i_ev, un_b_ev, un_s_ev, un_li_ev, un_lb_ev, un_ls_ev, un_nil_ev]
theorem feed_Put_says : Says feed_Put_SC feed_Put_S := by
  intro β ls' k' r' h'
  unfold feed_Put_SC at h'
  obtain ⟨f_got_k, l'1, rfl, h'1⟩ := un_li_some.1 h'
  obtain ⟨f_got_v, l'2, rfl, h'2⟩ := un_li_some.1 h'1
  obtain ⟨f_lost_k, l'3, rfl, h'3⟩ := un_li_some.1 h'2
  obtain ⟨f_lost_v, l'4, rfl, h'4⟩ := un_lb_some.1 h'3
  obtain ⟨f_closed, l'5, rfl, h'5⟩ := un_li_some.1 h'4
  obtain ⟨f_r, l'6, rfl, h'6⟩ := un_i_some.1 h'5
  obtain ⟨f_any, l'7, rfl, h'7⟩ := un_b_some.1 h'6
  obtain ⟨f_now, l'8, rfl, h'8⟩ := un_i_some.1 h'7
  obtain ⟨f_first, l'9, rfl, h'9⟩ := un_i_some.1 h'8
  obtain ⟨f_newest, l'10, rfl, h'10⟩ := un_i_some.1 h'9
  obtain ⟨f_count, l'11, rfl, h'11⟩ := un_i_some.1 h'10
  obtain ⟨f_event, l'12, rfl, h'12⟩ := un_b_some.1 h'11
  obtain ⟨f_eventAt, l'13, rfl, h'13⟩ := un_i_some.1 h'12
  obtain ⟨f_eventN, l'14, rfl, h'14⟩ := un_i_some.1 h'13
  obtain ⟨f_bytes, l'15, rfl, h'15⟩ := un_i_some.1 h'14
  obtain ⟨f_since, l'16, rfl, h'16⟩ := un_i_some.1 h'15
  obtain ⟨now, l'17, rfl, h'17⟩ := un_i_some.1 h'16
  obtain ⟨n2, l'18, rfl, h'18⟩ := un_i_some.1 h'17
  obtain ⟨size, l'19, rfl, h'19⟩ := un_i_some.1 h'18
  obtain ⟨rfl, h'Z⟩ := un_nil_some.1 h'19
  obtain ⟨l', a', b'⟩ := out_some.1 h'Z
  exact ⟨l', (feed_Put_Se f_got_k f_got_v f_lost_k f_lost_v f_closed f_r f_any f_now f_first f_newest f_count f_event f_eventAt f_eventN f_bytes f_since now n2 size).trans a', b'⟩
theorem feed_Put_c : FnC Go.Proofs.Tryz.prog 13 false 4 4 feed_Put_in feed_Put_out feed_Put_S := by
  refine fn_ok (Λ := feed_Put_Λ) mixed tab_ok g35 Go.Proofs.Tryz.func13 (by kernel_rfl) (body := fb Go.Proofs.Tryz.f13) rfl (ts := Go.Proofs.Tryz.f13.results.toList) rfl (cuts := []) (by kernel_rfl) (Nat.le_of_ble_eq_true (by kernel_rfl)) (by kernel_rfl) (rt := .w (.at (.bool))) rfl ?_ ?_
  · intro ls' r' h'
    unfold feed_Put_S at h'
    obtain ⟨f_got_k, l'1, rfl, h'1⟩ := un_li_some.1 h'
    obtain ⟨f_got_v, l'2, rfl, h'2⟩ := un_li_some.1 h'1
    obtain ⟨f_lost_k, l'3, rfl, h'3⟩ := un_li_some.1 h'2
    obtain ⟨f_lost_v, l'4, rfl, h'4⟩ := un_lb_some.1 h'3
    obtain ⟨f_closed, l'5, rfl, h'5⟩ := un_li_some.1 h'4
    obtain ⟨f_r, l'6, rfl, h'6⟩ := un_i_some.1 h'5
    obtain ⟨f_any, l'7, rfl, h'7⟩ := un_b_some.1 h'6
    obtain ⟨f_now, l'8, rfl, h'8⟩ := un_i_some.1 h'7
    obtain ⟨f_first, l'9, rfl, h'9⟩ := un_i_some.1 h'8
    obtain ⟨f_newest, l'10, rfl, h'10⟩ := un_i_some.1 h'9
    obtain ⟨f_count, l'11, rfl, h'11⟩ := un_i_some.1 h'10
    obtain ⟨f_event, l'12, rfl, h'12⟩ := un_b_some.1 h'11
    obtain ⟨f_eventAt, l'13, rfl, h'13⟩ := un_i_some.1 h'12
    obtain ⟨f_eventN, l'14, rfl, h'14⟩ := un_i_some.1 h'13
    obtain ⟨f_bytes, l'15, rfl, h'15⟩ := un_i_some.1 h'14
    obtain ⟨f_since, l'16, rfl, h'16⟩ := un_i_some.1 h'15
    obtain ⟨now, l'17, rfl, h'17⟩ := un_i_some.1 h'16
    obtain ⟨n2, l'18, rfl, h'18⟩ := un_i_some.1 h'17
    obtain ⟨size, l'19, rfl, h'19⟩ := un_i_some.1 h'18
    obtain ⟨rfl, h'Z⟩ := un_nil_some.1 h'19
    exact (feed_Put_e f_got_k f_got_v f_lost_k f_lost_v f_closed f_r f_any f_now f_first f_newest f_count f_event f_eventAt f_eventN f_bytes f_since now n2 size).symm.trans h'Z
  · intro E w0 ws ρ0 hk b hb
    rw [show loopsOf (fb Go.Proofs.Tryz.f13) = [] by kernel_rfl] at hb
    cases hb
noncomputable def G36 : Env := G35.addE 13 4 feed_Put_in feed_Put_out feed_Put_SC
theorem g36 : EnvOk Go.Proofs.Tryz.prog G36 := EnvOk.addE g35 feed_Put_c feed_Put_says
end Go.Sx.T

