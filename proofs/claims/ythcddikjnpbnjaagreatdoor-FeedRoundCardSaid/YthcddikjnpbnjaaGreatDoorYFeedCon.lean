import Derived.Test.YthcddikjnpbnjaaGreatDoorYFeedSpec
import Derived.Test.YthcddikjnpbnjaaGreatDoorYIvalCon
set_option linter.all false
namespace Go.Sx.T
open Go Go.Sx Go.Proofs
set_option maxRecDepth 100000

-- ### feed_New: function 11
def feed_New_in : Tm := ⟨[], [(0, .w (.at (.int .i64)))]⟩
def feed_New_out : Tm := ⟨[.cells 100 [.int .i64, .bool, .int .i64, .int .u64, .int .u64, .map 1, .map 2, .int .i64, .bool, .int .i64, .int .u64, .all 3 1, .int .u64, .int .i64], .map .u64 (.int .i64), .map .u64 (.bool), .row 22 1 [.int .u64]], [(0, .w (.at (.ptr 0 0)))]⟩

def feed_New_Λd : Loops := Loops.none
def feed_New_Λ : Loops := feed_New_Λd 

theorem feed_New_e (r : Int) : feed_New r = den G27 feed_New_Λ false tab Go.Proofs.Tryz.f11.ntmps (fun fr H => finish tab 0 Go.Proofs.Tryz.f11.results.toList feed_New_out [] fr H some) (fun _ _ _ => none) (fun fr H => finish tab 0 Go.Proofs.Tryz.f11.results.toList feed_New_out [] fr H some) 10000 [.code (fb Go.Proofs.Tryz.f11)] (instFr feed_New_in [.i r]) (instH feed_New_in [.i r]) := by kernel_rfl
def feed_New_S : List Leaf → Option (List Leaf) := fun ls => un_i ls fun r rr => un_nil rr (feed_New r)
def feed_New_SC : Tld := fun ls k' => un_i ls fun r rr => un_nil rr (out (feed_New r) k')
theorem feed_New_Se (r : Int) : feed_New_S [.i r] = feed_New r := by
  unfold feed_New_S
  simp only [un_i_ev, un_b_ev, un_s_ev, un_li_ev, un_lb_ev, un_ls_ev, un_nil_ev]
theorem feed_New_says : Says feed_New_SC feed_New_S := by
  intro β ls' k' r' h'
  unfold feed_New_SC at h'
  obtain ⟨r, l'1, rfl, h'1⟩ := un_i_some.1 h'
  obtain ⟨rfl, h'Z⟩ := un_nil_some.1 h'1
  obtain ⟨l', a', b'⟩ := out_some.1 h'Z
  exact ⟨l', (feed_New_Se r).trans a', b'⟩
theorem feed_New_c : FnC Go.Proofs.Tryz.prog 11 false 1 0 feed_New_in feed_New_out feed_New_S := by
  refine fn_ok (Λ := feed_New_Λ) mixed tab_ok g27 Go.Proofs.Tryz.func11 (by kernel_rfl) (body := fb Go.Proofs.Tryz.f11) rfl (ts := Go.Proofs.Tryz.f11.results.toList) rfl (cuts := []) (by kernel_rfl) (Nat.le_of_ble_eq_true (by kernel_rfl)) (by kernel_rfl) (rt := .w (.at (.ptr 0 0))) rfl ?_ ?_
  · intro ls' r' h'
    unfold feed_New_S at h'
    obtain ⟨r, l'1, rfl, h'1⟩ := un_i_some.1 h'
    obtain ⟨rfl, h'Z⟩ := un_nil_some.1 h'1
    exact (feed_New_e r).symm.trans h'Z
  · intro E w0 ws ρ0 hk b hb
    rw [show loopsOf (fb Go.Proofs.Tryz.f11) = [] by kernel_rfl] at hb
    cases hb
noncomputable def G28 : Env := G27.addE 11 1 feed_New_in feed_New_out feed_New_SC
theorem g28 : EnvOk Go.Proofs.Tryz.prog G28 := EnvOk.addE g27 feed_New_c feed_New_says

-- ### feed_lose: function 95
def feed_lose_in : Tm := ⟨[.cells 100 [.int .i64, .bool, .int .i64, .int .u64, .int .u64, .map 1, .map 2, .int .i64, .bool, .int .i64, .int .u64, .all 3 1, .int .u64, .int .i64], .map .u64 (.int .i64), .map .u64 (.bool), .row 22 1 [.int .u64]], [(0, .w (.at (.ptr 0 0))), (1, .w (.at (.int .u64))), (2, .w (.at (.int .i64)))]⟩
def feed_lose_out : Tm := ⟨[.cells 100 [.int .i64, .bool, .int .i64, .int .u64, .int .u64, .map 1, .map 2, .int .i64, .bool, .int .i64, .int .u64, .all 4 1, .int .u64, .int .i64], .map .u64 (.int .i64), .map .u64 (.bool), .dead, .row 22 1 [.int .u64]], [(0, .tup [])]⟩

def feed_lose_Λd : Loops := Loops.none
def feed_lose_Λ : Loops := feed_lose_Λd 

theorem feed_lose_e (f_got_k : List Int) (f_got_v : List Int) (f_lost_k : List Int) (f_lost_v : List Bool) (f_closed : List Int) (f_r : Int) (f_any : Bool) (f_now : Int) (f_first : Int) (f_newest : Int) (f_count : Int) (f_event : Bool) (f_eventAt : Int) (f_eventN : Int) (f_bytes : Int) (f_since : Int) (n2 : Int) (at2 : Int) : feed_lose f_got_k f_got_v f_lost_k f_lost_v f_closed f_r f_any f_now f_first f_newest f_count f_event f_eventAt f_eventN f_bytes f_since n2 at2 = den G28 feed_lose_Λ false tab Go.Proofs.Tryz.f95.ntmps (fun fr H => finish tab 4 Go.Proofs.Tryz.f95.results.toList feed_lose_out [4] fr H some) (fun _ _ _ => none) (fun fr H => finish tab 4 Go.Proofs.Tryz.f95.results.toList feed_lose_out [4] fr H some) 10000 [.code (fb Go.Proofs.Tryz.f95)] (instFr feed_lose_in [.li f_got_k, .li f_got_v, .li f_lost_k, .lb f_lost_v, .li f_closed, .i f_r, .b f_any, .i f_now, .i f_first, .i f_newest, .i f_count, .b f_event, .i f_eventAt, .i f_eventN, .i f_bytes, .i f_since, .i n2, .i at2]) (instH feed_lose_in [.li f_got_k, .li f_got_v, .li f_lost_k, .lb f_lost_v, .li f_closed, .i f_r, .b f_any, .i f_now, .i f_first, .i f_newest, .i f_count, .b f_event, .i f_eventAt, .i f_eventN, .i f_bytes, .i f_since, .i n2, .i at2]) := by kernel_rfl
def feed_lose_S : List Leaf → Option (List Leaf) := fun ls => un_li ls fun f_got_k rr => un_li rr fun f_got_v rr => un_li rr fun f_lost_k rr => un_lb rr fun f_lost_v rr => un_li rr fun f_closed rr => un_i rr fun f_r rr => un_b rr fun f_any rr => un_i rr fun f_now rr => un_i rr fun f_first rr => un_i rr fun f_newest rr => un_i rr fun f_count rr => un_b rr fun f_event rr => un_i rr fun f_eventAt rr => un_i rr fun f_eventN rr => un_i rr fun f_bytes rr => un_i rr fun f_since rr => un_i rr fun n2 rr => un_i rr fun at2 rr => un_nil rr (feed_lose f_got_k f_got_v f_lost_k f_lost_v f_closed f_r f_any f_now f_first f_newest f_count f_event f_eventAt f_eventN f_bytes f_since n2 at2)
def feed_lose_SC : Tld := fun ls k' => un_li ls fun f_got_k rr => un_li rr fun f_got_v rr => un_li rr fun f_lost_k rr => un_lb rr fun f_lost_v rr => un_li rr fun f_closed rr => un_i rr fun f_r rr => un_b rr fun f_any rr => un_i rr fun f_now rr => un_i rr fun f_first rr => un_i rr fun f_newest rr => un_i rr fun f_count rr => un_b rr fun f_event rr => un_i rr fun f_eventAt rr => un_i rr fun f_eventN rr => un_i rr fun f_bytes rr => un_i rr fun f_since rr => un_i rr fun n2 rr => un_i rr fun at2 rr => un_nil rr (out (feed_lose f_got_k f_got_v f_lost_k f_lost_v f_closed f_r f_any f_now f_first f_newest f_count f_event f_eventAt f_eventN f_bytes f_since n2 at2) k')
theorem feed_lose_Se (f_got_k : List Int) (f_got_v : List Int) (f_lost_k : List Int) (f_lost_v : List Bool) (f_closed : List Int) (f_r : Int) (f_any : Bool) (f_now : Int) (f_first : Int) (f_newest : Int) (f_count : Int) (f_event : Bool) (f_eventAt : Int) (f_eventN : Int) (f_bytes : Int) (f_since : Int) (n2 : Int) (at2 : Int) : feed_lose_S [.li f_got_k, .li f_got_v, .li f_lost_k, .lb f_lost_v, .li f_closed, .i f_r, .b f_any, .i f_now, .i f_first, .i f_newest, .i f_count, .b f_event, .i f_eventAt, .i f_eventN, .i f_bytes, .i f_since, .i n2, .i at2] = feed_lose f_got_k f_got_v f_lost_k f_lost_v f_closed f_r f_any f_now f_first f_newest f_count f_event f_eventAt f_eventN f_bytes f_since n2 at2 := by
  unfold feed_lose_S
  simp only [un_i_ev, un_b_ev, un_s_ev, un_li_ev, un_lb_ev, un_ls_ev, un_nil_ev]
theorem feed_lose_says : Says feed_lose_SC feed_lose_S := by
  intro β ls' k' r' h'
  unfold feed_lose_SC at h'
  obtain ⟨f_got_k, l'1, rfl, h'1⟩ := un_li_some.1 h'
  obtain ⟨f_got_v, l'2, rfl, h'2⟩ := un_li_some.1 h'1
  obtain ⟨f_lost_k, l'3, rfl, h'3⟩ := un_li_some.1 h'2
  obtain ⟨f_lost_v, l'4, rfl, h'4⟩ := un_lb_some.1 h'3
  obtain ⟨f_closed, l'5, rfl, h'5⟩ := un_li_some.1 h'4
  obtain ⟨f_r, l'6, rfl, h'6⟩ := un_i_some.1 h'5
  obtain ⟨f_any, l'7, rfl, h'7⟩ := un_b_some.1 h'6
  obtain ⟨f_now, l'8, rfl, h'8⟩ := un_i_some.1 h'7
  obtain ⟨f_first, l'9, rfl, h'9⟩ := un_i_some.1 h'8
  obtain ⟨f_newest, l'10, rfl, h'10⟩ := un_i_some.1 h'9
  obtain ⟨f_count, l'11, rfl, h'11⟩ := un_i_some.1 h'10
  obtain ⟨f_event, l'12, rfl, h'12⟩ := un_b_some.1 h'11
  obtain ⟨f_eventAt, l'13, rfl, h'13⟩ := un_i_some.1 h'12
  obtain ⟨f_eventN, l'14, rfl, h'14⟩ := un_i_some.1 h'13
  obtain ⟨f_bytes, l'15, rfl, h'15⟩ := un_i_some.1 h'14
  obtain ⟨f_since, l'16, rfl, h'16⟩ := un_i_some.1 h'15
  obtain ⟨n2, l'17, rfl, h'17⟩ := un_i_some.1 h'16
  obtain ⟨at2, l'18, rfl, h'18⟩ := un_i_some.1 h'17
  obtain ⟨rfl, h'Z⟩ := un_nil_some.1 h'18
  obtain ⟨l', a', b'⟩ := out_some.1 h'Z
  exact ⟨l', (feed_lose_Se f_got_k f_got_v f_lost_k f_lost_v f_closed f_r f_any f_now f_first f_newest f_count f_event f_eventAt f_eventN f_bytes f_since n2 at2).trans a', b'⟩
theorem feed_lose_c : FnC Go.Proofs.Tryz.prog 95 false 3 4 feed_lose_in feed_lose_out feed_lose_S := by
  refine fn_ok (Λ := feed_lose_Λ) mixed tab_ok g28 Go.Proofs.Tryz.func95 (by kernel_rfl) (body := fb Go.Proofs.Tryz.f95) rfl (ts := Go.Proofs.Tryz.f95.results.toList) rfl (cuts := [4]) (by kernel_rfl) (Nat.le_of_ble_eq_true (by kernel_rfl)) (by kernel_rfl) (rt := .tup []) rfl ?_ ?_
  · intro ls' r' h'
    unfold feed_lose_S at h'
    obtain ⟨f_got_k, l'1, rfl, h'1⟩ := un_li_some.1 h'
    obtain ⟨f_got_v, l'2, rfl, h'2⟩ := un_li_some.1 h'1
    obtain ⟨f_lost_k, l'3, rfl, h'3⟩ := un_li_some.1 h'2
    obtain ⟨f_lost_v, l'4, rfl, h'4⟩ := un_lb_some.1 h'3
    obtain ⟨f_closed, l'5, rfl, h'5⟩ := un_li_some.1 h'4
    obtain ⟨f_r, l'6, rfl, h'6⟩ := un_i_some.1 h'5
    obtain ⟨f_any, l'7, rfl, h'7⟩ := un_b_some.1 h'6
    obtain ⟨f_now, l'8, rfl, h'8⟩ := un_i_some.1 h'7
    obtain ⟨f_first, l'9, rfl, h'9⟩ := un_i_some.1 h'8
    obtain ⟨f_newest, l'10, rfl, h'10⟩ := un_i_some.1 h'9
    obtain ⟨f_count, l'11, rfl, h'11⟩ := un_i_some.1 h'10
    obtain ⟨f_event, l'12, rfl, h'12⟩ := un_b_some.1 h'11
    obtain ⟨f_eventAt, l'13, rfl, h'13⟩ := un_i_some.1 h'12
    obtain ⟨f_eventN, l'14, rfl, h'14⟩ := un_i_some.1 h'13
    obtain ⟨f_bytes, l'15, rfl, h'15⟩ := un_i_some.1 h'14
    obtain ⟨f_since, l'16, rfl, h'16⟩ := un_i_some.1 h'15
    obtain ⟨n2, l'17, rfl, h'17⟩ := un_i_some.1 h'16
    obtain ⟨at2, l'18, rfl, h'18⟩ := un_i_some.1 h'17
    obtain ⟨rfl, h'Z⟩ := un_nil_some.1 h'18
    exact (feed_lose_e f_got_k f_got_v f_lost_k f_lost_v f_closed f_r f_any f_now f_first f_newest f_count f_event f_eventAt f_eventN f_bytes f_since n2 at2).symm.trans h'Z
  · intro E w0 ws ρ0 hk b hb
    rw [show loopsOf (fb Go.Proofs.Tryz.f95) = [] by kernel_rfl] at hb
    cases hb
noncomputable def G29 : Env := G28.addE 95 3 feed_lose_in feed_lose_out feed_lose_SC
theorem g29 : EnvOk Go.Proofs.Tryz.prog G29 := EnvOk.addE g28 feed_lose_c feed_lose_says

-- ### feed_look: function 68
def feed_look_in : Tm := ⟨[.cells 100 [.int .i64, .bool, .int .i64, .int .u64, .int .u64, .map 1, .map 2, .int .i64, .bool, .int .i64, .int .u64, .all 3 1, .int .u64, .int .i64], .map .u64 (.int .i64), .map .u64 (.bool), .row 22 1 [.int .u64]], [(0, .w (.at (.ptr 0 0)))]⟩
def feed_look_out : Tm := ⟨[.cells 100 [.int .i64, .bool, .int .i64, .int .u64, .int .u64, .map 1, .map 2, .int .i64, .bool, .int .i64, .int .u64, .all 4 1, .int .u64, .int .i64], .map .u64 (.int .i64), .map .u64 (.bool), .dead, .row 22 1 [.int .u64]], [(0, .tup [])]⟩
def feed_look_4_T : Tm := ⟨[.cells 100 [.int .i64, .bool, .int .i64, .int .u64, .int .u64, .map 1, .map 2, .int .i64, .bool, .int .i64, .int .u64, .all 3 1, .int .u64, .int .i64], .map .u64 (.int .i64), .map .u64 (.bool), .row 22 1 [.int .u64], .row 2 1 [.int .i64], .row 22 1 [.int .u64]], [(3, .w (.at (.all 4 1))), (2, .w (.at (.all 5 1))), (0, .w (.at (.ptr 0 0))), (11, .w (.at (.int .i64))), (4, .w (.at (.int .i64))), (5, .w (.at (.int .i64)))]⟩
def feed_look_4_X0 : Tm := ⟨[.cells 100 [.int .i64, .bool, .int .i64, .int .u64, .int .u64, .map 1, .map 2, .int .i64, .bool, .int .i64, .int .u64, .all 3 1, .int .u64, .int .i64], .map .u64 (.int .i64), .map .u64 (.bool), .row 22 1 [.int .u64], .row 2 1 [.int .i64], .row 22 1 [.int .u64]], [(3, .w (.at (.all 4 1))), (2, .w (.at (.all 5 1))), (0, .w (.at (.ptr 0 0)))]⟩
def feed_look_4_X : Exits := [(0, (feed_look_4_X0, []))]
def feed_look_4_R : Tm := ⟨[], []⟩
def feed_look_15_T' : Tm := ⟨[.cells 100 [.int .i64, .bool, .int .i64, .int .u64, .int .u64, .map 1, .map 2, .int .i64, .bool, .int .i64, .int .u64, .all 4 1, .int .u64, .int .i64], .map .u64 (.int .i64), .map .u64 (.bool), .dead, .row 22 1 [.int .u64], .row 2 1 [.int .i64], .row 22 1 [.int .u64]], [(10, .w (.at (.int .i64))), (3, .w (.at (.all 5 1))), (2, .w (.at (.all 6 1))), (0, .w (.at (.ptr 0 0)))]⟩
def feed_look_15_X3 : Tm := ⟨[.cells 100 [.int .i64, .bool, .int .i64, .int .u64, .int .u64, .map 1, .map 2, .int .i64, .bool, .int .i64, .int .u64, .all 4 1, .int .u64, .int .i64], .map .u64 (.int .i64), .map .u64 (.bool), .dead, .row 22 1 [.int .u64]], []⟩
def feed_look_15_X : Exits := [(3, (feed_look_15_X3, []))]
def feed_look_15_R : Tm := ⟨[], []⟩

def feed_look_Λd (L4 : ({β : Type} → (Nat → List Leaf → Option β) → (List Leaf → Option β) → Nat → List Int → List Int → List Int → List Bool → List Int → List Int → List Int → Int → Bool → Int → Int → Int → Int → Bool → Int → Int → Int → Int → Int → Int → Int → Option β)) (L15 : ({β : Type} → (Nat → List Leaf → Option β) → (List Leaf → Option β) → Nat → List Int → List Int → List Int → List Bool → List Int → List Int → List Int → Int → Bool → Int → Int → Int → Int → Bool → Int → Int → Int → Int → Int → Option β)) : Loops := ⟨fun b fr H kx kr => bif Nat.beq (rid b) 4 then loopE 4 feed_look_4_T [] feed_look_4_X feed_look_4_R (feed_look_4_F @L4 top) fr H kx kr else bif Nat.beq (rid b) 15 then loopE 4 feed_look_15_T' [] feed_look_15_X feed_look_15_R (feed_look_15_F @L15 top) fr H kx kr else none⟩
def feed_look_Λ : Loops := feed_look_Λd @feed_look_4_L @feed_look_15_L
theorem feed_look_4_e (L4 : ({β : Type} → (Nat → List Leaf → Option β) → (List Leaf → Option β) → Nat → List Int → List Int → List Int → List Bool → List Int → List Int → List Int → Int → Bool → Int → Int → Int → Int → Bool → Int → Int → Int → Int → Int → Int → Int → Option β)) (L15 : ({β : Type} → (Nat → List Leaf → Option β) → (List Leaf → Option β) → Nat → List Int → List Int → List Int → List Bool → List Int → List Int → List Int → Int → Bool → Int → Int → Int → Int → Bool → Int → Int → Int → Int → Int → Option β)) {α : Type} (kx : Nat → List Leaf → Option α) (kr : List Leaf → Option α) (again : List Int → List Int → List Int → List Bool → List Int → List Int → List Int → Int → Bool → Int → Int → Int → Int → Bool → Int → Int → Int → Int → Int → Int → Int → Option α) (f_got_k : List Int) (f_got_v : List Int) (f_lost_k : List Int) (f_lost_v : List Bool) (f_closed : List Int) (at2 : List Int) (l : List Int) (f_r : Int) (f_any : Bool) (f_now : Int) (f_first : Int) (f_newest : Int) (f_count : Int) (f_event : Bool) (f_eventAt : Int) (f_eventN : Int) (f_bytes : Int) (f_since : Int) (t11 : Int) (behind : Int) (next : Int) : feed_look_4_B  kx kr again f_got_k f_got_v f_lost_k f_lost_v f_closed at2 l f_r f_any f_now f_first f_newest f_count f_event f_eventAt f_eventN f_bytes f_since t11 behind next = loopB G29 (feed_look_Λd @L4 @L15) false tab Go.Proofs.Tryz.f68.ntmps 4 feed_look_4_T [] feed_look_4_X feed_look_4_R (bodyAt (fb Go.Proofs.Tryz.f68) 0) (fun ls => un_li ls fun f_got_k rr => un_li rr fun f_got_v rr => un_li rr fun f_lost_k rr => un_lb rr fun f_lost_v rr => un_li rr fun f_closed rr => un_li rr fun at2 rr => un_li rr fun l rr => un_i rr fun f_r rr => un_b rr fun f_any rr => un_i rr fun f_now rr => un_i rr fun f_first rr => un_i rr fun f_newest rr => un_i rr fun f_count rr => un_b rr fun f_event rr => un_i rr fun f_eventAt rr => un_i rr fun f_eventN rr => un_i rr fun f_bytes rr => un_i rr fun f_since rr => un_i rr fun t11 rr => un_i rr fun behind rr => un_i rr fun next rr => un_nil rr (again f_got_k f_got_v f_lost_k f_lost_v f_closed at2 l f_r f_any f_now f_first f_newest f_count f_event f_eventAt f_eventN f_bytes f_since t11 behind next)) kx kr (instFr feed_look_4_T [.li f_got_k, .li f_got_v, .li f_lost_k, .lb f_lost_v, .li f_closed, .li at2, .li l, .i f_r, .b f_any, .i f_now, .i f_first, .i f_newest, .i f_count, .b f_event, .i f_eventAt, .i f_eventN, .i f_bytes, .i f_since, .i t11, .i behind, .i next]) (instH feed_look_4_T [.li f_got_k, .li f_got_v, .li f_lost_k, .lb f_lost_v, .li f_closed, .li at2, .li l, .i f_r, .b f_any, .i f_now, .i f_first, .i f_newest, .i f_count, .b f_event, .i f_eventAt, .i f_eventN, .i f_bytes, .i f_since, .i t11, .i behind, .i next]) := by kernel_rfl
theorem feed_look_15_e (L4 : ({β : Type} → (Nat → List Leaf → Option β) → (List Leaf → Option β) → Nat → List Int → List Int → List Int → List Bool → List Int → List Int → List Int → Int → Bool → Int → Int → Int → Int → Bool → Int → Int → Int → Int → Int → Int → Int → Option β)) (L15 : ({β : Type} → (Nat → List Leaf → Option β) → (List Leaf → Option β) → Nat → List Int → List Int → List Int → List Bool → List Int → List Int → List Int → Int → Bool → Int → Int → Int → Int → Bool → Int → Int → Int → Int → Int → Option β)) {α : Type} (kx : Nat → List Leaf → Option α) (kr : List Leaf → Option α) (again : List Int → List Int → List Int → List Bool → List Int → List Int → List Int → Int → Bool → Int → Int → Int → Int → Bool → Int → Int → Int → Int → Int → Option α) (f_got_k : List Int) (f_got_v : List Int) (f_lost_k : List Int) (f_lost_v : List Bool) (f_closed : List Int) (at2 : List Int) (l : List Int) (f_r : Int) (f_any : Bool) (f_now : Int) (f_first : Int) (f_newest : Int) (f_count : Int) (f_event : Bool) (f_eventAt : Int) (f_eventN : Int) (f_bytes : Int) (f_since : Int) (i : Int) : feed_look_15_B  kx kr again f_got_k f_got_v f_lost_k f_lost_v f_closed at2 l f_r f_any f_now f_first f_newest f_count f_event f_eventAt f_eventN f_bytes f_since i = loopB G29 (feed_look_Λd @L4 @L15) false tab Go.Proofs.Tryz.f68.ntmps 4 feed_look_15_T' [] feed_look_15_X feed_look_15_R (bodyAt (fb Go.Proofs.Tryz.f68) 1) (fun ls => un_li ls fun f_got_k rr => un_li rr fun f_got_v rr => un_li rr fun f_lost_k rr => un_lb rr fun f_lost_v rr => un_li rr fun f_closed rr => un_li rr fun at2 rr => un_li rr fun l rr => un_i rr fun f_r rr => un_b rr fun f_any rr => un_i rr fun f_now rr => un_i rr fun f_first rr => un_i rr fun f_newest rr => un_i rr fun f_count rr => un_b rr fun f_event rr => un_i rr fun f_eventAt rr => un_i rr fun f_eventN rr => un_i rr fun f_bytes rr => un_i rr fun f_since rr => un_i rr fun i rr => un_nil rr (again f_got_k f_got_v f_lost_k f_lost_v f_closed at2 l f_r f_any f_now f_first f_newest f_count f_event f_eventAt f_eventN f_bytes f_since i)) kx kr (instFr feed_look_15_T' [.li f_got_k, .li f_got_v, .li f_lost_k, .lb f_lost_v, .li f_closed, .li at2, .li l, .i f_r, .b f_any, .i f_now, .i f_first, .i f_newest, .i f_count, .b f_event, .i f_eventAt, .i f_eventN, .i f_bytes, .i f_since, .i i]) (instH feed_look_15_T' [.li f_got_k, .li f_got_v, .li f_lost_k, .lb f_lost_v, .li f_closed, .li at2, .li l, .i f_r, .b f_any, .i f_now, .i f_first, .i f_newest, .i f_count, .b f_event, .i f_eventAt, .i f_eventN, .i f_bytes, .i f_since, .i i]) := by kernel_rfl
theorem feed_look_15_lok (E : Nat → Prop) (w0 ws : World) (ρ0 : List Pl) (hk : ρ0.length = 4) : LOk Go.Proofs.Tryz.prog 68 Go.Proofs.Tryz.f68 false E w0 ws Go.Proofs.Tryz.f68.ntmps ρ0 feed_look_Λ (bodyAt (fb Go.Proofs.Tryz.f68) 1) := by
  refine lok mixed tab_ok g29 Go.Proofs.Tryz.func68 hk (T := feed_look_15_T') (rt := feed_look_15_R) (cuts := []) (ex := feed_look_15_X) (top := top) (F := feed_look_15_F @feed_look_15_L) (fun fr H kx kr => by kernel_rfl) ?_ ?_ ?_
  · intro α ls' kx' kr' r' h'
    unfold feed_look_15_F at h'
    obtain ⟨f_got_k, l'1, rfl, h'1⟩ := un_li_some.1 h'
    obtain ⟨f_got_v, l'2, rfl, h'2⟩ := un_li_some.1 h'1
    obtain ⟨f_lost_k, l'3, rfl, h'3⟩ := un_li_some.1 h'2
    obtain ⟨f_lost_v, l'4, rfl, h'4⟩ := un_lb_some.1 h'3
    obtain ⟨f_closed, l'5, rfl, h'5⟩ := un_li_some.1 h'4
    obtain ⟨at2, l'6, rfl, h'6⟩ := un_li_some.1 h'5
    obtain ⟨l, l'7, rfl, h'7⟩ := un_li_some.1 h'6
    obtain ⟨f_r, l'8, rfl, h'8⟩ := un_i_some.1 h'7
    obtain ⟨f_any, l'9, rfl, h'9⟩ := un_b_some.1 h'8
    obtain ⟨f_now, l'10, rfl, h'10⟩ := un_i_some.1 h'9
    obtain ⟨f_first, l'11, rfl, h'11⟩ := un_i_some.1 h'10
    obtain ⟨f_newest, l'12, rfl, h'12⟩ := un_i_some.1 h'11
    obtain ⟨f_count, l'13, rfl, h'13⟩ := un_i_some.1 h'12
    obtain ⟨f_event, l'14, rfl, h'14⟩ := un_b_some.1 h'13
    obtain ⟨f_eventAt, l'15, rfl, h'15⟩ := un_i_some.1 h'14
    obtain ⟨f_eventN, l'16, rfl, h'16⟩ := un_i_some.1 h'15
    obtain ⟨f_bytes, l'17, rfl, h'17⟩ := un_i_some.1 h'16
    obtain ⟨f_since, l'18, rfl, h'18⟩ := un_i_some.1 h'17
    obtain ⟨i, l'19, rfl, h'19⟩ := un_i_some.1 h'18
    obtain ⟨rfl, h'Z⟩ := un_nil_some.1 h'19
    cases h'Z
  · intro α n' ls' kx' kr' r' h'
    unfold feed_look_15_F at h'
    obtain ⟨f_got_k, l'1, rfl, h'1⟩ := un_li_some.1 h'
    obtain ⟨f_got_v, l'2, rfl, h'2⟩ := un_li_some.1 h'1
    obtain ⟨f_lost_k, l'3, rfl, h'3⟩ := un_li_some.1 h'2
    obtain ⟨f_lost_v, l'4, rfl, h'4⟩ := un_lb_some.1 h'3
    obtain ⟨f_closed, l'5, rfl, h'5⟩ := un_li_some.1 h'4
    obtain ⟨at2, l'6, rfl, h'6⟩ := un_li_some.1 h'5
    obtain ⟨l, l'7, rfl, h'7⟩ := un_li_some.1 h'6
    obtain ⟨f_r, l'8, rfl, h'8⟩ := un_i_some.1 h'7
    obtain ⟨f_any, l'9, rfl, h'9⟩ := un_b_some.1 h'8
    obtain ⟨f_now, l'10, rfl, h'10⟩ := un_i_some.1 h'9
    obtain ⟨f_first, l'11, rfl, h'11⟩ := un_i_some.1 h'10
    obtain ⟨f_newest, l'12, rfl, h'12⟩ := un_i_some.1 h'11
    obtain ⟨f_count, l'13, rfl, h'13⟩ := un_i_some.1 h'12
    obtain ⟨f_event, l'14, rfl, h'14⟩ := un_b_some.1 h'13
    obtain ⟨f_eventAt, l'15, rfl, h'15⟩ := un_i_some.1 h'14
    obtain ⟨f_eventN, l'16, rfl, h'16⟩ := un_i_some.1 h'15
    obtain ⟨f_bytes, l'17, rfl, h'17⟩ := un_i_some.1 h'16
    obtain ⟨f_since, l'18, rfl, h'18⟩ := un_i_some.1 h'17
    obtain ⟨i, l'19, rfl, h'19⟩ := un_i_some.1 h'18
    obtain ⟨rfl, h'Z⟩ := un_nil_some.1 h'19
    exact (feed_look_15_e @feed_look_4_L @feed_look_15_L kx' kr' (feed_look_15_L kx' kr' n') f_got_k f_got_v f_lost_k f_lost_v f_closed at2 l f_r f_any f_now f_first f_newest f_count f_event f_eventAt f_eventN f_bytes f_since i).symm.trans h'Z
  · intro b' hb
    rw [show loopsOf (bodyAt (fb Go.Proofs.Tryz.f68) 1) = [] by kernel_rfl] at hb
    cases hb
theorem feed_look_4_lok (E : Nat → Prop) (w0 ws : World) (ρ0 : List Pl) (hk : ρ0.length = 4) : LOk Go.Proofs.Tryz.prog 68 Go.Proofs.Tryz.f68 false E w0 ws Go.Proofs.Tryz.f68.ntmps ρ0 feed_look_Λ (bodyAt (fb Go.Proofs.Tryz.f68) 0) := by
  refine lok mixed tab_ok g29 Go.Proofs.Tryz.func68 hk (T := feed_look_4_T) (rt := feed_look_4_R) (cuts := []) (ex := feed_look_4_X) (top := top) (F := feed_look_4_F @feed_look_4_L) (fun fr H kx kr => by kernel_rfl) ?_ ?_ ?_
  · intro α ls' kx' kr' r' h'
    unfold feed_look_4_F at h'
    obtain ⟨f_got_k, l'1, rfl, h'1⟩ := un_li_some.1 h'
    obtain ⟨f_got_v, l'2, rfl, h'2⟩ := un_li_some.1 h'1
    obtain ⟨f_lost_k, l'3, rfl, h'3⟩ := un_li_some.1 h'2
    obtain ⟨f_lost_v, l'4, rfl, h'4⟩ := un_lb_some.1 h'3
    obtain ⟨f_closed, l'5, rfl, h'5⟩ := un_li_some.1 h'4
    obtain ⟨at2, l'6, rfl, h'6⟩ := un_li_some.1 h'5
    obtain ⟨l, l'7, rfl, h'7⟩ := un_li_some.1 h'6
    obtain ⟨f_r, l'8, rfl, h'8⟩ := un_i_some.1 h'7
    obtain ⟨f_any, l'9, rfl, h'9⟩ := un_b_some.1 h'8
    obtain ⟨f_now, l'10, rfl, h'10⟩ := un_i_some.1 h'9
    obtain ⟨f_first, l'11, rfl, h'11⟩ := un_i_some.1 h'10
    obtain ⟨f_newest, l'12, rfl, h'12⟩ := un_i_some.1 h'11
    obtain ⟨f_count, l'13, rfl, h'13⟩ := un_i_some.1 h'12
    obtain ⟨f_event, l'14, rfl, h'14⟩ := un_b_some.1 h'13
    obtain ⟨f_eventAt, l'15, rfl, h'15⟩ := un_i_some.1 h'14
    obtain ⟨f_eventN, l'16, rfl, h'16⟩ := un_i_some.1 h'15
    obtain ⟨f_bytes, l'17, rfl, h'17⟩ := un_i_some.1 h'16
    obtain ⟨f_since, l'18, rfl, h'18⟩ := un_i_some.1 h'17
    obtain ⟨t11, l'19, rfl, h'19⟩ := un_i_some.1 h'18
    obtain ⟨behind, l'20, rfl, h'20⟩ := un_i_some.1 h'19
    obtain ⟨next, l'21, rfl, h'21⟩ := un_i_some.1 h'20
    obtain ⟨rfl, h'Z⟩ := un_nil_some.1 h'21
    cases h'Z
  · intro α n' ls' kx' kr' r' h'
    unfold feed_look_4_F at h'
    obtain ⟨f_got_k, l'1, rfl, h'1⟩ := un_li_some.1 h'
    obtain ⟨f_got_v, l'2, rfl, h'2⟩ := un_li_some.1 h'1
    obtain ⟨f_lost_k, l'3, rfl, h'3⟩ := un_li_some.1 h'2
    obtain ⟨f_lost_v, l'4, rfl, h'4⟩ := un_lb_some.1 h'3
    obtain ⟨f_closed, l'5, rfl, h'5⟩ := un_li_some.1 h'4
    obtain ⟨at2, l'6, rfl, h'6⟩ := un_li_some.1 h'5
    obtain ⟨l, l'7, rfl, h'7⟩ := un_li_some.1 h'6
    obtain ⟨f_r, l'8, rfl, h'8⟩ := un_i_some.1 h'7
    obtain ⟨f_any, l'9, rfl, h'9⟩ := un_b_some.1 h'8
    obtain ⟨f_now, l'10, rfl, h'10⟩ := un_i_some.1 h'9
    obtain ⟨f_first, l'11, rfl, h'11⟩ := un_i_some.1 h'10
    obtain ⟨f_newest, l'12, rfl, h'12⟩ := un_i_some.1 h'11
    obtain ⟨f_count, l'13, rfl, h'13⟩ := un_i_some.1 h'12
    obtain ⟨f_event, l'14, rfl, h'14⟩ := un_b_some.1 h'13
    obtain ⟨f_eventAt, l'15, rfl, h'15⟩ := un_i_some.1 h'14
    obtain ⟨f_eventN, l'16, rfl, h'16⟩ := un_i_some.1 h'15
    obtain ⟨f_bytes, l'17, rfl, h'17⟩ := un_i_some.1 h'16
    obtain ⟨f_since, l'18, rfl, h'18⟩ := un_i_some.1 h'17
    obtain ⟨t11, l'19, rfl, h'19⟩ := un_i_some.1 h'18
    obtain ⟨behind, l'20, rfl, h'20⟩ := un_i_some.1 h'19
    obtain ⟨next, l'21, rfl, h'21⟩ := un_i_some.1 h'20
    obtain ⟨rfl, h'Z⟩ := un_nil_some.1 h'21
    exact (feed_look_4_e @feed_look_4_L @feed_look_15_L kx' kr' (feed_look_4_L kx' kr' n') f_got_k f_got_v f_lost_k f_lost_v f_closed at2 l f_r f_any f_now f_first f_newest f_count f_event f_eventAt f_eventN f_bytes f_since t11 behind next).symm.trans h'Z
  · intro b' hb
    rw [show loopsOf (bodyAt (fb Go.Proofs.Tryz.f68) 0) = [] by kernel_rfl] at hb
    cases hb
theorem feed_look_ed (L4 : ({β : Type} → (Nat → List Leaf → Option β) → (List Leaf → Option β) → Nat → List Int → List Int → List Int → List Bool → List Int → List Int → List Int → Int → Bool → Int → Int → Int → Int → Bool → Int → Int → Int → Int → Int → Int → Int → Option β)) (L15 : ({β : Type} → (Nat → List Leaf → Option β) → (List Leaf → Option β) → Nat → List Int → List Int → List Int → List Bool → List Int → List Int → List Int → Int → Bool → Int → Int → Int → Int → Bool → Int → Int → Int → Int → Int → Option β)) (f_got_k : List Int) (f_got_v : List Int) (f_lost_k : List Int) (f_lost_v : List Bool) (f_closed : List Int) (f_r : Int) (f_any : Bool) (f_now : Int) (f_first : Int) (f_newest : Int) (f_count : Int) (f_event : Bool) (f_eventAt : Int) (f_eventN : Int) (f_bytes : Int) (f_since : Int) : feed_look_d @L4 @L15 f_got_k f_got_v f_lost_k f_lost_v f_closed f_r f_any f_now f_first f_newest f_count f_event f_eventAt f_eventN f_bytes f_since = den G29 (feed_look_Λd @L4 @L15) false tab Go.Proofs.Tryz.f68.ntmps (fun fr H => finish tab 4 Go.Proofs.Tryz.f68.results.toList feed_look_out [] fr H some) (fun _ _ _ => none) (fun fr H => finish tab 4 Go.Proofs.Tryz.f68.results.toList feed_look_out [] fr H some) 10000 [.code (fb Go.Proofs.Tryz.f68)] (instFr feed_look_in [.li f_got_k, .li f_got_v, .li f_lost_k, .lb f_lost_v, .li f_closed, .i f_r, .b f_any, .i f_now, .i f_first, .i f_newest, .i f_count, .b f_event, .i f_eventAt, .i f_eventN, .i f_bytes, .i f_since]) (instH feed_look_in [.li f_got_k, .li f_got_v, .li f_lost_k, .lb f_lost_v, .li f_closed, .i f_r, .b f_any, .i f_now, .i f_first, .i f_newest, .i f_count, .b f_event, .i f_eventAt, .i f_eventN, .i f_bytes, .i f_since]) := by kernel_rfl
theorem feed_look_e (f_got_k : List Int) (f_got_v : List Int) (f_lost_k : List Int) (f_lost_v : List Bool) (f_closed : List Int) (f_r : Int) (f_any : Bool) (f_now : Int) (f_first : Int) (f_newest : Int) (f_count : Int) (f_event : Bool) (f_eventAt : Int) (f_eventN : Int) (f_bytes : Int) (f_since : Int) : feed_look f_got_k f_got_v f_lost_k f_lost_v f_closed f_r f_any f_now f_first f_newest f_count f_event f_eventAt f_eventN f_bytes f_since = den G29 feed_look_Λ false tab Go.Proofs.Tryz.f68.ntmps (fun fr H => finish tab 4 Go.Proofs.Tryz.f68.results.toList feed_look_out [] fr H some) (fun _ _ _ => none) (fun fr H => finish tab 4 Go.Proofs.Tryz.f68.results.toList feed_look_out [] fr H some) 10000 [.code (fb Go.Proofs.Tryz.f68)] (instFr feed_look_in [.li f_got_k, .li f_got_v, .li f_lost_k, .lb f_lost_v, .li f_closed, .i f_r, .b f_any, .i f_now, .i f_first, .i f_newest, .i f_count, .b f_event, .i f_eventAt, .i f_eventN, .i f_bytes, .i f_since]) (instH feed_look_in [.li f_got_k, .li f_got_v, .li f_lost_k, .lb f_lost_v, .li f_closed, .i f_r, .b f_any, .i f_now, .i f_first, .i f_newest, .i f_count, .b f_event, .i f_eventAt, .i f_eventN, .i f_bytes, .i f_since]) := feed_look_ed @feed_look_4_L @feed_look_15_L f_got_k f_got_v f_lost_k f_lost_v f_closed f_r f_any f_now f_first f_newest f_count f_event f_eventAt f_eventN f_bytes f_since
def feed_look_S : List Leaf → Option (List Leaf) := fun ls => un_li ls fun f_got_k rr => un_li rr fun f_got_v rr => un_li rr fun f_lost_k rr => un_lb rr fun f_lost_v rr => un_li rr fun f_closed rr => un_i rr fun f_r rr => un_b rr fun f_any rr => un_i rr fun f_now rr => un_i rr fun f_first rr => un_i rr fun f_newest rr => un_i rr fun f_count rr => un_b rr fun f_event rr => un_i rr fun f_eventAt rr => un_i rr fun f_eventN rr => un_i rr fun f_bytes rr => un_i rr fun f_since rr => un_nil rr (feed_look f_got_k f_got_v f_lost_k f_lost_v f_closed f_r f_any f_now f_first f_newest f_count f_event f_eventAt f_eventN f_bytes f_since)
def feed_look_SC : Tld := fun ls k' => un_li ls fun f_got_k rr => un_li rr fun f_got_v rr => un_li rr fun f_lost_k rr => un_lb rr fun f_lost_v rr => un_li rr fun f_closed rr => un_i rr fun f_r rr => un_b rr fun f_any rr => un_i rr fun f_now rr => un_i rr fun f_first rr => un_i rr fun f_newest rr => un_i rr fun f_count rr => un_b rr fun f_event rr => un_i rr fun f_eventAt rr => un_i rr fun f_eventN rr => un_i rr fun f_bytes rr => un_i rr fun f_since rr => un_nil rr (out (feed_look f_got_k f_got_v f_lost_k f_lost_v f_closed f_r f_any f_now f_first f_newest f_count f_event f_eventAt f_eventN f_bytes f_since) k')
theorem feed_look_Se (f_got_k : List Int) (f_got_v : List Int) (f_lost_k : List Int) (f_lost_v : List Bool) (f_closed : List Int) (f_r : Int) (f_any : Bool) (f_now : Int) (f_first : Int) (f_newest : Int) (f_count : Int) (f_event : Bool) (f_eventAt : Int) (f_eventN : Int) (f_bytes : Int) (f_since : Int) : feed_look_S [.li f_got_k, .li f_got_v, .li f_lost_k, .lb f_lost_v, .li f_closed, .i f_r, .b f_any, .i f_now, .i f_first, .i f_newest, .i f_count, .b f_event, .i f_eventAt, .i f_eventN, .i f_bytes, .i f_since] = feed_look f_got_k f_got_v f_lost_k f_lost_v f_closed f_r f_any f_now f_first f_newest f_count f_event f_eventAt f_eventN f_bytes f_since := by
  unfold feed_look_S
  simp only [un_i_ev, un_b_ev, un_s_ev, un_li_ev, un_lb_ev, un_ls_ev, un_nil_ev]
theorem feed_look_says : Says feed_look_SC feed_look_S := by
  intro β ls' k' r' h'
  unfold feed_look_SC at h'
  obtain ⟨f_got_k, l'1, rfl, h'1⟩ := un_li_some.1 h'
  obtain ⟨f_got_v, l'2, rfl, h'2⟩ := un_li_some.1 h'1
  obtain ⟨f_lost_k, l'3, rfl, h'3⟩ := un_li_some.1 h'2
  obtain ⟨f_lost_v, l'4, rfl, h'4⟩ := un_lb_some.1 h'3
  obtain ⟨f_closed, l'5, rfl, h'5⟩ := un_li_some.1 h'4
  obtain ⟨f_r, l'6, rfl, h'6⟩ := un_i_some.1 h'5
  obtain ⟨f_any, l'7, rfl, h'7⟩ := un_b_some.1 h'6
  obtain ⟨f_now, l'8, rfl, h'8⟩ := un_i_some.1 h'7
  obtain ⟨f_first, l'9, rfl, h'9⟩ := un_i_some.1 h'8
  obtain ⟨f_newest, l'10, rfl, h'10⟩ := un_i_some.1 h'9
  obtain ⟨f_count, l'11, rfl, h'11⟩ := un_i_some.1 h'10
  obtain ⟨f_event, l'12, rfl, h'12⟩ := un_b_some.1 h'11
  obtain ⟨f_eventAt, l'13, rfl, h'13⟩ := un_i_some.1 h'12
  obtain ⟨f_eventN, l'14, rfl, h'14⟩ := un_i_some.1 h'13
  obtain ⟨f_bytes, l'15, rfl, h'15⟩ := un_i_some.1 h'14
  obtain ⟨f_since, l'16, rfl, h'16⟩ := un_i_some.1 h'15
  obtain ⟨rfl, h'Z⟩ := un_nil_some.1 h'16
  obtain ⟨l', a', b'⟩ := out_some.1 h'Z
  exact ⟨l', (feed_look_Se f_got_k f_got_v f_lost_k f_lost_v f_closed f_r f_any f_now f_first f_newest f_count f_event f_eventAt f_eventN f_bytes f_since).trans a', b'⟩
theorem feed_look_c : FnC Go.Proofs.Tryz.prog 68 false 1 4 feed_look_in feed_look_out feed_look_S := by
  refine fn_ok (Λ := feed_look_Λ) mixed tab_ok g29 Go.Proofs.Tryz.func68 (by kernel_rfl) (body := fb Go.Proofs.Tryz.f68) rfl (ts := Go.Proofs.Tryz.f68.results.toList) rfl (cuts := []) (by kernel_rfl) (Nat.le_of_ble_eq_true (by kernel_rfl)) (by kernel_rfl) (rt := .tup []) rfl ?_ ?_
  · intro ls' r' h'
    unfold feed_look_S at h'
    obtain ⟨f_got_k, l'1, rfl, h'1⟩ := un_li_some.1 h'
    obtain ⟨f_got_v, l'2, rfl, h'2⟩ := un_li_some.1 h'1
    obtain ⟨f_lost_k, l'3, rfl, h'3⟩ := un_li_some.1 h'2
    obtain ⟨f_lost_v, l'4, rfl, h'4⟩ := un_lb_some.1 h'3
    obtain ⟨f_closed, l'5, rfl, h'5⟩ := un_li_some.1 h'4
    obtain ⟨f_r, l'6, rfl, h'6⟩ := un_i_some.1 h'5
    obtain ⟨f_any, l'7, rfl, h'7⟩ := un_b_some.1 h'6
    obtain ⟨f_now, l'8, rfl, h'8⟩ := un_i_some.1 h'7
    obtain ⟨f_first, l'9, rfl, h'9⟩ := un_i_some.1 h'8
    obtain ⟨f_newest, l'10, rfl, h'10⟩ := un_i_some.1 h'9
    obtain ⟨f_count, l'11, rfl, h'11⟩ := un_i_some.1 h'10
    obtain ⟨f_event, l'12, rfl, h'12⟩ := un_b_some.1 h'11
    obtain ⟨f_eventAt, l'13, rfl, h'13⟩ := un_i_some.1 h'12
    obtain ⟨f_eventN, l'14, rfl, h'14⟩ := un_i_some.1 h'13
    obtain ⟨f_bytes, l'15, rfl, h'15⟩ := un_i_some.1 h'14
    obtain ⟨f_since, l'16, rfl, h'16⟩ := un_i_some.1 h'15
    obtain ⟨rfl, h'Z⟩ := un_nil_some.1 h'16
    exact (feed_look_e f_got_k f_got_v f_lost_k f_lost_v f_closed f_r f_any f_now f_first f_newest f_count f_event f_eventAt f_eventN f_bytes f_since).symm.trans h'Z
  · intro E w0 ws ρ0 hk b hb
    rw [show loopsOf (fb Go.Proofs.Tryz.f68) = [(bodyAt (fb Go.Proofs.Tryz.f68) 0), (bodyAt (fb Go.Proofs.Tryz.f68) 1)] by kernel_rfl] at hb
    simp only [List.mem_cons, List.mem_nil_iff, or_false] at hb
    rcases hb with rfl | rfl
    · exact feed_look_4_lok E w0 ws ρ0 hk
    · exact feed_look_15_lok E w0 ws ρ0 hk
noncomputable def G30 : Env := G29.addE 68 1 feed_look_in feed_look_out feed_look_SC
theorem g30 : EnvOk Go.Proofs.Tryz.prog G30 := EnvOk.addE g29 feed_look_c feed_look_says

-- ### feed_Intervals: function 14
def feed_Intervals_in : Tm := ⟨[.cells 100 [.int .i64, .bool, .int .i64, .int .u64, .int .u64, .map 1, .map 2, .int .i64, .bool, .int .i64, .int .u64, .all 3 1, .int .u64, .int .i64], .map .u64 (.int .i64), .map .u64 (.bool), .row 22 1 [.int .u64]], [(0, .w (.at (.ptr 0 0)))]⟩
def feed_Intervals_out : Tm := ⟨[.cells 100 [.int .i64, .bool, .int .i64, .int .u64, .int .u64, .map 1, .map 2, .int .i64, .bool, .int .i64, .int .u64, .all 4 1, .int .u64, .int .i64], .map .u64 (.int .i64), .map .u64 (.bool), .dead, .row 22 1 [.int .u64], .row 22 1 [.int .u64]], [(0, .tup [.at (.int .u64), .at (.all 5 1)])]⟩

def feed_Intervals_Λd : Loops := Loops.none
def feed_Intervals_Λ : Loops := feed_Intervals_Λd 

theorem feed_Intervals_e (f_got_k : List Int) (f_got_v : List Int) (f_lost_k : List Int) (f_lost_v : List Bool) (f_closed : List Int) (f_r : Int) (f_any : Bool) (f_now : Int) (f_first : Int) (f_newest : Int) (f_count : Int) (f_event : Bool) (f_eventAt : Int) (f_eventN : Int) (f_bytes : Int) (f_since : Int) : feed_Intervals f_got_k f_got_v f_lost_k f_lost_v f_closed f_r f_any f_now f_first f_newest f_count f_event f_eventAt f_eventN f_bytes f_since = den G30 feed_Intervals_Λ false tab Go.Proofs.Tryz.f14.ntmps (fun fr H => finish tab 4 Go.Proofs.Tryz.f14.results.toList feed_Intervals_out [] fr H some) (fun _ _ _ => none) (fun fr H => finish tab 4 Go.Proofs.Tryz.f14.results.toList feed_Intervals_out [] fr H some) 10000 [.code (fb Go.Proofs.Tryz.f14)] (instFr feed_Intervals_in [.li f_got_k, .li f_got_v, .li f_lost_k, .lb f_lost_v, .li f_closed, .i f_r, .b f_any, .i f_now, .i f_first, .i f_newest, .i f_count, .b f_event, .i f_eventAt, .i f_eventN, .i f_bytes, .i f_since]) (instH feed_Intervals_in [.li f_got_k, .li f_got_v, .li f_lost_k, .lb f_lost_v, .li f_closed, .i f_r, .b f_any, .i f_now, .i f_first, .i f_newest, .i f_count, .b f_event, .i f_eventAt, .i f_eventN, .i f_bytes, .i f_since]) := by kernel_rfl
def feed_Intervals_S : List Leaf → Option (List Leaf) := fun ls => un_li ls fun f_got_k rr => un_li rr fun f_got_v rr => un_li rr fun f_lost_k rr => un_lb rr fun f_lost_v rr => un_li rr fun f_closed rr => un_i rr fun f_r rr => un_b rr fun f_any rr => un_i rr fun f_now rr => un_i rr fun f_first rr => un_i rr fun f_newest rr => un_i rr fun f_count rr => un_b rr fun f_event rr => un_i rr fun f_eventAt rr => un_i rr fun f_eventN rr => un_i rr fun f_bytes rr => un_i rr fun f_since rr => un_nil rr (feed_Intervals f_got_k f_got_v f_lost_k f_lost_v f_closed f_r f_any f_now f_first f_newest f_count f_event f_eventAt f_eventN f_bytes f_since)
def feed_Intervals_SC : Tld := fun ls k' => un_li ls fun f_got_k rr => un_li rr fun f_got_v rr => un_li rr fun f_lost_k rr => un_lb rr fun f_lost_v rr => un_li rr fun f_closed rr => un_i rr fun f_r rr => un_b rr fun f_any rr => un_i rr fun f_now rr => un_i rr fun f_first rr => un_i rr fun f_newest rr => un_i rr fun f_count rr => un_b rr fun f_event rr => un_i rr fun f_eventAt rr => un_i rr fun f_eventN rr => un_i rr fun f_bytes rr => un_i rr fun f_since rr => un_nil rr (out (feed_Intervals f_got_k f_got_v f_lost_k f_lost_v f_closed f_r f_any f_now f_first f_newest f_count f_event f_eventAt f_eventN f_bytes f_since) k')
theorem feed_Intervals_Se (f_got_k : List Int) (f_got_v : List Int) (f_lost_k : List Int) (f_lost_v : List Bool) (f_closed : List Int) (f_r : Int) (f_any : Bool) (f_now : Int) (f_first : Int) (f_newest : Int) (f_count : Int) (f_event : Bool) (f_eventAt : Int) (f_eventN : Int) (f_bytes : Int) (f_since : Int) : feed_Intervals_S [.li f_got_k, .li f_got_v, .li f_lost_k, .lb f_lost_v, .li f_closed, .i f_r, .b f_any, .i f_now, .i f_first, .i f_newest, .i f_count, .b f_event, .i f_eventAt, .i f_eventN, .i f_bytes, .i f_since] = feed_Intervals f_got_k f_got_v f_lost_k f_lost_v f_closed f_r f_any f_now f_first f_newest f_count f_event f_eventAt f_eventN f_bytes f_since := by
  unfold feed_Intervals_S
  simp only [un_i_ev, un_b_ev, un_s_ev, un_li_ev, un_lb_ev, un_ls_ev, un_nil_ev]
theorem feed_Intervals_says : Says feed_Intervals_SC feed_Intervals_S := by
  intro β ls' k' r' h'
  unfold feed_Intervals_SC at h'
  obtain ⟨f_got_k, l'1, rfl, h'1⟩ := un_li_some.1 h'
  obtain ⟨f_got_v, l'2, rfl, h'2⟩ := un_li_some.1 h'1
  obtain ⟨f_lost_k, l'3, rfl, h'3⟩ := un_li_some.1 h'2
  obtain ⟨f_lost_v, l'4, rfl, h'4⟩ := un_lb_some.1 h'3
  obtain ⟨f_closed, l'5, rfl, h'5⟩ := un_li_some.1 h'4
  obtain ⟨f_r, l'6, rfl, h'6⟩ := un_i_some.1 h'5
  obtain ⟨f_any, l'7, rfl, h'7⟩ := un_b_some.1 h'6
  obtain ⟨f_now, l'8, rfl, h'8⟩ := un_i_some.1 h'7
  obtain ⟨f_first, l'9, rfl, h'9⟩ := un_i_some.1 h'8
  obtain ⟨f_newest, l'10, rfl, h'10⟩ := un_i_some.1 h'9
  obtain ⟨f_count, l'11, rfl, h'11⟩ := un_i_some.1 h'10
  obtain ⟨f_event, l'12, rfl, h'12⟩ := un_b_some.1 h'11
  obtain ⟨f_eventAt, l'13, rfl, h'13⟩ := un_i_some.1 h'12
  obtain ⟨f_eventN, l'14, rfl, h'14⟩ := un_i_some.1 h'13
  obtain ⟨f_bytes, l'15, rfl, h'15⟩ := un_i_some.1 h'14
  obtain ⟨f_since, l'16, rfl, h'16⟩ := un_i_some.1 h'15
  obtain ⟨rfl, h'Z⟩ := un_nil_some.1 h'16
  obtain ⟨l', a', b'⟩ := out_some.1 h'Z
  exact ⟨l', (feed_Intervals_Se f_got_k f_got_v f_lost_k f_lost_v f_closed f_r f_any f_now f_first f_newest f_count f_event f_eventAt f_eventN f_bytes f_since).trans a', b'⟩
theorem feed_Intervals_c : FnC Go.Proofs.Tryz.prog 14 false 1 4 feed_Intervals_in feed_Intervals_out feed_Intervals_S := by
  refine fn_ok (Λ := feed_Intervals_Λ) mixed tab_ok g30 Go.Proofs.Tryz.func14 (by kernel_rfl) (body := fb Go.Proofs.Tryz.f14) rfl (ts := Go.Proofs.Tryz.f14.results.toList) rfl (cuts := []) (by kernel_rfl) (Nat.le_of_ble_eq_true (by kernel_rfl)) (by kernel_rfl) (rt := .tup [.at (.int .u64), .at (.all 5 1)]) rfl ?_ ?_
  · intro ls' r' h'
    unfold feed_Intervals_S at h'
    obtain ⟨f_got_k, l'1, rfl, h'1⟩ := un_li_some.1 h'
    obtain ⟨f_got_v, l'2, rfl, h'2⟩ := un_li_some.1 h'1
    obtain ⟨f_lost_k, l'3, rfl, h'3⟩ := un_li_some.1 h'2
    obtain ⟨f_lost_v, l'4, rfl, h'4⟩ := un_lb_some.1 h'3
    obtain ⟨f_closed, l'5, rfl, h'5⟩ := un_li_some.1 h'4
    obtain ⟨f_r, l'6, rfl, h'6⟩ := un_i_some.1 h'5
    obtain ⟨f_any, l'7, rfl, h'7⟩ := un_b_some.1 h'6
    obtain ⟨f_now, l'8, rfl, h'8⟩ := un_i_some.1 h'7
    obtain ⟨f_first, l'9, rfl, h'9⟩ := un_i_some.1 h'8
    obtain ⟨f_newest, l'10, rfl, h'10⟩ := un_i_some.1 h'9
    obtain ⟨f_count, l'11, rfl, h'11⟩ := un_i_some.1 h'10
    obtain ⟨f_event, l'12, rfl, h'12⟩ := un_b_some.1 h'11
    obtain ⟨f_eventAt, l'13, rfl, h'13⟩ := un_i_some.1 h'12
    obtain ⟨f_eventN, l'14, rfl, h'14⟩ := un_i_some.1 h'13
    obtain ⟨f_bytes, l'15, rfl, h'15⟩ := un_i_some.1 h'14
    obtain ⟨f_since, l'16, rfl, h'16⟩ := un_i_some.1 h'15
    obtain ⟨rfl, h'Z⟩ := un_nil_some.1 h'16
    exact (feed_Intervals_e f_got_k f_got_v f_lost_k f_lost_v f_closed f_r f_any f_now f_first f_newest f_count f_event f_eventAt f_eventN f_bytes f_since).symm.trans h'Z
  · intro E w0 ws ρ0 hk b hb
    rw [show loopsOf (fb Go.Proofs.Tryz.f14) = [] by kernel_rfl] at hb
    cases hb
noncomputable def G31 : Env := G30.addE 14 1 feed_Intervals_in feed_Intervals_out feed_Intervals_SC
theorem g31 : EnvOk Go.Proofs.Tryz.prog G31 := EnvOk.addE g30 feed_Intervals_c feed_Intervals_says

-- ### feed_Loss: function 20
def feed_Loss_in : Tm := ⟨[.cells 100 [.int .i64, .bool, .int .i64, .int .u64, .int .u64, .map 1, .map 2, .int .i64, .bool, .int .i64, .int .u64, .all 3 1, .int .u64, .int .i64], .map .u64 (.int .i64), .map .u64 (.bool), .row 22 1 [.int .u64]], [(0, .w (.at (.ptr 0 0)))]⟩
def feed_Loss_out : Tm := ⟨[.cells 100 [.int .i64, .bool, .int .i64, .int .u64, .int .u64, .map 1, .map 2, .int .i64, .bool, .int .i64, .int .u64, .all 4 1, .int .u64, .int .i64], .map .u64 (.int .i64), .map .u64 (.bool), .dead, .row 22 1 [.int .u64]], [(0, .w (.at (.int .u64)))]⟩

def feed_Loss_Λd : Loops := Loops.none
def feed_Loss_Λ : Loops := feed_Loss_Λd 

theorem feed_Loss_e (f_got_k : List Int) (f_got_v : List Int) (f_lost_k : List Int) (f_lost_v : List Bool) (f_closed : List Int) (f_r : Int) (f_any : Bool) (f_now : Int) (f_first : Int) (f_newest : Int) (f_count : Int) (f_event : Bool) (f_eventAt : Int) (f_eventN : Int) (f_bytes : Int) (f_since : Int) : feed_Loss f_got_k f_got_v f_lost_k f_lost_v f_closed f_r f_any f_now f_first f_newest f_count f_event f_eventAt f_eventN f_bytes f_since = den G31 feed_Loss_Λ false tab Go.Proofs.Tryz.f20.ntmps (fun fr H => finish tab 4 Go.Proofs.Tryz.f20.results.toList feed_Loss_out [] fr H some) (fun _ _ _ => none) (fun fr H => finish tab 4 Go.Proofs.Tryz.f20.results.toList feed_Loss_out [] fr H some) 10000 [.code (fb Go.Proofs.Tryz.f20)] (instFr feed_Loss_in [.li f_got_k, .li f_got_v, .li f_lost_k, .lb f_lost_v, .li f_closed, .i f_r, .b f_any, .i f_now, .i f_first, .i f_newest, .i f_count, .b f_event, .i f_eventAt, .i f_eventN, .i f_bytes, .i f_since]) (instH feed_Loss_in [.li f_got_k, .li f_got_v, .li f_lost_k, .lb f_lost_v, .li f_closed, .i f_r, .b f_any, .i f_now, .i f_first, .i f_newest, .i f_count, .b f_event, .i f_eventAt, .i f_eventN, .i f_bytes, .i f_since]) := by kernel_rfl
def feed_Loss_S : List Leaf → Option (List Leaf) := fun ls => un_li ls fun f_got_k rr => un_li rr fun f_got_v rr => un_li rr fun f_lost_k rr => un_lb rr fun f_lost_v rr => un_li rr fun f_closed rr => un_i rr fun f_r rr => un_b rr fun f_any rr => un_i rr fun f_now rr => un_i rr fun f_first rr => un_i rr fun f_newest rr => un_i rr fun f_count rr => un_b rr fun f_event rr => un_i rr fun f_eventAt rr => un_i rr fun f_eventN rr => un_i rr fun f_bytes rr => un_i rr fun f_since rr => un_nil rr (feed_Loss f_got_k f_got_v f_lost_k f_lost_v f_closed f_r f_any f_now f_first f_newest f_count f_event f_eventAt f_eventN f_bytes f_since)
def feed_Loss_SC : Tld := fun ls k' => un_li ls fun f_got_k rr => un_li rr fun f_got_v rr => un_li rr fun f_lost_k rr => un_lb rr fun f_lost_v rr => un_li rr fun f_closed rr => un_i rr fun f_r rr => un_b rr fun f_any rr => un_i rr fun f_now rr => un_i rr fun f_first rr => un_i rr fun f_newest rr => un_i rr fun f_count rr => un_b rr fun f_event rr => un_i rr fun f_eventAt rr => un_i rr fun f_eventN rr => un_i rr fun f_bytes rr => un_i rr fun f_since rr => un_nil rr (out (feed_Loss f_got_k f_got_v f_lost_k f_lost_v f_closed f_r f_any f_now f_first f_newest f_count f_event f_eventAt f_eventN f_bytes f_since) k')
theorem feed_Loss_Se (f_got_k : List Int) (f_got_v : List Int) (f_lost_k : List Int) (f_lost_v : List Bool) (f_closed : List Int) (f_r : Int) (f_any : Bool) (f_now : Int) (f_first : Int) (f_newest : Int) (f_count : Int) (f_event : Bool) (f_eventAt : Int) (f_eventN : Int) (f_bytes : Int) (f_since : Int) : feed_Loss_S [.li f_got_k, .li f_got_v, .li f_lost_k, .lb f_lost_v, .li f_closed, .i f_r, .b f_any, .i f_now, .i f_first, .i f_newest, .i f_count, .b f_event, .i f_eventAt, .i f_eventN, .i f_bytes, .i f_since] = feed_Loss f_got_k f_got_v f_lost_k f_lost_v f_closed f_r f_any f_now f_first f_newest f_count f_event f_eventAt f_eventN f_bytes f_since := by
  unfold feed_Loss_S
  simp only [un_i_ev, un_b_ev, un_s_ev, un_li_ev, un_lb_ev, un_ls_ev, un_nil_ev]
theorem feed_Loss_says : Says feed_Loss_SC feed_Loss_S := by
  intro β ls' k' r' h'
  unfold feed_Loss_SC at h'
  obtain ⟨f_got_k, l'1, rfl, h'1⟩ := un_li_some.1 h'
  obtain ⟨f_got_v, l'2, rfl, h'2⟩ := un_li_some.1 h'1
  obtain ⟨f_lost_k, l'3, rfl, h'3⟩ := un_li_some.1 h'2
  obtain ⟨f_lost_v, l'4, rfl, h'4⟩ := un_lb_some.1 h'3
  obtain ⟨f_closed, l'5, rfl, h'5⟩ := un_li_some.1 h'4
  obtain ⟨f_r, l'6, rfl, h'6⟩ := un_i_some.1 h'5
  obtain ⟨f_any, l'7, rfl, h'7⟩ := un_b_some.1 h'6
  obtain ⟨f_now, l'8, rfl, h'8⟩ := un_i_some.1 h'7
  obtain ⟨f_first, l'9, rfl, h'9⟩ := un_i_some.1 h'8
  obtain ⟨f_newest, l'10, rfl, h'10⟩ := un_i_some.1 h'9
  obtain ⟨f_count, l'11, rfl, h'11⟩ := un_i_some.1 h'10
  obtain ⟨f_event, l'12, rfl, h'12⟩ := un_b_some.1 h'11
  obtain ⟨f_eventAt, l'13, rfl, h'13⟩ := un_i_some.1 h'12
  obtain ⟨f_eventN, l'14, rfl, h'14⟩ := un_i_some.1 h'13
  obtain ⟨f_bytes, l'15, rfl, h'15⟩ := un_i_some.1 h'14
  obtain ⟨f_since, l'16, rfl, h'16⟩ := un_i_some.1 h'15
  obtain ⟨rfl, h'Z⟩ := un_nil_some.1 h'16
  obtain ⟨l', a', b'⟩ := out_some.1 h'Z
  exact ⟨l', (feed_Loss_Se f_got_k f_got_v f_lost_k f_lost_v f_closed f_r f_any f_now f_first f_newest f_count f_event f_eventAt f_eventN f_bytes f_since).trans a', b'⟩
theorem feed_Loss_c : FnC Go.Proofs.Tryz.prog 20 false 1 4 feed_Loss_in feed_Loss_out feed_Loss_S := by
  refine fn_ok (Λ := feed_Loss_Λ) mixed tab_ok g31 Go.Proofs.Tryz.func20 (by kernel_rfl) (body := fb Go.Proofs.Tryz.f20) rfl (ts := Go.Proofs.Tryz.f20.results.toList) rfl (cuts := []) (by kernel_rfl) (Nat.le_of_ble_eq_true (by kernel_rfl)) (by kernel_rfl) (rt := .w (.at (.int .u64))) rfl ?_ ?_
  · intro ls' r' h'
    unfold feed_Loss_S at h'
    obtain ⟨f_got_k, l'1, rfl, h'1⟩ := un_li_some.1 h'
    obtain ⟨f_got_v, l'2, rfl, h'2⟩ := un_li_some.1 h'1
    obtain ⟨f_lost_k, l'3, rfl, h'3⟩ := un_li_some.1 h'2
    obtain ⟨f_lost_v, l'4, rfl, h'4⟩ := un_lb_some.1 h'3
    obtain ⟨f_closed, l'5, rfl, h'5⟩ := un_li_some.1 h'4
    obtain ⟨f_r, l'6, rfl, h'6⟩ := un_i_some.1 h'5
    obtain ⟨f_any, l'7, rfl, h'7⟩ := un_b_some.1 h'6
    obtain ⟨f_now, l'8, rfl, h'8⟩ := un_i_some.1 h'7
    obtain ⟨f_first, l'9, rfl, h'9⟩ := un_i_some.1 h'8
    obtain ⟨f_newest, l'10, rfl, h'10⟩ := un_i_some.1 h'9
    obtain ⟨f_count, l'11, rfl, h'11⟩ := un_i_some.1 h'10
    obtain ⟨f_event, l'12, rfl, h'12⟩ := un_b_some.1 h'11
    obtain ⟨f_eventAt, l'13, rfl, h'13⟩ := un_i_some.1 h'12
    obtain ⟨f_eventN, l'14, rfl, h'14⟩ := un_i_some.1 h'13
    obtain ⟨f_bytes, l'15, rfl, h'15⟩ := un_i_some.1 h'14
    obtain ⟨f_since, l'16, rfl, h'16⟩ := un_i_some.1 h'15
    obtain ⟨rfl, h'Z⟩ := un_nil_some.1 h'16
    exact (feed_Loss_e f_got_k f_got_v f_lost_k f_lost_v f_closed f_r f_any f_now f_first f_newest f_count f_event f_eventAt f_eventN f_bytes f_since).symm.trans h'Z
  · intro E w0 ws ρ0 hk b hb
    rw [show loopsOf (fb Go.Proofs.Tryz.f20) = [] by kernel_rfl] at hb
    cases hb
noncomputable def G32 : Env := G31.addE 20 1 feed_Loss_in feed_Loss_out feed_Loss_SC
theorem g32 : EnvOk Go.Proofs.Tryz.prog G32 := EnvOk.addE g31 feed_Loss_c feed_Loss_says

-- ### feed_Tell: function 15
def feed_Tell_in : Tm := ⟨[.cells 100 [.int .i64, .bool, .int .i64, .int .u64, .int .u64, .map 1, .map 2, .int .i64, .bool, .int .i64, .int .u64, .all 3 1, .int .u64, .int .i64], .map .u64 (.int .i64), .map .u64 (.bool), .row 22 1 [.int .u64]], [(0, .w (.at (.ptr 0 0))), (1, .w (.at (.int .i64)))]⟩
def feed_Tell_out : Tm := ⟨[.cells 100 [.int .i64, .bool, .int .i64, .int .u64, .int .u64, .map 1, .map 2, .int .i64, .bool, .int .i64, .int .u64, .all 4 1, .int .u64, .int .i64], .map .u64 (.int .i64), .map .u64 (.bool), .dead, .row 22 1 [.int .u64]], [(0, .tup [.at (.int .u64), .at (.int .u64)])]⟩

def feed_Tell_Λd : Loops := Loops.none
def feed_Tell_Λ : Loops := feed_Tell_Λd 

theorem feed_Tell_e (f_got_k : List Int) (f_got_v : List Int) (f_lost_k : List Int) (f_lost_v : List Bool) (f_closed : List Int) (f_r : Int) (f_any : Bool) (f_now : Int) (f_first : Int) (f_newest : Int) (f_count : Int) (f_event : Bool) (f_eventAt : Int) (f_eventN : Int) (f_bytes : Int) (f_since : Int) (now : Int) : feed_Tell f_got_k f_got_v f_lost_k f_lost_v f_closed f_r f_any f_now f_first f_newest f_count f_event f_eventAt f_eventN f_bytes f_since now = den G32 feed_Tell_Λ false tab Go.Proofs.Tryz.f15.ntmps (fun fr H => finish tab 4 Go.Proofs.Tryz.f15.results.toList feed_Tell_out [] fr H some) (fun _ _ _ => none) (fun fr H => finish tab 4 Go.Proofs.Tryz.f15.results.toList feed_Tell_out [] fr H some) 10000 [.code (fb Go.Proofs.Tryz.f15)] (instFr feed_Tell_in [.li f_got_k, .li f_got_v, .li f_lost_k, .lb f_lost_v, .li f_closed, .i f_r, .b f_any, .i f_now, .i f_first, .i f_newest, .i f_count, .b f_event, .i f_eventAt, .i f_eventN, .i f_bytes, .i f_since, .i now]) (instH feed_Tell_in [.li f_got_k, .li f_got_v, .li f_lost_k, .lb f_lost_v, .li f_closed, .i f_r, .b f_any, .i f_now, .i f_first, .i f_newest, .i f_count, .b f_event, .i f_eventAt, .i f_eventN, .i f_bytes, .i f_since, .i now]) := by kernel_rfl
def feed_Tell_S : List Leaf → Option (List Leaf) := fun ls => un_li ls fun f_got_k rr => un_li rr fun f_got_v rr => un_li rr fun f_lost_k rr => un_lb rr fun f_lost_v rr => un_li rr fun f_closed rr => un_i rr fun f_r rr => un_b rr fun f_any rr => un_i rr fun f_now rr => un_i rr fun f_first rr => un_i rr fun f_newest rr => un_i rr fun f_count rr => un_b rr fun f_event rr => un_i rr fun f_eventAt rr => un_i rr fun f_eventN rr => un_i rr fun f_bytes rr => un_i rr fun f_since rr => un_i rr fun now rr => un_nil rr (feed_Tell f_got_k f_got_v f_lost_k f_lost_v f_closed f_r f_any f_now f_first f_newest f_count f_event f_eventAt f_eventN f_bytes f_since now)
def feed_Tell_SC : Tld := fun ls k' => un_li ls fun f_got_k rr => un_li rr fun f_got_v rr => un_li rr fun f_lost_k rr => un_lb rr fun f_lost_v rr => un_li rr fun f_closed rr => un_i rr fun f_r rr => un_b rr fun f_any rr => un_i rr fun f_now rr => un_i rr fun f_first rr => un_i rr fun f_newest rr => un_i rr fun f_count rr => un_b rr fun f_event rr => un_i rr fun f_eventAt rr => un_i rr fun f_eventN rr => un_i rr fun f_bytes rr => un_i rr fun f_since rr => un_i rr fun now rr => un_nil rr (out (feed_Tell f_got_k f_got_v f_lost_k f_lost_v f_closed f_r f_any f_now f_first f_newest f_count f_event f_eventAt f_eventN f_bytes f_since now) k')
theorem feed_Tell_Se (f_got_k : List Int) (f_got_v : List Int) (f_lost_k : List Int) (f_lost_v : List Bool) (f_closed : List Int) (f_r : Int) (f_any : Bool) (f_now : Int) (f_first : Int) (f_newest : Int) (f_count : Int) (f_event : Bool) (f_eventAt : Int) (f_eventN : Int) (f_bytes : Int) (f_since : Int) (now : Int) : feed_Tell_S [.li f_got_k, .li f_got_v, .li f_lost_k, .lb f_lost_v, .li f_closed, .i f_r, .b f_any, .i f_now, .i f_first, .i f_newest, .i f_count, .b f_event, .i f_eventAt, .i f_eventN, .i f_bytes, .i f_since, .i now] = feed_Tell f_got_k f_got_v f_lost_k f_lost_v f_closed f_r f_any f_now f_first f_newest f_count f_event f_eventAt f_eventN f_bytes f_since now := by
  unfold feed_Tell_S
  simp only [un_i_ev, un_b_ev, un_s_ev, un_li_ev, un_lb_ev, un_ls_ev, un_nil_ev]
theorem feed_Tell_says : Says feed_Tell_SC feed_Tell_S := by
  intro β ls' k' r' h'
  unfold feed_Tell_SC at h'
  obtain ⟨f_got_k, l'1, rfl, h'1⟩ := un_li_some.1 h'
  obtain ⟨f_got_v, l'2, rfl, h'2⟩ := un_li_some.1 h'1
  obtain ⟨f_lost_k, l'3, rfl, h'3⟩ := un_li_some.1 h'2
  obtain ⟨f_lost_v, l'4, rfl, h'4⟩ := un_lb_some.1 h'3
  obtain ⟨f_closed, l'5, rfl, h'5⟩ := un_li_some.1 h'4
  obtain ⟨f_r, l'6, rfl, h'6⟩ := un_i_some.1 h'5
  obtain ⟨f_any, l'7, rfl, h'7⟩ := un_b_some.1 h'6
  obtain ⟨f_now, l'8, rfl, h'8⟩ := un_i_some.1 h'7
  obtain ⟨f_first, l'9, rfl, h'9⟩ := un_i_some.1 h'8
  obtain ⟨f_newest, l'10, rfl, h'10⟩ := un_i_some.1 h'9
  obtain ⟨f_count, l'11, rfl, h'11⟩ := un_i_some.1 h'10
  obtain ⟨f_event, l'12, rfl, h'12⟩ := un_b_some.1 h'11
  obtain ⟨f_eventAt, l'13, rfl, h'13⟩ := un_i_some.1 h'12
  obtain ⟨f_eventN, l'14, rfl, h'14⟩ := un_i_some.1 h'13
  obtain ⟨f_bytes, l'15, rfl, h'15⟩ := un_i_some.1 h'14
  obtain ⟨f_since, l'16, rfl, h'16⟩ := un_i_some.1 h'15
  obtain ⟨now, l'17, rfl, h'17⟩ := un_i_some.1 h'16
  obtain ⟨rfl, h'Z⟩ := un_nil_some.1 h'17
  obtain ⟨l', a', b'⟩ := out_some.1 h'Z
  exact ⟨l', (feed_Tell_Se f_got_k f_got_v f_lost_k f_lost_v f_closed f_r f_any f_now f_first f_newest f_count f_event f_eventAt f_eventN f_bytes f_since now).trans a', b'⟩
theorem feed_Tell_c : FnC Go.Proofs.Tryz.prog 15 false 2 4 feed_Tell_in feed_Tell_out feed_Tell_S := by
  refine fn_ok (Λ := feed_Tell_Λ) mixed tab_ok g32 Go.Proofs.Tryz.func15 (by kernel_rfl) (body := fb Go.Proofs.Tryz.f15) rfl (ts := Go.Proofs.Tryz.f15.results.toList) rfl (cuts := []) (by kernel_rfl) (Nat.le_of_ble_eq_true (by kernel_rfl)) (by kernel_rfl) (rt := .tup [.at (.int .u64), .at (.int .u64)]) rfl ?_ ?_
  · intro ls' r' h'
    unfold feed_Tell_S at h'
    obtain ⟨f_got_k, l'1, rfl, h'1⟩ := un_li_some.1 h'
    obtain ⟨f_got_v, l'2, rfl, h'2⟩ := un_li_some.1 h'1
    obtain ⟨f_lost_k, l'3, rfl, h'3⟩ := un_li_some.1 h'2
    obtain ⟨f_lost_v, l'4, rfl, h'4⟩ := un_lb_some.1 h'3
    obtain ⟨f_closed, l'5, rfl, h'5⟩ := un_li_some.1 h'4
    obtain ⟨f_r, l'6, rfl, h'6⟩ := un_i_some.1 h'5
    obtain ⟨f_any, l'7, rfl, h'7⟩ := un_b_some.1 h'6
    obtain ⟨f_now, l'8, rfl, h'8⟩ := un_i_some.1 h'7
    obtain ⟨f_first, l'9, rfl, h'9⟩ := un_i_some.1 h'8
    obtain ⟨f_newest, l'10, rfl, h'10⟩ := un_i_some.1 h'9
    obtain ⟨f_count, l'11, rfl, h'11⟩ := un_i_some.1 h'10
    obtain ⟨f_event, l'12, rfl, h'12⟩ := un_b_some.1 h'11
    obtain ⟨f_eventAt, l'13, rfl, h'13⟩ := un_i_some.1 h'12
    obtain ⟨f_eventN, l'14, rfl, h'14⟩ := un_i_some.1 h'13
    obtain ⟨f_bytes, l'15, rfl, h'15⟩ := un_i_some.1 h'14
    obtain ⟨f_since, l'16, rfl, h'16⟩ := un_i_some.1 h'15
    obtain ⟨now, l'17, rfl, h'17⟩ := un_i_some.1 h'16
    obtain ⟨rfl, h'Z⟩ := un_nil_some.1 h'17
    exact (feed_Tell_e f_got_k f_got_v f_lost_k f_lost_v f_closed f_r f_any f_now f_first f_newest f_count f_event f_eventAt f_eventN f_bytes f_since now).symm.trans h'Z
  · intro E w0 ws ρ0 hk b hb
    rw [show loopsOf (fb Go.Proofs.Tryz.f15) = [] by kernel_rfl] at hb
    cases hb
noncomputable def G33 : Env := G32.addE 15 2 feed_Tell_in feed_Tell_out feed_Tell_SC
theorem g33 : EnvOk Go.Proofs.Tryz.prog G33 := EnvOk.addE g32 feed_Tell_c feed_Tell_says

-- ### feed_Lost: function 16
def feed_Lost_in : Tm := ⟨[.cells 100 [.int .i64, .bool, .int .i64, .int .u64, .int .u64, .map 1, .map 2, .int .i64, .bool, .int .i64, .int .u64, .all 3 1, .int .u64, .int .i64], .map .u64 (.int .i64), .map .u64 (.bool), .row 22 1 [.int .u64]], [(0, .w (.at (.ptr 0 0)))]⟩
def feed_Lost_out : Tm := ⟨[.dead, .dead, .dead, .dead], [(0, .w (.at (.int .i64)))]⟩

def feed_Lost_Λd : Loops := Loops.none
def feed_Lost_Λ : Loops := feed_Lost_Λd 

theorem feed_Lost_e (f_got_k : List Int) (f_got_v : List Int) (f_lost_k : List Int) (f_lost_v : List Bool) (f_closed : List Int) (f_r : Int) (f_any : Bool) (f_now : Int) (f_first : Int) (f_newest : Int) (f_count : Int) (f_event : Bool) (f_eventAt : Int) (f_eventN : Int) (f_bytes : Int) (f_since : Int) : feed_Lost f_got_k f_got_v f_lost_k f_lost_v f_closed f_r f_any f_now f_first f_newest f_count f_event f_eventAt f_eventN f_bytes f_since = den G33 feed_Lost_Λ true tab Go.Proofs.Tryz.f16.ntmps (fun fr H => finish tab 4 Go.Proofs.Tryz.f16.results.toList feed_Lost_out [] fr H some) (fun _ _ _ => none) (fun fr H => finish tab 4 Go.Proofs.Tryz.f16.results.toList feed_Lost_out [] fr H some) 10000 [.code (fb Go.Proofs.Tryz.f16)] (instFr feed_Lost_in [.li f_got_k, .li f_got_v, .li f_lost_k, .lb f_lost_v, .li f_closed, .i f_r, .b f_any, .i f_now, .i f_first, .i f_newest, .i f_count, .b f_event, .i f_eventAt, .i f_eventN, .i f_bytes, .i f_since]) (instH feed_Lost_in [.li f_got_k, .li f_got_v, .li f_lost_k, .lb f_lost_v, .li f_closed, .i f_r, .b f_any, .i f_now, .i f_first, .i f_newest, .i f_count, .b f_event, .i f_eventAt, .i f_eventN, .i f_bytes, .i f_since]) := by kernel_rfl
def feed_Lost_S : List Leaf → Option (List Leaf) := fun ls => un_li ls fun f_got_k rr => un_li rr fun f_got_v rr => un_li rr fun f_lost_k rr => un_lb rr fun f_lost_v rr => un_li rr fun f_closed rr => un_i rr fun f_r rr => un_b rr fun f_any rr => un_i rr fun f_now rr => un_i rr fun f_first rr => un_i rr fun f_newest rr => un_i rr fun f_count rr => un_b rr fun f_event rr => un_i rr fun f_eventAt rr => un_i rr fun f_eventN rr => un_i rr fun f_bytes rr => un_i rr fun f_since rr => un_nil rr (feed_Lost f_got_k f_got_v f_lost_k f_lost_v f_closed f_r f_any f_now f_first f_newest f_count f_event f_eventAt f_eventN f_bytes f_since)
def feed_Lost_SC : Tld := fun ls k' => un_li ls fun f_got_k rr => un_li rr fun f_got_v rr => un_li rr fun f_lost_k rr => un_lb rr fun f_lost_v rr => un_li rr fun f_closed rr => un_i rr fun f_r rr => un_b rr fun f_any rr => un_i rr fun f_now rr => un_i rr fun f_first rr => un_i rr fun f_newest rr => un_i rr fun f_count rr => un_b rr fun f_event rr => un_i rr fun f_eventAt rr => un_i rr fun f_eventN rr => un_i rr fun f_bytes rr => un_i rr fun f_since rr => un_nil rr (out (feed_Lost f_got_k f_got_v f_lost_k f_lost_v f_closed f_r f_any f_now f_first f_newest f_count f_event f_eventAt f_eventN f_bytes f_since) k')
theorem feed_Lost_Se (f_got_k : List Int) (f_got_v : List Int) (f_lost_k : List Int) (f_lost_v : List Bool) (f_closed : List Int) (f_r : Int) (f_any : Bool) (f_now : Int) (f_first : Int) (f_newest : Int) (f_count : Int) (f_event : Bool) (f_eventAt : Int) (f_eventN : Int) (f_bytes : Int) (f_since : Int) : feed_Lost_S [.li f_got_k, .li f_got_v, .li f_lost_k, .lb f_lost_v, .li f_closed, .i f_r, .b f_any, .i f_now, .i f_first, .i f_newest, .i f_count, .b f_event, .i f_eventAt, .i f_eventN, .i f_bytes, .i f_since] = feed_Lost f_got_k f_got_v f_lost_k f_lost_v f_closed f_r f_any f_now f_first f_newest f_count f_event f_eventAt f_eventN f_bytes f_since := by
  unfold feed_Lost_S
  simp only [un_i_ev, un_b_ev, un_s_ev, un_li_ev, un_lb_ev, un_ls_ev, un_nil_ev]
theorem feed_Lost_says : Says feed_Lost_SC feed_Lost_S := by
  intro β ls' k' r' h'
  unfold feed_Lost_SC at h'
  obtain ⟨f_got_k, l'1, rfl, h'1⟩ := un_li_some.1 h'
  obtain ⟨f_got_v, l'2, rfl, h'2⟩ := un_li_some.1 h'1
  obtain ⟨f_lost_k, l'3, rfl, h'3⟩ := un_li_some.1 h'2
  obtain ⟨f_lost_v, l'4, rfl, h'4⟩ := un_lb_some.1 h'3
  obtain ⟨f_closed, l'5, rfl, h'5⟩ := un_li_some.1 h'4
  obtain ⟨f_r, l'6, rfl, h'6⟩ := un_i_some.1 h'5
  obtain ⟨f_any, l'7, rfl, h'7⟩ := un_b_some.1 h'6
  obtain ⟨f_now, l'8, rfl, h'8⟩ := un_i_some.1 h'7
  obtain ⟨f_first, l'9, rfl, h'9⟩ := un_i_some.1 h'8
  obtain ⟨f_newest, l'10, rfl, h'10⟩ := un_i_some.1 h'9
  obtain ⟨f_count, l'11, rfl, h'11⟩ := un_i_some.1 h'10
  obtain ⟨f_event, l'12, rfl, h'12⟩ := un_b_some.1 h'11
  obtain ⟨f_eventAt, l'13, rfl, h'13⟩ := un_i_some.1 h'12
  obtain ⟨f_eventN, l'14, rfl, h'14⟩ := un_i_some.1 h'13
  obtain ⟨f_bytes, l'15, rfl, h'15⟩ := un_i_some.1 h'14
  obtain ⟨f_since, l'16, rfl, h'16⟩ := un_i_some.1 h'15
  obtain ⟨rfl, h'Z⟩ := un_nil_some.1 h'16
  obtain ⟨l', a', b'⟩ := out_some.1 h'Z
  exact ⟨l', (feed_Lost_Se f_got_k f_got_v f_lost_k f_lost_v f_closed f_r f_any f_now f_first f_newest f_count f_event f_eventAt f_eventN f_bytes f_since).trans a', b'⟩
theorem feed_Lost_c : FnC Go.Proofs.Tryz.prog 16 true 1 4 feed_Lost_in feed_Lost_out feed_Lost_S := by
  refine fn_ok (Λ := feed_Lost_Λ) mixed tab_ok g33 Go.Proofs.Tryz.func16 (by kernel_rfl) (body := fb Go.Proofs.Tryz.f16) rfl (ts := Go.Proofs.Tryz.f16.results.toList) rfl (cuts := []) (by kernel_rfl) (Nat.le_of_ble_eq_true (by kernel_rfl)) (by kernel_rfl) (rt := .w (.at (.int .i64))) rfl ?_ ?_
  · intro ls' r' h'
    unfold feed_Lost_S at h'
    obtain ⟨f_got_k, l'1, rfl, h'1⟩ := un_li_some.1 h'
    obtain ⟨f_got_v, l'2, rfl, h'2⟩ := un_li_some.1 h'1
    obtain ⟨f_lost_k, l'3, rfl, h'3⟩ := un_li_some.1 h'2
    obtain ⟨f_lost_v, l'4, rfl, h'4⟩ := un_lb_some.1 h'3
    obtain ⟨f_closed, l'5, rfl, h'5⟩ := un_li_some.1 h'4
    obtain ⟨f_r, l'6, rfl, h'6⟩ := un_i_some.1 h'5
    obtain ⟨f_any, l'7, rfl, h'7⟩ := un_b_some.1 h'6
    obtain ⟨f_now, l'8, rfl, h'8⟩ := un_i_some.1 h'7
    obtain ⟨f_first, l'9, rfl, h'9⟩ := un_i_some.1 h'8
    obtain ⟨f_newest, l'10, rfl, h'10⟩ := un_i_some.1 h'9
    obtain ⟨f_count, l'11, rfl, h'11⟩ := un_i_some.1 h'10
    obtain ⟨f_event, l'12, rfl, h'12⟩ := un_b_some.1 h'11
    obtain ⟨f_eventAt, l'13, rfl, h'13⟩ := un_i_some.1 h'12
    obtain ⟨f_eventN, l'14, rfl, h'14⟩ := un_i_some.1 h'13
    obtain ⟨f_bytes, l'15, rfl, h'15⟩ := un_i_some.1 h'14
    obtain ⟨f_since, l'16, rfl, h'16⟩ := un_i_some.1 h'15
    obtain ⟨rfl, h'Z⟩ := un_nil_some.1 h'16
    exact (feed_Lost_e f_got_k f_got_v f_lost_k f_lost_v f_closed f_r f_any f_now f_first f_newest f_count f_event f_eventAt f_eventN f_bytes f_since).symm.trans h'Z
  · intro E w0 ws ρ0 hk b hb
    rw [show loopsOf (fb Go.Proofs.Tryz.f16) = [] by kernel_rfl] at hb
    cases hb
noncomputable def G34 : Env := G33.addP 16 1 feed_Lost_in feed_Lost_out feed_Lost_SC
theorem g34 : EnvOk Go.Proofs.Tryz.prog G34 := EnvOk.addP g33 feed_Lost_c feed_Lost_says
end Go.Sx.T

