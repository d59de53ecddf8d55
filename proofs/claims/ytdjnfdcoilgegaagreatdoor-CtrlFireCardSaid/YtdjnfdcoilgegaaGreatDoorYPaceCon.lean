import Derived.Test.YtdjnfdcoilgegaaGreatDoorYPaceSpec
import Derived.Test.YtdjnfdcoilgegaaGreatDoorYFixCon
set_option linter.all false
namespace Go.Sx.T
open Go Go.Sx Go.Proofs
set_option maxRecDepth 100000

-- ### pace_New: function 30
def pace_New_in : Tm := ⟨[], [(0, .w (.at (.int .i64))), (1, .w (.at (.int .i64)))]⟩
def pace_New_out : Tm := ⟨[.cells 117 [.int .u64, .int .u64, .int .u64, .int .u64, .int .i64]], [(0, .w (.at (.ptr 0 0)))]⟩

def pace_New_Λd : Loops := Loops.none
def pace_New_Λ : Loops := pace_New_Λd 

theorem pace_New_e (s : Int) (tick : Int) : pace_New s tick = den G21 pace_New_Λ false tab Go.Proofs.Tryz.f30.ntmps (fun fr H => finish tab 0 Go.Proofs.Tryz.f30.results.toList pace_New_out [] fr H some) (fun _ _ _ => none) (fun fr H => finish tab 0 Go.Proofs.Tryz.f30.results.toList pace_New_out [] fr H some) 10000 [.code (fb Go.Proofs.Tryz.f30)] (instFr pace_New_in [.i s, .i tick]) (instH pace_New_in [.i s, .i tick]) := by kernel_rfl
def pace_New_S : List Leaf → Option (List Leaf) := fun ls => un_i ls fun s rr => un_i rr fun tick rr => un_nil rr (pace_New s tick)
def pace_New_SC : Tld := fun ls k' => un_i ls fun s rr => un_i rr fun tick rr => un_nil rr (out (pace_New s tick) k')
theorem pace_New_Se (s : Int) (tick : Int) : pace_New_S [.i s, .i tick] = pace_New s tick := by
  unfold pace_New_S
  simp only [un_i_ev, un_b_ev, un_s_ev, un_li_ev, un_lb_ev, un_ls_ev, un_nil_ev]
theorem pace_New_says : Says pace_New_SC pace_New_S := by
  intro β ls' k' r' h'
  unfold pace_New_SC at h'
  obtain ⟨s, l'1, rfl, h'1⟩ := un_i_some.1 h'
  obtain ⟨tick, l'2, rfl, h'2⟩ := un_i_some.1 h'1
  obtain ⟨rfl, h'Z⟩ := un_nil_some.1 h'2
  obtain ⟨l', a', b'⟩ := out_some.1 h'Z
  exact ⟨l', (pace_New_Se s tick).trans a', b'⟩
theorem pace_New_c : FnC Go.Proofs.Tryz.prog 30 false 2 0 pace_New_in pace_New_out pace_New_S := by
  refine fn_ok (Λ := pace_New_Λ) mixed tab_ok g21 Go.Proofs.Tryz.func30 (by kernel_rfl) (body := fb Go.Proofs.Tryz.f30) rfl (ts := Go.Proofs.Tryz.f30.results.toList) rfl (cuts := []) (by kernel_rfl) (Nat.le_of_ble_eq_true (by kernel_rfl)) (by kernel_rfl) (rt := .w (.at (.ptr 0 0))) rfl ?_ ?_
  · intro ls' r' h'
    unfold pace_New_S at h'
    obtain ⟨s, l'1, rfl, h'1⟩ := un_i_some.1 h'
    obtain ⟨tick, l'2, rfl, h'2⟩ := un_i_some.1 h'1
    obtain ⟨rfl, h'Z⟩ := un_nil_some.1 h'2
    exact (pace_New_e s tick).symm.trans h'Z
  · intro E w0 ws ρ0 hk b hb
    rw [show loopsOf (fb Go.Proofs.Tryz.f30) = [] by kernel_rfl] at hb
    cases hb
noncomputable def G22 : Env := G21.addE 30 2 pace_New_in pace_New_out pace_New_SC
theorem g22 : EnvOk Go.Proofs.Tryz.prog G22 := EnvOk.addE g21 pace_New_c pace_New_says

-- ### pace_Cap: function 57
def pace_Cap_in : Tm := ⟨[.cells 117 [.int .u64, .int .u64, .int .u64, .int .u64, .int .i64]], [(0, .w (.at (.ptr 0 0)))]⟩
def pace_Cap_out : Tm := ⟨[.dead], [(0, .w (.at (.int .u64)))]⟩

def pace_Cap_Λd : Loops := Loops.none
def pace_Cap_Λ : Loops := pace_Cap_Λd 

theorem pace_Cap_e (p_s : Int) (p_tick : Int) (p_has : Int) (p_rate : Int) (p_now : Int) : pace_Cap p_s p_tick p_has p_rate p_now = den G22 pace_Cap_Λ true tab Go.Proofs.Tryz.f57.ntmps (fun fr H => finish tab 1 Go.Proofs.Tryz.f57.results.toList pace_Cap_out [] fr H some) (fun _ _ _ => none) (fun fr H => finish tab 1 Go.Proofs.Tryz.f57.results.toList pace_Cap_out [] fr H some) 10000 [.code (fb Go.Proofs.Tryz.f57)] (instFr pace_Cap_in [.i p_s, .i p_tick, .i p_has, .i p_rate, .i p_now]) (instH pace_Cap_in [.i p_s, .i p_tick, .i p_has, .i p_rate, .i p_now]) := by kernel_rfl
def pace_Cap_S : List Leaf → Option (List Leaf) := fun ls => un_i ls fun p_s rr => un_i rr fun p_tick rr => un_i rr fun p_has rr => un_i rr fun p_rate rr => un_i rr fun p_now rr => un_nil rr (pace_Cap p_s p_tick p_has p_rate p_now)
def pace_Cap_SC : Tld := fun ls k' => un_i ls fun p_s rr => un_i rr fun p_tick rr => un_i rr fun p_has rr => un_i rr fun p_rate rr => un_i rr fun p_now rr => un_nil rr (out (pace_Cap p_s p_tick p_has p_rate p_now) k')
theorem pace_Cap_Se (p_s : Int) (p_tick : Int) (p_has : Int) (p_rate : Int) (p_now : Int) : pace_Cap_S [.i p_s, .i p_tick, .i p_has, .i p_rate, .i p_now] = pace_Cap p_s p_tick p_has p_rate p_now := by
  unfold pace_Cap_S
  simp only [un_i_ev, un_b_ev, un_s_ev, un_li_ev, un_lb_ev, un_ls_ev, un_nil_ev]
theorem pace_Cap_says : Says pace_Cap_SC pace_Cap_S := by
  intro β ls' k' r' h'
  unfold pace_Cap_SC at h'
  obtain ⟨p_s, l'1, rfl, h'1⟩ := un_i_some.1 h'
  obtain ⟨p_tick, l'2, rfl, h'2⟩ := un_i_some.1 h'1
  obtain ⟨p_has, l'3, rfl, h'3⟩ := un_i_some.1 h'2
  obtain ⟨p_rate, l'4, rfl, h'4⟩ := un_i_some.1 h'3
  obtain ⟨p_now, l'5, rfl, h'5⟩ := un_i_some.1 h'4
  obtain ⟨rfl, h'Z⟩ := un_nil_some.1 h'5
  obtain ⟨l', a', b'⟩ := out_some.1 h'Z
  exact ⟨l', (pace_Cap_Se p_s p_tick p_has p_rate p_now).trans a', b'⟩
theorem pace_Cap_c : FnC Go.Proofs.Tryz.prog 57 true 1 1 pace_Cap_in pace_Cap_out pace_Cap_S := by
  refine fn_ok (Λ := pace_Cap_Λ) mixed tab_ok g22 Go.Proofs.Tryz.func57 (by kernel_rfl) (body := fb Go.Proofs.Tryz.f57) rfl (ts := Go.Proofs.Tryz.f57.results.toList) rfl (cuts := []) (by kernel_rfl) (Nat.le_of_ble_eq_true (by kernel_rfl)) (by kernel_rfl) (rt := .w (.at (.int .u64))) rfl ?_ ?_
  · intro ls' r' h'
    unfold pace_Cap_S at h'
    obtain ⟨p_s, l'1, rfl, h'1⟩ := un_i_some.1 h'
    obtain ⟨p_tick, l'2, rfl, h'2⟩ := un_i_some.1 h'1
    obtain ⟨p_has, l'3, rfl, h'3⟩ := un_i_some.1 h'2
    obtain ⟨p_rate, l'4, rfl, h'4⟩ := un_i_some.1 h'3
    obtain ⟨p_now, l'5, rfl, h'5⟩ := un_i_some.1 h'4
    obtain ⟨rfl, h'Z⟩ := un_nil_some.1 h'5
    exact (pace_Cap_e p_s p_tick p_has p_rate p_now).symm.trans h'Z
  · intro E w0 ws ρ0 hk b hb
    rw [show loopsOf (fb Go.Proofs.Tryz.f57) = [] by kernel_rfl] at hb
    cases hb
noncomputable def G23 : Env := G22.addP 57 1 pace_Cap_in pace_Cap_out pace_Cap_SC
theorem g23 : EnvOk Go.Proofs.Tryz.prog G23 := EnvOk.addP g22 pace_Cap_c pace_Cap_says

-- ### pace_gets: function 56
def pace_gets_in : Tm := ⟨[.cells 117 [.int .u64, .int .u64, .int .u64, .int .u64, .int .i64]], [(0, .w (.at (.ptr 0 0))), (1, .w (.at (.int .i64)))]⟩
def pace_gets_out : Tm := ⟨[.cells 117 [.int .u64, .int .u64, .int .u64, .int .u64, .int .i64]], [(0, .tup [])]⟩

def pace_gets_Λd : Loops := Loops.none
def pace_gets_Λ : Loops := pace_gets_Λd 

theorem pace_gets_e (p_s : Int) (p_tick : Int) (p_has : Int) (p_rate : Int) (p_now : Int) (now : Int) : pace_gets p_s p_tick p_has p_rate p_now now = den G23 pace_gets_Λ false tab Go.Proofs.Tryz.f56.ntmps (fun fr H => finish tab 1 Go.Proofs.Tryz.f56.results.toList pace_gets_out [] fr H some) (fun _ _ _ => none) (fun fr H => finish tab 1 Go.Proofs.Tryz.f56.results.toList pace_gets_out [] fr H some) 10000 [.code (fb Go.Proofs.Tryz.f56)] (instFr pace_gets_in [.i p_s, .i p_tick, .i p_has, .i p_rate, .i p_now, .i now]) (instH pace_gets_in [.i p_s, .i p_tick, .i p_has, .i p_rate, .i p_now, .i now]) := by kernel_rfl
def pace_gets_S : List Leaf → Option (List Leaf) := fun ls => un_i ls fun p_s rr => un_i rr fun p_tick rr => un_i rr fun p_has rr => un_i rr fun p_rate rr => un_i rr fun p_now rr => un_i rr fun now rr => un_nil rr (pace_gets p_s p_tick p_has p_rate p_now now)
def pace_gets_SC : Tld := fun ls k' => un_i ls fun p_s rr => un_i rr fun p_tick rr => un_i rr fun p_has rr => un_i rr fun p_rate rr => un_i rr fun p_now rr => un_i rr fun now rr => un_nil rr (out (pace_gets p_s p_tick p_has p_rate p_now now) k')
theorem pace_gets_Se (p_s : Int) (p_tick : Int) (p_has : Int) (p_rate : Int) (p_now : Int) (now : Int) : pace_gets_S [.i p_s, .i p_tick, .i p_has, .i p_rate, .i p_now, .i now] = pace_gets p_s p_tick p_has p_rate p_now now := by
  unfold pace_gets_S
  simp only [un_i_ev, un_b_ev, un_s_ev, un_li_ev, un_lb_ev, un_ls_ev, un_nil_ev]
theorem pace_gets_says : Says pace_gets_SC pace_gets_S := by
  intro β ls' k' r' h'
  unfold pace_gets_SC at h'
  obtain ⟨p_s, l'1, rfl, h'1⟩ := un_i_some.1 h'
  obtain ⟨p_tick, l'2, rfl, h'2⟩ := un_i_some.1 h'1
  obtain ⟨p_has, l'3, rfl, h'3⟩ := un_i_some.1 h'2
  obtain ⟨p_rate, l'4, rfl, h'4⟩ := un_i_some.1 h'3
  obtain ⟨p_now, l'5, rfl, h'5⟩ := un_i_some.1 h'4
  obtain ⟨now, l'6, rfl, h'6⟩ := un_i_some.1 h'5
  obtain ⟨rfl, h'Z⟩ := un_nil_some.1 h'6
  obtain ⟨l', a', b'⟩ := out_some.1 h'Z
  exact ⟨l', (pace_gets_Se p_s p_tick p_has p_rate p_now now).trans a', b'⟩
theorem pace_gets_c : FnC Go.Proofs.Tryz.prog 56 false 2 1 pace_gets_in pace_gets_out pace_gets_S := by
  refine fn_ok (Λ := pace_gets_Λ) mixed tab_ok g23 Go.Proofs.Tryz.func56 (by kernel_rfl) (body := fb Go.Proofs.Tryz.f56) rfl (ts := Go.Proofs.Tryz.f56.results.toList) rfl (cuts := []) (by kernel_rfl) (Nat.le_of_ble_eq_true (by kernel_rfl)) (by kernel_rfl) (rt := .tup []) rfl ?_ ?_
  · intro ls' r' h'
    unfold pace_gets_S at h'
    obtain ⟨p_s, l'1, rfl, h'1⟩ := un_i_some.1 h'
    obtain ⟨p_tick, l'2, rfl, h'2⟩ := un_i_some.1 h'1
    obtain ⟨p_has, l'3, rfl, h'3⟩ := un_i_some.1 h'2
    obtain ⟨p_rate, l'4, rfl, h'4⟩ := un_i_some.1 h'3
    obtain ⟨p_now, l'5, rfl, h'5⟩ := un_i_some.1 h'4
    obtain ⟨now, l'6, rfl, h'6⟩ := un_i_some.1 h'5
    obtain ⟨rfl, h'Z⟩ := un_nil_some.1 h'6
    exact (pace_gets_e p_s p_tick p_has p_rate p_now now).symm.trans h'Z
  · intro E w0 ws ρ0 hk b hb
    rw [show loopsOf (fb Go.Proofs.Tryz.f56) = [] by kernel_rfl] at hb
    cases hb
noncomputable def G24 : Env := G23.addE 56 2 pace_gets_in pace_gets_out pace_gets_SC
theorem g24 : EnvOk Go.Proofs.Tryz.prog G24 := EnvOk.addE g23 pace_gets_c pace_gets_says

-- ### pace_Rate: function 32
def pace_Rate_in : Tm := ⟨[.cells 117 [.int .u64, .int .u64, .int .u64, .int .u64, .int .i64]], [(0, .w (.at (.ptr 0 0))), (1, .w (.at (.int .i64))), (2, .w (.at (.int .u64)))]⟩
def pace_Rate_out : Tm := ⟨[.cells 117 [.int .u64, .int .u64, .int .u64, .int .u64, .int .i64]], [(0, .tup [])]⟩

def pace_Rate_Λd : Loops := Loops.none
def pace_Rate_Λ : Loops := pace_Rate_Λd 

theorem pace_Rate_e (p_s : Int) (p_tick : Int) (p_has : Int) (p_rate : Int) (p_now : Int) (now : Int) (x : Int) : pace_Rate p_s p_tick p_has p_rate p_now now x = den G24 pace_Rate_Λ false tab Go.Proofs.Tryz.f32.ntmps (fun fr H => finish tab 1 Go.Proofs.Tryz.f32.results.toList pace_Rate_out [] fr H some) (fun _ _ _ => none) (fun fr H => finish tab 1 Go.Proofs.Tryz.f32.results.toList pace_Rate_out [] fr H some) 10000 [.code (fb Go.Proofs.Tryz.f32)] (instFr pace_Rate_in [.i p_s, .i p_tick, .i p_has, .i p_rate, .i p_now, .i now, .i x]) (instH pace_Rate_in [.i p_s, .i p_tick, .i p_has, .i p_rate, .i p_now, .i now, .i x]) := by kernel_rfl
def pace_Rate_S : List Leaf → Option (List Leaf) := fun ls => un_i ls fun p_s rr => un_i rr fun p_tick rr => un_i rr fun p_has rr => un_i rr fun p_rate rr => un_i rr fun p_now rr => un_i rr fun now rr => un_i rr fun x rr => un_nil rr (pace_Rate p_s p_tick p_has p_rate p_now now x)
def pace_Rate_SC : Tld := fun ls k' => un_i ls fun p_s rr => un_i rr fun p_tick rr => un_i rr fun p_has rr => un_i rr fun p_rate rr => un_i rr fun p_now rr => un_i rr fun now rr => un_i rr fun x rr => un_nil rr (out (pace_Rate p_s p_tick p_has p_rate p_now now x) k')
theorem pace_Rate_Se (p_s : Int) (p_tick : Int) (p_has : Int) (p_rate : Int) (p_now : Int) (now : Int) (x : Int) : pace_Rate_S [.i p_s, .i p_tick, .i p_has, .i p_rate, .i p_now, .i now, .i x] = pace_Rate p_s p_tick p_has p_rate p_now now x := by
  unfold pace_Rate_S
  simp only [un_i_ev, un_b_ev, un_s_ev, un_li_ev, un_lb_ev, un_ls_ev, un_nil_ev]
theorem pace_Rate_says : Says pace_Rate_SC pace_Rate_S := by
  intro β ls' k' r' h'
  unfold pace_Rate_SC at h'
  obtain ⟨p_s, l'1, rfl, h'1⟩ := un_i_some.1 h'
  obtain ⟨p_tick, l'2, rfl, h'2⟩ := un_i_some.1 h'1
  obtain ⟨p_has, l'3, rfl, h'3⟩ := un_i_some.1 h'2
  obtain ⟨p_rate, l'4, rfl, h'4⟩ := un_i_some.1 h'3
  obtain ⟨p_now, l'5, rfl, h'5⟩ := un_i_some.1 h'4
  obtain ⟨now, l'6, rfl, h'6⟩ := un_i_some.1 h'5
  obtain ⟨x, l'7, rfl, h'7⟩ := un_i_some.1 h'6
  obtain ⟨rfl, h'Z⟩ := un_nil_some.1 h'7
  obtain ⟨l', a', b'⟩ := out_some.1 h'Z
  exact ⟨l', (pace_Rate_Se p_s p_tick p_has p_rate p_now now x).trans a', b'⟩
theorem pace_Rate_c : FnC Go.Proofs.Tryz.prog 32 false 3 1 pace_Rate_in pace_Rate_out pace_Rate_S := by
  refine fn_ok (Λ := pace_Rate_Λ) mixed tab_ok g24 Go.Proofs.Tryz.func32 (by kernel_rfl) (body := fb Go.Proofs.Tryz.f32) rfl (ts := Go.Proofs.Tryz.f32.results.toList) rfl (cuts := []) (by kernel_rfl) (Nat.le_of_ble_eq_true (by kernel_rfl)) (by kernel_rfl) (rt := .tup []) rfl ?_ ?_
  · intro ls' r' h'
    unfold pace_Rate_S at h'
    obtain ⟨p_s, l'1, rfl, h'1⟩ := un_i_some.1 h'
    obtain ⟨p_tick, l'2, rfl, h'2⟩ := un_i_some.1 h'1
    obtain ⟨p_has, l'3, rfl, h'3⟩ := un_i_some.1 h'2
    obtain ⟨p_rate, l'4, rfl, h'4⟩ := un_i_some.1 h'3
    obtain ⟨p_now, l'5, rfl, h'5⟩ := un_i_some.1 h'4
    obtain ⟨now, l'6, rfl, h'6⟩ := un_i_some.1 h'5
    obtain ⟨x, l'7, rfl, h'7⟩ := un_i_some.1 h'6
    obtain ⟨rfl, h'Z⟩ := un_nil_some.1 h'7
    exact (pace_Rate_e p_s p_tick p_has p_rate p_now now x).symm.trans h'Z
  · intro E w0 ws ρ0 hk b hb
    rw [show loopsOf (fb Go.Proofs.Tryz.f32) = [] by kernel_rfl] at hb
    cases hb
noncomputable def G25 : Env := G24.addE 32 3 pace_Rate_in pace_Rate_out pace_Rate_SC
theorem g25 : EnvOk Go.Proofs.Tryz.prog G25 := EnvOk.addE g24 pace_Rate_c pace_Rate_says

-- ### pace_May: function 39
def pace_May_in : Tm := ⟨[.cells 117 [.int .u64, .int .u64, .int .u64, .int .u64, .int .i64]], [(0, .w (.at (.ptr 0 0))), (1, .w (.at (.int .i64))), (2, .w (.at (.int .i64)))]⟩
def pace_May_out : Tm := ⟨[.cells 117 [.int .u64, .int .u64, .int .u64, .int .u64, .int .i64]], [(0, .w (.at (.bool)))]⟩

def pace_May_Λd : Loops := Loops.none
def pace_May_Λ : Loops := pace_May_Λd 

theorem pace_May_e (p_s : Int) (p_tick : Int) (p_has : Int) (p_rate : Int) (p_now : Int) (now : Int) (n2 : Int) : pace_May p_s p_tick p_has p_rate p_now now n2 = den G25 pace_May_Λ false tab Go.Proofs.Tryz.f39.ntmps (fun fr H => finish tab 1 Go.Proofs.Tryz.f39.results.toList pace_May_out [] fr H some) (fun _ _ _ => none) (fun fr H => finish tab 1 Go.Proofs.Tryz.f39.results.toList pace_May_out [] fr H some) 10000 [.code (fb Go.Proofs.Tryz.f39)] (instFr pace_May_in [.i p_s, .i p_tick, .i p_has, .i p_rate, .i p_now, .i now, .i n2]) (instH pace_May_in [.i p_s, .i p_tick, .i p_has, .i p_rate, .i p_now, .i now, .i n2]) := by kernel_rfl
def pace_May_S : List Leaf → Option (List Leaf) := fun ls => un_i ls fun p_s rr => un_i rr fun p_tick rr => un_i rr fun p_has rr => un_i rr fun p_rate rr => un_i rr fun p_now rr => un_i rr fun now rr => un_i rr fun n2 rr => un_nil rr (pace_May p_s p_tick p_has p_rate p_now now n2)
def pace_May_SC : Tld := fun ls k' => un_i ls fun p_s rr => un_i rr fun p_tick rr => un_i rr fun p_has rr => un_i rr fun p_rate rr => un_i rr fun p_now rr => un_i rr fun now rr => un_i rr fun n2 rr => un_nil rr (out (pace_May p_s p_tick p_has p_rate p_now now n2) k')
theorem pace_May_Se (p_s : Int) (p_tick : Int) (p_has : Int) (p_rate : Int) (p_now : Int) (now : Int) (n2 : Int) : pace_May_S [.i p_s, .i p_tick, .i p_has, .i p_rate, .i p_now, .i now, .i n2] = pace_May p_s p_tick p_has p_rate p_now now n2 := by
  unfold pace_May_S
  simp only [un_i_ev, un_b_ev, un_s_ev, un_li_ev, un_lb_ev, un_ls_ev, un_nil_ev]
theorem pace_May_says : Says pace_May_SC pace_May_S := by
  intro β ls' k' r' h'
  unfold pace_May_SC at h'
  obtain ⟨p_s, l'1, rfl, h'1⟩ := un_i_some.1 h'
  obtain ⟨p_tick, l'2, rfl, h'2⟩ := un_i_some.1 h'1
  obtain ⟨p_has, l'3, rfl, h'3⟩ := un_i_some.1 h'2
  obtain ⟨p_rate, l'4, rfl, h'4⟩ := un_i_some.1 h'3
  obtain ⟨p_now, l'5, rfl, h'5⟩ := un_i_some.1 h'4
  obtain ⟨now, l'6, rfl, h'6⟩ := un_i_some.1 h'5
  obtain ⟨n2, l'7, rfl, h'7⟩ := un_i_some.1 h'6
  obtain ⟨rfl, h'Z⟩ := un_nil_some.1 h'7
  obtain ⟨l', a', b'⟩ := out_some.1 h'Z
  exact ⟨l', (pace_May_Se p_s p_tick p_has p_rate p_now now n2).trans a', b'⟩
theorem pace_May_c : FnC Go.Proofs.Tryz.prog 39 false 3 1 pace_May_in pace_May_out pace_May_S := by
  refine fn_ok (Λ := pace_May_Λ) mixed tab_ok g25 Go.Proofs.Tryz.func39 (by kernel_rfl) (body := fb Go.Proofs.Tryz.f39) rfl (ts := Go.Proofs.Tryz.f39.results.toList) rfl (cuts := []) (by kernel_rfl) (Nat.le_of_ble_eq_true (by kernel_rfl)) (by kernel_rfl) (rt := .w (.at (.bool))) rfl ?_ ?_
  · intro ls' r' h'
    unfold pace_May_S at h'
    obtain ⟨p_s, l'1, rfl, h'1⟩ := un_i_some.1 h'
    obtain ⟨p_tick, l'2, rfl, h'2⟩ := un_i_some.1 h'1
    obtain ⟨p_has, l'3, rfl, h'3⟩ := un_i_some.1 h'2
    obtain ⟨p_rate, l'4, rfl, h'4⟩ := un_i_some.1 h'3
    obtain ⟨p_now, l'5, rfl, h'5⟩ := un_i_some.1 h'4
    obtain ⟨now, l'6, rfl, h'6⟩ := un_i_some.1 h'5
    obtain ⟨n2, l'7, rfl, h'7⟩ := un_i_some.1 h'6
    obtain ⟨rfl, h'Z⟩ := un_nil_some.1 h'7
    exact (pace_May_e p_s p_tick p_has p_rate p_now now n2).symm.trans h'Z
  · intro E w0 ws ρ0 hk b hb
    rw [show loopsOf (fb Go.Proofs.Tryz.f39) = [] by kernel_rfl] at hb
    cases hb
noncomputable def G26 : Env := G25.addE 39 3 pace_May_in pace_May_out pace_May_SC
theorem g26 : EnvOk Go.Proofs.Tryz.prog G26 := EnvOk.addE g25 pace_May_c pace_May_says

-- ### pace_Take: function 261
def pace_Take_in : Tm := ⟨[.cells 117 [.int .u64, .int .u64, .int .u64, .int .u64, .int .i64]], [(0, .w (.at (.ptr 0 0))), (1, .w (.at (.int .i64))), (2, .w (.at (.int .i64)))]⟩
def pace_Take_out : Tm := ⟨[.cells 117 [.int .u64, .int .u64, .int .u64, .int .u64, .int .i64]], [(0, .w (.at (.bool)))]⟩

def pace_Take_Λd : Loops := Loops.none
def pace_Take_Λ : Loops := pace_Take_Λd 

theorem pace_Take_e (p_s : Int) (p_tick : Int) (p_has : Int) (p_rate : Int) (p_now : Int) (now : Int) (n2 : Int) : pace_Take p_s p_tick p_has p_rate p_now now n2 = den G26 pace_Take_Λ false tab Go.Proofs.Tryz.f261.ntmps (fun fr H => finish tab 1 Go.Proofs.Tryz.f261.results.toList pace_Take_out [] fr H some) (fun _ _ _ => none) (fun fr H => finish tab 1 Go.Proofs.Tryz.f261.results.toList pace_Take_out [] fr H some) 10000 [.code (fb Go.Proofs.Tryz.f261)] (instFr pace_Take_in [.i p_s, .i p_tick, .i p_has, .i p_rate, .i p_now, .i now, .i n2]) (instH pace_Take_in [.i p_s, .i p_tick, .i p_has, .i p_rate, .i p_now, .i now, .i n2]) := by kernel_rfl
def pace_Take_S : List Leaf → Option (List Leaf) := fun ls => un_i ls fun p_s rr => un_i rr fun p_tick rr => un_i rr fun p_has rr => un_i rr fun p_rate rr => un_i rr fun p_now rr => un_i rr fun now rr => un_i rr fun n2 rr => un_nil rr (pace_Take p_s p_tick p_has p_rate p_now now n2)
def pace_Take_SC : Tld := fun ls k' => un_i ls fun p_s rr => un_i rr fun p_tick rr => un_i rr fun p_has rr => un_i rr fun p_rate rr => un_i rr fun p_now rr => un_i rr fun now rr => un_i rr fun n2 rr => un_nil rr (out (pace_Take p_s p_tick p_has p_rate p_now now n2) k')
theorem pace_Take_Se (p_s : Int) (p_tick : Int) (p_has : Int) (p_rate : Int) (p_now : Int) (now : Int) (n2 : Int) : pace_Take_S [.i p_s, .i p_tick, .i p_has, .i p_rate, .i p_now, .i now, .i n2] = pace_Take p_s p_tick p_has p_rate p_now now n2 := by
  unfold pace_Take_S
  simp only [un_i_ev, un_b_ev, un_s_ev, un_li_ev, un_lb_ev, un_ls_ev, un_nil_ev]
theorem pace_Take_says : Says pace_Take_SC pace_Take_S := by
  intro β ls' k' r' h'
  unfold pace_Take_SC at h'
  obtain ⟨p_s, l'1, rfl, h'1⟩ := un_i_some.1 h'
  obtain ⟨p_tick, l'2, rfl, h'2⟩ := un_i_some.1 h'1
  obtain ⟨p_has, l'3, rfl, h'3⟩ := un_i_some.1 h'2
  obtain ⟨p_rate, l'4, rfl, h'4⟩ := un_i_some.1 h'3
  obtain ⟨p_now, l'5, rfl, h'5⟩ := un_i_some.1 h'4
  obtain ⟨now, l'6, rfl, h'6⟩ := un_i_some.1 h'5
  obtain ⟨n2, l'7, rfl, h'7⟩ := un_i_some.1 h'6
  obtain ⟨rfl, h'Z⟩ := un_nil_some.1 h'7
  obtain ⟨l', a', b'⟩ := out_some.1 h'Z
  exact ⟨l', (pace_Take_Se p_s p_tick p_has p_rate p_now now n2).trans a', b'⟩
theorem pace_Take_c : FnC Go.Proofs.Tryz.prog 261 false 3 1 pace_Take_in pace_Take_out pace_Take_S := by
  refine fn_ok (Λ := pace_Take_Λ) mixed tab_ok g26 Go.Proofs.Tryz.func261 (by kernel_rfl) (body := fb Go.Proofs.Tryz.f261) rfl (ts := Go.Proofs.Tryz.f261.results.toList) rfl (cuts := []) (by kernel_rfl) (Nat.le_of_ble_eq_true (by kernel_rfl)) (by kernel_rfl) (rt := .w (.at (.bool))) rfl ?_ ?_
  · intro ls' r' h'
    unfold pace_Take_S at h'
    obtain ⟨p_s, l'1, rfl, h'1⟩ := un_i_some.1 h'
    obtain ⟨p_tick, l'2, rfl, h'2⟩ := un_i_some.1 h'1
    obtain ⟨p_has, l'3, rfl, h'3⟩ := un_i_some.1 h'2
    obtain ⟨p_rate, l'4, rfl, h'4⟩ := un_i_some.1 h'3
    obtain ⟨p_now, l'5, rfl, h'5⟩ := un_i_some.1 h'4
    obtain ⟨now, l'6, rfl, h'6⟩ := un_i_some.1 h'5
    obtain ⟨n2, l'7, rfl, h'7⟩ := un_i_some.1 h'6
    obtain ⟨rfl, h'Z⟩ := un_nil_some.1 h'7
    exact (pace_Take_e p_s p_tick p_has p_rate p_now now n2).symm.trans h'Z
  · intro E w0 ws ρ0 hk b hb
    rw [show loopsOf (fb Go.Proofs.Tryz.f261) = [] by kernel_rfl] at hb
    cases hb
noncomputable def G27 : Env := G26.addE 261 3 pace_Take_in pace_Take_out pace_Take_SC
theorem g27 : EnvOk Go.Proofs.Tryz.prog G27 := EnvOk.addE g26 pace_Take_c pace_Take_says
end Go.Sx.T

