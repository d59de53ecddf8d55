import Derived.Test.YtllgbgponmkijaaGreatDoorYRPSpec
import Derived.Test.YtllgbgponmkijaaGreatDoorYPaceCon
set_option linter.all false
namespace Go.Sx.T
open Go Go.Sx Go.Proofs
set_option maxRecDepth 100000

-- ### rp_Cap: function 26
def rp_Cap_in : Tm := ⟨[.cells 28 [.int .u64, .int .u64, .int .u64, .int .u64, .int .i64]], [(0, .w (.at (.ptr 0 0)))]⟩
def rp_Cap_out : Tm := ⟨[.dead], [(0, .w (.at (.int .u64)))]⟩

def rp_Cap_Λd : Loops := Loops.none
def rp_Cap_Λ : Loops := rp_Cap_Λd 

theorem rp_Cap_e (p_S : Int) (p_X : Int) (p_Tick : Int) (p_Has : Int) (p_Now : Int) : rp_Cap p_S p_X p_Tick p_Has p_Now = den G26 rp_Cap_Λ true tab Go.Proofs.Tryz.f26.ntmps (fun fr H => finish tab 1 Go.Proofs.Tryz.f26.results.toList rp_Cap_out [] fr H some) (fun _ _ _ => none) (fun fr H => finish tab 1 Go.Proofs.Tryz.f26.results.toList rp_Cap_out [] fr H some) 10000 [.code (fb Go.Proofs.Tryz.f26)] (instFr rp_Cap_in [.i p_S, .i p_X, .i p_Tick, .i p_Has, .i p_Now]) (instH rp_Cap_in [.i p_S, .i p_X, .i p_Tick, .i p_Has, .i p_Now]) := by kernel_rfl
def rp_Cap_S : List Leaf → Option (List Leaf) := fun ls => un_i ls fun p_S rr => un_i rr fun p_X rr => un_i rr fun p_Tick rr => un_i rr fun p_Has rr => un_i rr fun p_Now rr => un_nil rr (rp_Cap p_S p_X p_Tick p_Has p_Now)
def rp_Cap_SC : Tld := fun ls k' => un_i ls fun p_S rr => un_i rr fun p_X rr => un_i rr fun p_Tick rr => un_i rr fun p_Has rr => un_i rr fun p_Now rr => un_nil rr (out (rp_Cap p_S p_X p_Tick p_Has p_Now) k')
theorem rp_Cap_Se (p_S : Int) (p_X : Int) (p_Tick : Int) (p_Has : Int) (p_Now : Int) : rp_Cap_S [.i p_S, .i p_X, .i p_Tick, .i p_Has, .i p_Now] = rp_Cap p_S p_X p_Tick p_Has p_Now := by
  unfold rp_Cap_S
  simp only [un_i_ev, un_b_ev, un_s_ev, un_li_ev, un_lb_ev, un_ls_ev, un_nil_ev]
theorem rp_Cap_says : Says rp_Cap_SC rp_Cap_S := by
  intro β ls' k' r' h'
  unfold rp_Cap_SC at h'
  obtain ⟨p_S, l'1, rfl, h'1⟩ := un_i_some.1 h'
  obtain ⟨p_X, l'2, rfl, h'2⟩ := un_i_some.1 h'1
  obtain ⟨p_Tick, l'3, rfl, h'3⟩ := un_i_some.1 h'2
  obtain ⟨p_Has, l'4, rfl, h'4⟩ := un_i_some.1 h'3
  obtain ⟨p_Now, l'5, rfl, h'5⟩ := un_i_some.1 h'4
  obtain ⟨rfl, h'Z⟩ := un_nil_some.1 h'5
  obtain ⟨l', a', b'⟩ := out_some.1 h'Z
  exact ⟨l', (rp_Cap_Se p_S p_X p_Tick p_Has p_Now).trans a', b'⟩
theorem rp_Cap_c : FnC Go.Proofs.Tryz.prog 26 true 1 1 rp_Cap_in rp_Cap_out rp_Cap_S := by
  refine fn_ok (Λ := rp_Cap_Λ) mixed tab_ok g26 Go.Proofs.Tryz.func26 (by kernel_rfl) (body := fb Go.Proofs.Tryz.f26) rfl (ts := Go.Proofs.Tryz.f26.results.toList) rfl (cuts := []) (by kernel_rfl) (Nat.le_of_ble_eq_true (by kernel_rfl)) (by kernel_rfl) (rt := .w (.at (.int .u64))) rfl ?_ ?_
  · intro ls' r' h'
    unfold rp_Cap_S at h'
    obtain ⟨p_S, l'1, rfl, h'1⟩ := un_i_some.1 h'
    obtain ⟨p_X, l'2, rfl, h'2⟩ := un_i_some.1 h'1
    obtain ⟨p_Tick, l'3, rfl, h'3⟩ := un_i_some.1 h'2
    obtain ⟨p_Has, l'4, rfl, h'4⟩ := un_i_some.1 h'3
    obtain ⟨p_Now, l'5, rfl, h'5⟩ := un_i_some.1 h'4
    obtain ⟨rfl, h'Z⟩ := un_nil_some.1 h'5
    exact (rp_Cap_e p_S p_X p_Tick p_Has p_Now).symm.trans h'Z
  · intro E w0 ws ρ0 hk b hb
    rw [show loopsOf (fb Go.Proofs.Tryz.f26) = [] by kernel_rfl] at hb
    cases hb
noncomputable def G27 : Env := G26.addP 26 1 rp_Cap_in rp_Cap_out rp_Cap_SC
theorem g27 : EnvOk Go.Proofs.Tryz.prog G27 := EnvOk.addP g26 rp_Cap_c rp_Cap_says

-- ### rp_To: function 58
def rp_To_in : Tm := ⟨[.cells 28 [.int .u64, .int .u64, .int .u64, .int .u64, .int .i64]], [(0, .w (.at (.ptr 0 0))), (1, .w (.at (.int .i64)))]⟩
def rp_To_out : Tm := ⟨[.cells 28 [.int .u64, .int .u64, .int .u64, .int .u64, .int .i64]], [(0, .tup [])]⟩

def rp_To_Λd : Loops := Loops.none
def rp_To_Λ : Loops := rp_To_Λd 

theorem rp_To_e (p_S : Int) (p_X : Int) (p_Tick : Int) (p_Has : Int) (p_Now : Int) (now : Int) : rp_To p_S p_X p_Tick p_Has p_Now now = den G27 rp_To_Λ false tab Go.Proofs.Tryz.f58.ntmps (fun fr H => finish tab 1 Go.Proofs.Tryz.f58.results.toList rp_To_out [] fr H some) (fun _ _ _ => none) (fun fr H => finish tab 1 Go.Proofs.Tryz.f58.results.toList rp_To_out [] fr H some) 10000 [.code (fb Go.Proofs.Tryz.f58)] (instFr rp_To_in [.i p_S, .i p_X, .i p_Tick, .i p_Has, .i p_Now, .i now]) (instH rp_To_in [.i p_S, .i p_X, .i p_Tick, .i p_Has, .i p_Now, .i now]) := by kernel_rfl
def rp_To_S : List Leaf → Option (List Leaf) := fun ls => un_i ls fun p_S rr => un_i rr fun p_X rr => un_i rr fun p_Tick rr => un_i rr fun p_Has rr => un_i rr fun p_Now rr => un_i rr fun now rr => un_nil rr (rp_To p_S p_X p_Tick p_Has p_Now now)
def rp_To_SC : Tld := fun ls k' => un_i ls fun p_S rr => un_i rr fun p_X rr => un_i rr fun p_Tick rr => un_i rr fun p_Has rr => un_i rr fun p_Now rr => un_i rr fun now rr => un_nil rr (out (rp_To p_S p_X p_Tick p_Has p_Now now) k')
theorem rp_To_Se (p_S : Int) (p_X : Int) (p_Tick : Int) (p_Has : Int) (p_Now : Int) (now : Int) : rp_To_S [.i p_S, .i p_X, .i p_Tick, .i p_Has, .i p_Now, .i now] = rp_To p_S p_X p_Tick p_Has p_Now now := by
  unfold rp_To_S
  simp only [un_i_ev, un_b_ev, un_s_ev, un_li_ev, un_lb_ev, un_ls_ev, un_nil_ev]
theorem rp_To_says : Says rp_To_SC rp_To_S := by
  intro β ls' k' r' h'
  unfold rp_To_SC at h'
  obtain ⟨p_S, l'1, rfl, h'1⟩ := un_i_some.1 h'
  obtain ⟨p_X, l'2, rfl, h'2⟩ := un_i_some.1 h'1
  obtain ⟨p_Tick, l'3, rfl, h'3⟩ := un_i_some.1 h'2
  obtain ⟨p_Has, l'4, rfl, h'4⟩ := un_i_some.1 h'3
  obtain ⟨p_Now, l'5, rfl, h'5⟩ := un_i_some.1 h'4
  obtain ⟨now, l'6, rfl, h'6⟩ := un_i_some.1 h'5
  obtain ⟨rfl, h'Z⟩ := un_nil_some.1 h'6
  obtain ⟨l', a', b'⟩ := out_some.1 h'Z
  exact ⟨l', (rp_To_Se p_S p_X p_Tick p_Has p_Now now).trans a', b'⟩
theorem rp_To_c : FnC Go.Proofs.Tryz.prog 58 false 2 1 rp_To_in rp_To_out rp_To_S := by
  refine fn_ok (Λ := rp_To_Λ) mixed tab_ok g27 Go.Proofs.Tryz.func58 (by kernel_rfl) (body := fb Go.Proofs.Tryz.f58) rfl (ts := Go.Proofs.Tryz.f58.results.toList) rfl (cuts := []) (by kernel_rfl) (Nat.le_of_ble_eq_true (by kernel_rfl)) (by kernel_rfl) (rt := .tup []) rfl ?_ ?_
  · intro ls' r' h'
    unfold rp_To_S at h'
    obtain ⟨p_S, l'1, rfl, h'1⟩ := un_i_some.1 h'
    obtain ⟨p_X, l'2, rfl, h'2⟩ := un_i_some.1 h'1
    obtain ⟨p_Tick, l'3, rfl, h'3⟩ := un_i_some.1 h'2
    obtain ⟨p_Has, l'4, rfl, h'4⟩ := un_i_some.1 h'3
    obtain ⟨p_Now, l'5, rfl, h'5⟩ := un_i_some.1 h'4
    obtain ⟨now, l'6, rfl, h'6⟩ := un_i_some.1 h'5
    obtain ⟨rfl, h'Z⟩ := un_nil_some.1 h'6
    exact (rp_To_e p_S p_X p_Tick p_Has p_Now now).symm.trans h'Z
  · intro E w0 ws ρ0 hk b hb
    rw [show loopsOf (fb Go.Proofs.Tryz.f58) = [] by kernel_rfl] at hb
    cases hb
noncomputable def G28 : Env := G27.addE 58 2 rp_To_in rp_To_out rp_To_SC
theorem g28 : EnvOk Go.Proofs.Tryz.prog G28 := EnvOk.addE g27 rp_To_c rp_To_says

-- ### rp_Rate: function 18
def rp_Rate_in : Tm := ⟨[.cells 28 [.int .u64, .int .u64, .int .u64, .int .u64, .int .i64]], [(0, .w (.at (.ptr 0 0))), (1, .w (.at (.int .i64))), (2, .w (.at (.int .u64)))]⟩
def rp_Rate_out : Tm := ⟨[.cells 28 [.int .u64, .int .u64, .int .u64, .int .u64, .int .i64]], [(0, .tup [])]⟩

def rp_Rate_Λd : Loops := Loops.none
def rp_Rate_Λ : Loops := rp_Rate_Λd 

theorem rp_Rate_e (p_S : Int) (p_X : Int) (p_Tick : Int) (p_Has : Int) (p_Now : Int) (now : Int) (x : Int) : rp_Rate p_S p_X p_Tick p_Has p_Now now x = den G28 rp_Rate_Λ false tab Go.Proofs.Tryz.f18.ntmps (fun fr H => finish tab 1 Go.Proofs.Tryz.f18.results.toList rp_Rate_out [] fr H some) (fun _ _ _ => none) (fun fr H => finish tab 1 Go.Proofs.Tryz.f18.results.toList rp_Rate_out [] fr H some) 10000 [.code (fb Go.Proofs.Tryz.f18)] (instFr rp_Rate_in [.i p_S, .i p_X, .i p_Tick, .i p_Has, .i p_Now, .i now, .i x]) (instH rp_Rate_in [.i p_S, .i p_X, .i p_Tick, .i p_Has, .i p_Now, .i now, .i x]) := by kernel_rfl
def rp_Rate_S : List Leaf → Option (List Leaf) := fun ls => un_i ls fun p_S rr => un_i rr fun p_X rr => un_i rr fun p_Tick rr => un_i rr fun p_Has rr => un_i rr fun p_Now rr => un_i rr fun now rr => un_i rr fun x rr => un_nil rr (rp_Rate p_S p_X p_Tick p_Has p_Now now x)
def rp_Rate_SC : Tld := fun ls k' => un_i ls fun p_S rr => un_i rr fun p_X rr => un_i rr fun p_Tick rr => un_i rr fun p_Has rr => un_i rr fun p_Now rr => un_i rr fun now rr => un_i rr fun x rr => un_nil rr (out (rp_Rate p_S p_X p_Tick p_Has p_Now now x) k')
theorem rp_Rate_Se (p_S : Int) (p_X : Int) (p_Tick : Int) (p_Has : Int) (p_Now : Int) (now : Int) (x : Int) : rp_Rate_S [.i p_S, .i p_X, .i p_Tick, .i p_Has, .i p_Now, .i now, .i x] = rp_Rate p_S p_X p_Tick p_Has p_Now now x := by
  unfold rp_Rate_S
  simp only [un_i_ev, un_b_ev, un_s_ev, un_li_ev, un_lb_ev, un_ls_ev, un_nil_ev]
theorem rp_Rate_says : Says rp_Rate_SC rp_Rate_S := by
  intro β ls' k' r' h'
  unfold rp_Rate_SC at h'
  obtain ⟨p_S, l'1, rfl, h'1⟩ := un_i_some.1 h'
  obtain ⟨p_X, l'2, rfl, h'2⟩ := un_i_some.1 h'1
  obtain ⟨p_Tick, l'3, rfl, h'3⟩ := un_i_some.1 h'2
  obtain ⟨p_Has, l'4, rfl, h'4⟩ := un_i_some.1 h'3
  obtain ⟨p_Now, l'5, rfl, h'5⟩ := un_i_some.1 h'4
  obtain ⟨now, l'6, rfl, h'6⟩ := un_i_some.1 h'5
  obtain ⟨x, l'7, rfl, h'7⟩ := un_i_some.1 h'6
  obtain ⟨rfl, h'Z⟩ := un_nil_some.1 h'7
  obtain ⟨l', a', b'⟩ := out_some.1 h'Z
  exact ⟨l', (rp_Rate_Se p_S p_X p_Tick p_Has p_Now now x).trans a', b'⟩
theorem rp_Rate_c : FnC Go.Proofs.Tryz.prog 18 false 3 1 rp_Rate_in rp_Rate_out rp_Rate_S := by
  refine fn_ok (Λ := rp_Rate_Λ) mixed tab_ok g28 Go.Proofs.Tryz.func18 (by kernel_rfl) (body := fb Go.Proofs.Tryz.f18) rfl (ts := Go.Proofs.Tryz.f18.results.toList) rfl (cuts := []) (by kernel_rfl) (Nat.le_of_ble_eq_true (by kernel_rfl)) (by kernel_rfl) (rt := .tup []) rfl ?_ ?_
  · intro ls' r' h'
    unfold rp_Rate_S at h'
    obtain ⟨p_S, l'1, rfl, h'1⟩ := un_i_some.1 h'
    obtain ⟨p_X, l'2, rfl, h'2⟩ := un_i_some.1 h'1
    obtain ⟨p_Tick, l'3, rfl, h'3⟩ := un_i_some.1 h'2
    obtain ⟨p_Has, l'4, rfl, h'4⟩ := un_i_some.1 h'3
    obtain ⟨p_Now, l'5, rfl, h'5⟩ := un_i_some.1 h'4
    obtain ⟨now, l'6, rfl, h'6⟩ := un_i_some.1 h'5
    obtain ⟨x, l'7, rfl, h'7⟩ := un_i_some.1 h'6
    obtain ⟨rfl, h'Z⟩ := un_nil_some.1 h'7
    exact (rp_Rate_e p_S p_X p_Tick p_Has p_Now now x).symm.trans h'Z
  · intro E w0 ws ρ0 hk b hb
    rw [show loopsOf (fb Go.Proofs.Tryz.f18) = [] by kernel_rfl] at hb
    cases hb
noncomputable def G29 : Env := G28.addE 18 3 rp_Rate_in rp_Rate_out rp_Rate_SC
theorem g29 : EnvOk Go.Proofs.Tryz.prog G29 := EnvOk.addE g28 rp_Rate_c rp_Rate_says

-- ### rp_Take: function 24
def rp_Take_in : Tm := ⟨[.cells 28 [.int .u64, .int .u64, .int .u64, .int .u64, .int .i64]], [(0, .w (.at (.ptr 0 0))), (1, .w (.at (.int .i64))), (2, .w (.at (.int .i64))), (3, .w (.at (.bool)))]⟩
def rp_Take_out : Tm := ⟨[.cells 28 [.int .u64, .int .u64, .int .u64, .int .u64, .int .i64]], [(0, .w (.at (.bool)))]⟩

def rp_Take_Λd : Loops := Loops.none
def rp_Take_Λ : Loops := rp_Take_Λd 

theorem rp_Take_e (p_S : Int) (p_X : Int) (p_Tick : Int) (p_Has : Int) (p_Now : Int) (now : Int) (n2 : Int) (take : Bool) : rp_Take p_S p_X p_Tick p_Has p_Now now n2 take = den G29 rp_Take_Λ false tab Go.Proofs.Tryz.f24.ntmps (fun fr H => finish tab 1 Go.Proofs.Tryz.f24.results.toList rp_Take_out [] fr H some) (fun _ _ _ => none) (fun fr H => finish tab 1 Go.Proofs.Tryz.f24.results.toList rp_Take_out [] fr H some) 10000 [.code (fb Go.Proofs.Tryz.f24)] (instFr rp_Take_in [.i p_S, .i p_X, .i p_Tick, .i p_Has, .i p_Now, .i now, .i n2, .b take]) (instH rp_Take_in [.i p_S, .i p_X, .i p_Tick, .i p_Has, .i p_Now, .i now, .i n2, .b take]) := by kernel_rfl
def rp_Take_S : List Leaf → Option (List Leaf) := fun ls => un_i ls fun p_S rr => un_i rr fun p_X rr => un_i rr fun p_Tick rr => un_i rr fun p_Has rr => un_i rr fun p_Now rr => un_i rr fun now rr => un_i rr fun n2 rr => un_b rr fun take rr => un_nil rr (rp_Take p_S p_X p_Tick p_Has p_Now now n2 take)
def rp_Take_SC : Tld := fun ls k' => un_i ls fun p_S rr => un_i rr fun p_X rr => un_i rr fun p_Tick rr => un_i rr fun p_Has rr => un_i rr fun p_Now rr => un_i rr fun now rr => un_i rr fun n2 rr => un_b rr fun take rr => un_nil rr (out (rp_Take p_S p_X p_Tick p_Has p_Now now n2 take) k')
theorem rp_Take_Se (p_S : Int) (p_X : Int) (p_Tick : Int) (p_Has : Int) (p_Now : Int) (now : Int) (n2 : Int) (take : Bool) : rp_Take_S [.i p_S, .i p_X, .i p_Tick, .i p_Has, .i p_Now, .i now, .i n2, .b take] = rp_Take p_S p_X p_Tick p_Has p_Now now n2 take := by
  unfold rp_Take_S
  simp only [un_i_ev, un_b_ev, un_s_ev, un_li_ev, un_lb_ev, un_ls_ev, un_nil_ev]
theorem rp_Take_says : Says rp_Take_SC rp_Take_S := by
  intro β ls' k' r' h'
  unfold rp_Take_SC at h'
  obtain ⟨p_S, l'1, rfl, h'1⟩ := un_i_some.1 h'
  obtain ⟨p_X, l'2, rfl, h'2⟩ := un_i_some.1 h'1
  obtain ⟨p_Tick, l'3, rfl, h'3⟩ := un_i_some.1 h'2
  obtain ⟨p_Has, l'4, rfl, h'4⟩ := un_i_some.1 h'3
  obtain ⟨p_Now, l'5, rfl, h'5⟩ := un_i_some.1 h'4
  obtain ⟨now, l'6, rfl, h'6⟩ := un_i_some.1 h'5
  obtain ⟨n2, l'7, rfl, h'7⟩ := un_i_some.1 h'6
  obtain ⟨take, l'8, rfl, h'8⟩ := un_b_some.1 h'7
  obtain ⟨rfl, h'Z⟩ := un_nil_some.1 h'8
  obtain ⟨l', a', b'⟩ := out_some.1 h'Z
  exact ⟨l', (rp_Take_Se p_S p_X p_Tick p_Has p_Now now n2 take).trans a', b'⟩
theorem rp_Take_c : FnC Go.Proofs.Tryz.prog 24 false 4 1 rp_Take_in rp_Take_out rp_Take_S := by
  refine fn_ok (Λ := rp_Take_Λ) mixed tab_ok g29 Go.Proofs.Tryz.func24 (by kernel_rfl) (body := fb Go.Proofs.Tryz.f24) rfl (ts := Go.Proofs.Tryz.f24.results.toList) rfl (cuts := []) (by kernel_rfl) (Nat.le_of_ble_eq_true (by kernel_rfl)) (by kernel_rfl) (rt := .w (.at (.bool))) rfl ?_ ?_
  · intro ls' r' h'
    unfold rp_Take_S at h'
    obtain ⟨p_S, l'1, rfl, h'1⟩ := un_i_some.1 h'
    obtain ⟨p_X, l'2, rfl, h'2⟩ := un_i_some.1 h'1
    obtain ⟨p_Tick, l'3, rfl, h'3⟩ := un_i_some.1 h'2
    obtain ⟨p_Has, l'4, rfl, h'4⟩ := un_i_some.1 h'3
    obtain ⟨p_Now, l'5, rfl, h'5⟩ := un_i_some.1 h'4
    obtain ⟨now, l'6, rfl, h'6⟩ := un_i_some.1 h'5
    obtain ⟨n2, l'7, rfl, h'7⟩ := un_i_some.1 h'6
    obtain ⟨take, l'8, rfl, h'8⟩ := un_b_some.1 h'7
    obtain ⟨rfl, h'Z⟩ := un_nil_some.1 h'8
    exact (rp_Take_e p_S p_X p_Tick p_Has p_Now now n2 take).symm.trans h'Z
  · intro E w0 ws ρ0 hk b hb
    rw [show loopsOf (fb Go.Proofs.Tryz.f24) = [] by kernel_rfl] at hb
    cases hb
noncomputable def G30 : Env := G29.addE 24 4 rp_Take_in rp_Take_out rp_Take_SC
theorem g30 : EnvOk Go.Proofs.Tryz.prog G30 := EnvOk.addE g29 rp_Take_c rp_Take_says

-- ### rp_When: function 25
def rp_When_in : Tm := ⟨[.cells 28 [.int .u64, .int .u64, .int .u64, .int .u64, .int .i64]], [(0, .w (.at (.ptr 0 0))), (1, .w (.at (.int .i64)))]⟩
def rp_When_out : Tm := ⟨[.dead], [(0, .w (.at (.int .i64)))]⟩

def rp_When_Λd : Loops := Loops.none
def rp_When_Λ : Loops := rp_When_Λd 

theorem rp_When_e (p_S : Int) (p_X : Int) (p_Tick : Int) (p_Has : Int) (p_Now : Int) (n2 : Int) : rp_When p_S p_X p_Tick p_Has p_Now n2 = den G30 rp_When_Λ true tab Go.Proofs.Tryz.f25.ntmps (fun fr H => finish tab 1 Go.Proofs.Tryz.f25.results.toList rp_When_out [] fr H some) (fun _ _ _ => none) (fun fr H => finish tab 1 Go.Proofs.Tryz.f25.results.toList rp_When_out [] fr H some) 10000 [.code (fb Go.Proofs.Tryz.f25)] (instFr rp_When_in [.i p_S, .i p_X, .i p_Tick, .i p_Has, .i p_Now, .i n2]) (instH rp_When_in [.i p_S, .i p_X, .i p_Tick, .i p_Has, .i p_Now, .i n2]) := by kernel_rfl
def rp_When_S : List Leaf → Option (List Leaf) := fun ls => un_i ls fun p_S rr => un_i rr fun p_X rr => un_i rr fun p_Tick rr => un_i rr fun p_Has rr => un_i rr fun p_Now rr => un_i rr fun n2 rr => un_nil rr (rp_When p_S p_X p_Tick p_Has p_Now n2)
def rp_When_SC : Tld := fun ls k' => un_i ls fun p_S rr => un_i rr fun p_X rr => un_i rr fun p_Tick rr => un_i rr fun p_Has rr => un_i rr fun p_Now rr => un_i rr fun n2 rr => un_nil rr (out (rp_When p_S p_X p_Tick p_Has p_Now n2) k')
theorem rp_When_Se (p_S : Int) (p_X : Int) (p_Tick : Int) (p_Has : Int) (p_Now : Int) (n2 : Int) : rp_When_S [.i p_S, .i p_X, .i p_Tick, .i p_Has, .i p_Now, .i n2] = rp_When p_S p_X p_Tick p_Has p_Now n2 := by
  unfold rp_When_S
  simp only [un_i_ev, un_b_ev, un_s_ev, un_li_ev, un_lb_ev, un_ls_ev, un_nil_ev]
theorem rp_When_says : Says rp_When_SC rp_When_S := by
  intro β ls' k' r' h'
  unfold rp_When_SC at h'
  obtain ⟨p_S, l'1, rfl, h'1⟩ := un_i_some.1 h'
  obtain ⟨p_X, l'2, rfl, h'2⟩ := un_i_some.1 h'1
  obtain ⟨p_Tick, l'3, rfl, h'3⟩ := un_i_some.1 h'2
  obtain ⟨p_Has, l'4, rfl, h'4⟩ := un_i_some.1 h'3
  obtain ⟨p_Now, l'5, rfl, h'5⟩ := un_i_some.1 h'4
  obtain ⟨n2, l'6, rfl, h'6⟩ := un_i_some.1 h'5
  obtain ⟨rfl, h'Z⟩ := un_nil_some.1 h'6
  obtain ⟨l', a', b'⟩ := out_some.1 h'Z
  exact ⟨l', (rp_When_Se p_S p_X p_Tick p_Has p_Now n2).trans a', b'⟩
theorem rp_When_c : FnC Go.Proofs.Tryz.prog 25 true 2 1 rp_When_in rp_When_out rp_When_S := by
  refine fn_ok (Λ := rp_When_Λ) mixed tab_ok g30 Go.Proofs.Tryz.func25 (by kernel_rfl) (body := fb Go.Proofs.Tryz.f25) rfl (ts := Go.Proofs.Tryz.f25.results.toList) rfl (cuts := []) (by kernel_rfl) (Nat.le_of_ble_eq_true (by kernel_rfl)) (by kernel_rfl) (rt := .w (.at (.int .i64))) rfl ?_ ?_
  · intro ls' r' h'
    unfold rp_When_S at h'
    obtain ⟨p_S, l'1, rfl, h'1⟩ := un_i_some.1 h'
    obtain ⟨p_X, l'2, rfl, h'2⟩ := un_i_some.1 h'1
    obtain ⟨p_Tick, l'3, rfl, h'3⟩ := un_i_some.1 h'2
    obtain ⟨p_Has, l'4, rfl, h'4⟩ := un_i_some.1 h'3
    obtain ⟨p_Now, l'5, rfl, h'5⟩ := un_i_some.1 h'4
    obtain ⟨n2, l'6, rfl, h'6⟩ := un_i_some.1 h'5
    obtain ⟨rfl, h'Z⟩ := un_nil_some.1 h'6
    exact (rp_When_e p_S p_X p_Tick p_Has p_Now n2).symm.trans h'Z
  · intro E w0 ws ρ0 hk b hb
    rw [show loopsOf (fb Go.Proofs.Tryz.f25) = [] by kernel_rfl] at hb
    cases hb
noncomputable def G31 : Env := G30.addP 25 2 rp_When_in rp_When_out rp_When_SC
theorem g31 : EnvOk Go.Proofs.Tryz.prog G31 := EnvOk.addP g30 rp_When_c rp_When_says
end Go.Sx.T

