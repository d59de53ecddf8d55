import Derived.Test.YtdjnfdcoilgegaaGreatDoorYNegoSpec
import Derived.Test.YtdjnfdcoilgegaaGreatDoorYFeatCon
set_option linter.all false
namespace Go.Sx.T
open Go Go.Sx Go.Proofs
set_option maxRecDepth 100000

-- ### nego_features: function 43
def nego_features_in : Tm := ⟨[], []⟩
def nego_features_out : Tm := ⟨[.row 3 1 [.int .i64]], [(0, .w (.at (.all 0 1)))]⟩

def nego_features_Λd : Loops := Loops.none
def nego_features_Λ : Loops := nego_features_Λd 

theorem nego_features_e  : nego_features  = den G22 nego_features_Λ false tab Go.Proofs.Tryz.f43.ntmps (fun fr H => finish tab 0 Go.Proofs.Tryz.f43.results.toList nego_features_out [] fr H some) (fun _ _ _ => none) (fun fr H => finish tab 0 Go.Proofs.Tryz.f43.results.toList nego_features_out [] fr H some) 10000 [.code (fb Go.Proofs.Tryz.f43)] (instFr nego_features_in []) (instH nego_features_in []) := by kernel_rfl
def nego_features_S : List Leaf → Option (List Leaf) := fun ls => un_nil ls (nego_features )
def nego_features_SC : Tld := fun ls k' => un_nil ls (out (nego_features ) k')
theorem nego_features_Se  : nego_features_S [] = nego_features  := by
  unfold nego_features_S
  simp only [un_i_ev, un_b_ev, un_s_ev, un_li_ev, un_lb_ev, un_ls_ev, un_nil_ev]
theorem nego_features_says : Says nego_features_SC nego_features_S := by
  intro β ls' k' r' h'
  unfold nego_features_SC at h'
  obtain ⟨rfl, h'Z⟩ := un_nil_some.1 h'
  obtain ⟨l', a', b'⟩ := out_some.1 h'Z
  exact ⟨l', (nego_features_Se ).trans a', b'⟩
theorem nego_features_c : FnC Go.Proofs.Tryz.prog 43 false 0 0 nego_features_in nego_features_out nego_features_S := by
  refine fn_ok (Λ := nego_features_Λ) mixed tab_ok g22 Go.Proofs.Tryz.func43 (by kernel_rfl) (body := fb Go.Proofs.Tryz.f43) rfl (ts := Go.Proofs.Tryz.f43.results.toList) rfl (cuts := []) (by kernel_rfl) (Nat.le_of_ble_eq_true (by kernel_rfl)) (by kernel_rfl) (rt := .w (.at (.all 0 1))) rfl ?_ ?_
  · intro ls' r' h'
    unfold nego_features_S at h'
    obtain ⟨rfl, h'Z⟩ := un_nil_some.1 h'
    exact (nego_features_e ).symm.trans h'Z
  · intro E w0 ws ρ0 hk b hb
    rw [show loopsOf (fb Go.Proofs.Tryz.f43) = [] by kernel_rfl] at hb
    cases hb
noncomputable def G23 : Env := G22.addE 43 0 nego_features_in nego_features_out nego_features_SC
theorem g23 : EnvOk Go.Proofs.Tryz.prog G23 := EnvOk.addE g22 nego_features_c nego_features_says

-- ### nego_look: function 45
def nego_look_in : Tm := ⟨[.cells 102 [.bool, .map 1, .map 2, .map 3, .map 4, .all 5 2], .map .i64 (.str), .map .i64 (.str), .map .i64 (.str), .map .i64 (.str), .row 49 2 [.int .i64, .str]], [(0, .w (.at (.ptr 0 0))), (1, .w (.at (.int .i64))), (2, .w (.at (.str)))]⟩
def nego_look_out : Tm := ⟨[.dead, .dead, .dead, .dead, .dead, .dead], [(0, .w (.at (.int .i64)))]⟩

def nego_look_Λd : Loops := Loops.none
def nego_look_Λ : Loops := nego_look_Λd 

theorem nego_look_e (n_want_k : List Int) (n_want_v : List ByteArray) (n_like_k : List Int) (n_like_v : List ByteArray) (n_mine_k : List Int) (n_mine_v : List ByteArray) (n_theirs_k : List Int) (n_theirs_v : List ByteArray) (n_due0 : List Int) (n_due1 : List ByteArray) (n_server : Bool) (f : Int) (v : ByteArray) : nego_look n_want_k n_want_v n_like_k n_like_v n_mine_k n_mine_v n_theirs_k n_theirs_v n_due0 n_due1 n_server f v = den G23 nego_look_Λ true tab Go.Proofs.Tryz.f45.ntmps (fun fr H => finish tab 6 Go.Proofs.Tryz.f45.results.toList nego_look_out [] fr H some) (fun _ _ _ => none) (fun fr H => finish tab 6 Go.Proofs.Tryz.f45.results.toList nego_look_out [] fr H some) 10000 [.code (fb Go.Proofs.Tryz.f45)] (instFr nego_look_in [.li n_want_k, .ls n_want_v, .li n_like_k, .ls n_like_v, .li n_mine_k, .ls n_mine_v, .li n_theirs_k, .ls n_theirs_v, .li n_due0, .ls n_due1, .b n_server, .i f, .s v]) (instH nego_look_in [.li n_want_k, .ls n_want_v, .li n_like_k, .ls n_like_v, .li n_mine_k, .ls n_mine_v, .li n_theirs_k, .ls n_theirs_v, .li n_due0, .ls n_due1, .b n_server, .i f, .s v]) := by kernel_rfl
def nego_look_S : List Leaf → Option (List Leaf) := fun ls => un_li ls fun n_want_k rr => un_ls rr fun n_want_v rr => un_li rr fun n_like_k rr => un_ls rr fun n_like_v rr => un_li rr fun n_mine_k rr => un_ls rr fun n_mine_v rr => un_li rr fun n_theirs_k rr => un_ls rr fun n_theirs_v rr => un_li rr fun n_due0 rr => un_ls rr fun n_due1 rr => un_b rr fun n_server rr => un_i rr fun f rr => un_s rr fun v rr => un_nil rr (nego_look n_want_k n_want_v n_like_k n_like_v n_mine_k n_mine_v n_theirs_k n_theirs_v n_due0 n_due1 n_server f v)
def nego_look_SC : Tld := fun ls k' => un_li ls fun n_want_k rr => un_ls rr fun n_want_v rr => un_li rr fun n_like_k rr => un_ls rr fun n_like_v rr => un_li rr fun n_mine_k rr => un_ls rr fun n_mine_v rr => un_li rr fun n_theirs_k rr => un_ls rr fun n_theirs_v rr => un_li rr fun n_due0 rr => un_ls rr fun n_due1 rr => un_b rr fun n_server rr => un_i rr fun f rr => un_s rr fun v rr => un_nil rr (out (nego_look n_want_k n_want_v n_like_k n_like_v n_mine_k n_mine_v n_theirs_k n_theirs_v n_due0 n_due1 n_server f v) k')
theorem nego_look_Se (n_want_k : List Int) (n_want_v : List ByteArray) (n_like_k : List Int) (n_like_v : List ByteArray) (n_mine_k : List Int) (n_mine_v : List ByteArray) (n_theirs_k : List Int) (n_theirs_v : List ByteArray) (n_due0 : List Int) (n_due1 : List ByteArray) (n_server : Bool) (f : Int) (v : ByteArray) : nego_look_S [.li n_want_k, .ls n_want_v, .li n_like_k, .ls n_like_v, .li n_mine_k, .ls n_mine_v, .li n_theirs_k, .ls n_theirs_v, .li n_due0, .ls n_due1, .b n_server, .i f, .s v] = nego_look n_want_k n_want_v n_like_k n_like_v n_mine_k n_mine_v n_theirs_k n_theirs_v n_due0 n_due1 n_server f v := by
  unfold nego_look_S
  simp only [un_i_ev, un_b_ev, un_s_ev, un_li_ev, un_lb_ev, un_ls_ev, un_nil_ev]
theorem nego_look_says : Says nego_look_SC nego_look_S := by
  intro β ls' k' r' h'
  unfold nego_look_SC at h'
  obtain ⟨n_want_k, l'1, rfl, h'1⟩ := un_li_some.1 h'
  obtain ⟨n_want_v, l'2, rfl, h'2⟩ := un_ls_some.1 h'1
  obtain ⟨n_like_k, l'3, rfl, h'3⟩ := un_li_some.1 h'2
  obtain ⟨n_like_v, l'4, rfl, h'4⟩ := un_ls_some.1 h'3
  obtain ⟨n_mine_k, l'5, rfl, h'5⟩ := un_li_some.1 h'4
  obtain ⟨n_mine_v, l'6, rfl, h'6⟩ := un_ls_some.1 h'5
  obtain ⟨n_theirs_k, l'7, rfl, h'7⟩ := un_li_some.1 h'6
  obtain ⟨n_theirs_v, l'8, rfl, h'8⟩ := un_ls_some.1 h'7
  obtain ⟨n_due0, l'9, rfl, h'9⟩ := un_li_some.1 h'8
  obtain ⟨n_due1, l'10, rfl, h'10⟩ := un_ls_some.1 h'9
  obtain ⟨n_server, l'11, rfl, h'11⟩ := un_b_some.1 h'10
  obtain ⟨f, l'12, rfl, h'12⟩ := un_i_some.1 h'11
  obtain ⟨v, l'13, rfl, h'13⟩ := un_s_some.1 h'12
  obtain ⟨rfl, h'Z⟩ := un_nil_some.1 h'13
  obtain ⟨l', a', b'⟩ := out_some.1 h'Z
  exact ⟨l', (nego_look_Se n_want_k n_want_v n_like_k n_like_v n_mine_k n_mine_v n_theirs_k n_theirs_v n_due0 n_due1 n_server f v).trans a', b'⟩
theorem nego_look_c : FnC Go.Proofs.Tryz.prog 45 true 3 6 nego_look_in nego_look_out nego_look_S := by
  refine fn_ok (Λ := nego_look_Λ) mixed tab_ok g23 Go.Proofs.Tryz.func45 (by kernel_rfl) (body := fb Go.Proofs.Tryz.f45) rfl (ts := Go.Proofs.Tryz.f45.results.toList) rfl (cuts := []) (by kernel_rfl) (Nat.le_of_ble_eq_true (by kernel_rfl)) (by kernel_rfl) (rt := .w (.at (.int .i64))) rfl ?_ ?_
  · intro ls' r' h'
    unfold nego_look_S at h'
    obtain ⟨n_want_k, l'1, rfl, h'1⟩ := un_li_some.1 h'
    obtain ⟨n_want_v, l'2, rfl, h'2⟩ := un_ls_some.1 h'1
    obtain ⟨n_like_k, l'3, rfl, h'3⟩ := un_li_some.1 h'2
    obtain ⟨n_like_v, l'4, rfl, h'4⟩ := un_ls_some.1 h'3
    obtain ⟨n_mine_k, l'5, rfl, h'5⟩ := un_li_some.1 h'4
    obtain ⟨n_mine_v, l'6, rfl, h'6⟩ := un_ls_some.1 h'5
    obtain ⟨n_theirs_k, l'7, rfl, h'7⟩ := un_li_some.1 h'6
    obtain ⟨n_theirs_v, l'8, rfl, h'8⟩ := un_ls_some.1 h'7
    obtain ⟨n_due0, l'9, rfl, h'9⟩ := un_li_some.1 h'8
    obtain ⟨n_due1, l'10, rfl, h'10⟩ := un_ls_some.1 h'9
    obtain ⟨n_server, l'11, rfl, h'11⟩ := un_b_some.1 h'10
    obtain ⟨f, l'12, rfl, h'12⟩ := un_i_some.1 h'11
    obtain ⟨v, l'13, rfl, h'13⟩ := un_s_some.1 h'12
    obtain ⟨rfl, h'Z⟩ := un_nil_some.1 h'13
    exact (nego_look_e n_want_k n_want_v n_like_k n_like_v n_mine_k n_mine_v n_theirs_k n_theirs_v n_due0 n_due1 n_server f v).symm.trans h'Z
  · intro E w0 ws ρ0 hk b hb
    rw [show loopsOf (fb Go.Proofs.Tryz.f45) = [] by kernel_rfl] at hb
    cases hb
noncomputable def G24 : Env := G23.addP 45 3 nego_look_in nego_look_out nego_look_SC
theorem g24 : EnvOk Go.Proofs.Tryz.prog G24 := EnvOk.addP g23 nego_look_c nego_look_says

-- ### nego_Want: function 17
def nego_Want_in : Tm := ⟨[.cells 102 [.bool, .map 1, .map 2, .map 3, .map 4, .all 5 2], .map .i64 (.str), .map .i64 (.str), .map .i64 (.str), .map .i64 (.str), .row 49 2 [.int .i64, .str]], [(0, .w (.at (.ptr 0 0))), (1, .w (.at (.int .i64))), (2, .w (.at (.str)))]⟩
def nego_Want_out : Tm := ⟨[.cells 102 [.bool, .map 1, .map 2, .map 3, .map 4, .all 6 2], .map .i64 (.str), .map .i64 (.str), .map .i64 (.str), .map .i64 (.str), .dead, .row 49 2 [.int .i64, .str]], [(0, .w (.at (.int .i64)))]⟩

def nego_Want_Λd : Loops := Loops.none
def nego_Want_Λ : Loops := nego_Want_Λd 

theorem nego_Want_e (n_want_k : List Int) (n_want_v : List ByteArray) (n_like_k : List Int) (n_like_v : List ByteArray) (n_mine_k : List Int) (n_mine_v : List ByteArray) (n_theirs_k : List Int) (n_theirs_v : List ByteArray) (n_due0 : List Int) (n_due1 : List ByteArray) (n_server : Bool) (f : Int) (v : ByteArray) : nego_Want n_want_k n_want_v n_like_k n_like_v n_mine_k n_mine_v n_theirs_k n_theirs_v n_due0 n_due1 n_server f v = den G24 nego_Want_Λ false tab Go.Proofs.Tryz.f17.ntmps (fun fr H => finish tab 6 Go.Proofs.Tryz.f17.results.toList nego_Want_out [] fr H some) (fun _ _ _ => none) (fun fr H => finish tab 6 Go.Proofs.Tryz.f17.results.toList nego_Want_out [] fr H some) 10000 [.code (fb Go.Proofs.Tryz.f17)] (instFr nego_Want_in [.li n_want_k, .ls n_want_v, .li n_like_k, .ls n_like_v, .li n_mine_k, .ls n_mine_v, .li n_theirs_k, .ls n_theirs_v, .li n_due0, .ls n_due1, .b n_server, .i f, .s v]) (instH nego_Want_in [.li n_want_k, .ls n_want_v, .li n_like_k, .ls n_like_v, .li n_mine_k, .ls n_mine_v, .li n_theirs_k, .ls n_theirs_v, .li n_due0, .ls n_due1, .b n_server, .i f, .s v]) := by kernel_rfl
def nego_Want_S : List Leaf → Option (List Leaf) := fun ls => un_li ls fun n_want_k rr => un_ls rr fun n_want_v rr => un_li rr fun n_like_k rr => un_ls rr fun n_like_v rr => un_li rr fun n_mine_k rr => un_ls rr fun n_mine_v rr => un_li rr fun n_theirs_k rr => un_ls rr fun n_theirs_v rr => un_li rr fun n_due0 rr => un_ls rr fun n_due1 rr => un_b rr fun n_server rr => un_i rr fun f rr => un_s rr fun v rr => un_nil rr (nego_Want n_want_k n_want_v n_like_k n_like_v n_mine_k n_mine_v n_theirs_k n_theirs_v n_due0 n_due1 n_server f v)
def nego_Want_SC : Tld := fun ls k' => un_li ls fun n_want_k rr => un_ls rr fun n_want_v rr => un_li rr fun n_like_k rr => un_ls rr fun n_like_v rr => un_li rr fun n_mine_k rr => un_ls rr fun n_mine_v rr => un_li rr fun n_theirs_k rr => un_ls rr fun n_theirs_v rr => un_li rr fun n_due0 rr => un_ls rr fun n_due1 rr => un_b rr fun n_server rr => un_i rr fun f rr => un_s rr fun v rr => un_nil rr (out (nego_Want n_want_k n_want_v n_like_k n_like_v n_mine_k n_mine_v n_theirs_k n_theirs_v n_due0 n_due1 n_server f v) k')
theorem nego_Want_Se (n_want_k : List Int) (n_want_v : List ByteArray) (n_like_k : List Int) (n_like_v : List ByteArray) (n_mine_k : List Int) (n_mine_v : List ByteArray) (n_theirs_k : List Int) (n_theirs_v : List ByteArray) (n_due0 : List Int) (n_due1 : List ByteArray) (n_server : Bool) (f : Int) (v : ByteArray) : nego_Want_S [.li n_want_k, .ls n_want_v, .li n_like_k, .ls n_like_v, .li n_mine_k, .ls n_mine_v, .li n_theirs_k, .ls n_theirs_v, .li n_due0, .ls n_due1, .b n_server, .i f, .s v] = nego_Want n_want_k n_want_v n_like_k n_like_v n_mine_k n_mine_v n_theirs_k n_theirs_v n_due0 n_due1 n_server f v := by
  unfold nego_Want_S
  simp only [un_i_ev, un_b_ev, un_s_ev, un_li_ev, un_lb_ev, un_ls_ev, un_nil_ev]
theorem nego_Want_says : Says nego_Want_SC nego_Want_S := by
  intro β ls' k' r' h'
  unfold nego_Want_SC at h'
  obtain ⟨n_want_k, l'1, rfl, h'1⟩ := un_li_some.1 h'
  obtain ⟨n_want_v, l'2, rfl, h'2⟩ := un_ls_some.1 h'1
  obtain ⟨n_like_k, l'3, rfl, h'3⟩ := un_li_some.1 h'2
  obtain ⟨n_like_v, l'4, rfl, h'4⟩ := un_ls_some.1 h'3
  obtain ⟨n_mine_k, l'5, rfl, h'5⟩ := un_li_some.1 h'4
  obtain ⟨n_mine_v, l'6, rfl, h'6⟩ := un_ls_some.1 h'5
  obtain ⟨n_theirs_k, l'7, rfl, h'7⟩ := un_li_some.1 h'6
  obtain ⟨n_theirs_v, l'8, rfl, h'8⟩ := un_ls_some.1 h'7
  obtain ⟨n_due0, l'9, rfl, h'9⟩ := un_li_some.1 h'8
  obtain ⟨n_due1, l'10, rfl, h'10⟩ := un_ls_some.1 h'9
  obtain ⟨n_server, l'11, rfl, h'11⟩ := un_b_some.1 h'10
  obtain ⟨f, l'12, rfl, h'12⟩ := un_i_some.1 h'11
  obtain ⟨v, l'13, rfl, h'13⟩ := un_s_some.1 h'12
  obtain ⟨rfl, h'Z⟩ := un_nil_some.1 h'13
  obtain ⟨l', a', b'⟩ := out_some.1 h'Z
  exact ⟨l', (nego_Want_Se n_want_k n_want_v n_like_k n_like_v n_mine_k n_mine_v n_theirs_k n_theirs_v n_due0 n_due1 n_server f v).trans a', b'⟩
theorem nego_Want_c : FnC Go.Proofs.Tryz.prog 17 false 3 6 nego_Want_in nego_Want_out nego_Want_S := by
  refine fn_ok (Λ := nego_Want_Λ) mixed tab_ok g24 Go.Proofs.Tryz.func17 (by kernel_rfl) (body := fb Go.Proofs.Tryz.f17) rfl (ts := Go.Proofs.Tryz.f17.results.toList) rfl (cuts := []) (by kernel_rfl) (Nat.le_of_ble_eq_true (by kernel_rfl)) (by kernel_rfl) (rt := .w (.at (.int .i64))) rfl ?_ ?_
  · intro ls' r' h'
    unfold nego_Want_S at h'
    obtain ⟨n_want_k, l'1, rfl, h'1⟩ := un_li_some.1 h'
    obtain ⟨n_want_v, l'2, rfl, h'2⟩ := un_ls_some.1 h'1
    obtain ⟨n_like_k, l'3, rfl, h'3⟩ := un_li_some.1 h'2
    obtain ⟨n_like_v, l'4, rfl, h'4⟩ := un_ls_some.1 h'3
    obtain ⟨n_mine_k, l'5, rfl, h'5⟩ := un_li_some.1 h'4
    obtain ⟨n_mine_v, l'6, rfl, h'6⟩ := un_ls_some.1 h'5
    obtain ⟨n_theirs_k, l'7, rfl, h'7⟩ := un_li_some.1 h'6
    obtain ⟨n_theirs_v, l'8, rfl, h'8⟩ := un_ls_some.1 h'7
    obtain ⟨n_due0, l'9, rfl, h'9⟩ := un_li_some.1 h'8
    obtain ⟨n_due1, l'10, rfl, h'10⟩ := un_ls_some.1 h'9
    obtain ⟨n_server, l'11, rfl, h'11⟩ := un_b_some.1 h'10
    obtain ⟨f, l'12, rfl, h'12⟩ := un_i_some.1 h'11
    obtain ⟨v, l'13, rfl, h'13⟩ := un_s_some.1 h'12
    obtain ⟨rfl, h'Z⟩ := un_nil_some.1 h'13
    exact (nego_Want_e n_want_k n_want_v n_like_k n_like_v n_mine_k n_mine_v n_theirs_k n_theirs_v n_due0 n_due1 n_server f v).symm.trans h'Z
  · intro E w0 ws ρ0 hk b hb
    rw [show loopsOf (fb Go.Proofs.Tryz.f17) = [] by kernel_rfl] at hb
    cases hb
noncomputable def G25 : Env := G24.addE 17 3 nego_Want_in nego_Want_out nego_Want_SC
theorem g25 : EnvOk Go.Proofs.Tryz.prog G25 := EnvOk.addE g24 nego_Want_c nego_Want_says

-- ### nego_Like: function 28
def nego_Like_in : Tm := ⟨[.cells 102 [.bool, .map 1, .map 2, .map 3, .map 4, .all 5 2], .map .i64 (.str), .map .i64 (.str), .map .i64 (.str), .map .i64 (.str), .row 49 2 [.int .i64, .str]], [(0, .w (.at (.ptr 0 0))), (1, .w (.at (.int .i64))), (2, .w (.at (.str)))]⟩
def nego_Like_out : Tm := ⟨[.cells 102 [.bool, .map 1, .map 2, .map 3, .map 4, .all 6 2], .map .i64 (.str), .map .i64 (.str), .map .i64 (.str), .map .i64 (.str), .dead, .row 49 2 [.int .i64, .str]], [(0, .w (.at (.int .i64)))]⟩

def nego_Like_Λd : Loops := Loops.none
def nego_Like_Λ : Loops := nego_Like_Λd 

theorem nego_Like_e (n_want_k : List Int) (n_want_v : List ByteArray) (n_like_k : List Int) (n_like_v : List ByteArray) (n_mine_k : List Int) (n_mine_v : List ByteArray) (n_theirs_k : List Int) (n_theirs_v : List ByteArray) (n_due0 : List Int) (n_due1 : List ByteArray) (n_server : Bool) (f : Int) (v : ByteArray) : nego_Like n_want_k n_want_v n_like_k n_like_v n_mine_k n_mine_v n_theirs_k n_theirs_v n_due0 n_due1 n_server f v = den G25 nego_Like_Λ false tab Go.Proofs.Tryz.f28.ntmps (fun fr H => finish tab 6 Go.Proofs.Tryz.f28.results.toList nego_Like_out [] fr H some) (fun _ _ _ => none) (fun fr H => finish tab 6 Go.Proofs.Tryz.f28.results.toList nego_Like_out [] fr H some) 10000 [.code (fb Go.Proofs.Tryz.f28)] (instFr nego_Like_in [.li n_want_k, .ls n_want_v, .li n_like_k, .ls n_like_v, .li n_mine_k, .ls n_mine_v, .li n_theirs_k, .ls n_theirs_v, .li n_due0, .ls n_due1, .b n_server, .i f, .s v]) (instH nego_Like_in [.li n_want_k, .ls n_want_v, .li n_like_k, .ls n_like_v, .li n_mine_k, .ls n_mine_v, .li n_theirs_k, .ls n_theirs_v, .li n_due0, .ls n_due1, .b n_server, .i f, .s v]) := by kernel_rfl
def nego_Like_S : List Leaf → Option (List Leaf) := fun ls => un_li ls fun n_want_k rr => un_ls rr fun n_want_v rr => un_li rr fun n_like_k rr => un_ls rr fun n_like_v rr => un_li rr fun n_mine_k rr => un_ls rr fun n_mine_v rr => un_li rr fun n_theirs_k rr => un_ls rr fun n_theirs_v rr => un_li rr fun n_due0 rr => un_ls rr fun n_due1 rr => un_b rr fun n_server rr => un_i rr fun f rr => un_s rr fun v rr => un_nil rr (nego_Like n_want_k n_want_v n_like_k n_like_v n_mine_k n_mine_v n_theirs_k n_theirs_v n_due0 n_due1 n_server f v)
def nego_Like_SC : Tld := fun ls k' => un_li ls fun n_want_k rr => un_ls rr fun n_want_v rr => un_li rr fun n_like_k rr => un_ls rr fun n_like_v rr => un_li rr fun n_mine_k rr => un_ls rr fun n_mine_v rr => un_li rr fun n_theirs_k rr => un_ls rr fun n_theirs_v rr => un_li rr fun n_due0 rr => un_ls rr fun n_due1 rr => un_b rr fun n_server rr => un_i rr fun f rr => un_s rr fun v rr => un_nil rr (out (nego_Like n_want_k n_want_v n_like_k n_like_v n_mine_k n_mine_v n_theirs_k n_theirs_v n_due0 n_due1 n_server f v) k')
theorem nego_Like_Se (n_want_k : List Int) (n_want_v : List ByteArray) (n_like_k : List Int) (n_like_v : List ByteArray) (n_mine_k : List Int) (n_mine_v : List ByteArray) (n_theirs_k : List Int) (n_theirs_v : List ByteArray) (n_due0 : List Int) (n_due1 : List ByteArray) (n_server : Bool) (f : Int) (v : ByteArray) : nego_Like_S [.li n_want_k, .ls n_want_v, .li n_like_k, .ls n_like_v, .li n_mine_k, .ls n_mine_v, .li n_theirs_k, .ls n_theirs_v, .li n_due0, .ls n_due1, .b n_server, .i f, .s v] = nego_Like n_want_k n_want_v n_like_k n_like_v n_mine_k n_mine_v n_theirs_k n_theirs_v n_due0 n_due1 n_server f v := by
  unfold nego_Like_S
  simp only [un_i_ev, un_b_ev, un_s_ev, un_li_ev, un_lb_ev, un_ls_ev, un_nil_ev]
theorem nego_Like_says : Says nego_Like_SC nego_Like_S := by
  intro β ls' k' r' h'
  unfold nego_Like_SC at h'
  obtain ⟨n_want_k, l'1, rfl, h'1⟩ := un_li_some.1 h'
  obtain ⟨n_want_v, l'2, rfl, h'2⟩ := un_ls_some.1 h'1
  obtain ⟨n_like_k, l'3, rfl, h'3⟩ := un_li_some.1 h'2
  obtain ⟨n_like_v, l'4, rfl, h'4⟩ := un_ls_some.1 h'3
  obtain ⟨n_mine_k, l'5, rfl, h'5⟩ := un_li_some.1 h'4
  obtain ⟨n_mine_v, l'6, rfl, h'6⟩ := un_ls_some.1 h'5
  obtain ⟨n_theirs_k, l'7, rfl, h'7⟩ := un_li_some.1 h'6
  obtain ⟨n_theirs_v, l'8, rfl, h'8⟩ := un_ls_some.1 h'7
  obtain ⟨n_due0, l'9, rfl, h'9⟩ := un_li_some.1 h'8
  obtain ⟨n_due1, l'10, rfl, h'10⟩ := un_ls_some.1 h'9
  obtain ⟨n_server, l'11, rfl, h'11⟩ := un_b_some.1 h'10
  obtain ⟨f, l'12, rfl, h'12⟩ := un_i_some.1 h'11
  obtain ⟨v, l'13, rfl, h'13⟩ := un_s_some.1 h'12
  obtain ⟨rfl, h'Z⟩ := un_nil_some.1 h'13
  obtain ⟨l', a', b'⟩ := out_some.1 h'Z
  exact ⟨l', (nego_Like_Se n_want_k n_want_v n_like_k n_like_v n_mine_k n_mine_v n_theirs_k n_theirs_v n_due0 n_due1 n_server f v).trans a', b'⟩
theorem nego_Like_c : FnC Go.Proofs.Tryz.prog 28 false 3 6 nego_Like_in nego_Like_out nego_Like_S := by
  refine fn_ok (Λ := nego_Like_Λ) mixed tab_ok g25 Go.Proofs.Tryz.func28 (by kernel_rfl) (body := fb Go.Proofs.Tryz.f28) rfl (ts := Go.Proofs.Tryz.f28.results.toList) rfl (cuts := []) (by kernel_rfl) (Nat.le_of_ble_eq_true (by kernel_rfl)) (by kernel_rfl) (rt := .w (.at (.int .i64))) rfl ?_ ?_
  · intro ls' r' h'
    unfold nego_Like_S at h'
    obtain ⟨n_want_k, l'1, rfl, h'1⟩ := un_li_some.1 h'
    obtain ⟨n_want_v, l'2, rfl, h'2⟩ := un_ls_some.1 h'1
    obtain ⟨n_like_k, l'3, rfl, h'3⟩ := un_li_some.1 h'2
    obtain ⟨n_like_v, l'4, rfl, h'4⟩ := un_ls_some.1 h'3
    obtain ⟨n_mine_k, l'5, rfl, h'5⟩ := un_li_some.1 h'4
    obtain ⟨n_mine_v, l'6, rfl, h'6⟩ := un_ls_some.1 h'5
    obtain ⟨n_theirs_k, l'7, rfl, h'7⟩ := un_li_some.1 h'6
    obtain ⟨n_theirs_v, l'8, rfl, h'8⟩ := un_ls_some.1 h'7
    obtain ⟨n_due0, l'9, rfl, h'9⟩ := un_li_some.1 h'8
    obtain ⟨n_due1, l'10, rfl, h'10⟩ := un_ls_some.1 h'9
    obtain ⟨n_server, l'11, rfl, h'11⟩ := un_b_some.1 h'10
    obtain ⟨f, l'12, rfl, h'12⟩ := un_i_some.1 h'11
    obtain ⟨v, l'13, rfl, h'13⟩ := un_s_some.1 h'12
    obtain ⟨rfl, h'Z⟩ := un_nil_some.1 h'13
    exact (nego_Like_e n_want_k n_want_v n_like_k n_like_v n_mine_k n_mine_v n_theirs_k n_theirs_v n_due0 n_due1 n_server f v).symm.trans h'Z
  · intro E w0 ws ρ0 hk b hb
    rw [show loopsOf (fb Go.Proofs.Tryz.f28) = [] by kernel_rfl] at hb
    cases hb
noncomputable def G26 : Env := G25.addE 28 3 nego_Like_in nego_Like_out nego_Like_SC
theorem g26 : EnvOk Go.Proofs.Tryz.prog G26 := EnvOk.addE g25 nego_Like_c nego_Like_says

-- ### nego_option: function 47
def nego_option_in : Tm := ⟨[], [(0, .w (.at (.int .i64))), (1, .w (.at (.int .i64))), (2, .w (.at (.str)))]⟩
def nego_option_out : Tm := ⟨[], [(0, .w (.agg [.int .i64, .str]))]⟩

def nego_option_Λd : Loops := Loops.none
def nego_option_Λ : Loops := nego_option_Λd 

theorem nego_option_e (t : Int) (f : Int) (v : ByteArray) : nego_option t f v = den G26 nego_option_Λ false tab Go.Proofs.Tryz.f47.ntmps (fun fr H => finish tab 0 Go.Proofs.Tryz.f47.results.toList nego_option_out [] fr H some) (fun _ _ _ => none) (fun fr H => finish tab 0 Go.Proofs.Tryz.f47.results.toList nego_option_out [] fr H some) 10000 [.code (fb Go.Proofs.Tryz.f47)] (instFr nego_option_in [.i t, .i f, .s v]) (instH nego_option_in [.i t, .i f, .s v]) := by kernel_rfl
def nego_option_S : List Leaf → Option (List Leaf) := fun ls => un_i ls fun t rr => un_i rr fun f rr => un_s rr fun v rr => un_nil rr (nego_option t f v)
def nego_option_SC : Tld := fun ls k' => un_i ls fun t rr => un_i rr fun f rr => un_s rr fun v rr => un_nil rr (out (nego_option t f v) k')
theorem nego_option_Se (t : Int) (f : Int) (v : ByteArray) : nego_option_S [.i t, .i f, .s v] = nego_option t f v := by
  unfold nego_option_S
  simp only [un_i_ev, un_b_ev, un_s_ev, un_li_ev, un_lb_ev, un_ls_ev, un_nil_ev]
theorem nego_option_says : Says nego_option_SC nego_option_S := by
  intro β ls' k' r' h'
  unfold nego_option_SC at h'
  obtain ⟨t, l'1, rfl, h'1⟩ := un_i_some.1 h'
  obtain ⟨f, l'2, rfl, h'2⟩ := un_i_some.1 h'1
  obtain ⟨v, l'3, rfl, h'3⟩ := un_s_some.1 h'2
  obtain ⟨rfl, h'Z⟩ := un_nil_some.1 h'3
  obtain ⟨l', a', b'⟩ := out_some.1 h'Z
  exact ⟨l', (nego_option_Se t f v).trans a', b'⟩
theorem nego_option_c : FnC Go.Proofs.Tryz.prog 47 false 3 0 nego_option_in nego_option_out nego_option_S := by
  refine fn_ok (Λ := nego_option_Λ) mixed tab_ok g26 Go.Proofs.Tryz.func47 (by kernel_rfl) (body := fb Go.Proofs.Tryz.f47) rfl (ts := Go.Proofs.Tryz.f47.results.toList) rfl (cuts := []) (by kernel_rfl) (Nat.le_of_ble_eq_true (by kernel_rfl)) (by kernel_rfl) (rt := .w (.agg [.int .i64, .str])) rfl ?_ ?_
  · intro ls' r' h'
    unfold nego_option_S at h'
    obtain ⟨t, l'1, rfl, h'1⟩ := un_i_some.1 h'
    obtain ⟨f, l'2, rfl, h'2⟩ := un_i_some.1 h'1
    obtain ⟨v, l'3, rfl, h'3⟩ := un_s_some.1 h'2
    obtain ⟨rfl, h'Z⟩ := un_nil_some.1 h'3
    exact (nego_option_e t f v).symm.trans h'Z
  · intro E w0 ws ρ0 hk b hb
    rw [show loopsOf (fb Go.Proofs.Tryz.f47) = [] by kernel_rfl] at hb
    cases hb
noncomputable def G27 : Env := G26.addE 47 3 nego_option_in nego_option_out nego_option_SC
theorem g27 : EnvOk Go.Proofs.Tryz.prog G27 := EnvOk.addE g26 nego_option_c nego_option_says

-- ### nego_Opts: function 19
def nego_Opts_in : Tm := ⟨[.cells 102 [.bool, .map 1, .map 2, .map 3, .map 4, .all 5 2], .map .i64 (.str), .map .i64 (.str), .map .i64 (.str), .map .i64 (.str), .row 49 2 [.int .i64, .str]], [(0, .w (.at (.ptr 0 0)))]⟩
def nego_Opts_out : Tm := ⟨[.cells 102 [.bool, .map 1, .map 2, .map 3, .map 4, .all 6 2], .map .i64 (.str), .map .i64 (.str), .map .i64 (.str), .map .i64 (.str), .dead, .row 49 2 [.int .i64, .str], .row 49 2 [.int .i64, .str]], [(0, .w (.at (.all 7 2)))]⟩
def nego_Opts_6_T' : Tm := ⟨[.cells 102 [.bool, .map 1, .map 2, .map 3, .map 4, .all 6 2], .map .i64 (.str), .map .i64 (.str), .map .i64 (.str), .map .i64 (.str), .dead, .row 49 2 [.int .i64, .str], .row 49 2 [.int .i64, .str], .row 3 1 [.int .i64]], [(19, .w (.at (.int .i64))), (3, .w (.at (.all 7 2))), (0, .w (.at (.ptr 0 0))), (17, .w (.at (.all 8 1))), (18, .w (.at (.int .i64)))]⟩
def nego_Opts_6_X0 : Tm := ⟨[.cells 102 [.bool, .map 1, .map 2, .map 3, .map 4, .all 6 2], .map .i64 (.str), .map .i64 (.str), .map .i64 (.str), .map .i64 (.str), .dead, .row 49 2 [.int .i64, .str], .row 49 2 [.int .i64, .str]], [(3, .w (.at (.all 7 2)))]⟩
def nego_Opts_6_X : Exits := [(0, (nego_Opts_6_X0, []))]
def nego_Opts_6_R : Tm := ⟨[], []⟩

def nego_Opts_Λd (L6 : ({β : Type} → (Nat → List Leaf → Option β) → (List Leaf → Option β) → Nat → List Int → List ByteArray → List Int → List ByteArray → List Int → List ByteArray → List Int → List ByteArray → List Int → List ByteArray → List Int → List ByteArray → List Int → Bool → Int → Int → Option β)) : Loops := ⟨fun b fr H kx kr => bif Nat.beq (rid b) 6 then loopE 6 nego_Opts_6_T' [] nego_Opts_6_X nego_Opts_6_R (nego_Opts_6_F @L6 top) fr H kx kr else none⟩
def nego_Opts_Λ : Loops := nego_Opts_Λd @nego_Opts_6_L
theorem nego_Opts_6_e (L6 : ({β : Type} → (Nat → List Leaf → Option β) → (List Leaf → Option β) → Nat → List Int → List ByteArray → List Int → List ByteArray → List Int → List ByteArray → List Int → List ByteArray → List Int → List ByteArray → List Int → List ByteArray → List Int → Bool → Int → Int → Option β)) {α : Type} (kx : Nat → List Leaf → Option α) (kr : List Leaf → Option α) (again : List Int → List ByteArray → List Int → List ByteArray → List Int → List ByteArray → List Int → List ByteArray → List Int → List ByteArray → List Int → List ByteArray → List Int → Bool → Int → Int → Option α) (n_want_k : List Int) (n_want_v : List ByteArray) (n_like_k : List Int) (n_like_v : List ByteArray) (n_mine_k : List Int) (n_mine_v : List ByteArray) (n_theirs_k : List Int) (n_theirs_v : List ByteArray) (n_due0 : List Int) (n_due1 : List ByteArray) (out0 : List Int) (out1 : List ByteArray) (t17 : List Int) (n_server : Bool) (t19 : Int) (t18 : Int) : nego_Opts_6_B  kx kr again n_want_k n_want_v n_like_k n_like_v n_mine_k n_mine_v n_theirs_k n_theirs_v n_due0 n_due1 out0 out1 t17 n_server t19 t18 = loopB G27 (nego_Opts_Λd @L6) false tab Go.Proofs.Tryz.f19.ntmps 6 nego_Opts_6_T' [] nego_Opts_6_X nego_Opts_6_R (bodyAt (fb Go.Proofs.Tryz.f19) 0) (fun ls => un_li ls fun n_want_k rr => un_ls rr fun n_want_v rr => un_li rr fun n_like_k rr => un_ls rr fun n_like_v rr => un_li rr fun n_mine_k rr => un_ls rr fun n_mine_v rr => un_li rr fun n_theirs_k rr => un_ls rr fun n_theirs_v rr => un_li rr fun n_due0 rr => un_ls rr fun n_due1 rr => un_li rr fun out0 rr => un_ls rr fun out1 rr => un_li rr fun t17 rr => un_b rr fun n_server rr => un_i rr fun t19 rr => un_i rr fun t18 rr => un_nil rr (again n_want_k n_want_v n_like_k n_like_v n_mine_k n_mine_v n_theirs_k n_theirs_v n_due0 n_due1 out0 out1 t17 n_server t19 t18)) kx kr (instFr nego_Opts_6_T' [.li n_want_k, .ls n_want_v, .li n_like_k, .ls n_like_v, .li n_mine_k, .ls n_mine_v, .li n_theirs_k, .ls n_theirs_v, .li n_due0, .ls n_due1, .li out0, .ls out1, .li t17, .b n_server, .i t19, .i t18]) (instH nego_Opts_6_T' [.li n_want_k, .ls n_want_v, .li n_like_k, .ls n_like_v, .li n_mine_k, .ls n_mine_v, .li n_theirs_k, .ls n_theirs_v, .li n_due0, .ls n_due1, .li out0, .ls out1, .li t17, .b n_server, .i t19, .i t18]) := by kernel_rfl
theorem nego_Opts_6_lok (E : Nat → Prop) (w0 ws : World) (ρ0 : List Pl) (hk : ρ0.length = 6) : LOk Go.Proofs.Tryz.prog 19 Go.Proofs.Tryz.f19 false E w0 ws Go.Proofs.Tryz.f19.ntmps ρ0 nego_Opts_Λ (bodyAt (fb Go.Proofs.Tryz.f19) 0) := by
  refine lok mixed tab_ok g27 Go.Proofs.Tryz.func19 hk (T := nego_Opts_6_T') (rt := nego_Opts_6_R) (cuts := []) (ex := nego_Opts_6_X) (top := top) (F := nego_Opts_6_F @nego_Opts_6_L) (fun fr H kx kr => by kernel_rfl) ?_ ?_ ?_
  · intro α ls' kx' kr' r' h'
    unfold nego_Opts_6_F at h'
    obtain ⟨n_want_k, l'1, rfl, h'1⟩ := un_li_some.1 h'
    obtain ⟨n_want_v, l'2, rfl, h'2⟩ := un_ls_some.1 h'1
    obtain ⟨n_like_k, l'3, rfl, h'3⟩ := un_li_some.1 h'2
    obtain ⟨n_like_v, l'4, rfl, h'4⟩ := un_ls_some.1 h'3
    obtain ⟨n_mine_k, l'5, rfl, h'5⟩ := un_li_some.1 h'4
    obtain ⟨n_mine_v, l'6, rfl, h'6⟩ := un_ls_some.1 h'5
    obtain ⟨n_theirs_k, l'7, rfl, h'7⟩ := un_li_some.1 h'6
    obtain ⟨n_theirs_v, l'8, rfl, h'8⟩ := un_ls_some.1 h'7
    obtain ⟨n_due0, l'9, rfl, h'9⟩ := un_li_some.1 h'8
    obtain ⟨n_due1, l'10, rfl, h'10⟩ := un_ls_some.1 h'9
    obtain ⟨out0, l'11, rfl, h'11⟩ := un_li_some.1 h'10
    obtain ⟨out1, l'12, rfl, h'12⟩ := un_ls_some.1 h'11
    obtain ⟨t17, l'13, rfl, h'13⟩ := un_li_some.1 h'12
    obtain ⟨n_server, l'14, rfl, h'14⟩ := un_b_some.1 h'13
    obtain ⟨t19, l'15, rfl, h'15⟩ := un_i_some.1 h'14
    obtain ⟨t18, l'16, rfl, h'16⟩ := un_i_some.1 h'15
    obtain ⟨rfl, h'Z⟩ := un_nil_some.1 h'16
    cases h'Z
  · intro α n' ls' kx' kr' r' h'
    unfold nego_Opts_6_F at h'
    obtain ⟨n_want_k, l'1, rfl, h'1⟩ := un_li_some.1 h'
    obtain ⟨n_want_v, l'2, rfl, h'2⟩ := un_ls_some.1 h'1
    obtain ⟨n_like_k, l'3, rfl, h'3⟩ := un_li_some.1 h'2
    obtain ⟨n_like_v, l'4, rfl, h'4⟩ := un_ls_some.1 h'3
    obtain ⟨n_mine_k, l'5, rfl, h'5⟩ := un_li_some.1 h'4
    obtain ⟨n_mine_v, l'6, rfl, h'6⟩ := un_ls_some.1 h'5
    obtain ⟨n_theirs_k, l'7, rfl, h'7⟩ := un_li_some.1 h'6
    obtain ⟨n_theirs_v, l'8, rfl, h'8⟩ := un_ls_some.1 h'7
    obtain ⟨n_due0, l'9, rfl, h'9⟩ := un_li_some.1 h'8
    obtain ⟨n_due1, l'10, rfl, h'10⟩ := un_ls_some.1 h'9
    obtain ⟨out0, l'11, rfl, h'11⟩ := un_li_some.1 h'10
    obtain ⟨out1, l'12, rfl, h'12⟩ := un_ls_some.1 h'11
    obtain ⟨t17, l'13, rfl, h'13⟩ := un_li_some.1 h'12
    obtain ⟨n_server, l'14, rfl, h'14⟩ := un_b_some.1 h'13
    obtain ⟨t19, l'15, rfl, h'15⟩ := un_i_some.1 h'14
    obtain ⟨t18, l'16, rfl, h'16⟩ := un_i_some.1 h'15
    obtain ⟨rfl, h'Z⟩ := un_nil_some.1 h'16
    exact (nego_Opts_6_e @nego_Opts_6_L kx' kr' (nego_Opts_6_L kx' kr' n') n_want_k n_want_v n_like_k n_like_v n_mine_k n_mine_v n_theirs_k n_theirs_v n_due0 n_due1 out0 out1 t17 n_server t19 t18).symm.trans h'Z
  · intro b' hb
    rw [show loopsOf (bodyAt (fb Go.Proofs.Tryz.f19) 0) = [] by kernel_rfl] at hb
    cases hb
theorem nego_Opts_ed (L6 : ({β : Type} → (Nat → List Leaf → Option β) → (List Leaf → Option β) → Nat → List Int → List ByteArray → List Int → List ByteArray → List Int → List ByteArray → List Int → List ByteArray → List Int → List ByteArray → List Int → List ByteArray → List Int → Bool → Int → Int → Option β)) (n_want_k : List Int) (n_want_v : List ByteArray) (n_like_k : List Int) (n_like_v : List ByteArray) (n_mine_k : List Int) (n_mine_v : List ByteArray) (n_theirs_k : List Int) (n_theirs_v : List ByteArray) (n_due0 : List Int) (n_due1 : List ByteArray) (n_server : Bool) : nego_Opts_d @L6 n_want_k n_want_v n_like_k n_like_v n_mine_k n_mine_v n_theirs_k n_theirs_v n_due0 n_due1 n_server = den G27 (nego_Opts_Λd @L6) false tab Go.Proofs.Tryz.f19.ntmps (fun fr H => finish tab 6 Go.Proofs.Tryz.f19.results.toList nego_Opts_out [] fr H some) (fun _ _ _ => none) (fun fr H => finish tab 6 Go.Proofs.Tryz.f19.results.toList nego_Opts_out [] fr H some) 10000 [.code (fb Go.Proofs.Tryz.f19)] (instFr nego_Opts_in [.li n_want_k, .ls n_want_v, .li n_like_k, .ls n_like_v, .li n_mine_k, .ls n_mine_v, .li n_theirs_k, .ls n_theirs_v, .li n_due0, .ls n_due1, .b n_server]) (instH nego_Opts_in [.li n_want_k, .ls n_want_v, .li n_like_k, .ls n_like_v, .li n_mine_k, .ls n_mine_v, .li n_theirs_k, .ls n_theirs_v, .li n_due0, .ls n_due1, .b n_server]) := by kernel_rfl
theorem nego_Opts_e (n_want_k : List Int) (n_want_v : List ByteArray) (n_like_k : List Int) (n_like_v : List ByteArray) (n_mine_k : List Int) (n_mine_v : List ByteArray) (n_theirs_k : List Int) (n_theirs_v : List ByteArray) (n_due0 : List Int) (n_due1 : List ByteArray) (n_server : Bool) : nego_Opts n_want_k n_want_v n_like_k n_like_v n_mine_k n_mine_v n_theirs_k n_theirs_v n_due0 n_due1 n_server = den G27 nego_Opts_Λ false tab Go.Proofs.Tryz.f19.ntmps (fun fr H => finish tab 6 Go.Proofs.Tryz.f19.results.toList nego_Opts_out [] fr H some) (fun _ _ _ => none) (fun fr H => finish tab 6 Go.Proofs.Tryz.f19.results.toList nego_Opts_out [] fr H some) 10000 [.code (fb Go.Proofs.Tryz.f19)] (instFr nego_Opts_in [.li n_want_k, .ls n_want_v, .li n_like_k, .ls n_like_v, .li n_mine_k, .ls n_mine_v, .li n_theirs_k, .ls n_theirs_v, .li n_due0, .ls n_due1, .b n_server]) (instH nego_Opts_in [.li n_want_k, .ls n_want_v, .li n_like_k, .ls n_like_v, .li n_mine_k, .ls n_mine_v, .li n_theirs_k, .ls n_theirs_v, .li n_due0, .ls n_due1, .b n_server]) := nego_Opts_ed @nego_Opts_6_L n_want_k n_want_v n_like_k n_like_v n_mine_k n_mine_v n_theirs_k n_theirs_v n_due0 n_due1 n_server
def nego_Opts_S : List Leaf → Option (List Leaf) := fun ls => un_li ls fun n_want_k rr => un_ls rr fun n_want_v rr => un_li rr fun n_like_k rr => un_ls rr fun n_like_v rr => un_li rr fun n_mine_k rr => un_ls rr fun n_mine_v rr => un_li rr fun n_theirs_k rr => un_ls rr fun n_theirs_v rr => un_li rr fun n_due0 rr => un_ls rr fun n_due1 rr => un_b rr fun n_server rr => un_nil rr (nego_Opts n_want_k n_want_v n_like_k n_like_v n_mine_k n_mine_v n_theirs_k n_theirs_v n_due0 n_due1 n_server)
def nego_Opts_SC : Tld := fun ls k' => un_li ls fun n_want_k rr => un_ls rr fun n_want_v rr => un_li rr fun n_like_k rr => un_ls rr fun n_like_v rr => un_li rr fun n_mine_k rr => un_ls rr fun n_mine_v rr => un_li rr fun n_theirs_k rr => un_ls rr fun n_theirs_v rr => un_li rr fun n_due0 rr => un_ls rr fun n_due1 rr => un_b rr fun n_server rr => un_nil rr (out (nego_Opts n_want_k n_want_v n_like_k n_like_v n_mine_k n_mine_v n_theirs_k n_theirs_v n_due0 n_due1 n_server) k')
theorem nego_Opts_Se (n_want_k : List Int) (n_want_v : List ByteArray) (n_like_k : List Int) (n_like_v : List ByteArray) (n_mine_k : List Int) (n_mine_v : List ByteArray) (n_theirs_k : List Int) (n_theirs_v : List ByteArray) (n_due0 : List Int) (n_due1 : List ByteArray) (n_server : Bool) : nego_Opts_S [.li n_want_k, .ls n_want_v, .li n_like_k, .ls n_like_v, .li n_mine_k, .ls n_mine_v, .li n_theirs_k, .ls n_theirs_v, .li n_due0, .ls n_due1, .b n_server] = nego_Opts n_want_k n_want_v n_like_k n_like_v n_mine_k n_mine_v n_theirs_k n_theirs_v n_due0 n_due1 n_server := by
  unfold nego_Opts_S
  simp only [un_i_ev, un_b_ev, un_s_ev, un_li_ev, un_lb_ev, un_ls_ev, un_nil_ev]
theorem nego_Opts_says : Says nego_Opts_SC nego_Opts_S := by
  intro β ls' k' r' h'
  unfold nego_Opts_SC at h'
  obtain ⟨n_want_k, l'1, rfl, h'1⟩ := un_li_some.1 h'
  obtain ⟨n_want_v, l'2, rfl, h'2⟩ := un_ls_some.1 h'1
  obtain ⟨n_like_k, l'3, rfl, h'3⟩ := un_li_some.1 h'2
  obtain ⟨n_like_v, l'4, rfl, h'4⟩ := un_ls_some.1 h'3
  obtain ⟨n_mine_k, l'5, rfl, h'5⟩ := un_li_some.1 h'4
  obtain ⟨n_mine_v, l'6, rfl, h'6⟩ := un_ls_some.1 h'5
  obtain ⟨n_theirs_k, l'7, rfl, h'7⟩ := un_li_some.1 h'6
  obtain ⟨n_theirs_v, l'8, rfl, h'8⟩ := un_ls_some.1 h'7
  obtain ⟨n_due0, l'9, rfl, h'9⟩ := un_li_some.1 h'8
  obtain ⟨n_due1, l'10, rfl, h'10⟩ := un_ls_some.1 h'9
  obtain ⟨n_server, l'11, rfl, h'11⟩ := un_b_some.1 h'10
  obtain ⟨rfl, h'Z⟩ := un_nil_some.1 h'11
  obtain ⟨l', a', b'⟩ := out_some.1 h'Z
  exact ⟨l', (nego_Opts_Se n_want_k n_want_v n_like_k n_like_v n_mine_k n_mine_v n_theirs_k n_theirs_v n_due0 n_due1 n_server).trans a', b'⟩
theorem nego_Opts_c : FnC Go.Proofs.Tryz.prog 19 false 1 6 nego_Opts_in nego_Opts_out nego_Opts_S := by
  refine fn_ok (Λ := nego_Opts_Λ) mixed tab_ok g27 Go.Proofs.Tryz.func19 (by kernel_rfl) (body := fb Go.Proofs.Tryz.f19) rfl (ts := Go.Proofs.Tryz.f19.results.toList) rfl (cuts := []) (by kernel_rfl) (Nat.le_of_ble_eq_true (by kernel_rfl)) (by kernel_rfl) (rt := .w (.at (.all 7 2))) rfl ?_ ?_
  · intro ls' r' h'
    unfold nego_Opts_S at h'
    obtain ⟨n_want_k, l'1, rfl, h'1⟩ := un_li_some.1 h'
    obtain ⟨n_want_v, l'2, rfl, h'2⟩ := un_ls_some.1 h'1
    obtain ⟨n_like_k, l'3, rfl, h'3⟩ := un_li_some.1 h'2
    obtain ⟨n_like_v, l'4, rfl, h'4⟩ := un_ls_some.1 h'3
    obtain ⟨n_mine_k, l'5, rfl, h'5⟩ := un_li_some.1 h'4
    obtain ⟨n_mine_v, l'6, rfl, h'6⟩ := un_ls_some.1 h'5
    obtain ⟨n_theirs_k, l'7, rfl, h'7⟩ := un_li_some.1 h'6
    obtain ⟨n_theirs_v, l'8, rfl, h'8⟩ := un_ls_some.1 h'7
    obtain ⟨n_due0, l'9, rfl, h'9⟩ := un_li_some.1 h'8
    obtain ⟨n_due1, l'10, rfl, h'10⟩ := un_ls_some.1 h'9
    obtain ⟨n_server, l'11, rfl, h'11⟩ := un_b_some.1 h'10
    obtain ⟨rfl, h'Z⟩ := un_nil_some.1 h'11
    exact (nego_Opts_e n_want_k n_want_v n_like_k n_like_v n_mine_k n_mine_v n_theirs_k n_theirs_v n_due0 n_due1 n_server).symm.trans h'Z
  · intro E w0 ws ρ0 hk b hb
    rw [show loopsOf (fb Go.Proofs.Tryz.f19) = [(bodyAt (fb Go.Proofs.Tryz.f19) 0)] by kernel_rfl] at hb
    simp only [List.mem_cons, List.mem_nil_iff, or_false] at hb
    rcases hb with rfl
    · exact nego_Opts_6_lok E w0 ws ρ0 hk
noncomputable def G28 : Env := G27.addE 19 1 nego_Opts_in nego_Opts_out nego_Opts_SC
theorem g28 : EnvOk Go.Proofs.Tryz.prog G28 := EnvOk.addE g27 nego_Opts_c nego_Opts_says

-- ### nego_answers: function 71
def nego_answers_in : Tm := ⟨[.cells 102 [.bool, .map 1, .map 2, .map 3, .map 4, .all 5 2], .map .i64 (.str), .map .i64 (.str), .map .i64 (.str), .map .i64 (.str), .row 49 2 [.int .i64, .str]], [(0, .w (.at (.ptr 0 0))), (1, .w (.at (.int .i64))), (2, .w (.at (.int .i64))), (3, .w (.at (.str))), (4, .w (.at (.bool)))]⟩
def nego_answers_out : Tm := ⟨[.cells 102 [.bool, .map 1, .map 2, .map 3, .map 4, .all 6 2], .map .i64 (.str), .map .i64 (.str), .map .i64 (.str), .map .i64 (.str), .dead, .row 49 2 [.int .i64, .str]], [(0, .w (.at (.bool)))]⟩

def nego_answers_Λd : Loops := Loops.none
def nego_answers_Λ : Loops := nego_answers_Λd 

theorem nego_answers_e (n_want_k : List Int) (n_want_v : List ByteArray) (n_like_k : List Int) (n_like_v : List ByteArray) (n_mine_k : List Int) (n_mine_v : List ByteArray) (n_theirs_k : List Int) (n_theirs_v : List ByteArray) (n_due0 : List Int) (n_due1 : List ByteArray) (n_server : Bool) (t : Int) (f : Int) (v : ByteArray) (must : Bool) : nego_answers n_want_k n_want_v n_like_k n_like_v n_mine_k n_mine_v n_theirs_k n_theirs_v n_due0 n_due1 n_server t f v must = den G28 nego_answers_Λ false tab Go.Proofs.Tryz.f71.ntmps (fun fr H => finish tab 6 Go.Proofs.Tryz.f71.results.toList nego_answers_out [] fr H some) (fun _ _ _ => none) (fun fr H => finish tab 6 Go.Proofs.Tryz.f71.results.toList nego_answers_out [] fr H some) 10000 [.code (fb Go.Proofs.Tryz.f71)] (instFr nego_answers_in [.li n_want_k, .ls n_want_v, .li n_like_k, .ls n_like_v, .li n_mine_k, .ls n_mine_v, .li n_theirs_k, .ls n_theirs_v, .li n_due0, .ls n_due1, .b n_server, .i t, .i f, .s v, .b must]) (instH nego_answers_in [.li n_want_k, .ls n_want_v, .li n_like_k, .ls n_like_v, .li n_mine_k, .ls n_mine_v, .li n_theirs_k, .ls n_theirs_v, .li n_due0, .ls n_due1, .b n_server, .i t, .i f, .s v, .b must]) := by kernel_rfl
def nego_answers_S : List Leaf → Option (List Leaf) := fun ls => un_li ls fun n_want_k rr => un_ls rr fun n_want_v rr => un_li rr fun n_like_k rr => un_ls rr fun n_like_v rr => un_li rr fun n_mine_k rr => un_ls rr fun n_mine_v rr => un_li rr fun n_theirs_k rr => un_ls rr fun n_theirs_v rr => un_li rr fun n_due0 rr => un_ls rr fun n_due1 rr => un_b rr fun n_server rr => un_i rr fun t rr => un_i rr fun f rr => un_s rr fun v rr => un_b rr fun must rr => un_nil rr (nego_answers n_want_k n_want_v n_like_k n_like_v n_mine_k n_mine_v n_theirs_k n_theirs_v n_due0 n_due1 n_server t f v must)
def nego_answers_SC : Tld := fun ls k' => un_li ls fun n_want_k rr => un_ls rr fun n_want_v rr => un_li rr fun n_like_k rr => un_ls rr fun n_like_v rr => un_li rr fun n_mine_k rr => un_ls rr fun n_mine_v rr => un_li rr fun n_theirs_k rr => un_ls rr fun n_theirs_v rr => un_li rr fun n_due0 rr => un_ls rr fun n_due1 rr => un_b rr fun n_server rr => un_i rr fun t rr => un_i rr fun f rr => un_s rr fun v rr => un_b rr fun must rr => un_nil rr (out (nego_answers n_want_k n_want_v n_like_k n_like_v n_mine_k n_mine_v n_theirs_k n_theirs_v n_due0 n_due1 n_server t f v must) k')
theorem nego_answers_Se (n_want_k : List Int) (n_want_v : List ByteArray) (n_like_k : List Int) (n_like_v : List ByteArray) (n_mine_k : List Int) (n_mine_v : List ByteArray) (n_theirs_k : List Int) (n_theirs_v : List ByteArray) (n_due0 : List Int) (n_due1 : List ByteArray) (n_server : Bool) (t : Int) (f : Int) (v : ByteArray) (must : Bool) : nego_answers_S [.li n_want_k, .ls n_want_v, .li n_like_k, .ls n_like_v, .li n_mine_k, .ls n_mine_v, .li n_theirs_k, .ls n_theirs_v, .li n_due0, .ls n_due1, .b n_server, .i t, .i f, .s v, .b must] = nego_answers n_want_k n_want_v n_like_k n_like_v n_mine_k n_mine_v n_theirs_k n_theirs_v n_due0 n_due1 n_server t f v must := by
  unfold nego_answers_S
  simp only [un_i_ev, un_b_ev, un_s_ev, un_li_ev, un_lb_ev, un_ls_ev, un_nil_ev]
theorem nego_answers_says : Says nego_answers_SC nego_answers_S := by
  intro β ls' k' r' h'
  unfold nego_answers_SC at h'
  obtain ⟨n_want_k, l'1, rfl, h'1⟩ := un_li_some.1 h'
  obtain ⟨n_want_v, l'2, rfl, h'2⟩ := un_ls_some.1 h'1
  obtain ⟨n_like_k, l'3, rfl, h'3⟩ := un_li_some.1 h'2
  obtain ⟨n_like_v, l'4, rfl, h'4⟩ := un_ls_some.1 h'3
  obtain ⟨n_mine_k, l'5, rfl, h'5⟩ := un_li_some.1 h'4
  obtain ⟨n_mine_v, l'6, rfl, h'6⟩ := un_ls_some.1 h'5
  obtain ⟨n_theirs_k, l'7, rfl, h'7⟩ := un_li_some.1 h'6
  obtain ⟨n_theirs_v, l'8, rfl, h'8⟩ := un_ls_some.1 h'7
  obtain ⟨n_due0, l'9, rfl, h'9⟩ := un_li_some.1 h'8
  obtain ⟨n_due1, l'10, rfl, h'10⟩ := un_ls_some.1 h'9
  obtain ⟨n_server, l'11, rfl, h'11⟩ := un_b_some.1 h'10
  obtain ⟨t, l'12, rfl, h'12⟩ := un_i_some.1 h'11
  obtain ⟨f, l'13, rfl, h'13⟩ := un_i_some.1 h'12
  obtain ⟨v, l'14, rfl, h'14⟩ := un_s_some.1 h'13
  obtain ⟨must, l'15, rfl, h'15⟩ := un_b_some.1 h'14
  obtain ⟨rfl, h'Z⟩ := un_nil_some.1 h'15
  obtain ⟨l', a', b'⟩ := out_some.1 h'Z
  exact ⟨l', (nego_answers_Se n_want_k n_want_v n_like_k n_like_v n_mine_k n_mine_v n_theirs_k n_theirs_v n_due0 n_due1 n_server t f v must).trans a', b'⟩
theorem nego_answers_c : FnC Go.Proofs.Tryz.prog 71 false 5 6 nego_answers_in nego_answers_out nego_answers_S := by
  refine fn_ok (Λ := nego_answers_Λ) mixed tab_ok g28 Go.Proofs.Tryz.func71 (by kernel_rfl) (body := fb Go.Proofs.Tryz.f71) rfl (ts := Go.Proofs.Tryz.f71.results.toList) rfl (cuts := []) (by kernel_rfl) (Nat.le_of_ble_eq_true (by kernel_rfl)) (by kernel_rfl) (rt := .w (.at (.bool))) rfl ?_ ?_
  · intro ls' r' h'
    unfold nego_answers_S at h'
    obtain ⟨n_want_k, l'1, rfl, h'1⟩ := un_li_some.1 h'
    obtain ⟨n_want_v, l'2, rfl, h'2⟩ := un_ls_some.1 h'1
    obtain ⟨n_like_k, l'3, rfl, h'3⟩ := un_li_some.1 h'2
    obtain ⟨n_like_v, l'4, rfl, h'4⟩ := un_ls_some.1 h'3
    obtain ⟨n_mine_k, l'5, rfl, h'5⟩ := un_li_some.1 h'4
    obtain ⟨n_mine_v, l'6, rfl, h'6⟩ := un_ls_some.1 h'5
    obtain ⟨n_theirs_k, l'7, rfl, h'7⟩ := un_li_some.1 h'6
    obtain ⟨n_theirs_v, l'8, rfl, h'8⟩ := un_ls_some.1 h'7
    obtain ⟨n_due0, l'9, rfl, h'9⟩ := un_li_some.1 h'8
    obtain ⟨n_due1, l'10, rfl, h'10⟩ := un_ls_some.1 h'9
    obtain ⟨n_server, l'11, rfl, h'11⟩ := un_b_some.1 h'10
    obtain ⟨t, l'12, rfl, h'12⟩ := un_i_some.1 h'11
    obtain ⟨f, l'13, rfl, h'13⟩ := un_i_some.1 h'12
    obtain ⟨v, l'14, rfl, h'14⟩ := un_s_some.1 h'13
    obtain ⟨must, l'15, rfl, h'15⟩ := un_b_some.1 h'14
    obtain ⟨rfl, h'Z⟩ := un_nil_some.1 h'15
    exact (nego_answers_e n_want_k n_want_v n_like_k n_like_v n_mine_k n_mine_v n_theirs_k n_theirs_v n_due0 n_due1 n_server t f v must).symm.trans h'Z
  · intro E w0 ws ρ0 hk b hb
    rw [show loopsOf (fb Go.Proofs.Tryz.f71) = [] by kernel_rfl] at hb
    cases hb
noncomputable def G29 : Env := G28.addE 71 5 nego_answers_in nego_answers_out nego_answers_SC
theorem g29 : EnvOk Go.Proofs.Tryz.prog G29 := EnvOk.addE g28 nego_answers_c nego_answers_says

-- ### nego_changed: function 70
def nego_changed_in : Tm := ⟨[.cells 102 [.bool, .map 1, .map 2, .map 3, .map 4, .all 5 2], .map .i64 (.str), .map .i64 (.str), .map .i64 (.str), .map .i64 (.str), .row 49 2 [.int .i64, .str]], [(0, .w (.at (.ptr 0 0))), (1, .w (.at (.int .i64))), (2, .w (.at (.str))), (3, .w (.at (.bool)))]⟩
def nego_changed_out : Tm := ⟨[.cells 102 [.bool, .map 1, .map 2, .map 3, .map 4, .all 6 2], .map .i64 (.str), .map .i64 (.str), .map .i64 (.str), .map .i64 (.str), .dead, .row 49 2 [.int .i64, .str]], [(0, .w (.at (.bool)))]⟩

def nego_changed_Λd : Loops := Loops.none
def nego_changed_Λ : Loops := nego_changed_Λd 

theorem nego_changed_e (n_want_k : List Int) (n_want_v : List ByteArray) (n_like_k : List Int) (n_like_v : List ByteArray) (n_mine_k : List Int) (n_mine_v : List ByteArray) (n_theirs_k : List Int) (n_theirs_v : List ByteArray) (n_due0 : List Int) (n_due1 : List ByteArray) (n_server : Bool) (f : Int) (v : ByteArray) (must : Bool) : nego_changed n_want_k n_want_v n_like_k n_like_v n_mine_k n_mine_v n_theirs_k n_theirs_v n_due0 n_due1 n_server f v must = den G29 nego_changed_Λ false tab Go.Proofs.Tryz.f70.ntmps (fun fr H => finish tab 6 Go.Proofs.Tryz.f70.results.toList nego_changed_out [] fr H some) (fun _ _ _ => none) (fun fr H => finish tab 6 Go.Proofs.Tryz.f70.results.toList nego_changed_out [] fr H some) 10000 [.code (fb Go.Proofs.Tryz.f70)] (instFr nego_changed_in [.li n_want_k, .ls n_want_v, .li n_like_k, .ls n_like_v, .li n_mine_k, .ls n_mine_v, .li n_theirs_k, .ls n_theirs_v, .li n_due0, .ls n_due1, .b n_server, .i f, .s v, .b must]) (instH nego_changed_in [.li n_want_k, .ls n_want_v, .li n_like_k, .ls n_like_v, .li n_mine_k, .ls n_mine_v, .li n_theirs_k, .ls n_theirs_v, .li n_due0, .ls n_due1, .b n_server, .i f, .s v, .b must]) := by kernel_rfl
def nego_changed_S : List Leaf → Option (List Leaf) := fun ls => un_li ls fun n_want_k rr => un_ls rr fun n_want_v rr => un_li rr fun n_like_k rr => un_ls rr fun n_like_v rr => un_li rr fun n_mine_k rr => un_ls rr fun n_mine_v rr => un_li rr fun n_theirs_k rr => un_ls rr fun n_theirs_v rr => un_li rr fun n_due0 rr => un_ls rr fun n_due1 rr => un_b rr fun n_server rr => un_i rr fun f rr => un_s rr fun v rr => un_b rr fun must rr => un_nil rr (nego_changed n_want_k n_want_v n_like_k n_like_v n_mine_k n_mine_v n_theirs_k n_theirs_v n_due0 n_due1 n_server f v must)
def nego_changed_SC : Tld := fun ls k' => un_li ls fun n_want_k rr => un_ls rr fun n_want_v rr => un_li rr fun n_like_k rr => un_ls rr fun n_like_v rr => un_li rr fun n_mine_k rr => un_ls rr fun n_mine_v rr => un_li rr fun n_theirs_k rr => un_ls rr fun n_theirs_v rr => un_li rr fun n_due0 rr => un_ls rr fun n_due1 rr => un_b rr fun n_server rr => un_i rr fun f rr => un_s rr fun v rr => un_b rr fun must rr => un_nil rr (out (nego_changed n_want_k n_want_v n_like_k n_like_v n_mine_k n_mine_v n_theirs_k n_theirs_v n_due0 n_due1 n_server f v must) k')
theorem nego_changed_Se (n_want_k : List Int) (n_want_v : List ByteArray) (n_like_k : List Int) (n_like_v : List ByteArray) (n_mine_k : List Int) (n_mine_v : List ByteArray) (n_theirs_k : List Int) (n_theirs_v : List ByteArray) (n_due0 : List Int) (n_due1 : List ByteArray) (n_server : Bool) (f : Int) (v : ByteArray) (must : Bool) : nego_changed_S [.li n_want_k, .ls n_want_v, .li n_like_k, .ls n_like_v, .li n_mine_k, .ls n_mine_v, .li n_theirs_k, .ls n_theirs_v, .li n_due0, .ls n_due1, .b n_server, .i f, .s v, .b must] = nego_changed n_want_k n_want_v n_like_k n_like_v n_mine_k n_mine_v n_theirs_k n_theirs_v n_due0 n_due1 n_server f v must := by
  unfold nego_changed_S
  simp only [un_i_ev, un_b_ev, un_s_ev, un_li_ev, un_lb_ev, un_ls_ev, un_nil_ev]
theorem nego_changed_says : Says nego_changed_SC nego_changed_S := by
  intro β ls' k' r' h'
  unfold nego_changed_SC at h'
  obtain ⟨n_want_k, l'1, rfl, h'1⟩ := un_li_some.1 h'
  obtain ⟨n_want_v, l'2, rfl, h'2⟩ := un_ls_some.1 h'1
  obtain ⟨n_like_k, l'3, rfl, h'3⟩ := un_li_some.1 h'2
  obtain ⟨n_like_v, l'4, rfl, h'4⟩ := un_ls_some.1 h'3
  obtain ⟨n_mine_k, l'5, rfl, h'5⟩ := un_li_some.1 h'4
  obtain ⟨n_mine_v, l'6, rfl, h'6⟩ := un_ls_some.1 h'5
  obtain ⟨n_theirs_k, l'7, rfl, h'7⟩ := un_li_some.1 h'6
  obtain ⟨n_theirs_v, l'8, rfl, h'8⟩ := un_ls_some.1 h'7
  obtain ⟨n_due0, l'9, rfl, h'9⟩ := un_li_some.1 h'8
  obtain ⟨n_due1, l'10, rfl, h'10⟩ := un_ls_some.1 h'9
  obtain ⟨n_server, l'11, rfl, h'11⟩ := un_b_some.1 h'10
  obtain ⟨f, l'12, rfl, h'12⟩ := un_i_some.1 h'11
  obtain ⟨v, l'13, rfl, h'13⟩ := un_s_some.1 h'12
  obtain ⟨must, l'14, rfl, h'14⟩ := un_b_some.1 h'13
  obtain ⟨rfl, h'Z⟩ := un_nil_some.1 h'14
  obtain ⟨l', a', b'⟩ := out_some.1 h'Z
  exact ⟨l', (nego_changed_Se n_want_k n_want_v n_like_k n_like_v n_mine_k n_mine_v n_theirs_k n_theirs_v n_due0 n_due1 n_server f v must).trans a', b'⟩
theorem nego_changed_c : FnC Go.Proofs.Tryz.prog 70 false 4 6 nego_changed_in nego_changed_out nego_changed_S := by
  refine fn_ok (Λ := nego_changed_Λ) mixed tab_ok g29 Go.Proofs.Tryz.func70 (by kernel_rfl) (body := fb Go.Proofs.Tryz.f70) rfl (ts := Go.Proofs.Tryz.f70.results.toList) rfl (cuts := []) (by kernel_rfl) (Nat.le_of_ble_eq_true (by kernel_rfl)) (by kernel_rfl) (rt := .w (.at (.bool))) rfl ?_ ?_
  · intro ls' r' h'
    unfold nego_changed_S at h'
    obtain ⟨n_want_k, l'1, rfl, h'1⟩ := un_li_some.1 h'
    obtain ⟨n_want_v, l'2, rfl, h'2⟩ := un_ls_some.1 h'1
    obtain ⟨n_like_k, l'3, rfl, h'3⟩ := un_li_some.1 h'2
    obtain ⟨n_like_v, l'4, rfl, h'4⟩ := un_ls_some.1 h'3
    obtain ⟨n_mine_k, l'5, rfl, h'5⟩ := un_li_some.1 h'4
    obtain ⟨n_mine_v, l'6, rfl, h'6⟩ := un_ls_some.1 h'5
    obtain ⟨n_theirs_k, l'7, rfl, h'7⟩ := un_li_some.1 h'6
    obtain ⟨n_theirs_v, l'8, rfl, h'8⟩ := un_ls_some.1 h'7
    obtain ⟨n_due0, l'9, rfl, h'9⟩ := un_li_some.1 h'8
    obtain ⟨n_due1, l'10, rfl, h'10⟩ := un_ls_some.1 h'9
    obtain ⟨n_server, l'11, rfl, h'11⟩ := un_b_some.1 h'10
    obtain ⟨f, l'12, rfl, h'12⟩ := un_i_some.1 h'11
    obtain ⟨v, l'13, rfl, h'13⟩ := un_s_some.1 h'12
    obtain ⟨must, l'14, rfl, h'14⟩ := un_b_some.1 h'13
    obtain ⟨rfl, h'Z⟩ := un_nil_some.1 h'14
    exact (nego_changed_e n_want_k n_want_v n_like_k n_like_v n_mine_k n_mine_v n_theirs_k n_theirs_v n_due0 n_due1 n_server f v must).symm.trans h'Z
  · intro E w0 ws ρ0 hk b hb
    rw [show loopsOf (fb Go.Proofs.Tryz.f70) = [] by kernel_rfl] at hb
    cases hb
noncomputable def G30 : Env := G29.addE 70 4 nego_changed_in nego_changed_out nego_changed_SC
theorem g30 : EnvOk Go.Proofs.Tryz.prog G30 := EnvOk.addE g29 nego_changed_c nego_changed_says

-- ### nego_confirmed: function 72
def nego_confirmed_in : Tm := ⟨[.cells 102 [.bool, .map 1, .map 2, .map 3, .map 4, .all 5 2], .map .i64 (.str), .map .i64 (.str), .map .i64 (.str), .map .i64 (.str), .row 49 2 [.int .i64, .str]], [(0, .w (.at (.ptr 0 0))), (1, .w (.at (.int .i64))), (2, .w (.at (.str)))]⟩
def nego_confirmed_out : Tm := ⟨[.cells 102 [.bool, .map 1, .map 2, .map 3, .map 4, .all 6 2], .map .i64 (.str), .map .i64 (.str), .map .i64 (.str), .map .i64 (.str), .dead, .row 49 2 [.int .i64, .str]], [(0, .w (.at (.bool)))]⟩

def nego_confirmed_Λd : Loops := Loops.none
def nego_confirmed_Λ : Loops := nego_confirmed_Λd 

theorem nego_confirmed_e (n_want_k : List Int) (n_want_v : List ByteArray) (n_like_k : List Int) (n_like_v : List ByteArray) (n_mine_k : List Int) (n_mine_v : List ByteArray) (n_theirs_k : List Int) (n_theirs_v : List ByteArray) (n_due0 : List Int) (n_due1 : List ByteArray) (n_server : Bool) (f : Int) (v : ByteArray) : nego_confirmed n_want_k n_want_v n_like_k n_like_v n_mine_k n_mine_v n_theirs_k n_theirs_v n_due0 n_due1 n_server f v = den G30 nego_confirmed_Λ false tab Go.Proofs.Tryz.f72.ntmps (fun fr H => finish tab 6 Go.Proofs.Tryz.f72.results.toList nego_confirmed_out [] fr H some) (fun _ _ _ => none) (fun fr H => finish tab 6 Go.Proofs.Tryz.f72.results.toList nego_confirmed_out [] fr H some) 10000 [.code (fb Go.Proofs.Tryz.f72)] (instFr nego_confirmed_in [.li n_want_k, .ls n_want_v, .li n_like_k, .ls n_like_v, .li n_mine_k, .ls n_mine_v, .li n_theirs_k, .ls n_theirs_v, .li n_due0, .ls n_due1, .b n_server, .i f, .s v]) (instH nego_confirmed_in [.li n_want_k, .ls n_want_v, .li n_like_k, .ls n_like_v, .li n_mine_k, .ls n_mine_v, .li n_theirs_k, .ls n_theirs_v, .li n_due0, .ls n_due1, .b n_server, .i f, .s v]) := by kernel_rfl
def nego_confirmed_S : List Leaf → Option (List Leaf) := fun ls => un_li ls fun n_want_k rr => un_ls rr fun n_want_v rr => un_li rr fun n_like_k rr => un_ls rr fun n_like_v rr => un_li rr fun n_mine_k rr => un_ls rr fun n_mine_v rr => un_li rr fun n_theirs_k rr => un_ls rr fun n_theirs_v rr => un_li rr fun n_due0 rr => un_ls rr fun n_due1 rr => un_b rr fun n_server rr => un_i rr fun f rr => un_s rr fun v rr => un_nil rr (nego_confirmed n_want_k n_want_v n_like_k n_like_v n_mine_k n_mine_v n_theirs_k n_theirs_v n_due0 n_due1 n_server f v)
def nego_confirmed_SC : Tld := fun ls k' => un_li ls fun n_want_k rr => un_ls rr fun n_want_v rr => un_li rr fun n_like_k rr => un_ls rr fun n_like_v rr => un_li rr fun n_mine_k rr => un_ls rr fun n_mine_v rr => un_li rr fun n_theirs_k rr => un_ls rr fun n_theirs_v rr => un_li rr fun n_due0 rr => un_ls rr fun n_due1 rr => un_b rr fun n_server rr => un_i rr fun f rr => un_s rr fun v rr => un_nil rr (out (nego_confirmed n_want_k n_want_v n_like_k n_like_v n_mine_k n_mine_v n_theirs_k n_theirs_v n_due0 n_due1 n_server f v) k')
theorem nego_confirmed_Se (n_want_k : List Int) (n_want_v : List ByteArray) (n_like_k : List Int) (n_like_v : List ByteArray) (n_mine_k : List Int) (n_mine_v : List ByteArray) (n_theirs_k : List Int) (n_theirs_v : List ByteArray) (n_due0 : List Int) (n_due1 : List ByteArray) (n_server : Bool) (f : Int) (v : ByteArray) : nego_confirmed_S [.li n_want_k, .ls n_want_v, .li n_like_k, .ls n_like_v, .li n_mine_k, .ls n_mine_v, .li n_theirs_k, .ls n_theirs_v, .li n_due0, .ls n_due1, .b n_server, .i f, .s v] = nego_confirmed n_want_k n_want_v n_like_k n_like_v n_mine_k n_mine_v n_theirs_k n_theirs_v n_due0 n_due1 n_server f v := by
  unfold nego_confirmed_S
  simp only [un_i_ev, un_b_ev, un_s_ev, un_li_ev, un_lb_ev, un_ls_ev, un_nil_ev]
theorem nego_confirmed_says : Says nego_confirmed_SC nego_confirmed_S := by
  intro β ls' k' r' h'
  unfold nego_confirmed_SC at h'
  obtain ⟨n_want_k, l'1, rfl, h'1⟩ := un_li_some.1 h'
  obtain ⟨n_want_v, l'2, rfl, h'2⟩ := un_ls_some.1 h'1
  obtain ⟨n_like_k, l'3, rfl, h'3⟩ := un_li_some.1 h'2
  obtain ⟨n_like_v, l'4, rfl, h'4⟩ := un_ls_some.1 h'3
  obtain ⟨n_mine_k, l'5, rfl, h'5⟩ := un_li_some.1 h'4
  obtain ⟨n_mine_v, l'6, rfl, h'6⟩ := un_ls_some.1 h'5
  obtain ⟨n_theirs_k, l'7, rfl, h'7⟩ := un_li_some.1 h'6
  obtain ⟨n_theirs_v, l'8, rfl, h'8⟩ := un_ls_some.1 h'7
  obtain ⟨n_due0, l'9, rfl, h'9⟩ := un_li_some.1 h'8
  obtain ⟨n_due1, l'10, rfl, h'10⟩ := un_ls_some.1 h'9
  obtain ⟨n_server, l'11, rfl, h'11⟩ := un_b_some.1 h'10
  obtain ⟨f, l'12, rfl, h'12⟩ := un_i_some.1 h'11
  obtain ⟨v, l'13, rfl, h'13⟩ := un_s_some.1 h'12
  obtain ⟨rfl, h'Z⟩ := un_nil_some.1 h'13
  obtain ⟨l', a', b'⟩ := out_some.1 h'Z
  exact ⟨l', (nego_confirmed_Se n_want_k n_want_v n_like_k n_like_v n_mine_k n_mine_v n_theirs_k n_theirs_v n_due0 n_due1 n_server f v).trans a', b'⟩
theorem nego_confirmed_c : FnC Go.Proofs.Tryz.prog 72 false 3 6 nego_confirmed_in nego_confirmed_out nego_confirmed_S := by
  refine fn_ok (Λ := nego_confirmed_Λ) mixed tab_ok g30 Go.Proofs.Tryz.func72 (by kernel_rfl) (body := fb Go.Proofs.Tryz.f72) rfl (ts := Go.Proofs.Tryz.f72.results.toList) rfl (cuts := []) (by kernel_rfl) (Nat.le_of_ble_eq_true (by kernel_rfl)) (by kernel_rfl) (rt := .w (.at (.bool))) rfl ?_ ?_
  · intro ls' r' h'
    unfold nego_confirmed_S at h'
    obtain ⟨n_want_k, l'1, rfl, h'1⟩ := un_li_some.1 h'
    obtain ⟨n_want_v, l'2, rfl, h'2⟩ := un_ls_some.1 h'1
    obtain ⟨n_like_k, l'3, rfl, h'3⟩ := un_li_some.1 h'2
    obtain ⟨n_like_v, l'4, rfl, h'4⟩ := un_ls_some.1 h'3
    obtain ⟨n_mine_k, l'5, rfl, h'5⟩ := un_li_some.1 h'4
    obtain ⟨n_mine_v, l'6, rfl, h'6⟩ := un_ls_some.1 h'5
    obtain ⟨n_theirs_k, l'7, rfl, h'7⟩ := un_li_some.1 h'6
    obtain ⟨n_theirs_v, l'8, rfl, h'8⟩ := un_ls_some.1 h'7
    obtain ⟨n_due0, l'9, rfl, h'9⟩ := un_li_some.1 h'8
    obtain ⟨n_due1, l'10, rfl, h'10⟩ := un_ls_some.1 h'9
    obtain ⟨n_server, l'11, rfl, h'11⟩ := un_b_some.1 h'10
    obtain ⟨f, l'12, rfl, h'12⟩ := un_i_some.1 h'11
    obtain ⟨v, l'13, rfl, h'13⟩ := un_s_some.1 h'12
    obtain ⟨rfl, h'Z⟩ := un_nil_some.1 h'13
    exact (nego_confirmed_e n_want_k n_want_v n_like_k n_like_v n_mine_k n_mine_v n_theirs_k n_theirs_v n_due0 n_due1 n_server f v).symm.trans h'Z
  · intro E w0 ws ρ0 hk b hb
    rw [show loopsOf (fb Go.Proofs.Tryz.f72) = [] by kernel_rfl] at hb
    cases hb
noncomputable def G31 : Env := G30.addE 72 3 nego_confirmed_in nego_confirmed_out nego_confirmed_SC
theorem g31 : EnvOk Go.Proofs.Tryz.prog G31 := EnvOk.addE g30 nego_confirmed_c nego_confirmed_says

-- ### nego_known: function 69
def nego_known_in : Tm := ⟨[], [(0, .w (.at (.int .i64)))]⟩
def nego_known_out : Tm := ⟨[], [(0, .w (.at (.bool)))]⟩

def nego_known_Λd : Loops := Loops.none
def nego_known_Λ : Loops := nego_known_Λd 

theorem nego_known_e (t : Int) : nego_known t = den G31 nego_known_Λ true tab Go.Proofs.Tryz.f69.ntmps (fun fr H => finish tab 0 Go.Proofs.Tryz.f69.results.toList nego_known_out [] fr H some) (fun _ _ _ => none) (fun fr H => finish tab 0 Go.Proofs.Tryz.f69.results.toList nego_known_out [] fr H some) 10000 [.code (fb Go.Proofs.Tryz.f69)] (instFr nego_known_in [.i t]) (instH nego_known_in [.i t]) := by kernel_rfl
def nego_known_S : List Leaf → Option (List Leaf) := fun ls => un_i ls fun t rr => un_nil rr (nego_known t)
def nego_known_SC : Tld := fun ls k' => un_i ls fun t rr => un_nil rr (out (nego_known t) k')
theorem nego_known_Se (t : Int) : nego_known_S [.i t] = nego_known t := by
  unfold nego_known_S
  simp only [un_i_ev, un_b_ev, un_s_ev, un_li_ev, un_lb_ev, un_ls_ev, un_nil_ev]
theorem nego_known_says : Says nego_known_SC nego_known_S := by
  intro β ls' k' r' h'
  unfold nego_known_SC at h'
  obtain ⟨t, l'1, rfl, h'1⟩ := un_i_some.1 h'
  obtain ⟨rfl, h'Z⟩ := un_nil_some.1 h'1
  obtain ⟨l', a', b'⟩ := out_some.1 h'Z
  exact ⟨l', (nego_known_Se t).trans a', b'⟩
theorem nego_known_c : FnC Go.Proofs.Tryz.prog 69 true 1 0 nego_known_in nego_known_out nego_known_S := by
  refine fn_ok (Λ := nego_known_Λ) mixed tab_ok g31 Go.Proofs.Tryz.func69 (by kernel_rfl) (body := fb Go.Proofs.Tryz.f69) rfl (ts := Go.Proofs.Tryz.f69.results.toList) rfl (cuts := []) (by kernel_rfl) (Nat.le_of_ble_eq_true (by kernel_rfl)) (by kernel_rfl) (rt := .w (.at (.bool))) rfl ?_ ?_
  · intro ls' r' h'
    unfold nego_known_S at h'
    obtain ⟨t, l'1, rfl, h'1⟩ := un_i_some.1 h'
    obtain ⟨rfl, h'Z⟩ := un_nil_some.1 h'1
    exact (nego_known_e t).symm.trans h'Z
  · intro E w0 ws ρ0 hk b hb
    rw [show loopsOf (fb Go.Proofs.Tryz.f69) = [] by kernel_rfl] at hb
    cases hb
noncomputable def G32 : Env := G31.addP 69 1 nego_known_in nego_known_out nego_known_SC
theorem g32 : EnvOk Go.Proofs.Tryz.prog G32 := EnvOk.addP g31 nego_known_c nego_known_says

-- ### nego_one: function 48
def nego_one_in : Tm := ⟨[.cells 102 [.bool, .map 1, .map 2, .map 3, .map 4, .all 5 2], .map .i64 (.str), .map .i64 (.str), .map .i64 (.str), .map .i64 (.str), .row 49 2 [.int .i64, .str]], [(0, .w (.at (.ptr 0 0))), (1, .w (.agg [.int .i64, .str])), (2, .w (.at (.bool)))]⟩
def nego_one_out : Tm := ⟨[.cells 102 [.bool, .map 1, .map 2, .map 3, .map 4, .all 6 2], .map .i64 (.str), .map .i64 (.str), .map .i64 (.str), .map .i64 (.str), .dead, .row 49 2 [.int .i64, .str]], [(0, .w (.at (.bool)))]⟩

def nego_one_Λd : Loops := Loops.none
def nego_one_Λ : Loops := nego_one_Λd 

theorem nego_one_e (n_want_k : List Int) (n_want_v : List ByteArray) (n_like_k : List Int) (n_like_v : List ByteArray) (n_mine_k : List Int) (n_mine_v : List ByteArray) (n_theirs_k : List Int) (n_theirs_v : List ByteArray) (n_due0 : List Int) (n_due1 : List ByteArray) (n_server : Bool) (o_Type : Int) (o_Data : ByteArray) (must : Bool) : nego_one n_want_k n_want_v n_like_k n_like_v n_mine_k n_mine_v n_theirs_k n_theirs_v n_due0 n_due1 n_server o_Type o_Data must = den G32 nego_one_Λ false tab Go.Proofs.Tryz.f48.ntmps (fun fr H => finish tab 6 Go.Proofs.Tryz.f48.results.toList nego_one_out [] fr H some) (fun _ _ _ => none) (fun fr H => finish tab 6 Go.Proofs.Tryz.f48.results.toList nego_one_out [] fr H some) 10000 [.code (fb Go.Proofs.Tryz.f48)] (instFr nego_one_in [.li n_want_k, .ls n_want_v, .li n_like_k, .ls n_like_v, .li n_mine_k, .ls n_mine_v, .li n_theirs_k, .ls n_theirs_v, .li n_due0, .ls n_due1, .b n_server, .i o_Type, .s o_Data, .b must]) (instH nego_one_in [.li n_want_k, .ls n_want_v, .li n_like_k, .ls n_like_v, .li n_mine_k, .ls n_mine_v, .li n_theirs_k, .ls n_theirs_v, .li n_due0, .ls n_due1, .b n_server, .i o_Type, .s o_Data, .b must]) := by kernel_rfl
def nego_one_S : List Leaf → Option (List Leaf) := fun ls => un_li ls fun n_want_k rr => un_ls rr fun n_want_v rr => un_li rr fun n_like_k rr => un_ls rr fun n_like_v rr => un_li rr fun n_mine_k rr => un_ls rr fun n_mine_v rr => un_li rr fun n_theirs_k rr => un_ls rr fun n_theirs_v rr => un_li rr fun n_due0 rr => un_ls rr fun n_due1 rr => un_b rr fun n_server rr => un_i rr fun o_Type rr => un_s rr fun o_Data rr => un_b rr fun must rr => un_nil rr (nego_one n_want_k n_want_v n_like_k n_like_v n_mine_k n_mine_v n_theirs_k n_theirs_v n_due0 n_due1 n_server o_Type o_Data must)
def nego_one_SC : Tld := fun ls k' => un_li ls fun n_want_k rr => un_ls rr fun n_want_v rr => un_li rr fun n_like_k rr => un_ls rr fun n_like_v rr => un_li rr fun n_mine_k rr => un_ls rr fun n_mine_v rr => un_li rr fun n_theirs_k rr => un_ls rr fun n_theirs_v rr => un_li rr fun n_due0 rr => un_ls rr fun n_due1 rr => un_b rr fun n_server rr => un_i rr fun o_Type rr => un_s rr fun o_Data rr => un_b rr fun must rr => un_nil rr (out (nego_one n_want_k n_want_v n_like_k n_like_v n_mine_k n_mine_v n_theirs_k n_theirs_v n_due0 n_due1 n_server o_Type o_Data must) k')
theorem nego_one_Se (n_want_k : List Int) (n_want_v : List ByteArray) (n_like_k : List Int) (n_like_v : List ByteArray) (n_mine_k : List Int) (n_mine_v : List ByteArray) (n_theirs_k : List Int) (n_theirs_v : List ByteArray) (n_due0 : List Int) (n_due1 : List ByteArray) (n_server : Bool) (o_Type : Int) (o_Data : ByteArray) (must : Bool) : nego_one_S [.li n_want_k, .ls n_want_v, .li n_like_k, .ls n_like_v, .li n_mine_k, .ls n_mine_v, .li n_theirs_k, .ls n_theirs_v, .li n_due0, .ls n_due1, .b n_server, .i o_Type, .s o_Data, .b must] = nego_one n_want_k n_want_v n_like_k n_like_v n_mine_k n_mine_v n_theirs_k n_theirs_v n_due0 n_due1 n_server o_Type o_Data must := by
  unfold nego_one_S
  simp only [un_i_ev, un_b_ev, un_s_ev, un_li_ev, un_lb_ev, un_ls_ev, un_nil_ev]
theorem nego_one_says : Says nego_one_SC nego_one_S := by
  intro β ls' k' r' h'
  unfold nego_one_SC at h'
  obtain ⟨n_want_k, l'1, rfl, h'1⟩ := un_li_some.1 h'
  obtain ⟨n_want_v, l'2, rfl, h'2⟩ := un_ls_some.1 h'1
  obtain ⟨n_like_k, l'3, rfl, h'3⟩ := un_li_some.1 h'2
  obtain ⟨n_like_v, l'4, rfl, h'4⟩ := un_ls_some.1 h'3
  obtain ⟨n_mine_k, l'5, rfl, h'5⟩ := un_li_some.1 h'4
  obtain ⟨n_mine_v, l'6, rfl, h'6⟩ := un_ls_some.1 h'5
  obtain ⟨n_theirs_k, l'7, rfl, h'7⟩ := un_li_some.1 h'6
  obtain ⟨n_theirs_v, l'8, rfl, h'8⟩ := un_ls_some.1 h'7
  obtain ⟨n_due0, l'9, rfl, h'9⟩ := un_li_some.1 h'8
  obtain ⟨n_due1, l'10, rfl, h'10⟩ := un_ls_some.1 h'9
  obtain ⟨n_server, l'11, rfl, h'11⟩ := un_b_some.1 h'10
  obtain ⟨o_Type, l'12, rfl, h'12⟩ := un_i_some.1 h'11
  obtain ⟨o_Data, l'13, rfl, h'13⟩ := un_s_some.1 h'12
  obtain ⟨must, l'14, rfl, h'14⟩ := un_b_some.1 h'13
  obtain ⟨rfl, h'Z⟩ := un_nil_some.1 h'14
  obtain ⟨l', a', b'⟩ := out_some.1 h'Z
  exact ⟨l', (nego_one_Se n_want_k n_want_v n_like_k n_like_v n_mine_k n_mine_v n_theirs_k n_theirs_v n_due0 n_due1 n_server o_Type o_Data must).trans a', b'⟩
theorem nego_one_c : FnC Go.Proofs.Tryz.prog 48 false 3 6 nego_one_in nego_one_out nego_one_S := by
  refine fn_ok (Λ := nego_one_Λ) mixed tab_ok g32 Go.Proofs.Tryz.func48 (by kernel_rfl) (body := fb Go.Proofs.Tryz.f48) rfl (ts := Go.Proofs.Tryz.f48.results.toList) rfl (cuts := []) (by kernel_rfl) (Nat.le_of_ble_eq_true (by kernel_rfl)) (by kernel_rfl) (rt := .w (.at (.bool))) rfl ?_ ?_
  · intro ls' r' h'
    unfold nego_one_S at h'
    obtain ⟨n_want_k, l'1, rfl, h'1⟩ := un_li_some.1 h'
    obtain ⟨n_want_v, l'2, rfl, h'2⟩ := un_ls_some.1 h'1
    obtain ⟨n_like_k, l'3, rfl, h'3⟩ := un_li_some.1 h'2
    obtain ⟨n_like_v, l'4, rfl, h'4⟩ := un_ls_some.1 h'3
    obtain ⟨n_mine_k, l'5, rfl, h'5⟩ := un_li_some.1 h'4
    obtain ⟨n_mine_v, l'6, rfl, h'6⟩ := un_ls_some.1 h'5
    obtain ⟨n_theirs_k, l'7, rfl, h'7⟩ := un_li_some.1 h'6
    obtain ⟨n_theirs_v, l'8, rfl, h'8⟩ := un_ls_some.1 h'7
    obtain ⟨n_due0, l'9, rfl, h'9⟩ := un_li_some.1 h'8
    obtain ⟨n_due1, l'10, rfl, h'10⟩ := un_ls_some.1 h'9
    obtain ⟨n_server, l'11, rfl, h'11⟩ := un_b_some.1 h'10
    obtain ⟨o_Type, l'12, rfl, h'12⟩ := un_i_some.1 h'11
    obtain ⟨o_Data, l'13, rfl, h'13⟩ := un_s_some.1 h'12
    obtain ⟨must, l'14, rfl, h'14⟩ := un_b_some.1 h'13
    obtain ⟨rfl, h'Z⟩ := un_nil_some.1 h'14
    exact (nego_one_e n_want_k n_want_v n_like_k n_like_v n_mine_k n_mine_v n_theirs_k n_theirs_v n_due0 n_due1 n_server o_Type o_Data must).symm.trans h'Z
  · intro E w0 ws ρ0 hk b hb
    rw [show loopsOf (fb Go.Proofs.Tryz.f48) = [] by kernel_rfl] at hb
    cases hb
noncomputable def G33 : Env := G32.addE 48 3 nego_one_in nego_one_out nego_one_SC
theorem g33 : EnvOk Go.Proofs.Tryz.prog G33 := EnvOk.addE g32 nego_one_c nego_one_says

-- ### nego_Take: function 21
def nego_Take_in : Tm := ⟨[.cells 102 [.bool, .map 1, .map 2, .map 3, .map 4, .all 5 2], .map .i64 (.str), .map .i64 (.str), .map .i64 (.str), .map .i64 (.str), .row 49 2 [.int .i64, .str], .ro 49 2 [.int .i64, .str]], [(0, .w (.at (.ptr 0 0))), (1, .w (.at (.all 6 2)))]⟩
def nego_Take_out : Tm := ⟨[.cells 102 [.bool, .map 1, .map 2, .map 3, .map 4, .all 7 2], .map .i64 (.str), .map .i64 (.str), .map .i64 (.str), .map .i64 (.str), .dead, .dead, .row 49 2 [.int .i64, .str]], [(0, .w (.at (.bool)))]⟩
def nego_Take_5_T' : Tm := ⟨[.cells 102 [.bool, .map 1, .map 2, .map 3, .map 4, .all 7 2], .map .i64 (.str), .map .i64 (.str), .map .i64 (.str), .map .i64 (.str), .dead, .ro 49 2 [.int .i64, .str], .row 49 2 [.int .i64, .str]], [(12, .w (.at (.int .i64))), (5, .w (.at (.bool))), (0, .w (.at (.ptr 0 0))), (10, .w (.at (.all 6 2))), (11, .w (.at (.int .i64)))]⟩
def nego_Take_5_X0 : Tm := ⟨[.cells 102 [.bool, .map 1, .map 2, .map 3, .map 4, .all 7 2], .map .i64 (.str), .map .i64 (.str), .map .i64 (.str), .map .i64 (.str), .dead, .ro 49 2 [.int .i64, .str], .row 49 2 [.int .i64, .str]], []⟩
def nego_Take_5_X : Exits := [(0, (nego_Take_5_X0, []))]
def nego_Take_5_R : Tm := ⟨[.cells 102 [.bool, .map 1, .map 2, .map 3, .map 4, .all 7 2], .map .i64 (.str), .map .i64 (.str), .map .i64 (.str), .map .i64 (.str), .dead, .ro 49 2 [.int .i64, .str], .row 49 2 [.int .i64, .str]], [(4, .w (.at (.bool)))]⟩

def nego_Take_Λd (L5 : ({β : Type} → (Nat → List Leaf → Option β) → (List Leaf → Option β) → Nat → List Int → List ByteArray → List Int → List ByteArray → List Int → List ByteArray → List Int → List ByteArray → List Int → List ByteArray → List Int → List ByteArray → Bool → Int → Bool → Int → Option β)) : Loops := ⟨fun b fr H kx kr => bif Nat.beq (rid b) 5 then loopE 7 nego_Take_5_T' [] nego_Take_5_X nego_Take_5_R (nego_Take_5_F @L5 top) fr H kx kr else none⟩
def nego_Take_Λ : Loops := nego_Take_Λd @nego_Take_5_L
theorem nego_Take_5_e (L5 : ({β : Type} → (Nat → List Leaf → Option β) → (List Leaf → Option β) → Nat → List Int → List ByteArray → List Int → List ByteArray → List Int → List ByteArray → List Int → List ByteArray → List Int → List ByteArray → List Int → List ByteArray → Bool → Int → Bool → Int → Option β)) {α : Type} (kx : Nat → List Leaf → Option α) (kr : List Leaf → Option α) (again : List Int → List ByteArray → List Int → List ByteArray → List Int → List ByteArray → List Int → List ByteArray → List Int → List ByteArray → List Int → List ByteArray → Bool → Int → Bool → Int → Option α) (n_want_k : List Int) (n_want_v : List ByteArray) (n_like_k : List Int) (n_like_v : List ByteArray) (n_mine_k : List Int) (n_mine_v : List ByteArray) (n_theirs_k : List Int) (n_theirs_v : List ByteArray) (os0 : List Int) (os1 : List ByteArray) (n_due0 : List Int) (n_due1 : List ByteArray) (n_server : Bool) (t12 : Int) (must : Bool) (t11 : Int) : nego_Take_5_B  kx kr again n_want_k n_want_v n_like_k n_like_v n_mine_k n_mine_v n_theirs_k n_theirs_v os0 os1 n_due0 n_due1 n_server t12 must t11 = loopB G33 (nego_Take_Λd @L5) false tab Go.Proofs.Tryz.f21.ntmps 7 nego_Take_5_T' [] nego_Take_5_X nego_Take_5_R (bodyAt (fb Go.Proofs.Tryz.f21) 0) (fun ls => un_li ls fun n_want_k rr => un_ls rr fun n_want_v rr => un_li rr fun n_like_k rr => un_ls rr fun n_like_v rr => un_li rr fun n_mine_k rr => un_ls rr fun n_mine_v rr => un_li rr fun n_theirs_k rr => un_ls rr fun n_theirs_v rr => un_li rr fun os0 rr => un_ls rr fun os1 rr => un_li rr fun n_due0 rr => un_ls rr fun n_due1 rr => un_b rr fun n_server rr => un_i rr fun t12 rr => un_b rr fun must rr => un_i rr fun t11 rr => un_nil rr (again n_want_k n_want_v n_like_k n_like_v n_mine_k n_mine_v n_theirs_k n_theirs_v os0 os1 n_due0 n_due1 n_server t12 must t11)) kx kr (instFr nego_Take_5_T' [.li n_want_k, .ls n_want_v, .li n_like_k, .ls n_like_v, .li n_mine_k, .ls n_mine_v, .li n_theirs_k, .ls n_theirs_v, .li os0, .ls os1, .li n_due0, .ls n_due1, .b n_server, .i t12, .b must, .i t11]) (instH nego_Take_5_T' [.li n_want_k, .ls n_want_v, .li n_like_k, .ls n_like_v, .li n_mine_k, .ls n_mine_v, .li n_theirs_k, .ls n_theirs_v, .li os0, .ls os1, .li n_due0, .ls n_due1, .b n_server, .i t12, .b must, .i t11]) := by kernel_rfl
theorem nego_Take_5_lok (E : Nat → Prop) (w0 ws : World) (ρ0 : List Pl) (hk : ρ0.length = 7) : LOk Go.Proofs.Tryz.prog 21 Go.Proofs.Tryz.f21 false E w0 ws Go.Proofs.Tryz.f21.ntmps ρ0 nego_Take_Λ (bodyAt (fb Go.Proofs.Tryz.f21) 0) := by
  refine lok mixed tab_ok g33 Go.Proofs.Tryz.func21 hk (T := nego_Take_5_T') (rt := nego_Take_5_R) (cuts := []) (ex := nego_Take_5_X) (top := top) (F := nego_Take_5_F @nego_Take_5_L) (fun fr H kx kr => by kernel_rfl) ?_ ?_ ?_
  · intro α ls' kx' kr' r' h'
    unfold nego_Take_5_F at h'
    obtain ⟨n_want_k, l'1, rfl, h'1⟩ := un_li_some.1 h'
    obtain ⟨n_want_v, l'2, rfl, h'2⟩ := un_ls_some.1 h'1
    obtain ⟨n_like_k, l'3, rfl, h'3⟩ := un_li_some.1 h'2
    obtain ⟨n_like_v, l'4, rfl, h'4⟩ := un_ls_some.1 h'3
    obtain ⟨n_mine_k, l'5, rfl, h'5⟩ := un_li_some.1 h'4
    obtain ⟨n_mine_v, l'6, rfl, h'6⟩ := un_ls_some.1 h'5
    obtain ⟨n_theirs_k, l'7, rfl, h'7⟩ := un_li_some.1 h'6
    obtain ⟨n_theirs_v, l'8, rfl, h'8⟩ := un_ls_some.1 h'7
    obtain ⟨os0, l'9, rfl, h'9⟩ := un_li_some.1 h'8
    obtain ⟨os1, l'10, rfl, h'10⟩ := un_ls_some.1 h'9
    obtain ⟨n_due0, l'11, rfl, h'11⟩ := un_li_some.1 h'10
    obtain ⟨n_due1, l'12, rfl, h'12⟩ := un_ls_some.1 h'11
    obtain ⟨n_server, l'13, rfl, h'13⟩ := un_b_some.1 h'12
    obtain ⟨t12, l'14, rfl, h'14⟩ := un_i_some.1 h'13
    obtain ⟨must, l'15, rfl, h'15⟩ := un_b_some.1 h'14
    obtain ⟨t11, l'16, rfl, h'16⟩ := un_i_some.1 h'15
    obtain ⟨rfl, h'Z⟩ := un_nil_some.1 h'16
    cases h'Z
  · intro α n' ls' kx' kr' r' h'
    unfold nego_Take_5_F at h'
    obtain ⟨n_want_k, l'1, rfl, h'1⟩ := un_li_some.1 h'
    obtain ⟨n_want_v, l'2, rfl, h'2⟩ := un_ls_some.1 h'1
    obtain ⟨n_like_k, l'3, rfl, h'3⟩ := un_li_some.1 h'2
    obtain ⟨n_like_v, l'4, rfl, h'4⟩ := un_ls_some.1 h'3
    obtain ⟨n_mine_k, l'5, rfl, h'5⟩ := un_li_some.1 h'4
    obtain ⟨n_mine_v, l'6, rfl, h'6⟩ := un_ls_some.1 h'5
    obtain ⟨n_theirs_k, l'7, rfl, h'7⟩ := un_li_some.1 h'6
    obtain ⟨n_theirs_v, l'8, rfl, h'8⟩ := un_ls_some.1 h'7
    obtain ⟨os0, l'9, rfl, h'9⟩ := un_li_some.1 h'8
    obtain ⟨os1, l'10, rfl, h'10⟩ := un_ls_some.1 h'9
    obtain ⟨n_due0, l'11, rfl, h'11⟩ := un_li_some.1 h'10
    obtain ⟨n_due1, l'12, rfl, h'12⟩ := un_ls_some.1 h'11
    obtain ⟨n_server, l'13, rfl, h'13⟩ := un_b_some.1 h'12
    obtain ⟨t12, l'14, rfl, h'14⟩ := un_i_some.1 h'13
    obtain ⟨must, l'15, rfl, h'15⟩ := un_b_some.1 h'14
    obtain ⟨t11, l'16, rfl, h'16⟩ := un_i_some.1 h'15
    obtain ⟨rfl, h'Z⟩ := un_nil_some.1 h'16
    exact (nego_Take_5_e @nego_Take_5_L kx' kr' (nego_Take_5_L kx' kr' n') n_want_k n_want_v n_like_k n_like_v n_mine_k n_mine_v n_theirs_k n_theirs_v os0 os1 n_due0 n_due1 n_server t12 must t11).symm.trans h'Z
  · intro b' hb
    rw [show loopsOf (bodyAt (fb Go.Proofs.Tryz.f21) 0) = [] by kernel_rfl] at hb
    cases hb
theorem nego_Take_ed (L5 : ({β : Type} → (Nat → List Leaf → Option β) → (List Leaf → Option β) → Nat → List Int → List ByteArray → List Int → List ByteArray → List Int → List ByteArray → List Int → List ByteArray → List Int → List ByteArray → List Int → List ByteArray → Bool → Int → Bool → Int → Option β)) (n_want_k : List Int) (n_want_v : List ByteArray) (n_like_k : List Int) (n_like_v : List ByteArray) (n_mine_k : List Int) (n_mine_v : List ByteArray) (n_theirs_k : List Int) (n_theirs_v : List ByteArray) (n_due0 : List Int) (n_due1 : List ByteArray) (os0 : List Int) (os1 : List ByteArray) (n_server : Bool) : nego_Take_d @L5 n_want_k n_want_v n_like_k n_like_v n_mine_k n_mine_v n_theirs_k n_theirs_v n_due0 n_due1 os0 os1 n_server = den G33 (nego_Take_Λd @L5) false tab Go.Proofs.Tryz.f21.ntmps (fun fr H => finish tab 7 Go.Proofs.Tryz.f21.results.toList nego_Take_out [] fr H some) (fun _ _ _ => none) (fun fr H => finish tab 7 Go.Proofs.Tryz.f21.results.toList nego_Take_out [] fr H some) 10000 [.code (fb Go.Proofs.Tryz.f21)] (instFr nego_Take_in [.li n_want_k, .ls n_want_v, .li n_like_k, .ls n_like_v, .li n_mine_k, .ls n_mine_v, .li n_theirs_k, .ls n_theirs_v, .li n_due0, .ls n_due1, .li os0, .ls os1, .b n_server]) (instH nego_Take_in [.li n_want_k, .ls n_want_v, .li n_like_k, .ls n_like_v, .li n_mine_k, .ls n_mine_v, .li n_theirs_k, .ls n_theirs_v, .li n_due0, .ls n_due1, .li os0, .ls os1, .b n_server]) := by kernel_rfl
theorem nego_Take_e (n_want_k : List Int) (n_want_v : List ByteArray) (n_like_k : List Int) (n_like_v : List ByteArray) (n_mine_k : List Int) (n_mine_v : List ByteArray) (n_theirs_k : List Int) (n_theirs_v : List ByteArray) (n_due0 : List Int) (n_due1 : List ByteArray) (os0 : List Int) (os1 : List ByteArray) (n_server : Bool) : nego_Take n_want_k n_want_v n_like_k n_like_v n_mine_k n_mine_v n_theirs_k n_theirs_v n_due0 n_due1 os0 os1 n_server = den G33 nego_Take_Λ false tab Go.Proofs.Tryz.f21.ntmps (fun fr H => finish tab 7 Go.Proofs.Tryz.f21.results.toList nego_Take_out [] fr H some) (fun _ _ _ => none) (fun fr H => finish tab 7 Go.Proofs.Tryz.f21.results.toList nego_Take_out [] fr H some) 10000 [.code (fb Go.Proofs.Tryz.f21)] (instFr nego_Take_in [.li n_want_k, .ls n_want_v, .li n_like_k, .ls n_like_v, .li n_mine_k, .ls n_mine_v, .li n_theirs_k, .ls n_theirs_v, .li n_due0, .ls n_due1, .li os0, .ls os1, .b n_server]) (instH nego_Take_in [.li n_want_k, .ls n_want_v, .li n_like_k, .ls n_like_v, .li n_mine_k, .ls n_mine_v, .li n_theirs_k, .ls n_theirs_v, .li n_due0, .ls n_due1, .li os0, .ls os1, .b n_server]) := nego_Take_ed @nego_Take_5_L n_want_k n_want_v n_like_k n_like_v n_mine_k n_mine_v n_theirs_k n_theirs_v n_due0 n_due1 os0 os1 n_server
def nego_Take_S : List Leaf → Option (List Leaf) := fun ls => un_li ls fun n_want_k rr => un_ls rr fun n_want_v rr => un_li rr fun n_like_k rr => un_ls rr fun n_like_v rr => un_li rr fun n_mine_k rr => un_ls rr fun n_mine_v rr => un_li rr fun n_theirs_k rr => un_ls rr fun n_theirs_v rr => un_li rr fun n_due0 rr => un_ls rr fun n_due1 rr => un_li rr fun os0 rr => un_ls rr fun os1 rr => un_b rr fun n_server rr => un_nil rr (nego_Take n_want_k n_want_v n_like_k n_like_v n_mine_k n_mine_v n_theirs_k n_theirs_v n_due0 n_due1 os0 os1 n_server)
def nego_Take_SC : Tld := fun ls k' => un_li ls fun n_want_k rr => un_ls rr fun n_want_v rr => un_li rr fun n_like_k rr => un_ls rr fun n_like_v rr => un_li rr fun n_mine_k rr => un_ls rr fun n_mine_v rr => un_li rr fun n_theirs_k rr => un_ls rr fun n_theirs_v rr => un_li rr fun n_due0 rr => un_ls rr fun n_due1 rr => un_li rr fun os0 rr => un_ls rr fun os1 rr => un_b rr fun n_server rr => un_nil rr (out (nego_Take n_want_k n_want_v n_like_k n_like_v n_mine_k n_mine_v n_theirs_k n_theirs_v n_due0 n_due1 os0 os1 n_server) k')
theorem nego_Take_Se (n_want_k : List Int) (n_want_v : List ByteArray) (n_like_k : List Int) (n_like_v : List ByteArray) (n_mine_k : List Int) (n_mine_v : List ByteArray) (n_theirs_k : List Int) (n_theirs_v : List ByteArray) (n_due0 : List Int) (n_due1 : List ByteArray) (os0 : List Int) (os1 : List ByteArray) (n_server : Bool) : nego_Take_S [.li n_want_k, .ls n_want_v, .li n_like_k, .ls n_like_v, .li n_mine_k, .ls n_mine_v, .li n_theirs_k, .ls n_theirs_v, .li n_due0, .ls n_due1, .li os0, .ls os1, .b n_server] = nego_Take n_want_k n_want_v n_like_k n_like_v n_mine_k n_mine_v n_theirs_k n_theirs_v n_due0 n_due1 os0 os1 n_server := by
  unfold nego_Take_S
  simp only [un_i_ev, un_b_ev, un_s_ev, un_li_ev, un_lb_ev, un_ls_ev, un_nil_ev]
theorem nego_Take_says : Says nego_Take_SC nego_Take_S := by
  intro β ls' k' r' h'
  unfold nego_Take_SC at h'
  obtain ⟨n_want_k, l'1, rfl, h'1⟩ := un_li_some.1 h'
  obtain ⟨n_want_v, l'2, rfl, h'2⟩ := un_ls_some.1 h'1
  obtain ⟨n_like_k, l'3, rfl, h'3⟩ := un_li_some.1 h'2
  obtain ⟨n_like_v, l'4, rfl, h'4⟩ := un_ls_some.1 h'3
  obtain ⟨n_mine_k, l'5, rfl, h'5⟩ := un_li_some.1 h'4
  obtain ⟨n_mine_v, l'6, rfl, h'6⟩ := un_ls_some.1 h'5
  obtain ⟨n_theirs_k, l'7, rfl, h'7⟩ := un_li_some.1 h'6
  obtain ⟨n_theirs_v, l'8, rfl, h'8⟩ := un_ls_some.1 h'7
  obtain ⟨n_due0, l'9, rfl, h'9⟩ := un_li_some.1 h'8
  obtain ⟨n_due1, l'10, rfl, h'10⟩ := un_ls_some.1 h'9
  obtain ⟨os0, l'11, rfl, h'11⟩ := un_li_some.1 h'10
  obtain ⟨os1, l'12, rfl, h'12⟩ := un_ls_some.1 h'11
  obtain ⟨n_server, l'13, rfl, h'13⟩ := un_b_some.1 h'12
  obtain ⟨rfl, h'Z⟩ := un_nil_some.1 h'13
  obtain ⟨l', a', b'⟩ := out_some.1 h'Z
  exact ⟨l', (nego_Take_Se n_want_k n_want_v n_like_k n_like_v n_mine_k n_mine_v n_theirs_k n_theirs_v n_due0 n_due1 os0 os1 n_server).trans a', b'⟩
theorem nego_Take_c : FnC Go.Proofs.Tryz.prog 21 false 2 7 nego_Take_in nego_Take_out nego_Take_S := by
  refine fn_ok (Λ := nego_Take_Λ) mixed tab_ok g33 Go.Proofs.Tryz.func21 (by kernel_rfl) (body := fb Go.Proofs.Tryz.f21) rfl (ts := Go.Proofs.Tryz.f21.results.toList) rfl (cuts := []) (by kernel_rfl) (Nat.le_of_ble_eq_true (by kernel_rfl)) (by kernel_rfl) (rt := .w (.at (.bool))) rfl ?_ ?_
  · intro ls' r' h'
    unfold nego_Take_S at h'
    obtain ⟨n_want_k, l'1, rfl, h'1⟩ := un_li_some.1 h'
    obtain ⟨n_want_v, l'2, rfl, h'2⟩ := un_ls_some.1 h'1
    obtain ⟨n_like_k, l'3, rfl, h'3⟩ := un_li_some.1 h'2
    obtain ⟨n_like_v, l'4, rfl, h'4⟩ := un_ls_some.1 h'3
    obtain ⟨n_mine_k, l'5, rfl, h'5⟩ := un_li_some.1 h'4
    obtain ⟨n_mine_v, l'6, rfl, h'6⟩ := un_ls_some.1 h'5
    obtain ⟨n_theirs_k, l'7, rfl, h'7⟩ := un_li_some.1 h'6
    obtain ⟨n_theirs_v, l'8, rfl, h'8⟩ := un_ls_some.1 h'7
    obtain ⟨n_due0, l'9, rfl, h'9⟩ := un_li_some.1 h'8
    obtain ⟨n_due1, l'10, rfl, h'10⟩ := un_ls_some.1 h'9
    obtain ⟨os0, l'11, rfl, h'11⟩ := un_li_some.1 h'10
    obtain ⟨os1, l'12, rfl, h'12⟩ := un_ls_some.1 h'11
    obtain ⟨n_server, l'13, rfl, h'13⟩ := un_b_some.1 h'12
    obtain ⟨rfl, h'Z⟩ := un_nil_some.1 h'13
    exact (nego_Take_e n_want_k n_want_v n_like_k n_like_v n_mine_k n_mine_v n_theirs_k n_theirs_v n_due0 n_due1 os0 os1 n_server).symm.trans h'Z
  · intro E w0 ws ρ0 hk b hb
    rw [show loopsOf (fb Go.Proofs.Tryz.f21) = [(bodyAt (fb Go.Proofs.Tryz.f21) 0)] by kernel_rfl] at hb
    simp only [List.mem_cons, List.mem_nil_iff, or_false] at hb
    rcases hb with rfl
    · exact nego_Take_5_lok E w0 ws ρ0 hk
noncomputable def G34 : Env := G33.addE 21 2 nego_Take_in nego_Take_out nego_Take_SC
theorem g34 : EnvOk Go.Proofs.Tryz.prog G34 := EnvOk.addE g33 nego_Take_c nego_Take_says

-- ### nego_Mine: function 23
def nego_Mine_in : Tm := ⟨[.cells 102 [.bool, .map 1, .map 2, .map 3, .map 4, .all 5 2], .map .i64 (.str), .map .i64 (.str), .map .i64 (.str), .map .i64 (.str), .row 49 2 [.int .i64, .str]], [(0, .w (.at (.ptr 0 0))), (1, .w (.at (.int .i64)))]⟩
def nego_Mine_out : Tm := ⟨[.dead, .dead, .dead, .dead, .dead, .dead], [(0, .w (.at (.str)))]⟩

def nego_Mine_Λd : Loops := Loops.none
def nego_Mine_Λ : Loops := nego_Mine_Λd 

theorem nego_Mine_e (n_want_k : List Int) (n_want_v : List ByteArray) (n_like_k : List Int) (n_like_v : List ByteArray) (n_mine_k : List Int) (n_mine_v : List ByteArray) (n_theirs_k : List Int) (n_theirs_v : List ByteArray) (n_due0 : List Int) (n_due1 : List ByteArray) (n_server : Bool) (f : Int) : nego_Mine n_want_k n_want_v n_like_k n_like_v n_mine_k n_mine_v n_theirs_k n_theirs_v n_due0 n_due1 n_server f = den G34 nego_Mine_Λ true tab Go.Proofs.Tryz.f23.ntmps (fun fr H => finish tab 6 Go.Proofs.Tryz.f23.results.toList nego_Mine_out [] fr H some) (fun _ _ _ => none) (fun fr H => finish tab 6 Go.Proofs.Tryz.f23.results.toList nego_Mine_out [] fr H some) 10000 [.code (fb Go.Proofs.Tryz.f23)] (instFr nego_Mine_in [.li n_want_k, .ls n_want_v, .li n_like_k, .ls n_like_v, .li n_mine_k, .ls n_mine_v, .li n_theirs_k, .ls n_theirs_v, .li n_due0, .ls n_due1, .b n_server, .i f]) (instH nego_Mine_in [.li n_want_k, .ls n_want_v, .li n_like_k, .ls n_like_v, .li n_mine_k, .ls n_mine_v, .li n_theirs_k, .ls n_theirs_v, .li n_due0, .ls n_due1, .b n_server, .i f]) := by kernel_rfl
def nego_Mine_S : List Leaf → Option (List Leaf) := fun ls => un_li ls fun n_want_k rr => un_ls rr fun n_want_v rr => un_li rr fun n_like_k rr => un_ls rr fun n_like_v rr => un_li rr fun n_mine_k rr => un_ls rr fun n_mine_v rr => un_li rr fun n_theirs_k rr => un_ls rr fun n_theirs_v rr => un_li rr fun n_due0 rr => un_ls rr fun n_due1 rr => un_b rr fun n_server rr => un_i rr fun f rr => un_nil rr (nego_Mine n_want_k n_want_v n_like_k n_like_v n_mine_k n_mine_v n_theirs_k n_theirs_v n_due0 n_due1 n_server f)
def nego_Mine_SC : Tld := fun ls k' => un_li ls fun n_want_k rr => un_ls rr fun n_want_v rr => un_li rr fun n_like_k rr => un_ls rr fun n_like_v rr => un_li rr fun n_mine_k rr => un_ls rr fun n_mine_v rr => un_li rr fun n_theirs_k rr => un_ls rr fun n_theirs_v rr => un_li rr fun n_due0 rr => un_ls rr fun n_due1 rr => un_b rr fun n_server rr => un_i rr fun f rr => un_nil rr (out (nego_Mine n_want_k n_want_v n_like_k n_like_v n_mine_k n_mine_v n_theirs_k n_theirs_v n_due0 n_due1 n_server f) k')
theorem nego_Mine_Se (n_want_k : List Int) (n_want_v : List ByteArray) (n_like_k : List Int) (n_like_v : List ByteArray) (n_mine_k : List Int) (n_mine_v : List ByteArray) (n_theirs_k : List Int) (n_theirs_v : List ByteArray) (n_due0 : List Int) (n_due1 : List ByteArray) (n_server : Bool) (f : Int) : nego_Mine_S [.li n_want_k, .ls n_want_v, .li n_like_k, .ls n_like_v, .li n_mine_k, .ls n_mine_v, .li n_theirs_k, .ls n_theirs_v, .li n_due0, .ls n_due1, .b n_server, .i f] = nego_Mine n_want_k n_want_v n_like_k n_like_v n_mine_k n_mine_v n_theirs_k n_theirs_v n_due0 n_due1 n_server f := by
  unfold nego_Mine_S
  simp only [un_i_ev, un_b_ev, un_s_ev, un_li_ev, un_lb_ev, un_ls_ev, un_nil_ev]
theorem nego_Mine_says : Says nego_Mine_SC nego_Mine_S := by
  intro β ls' k' r' h'
  unfold nego_Mine_SC at h'
  obtain ⟨n_want_k, l'1, rfl, h'1⟩ := un_li_some.1 h'
  obtain ⟨n_want_v, l'2, rfl, h'2⟩ := un_ls_some.1 h'1
  obtain ⟨n_like_k, l'3, rfl, h'3⟩ := un_li_some.1 h'2
  obtain ⟨n_like_v, l'4, rfl, h'4⟩ := un_ls_some.1 h'3
  obtain ⟨n_mine_k, l'5, rfl, h'5⟩ := un_li_some.1 h'4
  obtain ⟨n_mine_v, l'6, rfl, h'6⟩ := un_ls_some.1 h'5
  obtain ⟨n_theirs_k, l'7, rfl, h'7⟩ := un_li_some.1 h'6
  obtain ⟨n_theirs_v, l'8, rfl, h'8⟩ := un_ls_some.1 h'7
  obtain ⟨n_due0, l'9, rfl, h'9⟩ := un_li_some.1 h'8
  obtain ⟨n_due1, l'10, rfl, h'10⟩ := un_ls_some.1 h'9
  obtain ⟨n_server, l'11, rfl, h'11⟩ := un_b_some.1 h'10
  obtain ⟨f, l'12, rfl, h'12⟩ := un_i_some.1 h'11
  obtain ⟨rfl, h'Z⟩ := un_nil_some.1 h'12
  obtain ⟨l', a', b'⟩ := out_some.1 h'Z
  exact ⟨l', (nego_Mine_Se n_want_k n_want_v n_like_k n_like_v n_mine_k n_mine_v n_theirs_k n_theirs_v n_due0 n_due1 n_server f).trans a', b'⟩
theorem nego_Mine_c : FnC Go.Proofs.Tryz.prog 23 true 2 6 nego_Mine_in nego_Mine_out nego_Mine_S := by
  refine fn_ok (Λ := nego_Mine_Λ) mixed tab_ok g34 Go.Proofs.Tryz.func23 (by kernel_rfl) (body := fb Go.Proofs.Tryz.f23) rfl (ts := Go.Proofs.Tryz.f23.results.toList) rfl (cuts := []) (by kernel_rfl) (Nat.le_of_ble_eq_true (by kernel_rfl)) (by kernel_rfl) (rt := .w (.at (.str))) rfl ?_ ?_
  · intro ls' r' h'
    unfold nego_Mine_S at h'
    obtain ⟨n_want_k, l'1, rfl, h'1⟩ := un_li_some.1 h'
    obtain ⟨n_want_v, l'2, rfl, h'2⟩ := un_ls_some.1 h'1
    obtain ⟨n_like_k, l'3, rfl, h'3⟩ := un_li_some.1 h'2
    obtain ⟨n_like_v, l'4, rfl, h'4⟩ := un_ls_some.1 h'3
    obtain ⟨n_mine_k, l'5, rfl, h'5⟩ := un_li_some.1 h'4
    obtain ⟨n_mine_v, l'6, rfl, h'6⟩ := un_ls_some.1 h'5
    obtain ⟨n_theirs_k, l'7, rfl, h'7⟩ := un_li_some.1 h'6
    obtain ⟨n_theirs_v, l'8, rfl, h'8⟩ := un_ls_some.1 h'7
    obtain ⟨n_due0, l'9, rfl, h'9⟩ := un_li_some.1 h'8
    obtain ⟨n_due1, l'10, rfl, h'10⟩ := un_ls_some.1 h'9
    obtain ⟨n_server, l'11, rfl, h'11⟩ := un_b_some.1 h'10
    obtain ⟨f, l'12, rfl, h'12⟩ := un_i_some.1 h'11
    obtain ⟨rfl, h'Z⟩ := un_nil_some.1 h'12
    exact (nego_Mine_e n_want_k n_want_v n_like_k n_like_v n_mine_k n_mine_v n_theirs_k n_theirs_v n_due0 n_due1 n_server f).symm.trans h'Z
  · intro E w0 ws ρ0 hk b hb
    rw [show loopsOf (fb Go.Proofs.Tryz.f23) = [] by kernel_rfl] at hb
    cases hb
noncomputable def G35 : Env := G34.addP 23 2 nego_Mine_in nego_Mine_out nego_Mine_SC
theorem g35 : EnvOk Go.Proofs.Tryz.prog G35 := EnvOk.addP g34 nego_Mine_c nego_Mine_says

-- ### nego_Theirs: function 26
def nego_Theirs_in : Tm := ⟨[.cells 102 [.bool, .map 1, .map 2, .map 3, .map 4, .all 5 2], .map .i64 (.str), .map .i64 (.str), .map .i64 (.str), .map .i64 (.str), .row 49 2 [.int .i64, .str]], [(0, .w (.at (.ptr 0 0))), (1, .w (.at (.int .i64)))]⟩
def nego_Theirs_out : Tm := ⟨[.dead, .dead, .dead, .dead, .dead, .dead], [(0, .w (.at (.str)))]⟩

def nego_Theirs_Λd : Loops := Loops.none
def nego_Theirs_Λ : Loops := nego_Theirs_Λd 

theorem nego_Theirs_e (n_want_k : List Int) (n_want_v : List ByteArray) (n_like_k : List Int) (n_like_v : List ByteArray) (n_mine_k : List Int) (n_mine_v : List ByteArray) (n_theirs_k : List Int) (n_theirs_v : List ByteArray) (n_due0 : List Int) (n_due1 : List ByteArray) (n_server : Bool) (f : Int) : nego_Theirs n_want_k n_want_v n_like_k n_like_v n_mine_k n_mine_v n_theirs_k n_theirs_v n_due0 n_due1 n_server f = den G35 nego_Theirs_Λ true tab Go.Proofs.Tryz.f26.ntmps (fun fr H => finish tab 6 Go.Proofs.Tryz.f26.results.toList nego_Theirs_out [] fr H some) (fun _ _ _ => none) (fun fr H => finish tab 6 Go.Proofs.Tryz.f26.results.toList nego_Theirs_out [] fr H some) 10000 [.code (fb Go.Proofs.Tryz.f26)] (instFr nego_Theirs_in [.li n_want_k, .ls n_want_v, .li n_like_k, .ls n_like_v, .li n_mine_k, .ls n_mine_v, .li n_theirs_k, .ls n_theirs_v, .li n_due0, .ls n_due1, .b n_server, .i f]) (instH nego_Theirs_in [.li n_want_k, .ls n_want_v, .li n_like_k, .ls n_like_v, .li n_mine_k, .ls n_mine_v, .li n_theirs_k, .ls n_theirs_v, .li n_due0, .ls n_due1, .b n_server, .i f]) := by kernel_rfl
def nego_Theirs_S : List Leaf → Option (List Leaf) := fun ls => un_li ls fun n_want_k rr => un_ls rr fun n_want_v rr => un_li rr fun n_like_k rr => un_ls rr fun n_like_v rr => un_li rr fun n_mine_k rr => un_ls rr fun n_mine_v rr => un_li rr fun n_theirs_k rr => un_ls rr fun n_theirs_v rr => un_li rr fun n_due0 rr => un_ls rr fun n_due1 rr => un_b rr fun n_server rr => un_i rr fun f rr => un_nil rr (nego_Theirs n_want_k n_want_v n_like_k n_like_v n_mine_k n_mine_v n_theirs_k n_theirs_v n_due0 n_due1 n_server f)
def nego_Theirs_SC : Tld := fun ls k' => un_li ls fun n_want_k rr => un_ls rr fun n_want_v rr => un_li rr fun n_like_k rr => un_ls rr fun n_like_v rr => un_li rr fun n_mine_k rr => un_ls rr fun n_mine_v rr => un_li rr fun n_theirs_k rr => un_ls rr fun n_theirs_v rr => un_li rr fun n_due0 rr => un_ls rr fun n_due1 rr => un_b rr fun n_server rr => un_i rr fun f rr => un_nil rr (out (nego_Theirs n_want_k n_want_v n_like_k n_like_v n_mine_k n_mine_v n_theirs_k n_theirs_v n_due0 n_due1 n_server f) k')
theorem nego_Theirs_Se (n_want_k : List Int) (n_want_v : List ByteArray) (n_like_k : List Int) (n_like_v : List ByteArray) (n_mine_k : List Int) (n_mine_v : List ByteArray) (n_theirs_k : List Int) (n_theirs_v : List ByteArray) (n_due0 : List Int) (n_due1 : List ByteArray) (n_server : Bool) (f : Int) : nego_Theirs_S [.li n_want_k, .ls n_want_v, .li n_like_k, .ls n_like_v, .li n_mine_k, .ls n_mine_v, .li n_theirs_k, .ls n_theirs_v, .li n_due0, .ls n_due1, .b n_server, .i f] = nego_Theirs n_want_k n_want_v n_like_k n_like_v n_mine_k n_mine_v n_theirs_k n_theirs_v n_due0 n_due1 n_server f := by
  unfold nego_Theirs_S
  simp only [un_i_ev, un_b_ev, un_s_ev, un_li_ev, un_lb_ev, un_ls_ev, un_nil_ev]
theorem nego_Theirs_says : Says nego_Theirs_SC nego_Theirs_S := by
  intro β ls' k' r' h'
  unfold nego_Theirs_SC at h'
  obtain ⟨n_want_k, l'1, rfl, h'1⟩ := un_li_some.1 h'
  obtain ⟨n_want_v, l'2, rfl, h'2⟩ := un_ls_some.1 h'1
  obtain ⟨n_like_k, l'3, rfl, h'3⟩ := un_li_some.1 h'2
  obtain ⟨n_like_v, l'4, rfl, h'4⟩ := un_ls_some.1 h'3
  obtain ⟨n_mine_k, l'5, rfl, h'5⟩ := un_li_some.1 h'4
  obtain ⟨n_mine_v, l'6, rfl, h'6⟩ := un_ls_some.1 h'5
  obtain ⟨n_theirs_k, l'7, rfl, h'7⟩ := un_li_some.1 h'6
  obtain ⟨n_theirs_v, l'8, rfl, h'8⟩ := un_ls_some.1 h'7
  obtain ⟨n_due0, l'9, rfl, h'9⟩ := un_li_some.1 h'8
  obtain ⟨n_due1, l'10, rfl, h'10⟩ := un_ls_some.1 h'9
  obtain ⟨n_server, l'11, rfl, h'11⟩ := un_b_some.1 h'10
  obtain ⟨f, l'12, rfl, h'12⟩ := un_i_some.1 h'11
  obtain ⟨rfl, h'Z⟩ := un_nil_some.1 h'12
  obtain ⟨l', a', b'⟩ := out_some.1 h'Z
  exact ⟨l', (nego_Theirs_Se n_want_k n_want_v n_like_k n_like_v n_mine_k n_mine_v n_theirs_k n_theirs_v n_due0 n_due1 n_server f).trans a', b'⟩
theorem nego_Theirs_c : FnC Go.Proofs.Tryz.prog 26 true 2 6 nego_Theirs_in nego_Theirs_out nego_Theirs_S := by
  refine fn_ok (Λ := nego_Theirs_Λ) mixed tab_ok g35 Go.Proofs.Tryz.func26 (by kernel_rfl) (body := fb Go.Proofs.Tryz.f26) rfl (ts := Go.Proofs.Tryz.f26.results.toList) rfl (cuts := []) (by kernel_rfl) (Nat.le_of_ble_eq_true (by kernel_rfl)) (by kernel_rfl) (rt := .w (.at (.str))) rfl ?_ ?_
  · intro ls' r' h'
    unfold nego_Theirs_S at h'
    obtain ⟨n_want_k, l'1, rfl, h'1⟩ := un_li_some.1 h'
    obtain ⟨n_want_v, l'2, rfl, h'2⟩ := un_ls_some.1 h'1
    obtain ⟨n_like_k, l'3, rfl, h'3⟩ := un_li_some.1 h'2
    obtain ⟨n_like_v, l'4, rfl, h'4⟩ := un_ls_some.1 h'3
    obtain ⟨n_mine_k, l'5, rfl, h'5⟩ := un_li_some.1 h'4
    obtain ⟨n_mine_v, l'6, rfl, h'6⟩ := un_ls_some.1 h'5
    obtain ⟨n_theirs_k, l'7, rfl, h'7⟩ := un_li_some.1 h'6
    obtain ⟨n_theirs_v, l'8, rfl, h'8⟩ := un_ls_some.1 h'7
    obtain ⟨n_due0, l'9, rfl, h'9⟩ := un_li_some.1 h'8
    obtain ⟨n_due1, l'10, rfl, h'10⟩ := un_ls_some.1 h'9
    obtain ⟨n_server, l'11, rfl, h'11⟩ := un_b_some.1 h'10
    obtain ⟨f, l'12, rfl, h'12⟩ := un_i_some.1 h'11
    obtain ⟨rfl, h'Z⟩ := un_nil_some.1 h'12
    exact (nego_Theirs_e n_want_k n_want_v n_like_k n_like_v n_mine_k n_mine_v n_theirs_k n_theirs_v n_due0 n_due1 n_server f).symm.trans h'Z
  · intro E w0 ws ρ0 hk b hb
    rw [show loopsOf (fb Go.Proofs.Tryz.f26) = [] by kernel_rfl] at hb
    cases hb
noncomputable def G36 : Env := G35.addP 26 2 nego_Theirs_in nego_Theirs_out nego_Theirs_SC
theorem g36 : EnvOk Go.Proofs.Tryz.prog G36 := EnvOk.addP g35 nego_Theirs_c nego_Theirs_says

-- ### nego_Done: function 20
def nego_Done_in : Tm := ⟨[.cells 102 [.bool, .map 1, .map 2, .map 3, .map 4, .all 5 2], .map .i64 (.str), .map .i64 (.str), .map .i64 (.str), .map .i64 (.str), .row 49 2 [.int .i64, .str]], [(0, .w (.at (.ptr 0 0)))]⟩
def nego_Done_out : Tm := ⟨[.dead, .dead, .dead, .dead, .dead, .dead], [(0, .w (.at (.bool)))]⟩

def nego_Done_Λd : Loops := Loops.none
def nego_Done_Λ : Loops := nego_Done_Λd 

theorem nego_Done_e (n_want_k : List Int) (n_want_v : List ByteArray) (n_like_k : List Int) (n_like_v : List ByteArray) (n_mine_k : List Int) (n_mine_v : List ByteArray) (n_theirs_k : List Int) (n_theirs_v : List ByteArray) (n_due0 : List Int) (n_due1 : List ByteArray) (n_server : Bool) : nego_Done n_want_k n_want_v n_like_k n_like_v n_mine_k n_mine_v n_theirs_k n_theirs_v n_due0 n_due1 n_server = den G36 nego_Done_Λ true tab Go.Proofs.Tryz.f20.ntmps (fun fr H => finish tab 6 Go.Proofs.Tryz.f20.results.toList nego_Done_out [] fr H some) (fun _ _ _ => none) (fun fr H => finish tab 6 Go.Proofs.Tryz.f20.results.toList nego_Done_out [] fr H some) 10000 [.code (fb Go.Proofs.Tryz.f20)] (instFr nego_Done_in [.li n_want_k, .ls n_want_v, .li n_like_k, .ls n_like_v, .li n_mine_k, .ls n_mine_v, .li n_theirs_k, .ls n_theirs_v, .li n_due0, .ls n_due1, .b n_server]) (instH nego_Done_in [.li n_want_k, .ls n_want_v, .li n_like_k, .ls n_like_v, .li n_mine_k, .ls n_mine_v, .li n_theirs_k, .ls n_theirs_v, .li n_due0, .ls n_due1, .b n_server]) := by kernel_rfl
def nego_Done_S : List Leaf → Option (List Leaf) := fun ls => un_li ls fun n_want_k rr => un_ls rr fun n_want_v rr => un_li rr fun n_like_k rr => un_ls rr fun n_like_v rr => un_li rr fun n_mine_k rr => un_ls rr fun n_mine_v rr => un_li rr fun n_theirs_k rr => un_ls rr fun n_theirs_v rr => un_li rr fun n_due0 rr => un_ls rr fun n_due1 rr => un_b rr fun n_server rr => un_nil rr (nego_Done n_want_k n_want_v n_like_k n_like_v n_mine_k n_mine_v n_theirs_k n_theirs_v n_due0 n_due1 n_server)
def nego_Done_SC : Tld := fun ls k' => un_li ls fun n_want_k rr => un_ls rr fun n_want_v rr => un_li rr fun n_like_k rr => un_ls rr fun n_like_v rr => un_li rr fun n_mine_k rr => un_ls rr fun n_mine_v rr => un_li rr fun n_theirs_k rr => un_ls rr fun n_theirs_v rr => un_li rr fun n_due0 rr => un_ls rr fun n_due1 rr => un_b rr fun n_server rr => un_nil rr (out (nego_Done n_want_k n_want_v n_like_k n_like_v n_mine_k n_mine_v n_theirs_k n_theirs_v n_due0 n_due1 n_server) k')
theorem nego_Done_Se (n_want_k : List Int) (n_want_v : List ByteArray) (n_like_k : List Int) (n_like_v : List ByteArray) (n_mine_k : List Int) (n_mine_v : List ByteArray) (n_theirs_k : List Int) (n_theirs_v : List ByteArray) (n_due0 : List Int) (n_due1 : List ByteArray) (n_server : Bool) : nego_Done_S [.li n_want_k, .ls n_want_v, .li n_like_k, .ls n_like_v, .li n_mine_k, .ls n_mine_v, .li n_theirs_k, .ls n_theirs_v, .li n_due0, .ls n_due1, .b n_server] = nego_Done n_want_k n_want_v n_like_k n_like_v n_mine_k n_mine_v n_theirs_k n_theirs_v n_due0 n_due1 n_server := by
  unfold nego_Done_S
  simp only [un_i_ev, un_b_ev, un_s_ev, un_li_ev, un_lb_ev, un_ls_ev, un_nil_ev]
theorem nego_Done_says : Says nego_Done_SC nego_Done_S := by
  intro β ls' k' r' h'
  unfold nego_Done_SC at h'
  obtain ⟨n_want_k, l'1, rfl, h'1⟩ := un_li_some.1 h'
  obtain ⟨n_want_v, l'2, rfl, h'2⟩ := un_ls_some.1 h'1
  obtain ⟨n_like_k, l'3, rfl, h'3⟩ := un_li_some.1 h'2
  obtain ⟨n_like_v, l'4, rfl, h'4⟩ := un_ls_some.1 h'3
  obtain ⟨n_mine_k, l'5, rfl, h'5⟩ := un_li_some.1 h'4
  obtain ⟨n_mine_v, l'6, rfl, h'6⟩ := un_ls_some.1 h'5
  obtain ⟨n_theirs_k, l'7, rfl, h'7⟩ := un_li_some.1 h'6
  obtain ⟨n_theirs_v, l'8, rfl, h'8⟩ := un_ls_some.1 h'7
  obtain ⟨n_due0, l'9, rfl, h'9⟩ := un_li_some.1 h'8
  obtain ⟨n_due1, l'10, rfl, h'10⟩ := un_ls_some.1 h'9
  obtain ⟨n_server, l'11, rfl, h'11⟩ := un_b_some.1 h'10
  obtain ⟨rfl, h'Z⟩ := un_nil_some.1 h'11
  obtain ⟨l', a', b'⟩ := out_some.1 h'Z
  exact ⟨l', (nego_Done_Se n_want_k n_want_v n_like_k n_like_v n_mine_k n_mine_v n_theirs_k n_theirs_v n_due0 n_due1 n_server).trans a', b'⟩
theorem nego_Done_c : FnC Go.Proofs.Tryz.prog 20 true 1 6 nego_Done_in nego_Done_out nego_Done_S := by
  refine fn_ok (Λ := nego_Done_Λ) mixed tab_ok g36 Go.Proofs.Tryz.func20 (by kernel_rfl) (body := fb Go.Proofs.Tryz.f20) rfl (ts := Go.Proofs.Tryz.f20.results.toList) rfl (cuts := []) (by kernel_rfl) (Nat.le_of_ble_eq_true (by kernel_rfl)) (by kernel_rfl) (rt := .w (.at (.bool))) rfl ?_ ?_
  · intro ls' r' h'
    unfold nego_Done_S at h'
    obtain ⟨n_want_k, l'1, rfl, h'1⟩ := un_li_some.1 h'
    obtain ⟨n_want_v, l'2, rfl, h'2⟩ := un_ls_some.1 h'1
    obtain ⟨n_like_k, l'3, rfl, h'3⟩ := un_li_some.1 h'2
    obtain ⟨n_like_v, l'4, rfl, h'4⟩ := un_ls_some.1 h'3
    obtain ⟨n_mine_k, l'5, rfl, h'5⟩ := un_li_some.1 h'4
    obtain ⟨n_mine_v, l'6, rfl, h'6⟩ := un_ls_some.1 h'5
    obtain ⟨n_theirs_k, l'7, rfl, h'7⟩ := un_li_some.1 h'6
    obtain ⟨n_theirs_v, l'8, rfl, h'8⟩ := un_ls_some.1 h'7
    obtain ⟨n_due0, l'9, rfl, h'9⟩ := un_li_some.1 h'8
    obtain ⟨n_due1, l'10, rfl, h'10⟩ := un_ls_some.1 h'9
    obtain ⟨n_server, l'11, rfl, h'11⟩ := un_b_some.1 h'10
    obtain ⟨rfl, h'Z⟩ := un_nil_some.1 h'11
    exact (nego_Done_e n_want_k n_want_v n_like_k n_like_v n_mine_k n_mine_v n_theirs_k n_theirs_v n_due0 n_due1 n_server).symm.trans h'Z
  · intro E w0 ws ρ0 hk b hb
    rw [show loopsOf (fb Go.Proofs.Tryz.f20) = [] by kernel_rfl] at hb
    cases hb
noncomputable def G37 : Env := G36.addP 20 1 nego_Done_in nego_Done_out nego_Done_SC
theorem g37 : EnvOk Go.Proofs.Tryz.prog G37 := EnvOk.addP g36 nego_Done_c nego_Done_says
end Go.Sx.T

