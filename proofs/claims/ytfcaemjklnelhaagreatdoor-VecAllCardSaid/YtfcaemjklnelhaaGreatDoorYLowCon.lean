import Derived.Test.YtfcaemjklnelhaaGreatDoorYLowSpec
import Derived.Test.YtfcaemjklnelhaaGreatDoorYTab
set_option linter.all false
namespace Go.Sx.T
open Go Go.Sx Go.Proofs
set_option maxRecDepth 100000
def G0 : Env := Env.none
theorem g0 : EnvOk Go.Proofs.Tryz.prog G0 := EnvOk.none
noncomputable def G1 : Env := G0.addX 117
theorem g1 : EnvOk Go.Proofs.Tryz.prog G1 := EnvOk.addX g0 Go.Proofs.Tryz.func117 (by kernel_rfl) (by kernel_rfl) (by kernel_rfl) (by kernel_rfl)

-- ### seq_Of: function 50
def seq_Of_in : Tm := ⟨[], [(0, .w (.at (.int .u64)))]⟩
def seq_Of_out : Tm := ⟨[], [(0, .w (.at (.int .u64)))]⟩

def seq_Of_Λd : Loops := Loops.none
def seq_Of_Λ : Loops := seq_Of_Λd 

theorem seq_Of_e (n2 : Int) : seq_Of n2 = den G1 seq_Of_Λ true tab Go.Proofs.Tryz.f50.ntmps (fun fr H => finish tab 0 Go.Proofs.Tryz.f50.results.toList seq_Of_out [] fr H some) (fun _ _ _ => none) (fun fr H => finish tab 0 Go.Proofs.Tryz.f50.results.toList seq_Of_out [] fr H some) 10000 [.code (fb Go.Proofs.Tryz.f50)] (instFr seq_Of_in [.i n2]) (instH seq_Of_in [.i n2]) := by kernel_rfl
def seq_Of_S : List Leaf → Option (List Leaf) := fun ls => un_i ls fun n2 rr => un_nil rr (seq_Of n2)
def seq_Of_SC : Tld := fun ls k' => un_i ls fun n2 rr => un_nil rr (out (seq_Of n2) k')
theorem seq_Of_Se (n2 : Int) : seq_Of_S [.i n2] = seq_Of n2 := by
  unfold seq_Of_S
  simp only [un_i_ev, un_b_ev, un_s_ev, un_li_ev, un_lb_ev, un_ls_ev, un_nil_ev]
theorem seq_Of_says : Says seq_Of_SC seq_Of_S := by
  intro β ls' k' r' h'
  unfold seq_Of_SC at h'
  obtain ⟨n2, l'1, rfl, h'1⟩ := un_i_some.1 h'
  obtain ⟨rfl, h'Z⟩ := un_nil_some.1 h'1
  obtain ⟨l', a', b'⟩ := out_some.1 h'Z
  exact ⟨l', (seq_Of_Se n2).trans a', b'⟩
theorem seq_Of_c : FnC Go.Proofs.Tryz.prog 50 true 1 0 seq_Of_in seq_Of_out seq_Of_S := by
  refine fn_ok (Λ := seq_Of_Λ) mixed tab_ok g1 Go.Proofs.Tryz.func50 (by kernel_rfl) (body := fb Go.Proofs.Tryz.f50) rfl (ts := Go.Proofs.Tryz.f50.results.toList) rfl (cuts := []) (by kernel_rfl) (Nat.le_of_ble_eq_true (by kernel_rfl)) (by kernel_rfl) (rt := .w (.at (.int .u64))) rfl ?_ ?_
  · intro ls' r' h'
    unfold seq_Of_S at h'
    obtain ⟨n2, l'1, rfl, h'1⟩ := un_i_some.1 h'
    obtain ⟨rfl, h'Z⟩ := un_nil_some.1 h'1
    exact (seq_Of_e n2).symm.trans h'Z
  · intro E w0 ws ρ0 hk b hb
    rw [show loopsOf (fb Go.Proofs.Tryz.f50) = [] by kernel_rfl] at hb
    cases hb
noncomputable def G2 : Env := G1.addP 50 1 seq_Of_in seq_Of_out seq_Of_SC
theorem g2 : EnvOk Go.Proofs.Tryz.prog G2 := EnvOk.addP g1 seq_Of_c seq_Of_says

-- ### seq_Diff: function 52
def seq_Diff_in : Tm := ⟨[], [(0, .w (.at (.int .u64))), (1, .w (.at (.int .u64)))]⟩
def seq_Diff_out : Tm := ⟨[], [(0, .w (.at (.int .i64)))]⟩

def seq_Diff_Λd : Loops := Loops.none
def seq_Diff_Λ : Loops := seq_Diff_Λd 

theorem seq_Diff_e (a : Int) (b : Int) : seq_Diff a b = den G2 seq_Diff_Λ true tab Go.Proofs.Tryz.f52.ntmps (fun fr H => finish tab 0 Go.Proofs.Tryz.f52.results.toList seq_Diff_out [] fr H some) (fun _ _ _ => none) (fun fr H => finish tab 0 Go.Proofs.Tryz.f52.results.toList seq_Diff_out [] fr H some) 10000 [.code (fb Go.Proofs.Tryz.f52)] (instFr seq_Diff_in [.i a, .i b]) (instH seq_Diff_in [.i a, .i b]) := by kernel_rfl
def seq_Diff_S : List Leaf → Option (List Leaf) := fun ls => un_i ls fun a rr => un_i rr fun b rr => un_nil rr (seq_Diff a b)
def seq_Diff_SC : Tld := fun ls k' => un_i ls fun a rr => un_i rr fun b rr => un_nil rr (out (seq_Diff a b) k')
theorem seq_Diff_Se (a : Int) (b : Int) : seq_Diff_S [.i a, .i b] = seq_Diff a b := by
  unfold seq_Diff_S
  simp only [un_i_ev, un_b_ev, un_s_ev, un_li_ev, un_lb_ev, un_ls_ev, un_nil_ev]
theorem seq_Diff_says : Says seq_Diff_SC seq_Diff_S := by
  intro β ls' k' r' h'
  unfold seq_Diff_SC at h'
  obtain ⟨a, l'1, rfl, h'1⟩ := un_i_some.1 h'
  obtain ⟨b, l'2, rfl, h'2⟩ := un_i_some.1 h'1
  obtain ⟨rfl, h'Z⟩ := un_nil_some.1 h'2
  obtain ⟨l', a', b'⟩ := out_some.1 h'Z
  exact ⟨l', (seq_Diff_Se a b).trans a', b'⟩
theorem seq_Diff_c : FnC Go.Proofs.Tryz.prog 52 true 2 0 seq_Diff_in seq_Diff_out seq_Diff_S := by
  refine fn_ok (Λ := seq_Diff_Λ) mixed tab_ok g2 Go.Proofs.Tryz.func52 (by kernel_rfl) (body := fb Go.Proofs.Tryz.f52) rfl (ts := Go.Proofs.Tryz.f52.results.toList) rfl (cuts := []) (by kernel_rfl) (Nat.le_of_ble_eq_true (by kernel_rfl)) (by kernel_rfl) (rt := .w (.at (.int .i64))) rfl ?_ ?_
  · intro ls' r' h'
    unfold seq_Diff_S at h'
    obtain ⟨a, l'1, rfl, h'1⟩ := un_i_some.1 h'
    obtain ⟨b, l'2, rfl, h'2⟩ := un_i_some.1 h'1
    obtain ⟨rfl, h'Z⟩ := un_nil_some.1 h'2
    exact (seq_Diff_e a b).symm.trans h'Z
  · intro E w0 ws ρ0 hk b hb
    rw [show loopsOf (fb Go.Proofs.Tryz.f52) = [] by kernel_rfl] at hb
    cases hb
noncomputable def G3 : Env := G2.addP 52 2 seq_Diff_in seq_Diff_out seq_Diff_SC
theorem g3 : EnvOk Go.Proofs.Tryz.prog G3 := EnvOk.addP g2 seq_Diff_c seq_Diff_says

-- ### seq_Less: function 53
def seq_Less_in : Tm := ⟨[], [(0, .w (.at (.int .u64))), (1, .w (.at (.int .u64)))]⟩
def seq_Less_out : Tm := ⟨[], [(0, .w (.at (.bool)))]⟩

def seq_Less_Λd : Loops := Loops.none
def seq_Less_Λ : Loops := seq_Less_Λd 

theorem seq_Less_e (a : Int) (b : Int) : seq_Less a b = den G3 seq_Less_Λ true tab Go.Proofs.Tryz.f53.ntmps (fun fr H => finish tab 0 Go.Proofs.Tryz.f53.results.toList seq_Less_out [] fr H some) (fun _ _ _ => none) (fun fr H => finish tab 0 Go.Proofs.Tryz.f53.results.toList seq_Less_out [] fr H some) 10000 [.code (fb Go.Proofs.Tryz.f53)] (instFr seq_Less_in [.i a, .i b]) (instH seq_Less_in [.i a, .i b]) := by kernel_rfl
def seq_Less_S : List Leaf → Option (List Leaf) := fun ls => un_i ls fun a rr => un_i rr fun b rr => un_nil rr (seq_Less a b)
def seq_Less_SC : Tld := fun ls k' => un_i ls fun a rr => un_i rr fun b rr => un_nil rr (out (seq_Less a b) k')
theorem seq_Less_Se (a : Int) (b : Int) : seq_Less_S [.i a, .i b] = seq_Less a b := by
  unfold seq_Less_S
  simp only [un_i_ev, un_b_ev, un_s_ev, un_li_ev, un_lb_ev, un_ls_ev, un_nil_ev]
theorem seq_Less_says : Says seq_Less_SC seq_Less_S := by
  intro β ls' k' r' h'
  unfold seq_Less_SC at h'
  obtain ⟨a, l'1, rfl, h'1⟩ := un_i_some.1 h'
  obtain ⟨b, l'2, rfl, h'2⟩ := un_i_some.1 h'1
  obtain ⟨rfl, h'Z⟩ := un_nil_some.1 h'2
  obtain ⟨l', a', b'⟩ := out_some.1 h'Z
  exact ⟨l', (seq_Less_Se a b).trans a', b'⟩
theorem seq_Less_c : FnC Go.Proofs.Tryz.prog 53 true 2 0 seq_Less_in seq_Less_out seq_Less_S := by
  refine fn_ok (Λ := seq_Less_Λ) mixed tab_ok g3 Go.Proofs.Tryz.func53 (by kernel_rfl) (body := fb Go.Proofs.Tryz.f53) rfl (ts := Go.Proofs.Tryz.f53.results.toList) rfl (cuts := []) (by kernel_rfl) (Nat.le_of_ble_eq_true (by kernel_rfl)) (by kernel_rfl) (rt := .w (.at (.bool))) rfl ?_ ?_
  · intro ls' r' h'
    unfold seq_Less_S at h'
    obtain ⟨a, l'1, rfl, h'1⟩ := un_i_some.1 h'
    obtain ⟨b, l'2, rfl, h'2⟩ := un_i_some.1 h'1
    obtain ⟨rfl, h'Z⟩ := un_nil_some.1 h'2
    exact (seq_Less_e a b).symm.trans h'Z
  · intro E w0 ws ρ0 hk b hb
    rw [show loopsOf (fb Go.Proofs.Tryz.f53) = [] by kernel_rfl] at hb
    cases hb
noncomputable def G4 : Env := G3.addP 53 2 seq_Less_in seq_Less_out seq_Less_SC
theorem g4 : EnvOk Go.Proofs.Tryz.prog G4 := EnvOk.addP g3 seq_Less_c seq_Less_says

-- ### seq_Add: function 56
def seq_Add_in : Tm := ⟨[], [(0, .w (.at (.int .u64))), (1, .w (.at (.int .i64)))]⟩
def seq_Add_out : Tm := ⟨[], [(0, .w (.at (.int .u64)))]⟩

def seq_Add_Λd : Loops := Loops.none
def seq_Add_Λ : Loops := seq_Add_Λd 

theorem seq_Add_e (s : Int) (n2 : Int) : seq_Add s n2 = den G4 seq_Add_Λ true tab Go.Proofs.Tryz.f56.ntmps (fun fr H => finish tab 0 Go.Proofs.Tryz.f56.results.toList seq_Add_out [] fr H some) (fun _ _ _ => none) (fun fr H => finish tab 0 Go.Proofs.Tryz.f56.results.toList seq_Add_out [] fr H some) 10000 [.code (fb Go.Proofs.Tryz.f56)] (instFr seq_Add_in [.i s, .i n2]) (instH seq_Add_in [.i s, .i n2]) := by kernel_rfl
def seq_Add_S : List Leaf → Option (List Leaf) := fun ls => un_i ls fun s rr => un_i rr fun n2 rr => un_nil rr (seq_Add s n2)
def seq_Add_SC : Tld := fun ls k' => un_i ls fun s rr => un_i rr fun n2 rr => un_nil rr (out (seq_Add s n2) k')
theorem seq_Add_Se (s : Int) (n2 : Int) : seq_Add_S [.i s, .i n2] = seq_Add s n2 := by
  unfold seq_Add_S
  simp only [un_i_ev, un_b_ev, un_s_ev, un_li_ev, un_lb_ev, un_ls_ev, un_nil_ev]
theorem seq_Add_says : Says seq_Add_SC seq_Add_S := by
  intro β ls' k' r' h'
  unfold seq_Add_SC at h'
  obtain ⟨s, l'1, rfl, h'1⟩ := un_i_some.1 h'
  obtain ⟨n2, l'2, rfl, h'2⟩ := un_i_some.1 h'1
  obtain ⟨rfl, h'Z⟩ := un_nil_some.1 h'2
  obtain ⟨l', a', b'⟩ := out_some.1 h'Z
  exact ⟨l', (seq_Add_Se s n2).trans a', b'⟩
theorem seq_Add_c : FnC Go.Proofs.Tryz.prog 56 true 2 0 seq_Add_in seq_Add_out seq_Add_S := by
  refine fn_ok (Λ := seq_Add_Λ) mixed tab_ok g4 Go.Proofs.Tryz.func56 (by kernel_rfl) (body := fb Go.Proofs.Tryz.f56) rfl (ts := Go.Proofs.Tryz.f56.results.toList) rfl (cuts := []) (by kernel_rfl) (Nat.le_of_ble_eq_true (by kernel_rfl)) (by kernel_rfl) (rt := .w (.at (.int .u64))) rfl ?_ ?_
  · intro ls' r' h'
    unfold seq_Add_S at h'
    obtain ⟨s, l'1, rfl, h'1⟩ := un_i_some.1 h'
    obtain ⟨n2, l'2, rfl, h'2⟩ := un_i_some.1 h'1
    obtain ⟨rfl, h'Z⟩ := un_nil_some.1 h'2
    exact (seq_Add_e s n2).symm.trans h'Z
  · intro E w0 ws ρ0 hk b hb
    rw [show loopsOf (fb Go.Proofs.Tryz.f56) = [] by kernel_rfl] at hb
    cases hb
noncomputable def G5 : Env := G4.addP 56 2 seq_Add_in seq_Add_out seq_Add_SC
theorem g5 : EnvOk Go.Proofs.Tryz.prog G5 := EnvOk.addP g4 seq_Add_c seq_Add_says

-- ### got_Put_1: function 55
def got_Put_1_in : Tm := ⟨[.cells 55 [.int .u64]], [(0, .w (.at (.int .u64))), (1, .w (.at (.ptr 0 0)))]⟩
def got_Put_1_out : Tm := ⟨[.dead], [(0, .w (.at (.bool)))]⟩

def got_Put_1_Λd : Loops := Loops.none
def got_Put_1_Λ : Loops := got_Put_1_Λd 

theorem got_Put_1_e (s : Int) (n2 : Int) : got_Put_1 s n2 = den G5 got_Put_1_Λ true tab Go.Proofs.Tryz.f55.ntmps (fun fr H => finish tab 1 Go.Proofs.Tryz.f55.results.toList got_Put_1_out [] fr H some) (fun _ _ _ => none) (fun fr H => finish tab 1 Go.Proofs.Tryz.f55.results.toList got_Put_1_out [] fr H some) 10000 [.code (fb Go.Proofs.Tryz.f55)] (instFr got_Put_1_in [.i s, .i n2]) (instH got_Put_1_in [.i s, .i n2]) := by kernel_rfl
def got_Put_1_S : List Leaf → Option (List Leaf) := fun ls => un_i ls fun s rr => un_i rr fun n2 rr => un_nil rr (got_Put_1 s n2)
def got_Put_1_SC : Tld := fun ls k' => un_i ls fun s rr => un_i rr fun n2 rr => un_nil rr (out (got_Put_1 s n2) k')
theorem got_Put_1_Se (s : Int) (n2 : Int) : got_Put_1_S [.i s, .i n2] = got_Put_1 s n2 := by
  unfold got_Put_1_S
  simp only [un_i_ev, un_b_ev, un_s_ev, un_li_ev, un_lb_ev, un_ls_ev, un_nil_ev]
theorem got_Put_1_says : Says got_Put_1_SC got_Put_1_S := by
  intro β ls' k' r' h'
  unfold got_Put_1_SC at h'
  obtain ⟨s, l'1, rfl, h'1⟩ := un_i_some.1 h'
  obtain ⟨n2, l'2, rfl, h'2⟩ := un_i_some.1 h'1
  obtain ⟨rfl, h'Z⟩ := un_nil_some.1 h'2
  obtain ⟨l', a', b'⟩ := out_some.1 h'Z
  exact ⟨l', (got_Put_1_Se s n2).trans a', b'⟩
theorem got_Put_1_c : FnC Go.Proofs.Tryz.prog 55 true 2 1 got_Put_1_in got_Put_1_out got_Put_1_S := by
  refine fn_ok (Λ := got_Put_1_Λ) mixed tab_ok g5 Go.Proofs.Tryz.func55 (by kernel_rfl) (body := fb Go.Proofs.Tryz.f55) rfl (ts := Go.Proofs.Tryz.f55.results.toList) rfl (cuts := []) (by kernel_rfl) (Nat.le_of_ble_eq_true (by kernel_rfl)) (by kernel_rfl) (rt := .w (.at (.bool))) rfl ?_ ?_
  · intro ls' r' h'
    unfold got_Put_1_S at h'
    obtain ⟨s, l'1, rfl, h'1⟩ := un_i_some.1 h'
    obtain ⟨n2, l'2, rfl, h'2⟩ := un_i_some.1 h'1
    obtain ⟨rfl, h'Z⟩ := un_nil_some.1 h'2
    exact (got_Put_1_e s n2).symm.trans h'Z
  · intro E w0 ws ρ0 hk b hb
    rw [show loopsOf (fb Go.Proofs.Tryz.f55) = [] by kernel_rfl] at hb
    cases hb
noncomputable def G6 : Env := G5.addP 55 2 got_Put_1_in got_Put_1_out got_Put_1_SC
theorem g6 : EnvOk Go.Proofs.Tryz.prog G6 := EnvOk.addP g5 got_Put_1_c got_Put_1_says
end Go.Sx.T

