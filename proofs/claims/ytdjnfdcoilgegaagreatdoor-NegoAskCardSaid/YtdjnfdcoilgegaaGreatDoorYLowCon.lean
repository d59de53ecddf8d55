import Derived.Test.YtdjnfdcoilgegaaGreatDoorYLowSpec
import Derived.Test.YtdjnfdcoilgegaaGreatDoorYTab
set_option linter.all false
namespace Go.Sx.T
open Go Go.Sx Go.Proofs
set_option maxRecDepth 100000
def G0 : Env := Env.none
theorem g0 : EnvOk Go.Proofs.Tryz.prog G0 := EnvOk.none
noncomputable def G1 : Env := G0.addX 104
theorem g1 : EnvOk Go.Proofs.Tryz.prog G1 := EnvOk.addX g0 Go.Proofs.Tryz.func104 (by kernel_rfl) (by kernel_rfl) (by kernel_rfl) (by kernel_rfl)
noncomputable def G2 : Env := G1.addI 103
theorem g2 : EnvOk Go.Proofs.Tryz.prog G2 := EnvOk.addI g1 Go.Proofs.Tryz.func103 (by kernel_rfl) (by kernel_rfl) (by kernel_rfl) (by kernel_rfl)

-- ### seq_Of: function 61
def seq_Of_in : Tm := ⟨[], [(0, .w (.at (.int .u64)))]⟩
def seq_Of_out : Tm := ⟨[], [(0, .w (.at (.int .u64)))]⟩

def seq_Of_Λd : Loops := Loops.none
def seq_Of_Λ : Loops := seq_Of_Λd 

theorem seq_Of_e (n2 : Int) : seq_Of n2 = den G2 seq_Of_Λ true tab Go.Proofs.Tryz.f61.ntmps (fun fr H => finish tab 0 Go.Proofs.Tryz.f61.results.toList seq_Of_out [] fr H some) (fun _ _ _ => none) (fun fr H => finish tab 0 Go.Proofs.Tryz.f61.results.toList seq_Of_out [] fr H some) 10000 [.code (fb Go.Proofs.Tryz.f61)] (instFr seq_Of_in [.i n2]) (instH seq_Of_in [.i n2]) := by kernel_rfl
def seq_Of_S : List Leaf → Option (List Leaf) := fun ls => un_i ls fun n2 rr => un_nil rr (seq_Of n2)
def seq_Of_SC : Tld := fun ls k' => un_i ls fun n2 rr => un_nil rr (out (seq_Of n2) k')
theorem seq_Of_Se (n2 : Int) : seq_Of_S [.i n2] = seq_Of n2 := by
  unfold seq_Of_S
  simp only [un_i_ev, un_b_ev, un_s_ev, un_li_ev, un_lb_ev, un_ls_ev, un_nil_ev]
theorem seq_Of_says : Says seq_Of_SC seq_Of_S := by
  intro β ls' k' r' h'
  unfold seq_Of_SC at h'
  obtain ⟨n2, l'1, rfl, h'1⟩ := un_i_some.1 h'
  obtain ⟨rfl, h'Z⟩ := un_nil_some.1 h'1
  obtain ⟨l', a', b'⟩ := out_some.1 h'Z
  exact ⟨l', (seq_Of_Se n2).trans a', b'⟩
theorem seq_Of_c : FnC Go.Proofs.Tryz.prog 61 true 1 0 seq_Of_in seq_Of_out seq_Of_S := by
  refine fn_ok (Λ := seq_Of_Λ) mixed tab_ok g2 Go.Proofs.Tryz.func61 (by kernel_rfl) (body := fb Go.Proofs.Tryz.f61) rfl (ts := Go.Proofs.Tryz.f61.results.toList) rfl (cuts := []) (by kernel_rfl) (Nat.le_of_ble_eq_true (by kernel_rfl)) (by kernel_rfl) (rt := .w (.at (.int .u64))) rfl ?_ ?_
  · intro ls' r' h'
    unfold seq_Of_S at h'
    obtain ⟨n2, l'1, rfl, h'1⟩ := un_i_some.1 h'
    obtain ⟨rfl, h'Z⟩ := un_nil_some.1 h'1
    exact (seq_Of_e n2).symm.trans h'Z
  · intro E w0 ws ρ0 hk b hb
    rw [show loopsOf (fb Go.Proofs.Tryz.f61) = [] by kernel_rfl] at hb
    cases hb
noncomputable def G3 : Env := G2.addP 61 1 seq_Of_in seq_Of_out seq_Of_SC
theorem g3 : EnvOk Go.Proofs.Tryz.prog G3 := EnvOk.addP g2 seq_Of_c seq_Of_says

-- ### seq_Diff: function 106
def seq_Diff_in : Tm := ⟨[], [(0, .w (.at (.int .u64))), (1, .w (.at (.int .u64)))]⟩
def seq_Diff_out : Tm := ⟨[], [(0, .w (.at (.int .i64)))]⟩

def seq_Diff_Λd : Loops := Loops.none
def seq_Diff_Λ : Loops := seq_Diff_Λd 

theorem seq_Diff_e (a : Int) (b : Int) : seq_Diff a b = den G3 seq_Diff_Λ true tab Go.Proofs.Tryz.f106.ntmps (fun fr H => finish tab 0 Go.Proofs.Tryz.f106.results.toList seq_Diff_out [] fr H some) (fun _ _ _ => none) (fun fr H => finish tab 0 Go.Proofs.Tryz.f106.results.toList seq_Diff_out [] fr H some) 10000 [.code (fb Go.Proofs.Tryz.f106)] (instFr seq_Diff_in [.i a, .i b]) (instH seq_Diff_in [.i a, .i b]) := by kernel_rfl
def seq_Diff_S : List Leaf → Option (List Leaf) := fun ls => un_i ls fun a rr => un_i rr fun b rr => un_nil rr (seq_Diff a b)
def seq_Diff_SC : Tld := fun ls k' => un_i ls fun a rr => un_i rr fun b rr => un_nil rr (out (seq_Diff a b) k')
theorem seq_Diff_Se (a : Int) (b : Int) : seq_Diff_S [.i a, .i b] = seq_Diff a b := by
  unfold seq_Diff_S
  simp only [un_i_ev, un_b_ev, un_s_ev, un_li_ev, un_lb_ev, un_ls_ev, un_nil_ev]
theorem seq_Diff_says : Says seq_Diff_SC seq_Diff_S := by
  intro β ls' k' r' h'
  unfold seq_Diff_SC at h'
  obtain ⟨a, l'1, rfl, h'1⟩ := un_i_some.1 h'
  obtain ⟨b, l'2, rfl, h'2⟩ := un_i_some.1 h'1
  obtain ⟨rfl, h'Z⟩ := un_nil_some.1 h'2
  obtain ⟨l', a', b'⟩ := out_some.1 h'Z
  exact ⟨l', (seq_Diff_Se a b).trans a', b'⟩
theorem seq_Diff_c : FnC Go.Proofs.Tryz.prog 106 true 2 0 seq_Diff_in seq_Diff_out seq_Diff_S := by
  refine fn_ok (Λ := seq_Diff_Λ) mixed tab_ok g3 Go.Proofs.Tryz.func106 (by kernel_rfl) (body := fb Go.Proofs.Tryz.f106) rfl (ts := Go.Proofs.Tryz.f106.results.toList) rfl (cuts := []) (by kernel_rfl) (Nat.le_of_ble_eq_true (by kernel_rfl)) (by kernel_rfl) (rt := .w (.at (.int .i64))) rfl ?_ ?_
  · intro ls' r' h'
    unfold seq_Diff_S at h'
    obtain ⟨a, l'1, rfl, h'1⟩ := un_i_some.1 h'
    obtain ⟨b, l'2, rfl, h'2⟩ := un_i_some.1 h'1
    obtain ⟨rfl, h'Z⟩ := un_nil_some.1 h'2
    exact (seq_Diff_e a b).symm.trans h'Z
  · intro E w0 ws ρ0 hk b hb
    rw [show loopsOf (fb Go.Proofs.Tryz.f106) = [] by kernel_rfl] at hb
    cases hb
noncomputable def G4 : Env := G3.addP 106 2 seq_Diff_in seq_Diff_out seq_Diff_SC
theorem g4 : EnvOk Go.Proofs.Tryz.prog G4 := EnvOk.addP g3 seq_Diff_c seq_Diff_says

-- ### seq_Less: function 77
def seq_Less_in : Tm := ⟨[], [(0, .w (.at (.int .u64))), (1, .w (.at (.int .u64)))]⟩
def seq_Less_out : Tm := ⟨[], [(0, .w (.at (.bool)))]⟩

def seq_Less_Λd : Loops := Loops.none
def seq_Less_Λ : Loops := seq_Less_Λd 

theorem seq_Less_e (a : Int) (b : Int) : seq_Less a b = den G4 seq_Less_Λ true tab Go.Proofs.Tryz.f77.ntmps (fun fr H => finish tab 0 Go.Proofs.Tryz.f77.results.toList seq_Less_out [] fr H some) (fun _ _ _ => none) (fun fr H => finish tab 0 Go.Proofs.Tryz.f77.results.toList seq_Less_out [] fr H some) 10000 [.code (fb Go.Proofs.Tryz.f77)] (instFr seq_Less_in [.i a, .i b]) (instH seq_Less_in [.i a, .i b]) := by kernel_rfl
def seq_Less_S : List Leaf → Option (List Leaf) := fun ls => un_i ls fun a rr => un_i rr fun b rr => un_nil rr (seq_Less a b)
def seq_Less_SC : Tld := fun ls k' => un_i ls fun a rr => un_i rr fun b rr => un_nil rr (out (seq_Less a b) k')
theorem seq_Less_Se (a : Int) (b : Int) : seq_Less_S [.i a, .i b] = seq_Less a b := by
  unfold seq_Less_S
  simp only [un_i_ev, un_b_ev, un_s_ev, un_li_ev, un_lb_ev, un_ls_ev, un_nil_ev]
theorem seq_Less_says : Says seq_Less_SC seq_Less_S := by
  intro β ls' k' r' h'
  unfold seq_Less_SC at h'
  obtain ⟨a, l'1, rfl, h'1⟩ := un_i_some.1 h'
  obtain ⟨b, l'2, rfl, h'2⟩ := un_i_some.1 h'1
  obtain ⟨rfl, h'Z⟩ := un_nil_some.1 h'2
  obtain ⟨l', a', b'⟩ := out_some.1 h'Z
  exact ⟨l', (seq_Less_Se a b).trans a', b'⟩
theorem seq_Less_c : FnC Go.Proofs.Tryz.prog 77 true 2 0 seq_Less_in seq_Less_out seq_Less_S := by
  refine fn_ok (Λ := seq_Less_Λ) mixed tab_ok g4 Go.Proofs.Tryz.func77 (by kernel_rfl) (body := fb Go.Proofs.Tryz.f77) rfl (ts := Go.Proofs.Tryz.f77.results.toList) rfl (cuts := []) (by kernel_rfl) (Nat.le_of_ble_eq_true (by kernel_rfl)) (by kernel_rfl) (rt := .w (.at (.bool))) rfl ?_ ?_
  · intro ls' r' h'
    unfold seq_Less_S at h'
    obtain ⟨a, l'1, rfl, h'1⟩ := un_i_some.1 h'
    obtain ⟨b, l'2, rfl, h'2⟩ := un_i_some.1 h'1
    obtain ⟨rfl, h'Z⟩ := un_nil_some.1 h'2
    exact (seq_Less_e a b).symm.trans h'Z
  · intro E w0 ws ρ0 hk b hb
    rw [show loopsOf (fb Go.Proofs.Tryz.f77) = [] by kernel_rfl] at hb
    cases hb
noncomputable def G5 : Env := G4.addP 77 2 seq_Less_in seq_Less_out seq_Less_SC
theorem g5 : EnvOk Go.Proofs.Tryz.prog G5 := EnvOk.addP g4 seq_Less_c seq_Less_says

-- ### seq_Add: function 60
def seq_Add_in : Tm := ⟨[], [(0, .w (.at (.int .u64))), (1, .w (.at (.int .i64)))]⟩
def seq_Add_out : Tm := ⟨[], [(0, .w (.at (.int .u64)))]⟩

def seq_Add_Λd : Loops := Loops.none
def seq_Add_Λ : Loops := seq_Add_Λd 

theorem seq_Add_e (s : Int) (n2 : Int) : seq_Add s n2 = den G5 seq_Add_Λ true tab Go.Proofs.Tryz.f60.ntmps (fun fr H => finish tab 0 Go.Proofs.Tryz.f60.results.toList seq_Add_out [] fr H some) (fun _ _ _ => none) (fun fr H => finish tab 0 Go.Proofs.Tryz.f60.results.toList seq_Add_out [] fr H some) 10000 [.code (fb Go.Proofs.Tryz.f60)] (instFr seq_Add_in [.i s, .i n2]) (instH seq_Add_in [.i s, .i n2]) := by kernel_rfl
def seq_Add_S : List Leaf → Option (List Leaf) := fun ls => un_i ls fun s rr => un_i rr fun n2 rr => un_nil rr (seq_Add s n2)
def seq_Add_SC : Tld := fun ls k' => un_i ls fun s rr => un_i rr fun n2 rr => un_nil rr (out (seq_Add s n2) k')
theorem seq_Add_Se (s : Int) (n2 : Int) : seq_Add_S [.i s, .i n2] = seq_Add s n2 := by
  unfold seq_Add_S
  simp only [un_i_ev, un_b_ev, un_s_ev, un_li_ev, un_lb_ev, un_ls_ev, un_nil_ev]
theorem seq_Add_says : Says seq_Add_SC seq_Add_S := by
  intro β ls' k' r' h'
  unfold seq_Add_SC at h'
  obtain ⟨s, l'1, rfl, h'1⟩ := un_i_some.1 h'
  obtain ⟨n2, l'2, rfl, h'2⟩ := un_i_some.1 h'1
  obtain ⟨rfl, h'Z⟩ := un_nil_some.1 h'2
  obtain ⟨l', a', b'⟩ := out_some.1 h'Z
  exact ⟨l', (seq_Add_Se s n2).trans a', b'⟩
theorem seq_Add_c : FnC Go.Proofs.Tryz.prog 60 true 2 0 seq_Add_in seq_Add_out seq_Add_S := by
  refine fn_ok (Λ := seq_Add_Λ) mixed tab_ok g5 Go.Proofs.Tryz.func60 (by kernel_rfl) (body := fb Go.Proofs.Tryz.f60) rfl (ts := Go.Proofs.Tryz.f60.results.toList) rfl (cuts := []) (by kernel_rfl) (Nat.le_of_ble_eq_true (by kernel_rfl)) (by kernel_rfl) (rt := .w (.at (.int .u64))) rfl ?_ ?_
  · intro ls' r' h'
    unfold seq_Add_S at h'
    obtain ⟨s, l'1, rfl, h'1⟩ := un_i_some.1 h'
    obtain ⟨n2, l'2, rfl, h'2⟩ := un_i_some.1 h'1
    obtain ⟨rfl, h'Z⟩ := un_nil_some.1 h'2
    exact (seq_Add_e s n2).symm.trans h'Z
  · intro E w0 ws ρ0 hk b hb
    rw [show loopsOf (fb Go.Proofs.Tryz.f60) = [] by kernel_rfl] at hb
    cases hb
noncomputable def G6 : Env := G5.addP 60 2 seq_Add_in seq_Add_out seq_Add_SC
theorem g6 : EnvOk Go.Proofs.Tryz.prog G6 := EnvOk.addP g5 seq_Add_c seq_Add_says

-- ### got_Put_1: function 109
def got_Put_1_in : Tm := ⟨[.cells 30 [.int .u64]], [(0, .w (.at (.int .u64))), (1, .w (.at (.ptr 0 0)))]⟩
def got_Put_1_out : Tm := ⟨[.dead], [(0, .w (.at (.bool)))]⟩

def got_Put_1_Λd : Loops := Loops.none
def got_Put_1_Λ : Loops := got_Put_1_Λd 

theorem got_Put_1_e (s : Int) (n2 : Int) : got_Put_1 s n2 = den G6 got_Put_1_Λ true tab Go.Proofs.Tryz.f109.ntmps (fun fr H => finish tab 1 Go.Proofs.Tryz.f109.results.toList got_Put_1_out [] fr H some) (fun _ _ _ => none) (fun fr H => finish tab 1 Go.Proofs.Tryz.f109.results.toList got_Put_1_out [] fr H some) 10000 [.code (fb Go.Proofs.Tryz.f109)] (instFr got_Put_1_in [.i s, .i n2]) (instH got_Put_1_in [.i s, .i n2]) := by kernel_rfl
def got_Put_1_S : List Leaf → Option (List Leaf) := fun ls => un_i ls fun s rr => un_i rr fun n2 rr => un_nil rr (got_Put_1 s n2)
def got_Put_1_SC : Tld := fun ls k' => un_i ls fun s rr => un_i rr fun n2 rr => un_nil rr (out (got_Put_1 s n2) k')
theorem got_Put_1_Se (s : Int) (n2 : Int) : got_Put_1_S [.i s, .i n2] = got_Put_1 s n2 := by
  unfold got_Put_1_S
  simp only [un_i_ev, un_b_ev, un_s_ev, un_li_ev, un_lb_ev, un_ls_ev, un_nil_ev]
theorem got_Put_1_says : Says got_Put_1_SC got_Put_1_S := by
  intro β ls' k' r' h'
  unfold got_Put_1_SC at h'
  obtain ⟨s, l'1, rfl, h'1⟩ := un_i_some.1 h'
  obtain ⟨n2, l'2, rfl, h'2⟩ := un_i_some.1 h'1
  obtain ⟨rfl, h'Z⟩ := un_nil_some.1 h'2
  obtain ⟨l', a', b'⟩ := out_some.1 h'Z
  exact ⟨l', (got_Put_1_Se s n2).trans a', b'⟩
theorem got_Put_1_c : FnC Go.Proofs.Tryz.prog 109 true 2 1 got_Put_1_in got_Put_1_out got_Put_1_S := by
  refine fn_ok (Λ := got_Put_1_Λ) mixed tab_ok g6 Go.Proofs.Tryz.func109 (by kernel_rfl) (body := fb Go.Proofs.Tryz.f109) rfl (ts := Go.Proofs.Tryz.f109.results.toList) rfl (cuts := []) (by kernel_rfl) (Nat.le_of_ble_eq_true (by kernel_rfl)) (by kernel_rfl) (rt := .w (.at (.bool))) rfl ?_ ?_
  · intro ls' r' h'
    unfold got_Put_1_S at h'
    obtain ⟨s, l'1, rfl, h'1⟩ := un_i_some.1 h'
    obtain ⟨n2, l'2, rfl, h'2⟩ := un_i_some.1 h'1
    obtain ⟨rfl, h'Z⟩ := un_nil_some.1 h'2
    exact (got_Put_1_e s n2).symm.trans h'Z
  · intro E w0 ws ρ0 hk b hb
    rw [show loopsOf (fb Go.Proofs.Tryz.f109) = [] by kernel_rfl] at hb
    cases hb
noncomputable def G7 : Env := G6.addP 109 2 got_Put_1_in got_Put_1_out got_Put_1_SC
theorem g7 : EnvOk Go.Proofs.Tryz.prog G7 := EnvOk.addP g6 got_Put_1_c got_Put_1_says
end Go.Sx.T

