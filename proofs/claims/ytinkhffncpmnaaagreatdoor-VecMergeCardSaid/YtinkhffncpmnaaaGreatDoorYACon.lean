/- What the functions do, by program. -/
import Derived.Test.YtinkhffncpmnaaaGreatDoorYASpec
import Derived.Test.YtinkhffncpmnaaaGreatDoorYBeg2
set_option linter.all false
namespace Go.Sx.T
open Go Go.Sx Go.Proofs
def G7 : Env := G6.addE 65 2 drop_in drop_out drop_SC
theorem g7 : EnvOk Go.Proofs.Tryz.prog G7 := EnvOk.addE g6 got_drop_c drop_says
def G8 : Env := G7.addK 15 (.at (.raw (.bool true)))
theorem g8 : EnvOk Go.Proofs.Tryz.prog G8 := EnvOk.addK g7 begun_fn rfl begun_gives

-- ### vec_state: function 57
def vec_state_in : Tm := ⟨[], [(0, .w (.at (.int .i64)))]⟩
def vec_state_out : Tm := ⟨[], [(0, .w (.at (.bool)))]⟩

def vec_state_Λd : Loops := Loops.none
def vec_state_Λ : Loops := vec_state_Λd 

theorem vec_state_e (s : Int) : vec_state s = den G8 vec_state_Λ true tab Go.Proofs.Tryz.f57.ntmps (fun fr H => finish tab 0 Go.Proofs.Tryz.f57.results.toList vec_state_out [] fr H some) (fun _ _ _ => none) (fun fr H => finish tab 0 Go.Proofs.Tryz.f57.results.toList vec_state_out [] fr H some) 10000 [.code (fb Go.Proofs.Tryz.f57)] (instFr vec_state_in [.i s]) (instH vec_state_in [.i s]) := by kernel_rfl
def vec_state_S : List Leaf → Option (List Leaf) := fun ls => un_i ls fun s rr => un_nil rr (vec_state s)
def vec_state_SC : Tld := fun ls k => un_i ls fun s rr => un_nil rr (out (vec_state s) k)
theorem vec_state_says : Says vec_state_SC vec_state_S := by
  intro β ls k r h
  unfold vec_state_SC at h
  obtain ⟨s, l1, rfl, h1⟩ := un_i_some.1 h
  obtain ⟨rfl, hZ⟩ := un_nil_some.1 h1
  exact out_some.1 hZ
theorem vec_state_c : FnC Go.Proofs.Tryz.prog 57 true 1 0 vec_state_in vec_state_out vec_state_S := by
  refine fn_ok (Λ := vec_state_Λ) mixed tab_ok g8 Go.Proofs.Tryz.func57 (by kernel_rfl) (body := fb Go.Proofs.Tryz.f57) rfl (ts := Go.Proofs.Tryz.f57.results.toList) rfl (cuts := []) (by kernel_rfl) (Nat.le_of_ble_eq_true (by kernel_rfl)) (by kernel_rfl) (rt := .w (.at (.bool))) rfl ?_ ?_
  · intro ls r h
    unfold vec_state_S at h
    obtain ⟨s, l1, rfl, h1⟩ := un_i_some.1 h
    obtain ⟨rfl, hZ⟩ := un_nil_some.1 h1
    exact (vec_state_e s).symm.trans hZ
  · intro E w0 ws ρ0 hk b hb
    rw [show loopsOf (fb Go.Proofs.Tryz.f57) = [] by kernel_rfl] at hb
    cases hb
def G9 : Env := G8.addP 57 1 vec_state_in vec_state_out vec_state_SC
theorem g9 : EnvOk Go.Proofs.Tryz.prog G9 := EnvOk.addP g8 vec_state_c vec_state_says

-- ### vec_Merge: function 16
def vec_Merge_in : Tm := ⟨[], [(0, .w (.at (.int .i64))), (1, .w (.at (.int .i64)))]⟩
def vec_Merge_out : Tm := ⟨[], [(0, .tup [.at (.int .i64), .at (.bool)])]⟩

def vec_Merge_Λd : Loops := Loops.none
def vec_Merge_Λ : Loops := vec_Merge_Λd 

theorem vec_Merge_e (a : Int) (b : Int) : vec_Merge a b = den G9 vec_Merge_Λ true tab Go.Proofs.Tryz.f16.ntmps (fun fr H => finish tab 0 Go.Proofs.Tryz.f16.results.toList vec_Merge_out [] fr H some) (fun _ _ _ => none) (fun fr H => finish tab 0 Go.Proofs.Tryz.f16.results.toList vec_Merge_out [] fr H some) 10000 [.code (fb Go.Proofs.Tryz.f16)] (instFr vec_Merge_in [.i a, .i b]) (instH vec_Merge_in [.i a, .i b]) := by kernel_rfl
def vec_Merge_S : List Leaf → Option (List Leaf) := fun ls => un_i ls fun a rr => un_i rr fun b rr => un_nil rr (vec_Merge a b)
def vec_Merge_SC : Tld := fun ls k => un_i ls fun a rr => un_i rr fun b rr => un_nil rr (out (vec_Merge a b) k)
theorem vec_Merge_says : Says vec_Merge_SC vec_Merge_S := by
  intro β ls k r h
  unfold vec_Merge_SC at h
  obtain ⟨a, l1, rfl, h1⟩ := un_i_some.1 h
  obtain ⟨b, l2, rfl, h2⟩ := un_i_some.1 h1
  obtain ⟨rfl, hZ⟩ := un_nil_some.1 h2
  exact out_some.1 hZ
theorem vec_Merge_c : FnC Go.Proofs.Tryz.prog 16 true 2 0 vec_Merge_in vec_Merge_out vec_Merge_S := by
  refine fn_ok (Λ := vec_Merge_Λ) mixed tab_ok g9 Go.Proofs.Tryz.func16 (by kernel_rfl) (body := fb Go.Proofs.Tryz.f16) rfl (ts := Go.Proofs.Tryz.f16.results.toList) rfl (cuts := []) (by kernel_rfl) (Nat.le_of_ble_eq_true (by kernel_rfl)) (by kernel_rfl) (rt := .tup [.at (.int .i64), .at (.bool)]) rfl ?_ ?_
  · intro ls r h
    unfold vec_Merge_S at h
    obtain ⟨a, l1, rfl, h1⟩ := un_i_some.1 h
    obtain ⟨b, l2, rfl, h2⟩ := un_i_some.1 h1
    obtain ⟨rfl, hZ⟩ := un_nil_some.1 h2
    exact (vec_Merge_e a b).symm.trans hZ
  · intro E w0 ws ρ0 hk b hb
    rw [show loopsOf (fb Go.Proofs.Tryz.f16) = [] by kernel_rfl] at hb
    cases hb
def G10 : Env := G9.addP 16 2 vec_Merge_in vec_Merge_out vec_Merge_SC
theorem g10 : EnvOk Go.Proofs.Tryz.prog G10 := EnvOk.addP g9 vec_Merge_c vec_Merge_says

-- ### ref_State: function 17
def ref_State_in : Tm := ⟨[], [(0, .w (.at (.int .i64)))]⟩
def ref_State_out : Tm := ⟨[], [(0, .w (.at (.bool)))]⟩

def ref_State_Λd : Loops := Loops.none
def ref_State_Λ : Loops := ref_State_Λd 

theorem ref_State_e (s : Int) : ref_State s = den G10 ref_State_Λ true tab Go.Proofs.Tryz.f17.ntmps (fun fr H => finish tab 0 Go.Proofs.Tryz.f17.results.toList ref_State_out [] fr H some) (fun _ _ _ => none) (fun fr H => finish tab 0 Go.Proofs.Tryz.f17.results.toList ref_State_out [] fr H some) 10000 [.code (fb Go.Proofs.Tryz.f17)] (instFr ref_State_in [.i s]) (instH ref_State_in [.i s]) := by kernel_rfl
def ref_State_S : List Leaf → Option (List Leaf) := fun ls => un_i ls fun s rr => un_nil rr (ref_State s)
def ref_State_SC : Tld := fun ls k => un_i ls fun s rr => un_nil rr (out (ref_State s) k)
theorem ref_State_says : Says ref_State_SC ref_State_S := by
  intro β ls k r h
  unfold ref_State_SC at h
  obtain ⟨s, l1, rfl, h1⟩ := un_i_some.1 h
  obtain ⟨rfl, hZ⟩ := un_nil_some.1 h1
  exact out_some.1 hZ
theorem ref_State_c : FnC Go.Proofs.Tryz.prog 17 true 1 0 ref_State_in ref_State_out ref_State_S := by
  refine fn_ok (Λ := ref_State_Λ) mixed tab_ok g10 Go.Proofs.Tryz.func17 (by kernel_rfl) (body := fb Go.Proofs.Tryz.f17) rfl (ts := Go.Proofs.Tryz.f17.results.toList) rfl (cuts := []) (by kernel_rfl) (Nat.le_of_ble_eq_true (by kernel_rfl)) (by kernel_rfl) (rt := .w (.at (.bool))) rfl ?_ ?_
  · intro ls r h
    unfold ref_State_S at h
    obtain ⟨s, l1, rfl, h1⟩ := un_i_some.1 h
    obtain ⟨rfl, hZ⟩ := un_nil_some.1 h1
    exact (ref_State_e s).symm.trans hZ
  · intro E w0 ws ρ0 hk b hb
    rw [show loopsOf (fb Go.Proofs.Tryz.f17) = [] by kernel_rfl] at hb
    cases hb
def G11 : Env := G10.addP 17 1 ref_State_in ref_State_out ref_State_SC
theorem g11 : EnvOk Go.Proofs.Tryz.prog G11 := EnvOk.addP g10 ref_State_c ref_State_says

-- ### VecMerge: function 3
def VecMerge_in : Tm := ⟨[], [(0, .w (.at (.int .i64))), (1, .w (.at (.int .i64)))]⟩
def VecMerge_out : Tm := ⟨[], [(0, .w (.at (.bool)))]⟩

def VecMerge_Λd : Loops := Loops.none
def VecMerge_Λ : Loops := VecMerge_Λd 

theorem VecMerge_e (a : Int) (b : Int) : VecMerge a b = den G11 VecMerge_Λ false tab Go.Proofs.Tryz.f3.ntmps (fun fr H => finish tab 0 Go.Proofs.Tryz.f3.results.toList VecMerge_out [] fr H some) (fun _ _ _ => none) (fun fr H => finish tab 0 Go.Proofs.Tryz.f3.results.toList VecMerge_out [] fr H some) 10000 [.code (fb Go.Proofs.Tryz.f3)] (instFr VecMerge_in [.i a, .i b]) (instH VecMerge_in [.i a, .i b]) := by kernel_rfl
def VecMerge_S : List Leaf → Option (List Leaf) := fun ls => un_i ls fun a rr => un_i rr fun b rr => un_nil rr (VecMerge a b)
def VecMerge_SC : Tld := fun ls k => un_i ls fun a rr => un_i rr fun b rr => un_nil rr (out (VecMerge a b) k)
theorem VecMerge_says : Says VecMerge_SC VecMerge_S := by
  intro β ls k r h
  unfold VecMerge_SC at h
  obtain ⟨a, l1, rfl, h1⟩ := un_i_some.1 h
  obtain ⟨b, l2, rfl, h2⟩ := un_i_some.1 h1
  obtain ⟨rfl, hZ⟩ := un_nil_some.1 h2
  exact out_some.1 hZ
theorem VecMerge_c : FnC Go.Proofs.Tryz.prog 3 false 2 0 VecMerge_in VecMerge_out VecMerge_S := by
  refine fn_ok (Λ := VecMerge_Λ) mixed tab_ok g11 Go.Proofs.Tryz.func3 (by kernel_rfl) (body := fb Go.Proofs.Tryz.f3) rfl (ts := Go.Proofs.Tryz.f3.results.toList) rfl (cuts := []) (by kernel_rfl) (Nat.le_of_ble_eq_true (by kernel_rfl)) (by kernel_rfl) (rt := .w (.at (.bool))) rfl ?_ ?_
  · intro ls r h
    unfold VecMerge_S at h
    obtain ⟨a, l1, rfl, h1⟩ := un_i_some.1 h
    obtain ⟨b, l2, rfl, h2⟩ := un_i_some.1 h1
    obtain ⟨rfl, hZ⟩ := un_nil_some.1 h2
    exact (VecMerge_e a b).symm.trans hZ
  · intro E w0 ws ρ0 hk b hb
    rw [show loopsOf (fb Go.Proofs.Tryz.f3) = [] by kernel_rfl] at hb
    cases hb
def G12 : Env := G11.addE 3 2 VecMerge_in VecMerge_out VecMerge_SC
theorem g12 : EnvOk Go.Proofs.Tryz.prog G12 := EnvOk.addE g11 VecMerge_c VecMerge_says
end Go.Sx.T
