import Derived.Test.YtllgbgponmkijaaGreatDoorYFixSpec
import Derived.Test.YtllgbgponmkijaaGreatDoorYBeg3
set_option linter.all false
namespace Go.Sx.T
open Go Go.Sx Go.Proofs
set_option maxRecDepth 100000
noncomputable def G8 : Env := G7.addE 130 2 drop_in drop_out drop_SC
theorem g8 : EnvOk Go.Proofs.Tryz.prog G8 := EnvOk.addE g7 got_drop_c drop_says
noncomputable def G9 : Env := G8.addK 15 (.at (.raw (.bool true)))
theorem g9 : EnvOk Go.Proofs.Tryz.prog G9 := EnvOk.addK g8 beg_fn2 rfl beg_gives2

-- ### bits_Mul64: function 87
def bits_Mul64_in : Tm := ⟨[], [(0, .w (.at (.int .u64))), (1, .w (.at (.int .u64)))]⟩
def bits_Mul64_out : Tm := ⟨[], [(0, .tup [.at (.int .u64), .at (.int .u64)])]⟩

def bits_Mul64_Λd : Loops := Loops.none
def bits_Mul64_Λ : Loops := bits_Mul64_Λd 

theorem bits_Mul64_e (x : Int) (y : Int) : bits_Mul64 x y = den G9 bits_Mul64_Λ true tab Go.Proofs.Tryz.f87.ntmps (fun fr H => finish tab 0 Go.Proofs.Tryz.f87.results.toList bits_Mul64_out [] fr H some) (fun _ _ _ => none) (fun fr H => finish tab 0 Go.Proofs.Tryz.f87.results.toList bits_Mul64_out [] fr H some) 10000 [.code (fb Go.Proofs.Tryz.f87)] (instFr bits_Mul64_in [.i x, .i y]) (instH bits_Mul64_in [.i x, .i y]) := by kernel_rfl
def bits_Mul64_S : List Leaf → Option (List Leaf) := fun ls => un_i ls fun x rr => un_i rr fun y rr => un_nil rr (bits_Mul64 x y)
def bits_Mul64_SC : Tld := fun ls k' => un_i ls fun x rr => un_i rr fun y rr => un_nil rr (out (bits_Mul64 x y) k')
theorem bits_Mul64_Se (x : Int) (y : Int) : bits_Mul64_S [.i x, .i y] = bits_Mul64 x y := by
  unfold bits_Mul64_S
  simp only [un_i_ev, un_b_ev, un_s_ev, un_li_ev, un_lb_ev, un_ls_ev, un_nil_ev]
theorem bits_Mul64_says : Says bits_Mul64_SC bits_Mul64_S := by
  intro β ls' k' r' h'
  unfold bits_Mul64_SC at h'
  obtain ⟨x, l'1, rfl, h'1⟩ := un_i_some.1 h'
  obtain ⟨y, l'2, rfl, h'2⟩ := un_i_some.1 h'1
  obtain ⟨rfl, h'Z⟩ := un_nil_some.1 h'2
  obtain ⟨l', a', b'⟩ := out_some.1 h'Z
  exact ⟨l', (bits_Mul64_Se x y).trans a', b'⟩
theorem bits_Mul64_c : FnC Go.Proofs.Tryz.prog 87 true 2 0 bits_Mul64_in bits_Mul64_out bits_Mul64_S := by
  refine fn_ok (Λ := bits_Mul64_Λ) mixed tab_ok g9 Go.Proofs.Tryz.func87 (by kernel_rfl) (body := fb Go.Proofs.Tryz.f87) rfl (ts := Go.Proofs.Tryz.f87.results.toList) rfl (cuts := []) (by kernel_rfl) (Nat.le_of_ble_eq_true (by kernel_rfl)) (by kernel_rfl) (rt := .tup [.at (.int .u64), .at (.int .u64)]) rfl ?_ ?_
  · intro ls' r' h'
    unfold bits_Mul64_S at h'
    obtain ⟨x, l'1, rfl, h'1⟩ := un_i_some.1 h'
    obtain ⟨y, l'2, rfl, h'2⟩ := un_i_some.1 h'1
    obtain ⟨rfl, h'Z⟩ := un_nil_some.1 h'2
    exact (bits_Mul64_e x y).symm.trans h'Z
  · intro E w0 ws ρ0 hk b hb
    rw [show loopsOf (fb Go.Proofs.Tryz.f87) = [] by kernel_rfl] at hb
    cases hb
noncomputable def G10 : Env := G9.addP 87 2 bits_Mul64_in bits_Mul64_out bits_Mul64_SC
theorem g10 : EnvOk Go.Proofs.Tryz.prog G10 := EnvOk.addP g9 bits_Mul64_c bits_Mul64_says

-- ### fix_Add: function 62
def fix_Add_in : Tm := ⟨[], [(0, .w (.at (.int .u64))), (1, .w (.at (.int .u64)))]⟩
def fix_Add_out : Tm := ⟨[], [(0, .w (.at (.int .u64)))]⟩

def fix_Add_Λd : Loops := Loops.none
def fix_Add_Λ : Loops := fix_Add_Λd 

theorem fix_Add_e (a : Int) (b : Int) : fix_Add a b = den G10 fix_Add_Λ true tab Go.Proofs.Tryz.f62.ntmps (fun fr H => finish tab 0 Go.Proofs.Tryz.f62.results.toList fix_Add_out [] fr H some) (fun _ _ _ => none) (fun fr H => finish tab 0 Go.Proofs.Tryz.f62.results.toList fix_Add_out [] fr H some) 10000 [.code (fb Go.Proofs.Tryz.f62)] (instFr fix_Add_in [.i a, .i b]) (instH fix_Add_in [.i a, .i b]) := by kernel_rfl
def fix_Add_S : List Leaf → Option (List Leaf) := fun ls => un_i ls fun a rr => un_i rr fun b rr => un_nil rr (fix_Add a b)
def fix_Add_SC : Tld := fun ls k' => un_i ls fun a rr => un_i rr fun b rr => un_nil rr (out (fix_Add a b) k')
theorem fix_Add_Se (a : Int) (b : Int) : fix_Add_S [.i a, .i b] = fix_Add a b := by
  unfold fix_Add_S
  simp only [un_i_ev, un_b_ev, un_s_ev, un_li_ev, un_lb_ev, un_ls_ev, un_nil_ev]
theorem fix_Add_says : Says fix_Add_SC fix_Add_S := by
  intro β ls' k' r' h'
  unfold fix_Add_SC at h'
  obtain ⟨a, l'1, rfl, h'1⟩ := un_i_some.1 h'
  obtain ⟨b, l'2, rfl, h'2⟩ := un_i_some.1 h'1
  obtain ⟨rfl, h'Z⟩ := un_nil_some.1 h'2
  obtain ⟨l', a', b'⟩ := out_some.1 h'Z
  exact ⟨l', (fix_Add_Se a b).trans a', b'⟩
theorem fix_Add_c : FnC Go.Proofs.Tryz.prog 62 true 2 0 fix_Add_in fix_Add_out fix_Add_S := by
  refine fn_ok (Λ := fix_Add_Λ) mixed tab_ok g10 Go.Proofs.Tryz.func62 (by kernel_rfl) (body := fb Go.Proofs.Tryz.f62) rfl (ts := Go.Proofs.Tryz.f62.results.toList) rfl (cuts := []) (by kernel_rfl) (Nat.le_of_ble_eq_true (by kernel_rfl)) (by kernel_rfl) (rt := .w (.at (.int .u64))) rfl ?_ ?_
  · intro ls' r' h'
    unfold fix_Add_S at h'
    obtain ⟨a, l'1, rfl, h'1⟩ := un_i_some.1 h'
    obtain ⟨b, l'2, rfl, h'2⟩ := un_i_some.1 h'1
    obtain ⟨rfl, h'Z⟩ := un_nil_some.1 h'2
    exact (fix_Add_e a b).symm.trans h'Z
  · intro E w0 ws ρ0 hk b hb
    rw [show loopsOf (fb Go.Proofs.Tryz.f62) = [] by kernel_rfl] at hb
    cases hb
noncomputable def G11 : Env := G10.addP 62 2 fix_Add_in fix_Add_out fix_Add_SC
theorem g11 : EnvOk Go.Proofs.Tryz.prog G11 := EnvOk.addP g10 fix_Add_c fix_Add_says

-- ### fix_Sub: function 61
def fix_Sub_in : Tm := ⟨[], [(0, .w (.at (.int .u64))), (1, .w (.at (.int .u64)))]⟩
def fix_Sub_out : Tm := ⟨[], [(0, .w (.at (.int .u64)))]⟩

def fix_Sub_Λd : Loops := Loops.none
def fix_Sub_Λ : Loops := fix_Sub_Λd 

theorem fix_Sub_e (a : Int) (b : Int) : fix_Sub a b = den G11 fix_Sub_Λ true tab Go.Proofs.Tryz.f61.ntmps (fun fr H => finish tab 0 Go.Proofs.Tryz.f61.results.toList fix_Sub_out [] fr H some) (fun _ _ _ => none) (fun fr H => finish tab 0 Go.Proofs.Tryz.f61.results.toList fix_Sub_out [] fr H some) 10000 [.code (fb Go.Proofs.Tryz.f61)] (instFr fix_Sub_in [.i a, .i b]) (instH fix_Sub_in [.i a, .i b]) := by kernel_rfl
def fix_Sub_S : List Leaf → Option (List Leaf) := fun ls => un_i ls fun a rr => un_i rr fun b rr => un_nil rr (fix_Sub a b)
def fix_Sub_SC : Tld := fun ls k' => un_i ls fun a rr => un_i rr fun b rr => un_nil rr (out (fix_Sub a b) k')
theorem fix_Sub_Se (a : Int) (b : Int) : fix_Sub_S [.i a, .i b] = fix_Sub a b := by
  unfold fix_Sub_S
  simp only [un_i_ev, un_b_ev, un_s_ev, un_li_ev, un_lb_ev, un_ls_ev, un_nil_ev]
theorem fix_Sub_says : Says fix_Sub_SC fix_Sub_S := by
  intro β ls' k' r' h'
  unfold fix_Sub_SC at h'
  obtain ⟨a, l'1, rfl, h'1⟩ := un_i_some.1 h'
  obtain ⟨b, l'2, rfl, h'2⟩ := un_i_some.1 h'1
  obtain ⟨rfl, h'Z⟩ := un_nil_some.1 h'2
  obtain ⟨l', a', b'⟩ := out_some.1 h'Z
  exact ⟨l', (fix_Sub_Se a b).trans a', b'⟩
theorem fix_Sub_c : FnC Go.Proofs.Tryz.prog 61 true 2 0 fix_Sub_in fix_Sub_out fix_Sub_S := by
  refine fn_ok (Λ := fix_Sub_Λ) mixed tab_ok g11 Go.Proofs.Tryz.func61 (by kernel_rfl) (body := fb Go.Proofs.Tryz.f61) rfl (ts := Go.Proofs.Tryz.f61.results.toList) rfl (cuts := []) (by kernel_rfl) (Nat.le_of_ble_eq_true (by kernel_rfl)) (by kernel_rfl) (rt := .w (.at (.int .u64))) rfl ?_ ?_
  · intro ls' r' h'
    unfold fix_Sub_S at h'
    obtain ⟨a, l'1, rfl, h'1⟩ := un_i_some.1 h'
    obtain ⟨b, l'2, rfl, h'2⟩ := un_i_some.1 h'1
    obtain ⟨rfl, h'Z⟩ := un_nil_some.1 h'2
    exact (fix_Sub_e a b).symm.trans h'Z
  · intro E w0 ws ρ0 hk b hb
    rw [show loopsOf (fb Go.Proofs.Tryz.f61) = [] by kernel_rfl] at hb
    cases hb
noncomputable def G12 : Env := G11.addP 61 2 fix_Sub_in fix_Sub_out fix_Sub_SC
theorem g12 : EnvOk Go.Proofs.Tryz.prog G12 := EnvOk.addP g11 fix_Sub_c fix_Sub_says

-- ### fix_Mul: function 59
def fix_Mul_in : Tm := ⟨[], [(0, .w (.at (.int .u64))), (1, .w (.at (.int .u64)))]⟩
def fix_Mul_out : Tm := ⟨[], [(0, .w (.at (.int .u64)))]⟩

def fix_Mul_Λd : Loops := Loops.none
def fix_Mul_Λ : Loops := fix_Mul_Λd 

theorem fix_Mul_e (a : Int) (b : Int) : fix_Mul a b = den G12 fix_Mul_Λ true tab Go.Proofs.Tryz.f59.ntmps (fun fr H => finish tab 0 Go.Proofs.Tryz.f59.results.toList fix_Mul_out [] fr H some) (fun _ _ _ => none) (fun fr H => finish tab 0 Go.Proofs.Tryz.f59.results.toList fix_Mul_out [] fr H some) 10000 [.code (fb Go.Proofs.Tryz.f59)] (instFr fix_Mul_in [.i a, .i b]) (instH fix_Mul_in [.i a, .i b]) := by kernel_rfl
def fix_Mul_S : List Leaf → Option (List Leaf) := fun ls => un_i ls fun a rr => un_i rr fun b rr => un_nil rr (fix_Mul a b)
def fix_Mul_SC : Tld := fun ls k' => un_i ls fun a rr => un_i rr fun b rr => un_nil rr (out (fix_Mul a b) k')
theorem fix_Mul_Se (a : Int) (b : Int) : fix_Mul_S [.i a, .i b] = fix_Mul a b := by
  unfold fix_Mul_S
  simp only [un_i_ev, un_b_ev, un_s_ev, un_li_ev, un_lb_ev, un_ls_ev, un_nil_ev]
theorem fix_Mul_says : Says fix_Mul_SC fix_Mul_S := by
  intro β ls' k' r' h'
  unfold fix_Mul_SC at h'
  obtain ⟨a, l'1, rfl, h'1⟩ := un_i_some.1 h'
  obtain ⟨b, l'2, rfl, h'2⟩ := un_i_some.1 h'1
  obtain ⟨rfl, h'Z⟩ := un_nil_some.1 h'2
  obtain ⟨l', a', b'⟩ := out_some.1 h'Z
  exact ⟨l', (fix_Mul_Se a b).trans a', b'⟩
theorem fix_Mul_c : FnC Go.Proofs.Tryz.prog 59 true 2 0 fix_Mul_in fix_Mul_out fix_Mul_S := by
  refine fn_ok (Λ := fix_Mul_Λ) mixed tab_ok g12 Go.Proofs.Tryz.func59 (by kernel_rfl) (body := fb Go.Proofs.Tryz.f59) rfl (ts := Go.Proofs.Tryz.f59.results.toList) rfl (cuts := []) (by kernel_rfl) (Nat.le_of_ble_eq_true (by kernel_rfl)) (by kernel_rfl) (rt := .w (.at (.int .u64))) rfl ?_ ?_
  · intro ls' r' h'
    unfold fix_Mul_S at h'
    obtain ⟨a, l'1, rfl, h'1⟩ := un_i_some.1 h'
    obtain ⟨b, l'2, rfl, h'2⟩ := un_i_some.1 h'1
    obtain ⟨rfl, h'Z⟩ := un_nil_some.1 h'2
    exact (fix_Mul_e a b).symm.trans h'Z
  · intro E w0 ws ρ0 hk b hb
    rw [show loopsOf (fb Go.Proofs.Tryz.f59) = [] by kernel_rfl] at hb
    cases hb
noncomputable def G13 : Env := G12.addP 59 2 fix_Mul_in fix_Mul_out fix_Mul_SC
theorem g13 : EnvOk Go.Proofs.Tryz.prog G13 := EnvOk.addP g12 fix_Mul_c fix_Mul_says

-- ### ref_Seq: function 27
def ref_Seq_in : Tm := ⟨[], [(0, .w (.at (.int .u64)))]⟩
def ref_Seq_out : Tm := ⟨[], [(0, .w (.at (.int .u64)))]⟩

def ref_Seq_Λd : Loops := Loops.none
def ref_Seq_Λ : Loops := ref_Seq_Λd 

theorem ref_Seq_e (n2 : Int) : ref_Seq n2 = den G13 ref_Seq_Λ true tab Go.Proofs.Tryz.f27.ntmps (fun fr H => finish tab 0 Go.Proofs.Tryz.f27.results.toList ref_Seq_out [] fr H some) (fun _ _ _ => none) (fun fr H => finish tab 0 Go.Proofs.Tryz.f27.results.toList ref_Seq_out [] fr H some) 10000 [.code (fb Go.Proofs.Tryz.f27)] (instFr ref_Seq_in [.i n2]) (instH ref_Seq_in [.i n2]) := by kernel_rfl
def ref_Seq_S : List Leaf → Option (List Leaf) := fun ls => un_i ls fun n2 rr => un_nil rr (ref_Seq n2)
def ref_Seq_SC : Tld := fun ls k' => un_i ls fun n2 rr => un_nil rr (out (ref_Seq n2) k')
theorem ref_Seq_Se (n2 : Int) : ref_Seq_S [.i n2] = ref_Seq n2 := by
  unfold ref_Seq_S
  simp only [un_i_ev, un_b_ev, un_s_ev, un_li_ev, un_lb_ev, un_ls_ev, un_nil_ev]
theorem ref_Seq_says : Says ref_Seq_SC ref_Seq_S := by
  intro β ls' k' r' h'
  unfold ref_Seq_SC at h'
  obtain ⟨n2, l'1, rfl, h'1⟩ := un_i_some.1 h'
  obtain ⟨rfl, h'Z⟩ := un_nil_some.1 h'1
  obtain ⟨l', a', b'⟩ := out_some.1 h'Z
  exact ⟨l', (ref_Seq_Se n2).trans a', b'⟩
theorem ref_Seq_c : FnC Go.Proofs.Tryz.prog 27 true 1 0 ref_Seq_in ref_Seq_out ref_Seq_S := by
  refine fn_ok (Λ := ref_Seq_Λ) mixed tab_ok g13 Go.Proofs.Tryz.func27 (by kernel_rfl) (body := fb Go.Proofs.Tryz.f27) rfl (ts := Go.Proofs.Tryz.f27.results.toList) rfl (cuts := []) (by kernel_rfl) (Nat.le_of_ble_eq_true (by kernel_rfl)) (by kernel_rfl) (rt := .w (.at (.int .u64))) rfl ?_ ?_
  · intro ls' r' h'
    unfold ref_Seq_S at h'
    obtain ⟨n2, l'1, rfl, h'1⟩ := un_i_some.1 h'
    obtain ⟨rfl, h'Z⟩ := un_nil_some.1 h'1
    exact (ref_Seq_e n2).symm.trans h'Z
  · intro E w0 ws ρ0 hk b hb
    rw [show loopsOf (fb Go.Proofs.Tryz.f27) = [] by kernel_rfl] at hb
    cases hb
noncomputable def G14 : Env := G13.addP 27 1 ref_Seq_in ref_Seq_out ref_Seq_SC
theorem g14 : EnvOk Go.Proofs.Tryz.prog G14 := EnvOk.addP g13 ref_Seq_c ref_Seq_says

-- ### ref_Step: function 28
def ref_Step_in : Tm := ⟨[], [(0, .w (.at (.int .u64))), (1, .w (.at (.int .i64)))]⟩
def ref_Step_out : Tm := ⟨[], [(0, .w (.at (.int .u64)))]⟩

def ref_Step_Λd : Loops := Loops.none
def ref_Step_Λ : Loops := ref_Step_Λd 

theorem ref_Step_e (s : Int) (n2 : Int) : ref_Step s n2 = den G14 ref_Step_Λ true tab Go.Proofs.Tryz.f28.ntmps (fun fr H => finish tab 0 Go.Proofs.Tryz.f28.results.toList ref_Step_out [] fr H some) (fun _ _ _ => none) (fun fr H => finish tab 0 Go.Proofs.Tryz.f28.results.toList ref_Step_out [] fr H some) 10000 [.code (fb Go.Proofs.Tryz.f28)] (instFr ref_Step_in [.i s, .i n2]) (instH ref_Step_in [.i s, .i n2]) := by kernel_rfl
def ref_Step_S : List Leaf → Option (List Leaf) := fun ls => un_i ls fun s rr => un_i rr fun n2 rr => un_nil rr (ref_Step s n2)
def ref_Step_SC : Tld := fun ls k' => un_i ls fun s rr => un_i rr fun n2 rr => un_nil rr (out (ref_Step s n2) k')
theorem ref_Step_Se (s : Int) (n2 : Int) : ref_Step_S [.i s, .i n2] = ref_Step s n2 := by
  unfold ref_Step_S
  simp only [un_i_ev, un_b_ev, un_s_ev, un_li_ev, un_lb_ev, un_ls_ev, un_nil_ev]
theorem ref_Step_says : Says ref_Step_SC ref_Step_S := by
  intro β ls' k' r' h'
  unfold ref_Step_SC at h'
  obtain ⟨s, l'1, rfl, h'1⟩ := un_i_some.1 h'
  obtain ⟨n2, l'2, rfl, h'2⟩ := un_i_some.1 h'1
  obtain ⟨rfl, h'Z⟩ := un_nil_some.1 h'2
  obtain ⟨l', a', b'⟩ := out_some.1 h'Z
  exact ⟨l', (ref_Step_Se s n2).trans a', b'⟩
theorem ref_Step_c : FnC Go.Proofs.Tryz.prog 28 true 2 0 ref_Step_in ref_Step_out ref_Step_S := by
  refine fn_ok (Λ := ref_Step_Λ) mixed tab_ok g14 Go.Proofs.Tryz.func28 (by kernel_rfl) (body := fb Go.Proofs.Tryz.f28) rfl (ts := Go.Proofs.Tryz.f28.results.toList) rfl (cuts := []) (by kernel_rfl) (Nat.le_of_ble_eq_true (by kernel_rfl)) (by kernel_rfl) (rt := .w (.at (.int .u64))) rfl ?_ ?_
  · intro ls' r' h'
    unfold ref_Step_S at h'
    obtain ⟨s, l'1, rfl, h'1⟩ := un_i_some.1 h'
    obtain ⟨n2, l'2, rfl, h'2⟩ := un_i_some.1 h'1
    obtain ⟨rfl, h'Z⟩ := un_nil_some.1 h'2
    exact (ref_Step_e s n2).symm.trans h'Z
  · intro E w0 ws ρ0 hk b hb
    rw [show loopsOf (fb Go.Proofs.Tryz.f28) = [] by kernel_rfl] at hb
    cases hb
noncomputable def G15 : Env := G14.addP 28 2 ref_Step_in ref_Step_out ref_Step_SC
theorem g15 : EnvOk Go.Proofs.Tryz.prog G15 := EnvOk.addP g14 ref_Step_c ref_Step_says

-- ### ref_Add: function 64
def ref_Add_in : Tm := ⟨[], [(0, .w (.at (.int .u64))), (1, .w (.at (.int .u64)))]⟩
def ref_Add_out : Tm := ⟨[], [(0, .w (.at (.int .u64)))]⟩

def ref_Add_Λd : Loops := Loops.none
def ref_Add_Λ : Loops := ref_Add_Λd 

theorem ref_Add_e (a : Int) (b : Int) : ref_Add a b = den G15 ref_Add_Λ true tab Go.Proofs.Tryz.f64.ntmps (fun fr H => finish tab 0 Go.Proofs.Tryz.f64.results.toList ref_Add_out [] fr H some) (fun _ _ _ => none) (fun fr H => finish tab 0 Go.Proofs.Tryz.f64.results.toList ref_Add_out [] fr H some) 10000 [.code (fb Go.Proofs.Tryz.f64)] (instFr ref_Add_in [.i a, .i b]) (instH ref_Add_in [.i a, .i b]) := by kernel_rfl
def ref_Add_S : List Leaf → Option (List Leaf) := fun ls => un_i ls fun a rr => un_i rr fun b rr => un_nil rr (ref_Add a b)
def ref_Add_SC : Tld := fun ls k' => un_i ls fun a rr => un_i rr fun b rr => un_nil rr (out (ref_Add a b) k')
theorem ref_Add_Se (a : Int) (b : Int) : ref_Add_S [.i a, .i b] = ref_Add a b := by
  unfold ref_Add_S
  simp only [un_i_ev, un_b_ev, un_s_ev, un_li_ev, un_lb_ev, un_ls_ev, un_nil_ev]
theorem ref_Add_says : Says ref_Add_SC ref_Add_S := by
  intro β ls' k' r' h'
  unfold ref_Add_SC at h'
  obtain ⟨a, l'1, rfl, h'1⟩ := un_i_some.1 h'
  obtain ⟨b, l'2, rfl, h'2⟩ := un_i_some.1 h'1
  obtain ⟨rfl, h'Z⟩ := un_nil_some.1 h'2
  obtain ⟨l', a', b'⟩ := out_some.1 h'Z
  exact ⟨l', (ref_Add_Se a b).trans a', b'⟩
theorem ref_Add_c : FnC Go.Proofs.Tryz.prog 64 true 2 0 ref_Add_in ref_Add_out ref_Add_S := by
  refine fn_ok (Λ := ref_Add_Λ) mixed tab_ok g15 Go.Proofs.Tryz.func64 (by kernel_rfl) (body := fb Go.Proofs.Tryz.f64) rfl (ts := Go.Proofs.Tryz.f64.results.toList) rfl (cuts := []) (by kernel_rfl) (Nat.le_of_ble_eq_true (by kernel_rfl)) (by kernel_rfl) (rt := .w (.at (.int .u64))) rfl ?_ ?_
  · intro ls' r' h'
    unfold ref_Add_S at h'
    obtain ⟨a, l'1, rfl, h'1⟩ := un_i_some.1 h'
    obtain ⟨b, l'2, rfl, h'2⟩ := un_i_some.1 h'1
    obtain ⟨rfl, h'Z⟩ := un_nil_some.1 h'2
    exact (ref_Add_e a b).symm.trans h'Z
  · intro E w0 ws ρ0 hk b hb
    rw [show loopsOf (fb Go.Proofs.Tryz.f64) = [] by kernel_rfl] at hb
    cases hb
noncomputable def G16 : Env := G15.addP 64 2 ref_Add_in ref_Add_out ref_Add_SC
theorem g16 : EnvOk Go.Proofs.Tryz.prog G16 := EnvOk.addP g15 ref_Add_c ref_Add_says

-- ### ref_Sub: function 63
def ref_Sub_in : Tm := ⟨[], [(0, .w (.at (.int .u64))), (1, .w (.at (.int .u64)))]⟩
def ref_Sub_out : Tm := ⟨[], [(0, .w (.at (.int .u64)))]⟩

def ref_Sub_Λd : Loops := Loops.none
def ref_Sub_Λ : Loops := ref_Sub_Λd 

theorem ref_Sub_e (a : Int) (b : Int) : ref_Sub a b = den G16 ref_Sub_Λ true tab Go.Proofs.Tryz.f63.ntmps (fun fr H => finish tab 0 Go.Proofs.Tryz.f63.results.toList ref_Sub_out [] fr H some) (fun _ _ _ => none) (fun fr H => finish tab 0 Go.Proofs.Tryz.f63.results.toList ref_Sub_out [] fr H some) 10000 [.code (fb Go.Proofs.Tryz.f63)] (instFr ref_Sub_in [.i a, .i b]) (instH ref_Sub_in [.i a, .i b]) := by kernel_rfl
def ref_Sub_S : List Leaf → Option (List Leaf) := fun ls => un_i ls fun a rr => un_i rr fun b rr => un_nil rr (ref_Sub a b)
def ref_Sub_SC : Tld := fun ls k' => un_i ls fun a rr => un_i rr fun b rr => un_nil rr (out (ref_Sub a b) k')
theorem ref_Sub_Se (a : Int) (b : Int) : ref_Sub_S [.i a, .i b] = ref_Sub a b := by
  unfold ref_Sub_S
  simp only [un_i_ev, un_b_ev, un_s_ev, un_li_ev, un_lb_ev, un_ls_ev, un_nil_ev]
theorem ref_Sub_says : Says ref_Sub_SC ref_Sub_S := by
  intro β ls' k' r' h'
  unfold ref_Sub_SC at h'
  obtain ⟨a, l'1, rfl, h'1⟩ := un_i_some.1 h'
  obtain ⟨b, l'2, rfl, h'2⟩ := un_i_some.1 h'1
  obtain ⟨rfl, h'Z⟩ := un_nil_some.1 h'2
  obtain ⟨l', a', b'⟩ := out_some.1 h'Z
  exact ⟨l', (ref_Sub_Se a b).trans a', b'⟩
theorem ref_Sub_c : FnC Go.Proofs.Tryz.prog 63 true 2 0 ref_Sub_in ref_Sub_out ref_Sub_S := by
  refine fn_ok (Λ := ref_Sub_Λ) mixed tab_ok g16 Go.Proofs.Tryz.func63 (by kernel_rfl) (body := fb Go.Proofs.Tryz.f63) rfl (ts := Go.Proofs.Tryz.f63.results.toList) rfl (cuts := []) (by kernel_rfl) (Nat.le_of_ble_eq_true (by kernel_rfl)) (by kernel_rfl) (rt := .w (.at (.int .u64))) rfl ?_ ?_
  · intro ls' r' h'
    unfold ref_Sub_S at h'
    obtain ⟨a, l'1, rfl, h'1⟩ := un_i_some.1 h'
    obtain ⟨b, l'2, rfl, h'2⟩ := un_i_some.1 h'1
    obtain ⟨rfl, h'Z⟩ := un_nil_some.1 h'2
    exact (ref_Sub_e a b).symm.trans h'Z
  · intro E w0 ws ρ0 hk b hb
    rw [show loopsOf (fb Go.Proofs.Tryz.f63) = [] by kernel_rfl] at hb
    cases hb
noncomputable def G17 : Env := G16.addP 63 2 ref_Sub_in ref_Sub_out ref_Sub_SC
theorem g17 : EnvOk Go.Proofs.Tryz.prog G17 := EnvOk.addP g16 ref_Sub_c ref_Sub_says

-- ### ref_Wide: function 60
def ref_Wide_in : Tm := ⟨[], [(0, .w (.at (.int .u64))), (1, .w (.at (.int .u64)))]⟩
def ref_Wide_out : Tm := ⟨[], [(0, .tup [.at (.int .u64), .at (.int .u64)])]⟩

def ref_Wide_Λd : Loops := Loops.none
def ref_Wide_Λ : Loops := ref_Wide_Λd 

theorem ref_Wide_e (a : Int) (b : Int) : ref_Wide a b = den G17 ref_Wide_Λ true tab Go.Proofs.Tryz.f60.ntmps (fun fr H => finish tab 0 Go.Proofs.Tryz.f60.results.toList ref_Wide_out [] fr H some) (fun _ _ _ => none) (fun fr H => finish tab 0 Go.Proofs.Tryz.f60.results.toList ref_Wide_out [] fr H some) 10000 [.code (fb Go.Proofs.Tryz.f60)] (instFr ref_Wide_in [.i a, .i b]) (instH ref_Wide_in [.i a, .i b]) := by kernel_rfl
def ref_Wide_S : List Leaf → Option (List Leaf) := fun ls => un_i ls fun a rr => un_i rr fun b rr => un_nil rr (ref_Wide a b)
def ref_Wide_SC : Tld := fun ls k' => un_i ls fun a rr => un_i rr fun b rr => un_nil rr (out (ref_Wide a b) k')
theorem ref_Wide_Se (a : Int) (b : Int) : ref_Wide_S [.i a, .i b] = ref_Wide a b := by
  unfold ref_Wide_S
  simp only [un_i_ev, un_b_ev, un_s_ev, un_li_ev, un_lb_ev, un_ls_ev, un_nil_ev]
theorem ref_Wide_says : Says ref_Wide_SC ref_Wide_S := by
  intro β ls' k' r' h'
  unfold ref_Wide_SC at h'
  obtain ⟨a, l'1, rfl, h'1⟩ := un_i_some.1 h'
  obtain ⟨b, l'2, rfl, h'2⟩ := un_i_some.1 h'1
  obtain ⟨rfl, h'Z⟩ := un_nil_some.1 h'2
  obtain ⟨l', a', b'⟩ := out_some.1 h'Z
  exact ⟨l', (ref_Wide_Se a b).trans a', b'⟩
theorem ref_Wide_c : FnC Go.Proofs.Tryz.prog 60 true 2 0 ref_Wide_in ref_Wide_out ref_Wide_S := by
  refine fn_ok (Λ := ref_Wide_Λ) mixed tab_ok g17 Go.Proofs.Tryz.func60 (by kernel_rfl) (body := fb Go.Proofs.Tryz.f60) rfl (ts := Go.Proofs.Tryz.f60.results.toList) rfl (cuts := []) (by kernel_rfl) (Nat.le_of_ble_eq_true (by kernel_rfl)) (by kernel_rfl) (rt := .tup [.at (.int .u64), .at (.int .u64)]) rfl ?_ ?_
  · intro ls' r' h'
    unfold ref_Wide_S at h'
    obtain ⟨a, l'1, rfl, h'1⟩ := un_i_some.1 h'
    obtain ⟨b, l'2, rfl, h'2⟩ := un_i_some.1 h'1
    obtain ⟨rfl, h'Z⟩ := un_nil_some.1 h'2
    exact (ref_Wide_e a b).symm.trans h'Z
  · intro E w0 ws ρ0 hk b hb
    rw [show loopsOf (fb Go.Proofs.Tryz.f60) = [] by kernel_rfl] at hb
    cases hb
noncomputable def G18 : Env := G17.addP 60 2 ref_Wide_in ref_Wide_out ref_Wide_SC
theorem g18 : EnvOk Go.Proofs.Tryz.prog G18 := EnvOk.addP g17 ref_Wide_c ref_Wide_says

-- ### ref_Mul: function 20
def ref_Mul_in : Tm := ⟨[], [(0, .w (.at (.int .u64))), (1, .w (.at (.int .u64)))]⟩
def ref_Mul_out : Tm := ⟨[], [(0, .w (.at (.int .u64)))]⟩

def ref_Mul_Λd : Loops := Loops.none
def ref_Mul_Λ : Loops := ref_Mul_Λd 

theorem ref_Mul_e (a : Int) (b : Int) : ref_Mul a b = den G18 ref_Mul_Λ true tab Go.Proofs.Tryz.f20.ntmps (fun fr H => finish tab 0 Go.Proofs.Tryz.f20.results.toList ref_Mul_out [] fr H some) (fun _ _ _ => none) (fun fr H => finish tab 0 Go.Proofs.Tryz.f20.results.toList ref_Mul_out [] fr H some) 10000 [.code (fb Go.Proofs.Tryz.f20)] (instFr ref_Mul_in [.i a, .i b]) (instH ref_Mul_in [.i a, .i b]) := by kernel_rfl
def ref_Mul_S : List Leaf → Option (List Leaf) := fun ls => un_i ls fun a rr => un_i rr fun b rr => un_nil rr (ref_Mul a b)
def ref_Mul_SC : Tld := fun ls k' => un_i ls fun a rr => un_i rr fun b rr => un_nil rr (out (ref_Mul a b) k')
theorem ref_Mul_Se (a : Int) (b : Int) : ref_Mul_S [.i a, .i b] = ref_Mul a b := by
  unfold ref_Mul_S
  simp only [un_i_ev, un_b_ev, un_s_ev, un_li_ev, un_lb_ev, un_ls_ev, un_nil_ev]
theorem ref_Mul_says : Says ref_Mul_SC ref_Mul_S := by
  intro β ls' k' r' h'
  unfold ref_Mul_SC at h'
  obtain ⟨a, l'1, rfl, h'1⟩ := un_i_some.1 h'
  obtain ⟨b, l'2, rfl, h'2⟩ := un_i_some.1 h'1
  obtain ⟨rfl, h'Z⟩ := un_nil_some.1 h'2
  obtain ⟨l', a', b'⟩ := out_some.1 h'Z
  exact ⟨l', (ref_Mul_Se a b).trans a', b'⟩
theorem ref_Mul_c : FnC Go.Proofs.Tryz.prog 20 true 2 0 ref_Mul_in ref_Mul_out ref_Mul_S := by
  refine fn_ok (Λ := ref_Mul_Λ) mixed tab_ok g18 Go.Proofs.Tryz.func20 (by kernel_rfl) (body := fb Go.Proofs.Tryz.f20) rfl (ts := Go.Proofs.Tryz.f20.results.toList) rfl (cuts := []) (by kernel_rfl) (Nat.le_of_ble_eq_true (by kernel_rfl)) (by kernel_rfl) (rt := .w (.at (.int .u64))) rfl ?_ ?_
  · intro ls' r' h'
    unfold ref_Mul_S at h'
    obtain ⟨a, l'1, rfl, h'1⟩ := un_i_some.1 h'
    obtain ⟨b, l'2, rfl, h'2⟩ := un_i_some.1 h'1
    obtain ⟨rfl, h'Z⟩ := un_nil_some.1 h'2
    exact (ref_Mul_e a b).symm.trans h'Z
  · intro E w0 ws ρ0 hk b hb
    rw [show loopsOf (fb Go.Proofs.Tryz.f20) = [] by kernel_rfl] at hb
    cases hb
noncomputable def G19 : Env := G18.addP 20 2 ref_Mul_in ref_Mul_out ref_Mul_SC
theorem g19 : EnvOk Go.Proofs.Tryz.prog G19 := EnvOk.addP g18 ref_Mul_c ref_Mul_says
end Go.Sx.T

