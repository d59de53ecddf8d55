import Derived.Test.YtllgbgponmkijaaGreatDoorYValSpec
import Derived.Test.YtllgbgponmkijaaGreatDoorYPBCon
set_option linter.all false
namespace Go.Sx.T
open Go Go.Sx Go.Proofs
set_option maxRecDepth 100000

-- ### seq_Max: function 83
def seq_Max_in : Tm := ⟨[.ro 22 1 [.int .u64]], [(0, .w (.at (.int .u64))), (1, .w (.at (.all 0 1)))]⟩
def seq_Max_out : Tm := ⟨[.dead], [(0, .w (.at (.int .u64)))]⟩
def seq_Max_2_T : Tm := ⟨[.ro 22 1 [.int .u64]], [(9, .w (.at (.int .i64))), (0, .w (.at (.int .u64))), (7, .w (.at (.all 0 1))), (8, .w (.at (.int .i64)))]⟩
def seq_Max_2_X0 : Tm := ⟨[.ro 22 1 [.int .u64]], [(0, .w (.at (.int .u64)))]⟩
def seq_Max_2_X : Exits := [(0, (seq_Max_2_X0, []))]
def seq_Max_2_R : Tm := ⟨[], []⟩

def seq_Max_Λd (L2 : ({β : Type} → (Nat → List Leaf → Option β) → (List Leaf → Option β) → Nat → List Int → Int → Int → Int → Option β)) : Loops := ⟨fun b fr H kx kr => bif Nat.beq (rid b) 2 then loopE 1 seq_Max_2_T [] seq_Max_2_X seq_Max_2_R (seq_Max_2_F @L2 top) fr H kx kr else none⟩
def seq_Max_Λ : Loops := seq_Max_Λd @seq_Max_2_L
theorem seq_Max_2_e (L2 : ({β : Type} → (Nat → List Leaf → Option β) → (List Leaf → Option β) → Nat → List Int → Int → Int → Int → Option β)) {α : Type} (kx : Nat → List Leaf → Option α) (kr : List Leaf → Option α) (again : List Int → Int → Int → Int → Option α) (more : List Int) (t9 : Int) (s : Int) (t8 : Int) : seq_Max_2_B  kx kr again more t9 s t8 = loopB G33 (seq_Max_Λd @L2) true tab Go.Proofs.Tryz.f83.ntmps 1 seq_Max_2_T [] seq_Max_2_X seq_Max_2_R (bodyAt (fb Go.Proofs.Tryz.f83) 0) (fun ls => un_li ls fun more rr => un_i rr fun t9 rr => un_i rr fun s rr => un_i rr fun t8 rr => un_nil rr (again more t9 s t8)) kx kr (instFr seq_Max_2_T [.li more, .i t9, .i s, .i t8]) (instH seq_Max_2_T [.li more, .i t9, .i s, .i t8]) := by kernel_rfl
theorem seq_Max_2_lok (E : Nat → Prop) (w0 ws : World) (ρ0 : List Pl) (hk : ρ0.length = 1) : LOk Go.Proofs.Tryz.prog 83 Go.Proofs.Tryz.f83 true E w0 ws Go.Proofs.Tryz.f83.ntmps ρ0 seq_Max_Λ (bodyAt (fb Go.Proofs.Tryz.f83) 0) := by
  refine lok mixed tab_ok g33 Go.Proofs.Tryz.func83 hk (T := seq_Max_2_T) (rt := seq_Max_2_R) (cuts := []) (ex := seq_Max_2_X) (top := top) (F := seq_Max_2_F @seq_Max_2_L) (fun fr H kx kr => by kernel_rfl) ?_ ?_ ?_
  · intro α ls' kx' kr' r' h'
    unfold seq_Max_2_F at h'
    obtain ⟨more, l'1, rfl, h'1⟩ := un_li_some.1 h'
    obtain ⟨t9, l'2, rfl, h'2⟩ := un_i_some.1 h'1
    obtain ⟨s, l'3, rfl, h'3⟩ := un_i_some.1 h'2
    obtain ⟨t8, l'4, rfl, h'4⟩ := un_i_some.1 h'3
    obtain ⟨rfl, h'Z⟩ := un_nil_some.1 h'4
    cases h'Z
  · intro α n' ls' kx' kr' r' h'
    unfold seq_Max_2_F at h'
    obtain ⟨more, l'1, rfl, h'1⟩ := un_li_some.1 h'
    obtain ⟨t9, l'2, rfl, h'2⟩ := un_i_some.1 h'1
    obtain ⟨s, l'3, rfl, h'3⟩ := un_i_some.1 h'2
    obtain ⟨t8, l'4, rfl, h'4⟩ := un_i_some.1 h'3
    obtain ⟨rfl, h'Z⟩ := un_nil_some.1 h'4
    exact (seq_Max_2_e @seq_Max_2_L kx' kr' (seq_Max_2_L kx' kr' n') more t9 s t8).symm.trans h'Z
  · intro b' hb
    rw [show loopsOf (bodyAt (fb Go.Proofs.Tryz.f83) 0) = [] by kernel_rfl] at hb
    cases hb
theorem seq_Max_ed (L2 : ({β : Type} → (Nat → List Leaf → Option β) → (List Leaf → Option β) → Nat → List Int → Int → Int → Int → Option β)) (more : List Int) (s : Int) : seq_Max_d @L2 more s = den G33 (seq_Max_Λd @L2) true tab Go.Proofs.Tryz.f83.ntmps (fun fr H => finish tab 1 Go.Proofs.Tryz.f83.results.toList seq_Max_out [] fr H some) (fun _ _ _ => none) (fun fr H => finish tab 1 Go.Proofs.Tryz.f83.results.toList seq_Max_out [] fr H some) 10000 [.code (fb Go.Proofs.Tryz.f83)] (instFr seq_Max_in [.li more, .i s]) (instH seq_Max_in [.li more, .i s]) := by kernel_rfl
theorem seq_Max_e (more : List Int) (s : Int) : seq_Max more s = den G33 seq_Max_Λ true tab Go.Proofs.Tryz.f83.ntmps (fun fr H => finish tab 1 Go.Proofs.Tryz.f83.results.toList seq_Max_out [] fr H some) (fun _ _ _ => none) (fun fr H => finish tab 1 Go.Proofs.Tryz.f83.results.toList seq_Max_out [] fr H some) 10000 [.code (fb Go.Proofs.Tryz.f83)] (instFr seq_Max_in [.li more, .i s]) (instH seq_Max_in [.li more, .i s]) := seq_Max_ed @seq_Max_2_L more s
def seq_Max_S : List Leaf → Option (List Leaf) := fun ls => un_li ls fun more rr => un_i rr fun s rr => un_nil rr (seq_Max more s)
def seq_Max_SC : Tld := fun ls k' => un_li ls fun more rr => un_i rr fun s rr => un_nil rr (out (seq_Max more s) k')
theorem seq_Max_Se (more : List Int) (s : Int) : seq_Max_S [.li more, .i s] = seq_Max more s := by
  unfold seq_Max_S
  simp only [un_i_ev, un_b_ev, un_s_ev, un_li_ev, un_lb_ev, un_ls_ev, un_nil_ev]
theorem seq_Max_says : Says seq_Max_SC seq_Max_S := by
  intro β ls' k' r' h'
  unfold seq_Max_SC at h'
  obtain ⟨more, l'1, rfl, h'1⟩ := un_li_some.1 h'
  obtain ⟨s, l'2, rfl, h'2⟩ := un_i_some.1 h'1
  obtain ⟨rfl, h'Z⟩ := un_nil_some.1 h'2
  obtain ⟨l', a', b'⟩ := out_some.1 h'Z
  exact ⟨l', (seq_Max_Se more s).trans a', b'⟩
theorem seq_Max_c : FnC Go.Proofs.Tryz.prog 83 true 2 1 seq_Max_in seq_Max_out seq_Max_S := by
  refine fn_ok (Λ := seq_Max_Λ) mixed tab_ok g33 Go.Proofs.Tryz.func83 (by kernel_rfl) (body := fb Go.Proofs.Tryz.f83) rfl (ts := Go.Proofs.Tryz.f83.results.toList) rfl (cuts := []) (by kernel_rfl) (Nat.le_of_ble_eq_true (by kernel_rfl)) (by kernel_rfl) (rt := .w (.at (.int .u64))) rfl ?_ ?_
  · intro ls' r' h'
    unfold seq_Max_S at h'
    obtain ⟨more, l'1, rfl, h'1⟩ := un_li_some.1 h'
    obtain ⟨s, l'2, rfl, h'2⟩ := un_i_some.1 h'1
    obtain ⟨rfl, h'Z⟩ := un_nil_some.1 h'2
    exact (seq_Max_e more s).symm.trans h'Z
  · intro E w0 ws ρ0 hk b hb
    rw [show loopsOf (fb Go.Proofs.Tryz.f83) = [(bodyAt (fb Go.Proofs.Tryz.f83) 0)] by kernel_rfl] at hb
    simp only [List.mem_cons, List.mem_nil_iff, or_false] at hb
    rcases hb with rfl
    · exact seq_Max_2_lok E w0 ws ρ0 hk
noncomputable def G34 : Env := G33.addP 83 2 seq_Max_in seq_Max_out seq_Max_SC
theorem g34 : EnvOk Go.Proofs.Tryz.prog G34 := EnvOk.addP g33 seq_Max_c seq_Max_says

-- ### seq_In: function 65
def seq_In_in : Tm := ⟨[], [(0, .w (.at (.int .u64))), (1, .w (.at (.int .u64))), (2, .w (.at (.int .u64)))]⟩
def seq_In_out : Tm := ⟨[], [(0, .w (.at (.bool)))]⟩

def seq_In_Λd : Loops := Loops.none
def seq_In_Λ : Loops := seq_In_Λd 

theorem seq_In_e (low : Int) (s : Int) (high : Int) : seq_In low s high = den G34 seq_In_Λ true tab Go.Proofs.Tryz.f65.ntmps (fun fr H => finish tab 0 Go.Proofs.Tryz.f65.results.toList seq_In_out [] fr H some) (fun _ _ _ => none) (fun fr H => finish tab 0 Go.Proofs.Tryz.f65.results.toList seq_In_out [] fr H some) 10000 [.code (fb Go.Proofs.Tryz.f65)] (instFr seq_In_in [.i low, .i s, .i high]) (instH seq_In_in [.i low, .i s, .i high]) := by kernel_rfl
def seq_In_S : List Leaf → Option (List Leaf) := fun ls => un_i ls fun low rr => un_i rr fun s rr => un_i rr fun high rr => un_nil rr (seq_In low s high)
def seq_In_SC : Tld := fun ls k' => un_i ls fun low rr => un_i rr fun s rr => un_i rr fun high rr => un_nil rr (out (seq_In low s high) k')
theorem seq_In_Se (low : Int) (s : Int) (high : Int) : seq_In_S [.i low, .i s, .i high] = seq_In low s high := by
  unfold seq_In_S
  simp only [un_i_ev, un_b_ev, un_s_ev, un_li_ev, un_lb_ev, un_ls_ev, un_nil_ev]
theorem seq_In_says : Says seq_In_SC seq_In_S := by
  intro β ls' k' r' h'
  unfold seq_In_SC at h'
  obtain ⟨low, l'1, rfl, h'1⟩ := un_i_some.1 h'
  obtain ⟨s, l'2, rfl, h'2⟩ := un_i_some.1 h'1
  obtain ⟨high, l'3, rfl, h'3⟩ := un_i_some.1 h'2
  obtain ⟨rfl, h'Z⟩ := un_nil_some.1 h'3
  obtain ⟨l', a', b'⟩ := out_some.1 h'Z
  exact ⟨l', (seq_In_Se low s high).trans a', b'⟩
theorem seq_In_c : FnC Go.Proofs.Tryz.prog 65 true 3 0 seq_In_in seq_In_out seq_In_S := by
  refine fn_ok (Λ := seq_In_Λ) mixed tab_ok g34 Go.Proofs.Tryz.func65 (by kernel_rfl) (body := fb Go.Proofs.Tryz.f65) rfl (ts := Go.Proofs.Tryz.f65.results.toList) rfl (cuts := []) (by kernel_rfl) (Nat.le_of_ble_eq_true (by kernel_rfl)) (by kernel_rfl) (rt := .w (.at (.bool))) rfl ?_ ?_
  · intro ls' r' h'
    unfold seq_In_S at h'
    obtain ⟨low, l'1, rfl, h'1⟩ := un_i_some.1 h'
    obtain ⟨s, l'2, rfl, h'2⟩ := un_i_some.1 h'1
    obtain ⟨high, l'3, rfl, h'3⟩ := un_i_some.1 h'2
    obtain ⟨rfl, h'Z⟩ := un_nil_some.1 h'3
    exact (seq_In_e low s high).symm.trans h'Z
  · intro E w0 ws ρ0 hk b hb
    rw [show loopsOf (fb Go.Proofs.Tryz.f65) = [] by kernel_rfl] at hb
    cases hb
noncomputable def G35 : Env := G34.addP 65 3 seq_In_in seq_In_out seq_In_SC
theorem g35 : EnvOk Go.Proofs.Tryz.prog G35 := EnvOk.addP g34 seq_In_c seq_In_says

-- ### seq_Long: function 72
def seq_Long_in : Tm := ⟨[], [(0, .w (.at (.int .u32))), (1, .w (.at (.int .u64)))]⟩
def seq_Long_out : Tm := ⟨[], [(0, .w (.at (.int .u64)))]⟩

def seq_Long_Λd : Loops := Loops.none
def seq_Long_Λ : Loops := seq_Long_Λd 

theorem seq_Long_e (short : Int) (near : Int) : seq_Long short near = den G35 seq_Long_Λ true tab Go.Proofs.Tryz.f72.ntmps (fun fr H => finish tab 0 Go.Proofs.Tryz.f72.results.toList seq_Long_out [] fr H some) (fun _ _ _ => none) (fun fr H => finish tab 0 Go.Proofs.Tryz.f72.results.toList seq_Long_out [] fr H some) 10000 [.code (fb Go.Proofs.Tryz.f72)] (instFr seq_Long_in [.i short, .i near]) (instH seq_Long_in [.i short, .i near]) := by kernel_rfl
def seq_Long_S : List Leaf → Option (List Leaf) := fun ls => un_i ls fun short rr => un_i rr fun near rr => un_nil rr (seq_Long short near)
def seq_Long_SC : Tld := fun ls k' => un_i ls fun short rr => un_i rr fun near rr => un_nil rr (out (seq_Long short near) k')
theorem seq_Long_Se (short : Int) (near : Int) : seq_Long_S [.i short, .i near] = seq_Long short near := by
  unfold seq_Long_S
  simp only [un_i_ev, un_b_ev, un_s_ev, un_li_ev, un_lb_ev, un_ls_ev, un_nil_ev]
theorem seq_Long_says : Says seq_Long_SC seq_Long_S := by
  intro β ls' k' r' h'
  unfold seq_Long_SC at h'
  obtain ⟨short, l'1, rfl, h'1⟩ := un_i_some.1 h'
  obtain ⟨near, l'2, rfl, h'2⟩ := un_i_some.1 h'1
  obtain ⟨rfl, h'Z⟩ := un_nil_some.1 h'2
  obtain ⟨l', a', b'⟩ := out_some.1 h'Z
  exact ⟨l', (seq_Long_Se short near).trans a', b'⟩
theorem seq_Long_c : FnC Go.Proofs.Tryz.prog 72 true 2 0 seq_Long_in seq_Long_out seq_Long_S := by
  refine fn_ok (Λ := seq_Long_Λ) mixed tab_ok g35 Go.Proofs.Tryz.func72 (by kernel_rfl) (body := fb Go.Proofs.Tryz.f72) rfl (ts := Go.Proofs.Tryz.f72.results.toList) rfl (cuts := []) (by kernel_rfl) (Nat.le_of_ble_eq_true (by kernel_rfl)) (by kernel_rfl) (rt := .w (.at (.int .u64))) rfl ?_ ?_
  · intro ls' r' h'
    unfold seq_Long_S at h'
    obtain ⟨short, l'1, rfl, h'1⟩ := un_i_some.1 h'
    obtain ⟨near, l'2, rfl, h'2⟩ := un_i_some.1 h'1
    obtain ⟨rfl, h'Z⟩ := un_nil_some.1 h'2
    exact (seq_Long_e short near).symm.trans h'Z
  · intro E w0 ws ρ0 hk b hb
    rw [show loopsOf (fb Go.Proofs.Tryz.f72) = [] by kernel_rfl] at hb
    cases hb
noncomputable def G36 : Env := G35.addP 72 2 seq_Long_in seq_Long_out seq_Long_SC
theorem g36 : EnvOk Go.Proofs.Tryz.prog G36 := EnvOk.addP g35 seq_Long_c seq_Long_says

-- ### head_is: function 92
def head_is_in : Tm := ⟨[], [(0, .w (.at (.int .i64)))]⟩
def head_is_out : Tm := ⟨[], [(0, .w (.at (.bool)))]⟩

def head_is_Λd : Loops := Loops.none
def head_is_Λ : Loops := head_is_Λd 

theorem head_is_e (t : Int) : head_is t = den G36 head_is_Λ true tab Go.Proofs.Tryz.f92.ntmps (fun fr H => finish tab 0 Go.Proofs.Tryz.f92.results.toList head_is_out [] fr H some) (fun _ _ _ => none) (fun fr H => finish tab 0 Go.Proofs.Tryz.f92.results.toList head_is_out [] fr H some) 10000 [.code (fb Go.Proofs.Tryz.f92)] (instFr head_is_in [.i t]) (instH head_is_in [.i t]) := by kernel_rfl
def head_is_S : List Leaf → Option (List Leaf) := fun ls => un_i ls fun t rr => un_nil rr (head_is t)
def head_is_SC : Tld := fun ls k' => un_i ls fun t rr => un_nil rr (out (head_is t) k')
theorem head_is_Se (t : Int) : head_is_S [.i t] = head_is t := by
  unfold head_is_S
  simp only [un_i_ev, un_b_ev, un_s_ev, un_li_ev, un_lb_ev, un_ls_ev, un_nil_ev]
theorem head_is_says : Says head_is_SC head_is_S := by
  intro β ls' k' r' h'
  unfold head_is_SC at h'
  obtain ⟨t, l'1, rfl, h'1⟩ := un_i_some.1 h'
  obtain ⟨rfl, h'Z⟩ := un_nil_some.1 h'1
  obtain ⟨l', a', b'⟩ := out_some.1 h'Z
  exact ⟨l', (head_is_Se t).trans a', b'⟩
theorem head_is_c : FnC Go.Proofs.Tryz.prog 92 true 1 0 head_is_in head_is_out head_is_S := by
  refine fn_ok (Λ := head_is_Λ) mixed tab_ok g36 Go.Proofs.Tryz.func92 (by kernel_rfl) (body := fb Go.Proofs.Tryz.f92) rfl (ts := Go.Proofs.Tryz.f92.results.toList) rfl (cuts := []) (by kernel_rfl) (Nat.le_of_ble_eq_true (by kernel_rfl)) (by kernel_rfl) (rt := .w (.at (.bool))) rfl ?_ ?_
  · intro ls' r' h'
    unfold head_is_S at h'
    obtain ⟨t, l'1, rfl, h'1⟩ := un_i_some.1 h'
    obtain ⟨rfl, h'Z⟩ := un_nil_some.1 h'1
    exact (head_is_e t).symm.trans h'Z
  · intro E w0 ws ρ0 hk b hb
    rw [show loopsOf (fb Go.Proofs.Tryz.f92) = [] by kernel_rfl] at hb
    cases hb
noncomputable def G37 : Env := G36.addP 92 1 head_is_in head_is_out head_is_SC
theorem g37 : EnvOk Go.Proofs.Tryz.prog G37 := EnvOk.addP g36 head_is_c head_is_says

-- ### head_HasAck: function 73
def head_HasAck_in : Tm := ⟨[], [(0, .w (.at (.int .i64)))]⟩
def head_HasAck_out : Tm := ⟨[], [(0, .w (.at (.bool)))]⟩

def head_HasAck_Λd : Loops := Loops.none
def head_HasAck_Λ : Loops := head_HasAck_Λd 

theorem head_HasAck_e (t : Int) : head_HasAck t = den G37 head_HasAck_Λ true tab Go.Proofs.Tryz.f73.ntmps (fun fr H => finish tab 0 Go.Proofs.Tryz.f73.results.toList head_HasAck_out [] fr H some) (fun _ _ _ => none) (fun fr H => finish tab 0 Go.Proofs.Tryz.f73.results.toList head_HasAck_out [] fr H some) 10000 [.code (fb Go.Proofs.Tryz.f73)] (instFr head_HasAck_in [.i t]) (instH head_HasAck_in [.i t]) := by kernel_rfl
def head_HasAck_S : List Leaf → Option (List Leaf) := fun ls => un_i ls fun t rr => un_nil rr (head_HasAck t)
def head_HasAck_SC : Tld := fun ls k' => un_i ls fun t rr => un_nil rr (out (head_HasAck t) k')
theorem head_HasAck_Se (t : Int) : head_HasAck_S [.i t] = head_HasAck t := by
  unfold head_HasAck_S
  simp only [un_i_ev, un_b_ev, un_s_ev, un_li_ev, un_lb_ev, un_ls_ev, un_nil_ev]
theorem head_HasAck_says : Says head_HasAck_SC head_HasAck_S := by
  intro β ls' k' r' h'
  unfold head_HasAck_SC at h'
  obtain ⟨t, l'1, rfl, h'1⟩ := un_i_some.1 h'
  obtain ⟨rfl, h'Z⟩ := un_nil_some.1 h'1
  obtain ⟨l', a', b'⟩ := out_some.1 h'Z
  exact ⟨l', (head_HasAck_Se t).trans a', b'⟩
theorem head_HasAck_c : FnC Go.Proofs.Tryz.prog 73 true 1 0 head_HasAck_in head_HasAck_out head_HasAck_S := by
  refine fn_ok (Λ := head_HasAck_Λ) mixed tab_ok g37 Go.Proofs.Tryz.func73 (by kernel_rfl) (body := fb Go.Proofs.Tryz.f73) rfl (ts := Go.Proofs.Tryz.f73.results.toList) rfl (cuts := []) (by kernel_rfl) (Nat.le_of_ble_eq_true (by kernel_rfl)) (by kernel_rfl) (rt := .w (.at (.bool))) rfl ?_ ?_
  · intro ls' r' h'
    unfold head_HasAck_S at h'
    obtain ⟨t, l'1, rfl, h'1⟩ := un_i_some.1 h'
    obtain ⟨rfl, h'Z⟩ := un_nil_some.1 h'1
    exact (head_HasAck_e t).symm.trans h'Z
  · intro E w0 ws ρ0 hk b hb
    rw [show loopsOf (fb Go.Proofs.Tryz.f73) = [] by kernel_rfl] at hb
    cases hb
noncomputable def G38 : Env := G37.addP 73 1 head_HasAck_in head_HasAck_out head_HasAck_SC
theorem g38 : EnvOk Go.Proofs.Tryz.prog G38 := EnvOk.addP g37 head_HasAck_c head_HasAck_says

-- ### valid_Windows: function 53
def valid_Windows_in : Tm := ⟨[], [(0, .w (.agg [.int .i64, .int .u64, .int .u64, .int .u64, .int .u64, .int .u64, .int .i64, .int .i64]))]⟩
def valid_Windows_out : Tm := ⟨[], [(0, .tup [.at (.int .u64), .at (.int .u64), .at (.int .u64), .at (.int .u64)])]⟩

def valid_Windows_Λd : Loops := Loops.none
def valid_Windows_Λ : Loops := valid_Windows_Λd 

theorem valid_Windows_e (v_State : Int) (v_Gss : Int) (v_Gsr : Int) (v_Gar : Int) (v_Iss : Int) (v_Isr : Int) (v_Mine : Int) (v_Theirs : Int) : valid_Windows v_State v_Gss v_Gsr v_Gar v_Iss v_Isr v_Mine v_Theirs = den G38 valid_Windows_Λ false tab Go.Proofs.Tryz.f53.ntmps (fun fr H => finish tab 0 Go.Proofs.Tryz.f53.results.toList valid_Windows_out [] fr H some) (fun _ _ _ => none) (fun fr H => finish tab 0 Go.Proofs.Tryz.f53.results.toList valid_Windows_out [] fr H some) 10000 [.code (fb Go.Proofs.Tryz.f53)] (instFr valid_Windows_in [.i v_State, .i v_Gss, .i v_Gsr, .i v_Gar, .i v_Iss, .i v_Isr, .i v_Mine, .i v_Theirs]) (instH valid_Windows_in [.i v_State, .i v_Gss, .i v_Gsr, .i v_Gar, .i v_Iss, .i v_Isr, .i v_Mine, .i v_Theirs]) := by kernel_rfl
def valid_Windows_S : List Leaf → Option (List Leaf) := fun ls => un_i ls fun v_State rr => un_i rr fun v_Gss rr => un_i rr fun v_Gsr rr => un_i rr fun v_Gar rr => un_i rr fun v_Iss rr => un_i rr fun v_Isr rr => un_i rr fun v_Mine rr => un_i rr fun v_Theirs rr => un_nil rr (valid_Windows v_State v_Gss v_Gsr v_Gar v_Iss v_Isr v_Mine v_Theirs)
def valid_Windows_SC : Tld := fun ls k' => un_i ls fun v_State rr => un_i rr fun v_Gss rr => un_i rr fun v_Gsr rr => un_i rr fun v_Gar rr => un_i rr fun v_Iss rr => un_i rr fun v_Isr rr => un_i rr fun v_Mine rr => un_i rr fun v_Theirs rr => un_nil rr (out (valid_Windows v_State v_Gss v_Gsr v_Gar v_Iss v_Isr v_Mine v_Theirs) k')
theorem valid_Windows_Se (v_State : Int) (v_Gss : Int) (v_Gsr : Int) (v_Gar : Int) (v_Iss : Int) (v_Isr : Int) (v_Mine : Int) (v_Theirs : Int) : valid_Windows_S [.i v_State, .i v_Gss, .i v_Gsr, .i v_Gar, .i v_Iss, .i v_Isr, .i v_Mine, .i v_Theirs] = valid_Windows v_State v_Gss v_Gsr v_Gar v_Iss v_Isr v_Mine v_Theirs := by
  unfold valid_Windows_S
  simp only [un_i_ev, un_b_ev, un_s_ev, un_li_ev, un_lb_ev, un_ls_ev, un_nil_ev]
theorem valid_Windows_says : Says valid_Windows_SC valid_Windows_S := by
  intro β ls' k' r' h'
  unfold valid_Windows_SC at h'
  obtain ⟨v_State, l'1, rfl, h'1⟩ := un_i_some.1 h'
  obtain ⟨v_Gss, l'2, rfl, h'2⟩ := un_i_some.1 h'1
  obtain ⟨v_Gsr, l'3, rfl, h'3⟩ := un_i_some.1 h'2
  obtain ⟨v_Gar, l'4, rfl, h'4⟩ := un_i_some.1 h'3
  obtain ⟨v_Iss, l'5, rfl, h'5⟩ := un_i_some.1 h'4
  obtain ⟨v_Isr, l'6, rfl, h'6⟩ := un_i_some.1 h'5
  obtain ⟨v_Mine, l'7, rfl, h'7⟩ := un_i_some.1 h'6
  obtain ⟨v_Theirs, l'8, rfl, h'8⟩ := un_i_some.1 h'7
  obtain ⟨rfl, h'Z⟩ := un_nil_some.1 h'8
  obtain ⟨l', a', b'⟩ := out_some.1 h'Z
  exact ⟨l', (valid_Windows_Se v_State v_Gss v_Gsr v_Gar v_Iss v_Isr v_Mine v_Theirs).trans a', b'⟩
theorem valid_Windows_c : FnC Go.Proofs.Tryz.prog 53 false 1 0 valid_Windows_in valid_Windows_out valid_Windows_S := by
  refine fn_ok (Λ := valid_Windows_Λ) mixed tab_ok g38 Go.Proofs.Tryz.func53 (by kernel_rfl) (body := fb Go.Proofs.Tryz.f53) rfl (ts := Go.Proofs.Tryz.f53.results.toList) rfl (cuts := []) (by kernel_rfl) (Nat.le_of_ble_eq_true (by kernel_rfl)) (by kernel_rfl) (rt := .tup [.at (.int .u64), .at (.int .u64), .at (.int .u64), .at (.int .u64)]) rfl ?_ ?_
  · intro ls' r' h'
    unfold valid_Windows_S at h'
    obtain ⟨v_State, l'1, rfl, h'1⟩ := un_i_some.1 h'
    obtain ⟨v_Gss, l'2, rfl, h'2⟩ := un_i_some.1 h'1
    obtain ⟨v_Gsr, l'3, rfl, h'3⟩ := un_i_some.1 h'2
    obtain ⟨v_Gar, l'4, rfl, h'4⟩ := un_i_some.1 h'3
    obtain ⟨v_Iss, l'5, rfl, h'5⟩ := un_i_some.1 h'4
    obtain ⟨v_Isr, l'6, rfl, h'6⟩ := un_i_some.1 h'5
    obtain ⟨v_Mine, l'7, rfl, h'7⟩ := un_i_some.1 h'6
    obtain ⟨v_Theirs, l'8, rfl, h'8⟩ := un_i_some.1 h'7
    obtain ⟨rfl, h'Z⟩ := un_nil_some.1 h'8
    exact (valid_Windows_e v_State v_Gss v_Gsr v_Gar v_Iss v_Isr v_Mine v_Theirs).symm.trans h'Z
  · intro E w0 ws ρ0 hk b hb
    rw [show loopsOf (fb Go.Proofs.Tryz.f53) = [] by kernel_rfl] at hb
    cases hb
noncomputable def G39 : Env := G38.addE 53 1 valid_Windows_in valid_Windows_out valid_Windows_SC
theorem g39 : EnvOk Go.Proofs.Tryz.prog G39 := EnvOk.addE g38 valid_Windows_c valid_Windows_says

-- ### valid_Long: function 33
def valid_Long_in : Tm := ⟨[], [(0, .w (.agg [.int .i64, .int .u64, .int .u64, .int .u64, .int .u64, .int .u64, .int .i64, .int .i64])), (1, .w (.agg [.int .i64, .int .i64, .int .i64, .int .i64, .int .i64, .int .i64, .int .i64, .bool, .int .u64, .int .u64, .int .u32, .int .i64, .int .u8, .int .u8, .int .u8, .nils, .str]))]⟩
def valid_Long_out : Tm := ⟨[], [(0, .w (.agg [.int .i64, .int .i64, .int .i64, .int .i64, .int .i64, .int .i64, .int .i64, .bool, .int .u64, .int .u64, .int .u32, .int .i64, .int .u8, .int .u8, .int .u8, .nils, .str]))]⟩

def valid_Long_Λd : Loops := Loops.none
def valid_Long_Λ : Loops := valid_Long_Λd 

theorem valid_Long_e (v_State : Int) (v_Gss : Int) (v_Gsr : Int) (v_Gar : Int) (v_Iss : Int) (v_Isr : Int) (v_Mine : Int) (v_Theirs : Int) (p_Head_Src : Int) (p_Head_Dst : Int) (p_Head_Off : Int) (p_Head_CCVal : Int) (p_Head_CsCov : Int) (p_Head_Sum : Int) (p_Head_Type : Int) (p_Head_X : Bool) (p_Head_Seq : Int) (p_Head_Ack : Int) (p_Head_Service : Int) (p_Head_Code : Int) (p_Head_Info_0 : Int) (p_Head_Info_1 : Int) (p_Head_Info_2 : Int) (p_Data : ByteArray) : valid_Long v_State v_Gss v_Gsr v_Gar v_Iss v_Isr v_Mine v_Theirs p_Head_Src p_Head_Dst p_Head_Off p_Head_CCVal p_Head_CsCov p_Head_Sum p_Head_Type p_Head_X p_Head_Seq p_Head_Ack p_Head_Service p_Head_Code p_Head_Info_0 p_Head_Info_1 p_Head_Info_2 p_Data = den G39 valid_Long_Λ false tab Go.Proofs.Tryz.f33.ntmps (fun fr H => finish tab 0 Go.Proofs.Tryz.f33.results.toList valid_Long_out [] fr H some) (fun _ _ _ => none) (fun fr H => finish tab 0 Go.Proofs.Tryz.f33.results.toList valid_Long_out [] fr H some) 10000 [.code (fb Go.Proofs.Tryz.f33)] (instFr valid_Long_in [.i v_State, .i v_Gss, .i v_Gsr, .i v_Gar, .i v_Iss, .i v_Isr, .i v_Mine, .i v_Theirs, .i p_Head_Src, .i p_Head_Dst, .i p_Head_Off, .i p_Head_CCVal, .i p_Head_CsCov, .i p_Head_Sum, .i p_Head_Type, .b p_Head_X, .i p_Head_Seq, .i p_Head_Ack, .i p_Head_Service, .i p_Head_Code, .i p_Head_Info_0, .i p_Head_Info_1, .i p_Head_Info_2, .s p_Data]) (instH valid_Long_in [.i v_State, .i v_Gss, .i v_Gsr, .i v_Gar, .i v_Iss, .i v_Isr, .i v_Mine, .i v_Theirs, .i p_Head_Src, .i p_Head_Dst, .i p_Head_Off, .i p_Head_CCVal, .i p_Head_CsCov, .i p_Head_Sum, .i p_Head_Type, .b p_Head_X, .i p_Head_Seq, .i p_Head_Ack, .i p_Head_Service, .i p_Head_Code, .i p_Head_Info_0, .i p_Head_Info_1, .i p_Head_Info_2, .s p_Data]) := by kernel_rfl
def valid_Long_S : List Leaf → Option (List Leaf) := fun ls => un_i ls fun v_State rr => un_i rr fun v_Gss rr => un_i rr fun v_Gsr rr => un_i rr fun v_Gar rr => un_i rr fun v_Iss rr => un_i rr fun v_Isr rr => un_i rr fun v_Mine rr => un_i rr fun v_Theirs rr => un_i rr fun p_Head_Src rr => un_i rr fun p_Head_Dst rr => un_i rr fun p_Head_Off rr => un_i rr fun p_Head_CCVal rr => un_i rr fun p_Head_CsCov rr => un_i rr fun p_Head_Sum rr => un_i rr fun p_Head_Type rr => un_b rr fun p_Head_X rr => un_i rr fun p_Head_Seq rr => un_i rr fun p_Head_Ack rr => un_i rr fun p_Head_Service rr => un_i rr fun p_Head_Code rr => un_i rr fun p_Head_Info_0 rr => un_i rr fun p_Head_Info_1 rr => un_i rr fun p_Head_Info_2 rr => un_s rr fun p_Data rr => un_nil rr (valid_Long v_State v_Gss v_Gsr v_Gar v_Iss v_Isr v_Mine v_Theirs p_Head_Src p_Head_Dst p_Head_Off p_Head_CCVal p_Head_CsCov p_Head_Sum p_Head_Type p_Head_X p_Head_Seq p_Head_Ack p_Head_Service p_Head_Code p_Head_Info_0 p_Head_Info_1 p_Head_Info_2 p_Data)
def valid_Long_SC : Tld := fun ls k' => un_i ls fun v_State rr => un_i rr fun v_Gss rr => un_i rr fun v_Gsr rr => un_i rr fun v_Gar rr => un_i rr fun v_Iss rr => un_i rr fun v_Isr rr => un_i rr fun v_Mine rr => un_i rr fun v_Theirs rr => un_i rr fun p_Head_Src rr => un_i rr fun p_Head_Dst rr => un_i rr fun p_Head_Off rr => un_i rr fun p_Head_CCVal rr => un_i rr fun p_Head_CsCov rr => un_i rr fun p_Head_Sum rr => un_i rr fun p_Head_Type rr => un_b rr fun p_Head_X rr => un_i rr fun p_Head_Seq rr => un_i rr fun p_Head_Ack rr => un_i rr fun p_Head_Service rr => un_i rr fun p_Head_Code rr => un_i rr fun p_Head_Info_0 rr => un_i rr fun p_Head_Info_1 rr => un_i rr fun p_Head_Info_2 rr => un_s rr fun p_Data rr => un_nil rr (out (valid_Long v_State v_Gss v_Gsr v_Gar v_Iss v_Isr v_Mine v_Theirs p_Head_Src p_Head_Dst p_Head_Off p_Head_CCVal p_Head_CsCov p_Head_Sum p_Head_Type p_Head_X p_Head_Seq p_Head_Ack p_Head_Service p_Head_Code p_Head_Info_0 p_Head_Info_1 p_Head_Info_2 p_Data) k')
theorem valid_Long_Se (v_State : Int) (v_Gss : Int) (v_Gsr : Int) (v_Gar : Int) (v_Iss : Int) (v_Isr : Int) (v_Mine : Int) (v_Theirs : Int) (p_Head_Src : Int) (p_Head_Dst : Int) (p_Head_Off : Int) (p_Head_CCVal : Int) (p_Head_CsCov : Int) (p_Head_Sum : Int) (p_Head_Type : Int) (p_Head_X : Bool) (p_Head_Seq : Int) (p_Head_Ack : Int) (p_Head_Service : Int) (p_Head_Code : Int) (p_Head_Info_0 : Int) (p_Head_Info_1 : Int) (p_Head_Info_2 : Int) (p_Data : ByteArray) : valid_Long_S [.i v_State, .i v_Gss, .i v_Gsr, .i v_Gar, .i v_Iss, .i v_Isr, .i v_Mine, .i v_Theirs, .i p_Head_Src, .i p_Head_Dst, .i p_Head_Off, .i p_Head_CCVal, .i p_Head_CsCov, .i p_Head_Sum, .i p_Head_Type, .b p_Head_X, .i p_Head_Seq, .i p_Head_Ack, .i p_Head_Service, .i p_Head_Code, .i p_Head_Info_0, .i p_Head_Info_1, .i p_Head_Info_2, .s p_Data] = valid_Long v_State v_Gss v_Gsr v_Gar v_Iss v_Isr v_Mine v_Theirs p_Head_Src p_Head_Dst p_Head_Off p_Head_CCVal p_Head_CsCov p_Head_Sum p_Head_Type p_Head_X p_Head_Seq p_Head_Ack p_Head_Service p_Head_Code p_Head_Info_0 p_Head_Info_1 p_Head_Info_2 p_Data := by
  unfold valid_Long_S
  simp only [un_i_ev, un_b_ev, un_s_ev, un_li_ev, un_lb_ev, un_ls_ev, un_nil_ev]
theorem valid_Long_says : Says valid_Long_SC valid_Long_S := by
  intro β ls' k' r' h'
  unfold valid_Long_SC at h'
  obtain ⟨v_State, l'1, rfl, h'1⟩ := un_i_some.1 h'
  obtain ⟨v_Gss, l'2, rfl, h'2⟩ := un_i_some.1 h'1
  obtain ⟨v_Gsr, l'3, rfl, h'3⟩ := un_i_some.1 h'2
  obtain ⟨v_Gar, l'4, rfl, h'4⟩ := un_i_some.1 h'3
  obtain ⟨v_Iss, l'5, rfl, h'5⟩ := un_i_some.1 h'4
  obtain ⟨v_Isr, l'6, rfl, h'6⟩ := un_i_some.1 h'5
  obtain ⟨v_Mine, l'7, rfl, h'7⟩ := un_i_some.1 h'6
  obtain ⟨v_Theirs, l'8, rfl, h'8⟩ := un_i_some.1 h'7
  obtain ⟨p_Head_Src, l'9, rfl, h'9⟩ := un_i_some.1 h'8
  obtain ⟨p_Head_Dst, l'10, rfl, h'10⟩ := un_i_some.1 h'9
  obtain ⟨p_Head_Off, l'11, rfl, h'11⟩ := un_i_some.1 h'10
  obtain ⟨p_Head_CCVal, l'12, rfl, h'12⟩ := un_i_some.1 h'11
  obtain ⟨p_Head_CsCov, l'13, rfl, h'13⟩ := un_i_some.1 h'12
  obtain ⟨p_Head_Sum, l'14, rfl, h'14⟩ := un_i_some.1 h'13
  obtain ⟨p_Head_Type, l'15, rfl, h'15⟩ := un_i_some.1 h'14
  obtain ⟨p_Head_X, l'16, rfl, h'16⟩ := un_b_some.1 h'15
  obtain ⟨p_Head_Seq, l'17, rfl, h'17⟩ := un_i_some.1 h'16
  obtain ⟨p_Head_Ack, l'18, rfl, h'18⟩ := un_i_some.1 h'17
  obtain ⟨p_Head_Service, l'19, rfl, h'19⟩ := un_i_some.1 h'18
  obtain ⟨p_Head_Code, l'20, rfl, h'20⟩ := un_i_some.1 h'19
  obtain ⟨p_Head_Info_0, l'21, rfl, h'21⟩ := un_i_some.1 h'20
  obtain ⟨p_Head_Info_1, l'22, rfl, h'22⟩ := un_i_some.1 h'21
  obtain ⟨p_Head_Info_2, l'23, rfl, h'23⟩ := un_i_some.1 h'22
  obtain ⟨p_Data, l'24, rfl, h'24⟩ := un_s_some.1 h'23
  obtain ⟨rfl, h'Z⟩ := un_nil_some.1 h'24
  obtain ⟨l', a', b'⟩ := out_some.1 h'Z
  exact ⟨l', (valid_Long_Se v_State v_Gss v_Gsr v_Gar v_Iss v_Isr v_Mine v_Theirs p_Head_Src p_Head_Dst p_Head_Off p_Head_CCVal p_Head_CsCov p_Head_Sum p_Head_Type p_Head_X p_Head_Seq p_Head_Ack p_Head_Service p_Head_Code p_Head_Info_0 p_Head_Info_1 p_Head_Info_2 p_Data).trans a', b'⟩
theorem valid_Long_c : FnC Go.Proofs.Tryz.prog 33 false 2 0 valid_Long_in valid_Long_out valid_Long_S := by
  refine fn_ok (Λ := valid_Long_Λ) mixed tab_ok g39 Go.Proofs.Tryz.func33 (by kernel_rfl) (body := fb Go.Proofs.Tryz.f33) rfl (ts := Go.Proofs.Tryz.f33.results.toList) rfl (cuts := []) (by kernel_rfl) (Nat.le_of_ble_eq_true (by kernel_rfl)) (by kernel_rfl) (rt := .w (.agg [.int .i64, .int .i64, .int .i64, .int .i64, .int .i64, .int .i64, .int .i64, .bool, .int .u64, .int .u64, .int .u32, .int .i64, .int .u8, .int .u8, .int .u8, .nils, .str])) rfl ?_ ?_
  · intro ls' r' h'
    unfold valid_Long_S at h'
    obtain ⟨v_State, l'1, rfl, h'1⟩ := un_i_some.1 h'
    obtain ⟨v_Gss, l'2, rfl, h'2⟩ := un_i_some.1 h'1
    obtain ⟨v_Gsr, l'3, rfl, h'3⟩ := un_i_some.1 h'2
    obtain ⟨v_Gar, l'4, rfl, h'4⟩ := un_i_some.1 h'3
    obtain ⟨v_Iss, l'5, rfl, h'5⟩ := un_i_some.1 h'4
    obtain ⟨v_Isr, l'6, rfl, h'6⟩ := un_i_some.1 h'5
    obtain ⟨v_Mine, l'7, rfl, h'7⟩ := un_i_some.1 h'6
    obtain ⟨v_Theirs, l'8, rfl, h'8⟩ := un_i_some.1 h'7
    obtain ⟨p_Head_Src, l'9, rfl, h'9⟩ := un_i_some.1 h'8
    obtain ⟨p_Head_Dst, l'10, rfl, h'10⟩ := un_i_some.1 h'9
    obtain ⟨p_Head_Off, l'11, rfl, h'11⟩ := un_i_some.1 h'10
    obtain ⟨p_Head_CCVal, l'12, rfl, h'12⟩ := un_i_some.1 h'11
    obtain ⟨p_Head_CsCov, l'13, rfl, h'13⟩ := un_i_some.1 h'12
    obtain ⟨p_Head_Sum, l'14, rfl, h'14⟩ := un_i_some.1 h'13
    obtain ⟨p_Head_Type, l'15, rfl, h'15⟩ := un_i_some.1 h'14
    obtain ⟨p_Head_X, l'16, rfl, h'16⟩ := un_b_some.1 h'15
    obtain ⟨p_Head_Seq, l'17, rfl, h'17⟩ := un_i_some.1 h'16
    obtain ⟨p_Head_Ack, l'18, rfl, h'18⟩ := un_i_some.1 h'17
    obtain ⟨p_Head_Service, l'19, rfl, h'19⟩ := un_i_some.1 h'18
    obtain ⟨p_Head_Code, l'20, rfl, h'20⟩ := un_i_some.1 h'19
    obtain ⟨p_Head_Info_0, l'21, rfl, h'21⟩ := un_i_some.1 h'20
    obtain ⟨p_Head_Info_1, l'22, rfl, h'22⟩ := un_i_some.1 h'21
    obtain ⟨p_Head_Info_2, l'23, rfl, h'23⟩ := un_i_some.1 h'22
    obtain ⟨p_Data, l'24, rfl, h'24⟩ := un_s_some.1 h'23
    obtain ⟨rfl, h'Z⟩ := un_nil_some.1 h'24
    exact (valid_Long_e v_State v_Gss v_Gsr v_Gar v_Iss v_Isr v_Mine v_Theirs p_Head_Src p_Head_Dst p_Head_Off p_Head_CCVal p_Head_CsCov p_Head_Sum p_Head_Type p_Head_X p_Head_Seq p_Head_Ack p_Head_Service p_Head_Code p_Head_Info_0 p_Head_Info_1 p_Head_Info_2 p_Data).symm.trans h'Z
  · intro E w0 ws ρ0 hk b hb
    rw [show loopsOf (fb Go.Proofs.Tryz.f33) = [] by kernel_rfl] at hb
    cases hb
noncomputable def G40 : Env := G39.addE 33 2 valid_Long_in valid_Long_out valid_Long_SC
theorem g40 : EnvOk Go.Proofs.Tryz.prog G40 := EnvOk.addE g39 valid_Long_c valid_Long_says

-- ### valid_judge: function 66
def valid_judge_in : Tm := ⟨[], [(0, .w (.agg [.int .i64, .int .u64, .int .u64, .int .u64, .int .u64, .int .u64, .int .i64, .int .i64])), (1, .w (.agg [.int .i64, .int .i64, .int .i64, .int .i64, .int .i64, .int .i64, .int .i64, .bool, .int .u64, .int .u64, .int .u32, .int .i64, .int .u8, .int .u8, .int .u8]))]⟩
def valid_judge_out : Tm := ⟨[], [(0, .w (.at (.bool)))]⟩

def valid_judge_Λd : Loops := Loops.none
def valid_judge_Λ : Loops := valid_judge_Λd 

theorem valid_judge_e (v_State : Int) (v_Gss : Int) (v_Gsr : Int) (v_Gar : Int) (v_Iss : Int) (v_Isr : Int) (v_Mine : Int) (v_Theirs : Int) (h_Src : Int) (h_Dst : Int) (h_Off : Int) (h_CCVal : Int) (h_CsCov : Int) (h_Sum : Int) (h_Type : Int) (h_X : Bool) (h_Seq : Int) (h_Ack : Int) (h_Service : Int) (h_Code : Int) (h_Info_0 : Int) (h_Info_1 : Int) (h_Info_2 : Int) : valid_judge v_State v_Gss v_Gsr v_Gar v_Iss v_Isr v_Mine v_Theirs h_Src h_Dst h_Off h_CCVal h_CsCov h_Sum h_Type h_X h_Seq h_Ack h_Service h_Code h_Info_0 h_Info_1 h_Info_2 = den G40 valid_judge_Λ false tab Go.Proofs.Tryz.f66.ntmps (fun fr H => finish tab 0 Go.Proofs.Tryz.f66.results.toList valid_judge_out [] fr H some) (fun _ _ _ => none) (fun fr H => finish tab 0 Go.Proofs.Tryz.f66.results.toList valid_judge_out [] fr H some) 10000 [.code (fb Go.Proofs.Tryz.f66)] (instFr valid_judge_in [.i v_State, .i v_Gss, .i v_Gsr, .i v_Gar, .i v_Iss, .i v_Isr, .i v_Mine, .i v_Theirs, .i h_Src, .i h_Dst, .i h_Off, .i h_CCVal, .i h_CsCov, .i h_Sum, .i h_Type, .b h_X, .i h_Seq, .i h_Ack, .i h_Service, .i h_Code, .i h_Info_0, .i h_Info_1, .i h_Info_2]) (instH valid_judge_in [.i v_State, .i v_Gss, .i v_Gsr, .i v_Gar, .i v_Iss, .i v_Isr, .i v_Mine, .i v_Theirs, .i h_Src, .i h_Dst, .i h_Off, .i h_CCVal, .i h_CsCov, .i h_Sum, .i h_Type, .b h_X, .i h_Seq, .i h_Ack, .i h_Service, .i h_Code, .i h_Info_0, .i h_Info_1, .i h_Info_2]) := by kernel_rfl
def valid_judge_S : List Leaf → Option (List Leaf) := fun ls => un_i ls fun v_State rr => un_i rr fun v_Gss rr => un_i rr fun v_Gsr rr => un_i rr fun v_Gar rr => un_i rr fun v_Iss rr => un_i rr fun v_Isr rr => un_i rr fun v_Mine rr => un_i rr fun v_Theirs rr => un_i rr fun h_Src rr => un_i rr fun h_Dst rr => un_i rr fun h_Off rr => un_i rr fun h_CCVal rr => un_i rr fun h_CsCov rr => un_i rr fun h_Sum rr => un_i rr fun h_Type rr => un_b rr fun h_X rr => un_i rr fun h_Seq rr => un_i rr fun h_Ack rr => un_i rr fun h_Service rr => un_i rr fun h_Code rr => un_i rr fun h_Info_0 rr => un_i rr fun h_Info_1 rr => un_i rr fun h_Info_2 rr => un_nil rr (valid_judge v_State v_Gss v_Gsr v_Gar v_Iss v_Isr v_Mine v_Theirs h_Src h_Dst h_Off h_CCVal h_CsCov h_Sum h_Type h_X h_Seq h_Ack h_Service h_Code h_Info_0 h_Info_1 h_Info_2)
def valid_judge_SC : Tld := fun ls k' => un_i ls fun v_State rr => un_i rr fun v_Gss rr => un_i rr fun v_Gsr rr => un_i rr fun v_Gar rr => un_i rr fun v_Iss rr => un_i rr fun v_Isr rr => un_i rr fun v_Mine rr => un_i rr fun v_Theirs rr => un_i rr fun h_Src rr => un_i rr fun h_Dst rr => un_i rr fun h_Off rr => un_i rr fun h_CCVal rr => un_i rr fun h_CsCov rr => un_i rr fun h_Sum rr => un_i rr fun h_Type rr => un_b rr fun h_X rr => un_i rr fun h_Seq rr => un_i rr fun h_Ack rr => un_i rr fun h_Service rr => un_i rr fun h_Code rr => un_i rr fun h_Info_0 rr => un_i rr fun h_Info_1 rr => un_i rr fun h_Info_2 rr => un_nil rr (out (valid_judge v_State v_Gss v_Gsr v_Gar v_Iss v_Isr v_Mine v_Theirs h_Src h_Dst h_Off h_CCVal h_CsCov h_Sum h_Type h_X h_Seq h_Ack h_Service h_Code h_Info_0 h_Info_1 h_Info_2) k')
theorem valid_judge_Se (v_State : Int) (v_Gss : Int) (v_Gsr : Int) (v_Gar : Int) (v_Iss : Int) (v_Isr : Int) (v_Mine : Int) (v_Theirs : Int) (h_Src : Int) (h_Dst : Int) (h_Off : Int) (h_CCVal : Int) (h_CsCov : Int) (h_Sum : Int) (h_Type : Int) (h_X : Bool) (h_Seq : Int) (h_Ack : Int) (h_Service : Int) (h_Code : Int) (h_Info_0 : Int) (h_Info_1 : Int) (h_Info_2 : Int) : valid_judge_S [.i v_State, .i v_Gss, .i v_Gsr, .i v_Gar, .i v_Iss, .i v_Isr, .i v_Mine, .i v_Theirs, .i h_Src, .i h_Dst, .i h_Off, .i h_CCVal, .i h_CsCov, .i h_Sum, .i h_Type, .b h_X, .i h_Seq, .i h_Ack, .i h_Service, .i h_Code, .i h_Info_0, .i h_Info_1, .i h_Info_2] = valid_judge v_State v_Gss v_Gsr v_Gar v_Iss v_Isr v_Mine v_Theirs h_Src h_Dst h_Off h_CCVal h_CsCov h_Sum h_Type h_X h_Seq h_Ack h_Service h_Code h_Info_0 h_Info_1 h_Info_2 := by
  unfold valid_judge_S
  simp only [un_i_ev, un_b_ev, un_s_ev, un_li_ev, un_lb_ev, un_ls_ev, un_nil_ev]
theorem valid_judge_says : Says valid_judge_SC valid_judge_S := by
  intro β ls' k' r' h'
  unfold valid_judge_SC at h'
  obtain ⟨v_State, l'1, rfl, h'1⟩ := un_i_some.1 h'
  obtain ⟨v_Gss, l'2, rfl, h'2⟩ := un_i_some.1 h'1
  obtain ⟨v_Gsr, l'3, rfl, h'3⟩ := un_i_some.1 h'2
  obtain ⟨v_Gar, l'4, rfl, h'4⟩ := un_i_some.1 h'3
  obtain ⟨v_Iss, l'5, rfl, h'5⟩ := un_i_some.1 h'4
  obtain ⟨v_Isr, l'6, rfl, h'6⟩ := un_i_some.1 h'5
  obtain ⟨v_Mine, l'7, rfl, h'7⟩ := un_i_some.1 h'6
  obtain ⟨v_Theirs, l'8, rfl, h'8⟩ := un_i_some.1 h'7
  obtain ⟨h_Src, l'9, rfl, h'9⟩ := un_i_some.1 h'8
  obtain ⟨h_Dst, l'10, rfl, h'10⟩ := un_i_some.1 h'9
  obtain ⟨h_Off, l'11, rfl, h'11⟩ := un_i_some.1 h'10
  obtain ⟨h_CCVal, l'12, rfl, h'12⟩ := un_i_some.1 h'11
  obtain ⟨h_CsCov, l'13, rfl, h'13⟩ := un_i_some.1 h'12
  obtain ⟨h_Sum, l'14, rfl, h'14⟩ := un_i_some.1 h'13
  obtain ⟨h_Type, l'15, rfl, h'15⟩ := un_i_some.1 h'14
  obtain ⟨h_X, l'16, rfl, h'16⟩ := un_b_some.1 h'15
  obtain ⟨h_Seq, l'17, rfl, h'17⟩ := un_i_some.1 h'16
  obtain ⟨h_Ack, l'18, rfl, h'18⟩ := un_i_some.1 h'17
  obtain ⟨h_Service, l'19, rfl, h'19⟩ := un_i_some.1 h'18
  obtain ⟨h_Code, l'20, rfl, h'20⟩ := un_i_some.1 h'19
  obtain ⟨h_Info_0, l'21, rfl, h'21⟩ := un_i_some.1 h'20
  obtain ⟨h_Info_1, l'22, rfl, h'22⟩ := un_i_some.1 h'21
  obtain ⟨h_Info_2, l'23, rfl, h'23⟩ := un_i_some.1 h'22
  obtain ⟨rfl, h'Z⟩ := un_nil_some.1 h'23
  obtain ⟨l', a', b'⟩ := out_some.1 h'Z
  exact ⟨l', (valid_judge_Se v_State v_Gss v_Gsr v_Gar v_Iss v_Isr v_Mine v_Theirs h_Src h_Dst h_Off h_CCVal h_CsCov h_Sum h_Type h_X h_Seq h_Ack h_Service h_Code h_Info_0 h_Info_1 h_Info_2).trans a', b'⟩
theorem valid_judge_c : FnC Go.Proofs.Tryz.prog 66 false 2 0 valid_judge_in valid_judge_out valid_judge_S := by
  refine fn_ok (Λ := valid_judge_Λ) mixed tab_ok g40 Go.Proofs.Tryz.func66 (by kernel_rfl) (body := fb Go.Proofs.Tryz.f66) rfl (ts := Go.Proofs.Tryz.f66.results.toList) rfl (cuts := []) (by kernel_rfl) (Nat.le_of_ble_eq_true (by kernel_rfl)) (by kernel_rfl) (rt := .w (.at (.bool))) rfl ?_ ?_
  · intro ls' r' h'
    unfold valid_judge_S at h'
    obtain ⟨v_State, l'1, rfl, h'1⟩ := un_i_some.1 h'
    obtain ⟨v_Gss, l'2, rfl, h'2⟩ := un_i_some.1 h'1
    obtain ⟨v_Gsr, l'3, rfl, h'3⟩ := un_i_some.1 h'2
    obtain ⟨v_Gar, l'4, rfl, h'4⟩ := un_i_some.1 h'3
    obtain ⟨v_Iss, l'5, rfl, h'5⟩ := un_i_some.1 h'4
    obtain ⟨v_Isr, l'6, rfl, h'6⟩ := un_i_some.1 h'5
    obtain ⟨v_Mine, l'7, rfl, h'7⟩ := un_i_some.1 h'6
    obtain ⟨v_Theirs, l'8, rfl, h'8⟩ := un_i_some.1 h'7
    obtain ⟨h_Src, l'9, rfl, h'9⟩ := un_i_some.1 h'8
    obtain ⟨h_Dst, l'10, rfl, h'10⟩ := un_i_some.1 h'9
    obtain ⟨h_Off, l'11, rfl, h'11⟩ := un_i_some.1 h'10
    obtain ⟨h_CCVal, l'12, rfl, h'12⟩ := un_i_some.1 h'11
    obtain ⟨h_CsCov, l'13, rfl, h'13⟩ := un_i_some.1 h'12
    obtain ⟨h_Sum, l'14, rfl, h'14⟩ := un_i_some.1 h'13
    obtain ⟨h_Type, l'15, rfl, h'15⟩ := un_i_some.1 h'14
    obtain ⟨h_X, l'16, rfl, h'16⟩ := un_b_some.1 h'15
    obtain ⟨h_Seq, l'17, rfl, h'17⟩ := un_i_some.1 h'16
    obtain ⟨h_Ack, l'18, rfl, h'18⟩ := un_i_some.1 h'17
    obtain ⟨h_Service, l'19, rfl, h'19⟩ := un_i_some.1 h'18
    obtain ⟨h_Code, l'20, rfl, h'20⟩ := un_i_some.1 h'19
    obtain ⟨h_Info_0, l'21, rfl, h'21⟩ := un_i_some.1 h'20
    obtain ⟨h_Info_1, l'22, rfl, h'22⟩ := un_i_some.1 h'21
    obtain ⟨h_Info_2, l'23, rfl, h'23⟩ := un_i_some.1 h'22
    obtain ⟨rfl, h'Z⟩ := un_nil_some.1 h'23
    exact (valid_judge_e v_State v_Gss v_Gsr v_Gar v_Iss v_Isr v_Mine v_Theirs h_Src h_Dst h_Off h_CCVal h_CsCov h_Sum h_Type h_X h_Seq h_Ack h_Service h_Code h_Info_0 h_Info_1 h_Info_2).symm.trans h'Z
  · intro E w0 ws ρ0 hk b hb
    rw [show loopsOf (fb Go.Proofs.Tryz.f66) = [] by kernel_rfl] at hb
    cases hb
noncomputable def G41 : Env := G40.addE 66 2 valid_judge_in valid_judge_out valid_judge_SC
theorem g41 : EnvOk Go.Proofs.Tryz.prog G41 := EnvOk.addE g40 valid_judge_c valid_judge_says

-- ### valid_Check: function 30
def valid_Check_in : Tm := ⟨[], [(0, .w (.agg [.int .i64, .int .u64, .int .u64, .int .u64, .int .u64, .int .u64, .int .i64, .int .i64])), (1, .w (.agg [.int .i64, .int .i64, .int .i64, .int .i64, .int .i64, .int .i64, .int .i64, .bool, .int .u64, .int .u64, .int .u32, .int .i64, .int .u8, .int .u8, .int .u8, .nils, .str]))]⟩
def valid_Check_out : Tm := ⟨[], [(0, .w (.at (.int .i64)))]⟩

def valid_Check_Λd : Loops := Loops.none
def valid_Check_Λ : Loops := valid_Check_Λd 

theorem valid_Check_e (v_State : Int) (v_Gss : Int) (v_Gsr : Int) (v_Gar : Int) (v_Iss : Int) (v_Isr : Int) (v_Mine : Int) (v_Theirs : Int) (p_Head_Src : Int) (p_Head_Dst : Int) (p_Head_Off : Int) (p_Head_CCVal : Int) (p_Head_CsCov : Int) (p_Head_Sum : Int) (p_Head_Type : Int) (p_Head_X : Bool) (p_Head_Seq : Int) (p_Head_Ack : Int) (p_Head_Service : Int) (p_Head_Code : Int) (p_Head_Info_0 : Int) (p_Head_Info_1 : Int) (p_Head_Info_2 : Int) (p_Data : ByteArray) : valid_Check v_State v_Gss v_Gsr v_Gar v_Iss v_Isr v_Mine v_Theirs p_Head_Src p_Head_Dst p_Head_Off p_Head_CCVal p_Head_CsCov p_Head_Sum p_Head_Type p_Head_X p_Head_Seq p_Head_Ack p_Head_Service p_Head_Code p_Head_Info_0 p_Head_Info_1 p_Head_Info_2 p_Data = den G41 valid_Check_Λ false tab Go.Proofs.Tryz.f30.ntmps (fun fr H => finish tab 0 Go.Proofs.Tryz.f30.results.toList valid_Check_out [] fr H some) (fun _ _ _ => none) (fun fr H => finish tab 0 Go.Proofs.Tryz.f30.results.toList valid_Check_out [] fr H some) 10000 [.code (fb Go.Proofs.Tryz.f30)] (instFr valid_Check_in [.i v_State, .i v_Gss, .i v_Gsr, .i v_Gar, .i v_Iss, .i v_Isr, .i v_Mine, .i v_Theirs, .i p_Head_Src, .i p_Head_Dst, .i p_Head_Off, .i p_Head_CCVal, .i p_Head_CsCov, .i p_Head_Sum, .i p_Head_Type, .b p_Head_X, .i p_Head_Seq, .i p_Head_Ack, .i p_Head_Service, .i p_Head_Code, .i p_Head_Info_0, .i p_Head_Info_1, .i p_Head_Info_2, .s p_Data]) (instH valid_Check_in [.i v_State, .i v_Gss, .i v_Gsr, .i v_Gar, .i v_Iss, .i v_Isr, .i v_Mine, .i v_Theirs, .i p_Head_Src, .i p_Head_Dst, .i p_Head_Off, .i p_Head_CCVal, .i p_Head_CsCov, .i p_Head_Sum, .i p_Head_Type, .b p_Head_X, .i p_Head_Seq, .i p_Head_Ack, .i p_Head_Service, .i p_Head_Code, .i p_Head_Info_0, .i p_Head_Info_1, .i p_Head_Info_2, .s p_Data]) := by kernel_rfl
def valid_Check_S : List Leaf → Option (List Leaf) := fun ls => un_i ls fun v_State rr => un_i rr fun v_Gss rr => un_i rr fun v_Gsr rr => un_i rr fun v_Gar rr => un_i rr fun v_Iss rr => un_i rr fun v_Isr rr => un_i rr fun v_Mine rr => un_i rr fun v_Theirs rr => un_i rr fun p_Head_Src rr => un_i rr fun p_Head_Dst rr => un_i rr fun p_Head_Off rr => un_i rr fun p_Head_CCVal rr => un_i rr fun p_Head_CsCov rr => un_i rr fun p_Head_Sum rr => un_i rr fun p_Head_Type rr => un_b rr fun p_Head_X rr => un_i rr fun p_Head_Seq rr => un_i rr fun p_Head_Ack rr => un_i rr fun p_Head_Service rr => un_i rr fun p_Head_Code rr => un_i rr fun p_Head_Info_0 rr => un_i rr fun p_Head_Info_1 rr => un_i rr fun p_Head_Info_2 rr => un_s rr fun p_Data rr => un_nil rr (valid_Check v_State v_Gss v_Gsr v_Gar v_Iss v_Isr v_Mine v_Theirs p_Head_Src p_Head_Dst p_Head_Off p_Head_CCVal p_Head_CsCov p_Head_Sum p_Head_Type p_Head_X p_Head_Seq p_Head_Ack p_Head_Service p_Head_Code p_Head_Info_0 p_Head_Info_1 p_Head_Info_2 p_Data)
def valid_Check_SC : Tld := fun ls k' => un_i ls fun v_State rr => un_i rr fun v_Gss rr => un_i rr fun v_Gsr rr => un_i rr fun v_Gar rr => un_i rr fun v_Iss rr => un_i rr fun v_Isr rr => un_i rr fun v_Mine rr => un_i rr fun v_Theirs rr => un_i rr fun p_Head_Src rr => un_i rr fun p_Head_Dst rr => un_i rr fun p_Head_Off rr => un_i rr fun p_Head_CCVal rr => un_i rr fun p_Head_CsCov rr => un_i rr fun p_Head_Sum rr => un_i rr fun p_Head_Type rr => un_b rr fun p_Head_X rr => un_i rr fun p_Head_Seq rr => un_i rr fun p_Head_Ack rr => un_i rr fun p_Head_Service rr => un_i rr fun p_Head_Code rr => un_i rr fun p_Head_Info_0 rr => un_i rr fun p_Head_Info_1 rr => un_i rr fun p_Head_Info_2 rr => un_s rr fun p_Data rr => un_nil rr (out (valid_Check v_State v_Gss v_Gsr v_Gar v_Iss v_Isr v_Mine v_Theirs p_Head_Src p_Head_Dst p_Head_Off p_Head_CCVal p_Head_CsCov p_Head_Sum p_Head_Type p_Head_X p_Head_Seq p_Head_Ack p_Head_Service p_Head_Code p_Head_Info_0 p_Head_Info_1 p_Head_Info_2 p_Data) k')
theorem valid_Check_Se (v_State : Int) (v_Gss : Int) (v_Gsr : Int) (v_Gar : Int) (v_Iss : Int) (v_Isr : Int) (v_Mine : Int) (v_Theirs : Int) (p_Head_Src : Int) (p_Head_Dst : Int) (p_Head_Off : Int) (p_Head_CCVal : Int) (p_Head_CsCov : Int) (p_Head_Sum : Int) (p_Head_Type : Int) (p_Head_X : Bool) (p_Head_Seq : Int) (p_Head_Ack : Int) (p_Head_Service : Int) (p_Head_Code : Int) (p_Head_Info_0 : Int) (p_Head_Info_1 : Int) (p_Head_Info_2 : Int) (p_Data : ByteArray) : valid_Check_S [.i v_State, .i v_Gss, .i v_Gsr, .i v_Gar, .i v_Iss, .i v_Isr, .i v_Mine, .i v_Theirs, .i p_Head_Src, .i p_Head_Dst, .i p_Head_Off, .i p_Head_CCVal, .i p_Head_CsCov, .i p_Head_Sum, .i p_Head_Type, .b p_Head_X, .i p_Head_Seq, .i p_Head_Ack, .i p_Head_Service, .i p_Head_Code, .i p_Head_Info_0, .i p_Head_Info_1, .i p_Head_Info_2, .s p_Data] = valid_Check v_State v_Gss v_Gsr v_Gar v_Iss v_Isr v_Mine v_Theirs p_Head_Src p_Head_Dst p_Head_Off p_Head_CCVal p_Head_CsCov p_Head_Sum p_Head_Type p_Head_X p_Head_Seq p_Head_Ack p_Head_Service p_Head_Code p_Head_Info_0 p_Head_Info_1 p_Head_Info_2 p_Data := by
  unfold valid_Check_S
  simp only [un_i_ev, un_b_ev, un_s_ev, un_li_ev, un_lb_ev, un_ls_ev, un_nil_ev]
theorem valid_Check_says : Says valid_Check_SC valid_Check_S := by
  intro β ls' k' r' h'
  unfold valid_Check_SC at h'
  obtain ⟨v_State, l'1, rfl, h'1⟩ := un_i_some.1 h'
  obtain ⟨v_Gss, l'2, rfl, h'2⟩ := un_i_some.1 h'1
  obtain ⟨v_Gsr, l'3, rfl, h'3⟩ := un_i_some.1 h'2
  obtain ⟨v_Gar, l'4, rfl, h'4⟩ := un_i_some.1 h'3
  obtain ⟨v_Iss, l'5, rfl, h'5⟩ := un_i_some.1 h'4
  obtain ⟨v_Isr, l'6, rfl, h'6⟩ := un_i_some.1 h'5
  obtain ⟨v_Mine, l'7, rfl, h'7⟩ := un_i_some.1 h'6
  obtain ⟨v_Theirs, l'8, rfl, h'8⟩ := un_i_some.1 h'7
  obtain ⟨p_Head_Src, l'9, rfl, h'9⟩ := un_i_some.1 h'8
  obtain ⟨p_Head_Dst, l'10, rfl, h'10⟩ := un_i_some.1 h'9
  obtain ⟨p_Head_Off, l'11, rfl, h'11⟩ := un_i_some.1 h'10
  obtain ⟨p_Head_CCVal, l'12, rfl, h'12⟩ := un_i_some.1 h'11
  obtain ⟨p_Head_CsCov, l'13, rfl, h'13⟩ := un_i_some.1 h'12
  obtain ⟨p_Head_Sum, l'14, rfl, h'14⟩ := un_i_some.1 h'13
  obtain ⟨p_Head_Type, l'15, rfl, h'15⟩ := un_i_some.1 h'14
  obtain ⟨p_Head_X, l'16, rfl, h'16⟩ := un_b_some.1 h'15
  obtain ⟨p_Head_Seq, l'17, rfl, h'17⟩ := un_i_some.1 h'16
  obtain ⟨p_Head_Ack, l'18, rfl, h'18⟩ := un_i_some.1 h'17
  obtain ⟨p_Head_Service, l'19, rfl, h'19⟩ := un_i_some.1 h'18
  obtain ⟨p_Head_Code, l'20, rfl, h'20⟩ := un_i_some.1 h'19
  obtain ⟨p_Head_Info_0, l'21, rfl, h'21⟩ := un_i_some.1 h'20
  obtain ⟨p_Head_Info_1, l'22, rfl, h'22⟩ := un_i_some.1 h'21
  obtain ⟨p_Head_Info_2, l'23, rfl, h'23⟩ := un_i_some.1 h'22
  obtain ⟨p_Data, l'24, rfl, h'24⟩ := un_s_some.1 h'23
  obtain ⟨rfl, h'Z⟩ := un_nil_some.1 h'24
  obtain ⟨l', a', b'⟩ := out_some.1 h'Z
  exact ⟨l', (valid_Check_Se v_State v_Gss v_Gsr v_Gar v_Iss v_Isr v_Mine v_Theirs p_Head_Src p_Head_Dst p_Head_Off p_Head_CCVal p_Head_CsCov p_Head_Sum p_Head_Type p_Head_X p_Head_Seq p_Head_Ack p_Head_Service p_Head_Code p_Head_Info_0 p_Head_Info_1 p_Head_Info_2 p_Data).trans a', b'⟩
theorem valid_Check_c : FnC Go.Proofs.Tryz.prog 30 false 2 0 valid_Check_in valid_Check_out valid_Check_S := by
  refine fn_ok (Λ := valid_Check_Λ) mixed tab_ok g41 Go.Proofs.Tryz.func30 (by kernel_rfl) (body := fb Go.Proofs.Tryz.f30) rfl (ts := Go.Proofs.Tryz.f30.results.toList) rfl (cuts := []) (by kernel_rfl) (Nat.le_of_ble_eq_true (by kernel_rfl)) (by kernel_rfl) (rt := .w (.at (.int .i64))) rfl ?_ ?_
  · intro ls' r' h'
    unfold valid_Check_S at h'
    obtain ⟨v_State, l'1, rfl, h'1⟩ := un_i_some.1 h'
    obtain ⟨v_Gss, l'2, rfl, h'2⟩ := un_i_some.1 h'1
    obtain ⟨v_Gsr, l'3, rfl, h'3⟩ := un_i_some.1 h'2
    obtain ⟨v_Gar, l'4, rfl, h'4⟩ := un_i_some.1 h'3
    obtain ⟨v_Iss, l'5, rfl, h'5⟩ := un_i_some.1 h'4
    obtain ⟨v_Isr, l'6, rfl, h'6⟩ := un_i_some.1 h'5
    obtain ⟨v_Mine, l'7, rfl, h'7⟩ := un_i_some.1 h'6
    obtain ⟨v_Theirs, l'8, rfl, h'8⟩ := un_i_some.1 h'7
    obtain ⟨p_Head_Src, l'9, rfl, h'9⟩ := un_i_some.1 h'8
    obtain ⟨p_Head_Dst, l'10, rfl, h'10⟩ := un_i_some.1 h'9
    obtain ⟨p_Head_Off, l'11, rfl, h'11⟩ := un_i_some.1 h'10
    obtain ⟨p_Head_CCVal, l'12, rfl, h'12⟩ := un_i_some.1 h'11
    obtain ⟨p_Head_CsCov, l'13, rfl, h'13⟩ := un_i_some.1 h'12
    obtain ⟨p_Head_Sum, l'14, rfl, h'14⟩ := un_i_some.1 h'13
    obtain ⟨p_Head_Type, l'15, rfl, h'15⟩ := un_i_some.1 h'14
    obtain ⟨p_Head_X, l'16, rfl, h'16⟩ := un_b_some.1 h'15
    obtain ⟨p_Head_Seq, l'17, rfl, h'17⟩ := un_i_some.1 h'16
    obtain ⟨p_Head_Ack, l'18, rfl, h'18⟩ := un_i_some.1 h'17
    obtain ⟨p_Head_Service, l'19, rfl, h'19⟩ := un_i_some.1 h'18
    obtain ⟨p_Head_Code, l'20, rfl, h'20⟩ := un_i_some.1 h'19
    obtain ⟨p_Head_Info_0, l'21, rfl, h'21⟩ := un_i_some.1 h'20
    obtain ⟨p_Head_Info_1, l'22, rfl, h'22⟩ := un_i_some.1 h'21
    obtain ⟨p_Head_Info_2, l'23, rfl, h'23⟩ := un_i_some.1 h'22
    obtain ⟨p_Data, l'24, rfl, h'24⟩ := un_s_some.1 h'23
    obtain ⟨rfl, h'Z⟩ := un_nil_some.1 h'24
    exact (valid_Check_e v_State v_Gss v_Gsr v_Gar v_Iss v_Isr v_Mine v_Theirs p_Head_Src p_Head_Dst p_Head_Off p_Head_CCVal p_Head_CsCov p_Head_Sum p_Head_Type p_Head_X p_Head_Seq p_Head_Ack p_Head_Service p_Head_Code p_Head_Info_0 p_Head_Info_1 p_Head_Info_2 p_Data).symm.trans h'Z
  · intro E w0 ws ρ0 hk b hb
    rw [show loopsOf (fb Go.Proofs.Tryz.f30) = [] by kernel_rfl] at hb
    cases hb
noncomputable def G42 : Env := G41.addE 30 2 valid_Check_in valid_Check_out valid_Check_SC
theorem g42 : EnvOk Go.Proofs.Tryz.prog G42 := EnvOk.addE g41 valid_Check_c valid_Check_says

-- ### valid_Answer: function 32
def valid_Answer_in : Tm := ⟨[], [(0, .w (.agg [.int .i64, .int .u64, .int .u64, .int .u64, .int .u64, .int .u64, .int .i64, .int .i64])), (1, .w (.agg [.int .i64, .int .i64, .int .i64, .int .i64, .int .i64, .int .i64, .int .i64, .bool, .int .u64, .int .u64, .int .u32, .int .i64, .int .u8, .int .u8, .int .u8, .nils, .str]))]⟩
def valid_Answer_out : Tm := ⟨[], [(0, .tup [.at (.int .u64), .at (.bool)])]⟩

def valid_Answer_Λd : Loops := Loops.none
def valid_Answer_Λ : Loops := valid_Answer_Λd 

theorem valid_Answer_e (v_State : Int) (v_Gss : Int) (v_Gsr : Int) (v_Gar : Int) (v_Iss : Int) (v_Isr : Int) (v_Mine : Int) (v_Theirs : Int) (p_Head_Src : Int) (p_Head_Dst : Int) (p_Head_Off : Int) (p_Head_CCVal : Int) (p_Head_CsCov : Int) (p_Head_Sum : Int) (p_Head_Type : Int) (p_Head_X : Bool) (p_Head_Seq : Int) (p_Head_Ack : Int) (p_Head_Service : Int) (p_Head_Code : Int) (p_Head_Info_0 : Int) (p_Head_Info_1 : Int) (p_Head_Info_2 : Int) (p_Data : ByteArray) : valid_Answer v_State v_Gss v_Gsr v_Gar v_Iss v_Isr v_Mine v_Theirs p_Head_Src p_Head_Dst p_Head_Off p_Head_CCVal p_Head_CsCov p_Head_Sum p_Head_Type p_Head_X p_Head_Seq p_Head_Ack p_Head_Service p_Head_Code p_Head_Info_0 p_Head_Info_1 p_Head_Info_2 p_Data = den G42 valid_Answer_Λ false tab Go.Proofs.Tryz.f32.ntmps (fun fr H => finish tab 0 Go.Proofs.Tryz.f32.results.toList valid_Answer_out [] fr H some) (fun _ _ _ => none) (fun fr H => finish tab 0 Go.Proofs.Tryz.f32.results.toList valid_Answer_out [] fr H some) 10000 [.code (fb Go.Proofs.Tryz.f32)] (instFr valid_Answer_in [.i v_State, .i v_Gss, .i v_Gsr, .i v_Gar, .i v_Iss, .i v_Isr, .i v_Mine, .i v_Theirs, .i p_Head_Src, .i p_Head_Dst, .i p_Head_Off, .i p_Head_CCVal, .i p_Head_CsCov, .i p_Head_Sum, .i p_Head_Type, .b p_Head_X, .i p_Head_Seq, .i p_Head_Ack, .i p_Head_Service, .i p_Head_Code, .i p_Head_Info_0, .i p_Head_Info_1, .i p_Head_Info_2, .s p_Data]) (instH valid_Answer_in [.i v_State, .i v_Gss, .i v_Gsr, .i v_Gar, .i v_Iss, .i v_Isr, .i v_Mine, .i v_Theirs, .i p_Head_Src, .i p_Head_Dst, .i p_Head_Off, .i p_Head_CCVal, .i p_Head_CsCov, .i p_Head_Sum, .i p_Head_Type, .b p_Head_X, .i p_Head_Seq, .i p_Head_Ack, .i p_Head_Service, .i p_Head_Code, .i p_Head_Info_0, .i p_Head_Info_1, .i p_Head_Info_2, .s p_Data]) := by kernel_rfl
def valid_Answer_S : List Leaf → Option (List Leaf) := fun ls => un_i ls fun v_State rr => un_i rr fun v_Gss rr => un_i rr fun v_Gsr rr => un_i rr fun v_Gar rr => un_i rr fun v_Iss rr => un_i rr fun v_Isr rr => un_i rr fun v_Mine rr => un_i rr fun v_Theirs rr => un_i rr fun p_Head_Src rr => un_i rr fun p_Head_Dst rr => un_i rr fun p_Head_Off rr => un_i rr fun p_Head_CCVal rr => un_i rr fun p_Head_CsCov rr => un_i rr fun p_Head_Sum rr => un_i rr fun p_Head_Type rr => un_b rr fun p_Head_X rr => un_i rr fun p_Head_Seq rr => un_i rr fun p_Head_Ack rr => un_i rr fun p_Head_Service rr => un_i rr fun p_Head_Code rr => un_i rr fun p_Head_Info_0 rr => un_i rr fun p_Head_Info_1 rr => un_i rr fun p_Head_Info_2 rr => un_s rr fun p_Data rr => un_nil rr (valid_Answer v_State v_Gss v_Gsr v_Gar v_Iss v_Isr v_Mine v_Theirs p_Head_Src p_Head_Dst p_Head_Off p_Head_CCVal p_Head_CsCov p_Head_Sum p_Head_Type p_Head_X p_Head_Seq p_Head_Ack p_Head_Service p_Head_Code p_Head_Info_0 p_Head_Info_1 p_Head_Info_2 p_Data)
def valid_Answer_SC : Tld := fun ls k' => un_i ls fun v_State rr => un_i rr fun v_Gss rr => un_i rr fun v_Gsr rr => un_i rr fun v_Gar rr => un_i rr fun v_Iss rr => un_i rr fun v_Isr rr => un_i rr fun v_Mine rr => un_i rr fun v_Theirs rr => un_i rr fun p_Head_Src rr => un_i rr fun p_Head_Dst rr => un_i rr fun p_Head_Off rr => un_i rr fun p_Head_CCVal rr => un_i rr fun p_Head_CsCov rr => un_i rr fun p_Head_Sum rr => un_i rr fun p_Head_Type rr => un_b rr fun p_Head_X rr => un_i rr fun p_Head_Seq rr => un_i rr fun p_Head_Ack rr => un_i rr fun p_Head_Service rr => un_i rr fun p_Head_Code rr => un_i rr fun p_Head_Info_0 rr => un_i rr fun p_Head_Info_1 rr => un_i rr fun p_Head_Info_2 rr => un_s rr fun p_Data rr => un_nil rr (out (valid_Answer v_State v_Gss v_Gsr v_Gar v_Iss v_Isr v_Mine v_Theirs p_Head_Src p_Head_Dst p_Head_Off p_Head_CCVal p_Head_CsCov p_Head_Sum p_Head_Type p_Head_X p_Head_Seq p_Head_Ack p_Head_Service p_Head_Code p_Head_Info_0 p_Head_Info_1 p_Head_Info_2 p_Data) k')
theorem valid_Answer_Se (v_State : Int) (v_Gss : Int) (v_Gsr : Int) (v_Gar : Int) (v_Iss : Int) (v_Isr : Int) (v_Mine : Int) (v_Theirs : Int) (p_Head_Src : Int) (p_Head_Dst : Int) (p_Head_Off : Int) (p_Head_CCVal : Int) (p_Head_CsCov : Int) (p_Head_Sum : Int) (p_Head_Type : Int) (p_Head_X : Bool) (p_Head_Seq : Int) (p_Head_Ack : Int) (p_Head_Service : Int) (p_Head_Code : Int) (p_Head_Info_0 : Int) (p_Head_Info_1 : Int) (p_Head_Info_2 : Int) (p_Data : ByteArray) : valid_Answer_S [.i v_State, .i v_Gss, .i v_Gsr, .i v_Gar, .i v_Iss, .i v_Isr, .i v_Mine, .i v_Theirs, .i p_Head_Src, .i p_Head_Dst, .i p_Head_Off, .i p_Head_CCVal, .i p_Head_CsCov, .i p_Head_Sum, .i p_Head_Type, .b p_Head_X, .i p_Head_Seq, .i p_Head_Ack, .i p_Head_Service, .i p_Head_Code, .i p_Head_Info_0, .i p_Head_Info_1, .i p_Head_Info_2, .s p_Data] = valid_Answer v_State v_Gss v_Gsr v_Gar v_Iss v_Isr v_Mine v_Theirs p_Head_Src p_Head_Dst p_Head_Off p_Head_CCVal p_Head_CsCov p_Head_Sum p_Head_Type p_Head_X p_Head_Seq p_Head_Ack p_Head_Service p_Head_Code p_Head_Info_0 p_Head_Info_1 p_Head_Info_2 p_Data := by
  unfold valid_Answer_S
  simp only [un_i_ev, un_b_ev, un_s_ev, un_li_ev, un_lb_ev, un_ls_ev, un_nil_ev]
theorem valid_Answer_says : Says valid_Answer_SC valid_Answer_S := by
  intro β ls' k' r' h'
  unfold valid_Answer_SC at h'
  obtain ⟨v_State, l'1, rfl, h'1⟩ := un_i_some.1 h'
  obtain ⟨v_Gss, l'2, rfl, h'2⟩ := un_i_some.1 h'1
  obtain ⟨v_Gsr, l'3, rfl, h'3⟩ := un_i_some.1 h'2
  obtain ⟨v_Gar, l'4, rfl, h'4⟩ := un_i_some.1 h'3
  obtain ⟨v_Iss, l'5, rfl, h'5⟩ := un_i_some.1 h'4
  obtain ⟨v_Isr, l'6, rfl, h'6⟩ := un_i_some.1 h'5
  obtain ⟨v_Mine, l'7, rfl, h'7⟩ := un_i_some.1 h'6
  obtain ⟨v_Theirs, l'8, rfl, h'8⟩ := un_i_some.1 h'7
  obtain ⟨p_Head_Src, l'9, rfl, h'9⟩ := un_i_some.1 h'8
  obtain ⟨p_Head_Dst, l'10, rfl, h'10⟩ := un_i_some.1 h'9
  obtain ⟨p_Head_Off, l'11, rfl, h'11⟩ := un_i_some.1 h'10
  obtain ⟨p_Head_CCVal, l'12, rfl, h'12⟩ := un_i_some.1 h'11
  obtain ⟨p_Head_CsCov, l'13, rfl, h'13⟩ := un_i_some.1 h'12
  obtain ⟨p_Head_Sum, l'14, rfl, h'14⟩ := un_i_some.1 h'13
  obtain ⟨p_Head_Type, l'15, rfl, h'15⟩ := un_i_some.1 h'14
  obtain ⟨p_Head_X, l'16, rfl, h'16⟩ := un_b_some.1 h'15
  obtain ⟨p_Head_Seq, l'17, rfl, h'17⟩ := un_i_some.1 h'16
  obtain ⟨p_Head_Ack, l'18, rfl, h'18⟩ := un_i_some.1 h'17
  obtain ⟨p_Head_Service, l'19, rfl, h'19⟩ := un_i_some.1 h'18
  obtain ⟨p_Head_Code, l'20, rfl, h'20⟩ := un_i_some.1 h'19
  obtain ⟨p_Head_Info_0, l'21, rfl, h'21⟩ := un_i_some.1 h'20
  obtain ⟨p_Head_Info_1, l'22, rfl, h'22⟩ := un_i_some.1 h'21
  obtain ⟨p_Head_Info_2, l'23, rfl, h'23⟩ := un_i_some.1 h'22
  obtain ⟨p_Data, l'24, rfl, h'24⟩ := un_s_some.1 h'23
  obtain ⟨rfl, h'Z⟩ := un_nil_some.1 h'24
  obtain ⟨l', a', b'⟩ := out_some.1 h'Z
  exact ⟨l', (valid_Answer_Se v_State v_Gss v_Gsr v_Gar v_Iss v_Isr v_Mine v_Theirs p_Head_Src p_Head_Dst p_Head_Off p_Head_CCVal p_Head_CsCov p_Head_Sum p_Head_Type p_Head_X p_Head_Seq p_Head_Ack p_Head_Service p_Head_Code p_Head_Info_0 p_Head_Info_1 p_Head_Info_2 p_Data).trans a', b'⟩
theorem valid_Answer_c : FnC Go.Proofs.Tryz.prog 32 false 2 0 valid_Answer_in valid_Answer_out valid_Answer_S := by
  refine fn_ok (Λ := valid_Answer_Λ) mixed tab_ok g42 Go.Proofs.Tryz.func32 (by kernel_rfl) (body := fb Go.Proofs.Tryz.f32) rfl (ts := Go.Proofs.Tryz.f32.results.toList) rfl (cuts := []) (by kernel_rfl) (Nat.le_of_ble_eq_true (by kernel_rfl)) (by kernel_rfl) (rt := .tup [.at (.int .u64), .at (.bool)]) rfl ?_ ?_
  · intro ls' r' h'
    unfold valid_Answer_S at h'
    obtain ⟨v_State, l'1, rfl, h'1⟩ := un_i_some.1 h'
    obtain ⟨v_Gss, l'2, rfl, h'2⟩ := un_i_some.1 h'1
    obtain ⟨v_Gsr, l'3, rfl, h'3⟩ := un_i_some.1 h'2
    obtain ⟨v_Gar, l'4, rfl, h'4⟩ := un_i_some.1 h'3
    obtain ⟨v_Iss, l'5, rfl, h'5⟩ := un_i_some.1 h'4
    obtain ⟨v_Isr, l'6, rfl, h'6⟩ := un_i_some.1 h'5
    obtain ⟨v_Mine, l'7, rfl, h'7⟩ := un_i_some.1 h'6
    obtain ⟨v_Theirs, l'8, rfl, h'8⟩ := un_i_some.1 h'7
    obtain ⟨p_Head_Src, l'9, rfl, h'9⟩ := un_i_some.1 h'8
    obtain ⟨p_Head_Dst, l'10, rfl, h'10⟩ := un_i_some.1 h'9
    obtain ⟨p_Head_Off, l'11, rfl, h'11⟩ := un_i_some.1 h'10
    obtain ⟨p_Head_CCVal, l'12, rfl, h'12⟩ := un_i_some.1 h'11
    obtain ⟨p_Head_CsCov, l'13, rfl, h'13⟩ := un_i_some.1 h'12
    obtain ⟨p_Head_Sum, l'14, rfl, h'14⟩ := un_i_some.1 h'13
    obtain ⟨p_Head_Type, l'15, rfl, h'15⟩ := un_i_some.1 h'14
    obtain ⟨p_Head_X, l'16, rfl, h'16⟩ := un_b_some.1 h'15
    obtain ⟨p_Head_Seq, l'17, rfl, h'17⟩ := un_i_some.1 h'16
    obtain ⟨p_Head_Ack, l'18, rfl, h'18⟩ := un_i_some.1 h'17
    obtain ⟨p_Head_Service, l'19, rfl, h'19⟩ := un_i_some.1 h'18
    obtain ⟨p_Head_Code, l'20, rfl, h'20⟩ := un_i_some.1 h'19
    obtain ⟨p_Head_Info_0, l'21, rfl, h'21⟩ := un_i_some.1 h'20
    obtain ⟨p_Head_Info_1, l'22, rfl, h'22⟩ := un_i_some.1 h'21
    obtain ⟨p_Head_Info_2, l'23, rfl, h'23⟩ := un_i_some.1 h'22
    obtain ⟨p_Data, l'24, rfl, h'24⟩ := un_s_some.1 h'23
    obtain ⟨rfl, h'Z⟩ := un_nil_some.1 h'24
    exact (valid_Answer_e v_State v_Gss v_Gsr v_Gar v_Iss v_Isr v_Mine v_Theirs p_Head_Src p_Head_Dst p_Head_Off p_Head_CCVal p_Head_CsCov p_Head_Sum p_Head_Type p_Head_X p_Head_Seq p_Head_Ack p_Head_Service p_Head_Code p_Head_Info_0 p_Head_Info_1 p_Head_Info_2 p_Data).symm.trans h'Z
  · intro E w0 ws ρ0 hk b hb
    rw [show loopsOf (fb Go.Proofs.Tryz.f32) = [] by kernel_rfl] at hb
    cases hb
noncomputable def G43 : Env := G42.addE 32 2 valid_Answer_in valid_Answer_out valid_Answer_SC
theorem g43 : EnvOk Go.Proofs.Tryz.prog G43 := EnvOk.addE g42 valid_Answer_c valid_Answer_says
end Go.Sx.T

