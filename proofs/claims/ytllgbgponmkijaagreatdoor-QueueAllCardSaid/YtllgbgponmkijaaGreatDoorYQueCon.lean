import Derived.Test.YtllgbgponmkijaaGreatDoorYQueSpec
import Derived.Test.YtllgbgponmkijaaGreatDoorYFixCon
set_option linter.all false
namespace Go.Sx.T
open Go Go.Sx Go.Proofs
set_option maxRecDepth 100000

-- ### queue_Len: function 44
def queue_Len_in : Tm := ⟨[.cells 127 [.all 1 1, .int .i64], .row 9 1 [.str]], [(0, .w (.at (.ptr 0 0)))]⟩
def queue_Len_out : Tm := ⟨[.dead, .dead], [(0, .w (.at (.int .i64)))]⟩

def queue_Len_Λd : Loops := Loops.none
def queue_Len_Λ : Loops := queue_Len_Λd 

theorem queue_Len_e (q_l : List ByteArray) (q_most : Int) : queue_Len q_l q_most = den G19 queue_Len_Λ true tab Go.Proofs.Tryz.f44.ntmps (fun fr H => finish tab 2 Go.Proofs.Tryz.f44.results.toList queue_Len_out [] fr H some) (fun _ _ _ => none) (fun fr H => finish tab 2 Go.Proofs.Tryz.f44.results.toList queue_Len_out [] fr H some) 10000 [.code (fb Go.Proofs.Tryz.f44)] (instFr queue_Len_in [.ls q_l, .i q_most]) (instH queue_Len_in [.ls q_l, .i q_most]) := by kernel_rfl
def queue_Len_S : List Leaf → Option (List Leaf) := fun ls => un_ls ls fun q_l rr => un_i rr fun q_most rr => un_nil rr (queue_Len q_l q_most)
def queue_Len_SC : Tld := fun ls k' => un_ls ls fun q_l rr => un_i rr fun q_most rr => un_nil rr (out (queue_Len q_l q_most) k')
theorem queue_Len_Se (q_l : List ByteArray) (q_most : Int) : queue_Len_S [.ls q_l, .i q_most] = queue_Len q_l q_most := by
  unfold queue_Len_S
  simp only [un_i_ev, un_b_ev, un_s_ev, un_li_ev, un_lb_ev, un_ls_ev, un_nil_ev]
theorem queue_Len_says : Says queue_Len_SC queue_Len_S := by
  intro β ls' k' r' h'
  unfold queue_Len_SC at h'
  obtain ⟨q_l, l'1, rfl, h'1⟩ := un_ls_some.1 h'
  obtain ⟨q_most, l'2, rfl, h'2⟩ := un_i_some.1 h'1
  obtain ⟨rfl, h'Z⟩ := un_nil_some.1 h'2
  obtain ⟨l', a', b'⟩ := out_some.1 h'Z
  exact ⟨l', (queue_Len_Se q_l q_most).trans a', b'⟩
theorem queue_Len_c : FnC Go.Proofs.Tryz.prog 44 true 1 2 queue_Len_in queue_Len_out queue_Len_S := by
  refine fn_ok (Λ := queue_Len_Λ) mixed tab_ok g19 Go.Proofs.Tryz.func44 (by kernel_rfl) (body := fb Go.Proofs.Tryz.f44) rfl (ts := Go.Proofs.Tryz.f44.results.toList) rfl (cuts := []) (by kernel_rfl) (Nat.le_of_ble_eq_true (by kernel_rfl)) (by kernel_rfl) (rt := .w (.at (.int .i64))) rfl ?_ ?_
  · intro ls' r' h'
    unfold queue_Len_S at h'
    obtain ⟨q_l, l'1, rfl, h'1⟩ := un_ls_some.1 h'
    obtain ⟨q_most, l'2, rfl, h'2⟩ := un_i_some.1 h'1
    obtain ⟨rfl, h'Z⟩ := un_nil_some.1 h'2
    exact (queue_Len_e q_l q_most).symm.trans h'Z
  · intro E w0 ws ρ0 hk b hb
    rw [show loopsOf (fb Go.Proofs.Tryz.f44) = [] by kernel_rfl] at hb
    cases hb
noncomputable def G58 : Env := G19.addP 44 1 queue_Len_in queue_Len_out queue_Len_SC
theorem g58 : EnvOk Go.Proofs.Tryz.prog G58 := EnvOk.addP g19 queue_Len_c queue_Len_says

-- ### queue_Put: function 41
def queue_Put_in : Tm := ⟨[.cells 127 [.all 1 1, .int .i64], .row 9 1 [.str]], [(0, .w (.at (.ptr 0 0))), (1, .w (.at (.str)))]⟩
def queue_Put_out : Tm := ⟨[.cells 127 [.all 2 1, .int .i64], .dead, .row 9 1 [.str]], [(0, .w (.at (.int .i64)))]⟩

def queue_Put_Λd : Loops := Loops.none
def queue_Put_Λ : Loops := queue_Put_Λd 

theorem queue_Put_e (q_l : List ByteArray) (q_most : Int) (d : ByteArray) : queue_Put q_l q_most d = den G58 queue_Put_Λ false tab Go.Proofs.Tryz.f41.ntmps (fun fr H => finish tab 2 Go.Proofs.Tryz.f41.results.toList queue_Put_out [] fr H some) (fun _ _ _ => none) (fun fr H => finish tab 2 Go.Proofs.Tryz.f41.results.toList queue_Put_out [] fr H some) 10000 [.code (fb Go.Proofs.Tryz.f41)] (instFr queue_Put_in [.ls q_l, .i q_most, .s d]) (instH queue_Put_in [.ls q_l, .i q_most, .s d]) := by kernel_rfl
def queue_Put_S : List Leaf → Option (List Leaf) := fun ls => un_ls ls fun q_l rr => un_i rr fun q_most rr => un_s rr fun d rr => un_nil rr (queue_Put q_l q_most d)
def queue_Put_SC : Tld := fun ls k' => un_ls ls fun q_l rr => un_i rr fun q_most rr => un_s rr fun d rr => un_nil rr (out (queue_Put q_l q_most d) k')
theorem queue_Put_Se (q_l : List ByteArray) (q_most : Int) (d : ByteArray) : queue_Put_S [.ls q_l, .i q_most, .s d] = queue_Put q_l q_most d := by
  unfold queue_Put_S
  simp only [un_i_ev, un_b_ev, un_s_ev, un_li_ev, un_lb_ev, un_ls_ev, un_nil_ev]
theorem queue_Put_says : Says queue_Put_SC queue_Put_S := by
  intro β ls' k' r' h'
  unfold queue_Put_SC at h'
  obtain ⟨q_l, l'1, rfl, h'1⟩ := un_ls_some.1 h'
  obtain ⟨q_most, l'2, rfl, h'2⟩ := un_i_some.1 h'1
  obtain ⟨d, l'3, rfl, h'3⟩ := un_s_some.1 h'2
  obtain ⟨rfl, h'Z⟩ := un_nil_some.1 h'3
  obtain ⟨l', a', b'⟩ := out_some.1 h'Z
  exact ⟨l', (queue_Put_Se q_l q_most d).trans a', b'⟩
theorem queue_Put_c : FnC Go.Proofs.Tryz.prog 41 false 2 2 queue_Put_in queue_Put_out queue_Put_S := by
  refine fn_ok (Λ := queue_Put_Λ) mixed tab_ok g58 Go.Proofs.Tryz.func41 (by kernel_rfl) (body := fb Go.Proofs.Tryz.f41) rfl (ts := Go.Proofs.Tryz.f41.results.toList) rfl (cuts := []) (by kernel_rfl) (Nat.le_of_ble_eq_true (by kernel_rfl)) (by kernel_rfl) (rt := .w (.at (.int .i64))) rfl ?_ ?_
  · intro ls' r' h'
    unfold queue_Put_S at h'
    obtain ⟨q_l, l'1, rfl, h'1⟩ := un_ls_some.1 h'
    obtain ⟨q_most, l'2, rfl, h'2⟩ := un_i_some.1 h'1
    obtain ⟨d, l'3, rfl, h'3⟩ := un_s_some.1 h'2
    obtain ⟨rfl, h'Z⟩ := un_nil_some.1 h'3
    exact (queue_Put_e q_l q_most d).symm.trans h'Z
  · intro E w0 ws ρ0 hk b hb
    rw [show loopsOf (fb Go.Proofs.Tryz.f41) = [] by kernel_rfl] at hb
    cases hb
noncomputable def G59 : Env := G58.addE 41 2 queue_Put_in queue_Put_out queue_Put_SC
theorem g59 : EnvOk Go.Proofs.Tryz.prog G59 := EnvOk.addE g58 queue_Put_c queue_Put_says

-- ### queue_First: function 42
def queue_First_in : Tm := ⟨[.cells 127 [.all 1 1, .int .i64], .row 9 1 [.str]], [(0, .w (.at (.ptr 0 0)))]⟩
def queue_First_out : Tm := ⟨[.dead, .dead], [(0, .tup [.at (.str), .at (.bool)])]⟩

def queue_First_Λd : Loops := Loops.none
def queue_First_Λ : Loops := queue_First_Λd 

theorem queue_First_e (q_l : List ByteArray) (q_most : Int) : queue_First q_l q_most = den G59 queue_First_Λ true tab Go.Proofs.Tryz.f42.ntmps (fun fr H => finish tab 2 Go.Proofs.Tryz.f42.results.toList queue_First_out [] fr H some) (fun _ _ _ => none) (fun fr H => finish tab 2 Go.Proofs.Tryz.f42.results.toList queue_First_out [] fr H some) 10000 [.code (fb Go.Proofs.Tryz.f42)] (instFr queue_First_in [.ls q_l, .i q_most]) (instH queue_First_in [.ls q_l, .i q_most]) := by kernel_rfl
def queue_First_S : List Leaf → Option (List Leaf) := fun ls => un_ls ls fun q_l rr => un_i rr fun q_most rr => un_nil rr (queue_First q_l q_most)
def queue_First_SC : Tld := fun ls k' => un_ls ls fun q_l rr => un_i rr fun q_most rr => un_nil rr (out (queue_First q_l q_most) k')
theorem queue_First_Se (q_l : List ByteArray) (q_most : Int) : queue_First_S [.ls q_l, .i q_most] = queue_First q_l q_most := by
  unfold queue_First_S
  simp only [un_i_ev, un_b_ev, un_s_ev, un_li_ev, un_lb_ev, un_ls_ev, un_nil_ev]
theorem queue_First_says : Says queue_First_SC queue_First_S := by
  intro β ls' k' r' h'
  unfold queue_First_SC at h'
  obtain ⟨q_l, l'1, rfl, h'1⟩ := un_ls_some.1 h'
  obtain ⟨q_most, l'2, rfl, h'2⟩ := un_i_some.1 h'1
  obtain ⟨rfl, h'Z⟩ := un_nil_some.1 h'2
  obtain ⟨l', a', b'⟩ := out_some.1 h'Z
  exact ⟨l', (queue_First_Se q_l q_most).trans a', b'⟩
theorem queue_First_c : FnC Go.Proofs.Tryz.prog 42 true 1 2 queue_First_in queue_First_out queue_First_S := by
  refine fn_ok (Λ := queue_First_Λ) mixed tab_ok g59 Go.Proofs.Tryz.func42 (by kernel_rfl) (body := fb Go.Proofs.Tryz.f42) rfl (ts := Go.Proofs.Tryz.f42.results.toList) rfl (cuts := []) (by kernel_rfl) (Nat.le_of_ble_eq_true (by kernel_rfl)) (by kernel_rfl) (rt := .tup [.at (.str), .at (.bool)]) rfl ?_ ?_
  · intro ls' r' h'
    unfold queue_First_S at h'
    obtain ⟨q_l, l'1, rfl, h'1⟩ := un_ls_some.1 h'
    obtain ⟨q_most, l'2, rfl, h'2⟩ := un_i_some.1 h'1
    obtain ⟨rfl, h'Z⟩ := un_nil_some.1 h'2
    exact (queue_First_e q_l q_most).symm.trans h'Z
  · intro E w0 ws ρ0 hk b hb
    rw [show loopsOf (fb Go.Proofs.Tryz.f42) = [] by kernel_rfl] at hb
    cases hb
noncomputable def G60 : Env := G59.addP 42 1 queue_First_in queue_First_out queue_First_SC
theorem g60 : EnvOk Go.Proofs.Tryz.prog G60 := EnvOk.addP g59 queue_First_c queue_First_says

-- ### queue_Take: function 43
def queue_Take_in : Tm := ⟨[.cells 127 [.all 1 1, .int .i64], .row 9 1 [.str]], [(0, .w (.at (.ptr 0 0)))]⟩
def queue_Take_out : Tm := ⟨[.cells 127 [.all 2 1, .int .i64], .dead, .row 9 1 [.str]], [(0, .tup [.at (.str), .at (.bool)])]⟩

def queue_Take_Λd : Loops := Loops.none
def queue_Take_Λ : Loops := queue_Take_Λd 

theorem queue_Take_e (q_l : List ByteArray) (q_most : Int) : queue_Take q_l q_most = den G60 queue_Take_Λ false tab Go.Proofs.Tryz.f43.ntmps (fun fr H => finish tab 2 Go.Proofs.Tryz.f43.results.toList queue_Take_out [] fr H some) (fun _ _ _ => none) (fun fr H => finish tab 2 Go.Proofs.Tryz.f43.results.toList queue_Take_out [] fr H some) 10000 [.code (fb Go.Proofs.Tryz.f43)] (instFr queue_Take_in [.ls q_l, .i q_most]) (instH queue_Take_in [.ls q_l, .i q_most]) := by kernel_rfl
def queue_Take_S : List Leaf → Option (List Leaf) := fun ls => un_ls ls fun q_l rr => un_i rr fun q_most rr => un_nil rr (queue_Take q_l q_most)
def queue_Take_SC : Tld := fun ls k' => un_ls ls fun q_l rr => un_i rr fun q_most rr => un_nil rr (out (queue_Take q_l q_most) k')
theorem queue_Take_Se (q_l : List ByteArray) (q_most : Int) : queue_Take_S [.ls q_l, .i q_most] = queue_Take q_l q_most := by
  unfold queue_Take_S
  simp only [un_i_ev, un_b_ev, un_s_ev, un_li_ev, un_lb_ev, un_ls_ev, un_nil_ev]
theorem queue_Take_says : Says queue_Take_SC queue_Take_S := by
  intro β ls' k' r' h'
  unfold queue_Take_SC at h'
  obtain ⟨q_l, l'1, rfl, h'1⟩ := un_ls_some.1 h'
  obtain ⟨q_most, l'2, rfl, h'2⟩ := un_i_some.1 h'1
  obtain ⟨rfl, h'Z⟩ := un_nil_some.1 h'2
  obtain ⟨l', a', b'⟩ := out_some.1 h'Z
  exact ⟨l', (queue_Take_Se q_l q_most).trans a', b'⟩
theorem queue_Take_c : FnC Go.Proofs.Tryz.prog 43 false 1 2 queue_Take_in queue_Take_out queue_Take_S := by
  refine fn_ok (Λ := queue_Take_Λ) mixed tab_ok g60 Go.Proofs.Tryz.func43 (by kernel_rfl) (body := fb Go.Proofs.Tryz.f43) rfl (ts := Go.Proofs.Tryz.f43.results.toList) rfl (cuts := []) (by kernel_rfl) (Nat.le_of_ble_eq_true (by kernel_rfl)) (by kernel_rfl) (rt := .tup [.at (.str), .at (.bool)]) rfl ?_ ?_
  · intro ls' r' h'
    unfold queue_Take_S at h'
    obtain ⟨q_l, l'1, rfl, h'1⟩ := un_ls_some.1 h'
    obtain ⟨q_most, l'2, rfl, h'2⟩ := un_i_some.1 h'1
    obtain ⟨rfl, h'Z⟩ := un_nil_some.1 h'2
    exact (queue_Take_e q_l q_most).symm.trans h'Z
  · intro E w0 ws ρ0 hk b hb
    rw [show loopsOf (fb Go.Proofs.Tryz.f43) = [] by kernel_rfl] at hb
    cases hb
noncomputable def G61 : Env := G60.addE 43 1 queue_Take_in queue_Take_out queue_Take_SC
theorem g61 : EnvOk Go.Proofs.Tryz.prog G61 := EnvOk.addE g60 queue_Take_c queue_Take_says

-- ### queue_Bytes: function 45
def queue_Bytes_in : Tm := ⟨[.cells 127 [.all 1 1, .int .i64], .row 9 1 [.str]], [(0, .w (.at (.ptr 0 0)))]⟩
def queue_Bytes_out : Tm := ⟨[.dead, .dead], [(0, .w (.at (.int .i64)))]⟩
def queue_Bytes_3_T : Tm := ⟨[.cells 127 [.all 1 1, .int .i64], .row 9 1 [.str]], [(7, .w (.at (.int .i64))), (0, .w (.at (.ptr 0 0))), (3, .w (.at (.int .i64))), (6, .w (.at (.int .i64)))]⟩
def queue_Bytes_3_X0 : Tm := ⟨[.cells 127 [.all 1 1, .int .i64], .row 9 1 [.str]], [(3, .w (.at (.int .i64)))]⟩
def queue_Bytes_3_X : Exits := [(0, (queue_Bytes_3_X0, []))]
def queue_Bytes_3_R : Tm := ⟨[], []⟩

def queue_Bytes_Λd (L3 : ({β : Type} → (Nat → List Leaf → Option β) → (List Leaf → Option β) → Nat → List ByteArray → Int → Int → Int → Int → Option β)) : Loops := ⟨fun b fr H kx kr => bif Nat.beq (rid b) 3 then loopE 2 queue_Bytes_3_T [] queue_Bytes_3_X queue_Bytes_3_R (queue_Bytes_3_F @L3 top) fr H kx kr else none⟩
def queue_Bytes_Λ : Loops := queue_Bytes_Λd @queue_Bytes_3_L
theorem queue_Bytes_3_e (L3 : ({β : Type} → (Nat → List Leaf → Option β) → (List Leaf → Option β) → Nat → List ByteArray → Int → Int → Int → Int → Option β)) {α : Type} (kx : Nat → List Leaf → Option α) (kr : List Leaf → Option α) (again : List ByteArray → Int → Int → Int → Int → Option α) (q_l : List ByteArray) (q_most : Int) (t7 : Int) (n2 : Int) (t6 : Int) : queue_Bytes_3_B  kx kr again q_l q_most t7 n2 t6 = loopB G61 (queue_Bytes_Λd @L3) true tab Go.Proofs.Tryz.f45.ntmps 2 queue_Bytes_3_T [] queue_Bytes_3_X queue_Bytes_3_R (bodyAt (fb Go.Proofs.Tryz.f45) 0) (fun ls => un_ls ls fun q_l rr => un_i rr fun q_most rr => un_i rr fun t7 rr => un_i rr fun n2 rr => un_i rr fun t6 rr => un_nil rr (again q_l q_most t7 n2 t6)) kx kr (instFr queue_Bytes_3_T [.ls q_l, .i q_most, .i t7, .i n2, .i t6]) (instH queue_Bytes_3_T [.ls q_l, .i q_most, .i t7, .i n2, .i t6]) := by kernel_rfl
theorem queue_Bytes_3_lok (E : Nat → Prop) (w0 ws : World) (ρ0 : List Pl) (hk : ρ0.length = 2) : LOk Go.Proofs.Tryz.prog 45 Go.Proofs.Tryz.f45 true E w0 ws Go.Proofs.Tryz.f45.ntmps ρ0 queue_Bytes_Λ (bodyAt (fb Go.Proofs.Tryz.f45) 0) := by
  refine lok mixed tab_ok g61 Go.Proofs.Tryz.func45 hk (T := queue_Bytes_3_T) (rt := queue_Bytes_3_R) (cuts := []) (ex := queue_Bytes_3_X) (top := top) (F := queue_Bytes_3_F @queue_Bytes_3_L) (fun fr H kx kr => by kernel_rfl) ?_ ?_ ?_
  · intro α ls' kx' kr' r' h'
    unfold queue_Bytes_3_F at h'
    obtain ⟨q_l, l'1, rfl, h'1⟩ := un_ls_some.1 h'
    obtain ⟨q_most, l'2, rfl, h'2⟩ := un_i_some.1 h'1
    obtain ⟨t7, l'3, rfl, h'3⟩ := un_i_some.1 h'2
    obtain ⟨n2, l'4, rfl, h'4⟩ := un_i_some.1 h'3
    obtain ⟨t6, l'5, rfl, h'5⟩ := un_i_some.1 h'4
    obtain ⟨rfl, h'Z⟩ := un_nil_some.1 h'5
    cases h'Z
  · intro α n' ls' kx' kr' r' h'
    unfold queue_Bytes_3_F at h'
    obtain ⟨q_l, l'1, rfl, h'1⟩ := un_ls_some.1 h'
    obtain ⟨q_most, l'2, rfl, h'2⟩ := un_i_some.1 h'1
    obtain ⟨t7, l'3, rfl, h'3⟩ := un_i_some.1 h'2
    obtain ⟨n2, l'4, rfl, h'4⟩ := un_i_some.1 h'3
    obtain ⟨t6, l'5, rfl, h'5⟩ := un_i_some.1 h'4
    obtain ⟨rfl, h'Z⟩ := un_nil_some.1 h'5
    exact (queue_Bytes_3_e @queue_Bytes_3_L kx' kr' (queue_Bytes_3_L kx' kr' n') q_l q_most t7 n2 t6).symm.trans h'Z
  · intro b' hb
    rw [show loopsOf (bodyAt (fb Go.Proofs.Tryz.f45) 0) = [] by kernel_rfl] at hb
    cases hb
theorem queue_Bytes_ed (L3 : ({β : Type} → (Nat → List Leaf → Option β) → (List Leaf → Option β) → Nat → List ByteArray → Int → Int → Int → Int → Option β)) (q_l : List ByteArray) (q_most : Int) : queue_Bytes_d @L3 q_l q_most = den G61 (queue_Bytes_Λd @L3) true tab Go.Proofs.Tryz.f45.ntmps (fun fr H => finish tab 2 Go.Proofs.Tryz.f45.results.toList queue_Bytes_out [] fr H some) (fun _ _ _ => none) (fun fr H => finish tab 2 Go.Proofs.Tryz.f45.results.toList queue_Bytes_out [] fr H some) 10000 [.code (fb Go.Proofs.Tryz.f45)] (instFr queue_Bytes_in [.ls q_l, .i q_most]) (instH queue_Bytes_in [.ls q_l, .i q_most]) := by kernel_rfl
theorem queue_Bytes_e (q_l : List ByteArray) (q_most : Int) : queue_Bytes q_l q_most = den G61 queue_Bytes_Λ true tab Go.Proofs.Tryz.f45.ntmps (fun fr H => finish tab 2 Go.Proofs.Tryz.f45.results.toList queue_Bytes_out [] fr H some) (fun _ _ _ => none) (fun fr H => finish tab 2 Go.Proofs.Tryz.f45.results.toList queue_Bytes_out [] fr H some) 10000 [.code (fb Go.Proofs.Tryz.f45)] (instFr queue_Bytes_in [.ls q_l, .i q_most]) (instH queue_Bytes_in [.ls q_l, .i q_most]) := queue_Bytes_ed @queue_Bytes_3_L q_l q_most
def queue_Bytes_S : List Leaf → Option (List Leaf) := fun ls => un_ls ls fun q_l rr => un_i rr fun q_most rr => un_nil rr (queue_Bytes q_l q_most)
def queue_Bytes_SC : Tld := fun ls k' => un_ls ls fun q_l rr => un_i rr fun q_most rr => un_nil rr (out (queue_Bytes q_l q_most) k')
theorem queue_Bytes_Se (q_l : List ByteArray) (q_most : Int) : queue_Bytes_S [.ls q_l, .i q_most] = queue_Bytes q_l q_most := by
  unfold queue_Bytes_S
  simp only [un_i_ev, un_b_ev, un_s_ev, un_li_ev, un_lb_ev, un_ls_ev, un_nil_ev]
theorem queue_Bytes_says : Says queue_Bytes_SC queue_Bytes_S := by
  intro β ls' k' r' h'
  unfold queue_Bytes_SC at h'
  obtain ⟨q_l, l'1, rfl, h'1⟩ := un_ls_some.1 h'
  obtain ⟨q_most, l'2, rfl, h'2⟩ := un_i_some.1 h'1
  obtain ⟨rfl, h'Z⟩ := un_nil_some.1 h'2
  obtain ⟨l', a', b'⟩ := out_some.1 h'Z
  exact ⟨l', (queue_Bytes_Se q_l q_most).trans a', b'⟩
theorem queue_Bytes_c : FnC Go.Proofs.Tryz.prog 45 true 1 2 queue_Bytes_in queue_Bytes_out queue_Bytes_S := by
  refine fn_ok (Λ := queue_Bytes_Λ) mixed tab_ok g61 Go.Proofs.Tryz.func45 (by kernel_rfl) (body := fb Go.Proofs.Tryz.f45) rfl (ts := Go.Proofs.Tryz.f45.results.toList) rfl (cuts := []) (by kernel_rfl) (Nat.le_of_ble_eq_true (by kernel_rfl)) (by kernel_rfl) (rt := .w (.at (.int .i64))) rfl ?_ ?_
  · intro ls' r' h'
    unfold queue_Bytes_S at h'
    obtain ⟨q_l, l'1, rfl, h'1⟩ := un_ls_some.1 h'
    obtain ⟨q_most, l'2, rfl, h'2⟩ := un_i_some.1 h'1
    obtain ⟨rfl, h'Z⟩ := un_nil_some.1 h'2
    exact (queue_Bytes_e q_l q_most).symm.trans h'Z
  · intro E w0 ws ρ0 hk b hb
    rw [show loopsOf (fb Go.Proofs.Tryz.f45) = [(bodyAt (fb Go.Proofs.Tryz.f45) 0)] by kernel_rfl] at hb
    simp only [List.mem_cons, List.mem_nil_iff, or_false] at hb
    rcases hb with rfl
    · exact queue_Bytes_3_lok E w0 ws ρ0 hk
noncomputable def G62 : Env := G61.addP 45 1 queue_Bytes_in queue_Bytes_out queue_Bytes_SC
theorem g62 : EnvOk Go.Proofs.Tryz.prog G62 := EnvOk.addP g61 queue_Bytes_c queue_Bytes_says
end Go.Sx.T

