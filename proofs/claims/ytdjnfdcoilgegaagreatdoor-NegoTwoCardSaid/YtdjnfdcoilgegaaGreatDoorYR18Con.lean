import Derived.Test.YtdjnfdcoilgegaaGreatDoorYR18Spec
import Derived.Test.YtdjnfdcoilgegaaGreatDoorYNegoCon
set_option linter.all false
namespace Go.Sx.T
open Go Go.Sx Go.Proofs
set_option maxRecDepth 100000
noncomputable def G38 : Env := G37.addEqS 49 [.int .i64, .str]
theorem g38 : EnvOk Go.Proofs.Tryz.prog G38 := EnvOk.addEqS g37 tab_ok (by kernel_rfl) (by kernel_rfl) (by kernel_rfl) (by kernel_rfl)
noncomputable def G39 : Env := G38.addEqS 78 [.int .u8, .int .u8, .int .u8]
theorem g39 : EnvOk Go.Proofs.Tryz.prog G39 := EnvOk.addEqS g38 tab_ok (by kernel_rfl) (by kernel_rfl) (by kernel_rfl) (by kernel_rfl)

-- ### ref_Bytes: function 27
def ref_Bytes_in : Tm := ⟨[], [(0, .w (.at (.int .u64))), (1, .w (.at (.int .i64)))]⟩
def ref_Bytes_out : Tm := ⟨[], [(0, .w (.at (.str)))]⟩
def ref_Bytes_2_T : Tm := ⟨[], [(1, .w (.at (.int .i64))), (0, .w (.at (.int .u64))), (5, .w (.at (.str)))]⟩
def ref_Bytes_2_X0 : Tm := ⟨[], [(5, .w (.at (.str)))]⟩
def ref_Bytes_2_X : Exits := [(0, (ref_Bytes_2_X0, []))]
def ref_Bytes_2_R : Tm := ⟨[], []⟩

def ref_Bytes_Λd (L2 : ({β : Type} → (Nat → List Leaf → Option β) → (List Leaf → Option β) → Nat → Int → Int → ByteArray → Option β)) : Loops := ⟨fun b fr H kx kr => bif Nat.beq (rid b) 2 then loopE 0 ref_Bytes_2_T [] ref_Bytes_2_X ref_Bytes_2_R (ref_Bytes_2_F @L2 top) fr H kx kr else none⟩
def ref_Bytes_Λ : Loops := ref_Bytes_Λd @ref_Bytes_2_L
theorem ref_Bytes_2_e (L2 : ({β : Type} → (Nat → List Leaf → Option β) → (List Leaf → Option β) → Nat → Int → Int → ByteArray → Option β)) {α : Type} (kx : Nat → List Leaf → Option α) (kr : List Leaf → Option α) (again : Int → Int → ByteArray → Option α) (k : Int) (n2 : Int) (s : ByteArray) : ref_Bytes_2_B  kx kr again k n2 s = loopB G39 (ref_Bytes_Λd @L2) false tab Go.Proofs.Tryz.f27.ntmps 0 ref_Bytes_2_T [] ref_Bytes_2_X ref_Bytes_2_R (bodyAt (fb Go.Proofs.Tryz.f27) 0) (fun ls => un_i ls fun k rr => un_i rr fun n2 rr => un_s rr fun s rr => un_nil rr (again k n2 s)) kx kr (instFr ref_Bytes_2_T [.i k, .i n2, .s s]) (instH ref_Bytes_2_T [.i k, .i n2, .s s]) := by kernel_rfl
theorem ref_Bytes_2_lok (E : Nat → Prop) (w0 ws : World) (ρ0 : List Pl) (hk : ρ0.length = 0) : LOk Go.Proofs.Tryz.prog 27 Go.Proofs.Tryz.f27 false E w0 ws Go.Proofs.Tryz.f27.ntmps ρ0 ref_Bytes_Λ (bodyAt (fb Go.Proofs.Tryz.f27) 0) := by
  refine lok mixed tab_ok g39 Go.Proofs.Tryz.func27 hk (T := ref_Bytes_2_T) (rt := ref_Bytes_2_R) (cuts := []) (ex := ref_Bytes_2_X) (top := top) (F := ref_Bytes_2_F @ref_Bytes_2_L) (fun fr H kx kr => by kernel_rfl) ?_ ?_ ?_
  · intro α ls' kx' kr' r' h'
    unfold ref_Bytes_2_F at h'
    obtain ⟨k, l'1, rfl, h'1⟩ := un_i_some.1 h'
    obtain ⟨n2, l'2, rfl, h'2⟩ := un_i_some.1 h'1
    obtain ⟨s, l'3, rfl, h'3⟩ := un_s_some.1 h'2
    obtain ⟨rfl, h'Z⟩ := un_nil_some.1 h'3
    cases h'Z
  · intro α n' ls' kx' kr' r' h'
    unfold ref_Bytes_2_F at h'
    obtain ⟨k, l'1, rfl, h'1⟩ := un_i_some.1 h'
    obtain ⟨n2, l'2, rfl, h'2⟩ := un_i_some.1 h'1
    obtain ⟨s, l'3, rfl, h'3⟩ := un_s_some.1 h'2
    obtain ⟨rfl, h'Z⟩ := un_nil_some.1 h'3
    exact (ref_Bytes_2_e @ref_Bytes_2_L kx' kr' (ref_Bytes_2_L kx' kr' n') k n2 s).symm.trans h'Z
  · intro b' hb
    rw [show loopsOf (bodyAt (fb Go.Proofs.Tryz.f27) 0) = [] by kernel_rfl] at hb
    cases hb
theorem ref_Bytes_ed (L2 : ({β : Type} → (Nat → List Leaf → Option β) → (List Leaf → Option β) → Nat → Int → Int → ByteArray → Option β)) (n2 : Int) (k : Int) : ref_Bytes_d @L2 n2 k = den G39 (ref_Bytes_Λd @L2) false tab Go.Proofs.Tryz.f27.ntmps (fun fr H => finish tab 0 Go.Proofs.Tryz.f27.results.toList ref_Bytes_out [] fr H some) (fun _ _ _ => none) (fun fr H => finish tab 0 Go.Proofs.Tryz.f27.results.toList ref_Bytes_out [] fr H some) 10000 [.code (fb Go.Proofs.Tryz.f27)] (instFr ref_Bytes_in [.i n2, .i k]) (instH ref_Bytes_in [.i n2, .i k]) := by kernel_rfl
theorem ref_Bytes_e (n2 : Int) (k : Int) : ref_Bytes n2 k = den G39 ref_Bytes_Λ false tab Go.Proofs.Tryz.f27.ntmps (fun fr H => finish tab 0 Go.Proofs.Tryz.f27.results.toList ref_Bytes_out [] fr H some) (fun _ _ _ => none) (fun fr H => finish tab 0 Go.Proofs.Tryz.f27.results.toList ref_Bytes_out [] fr H some) 10000 [.code (fb Go.Proofs.Tryz.f27)] (instFr ref_Bytes_in [.i n2, .i k]) (instH ref_Bytes_in [.i n2, .i k]) := ref_Bytes_ed @ref_Bytes_2_L n2 k
def ref_Bytes_S : List Leaf → Option (List Leaf) := fun ls => un_i ls fun n2 rr => un_i rr fun k rr => un_nil rr (ref_Bytes n2 k)
def ref_Bytes_SC : Tld := fun ls k' => un_i ls fun n2 rr => un_i rr fun k rr => un_nil rr (out (ref_Bytes n2 k) k')
theorem ref_Bytes_Se (n2 : Int) (k : Int) : ref_Bytes_S [.i n2, .i k] = ref_Bytes n2 k := by
  unfold ref_Bytes_S
  simp only [un_i_ev, un_b_ev, un_s_ev, un_li_ev, un_lb_ev, un_ls_ev, un_nil_ev]
theorem ref_Bytes_says : Says ref_Bytes_SC ref_Bytes_S := by
  intro β ls' k' r' h'
  unfold ref_Bytes_SC at h'
  obtain ⟨n2, l'1, rfl, h'1⟩ := un_i_some.1 h'
  obtain ⟨k, l'2, rfl, h'2⟩ := un_i_some.1 h'1
  obtain ⟨rfl, h'Z⟩ := un_nil_some.1 h'2
  obtain ⟨l', a', b'⟩ := out_some.1 h'Z
  exact ⟨l', (ref_Bytes_Se n2 k).trans a', b'⟩
theorem ref_Bytes_c : FnC Go.Proofs.Tryz.prog 27 false 2 0 ref_Bytes_in ref_Bytes_out ref_Bytes_S := by
  refine fn_ok (Λ := ref_Bytes_Λ) mixed tab_ok g39 Go.Proofs.Tryz.func27 (by kernel_rfl) (body := fb Go.Proofs.Tryz.f27) rfl (ts := Go.Proofs.Tryz.f27.results.toList) rfl (cuts := []) (by kernel_rfl) (Nat.le_of_ble_eq_true (by kernel_rfl)) (by kernel_rfl) (rt := .w (.at (.str))) rfl ?_ ?_
  · intro ls' r' h'
    unfold ref_Bytes_S at h'
    obtain ⟨n2, l'1, rfl, h'1⟩ := un_i_some.1 h'
    obtain ⟨k, l'2, rfl, h'2⟩ := un_i_some.1 h'1
    obtain ⟨rfl, h'Z⟩ := un_nil_some.1 h'2
    exact (ref_Bytes_e n2 k).symm.trans h'Z
  · intro E w0 ws ρ0 hk b hb
    rw [show loopsOf (fb Go.Proofs.Tryz.f27) = [(bodyAt (fb Go.Proofs.Tryz.f27) 0)] by kernel_rfl] at hb
    simp only [List.mem_cons, List.mem_nil_iff, or_false] at hb
    rcases hb with rfl
    · exact ref_Bytes_2_lok E w0 ws ρ0 hk
noncomputable def G40 : Env := G39.addE 27 2 ref_Bytes_in ref_Bytes_out ref_Bytes_SC
theorem g40 : EnvOk Go.Proofs.Tryz.prog G40 := EnvOk.addE g39 ref_Bytes_c ref_Bytes_says

-- ### ref_Number: function 53
def ref_Number_in : Tm := ⟨[], [(0, .w (.at (.str)))]⟩
def ref_Number_out : Tm := ⟨[], [(0, .w (.at (.int .u64)))]⟩
def ref_Number_3_T : Tm := ⟨[], [(4, .w (.at (.int .i64))), (0, .w (.at (.str))), (3, .w (.at (.int .u64)))]⟩
def ref_Number_3_X0 : Tm := ⟨[], [(3, .w (.at (.int .u64)))]⟩
def ref_Number_3_X : Exits := [(0, (ref_Number_3_X0, []))]
def ref_Number_3_R : Tm := ⟨[], []⟩

def ref_Number_Λd (L3 : ({β : Type} → (Nat → List Leaf → Option β) → (List Leaf → Option β) → Nat → Int → ByteArray → Int → Option β)) : Loops := ⟨fun b fr H kx kr => bif Nat.beq (rid b) 3 then loopE 0 ref_Number_3_T [] ref_Number_3_X ref_Number_3_R (ref_Number_3_F @L3 top) fr H kx kr else none⟩
def ref_Number_Λ : Loops := ref_Number_Λd @ref_Number_3_L
theorem ref_Number_3_e (L3 : ({β : Type} → (Nat → List Leaf → Option β) → (List Leaf → Option β) → Nat → Int → ByteArray → Int → Option β)) {α : Type} (kx : Nat → List Leaf → Option α) (kr : List Leaf → Option α) (again : Int → ByteArray → Int → Option α) (i : Int) (s : ByteArray) (n2 : Int) : ref_Number_3_B  kx kr again i s n2 = loopB G40 (ref_Number_Λd @L3) true tab Go.Proofs.Tryz.f53.ntmps 0 ref_Number_3_T [] ref_Number_3_X ref_Number_3_R (bodyAt (fb Go.Proofs.Tryz.f53) 0) (fun ls => un_i ls fun i rr => un_s rr fun s rr => un_i rr fun n2 rr => un_nil rr (again i s n2)) kx kr (instFr ref_Number_3_T [.i i, .s s, .i n2]) (instH ref_Number_3_T [.i i, .s s, .i n2]) := by kernel_rfl
theorem ref_Number_3_lok (E : Nat → Prop) (w0 ws : World) (ρ0 : List Pl) (hk : ρ0.length = 0) : LOk Go.Proofs.Tryz.prog 53 Go.Proofs.Tryz.f53 true E w0 ws Go.Proofs.Tryz.f53.ntmps ρ0 ref_Number_Λ (bodyAt (fb Go.Proofs.Tryz.f53) 0) := by
  refine lok mixed tab_ok g40 Go.Proofs.Tryz.func53 hk (T := ref_Number_3_T) (rt := ref_Number_3_R) (cuts := []) (ex := ref_Number_3_X) (top := top) (F := ref_Number_3_F @ref_Number_3_L) (fun fr H kx kr => by kernel_rfl) ?_ ?_ ?_
  · intro α ls' kx' kr' r' h'
    unfold ref_Number_3_F at h'
    obtain ⟨i, l'1, rfl, h'1⟩ := un_i_some.1 h'
    obtain ⟨s, l'2, rfl, h'2⟩ := un_s_some.1 h'1
    obtain ⟨n2, l'3, rfl, h'3⟩ := un_i_some.1 h'2
    obtain ⟨rfl, h'Z⟩ := un_nil_some.1 h'3
    cases h'Z
  · intro α n' ls' kx' kr' r' h'
    unfold ref_Number_3_F at h'
    obtain ⟨i, l'1, rfl, h'1⟩ := un_i_some.1 h'
    obtain ⟨s, l'2, rfl, h'2⟩ := un_s_some.1 h'1
    obtain ⟨n2, l'3, rfl, h'3⟩ := un_i_some.1 h'2
    obtain ⟨rfl, h'Z⟩ := un_nil_some.1 h'3
    exact (ref_Number_3_e @ref_Number_3_L kx' kr' (ref_Number_3_L kx' kr' n') i s n2).symm.trans h'Z
  · intro b' hb
    rw [show loopsOf (bodyAt (fb Go.Proofs.Tryz.f53) 0) = [] by kernel_rfl] at hb
    cases hb
theorem ref_Number_ed (L3 : ({β : Type} → (Nat → List Leaf → Option β) → (List Leaf → Option β) → Nat → Int → ByteArray → Int → Option β)) (s : ByteArray) : ref_Number_d @L3 s = den G40 (ref_Number_Λd @L3) true tab Go.Proofs.Tryz.f53.ntmps (fun fr H => finish tab 0 Go.Proofs.Tryz.f53.results.toList ref_Number_out [] fr H some) (fun _ _ _ => none) (fun fr H => finish tab 0 Go.Proofs.Tryz.f53.results.toList ref_Number_out [] fr H some) 10000 [.code (fb Go.Proofs.Tryz.f53)] (instFr ref_Number_in [.s s]) (instH ref_Number_in [.s s]) := by kernel_rfl
theorem ref_Number_e (s : ByteArray) : ref_Number s = den G40 ref_Number_Λ true tab Go.Proofs.Tryz.f53.ntmps (fun fr H => finish tab 0 Go.Proofs.Tryz.f53.results.toList ref_Number_out [] fr H some) (fun _ _ _ => none) (fun fr H => finish tab 0 Go.Proofs.Tryz.f53.results.toList ref_Number_out [] fr H some) 10000 [.code (fb Go.Proofs.Tryz.f53)] (instFr ref_Number_in [.s s]) (instH ref_Number_in [.s s]) := ref_Number_ed @ref_Number_3_L s
def ref_Number_S : List Leaf → Option (List Leaf) := fun ls => un_s ls fun s rr => un_nil rr (ref_Number s)
def ref_Number_SC : Tld := fun ls k' => un_s ls fun s rr => un_nil rr (out (ref_Number s) k')
theorem ref_Number_Se (s : ByteArray) : ref_Number_S [.s s] = ref_Number s := by
  unfold ref_Number_S
  simp only [un_i_ev, un_b_ev, un_s_ev, un_li_ev, un_lb_ev, un_ls_ev, un_nil_ev]
theorem ref_Number_says : Says ref_Number_SC ref_Number_S := by
  intro β ls' k' r' h'
  unfold ref_Number_SC at h'
  obtain ⟨s, l'1, rfl, h'1⟩ := un_s_some.1 h'
  obtain ⟨rfl, h'Z⟩ := un_nil_some.1 h'1
  obtain ⟨l', a', b'⟩ := out_some.1 h'Z
  exact ⟨l', (ref_Number_Se s).trans a', b'⟩
theorem ref_Number_c : FnC Go.Proofs.Tryz.prog 53 true 1 0 ref_Number_in ref_Number_out ref_Number_S := by
  refine fn_ok (Λ := ref_Number_Λ) mixed tab_ok g40 Go.Proofs.Tryz.func53 (by kernel_rfl) (body := fb Go.Proofs.Tryz.f53) rfl (ts := Go.Proofs.Tryz.f53.results.toList) rfl (cuts := []) (by kernel_rfl) (Nat.le_of_ble_eq_true (by kernel_rfl)) (by kernel_rfl) (rt := .w (.at (.int .u64))) rfl ?_ ?_
  · intro ls' r' h'
    unfold ref_Number_S at h'
    obtain ⟨s, l'1, rfl, h'1⟩ := un_s_some.1 h'
    obtain ⟨rfl, h'Z⟩ := un_nil_some.1 h'1
    exact (ref_Number_e s).symm.trans h'Z
  · intro E w0 ws ρ0 hk b hb
    rw [show loopsOf (fb Go.Proofs.Tryz.f53) = [(bodyAt (fb Go.Proofs.Tryz.f53) 0)] by kernel_rfl] at hb
    simp only [List.mem_cons, List.mem_nil_iff, or_false] at hb
    rcases hb with rfl
    · exact ref_Number_3_lok E w0 ws ρ0 hk
noncomputable def G41 : Env := G40.addP 53 1 ref_Number_in ref_Number_out ref_Number_SC
theorem g41 : EnvOk Go.Proofs.Tryz.prog G41 := EnvOk.addP g40 ref_Number_c ref_Number_says

-- ### r18_Known: function 52
def r18_Known_in : Tm := ⟨[], [(0, .w (.at (.int .i64)))]⟩
def r18_Known_out : Tm := ⟨[], [(0, .w (.at (.bool)))]⟩

def r18_Known_Λd : Loops := Loops.none
def r18_Known_Λ : Loops := r18_Known_Λd 

theorem r18_Known_e (f : Int) : r18_Known f = den G41 r18_Known_Λ true tab Go.Proofs.Tryz.f52.ntmps (fun fr H => finish tab 0 Go.Proofs.Tryz.f52.results.toList r18_Known_out [] fr H some) (fun _ _ _ => none) (fun fr H => finish tab 0 Go.Proofs.Tryz.f52.results.toList r18_Known_out [] fr H some) 10000 [.code (fb Go.Proofs.Tryz.f52)] (instFr r18_Known_in [.i f]) (instH r18_Known_in [.i f]) := by kernel_rfl
def r18_Known_S : List Leaf → Option (List Leaf) := fun ls => un_i ls fun f rr => un_nil rr (r18_Known f)
def r18_Known_SC : Tld := fun ls k' => un_i ls fun f rr => un_nil rr (out (r18_Known f) k')
theorem r18_Known_Se (f : Int) : r18_Known_S [.i f] = r18_Known f := by
  unfold r18_Known_S
  simp only [un_i_ev, un_b_ev, un_s_ev, un_li_ev, un_lb_ev, un_ls_ev, un_nil_ev]
theorem r18_Known_says : Says r18_Known_SC r18_Known_S := by
  intro β ls' k' r' h'
  unfold r18_Known_SC at h'
  obtain ⟨f, l'1, rfl, h'1⟩ := un_i_some.1 h'
  obtain ⟨rfl, h'Z⟩ := un_nil_some.1 h'1
  obtain ⟨l', a', b'⟩ := out_some.1 h'Z
  exact ⟨l', (r18_Known_Se f).trans a', b'⟩
theorem r18_Known_c : FnC Go.Proofs.Tryz.prog 52 true 1 0 r18_Known_in r18_Known_out r18_Known_S := by
  refine fn_ok (Λ := r18_Known_Λ) mixed tab_ok g41 Go.Proofs.Tryz.func52 (by kernel_rfl) (body := fb Go.Proofs.Tryz.f52) rfl (ts := Go.Proofs.Tryz.f52.results.toList) rfl (cuts := []) (by kernel_rfl) (Nat.le_of_ble_eq_true (by kernel_rfl)) (by kernel_rfl) (rt := .w (.at (.bool))) rfl ?_ ?_
  · intro ls' r' h'
    unfold r18_Known_S at h'
    obtain ⟨f, l'1, rfl, h'1⟩ := un_i_some.1 h'
    obtain ⟨rfl, h'Z⟩ := un_nil_some.1 h'1
    exact (r18_Known_e f).symm.trans h'Z
  · intro E w0 ws ρ0 hk b hb
    rw [show loopsOf (fb Go.Proofs.Tryz.f52) = [] by kernel_rfl] at hb
    cases hb
noncomputable def G42 : Env := G41.addP 52 1 r18_Known_in r18_Known_out r18_Known_SC
theorem g42 : EnvOk Go.Proofs.Tryz.prog G42 := EnvOk.addP g41 r18_Known_c r18_Known_says

-- ### r18_bounds: function 54
def r18_bounds_in : Tm := ⟨[], [(0, .w (.at (.int .i64)))]⟩
def r18_bounds_out : Tm := ⟨[], [(0, .tup [.at (.int .u8), .at (.int .u8), .at (.int .i64)])]⟩

def r18_bounds_Λd : Loops := Loops.none
def r18_bounds_Λ : Loops := r18_bounds_Λd 

theorem r18_bounds_e (f : Int) : r18_bounds f = den G42 r18_bounds_Λ true tab Go.Proofs.Tryz.f54.ntmps (fun fr H => finish tab 0 Go.Proofs.Tryz.f54.results.toList r18_bounds_out [] fr H some) (fun _ _ _ => none) (fun fr H => finish tab 0 Go.Proofs.Tryz.f54.results.toList r18_bounds_out [] fr H some) 10000 [.code (fb Go.Proofs.Tryz.f54)] (instFr r18_bounds_in [.i f]) (instH r18_bounds_in [.i f]) := by kernel_rfl
def r18_bounds_S : List Leaf → Option (List Leaf) := fun ls => un_i ls fun f rr => un_nil rr (r18_bounds f)
def r18_bounds_SC : Tld := fun ls k' => un_i ls fun f rr => un_nil rr (out (r18_bounds f) k')
theorem r18_bounds_Se (f : Int) : r18_bounds_S [.i f] = r18_bounds f := by
  unfold r18_bounds_S
  simp only [un_i_ev, un_b_ev, un_s_ev, un_li_ev, un_lb_ev, un_ls_ev, un_nil_ev]
theorem r18_bounds_says : Says r18_bounds_SC r18_bounds_S := by
  intro β ls' k' r' h'
  unfold r18_bounds_SC at h'
  obtain ⟨f, l'1, rfl, h'1⟩ := un_i_some.1 h'
  obtain ⟨rfl, h'Z⟩ := un_nil_some.1 h'1
  obtain ⟨l', a', b'⟩ := out_some.1 h'Z
  exact ⟨l', (r18_bounds_Se f).trans a', b'⟩
theorem r18_bounds_c : FnC Go.Proofs.Tryz.prog 54 true 1 0 r18_bounds_in r18_bounds_out r18_bounds_S := by
  refine fn_ok (Λ := r18_bounds_Λ) mixed tab_ok g42 Go.Proofs.Tryz.func54 (by kernel_rfl) (body := fb Go.Proofs.Tryz.f54) rfl (ts := Go.Proofs.Tryz.f54.results.toList) rfl (cuts := []) (by kernel_rfl) (Nat.le_of_ble_eq_true (by kernel_rfl)) (by kernel_rfl) (rt := .tup [.at (.int .u8), .at (.int .u8), .at (.int .i64)]) rfl ?_ ?_
  · intro ls' r' h'
    unfold r18_bounds_S at h'
    obtain ⟨f, l'1, rfl, h'1⟩ := un_i_some.1 h'
    obtain ⟨rfl, h'Z⟩ := un_nil_some.1 h'1
    exact (r18_bounds_e f).symm.trans h'Z
  · intro E w0 ws ρ0 hk b hb
    rw [show loopsOf (fb Go.Proofs.Tryz.f54) = [] by kernel_rfl] at hb
    cases hb
noncomputable def G43 : Env := G42.addP 54 1 r18_bounds_in r18_bounds_out r18_bounds_SC
theorem g43 : EnvOk Go.Proofs.Tryz.prog G43 := EnvOk.addP g42 r18_bounds_c r18_bounds_says

-- ### r18_May: function 25
def r18_May_in : Tm := ⟨[], [(0, .w (.at (.int .i64))), (1, .w (.at (.str)))]⟩
def r18_May_out : Tm := ⟨[], [(0, .w (.at (.bool)))]⟩
def r18_May_14_T : Tm := ⟨[], [(9, .w (.at (.int .i64))), (8, .w (.at (.int .i64))), (1, .w (.at (.str))), (59, .w (.at (.bool))), (57, .w (.at (.int .u8))), (58, .w (.at (.int .u8))), (6, .w (.at (.int .u8))), (55, .w (.at (.str))), (56, .w (.at (.int .i64))), (5, .w (.at (.int .u8)))]⟩
def r18_May_14_X2 : Tm := ⟨[], [(1, .w (.at (.str))), (59, .w (.at (.bool))), (57, .w (.at (.int .u8))), (58, .w (.at (.int .u8))), (6, .w (.at (.int .u8))), (55, .w (.at (.str))), (56, .w (.at (.int .i64))), (5, .w (.at (.int .u8))), (8, .w (.at (.int .i64)))]⟩
def r18_May_14_X : Exits := [(2, (r18_May_14_X2, []))]
def r18_May_14_R : Tm := ⟨[], [(4, .w (.at (.bool)))]⟩
def r18_May_9_T : Tm := ⟨[], [(8, .w (.at (.int .i64))), (1, .w (.at (.str))), (6, .w (.at (.int .u8))), (5, .w (.at (.int .u8)))]⟩
def r18_May_9_X0 : Tm := ⟨[], []⟩
def r18_May_9_X : Exits := [(0, (r18_May_9_X0, []))]
def r18_May_9_R : Tm := ⟨[], [(4, .w (.at (.bool)))]⟩

def r18_May_Λd (L14 : ({β : Type} → (Nat → List Leaf → Option β) → (List Leaf → Option β) → Nat → Int → Int → ByteArray → Bool → Int → Int → Int → ByteArray → Int → Int → Option β)) (L9 : ({β : Type} → (Nat → List Leaf → Option β) → (List Leaf → Option β) → Nat → Int → ByteArray → Int → Int → Option β)) : Loops := ⟨fun b fr H kx kr => bif Nat.beq (rid b) 14 then loopE 0 r18_May_14_T [] r18_May_14_X r18_May_14_R (r18_May_14_F @L14 top) fr H kx kr else bif Nat.beq (rid b) 9 then loopE 0 r18_May_9_T [] r18_May_9_X r18_May_9_R (r18_May_9_F @L9 top) fr H kx kr else none⟩
def r18_May_Λ : Loops := r18_May_Λd @r18_May_14_L @r18_May_9_L
theorem r18_May_14_e (L14 : ({β : Type} → (Nat → List Leaf → Option β) → (List Leaf → Option β) → Nat → Int → Int → ByteArray → Bool → Int → Int → Int → ByteArray → Int → Int → Option β)) (L9 : ({β : Type} → (Nat → List Leaf → Option β) → (List Leaf → Option β) → Nat → Int → ByteArray → Int → Int → Option β)) {α : Type} (kx : Nat → List Leaf → Option α) (kr : List Leaf → Option α) (again : Int → Int → ByteArray → Bool → Int → Int → Int → ByteArray → Int → Int → Option α) (k : Int) (i : Int) (v : ByteArray) (t59 : Bool) (t57 : Int) (t58 : Int) (high : Int) (t55 : ByteArray) (t56 : Int) (low : Int) : r18_May_14_B  kx kr again k i v t59 t57 t58 high t55 t56 low = loopB G43 (r18_May_Λd @L14 @L9) true tab Go.Proofs.Tryz.f25.ntmps 0 r18_May_14_T [] r18_May_14_X r18_May_14_R (bodyAt (fb Go.Proofs.Tryz.f25) 1) (fun ls => un_i ls fun k rr => un_i rr fun i rr => un_s rr fun v rr => un_b rr fun t59 rr => un_i rr fun t57 rr => un_i rr fun t58 rr => un_i rr fun high rr => un_s rr fun t55 rr => un_i rr fun t56 rr => un_i rr fun low rr => un_nil rr (again k i v t59 t57 t58 high t55 t56 low)) kx kr (instFr r18_May_14_T [.i k, .i i, .s v, .b t59, .i t57, .i t58, .i high, .s t55, .i t56, .i low]) (instH r18_May_14_T [.i k, .i i, .s v, .b t59, .i t57, .i t58, .i high, .s t55, .i t56, .i low]) := by kernel_rfl
theorem r18_May_9_e (L14 : ({β : Type} → (Nat → List Leaf → Option β) → (List Leaf → Option β) → Nat → Int → Int → ByteArray → Bool → Int → Int → Int → ByteArray → Int → Int → Option β)) (L9 : ({β : Type} → (Nat → List Leaf → Option β) → (List Leaf → Option β) → Nat → Int → ByteArray → Int → Int → Option β)) {α : Type} (kx : Nat → List Leaf → Option α) (kr : List Leaf → Option α) (again : Int → ByteArray → Int → Int → Option α) (i : Int) (v : ByteArray) (high : Int) (low : Int) : r18_May_9_B @L14 kx kr again i v high low = loopB G43 (r18_May_Λd @L14 @L9) true tab Go.Proofs.Tryz.f25.ntmps 0 r18_May_9_T [] r18_May_9_X r18_May_9_R (bodyAt (fb Go.Proofs.Tryz.f25) 0) (fun ls => un_i ls fun i rr => un_s rr fun v rr => un_i rr fun high rr => un_i rr fun low rr => un_nil rr (again i v high low)) kx kr (instFr r18_May_9_T [.i i, .s v, .i high, .i low]) (instH r18_May_9_T [.i i, .s v, .i high, .i low]) := by kernel_rfl
theorem r18_May_14_lok (E : Nat → Prop) (w0 ws : World) (ρ0 : List Pl) (hk : ρ0.length = 0) : LOk Go.Proofs.Tryz.prog 25 Go.Proofs.Tryz.f25 true E w0 ws Go.Proofs.Tryz.f25.ntmps ρ0 r18_May_Λ (bodyAt (fb Go.Proofs.Tryz.f25) 1) := by
  refine lok mixed tab_ok g43 Go.Proofs.Tryz.func25 hk (T := r18_May_14_T) (rt := r18_May_14_R) (cuts := []) (ex := r18_May_14_X) (top := top) (F := r18_May_14_F @r18_May_14_L) (fun fr H kx kr => by kernel_rfl) ?_ ?_ ?_
  · intro α ls' kx' kr' r' h'
    unfold r18_May_14_F at h'
    obtain ⟨k, l'1, rfl, h'1⟩ := un_i_some.1 h'
    obtain ⟨i, l'2, rfl, h'2⟩ := un_i_some.1 h'1
    obtain ⟨v, l'3, rfl, h'3⟩ := un_s_some.1 h'2
    obtain ⟨t59, l'4, rfl, h'4⟩ := un_b_some.1 h'3
    obtain ⟨t57, l'5, rfl, h'5⟩ := un_i_some.1 h'4
    obtain ⟨t58, l'6, rfl, h'6⟩ := un_i_some.1 h'5
    obtain ⟨high, l'7, rfl, h'7⟩ := un_i_some.1 h'6
    obtain ⟨t55, l'8, rfl, h'8⟩ := un_s_some.1 h'7
    obtain ⟨t56, l'9, rfl, h'9⟩ := un_i_some.1 h'8
    obtain ⟨low, l'10, rfl, h'10⟩ := un_i_some.1 h'9
    obtain ⟨rfl, h'Z⟩ := un_nil_some.1 h'10
    cases h'Z
  · intro α n' ls' kx' kr' r' h'
    unfold r18_May_14_F at h'
    obtain ⟨k, l'1, rfl, h'1⟩ := un_i_some.1 h'
    obtain ⟨i, l'2, rfl, h'2⟩ := un_i_some.1 h'1
    obtain ⟨v, l'3, rfl, h'3⟩ := un_s_some.1 h'2
    obtain ⟨t59, l'4, rfl, h'4⟩ := un_b_some.1 h'3
    obtain ⟨t57, l'5, rfl, h'5⟩ := un_i_some.1 h'4
    obtain ⟨t58, l'6, rfl, h'6⟩ := un_i_some.1 h'5
    obtain ⟨high, l'7, rfl, h'7⟩ := un_i_some.1 h'6
    obtain ⟨t55, l'8, rfl, h'8⟩ := un_s_some.1 h'7
    obtain ⟨t56, l'9, rfl, h'9⟩ := un_i_some.1 h'8
    obtain ⟨low, l'10, rfl, h'10⟩ := un_i_some.1 h'9
    obtain ⟨rfl, h'Z⟩ := un_nil_some.1 h'10
    exact (r18_May_14_e @r18_May_14_L @r18_May_9_L kx' kr' (r18_May_14_L kx' kr' n') k i v t59 t57 t58 high t55 t56 low).symm.trans h'Z
  · intro b' hb
    rw [show loopsOf (bodyAt (fb Go.Proofs.Tryz.f25) 1) = [] by kernel_rfl] at hb
    cases hb
theorem r18_May_9_lok (E : Nat → Prop) (w0 ws : World) (ρ0 : List Pl) (hk : ρ0.length = 0) : LOk Go.Proofs.Tryz.prog 25 Go.Proofs.Tryz.f25 true E w0 ws Go.Proofs.Tryz.f25.ntmps ρ0 r18_May_Λ (bodyAt (fb Go.Proofs.Tryz.f25) 0) := by
  refine lok mixed tab_ok g43 Go.Proofs.Tryz.func25 hk (T := r18_May_9_T) (rt := r18_May_9_R) (cuts := []) (ex := r18_May_9_X) (top := top) (F := r18_May_9_F @r18_May_9_L) (fun fr H kx kr => by kernel_rfl) ?_ ?_ ?_
  · intro α ls' kx' kr' r' h'
    unfold r18_May_9_F at h'
    obtain ⟨i, l'1, rfl, h'1⟩ := un_i_some.1 h'
    obtain ⟨v, l'2, rfl, h'2⟩ := un_s_some.1 h'1
    obtain ⟨high, l'3, rfl, h'3⟩ := un_i_some.1 h'2
    obtain ⟨low, l'4, rfl, h'4⟩ := un_i_some.1 h'3
    obtain ⟨rfl, h'Z⟩ := un_nil_some.1 h'4
    cases h'Z
  · intro α n' ls' kx' kr' r' h'
    unfold r18_May_9_F at h'
    obtain ⟨i, l'1, rfl, h'1⟩ := un_i_some.1 h'
    obtain ⟨v, l'2, rfl, h'2⟩ := un_s_some.1 h'1
    obtain ⟨high, l'3, rfl, h'3⟩ := un_i_some.1 h'2
    obtain ⟨low, l'4, rfl, h'4⟩ := un_i_some.1 h'3
    obtain ⟨rfl, h'Z⟩ := un_nil_some.1 h'4
    exact (r18_May_9_e @r18_May_14_L @r18_May_9_L kx' kr' (r18_May_9_L kx' kr' n') i v high low).symm.trans h'Z
  · intro b' hb
    rw [show loopsOf (bodyAt (fb Go.Proofs.Tryz.f25) 0) = [(bodyAt (fb Go.Proofs.Tryz.f25) 1)] by kernel_rfl] at hb
    simp only [List.mem_cons, List.mem_nil_iff, or_false] at hb
    rcases hb with rfl
    · exact r18_May_14_lok E w0 ws ρ0 hk
theorem r18_May_ed (L14 : ({β : Type} → (Nat → List Leaf → Option β) → (List Leaf → Option β) → Nat → Int → Int → ByteArray → Bool → Int → Int → Int → ByteArray → Int → Int → Option β)) (L9 : ({β : Type} → (Nat → List Leaf → Option β) → (List Leaf → Option β) → Nat → Int → ByteArray → Int → Int → Option β)) (f : Int) (v : ByteArray) : r18_May_d @L9 f v = den G43 (r18_May_Λd @L14 @L9) true tab Go.Proofs.Tryz.f25.ntmps (fun fr H => finish tab 0 Go.Proofs.Tryz.f25.results.toList r18_May_out [] fr H some) (fun _ _ _ => none) (fun fr H => finish tab 0 Go.Proofs.Tryz.f25.results.toList r18_May_out [] fr H some) 10000 [.code (fb Go.Proofs.Tryz.f25)] (instFr r18_May_in [.i f, .s v]) (instH r18_May_in [.i f, .s v]) := by kernel_rfl
theorem r18_May_e (f : Int) (v : ByteArray) : r18_May f v = den G43 r18_May_Λ true tab Go.Proofs.Tryz.f25.ntmps (fun fr H => finish tab 0 Go.Proofs.Tryz.f25.results.toList r18_May_out [] fr H some) (fun _ _ _ => none) (fun fr H => finish tab 0 Go.Proofs.Tryz.f25.results.toList r18_May_out [] fr H some) 10000 [.code (fb Go.Proofs.Tryz.f25)] (instFr r18_May_in [.i f, .s v]) (instH r18_May_in [.i f, .s v]) := r18_May_ed @r18_May_14_L @r18_May_9_L f v
def r18_May_S : List Leaf → Option (List Leaf) := fun ls => un_i ls fun f rr => un_s rr fun v rr => un_nil rr (r18_May f v)
def r18_May_SC : Tld := fun ls k' => un_i ls fun f rr => un_s rr fun v rr => un_nil rr (out (r18_May f v) k')
theorem r18_May_Se (f : Int) (v : ByteArray) : r18_May_S [.i f, .s v] = r18_May f v := by
  unfold r18_May_S
  simp only [un_i_ev, un_b_ev, un_s_ev, un_li_ev, un_lb_ev, un_ls_ev, un_nil_ev]
theorem r18_May_says : Says r18_May_SC r18_May_S := by
  intro β ls' k' r' h'
  unfold r18_May_SC at h'
  obtain ⟨f, l'1, rfl, h'1⟩ := un_i_some.1 h'
  obtain ⟨v, l'2, rfl, h'2⟩ := un_s_some.1 h'1
  obtain ⟨rfl, h'Z⟩ := un_nil_some.1 h'2
  obtain ⟨l', a', b'⟩ := out_some.1 h'Z
  exact ⟨l', (r18_May_Se f v).trans a', b'⟩
theorem r18_May_c : FnC Go.Proofs.Tryz.prog 25 true 2 0 r18_May_in r18_May_out r18_May_S := by
  refine fn_ok (Λ := r18_May_Λ) mixed tab_ok g43 Go.Proofs.Tryz.func25 (by kernel_rfl) (body := fb Go.Proofs.Tryz.f25) rfl (ts := Go.Proofs.Tryz.f25.results.toList) rfl (cuts := []) (by kernel_rfl) (Nat.le_of_ble_eq_true (by kernel_rfl)) (by kernel_rfl) (rt := .w (.at (.bool))) rfl ?_ ?_
  · intro ls' r' h'
    unfold r18_May_S at h'
    obtain ⟨f, l'1, rfl, h'1⟩ := un_i_some.1 h'
    obtain ⟨v, l'2, rfl, h'2⟩ := un_s_some.1 h'1
    obtain ⟨rfl, h'Z⟩ := un_nil_some.1 h'2
    exact (r18_May_e f v).symm.trans h'Z
  · intro E w0 ws ρ0 hk b hb
    rw [show loopsOf (fb Go.Proofs.Tryz.f25) = [(bodyAt (fb Go.Proofs.Tryz.f25) 0), (bodyAt (fb Go.Proofs.Tryz.f25) 1)] by kernel_rfl] at hb
    simp only [List.mem_cons, List.mem_nil_iff, or_false] at hb
    rcases hb with rfl | rfl
    · exact r18_May_9_lok E w0 ws ρ0 hk
    · exact r18_May_14_lok E w0 ws ρ0 hk
noncomputable def G44 : Env := G43.addP 25 2 r18_May_in r18_May_out r18_May_SC
theorem g44 : EnvOk Go.Proofs.Tryz.prog G44 := EnvOk.addP g43 r18_May_c r18_May_says

-- ### r18_has: function 55
def r18_has_in : Tm := ⟨[], [(0, .w (.at (.str))), (1, .w (.at (.int .u8)))]⟩
def r18_has_out : Tm := ⟨[], [(0, .w (.at (.bool)))]⟩
def r18_has_2_T : Tm := ⟨[], [(5, .w (.at (.int .i64))), (1, .w (.at (.int .u8))), (0, .w (.at (.str)))]⟩
def r18_has_2_X0 : Tm := ⟨[], []⟩
def r18_has_2_X : Exits := [(0, (r18_has_2_X0, []))]
def r18_has_2_R : Tm := ⟨[], [(4, .w (.at (.bool)))]⟩

def r18_has_Λd (L2 : ({β : Type} → (Nat → List Leaf → Option β) → (List Leaf → Option β) → Nat → Int → Int → ByteArray → Option β)) : Loops := ⟨fun b fr H kx kr => bif Nat.beq (rid b) 2 then loopE 0 r18_has_2_T [] r18_has_2_X r18_has_2_R (r18_has_2_F @L2 top) fr H kx kr else none⟩
def r18_has_Λ : Loops := r18_has_Λd @r18_has_2_L
theorem r18_has_2_e (L2 : ({β : Type} → (Nat → List Leaf → Option β) → (List Leaf → Option β) → Nat → Int → Int → ByteArray → Option β)) {α : Type} (kx : Nat → List Leaf → Option α) (kr : List Leaf → Option α) (again : Int → Int → ByteArray → Option α) (i : Int) (c : Int) (s : ByteArray) : r18_has_2_B  kx kr again i c s = loopB G44 (r18_has_Λd @L2) true tab Go.Proofs.Tryz.f55.ntmps 0 r18_has_2_T [] r18_has_2_X r18_has_2_R (bodyAt (fb Go.Proofs.Tryz.f55) 0) (fun ls => un_i ls fun i rr => un_i rr fun c rr => un_s rr fun s rr => un_nil rr (again i c s)) kx kr (instFr r18_has_2_T [.i i, .i c, .s s]) (instH r18_has_2_T [.i i, .i c, .s s]) := by kernel_rfl
theorem r18_has_2_lok (E : Nat → Prop) (w0 ws : World) (ρ0 : List Pl) (hk : ρ0.length = 0) : LOk Go.Proofs.Tryz.prog 55 Go.Proofs.Tryz.f55 true E w0 ws Go.Proofs.Tryz.f55.ntmps ρ0 r18_has_Λ (bodyAt (fb Go.Proofs.Tryz.f55) 0) := by
  refine lok mixed tab_ok g44 Go.Proofs.Tryz.func55 hk (T := r18_has_2_T) (rt := r18_has_2_R) (cuts := []) (ex := r18_has_2_X) (top := top) (F := r18_has_2_F @r18_has_2_L) (fun fr H kx kr => by kernel_rfl) ?_ ?_ ?_
  · intro α ls' kx' kr' r' h'
    unfold r18_has_2_F at h'
    obtain ⟨i, l'1, rfl, h'1⟩ := un_i_some.1 h'
    obtain ⟨c, l'2, rfl, h'2⟩ := un_i_some.1 h'1
    obtain ⟨s, l'3, rfl, h'3⟩ := un_s_some.1 h'2
    obtain ⟨rfl, h'Z⟩ := un_nil_some.1 h'3
    cases h'Z
  · intro α n' ls' kx' kr' r' h'
    unfold r18_has_2_F at h'
    obtain ⟨i, l'1, rfl, h'1⟩ := un_i_some.1 h'
    obtain ⟨c, l'2, rfl, h'2⟩ := un_i_some.1 h'1
    obtain ⟨s, l'3, rfl, h'3⟩ := un_s_some.1 h'2
    obtain ⟨rfl, h'Z⟩ := un_nil_some.1 h'3
    exact (r18_has_2_e @r18_has_2_L kx' kr' (r18_has_2_L kx' kr' n') i c s).symm.trans h'Z
  · intro b' hb
    rw [show loopsOf (bodyAt (fb Go.Proofs.Tryz.f55) 0) = [] by kernel_rfl] at hb
    cases hb
theorem r18_has_ed (L2 : ({β : Type} → (Nat → List Leaf → Option β) → (List Leaf → Option β) → Nat → Int → Int → ByteArray → Option β)) (s : ByteArray) (c : Int) : r18_has_d @L2 s c = den G44 (r18_has_Λd @L2) true tab Go.Proofs.Tryz.f55.ntmps (fun fr H => finish tab 0 Go.Proofs.Tryz.f55.results.toList r18_has_out [] fr H some) (fun _ _ _ => none) (fun fr H => finish tab 0 Go.Proofs.Tryz.f55.results.toList r18_has_out [] fr H some) 10000 [.code (fb Go.Proofs.Tryz.f55)] (instFr r18_has_in [.s s, .i c]) (instH r18_has_in [.s s, .i c]) := by kernel_rfl
theorem r18_has_e (s : ByteArray) (c : Int) : r18_has s c = den G44 r18_has_Λ true tab Go.Proofs.Tryz.f55.ntmps (fun fr H => finish tab 0 Go.Proofs.Tryz.f55.results.toList r18_has_out [] fr H some) (fun _ _ _ => none) (fun fr H => finish tab 0 Go.Proofs.Tryz.f55.results.toList r18_has_out [] fr H some) 10000 [.code (fb Go.Proofs.Tryz.f55)] (instFr r18_has_in [.s s, .i c]) (instH r18_has_in [.s s, .i c]) := r18_has_ed @r18_has_2_L s c
def r18_has_S : List Leaf → Option (List Leaf) := fun ls => un_s ls fun s rr => un_i rr fun c rr => un_nil rr (r18_has s c)
def r18_has_SC : Tld := fun ls k' => un_s ls fun s rr => un_i rr fun c rr => un_nil rr (out (r18_has s c) k')
theorem r18_has_Se (s : ByteArray) (c : Int) : r18_has_S [.s s, .i c] = r18_has s c := by
  unfold r18_has_S
  simp only [un_i_ev, un_b_ev, un_s_ev, un_li_ev, un_lb_ev, un_ls_ev, un_nil_ev]
theorem r18_has_says : Says r18_has_SC r18_has_S := by
  intro β ls' k' r' h'
  unfold r18_has_SC at h'
  obtain ⟨s, l'1, rfl, h'1⟩ := un_s_some.1 h'
  obtain ⟨c, l'2, rfl, h'2⟩ := un_i_some.1 h'1
  obtain ⟨rfl, h'Z⟩ := un_nil_some.1 h'2
  obtain ⟨l', a', b'⟩ := out_some.1 h'Z
  exact ⟨l', (r18_has_Se s c).trans a', b'⟩
theorem r18_has_c : FnC Go.Proofs.Tryz.prog 55 true 2 0 r18_has_in r18_has_out r18_has_S := by
  refine fn_ok (Λ := r18_has_Λ) mixed tab_ok g44 Go.Proofs.Tryz.func55 (by kernel_rfl) (body := fb Go.Proofs.Tryz.f55) rfl (ts := Go.Proofs.Tryz.f55.results.toList) rfl (cuts := []) (by kernel_rfl) (Nat.le_of_ble_eq_true (by kernel_rfl)) (by kernel_rfl) (rt := .w (.at (.bool))) rfl ?_ ?_
  · intro ls' r' h'
    unfold r18_has_S at h'
    obtain ⟨s, l'1, rfl, h'1⟩ := un_s_some.1 h'
    obtain ⟨c, l'2, rfl, h'2⟩ := un_i_some.1 h'1
    obtain ⟨rfl, h'Z⟩ := un_nil_some.1 h'2
    exact (r18_has_e s c).symm.trans h'Z
  · intro E w0 ws ρ0 hk b hb
    rw [show loopsOf (fb Go.Proofs.Tryz.f55) = [(bodyAt (fb Go.Proofs.Tryz.f55) 0)] by kernel_rfl] at hb
    simp only [List.mem_cons, List.mem_nil_iff, or_false] at hb
    rcases hb with rfl
    · exact r18_has_2_lok E w0 ws ρ0 hk
noncomputable def G45 : Env := G44.addP 55 2 r18_has_in r18_has_out r18_has_SC
theorem g45 : EnvOk Go.Proofs.Tryz.prog G45 := EnvOk.addP g44 r18_has_c r18_has_says

-- ### r18_Choose: function 29
def r18_Choose_in : Tm := ⟨[], [(0, .w (.at (.int .i64))), (1, .w (.at (.str))), (2, .w (.at (.str)))]⟩
def r18_Choose_out : Tm := ⟨[], [(0, .tup [.at (.str), .at (.bool)])]⟩
def r18_Choose_8_T : Tm := ⟨[], [(8, .w (.at (.int .i64))), (1, .w (.at (.str))), (2, .w (.at (.str)))]⟩
def r18_Choose_8_X0 : Tm := ⟨[], []⟩
def r18_Choose_8_X : Exits := [(0, (r18_Choose_8_X0, []))]
def r18_Choose_8_R : Tm := ⟨[], [(6, .w (.at (.str))), (7, .w (.at (.bool)))]⟩

def r18_Choose_Λd (L8 : ({β : Type} → (Nat → List Leaf → Option β) → (List Leaf → Option β) → Nat → Int → ByteArray → ByteArray → Option β)) : Loops := ⟨fun b fr H kx kr => bif Nat.beq (rid b) 8 then loopE 0 r18_Choose_8_T [] r18_Choose_8_X r18_Choose_8_R (r18_Choose_8_F @L8 top) fr H kx kr else none⟩
def r18_Choose_Λ : Loops := r18_Choose_Λd @r18_Choose_8_L
theorem r18_Choose_8_e (L8 : ({β : Type} → (Nat → List Leaf → Option β) → (List Leaf → Option β) → Nat → Int → ByteArray → ByteArray → Option β)) {α : Type} (kx : Nat → List Leaf → Option α) (kr : List Leaf → Option α) (again : Int → ByteArray → ByteArray → Option α) (i : Int) (server : ByteArray) (client : ByteArray) : r18_Choose_8_B  kx kr again i server client = loopB G45 (r18_Choose_Λd @L8) true tab Go.Proofs.Tryz.f29.ntmps 0 r18_Choose_8_T [] r18_Choose_8_X r18_Choose_8_R (bodyAt (fb Go.Proofs.Tryz.f29) 0) (fun ls => un_i ls fun i rr => un_s rr fun server rr => un_s rr fun client rr => un_nil rr (again i server client)) kx kr (instFr r18_Choose_8_T [.i i, .s server, .s client]) (instH r18_Choose_8_T [.i i, .s server, .s client]) := by kernel_rfl
theorem r18_Choose_8_lok (E : Nat → Prop) (w0 ws : World) (ρ0 : List Pl) (hk : ρ0.length = 0) : LOk Go.Proofs.Tryz.prog 29 Go.Proofs.Tryz.f29 true E w0 ws Go.Proofs.Tryz.f29.ntmps ρ0 r18_Choose_Λ (bodyAt (fb Go.Proofs.Tryz.f29) 0) := by
  refine lok mixed tab_ok g45 Go.Proofs.Tryz.func29 hk (T := r18_Choose_8_T) (rt := r18_Choose_8_R) (cuts := []) (ex := r18_Choose_8_X) (top := top) (F := r18_Choose_8_F @r18_Choose_8_L) (fun fr H kx kr => by kernel_rfl) ?_ ?_ ?_
  · intro α ls' kx' kr' r' h'
    unfold r18_Choose_8_F at h'
    obtain ⟨i, l'1, rfl, h'1⟩ := un_i_some.1 h'
    obtain ⟨server, l'2, rfl, h'2⟩ := un_s_some.1 h'1
    obtain ⟨client, l'3, rfl, h'3⟩ := un_s_some.1 h'2
    obtain ⟨rfl, h'Z⟩ := un_nil_some.1 h'3
    cases h'Z
  · intro α n' ls' kx' kr' r' h'
    unfold r18_Choose_8_F at h'
    obtain ⟨i, l'1, rfl, h'1⟩ := un_i_some.1 h'
    obtain ⟨server, l'2, rfl, h'2⟩ := un_s_some.1 h'1
    obtain ⟨client, l'3, rfl, h'3⟩ := un_s_some.1 h'2
    obtain ⟨rfl, h'Z⟩ := un_nil_some.1 h'3
    exact (r18_Choose_8_e @r18_Choose_8_L kx' kr' (r18_Choose_8_L kx' kr' n') i server client).symm.trans h'Z
  · intro b' hb
    rw [show loopsOf (bodyAt (fb Go.Proofs.Tryz.f29) 0) = [] by kernel_rfl] at hb
    cases hb
theorem r18_Choose_ed (L8 : ({β : Type} → (Nat → List Leaf → Option β) → (List Leaf → Option β) → Nat → Int → ByteArray → ByteArray → Option β)) (f : Int) (server : ByteArray) (client : ByteArray) : r18_Choose_d @L8 f server client = den G45 (r18_Choose_Λd @L8) true tab Go.Proofs.Tryz.f29.ntmps (fun fr H => finish tab 0 Go.Proofs.Tryz.f29.results.toList r18_Choose_out [] fr H some) (fun _ _ _ => none) (fun fr H => finish tab 0 Go.Proofs.Tryz.f29.results.toList r18_Choose_out [] fr H some) 10000 [.code (fb Go.Proofs.Tryz.f29)] (instFr r18_Choose_in [.i f, .s server, .s client]) (instH r18_Choose_in [.i f, .s server, .s client]) := by kernel_rfl
theorem r18_Choose_e (f : Int) (server : ByteArray) (client : ByteArray) : r18_Choose f server client = den G45 r18_Choose_Λ true tab Go.Proofs.Tryz.f29.ntmps (fun fr H => finish tab 0 Go.Proofs.Tryz.f29.results.toList r18_Choose_out [] fr H some) (fun _ _ _ => none) (fun fr H => finish tab 0 Go.Proofs.Tryz.f29.results.toList r18_Choose_out [] fr H some) 10000 [.code (fb Go.Proofs.Tryz.f29)] (instFr r18_Choose_in [.i f, .s server, .s client]) (instH r18_Choose_in [.i f, .s server, .s client]) := r18_Choose_ed @r18_Choose_8_L f server client
def r18_Choose_S : List Leaf → Option (List Leaf) := fun ls => un_i ls fun f rr => un_s rr fun server rr => un_s rr fun client rr => un_nil rr (r18_Choose f server client)
def r18_Choose_SC : Tld := fun ls k' => un_i ls fun f rr => un_s rr fun server rr => un_s rr fun client rr => un_nil rr (out (r18_Choose f server client) k')
theorem r18_Choose_Se (f : Int) (server : ByteArray) (client : ByteArray) : r18_Choose_S [.i f, .s server, .s client] = r18_Choose f server client := by
  unfold r18_Choose_S
  simp only [un_i_ev, un_b_ev, un_s_ev, un_li_ev, un_lb_ev, un_ls_ev, un_nil_ev]
theorem r18_Choose_says : Says r18_Choose_SC r18_Choose_S := by
  intro β ls' k' r' h'
  unfold r18_Choose_SC at h'
  obtain ⟨f, l'1, rfl, h'1⟩ := un_i_some.1 h'
  obtain ⟨server, l'2, rfl, h'2⟩ := un_s_some.1 h'1
  obtain ⟨client, l'3, rfl, h'3⟩ := un_s_some.1 h'2
  obtain ⟨rfl, h'Z⟩ := un_nil_some.1 h'3
  obtain ⟨l', a', b'⟩ := out_some.1 h'Z
  exact ⟨l', (r18_Choose_Se f server client).trans a', b'⟩
theorem r18_Choose_c : FnC Go.Proofs.Tryz.prog 29 true 3 0 r18_Choose_in r18_Choose_out r18_Choose_S := by
  refine fn_ok (Λ := r18_Choose_Λ) mixed tab_ok g45 Go.Proofs.Tryz.func29 (by kernel_rfl) (body := fb Go.Proofs.Tryz.f29) rfl (ts := Go.Proofs.Tryz.f29.results.toList) rfl (cuts := []) (by kernel_rfl) (Nat.le_of_ble_eq_true (by kernel_rfl)) (by kernel_rfl) (rt := .tup [.at (.str), .at (.bool)]) rfl ?_ ?_
  · intro ls' r' h'
    unfold r18_Choose_S at h'
    obtain ⟨f, l'1, rfl, h'1⟩ := un_i_some.1 h'
    obtain ⟨server, l'2, rfl, h'2⟩ := un_s_some.1 h'1
    obtain ⟨client, l'3, rfl, h'3⟩ := un_s_some.1 h'2
    obtain ⟨rfl, h'Z⟩ := un_nil_some.1 h'3
    exact (r18_Choose_e f server client).symm.trans h'Z
  · intro E w0 ws ρ0 hk b hb
    rw [show loopsOf (fb Go.Proofs.Tryz.f29) = [(bodyAt (fb Go.Proofs.Tryz.f29) 0)] by kernel_rfl] at hb
    simp only [List.mem_cons, List.mem_nil_iff, or_false] at hb
    rcases hb with rfl
    · exact r18_Choose_8_lok E w0 ws ρ0 hk
noncomputable def G46 : Env := G45.addP 29 3 r18_Choose_in r18_Choose_out r18_Choose_SC
theorem g46 : EnvOk Go.Proofs.Tryz.prog G46 := EnvOk.addP g45 r18_Choose_c r18_Choose_says
end Go.Sx.T

