import Derived.Test.YtdjnfdcoilgegaaGreatDoorYFeatSpec
import Derived.Test.YtdjnfdcoilgegaaGreatDoorYNew
set_option linter.all false
namespace Go.Sx.T
open Go Go.Sx Go.Proofs
set_option maxRecDepth 100000
noncomputable def G8 : Env := G7.addE 108 2 drop_in drop_out drop_SC
theorem g8 : EnvOk Go.Proofs.Tryz.prog G8 := EnvOk.addE g7 got_drop_c drop_says
noncomputable def G9 : Env := G8.addK 9 (.at (.raw (.bool true)))
theorem g9 : EnvOk Go.Proofs.Tryz.prog G9 := EnvOk.addK g8 beg_fn2 rfl beg_gives2
noncomputable def G10 : Env := G9.addE 16 1 nego_New_in nego_New_out nego_New_SC
theorem g10 : EnvOk Go.Proofs.Tryz.prog G10 := EnvOk.addE g9 nego_New_c nego_New_says

-- ### law1_Text: function 22
def law1_Text_in : Tm := ⟨[], [(0, .w (.at (.str))), (1, .w (.at (.int .i64)))]⟩
def law1_Text_out : Tm := ⟨[], [(0, .w (.at (.str)))]⟩

def law1_Text_Λd : Loops := Loops.none
def law1_Text_Λ : Loops := law1_Text_Λd 

theorem law1_Text_e (s : ByteArray) (n2 : Int) : law1_Text s n2 = den G10 law1_Text_Λ true tab Go.Proofs.Tryz.f22.ntmps (fun fr H => finish tab 0 Go.Proofs.Tryz.f22.results.toList law1_Text_out [] fr H some) (fun _ _ _ => none) (fun fr H => finish tab 0 Go.Proofs.Tryz.f22.results.toList law1_Text_out [] fr H some) 10000 [.code (fb Go.Proofs.Tryz.f22)] (instFr law1_Text_in [.s s, .i n2]) (instH law1_Text_in [.s s, .i n2]) := by kernel_rfl
def law1_Text_S : List Leaf → Option (List Leaf) := fun ls => un_s ls fun s rr => un_i rr fun n2 rr => un_nil rr (law1_Text s n2)
def law1_Text_SC : Tld := fun ls k' => un_s ls fun s rr => un_i rr fun n2 rr => un_nil rr (out (law1_Text s n2) k')
theorem law1_Text_Se (s : ByteArray) (n2 : Int) : law1_Text_S [.s s, .i n2] = law1_Text s n2 := by
  unfold law1_Text_S
  simp only [un_i_ev, un_b_ev, un_s_ev, un_li_ev, un_lb_ev, un_ls_ev, un_nil_ev]
theorem law1_Text_says : Says law1_Text_SC law1_Text_S := by
  intro β ls' k' r' h'
  unfold law1_Text_SC at h'
  obtain ⟨s, l'1, rfl, h'1⟩ := un_s_some.1 h'
  obtain ⟨n2, l'2, rfl, h'2⟩ := un_i_some.1 h'1
  obtain ⟨rfl, h'Z⟩ := un_nil_some.1 h'2
  obtain ⟨l', a', b'⟩ := out_some.1 h'Z
  exact ⟨l', (law1_Text_Se s n2).trans a', b'⟩
theorem law1_Text_c : FnC Go.Proofs.Tryz.prog 22 true 2 0 law1_Text_in law1_Text_out law1_Text_S := by
  refine fn_ok (Λ := law1_Text_Λ) mixed tab_ok g10 Go.Proofs.Tryz.func22 (by kernel_rfl) (body := fb Go.Proofs.Tryz.f22) rfl (ts := Go.Proofs.Tryz.f22.results.toList) rfl (cuts := []) (by kernel_rfl) (Nat.le_of_ble_eq_true (by kernel_rfl)) (by kernel_rfl) (rt := .w (.at (.str))) rfl ?_ ?_
  · intro ls' r' h'
    unfold law1_Text_S at h'
    obtain ⟨s, l'1, rfl, h'1⟩ := un_s_some.1 h'
    obtain ⟨n2, l'2, rfl, h'2⟩ := un_i_some.1 h'1
    obtain ⟨rfl, h'Z⟩ := un_nil_some.1 h'2
    exact (law1_Text_e s n2).symm.trans h'Z
  · intro E w0 ws ρ0 hk b hb
    rw [show loopsOf (fb Go.Proofs.Tryz.f22) = [] by kernel_rfl] at hb
    cases hb
noncomputable def G11 : Env := G10.addP 22 2 law1_Text_in law1_Text_out law1_Text_SC
theorem g11 : EnvOk Go.Proofs.Tryz.prog G11 := EnvOk.addP g10 law1_Text_c law1_Text_says

-- ### opt_Number: function 73
def opt_Number_in : Tm := ⟨[], [(0, .w (.at (.str)))]⟩
def opt_Number_out : Tm := ⟨[], [(0, .tup [.at (.int .u64), .at (.bool)])]⟩
def opt_Number_5_T : Tm := ⟨[], [(16, .w (.at (.int .i64))), (0, .w (.at (.str))), (4, .w (.at (.int .u64))), (15, .w (.at (.int .i64)))]⟩
def opt_Number_5_X0 : Tm := ⟨[], [(4, .w (.at (.int .u64)))]⟩
def opt_Number_5_X : Exits := [(0, (opt_Number_5_X0, []))]
def opt_Number_5_R : Tm := ⟨[], []⟩

def opt_Number_Λd (L5 : ({β : Type} → (Nat → List Leaf → Option β) → (List Leaf → Option β) → Nat → Int → ByteArray → Int → Int → Option β)) : Loops := ⟨fun b fr H kx kr => bif Nat.beq (rid b) 5 then loopE 0 opt_Number_5_T [] opt_Number_5_X opt_Number_5_R (opt_Number_5_F @L5 top) fr H kx kr else none⟩
def opt_Number_Λ : Loops := opt_Number_Λd @opt_Number_5_L
theorem opt_Number_5_e (L5 : ({β : Type} → (Nat → List Leaf → Option β) → (List Leaf → Option β) → Nat → Int → ByteArray → Int → Int → Option β)) {α : Type} (kx : Nat → List Leaf → Option α) (kr : List Leaf → Option α) (again : Int → ByteArray → Int → Int → Option α) (t16 : Int) (s : ByteArray) (n2 : Int) (t15 : Int) : opt_Number_5_B  kx kr again t16 s n2 t15 = loopB G11 (opt_Number_Λd @L5) true tab Go.Proofs.Tryz.f73.ntmps 0 opt_Number_5_T [] opt_Number_5_X opt_Number_5_R (bodyAt (fb Go.Proofs.Tryz.f73) 0) (fun ls => un_i ls fun t16 rr => un_s rr fun s rr => un_i rr fun n2 rr => un_i rr fun t15 rr => un_nil rr (again t16 s n2 t15)) kx kr (instFr opt_Number_5_T [.i t16, .s s, .i n2, .i t15]) (instH opt_Number_5_T [.i t16, .s s, .i n2, .i t15]) := by kernel_rfl
theorem opt_Number_5_lok (E : Nat → Prop) (w0 ws : World) (ρ0 : List Pl) (hk : ρ0.length = 0) : LOk Go.Proofs.Tryz.prog 73 Go.Proofs.Tryz.f73 true E w0 ws Go.Proofs.Tryz.f73.ntmps ρ0 opt_Number_Λ (bodyAt (fb Go.Proofs.Tryz.f73) 0) := by
  refine lok mixed tab_ok g11 Go.Proofs.Tryz.func73 hk (T := opt_Number_5_T) (rt := opt_Number_5_R) (cuts := []) (ex := opt_Number_5_X) (top := top) (F := opt_Number_5_F @opt_Number_5_L) (fun fr H kx kr => by kernel_rfl) ?_ ?_ ?_
  · intro α ls' kx' kr' r' h'
    unfold opt_Number_5_F at h'
    obtain ⟨t16, l'1, rfl, h'1⟩ := un_i_some.1 h'
    obtain ⟨s, l'2, rfl, h'2⟩ := un_s_some.1 h'1
    obtain ⟨n2, l'3, rfl, h'3⟩ := un_i_some.1 h'2
    obtain ⟨t15, l'4, rfl, h'4⟩ := un_i_some.1 h'3
    obtain ⟨rfl, h'Z⟩ := un_nil_some.1 h'4
    cases h'Z
  · intro α n' ls' kx' kr' r' h'
    unfold opt_Number_5_F at h'
    obtain ⟨t16, l'1, rfl, h'1⟩ := un_i_some.1 h'
    obtain ⟨s, l'2, rfl, h'2⟩ := un_s_some.1 h'1
    obtain ⟨n2, l'3, rfl, h'3⟩ := un_i_some.1 h'2
    obtain ⟨t15, l'4, rfl, h'4⟩ := un_i_some.1 h'3
    obtain ⟨rfl, h'Z⟩ := un_nil_some.1 h'4
    exact (opt_Number_5_e @opt_Number_5_L kx' kr' (opt_Number_5_L kx' kr' n') t16 s n2 t15).symm.trans h'Z
  · intro b' hb
    rw [show loopsOf (bodyAt (fb Go.Proofs.Tryz.f73) 0) = [] by kernel_rfl] at hb
    cases hb
theorem opt_Number_ed (L5 : ({β : Type} → (Nat → List Leaf → Option β) → (List Leaf → Option β) → Nat → Int → ByteArray → Int → Int → Option β)) (s : ByteArray) : opt_Number_d @L5 s = den G11 (opt_Number_Λd @L5) true tab Go.Proofs.Tryz.f73.ntmps (fun fr H => finish tab 0 Go.Proofs.Tryz.f73.results.toList opt_Number_out [] fr H some) (fun _ _ _ => none) (fun fr H => finish tab 0 Go.Proofs.Tryz.f73.results.toList opt_Number_out [] fr H some) 10000 [.code (fb Go.Proofs.Tryz.f73)] (instFr opt_Number_in [.s s]) (instH opt_Number_in [.s s]) := by kernel_rfl
theorem opt_Number_e (s : ByteArray) : opt_Number s = den G11 opt_Number_Λ true tab Go.Proofs.Tryz.f73.ntmps (fun fr H => finish tab 0 Go.Proofs.Tryz.f73.results.toList opt_Number_out [] fr H some) (fun _ _ _ => none) (fun fr H => finish tab 0 Go.Proofs.Tryz.f73.results.toList opt_Number_out [] fr H some) 10000 [.code (fb Go.Proofs.Tryz.f73)] (instFr opt_Number_in [.s s]) (instH opt_Number_in [.s s]) := opt_Number_ed @opt_Number_5_L s
def opt_Number_S : List Leaf → Option (List Leaf) := fun ls => un_s ls fun s rr => un_nil rr (opt_Number s)
def opt_Number_SC : Tld := fun ls k' => un_s ls fun s rr => un_nil rr (out (opt_Number s) k')
theorem opt_Number_Se (s : ByteArray) : opt_Number_S [.s s] = opt_Number s := by
  unfold opt_Number_S
  simp only [un_i_ev, un_b_ev, un_s_ev, un_li_ev, un_lb_ev, un_ls_ev, un_nil_ev]
theorem opt_Number_says : Says opt_Number_SC opt_Number_S := by
  intro β ls' k' r' h'
  unfold opt_Number_SC at h'
  obtain ⟨s, l'1, rfl, h'1⟩ := un_s_some.1 h'
  obtain ⟨rfl, h'Z⟩ := un_nil_some.1 h'1
  obtain ⟨l', a', b'⟩ := out_some.1 h'Z
  exact ⟨l', (opt_Number_Se s).trans a', b'⟩
theorem opt_Number_c : FnC Go.Proofs.Tryz.prog 73 true 1 0 opt_Number_in opt_Number_out opt_Number_S := by
  refine fn_ok (Λ := opt_Number_Λ) mixed tab_ok g11 Go.Proofs.Tryz.func73 (by kernel_rfl) (body := fb Go.Proofs.Tryz.f73) rfl (ts := Go.Proofs.Tryz.f73.results.toList) rfl (cuts := []) (by kernel_rfl) (Nat.le_of_ble_eq_true (by kernel_rfl)) (by kernel_rfl) (rt := .tup [.at (.int .u64), .at (.bool)]) rfl ?_ ?_
  · intro ls' r' h'
    unfold opt_Number_S at h'
    obtain ⟨s, l'1, rfl, h'1⟩ := un_s_some.1 h'
    obtain ⟨rfl, h'Z⟩ := un_nil_some.1 h'1
    exact (opt_Number_e s).symm.trans h'Z
  · intro E w0 ws ρ0 hk b hb
    rw [show loopsOf (fb Go.Proofs.Tryz.f73) = [(bodyAt (fb Go.Proofs.Tryz.f73) 0)] by kernel_rfl] at hb
    simp only [List.mem_cons, List.mem_nil_iff, or_false] at hb
    rcases hb with rfl
    · exact opt_Number_5_lok E w0 ws ρ0 hk
noncomputable def G12 : Env := G11.addP 73 1 opt_Number_in opt_Number_out opt_Number_SC
theorem g12 : EnvOk Go.Proofs.Tryz.prog G12 := EnvOk.addP g11 opt_Number_c opt_Number_says

-- ### feat_Number: function 49
def feat_Number_in : Tm := ⟨[], [(0, .w (.at (.str)))]⟩
def feat_Number_out : Tm := ⟨[], [(0, .tup [.at (.int .u64), .at (.bool)])]⟩

def feat_Number_Λd : Loops := Loops.none
def feat_Number_Λ : Loops := feat_Number_Λd 

theorem feat_Number_e (v : ByteArray) : feat_Number v = den G12 feat_Number_Λ true tab Go.Proofs.Tryz.f49.ntmps (fun fr H => finish tab 0 Go.Proofs.Tryz.f49.results.toList feat_Number_out [] fr H some) (fun _ _ _ => none) (fun fr H => finish tab 0 Go.Proofs.Tryz.f49.results.toList feat_Number_out [] fr H some) 10000 [.code (fb Go.Proofs.Tryz.f49)] (instFr feat_Number_in [.s v]) (instH feat_Number_in [.s v]) := by kernel_rfl
def feat_Number_S : List Leaf → Option (List Leaf) := fun ls => un_s ls fun v rr => un_nil rr (feat_Number v)
def feat_Number_SC : Tld := fun ls k' => un_s ls fun v rr => un_nil rr (out (feat_Number v) k')
theorem feat_Number_Se (v : ByteArray) : feat_Number_S [.s v] = feat_Number v := by
  unfold feat_Number_S
  simp only [un_i_ev, un_b_ev, un_s_ev, un_li_ev, un_lb_ev, un_ls_ev, un_nil_ev]
theorem feat_Number_says : Says feat_Number_SC feat_Number_S := by
  intro β ls' k' r' h'
  unfold feat_Number_SC at h'
  obtain ⟨v, l'1, rfl, h'1⟩ := un_s_some.1 h'
  obtain ⟨rfl, h'Z⟩ := un_nil_some.1 h'1
  obtain ⟨l', a', b'⟩ := out_some.1 h'Z
  exact ⟨l', (feat_Number_Se v).trans a', b'⟩
theorem feat_Number_c : FnC Go.Proofs.Tryz.prog 49 true 1 0 feat_Number_in feat_Number_out feat_Number_S := by
  refine fn_ok (Λ := feat_Number_Λ) mixed tab_ok g12 Go.Proofs.Tryz.func49 (by kernel_rfl) (body := fb Go.Proofs.Tryz.f49) rfl (ts := Go.Proofs.Tryz.f49.results.toList) rfl (cuts := []) (by kernel_rfl) (Nat.le_of_ble_eq_true (by kernel_rfl)) (by kernel_rfl) (rt := .tup [.at (.int .u64), .at (.bool)]) rfl ?_ ?_
  · intro ls' r' h'
    unfold feat_Number_S at h'
    obtain ⟨v, l'1, rfl, h'1⟩ := un_s_some.1 h'
    obtain ⟨rfl, h'Z⟩ := un_nil_some.1 h'1
    exact (feat_Number_e v).symm.trans h'Z
  · intro E w0 ws ρ0 hk b hb
    rw [show loopsOf (fb Go.Proofs.Tryz.f49) = [] by kernel_rfl] at hb
    cases hb
noncomputable def G13 : Env := G12.addP 49 1 feat_Number_in feat_Number_out feat_Number_SC
theorem g13 : EnvOk Go.Proofs.Tryz.prog G13 := EnvOk.addP g12 feat_Number_c feat_Number_says

-- ### feat_List: function 44
def feat_List_in : Tm := ⟨[], [(0, .w (.at (.int .i64)))]⟩
def feat_List_out : Tm := ⟨[], [(0, .w (.at (.bool)))]⟩

def feat_List_Λd : Loops := Loops.none
def feat_List_Λ : Loops := feat_List_Λd 

theorem feat_List_e (f : Int) : feat_List f = den G13 feat_List_Λ true tab Go.Proofs.Tryz.f44.ntmps (fun fr H => finish tab 0 Go.Proofs.Tryz.f44.results.toList feat_List_out [] fr H some) (fun _ _ _ => none) (fun fr H => finish tab 0 Go.Proofs.Tryz.f44.results.toList feat_List_out [] fr H some) 10000 [.code (fb Go.Proofs.Tryz.f44)] (instFr feat_List_in [.i f]) (instH feat_List_in [.i f]) := by kernel_rfl
def feat_List_S : List Leaf → Option (List Leaf) := fun ls => un_i ls fun f rr => un_nil rr (feat_List f)
def feat_List_SC : Tld := fun ls k' => un_i ls fun f rr => un_nil rr (out (feat_List f) k')
theorem feat_List_Se (f : Int) : feat_List_S [.i f] = feat_List f := by
  unfold feat_List_S
  simp only [un_i_ev, un_b_ev, un_s_ev, un_li_ev, un_lb_ev, un_ls_ev, un_nil_ev]
theorem feat_List_says : Says feat_List_SC feat_List_S := by
  intro β ls' k' r' h'
  unfold feat_List_SC at h'
  obtain ⟨f, l'1, rfl, h'1⟩ := un_i_some.1 h'
  obtain ⟨rfl, h'Z⟩ := un_nil_some.1 h'1
  obtain ⟨l', a', b'⟩ := out_some.1 h'Z
  exact ⟨l', (feat_List_Se f).trans a', b'⟩
theorem feat_List_c : FnC Go.Proofs.Tryz.prog 44 true 1 0 feat_List_in feat_List_out feat_List_S := by
  refine fn_ok (Λ := feat_List_Λ) mixed tab_ok g13 Go.Proofs.Tryz.func44 (by kernel_rfl) (body := fb Go.Proofs.Tryz.f44) rfl (ts := Go.Proofs.Tryz.f44.results.toList) rfl (cuts := []) (by kernel_rfl) (Nat.le_of_ble_eq_true (by kernel_rfl)) (by kernel_rfl) (rt := .w (.at (.bool))) rfl ?_ ?_
  · intro ls' r' h'
    unfold feat_List_S at h'
    obtain ⟨f, l'1, rfl, h'1⟩ := un_i_some.1 h'
    obtain ⟨rfl, h'Z⟩ := un_nil_some.1 h'1
    exact (feat_List_e f).symm.trans h'Z
  · intro E w0 ws ρ0 hk b hb
    rw [show loopsOf (fb Go.Proofs.Tryz.f44) = [] by kernel_rfl] at hb
    cases hb
noncomputable def G14 : Env := G13.addP 44 1 feat_List_in feat_List_out feat_List_SC
theorem g14 : EnvOk Go.Proofs.Tryz.prog G14 := EnvOk.addP g13 feat_List_c feat_List_says

-- ### feat_Known: function 68
def feat_Known_in : Tm := ⟨[], [(0, .w (.at (.int .i64)))]⟩
def feat_Known_out : Tm := ⟨[], [(0, .w (.at (.bool)))]⟩

def feat_Known_Λd : Loops := Loops.none
def feat_Known_Λ : Loops := feat_Known_Λd 

theorem feat_Known_e (f : Int) : feat_Known f = den G14 feat_Known_Λ true tab Go.Proofs.Tryz.f68.ntmps (fun fr H => finish tab 0 Go.Proofs.Tryz.f68.results.toList feat_Known_out [] fr H some) (fun _ _ _ => none) (fun fr H => finish tab 0 Go.Proofs.Tryz.f68.results.toList feat_Known_out [] fr H some) 10000 [.code (fb Go.Proofs.Tryz.f68)] (instFr feat_Known_in [.i f]) (instH feat_Known_in [.i f]) := by kernel_rfl
def feat_Known_S : List Leaf → Option (List Leaf) := fun ls => un_i ls fun f rr => un_nil rr (feat_Known f)
def feat_Known_SC : Tld := fun ls k' => un_i ls fun f rr => un_nil rr (out (feat_Known f) k')
theorem feat_Known_Se (f : Int) : feat_Known_S [.i f] = feat_Known f := by
  unfold feat_Known_S
  simp only [un_i_ev, un_b_ev, un_s_ev, un_li_ev, un_lb_ev, un_ls_ev, un_nil_ev]
theorem feat_Known_says : Says feat_Known_SC feat_Known_S := by
  intro β ls' k' r' h'
  unfold feat_Known_SC at h'
  obtain ⟨f, l'1, rfl, h'1⟩ := un_i_some.1 h'
  obtain ⟨rfl, h'Z⟩ := un_nil_some.1 h'1
  obtain ⟨l', a', b'⟩ := out_some.1 h'Z
  exact ⟨l', (feat_Known_Se f).trans a', b'⟩
theorem feat_Known_c : FnC Go.Proofs.Tryz.prog 68 true 1 0 feat_Known_in feat_Known_out feat_Known_S := by
  refine fn_ok (Λ := feat_Known_Λ) mixed tab_ok g14 Go.Proofs.Tryz.func68 (by kernel_rfl) (body := fb Go.Proofs.Tryz.f68) rfl (ts := Go.Proofs.Tryz.f68.results.toList) rfl (cuts := []) (by kernel_rfl) (Nat.le_of_ble_eq_true (by kernel_rfl)) (by kernel_rfl) (rt := .w (.at (.bool))) rfl ?_ ?_
  · intro ls' r' h'
    unfold feat_Known_S at h'
    obtain ⟨f, l'1, rfl, h'1⟩ := un_i_some.1 h'
    obtain ⟨rfl, h'Z⟩ := un_nil_some.1 h'1
    exact (feat_Known_e f).symm.trans h'Z
  · intro E w0 ws ρ0 hk b hb
    rw [show loopsOf (fb Go.Proofs.Tryz.f68) = [] by kernel_rfl] at hb
    cases hb
noncomputable def G15 : Env := G14.addP 68 1 feat_Known_in feat_Known_out feat_Known_SC
theorem g15 : EnvOk Go.Proofs.Tryz.prog G15 := EnvOk.addP g14 feat_Known_c feat_Known_says

-- ### feat_limits: function 50
def feat_limits_in : Tm := ⟨[], [(0, .w (.at (.int .i64)))]⟩
def feat_limits_out : Tm := ⟨[], [(0, .tup [.at (.int .i64), .at (.int .u8), .at (.int .u8)])]⟩

def feat_limits_Λd : Loops := Loops.none
def feat_limits_Λ : Loops := feat_limits_Λd 

theorem feat_limits_e (f : Int) : feat_limits f = den G15 feat_limits_Λ true tab Go.Proofs.Tryz.f50.ntmps (fun fr H => finish tab 0 Go.Proofs.Tryz.f50.results.toList feat_limits_out [] fr H some) (fun _ _ _ => none) (fun fr H => finish tab 0 Go.Proofs.Tryz.f50.results.toList feat_limits_out [] fr H some) 10000 [.code (fb Go.Proofs.Tryz.f50)] (instFr feat_limits_in [.i f]) (instH feat_limits_in [.i f]) := by kernel_rfl
def feat_limits_S : List Leaf → Option (List Leaf) := fun ls => un_i ls fun f rr => un_nil rr (feat_limits f)
def feat_limits_SC : Tld := fun ls k' => un_i ls fun f rr => un_nil rr (out (feat_limits f) k')
theorem feat_limits_Se (f : Int) : feat_limits_S [.i f] = feat_limits f := by
  unfold feat_limits_S
  simp only [un_i_ev, un_b_ev, un_s_ev, un_li_ev, un_lb_ev, un_ls_ev, un_nil_ev]
theorem feat_limits_says : Says feat_limits_SC feat_limits_S := by
  intro β ls' k' r' h'
  unfold feat_limits_SC at h'
  obtain ⟨f, l'1, rfl, h'1⟩ := un_i_some.1 h'
  obtain ⟨rfl, h'Z⟩ := un_nil_some.1 h'1
  obtain ⟨l', a', b'⟩ := out_some.1 h'Z
  exact ⟨l', (feat_limits_Se f).trans a', b'⟩
theorem feat_limits_c : FnC Go.Proofs.Tryz.prog 50 true 1 0 feat_limits_in feat_limits_out feat_limits_S := by
  refine fn_ok (Λ := feat_limits_Λ) mixed tab_ok g15 Go.Proofs.Tryz.func50 (by kernel_rfl) (body := fb Go.Proofs.Tryz.f50) rfl (ts := Go.Proofs.Tryz.f50.results.toList) rfl (cuts := []) (by kernel_rfl) (Nat.le_of_ble_eq_true (by kernel_rfl)) (by kernel_rfl) (rt := .tup [.at (.int .i64), .at (.int .u8), .at (.int .u8)]) rfl ?_ ?_
  · intro ls' r' h'
    unfold feat_limits_S at h'
    obtain ⟨f, l'1, rfl, h'1⟩ := un_i_some.1 h'
    obtain ⟨rfl, h'Z⟩ := un_nil_some.1 h'1
    exact (feat_limits_e f).symm.trans h'Z
  · intro E w0 ws ρ0 hk b hb
    rw [show loopsOf (fb Go.Proofs.Tryz.f50) = [] by kernel_rfl] at hb
    cases hb
noncomputable def G16 : Env := G15.addP 50 1 feat_limits_in feat_limits_out feat_limits_SC
theorem g16 : EnvOk Go.Proofs.Tryz.prog G16 := EnvOk.addP g15 feat_limits_c feat_limits_says

-- ### sl_IndexByte: function 74
def sl_IndexByte_in : Tm := ⟨[], [(0, .w (.at (.str))), (1, .w (.at (.int .u8)))]⟩
def sl_IndexByte_out : Tm := ⟨[], [(0, .w (.at (.int .i64)))]⟩

def sl_IndexByte_Λd : Loops := Loops.none
def sl_IndexByte_Λ : Loops := sl_IndexByte_Λd 

theorem sl_IndexByte_e (s : ByteArray) (c : Int) : sl_IndexByte s c = den G16 sl_IndexByte_Λ true tab Go.Proofs.Tryz.f74.ntmps (fun fr H => finish tab 0 Go.Proofs.Tryz.f74.results.toList sl_IndexByte_out [] fr H some) (fun _ _ _ => none) (fun fr H => finish tab 0 Go.Proofs.Tryz.f74.results.toList sl_IndexByte_out [] fr H some) 10000 [.code (fb Go.Proofs.Tryz.f74)] (instFr sl_IndexByte_in [.s s, .i c]) (instH sl_IndexByte_in [.s s, .i c]) := by kernel_rfl
def sl_IndexByte_S : List Leaf → Option (List Leaf) := fun ls => un_s ls fun s rr => un_i rr fun c rr => un_nil rr (sl_IndexByte s c)
def sl_IndexByte_SC : Tld := fun ls k' => un_s ls fun s rr => un_i rr fun c rr => un_nil rr (out (sl_IndexByte s c) k')
theorem sl_IndexByte_Se (s : ByteArray) (c : Int) : sl_IndexByte_S [.s s, .i c] = sl_IndexByte s c := by
  unfold sl_IndexByte_S
  simp only [un_i_ev, un_b_ev, un_s_ev, un_li_ev, un_lb_ev, un_ls_ev, un_nil_ev]
theorem sl_IndexByte_says : Says sl_IndexByte_SC sl_IndexByte_S := by
  intro β ls' k' r' h'
  unfold sl_IndexByte_SC at h'
  obtain ⟨s, l'1, rfl, h'1⟩ := un_s_some.1 h'
  obtain ⟨c, l'2, rfl, h'2⟩ := un_i_some.1 h'1
  obtain ⟨rfl, h'Z⟩ := un_nil_some.1 h'2
  obtain ⟨l', a', b'⟩ := out_some.1 h'Z
  exact ⟨l', (sl_IndexByte_Se s c).trans a', b'⟩
theorem sl_IndexByte_c : FnC Go.Proofs.Tryz.prog 74 true 2 0 sl_IndexByte_in sl_IndexByte_out sl_IndexByte_S := by
  refine fn_ok (Λ := sl_IndexByte_Λ) mixed tab_ok g16 Go.Proofs.Tryz.func74 (by kernel_rfl) (body := fb Go.Proofs.Tryz.f74) rfl (ts := Go.Proofs.Tryz.f74.results.toList) rfl (cuts := []) (by kernel_rfl) (Nat.le_of_ble_eq_true (by kernel_rfl)) (by kernel_rfl) (rt := .w (.at (.int .i64))) rfl ?_ ?_
  · intro ls' r' h'
    unfold sl_IndexByte_S at h'
    obtain ⟨s, l'1, rfl, h'1⟩ := un_s_some.1 h'
    obtain ⟨c, l'2, rfl, h'2⟩ := un_i_some.1 h'1
    obtain ⟨rfl, h'Z⟩ := un_nil_some.1 h'2
    exact (sl_IndexByte_e s c).symm.trans h'Z
  · intro E w0 ws ρ0 hk b hb
    rw [show loopsOf (fb Go.Proofs.Tryz.f74) = [] by kernel_rfl] at hb
    cases hb
noncomputable def G17 : Env := G16.addP 74 2 sl_IndexByte_in sl_IndexByte_out sl_IndexByte_SC
theorem g17 : EnvOk Go.Proofs.Tryz.prog G17 := EnvOk.addP g16 sl_IndexByte_c sl_IndexByte_says

-- ### str_IndexByte: function 51
def str_IndexByte_in : Tm := ⟨[], [(0, .w (.at (.str))), (1, .w (.at (.int .u8)))]⟩
def str_IndexByte_out : Tm := ⟨[], [(0, .w (.at (.int .i64)))]⟩

def str_IndexByte_Λd : Loops := Loops.none
def str_IndexByte_Λ : Loops := str_IndexByte_Λd 

theorem str_IndexByte_e (s : ByteArray) (c : Int) : str_IndexByte s c = den G17 str_IndexByte_Λ true tab Go.Proofs.Tryz.f51.ntmps (fun fr H => finish tab 0 Go.Proofs.Tryz.f51.results.toList str_IndexByte_out [] fr H some) (fun _ _ _ => none) (fun fr H => finish tab 0 Go.Proofs.Tryz.f51.results.toList str_IndexByte_out [] fr H some) 10000 [.code (fb Go.Proofs.Tryz.f51)] (instFr str_IndexByte_in [.s s, .i c]) (instH str_IndexByte_in [.s s, .i c]) := by kernel_rfl
def str_IndexByte_S : List Leaf → Option (List Leaf) := fun ls => un_s ls fun s rr => un_i rr fun c rr => un_nil rr (str_IndexByte s c)
def str_IndexByte_SC : Tld := fun ls k' => un_s ls fun s rr => un_i rr fun c rr => un_nil rr (out (str_IndexByte s c) k')
theorem str_IndexByte_Se (s : ByteArray) (c : Int) : str_IndexByte_S [.s s, .i c] = str_IndexByte s c := by
  unfold str_IndexByte_S
  simp only [un_i_ev, un_b_ev, un_s_ev, un_li_ev, un_lb_ev, un_ls_ev, un_nil_ev]
theorem str_IndexByte_says : Says str_IndexByte_SC str_IndexByte_S := by
  intro β ls' k' r' h'
  unfold str_IndexByte_SC at h'
  obtain ⟨s, l'1, rfl, h'1⟩ := un_s_some.1 h'
  obtain ⟨c, l'2, rfl, h'2⟩ := un_i_some.1 h'1
  obtain ⟨rfl, h'Z⟩ := un_nil_some.1 h'2
  obtain ⟨l', a', b'⟩ := out_some.1 h'Z
  exact ⟨l', (str_IndexByte_Se s c).trans a', b'⟩
theorem str_IndexByte_c : FnC Go.Proofs.Tryz.prog 51 true 2 0 str_IndexByte_in str_IndexByte_out str_IndexByte_S := by
  refine fn_ok (Λ := str_IndexByte_Λ) mixed tab_ok g17 Go.Proofs.Tryz.func51 (by kernel_rfl) (body := fb Go.Proofs.Tryz.f51) rfl (ts := Go.Proofs.Tryz.f51.results.toList) rfl (cuts := []) (by kernel_rfl) (Nat.le_of_ble_eq_true (by kernel_rfl)) (by kernel_rfl) (rt := .w (.at (.int .i64))) rfl ?_ ?_
  · intro ls' r' h'
    unfold str_IndexByte_S at h'
    obtain ⟨s, l'1, rfl, h'1⟩ := un_s_some.1 h'
    obtain ⟨c, l'2, rfl, h'2⟩ := un_i_some.1 h'1
    obtain ⟨rfl, h'Z⟩ := un_nil_some.1 h'2
    exact (str_IndexByte_e s c).symm.trans h'Z
  · intro E w0 ws ρ0 hk b hb
    rw [show loopsOf (fb Go.Proofs.Tryz.f51) = [] by kernel_rfl] at hb
    cases hb
noncomputable def G18 : Env := G17.addP 51 2 str_IndexByte_in str_IndexByte_out str_IndexByte_SC
theorem g18 : EnvOk Go.Proofs.Tryz.prog G18 := EnvOk.addP g17 str_IndexByte_c str_IndexByte_says

-- ### feat_May: function 24
def feat_May_in : Tm := ⟨[], [(0, .w (.at (.int .i64))), (1, .w (.at (.str)))]⟩
def feat_May_out : Tm := ⟨[], [(0, .w (.at (.bool)))]⟩
def feat_May_8_T : Tm := ⟨[], [(51, .w (.at (.int .i64))), (1, .w (.at (.str))), (9, .w (.at (.int .u8))), (8, .w (.at (.int .u8))), (50, .w (.at (.int .i64)))]⟩
def feat_May_8_X0 : Tm := ⟨[], []⟩
def feat_May_8_X : Exits := [(0, (feat_May_8_X0, []))]
def feat_May_8_R : Tm := ⟨[], [(4, .w (.at (.bool)))]⟩

def feat_May_Λd (L8 : ({β : Type} → (Nat → List Leaf → Option β) → (List Leaf → Option β) → Nat → Int → ByteArray → Int → Int → Int → Option β)) : Loops := ⟨fun b fr H kx kr => bif Nat.beq (rid b) 8 then loopE 0 feat_May_8_T [] feat_May_8_X feat_May_8_R (feat_May_8_F @L8 top) fr H kx kr else none⟩
def feat_May_Λ : Loops := feat_May_Λd @feat_May_8_L
theorem feat_May_8_e (L8 : ({β : Type} → (Nat → List Leaf → Option β) → (List Leaf → Option β) → Nat → Int → ByteArray → Int → Int → Int → Option β)) {α : Type} (kx : Nat → List Leaf → Option α) (kr : List Leaf → Option α) (again : Int → ByteArray → Int → Int → Int → Option α) (t51 : Int) (v : ByteArray) (high : Int) (low : Int) (t50 : Int) : feat_May_8_B  kx kr again t51 v high low t50 = loopB G18 (feat_May_Λd @L8) true tab Go.Proofs.Tryz.f24.ntmps 0 feat_May_8_T [] feat_May_8_X feat_May_8_R (bodyAt (fb Go.Proofs.Tryz.f24) 0) (fun ls => un_i ls fun t51 rr => un_s rr fun v rr => un_i rr fun high rr => un_i rr fun low rr => un_i rr fun t50 rr => un_nil rr (again t51 v high low t50)) kx kr (instFr feat_May_8_T [.i t51, .s v, .i high, .i low, .i t50]) (instH feat_May_8_T [.i t51, .s v, .i high, .i low, .i t50]) := by kernel_rfl
theorem feat_May_8_lok (E : Nat → Prop) (w0 ws : World) (ρ0 : List Pl) (hk : ρ0.length = 0) : LOk Go.Proofs.Tryz.prog 24 Go.Proofs.Tryz.f24 true E w0 ws Go.Proofs.Tryz.f24.ntmps ρ0 feat_May_Λ (bodyAt (fb Go.Proofs.Tryz.f24) 0) := by
  refine lok mixed tab_ok g18 Go.Proofs.Tryz.func24 hk (T := feat_May_8_T) (rt := feat_May_8_R) (cuts := []) (ex := feat_May_8_X) (top := top) (F := feat_May_8_F @feat_May_8_L) (fun fr H kx kr => by kernel_rfl) ?_ ?_ ?_
  · intro α ls' kx' kr' r' h'
    unfold feat_May_8_F at h'
    obtain ⟨t51, l'1, rfl, h'1⟩ := un_i_some.1 h'
    obtain ⟨v, l'2, rfl, h'2⟩ := un_s_some.1 h'1
    obtain ⟨high, l'3, rfl, h'3⟩ := un_i_some.1 h'2
    obtain ⟨low, l'4, rfl, h'4⟩ := un_i_some.1 h'3
    obtain ⟨t50, l'5, rfl, h'5⟩ := un_i_some.1 h'4
    obtain ⟨rfl, h'Z⟩ := un_nil_some.1 h'5
    cases h'Z
  · intro α n' ls' kx' kr' r' h'
    unfold feat_May_8_F at h'
    obtain ⟨t51, l'1, rfl, h'1⟩ := un_i_some.1 h'
    obtain ⟨v, l'2, rfl, h'2⟩ := un_s_some.1 h'1
    obtain ⟨high, l'3, rfl, h'3⟩ := un_i_some.1 h'2
    obtain ⟨low, l'4, rfl, h'4⟩ := un_i_some.1 h'3
    obtain ⟨t50, l'5, rfl, h'5⟩ := un_i_some.1 h'4
    obtain ⟨rfl, h'Z⟩ := un_nil_some.1 h'5
    exact (feat_May_8_e @feat_May_8_L kx' kr' (feat_May_8_L kx' kr' n') t51 v high low t50).symm.trans h'Z
  · intro b' hb
    rw [show loopsOf (bodyAt (fb Go.Proofs.Tryz.f24) 0) = [] by kernel_rfl] at hb
    cases hb
theorem feat_May_ed (L8 : ({β : Type} → (Nat → List Leaf → Option β) → (List Leaf → Option β) → Nat → Int → ByteArray → Int → Int → Int → Option β)) (f : Int) (v : ByteArray) : feat_May_d @L8 f v = den G18 (feat_May_Λd @L8) true tab Go.Proofs.Tryz.f24.ntmps (fun fr H => finish tab 0 Go.Proofs.Tryz.f24.results.toList feat_May_out [] fr H some) (fun _ _ _ => none) (fun fr H => finish tab 0 Go.Proofs.Tryz.f24.results.toList feat_May_out [] fr H some) 10000 [.code (fb Go.Proofs.Tryz.f24)] (instFr feat_May_in [.i f, .s v]) (instH feat_May_in [.i f, .s v]) := by kernel_rfl
theorem feat_May_e (f : Int) (v : ByteArray) : feat_May f v = den G18 feat_May_Λ true tab Go.Proofs.Tryz.f24.ntmps (fun fr H => finish tab 0 Go.Proofs.Tryz.f24.results.toList feat_May_out [] fr H some) (fun _ _ _ => none) (fun fr H => finish tab 0 Go.Proofs.Tryz.f24.results.toList feat_May_out [] fr H some) 10000 [.code (fb Go.Proofs.Tryz.f24)] (instFr feat_May_in [.i f, .s v]) (instH feat_May_in [.i f, .s v]) := feat_May_ed @feat_May_8_L f v
def feat_May_S : List Leaf → Option (List Leaf) := fun ls => un_i ls fun f rr => un_s rr fun v rr => un_nil rr (feat_May f v)
def feat_May_SC : Tld := fun ls k' => un_i ls fun f rr => un_s rr fun v rr => un_nil rr (out (feat_May f v) k')
theorem feat_May_Se (f : Int) (v : ByteArray) : feat_May_S [.i f, .s v] = feat_May f v := by
  unfold feat_May_S
  simp only [un_i_ev, un_b_ev, un_s_ev, un_li_ev, un_lb_ev, un_ls_ev, un_nil_ev]
theorem feat_May_says : Says feat_May_SC feat_May_S := by
  intro β ls' k' r' h'
  unfold feat_May_SC at h'
  obtain ⟨f, l'1, rfl, h'1⟩ := un_i_some.1 h'
  obtain ⟨v, l'2, rfl, h'2⟩ := un_s_some.1 h'1
  obtain ⟨rfl, h'Z⟩ := un_nil_some.1 h'2
  obtain ⟨l', a', b'⟩ := out_some.1 h'Z
  exact ⟨l', (feat_May_Se f v).trans a', b'⟩
theorem feat_May_c : FnC Go.Proofs.Tryz.prog 24 true 2 0 feat_May_in feat_May_out feat_May_S := by
  refine fn_ok (Λ := feat_May_Λ) mixed tab_ok g18 Go.Proofs.Tryz.func24 (by kernel_rfl) (body := fb Go.Proofs.Tryz.f24) rfl (ts := Go.Proofs.Tryz.f24.results.toList) rfl (cuts := []) (by kernel_rfl) (Nat.le_of_ble_eq_true (by kernel_rfl)) (by kernel_rfl) (rt := .w (.at (.bool))) rfl ?_ ?_
  · intro ls' r' h'
    unfold feat_May_S at h'
    obtain ⟨f, l'1, rfl, h'1⟩ := un_i_some.1 h'
    obtain ⟨v, l'2, rfl, h'2⟩ := un_s_some.1 h'1
    obtain ⟨rfl, h'Z⟩ := un_nil_some.1 h'2
    exact (feat_May_e f v).symm.trans h'Z
  · intro E w0 ws ρ0 hk b hb
    rw [show loopsOf (fb Go.Proofs.Tryz.f24) = [(bodyAt (fb Go.Proofs.Tryz.f24) 0)] by kernel_rfl] at hb
    simp only [List.mem_cons, List.mem_nil_iff, or_false] at hb
    rcases hb with rfl
    · exact feat_May_8_lok E w0 ws ρ0 hk
noncomputable def G19 : Env := G18.addP 24 2 feat_May_in feat_May_out feat_May_SC
theorem g19 : EnvOk Go.Proofs.Tryz.prog G19 := EnvOk.addP g18 feat_May_c feat_May_says

-- ### feat_Choose: function 37
def feat_Choose_in : Tm := ⟨[], [(0, .w (.at (.int .i64))), (1, .w (.at (.str))), (2, .w (.at (.str)))]⟩
def feat_Choose_out : Tm := ⟨[], [(0, .tup [.at (.str), .at (.bool)])]⟩
def feat_Choose_8_T : Tm := ⟨[], [(1, .w (.at (.str))), (28, .w (.at (.int .i64))), (2, .w (.at (.str))), (27, .w (.at (.int .i64)))]⟩
def feat_Choose_8_X0 : Tm := ⟨[], []⟩
def feat_Choose_8_X : Exits := [(0, (feat_Choose_8_X0, []))]
def feat_Choose_8_R : Tm := ⟨[], [(6, .w (.at (.str))), (7, .w (.at (.bool)))]⟩

def feat_Choose_Λd (L8 : ({β : Type} → (Nat → List Leaf → Option β) → (List Leaf → Option β) → Nat → ByteArray → Int → ByteArray → Int → Option β)) : Loops := ⟨fun b fr H kx kr => bif Nat.beq (rid b) 8 then loopE 0 feat_Choose_8_T [] feat_Choose_8_X feat_Choose_8_R (feat_Choose_8_F @L8 top) fr H kx kr else none⟩
def feat_Choose_Λ : Loops := feat_Choose_Λd @feat_Choose_8_L
theorem feat_Choose_8_e (L8 : ({β : Type} → (Nat → List Leaf → Option β) → (List Leaf → Option β) → Nat → ByteArray → Int → ByteArray → Int → Option β)) {α : Type} (kx : Nat → List Leaf → Option α) (kr : List Leaf → Option α) (again : ByteArray → Int → ByteArray → Int → Option α) (server : ByteArray) (t28 : Int) (client : ByteArray) (t27 : Int) : feat_Choose_8_B  kx kr again server t28 client t27 = loopB G19 (feat_Choose_Λd @L8) true tab Go.Proofs.Tryz.f37.ntmps 0 feat_Choose_8_T [] feat_Choose_8_X feat_Choose_8_R (bodyAt (fb Go.Proofs.Tryz.f37) 0) (fun ls => un_s ls fun server rr => un_i rr fun t28 rr => un_s rr fun client rr => un_i rr fun t27 rr => un_nil rr (again server t28 client t27)) kx kr (instFr feat_Choose_8_T [.s server, .i t28, .s client, .i t27]) (instH feat_Choose_8_T [.s server, .i t28, .s client, .i t27]) := by kernel_rfl
theorem feat_Choose_8_lok (E : Nat → Prop) (w0 ws : World) (ρ0 : List Pl) (hk : ρ0.length = 0) : LOk Go.Proofs.Tryz.prog 37 Go.Proofs.Tryz.f37 true E w0 ws Go.Proofs.Tryz.f37.ntmps ρ0 feat_Choose_Λ (bodyAt (fb Go.Proofs.Tryz.f37) 0) := by
  refine lok mixed tab_ok g19 Go.Proofs.Tryz.func37 hk (T := feat_Choose_8_T) (rt := feat_Choose_8_R) (cuts := []) (ex := feat_Choose_8_X) (top := top) (F := feat_Choose_8_F @feat_Choose_8_L) (fun fr H kx kr => by kernel_rfl) ?_ ?_ ?_
  · intro α ls' kx' kr' r' h'
    unfold feat_Choose_8_F at h'
    obtain ⟨server, l'1, rfl, h'1⟩ := un_s_some.1 h'
    obtain ⟨t28, l'2, rfl, h'2⟩ := un_i_some.1 h'1
    obtain ⟨client, l'3, rfl, h'3⟩ := un_s_some.1 h'2
    obtain ⟨t27, l'4, rfl, h'4⟩ := un_i_some.1 h'3
    obtain ⟨rfl, h'Z⟩ := un_nil_some.1 h'4
    cases h'Z
  · intro α n' ls' kx' kr' r' h'
    unfold feat_Choose_8_F at h'
    obtain ⟨server, l'1, rfl, h'1⟩ := un_s_some.1 h'
    obtain ⟨t28, l'2, rfl, h'2⟩ := un_i_some.1 h'1
    obtain ⟨client, l'3, rfl, h'3⟩ := un_s_some.1 h'2
    obtain ⟨t27, l'4, rfl, h'4⟩ := un_i_some.1 h'3
    obtain ⟨rfl, h'Z⟩ := un_nil_some.1 h'4
    exact (feat_Choose_8_e @feat_Choose_8_L kx' kr' (feat_Choose_8_L kx' kr' n') server t28 client t27).symm.trans h'Z
  · intro b' hb
    rw [show loopsOf (bodyAt (fb Go.Proofs.Tryz.f37) 0) = [] by kernel_rfl] at hb
    cases hb
theorem feat_Choose_ed (L8 : ({β : Type} → (Nat → List Leaf → Option β) → (List Leaf → Option β) → Nat → ByteArray → Int → ByteArray → Int → Option β)) (f : Int) (server : ByteArray) (client : ByteArray) : feat_Choose_d @L8 f server client = den G19 (feat_Choose_Λd @L8) true tab Go.Proofs.Tryz.f37.ntmps (fun fr H => finish tab 0 Go.Proofs.Tryz.f37.results.toList feat_Choose_out [] fr H some) (fun _ _ _ => none) (fun fr H => finish tab 0 Go.Proofs.Tryz.f37.results.toList feat_Choose_out [] fr H some) 10000 [.code (fb Go.Proofs.Tryz.f37)] (instFr feat_Choose_in [.i f, .s server, .s client]) (instH feat_Choose_in [.i f, .s server, .s client]) := by kernel_rfl
theorem feat_Choose_e (f : Int) (server : ByteArray) (client : ByteArray) : feat_Choose f server client = den G19 feat_Choose_Λ true tab Go.Proofs.Tryz.f37.ntmps (fun fr H => finish tab 0 Go.Proofs.Tryz.f37.results.toList feat_Choose_out [] fr H some) (fun _ _ _ => none) (fun fr H => finish tab 0 Go.Proofs.Tryz.f37.results.toList feat_Choose_out [] fr H some) 10000 [.code (fb Go.Proofs.Tryz.f37)] (instFr feat_Choose_in [.i f, .s server, .s client]) (instH feat_Choose_in [.i f, .s server, .s client]) := feat_Choose_ed @feat_Choose_8_L f server client
def feat_Choose_S : List Leaf → Option (List Leaf) := fun ls => un_i ls fun f rr => un_s rr fun server rr => un_s rr fun client rr => un_nil rr (feat_Choose f server client)
def feat_Choose_SC : Tld := fun ls k' => un_i ls fun f rr => un_s rr fun server rr => un_s rr fun client rr => un_nil rr (out (feat_Choose f server client) k')
theorem feat_Choose_Se (f : Int) (server : ByteArray) (client : ByteArray) : feat_Choose_S [.i f, .s server, .s client] = feat_Choose f server client := by
  unfold feat_Choose_S
  simp only [un_i_ev, un_b_ev, un_s_ev, un_li_ev, un_lb_ev, un_ls_ev, un_nil_ev]
theorem feat_Choose_says : Says feat_Choose_SC feat_Choose_S := by
  intro β ls' k' r' h'
  unfold feat_Choose_SC at h'
  obtain ⟨f, l'1, rfl, h'1⟩ := un_i_some.1 h'
  obtain ⟨server, l'2, rfl, h'2⟩ := un_s_some.1 h'1
  obtain ⟨client, l'3, rfl, h'3⟩ := un_s_some.1 h'2
  obtain ⟨rfl, h'Z⟩ := un_nil_some.1 h'3
  obtain ⟨l', a', b'⟩ := out_some.1 h'Z
  exact ⟨l', (feat_Choose_Se f server client).trans a', b'⟩
theorem feat_Choose_c : FnC Go.Proofs.Tryz.prog 37 true 3 0 feat_Choose_in feat_Choose_out feat_Choose_S := by
  refine fn_ok (Λ := feat_Choose_Λ) mixed tab_ok g19 Go.Proofs.Tryz.func37 (by kernel_rfl) (body := fb Go.Proofs.Tryz.f37) rfl (ts := Go.Proofs.Tryz.f37.results.toList) rfl (cuts := []) (by kernel_rfl) (Nat.le_of_ble_eq_true (by kernel_rfl)) (by kernel_rfl) (rt := .tup [.at (.str), .at (.bool)]) rfl ?_ ?_
  · intro ls' r' h'
    unfold feat_Choose_S at h'
    obtain ⟨f, l'1, rfl, h'1⟩ := un_i_some.1 h'
    obtain ⟨server, l'2, rfl, h'2⟩ := un_s_some.1 h'1
    obtain ⟨client, l'3, rfl, h'3⟩ := un_s_some.1 h'2
    obtain ⟨rfl, h'Z⟩ := un_nil_some.1 h'3
    exact (feat_Choose_e f server client).symm.trans h'Z
  · intro E w0 ws ρ0 hk b hb
    rw [show loopsOf (fb Go.Proofs.Tryz.f37) = [(bodyAt (fb Go.Proofs.Tryz.f37) 0)] by kernel_rfl] at hb
    simp only [List.mem_cons, List.mem_nil_iff, or_false] at hb
    rcases hb with rfl
    · exact feat_Choose_8_lok E w0 ws ρ0 hk
noncomputable def G20 : Env := G19.addP 37 3 feat_Choose_in feat_Choose_out feat_Choose_SC
theorem g20 : EnvOk Go.Proofs.Tryz.prog G20 := EnvOk.addP g19 feat_Choose_c feat_Choose_says

-- ### opt_Bytes: function 46
def opt_Bytes_in : Tm := ⟨[], [(0, .w (.at (.int .u64))), (1, .w (.at (.int .i64)))]⟩
def opt_Bytes_out : Tm := ⟨[], [(0, .w (.at (.str)))]⟩
def opt_Bytes_5_T : Tm := ⟨[.row 5 1 [.int .u8]], [(6, .w (.at (.int .i64))), (0, .w (.at (.int .u64))), (5, .w (.at (.all 0 1)))]⟩
def opt_Bytes_5_X0 : Tm := ⟨[.row 5 1 [.int .u8]], [(5, .w (.at (.all 0 1)))]⟩
def opt_Bytes_5_X : Exits := [(0, (opt_Bytes_5_X0, []))]
def opt_Bytes_5_R : Tm := ⟨[], []⟩

def opt_Bytes_Λd (L5 : ({β : Type} → (Nat → List Leaf → Option β) → (List Leaf → Option β) → Nat → List Int → Int → Int → Option β)) : Loops := ⟨fun b fr H kx kr => bif Nat.beq (rid b) 5 then loopE 0 opt_Bytes_5_T [] opt_Bytes_5_X opt_Bytes_5_R (opt_Bytes_5_F @L5 top) fr H kx kr else none⟩
def opt_Bytes_Λ : Loops := opt_Bytes_Λd @opt_Bytes_5_L
theorem opt_Bytes_5_e (L5 : ({β : Type} → (Nat → List Leaf → Option β) → (List Leaf → Option β) → Nat → List Int → Int → Int → Option β)) {α : Type} (kx : Nat → List Leaf → Option α) (kr : List Leaf → Option α) (again : List Int → Int → Int → Option α) (b : List Int) (i : Int) (n2 : Int) : opt_Bytes_5_B  kx kr again b i n2 = loopB G20 (opt_Bytes_Λd @L5) false tab Go.Proofs.Tryz.f46.ntmps 0 opt_Bytes_5_T [] opt_Bytes_5_X opt_Bytes_5_R (bodyAt (fb Go.Proofs.Tryz.f46) 0) (fun ls => un_li ls fun b rr => un_i rr fun i rr => un_i rr fun n2 rr => un_nil rr (again b i n2)) kx kr (instFr opt_Bytes_5_T [.li b, .i i, .i n2]) (instH opt_Bytes_5_T [.li b, .i i, .i n2]) := by kernel_rfl
theorem opt_Bytes_5_lok (E : Nat → Prop) (w0 ws : World) (ρ0 : List Pl) (hk : ρ0.length = 0) : LOk Go.Proofs.Tryz.prog 46 Go.Proofs.Tryz.f46 false E w0 ws Go.Proofs.Tryz.f46.ntmps ρ0 opt_Bytes_Λ (bodyAt (fb Go.Proofs.Tryz.f46) 0) := by
  refine lok mixed tab_ok g20 Go.Proofs.Tryz.func46 hk (T := opt_Bytes_5_T) (rt := opt_Bytes_5_R) (cuts := []) (ex := opt_Bytes_5_X) (top := top) (F := opt_Bytes_5_F @opt_Bytes_5_L) (fun fr H kx kr => by kernel_rfl) ?_ ?_ ?_
  · intro α ls' kx' kr' r' h'
    unfold opt_Bytes_5_F at h'
    obtain ⟨b, l'1, rfl, h'1⟩ := un_li_some.1 h'
    obtain ⟨i, l'2, rfl, h'2⟩ := un_i_some.1 h'1
    obtain ⟨n2, l'3, rfl, h'3⟩ := un_i_some.1 h'2
    obtain ⟨rfl, h'Z⟩ := un_nil_some.1 h'3
    cases h'Z
  · intro α n' ls' kx' kr' r' h'
    unfold opt_Bytes_5_F at h'
    obtain ⟨b, l'1, rfl, h'1⟩ := un_li_some.1 h'
    obtain ⟨i, l'2, rfl, h'2⟩ := un_i_some.1 h'1
    obtain ⟨n2, l'3, rfl, h'3⟩ := un_i_some.1 h'2
    obtain ⟨rfl, h'Z⟩ := un_nil_some.1 h'3
    exact (opt_Bytes_5_e @opt_Bytes_5_L kx' kr' (opt_Bytes_5_L kx' kr' n') b i n2).symm.trans h'Z
  · intro b' hb
    rw [show loopsOf (bodyAt (fb Go.Proofs.Tryz.f46) 0) = [] by kernel_rfl] at hb
    cases hb
theorem opt_Bytes_ed (L5 : ({β : Type} → (Nat → List Leaf → Option β) → (List Leaf → Option β) → Nat → List Int → Int → Int → Option β)) (n2 : Int) (k : Int) : opt_Bytes_d @L5 n2 k = den G20 (opt_Bytes_Λd @L5) false tab Go.Proofs.Tryz.f46.ntmps (fun fr H => finish tab 0 Go.Proofs.Tryz.f46.results.toList opt_Bytes_out [] fr H some) (fun _ _ _ => none) (fun fr H => finish tab 0 Go.Proofs.Tryz.f46.results.toList opt_Bytes_out [] fr H some) 10000 [.code (fb Go.Proofs.Tryz.f46)] (instFr opt_Bytes_in [.i n2, .i k]) (instH opt_Bytes_in [.i n2, .i k]) := by kernel_rfl
theorem opt_Bytes_e (n2 : Int) (k : Int) : opt_Bytes n2 k = den G20 opt_Bytes_Λ false tab Go.Proofs.Tryz.f46.ntmps (fun fr H => finish tab 0 Go.Proofs.Tryz.f46.results.toList opt_Bytes_out [] fr H some) (fun _ _ _ => none) (fun fr H => finish tab 0 Go.Proofs.Tryz.f46.results.toList opt_Bytes_out [] fr H some) 10000 [.code (fb Go.Proofs.Tryz.f46)] (instFr opt_Bytes_in [.i n2, .i k]) (instH opt_Bytes_in [.i n2, .i k]) := opt_Bytes_ed @opt_Bytes_5_L n2 k
def opt_Bytes_S : List Leaf → Option (List Leaf) := fun ls => un_i ls fun n2 rr => un_i rr fun k rr => un_nil rr (opt_Bytes n2 k)
def opt_Bytes_SC : Tld := fun ls k' => un_i ls fun n2 rr => un_i rr fun k rr => un_nil rr (out (opt_Bytes n2 k) k')
theorem opt_Bytes_Se (n2 : Int) (k : Int) : opt_Bytes_S [.i n2, .i k] = opt_Bytes n2 k := by
  unfold opt_Bytes_S
  simp only [un_i_ev, un_b_ev, un_s_ev, un_li_ev, un_lb_ev, un_ls_ev, un_nil_ev]
theorem opt_Bytes_says : Says opt_Bytes_SC opt_Bytes_S := by
  intro β ls' k' r' h'
  unfold opt_Bytes_SC at h'
  obtain ⟨n2, l'1, rfl, h'1⟩ := un_i_some.1 h'
  obtain ⟨k, l'2, rfl, h'2⟩ := un_i_some.1 h'1
  obtain ⟨rfl, h'Z⟩ := un_nil_some.1 h'2
  obtain ⟨l', a', b'⟩ := out_some.1 h'Z
  exact ⟨l', (opt_Bytes_Se n2 k).trans a', b'⟩
theorem opt_Bytes_c : FnC Go.Proofs.Tryz.prog 46 false 2 0 opt_Bytes_in opt_Bytes_out opt_Bytes_S := by
  refine fn_ok (Λ := opt_Bytes_Λ) mixed tab_ok g20 Go.Proofs.Tryz.func46 (by kernel_rfl) (body := fb Go.Proofs.Tryz.f46) rfl (ts := Go.Proofs.Tryz.f46.results.toList) rfl (cuts := []) (by kernel_rfl) (Nat.le_of_ble_eq_true (by kernel_rfl)) (by kernel_rfl) (rt := .w (.at (.str))) rfl ?_ ?_
  · intro ls' r' h'
    unfold opt_Bytes_S at h'
    obtain ⟨n2, l'1, rfl, h'1⟩ := un_i_some.1 h'
    obtain ⟨k, l'2, rfl, h'2⟩ := un_i_some.1 h'1
    obtain ⟨rfl, h'Z⟩ := un_nil_some.1 h'2
    exact (opt_Bytes_e n2 k).symm.trans h'Z
  · intro E w0 ws ρ0 hk b hb
    rw [show loopsOf (fb Go.Proofs.Tryz.f46) = [(bodyAt (fb Go.Proofs.Tryz.f46) 0)] by kernel_rfl] at hb
    simp only [List.mem_cons, List.mem_nil_iff, or_false] at hb
    rcases hb with rfl
    · exact opt_Bytes_5_lok E w0 ws ρ0 hk
noncomputable def G21 : Env := G20.addE 46 2 opt_Bytes_in opt_Bytes_out opt_Bytes_SC
theorem g21 : EnvOk Go.Proofs.Tryz.prog G21 := EnvOk.addE g20 opt_Bytes_c opt_Bytes_says

-- ### feat_Default: function 18
def feat_Default_in : Tm := ⟨[], [(0, .w (.at (.int .i64)))]⟩
def feat_Default_out : Tm := ⟨[], [(0, .w (.at (.str)))]⟩

def feat_Default_Λd : Loops := Loops.none
def feat_Default_Λ : Loops := feat_Default_Λd 

theorem feat_Default_e (f : Int) : feat_Default f = den G21 feat_Default_Λ false tab Go.Proofs.Tryz.f18.ntmps (fun fr H => finish tab 0 Go.Proofs.Tryz.f18.results.toList feat_Default_out [] fr H some) (fun _ _ _ => none) (fun fr H => finish tab 0 Go.Proofs.Tryz.f18.results.toList feat_Default_out [] fr H some) 10000 [.code (fb Go.Proofs.Tryz.f18)] (instFr feat_Default_in [.i f]) (instH feat_Default_in [.i f]) := by kernel_rfl
def feat_Default_S : List Leaf → Option (List Leaf) := fun ls => un_i ls fun f rr => un_nil rr (feat_Default f)
def feat_Default_SC : Tld := fun ls k' => un_i ls fun f rr => un_nil rr (out (feat_Default f) k')
theorem feat_Default_Se (f : Int) : feat_Default_S [.i f] = feat_Default f := by
  unfold feat_Default_S
  simp only [un_i_ev, un_b_ev, un_s_ev, un_li_ev, un_lb_ev, un_ls_ev, un_nil_ev]
theorem feat_Default_says : Says feat_Default_SC feat_Default_S := by
  intro β ls' k' r' h'
  unfold feat_Default_SC at h'
  obtain ⟨f, l'1, rfl, h'1⟩ := un_i_some.1 h'
  obtain ⟨rfl, h'Z⟩ := un_nil_some.1 h'1
  obtain ⟨l', a', b'⟩ := out_some.1 h'Z
  exact ⟨l', (feat_Default_Se f).trans a', b'⟩
theorem feat_Default_c : FnC Go.Proofs.Tryz.prog 18 false 1 0 feat_Default_in feat_Default_out feat_Default_S := by
  refine fn_ok (Λ := feat_Default_Λ) mixed tab_ok g21 Go.Proofs.Tryz.func18 (by kernel_rfl) (body := fb Go.Proofs.Tryz.f18) rfl (ts := Go.Proofs.Tryz.f18.results.toList) rfl (cuts := []) (by kernel_rfl) (Nat.le_of_ble_eq_true (by kernel_rfl)) (by kernel_rfl) (rt := .w (.at (.str))) rfl ?_ ?_
  · intro ls' r' h'
    unfold feat_Default_S at h'
    obtain ⟨f, l'1, rfl, h'1⟩ := un_i_some.1 h'
    obtain ⟨rfl, h'Z⟩ := un_nil_some.1 h'1
    exact (feat_Default_e f).symm.trans h'Z
  · intro E w0 ws ρ0 hk b hb
    rw [show loopsOf (fb Go.Proofs.Tryz.f18) = [] by kernel_rfl] at hb
    cases hb
noncomputable def G22 : Env := G21.addE 18 1 feat_Default_in feat_Default_out feat_Default_SC
theorem g22 : EnvOk Go.Proofs.Tryz.prog G22 := EnvOk.addE g21 feat_Default_c feat_Default_says
end Go.Sx.T

