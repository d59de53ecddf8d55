import Derived.Test.YtllgbgponmkijaaGreatDoorYQASpec
import Derived.Test.YtllgbgponmkijaaGreatDoorYQueCon
set_option linter.all false
namespace Go.Sx.T
open Go Go.Sx Go.Proofs
set_option maxRecDepth 100000
noncomputable def fnsN : Fns := [(39, Go.Proofs.Tryz.f39)]
theorem fnsN_ok : FnsOk Go.Proofs.Tryz.prog fnsN := .cons Go.Proofs.Tryz.func39 (by kernel_rfl) <| .nil
noncomputable def G63 : Env := inlC fnsN tab G62 5
theorem g63 : EnvOk Go.Proofs.Tryz.prog G63 := EnvOk.inlC mixed tab_ok g62 fnsN_ok 5

-- ### law1_Text: function 40
def law1_Text_in : Tm := ⟨[], [(0, .w (.at (.str))), (1, .w (.at (.int .i64)))]⟩
def law1_Text_out : Tm := ⟨[], [(0, .w (.at (.str)))]⟩

def law1_Text_Λd : Loops := Loops.none
def law1_Text_Λ : Loops := law1_Text_Λd 

theorem law1_Text_e (s : ByteArray) (n2 : Int) : law1_Text s n2 = den G63 law1_Text_Λ true tab Go.Proofs.Tryz.f40.ntmps (fun fr H => finish tab 0 Go.Proofs.Tryz.f40.results.toList law1_Text_out [] fr H some) (fun _ _ _ => none) (fun fr H => finish tab 0 Go.Proofs.Tryz.f40.results.toList law1_Text_out [] fr H some) 10000 [.code (fb Go.Proofs.Tryz.f40)] (instFr law1_Text_in [.s s, .i n2]) (instH law1_Text_in [.s s, .i n2]) := by kernel_rfl
def law1_Text_S : List Leaf → Option (List Leaf) := fun ls => un_s ls fun s rr => un_i rr fun n2 rr => un_nil rr (law1_Text s n2)
def law1_Text_SC : Tld := fun ls k' => un_s ls fun s rr => un_i rr fun n2 rr => un_nil rr (out (law1_Text s n2) k')
theorem law1_Text_Se (s : ByteArray) (n2 : Int) : law1_Text_S [.s s, .i n2] = law1_Text s n2 := by
  unfold law1_Text_S
  simp only [un_i_ev, un_b_ev, un_s_ev, un_li_ev, un_lb_ev, un_ls_ev, un_nil_ev]
theorem law1_Text_says : Says law1_Text_SC law1_Text_S := by
  intro β ls' k' r' h'
  unfold law1_Text_SC at h'
  obtain ⟨s, l'1, rfl, h'1⟩ := un_s_some.1 h'
  obtain ⟨n2, l'2, rfl, h'2⟩ := un_i_some.1 h'1
  obtain ⟨rfl, h'Z⟩ := un_nil_some.1 h'2
  obtain ⟨l', a', b'⟩ := out_some.1 h'Z
  exact ⟨l', (law1_Text_Se s n2).trans a', b'⟩
theorem law1_Text_c : FnC Go.Proofs.Tryz.prog 40 true 2 0 law1_Text_in law1_Text_out law1_Text_S := by
  refine fn_ok (Λ := law1_Text_Λ) mixed tab_ok g63 Go.Proofs.Tryz.func40 (by kernel_rfl) (body := fb Go.Proofs.Tryz.f40) rfl (ts := Go.Proofs.Tryz.f40.results.toList) rfl (cuts := []) (by kernel_rfl) (Nat.le_of_ble_eq_true (by kernel_rfl)) (by kernel_rfl) (rt := .w (.at (.str))) rfl ?_ ?_
  · intro ls' r' h'
    unfold law1_Text_S at h'
    obtain ⟨s, l'1, rfl, h'1⟩ := un_s_some.1 h'
    obtain ⟨n2, l'2, rfl, h'2⟩ := un_i_some.1 h'1
    obtain ⟨rfl, h'Z⟩ := un_nil_some.1 h'2
    exact (law1_Text_e s n2).symm.trans h'Z
  · intro E w0 ws ρ0 hk b hb
    rw [show loopsOf (fb Go.Proofs.Tryz.f40) = [] by kernel_rfl] at hb
    cases hb
noncomputable def G65 : Env := G63.addP 40 2 law1_Text_in law1_Text_out law1_Text_SC
theorem g65 : EnvOk Go.Proofs.Tryz.prog G65 := EnvOk.addP g63 law1_Text_c law1_Text_says

-- ### QueueAll: function 13
def QueueAll_in : Tm := ⟨[.ro 86 2 [.int .i64, .str]], [(0, .w (.at (.int .i64))), (1, .w (.at (.all 0 2))), (2, .w (.at (.int .i64)))]⟩
def QueueAll_out : Tm := ⟨[.dead], [(0, .w (.at (.bool)))]⟩
def QueueAll_10_T : Tm := ⟨[.ro 86 2 [.int .i64, .str], .cells 127 [.all 2 1, .int .i64], .row 9 1 [.str], .row 9 1 [.str]], [(11, .w (.at (.int .i64))), (10, .w (.at (.int .i64))), (8, .w (.at (.ptr 1 0))), (9, .w (.at (.all 3 1))), (0, .w (.at (.int .i64))), (1, .w (.at (.all 0 2))), (2, .w (.at (.int .i64)))]⟩
def QueueAll_10_X0 : Tm := ⟨[.ro 86 2 [.int .i64, .str]], []⟩
def QueueAll_10_X : Exits := [(0, (QueueAll_10_X0, []))]
def QueueAll_10_R : Tm := ⟨[.ro 86 2 [.int .i64, .str]], [(6, .w (.at (.bool)))]⟩

def QueueAll_Λd (L10 : ({β : Type} → (Nat → List Leaf → Option β) → (List Leaf → Option β) → Nat → List Int → List ByteArray → List ByteArray → List ByteArray → Int → Int → Int → Int → Int → Option β)) : Loops := ⟨fun b fr H kx kr => bif Nat.beq (rid b) 10 then loopE 1 QueueAll_10_T [] QueueAll_10_X QueueAll_10_R (QueueAll_10_F @L10 top) fr H kx kr else none⟩
def QueueAll_Λ : Loops := QueueAll_Λd @QueueAll_10_L
theorem QueueAll_10_e (L10 : ({β : Type} → (Nat → List Leaf → Option β) → (List Leaf → Option β) → Nat → List Int → List ByteArray → List ByteArray → List ByteArray → Int → Int → Int → Int → Int → Option β)) {α : Type} (kx : Nat → List Leaf → Option α) (kr : List Leaf → Option α) (again : List Int → List ByteArray → List ByteArray → List ByteArray → Int → Int → Int → Int → Int → Option α) (ops0 : List Int) (ops1 : List ByteArray) (q_l : List ByteArray) (w : List ByteArray) (q_most : Int) (i : Int) (bytes : Int) (most : Int) (big : Int) : QueueAll_10_B  kx kr again ops0 ops1 q_l w q_most i bytes most big = loopB G65 (QueueAll_Λd @L10) false tab Go.Proofs.Tryz.f13.ntmps 1 QueueAll_10_T [] QueueAll_10_X QueueAll_10_R (bodyAt (fb Go.Proofs.Tryz.f13) 0) (fun ls => un_li ls fun ops0 rr => un_ls rr fun ops1 rr => un_ls rr fun q_l rr => un_ls rr fun w rr => un_i rr fun q_most rr => un_i rr fun i rr => un_i rr fun bytes rr => un_i rr fun most rr => un_i rr fun big rr => un_nil rr (again ops0 ops1 q_l w q_most i bytes most big)) kx kr (instFr QueueAll_10_T [.li ops0, .ls ops1, .ls q_l, .ls w, .i q_most, .i i, .i bytes, .i most, .i big]) (instH QueueAll_10_T [.li ops0, .ls ops1, .ls q_l, .ls w, .i q_most, .i i, .i bytes, .i most, .i big]) := by kernel_rfl
theorem QueueAll_10_lok (E : Nat → Prop) (w0 ws : World) (ρ0 : List Pl) (hk : ρ0.length = 1) : LOk Go.Proofs.Tryz.prog 13 Go.Proofs.Tryz.f13 false E w0 ws Go.Proofs.Tryz.f13.ntmps ρ0 QueueAll_Λ (bodyAt (fb Go.Proofs.Tryz.f13) 0) := by
  refine lok mixed tab_ok g65 Go.Proofs.Tryz.func13 hk (T := QueueAll_10_T) (rt := QueueAll_10_R) (cuts := []) (ex := QueueAll_10_X) (top := top) (F := QueueAll_10_F @QueueAll_10_L) (fun fr H kx kr => by kernel_rfl) ?_ ?_ ?_
  · intro α ls' kx' kr' r' h'
    unfold QueueAll_10_F at h'
    obtain ⟨ops0, l'1, rfl, h'1⟩ := un_li_some.1 h'
    obtain ⟨ops1, l'2, rfl, h'2⟩ := un_ls_some.1 h'1
    obtain ⟨q_l, l'3, rfl, h'3⟩ := un_ls_some.1 h'2
    obtain ⟨w, l'4, rfl, h'4⟩ := un_ls_some.1 h'3
    obtain ⟨q_most, l'5, rfl, h'5⟩ := un_i_some.1 h'4
    obtain ⟨i, l'6, rfl, h'6⟩ := un_i_some.1 h'5
    obtain ⟨bytes, l'7, rfl, h'7⟩ := un_i_some.1 h'6
    obtain ⟨most, l'8, rfl, h'8⟩ := un_i_some.1 h'7
    obtain ⟨big, l'9, rfl, h'9⟩ := un_i_some.1 h'8
    obtain ⟨rfl, h'Z⟩ := un_nil_some.1 h'9
    cases h'Z
  · intro α n' ls' kx' kr' r' h'
    unfold QueueAll_10_F at h'
    obtain ⟨ops0, l'1, rfl, h'1⟩ := un_li_some.1 h'
    obtain ⟨ops1, l'2, rfl, h'2⟩ := un_ls_some.1 h'1
    obtain ⟨q_l, l'3, rfl, h'3⟩ := un_ls_some.1 h'2
    obtain ⟨w, l'4, rfl, h'4⟩ := un_ls_some.1 h'3
    obtain ⟨q_most, l'5, rfl, h'5⟩ := un_i_some.1 h'4
    obtain ⟨i, l'6, rfl, h'6⟩ := un_i_some.1 h'5
    obtain ⟨bytes, l'7, rfl, h'7⟩ := un_i_some.1 h'6
    obtain ⟨most, l'8, rfl, h'8⟩ := un_i_some.1 h'7
    obtain ⟨big, l'9, rfl, h'9⟩ := un_i_some.1 h'8
    obtain ⟨rfl, h'Z⟩ := un_nil_some.1 h'9
    exact (QueueAll_10_e @QueueAll_10_L kx' kr' (QueueAll_10_L kx' kr' n') ops0 ops1 q_l w q_most i bytes most big).symm.trans h'Z
  · intro b' hb
    rw [show loopsOf (bodyAt (fb Go.Proofs.Tryz.f13) 0) = [] by kernel_rfl] at hb
    cases hb
theorem QueueAll_ed (L10 : ({β : Type} → (Nat → List Leaf → Option β) → (List Leaf → Option β) → Nat → List Int → List ByteArray → List ByteArray → List ByteArray → Int → Int → Int → Int → Int → Option β)) (ops0 : List Int) (ops1 : List ByteArray) (most : Int) (big : Int) : QueueAll_d @L10 ops0 ops1 most big = den G65 (QueueAll_Λd @L10) false tab Go.Proofs.Tryz.f13.ntmps (fun fr H => finish tab 1 Go.Proofs.Tryz.f13.results.toList QueueAll_out [] fr H some) (fun _ _ _ => none) (fun fr H => finish tab 1 Go.Proofs.Tryz.f13.results.toList QueueAll_out [] fr H some) 10000 [.code (fb Go.Proofs.Tryz.f13)] (instFr QueueAll_in [.li ops0, .ls ops1, .i most, .i big]) (instH QueueAll_in [.li ops0, .ls ops1, .i most, .i big]) := by kernel_rfl
theorem QueueAll_e (ops0 : List Int) (ops1 : List ByteArray) (most : Int) (big : Int) : QueueAll ops0 ops1 most big = den G65 QueueAll_Λ false tab Go.Proofs.Tryz.f13.ntmps (fun fr H => finish tab 1 Go.Proofs.Tryz.f13.results.toList QueueAll_out [] fr H some) (fun _ _ _ => none) (fun fr H => finish tab 1 Go.Proofs.Tryz.f13.results.toList QueueAll_out [] fr H some) 10000 [.code (fb Go.Proofs.Tryz.f13)] (instFr QueueAll_in [.li ops0, .ls ops1, .i most, .i big]) (instH QueueAll_in [.li ops0, .ls ops1, .i most, .i big]) := QueueAll_ed @QueueAll_10_L ops0 ops1 most big
def QueueAll_S : List Leaf → Option (List Leaf) := fun ls => un_li ls fun ops0 rr => un_ls rr fun ops1 rr => un_i rr fun most rr => un_i rr fun big rr => un_nil rr (QueueAll ops0 ops1 most big)
def QueueAll_SC : Tld := fun ls k' => un_li ls fun ops0 rr => un_ls rr fun ops1 rr => un_i rr fun most rr => un_i rr fun big rr => un_nil rr (out (QueueAll ops0 ops1 most big) k')
theorem QueueAll_Se (ops0 : List Int) (ops1 : List ByteArray) (most : Int) (big : Int) : QueueAll_S [.li ops0, .ls ops1, .i most, .i big] = QueueAll ops0 ops1 most big := by
  unfold QueueAll_S
  simp only [un_i_ev, un_b_ev, un_s_ev, un_li_ev, un_lb_ev, un_ls_ev, un_nil_ev]
theorem QueueAll_says : Says QueueAll_SC QueueAll_S := by
  intro β ls' k' r' h'
  unfold QueueAll_SC at h'
  obtain ⟨ops0, l'1, rfl, h'1⟩ := un_li_some.1 h'
  obtain ⟨ops1, l'2, rfl, h'2⟩ := un_ls_some.1 h'1
  obtain ⟨most, l'3, rfl, h'3⟩ := un_i_some.1 h'2
  obtain ⟨big, l'4, rfl, h'4⟩ := un_i_some.1 h'3
  obtain ⟨rfl, h'Z⟩ := un_nil_some.1 h'4
  obtain ⟨l', a', b'⟩ := out_some.1 h'Z
  exact ⟨l', (QueueAll_Se ops0 ops1 most big).trans a', b'⟩
theorem QueueAll_c : FnC Go.Proofs.Tryz.prog 13 false 3 1 QueueAll_in QueueAll_out QueueAll_S := by
  refine fn_ok (Λ := QueueAll_Λ) mixed tab_ok g65 Go.Proofs.Tryz.func13 (by kernel_rfl) (body := fb Go.Proofs.Tryz.f13) rfl (ts := Go.Proofs.Tryz.f13.results.toList) rfl (cuts := []) (by kernel_rfl) (Nat.le_of_ble_eq_true (by kernel_rfl)) (by kernel_rfl) (rt := .w (.at (.bool))) rfl ?_ ?_
  · intro ls' r' h'
    unfold QueueAll_S at h'
    obtain ⟨ops0, l'1, rfl, h'1⟩ := un_li_some.1 h'
    obtain ⟨ops1, l'2, rfl, h'2⟩ := un_ls_some.1 h'1
    obtain ⟨most, l'3, rfl, h'3⟩ := un_i_some.1 h'2
    obtain ⟨big, l'4, rfl, h'4⟩ := un_i_some.1 h'3
    obtain ⟨rfl, h'Z⟩ := un_nil_some.1 h'4
    exact (QueueAll_e ops0 ops1 most big).symm.trans h'Z
  · intro E w0 ws ρ0 hk b hb
    rw [show loopsOf (fb Go.Proofs.Tryz.f13) = [(bodyAt (fb Go.Proofs.Tryz.f13) 0)] by kernel_rfl] at hb
    simp only [List.mem_cons, List.mem_nil_iff, or_false] at hb
    rcases hb with rfl
    · exact QueueAll_10_lok E w0 ws ρ0 hk
noncomputable def G66 : Env := G65.addE 13 3 QueueAll_in QueueAll_out QueueAll_SC
theorem g66 : EnvOk Go.Proofs.Tryz.prog G66 := EnvOk.addE g65 QueueAll_c QueueAll_says
end Go.Sx.T

