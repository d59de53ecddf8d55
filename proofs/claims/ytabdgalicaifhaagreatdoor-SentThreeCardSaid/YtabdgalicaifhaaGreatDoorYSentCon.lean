import Derived.Test.YtabdgalicaifhaaGreatDoorYSentSpec
import Derived.Test.YtabdgalicaifhaaGreatDoorYVecCon
set_option linter.all false
namespace Go.Sx.T
open Go Go.Sx Go.Proofs
set_option maxRecDepth 100000

-- ### sent_New: function 16
def sent_New_in : Tm := ⟨[], []⟩
def sent_New_out : Tm := ⟨[.cells 95 [.all 1 3, .int .u64, .bool], .row 98 3 [.int .u64, .int .i64, .int .i64]], [(0, .w (.at (.ptr 0 0)))]⟩

def sent_New_Λd : Loops := Loops.none
def sent_New_Λ : Loops := sent_New_Λd 

theorem sent_New_e  : sent_New  = den G30 sent_New_Λ false tab Go.Proofs.Tryz.f16.ntmps (fun fr H => finish tab 0 Go.Proofs.Tryz.f16.results.toList sent_New_out [] fr H some) (fun _ _ _ => none) (fun fr H => finish tab 0 Go.Proofs.Tryz.f16.results.toList sent_New_out [] fr H some) 10000 [.code (fb Go.Proofs.Tryz.f16)] (instFr sent_New_in []) (instH sent_New_in []) := by kernel_rfl
def sent_New_S : List Leaf → Option (List Leaf) := fun ls => un_nil ls (sent_New )
def sent_New_SC : Tld := fun ls k' => un_nil ls (out (sent_New ) k')
theorem sent_New_Se  : sent_New_S [] = sent_New  := by
  unfold sent_New_S
  simp only [un_i_ev, un_b_ev, un_s_ev, un_li_ev, un_lb_ev, un_ls_ev, un_nil_ev]
theorem sent_New_says : Says sent_New_SC sent_New_S := by
  intro β ls' k' r' h'
  unfold sent_New_SC at h'
  obtain ⟨rfl, h'Z⟩ := un_nil_some.1 h'
  obtain ⟨l', a', b'⟩ := out_some.1 h'Z
  exact ⟨l', (sent_New_Se ).trans a', b'⟩
theorem sent_New_c : FnC Go.Proofs.Tryz.prog 16 false 0 0 sent_New_in sent_New_out sent_New_S := by
  refine fn_ok (Λ := sent_New_Λ) mixed tab_ok g30 Go.Proofs.Tryz.func16 (by kernel_rfl) (body := fb Go.Proofs.Tryz.f16) rfl (ts := Go.Proofs.Tryz.f16.results.toList) rfl (cuts := []) (by kernel_rfl) (Nat.le_of_ble_eq_true (by kernel_rfl)) (by kernel_rfl) (rt := .w (.at (.ptr 0 0))) rfl ?_ ?_
  · intro ls' r' h'
    unfold sent_New_S at h'
    obtain ⟨rfl, h'Z⟩ := un_nil_some.1 h'
    exact (sent_New_e ).symm.trans h'Z
  · intro E w0 ws ρ0 hk b hb
    rw [show loopsOf (fb Go.Proofs.Tryz.f16) = [] by kernel_rfl] at hb
    cases hb
noncomputable def G31 : Env := G30.addE 16 0 sent_New_in sent_New_out sent_New_SC
theorem g31 : EnvOk Go.Proofs.Tryz.prog G31 := EnvOk.addE g30 sent_New_c sent_New_says

-- ### sent_Put: function 17
def sent_Put_in : Tm := ⟨[.cells 95 [.all 1 3, .int .u64, .bool], .row 98 3 [.int .u64, .int .i64, .int .i64]], [(0, .w (.at (.ptr 0 0))), (1, .w (.at (.int .u64))), (2, .w (.at (.int .i64)))]⟩
def sent_Put_out : Tm := ⟨[.cells 95 [.all 2 3, .int .u64, .bool], .dead, .row 98 3 [.int .u64, .int .i64, .int .i64]], [(0, .w (.at (.bool)))]⟩

def sent_Put_Λd : Loops := Loops.none
def sent_Put_Λ : Loops := sent_Put_Λd 

theorem sent_Put_e (s_l0 : List Int) (s_l1 : List Int) (s_l2 : List Int) (s_last : Int) (s_any : Bool) (n2 : Int) (now : Int) : sent_Put s_l0 s_l1 s_l2 s_last s_any n2 now = den G31 sent_Put_Λ false tab Go.Proofs.Tryz.f17.ntmps (fun fr H => finish tab 2 Go.Proofs.Tryz.f17.results.toList sent_Put_out [] fr H some) (fun _ _ _ => none) (fun fr H => finish tab 2 Go.Proofs.Tryz.f17.results.toList sent_Put_out [] fr H some) 10000 [.code (fb Go.Proofs.Tryz.f17)] (instFr sent_Put_in [.li s_l0, .li s_l1, .li s_l2, .i s_last, .b s_any, .i n2, .i now]) (instH sent_Put_in [.li s_l0, .li s_l1, .li s_l2, .i s_last, .b s_any, .i n2, .i now]) := by kernel_rfl
def sent_Put_S : List Leaf → Option (List Leaf) := fun ls => un_li ls fun s_l0 rr => un_li rr fun s_l1 rr => un_li rr fun s_l2 rr => un_i rr fun s_last rr => un_b rr fun s_any rr => un_i rr fun n2 rr => un_i rr fun now rr => un_nil rr (sent_Put s_l0 s_l1 s_l2 s_last s_any n2 now)
def sent_Put_SC : Tld := fun ls k' => un_li ls fun s_l0 rr => un_li rr fun s_l1 rr => un_li rr fun s_l2 rr => un_i rr fun s_last rr => un_b rr fun s_any rr => un_i rr fun n2 rr => un_i rr fun now rr => un_nil rr (out (sent_Put s_l0 s_l1 s_l2 s_last s_any n2 now) k')
theorem sent_Put_Se (s_l0 : List Int) (s_l1 : List Int) (s_l2 : List Int) (s_last : Int) (s_any : Bool) (n2 : Int) (now : Int) : sent_Put_S [.li s_l0, .li s_l1, .li s_l2, .i s_last, .b s_any, .i n2, .i now] = sent_Put s_l0 s_l1 s_l2 s_last s_any n2 now := by
  unfold sent_Put_S
  simp only [un_i_ev, un_b_ev, un_s_ev, un_li_ev, un_lb_ev, un_ls_ev, un_nil_ev]
theorem sent_Put_says : Says sent_Put_SC sent_Put_S := by
  intro β ls' k' r' h'
  unfold sent_Put_SC at h'
  obtain ⟨s_l0, l'1, rfl, h'1⟩ := un_li_some.1 h'
  obtain ⟨s_l1, l'2, rfl, h'2⟩ := un_li_some.1 h'1
  obtain ⟨s_l2, l'3, rfl, h'3⟩ := un_li_some.1 h'2
  obtain ⟨s_last, l'4, rfl, h'4⟩ := un_i_some.1 h'3
  obtain ⟨s_any, l'5, rfl, h'5⟩ := un_b_some.1 h'4
  obtain ⟨n2, l'6, rfl, h'6⟩ := un_i_some.1 h'5
  obtain ⟨now, l'7, rfl, h'7⟩ := un_i_some.1 h'6
  obtain ⟨rfl, h'Z⟩ := un_nil_some.1 h'7
  obtain ⟨l', a', b'⟩ := out_some.1 h'Z
  exact ⟨l', (sent_Put_Se s_l0 s_l1 s_l2 s_last s_any n2 now).trans a', b'⟩
theorem sent_Put_c : FnC Go.Proofs.Tryz.prog 17 false 3 2 sent_Put_in sent_Put_out sent_Put_S := by
  refine fn_ok (Λ := sent_Put_Λ) mixed tab_ok g31 Go.Proofs.Tryz.func17 (by kernel_rfl) (body := fb Go.Proofs.Tryz.f17) rfl (ts := Go.Proofs.Tryz.f17.results.toList) rfl (cuts := []) (by kernel_rfl) (Nat.le_of_ble_eq_true (by kernel_rfl)) (by kernel_rfl) (rt := .w (.at (.bool))) rfl ?_ ?_
  · intro ls' r' h'
    unfold sent_Put_S at h'
    obtain ⟨s_l0, l'1, rfl, h'1⟩ := un_li_some.1 h'
    obtain ⟨s_l1, l'2, rfl, h'2⟩ := un_li_some.1 h'1
    obtain ⟨s_l2, l'3, rfl, h'3⟩ := un_li_some.1 h'2
    obtain ⟨s_last, l'4, rfl, h'4⟩ := un_i_some.1 h'3
    obtain ⟨s_any, l'5, rfl, h'5⟩ := un_b_some.1 h'4
    obtain ⟨n2, l'6, rfl, h'6⟩ := un_i_some.1 h'5
    obtain ⟨now, l'7, rfl, h'7⟩ := un_i_some.1 h'6
    obtain ⟨rfl, h'Z⟩ := un_nil_some.1 h'7
    exact (sent_Put_e s_l0 s_l1 s_l2 s_last s_any n2 now).symm.trans h'Z
  · intro E w0 ws ρ0 hk b hb
    rw [show loopsOf (fb Go.Proofs.Tryz.f17) = [] by kernel_rfl] at hb
    cases hb
noncomputable def G32 : Env := G31.addE 17 3 sent_Put_in sent_Put_out sent_Put_SC
theorem g32 : EnvOk Go.Proofs.Tryz.prog G32 := EnvOk.addE g31 sent_Put_c sent_Put_says

-- ### sent_told: function 63
def sent_told_in : Tm := ⟨[.ro 3 1 [.int .i64]], [(0, .w (.at (.int .u64))), (1, .w (.at (.int .u64))), (2, .w (.at (.all 0 1)))]⟩
def sent_told_out : Tm := ⟨[.dead], [(0, .w (.at (.int .i64)))]⟩

def sent_told_Λd : Loops := Loops.none
def sent_told_Λ : Loops := sent_told_Λd 

theorem sent_told_e (states : List Int) (ack : Int) (n2 : Int) : sent_told states ack n2 = den G32 sent_told_Λ true tab Go.Proofs.Tryz.f63.ntmps (fun fr H => finish tab 1 Go.Proofs.Tryz.f63.results.toList sent_told_out [] fr H some) (fun _ _ _ => none) (fun fr H => finish tab 1 Go.Proofs.Tryz.f63.results.toList sent_told_out [] fr H some) 10000 [.code (fb Go.Proofs.Tryz.f63)] (instFr sent_told_in [.li states, .i ack, .i n2]) (instH sent_told_in [.li states, .i ack, .i n2]) := by kernel_rfl
def sent_told_S : List Leaf → Option (List Leaf) := fun ls => un_li ls fun states rr => un_i rr fun ack rr => un_i rr fun n2 rr => un_nil rr (sent_told states ack n2)
def sent_told_SC : Tld := fun ls k' => un_li ls fun states rr => un_i rr fun ack rr => un_i rr fun n2 rr => un_nil rr (out (sent_told states ack n2) k')
theorem sent_told_Se (states : List Int) (ack : Int) (n2 : Int) : sent_told_S [.li states, .i ack, .i n2] = sent_told states ack n2 := by
  unfold sent_told_S
  simp only [un_i_ev, un_b_ev, un_s_ev, un_li_ev, un_lb_ev, un_ls_ev, un_nil_ev]
theorem sent_told_says : Says sent_told_SC sent_told_S := by
  intro β ls' k' r' h'
  unfold sent_told_SC at h'
  obtain ⟨states, l'1, rfl, h'1⟩ := un_li_some.1 h'
  obtain ⟨ack, l'2, rfl, h'2⟩ := un_i_some.1 h'1
  obtain ⟨n2, l'3, rfl, h'3⟩ := un_i_some.1 h'2
  obtain ⟨rfl, h'Z⟩ := un_nil_some.1 h'3
  obtain ⟨l', a', b'⟩ := out_some.1 h'Z
  exact ⟨l', (sent_told_Se states ack n2).trans a', b'⟩
theorem sent_told_c : FnC Go.Proofs.Tryz.prog 63 true 3 1 sent_told_in sent_told_out sent_told_S := by
  refine fn_ok (Λ := sent_told_Λ) mixed tab_ok g32 Go.Proofs.Tryz.func63 (by kernel_rfl) (body := fb Go.Proofs.Tryz.f63) rfl (ts := Go.Proofs.Tryz.f63.results.toList) rfl (cuts := []) (by kernel_rfl) (Nat.le_of_ble_eq_true (by kernel_rfl)) (by kernel_rfl) (rt := .w (.at (.int .i64))) rfl ?_ ?_
  · intro ls' r' h'
    unfold sent_told_S at h'
    obtain ⟨states, l'1, rfl, h'1⟩ := un_li_some.1 h'
    obtain ⟨ack, l'2, rfl, h'2⟩ := un_i_some.1 h'1
    obtain ⟨n2, l'3, rfl, h'3⟩ := un_i_some.1 h'2
    obtain ⟨rfl, h'Z⟩ := un_nil_some.1 h'3
    exact (sent_told_e states ack n2).symm.trans h'Z
  · intro E w0 ws ρ0 hk b hb
    rw [show loopsOf (fb Go.Proofs.Tryz.f63) = [] by kernel_rfl] at hb
    cases hb
noncomputable def G33 : Env := G32.addP 63 3 sent_told_in sent_told_out sent_told_SC
theorem g33 : EnvOk Go.Proofs.Tryz.prog G33 := EnvOk.addP g32 sent_told_c sent_told_says

-- ### sent_lose: function 64
def sent_lose_in : Tm := ⟨[.cells 95 [.all 1 3, .int .u64, .bool], .row 98 3 [.int .u64, .int .i64, .int .i64]], [(0, .w (.at (.ptr 0 0)))]⟩
def sent_lose_out : Tm := ⟨[.cells 95 [.all 2 3, .int .u64, .bool], .dead, .row 98 3 [.int .u64, .int .i64, .int .i64], .row 22 1 [.int .u64]], [(0, .w (.at (.all 3 1)))]⟩
def sent_lose_4_T : Tm := ⟨[.cells 95 [.all 1 3, .int .u64, .bool], .row 98 3 [.int .u64, .int .i64, .int .i64], .row 22 1 [.int .u64]], [(5, .w (.at (.int .i64))), (4, .w (.at (.int .i64))), (3, .w (.at (.all 2 1))), (0, .w (.at (.ptr 0 0)))]⟩
def sent_lose_4_X0 : Tm := ⟨[.cells 95 [.all 1 3, .int .u64, .bool], .row 98 3 [.int .u64, .int .i64, .int .i64], .row 22 1 [.int .u64]], [(3, .w (.at (.all 2 1)))]⟩
def sent_lose_4_X : Exits := [(0, (sent_lose_4_X0, []))]
def sent_lose_4_R : Tm := ⟨[], []⟩

def sent_lose_Λd (L4 : ({β : Type} → (Nat → List Leaf → Option β) → (List Leaf → Option β) → Nat → List Int → List Int → List Int → List Int → Int → Bool → Int → Int → Option β)) : Loops := ⟨fun b fr H kx kr => bif Nat.beq (rid b) 4 then loopE 2 sent_lose_4_T [] sent_lose_4_X sent_lose_4_R (sent_lose_4_F @L4 top) fr H kx kr else none⟩
def sent_lose_Λ : Loops := sent_lose_Λd @sent_lose_4_L
theorem sent_lose_4_e (L4 : ({β : Type} → (Nat → List Leaf → Option β) → (List Leaf → Option β) → Nat → List Int → List Int → List Int → List Int → Int → Bool → Int → Int → Option β)) {α : Type} (kx : Nat → List Leaf → Option α) (kr : List Leaf → Option α) (again : List Int → List Int → List Int → List Int → Int → Bool → Int → Int → Option α) (s_l0 : List Int) (s_l1 : List Int) (s_l2 : List Int) (l : List Int) (s_last : Int) (s_any : Bool) (i : Int) (behind : Int) : sent_lose_4_B  kx kr again s_l0 s_l1 s_l2 l s_last s_any i behind = loopB G33 (sent_lose_Λd @L4) false tab Go.Proofs.Tryz.f64.ntmps 2 sent_lose_4_T [] sent_lose_4_X sent_lose_4_R (bodyAt (fb Go.Proofs.Tryz.f64) 0) (fun ls => un_li ls fun s_l0 rr => un_li rr fun s_l1 rr => un_li rr fun s_l2 rr => un_li rr fun l rr => un_i rr fun s_last rr => un_b rr fun s_any rr => un_i rr fun i rr => un_i rr fun behind rr => un_nil rr (again s_l0 s_l1 s_l2 l s_last s_any i behind)) kx kr (instFr sent_lose_4_T [.li s_l0, .li s_l1, .li s_l2, .li l, .i s_last, .b s_any, .i i, .i behind]) (instH sent_lose_4_T [.li s_l0, .li s_l1, .li s_l2, .li l, .i s_last, .b s_any, .i i, .i behind]) := by kernel_rfl
theorem sent_lose_4_lok (E : Nat → Prop) (w0 ws : World) (ρ0 : List Pl) (hk : ρ0.length = 2) : LOk Go.Proofs.Tryz.prog 64 Go.Proofs.Tryz.f64 false E w0 ws Go.Proofs.Tryz.f64.ntmps ρ0 sent_lose_Λ (bodyAt (fb Go.Proofs.Tryz.f64) 0) := by
  refine lok mixed tab_ok g33 Go.Proofs.Tryz.func64 hk (T := sent_lose_4_T) (rt := sent_lose_4_R) (cuts := []) (ex := sent_lose_4_X) (top := top) (F := sent_lose_4_F @sent_lose_4_L) (fun fr H kx kr => by kernel_rfl) ?_ ?_ ?_
  · intro α ls' kx' kr' r' h'
    unfold sent_lose_4_F at h'
    obtain ⟨s_l0, l'1, rfl, h'1⟩ := un_li_some.1 h'
    obtain ⟨s_l1, l'2, rfl, h'2⟩ := un_li_some.1 h'1
    obtain ⟨s_l2, l'3, rfl, h'3⟩ := un_li_some.1 h'2
    obtain ⟨l, l'4, rfl, h'4⟩ := un_li_some.1 h'3
    obtain ⟨s_last, l'5, rfl, h'5⟩ := un_i_some.1 h'4
    obtain ⟨s_any, l'6, rfl, h'6⟩ := un_b_some.1 h'5
    obtain ⟨i, l'7, rfl, h'7⟩ := un_i_some.1 h'6
    obtain ⟨behind, l'8, rfl, h'8⟩ := un_i_some.1 h'7
    obtain ⟨rfl, h'Z⟩ := un_nil_some.1 h'8
    cases h'Z
  · intro α n' ls' kx' kr' r' h'
    unfold sent_lose_4_F at h'
    obtain ⟨s_l0, l'1, rfl, h'1⟩ := un_li_some.1 h'
    obtain ⟨s_l1, l'2, rfl, h'2⟩ := un_li_some.1 h'1
    obtain ⟨s_l2, l'3, rfl, h'3⟩ := un_li_some.1 h'2
    obtain ⟨l, l'4, rfl, h'4⟩ := un_li_some.1 h'3
    obtain ⟨s_last, l'5, rfl, h'5⟩ := un_i_some.1 h'4
    obtain ⟨s_any, l'6, rfl, h'6⟩ := un_b_some.1 h'5
    obtain ⟨i, l'7, rfl, h'7⟩ := un_i_some.1 h'6
    obtain ⟨behind, l'8, rfl, h'8⟩ := un_i_some.1 h'7
    obtain ⟨rfl, h'Z⟩ := un_nil_some.1 h'8
    exact (sent_lose_4_e @sent_lose_4_L kx' kr' (sent_lose_4_L kx' kr' n') s_l0 s_l1 s_l2 l s_last s_any i behind).symm.trans h'Z
  · intro b' hb
    rw [show loopsOf (bodyAt (fb Go.Proofs.Tryz.f64) 0) = [] by kernel_rfl] at hb
    cases hb
theorem sent_lose_ed (L4 : ({β : Type} → (Nat → List Leaf → Option β) → (List Leaf → Option β) → Nat → List Int → List Int → List Int → List Int → Int → Bool → Int → Int → Option β)) (s_l0 : List Int) (s_l1 : List Int) (s_l2 : List Int) (s_last : Int) (s_any : Bool) : sent_lose_d @L4 s_l0 s_l1 s_l2 s_last s_any = den G33 (sent_lose_Λd @L4) false tab Go.Proofs.Tryz.f64.ntmps (fun fr H => finish tab 2 Go.Proofs.Tryz.f64.results.toList sent_lose_out [] fr H some) (fun _ _ _ => none) (fun fr H => finish tab 2 Go.Proofs.Tryz.f64.results.toList sent_lose_out [] fr H some) 10000 [.code (fb Go.Proofs.Tryz.f64)] (instFr sent_lose_in [.li s_l0, .li s_l1, .li s_l2, .i s_last, .b s_any]) (instH sent_lose_in [.li s_l0, .li s_l1, .li s_l2, .i s_last, .b s_any]) := by kernel_rfl
theorem sent_lose_e (s_l0 : List Int) (s_l1 : List Int) (s_l2 : List Int) (s_last : Int) (s_any : Bool) : sent_lose s_l0 s_l1 s_l2 s_last s_any = den G33 sent_lose_Λ false tab Go.Proofs.Tryz.f64.ntmps (fun fr H => finish tab 2 Go.Proofs.Tryz.f64.results.toList sent_lose_out [] fr H some) (fun _ _ _ => none) (fun fr H => finish tab 2 Go.Proofs.Tryz.f64.results.toList sent_lose_out [] fr H some) 10000 [.code (fb Go.Proofs.Tryz.f64)] (instFr sent_lose_in [.li s_l0, .li s_l1, .li s_l2, .i s_last, .b s_any]) (instH sent_lose_in [.li s_l0, .li s_l1, .li s_l2, .i s_last, .b s_any]) := sent_lose_ed @sent_lose_4_L s_l0 s_l1 s_l2 s_last s_any
def sent_lose_S : List Leaf → Option (List Leaf) := fun ls => un_li ls fun s_l0 rr => un_li rr fun s_l1 rr => un_li rr fun s_l2 rr => un_i rr fun s_last rr => un_b rr fun s_any rr => un_nil rr (sent_lose s_l0 s_l1 s_l2 s_last s_any)
def sent_lose_SC : Tld := fun ls k' => un_li ls fun s_l0 rr => un_li rr fun s_l1 rr => un_li rr fun s_l2 rr => un_i rr fun s_last rr => un_b rr fun s_any rr => un_nil rr (out (sent_lose s_l0 s_l1 s_l2 s_last s_any) k')
theorem sent_lose_Se (s_l0 : List Int) (s_l1 : List Int) (s_l2 : List Int) (s_last : Int) (s_any : Bool) : sent_lose_S [.li s_l0, .li s_l1, .li s_l2, .i s_last, .b s_any] = sent_lose s_l0 s_l1 s_l2 s_last s_any := by
  unfold sent_lose_S
  simp only [un_i_ev, un_b_ev, un_s_ev, un_li_ev, un_lb_ev, un_ls_ev, un_nil_ev]
theorem sent_lose_says : Says sent_lose_SC sent_lose_S := by
  intro β ls' k' r' h'
  unfold sent_lose_SC at h'
  obtain ⟨s_l0, l'1, rfl, h'1⟩ := un_li_some.1 h'
  obtain ⟨s_l1, l'2, rfl, h'2⟩ := un_li_some.1 h'1
  obtain ⟨s_l2, l'3, rfl, h'3⟩ := un_li_some.1 h'2
  obtain ⟨s_last, l'4, rfl, h'4⟩ := un_i_some.1 h'3
  obtain ⟨s_any, l'5, rfl, h'5⟩ := un_b_some.1 h'4
  obtain ⟨rfl, h'Z⟩ := un_nil_some.1 h'5
  obtain ⟨l', a', b'⟩ := out_some.1 h'Z
  exact ⟨l', (sent_lose_Se s_l0 s_l1 s_l2 s_last s_any).trans a', b'⟩
theorem sent_lose_c : FnC Go.Proofs.Tryz.prog 64 false 1 2 sent_lose_in sent_lose_out sent_lose_S := by
  refine fn_ok (Λ := sent_lose_Λ) mixed tab_ok g33 Go.Proofs.Tryz.func64 (by kernel_rfl) (body := fb Go.Proofs.Tryz.f64) rfl (ts := Go.Proofs.Tryz.f64.results.toList) rfl (cuts := []) (by kernel_rfl) (Nat.le_of_ble_eq_true (by kernel_rfl)) (by kernel_rfl) (rt := .w (.at (.all 3 1))) rfl ?_ ?_
  · intro ls' r' h'
    unfold sent_lose_S at h'
    obtain ⟨s_l0, l'1, rfl, h'1⟩ := un_li_some.1 h'
    obtain ⟨s_l1, l'2, rfl, h'2⟩ := un_li_some.1 h'1
    obtain ⟨s_l2, l'3, rfl, h'3⟩ := un_li_some.1 h'2
    obtain ⟨s_last, l'4, rfl, h'4⟩ := un_i_some.1 h'3
    obtain ⟨s_any, l'5, rfl, h'5⟩ := un_b_some.1 h'4
    obtain ⟨rfl, h'Z⟩ := un_nil_some.1 h'5
    exact (sent_lose_e s_l0 s_l1 s_l2 s_last s_any).symm.trans h'Z
  · intro E w0 ws ρ0 hk b hb
    rw [show loopsOf (fb Go.Proofs.Tryz.f64) = [(bodyAt (fb Go.Proofs.Tryz.f64) 0)] by kernel_rfl] at hb
    simp only [List.mem_cons, List.mem_nil_iff, or_false] at hb
    rcases hb with rfl
    · exact sent_lose_4_lok E w0 ws ρ0 hk
noncomputable def G34 : Env := G33.addE 64 1 sent_lose_in sent_lose_out sent_lose_SC
theorem g34 : EnvOk Go.Proofs.Tryz.prog G34 := EnvOk.addE g33 sent_lose_c sent_lose_says

-- ### sent_Hear: function 22
def sent_Hear_in : Tm := ⟨[.cells 95 [.all 1 3, .int .u64, .bool], .row 98 3 [.int .u64, .int .i64, .int .i64], .ro 36 2 [.int .i64, .int .i64]], [(0, .w (.at (.ptr 0 0))), (1, .w (.at (.int .u64))), (2, .w (.at (.all 2 2))), (3, .w (.at (.int .i64)))]⟩
def sent_Hear_out : Tm := ⟨[.cells 95 [.all 3 3, .int .u64, .bool], .dead, .dead, .row 98 3 [.int .u64, .int .i64, .int .i64], .row 22 1 [.int .u64], .row 22 1 [.int .u64], .row 22 1 [.int .u64]], [(0, .w (.agg [.all 4 1, .all 5 1, .all 6 1, .int .i64, .int .i64]))]⟩
def sent_Hear_6_T : Tm := ⟨[.cells 95 [.all 1 3, .int .u64, .bool], .row 98 3 [.int .u64, .int .i64, .int .i64], .ro 36 2 [.int .i64, .int .i64], .cells 33 [.all 4 1, .all 5 1, .all 6 1, .int .i64, .int .i64], .row 22 1 [.int .u64], .row 22 1 [.int .u64], .row 22 1 [.int .u64], .row 3 1 [.int .i64], .cells 33 [.all 9 1, .all 10 1, .all 11 1, .int .i64, .int .i64], .row 22 1 [.int .u64], .row 22 1 [.int .u64], .row 22 1 [.int .u64]], [(30, .w (.at (.int .i64))), (9, .w (.at (.ptr 3 0))), (3, .w (.at (.int .i64))), (10, .w (.at (.all 7 1))), (1, .w (.at (.int .u64))), (0, .w (.at (.ptr 0 0))), (8, .w (.at (.ptr 8 0))), (29, .w (.at (.int .i64)))]⟩
def sent_Hear_6_X0 : Tm := ⟨[.cells 95 [.all 1 3, .int .u64, .bool], .row 98 3 [.int .u64, .int .i64, .int .i64], .ro 36 2 [.int .i64, .int .i64], .cells 33 [.all 4 1, .all 5 1, .all 6 1, .int .i64, .int .i64], .row 22 1 [.int .u64], .row 22 1 [.int .u64], .row 22 1 [.int .u64], .cells 33 [.all 8 1, .all 9 1, .all 10 1, .int .i64, .int .i64], .row 22 1 [.int .u64], .row 22 1 [.int .u64], .row 22 1 [.int .u64]], [(8, .w (.at (.ptr 3 0))), (9, .w (.at (.ptr 7 0))), (0, .w (.at (.ptr 0 0)))]⟩
def sent_Hear_6_X : Exits := [(0, (sent_Hear_6_X0, []))]
def sent_Hear_6_R : Tm := ⟨[], []⟩

def sent_Hear_Λd (L6 : ({β : Type} → (Nat → List Leaf → Option β) → (List Leaf → Option β) → Nat → List Int → List Int → List Int → List Int → List Int → List Int → List Int → List Int → List Int → List Int → List Int → List Int → Int → Bool → Int → Int → Int → Int → Int → Int → Int → Int → Option β)) : Loops := ⟨fun b fr H kx kr => bif Nat.beq (rid b) 6 then loopE 3 sent_Hear_6_T [] sent_Hear_6_X sent_Hear_6_R (sent_Hear_6_F @L6 top) fr H kx kr else none⟩
def sent_Hear_Λ : Loops := sent_Hear_Λd @sent_Hear_6_L
theorem sent_Hear_6_e (L6 : ({β : Type} → (Nat → List Leaf → Option β) → (List Leaf → Option β) → Nat → List Int → List Int → List Int → List Int → List Int → List Int → List Int → List Int → List Int → List Int → List Int → List Int → Int → Bool → Int → Int → Int → Int → Int → Int → Int → Int → Option β)) {α : Type} (kx : Nat → List Leaf → Option α) (kr : List Leaf → Option α) (again : List Int → List Int → List Int → List Int → List Int → List Int → List Int → List Int → List Int → List Int → List Int → List Int → Int → Bool → Int → Int → Int → Int → Int → Int → Int → Int → Option α) (s_l0 : List Int) (s_l1 : List Int) (s_l2 : List Int) (cells0 : List Int) (cells1 : List Int) (h_Got : List Int) (h_Late : List Int) (h_Lost : List Int) (states : List Int) (t8_Got : List Int) (t8_Late : List Int) (t8_Lost : List Int) (s_last : Int) (s_any : Bool) (h_Marks : Int) (h_Rtt : Int) (t8_Marks : Int) (t8_Rtt : Int) (t30 : Int) (now : Int) (ack : Int) (t29 : Int) : sent_Hear_6_B  kx kr again s_l0 s_l1 s_l2 cells0 cells1 h_Got h_Late h_Lost states t8_Got t8_Late t8_Lost s_last s_any h_Marks h_Rtt t8_Marks t8_Rtt t30 now ack t29 = loopB G34 (sent_Hear_Λd @L6) false tab Go.Proofs.Tryz.f22.ntmps 3 sent_Hear_6_T [] sent_Hear_6_X sent_Hear_6_R (bodyAt (fb Go.Proofs.Tryz.f22) 0) (fun ls => un_li ls fun s_l0 rr => un_li rr fun s_l1 rr => un_li rr fun s_l2 rr => un_li rr fun cells0 rr => un_li rr fun cells1 rr => un_li rr fun h_Got rr => un_li rr fun h_Late rr => un_li rr fun h_Lost rr => un_li rr fun states rr => un_li rr fun t8_Got rr => un_li rr fun t8_Late rr => un_li rr fun t8_Lost rr => un_i rr fun s_last rr => un_b rr fun s_any rr => un_i rr fun h_Marks rr => un_i rr fun h_Rtt rr => un_i rr fun t8_Marks rr => un_i rr fun t8_Rtt rr => un_i rr fun t30 rr => un_i rr fun now rr => un_i rr fun ack rr => un_i rr fun t29 rr => un_nil rr (again s_l0 s_l1 s_l2 cells0 cells1 h_Got h_Late h_Lost states t8_Got t8_Late t8_Lost s_last s_any h_Marks h_Rtt t8_Marks t8_Rtt t30 now ack t29)) kx kr (instFr sent_Hear_6_T [.li s_l0, .li s_l1, .li s_l2, .li cells0, .li cells1, .li h_Got, .li h_Late, .li h_Lost, .li states, .li t8_Got, .li t8_Late, .li t8_Lost, .i s_last, .b s_any, .i h_Marks, .i h_Rtt, .i t8_Marks, .i t8_Rtt, .i t30, .i now, .i ack, .i t29]) (instH sent_Hear_6_T [.li s_l0, .li s_l1, .li s_l2, .li cells0, .li cells1, .li h_Got, .li h_Late, .li h_Lost, .li states, .li t8_Got, .li t8_Late, .li t8_Lost, .i s_last, .b s_any, .i h_Marks, .i h_Rtt, .i t8_Marks, .i t8_Rtt, .i t30, .i now, .i ack, .i t29]) := by kernel_rfl
theorem sent_Hear_6_lok (E : Nat → Prop) (w0 ws : World) (ρ0 : List Pl) (hk : ρ0.length = 3) : LOk Go.Proofs.Tryz.prog 22 Go.Proofs.Tryz.f22 false E w0 ws Go.Proofs.Tryz.f22.ntmps ρ0 sent_Hear_Λ (bodyAt (fb Go.Proofs.Tryz.f22) 0) := by
  refine lok mixed tab_ok g34 Go.Proofs.Tryz.func22 hk (T := sent_Hear_6_T) (rt := sent_Hear_6_R) (cuts := []) (ex := sent_Hear_6_X) (top := top) (F := sent_Hear_6_F @sent_Hear_6_L) (fun fr H kx kr => by kernel_rfl) ?_ ?_ ?_
  · intro α ls' kx' kr' r' h'
    unfold sent_Hear_6_F at h'
    obtain ⟨s_l0, l'1, rfl, h'1⟩ := un_li_some.1 h'
    obtain ⟨s_l1, l'2, rfl, h'2⟩ := un_li_some.1 h'1
    obtain ⟨s_l2, l'3, rfl, h'3⟩ := un_li_some.1 h'2
    obtain ⟨cells0, l'4, rfl, h'4⟩ := un_li_some.1 h'3
    obtain ⟨cells1, l'5, rfl, h'5⟩ := un_li_some.1 h'4
    obtain ⟨h_Got, l'6, rfl, h'6⟩ := un_li_some.1 h'5
    obtain ⟨h_Late, l'7, rfl, h'7⟩ := un_li_some.1 h'6
    obtain ⟨h_Lost, l'8, rfl, h'8⟩ := un_li_some.1 h'7
    obtain ⟨states, l'9, rfl, h'9⟩ := un_li_some.1 h'8
    obtain ⟨t8_Got, l'10, rfl, h'10⟩ := un_li_some.1 h'9
    obtain ⟨t8_Late, l'11, rfl, h'11⟩ := un_li_some.1 h'10
    obtain ⟨t8_Lost, l'12, rfl, h'12⟩ := un_li_some.1 h'11
    obtain ⟨s_last, l'13, rfl, h'13⟩ := un_i_some.1 h'12
    obtain ⟨s_any, l'14, rfl, h'14⟩ := un_b_some.1 h'13
    obtain ⟨h_Marks, l'15, rfl, h'15⟩ := un_i_some.1 h'14
    obtain ⟨h_Rtt, l'16, rfl, h'16⟩ := un_i_some.1 h'15
    obtain ⟨t8_Marks, l'17, rfl, h'17⟩ := un_i_some.1 h'16
    obtain ⟨t8_Rtt, l'18, rfl, h'18⟩ := un_i_some.1 h'17
    obtain ⟨t30, l'19, rfl, h'19⟩ := un_i_some.1 h'18
    obtain ⟨now, l'20, rfl, h'20⟩ := un_i_some.1 h'19
    obtain ⟨ack, l'21, rfl, h'21⟩ := un_i_some.1 h'20
    obtain ⟨t29, l'22, rfl, h'22⟩ := un_i_some.1 h'21
    obtain ⟨rfl, h'Z⟩ := un_nil_some.1 h'22
    cases h'Z
  · intro α n' ls' kx' kr' r' h'
    unfold sent_Hear_6_F at h'
    obtain ⟨s_l0, l'1, rfl, h'1⟩ := un_li_some.1 h'
    obtain ⟨s_l1, l'2, rfl, h'2⟩ := un_li_some.1 h'1
    obtain ⟨s_l2, l'3, rfl, h'3⟩ := un_li_some.1 h'2
    obtain ⟨cells0, l'4, rfl, h'4⟩ := un_li_some.1 h'3
    obtain ⟨cells1, l'5, rfl, h'5⟩ := un_li_some.1 h'4
    obtain ⟨h_Got, l'6, rfl, h'6⟩ := un_li_some.1 h'5
    obtain ⟨h_Late, l'7, rfl, h'7⟩ := un_li_some.1 h'6
    obtain ⟨h_Lost, l'8, rfl, h'8⟩ := un_li_some.1 h'7
    obtain ⟨states, l'9, rfl, h'9⟩ := un_li_some.1 h'8
    obtain ⟨t8_Got, l'10, rfl, h'10⟩ := un_li_some.1 h'9
    obtain ⟨t8_Late, l'11, rfl, h'11⟩ := un_li_some.1 h'10
    obtain ⟨t8_Lost, l'12, rfl, h'12⟩ := un_li_some.1 h'11
    obtain ⟨s_last, l'13, rfl, h'13⟩ := un_i_some.1 h'12
    obtain ⟨s_any, l'14, rfl, h'14⟩ := un_b_some.1 h'13
    obtain ⟨h_Marks, l'15, rfl, h'15⟩ := un_i_some.1 h'14
    obtain ⟨h_Rtt, l'16, rfl, h'16⟩ := un_i_some.1 h'15
    obtain ⟨t8_Marks, l'17, rfl, h'17⟩ := un_i_some.1 h'16
    obtain ⟨t8_Rtt, l'18, rfl, h'18⟩ := un_i_some.1 h'17
    obtain ⟨t30, l'19, rfl, h'19⟩ := un_i_some.1 h'18
    obtain ⟨now, l'20, rfl, h'20⟩ := un_i_some.1 h'19
    obtain ⟨ack, l'21, rfl, h'21⟩ := un_i_some.1 h'20
    obtain ⟨t29, l'22, rfl, h'22⟩ := un_i_some.1 h'21
    obtain ⟨rfl, h'Z⟩ := un_nil_some.1 h'22
    exact (sent_Hear_6_e @sent_Hear_6_L kx' kr' (sent_Hear_6_L kx' kr' n') s_l0 s_l1 s_l2 cells0 cells1 h_Got h_Late h_Lost states t8_Got t8_Late t8_Lost s_last s_any h_Marks h_Rtt t8_Marks t8_Rtt t30 now ack t29).symm.trans h'Z
  · intro b' hb
    rw [show loopsOf (bodyAt (fb Go.Proofs.Tryz.f22) 0) = [] by kernel_rfl] at hb
    cases hb
theorem sent_Hear_ed (L6 : ({β : Type} → (Nat → List Leaf → Option β) → (List Leaf → Option β) → Nat → List Int → List Int → List Int → List Int → List Int → List Int → List Int → List Int → List Int → List Int → List Int → List Int → Int → Bool → Int → Int → Int → Int → Int → Int → Int → Int → Option β)) (s_l0 : List Int) (s_l1 : List Int) (s_l2 : List Int) (cells0 : List Int) (cells1 : List Int) (s_last : Int) (s_any : Bool) (ack : Int) (now : Int) : sent_Hear_d @L6 s_l0 s_l1 s_l2 cells0 cells1 s_last s_any ack now = den G34 (sent_Hear_Λd @L6) false tab Go.Proofs.Tryz.f22.ntmps (fun fr H => finish tab 3 Go.Proofs.Tryz.f22.results.toList sent_Hear_out [] fr H some) (fun _ _ _ => none) (fun fr H => finish tab 3 Go.Proofs.Tryz.f22.results.toList sent_Hear_out [] fr H some) 10000 [.code (fb Go.Proofs.Tryz.f22)] (instFr sent_Hear_in [.li s_l0, .li s_l1, .li s_l2, .li cells0, .li cells1, .i s_last, .b s_any, .i ack, .i now]) (instH sent_Hear_in [.li s_l0, .li s_l1, .li s_l2, .li cells0, .li cells1, .i s_last, .b s_any, .i ack, .i now]) := by kernel_rfl
theorem sent_Hear_e (s_l0 : List Int) (s_l1 : List Int) (s_l2 : List Int) (cells0 : List Int) (cells1 : List Int) (s_last : Int) (s_any : Bool) (ack : Int) (now : Int) : sent_Hear s_l0 s_l1 s_l2 cells0 cells1 s_last s_any ack now = den G34 sent_Hear_Λ false tab Go.Proofs.Tryz.f22.ntmps (fun fr H => finish tab 3 Go.Proofs.Tryz.f22.results.toList sent_Hear_out [] fr H some) (fun _ _ _ => none) (fun fr H => finish tab 3 Go.Proofs.Tryz.f22.results.toList sent_Hear_out [] fr H some) 10000 [.code (fb Go.Proofs.Tryz.f22)] (instFr sent_Hear_in [.li s_l0, .li s_l1, .li s_l2, .li cells0, .li cells1, .i s_last, .b s_any, .i ack, .i now]) (instH sent_Hear_in [.li s_l0, .li s_l1, .li s_l2, .li cells0, .li cells1, .i s_last, .b s_any, .i ack, .i now]) := sent_Hear_ed @sent_Hear_6_L s_l0 s_l1 s_l2 cells0 cells1 s_last s_any ack now
def sent_Hear_S : List Leaf → Option (List Leaf) := fun ls => un_li ls fun s_l0 rr => un_li rr fun s_l1 rr => un_li rr fun s_l2 rr => un_li rr fun cells0 rr => un_li rr fun cells1 rr => un_i rr fun s_last rr => un_b rr fun s_any rr => un_i rr fun ack rr => un_i rr fun now rr => un_nil rr (sent_Hear s_l0 s_l1 s_l2 cells0 cells1 s_last s_any ack now)
def sent_Hear_SC : Tld := fun ls k' => un_li ls fun s_l0 rr => un_li rr fun s_l1 rr => un_li rr fun s_l2 rr => un_li rr fun cells0 rr => un_li rr fun cells1 rr => un_i rr fun s_last rr => un_b rr fun s_any rr => un_i rr fun ack rr => un_i rr fun now rr => un_nil rr (out (sent_Hear s_l0 s_l1 s_l2 cells0 cells1 s_last s_any ack now) k')
theorem sent_Hear_Se (s_l0 : List Int) (s_l1 : List Int) (s_l2 : List Int) (cells0 : List Int) (cells1 : List Int) (s_last : Int) (s_any : Bool) (ack : Int) (now : Int) : sent_Hear_S [.li s_l0, .li s_l1, .li s_l2, .li cells0, .li cells1, .i s_last, .b s_any, .i ack, .i now] = sent_Hear s_l0 s_l1 s_l2 cells0 cells1 s_last s_any ack now := by
  unfold sent_Hear_S
  simp only [un_i_ev, un_b_ev, un_s_ev, un_li_ev, un_lb_ev, un_ls_ev, un_nil_ev]
theorem sent_Hear_says : Says sent_Hear_SC sent_Hear_S := by
  intro β ls' k' r' h'
  unfold sent_Hear_SC at h'
  obtain ⟨s_l0, l'1, rfl, h'1⟩ := un_li_some.1 h'
  obtain ⟨s_l1, l'2, rfl, h'2⟩ := un_li_some.1 h'1
  obtain ⟨s_l2, l'3, rfl, h'3⟩ := un_li_some.1 h'2
  obtain ⟨cells0, l'4, rfl, h'4⟩ := un_li_some.1 h'3
  obtain ⟨cells1, l'5, rfl, h'5⟩ := un_li_some.1 h'4
  obtain ⟨s_last, l'6, rfl, h'6⟩ := un_i_some.1 h'5
  obtain ⟨s_any, l'7, rfl, h'7⟩ := un_b_some.1 h'6
  obtain ⟨ack, l'8, rfl, h'8⟩ := un_i_some.1 h'7
  obtain ⟨now, l'9, rfl, h'9⟩ := un_i_some.1 h'8
  obtain ⟨rfl, h'Z⟩ := un_nil_some.1 h'9
  obtain ⟨l', a', b'⟩ := out_some.1 h'Z
  exact ⟨l', (sent_Hear_Se s_l0 s_l1 s_l2 cells0 cells1 s_last s_any ack now).trans a', b'⟩
theorem sent_Hear_c : FnC Go.Proofs.Tryz.prog 22 false 4 3 sent_Hear_in sent_Hear_out sent_Hear_S := by
  refine fn_ok (Λ := sent_Hear_Λ) mixed tab_ok g34 Go.Proofs.Tryz.func22 (by kernel_rfl) (body := fb Go.Proofs.Tryz.f22) rfl (ts := Go.Proofs.Tryz.f22.results.toList) rfl (cuts := []) (by kernel_rfl) (Nat.le_of_ble_eq_true (by kernel_rfl)) (by kernel_rfl) (rt := .w (.agg [.all 4 1, .all 5 1, .all 6 1, .int .i64, .int .i64])) rfl ?_ ?_
  · intro ls' r' h'
    unfold sent_Hear_S at h'
    obtain ⟨s_l0, l'1, rfl, h'1⟩ := un_li_some.1 h'
    obtain ⟨s_l1, l'2, rfl, h'2⟩ := un_li_some.1 h'1
    obtain ⟨s_l2, l'3, rfl, h'3⟩ := un_li_some.1 h'2
    obtain ⟨cells0, l'4, rfl, h'4⟩ := un_li_some.1 h'3
    obtain ⟨cells1, l'5, rfl, h'5⟩ := un_li_some.1 h'4
    obtain ⟨s_last, l'6, rfl, h'6⟩ := un_i_some.1 h'5
    obtain ⟨s_any, l'7, rfl, h'7⟩ := un_b_some.1 h'6
    obtain ⟨ack, l'8, rfl, h'8⟩ := un_i_some.1 h'7
    obtain ⟨now, l'9, rfl, h'9⟩ := un_i_some.1 h'8
    obtain ⟨rfl, h'Z⟩ := un_nil_some.1 h'9
    exact (sent_Hear_e s_l0 s_l1 s_l2 cells0 cells1 s_last s_any ack now).symm.trans h'Z
  · intro E w0 ws ρ0 hk b hb
    rw [show loopsOf (fb Go.Proofs.Tryz.f22) = [(bodyAt (fb Go.Proofs.Tryz.f22) 0)] by kernel_rfl] at hb
    simp only [List.mem_cons, List.mem_nil_iff, or_false] at hb
    rcases hb with rfl
    · exact sent_Hear_6_lok E w0 ws ρ0 hk
noncomputable def G35 : Env := G34.addE 22 4 sent_Hear_in sent_Hear_out sent_Hear_SC
theorem g35 : EnvOk Go.Proofs.Tryz.prog G35 := EnvOk.addE g34 sent_Hear_c sent_Hear_says

-- ### sent_Len: function 19
def sent_Len_in : Tm := ⟨[.cells 95 [.all 1 3, .int .u64, .bool], .row 98 3 [.int .u64, .int .i64, .int .i64]], [(0, .w (.at (.ptr 0 0)))]⟩
def sent_Len_out : Tm := ⟨[.dead, .dead], [(0, .w (.at (.int .i64)))]⟩

def sent_Len_Λd : Loops := Loops.none
def sent_Len_Λ : Loops := sent_Len_Λd 

theorem sent_Len_e (s_l0 : List Int) (s_l1 : List Int) (s_l2 : List Int) (s_last : Int) (s_any : Bool) : sent_Len s_l0 s_l1 s_l2 s_last s_any = den G35 sent_Len_Λ true tab Go.Proofs.Tryz.f19.ntmps (fun fr H => finish tab 2 Go.Proofs.Tryz.f19.results.toList sent_Len_out [] fr H some) (fun _ _ _ => none) (fun fr H => finish tab 2 Go.Proofs.Tryz.f19.results.toList sent_Len_out [] fr H some) 10000 [.code (fb Go.Proofs.Tryz.f19)] (instFr sent_Len_in [.li s_l0, .li s_l1, .li s_l2, .i s_last, .b s_any]) (instH sent_Len_in [.li s_l0, .li s_l1, .li s_l2, .i s_last, .b s_any]) := by kernel_rfl
def sent_Len_S : List Leaf → Option (List Leaf) := fun ls => un_li ls fun s_l0 rr => un_li rr fun s_l1 rr => un_li rr fun s_l2 rr => un_i rr fun s_last rr => un_b rr fun s_any rr => un_nil rr (sent_Len s_l0 s_l1 s_l2 s_last s_any)
def sent_Len_SC : Tld := fun ls k' => un_li ls fun s_l0 rr => un_li rr fun s_l1 rr => un_li rr fun s_l2 rr => un_i rr fun s_last rr => un_b rr fun s_any rr => un_nil rr (out (sent_Len s_l0 s_l1 s_l2 s_last s_any) k')
theorem sent_Len_Se (s_l0 : List Int) (s_l1 : List Int) (s_l2 : List Int) (s_last : Int) (s_any : Bool) : sent_Len_S [.li s_l0, .li s_l1, .li s_l2, .i s_last, .b s_any] = sent_Len s_l0 s_l1 s_l2 s_last s_any := by
  unfold sent_Len_S
  simp only [un_i_ev, un_b_ev, un_s_ev, un_li_ev, un_lb_ev, un_ls_ev, un_nil_ev]
theorem sent_Len_says : Says sent_Len_SC sent_Len_S := by
  intro β ls' k' r' h'
  unfold sent_Len_SC at h'
  obtain ⟨s_l0, l'1, rfl, h'1⟩ := un_li_some.1 h'
  obtain ⟨s_l1, l'2, rfl, h'2⟩ := un_li_some.1 h'1
  obtain ⟨s_l2, l'3, rfl, h'3⟩ := un_li_some.1 h'2
  obtain ⟨s_last, l'4, rfl, h'4⟩ := un_i_some.1 h'3
  obtain ⟨s_any, l'5, rfl, h'5⟩ := un_b_some.1 h'4
  obtain ⟨rfl, h'Z⟩ := un_nil_some.1 h'5
  obtain ⟨l', a', b'⟩ := out_some.1 h'Z
  exact ⟨l', (sent_Len_Se s_l0 s_l1 s_l2 s_last s_any).trans a', b'⟩
theorem sent_Len_c : FnC Go.Proofs.Tryz.prog 19 true 1 2 sent_Len_in sent_Len_out sent_Len_S := by
  refine fn_ok (Λ := sent_Len_Λ) mixed tab_ok g35 Go.Proofs.Tryz.func19 (by kernel_rfl) (body := fb Go.Proofs.Tryz.f19) rfl (ts := Go.Proofs.Tryz.f19.results.toList) rfl (cuts := []) (by kernel_rfl) (Nat.le_of_ble_eq_true (by kernel_rfl)) (by kernel_rfl) (rt := .w (.at (.int .i64))) rfl ?_ ?_
  · intro ls' r' h'
    unfold sent_Len_S at h'
    obtain ⟨s_l0, l'1, rfl, h'1⟩ := un_li_some.1 h'
    obtain ⟨s_l1, l'2, rfl, h'2⟩ := un_li_some.1 h'1
    obtain ⟨s_l2, l'3, rfl, h'3⟩ := un_li_some.1 h'2
    obtain ⟨s_last, l'4, rfl, h'4⟩ := un_i_some.1 h'3
    obtain ⟨s_any, l'5, rfl, h'5⟩ := un_b_some.1 h'4
    obtain ⟨rfl, h'Z⟩ := un_nil_some.1 h'5
    exact (sent_Len_e s_l0 s_l1 s_l2 s_last s_any).symm.trans h'Z
  · intro E w0 ws ρ0 hk b hb
    rw [show loopsOf (fb Go.Proofs.Tryz.f19) = [] by kernel_rfl] at hb
    cases hb
noncomputable def G36 : Env := G35.addP 19 1 sent_Len_in sent_Len_out sent_Len_SC
theorem g36 : EnvOk Go.Proofs.Tryz.prog G36 := EnvOk.addP g35 sent_Len_c sent_Len_says

-- ### sent_Out: function 20
def sent_Out_in : Tm := ⟨[.cells 95 [.all 1 3, .int .u64, .bool], .row 98 3 [.int .u64, .int .i64, .int .i64]], [(0, .w (.at (.ptr 0 0)))]⟩
def sent_Out_out : Tm := ⟨[.dead, .dead], [(0, .w (.at (.int .i64)))]⟩
def sent_Out_3_T : Tm := ⟨[.cells 95 [.all 1 3, .int .u64, .bool], .row 98 3 [.int .u64, .int .i64, .int .i64]], [(7, .w (.at (.int .i64))), (3, .w (.at (.int .i64))), (0, .w (.at (.ptr 0 0))), (6, .w (.at (.int .i64)))]⟩
def sent_Out_3_X0 : Tm := ⟨[.cells 95 [.all 1 3, .int .u64, .bool], .row 98 3 [.int .u64, .int .i64, .int .i64]], [(3, .w (.at (.int .i64)))]⟩
def sent_Out_3_X : Exits := [(0, (sent_Out_3_X0, []))]
def sent_Out_3_R : Tm := ⟨[], []⟩

def sent_Out_Λd (L3 : ({β : Type} → (Nat → List Leaf → Option β) → (List Leaf → Option β) → Nat → List Int → List Int → List Int → Int → Bool → Int → Int → Int → Option β)) : Loops := ⟨fun b fr H kx kr => bif Nat.beq (rid b) 3 then loopE 2 sent_Out_3_T [] sent_Out_3_X sent_Out_3_R (sent_Out_3_F @L3 top) fr H kx kr else none⟩
def sent_Out_Λ : Loops := sent_Out_Λd @sent_Out_3_L
theorem sent_Out_3_e (L3 : ({β : Type} → (Nat → List Leaf → Option β) → (List Leaf → Option β) → Nat → List Int → List Int → List Int → Int → Bool → Int → Int → Int → Option β)) {α : Type} (kx : Nat → List Leaf → Option α) (kr : List Leaf → Option α) (again : List Int → List Int → List Int → Int → Bool → Int → Int → Int → Option α) (s_l0 : List Int) (s_l1 : List Int) (s_l2 : List Int) (s_last : Int) (s_any : Bool) (t7 : Int) (n2 : Int) (t6 : Int) : sent_Out_3_B  kx kr again s_l0 s_l1 s_l2 s_last s_any t7 n2 t6 = loopB G36 (sent_Out_Λd @L3) true tab Go.Proofs.Tryz.f20.ntmps 2 sent_Out_3_T [] sent_Out_3_X sent_Out_3_R (bodyAt (fb Go.Proofs.Tryz.f20) 0) (fun ls => un_li ls fun s_l0 rr => un_li rr fun s_l1 rr => un_li rr fun s_l2 rr => un_i rr fun s_last rr => un_b rr fun s_any rr => un_i rr fun t7 rr => un_i rr fun n2 rr => un_i rr fun t6 rr => un_nil rr (again s_l0 s_l1 s_l2 s_last s_any t7 n2 t6)) kx kr (instFr sent_Out_3_T [.li s_l0, .li s_l1, .li s_l2, .i s_last, .b s_any, .i t7, .i n2, .i t6]) (instH sent_Out_3_T [.li s_l0, .li s_l1, .li s_l2, .i s_last, .b s_any, .i t7, .i n2, .i t6]) := by kernel_rfl
theorem sent_Out_3_lok (E : Nat → Prop) (w0 ws : World) (ρ0 : List Pl) (hk : ρ0.length = 2) : LOk Go.Proofs.Tryz.prog 20 Go.Proofs.Tryz.f20 true E w0 ws Go.Proofs.Tryz.f20.ntmps ρ0 sent_Out_Λ (bodyAt (fb Go.Proofs.Tryz.f20) 0) := by
  refine lok mixed tab_ok g36 Go.Proofs.Tryz.func20 hk (T := sent_Out_3_T) (rt := sent_Out_3_R) (cuts := []) (ex := sent_Out_3_X) (top := top) (F := sent_Out_3_F @sent_Out_3_L) (fun fr H kx kr => by kernel_rfl) ?_ ?_ ?_
  · intro α ls' kx' kr' r' h'
    unfold sent_Out_3_F at h'
    obtain ⟨s_l0, l'1, rfl, h'1⟩ := un_li_some.1 h'
    obtain ⟨s_l1, l'2, rfl, h'2⟩ := un_li_some.1 h'1
    obtain ⟨s_l2, l'3, rfl, h'3⟩ := un_li_some.1 h'2
    obtain ⟨s_last, l'4, rfl, h'4⟩ := un_i_some.1 h'3
    obtain ⟨s_any, l'5, rfl, h'5⟩ := un_b_some.1 h'4
    obtain ⟨t7, l'6, rfl, h'6⟩ := un_i_some.1 h'5
    obtain ⟨n2, l'7, rfl, h'7⟩ := un_i_some.1 h'6
    obtain ⟨t6, l'8, rfl, h'8⟩ := un_i_some.1 h'7
    obtain ⟨rfl, h'Z⟩ := un_nil_some.1 h'8
    cases h'Z
  · intro α n' ls' kx' kr' r' h'
    unfold sent_Out_3_F at h'
    obtain ⟨s_l0, l'1, rfl, h'1⟩ := un_li_some.1 h'
    obtain ⟨s_l1, l'2, rfl, h'2⟩ := un_li_some.1 h'1
    obtain ⟨s_l2, l'3, rfl, h'3⟩ := un_li_some.1 h'2
    obtain ⟨s_last, l'4, rfl, h'4⟩ := un_i_some.1 h'3
    obtain ⟨s_any, l'5, rfl, h'5⟩ := un_b_some.1 h'4
    obtain ⟨t7, l'6, rfl, h'6⟩ := un_i_some.1 h'5
    obtain ⟨n2, l'7, rfl, h'7⟩ := un_i_some.1 h'6
    obtain ⟨t6, l'8, rfl, h'8⟩ := un_i_some.1 h'7
    obtain ⟨rfl, h'Z⟩ := un_nil_some.1 h'8
    exact (sent_Out_3_e @sent_Out_3_L kx' kr' (sent_Out_3_L kx' kr' n') s_l0 s_l1 s_l2 s_last s_any t7 n2 t6).symm.trans h'Z
  · intro b' hb
    rw [show loopsOf (bodyAt (fb Go.Proofs.Tryz.f20) 0) = [] by kernel_rfl] at hb
    cases hb
theorem sent_Out_ed (L3 : ({β : Type} → (Nat → List Leaf → Option β) → (List Leaf → Option β) → Nat → List Int → List Int → List Int → Int → Bool → Int → Int → Int → Option β)) (s_l0 : List Int) (s_l1 : List Int) (s_l2 : List Int) (s_last : Int) (s_any : Bool) : sent_Out_d @L3 s_l0 s_l1 s_l2 s_last s_any = den G36 (sent_Out_Λd @L3) true tab Go.Proofs.Tryz.f20.ntmps (fun fr H => finish tab 2 Go.Proofs.Tryz.f20.results.toList sent_Out_out [] fr H some) (fun _ _ _ => none) (fun fr H => finish tab 2 Go.Proofs.Tryz.f20.results.toList sent_Out_out [] fr H some) 10000 [.code (fb Go.Proofs.Tryz.f20)] (instFr sent_Out_in [.li s_l0, .li s_l1, .li s_l2, .i s_last, .b s_any]) (instH sent_Out_in [.li s_l0, .li s_l1, .li s_l2, .i s_last, .b s_any]) := by kernel_rfl
theorem sent_Out_e (s_l0 : List Int) (s_l1 : List Int) (s_l2 : List Int) (s_last : Int) (s_any : Bool) : sent_Out s_l0 s_l1 s_l2 s_last s_any = den G36 sent_Out_Λ true tab Go.Proofs.Tryz.f20.ntmps (fun fr H => finish tab 2 Go.Proofs.Tryz.f20.results.toList sent_Out_out [] fr H some) (fun _ _ _ => none) (fun fr H => finish tab 2 Go.Proofs.Tryz.f20.results.toList sent_Out_out [] fr H some) 10000 [.code (fb Go.Proofs.Tryz.f20)] (instFr sent_Out_in [.li s_l0, .li s_l1, .li s_l2, .i s_last, .b s_any]) (instH sent_Out_in [.li s_l0, .li s_l1, .li s_l2, .i s_last, .b s_any]) := sent_Out_ed @sent_Out_3_L s_l0 s_l1 s_l2 s_last s_any
def sent_Out_S : List Leaf → Option (List Leaf) := fun ls => un_li ls fun s_l0 rr => un_li rr fun s_l1 rr => un_li rr fun s_l2 rr => un_i rr fun s_last rr => un_b rr fun s_any rr => un_nil rr (sent_Out s_l0 s_l1 s_l2 s_last s_any)
def sent_Out_SC : Tld := fun ls k' => un_li ls fun s_l0 rr => un_li rr fun s_l1 rr => un_li rr fun s_l2 rr => un_i rr fun s_last rr => un_b rr fun s_any rr => un_nil rr (out (sent_Out s_l0 s_l1 s_l2 s_last s_any) k')
theorem sent_Out_Se (s_l0 : List Int) (s_l1 : List Int) (s_l2 : List Int) (s_last : Int) (s_any : Bool) : sent_Out_S [.li s_l0, .li s_l1, .li s_l2, .i s_last, .b s_any] = sent_Out s_l0 s_l1 s_l2 s_last s_any := by
  unfold sent_Out_S
  simp only [un_i_ev, un_b_ev, un_s_ev, un_li_ev, un_lb_ev, un_ls_ev, un_nil_ev]
theorem sent_Out_says : Says sent_Out_SC sent_Out_S := by
  intro β ls' k' r' h'
  unfold sent_Out_SC at h'
  obtain ⟨s_l0, l'1, rfl, h'1⟩ := un_li_some.1 h'
  obtain ⟨s_l1, l'2, rfl, h'2⟩ := un_li_some.1 h'1
  obtain ⟨s_l2, l'3, rfl, h'3⟩ := un_li_some.1 h'2
  obtain ⟨s_last, l'4, rfl, h'4⟩ := un_i_some.1 h'3
  obtain ⟨s_any, l'5, rfl, h'5⟩ := un_b_some.1 h'4
  obtain ⟨rfl, h'Z⟩ := un_nil_some.1 h'5
  obtain ⟨l', a', b'⟩ := out_some.1 h'Z
  exact ⟨l', (sent_Out_Se s_l0 s_l1 s_l2 s_last s_any).trans a', b'⟩
theorem sent_Out_c : FnC Go.Proofs.Tryz.prog 20 true 1 2 sent_Out_in sent_Out_out sent_Out_S := by
  refine fn_ok (Λ := sent_Out_Λ) mixed tab_ok g36 Go.Proofs.Tryz.func20 (by kernel_rfl) (body := fb Go.Proofs.Tryz.f20) rfl (ts := Go.Proofs.Tryz.f20.results.toList) rfl (cuts := []) (by kernel_rfl) (Nat.le_of_ble_eq_true (by kernel_rfl)) (by kernel_rfl) (rt := .w (.at (.int .i64))) rfl ?_ ?_
  · intro ls' r' h'
    unfold sent_Out_S at h'
    obtain ⟨s_l0, l'1, rfl, h'1⟩ := un_li_some.1 h'
    obtain ⟨s_l1, l'2, rfl, h'2⟩ := un_li_some.1 h'1
    obtain ⟨s_l2, l'3, rfl, h'3⟩ := un_li_some.1 h'2
    obtain ⟨s_last, l'4, rfl, h'4⟩ := un_i_some.1 h'3
    obtain ⟨s_any, l'5, rfl, h'5⟩ := un_b_some.1 h'4
    obtain ⟨rfl, h'Z⟩ := un_nil_some.1 h'5
    exact (sent_Out_e s_l0 s_l1 s_l2 s_last s_any).symm.trans h'Z
  · intro E w0 ws ρ0 hk b hb
    rw [show loopsOf (fb Go.Proofs.Tryz.f20) = [(bodyAt (fb Go.Proofs.Tryz.f20) 0)] by kernel_rfl] at hb
    simp only [List.mem_cons, List.mem_nil_iff, or_false] at hb
    rcases hb with rfl
    · exact sent_Out_3_lok E w0 ws ρ0 hk
noncomputable def G37 : Env := G36.addP 20 1 sent_Out_in sent_Out_out sent_Out_SC
theorem g37 : EnvOk Go.Proofs.Tryz.prog G37 := EnvOk.addP g36 sent_Out_c sent_Out_says

-- ### sent_Last: function 21
def sent_Last_in : Tm := ⟨[.cells 95 [.all 1 3, .int .u64, .bool], .row 98 3 [.int .u64, .int .i64, .int .i64]], [(0, .w (.at (.ptr 0 0)))]⟩
def sent_Last_out : Tm := ⟨[.dead, .dead], [(0, .tup [.at (.int .u64), .at (.bool)])]⟩

def sent_Last_Λd : Loops := Loops.none
def sent_Last_Λ : Loops := sent_Last_Λd 

theorem sent_Last_e (s_l0 : List Int) (s_l1 : List Int) (s_l2 : List Int) (s_last : Int) (s_any : Bool) : sent_Last s_l0 s_l1 s_l2 s_last s_any = den G37 sent_Last_Λ true tab Go.Proofs.Tryz.f21.ntmps (fun fr H => finish tab 2 Go.Proofs.Tryz.f21.results.toList sent_Last_out [] fr H some) (fun _ _ _ => none) (fun fr H => finish tab 2 Go.Proofs.Tryz.f21.results.toList sent_Last_out [] fr H some) 10000 [.code (fb Go.Proofs.Tryz.f21)] (instFr sent_Last_in [.li s_l0, .li s_l1, .li s_l2, .i s_last, .b s_any]) (instH sent_Last_in [.li s_l0, .li s_l1, .li s_l2, .i s_last, .b s_any]) := by kernel_rfl
def sent_Last_S : List Leaf → Option (List Leaf) := fun ls => un_li ls fun s_l0 rr => un_li rr fun s_l1 rr => un_li rr fun s_l2 rr => un_i rr fun s_last rr => un_b rr fun s_any rr => un_nil rr (sent_Last s_l0 s_l1 s_l2 s_last s_any)
def sent_Last_SC : Tld := fun ls k' => un_li ls fun s_l0 rr => un_li rr fun s_l1 rr => un_li rr fun s_l2 rr => un_i rr fun s_last rr => un_b rr fun s_any rr => un_nil rr (out (sent_Last s_l0 s_l1 s_l2 s_last s_any) k')
theorem sent_Last_Se (s_l0 : List Int) (s_l1 : List Int) (s_l2 : List Int) (s_last : Int) (s_any : Bool) : sent_Last_S [.li s_l0, .li s_l1, .li s_l2, .i s_last, .b s_any] = sent_Last s_l0 s_l1 s_l2 s_last s_any := by
  unfold sent_Last_S
  simp only [un_i_ev, un_b_ev, un_s_ev, un_li_ev, un_lb_ev, un_ls_ev, un_nil_ev]
theorem sent_Last_says : Says sent_Last_SC sent_Last_S := by
  intro β ls' k' r' h'
  unfold sent_Last_SC at h'
  obtain ⟨s_l0, l'1, rfl, h'1⟩ := un_li_some.1 h'
  obtain ⟨s_l1, l'2, rfl, h'2⟩ := un_li_some.1 h'1
  obtain ⟨s_l2, l'3, rfl, h'3⟩ := un_li_some.1 h'2
  obtain ⟨s_last, l'4, rfl, h'4⟩ := un_i_some.1 h'3
  obtain ⟨s_any, l'5, rfl, h'5⟩ := un_b_some.1 h'4
  obtain ⟨rfl, h'Z⟩ := un_nil_some.1 h'5
  obtain ⟨l', a', b'⟩ := out_some.1 h'Z
  exact ⟨l', (sent_Last_Se s_l0 s_l1 s_l2 s_last s_any).trans a', b'⟩
theorem sent_Last_c : FnC Go.Proofs.Tryz.prog 21 true 1 2 sent_Last_in sent_Last_out sent_Last_S := by
  refine fn_ok (Λ := sent_Last_Λ) mixed tab_ok g37 Go.Proofs.Tryz.func21 (by kernel_rfl) (body := fb Go.Proofs.Tryz.f21) rfl (ts := Go.Proofs.Tryz.f21.results.toList) rfl (cuts := []) (by kernel_rfl) (Nat.le_of_ble_eq_true (by kernel_rfl)) (by kernel_rfl) (rt := .tup [.at (.int .u64), .at (.bool)]) rfl ?_ ?_
  · intro ls' r' h'
    unfold sent_Last_S at h'
    obtain ⟨s_l0, l'1, rfl, h'1⟩ := un_li_some.1 h'
    obtain ⟨s_l1, l'2, rfl, h'2⟩ := un_li_some.1 h'1
    obtain ⟨s_l2, l'3, rfl, h'3⟩ := un_li_some.1 h'2
    obtain ⟨s_last, l'4, rfl, h'4⟩ := un_i_some.1 h'3
    obtain ⟨s_any, l'5, rfl, h'5⟩ := un_b_some.1 h'4
    obtain ⟨rfl, h'Z⟩ := un_nil_some.1 h'5
    exact (sent_Last_e s_l0 s_l1 s_l2 s_last s_any).symm.trans h'Z
  · intro E w0 ws ρ0 hk b hb
    rw [show loopsOf (fb Go.Proofs.Tryz.f21) = [] by kernel_rfl] at hb
    cases hb
noncomputable def G38 : Env := G37.addP 21 1 sent_Last_in sent_Last_out sent_Last_SC
theorem g38 : EnvOk Go.Proofs.Tryz.prog G38 := EnvOk.addP g37 sent_Last_c sent_Last_says
end Go.Sx.T

