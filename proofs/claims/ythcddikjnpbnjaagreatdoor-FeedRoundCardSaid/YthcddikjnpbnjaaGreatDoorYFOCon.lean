import Derived.Test.YthcddikjnpbnjaaGreatDoorYFOSpec
import Derived.Test.YthcddikjnpbnjaaGreatDoorYFRCon
set_option linter.all false
namespace Go.Sx.T
open Go Go.Sx Go.Proofs
set_option maxRecDepth 100000

-- ### law_same: function 19
def law_same_in : Tm := ⟨[.ro 22 1 [.int .u64], .ro 22 1 [.int .u64]], [(0, .w (.at (.all 0 1))), (1, .w (.at (.all 1 1)))]⟩
def law_same_out : Tm := ⟨[.dead, .dead], [(0, .w (.at (.bool)))]⟩
def law_same_4_T : Tm := ⟨[.ro 22 1 [.int .u64], .ro 22 1 [.int .u64]], [(13, .w (.at (.int .i64))), (1, .w (.at (.all 1 1))), (0, .w (.at (.all 0 1))), (12, .w (.at (.int .i64)))]⟩
def law_same_4_X0 : Tm := ⟨[.ro 22 1 [.int .u64], .ro 22 1 [.int .u64]], []⟩
def law_same_4_X : Exits := [(0, (law_same_4_X0, []))]
def law_same_4_R : Tm := ⟨[.ro 22 1 [.int .u64], .ro 22 1 [.int .u64]], [(4, .w (.at (.bool)))]⟩

def law_same_Λd (L4 : ({β : Type} → (Nat → List Leaf → Option β) → (List Leaf → Option β) → Nat → List Int → List Int → Int → Int → Option β)) : Loops := ⟨fun b fr H kx kr => bif Nat.beq (rid b) 4 then loopE 2 law_same_4_T [] law_same_4_X law_same_4_R (law_same_4_F @L4 top) fr H kx kr else none⟩
def law_same_Λ : Loops := law_same_Λd @law_same_4_L
theorem law_same_4_e (L4 : ({β : Type} → (Nat → List Leaf → Option β) → (List Leaf → Option β) → Nat → List Int → List Int → Int → Int → Option β)) {α : Type} (kx : Nat → List Leaf → Option α) (kr : List Leaf → Option α) (again : List Int → List Int → Int → Int → Option α) (a : List Int) (b : List Int) (t13 : Int) (t12 : Int) : law_same_4_B  kx kr again a b t13 t12 = loopB G39 (law_same_Λd @L4) true tab Go.Proofs.Tryz.f19.ntmps 2 law_same_4_T [] law_same_4_X law_same_4_R (bodyAt (fb Go.Proofs.Tryz.f19) 0) (fun ls => un_li ls fun a rr => un_li rr fun b rr => un_i rr fun t13 rr => un_i rr fun t12 rr => un_nil rr (again a b t13 t12)) kx kr (instFr law_same_4_T [.li a, .li b, .i t13, .i t12]) (instH law_same_4_T [.li a, .li b, .i t13, .i t12]) := by kernel_rfl
theorem law_same_4_lok (E : Nat → Prop) (w0 ws : World) (ρ0 : List Pl) (hk : ρ0.length = 2) : LOk Go.Proofs.Tryz.prog 19 Go.Proofs.Tryz.f19 true E w0 ws Go.Proofs.Tryz.f19.ntmps ρ0 law_same_Λ (bodyAt (fb Go.Proofs.Tryz.f19) 0) := by
  refine lok mixed tab_ok g39 Go.Proofs.Tryz.func19 hk (T := law_same_4_T) (rt := law_same_4_R) (cuts := []) (ex := law_same_4_X) (top := top) (F := law_same_4_F @law_same_4_L) (fun fr H kx kr => by kernel_rfl) ?_ ?_ ?_
  · intro α ls' kx' kr' r' h'
    unfold law_same_4_F at h'
    obtain ⟨a, l'1, rfl, h'1⟩ := un_li_some.1 h'
    obtain ⟨b, l'2, rfl, h'2⟩ := un_li_some.1 h'1
    obtain ⟨t13, l'3, rfl, h'3⟩ := un_i_some.1 h'2
    obtain ⟨t12, l'4, rfl, h'4⟩ := un_i_some.1 h'3
    obtain ⟨rfl, h'Z⟩ := un_nil_some.1 h'4
    cases h'Z
  · intro α n' ls' kx' kr' r' h'
    unfold law_same_4_F at h'
    obtain ⟨a, l'1, rfl, h'1⟩ := un_li_some.1 h'
    obtain ⟨b, l'2, rfl, h'2⟩ := un_li_some.1 h'1
    obtain ⟨t13, l'3, rfl, h'3⟩ := un_i_some.1 h'2
    obtain ⟨t12, l'4, rfl, h'4⟩ := un_i_some.1 h'3
    obtain ⟨rfl, h'Z⟩ := un_nil_some.1 h'4
    exact (law_same_4_e @law_same_4_L kx' kr' (law_same_4_L kx' kr' n') a b t13 t12).symm.trans h'Z
  · intro b' hb
    rw [show loopsOf (bodyAt (fb Go.Proofs.Tryz.f19) 0) = [] by kernel_rfl] at hb
    cases hb
theorem law_same_ed (L4 : ({β : Type} → (Nat → List Leaf → Option β) → (List Leaf → Option β) → Nat → List Int → List Int → Int → Int → Option β)) (a : List Int) (b : List Int) : law_same_d @L4 a b = den G39 (law_same_Λd @L4) true tab Go.Proofs.Tryz.f19.ntmps (fun fr H => finish tab 2 Go.Proofs.Tryz.f19.results.toList law_same_out [] fr H some) (fun _ _ _ => none) (fun fr H => finish tab 2 Go.Proofs.Tryz.f19.results.toList law_same_out [] fr H some) 10000 [.code (fb Go.Proofs.Tryz.f19)] (instFr law_same_in [.li a, .li b]) (instH law_same_in [.li a, .li b]) := by kernel_rfl
theorem law_same_e (a : List Int) (b : List Int) : law_same a b = den G39 law_same_Λ true tab Go.Proofs.Tryz.f19.ntmps (fun fr H => finish tab 2 Go.Proofs.Tryz.f19.results.toList law_same_out [] fr H some) (fun _ _ _ => none) (fun fr H => finish tab 2 Go.Proofs.Tryz.f19.results.toList law_same_out [] fr H some) 10000 [.code (fb Go.Proofs.Tryz.f19)] (instFr law_same_in [.li a, .li b]) (instH law_same_in [.li a, .li b]) := law_same_ed @law_same_4_L a b
def law_same_S : List Leaf → Option (List Leaf) := fun ls => un_li ls fun a rr => un_li rr fun b rr => un_nil rr (law_same a b)
def law_same_SC : Tld := fun ls k' => un_li ls fun a rr => un_li rr fun b rr => un_nil rr (out (law_same a b) k')
theorem law_same_Se (a : List Int) (b : List Int) : law_same_S [.li a, .li b] = law_same a b := by
  unfold law_same_S
  simp only [un_i_ev, un_b_ev, un_s_ev, un_li_ev, un_lb_ev, un_ls_ev, un_nil_ev]
theorem law_same_says : Says law_same_SC law_same_S := by
  intro β ls' k' r' h'
  unfold law_same_SC at h'
  obtain ⟨a, l'1, rfl, h'1⟩ := un_li_some.1 h'
  obtain ⟨b, l'2, rfl, h'2⟩ := un_li_some.1 h'1
  obtain ⟨rfl, h'Z⟩ := un_nil_some.1 h'2
  obtain ⟨l', a', b'⟩ := out_some.1 h'Z
  exact ⟨l', (law_same_Se a b).trans a', b'⟩
theorem law_same_c : FnC Go.Proofs.Tryz.prog 19 true 2 2 law_same_in law_same_out law_same_S := by
  refine fn_ok (Λ := law_same_Λ) mixed tab_ok g39 Go.Proofs.Tryz.func19 (by kernel_rfl) (body := fb Go.Proofs.Tryz.f19) rfl (ts := Go.Proofs.Tryz.f19.results.toList) rfl (cuts := []) (by kernel_rfl) (Nat.le_of_ble_eq_true (by kernel_rfl)) (by kernel_rfl) (rt := .w (.at (.bool))) rfl ?_ ?_
  · intro ls' r' h'
    unfold law_same_S at h'
    obtain ⟨a, l'1, rfl, h'1⟩ := un_li_some.1 h'
    obtain ⟨b, l'2, rfl, h'2⟩ := un_li_some.1 h'1
    obtain ⟨rfl, h'Z⟩ := un_nil_some.1 h'2
    exact (law_same_e a b).symm.trans h'Z
  · intro E w0 ws ρ0 hk b hb
    rw [show loopsOf (fb Go.Proofs.Tryz.f19) = [(bodyAt (fb Go.Proofs.Tryz.f19) 0)] by kernel_rfl] at hb
    simp only [List.mem_cons, List.mem_nil_iff, or_false] at hb
    rcases hb with rfl
    · exact law_same_4_lok E w0 ws ρ0 hk
noncomputable def G40 : Env := G39.addP 19 2 law_same_in law_same_out law_same_SC
theorem g40 : EnvOk Go.Proofs.Tryz.prog G40 := EnvOk.addP g39 law_same_c law_same_says

-- ### FeedRound: function 5
def FeedRound_in : Tm := ⟨[.ro 41 4 [.int .i64, .int .i64, .int .u64, .int .i64]], [(0, .w (.at (.all 0 4))), (1, .w (.at (.int .u64)))]⟩
def FeedRound_out : Tm := ⟨[.dead], [(0, .w (.at (.bool)))]⟩
def FeedRound_6_T : Tm := ⟨[.ro 41 4 [.int .i64, .int .i64, .int .u64, .int .i64], .cells 100 [.int .i64, .bool, .int .i64, .int .u64, .int .u64, .map 2, .map 3, .int .i64, .bool, .int .i64, .int .u64, .all 4 1, .int .u64, .int .i64], .map .u64 (.int .i64), .map .u64 (.bool), .row 22 1 [.int .u64], .cells 100 [.int .i64, .bool, .int .i64, .int .u64, .int .u64, .map 6, .map 7, .int .i64, .bool, .int .i64, .int .u64, .all 8 1, .int .u64, .int .i64], .map .u64 (.int .i64), .map .u64 (.bool), .row 22 1 [.int .u64]], [(8, .w (.at (.int .i64))), (1, .w (.at (.int .u64))), (7, .w (.at (.ptr 1 0))), (6, .w (.at (.ptr 5 0))), (0, .w (.at (.all 0 4)))]⟩
def FeedRound_6_X0 : Tm := ⟨[.ro 41 4 [.int .i64, .int .i64, .int .u64, .int .i64], .cells 100 [.int .i64, .bool, .int .i64, .int .u64, .int .u64, .map 2, .map 3, .int .i64, .bool, .int .i64, .int .u64, .all 4 1, .int .u64, .int .i64], .map .u64 (.int .i64), .map .u64 (.bool), .row 22 1 [.int .u64], .cells 100 [.int .i64, .bool, .int .i64, .int .u64, .int .u64, .map 6, .map 7, .int .i64, .bool, .int .i64, .int .u64, .all 8 1, .int .u64, .int .i64], .map .u64 (.int .i64), .map .u64 (.bool), .row 22 1 [.int .u64]], [(7, .w (.at (.ptr 1 0))), (6, .w (.at (.ptr 5 0)))]⟩
def FeedRound_6_X : Exits := [(0, (FeedRound_6_X0, []))]
def FeedRound_6_R : Tm := ⟨[.ro 41 4 [.int .i64, .int .i64, .int .u64, .int .i64]], [(4, .w (.at (.bool)))]⟩

def FeedRound_Λd (L6 : ({β : Type} → (Nat → List Leaf → Option β) → (List Leaf → Option β) → Nat → List Int → List Int → List Int → List Int → List Int → List Int → List Int → List Bool → List Int → List Int → List Int → List Int → List Bool → List Int → Int → Bool → Int → Int → Int → Int → Bool → Int → Int → Int → Int → Int → Bool → Int → Int → Int → Int → Bool → Int → Int → Int → Int → Int → Int → Option β)) : Loops := ⟨fun b fr H kx kr => bif Nat.beq (rid b) 6 then loopE 1 FeedRound_6_T [] FeedRound_6_X FeedRound_6_R (FeedRound_6_F @L6 top) fr H kx kr else none⟩
def FeedRound_Λ : Loops := FeedRound_Λd @FeedRound_6_L
theorem FeedRound_6_e (L6 : ({β : Type} → (Nat → List Leaf → Option β) → (List Leaf → Option β) → Nat → List Int → List Int → List Int → List Int → List Int → List Int → List Int → List Bool → List Int → List Int → List Int → List Int → List Bool → List Int → Int → Bool → Int → Int → Int → Int → Bool → Int → Int → Int → Int → Int → Bool → Int → Int → Int → Int → Bool → Int → Int → Int → Int → Int → Int → Option β)) {α : Type} (kx : Nat → List Leaf → Option α) (kr : List Leaf → Option α) (again : List Int → List Int → List Int → List Int → List Int → List Int → List Int → List Bool → List Int → List Int → List Int → List Int → List Bool → List Int → Int → Bool → Int → Int → Int → Int → Bool → Int → Int → Int → Int → Int → Bool → Int → Int → Int → Int → Bool → Int → Int → Int → Int → Int → Int → Option α) (ops0 : List Int) (ops1 : List Int) (ops2 : List Int) (ops3 : List Int) (b_got_k : List Int) (b_got_v : List Int) (b_lost_k : List Int) (b_lost_v : List Bool) (b_closed : List Int) (a_got_k : List Int) (a_got_v : List Int) (a_lost_k : List Int) (a_lost_v : List Bool) (a_closed : List Int) (b_r : Int) (b_any : Bool) (b_now : Int) (b_first : Int) (b_newest : Int) (b_count : Int) (b_event : Bool) (b_eventAt : Int) (b_eventN : Int) (b_bytes : Int) (b_since : Int) (a_r : Int) (a_any : Bool) (a_now : Int) (a_first : Int) (a_newest : Int) (a_count : Int) (a_event : Bool) (a_eventAt : Int) (a_eventN : Int) (a_bytes : Int) (a_since : Int) (i : Int) (by2 : Int) : FeedRound_6_B  kx kr again ops0 ops1 ops2 ops3 b_got_k b_got_v b_lost_k b_lost_v b_closed a_got_k a_got_v a_lost_k a_lost_v a_closed b_r b_any b_now b_first b_newest b_count b_event b_eventAt b_eventN b_bytes b_since a_r a_any a_now a_first a_newest a_count a_event a_eventAt a_eventN a_bytes a_since i by2 = loopB G40 (FeedRound_Λd @L6) false tab Go.Proofs.Tryz.f5.ntmps 1 FeedRound_6_T [] FeedRound_6_X FeedRound_6_R (bodyAt (fb Go.Proofs.Tryz.f5) 0) (fun ls => un_li ls fun ops0 rr => un_li rr fun ops1 rr => un_li rr fun ops2 rr => un_li rr fun ops3 rr => un_li rr fun b_got_k rr => un_li rr fun b_got_v rr => un_li rr fun b_lost_k rr => un_lb rr fun b_lost_v rr => un_li rr fun b_closed rr => un_li rr fun a_got_k rr => un_li rr fun a_got_v rr => un_li rr fun a_lost_k rr => un_lb rr fun a_lost_v rr => un_li rr fun a_closed rr => un_i rr fun b_r rr => un_b rr fun b_any rr => un_i rr fun b_now rr => un_i rr fun b_first rr => un_i rr fun b_newest rr => un_i rr fun b_count rr => un_b rr fun b_event rr => un_i rr fun b_eventAt rr => un_i rr fun b_eventN rr => un_i rr fun b_bytes rr => un_i rr fun b_since rr => un_i rr fun a_r rr => un_b rr fun a_any rr => un_i rr fun a_now rr => un_i rr fun a_first rr => un_i rr fun a_newest rr => un_i rr fun a_count rr => un_b rr fun a_event rr => un_i rr fun a_eventAt rr => un_i rr fun a_eventN rr => un_i rr fun a_bytes rr => un_i rr fun a_since rr => un_i rr fun i rr => un_i rr fun by2 rr => un_nil rr (again ops0 ops1 ops2 ops3 b_got_k b_got_v b_lost_k b_lost_v b_closed a_got_k a_got_v a_lost_k a_lost_v a_closed b_r b_any b_now b_first b_newest b_count b_event b_eventAt b_eventN b_bytes b_since a_r a_any a_now a_first a_newest a_count a_event a_eventAt a_eventN a_bytes a_since i by2)) kx kr (instFr FeedRound_6_T [.li ops0, .li ops1, .li ops2, .li ops3, .li b_got_k, .li b_got_v, .li b_lost_k, .lb b_lost_v, .li b_closed, .li a_got_k, .li a_got_v, .li a_lost_k, .lb a_lost_v, .li a_closed, .i b_r, .b b_any, .i b_now, .i b_first, .i b_newest, .i b_count, .b b_event, .i b_eventAt, .i b_eventN, .i b_bytes, .i b_since, .i a_r, .b a_any, .i a_now, .i a_first, .i a_newest, .i a_count, .b a_event, .i a_eventAt, .i a_eventN, .i a_bytes, .i a_since, .i i, .i by2]) (instH FeedRound_6_T [.li ops0, .li ops1, .li ops2, .li ops3, .li b_got_k, .li b_got_v, .li b_lost_k, .lb b_lost_v, .li b_closed, .li a_got_k, .li a_got_v, .li a_lost_k, .lb a_lost_v, .li a_closed, .i b_r, .b b_any, .i b_now, .i b_first, .i b_newest, .i b_count, .b b_event, .i b_eventAt, .i b_eventN, .i b_bytes, .i b_since, .i a_r, .b a_any, .i a_now, .i a_first, .i a_newest, .i a_count, .b a_event, .i a_eventAt, .i a_eventN, .i a_bytes, .i a_since, .i i, .i by2]) := by kernel_rfl
theorem FeedRound_6_lok (E : Nat → Prop) (w0 ws : World) (ρ0 : List Pl) (hk : ρ0.length = 1) : LOk Go.Proofs.Tryz.prog 5 Go.Proofs.Tryz.f5 false E w0 ws Go.Proofs.Tryz.f5.ntmps ρ0 FeedRound_Λ (bodyAt (fb Go.Proofs.Tryz.f5) 0) := by
  refine lok mixed tab_ok g40 Go.Proofs.Tryz.func5 hk (T := FeedRound_6_T) (rt := FeedRound_6_R) (cuts := []) (ex := FeedRound_6_X) (top := top) (F := FeedRound_6_F @FeedRound_6_L) (fun fr H kx kr => by kernel_rfl) ?_ ?_ ?_
  · intro α ls' kx' kr' r' h'
    unfold FeedRound_6_F at h'
    obtain ⟨ops0, l'1, rfl, h'1⟩ := un_li_some.1 h'
    obtain ⟨ops1, l'2, rfl, h'2⟩ := un_li_some.1 h'1
    obtain ⟨ops2, l'3, rfl, h'3⟩ := un_li_some.1 h'2
    obtain ⟨ops3, l'4, rfl, h'4⟩ := un_li_some.1 h'3
    obtain ⟨b_got_k, l'5, rfl, h'5⟩ := un_li_some.1 h'4
    obtain ⟨b_got_v, l'6, rfl, h'6⟩ := un_li_some.1 h'5
    obtain ⟨b_lost_k, l'7, rfl, h'7⟩ := un_li_some.1 h'6
    obtain ⟨b_lost_v, l'8, rfl, h'8⟩ := un_lb_some.1 h'7
    obtain ⟨b_closed, l'9, rfl, h'9⟩ := un_li_some.1 h'8
    obtain ⟨a_got_k, l'10, rfl, h'10⟩ := un_li_some.1 h'9
    obtain ⟨a_got_v, l'11, rfl, h'11⟩ := un_li_some.1 h'10
    obtain ⟨a_lost_k, l'12, rfl, h'12⟩ := un_li_some.1 h'11
    obtain ⟨a_lost_v, l'13, rfl, h'13⟩ := un_lb_some.1 h'12
    obtain ⟨a_closed, l'14, rfl, h'14⟩ := un_li_some.1 h'13
    obtain ⟨b_r, l'15, rfl, h'15⟩ := un_i_some.1 h'14
    obtain ⟨b_any, l'16, rfl, h'16⟩ := un_b_some.1 h'15
    obtain ⟨b_now, l'17, rfl, h'17⟩ := un_i_some.1 h'16
    obtain ⟨b_first, l'18, rfl, h'18⟩ := un_i_some.1 h'17
    obtain ⟨b_newest, l'19, rfl, h'19⟩ := un_i_some.1 h'18
    obtain ⟨b_count, l'20, rfl, h'20⟩ := un_i_some.1 h'19
    obtain ⟨b_event, l'21, rfl, h'21⟩ := un_b_some.1 h'20
    obtain ⟨b_eventAt, l'22, rfl, h'22⟩ := un_i_some.1 h'21
    obtain ⟨b_eventN, l'23, rfl, h'23⟩ := un_i_some.1 h'22
    obtain ⟨b_bytes, l'24, rfl, h'24⟩ := un_i_some.1 h'23
    obtain ⟨b_since, l'25, rfl, h'25⟩ := un_i_some.1 h'24
    obtain ⟨a_r, l'26, rfl, h'26⟩ := un_i_some.1 h'25
    obtain ⟨a_any, l'27, rfl, h'27⟩ := un_b_some.1 h'26
    obtain ⟨a_now, l'28, rfl, h'28⟩ := un_i_some.1 h'27
    obtain ⟨a_first, l'29, rfl, h'29⟩ := un_i_some.1 h'28
    obtain ⟨a_newest, l'30, rfl, h'30⟩ := un_i_some.1 h'29
    obtain ⟨a_count, l'31, rfl, h'31⟩ := un_i_some.1 h'30
    obtain ⟨a_event, l'32, rfl, h'32⟩ := un_b_some.1 h'31
    obtain ⟨a_eventAt, l'33, rfl, h'33⟩ := un_i_some.1 h'32
    obtain ⟨a_eventN, l'34, rfl, h'34⟩ := un_i_some.1 h'33
    obtain ⟨a_bytes, l'35, rfl, h'35⟩ := un_i_some.1 h'34
    obtain ⟨a_since, l'36, rfl, h'36⟩ := un_i_some.1 h'35
    obtain ⟨i, l'37, rfl, h'37⟩ := un_i_some.1 h'36
    obtain ⟨by2, l'38, rfl, h'38⟩ := un_i_some.1 h'37
    obtain ⟨rfl, h'Z⟩ := un_nil_some.1 h'38
    cases h'Z
  · intro α n' ls' kx' kr' r' h'
    unfold FeedRound_6_F at h'
    obtain ⟨ops0, l'1, rfl, h'1⟩ := un_li_some.1 h'
    obtain ⟨ops1, l'2, rfl, h'2⟩ := un_li_some.1 h'1
    obtain ⟨ops2, l'3, rfl, h'3⟩ := un_li_some.1 h'2
    obtain ⟨ops3, l'4, rfl, h'4⟩ := un_li_some.1 h'3
    obtain ⟨b_got_k, l'5, rfl, h'5⟩ := un_li_some.1 h'4
    obtain ⟨b_got_v, l'6, rfl, h'6⟩ := un_li_some.1 h'5
    obtain ⟨b_lost_k, l'7, rfl, h'7⟩ := un_li_some.1 h'6
    obtain ⟨b_lost_v, l'8, rfl, h'8⟩ := un_lb_some.1 h'7
    obtain ⟨b_closed, l'9, rfl, h'9⟩ := un_li_some.1 h'8
    obtain ⟨a_got_k, l'10, rfl, h'10⟩ := un_li_some.1 h'9
    obtain ⟨a_got_v, l'11, rfl, h'11⟩ := un_li_some.1 h'10
    obtain ⟨a_lost_k, l'12, rfl, h'12⟩ := un_li_some.1 h'11
    obtain ⟨a_lost_v, l'13, rfl, h'13⟩ := un_lb_some.1 h'12
    obtain ⟨a_closed, l'14, rfl, h'14⟩ := un_li_some.1 h'13
    obtain ⟨b_r, l'15, rfl, h'15⟩ := un_i_some.1 h'14
    obtain ⟨b_any, l'16, rfl, h'16⟩ := un_b_some.1 h'15
    obtain ⟨b_now, l'17, rfl, h'17⟩ := un_i_some.1 h'16
    obtain ⟨b_first, l'18, rfl, h'18⟩ := un_i_some.1 h'17
    obtain ⟨b_newest, l'19, rfl, h'19⟩ := un_i_some.1 h'18
    obtain ⟨b_count, l'20, rfl, h'20⟩ := un_i_some.1 h'19
    obtain ⟨b_event, l'21, rfl, h'21⟩ := un_b_some.1 h'20
    obtain ⟨b_eventAt, l'22, rfl, h'22⟩ := un_i_some.1 h'21
    obtain ⟨b_eventN, l'23, rfl, h'23⟩ := un_i_some.1 h'22
    obtain ⟨b_bytes, l'24, rfl, h'24⟩ := un_i_some.1 h'23
    obtain ⟨b_since, l'25, rfl, h'25⟩ := un_i_some.1 h'24
    obtain ⟨a_r, l'26, rfl, h'26⟩ := un_i_some.1 h'25
    obtain ⟨a_any, l'27, rfl, h'27⟩ := un_b_some.1 h'26
    obtain ⟨a_now, l'28, rfl, h'28⟩ := un_i_some.1 h'27
    obtain ⟨a_first, l'29, rfl, h'29⟩ := un_i_some.1 h'28
    obtain ⟨a_newest, l'30, rfl, h'30⟩ := un_i_some.1 h'29
    obtain ⟨a_count, l'31, rfl, h'31⟩ := un_i_some.1 h'30
    obtain ⟨a_event, l'32, rfl, h'32⟩ := un_b_some.1 h'31
    obtain ⟨a_eventAt, l'33, rfl, h'33⟩ := un_i_some.1 h'32
    obtain ⟨a_eventN, l'34, rfl, h'34⟩ := un_i_some.1 h'33
    obtain ⟨a_bytes, l'35, rfl, h'35⟩ := un_i_some.1 h'34
    obtain ⟨a_since, l'36, rfl, h'36⟩ := un_i_some.1 h'35
    obtain ⟨i, l'37, rfl, h'37⟩ := un_i_some.1 h'36
    obtain ⟨by2, l'38, rfl, h'38⟩ := un_i_some.1 h'37
    obtain ⟨rfl, h'Z⟩ := un_nil_some.1 h'38
    exact (FeedRound_6_e @FeedRound_6_L kx' kr' (FeedRound_6_L kx' kr' n') ops0 ops1 ops2 ops3 b_got_k b_got_v b_lost_k b_lost_v b_closed a_got_k a_got_v a_lost_k a_lost_v a_closed b_r b_any b_now b_first b_newest b_count b_event b_eventAt b_eventN b_bytes b_since a_r a_any a_now a_first a_newest a_count a_event a_eventAt a_eventN a_bytes a_since i by2).symm.trans h'Z
  · intro b' hb
    rw [show loopsOf (bodyAt (fb Go.Proofs.Tryz.f5) 0) = [] by kernel_rfl] at hb
    cases hb
theorem FeedRound_ed (L6 : ({β : Type} → (Nat → List Leaf → Option β) → (List Leaf → Option β) → Nat → List Int → List Int → List Int → List Int → List Int → List Int → List Int → List Bool → List Int → List Int → List Int → List Int → List Bool → List Int → Int → Bool → Int → Int → Int → Int → Bool → Int → Int → Int → Int → Int → Bool → Int → Int → Int → Int → Bool → Int → Int → Int → Int → Int → Int → Option β)) (ops0 : List Int) (ops1 : List Int) (ops2 : List Int) (ops3 : List Int) (by2 : Int) : FeedRound_d @L6 ops0 ops1 ops2 ops3 by2 = den G40 (FeedRound_Λd @L6) false tab Go.Proofs.Tryz.f5.ntmps (fun fr H => finish tab 1 Go.Proofs.Tryz.f5.results.toList FeedRound_out [] fr H some) (fun _ _ _ => none) (fun fr H => finish tab 1 Go.Proofs.Tryz.f5.results.toList FeedRound_out [] fr H some) 10000 [.code (fb Go.Proofs.Tryz.f5)] (instFr FeedRound_in [.li ops0, .li ops1, .li ops2, .li ops3, .i by2]) (instH FeedRound_in [.li ops0, .li ops1, .li ops2, .li ops3, .i by2]) := by kernel_rfl
theorem FeedRound_e (ops0 : List Int) (ops1 : List Int) (ops2 : List Int) (ops3 : List Int) (by2 : Int) : FeedRound ops0 ops1 ops2 ops3 by2 = den G40 FeedRound_Λ false tab Go.Proofs.Tryz.f5.ntmps (fun fr H => finish tab 1 Go.Proofs.Tryz.f5.results.toList FeedRound_out [] fr H some) (fun _ _ _ => none) (fun fr H => finish tab 1 Go.Proofs.Tryz.f5.results.toList FeedRound_out [] fr H some) 10000 [.code (fb Go.Proofs.Tryz.f5)] (instFr FeedRound_in [.li ops0, .li ops1, .li ops2, .li ops3, .i by2]) (instH FeedRound_in [.li ops0, .li ops1, .li ops2, .li ops3, .i by2]) := FeedRound_ed @FeedRound_6_L ops0 ops1 ops2 ops3 by2
def FeedRound_S : List Leaf → Option (List Leaf) := fun ls => un_li ls fun ops0 rr => un_li rr fun ops1 rr => un_li rr fun ops2 rr => un_li rr fun ops3 rr => un_i rr fun by2 rr => un_nil rr (FeedRound ops0 ops1 ops2 ops3 by2)
def FeedRound_SC : Tld := fun ls k' => un_li ls fun ops0 rr => un_li rr fun ops1 rr => un_li rr fun ops2 rr => un_li rr fun ops3 rr => un_i rr fun by2 rr => un_nil rr (out (FeedRound ops0 ops1 ops2 ops3 by2) k')
theorem FeedRound_Se (ops0 : List Int) (ops1 : List Int) (ops2 : List Int) (ops3 : List Int) (by2 : Int) : FeedRound_S [.li ops0, .li ops1, .li ops2, .li ops3, .i by2] = FeedRound ops0 ops1 ops2 ops3 by2 := by
  unfold FeedRound_S
  simp only [un_i_ev, un_b_ev, un_s_ev, un_li_ev, un_lb_ev, un_ls_ev, un_nil_ev]
theorem FeedRound_says : Says FeedRound_SC FeedRound_S := by
  intro β ls' k' r' h'
  unfold FeedRound_SC at h'
  obtain ⟨ops0, l'1, rfl, h'1⟩ := un_li_some.1 h'
  obtain ⟨ops1, l'2, rfl, h'2⟩ := un_li_some.1 h'1
  obtain ⟨ops2, l'3, rfl, h'3⟩ := un_li_some.1 h'2
  obtain ⟨ops3, l'4, rfl, h'4⟩ := un_li_some.1 h'3
  obtain ⟨by2, l'5, rfl, h'5⟩ := un_i_some.1 h'4
  obtain ⟨rfl, h'Z⟩ := un_nil_some.1 h'5
  obtain ⟨l', a', b'⟩ := out_some.1 h'Z
  exact ⟨l', (FeedRound_Se ops0 ops1 ops2 ops3 by2).trans a', b'⟩
theorem FeedRound_c : FnC Go.Proofs.Tryz.prog 5 false 2 1 FeedRound_in FeedRound_out FeedRound_S := by
  refine fn_ok (Λ := FeedRound_Λ) mixed tab_ok g40 Go.Proofs.Tryz.func5 (by kernel_rfl) (body := fb Go.Proofs.Tryz.f5) rfl (ts := Go.Proofs.Tryz.f5.results.toList) rfl (cuts := []) (by kernel_rfl) (Nat.le_of_ble_eq_true (by kernel_rfl)) (by kernel_rfl) (rt := .w (.at (.bool))) rfl ?_ ?_
  · intro ls' r' h'
    unfold FeedRound_S at h'
    obtain ⟨ops0, l'1, rfl, h'1⟩ := un_li_some.1 h'
    obtain ⟨ops1, l'2, rfl, h'2⟩ := un_li_some.1 h'1
    obtain ⟨ops2, l'3, rfl, h'3⟩ := un_li_some.1 h'2
    obtain ⟨ops3, l'4, rfl, h'4⟩ := un_li_some.1 h'3
    obtain ⟨by2, l'5, rfl, h'5⟩ := un_i_some.1 h'4
    obtain ⟨rfl, h'Z⟩ := un_nil_some.1 h'5
    exact (FeedRound_e ops0 ops1 ops2 ops3 by2).symm.trans h'Z
  · intro E w0 ws ρ0 hk b hb
    rw [show loopsOf (fb Go.Proofs.Tryz.f5) = [(bodyAt (fb Go.Proofs.Tryz.f5) 0)] by kernel_rfl] at hb
    simp only [List.mem_cons, List.mem_nil_iff, or_false] at hb
    rcases hb with rfl
    · exact FeedRound_6_lok E w0 ws ρ0 hk
noncomputable def G41 : Env := G40.addE 5 2 FeedRound_in FeedRound_out FeedRound_SC
theorem g41 : EnvOk Go.Proofs.Tryz.prog G41 := EnvOk.addE g40 FeedRound_c FeedRound_says
end Go.Sx.T

