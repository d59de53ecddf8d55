import Derived.Test.YthcddikjnpbnjaaGreatDoorYFRSpec
import Derived.Test.YthcddikjnpbnjaaGreatDoorYFPCon
import Derived.Test.YthcddikjnpbnjaaGreatDoorL6
set_option linter.all false
namespace Go.Sx.T
open Go Go.Sx Go.Proofs
set_option maxRecDepth 100000
noncomputable def fnsNil : Fns := [(61, Go.Proofs.Tryz.f61), (92, Go.Proofs.Tryz.f92)]
theorem fnsNil_ok : FnsOk Go.Proofs.Tryz.prog fnsNil := .cons Go.Proofs.Tryz.func61 (by kernel_rfl) <| .cons Go.Proofs.Tryz.func92 (by kernel_rfl) <| .nil
noncomputable def G37 : Env := inlNil fnsNil tab G36 4
theorem g37 : EnvOk Go.Proofs.Tryz.prog G37 := EnvOk.inlNil mixed tab_ok g36 fnsNil_ok 4
noncomputable def fnsF : Fns := [(14, Go.Proofs.Tryz.f14), (20, Go.Proofs.Tryz.f20), (15, Go.Proofs.Tryz.f15)]
theorem fnsF_ok : FnsOk Go.Proofs.Tryz.prog fnsF := .cons Go.Proofs.Tryz.func14 (by kernel_rfl) <| .cons Go.Proofs.Tryz.func20 (by kernel_rfl) <| .cons Go.Proofs.Tryz.func15 (by kernel_rfl) <| .nil
noncomputable def G38 : Env := inlC fnsF tab G37 5
theorem g38 : EnvOk Go.Proofs.Tryz.prog G38 := EnvOk.inlC mixed tab_ok g37 fnsF_ok 5

-- ### FeedRate: function 4
def FeedRate_in : Tm := ⟨[.ro 3 1 [.int .i64], .ro 3 1 [.int .i64]], [(0, .w (.at (.all 0 1))), (1, .w (.at (.all 1 1)))]⟩
def FeedRate_out : Tm := ⟨[.dead, .dead], [(0, .w (.at (.bool)))]⟩
def FeedRate_8_T : Tm := ⟨[.ro 3 1 [.int .i64], .ro 3 1 [.int .i64], .cells 100 [.int .i64, .bool, .int .i64, .int .u64, .int .u64, .map 3, .map 4, .int .i64, .bool, .int .i64, .int .u64, .all 5 1, .int .u64, .int .i64], .map .u64 (.int .i64), .map .u64 (.bool), .row 22 1 [.int .u64]], [(10, .w (.at (.int .i64))), (6, .w (.at (.ptr 2 0))), (9, .w (.at (.int .u64))), (8, .w (.at (.int .i64))), (0, .w (.at (.all 0 1))), (1, .w (.at (.all 1 1))), (7, .w (.at (.int .i64)))]⟩
def FeedRate_8_X0 : Tm := ⟨[.ro 3 1 [.int .i64], .ro 3 1 [.int .i64], .cells 100 [.int .i64, .bool, .int .i64, .int .u64, .int .u64, .map 3, .map 4, .int .i64, .bool, .int .i64, .int .u64, .all 5 1, .int .u64, .int .i64], .map .u64 (.int .i64), .map .u64 (.bool), .row 22 1 [.int .u64]], [(6, .w (.at (.ptr 2 0)))]⟩
def FeedRate_8_X : Exits := [(0, (FeedRate_8_X0, []))]
def FeedRate_8_R : Tm := ⟨[.ro 3 1 [.int .i64], .ro 3 1 [.int .i64]], [(4, .w (.at (.bool)))]⟩

def FeedRate_Λd (L8 : ({β : Type} → (Nat → List Leaf → Option β) → (List Leaf → Option β) → Nat → List Int → List Int → List Int → List Int → List Int → List Bool → List Int → Int → Bool → Int → Int → Int → Int → Bool → Int → Int → Int → Int → Int → Int → Int → Int → Option β)) : Loops := ⟨fun b fr H kx kr => bif Nat.beq (rid b) 8 then loopE 2 FeedRate_8_T [] FeedRate_8_X FeedRate_8_R (FeedRate_8_F @L8 top) fr H kx kr else none⟩
def FeedRate_Λ : Loops := FeedRate_Λd @FeedRate_8_L
theorem FeedRate_8_e (L8 : ({β : Type} → (Nat → List Leaf → Option β) → (List Leaf → Option β) → Nat → List Int → List Int → List Int → List Int → List Int → List Bool → List Int → Int → Bool → Int → Int → Int → Int → Bool → Int → Int → Int → Int → Int → Int → Int → Int → Option β)) {α : Type} (kx : Nat → List Leaf → Option α) (kr : List Leaf → Option α) (again : List Int → List Int → List Int → List Int → List Int → List Bool → List Int → Int → Bool → Int → Int → Int → Int → Bool → Int → Int → Int → Int → Int → Int → Int → Int → Option α) (sizes : List Int) (gaps : List Int) (f_got_k : List Int) (f_got_v : List Int) (f_lost_k : List Int) (f_lost_v : List Bool) (f_closed : List Int) (f_r : Int) (f_any : Bool) (f_now : Int) (f_first : Int) (f_newest : Int) (f_count : Int) (f_event : Bool) (f_eventAt : Int) (f_eventN : Int) (f_bytes : Int) (f_since : Int) (i : Int) (bytes : Int) (from2 : Int) (now : Int) : FeedRate_8_B  kx kr again sizes gaps f_got_k f_got_v f_lost_k f_lost_v f_closed f_r f_any f_now f_first f_newest f_count f_event f_eventAt f_eventN f_bytes f_since i bytes from2 now = loopB G38 (FeedRate_Λd @L8) false tab Go.Proofs.Tryz.f4.ntmps 2 FeedRate_8_T [] FeedRate_8_X FeedRate_8_R (bodyAt (fb Go.Proofs.Tryz.f4) 0) (fun ls => un_li ls fun sizes rr => un_li rr fun gaps rr => un_li rr fun f_got_k rr => un_li rr fun f_got_v rr => un_li rr fun f_lost_k rr => un_lb rr fun f_lost_v rr => un_li rr fun f_closed rr => un_i rr fun f_r rr => un_b rr fun f_any rr => un_i rr fun f_now rr => un_i rr fun f_first rr => un_i rr fun f_newest rr => un_i rr fun f_count rr => un_b rr fun f_event rr => un_i rr fun f_eventAt rr => un_i rr fun f_eventN rr => un_i rr fun f_bytes rr => un_i rr fun f_since rr => un_i rr fun i rr => un_i rr fun bytes rr => un_i rr fun from2 rr => un_i rr fun now rr => un_nil rr (again sizes gaps f_got_k f_got_v f_lost_k f_lost_v f_closed f_r f_any f_now f_first f_newest f_count f_event f_eventAt f_eventN f_bytes f_since i bytes from2 now)) kx kr (instFr FeedRate_8_T [.li sizes, .li gaps, .li f_got_k, .li f_got_v, .li f_lost_k, .lb f_lost_v, .li f_closed, .i f_r, .b f_any, .i f_now, .i f_first, .i f_newest, .i f_count, .b f_event, .i f_eventAt, .i f_eventN, .i f_bytes, .i f_since, .i i, .i bytes, .i from2, .i now]) (instH FeedRate_8_T [.li sizes, .li gaps, .li f_got_k, .li f_got_v, .li f_lost_k, .lb f_lost_v, .li f_closed, .i f_r, .b f_any, .i f_now, .i f_first, .i f_newest, .i f_count, .b f_event, .i f_eventAt, .i f_eventN, .i f_bytes, .i f_since, .i i, .i bytes, .i from2, .i now]) := by kernel_rfl
theorem FeedRate_8_lok (E : Nat → Prop) (w0 ws : World) (ρ0 : List Pl) (hk : ρ0.length = 2) : LOk Go.Proofs.Tryz.prog 4 Go.Proofs.Tryz.f4 false E w0 ws Go.Proofs.Tryz.f4.ntmps ρ0 FeedRate_Λ (bodyAt (fb Go.Proofs.Tryz.f4) 0) := by
  refine lok mixed tab_ok g38 Go.Proofs.Tryz.func4 hk (T := FeedRate_8_T) (rt := FeedRate_8_R) (cuts := []) (ex := FeedRate_8_X) (top := top) (F := FeedRate_8_F @FeedRate_8_L) (fun fr H kx kr => by kernel_rfl) ?_ ?_ ?_
  · intro α ls' kx' kr' r' h'
    unfold FeedRate_8_F at h'
    obtain ⟨sizes, l'1, rfl, h'1⟩ := un_li_some.1 h'
    obtain ⟨gaps, l'2, rfl, h'2⟩ := un_li_some.1 h'1
    obtain ⟨f_got_k, l'3, rfl, h'3⟩ := un_li_some.1 h'2
    obtain ⟨f_got_v, l'4, rfl, h'4⟩ := un_li_some.1 h'3
    obtain ⟨f_lost_k, l'5, rfl, h'5⟩ := un_li_some.1 h'4
    obtain ⟨f_lost_v, l'6, rfl, h'6⟩ := un_lb_some.1 h'5
    obtain ⟨f_closed, l'7, rfl, h'7⟩ := un_li_some.1 h'6
    obtain ⟨f_r, l'8, rfl, h'8⟩ := un_i_some.1 h'7
    obtain ⟨f_any, l'9, rfl, h'9⟩ := un_b_some.1 h'8
    obtain ⟨f_now, l'10, rfl, h'10⟩ := un_i_some.1 h'9
    obtain ⟨f_first, l'11, rfl, h'11⟩ := un_i_some.1 h'10
    obtain ⟨f_newest, l'12, rfl, h'12⟩ := un_i_some.1 h'11
    obtain ⟨f_count, l'13, rfl, h'13⟩ := un_i_some.1 h'12
    obtain ⟨f_event, l'14, rfl, h'14⟩ := un_b_some.1 h'13
    obtain ⟨f_eventAt, l'15, rfl, h'15⟩ := un_i_some.1 h'14
    obtain ⟨f_eventN, l'16, rfl, h'16⟩ := un_i_some.1 h'15
    obtain ⟨f_bytes, l'17, rfl, h'17⟩ := un_i_some.1 h'16
    obtain ⟨f_since, l'18, rfl, h'18⟩ := un_i_some.1 h'17
    obtain ⟨i, l'19, rfl, h'19⟩ := un_i_some.1 h'18
    obtain ⟨bytes, l'20, rfl, h'20⟩ := un_i_some.1 h'19
    obtain ⟨from2, l'21, rfl, h'21⟩ := un_i_some.1 h'20
    obtain ⟨now, l'22, rfl, h'22⟩ := un_i_some.1 h'21
    obtain ⟨rfl, h'Z⟩ := un_nil_some.1 h'22
    cases h'Z
  · intro α n' ls' kx' kr' r' h'
    unfold FeedRate_8_F at h'
    obtain ⟨sizes, l'1, rfl, h'1⟩ := un_li_some.1 h'
    obtain ⟨gaps, l'2, rfl, h'2⟩ := un_li_some.1 h'1
    obtain ⟨f_got_k, l'3, rfl, h'3⟩ := un_li_some.1 h'2
    obtain ⟨f_got_v, l'4, rfl, h'4⟩ := un_li_some.1 h'3
    obtain ⟨f_lost_k, l'5, rfl, h'5⟩ := un_li_some.1 h'4
    obtain ⟨f_lost_v, l'6, rfl, h'6⟩ := un_lb_some.1 h'5
    obtain ⟨f_closed, l'7, rfl, h'7⟩ := un_li_some.1 h'6
    obtain ⟨f_r, l'8, rfl, h'8⟩ := un_i_some.1 h'7
    obtain ⟨f_any, l'9, rfl, h'9⟩ := un_b_some.1 h'8
    obtain ⟨f_now, l'10, rfl, h'10⟩ := un_i_some.1 h'9
    obtain ⟨f_first, l'11, rfl, h'11⟩ := un_i_some.1 h'10
    obtain ⟨f_newest, l'12, rfl, h'12⟩ := un_i_some.1 h'11
    obtain ⟨f_count, l'13, rfl, h'13⟩ := un_i_some.1 h'12
    obtain ⟨f_event, l'14, rfl, h'14⟩ := un_b_some.1 h'13
    obtain ⟨f_eventAt, l'15, rfl, h'15⟩ := un_i_some.1 h'14
    obtain ⟨f_eventN, l'16, rfl, h'16⟩ := un_i_some.1 h'15
    obtain ⟨f_bytes, l'17, rfl, h'17⟩ := un_i_some.1 h'16
    obtain ⟨f_since, l'18, rfl, h'18⟩ := un_i_some.1 h'17
    obtain ⟨i, l'19, rfl, h'19⟩ := un_i_some.1 h'18
    obtain ⟨bytes, l'20, rfl, h'20⟩ := un_i_some.1 h'19
    obtain ⟨from2, l'21, rfl, h'21⟩ := un_i_some.1 h'20
    obtain ⟨now, l'22, rfl, h'22⟩ := un_i_some.1 h'21
    obtain ⟨rfl, h'Z⟩ := un_nil_some.1 h'22
    exact (FeedRate_8_e @FeedRate_8_L kx' kr' (FeedRate_8_L kx' kr' n') sizes gaps f_got_k f_got_v f_lost_k f_lost_v f_closed f_r f_any f_now f_first f_newest f_count f_event f_eventAt f_eventN f_bytes f_since i bytes from2 now).symm.trans h'Z
  · intro b' hb
    rw [show loopsOf (bodyAt (fb Go.Proofs.Tryz.f4) 0) = [] by kernel_rfl] at hb
    cases hb
theorem FeedRate_ed (L8 : ({β : Type} → (Nat → List Leaf → Option β) → (List Leaf → Option β) → Nat → List Int → List Int → List Int → List Int → List Int → List Bool → List Int → Int → Bool → Int → Int → Int → Int → Bool → Int → Int → Int → Int → Int → Int → Int → Int → Option β)) (sizes : List Int) (gaps : List Int) : FeedRate_d @L8 sizes gaps = den G38 (FeedRate_Λd @L8) false tab Go.Proofs.Tryz.f4.ntmps (fun fr H => finish tab 2 Go.Proofs.Tryz.f4.results.toList FeedRate_out [] fr H some) (fun _ _ _ => none) (fun fr H => finish tab 2 Go.Proofs.Tryz.f4.results.toList FeedRate_out [] fr H some) 10000 [.code (fb Go.Proofs.Tryz.f4)] (instFr FeedRate_in [.li sizes, .li gaps]) (instH FeedRate_in [.li sizes, .li gaps]) := by kernel_rfl
theorem FeedRate_e (sizes : List Int) (gaps : List Int) : FeedRate sizes gaps = den G38 FeedRate_Λ false tab Go.Proofs.Tryz.f4.ntmps (fun fr H => finish tab 2 Go.Proofs.Tryz.f4.results.toList FeedRate_out [] fr H some) (fun _ _ _ => none) (fun fr H => finish tab 2 Go.Proofs.Tryz.f4.results.toList FeedRate_out [] fr H some) 10000 [.code (fb Go.Proofs.Tryz.f4)] (instFr FeedRate_in [.li sizes, .li gaps]) (instH FeedRate_in [.li sizes, .li gaps]) := FeedRate_ed @FeedRate_8_L sizes gaps
def FeedRate_S : List Leaf → Option (List Leaf) := fun ls => un_li ls fun sizes rr => un_li rr fun gaps rr => un_nil rr (FeedRate sizes gaps)
def FeedRate_SC : Tld := fun ls k' => un_li ls fun sizes rr => un_li rr fun gaps rr => un_nil rr (out (FeedRate sizes gaps) k')
theorem FeedRate_Se (sizes : List Int) (gaps : List Int) : FeedRate_S [.li sizes, .li gaps] = FeedRate sizes gaps := by
  unfold FeedRate_S
  simp only [un_i_ev, un_b_ev, un_s_ev, un_li_ev, un_lb_ev, un_ls_ev, un_nil_ev]
theorem FeedRate_says : Says FeedRate_SC FeedRate_S := by
  intro β ls' k' r' h'
  unfold FeedRate_SC at h'
  obtain ⟨sizes, l'1, rfl, h'1⟩ := un_li_some.1 h'
  obtain ⟨gaps, l'2, rfl, h'2⟩ := un_li_some.1 h'1
  obtain ⟨rfl, h'Z⟩ := un_nil_some.1 h'2
  obtain ⟨l', a', b'⟩ := out_some.1 h'Z
  exact ⟨l', (FeedRate_Se sizes gaps).trans a', b'⟩
theorem FeedRate_c : FnC Go.Proofs.Tryz.prog 4 false 2 2 FeedRate_in FeedRate_out FeedRate_S := by
  refine fn_ok (Λ := FeedRate_Λ) mixed tab_ok g38 Go.Proofs.Tryz.func4 (by kernel_rfl) (body := fb Go.Proofs.Tryz.f4) rfl (ts := Go.Proofs.Tryz.f4.results.toList) rfl (cuts := []) (by kernel_rfl) (Nat.le_of_ble_eq_true (by kernel_rfl)) (by kernel_rfl) (rt := .w (.at (.bool))) rfl ?_ ?_
  · intro ls' r' h'
    unfold FeedRate_S at h'
    obtain ⟨sizes, l'1, rfl, h'1⟩ := un_li_some.1 h'
    obtain ⟨gaps, l'2, rfl, h'2⟩ := un_li_some.1 h'1
    obtain ⟨rfl, h'Z⟩ := un_nil_some.1 h'2
    exact (FeedRate_e sizes gaps).symm.trans h'Z
  · intro E w0 ws ρ0 hk b hb
    rw [show loopsOf (fb Go.Proofs.Tryz.f4) = [(bodyAt (fb Go.Proofs.Tryz.f4) 0)] by kernel_rfl] at hb
    simp only [List.mem_cons, List.mem_nil_iff, or_false] at hb
    rcases hb with rfl
    · exact FeedRate_8_lok E w0 ws ρ0 hk
noncomputable def G39 : Env := G38.addE 4 2 FeedRate_in FeedRate_out FeedRate_SC
theorem g39 : EnvOk Go.Proofs.Tryz.prog G39 := EnvOk.addE g38 FeedRate_c FeedRate_says
end Go.Sx.T

