import Derived.Test.YtdjnfdcoilgegaaGreatDoorYNTSpec
import Derived.Test.YtdjnfdcoilgegaaGreatDoorYNKCon
set_option linter.all false
namespace Go.Sx.T
open Go Go.Sx Go.Proofs
set_option maxRecDepth 100000

-- ### NegoTwo: function 8
def NegoTwo_in : Tm := ⟨[.ro 4 1 [.bool]], [(0, .w (.at (.str))), (1, .w (.at (.str))), (2, .w (.at (.str))), (3, .w (.at (.str))), (4, .w (.at (.all 0 1)))]⟩
def NegoTwo_out : Tm := ⟨[.dead], [(0, .w (.at (.bool)))]⟩
def NegoTwo_10_T : Tm := ⟨[.ro 4 1 [.bool], .cells 102 [.bool, .map 2, .map 3, .map 4, .map 5, .all 6 2], .map .i64 (.str), .map .i64 (.str), .map .i64 (.str), .map .i64 (.str), .row 49 2 [.int .i64, .str], .cells 102 [.bool, .map 8, .map 9, .map 10, .map 11, .all 12 2], .map .i64 (.str), .map .i64 (.str), .map .i64 (.str), .map .i64 (.str), .row 49 2 [.int .i64, .str]], [(14, .w (.at (.int .i64))), (12, .w (.at (.ptr 1 0))), (4, .w (.at (.all 0 1))), (13, .w (.at (.ptr 7 0))), (3, .w (.at (.str))), (2, .w (.at (.str))), (0, .w (.at (.str))), (1, .w (.at (.str)))]⟩
def NegoTwo_10_X0 : Tm := ⟨[.ro 4 1 [.bool], .cells 102 [.bool, .map 2, .map 3, .map 4, .map 5, .all 6 2], .map .i64 (.str), .map .i64 (.str), .map .i64 (.str), .map .i64 (.str), .row 49 2 [.int .i64, .str], .cells 102 [.bool, .map 8, .map 9, .map 10, .map 11, .all 12 2], .map .i64 (.str), .map .i64 (.str), .map .i64 (.str), .map .i64 (.str), .row 49 2 [.int .i64, .str]], [(12, .w (.at (.ptr 1 0))), (13, .w (.at (.ptr 7 0))), (3, .w (.at (.str))), (2, .w (.at (.str))), (0, .w (.at (.str))), (1, .w (.at (.str)))]⟩
def NegoTwo_10_X : Exits := [(0, (NegoTwo_10_X0, []))]
def NegoTwo_10_R : Tm := ⟨[.ro 4 1 [.bool]], [(10, .w (.at (.bool)))]⟩

def NegoTwo_Λd (L10 : ({β : Type} → (Nat → List Leaf → Option β) → (List Leaf → Option β) → Nat → List Bool → List Int → List ByteArray → List Int → List ByteArray → List Int → List ByteArray → List Int → List ByteArray → List Int → List ByteArray → List Int → List ByteArray → List Int → List ByteArray → List Int → List ByteArray → List Int → List ByteArray → List Int → List ByteArray → Bool → Bool → Int → ByteArray → ByteArray → ByteArray → ByteArray → Option β)) : Loops := ⟨fun b fr H kx kr => bif Nat.beq (rid b) 10 then loopE 1 NegoTwo_10_T [] NegoTwo_10_X NegoTwo_10_R (NegoTwo_10_F @L10 top) fr H kx kr else none⟩
def NegoTwo_Λ : Loops := NegoTwo_Λd @NegoTwo_10_L
theorem NegoTwo_10_e (L10 : ({β : Type} → (Nat → List Leaf → Option β) → (List Leaf → Option β) → Nat → List Bool → List Int → List ByteArray → List Int → List ByteArray → List Int → List ByteArray → List Int → List ByteArray → List Int → List ByteArray → List Int → List ByteArray → List Int → List ByteArray → List Int → List ByteArray → List Int → List ByteArray → List Int → List ByteArray → Bool → Bool → Int → ByteArray → ByteArray → ByteArray → ByteArray → Option β)) {α : Type} (kx : Nat → List Leaf → Option α) (kr : List Leaf → Option α) (again : List Bool → List Int → List ByteArray → List Int → List ByteArray → List Int → List ByteArray → List Int → List ByteArray → List Int → List ByteArray → List Int → List ByteArray → List Int → List ByteArray → List Int → List ByteArray → List Int → List ByteArray → List Int → List ByteArray → Bool → Bool → Int → ByteArray → ByteArray → ByteArray → ByteArray → Option α) (lost : List Bool) (x_want_k : List Int) (x_want_v : List ByteArray) (x_like_k : List Int) (x_like_v : List ByteArray) (x_mine_k : List Int) (x_mine_v : List ByteArray) (x_theirs_k : List Int) (x_theirs_v : List ByteArray) (x_due0 : List Int) (x_due1 : List ByteArray) (y_want_k : List Int) (y_want_v : List ByteArray) (y_like_k : List Int) (y_like_v : List ByteArray) (y_mine_k : List Int) (y_mine_v : List ByteArray) (y_theirs_k : List Int) (y_theirs_v : List ByteArray) (y_due0 : List Int) (y_due1 : List ByteArray) (x_server : Bool) (y_server : Bool) (i : Int) (d : ByteArray) (c : ByteArray) (a : ByteArray) (b : ByteArray) : NegoTwo_10_B  kx kr again lost x_want_k x_want_v x_like_k x_like_v x_mine_k x_mine_v x_theirs_k x_theirs_v x_due0 x_due1 y_want_k y_want_v y_like_k y_like_v y_mine_k y_mine_v y_theirs_k y_theirs_v y_due0 y_due1 x_server y_server i d c a b = loopB G50 (NegoTwo_Λd @L10) false tab Go.Proofs.Tryz.f8.ntmps 1 NegoTwo_10_T [] NegoTwo_10_X NegoTwo_10_R (bodyAt (fb Go.Proofs.Tryz.f8) 0) (fun ls => un_lb ls fun lost rr => un_li rr fun x_want_k rr => un_ls rr fun x_want_v rr => un_li rr fun x_like_k rr => un_ls rr fun x_like_v rr => un_li rr fun x_mine_k rr => un_ls rr fun x_mine_v rr => un_li rr fun x_theirs_k rr => un_ls rr fun x_theirs_v rr => un_li rr fun x_due0 rr => un_ls rr fun x_due1 rr => un_li rr fun y_want_k rr => un_ls rr fun y_want_v rr => un_li rr fun y_like_k rr => un_ls rr fun y_like_v rr => un_li rr fun y_mine_k rr => un_ls rr fun y_mine_v rr => un_li rr fun y_theirs_k rr => un_ls rr fun y_theirs_v rr => un_li rr fun y_due0 rr => un_ls rr fun y_due1 rr => un_b rr fun x_server rr => un_b rr fun y_server rr => un_i rr fun i rr => un_s rr fun d rr => un_s rr fun c rr => un_s rr fun a rr => un_s rr fun b rr => un_nil rr (again lost x_want_k x_want_v x_like_k x_like_v x_mine_k x_mine_v x_theirs_k x_theirs_v x_due0 x_due1 y_want_k y_want_v y_like_k y_like_v y_mine_k y_mine_v y_theirs_k y_theirs_v y_due0 y_due1 x_server y_server i d c a b)) kx kr (instFr NegoTwo_10_T [.lb lost, .li x_want_k, .ls x_want_v, .li x_like_k, .ls x_like_v, .li x_mine_k, .ls x_mine_v, .li x_theirs_k, .ls x_theirs_v, .li x_due0, .ls x_due1, .li y_want_k, .ls y_want_v, .li y_like_k, .ls y_like_v, .li y_mine_k, .ls y_mine_v, .li y_theirs_k, .ls y_theirs_v, .li y_due0, .ls y_due1, .b x_server, .b y_server, .i i, .s d, .s c, .s a, .s b]) (instH NegoTwo_10_T [.lb lost, .li x_want_k, .ls x_want_v, .li x_like_k, .ls x_like_v, .li x_mine_k, .ls x_mine_v, .li x_theirs_k, .ls x_theirs_v, .li x_due0, .ls x_due1, .li y_want_k, .ls y_want_v, .li y_like_k, .ls y_like_v, .li y_mine_k, .ls y_mine_v, .li y_theirs_k, .ls y_theirs_v, .li y_due0, .ls y_due1, .b x_server, .b y_server, .i i, .s d, .s c, .s a, .s b]) := by kernel_rfl
theorem NegoTwo_10_lok (E : Nat → Prop) (w0 ws : World) (ρ0 : List Pl) (hk : ρ0.length = 1) : LOk Go.Proofs.Tryz.prog 8 Go.Proofs.Tryz.f8 false E w0 ws Go.Proofs.Tryz.f8.ntmps ρ0 NegoTwo_Λ (bodyAt (fb Go.Proofs.Tryz.f8) 0) := by
  refine lok mixed tab_ok g50 Go.Proofs.Tryz.func8 hk (T := NegoTwo_10_T) (rt := NegoTwo_10_R) (cuts := []) (ex := NegoTwo_10_X) (top := top) (F := NegoTwo_10_F @NegoTwo_10_L) (fun fr H kx kr => by kernel_rfl) ?_ ?_ ?_
  · intro α ls' kx' kr' r' h'
    unfold NegoTwo_10_F at h'
    obtain ⟨lost, l'1, rfl, h'1⟩ := un_lb_some.1 h'
    obtain ⟨x_want_k, l'2, rfl, h'2⟩ := un_li_some.1 h'1
    obtain ⟨x_want_v, l'3, rfl, h'3⟩ := un_ls_some.1 h'2
    obtain ⟨x_like_k, l'4, rfl, h'4⟩ := un_li_some.1 h'3
    obtain ⟨x_like_v, l'5, rfl, h'5⟩ := un_ls_some.1 h'4
    obtain ⟨x_mine_k, l'6, rfl, h'6⟩ := un_li_some.1 h'5
    obtain ⟨x_mine_v, l'7, rfl, h'7⟩ := un_ls_some.1 h'6
    obtain ⟨x_theirs_k, l'8, rfl, h'8⟩ := un_li_some.1 h'7
    obtain ⟨x_theirs_v, l'9, rfl, h'9⟩ := un_ls_some.1 h'8
    obtain ⟨x_due0, l'10, rfl, h'10⟩ := un_li_some.1 h'9
    obtain ⟨x_due1, l'11, rfl, h'11⟩ := un_ls_some.1 h'10
    obtain ⟨y_want_k, l'12, rfl, h'12⟩ := un_li_some.1 h'11
    obtain ⟨y_want_v, l'13, rfl, h'13⟩ := un_ls_some.1 h'12
    obtain ⟨y_like_k, l'14, rfl, h'14⟩ := un_li_some.1 h'13
    obtain ⟨y_like_v, l'15, rfl, h'15⟩ := un_ls_some.1 h'14
    obtain ⟨y_mine_k, l'16, rfl, h'16⟩ := un_li_some.1 h'15
    obtain ⟨y_mine_v, l'17, rfl, h'17⟩ := un_ls_some.1 h'16
    obtain ⟨y_theirs_k, l'18, rfl, h'18⟩ := un_li_some.1 h'17
    obtain ⟨y_theirs_v, l'19, rfl, h'19⟩ := un_ls_some.1 h'18
    obtain ⟨y_due0, l'20, rfl, h'20⟩ := un_li_some.1 h'19
    obtain ⟨y_due1, l'21, rfl, h'21⟩ := un_ls_some.1 h'20
    obtain ⟨x_server, l'22, rfl, h'22⟩ := un_b_some.1 h'21
    obtain ⟨y_server, l'23, rfl, h'23⟩ := un_b_some.1 h'22
    obtain ⟨i, l'24, rfl, h'24⟩ := un_i_some.1 h'23
    obtain ⟨d, l'25, rfl, h'25⟩ := un_s_some.1 h'24
    obtain ⟨c, l'26, rfl, h'26⟩ := un_s_some.1 h'25
    obtain ⟨a, l'27, rfl, h'27⟩ := un_s_some.1 h'26
    obtain ⟨b, l'28, rfl, h'28⟩ := un_s_some.1 h'27
    obtain ⟨rfl, h'Z⟩ := un_nil_some.1 h'28
    cases h'Z
  · intro α n' ls' kx' kr' r' h'
    unfold NegoTwo_10_F at h'
    obtain ⟨lost, l'1, rfl, h'1⟩ := un_lb_some.1 h'
    obtain ⟨x_want_k, l'2, rfl, h'2⟩ := un_li_some.1 h'1
    obtain ⟨x_want_v, l'3, rfl, h'3⟩ := un_ls_some.1 h'2
    obtain ⟨x_like_k, l'4, rfl, h'4⟩ := un_li_some.1 h'3
    obtain ⟨x_like_v, l'5, rfl, h'5⟩ := un_ls_some.1 h'4
    obtain ⟨x_mine_k, l'6, rfl, h'6⟩ := un_li_some.1 h'5
    obtain ⟨x_mine_v, l'7, rfl, h'7⟩ := un_ls_some.1 h'6
    obtain ⟨x_theirs_k, l'8, rfl, h'8⟩ := un_li_some.1 h'7
    obtain ⟨x_theirs_v, l'9, rfl, h'9⟩ := un_ls_some.1 h'8
    obtain ⟨x_due0, l'10, rfl, h'10⟩ := un_li_some.1 h'9
    obtain ⟨x_due1, l'11, rfl, h'11⟩ := un_ls_some.1 h'10
    obtain ⟨y_want_k, l'12, rfl, h'12⟩ := un_li_some.1 h'11
    obtain ⟨y_want_v, l'13, rfl, h'13⟩ := un_ls_some.1 h'12
    obtain ⟨y_like_k, l'14, rfl, h'14⟩ := un_li_some.1 h'13
    obtain ⟨y_like_v, l'15, rfl, h'15⟩ := un_ls_some.1 h'14
    obtain ⟨y_mine_k, l'16, rfl, h'16⟩ := un_li_some.1 h'15
    obtain ⟨y_mine_v, l'17, rfl, h'17⟩ := un_ls_some.1 h'16
    obtain ⟨y_theirs_k, l'18, rfl, h'18⟩ := un_li_some.1 h'17
    obtain ⟨y_theirs_v, l'19, rfl, h'19⟩ := un_ls_some.1 h'18
    obtain ⟨y_due0, l'20, rfl, h'20⟩ := un_li_some.1 h'19
    obtain ⟨y_due1, l'21, rfl, h'21⟩ := un_ls_some.1 h'20
    obtain ⟨x_server, l'22, rfl, h'22⟩ := un_b_some.1 h'21
    obtain ⟨y_server, l'23, rfl, h'23⟩ := un_b_some.1 h'22
    obtain ⟨i, l'24, rfl, h'24⟩ := un_i_some.1 h'23
    obtain ⟨d, l'25, rfl, h'25⟩ := un_s_some.1 h'24
    obtain ⟨c, l'26, rfl, h'26⟩ := un_s_some.1 h'25
    obtain ⟨a, l'27, rfl, h'27⟩ := un_s_some.1 h'26
    obtain ⟨b, l'28, rfl, h'28⟩ := un_s_some.1 h'27
    obtain ⟨rfl, h'Z⟩ := un_nil_some.1 h'28
    exact (NegoTwo_10_e @NegoTwo_10_L kx' kr' (NegoTwo_10_L kx' kr' n') lost x_want_k x_want_v x_like_k x_like_v x_mine_k x_mine_v x_theirs_k x_theirs_v x_due0 x_due1 y_want_k y_want_v y_like_k y_like_v y_mine_k y_mine_v y_theirs_k y_theirs_v y_due0 y_due1 x_server y_server i d c a b).symm.trans h'Z
  · intro b' hb
    rw [show loopsOf (bodyAt (fb Go.Proofs.Tryz.f8) 0) = [] by kernel_rfl] at hb
    cases hb
theorem NegoTwo_ed (L10 : ({β : Type} → (Nat → List Leaf → Option β) → (List Leaf → Option β) → Nat → List Bool → List Int → List ByteArray → List Int → List ByteArray → List Int → List ByteArray → List Int → List ByteArray → List Int → List ByteArray → List Int → List ByteArray → List Int → List ByteArray → List Int → List ByteArray → List Int → List ByteArray → List Int → List ByteArray → Bool → Bool → Int → ByteArray → ByteArray → ByteArray → ByteArray → Option β)) (lost : List Bool) (a : ByteArray) (b : ByteArray) (c : ByteArray) (d : ByteArray) : NegoTwo_d @L10 lost a b c d = den G50 (NegoTwo_Λd @L10) false tab Go.Proofs.Tryz.f8.ntmps (fun fr H => finish tab 1 Go.Proofs.Tryz.f8.results.toList NegoTwo_out [] fr H some) (fun _ _ _ => none) (fun fr H => finish tab 1 Go.Proofs.Tryz.f8.results.toList NegoTwo_out [] fr H some) 10000 [.code (fb Go.Proofs.Tryz.f8)] (instFr NegoTwo_in [.lb lost, .s a, .s b, .s c, .s d]) (instH NegoTwo_in [.lb lost, .s a, .s b, .s c, .s d]) := by kernel_rfl
theorem NegoTwo_e (lost : List Bool) (a : ByteArray) (b : ByteArray) (c : ByteArray) (d : ByteArray) : NegoTwo lost a b c d = den G50 NegoTwo_Λ false tab Go.Proofs.Tryz.f8.ntmps (fun fr H => finish tab 1 Go.Proofs.Tryz.f8.results.toList NegoTwo_out [] fr H some) (fun _ _ _ => none) (fun fr H => finish tab 1 Go.Proofs.Tryz.f8.results.toList NegoTwo_out [] fr H some) 10000 [.code (fb Go.Proofs.Tryz.f8)] (instFr NegoTwo_in [.lb lost, .s a, .s b, .s c, .s d]) (instH NegoTwo_in [.lb lost, .s a, .s b, .s c, .s d]) := NegoTwo_ed @NegoTwo_10_L lost a b c d
def NegoTwo_S : List Leaf → Option (List Leaf) := fun ls => un_lb ls fun lost rr => un_s rr fun a rr => un_s rr fun b rr => un_s rr fun c rr => un_s rr fun d rr => un_nil rr (NegoTwo lost a b c d)
def NegoTwo_SC : Tld := fun ls k' => un_lb ls fun lost rr => un_s rr fun a rr => un_s rr fun b rr => un_s rr fun c rr => un_s rr fun d rr => un_nil rr (out (NegoTwo lost a b c d) k')
theorem NegoTwo_Se (lost : List Bool) (a : ByteArray) (b : ByteArray) (c : ByteArray) (d : ByteArray) : NegoTwo_S [.lb lost, .s a, .s b, .s c, .s d] = NegoTwo lost a b c d := by
  unfold NegoTwo_S
  simp only [un_i_ev, un_b_ev, un_s_ev, un_li_ev, un_lb_ev, un_ls_ev, un_nil_ev]
theorem NegoTwo_says : Says NegoTwo_SC NegoTwo_S := by
  intro β ls' k' r' h'
  unfold NegoTwo_SC at h'
  obtain ⟨lost, l'1, rfl, h'1⟩ := un_lb_some.1 h'
  obtain ⟨a, l'2, rfl, h'2⟩ := un_s_some.1 h'1
  obtain ⟨b, l'3, rfl, h'3⟩ := un_s_some.1 h'2
  obtain ⟨c, l'4, rfl, h'4⟩ := un_s_some.1 h'3
  obtain ⟨d, l'5, rfl, h'5⟩ := un_s_some.1 h'4
  obtain ⟨rfl, h'Z⟩ := un_nil_some.1 h'5
  obtain ⟨l', a', b'⟩ := out_some.1 h'Z
  exact ⟨l', (NegoTwo_Se lost a b c d).trans a', b'⟩
theorem NegoTwo_c : FnC Go.Proofs.Tryz.prog 8 false 5 1 NegoTwo_in NegoTwo_out NegoTwo_S := by
  refine fn_ok (Λ := NegoTwo_Λ) mixed tab_ok g50 Go.Proofs.Tryz.func8 (by kernel_rfl) (body := fb Go.Proofs.Tryz.f8) rfl (ts := Go.Proofs.Tryz.f8.results.toList) rfl (cuts := []) (by kernel_rfl) (Nat.le_of_ble_eq_true (by kernel_rfl)) (by kernel_rfl) (rt := .w (.at (.bool))) rfl ?_ ?_
  · intro ls' r' h'
    unfold NegoTwo_S at h'
    obtain ⟨lost, l'1, rfl, h'1⟩ := un_lb_some.1 h'
    obtain ⟨a, l'2, rfl, h'2⟩ := un_s_some.1 h'1
    obtain ⟨b, l'3, rfl, h'3⟩ := un_s_some.1 h'2
    obtain ⟨c, l'4, rfl, h'4⟩ := un_s_some.1 h'3
    obtain ⟨d, l'5, rfl, h'5⟩ := un_s_some.1 h'4
    obtain ⟨rfl, h'Z⟩ := un_nil_some.1 h'5
    exact (NegoTwo_e lost a b c d).symm.trans h'Z
  · intro E w0 ws ρ0 hk b hb
    rw [show loopsOf (fb Go.Proofs.Tryz.f8) = [(bodyAt (fb Go.Proofs.Tryz.f8) 0)] by kernel_rfl] at hb
    simp only [List.mem_cons, List.mem_nil_iff, or_false] at hb
    rcases hb with rfl
    · exact NegoTwo_10_lok E w0 ws ρ0 hk
noncomputable def G51 : Env := G50.addE 8 5 NegoTwo_in NegoTwo_out NegoTwo_SC
theorem g51 : EnvOk Go.Proofs.Tryz.prog G51 := EnvOk.addE g50 NegoTwo_c NegoTwo_says
end Go.Sx.T

