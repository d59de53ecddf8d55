import Derived.Test.YtdjnfdcoilgegaaGreatDoorYNASpec
import Derived.Test.YtdjnfdcoilgegaaGreatDoorYNBCon
set_option linter.all false
namespace Go.Sx.T
open Go Go.Sx Go.Proofs
set_option maxRecDepth 100000

-- ### NegoAgain: function 7
def NegoAgain_in : Tm := ⟨[], [(0, .w (.at (.bool))), (1, .w (.at (.int .i64))), (2, .w (.at (.str))), (3, .w (.at (.int .i64)))]⟩
def NegoAgain_out : Tm := ⟨[], [(0, .w (.at (.bool)))]⟩
def NegoAgain_10_T : Tm := ⟨[.row 49 2 [.int .i64, .str], .cells 102 [.bool, .map 2, .map 3, .map 4, .map 5, .all 6 2], .map .i64 (.str), .map .i64 (.str), .map .i64 (.str), .map .i64 (.str), .row 49 2 [.int .i64, .str]], [(13, .w (.at (.int .i64))), (12, .w (.at (.all 0 2))), (11, .w (.at (.str))), (10, .w (.at (.ptr 1 0))), (2, .w (.at (.str))), (1, .w (.at (.int .i64))), (0, .w (.at (.bool))), (3, .w (.at (.int .i64)))]⟩
def NegoAgain_10_X0 : Tm := ⟨[.cells 102 [.bool, .map 1, .map 2, .map 3, .map 4, .all 5 2], .map .i64 (.str), .map .i64 (.str), .map .i64 (.str), .map .i64 (.str), .row 49 2 [.int .i64, .str], .row 49 2 [.int .i64, .str]], [(1, .w (.at (.int .i64))), (10, .w (.at (.ptr 0 0))), (11, .w (.at (.str))), (12, .w (.at (.all 6 2))), (2, .w (.at (.str))), (0, .w (.at (.bool)))]⟩
def NegoAgain_10_X : Exits := [(0, (NegoAgain_10_X0, []))]
def NegoAgain_10_R : Tm := ⟨[], [(8, .w (.at (.bool)))]⟩

def NegoAgain_Λd (L10 : ({β : Type} → (Nat → List Leaf → Option β) → (List Leaf → Option β) → Nat → List Int → List ByteArray → List Int → List ByteArray → List Int → List ByteArray → List Int → List ByteArray → List Int → List ByteArray → List Int → List ByteArray → Bool → Int → ByteArray → ByteArray → Int → Bool → Int → Option β)) : Loops := ⟨fun b fr H kx kr => bif Nat.beq (rid b) 10 then loopE 0 NegoAgain_10_T [] NegoAgain_10_X NegoAgain_10_R (NegoAgain_10_F @L10 top) fr H kx kr else none⟩
def NegoAgain_Λ : Loops := NegoAgain_Λd @NegoAgain_10_L
theorem NegoAgain_10_e (L10 : ({β : Type} → (Nat → List Leaf → Option β) → (List Leaf → Option β) → Nat → List Int → List ByteArray → List Int → List ByteArray → List Int → List ByteArray → List Int → List ByteArray → List Int → List ByteArray → List Int → List ByteArray → Bool → Int → ByteArray → ByteArray → Int → Bool → Int → Option β)) {α : Type} (kx : Nat → List Leaf → Option α) (kr : List Leaf → Option α) (again : List Int → List ByteArray → List Int → List ByteArray → List Int → List ByteArray → List Int → List ByteArray → List Int → List ByteArray → List Int → List ByteArray → Bool → Int → ByteArray → ByteArray → Int → Bool → Int → Option α) (first0 : List Int) (first1 : List ByteArray) (n_want_k : List Int) (n_want_v : List ByteArray) (n_like_k : List Int) (n_like_v : List ByteArray) (n_mine_k : List Int) (n_mine_v : List ByteArray) (n_theirs_k : List Int) (n_theirs_v : List ByteArray) (n_due0 : List Int) (n_due1 : List ByteArray) (n_server : Bool) (i : Int) (one2 : ByteArray) (v : ByteArray) (f : Int) (server : Bool) (times : Int) : NegoAgain_10_B  kx kr again first0 first1 n_want_k n_want_v n_like_k n_like_v n_mine_k n_mine_v n_theirs_k n_theirs_v n_due0 n_due1 n_server i one2 v f server times = loopB G47 (NegoAgain_Λd @L10) false tab Go.Proofs.Tryz.f7.ntmps 0 NegoAgain_10_T [] NegoAgain_10_X NegoAgain_10_R (bodyAt (fb Go.Proofs.Tryz.f7) 0) (fun ls => un_li ls fun first0 rr => un_ls rr fun first1 rr => un_li rr fun n_want_k rr => un_ls rr fun n_want_v rr => un_li rr fun n_like_k rr => un_ls rr fun n_like_v rr => un_li rr fun n_mine_k rr => un_ls rr fun n_mine_v rr => un_li rr fun n_theirs_k rr => un_ls rr fun n_theirs_v rr => un_li rr fun n_due0 rr => un_ls rr fun n_due1 rr => un_b rr fun n_server rr => un_i rr fun i rr => un_s rr fun one2 rr => un_s rr fun v rr => un_i rr fun f rr => un_b rr fun server rr => un_i rr fun times rr => un_nil rr (again first0 first1 n_want_k n_want_v n_like_k n_like_v n_mine_k n_mine_v n_theirs_k n_theirs_v n_due0 n_due1 n_server i one2 v f server times)) kx kr (instFr NegoAgain_10_T [.li first0, .ls first1, .li n_want_k, .ls n_want_v, .li n_like_k, .ls n_like_v, .li n_mine_k, .ls n_mine_v, .li n_theirs_k, .ls n_theirs_v, .li n_due0, .ls n_due1, .b n_server, .i i, .s one2, .s v, .i f, .b server, .i times]) (instH NegoAgain_10_T [.li first0, .ls first1, .li n_want_k, .ls n_want_v, .li n_like_k, .ls n_like_v, .li n_mine_k, .ls n_mine_v, .li n_theirs_k, .ls n_theirs_v, .li n_due0, .ls n_due1, .b n_server, .i i, .s one2, .s v, .i f, .b server, .i times]) := by kernel_rfl
theorem NegoAgain_10_lok (E : Nat → Prop) (w0 ws : World) (ρ0 : List Pl) (hk : ρ0.length = 0) : LOk Go.Proofs.Tryz.prog 7 Go.Proofs.Tryz.f7 false E w0 ws Go.Proofs.Tryz.f7.ntmps ρ0 NegoAgain_Λ (bodyAt (fb Go.Proofs.Tryz.f7) 0) := by
  refine lok mixed tab_ok g47 Go.Proofs.Tryz.func7 hk (T := NegoAgain_10_T) (rt := NegoAgain_10_R) (cuts := []) (ex := NegoAgain_10_X) (top := top) (F := NegoAgain_10_F @NegoAgain_10_L) (fun fr H kx kr => by kernel_rfl) ?_ ?_ ?_
  · intro α ls' kx' kr' r' h'
    unfold NegoAgain_10_F at h'
    obtain ⟨first0, l'1, rfl, h'1⟩ := un_li_some.1 h'
    obtain ⟨first1, l'2, rfl, h'2⟩ := un_ls_some.1 h'1
    obtain ⟨n_want_k, l'3, rfl, h'3⟩ := un_li_some.1 h'2
    obtain ⟨n_want_v, l'4, rfl, h'4⟩ := un_ls_some.1 h'3
    obtain ⟨n_like_k, l'5, rfl, h'5⟩ := un_li_some.1 h'4
    obtain ⟨n_like_v, l'6, rfl, h'6⟩ := un_ls_some.1 h'5
    obtain ⟨n_mine_k, l'7, rfl, h'7⟩ := un_li_some.1 h'6
    obtain ⟨n_mine_v, l'8, rfl, h'8⟩ := un_ls_some.1 h'7
    obtain ⟨n_theirs_k, l'9, rfl, h'9⟩ := un_li_some.1 h'8
    obtain ⟨n_theirs_v, l'10, rfl, h'10⟩ := un_ls_some.1 h'9
    obtain ⟨n_due0, l'11, rfl, h'11⟩ := un_li_some.1 h'10
    obtain ⟨n_due1, l'12, rfl, h'12⟩ := un_ls_some.1 h'11
    obtain ⟨n_server, l'13, rfl, h'13⟩ := un_b_some.1 h'12
    obtain ⟨i, l'14, rfl, h'14⟩ := un_i_some.1 h'13
    obtain ⟨one2, l'15, rfl, h'15⟩ := un_s_some.1 h'14
    obtain ⟨v, l'16, rfl, h'16⟩ := un_s_some.1 h'15
    obtain ⟨f, l'17, rfl, h'17⟩ := un_i_some.1 h'16
    obtain ⟨server, l'18, rfl, h'18⟩ := un_b_some.1 h'17
    obtain ⟨times, l'19, rfl, h'19⟩ := un_i_some.1 h'18
    obtain ⟨rfl, h'Z⟩ := un_nil_some.1 h'19
    cases h'Z
  · intro α n' ls' kx' kr' r' h'
    unfold NegoAgain_10_F at h'
    obtain ⟨first0, l'1, rfl, h'1⟩ := un_li_some.1 h'
    obtain ⟨first1, l'2, rfl, h'2⟩ := un_ls_some.1 h'1
    obtain ⟨n_want_k, l'3, rfl, h'3⟩ := un_li_some.1 h'2
    obtain ⟨n_want_v, l'4, rfl, h'4⟩ := un_ls_some.1 h'3
    obtain ⟨n_like_k, l'5, rfl, h'5⟩ := un_li_some.1 h'4
    obtain ⟨n_like_v, l'6, rfl, h'6⟩ := un_ls_some.1 h'5
    obtain ⟨n_mine_k, l'7, rfl, h'7⟩ := un_li_some.1 h'6
    obtain ⟨n_mine_v, l'8, rfl, h'8⟩ := un_ls_some.1 h'7
    obtain ⟨n_theirs_k, l'9, rfl, h'9⟩ := un_li_some.1 h'8
    obtain ⟨n_theirs_v, l'10, rfl, h'10⟩ := un_ls_some.1 h'9
    obtain ⟨n_due0, l'11, rfl, h'11⟩ := un_li_some.1 h'10
    obtain ⟨n_due1, l'12, rfl, h'12⟩ := un_ls_some.1 h'11
    obtain ⟨n_server, l'13, rfl, h'13⟩ := un_b_some.1 h'12
    obtain ⟨i, l'14, rfl, h'14⟩ := un_i_some.1 h'13
    obtain ⟨one2, l'15, rfl, h'15⟩ := un_s_some.1 h'14
    obtain ⟨v, l'16, rfl, h'16⟩ := un_s_some.1 h'15
    obtain ⟨f, l'17, rfl, h'17⟩ := un_i_some.1 h'16
    obtain ⟨server, l'18, rfl, h'18⟩ := un_b_some.1 h'17
    obtain ⟨times, l'19, rfl, h'19⟩ := un_i_some.1 h'18
    obtain ⟨rfl, h'Z⟩ := un_nil_some.1 h'19
    exact (NegoAgain_10_e @NegoAgain_10_L kx' kr' (NegoAgain_10_L kx' kr' n') first0 first1 n_want_k n_want_v n_like_k n_like_v n_mine_k n_mine_v n_theirs_k n_theirs_v n_due0 n_due1 n_server i one2 v f server times).symm.trans h'Z
  · intro b' hb
    rw [show loopsOf (bodyAt (fb Go.Proofs.Tryz.f7) 0) = [] by kernel_rfl] at hb
    cases hb
theorem NegoAgain_ed (L10 : ({β : Type} → (Nat → List Leaf → Option β) → (List Leaf → Option β) → Nat → List Int → List ByteArray → List Int → List ByteArray → List Int → List ByteArray → List Int → List ByteArray → List Int → List ByteArray → List Int → List ByteArray → Bool → Int → ByteArray → ByteArray → Int → Bool → Int → Option β)) (server : Bool) (f : Int) (v : ByteArray) (times : Int) : NegoAgain_d @L10 server f v times = den G47 (NegoAgain_Λd @L10) false tab Go.Proofs.Tryz.f7.ntmps (fun fr H => finish tab 0 Go.Proofs.Tryz.f7.results.toList NegoAgain_out [] fr H some) (fun _ _ _ => none) (fun fr H => finish tab 0 Go.Proofs.Tryz.f7.results.toList NegoAgain_out [] fr H some) 10000 [.code (fb Go.Proofs.Tryz.f7)] (instFr NegoAgain_in [.b server, .i f, .s v, .i times]) (instH NegoAgain_in [.b server, .i f, .s v, .i times]) := by kernel_rfl
theorem NegoAgain_e (server : Bool) (f : Int) (v : ByteArray) (times : Int) : NegoAgain server f v times = den G47 NegoAgain_Λ false tab Go.Proofs.Tryz.f7.ntmps (fun fr H => finish tab 0 Go.Proofs.Tryz.f7.results.toList NegoAgain_out [] fr H some) (fun _ _ _ => none) (fun fr H => finish tab 0 Go.Proofs.Tryz.f7.results.toList NegoAgain_out [] fr H some) 10000 [.code (fb Go.Proofs.Tryz.f7)] (instFr NegoAgain_in [.b server, .i f, .s v, .i times]) (instH NegoAgain_in [.b server, .i f, .s v, .i times]) := NegoAgain_ed @NegoAgain_10_L server f v times
def NegoAgain_S : List Leaf → Option (List Leaf) := fun ls => un_b ls fun server rr => un_i rr fun f rr => un_s rr fun v rr => un_i rr fun times rr => un_nil rr (NegoAgain server f v times)
def NegoAgain_SC : Tld := fun ls k' => un_b ls fun server rr => un_i rr fun f rr => un_s rr fun v rr => un_i rr fun times rr => un_nil rr (out (NegoAgain server f v times) k')
theorem NegoAgain_Se (server : Bool) (f : Int) (v : ByteArray) (times : Int) : NegoAgain_S [.b server, .i f, .s v, .i times] = NegoAgain server f v times := by
  unfold NegoAgain_S
  simp only [un_i_ev, un_b_ev, un_s_ev, un_li_ev, un_lb_ev, un_ls_ev, un_nil_ev]
theorem NegoAgain_says : Says NegoAgain_SC NegoAgain_S := by
  intro β ls' k' r' h'
  unfold NegoAgain_SC at h'
  obtain ⟨server, l'1, rfl, h'1⟩ := un_b_some.1 h'
  obtain ⟨f, l'2, rfl, h'2⟩ := un_i_some.1 h'1
  obtain ⟨v, l'3, rfl, h'3⟩ := un_s_some.1 h'2
  obtain ⟨times, l'4, rfl, h'4⟩ := un_i_some.1 h'3
  obtain ⟨rfl, h'Z⟩ := un_nil_some.1 h'4
  obtain ⟨l', a', b'⟩ := out_some.1 h'Z
  exact ⟨l', (NegoAgain_Se server f v times).trans a', b'⟩
theorem NegoAgain_c : FnC Go.Proofs.Tryz.prog 7 false 4 0 NegoAgain_in NegoAgain_out NegoAgain_S := by
  refine fn_ok (Λ := NegoAgain_Λ) mixed tab_ok g47 Go.Proofs.Tryz.func7 (by kernel_rfl) (body := fb Go.Proofs.Tryz.f7) rfl (ts := Go.Proofs.Tryz.f7.results.toList) rfl (cuts := []) (by kernel_rfl) (Nat.le_of_ble_eq_true (by kernel_rfl)) (by kernel_rfl) (rt := .w (.at (.bool))) rfl ?_ ?_
  · intro ls' r' h'
    unfold NegoAgain_S at h'
    obtain ⟨server, l'1, rfl, h'1⟩ := un_b_some.1 h'
    obtain ⟨f, l'2, rfl, h'2⟩ := un_i_some.1 h'1
    obtain ⟨v, l'3, rfl, h'3⟩ := un_s_some.1 h'2
    obtain ⟨times, l'4, rfl, h'4⟩ := un_i_some.1 h'3
    obtain ⟨rfl, h'Z⟩ := un_nil_some.1 h'4
    exact (NegoAgain_e server f v times).symm.trans h'Z
  · intro E w0 ws ρ0 hk b hb
    rw [show loopsOf (fb Go.Proofs.Tryz.f7) = [(bodyAt (fb Go.Proofs.Tryz.f7) 0)] by kernel_rfl] at hb
    simp only [List.mem_cons, List.mem_nil_iff, or_false] at hb
    rcases hb with rfl
    · exact NegoAgain_10_lok E w0 ws ρ0 hk
noncomputable def G48 : Env := G47.addE 7 4 NegoAgain_in NegoAgain_out NegoAgain_SC
theorem g48 : EnvOk Go.Proofs.Tryz.prog G48 := EnvOk.addE g47 NegoAgain_c NegoAgain_says
end Go.Sx.T

