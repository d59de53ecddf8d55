import Derived.Test.YtdjnfdcoilgegaaGreatDoorYNBSpec
import Derived.Test.YtdjnfdcoilgegaaGreatDoorYR18Con
set_option linter.all false
namespace Go.Sx.T
open Go Go.Sx Go.Proofs
set_option maxRecDepth 100000

-- ### NegoBad: function 5
def NegoBad_in : Tm := ⟨[], [(0, .w (.at (.int .i64))), (1, .w (.at (.str))), (2, .w (.at (.str)))]⟩
def NegoBad_out : Tm := ⟨[], [(0, .w (.at (.bool)))]⟩
def NegoBad_15_T : Tm := ⟨[.cells 102 [.bool, .map 1, .map 2, .map 3, .map 4, .all 5 2], .map .i64 (.str), .map .i64 (.str), .map .i64 (.str), .map .i64 (.str), .row 49 2 [.int .i64, .str]], [(12, .w (.at (.int .i64))), (2, .w (.at (.str))), (1, .w (.at (.str))), (11, .w (.at (.bool))), (0, .w (.at (.int .i64))), (8, .w (.at (.ptr 0 0))), (10, .w (.at (.bool)))]⟩
def NegoBad_15_X0 : Tm := ⟨[.cells 102 [.bool, .map 1, .map 2, .map 3, .map 4, .all 5 2], .map .i64 (.str), .map .i64 (.str), .map .i64 (.str), .map .i64 (.str), .row 49 2 [.int .i64, .str]], [(2, .w (.at (.str))), (0, .w (.at (.int .i64))), (8, .w (.at (.ptr 0 0))), (11, .w (.at (.bool))), (10, .w (.at (.bool)))]⟩
def NegoBad_15_X : Exits := [(0, (NegoBad_15_X0, []))]
def NegoBad_15_R : Tm := ⟨[], []⟩

def NegoBad_Λd (L15 : ({β : Type} → (Nat → List Leaf → Option β) → (List Leaf → Option β) → Nat → List Int → List ByteArray → List Int → List ByteArray → List Int → List ByteArray → List Int → List ByteArray → List Int → List ByteArray → Bool → Int → ByteArray → ByteArray → Bool → Int → Bool → Option β)) : Loops := ⟨fun b fr H kx kr => bif Nat.beq (rid b) 15 then loopE 0 NegoBad_15_T [] NegoBad_15_X NegoBad_15_R (NegoBad_15_F @L15 top) fr H kx kr else none⟩
def NegoBad_Λ : Loops := NegoBad_Λd @NegoBad_15_L
theorem NegoBad_15_e (L15 : ({β : Type} → (Nat → List Leaf → Option β) → (List Leaf → Option β) → Nat → List Int → List ByteArray → List Int → List ByteArray → List Int → List ByteArray → List Int → List ByteArray → List Int → List ByteArray → Bool → Int → ByteArray → ByteArray → Bool → Int → Bool → Option β)) {α : Type} (kx : Nat → List Leaf → Option α) (kr : List Leaf → Option α) (again : List Int → List ByteArray → List Int → List ByteArray → List Int → List ByteArray → List Int → List ByteArray → List Int → List ByteArray → Bool → Int → ByteArray → ByteArray → Bool → Int → Bool → Option α) (n_want_k : List Int) (n_want_v : List ByteArray) (n_like_k : List Int) (n_like_v : List ByteArray) (n_mine_k : List Int) (n_mine_v : List ByteArray) (n_theirs_k : List Int) (n_theirs_v : List ByteArray) (n_due0 : List Int) (n_due1 : List ByteArray) (n_server : Bool) (i : Int) (w : ByteArray) (v : ByteArray) (has : Bool) (f : Int) (ok : Bool) : NegoBad_15_B  kx kr again n_want_k n_want_v n_like_k n_like_v n_mine_k n_mine_v n_theirs_k n_theirs_v n_due0 n_due1 n_server i w v has f ok = loopB G46 (NegoBad_Λd @L15) false tab Go.Proofs.Tryz.f5.ntmps 0 NegoBad_15_T [] NegoBad_15_X NegoBad_15_R (bodyAt (fb Go.Proofs.Tryz.f5) 0) (fun ls => un_li ls fun n_want_k rr => un_ls rr fun n_want_v rr => un_li rr fun n_like_k rr => un_ls rr fun n_like_v rr => un_li rr fun n_mine_k rr => un_ls rr fun n_mine_v rr => un_li rr fun n_theirs_k rr => un_ls rr fun n_theirs_v rr => un_li rr fun n_due0 rr => un_ls rr fun n_due1 rr => un_b rr fun n_server rr => un_i rr fun i rr => un_s rr fun w rr => un_s rr fun v rr => un_b rr fun has rr => un_i rr fun f rr => un_b rr fun ok rr => un_nil rr (again n_want_k n_want_v n_like_k n_like_v n_mine_k n_mine_v n_theirs_k n_theirs_v n_due0 n_due1 n_server i w v has f ok)) kx kr (instFr NegoBad_15_T [.li n_want_k, .ls n_want_v, .li n_like_k, .ls n_like_v, .li n_mine_k, .ls n_mine_v, .li n_theirs_k, .ls n_theirs_v, .li n_due0, .ls n_due1, .b n_server, .i i, .s w, .s v, .b has, .i f, .b ok]) (instH NegoBad_15_T [.li n_want_k, .ls n_want_v, .li n_like_k, .ls n_like_v, .li n_mine_k, .ls n_mine_v, .li n_theirs_k, .ls n_theirs_v, .li n_due0, .ls n_due1, .b n_server, .i i, .s w, .s v, .b has, .i f, .b ok]) := by kernel_rfl
theorem NegoBad_15_lok (E : Nat → Prop) (w0 ws : World) (ρ0 : List Pl) (hk : ρ0.length = 0) : LOk Go.Proofs.Tryz.prog 5 Go.Proofs.Tryz.f5 false E w0 ws Go.Proofs.Tryz.f5.ntmps ρ0 NegoBad_Λ (bodyAt (fb Go.Proofs.Tryz.f5) 0) := by
  refine lok mixed tab_ok g46 Go.Proofs.Tryz.func5 hk (T := NegoBad_15_T) (rt := NegoBad_15_R) (cuts := []) (ex := NegoBad_15_X) (top := top) (F := NegoBad_15_F @NegoBad_15_L) (fun fr H kx kr => by kernel_rfl) ?_ ?_ ?_
  · intro α ls' kx' kr' r' h'
    unfold NegoBad_15_F at h'
    obtain ⟨n_want_k, l'1, rfl, h'1⟩ := un_li_some.1 h'
    obtain ⟨n_want_v, l'2, rfl, h'2⟩ := un_ls_some.1 h'1
    obtain ⟨n_like_k, l'3, rfl, h'3⟩ := un_li_some.1 h'2
    obtain ⟨n_like_v, l'4, rfl, h'4⟩ := un_ls_some.1 h'3
    obtain ⟨n_mine_k, l'5, rfl, h'5⟩ := un_li_some.1 h'4
    obtain ⟨n_mine_v, l'6, rfl, h'6⟩ := un_ls_some.1 h'5
    obtain ⟨n_theirs_k, l'7, rfl, h'7⟩ := un_li_some.1 h'6
    obtain ⟨n_theirs_v, l'8, rfl, h'8⟩ := un_ls_some.1 h'7
    obtain ⟨n_due0, l'9, rfl, h'9⟩ := un_li_some.1 h'8
    obtain ⟨n_due1, l'10, rfl, h'10⟩ := un_ls_some.1 h'9
    obtain ⟨n_server, l'11, rfl, h'11⟩ := un_b_some.1 h'10
    obtain ⟨i, l'12, rfl, h'12⟩ := un_i_some.1 h'11
    obtain ⟨w, l'13, rfl, h'13⟩ := un_s_some.1 h'12
    obtain ⟨v, l'14, rfl, h'14⟩ := un_s_some.1 h'13
    obtain ⟨has, l'15, rfl, h'15⟩ := un_b_some.1 h'14
    obtain ⟨f, l'16, rfl, h'16⟩ := un_i_some.1 h'15
    obtain ⟨ok, l'17, rfl, h'17⟩ := un_b_some.1 h'16
    obtain ⟨rfl, h'Z⟩ := un_nil_some.1 h'17
    cases h'Z
  · intro α n' ls' kx' kr' r' h'
    unfold NegoBad_15_F at h'
    obtain ⟨n_want_k, l'1, rfl, h'1⟩ := un_li_some.1 h'
    obtain ⟨n_want_v, l'2, rfl, h'2⟩ := un_ls_some.1 h'1
    obtain ⟨n_like_k, l'3, rfl, h'3⟩ := un_li_some.1 h'2
    obtain ⟨n_like_v, l'4, rfl, h'4⟩ := un_ls_some.1 h'3
    obtain ⟨n_mine_k, l'5, rfl, h'5⟩ := un_li_some.1 h'4
    obtain ⟨n_mine_v, l'6, rfl, h'6⟩ := un_ls_some.1 h'5
    obtain ⟨n_theirs_k, l'7, rfl, h'7⟩ := un_li_some.1 h'6
    obtain ⟨n_theirs_v, l'8, rfl, h'8⟩ := un_ls_some.1 h'7
    obtain ⟨n_due0, l'9, rfl, h'9⟩ := un_li_some.1 h'8
    obtain ⟨n_due1, l'10, rfl, h'10⟩ := un_ls_some.1 h'9
    obtain ⟨n_server, l'11, rfl, h'11⟩ := un_b_some.1 h'10
    obtain ⟨i, l'12, rfl, h'12⟩ := un_i_some.1 h'11
    obtain ⟨w, l'13, rfl, h'13⟩ := un_s_some.1 h'12
    obtain ⟨v, l'14, rfl, h'14⟩ := un_s_some.1 h'13
    obtain ⟨has, l'15, rfl, h'15⟩ := un_b_some.1 h'14
    obtain ⟨f, l'16, rfl, h'16⟩ := un_i_some.1 h'15
    obtain ⟨ok, l'17, rfl, h'17⟩ := un_b_some.1 h'16
    obtain ⟨rfl, h'Z⟩ := un_nil_some.1 h'17
    exact (NegoBad_15_e @NegoBad_15_L kx' kr' (NegoBad_15_L kx' kr' n') n_want_k n_want_v n_like_k n_like_v n_mine_k n_mine_v n_theirs_k n_theirs_v n_due0 n_due1 n_server i w v has f ok).symm.trans h'Z
  · intro b' hb
    rw [show loopsOf (bodyAt (fb Go.Proofs.Tryz.f5) 0) = [] by kernel_rfl] at hb
    cases hb
theorem NegoBad_ed (L15 : ({β : Type} → (Nat → List Leaf → Option β) → (List Leaf → Option β) → Nat → List Int → List ByteArray → List Int → List ByteArray → List Int → List ByteArray → List Int → List ByteArray → List Int → List ByteArray → Bool → Int → ByteArray → ByteArray → Bool → Int → Bool → Option β)) (f : Int) (v : ByteArray) (w : ByteArray) : NegoBad_d @L15 f v w = den G46 (NegoBad_Λd @L15) false tab Go.Proofs.Tryz.f5.ntmps (fun fr H => finish tab 0 Go.Proofs.Tryz.f5.results.toList NegoBad_out [] fr H some) (fun _ _ _ => none) (fun fr H => finish tab 0 Go.Proofs.Tryz.f5.results.toList NegoBad_out [] fr H some) 10000 [.code (fb Go.Proofs.Tryz.f5)] (instFr NegoBad_in [.i f, .s v, .s w]) (instH NegoBad_in [.i f, .s v, .s w]) := by kernel_rfl
theorem NegoBad_e (f : Int) (v : ByteArray) (w : ByteArray) : NegoBad f v w = den G46 NegoBad_Λ false tab Go.Proofs.Tryz.f5.ntmps (fun fr H => finish tab 0 Go.Proofs.Tryz.f5.results.toList NegoBad_out [] fr H some) (fun _ _ _ => none) (fun fr H => finish tab 0 Go.Proofs.Tryz.f5.results.toList NegoBad_out [] fr H some) 10000 [.code (fb Go.Proofs.Tryz.f5)] (instFr NegoBad_in [.i f, .s v, .s w]) (instH NegoBad_in [.i f, .s v, .s w]) := NegoBad_ed @NegoBad_15_L f v w
def NegoBad_S : List Leaf → Option (List Leaf) := fun ls => un_i ls fun f rr => un_s rr fun v rr => un_s rr fun w rr => un_nil rr (NegoBad f v w)
def NegoBad_SC : Tld := fun ls k' => un_i ls fun f rr => un_s rr fun v rr => un_s rr fun w rr => un_nil rr (out (NegoBad f v w) k')
theorem NegoBad_Se (f : Int) (v : ByteArray) (w : ByteArray) : NegoBad_S [.i f, .s v, .s w] = NegoBad f v w := by
  unfold NegoBad_S
  simp only [un_i_ev, un_b_ev, un_s_ev, un_li_ev, un_lb_ev, un_ls_ev, un_nil_ev]
theorem NegoBad_says : Says NegoBad_SC NegoBad_S := by
  intro β ls' k' r' h'
  unfold NegoBad_SC at h'
  obtain ⟨f, l'1, rfl, h'1⟩ := un_i_some.1 h'
  obtain ⟨v, l'2, rfl, h'2⟩ := un_s_some.1 h'1
  obtain ⟨w, l'3, rfl, h'3⟩ := un_s_some.1 h'2
  obtain ⟨rfl, h'Z⟩ := un_nil_some.1 h'3
  obtain ⟨l', a', b'⟩ := out_some.1 h'Z
  exact ⟨l', (NegoBad_Se f v w).trans a', b'⟩
theorem NegoBad_c : FnC Go.Proofs.Tryz.prog 5 false 3 0 NegoBad_in NegoBad_out NegoBad_S := by
  refine fn_ok (Λ := NegoBad_Λ) mixed tab_ok g46 Go.Proofs.Tryz.func5 (by kernel_rfl) (body := fb Go.Proofs.Tryz.f5) rfl (ts := Go.Proofs.Tryz.f5.results.toList) rfl (cuts := []) (by kernel_rfl) (Nat.le_of_ble_eq_true (by kernel_rfl)) (by kernel_rfl) (rt := .w (.at (.bool))) rfl ?_ ?_
  · intro ls' r' h'
    unfold NegoBad_S at h'
    obtain ⟨f, l'1, rfl, h'1⟩ := un_i_some.1 h'
    obtain ⟨v, l'2, rfl, h'2⟩ := un_s_some.1 h'1
    obtain ⟨w, l'3, rfl, h'3⟩ := un_s_some.1 h'2
    obtain ⟨rfl, h'Z⟩ := un_nil_some.1 h'3
    exact (NegoBad_e f v w).symm.trans h'Z
  · intro E w0 ws ρ0 hk b hb
    rw [show loopsOf (fb Go.Proofs.Tryz.f5) = [(bodyAt (fb Go.Proofs.Tryz.f5) 0)] by kernel_rfl] at hb
    simp only [List.mem_cons, List.mem_nil_iff, or_false] at hb
    rcases hb with rfl
    · exact NegoBad_15_lok E w0 ws ρ0 hk
noncomputable def G47 : Env := G46.addE 5 3 NegoBad_in NegoBad_out NegoBad_SC
theorem g47 : EnvOk Go.Proofs.Tryz.prog G47 := EnvOk.addE g46 NegoBad_c NegoBad_says
end Go.Sx.T

