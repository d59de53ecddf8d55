import Derived.Test.YtabdgalicaifhaaGreatDoorYSRSpec
import Derived.Test.YtabdgalicaifhaaGreatDoorYSentCon
set_option linter.all false
namespace Go.Sx.T
open Go Go.Sx Go.Proofs
set_option maxRecDepth 100000

-- ### SentRtt: function 4
def SentRtt_in : Tm := ⟨[.ro 3 1 [.int .i64]], [(0, .w (.at (.all 0 1))), (1, .w (.at (.int .i64))), (2, .w (.at (.int .i64)))]⟩
def SentRtt_out : Tm := ⟨[.dead], [(0, .w (.at (.bool)))]⟩
def SentRtt_8_T : Tm := ⟨[.ro 3 1 [.int .i64], .row 2 1 [.int .i64], .cells 95 [.all 3 3, .int .u64, .bool], .row 98 3 [.int .u64, .int .i64, .int .i64]], [(11, .w (.at (.int .i64))), (10, .w (.at (.all 1 1))), (8, .w (.at (.ptr 2 0))), (0, .w (.at (.all 0 1))), (9, .w (.at (.int .i64))), (2, .w (.at (.int .i64))), (1, .w (.at (.int .i64)))]⟩
def SentRtt_8_X0 : Tm := ⟨[.ro 3 1 [.int .i64], .cells 95 [.all 2 3, .int .u64, .bool], .row 98 3 [.int .u64, .int .i64, .int .i64], .row 2 1 [.int .i64]], [(8, .w (.at (.ptr 1 0))), (10, .w (.at (.all 3 1))), (9, .w (.at (.int .i64))), (2, .w (.at (.int .i64))), (1, .w (.at (.int .i64)))]⟩
def SentRtt_8_X : Exits := [(0, (SentRtt_8_X0, []))]
def SentRtt_8_R : Tm := ⟨[], []⟩

def SentRtt_Λd (L8 : ({β : Type} → (Nat → List Leaf → Option β) → (List Leaf → Option β) → Nat → List Int → List Int → List Int → List Int → List Int → Int → Bool → Int → Int → Int → Int → Option β)) : Loops := ⟨fun b fr H kx kr => bif Nat.beq (rid b) 8 then loopE 1 SentRtt_8_T [] SentRtt_8_X SentRtt_8_R (SentRtt_8_F @L8 top) fr H kx kr else none⟩
def SentRtt_Λ : Loops := SentRtt_Λd @SentRtt_8_L
theorem SentRtt_8_e (L8 : ({β : Type} → (Nat → List Leaf → Option β) → (List Leaf → Option β) → Nat → List Int → List Int → List Int → List Int → List Int → Int → Bool → Int → Int → Int → Int → Option β)) {α : Type} (kx : Nat → List Leaf → Option α) (kr : List Leaf → Option α) (again : List Int → List Int → List Int → List Int → List Int → Int → Bool → Int → Int → Int → Int → Option α) (gaps : List Int) (at2 : List Int) (s_l0 : List Int) (s_l1 : List Int) (s_l2 : List Int) (s_last : Int) (s_any : Bool) (i : Int) (now : Int) (late : Int) (which : Int) : SentRtt_8_B  kx kr again gaps at2 s_l0 s_l1 s_l2 s_last s_any i now late which = loopB G38 (SentRtt_Λd @L8) false tab Go.Proofs.Tryz.f4.ntmps 1 SentRtt_8_T [] SentRtt_8_X SentRtt_8_R (bodyAt (fb Go.Proofs.Tryz.f4) 0) (fun ls => un_li ls fun gaps rr => un_li rr fun at2 rr => un_li rr fun s_l0 rr => un_li rr fun s_l1 rr => un_li rr fun s_l2 rr => un_i rr fun s_last rr => un_b rr fun s_any rr => un_i rr fun i rr => un_i rr fun now rr => un_i rr fun late rr => un_i rr fun which rr => un_nil rr (again gaps at2 s_l0 s_l1 s_l2 s_last s_any i now late which)) kx kr (instFr SentRtt_8_T [.li gaps, .li at2, .li s_l0, .li s_l1, .li s_l2, .i s_last, .b s_any, .i i, .i now, .i late, .i which]) (instH SentRtt_8_T [.li gaps, .li at2, .li s_l0, .li s_l1, .li s_l2, .i s_last, .b s_any, .i i, .i now, .i late, .i which]) := by kernel_rfl
theorem SentRtt_8_lok (E : Nat → Prop) (w0 ws : World) (ρ0 : List Pl) (hk : ρ0.length = 1) : LOk Go.Proofs.Tryz.prog 4 Go.Proofs.Tryz.f4 false E w0 ws Go.Proofs.Tryz.f4.ntmps ρ0 SentRtt_Λ (bodyAt (fb Go.Proofs.Tryz.f4) 0) := by
  refine lok mixed tab_ok g38 Go.Proofs.Tryz.func4 hk (T := SentRtt_8_T) (rt := SentRtt_8_R) (cuts := []) (ex := SentRtt_8_X) (top := top) (F := SentRtt_8_F @SentRtt_8_L) (fun fr H kx kr => by kernel_rfl) ?_ ?_ ?_
  · intro α ls' kx' kr' r' h'
    unfold SentRtt_8_F at h'
    obtain ⟨gaps, l'1, rfl, h'1⟩ := un_li_some.1 h'
    obtain ⟨at2, l'2, rfl, h'2⟩ := un_li_some.1 h'1
    obtain ⟨s_l0, l'3, rfl, h'3⟩ := un_li_some.1 h'2
    obtain ⟨s_l1, l'4, rfl, h'4⟩ := un_li_some.1 h'3
    obtain ⟨s_l2, l'5, rfl, h'5⟩ := un_li_some.1 h'4
    obtain ⟨s_last, l'6, rfl, h'6⟩ := un_i_some.1 h'5
    obtain ⟨s_any, l'7, rfl, h'7⟩ := un_b_some.1 h'6
    obtain ⟨i, l'8, rfl, h'8⟩ := un_i_some.1 h'7
    obtain ⟨now, l'9, rfl, h'9⟩ := un_i_some.1 h'8
    obtain ⟨late, l'10, rfl, h'10⟩ := un_i_some.1 h'9
    obtain ⟨which, l'11, rfl, h'11⟩ := un_i_some.1 h'10
    obtain ⟨rfl, h'Z⟩ := un_nil_some.1 h'11
    cases h'Z
  · intro α n' ls' kx' kr' r' h'
    unfold SentRtt_8_F at h'
    obtain ⟨gaps, l'1, rfl, h'1⟩ := un_li_some.1 h'
    obtain ⟨at2, l'2, rfl, h'2⟩ := un_li_some.1 h'1
    obtain ⟨s_l0, l'3, rfl, h'3⟩ := un_li_some.1 h'2
    obtain ⟨s_l1, l'4, rfl, h'4⟩ := un_li_some.1 h'3
    obtain ⟨s_l2, l'5, rfl, h'5⟩ := un_li_some.1 h'4
    obtain ⟨s_last, l'6, rfl, h'6⟩ := un_i_some.1 h'5
    obtain ⟨s_any, l'7, rfl, h'7⟩ := un_b_some.1 h'6
    obtain ⟨i, l'8, rfl, h'8⟩ := un_i_some.1 h'7
    obtain ⟨now, l'9, rfl, h'9⟩ := un_i_some.1 h'8
    obtain ⟨late, l'10, rfl, h'10⟩ := un_i_some.1 h'9
    obtain ⟨which, l'11, rfl, h'11⟩ := un_i_some.1 h'10
    obtain ⟨rfl, h'Z⟩ := un_nil_some.1 h'11
    exact (SentRtt_8_e @SentRtt_8_L kx' kr' (SentRtt_8_L kx' kr' n') gaps at2 s_l0 s_l1 s_l2 s_last s_any i now late which).symm.trans h'Z
  · intro b' hb
    rw [show loopsOf (bodyAt (fb Go.Proofs.Tryz.f4) 0) = [] by kernel_rfl] at hb
    cases hb
theorem SentRtt_ed (L8 : ({β : Type} → (Nat → List Leaf → Option β) → (List Leaf → Option β) → Nat → List Int → List Int → List Int → List Int → List Int → Int → Bool → Int → Int → Int → Int → Option β)) (gaps : List Int) (which : Int) (late : Int) : SentRtt_d @L8 gaps which late = den G38 (SentRtt_Λd @L8) false tab Go.Proofs.Tryz.f4.ntmps (fun fr H => finish tab 1 Go.Proofs.Tryz.f4.results.toList SentRtt_out [] fr H some) (fun _ _ _ => none) (fun fr H => finish tab 1 Go.Proofs.Tryz.f4.results.toList SentRtt_out [] fr H some) 10000 [.code (fb Go.Proofs.Tryz.f4)] (instFr SentRtt_in [.li gaps, .i which, .i late]) (instH SentRtt_in [.li gaps, .i which, .i late]) := by kernel_rfl
theorem SentRtt_e (gaps : List Int) (which : Int) (late : Int) : SentRtt gaps which late = den G38 SentRtt_Λ false tab Go.Proofs.Tryz.f4.ntmps (fun fr H => finish tab 1 Go.Proofs.Tryz.f4.results.toList SentRtt_out [] fr H some) (fun _ _ _ => none) (fun fr H => finish tab 1 Go.Proofs.Tryz.f4.results.toList SentRtt_out [] fr H some) 10000 [.code (fb Go.Proofs.Tryz.f4)] (instFr SentRtt_in [.li gaps, .i which, .i late]) (instH SentRtt_in [.li gaps, .i which, .i late]) := SentRtt_ed @SentRtt_8_L gaps which late
def SentRtt_S : List Leaf → Option (List Leaf) := fun ls => un_li ls fun gaps rr => un_i rr fun which rr => un_i rr fun late rr => un_nil rr (SentRtt gaps which late)
def SentRtt_SC : Tld := fun ls k' => un_li ls fun gaps rr => un_i rr fun which rr => un_i rr fun late rr => un_nil rr (out (SentRtt gaps which late) k')
theorem SentRtt_Se (gaps : List Int) (which : Int) (late : Int) : SentRtt_S [.li gaps, .i which, .i late] = SentRtt gaps which late := by
  unfold SentRtt_S
  simp only [un_i_ev, un_b_ev, un_s_ev, un_li_ev, un_lb_ev, un_ls_ev, un_nil_ev]
theorem SentRtt_says : Says SentRtt_SC SentRtt_S := by
  intro β ls' k' r' h'
  unfold SentRtt_SC at h'
  obtain ⟨gaps, l'1, rfl, h'1⟩ := un_li_some.1 h'
  obtain ⟨which, l'2, rfl, h'2⟩ := un_i_some.1 h'1
  obtain ⟨late, l'3, rfl, h'3⟩ := un_i_some.1 h'2
  obtain ⟨rfl, h'Z⟩ := un_nil_some.1 h'3
  obtain ⟨l', a', b'⟩ := out_some.1 h'Z
  exact ⟨l', (SentRtt_Se gaps which late).trans a', b'⟩
theorem SentRtt_c : FnC Go.Proofs.Tryz.prog 4 false 3 1 SentRtt_in SentRtt_out SentRtt_S := by
  refine fn_ok (Λ := SentRtt_Λ) mixed tab_ok g38 Go.Proofs.Tryz.func4 (by kernel_rfl) (body := fb Go.Proofs.Tryz.f4) rfl (ts := Go.Proofs.Tryz.f4.results.toList) rfl (cuts := []) (by kernel_rfl) (Nat.le_of_ble_eq_true (by kernel_rfl)) (by kernel_rfl) (rt := .w (.at (.bool))) rfl ?_ ?_
  · intro ls' r' h'
    unfold SentRtt_S at h'
    obtain ⟨gaps, l'1, rfl, h'1⟩ := un_li_some.1 h'
    obtain ⟨which, l'2, rfl, h'2⟩ := un_i_some.1 h'1
    obtain ⟨late, l'3, rfl, h'3⟩ := un_i_some.1 h'2
    obtain ⟨rfl, h'Z⟩ := un_nil_some.1 h'3
    exact (SentRtt_e gaps which late).symm.trans h'Z
  · intro E w0 ws ρ0 hk b hb
    rw [show loopsOf (fb Go.Proofs.Tryz.f4) = [(bodyAt (fb Go.Proofs.Tryz.f4) 0)] by kernel_rfl] at hb
    simp only [List.mem_cons, List.mem_nil_iff, or_false] at hb
    rcases hb with rfl
    · exact SentRtt_8_lok E w0 ws ρ0 hk
noncomputable def G39 : Env := G38.addE 4 3 SentRtt_in SentRtt_out SentRtt_SC
theorem g39 : EnvOk Go.Proofs.Tryz.prog G39 := EnvOk.addE g38 SentRtt_c SentRtt_says
end Go.Sx.T

