import Derived.Test.YtdjnfdcoilgegaaGreatDoorPlR1
import Derived.Test.YtdjnfdcoilgegaaGreatDoorPlNB
import Derived.Test.YtdjnfdcoilgegaaGreatDoorYNMSpec
set_option linter.all false
namespace Go.Sx.T
open Go Go.Sx
/-- What is chosen of all ways by one of the four lists. -/
def val4 (v : ByteArray) : ByteArray := if v = { data := #[3] } then strOfI [3] else strOfI [2]
theorem choose4 {v : ByteArray} (h : Four v) : feat_Choose 1 (strOfI [2, 3]) v = some [.s (val4 v), .b true] := by
  rcases h with rfl | rfl | rfl | rfl <;> kernel_rfl
theorem size4 {v : ByteArray} (h : Four v) : 1 ≤ v.size ∧ v.size ≤ 2 ∧ (val4 v).size = 1 := by
  rcases h with rfl | rfl | rfl | rfl <;> exact ⟨by decide, by decide, by kernel_rfl⟩
theorem bytes4 {v : ByteArray} (h : Four v) : ref_Bytes (wrapI .u64 (minI (bt v 0) (bt v (subI .i64 (v.size : Int) 1)))) 1 = some [.s (val4 v)] := by
  rcases h with rfl | rfl | rfl | rfl <;> kernel_rfl
theorem text9 (s : ByteArray) : ∃ d, d.size ≤ 9 ∧ law1_Text s 9 = some [.s d] := text_n s 9
/-- The side that has heard the change. -/
def ng1 (v : ByteArray) : NG := { ng0 true with tk := [1, 3, 6, 8], tv := [val4 v, strOfI [0, 0, 0, 0, 0, 100], strOfI [0], strOfI [0]], d0 := [35], d1 := [strOfI [1] ++ (val4 v ++ strOfI [2, 3])] }
theorem must1 {v D : ByteArray} {t : Int} (h : Four v) (t0 : 100 ≤ t) (t1 : t < 190) : (ng0 true).take [1, 32, t, 2] [ByteArray.empty, strOfI [1] ++ v, D, ByteArray.empty] = some ((ng1 v).o [.b true]) := by
  have c := chg_list (s := ng0 true) (f := 1) (v := v) (val := val4 v) (m := true) (.inl rfl) (by decide) (by rw [(size4 h).2.2]; omega) (by rw [(size4 h).2.2]; omega) (by decide) (choose4 h)
  refine take_t (Hear.must (Hear.step (s1 := ng1 v) (.inl (by decide)) (one_chg (.inl rfl) c) (Hear.step (s1 := ng1 v) (.inl (by omega)) (one_free (.inr (by omega))) (Hear.step (s1 := ng1 v) (.inl (by decide)) (one_free (.inl (by decide))) (Hear.nil _ _))))) (by simp only [List.length_cons, List.length_nil]; omega)
/-- .. and has asked. -/
def ng2 (v : ByteArray) : NG := { ng1 v with d0 := [], d1 := [] }
theorem none0 (s : NG) (h : s.wk = []) (h1 : s.wv = []) : (∀ f ∈ fts, (mget ByteArray.empty s.wk s.wv f).size ≤ 1000) ∧ ask0 s.wk fts = [] ∧ ask1 s.wk s.wv fts = [] := by
  rw [h, h1]
  exact ⟨fun f _ => Nat.zero_le _, rfl, rfl⟩
theorem must2 {v D : ByteArray} {t : Int} (t0 : 100 ≤ t) (t1 : t < 190) : (ng2 v).take [1, t, 32] [ByteArray.empty, D, { data := #[6, 1] }] = some ((ng2 v).o [.b false]) :=
  take_t (Hear.must (Hear.stop (.inr rfl) (one_must t0 t1))) (by simp only [List.length_cons, List.length_nil]; omega)
theorem optsA (v : ByteArray) : (ng1 v).opts = some [.li (ng2 v).wk, .ls (ng2 v).wv, .li (ng2 v).lk, .ls (ng2 v).lv, .li (ng2 v).nk, .ls (ng2 v).nv, .li (ng2 v).tk, .ls (ng2 v).tv, .li (ng2 v).d0, .ls (ng2 v).d1, .li [35], .ls (ng1 v).d1, .b (ng2 v).sv] := by
  have := opts_t (s := ng1 v) (none0 (ng1 v) rfl rfl).1 (Nat.le_of_ble_eq_true rfl)
  rw [this]; rfl
theorem optsB (v : ByteArray) : (ng2 v).opts = some [.li (ng2 v).wk, .ls (ng2 v).wv, .li (ng2 v).lk, .ls (ng2 v).lv, .li (ng2 v).nk, .ls (ng2 v).nv, .li (ng2 v).tk, .ls (ng2 v).tv, .li (ng2 v).d0, .ls (ng2 v).d1, .li [], .ls [], .b (ng2 v).sv] := by
  have := opts_t (s := ng2 v) (none0 (ng2 v) rfl rfl).1 (Nat.le_of_ble_eq_true rfl)
  rw [this]; rfl
theorem idx4 {v : ByteArray} (h : Four v) : 0 ≤ subI .i64 (v.size : Int) 1 ∧ subI .i64 (v.size : Int) 1 < (v.size : Int) := by
  rcases h with rfl | rfl | rfl | rfl <;> exact ⟨by decide, by decide⟩
theorem th1 (v : ByteArray) : mget ByteArray.empty (ng1 v).tk (ng1 v).tv 1 = val4 v := rfl
theorem th6 (v : ByteArray) : mget ByteArray.empty (ng2 v).tk (ng2 v).tv 6 = { data := #[0] } := rfl
set_option maxRecDepth 100000 in
theorem NegoMust_true (t : Int) (v data : ByteArray) : NegoMust t v data = some [.b true] := by
  obtain ⟨K, hK0, hK1, eK⟩ := rem_N (m := 90) (by decide) (by decide) t
  obtain ⟨T, hT⟩ : ∃ T, T = 100 + K := ⟨_, rfl⟩
  have e1 : addI .i64 100 K = T := by rw [addI_i (show I63 (100 + K) by unfold I63; omega), hT]
  obtain ⟨D, hD, eD⟩ := text9 data
  have z1 : ({ data := #[(1 : UInt8)] } : ByteArray) = strOfI [1] := rfl
  unfold NegoMust
  simp only [one_ev, eK, e1, eD, new_ng, out_ev, un_s_ev, un_nil_ev]
  rcases r18_four v with hr | ⟨h4, hr⟩
  · have h4 : Four ({ data := #[(2 : UInt8)] } : ByteArray) := .inl rfl
    have q1 := must1 (D := D) h4 (show 100 ≤ T by omega) (show T < 190 by omega)
    have q2 := must2 (v := ({ data := #[(2 : UInt8)] } : ByteArray)) (D := D) (show 100 ≤ T by omega) (show T < 190 by omega)
    have q3 := optsA ({ data := #[(2 : UInt8)] } : ByteArray)
    have q4 := optsB ({ data := #[(2 : UInt8)] } : ByteArray)
    have q5 := bytes4 h4
    unfold NG.take at q1 q2
    unfold NG.opts at q3 q4
    rw [z1]
    simp only [hr, NG.o, out_ev, un_li_ev, un_ls_ev, un_b_ev, un_s_ev, un_nil_ev, Bool.not_false, br_t, decide_true, Bool.and_true, chk_t]
    rw [chk_pos (show ((4 : Nat) : Int) = Int.ofNat [(1 : Int), 32, T, 2].length from rfl)]
    simp only [q1, NG.o, out_ev, un_li_ev, un_ls_ev, un_b_ev, un_s_ev, un_nil_ev, Bool.not_true, br_f, nego_Theirs, th1, q5, beq_b, q3]
    rw [chk_pos (idx4 h4)]
    rw [chk_pos (show ((3 : Nat) : Int) = Int.ofNat [(1 : Int), T, 32].length from rfl)]
    simp only [q2, NG.o, out_ev, un_li_ev, un_ls_ev, un_b_ev, un_s_ev, un_nil_ev, Bool.not_false, br_t, th6, beq_b, q4]
    rfl
  · have q1 := must1 (D := D) h4 (show 100 ≤ T by omega) (show T < 190 by omega)
    have q2 := must2 (v := v) (D := D) (show 100 ≤ T by omega) (show T < 190 by omega)
    have q3 := optsA v
    have q4 := optsB v
    have q5 := bytes4 h4
    have hs := size4 h4
    unfold NG.take at q1 q2
    unfold NG.opts at q3 q4
    rw [z1]
    simp only [hr, NG.o, out_ev, un_li_ev, un_ls_ev, un_b_ev, un_s_ev, un_nil_ev, Bool.not_true, br_f, decide_true, Bool.and_true, chk_t, size1]
    rw [show Nat.ble (1 + v.size) 9223372036854775807 = true from Nat.ble_eq_true_of_le (by omega), chk_t]
    rw [chk_pos (show ((4 : Nat) : Int) = Int.ofNat [(1 : Int), 32, T, 2].length from rfl)]
    simp only [q1, NG.o, out_ev, un_li_ev, un_ls_ev, un_b_ev, un_s_ev, un_nil_ev, Bool.not_true, br_f, nego_Theirs, th1, q5, beq_b, q3]
    rw [chk_pos (show (0 : Int) ≤ 0 ∧ (0 : Int) < (v.size : Int) by omega), chk_pos (idx4 h4)]
    rw [chk_pos (show ((3 : Nat) : Int) = Int.ofNat [(1 : Int), T, 32].length from rfl)]
    simp only [q2, NG.o, out_ev, un_li_ev, un_ls_ev, un_b_ev, un_s_ev, un_nil_ev, Bool.not_false, br_t, th6, beq_b, q4]
    rfl
end Go.Sx.T

