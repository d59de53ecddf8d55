import Derived.Test.YtdjnfdcoilgegaaGreatDoorPlNh
import Derived.Test.YtdjnfdcoilgegaaGreatDoorYNBSpec
set_option linter.all false
namespace Go.Sx.T
open Go Go.Sx
theorem text_n (s : ByteArray) (n : Nat) : ∃ d, d.size ≤ n ∧ law1_Text s (n : Int) = some [.s d] := by
  refine ⟨strSlO s Option.none (Option.some ((min s.size n : Nat) : Int)), by rw [size_cut (by omega)]; omega, ?_⟩
  have e : minI (s.size : Int) (n : Int) = ((min s.size n : Nat) : Int) := by rw [minI_eq]; omega
  unfold law1_Text
  simp only [one_ev, e]
  have c : condSl (s.size : Int) Option.none (Option.some ((min s.size n : Nat) : Int)) = true := by
    show decide ((0 : Int) ≤ ((min s.size n : Nat) : Int) ∧ ((min s.size n : Nat) : Int) ≤ (s.size : Int)) = true
    exact decide_eq_true (by omega)
  rw [c, chk_t]
theorem byte_eq (a b : UInt8) : (((a.toNat : Nat) : Int) == ((b.toNat : Nat) : Int)) = (a == b) := by
  by_cases h : a = b
  · subst h; simp
  · rw [beq_eq_false_iff_ne.2 h, beq_eq_false_iff_ne.2 (fun x => h (UInt8.toNat_inj.1 (by omega)))]
theorem has_L {s : NG} {w v : ByteArray} {f : Int} {ok : Bool} (hw : 1 ≤ w.size) (hv : v.size ≤ 1000) {α : Type} (kx : Nat → List Leaf → Option α) (kr : List Leaf → Option α) : ∀ (m n i : Nat) (has : Bool), i + m = v.size → m < n →
    NegoBad_15_L kx kr n s.wk s.wv s.lk s.lv s.nk s.nv s.tk s.tv s.d0 s.d1 s.sv (i : Int) w v has f ok =
      kx 0 (s.o [.s w, .i f, .b (has || (v.data.toList.drop i).contains (w.data.toList.getD 0 0)), .b ok])
  | 0, n, i, has, h, hn => by
    obtain ⟨n, rfl⟩ : ∃ n', n = n' + 1 := ⟨n - 1, by omega⟩
    rw [NegoBad_15_L, NegoBad_15_B, one_ev, br_neg (by omega), chkLen, List.drop_eq_nil_of_le (by rw [size_l]; omega)]
    rw [show ([] : List UInt8).contains (w.data.toList.getD 0 0) = false from rfl, Bool.or_false]
    rfl
  | m + 1, n, i, has, h, hn => by
    obtain ⟨n, rfl⟩ : ∃ n', n = n' + 1 := ⟨n - 1, by omega⟩
    have e1 : addI .i64 (i : Int) 1 = ((i + 1 : Nat) : Int) := by rw [addI_i (by unfold I63; omega)]; omega
    have hi : i < v.data.toList.length := by rw [size_l]; omega
    have hg : v.data.toList.getD i 0 = v.data.toList[i] := by rw [List.getD_eq_getElem?_getD, List.getElem?_eq_getElem hi]; rfl
    rw [NegoBad_15_L, NegoBad_15_B, one_ev, br_pos (by omega), List.drop_eq_getElem_cons hi]
    cases has
    · rw [br_f, chk_pos (by omega), one_ev, chk_pos (by omega), one_ev, one_ev, e1, chkLen]
      rw [has_L hw hv kx kr m n (i + 1) _ (by omega) (by omega)]
      have e2 : (bt v (i : Int) == bt w 0) = (v.data.toList[i] == w.data.toList.getD 0 0) := by rw [← hg]; exact byte_eq _ _
      rw [e2, List.contains_cons, Bool.false_or]
      rw [show (w.data.toList.getD 0 0 == v.data.toList[i]) = (v.data.toList[i] == w.data.toList.getD 0 0) from Bool.eq_iff_iff.2 ⟨fun h => beq_iff_eq.2 (beq_iff_eq.1 h).symm, fun h => beq_iff_eq.2 (beq_iff_eq.1 h).symm⟩]
    · rw [br_t, one_ev, e1, chkLen, has_L hw hv kx kr m n (i + 1) _ (by omega) (by omega), Bool.true_or, Bool.true_or]
/-- A new side. -/
def ng0 (sv : Bool) : NG := { wk := [], wv := [], lk := [1, 6, 8], lv := [strOfI [2, 3], strOfI [0, 1], strOfI [0, 1, 2, 3, 4, 5, 6, 7, 8, 9, 10, 11, 12, 13, 14, 15]], nk := [1, 3, 6, 8], nv := [strOfI [2], strOfI [0, 0, 0, 0, 0, 100], strOfI [0], strOfI [0]], tk := [1, 3, 6, 8], tv := [strOfI [2], strOfI [0, 0, 0, 0, 0, 100], strOfI [0], strOfI [0]], d0 := [], d1 := [], sv := sv }
theorem new_ng (sv : Bool) : nego_New sv = some ((ng0 sv).o []) := rfl
theorem put_one (f : Int) (v : ByteArray) : mputK [] f = [f] ∧ mputV [] [] f v = [v] := ⟨rfl, rfl⟩
theorem has_one (f : Int) : mhas [f] f = true := by simp [mhas]
theorem get_one (f : Int) (v : ByteArray) : mget ByteArray.empty [f] [v] f = v := by simp [mget]
theorem del_one (f : Int) (v : ByteArray) : mdelK [f] f = [] ∧ mdelV [f] [v] f = [] := by
  constructor <;> simp [mdelK, mdelV, mhas, midx]
set_option maxRecDepth 100000 in
theorem NegoBad_true (f : Int) (v w : ByteArray) : NegoBad f v w = some [.b true] := by
  obtain ⟨K, hK0, hK1, eK⟩ := rem_N (m := 3) (by decide) (by decide) f
  obtain ⟨V, hV, eV⟩ : ∃ d, d.size ≤ 8 ∧ law1_Text v 8 = some [.s d] := text_n v 8
  obtain ⟨W, hW, eW⟩ : ∃ d, d.size ≤ 8 ∧ law1_Text w 8 = some [.s d] := text_n w 8
  obtain ⟨F, hF⟩ : ∃ F, F = List.getD [(1 : Int), 6, 8] K.toNat 0 := ⟨_, rfl⟩
  have lF : Ls F := by
    have : K = 0 ∨ K = 1 ∨ K = 2 := by omega
    rcases this with rfl | rfl | rfl <;> subst hF <;> unfold Ls <;> decide
  have ne : ∀ x : ByteArray, x.size ≤ 8 → Nat.ble (1 + x.size) 9223372036854775807 = true := fun x hx => Nat.ble_eq_true_of_le (by omega)
  have d1 : feat_Default F = some [.s (mget ByteArray.empty (ng0 false).nk (ng0 false).nv F)] := by rcases lF with rfl | rfl | rfl <;> rfl
  have t1 := take_t (Hear.step (s := ng0 false) (m := false) (d := strOfI [F] ++ W) (.inl (by decide)) (one_conf (v := W) lF.kn (conf_none rfl)) (Hear.nil _ _)) (by decide)
  unfold NG.take at t1
  unfold NegoBad NegoBad_d
  simp only [one_ev, eK, eV, eW, new_ng, ← hF, lF.kn.w8, part1, size1, ne W hW, out_ev, un_s_ev, un_nil_ev]
  rw [chk_pos (show 0 ≤ K ∧ K < 3 by omega), chk_pos (show 0 ≤ K ∧ K < 3 by omega)]
  simp only [NG.o, out_ev, un_li_ev, un_ls_ev, un_b_ev, un_nil_ev, decide_true, Bool.and_true, chk_t, t1, Bool.not_true, br_f, nego_Mine, un_s_ev, d1, beq_b]
  rw [chk_pos (show ((1 : Nat) : Int) = Int.ofNat [(35 : Int)].length from rfl)]
  cases hm : mayB F V
  · have w1 := ask_no (s := ng0 false) lF.kn (show V.size ≤ 1000 by omega) hm
    unfold NG.ask at w1
    simp only [w1, NG.o, out_ev, un_li_ev, un_ls_ev, un_b_ev, un_i_ev, un_nil_ev, may_b (f := F) (show V.size ≤ 1000 by omega), hm]
    rfl
  · have w1 := ask_ok (s := ng0 false) lF.kn (show V.size ≤ 1000 by omega) hm
    unfold NG.ask at w1
    obtain ⟨s1, hs1⟩ : ∃ s1 : NG, s1 = { ng0 false with wk := [F], wv := [V] } := ⟨_, rfl⟩
    have w2 : nego_Want (ng0 false).wk (ng0 false).wv (ng0 false).lk (ng0 false).lv (ng0 false).nk (ng0 false).nv (ng0 false).tk (ng0 false).tv (ng0 false).d0 (ng0 false).d1 (ng0 false).sv F V = some (s1.o [.i 0]) := by rw [hs1]; exact w1
    have k1 : s1.wk = [F] := by rw [hs1]
    have k2 : s1.wv = [V] := by rw [hs1]
    have k3 : s1.nk = (ng0 false).nk ∧ s1.nv = (ng0 false).nv := by rw [hs1]; exact ⟨rfl, rfl⟩
    simp only [w2, NG.o, out_ev, un_li_ev, un_ls_ev, un_b_ev, un_i_ev, un_nil_ev]
    rw [show ((0 : Int) != 0) = false from rfl, br_f, chk_pos (show ((1 : Nat) : Int) = Int.ofNat [(35 : Int)].length from rfl)]
    by_cases hz : W.size = 0
    · have hW0 := size_e hz
      subst hW0
      have t2 := take_t (Hear.step (s := s1) (m := false) (d := strOfI [F] ++ ({ data := #[] } : ByteArray)) (.inl (by decide)) (one_conf (v := ({ data := #[] } : ByteArray)) lF.kn (conf_empty (by rw [k1]; exact has_one F))) (Hear.nil _ _)) (by decide)
      unfold NG.take at t2
      simp only [t2, NG.o, out_ev, un_li_ev, un_ls_ev, un_b_ev, un_i_ev, un_nil_ev, beq_b, br_t, decide_true, Bool.and_true, chk_t]
      simp only [nego_Done, one_ev, k1, (del_one F V).1, nego_Mine, un_s_ev, d1, k3.1, k3.2, out_ev, un_b_ev, un_nil_ev, beq_b]
      rfl
    · have hW1 : 1 ≤ W.size := by omega
      have hL := fun kx kr (s : NG) ok => has_L (s := s) (w := W) (v := V) (f := F) (ok := ok) hW1 (show V.size ≤ 1000 by omega) (α := List Leaf) kx kr V.size top 0 false (by omega) (by unfold top; omega)
      simp only [List.drop_zero, Bool.false_or, show ((0 : Nat) : Int) = 0 from rfl] at hL
      cases hc : V.data.toList.contains (W.data.toList.getD 0 0)
      · have t2 := take_t (Hear.stop (s := s1) (m := false) (d := strOfI [F] ++ W) (os := []) (ds := []) (.inl (by decide)) (one_conf (v := W) lF.kn (conf_bad lF hW1 (by rw [k1]; exact has_one F) (by rw [k1, k2, get_one]; exact hc)))) (by decide)
        unfold NG.take at t2
        simp only [t2, NG.o, out_ev, un_li_ev, un_ls_ev, un_b_ev, un_i_ev, un_nil_ev, ne_e hW1, br_f, decide_true, Bool.and_true, chk_t]
        rw [hL, hc]
        simp only [NG.o, show Nat.beq 0 0 = true from rfl, br_t, un_li_ev, un_ls_ev, un_b_ev, un_s_ev, un_i_ev, un_nil_ev, nego_Done, k1, out_ev, one_ev]
        rfl
      · have t2 := take_t (Hear.step (s := s1) (m := false) (d := strOfI [F] ++ W) (.inl (by decide)) (one_conf (v := W) lF.kn (conf_list lF hW1 (by rw [k1]; exact has_one F) (by rw [k1, k2, get_one]; exact hc))) (Hear.nil _ _)) (by decide)
        unfold NG.take at t2
        simp only [t2, NG.o, out_ev, un_li_ev, un_ls_ev, un_b_ev, un_i_ev, un_nil_ev, ne_e hW1, br_f, decide_true, Bool.and_true, chk_t]
        have hL2 := fun kx kr => hL kx kr { s1 with wk := mdelK s1.wk F, wv := mdelV s1.wk s1.wv F, nk := mputK s1.nk F, nv := mputV s1.nk s1.nv F (hd1 W) } true
        rw [hL2, hc]
        have hg : mget ByteArray.empty (mputK s1.nk F) (mputV s1.nk s1.nv F (hd1 W)) F = hd1 W := by
          rw [k3.1, k3.2]
          rcases lF with rfl | rfl | rfl <;> rfl
        simp only [NG.o, show Nat.beq 0 0 = true from rfl, br_t, un_li_ev, un_ls_ev, un_b_ev, un_s_ev, un_i_ev, un_nil_ev, nego_Done, k1, out_ev, one_ev, (del_one F V).1, nego_Mine, hg, cut_hd hW1, chk_t]
        rw [show strSlO W Option.none (Option.some 1) = hd1 W from rfl, beq_b]
        rfl
end Go.Sx.T

