import Derived.Test.YtdjnfdcoilgegaaGreatDoorPlNA0
import Derived.Test.YtdjnfdcoilgegaaGreatDoorYNASpec
set_option linter.all false
namespace Go.Sx.T
open Go Go.Sx
/-- The side that has heard the change, answers gone. -/
def thF (sv : Bool) (f : Int) (val : ByteArray) : NG := { ng0 sv with tk := [1, 3, 6, 8], tv := mputV (ng0 sv).tk (ng0 sv).tv f val }
/-- .. not gone. -/
def dueF (s : NG) (f : Int) (ans : ByteArray) : NG := { s with d0 := [35], d1 := [strOfI [f] ++ ans] }
theorem put_same {f : Int} (hf : Kn f) (sv : Bool) (val : ByteArray) : mputK [1, 3, 6, 8] f = [1, 3, 6, 8] ∧ mputV [1, 3, 6, 8] (mputV (ng0 sv).tk (ng0 sv).tv f val) f val = mputV (ng0 sv).tk (ng0 sv).tv f val ∧ mget ByteArray.empty [1, 3, 6, 8] (mputV (ng0 sv).tk (ng0 sv).tv f val) f = val := by
  rcases hf with rfl | rfl | rfl | rfl <;> exact ⟨rfl, rfl, rfl⟩
/-- A change is heard: the first time and again. -/
theorem hear_yes {sv : Bool} {f : Int} {V val ans : ByteArray} {s : NG} (hf : Kn f) (hs : s = ng0 sv ∨ s = thF sv f val)
    (h : ∀ s : NG, s.lk = (ng0 sv).lk → s.lv = (ng0 sv).lv → s.sv = sv → s.d0.length ≤ 1000 → s.chg f V false = some ({ s with tk := mputK s.tk f, tv := mputV s.tk s.tv f val, d0 := s.d0 ++ [35], d1 := s.d1 ++ [strOfI [f] ++ ans] }.o [.b true])) :
    s.take [32] [strOfI [f] ++ V] = some ((dueF (thF sv f val) f ans).o [.b true]) := by
  obtain ⟨p1, p2, _⟩ := put_same hf sv val
  have c : s.chg f V false = some ((dueF (thF sv f val) f ans).o [.b true]) := by
    rcases hs with rfl | rfl
    · rw [h (ng0 sv) rfl rfl rfl (Nat.zero_le _)]
      have : mputK (ng0 sv).tk f = [1, 3, 6, 8] := p1
      rw [this]; rfl
    · rw [h (thF sv f val) rfl rfl rfl (Nat.zero_le _)]
      have q1 : mputK (thF sv f val).tk f = [1, 3, 6, 8] := p1
      have q2 : mputV (thF sv f val).tk (thF sv f val).tv f val = mputV (ng0 sv).tk (ng0 sv).tv f val := p2
      rw [q1, q2]; rfl
  exact take_t (Hear.step (.inl (by decide)) (one_chg hf c) (Hear.nil _ _)) (Nat.le_of_ble_eq_true rfl)
theorem hear_nothing {sv : Bool} {f : Int} {V : ByteArray} (hf : Kn f)
    (h : (ng0 sv).chg f V false = some ({ ng0 sv with d0 := (ng0 sv).d0 ++ [35], d1 := (ng0 sv).d1 ++ [strOfI [f] ++ ByteArray.empty] }.o [.b true])) :
    (ng0 sv).take [32] [strOfI [f] ++ V] = some ((dueF (ng0 sv) f ByteArray.empty).o [.b true]) :=
  take_t (Hear.step (.inl (by decide)) (one_chg hf h) (Hear.nil _ _)) (Nat.le_of_ble_eq_true rfl)
theorem noneA (s : NG) (h : s.wk = []) (h1 : s.wv = []) : (∀ f ∈ fts, (mget ByteArray.empty s.wk s.wv f).size ≤ 1000) ∧ ask0 s.wk fts = [] ∧ ask1 s.wk s.wv fts = [] := by
  rw [h, h1]
  exact ⟨fun f _ => Nat.zero_le _, rfl, rfl⟩
theorem opts_due {s : NG} {f : Int} {ans : ByteArray} (h : s.wk = []) (h1 : s.wv = []) (h2 : s.d0 = []) (h3 : s.d1 = []) :
    (dueF s f ans).opts = some [.li s.wk, .ls s.wv, .li s.lk, .ls s.lv, .li s.nk, .ls s.nv, .li s.tk, .ls s.tv, .li s.d0, .ls s.d1, .li [35], .ls [strOfI [f] ++ ans], .b s.sv] := by
  have n0 := noneA (dueF s f ans) h h1
  rw [opts_t (s := dueF s f ans) n0.1 (Nat.le_of_ble_eq_true rfl), n0.2.1, n0.2.2, h2, h3]
  rfl
/-- All rounds. -/
theorem again_L {server : Bool} {f times K : Int} {V ans : ByteArray} {t : NG} (hf : Kn f) (hV : V.size ≤ 16) (ha : ans.size ≤ 1000) (eK : remI .i64 (addI .i64 (remI .i64 times 4) 4) 4 = K) (hK0 : 0 ≤ K) (hK1 : K < 4)
    (ht : t.wk = [] ∧ t.wv = [] ∧ t.d0 = [] ∧ t.d1 = []) (h1 : t.take [32] [strOfI [f] ++ V] = some ((dueF t f ans).o [.b true])) {α : Type} (kx : Nat → List Leaf → Option α) (kr : List Leaf → Option α) :
    ∀ (m n : Nat) (i : Int) (f0 : List Int) (f1 : List ByteArray) (s : NG), 0 ≤ i → i + m = K + 1 → m < n → (s = t ∨ s.take [32] [strOfI [f] ++ V] = some ((dueF t f ans).o [.b true])) → (i = 0 ∧ 0 < m ∨ s = t ∧ f0 = [35] ∧ f1 = [strOfI [f] ++ ans]) →
    NegoAgain_10_L kx kr n f0 f1 s.wk s.wv s.lk s.lv s.nk s.nv s.tk s.tv s.d0 s.d1 s.sv i (strOfI [f]) V f server times =
      kx 0 (.li t.wk :: .ls t.wv :: .li t.lk :: .ls t.lv :: .li t.nk :: .ls t.nv :: .li t.tk :: .ls t.tv :: .li t.d0 :: .ls t.d1 :: .li [35] :: .ls [strOfI [f] ++ ans] :: .b t.sv :: [.i f, .s (strOfI [f]), .s V, .b server])
  | 0, n, i, f0, f1, s, i0, im, hn, hs, hi => by
    obtain ⟨n, rfl⟩ : ∃ n', n = n' + 1 := ⟨n - 1, by omega⟩
    obtain ⟨rfl, rfl, rfl⟩ : s = t ∧ f0 = [35] ∧ f1 = [strOfI [f] ++ ans] := by
      rcases hi with ⟨_, h⟩ | h
      · omega
      · exact h
    rw [NegoAgain_10_L, NegoAgain_10_B, one_ev, one_ev, one_ev, eK, br_neg (by omega), chkLen, chkLen1]
  | m + 1, n, i, f0, f1, s, i0, im, hn, hs, hi => by
    obtain ⟨n, rfl⟩ : ∃ n', n = n' + 1 := ⟨n - 1, by omega⟩
    have hT : s.take [32] [strOfI [f] ++ V] = some ((dueF t f ans).o [.b true]) := by
      rcases hs with rfl | h
      · exact h1
      · exact h
    have hO := opts_due (s := t) (f := f) (ans := ans) ht.1 ht.2.1 ht.2.2.1 ht.2.2.2
    unfold NG.take at hT
    unfold NG.opts at hO
    have e1 : addI .i64 i 1 = i + 1 := addI_i (by unfold I63; omega)
    have c1 : condSl (((strOfI [f] ++ ans).size : Nat) : Int) Option.none (Option.some 1) = true := by
      show decide ((0 : Int) ≤ 1 ∧ (1 : Int) ≤ (((strOfI [f] ++ ans).size : Nat) : Int)) = true
      rw [size_app1]; exact decide_eq_true (by omega)
    have c2 : strSlO (strOfI [f] ++ ans) Option.none (Option.some 1) = strOfI [f] := hd_app (size1 f)
    rw [NegoAgain_10_L, NegoAgain_10_B, one_ev, one_ev, one_ev, eK, br_pos (by omega), size1, show Nat.ble (1 + V.size) 9223372036854775807 = true from Nat.ble_eq_true_of_le (by omega), chk_t, chkLen]
    rw [show (decide ((↑(1 : Nat) : Int) = Int.ofNat (List.length [(32 : Int)])) && true) = true from rfl, chk_t, hT]
    simp only [NG.o, out_ev, un_li_ev, un_ls_ev, un_b_ev, un_nil_ev, Bool.not_true, br_f, decide_true, Bool.and_true, chk_t, hO, one_ev]
    have l0 : (0 : Int) ≤ (0 : Int) ∧ (0 : Int) < Int.ofNat (List.length [(35 : Int)]) := ⟨by decide, by decide⟩
    have l1 : (0 : Int) ≤ Int.ofNat (nat_lit 0) ∧ Int.ofNat (nat_lit 0) < Int.ofNat (List.length [(35 : Int)]) := ⟨by decide, by decide⟩
    rw [show ((Int.ofNat (List.length [(35 : Int)])) != 1) = false from rfl, br_f, chk_pos l0, chk_pos l1]
    rw [show (List.getD [(35 : Int)] (Int.toNat (Int.ofNat 0)) 0 != 35) = false from rfl, br_f, chk_pos l0, chk_pos l1]
    rw [show List.getD [strOfI [f] ++ ans] (Int.toNat (offAdd Option.none 0)) ByteArray.empty = strOfI [f] ++ ans from rfl, c1, chk_t]
    rw [show List.getD [strOfI [f] ++ ans] (Int.toNat (Int.ofNat 0)) ByteArray.empty = strOfI [f] ++ ans from rfl, c2, beq_b, Bool.not_true, br_f]
    have ih := again_L (server := server) hf hV ha eK hK0 hK1 ht h1 kx kr m n (i + 1) [35] [strOfI [f] ++ ans] t (by omega) (by omega) (by omega) (.inl rfl) (.inr ⟨rfl, rfl, rfl⟩)
    by_cases hi0 : i > 0
    · obtain ⟨rfl, rfl, rfl⟩ : s = t ∧ f0 = [35] ∧ f1 = [strOfI [f] ++ ans] := by
        rcases hi with ⟨x, _⟩ | h
        · omega
        · exact h
      rw [br_pos hi0, chk_pos l0, chk_pos l1, chk_pos l0, chk_pos l1]
      rw [show List.getD [strOfI [f] ++ ans] (Int.toNat (offAdd Option.none 0)) ByteArray.empty = strOfI [f] ++ ans from rfl]
      rw [show eqP [Go.Value.int .i64 (List.getD [(35 : Int)] (Int.toNat (offAdd Option.none (0 : Int))) (0 : Int)), Go.Value.string (strOfI [f] ++ ans)] [Go.Value.int .i64 (List.getD [(35 : Int)] (Int.toNat (offAdd Option.none (0 : Int))) (0 : Int)), Go.Value.string (strOfI [f] ++ ans)] = true from by
        simp only [eqP, beq_b, beq_self_eq_true, Bool.and_true], Bool.not_true, br_f]
      rw [e1]
      exact ih
    · rw [br_neg hi0, e1]
      exact ih
/-- What is agreed on. -/
structure Agr (sv : Bool) (f : Int) (V val ans : ByteArray) : Prop where
  chg : ∀ s : NG, s.lk = (ng0 sv).lk → s.lv = (ng0 sv).lv → s.sv = sv → s.d0.length ≤ 1000 → s.chg f V false = some ({ s with tk := mputK s.tk f, tv := mputV s.tk s.tv f val, d0 := s.d0 ++ [35], d1 := s.d1 ++ [strOfI [f] ++ ans] }.o [.b true])
  conf : ∀ s : NG, mhas s.wk f = true → mget ByteArray.empty s.wk s.wv f = V → s.conf f ans = some ({ s with wk := mdelK s.wk f, wv := mdelV s.wk s.wv f, nk := mputK s.nk f, nv := mputV s.nk s.nv f val }.o [.b true])
  fin : f = 3 ∧ val = V ∨ f ≠ 3 ∧ val.size = 1
  size : ans.size ≤ 1000
theorem agr_list {sv : Bool} {f : Int} {V : ByteArray} (hf : Ls f) (hV : V.size ≤ 16) (hm : mayB f V = true) : ∃ val ans, Agr sv f V val ans := by
  obtain ⟨v1, lo, hi⟩ := may_first hf (show V.size ≤ 1000 by omega) hm
  obtain ⟨j0, hj0, ej0⟩ := like_has hf lo hi
  obtain ⟨ls1, ls2⟩ := like_size hf
  have key : ∃ a b j, a = (bif sv then likeF f else V) ∧ b = (bif sv then V else likeF f) ∧ feat_Choose f a b = some [.s (slc a j), .b true] ∧ j < a.size ∧ V.data.toList.contains (a.data.toList.getD j 0) = true := by
    cases sv
    · refine ⟨V, likeF f, ?_⟩
      have hc : (likeF f).data.toList.contains (V.data.toList.getD 0 0) = true := by
        have : V.data.toList.getD 0 0 = (likeF f).data.toList.getD j0 0 := ej0.symm
        rw [this]
        exact getD_mem (by rw [size_l]; exact hj0)
      obtain ⟨j, g1, g2, g3, g4⟩ := fi_some (A := V.data.toList) (B := (likeF f).data.toList) V.size 0 0 (by omega) (by omega) hc
      exact ⟨j, rfl, rfl, choose_l hf (by omega) (by omega) hm (like_may hf) g1, by omega, getD_mem (by rw [size_l]; omega)⟩
    · refine ⟨likeF f, V, ?_⟩
      have hc : V.data.toList.contains ((likeF f).data.toList.getD j0 0) = true := by
        rw [ej0]
        exact getD_mem (by rw [size_l]; omega)
      obtain ⟨j, g1, g2, g3, g4⟩ := fi_some (A := (likeF f).data.toList) (B := V.data.toList) (likeF f).size 0 j0 (by omega) (by omega) hc
      exact ⟨j, rfl, rfl, choose_l hf (by omega) (by omega) (like_may hf) hm g1, by omega, g4⟩
  obtain ⟨a, b, j, ea, eb, hc, hj, hh⟩ := key
  have s1 := slc_size hj
  refine ⟨slc a j, slc a j ++ likeF f, ?_, ?_, .inr ⟨hf.ne3, s1⟩, by rw [ByteArray.size_append]; omega⟩
  · intro s h1 h2 h3 h4
    have hl : mget ByteArray.empty s.lk s.lv f = likeF f := by rw [h1, h2]; rfl
    have := chg_list (s := s) (f := f) (v := V) (val := slc a j) (m := false) hf h4 (by omega) (by omega) (by rw [hl]; omega) (by rw [hl, h3, ← ea, ← eb]; exact hc)
    rw [this, hl]
  · intro s h1 h2
    have := conf_list (s := s) (f := f) (v := slc a j ++ likeF f) hf (by rw [ByteArray.size_append]; omega) h1 (by rw [h2, app_0 s1, slc_0 hj]; exact hh)
    rw [this, hd_app s1]
theorem agr_win {sv : Bool} {V : ByteArray} (hV : V.size ≤ 16) (hm : mayB 3 V = true) : Agr sv 3 V V V := by
  have h6 := may_win (show V.size ≤ 1000 by omega) hm
  refine ⟨?_, ?_, .inl ⟨rfl, rfl⟩, by omega⟩
  · intro s h1 h2 h3 h4
    exact chg_win h4 (by omega) (by omega) (by rw [choose_w (by omega), hm]; rfl)
  · intro s h1 h2
    exact conf_win (by omega) h1 h2.symm
theorem chg_no {sv : Bool} {f : Int} {V : ByteArray} (hf : Kn f) (hV : V.size ≤ 16) (hm : mayB f V = false) :
    (ng0 sv).chg f V false = some ({ ng0 sv with d0 := (ng0 sv).d0 ++ [35], d1 := (ng0 sv).d1 ++ [strOfI [f] ++ ByteArray.empty] }.o [.b true]) := by
  apply chg_none hf (Nat.zero_le _)
  have hl : mget ByteArray.empty (ng0 sv).lk (ng0 sv).lv f = likeF f := rfl
  rw [hl]
  by_cases h3 : f = 3
  · subst h3
    rw [if_pos (.inr rfl), if_pos (.inr rfl), choose_w (by omega), hm]; rfl
  · have lF : Ls f := by unfold Kn at hf; unfold Ls; omega
    obtain ⟨ls1, ls2⟩ := like_size lF
    cases sv
    · rw [if_neg (by simp [h3, ng0]), if_neg (by simp [h3, ng0])]
      exact choose_no lF (by omega) (by omega) (.inl hm)
    · rw [if_pos (.inl rfl), if_pos (.inl rfl)]
      exact choose_no lF (by omega) (by omega) (.inr hm)
set_option maxRecDepth 100000 in
theorem NegoAgain_true (server : Bool) (f : Int) (v : ByteArray) (times : Int) : NegoAgain server f v times = some [.b true] := by
  obtain ⟨J, hJ0, hJ1, eJ⟩ := rem_N (m := 4) (by decide) (by decide) f
  obtain ⟨K, hK0, hK1, eK⟩ := rem_N (m := 4) (by decide) (by decide) times
  obtain ⟨V, hV, eV⟩ : ∃ d, d.size ≤ 16 ∧ law1_Text v 16 = some [.s d] := text_n v 16
  obtain ⟨F, hF⟩ : ∃ F, F = List.getD [(1 : Int), 3, 6, 8] J.toNat 0 := ⟨_, rfl⟩
  have kF : Kn F := by
    have : J = 0 ∨ J = 1 ∨ J = 2 ∨ J = 3 := by omega
    rcases this with rfl | rfl | rfl | rfl <;> subst hF <;> unfold Kn <;> decide
  have l0 : (0 : Int) ≤ (0 : Int) ∧ (0 : Int) < Int.ofNat (List.length [(35 : Int)]) := ⟨by decide, by decide⟩
  have l1 : (0 : Int) ≤ Int.ofNat (nat_lit 0) ∧ Int.ofNat (nat_lit 0) < Int.ofNat (List.length [(35 : Int)]) := ⟨by decide, by decide⟩
  unfold NegoAgain NegoAgain_d
  simp only [one_ev, eJ, eV, new_ng, ← hF, kF.w8, part1, out_ev, un_s_ev, un_nil_ev]
  rw [chk_pos (show 0 ≤ J ∧ J < 4 by omega), chk_pos (show 0 ≤ J ∧ J < 4 by omega)]
  simp only [NG.o, out_ev, un_li_ev, un_ls_ev, un_b_ev, un_nil_ev, decide_true, Bool.and_true, chk_t]
  rw [chk_pos (show (0 : Int) = Int.ofNat 0 from rfl)]
  cases hm : mayB F V
  · have q := fun kx kr => again_L (server := server) (times := times) (K := K) (ans := ByteArray.empty) (t := ng0 server) kF hV (by decide) eK hK0 hK1 ⟨rfl, rfl, rfl, rfl⟩ (hear_nothing kF (chg_no kF hV hm)) (α := List Leaf) kx kr (K + 1).toNat top 0 [] [] (ng0 server) (by omega) (by omega) (by unfold top; omega) (.inl rfl) (.inl ⟨rfl, by omega⟩)
    rw [q]
    simp only [show Nat.beq 0 0 = true from rfl, br_t, un_li_ev, un_ls_ev, un_b_ev, un_s_ev, un_i_ev, un_nil_ev, may_b (f := F) (show V.size ≤ 1000 by omega), hm, out_ev, Bool.not_false, decide_true, Bool.and_true, chk_t, nego_Theirs, default_t kF]
    rw [chk_pos l0, chk_pos l1]
    rw [show List.getD [strOfI [F] ++ ByteArray.empty] (Int.toNat (Int.ofNat 0)) ByteArray.empty = strOfI [F] from ByteArray.append_empty, beq_b, br_t]
    rw [show mget ByteArray.empty (ng0 server).tk (ng0 server).tv F = dflt F from rfl, beq_b]
  · obtain ⟨val, ans, A⟩ : ∃ val ans, Agr server F V val ans := by
      by_cases h3 : F = 3
      · rw [h3] at hm ⊢
        exact ⟨V, V, agr_win hV hm⟩
      · exact agr_list (by unfold Kn at kF; unfold Ls; omega) hV hm
    have hy := fun s hs => hear_yes (sv := server) (V := V) (val := val) (ans := ans) (s := s) kF hs A.chg
    have q := fun kx kr => again_L (server := server) (times := times) (K := K) (ans := ans) (t := thF server F val) kF hV A.size eK hK0 hK1 ⟨rfl, rfl, rfl, rfl⟩ (hy _ (.inr rfl)) (α := List Leaf) kx kr (K + 1).toNat top 0 [] [] (ng0 server) (by omega) (by omega) (by unfold top; omega) (.inr (hy _ (.inl rfl))) (.inl ⟨rfl, by omega⟩)
    rw [q]
    obtain ⟨m1, hm1⟩ : ∃ m1 : NG, m1 = { ng0 (!server) with wk := [F], wv := [V] } := ⟨_, rfl⟩
    obtain ⟨m2, hm2⟩ : ∃ m2 : NG, m2 = { m1 with wk := mdelK m1.wk F, wv := mdelV m1.wk m1.wv F, nk := mputK m1.nk F, nv := mputV m1.nk m1.nv F val } := ⟨_, rfl⟩
    have w1 : (ng0 (!server)).ask F V = some (m1.o [.i 0]) := by rw [ask_ok kF (by omega) hm, hm1]; rfl
    have t1 : m1.take [35] [strOfI [F] ++ ans] = some (m2.o [.b true]) := take_t (Hear.step (.inl (by decide)) (one_conf kF (by rw [hm2]; exact A.conf m1 (by rw [hm1]; exact has_one F) (by rw [hm1]; exact get_one F V))) (Hear.nil _ _)) (Nat.le_of_ble_eq_true rfl)
    have k0 : m2.wk = [] := by rw [hm2, hm1]; exact (del_one F V).1
    have t2 : m2.take [35] [strOfI [F] ++ ans] = some (m2.o [.b true]) := take_t (Hear.step (.inl (by decide)) (one_conf kF (conf_none (by rw [k0]; rfl))) (Hear.nil _ _)) (Nat.le_of_ble_eq_true rfl)
    have k1 : mget ByteArray.empty m2.nk m2.nv F = val := by
      rw [hm2, hm1]
      obtain ⟨p1, _, p3⟩ := put_same kF (!server) val
      have e1 : mputK (ng0 (!server)).nk F = [1, 3, 6, 8] := p1
      show mget ByteArray.empty (mputK (ng0 (!server)).nk F) (mputV (ng0 (!server)).nk (ng0 (!server)).nv F val) F = val
      rw [e1]; exact p3
    have k2 : mget ByteArray.empty (thF server F val).tk (thF server F val).tv F = val := (put_same kF server val).2.2
    unfold NG.ask at w1
    unfold NG.take at t1 t2
    simp only [show Nat.beq 0 0 = true from rfl, br_t, un_li_ev, un_ls_ev, un_b_ev, un_s_ev, un_i_ev, un_nil_ev, may_b (f := F) (show V.size ≤ 1000 by omega), hm, out_ev, Bool.not_true, br_f, decide_true, Bool.and_true, chk_t, nego_Theirs, nego_Mine, new_ng, NG.o, w1]
    rw [show ((0 : Int) != 0) = false from rfl, br_f]
    simp only [t1, t2, NG.o, out_ev, un_li_ev, un_ls_ev, un_b_ev, un_nil_ev, Bool.not_true, br_f]
    simp only [nego_Done, one_ev, k0, k1, k2, un_s_ev, un_b_ev, un_nil_ev, out_ev, beq_b, br_t]
    rw [show (!(((([] : List Int).length : Nat) : Int) == 0)) = false from rfl, br_f]
    rcases A.fin with ⟨h3, hv⟩ | ⟨h3, hv⟩
    · rw [br_eq h3, hv, beq_b, br_t]
    · rw [br_ne h3, show (F != 3) = true from bne_iff_ne.2 h3, br_t, hv]
      rfl
end Go.Sx.T

