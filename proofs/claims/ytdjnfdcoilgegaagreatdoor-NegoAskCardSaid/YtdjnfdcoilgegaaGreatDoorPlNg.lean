import Derived.Test.YtdjnfdcoilgegaaGreatDoorPlFb
import Derived.Test.YtdjnfdcoilgegaaGreatDoorYNegoSpec
set_option linter.all false
namespace Go.Sx.T
open Go Go.Sx
/-- A side: what it asks for, likes, has, the other one has; what is due; whether it serves. -/
structure NG where
  wk : List Int
  wv : List ByteArray
  lk : List Int
  lv : List ByteArray
  nk : List Int
  nv : List ByteArray
  tk : List Int
  tv : List ByteArray
  d0 : List Int
  d1 : List ByteArray
  sv : Bool
def NG.o (s : NG) (r : List Leaf) : List Leaf := .li s.wk :: .ls s.wv :: .li s.lk :: .ls s.lv :: .li s.nk :: .ls s.nv :: .li s.tk :: .ls s.tv :: .li s.d0 :: .ls s.d1 :: .b s.sv :: r
def NG.one (s : NG) (t : Int) (d : ByteArray) (m : Bool) : Option (List Leaf) := nego_one s.wk s.wv s.lk s.lv s.nk s.nv s.tk s.tv s.d0 s.d1 s.sv t d m
def NG.conf (s : NG) (f : Int) (v : ByteArray) : Option (List Leaf) := nego_confirmed s.wk s.wv s.lk s.lv s.nk s.nv s.tk s.tv s.d0 s.d1 s.sv f v
def NG.chg (s : NG) (f : Int) (v : ByteArray) (m : Bool) : Option (List Leaf) := nego_changed s.wk s.wv s.lk s.lv s.nk s.nv s.tk s.tv s.d0 s.d1 s.sv f v m
def NG.ans (s : NG) (t f : Int) (v : ByteArray) (m : Bool) : Option (List Leaf) := nego_answers s.wk s.wv s.lk s.lv s.nk s.nv s.tk s.tv s.d0 s.d1 s.sv t f v m
def NG.take (s : NG) (os : List Int) (ds : List ByteArray) : Option (List Leaf) := nego_Take s.wk s.wv s.lk s.lv s.nk s.nv s.tk s.tv s.d0 s.d1 os ds s.sv
def NG.opts (s : NG) : Option (List Leaf) := nego_Opts s.wk s.wv s.lk s.lv s.nk s.nv s.tk s.tv s.d0 s.d1 s.sv
def NG.ask (s : NG) (f : Int) (v : ByteArray) : Option (List Leaf) := nego_Want s.wk s.wv s.lk s.lv s.nk s.nv s.tk s.tv s.d0 s.d1 s.sv f v
def NG.likes (s : NG) (f : Int) (v : ByteArray) : Option (List Leaf) := nego_Like s.wk s.wv s.lk s.lv s.nk s.nv s.tk s.tv s.d0 s.d1 s.sv f v
theorem chkLen {α : Type} (n : Int) (x : Option α) : chk (decide (n = n) && true && true) x = x := by
  rw [decide_eq_true rfl]; exact chk_t x
theorem chkLen1 {α : Type} (n : Int) (x : Option α) : chk (decide (n = n) && true) x = x := by
  rw [decide_eq_true rfl]; exact chk_t x
def Kn (f : Int) : Prop := f = 1 ∨ f = 3 ∨ f = 6 ∨ f = 8
def Ls (f : Int) : Prop := f = 1 ∨ f = 6 ∨ f = 8
theorem Ls.kn {f : Int} (h : Ls f) : Kn f := by unfold Ls at h; unfold Kn; omega
theorem Kn.w8 {f : Int} (h : Kn f) : wrapI .u8 f = f := by rcases h with rfl | rfl | rfl | rfl <;> decide
theorem Kn.w64 {f : Int} (h : Kn f) : wrapI .i64 f = f := by rcases h with rfl | rfl | rfl | rfl <;> decide
/-! ### Texts of bytes -/
theorem bq_iff (a b : ByteArray) : (a == b) = true ↔ a = b := by
  constructor
  · intro h
    cases a with
    | mk a =>
      cases b with
      | mk b =>
        have h' : ByteArray.beq ⟨a⟩ ⟨b⟩ = true := h
        simp [ByteArray.beq] at h'
        rw [h']
  · rintro rfl
    exact beq_b a
theorem bq_ne {a b : ByteArray} (h : a ≠ b) : (a == b) = false := by
  cases e : a == b
  · rfl
  · exact absurd ((bq_iff a b).1 e) h
theorem e0 : ({ data := #[] } : ByteArray) = ByteArray.empty := rfl
theorem ne_e {v : ByteArray} (h : 1 ≤ v.size) : (v == ({ data := #[] } : ByteArray)) = false := by
  apply bq_ne
  rintro rfl
  exact absurd h (by decide)
theorem size_e {v : ByteArray} (h : v.size = 0) : v = ({ data := #[] } : ByteArray) := by
  apply ByteArray.ext
  apply Array.eq_empty_of_size_eq_zero
  exact h
theorem part1 (f : Int) : partL Option.none (↑(1 : Nat) : Int) [f] = [f] := rfl
theorem size1 (f : Int) : (strOfI [f]).size = 1 := rfl
theorem bt1 {f : Int} (h : Kn f) (v : ByteArray) : bt (strOfI [f] ++ v) 0 = f := by
  unfold bt
  rw [ByteArray.data_append, Array.toList_append]
  show (((UInt8.ofNat f.toNat).toNat : Nat) : Int) = f
  rcases h with rfl | rfl | rfl | rfl <;> decide
theorem cut1 (f : Int) (v : ByteArray) : strSlO (strOfI [f] ++ v) (Option.some 1) Option.none = v := by
  show (strOfI [f] ++ v).extract (1 : Int).toNat (((strOfI [f] ++ v).size : Nat) : Int).toNat = v
  apply ByteArray.extract_append_eq_right
  · rfl
  · rw [ByteArray.size_append]; rfl
theorem size_app1 (f : Int) (v : ByteArray) : (strOfI [f] ++ v).size = 1 + v.size := by rw [ByteArray.size_append]; rfl
theorem option_t {f : Int} (hf : Kn f) {v : ByteArray} (hv : v.size ≤ 1000) (t : Int) : nego_option t f v = some [.i t, .s (strOfI [f] ++ v)] := by
  unfold nego_option
  simp only [one_ev, hf.w8, part1, size1]
  rw [show Nat.ble (1 + v.size) 9223372036854775807 = true from Nat.ble_eq_true_of_le (by omega), chk_t]
  rfl
/-! ### What may be asked for -/
def mayB (f : Int) (v : ByteArray) : Bool := match feat_May f v with
  | some [.b m] => m
  | _ => false
theorem may_b {f : Int} {v : ByteArray} (hv : v.size ≤ 1000) : feat_May f v = some [.b (mayB f v)] := by
  obtain ⟨m, e⟩ := fmay_t (f := f) hv
  unfold mayB
  rw [e]
theorem list_l {f : Int} (h : Ls f) : feat_List f = some [.b true] := by rcases h with rfl | rfl | rfl <;> rfl
theorem known_k {f : Int} (h : Kn f) : feat_Known f = some [.b true] := by rcases h with rfl | rfl | rfl | rfl <;> rfl
theorem look_t (wk : List Int) (wv : List ByteArray) (lk : List Int) (lv : List ByteArray) (mk : List Int) (mv : List ByteArray) (tk : List Int) (tv : List ByteArray) (d0 : List Int) (d1 : List ByteArray) (sv : Bool) {f : Int} {v : ByteArray} (hf : Kn f) (hv : v.size ≤ 1000) :
    nego_look wk wv lk lv mk mv tk tv d0 d1 sv f v = some [.i (bif mayB f v then 0 else 3)] := by
  unfold nego_look
  simp only [known_k hf, may_b hv, out_ev, un_b_ev, un_nil_ev, Bool.not_true, br_f]
  cases mayB f v
  · rw [Bool.not_false, br_t]; rfl
  · rw [Bool.not_true, br_f]; rfl
theorem ask_ok {s : NG} {f : Int} {v : ByteArray} (hf : Kn f) (hv : v.size ≤ 1000) (h : mayB f v = true) : s.ask f v = some ({ s with wk := mputK s.wk f, wv := mputV s.wk s.wv f v }.o [.i 0]) := by
  unfold NG.ask nego_Want
  simp only [look_t _ _ _ _ _ _ _ _ _ _ _ hf hv, h, decide_true, Bool.and_true, chk_t, out_ev, un_i_ev, un_nil_ev, cond_true]
  rw [br_eq rfl]
  rfl
theorem ask_no {s : NG} {f : Int} {v : ByteArray} (hf : Kn f) (hv : v.size ≤ 1000) (h : mayB f v = false) : s.ask f v = some (s.o [.i 3]) := by
  unfold NG.ask nego_Want
  simp only [look_t _ _ _ _ _ _ _ _ _ _ _ hf hv, h, decide_true, Bool.and_true, chk_t, out_ev, un_i_ev, un_nil_ev, cond_false]
  rw [br_ne (by decide)]
  rfl
theorem like_ok {s : NG} {f : Int} {v : ByteArray} (hf : Kn f) (hv : v.size ≤ 1000) (h : mayB f v = true) : s.likes f v = some ({ s with lk := mputK s.lk f, lv := mputV s.lk s.lv f v }.o [.i 0]) := by
  unfold NG.likes nego_Like
  simp only [look_t _ _ _ _ _ _ _ _ _ _ _ hf hv, h, decide_true, Bool.and_true, chk_t, out_ev, un_i_ev, un_nil_ev, cond_true]
  rw [br_eq rfl]
  rfl
/-! ### Options, one by one -/
theorem chkA (l : List Int) (h : l.length ≤ 1000) {α : Type} (x : Option α) : chk (decide (Int.ofNat (List.length l) = Int.ofNat (List.length l)) && true && decide ((Int.ofNat (List.length l) + (↑(1 : Nat) : Int)) * (↑(nat_lit 24) : Int) ≤ (140737488355328 : Int) ∧ Int.ofNat (List.length l) + (↑(1 : Nat) : Int) ≤ (4611686018427387904 : Int))) x = x := by
  rw [decide_eq_true rfl, decide_eq_true (show (Int.ofNat (List.length l) + (↑(1 : Nat) : Int)) * (↑(nat_lit 24) : Int) ≤ (140737488355328 : Int) ∧ Int.ofNat (List.length l) + (↑(1 : Nat) : Int) ≤ (4611686018427387904 : Int) from by
    have e : Int.ofNat (List.length l) = (l.length : Int) := rfl
    rw [e]
    constructor
    · show ((l.length : Int) + 1) * 24 ≤ 140737488355328
      omega
    · show (l.length : Int) + 1 ≤ 4611686018427387904
      omega)]
  exact chk_t x
theorem chkB (l : List Int) (t : Int) {α : Type} (x : Option α) : chk (decide (Int.ofNat (List.length l) + (↑(1 : Nat) : Int) = Int.ofNat (List.length (l ++ [t]))) && true && true) x = x := by
  rw [decide_eq_true (show Int.ofNat (List.length l) + (↑(1 : Nat) : Int) = Int.ofNat (List.length (l ++ [t])) from by rw [List.length_append]; rfl)]
  exact chk_t x
theorem ans_t {s : NG} {t f : Int} {v : ByteArray} {m : Bool} (hf : Kn f) (hv : v.size ≤ 1000) (hd : s.d0.length ≤ 1000) (h : m = false ∨ 1 ≤ v.size) :
    s.ans t f v m = some ({ s with d0 := s.d0 ++ [t], d1 := s.d1 ++ [strOfI [f] ++ v] }.o [.b true]) := by
  unfold NG.ans nego_answers
  rcases h with rfl | h
  · rw [br_f, option_t hf hv]
    refine Eq.trans (chkA _ hd _) (chkB _ t _)
  · cases m
    · rw [br_f, option_t hf hv]
      refine Eq.trans (chkA _ hd _) (chkB _ t _)
    · rw [br_t, ne_e h, br_f, option_t hf hv]
      refine Eq.trans (chkA _ hd _) (chkB _ t _)
theorem one_free {s : NG} {t : Int} {d : ByteArray} (h : t < 32 ∨ 35 < t) : s.one t d false = some (s.o [.b true]) := by
  unfold NG.one nego_one
  by_cases h1 : t < 32
  · simp only [br_pos h1, Bool.not_false, br_t, chkLen]; rfl
  · simp only [br_neg h1, br_pos (show t > 35 by omega), Bool.not_false, br_t, chkLen]; rfl
theorem one_must {s : NG} {t : Int} {d : ByteArray} (h : 100 ≤ t) (h1 : t < 190) : s.one t d true = some (s.o [.b false]) := by
  have k : nego_known t = some [.b false] := by
    unfold nego_known
    rw [br_ne (by omega), br_ne (by omega), br_ne (by omega), br_ne (by omega), br_ne (by omega)]
  unfold NG.one nego_one
  simp only [br_neg (show ¬ t < 32 by omega), br_pos (show t > 35 by omega), Bool.not_true, br_f, k, out_ev, un_b_ev, un_nil_ev, decide_true, Bool.and_true, chk_t]
  rfl
theorem cut_ok {f : Int} {v : ByteArray} : condSl (((strOfI [f] ++ v).size : Nat) : Int) (Option.some 1) Option.none = true := by
  show decide ((0 : Int) ≤ 1 ∧ (1 : Int) ≤ (((strOfI [f] ++ v).size : Nat) : Int)) = true
  rw [size_app1]
  exact decide_eq_true (by omega)
theorem one_conf {s s' : NG} {f : Int} {v : ByteArray} {m ok : Bool} (hf : Kn f) (h : s.conf f v = some (s'.o [.b ok])) : s.one 35 (strOfI [f] ++ v) m = some (s'.o [.b ok]) := by
  unfold NG.conf at h
  unfold NG.one nego_one
  rw [br_neg (by decide), br_neg (by decide), ne_e (by rw [size_app1]; omega), br_f, chk_pos (by rw [size_app1]; omega)]
  simp only [one_ev, bt1 hf, hf.w64, cut_ok, chk_t, cut1]
  rw [br_ne (by decide), br_ne (by decide), br_eq rfl, h]
  simp only [NG.o, out_ev, un_li_ev, un_ls_ev, un_b_ev, un_nil_ev, decide_true, Bool.and_true, chk_t]
theorem one_chg {s s' : NG} {f : Int} {v : ByteArray} {m ok : Bool} (hf : Kn f) (h : s.chg f v m = some (s'.o [.b ok])) : s.one 32 (strOfI [f] ++ v) m = some (s'.o [.b ok]) := by
  unfold NG.chg at h
  unfold NG.one nego_one
  rw [br_neg (by decide), br_neg (by decide), ne_e (by rw [size_app1]; omega), br_f, chk_pos (by rw [size_app1]; omega)]
  simp only [one_ev, bt1 hf, hf.w64, cut_ok, chk_t, cut1]
  rw [br_eq rfl, h]
  simp only [NG.o, out_ev, un_li_ev, un_ls_ev, un_b_ev, un_nil_ev, decide_true, Bool.and_true, chk_t]
theorem one_chgR {s : NG} {f : Int} {v : ByteArray} (hf : Kn f) (hd : s.d0.length ≤ 1000) : s.one 34 (strOfI [f] ++ v) false = some ({ s with d0 := s.d0 ++ [33], d1 := s.d1 ++ [strOfI [f] ++ ByteArray.empty] }.o [.b true]) := by
  have h := ans_t (s := s) (t := 33) (v := ({ data := #[] } : ByteArray)) (m := false) hf (by decide) hd (.inl rfl)
  unfold NG.ans at h
  unfold NG.one nego_one
  rw [br_neg (by decide), br_neg (by decide), ne_e (by rw [size_app1]; omega), br_f, chk_pos (by rw [size_app1]; omega)]
  simp only [one_ev, bt1 hf, hf.w64, cut_ok, chk_t, cut1]
  rw [br_ne (by decide), br_eq rfl, h]
  simp only [NG.o, out_ev, un_li_ev, un_ls_ev, un_b_ev, un_nil_ev, decide_true, Bool.and_true, chk_t]
  rfl
/-! ### Answers heard -/
theorem conf_none {s : NG} {f : Int} {v : ByteArray} (h : mhas s.wk f = false) : s.conf f v = some (s.o [.b true]) := by
  unfold NG.conf nego_confirmed
  simp only [h, Bool.not_false, br_t, decide_true, Bool.and_true, chk_t]
  rfl
theorem conf_empty {s : NG} {f : Int} (h : mhas s.wk f = true) : s.conf f ({ data := #[] } : ByteArray) = some ({ s with wk := mdelK s.wk f, wv := mdelV s.wk s.wv f }.o [.b true]) := by
  unfold NG.conf nego_confirmed
  simp only [h, Bool.not_true, br_f, beq_b, br_t, decide_true, Bool.and_true, chk_t]
  rfl
def hd1 (v : ByteArray) : ByteArray := strSlO v Option.none (Option.some 1)
theorem cut_hd {v : ByteArray} (h : 1 ≤ v.size) : condSl (v.size : Int) Option.none (Option.some 1) = true := by
  show decide ((0 : Int) ≤ 1 ∧ (1 : Int) ≤ (v.size : Int)) = true
  exact decide_eq_true (by omega)
theorem conf_list {s : NG} {f : Int} {v : ByteArray} (hf : Ls f) (hv : 1 ≤ v.size) (h : mhas s.wk f = true) (hc : (mget ByteArray.empty s.wk s.wv f).data.toList.contains (v.data.toList.getD 0 0) = true) :
    s.conf f v = some ({ s with wk := mdelK s.wk f, wv := mdelV s.wk s.wv f, nk := mputK s.nk f, nv := mputV s.nk s.nv f (hd1 v) }.o [.b true]) := by
  obtain ⟨n, hn, e⟩ := index_t (mget ByteArray.empty s.wk s.wv f) (v.data.toList.getD 0 0)
  unfold NG.conf nego_confirmed
  simp only [h, Bool.not_true, br_f, ne_e hv, list_l hf, out_ev, un_b_ev, un_nil_ev, br_t]
  rw [chk_pos (by omega)]
  have hb : bt v 0 = ((v.data.toList.getD 0 0).toNat : Int) := rfl
  simp only [one_ev, hb, e, out_ev, un_i_ev, un_nil_ev]
  rw [bdec hn, hc, cond_true, cut_hd hv, chk_t]
  simp only [decide_true, Bool.and_true, chk_t]
  rfl
theorem conf_bad {s : NG} {f : Int} {v : ByteArray} (hf : Ls f) (hv : 1 ≤ v.size) (h : mhas s.wk f = true) (hc : (mget ByteArray.empty s.wk s.wv f).data.toList.contains (v.data.toList.getD 0 0) = false) :
    s.conf f v = some (s.o [.b false]) := by
  obtain ⟨n, hn, e⟩ := index_t (mget ByteArray.empty s.wk s.wv f) (v.data.toList.getD 0 0)
  unfold NG.conf nego_confirmed
  simp only [h, Bool.not_true, br_f, ne_e hv, list_l hf, out_ev, un_b_ev, un_nil_ev, br_t]
  rw [chk_pos (by omega)]
  have hb : bt v 0 = ((v.data.toList.getD 0 0).toNat : Int) := rfl
  simp only [one_ev, hb, e, out_ev, un_i_ev, un_nil_ev]
  rw [bdec hn, hc, cond_false]
  simp only [decide_true, Bool.and_true, chk_t]
  rfl
theorem conf_win {s : NG} {v : ByteArray} (hv : 1 ≤ v.size) (h : mhas s.wk 3 = true) (hc : v = mget ByteArray.empty s.wk s.wv 3) :
    s.conf 3 v = some ({ s with wk := mdelK s.wk 3, wv := mdelV s.wk s.wv 3, nk := mputK s.nk 3, nv := mputV s.nk s.nv 3 v }.o [.b true]) := by
  unfold NG.conf nego_confirmed
  have l3 : feat_List 3 = some [.b false] := rfl
  rw [← hc]
  simp only [h, Bool.not_true, br_f, ne_e hv, l3, out_ev, un_b_ev, un_nil_ev, Bool.not_false, br_t, beq_b, decide_true, Bool.and_true, chk_t]
  rfl
/-! ### What the other side asks for -/
theorem chg_none {s : NG} {f : Int} {v : ByteArray} (hf : Kn f) (hd : s.d0.length ≤ 1000)
    (hc : feat_Choose f (if s.sv = true ∨ f = 3 then mget ByteArray.empty s.lk s.lv f else v) (if s.sv = true ∨ f = 3 then v else mget ByteArray.empty s.lk s.lv f) = some [.s ({ data := #[] } : ByteArray), .b false]) :
    s.chg f v false = some ({ s with d0 := s.d0 ++ [35], d1 := s.d1 ++ [strOfI [f] ++ ByteArray.empty] }.o [.b true]) := by
  have h := ans_t (s := s) (t := 35) (v := ({ data := #[] } : ByteArray)) (m := false) hf (by decide) hd (.inl rfl)
  unfold NG.ans at h
  unfold NG.chg nego_changed
  cases hs : s.sv
  · rw [hs] at hc h
    by_cases h3 : f = 3
    · rw [if_pos (.inr h3), if_pos (.inr h3)] at hc
      rw [br_f, br_eq h3, hc]
      simp only [out_ev, un_s_ev, un_b_ev, un_nil_ev, Bool.not_false, br_t, decide_true, Bool.and_true, chk_t, h, NG.o, un_li_ev, un_ls_ev]
      rfl
    · rw [if_neg (by simp [h3]), if_neg (by simp [h3])] at hc
      rw [br_f, br_ne h3, hc]
      simp only [out_ev, un_s_ev, un_b_ev, un_nil_ev, Bool.not_false, br_t, decide_true, Bool.and_true, chk_t, h, NG.o, un_li_ev, un_ls_ev]
      rfl
  · rw [hs] at hc h
    rw [if_pos (.inl rfl), if_pos (.inl rfl)] at hc
    rw [br_t, hc]
    simp only [out_ev, un_s_ev, un_b_ev, un_nil_ev, Bool.not_false, br_t, decide_true, Bool.and_true, chk_t, h, NG.o, un_li_ev, un_ls_ev]
    rfl
end Go.Sx.T

