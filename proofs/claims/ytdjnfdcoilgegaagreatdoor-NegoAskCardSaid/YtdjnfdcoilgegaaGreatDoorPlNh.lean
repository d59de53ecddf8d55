import Derived.Test.YtdjnfdcoilgegaaGreatDoorPlNg
set_option linter.all false
namespace Go.Sx.T
open Go Go.Sx
theorem list_3 : feat_List 3 = some [.b false] := rfl
theorem chg_list {s : NG} {f : Int} {v val : ByteArray} {m : Bool} (hf : Ls f) (hd : s.d0.length ≤ 1000) (hv : 1 ≤ val.size) (hv1 : val.size ≤ 100) (hl : (mget ByteArray.empty s.lk s.lv f).size ≤ 100)
    (hc : feat_Choose f (bif s.sv then mget ByteArray.empty s.lk s.lv f else v) (bif s.sv then v else mget ByteArray.empty s.lk s.lv f) = some [.s val, .b true]) :
    s.chg f v m = some ({ s with tk := mputK s.tk f, tv := mputV s.tk s.tv f val, d0 := s.d0 ++ [35], d1 := s.d1 ++ [strOfI [f] ++ (val ++ mget ByteArray.empty s.lk s.lv f)] }.o [.b true]) := by
  have h := ans_t (s := { s with tk := mputK s.tk f, tv := mputV s.tk s.tv f val }) (t := 35) (v := val ++ mget ByteArray.empty s.lk s.lv f) (m := m) hf.kn (by rw [ByteArray.size_append]; omega) hd (.inr (by rw [ByteArray.size_append]; omega))
  unfold NG.ans at h
  simp only at h
  have c : Nat.ble (val.size + (mget ByteArray.empty s.lk s.lv f).size) 9223372036854775807 = true := Nat.ble_eq_true_of_le (by omega)
  have h3 : f ≠ 3 := by rcases hf with rfl | rfl | rfl <;> decide
  unfold NG.chg nego_changed
  cases hs : s.sv
  · rw [hs] at hc h
    rw [cond_false, cond_false] at hc
    rw [br_f, br_ne h3, hc]
    simp only [out_ev, un_s_ev, un_b_ev, un_nil_ev, Bool.not_true, br_f, list_l hf, br_t, c, decide_true, Bool.and_true, chk_t, h, NG.o, un_li_ev, un_ls_ev]
  · rw [hs] at hc h
    rw [cond_true, cond_true] at hc
    rw [br_t, hc]
    simp only [out_ev, un_s_ev, un_b_ev, un_nil_ev, Bool.not_true, br_f, list_l hf, br_t, c, decide_true, Bool.and_true, chk_t, h, NG.o, un_li_ev, un_ls_ev]
theorem chg_win {s : NG} {v val : ByteArray} {m : Bool} (hd : s.d0.length ≤ 1000) (hv : 1 ≤ val.size) (hv1 : val.size ≤ 100)
    (hc : feat_Choose 3 (mget ByteArray.empty s.lk s.lv 3) v = some [.s val, .b true]) :
    s.chg 3 v m = some ({ s with tk := mputK s.tk 3, tv := mputV s.tk s.tv 3 val, d0 := s.d0 ++ [35], d1 := s.d1 ++ [strOfI [3] ++ val] }.o [.b true]) := by
  have h := ans_t (s := { s with tk := mputK s.tk 3, tv := mputV s.tk s.tv 3 val }) (t := 35) (f := 3) (v := val) (m := m) (by unfold Kn; omega) (by omega) hd (.inr hv)
  unfold NG.ans at h
  simp only at h
  unfold NG.chg nego_changed
  cases hs : s.sv
  · rw [hs] at h
    rw [br_f, br_eq rfl, hc]
    simp only [out_ev, un_s_ev, un_b_ev, un_nil_ev, Bool.not_true, br_f, list_3, decide_true, Bool.and_true, chk_t, h, NG.o, un_li_ev, un_ls_ev]
  · rw [hs] at h
    rw [br_t, hc]
    simp only [out_ev, un_s_ev, un_b_ev, un_nil_ev, Bool.not_true, br_f, list_3, decide_true, Bool.and_true, chk_t, h, NG.o, un_li_ev, un_ls_ev]
/-! ### What goes with a packet -/
def ask0 (wk fs : List Int) : List Int := (fs.filter (mhas wk)).map fun _ => 32
def ask1 (wk : List Int) (wv : List ByteArray) (fs : List Int) : List ByteArray := (fs.filter (mhas wk)).map fun f => strOfI [f] ++ mget ByteArray.empty wk wv f
theorem getD_drop {l : List Int} {i : Nat} (h : i < l.length) : l.drop i = l.getD i 0 :: l.drop (i + 1) := by
  rw [List.drop_eq_getElem_cons h, List.getD_eq_getElem?_getD, List.getElem?_eq_getElem h]; rfl
theorem chkC (a b : List Int) {α : Type} (x : Option α) : chk (decide (Int.ofNat (List.length a) = Int.ofNat (List.length a)) && (decide (Int.ofNat (List.length b) = Int.ofNat (List.length b)) && true)) x = x := by
  rw [decide_eq_true rfl, decide_eq_true rfl]; exact chk_t x
theorem chkD (a b : List Int) (t : Int) {α : Type} (x : Option α) : chk (decide (Int.ofNat (List.length a) + (↑(1 : Nat) : Int) = Int.ofNat (List.length (a ++ [t]))) && (decide (Int.ofNat (List.length b) = Int.ofNat (List.length b)) && true)) x = x := by
  rw [decide_eq_true (show Int.ofNat (List.length a) + (↑(1 : Nat) : Int) = Int.ofNat (List.length (a ++ [t])) from by rw [List.length_append]; rfl), decide_eq_true rfl]
  exact chk_t x
theorem opts_L {s : NG} {fs : List Int} (hfl : fs.length ≤ 1000) (hk : ∀ f ∈ fs, Kn f) (hv : ∀ f ∈ fs, (mget ByteArray.empty s.wk s.wv f).size ≤ 1000) {α : Type} (kx : Nat → List Leaf → Option α) (kr : List Leaf → Option α) :
    ∀ (m n i : Nat) (o0 : List Int) (o1 : List ByteArray), i + m = fs.length → m < n → o0.length + m ≤ 1000 →
    nego_Opts_6_L kx kr n s.wk s.wv s.lk s.lv s.nk s.nv s.tk s.tv s.d0 s.d1 o0 o1 fs s.sv (i : Int) (Int.ofNat fs.length) =
      kx 0 [.li s.wk, .ls s.wv, .li s.lk, .ls s.lv, .li s.nk, .ls s.nv, .li s.tk, .ls s.tv, .li s.d0, .ls s.d1, .li (o0 ++ ask0 s.wk (fs.drop i)), .ls (o1 ++ ask1 s.wk s.wv (fs.drop i)), .b s.sv]
  | 0, n, i, o0, o1, h, hn, hl => by
    obtain ⟨n, rfl⟩ : ∃ n', n = n' + 1 := ⟨n - 1, by omega⟩
    have e : Int.ofNat fs.length = (fs.length : Int) := rfl
    rw [nego_Opts_6_L, nego_Opts_6_B]
    rw [br_neg (by rw [e]; omega), chkLen, chkLen1, List.drop_eq_nil_of_le (by omega)]
    simp only [ask0, ask1, List.filter_nil, List.map_nil, List.append_nil]
  | m + 1, n, i, o0, o1, h, hn, hl => by
    obtain ⟨n, rfl⟩ : ∃ n', n = n' + 1 := ⟨n - 1, by omega⟩
    have e : Int.ofNat fs.length = (fs.length : Int) := rfl
    have e1 : addI .i64 (i : Int) 1 = ((i + 1 : Nat) : Int) := by rw [addI_i (by unfold I63; omega)]; omega
    have hi : i < fs.length := by omega
    have hm : fs.getD i 0 ∈ fs := by
      rw [List.getD_eq_getElem?_getD, List.getElem?_eq_getElem hi]
      exact List.getElem_mem hi
    rw [nego_Opts_6_L, nego_Opts_6_B]
    rw [br_pos (by rw [e]; omega), chk_pos (by rw [e]; omega), chk_pos (by rw [e]; omega), getD_drop hi, Int.toNat_natCast]
    cases hh : mhas s.wk (fs.getD i 0)
    · rw [br_f, one_ev, e1, chkLen, chkC]
      rw [opts_L hfl hk hv kx kr m n (i + 1) o0 o1 (by omega) (by omega) (by omega)]
      simp only [ask0, ask1, List.filter_cons, hh, if_false, Bool.false_eq_true]
    · rw [br_t, option_t (hk _ hm) (hv _ hm)]
      have ca := chkA o0 (by omega) (α := α)
      refine Eq.trans (ca _) ?_
      rw [one_ev, e1, chkLen]
      refine Eq.trans (chkD _ _ _ _) ?_
      rw [opts_L hfl hk hv kx kr m n (i + 1) (o0 ++ [32]) _ (by omega) (by omega) (by rw [List.length_append]; simp only [List.length_cons, List.length_nil]; omega)]
      simp only [ask0, ask1, List.filter_cons, hh, if_true, List.map_cons, List.append_assoc, List.cons_append, List.nil_append]
def fts : List Int := [1, 3, 6, 8]
theorem opts_t {s : NG} (hv : ∀ f ∈ fts, (mget ByteArray.empty s.wk s.wv f).size ≤ 1000) (hd : s.d0.length ≤ 900) :
    s.opts = some [.li s.wk, .ls s.wv, .li s.lk, .ls s.lv, .li s.nk, .ls s.nv, .li s.tk, .ls s.tv, .li [], .ls [], .li (s.d0 ++ ask0 s.wk fts), .ls (s.d1 ++ ask1 s.wk s.wv fts), .b s.sv] := by
  have hf : nego_features = some [.li [1, 3, 6, 8]] := rfl
  have hk : ∀ f ∈ fts, Kn f := by
    intro f hf
    simp only [fts, List.mem_cons, List.not_mem_nil, or_false] at hf
    exact hf
  unfold NG.opts nego_Opts nego_Opts_d
  simp only [hf, out_ev, un_li_ev, un_nil_ev, one_ev, decide_true, Bool.and_true, chk_t]
  rw [chk_pos (show (0 : Int) = Int.ofNat 0 from rfl)]
  have q := fun kx kr => opts_L (s := { s with d0 := [], d1 := [] }) (fs := fts) (by decide) hk hv (α := List Leaf) kx kr 4 top 0 s.d0 s.d1 rfl (by unfold top; omega) (by omega)
  simp only [fts, List.drop_zero] at q
  rw [show ((0 : Nat) : Int) = 0 from rfl] at q
  rw [q]
  simp only [show Nat.beq 0 0 = true from rfl, br_t, un_li_ev, un_ls_ev, un_b_ev, un_nil_ev, decide_true, Bool.and_true, chk_t, fts]
/-! ### Hearing options -/
inductive Hear : NG → Bool → List Int → List ByteArray → NG → Bool → Prop
  | nil (s : NG) (m : Bool) : Hear s m [] [] s true
  | must {s s' : NG} {ok : Bool} {d : ByteArray} {os : List Int} {ds : List ByteArray} (h : Hear s true os ds s' ok) : Hear s false (1 :: os) (d :: ds) s' ok
  | stop {s s' : NG} {m : Bool} {t : Int} {d : ByteArray} {os : List Int} {ds : List ByteArray} (ht : t ≠ 1 ∨ m = true) (h : s.one t d m = some (s'.o [.b false])) : Hear s m (t :: os) (d :: ds) s' false
  | step {s s1 s' : NG} {m ok : Bool} {t : Int} {d : ByteArray} {os : List Int} {ds : List ByteArray} (ht : t ≠ 1 ∨ m = true) (h : s.one t d m = some (s1.o [.b true])) (h1 : Hear s1 false os ds s' ok) : Hear s m (t :: os) (d :: ds) s' ok
theorem getD_app {α : Type} (l r : List α) (x d : α) : (l ++ x :: r).getD l.length d = x := by
  rw [List.getD_eq_getElem?_getD, List.getElem?_append_right (Nat.le_refl _)]
  simp
theorem take_L {α : Type} (kx : Nat → List Leaf → Option α) (kr : List Leaf → Option α) : ∀ {s s' : NG} {m ok : Bool} {os : List Int} {ds : List ByteArray}, Hear s m os ds s' ok → ∀ (p0 : List Int) (p1 : List ByteArray) (n : Nat), p1.length = p0.length → os.length < n → p0.length + os.length ≤ 1000 →
    nego_Take_5_L kx kr n s.wk s.wv s.lk s.lv s.nk s.nv s.tk s.tv (p0 ++ os) (p1 ++ ds) s.d0 s.d1 s.sv (p0.length : Int) m (Int.ofNat (p0 ++ os).length) =
      bif ok then kx 0 [.li s'.wk, .ls s'.wv, .li s'.lk, .ls s'.lv, .li s'.nk, .ls s'.nv, .li s'.tk, .ls s'.tv, .li (p0 ++ os), .ls (p1 ++ ds), .li s'.d0, .ls s'.d1, .b s'.sv]
      else kr [.li s'.wk, .ls s'.wv, .li s'.lk, .ls s'.lv, .li s'.nk, .ls s'.nv, .li s'.tk, .ls s'.tv, .li (p0 ++ os), .ls (p1 ++ ds), .li s'.d0, .ls s'.d1, .b s'.sv, .b false] := by
  intro s s' m ok os ds h
  have e : ∀ l : List Int, Int.ofNat l.length = (l.length : Int) := fun _ => rfl
  induction h with
  | nil s m =>
    intro p0 p1 n hl hn hb
    obtain ⟨n, rfl⟩ : ∃ n', n = n' + 1 := ⟨n - 1, by omega⟩
    rw [nego_Take_5_L, nego_Take_5_B, cond_true]
    rw [br_neg (by rw [e, List.append_nil]; omega), chkLen]
  | @must s s' ok d os ds h ih =>
    intro p0 p1 n hl hn hb
    obtain ⟨n, rfl⟩ : ∃ n', n = n' + 1 := ⟨n - 1, by omega⟩
    simp only [List.length_cons] at hn hb
    have hlen : (p0 ++ 1 :: os).length = p0.length + (os.length + 1) := by rw [List.length_append, List.length_cons]
    have e1 : addI .i64 (p0.length : Int) 1 = (((p0 ++ [1]).length : Nat) : Int) := by rw [addI_i (by unfold I63; omega), List.length_append]; rfl
    have ih := ih (p0 ++ [1]) (p1 ++ [d]) n (by rw [List.length_append, List.length_append, hl]; rfl) (by omega) (by rw [List.length_append]; simp only [List.length_cons, List.length_nil]; omega)
    simp only [List.append_assoc, List.cons_append, List.nil_append] at ih
    rw [nego_Take_5_L, nego_Take_5_B]
    rw [br_pos (by rw [e, hlen]; omega), chk_pos (by rw [e, hlen]; omega), chk_pos (by rw [e, hlen]; omega), Int.toNat_natCast, getD_app, br_eq rfl, Bool.not_false, br_t, one_ev, e1, chkLen, chkLen1]
    exact ih
  | @stop s s' m t d os ds ht h =>
    intro p0 p1 n hl hn hb
    obtain ⟨n, rfl⟩ : ∃ n', n = n' + 1 := ⟨n - 1, by omega⟩
    have hlen : (p0 ++ t :: os).length = p0.length + (os.length + 1) := by rw [List.length_append, List.length_cons]
    rw [nego_Take_5_L, nego_Take_5_B]
    rw [br_pos (by rw [e, hlen]; omega), chk_pos (by rw [e, hlen]; omega), chk_pos (by rw [e, hlen]; omega), Int.toNat_natCast, getD_app]
    have g1 : (p1 ++ d :: ds).getD p0.length ByteArray.empty = d := by rw [← hl]; exact getD_app _ _ _ _
    rw [g1]
    unfold NG.one at h
    by_cases h1 : t = 1
    · have hm : m = true := ht.resolve_left (fun x => x h1)
      subst hm
      rw [br_eq h1, Bool.not_true, br_f, chkLen, h]
      simp only [NG.o, out_ev, un_li_ev, un_ls_ev, un_b_ev, un_nil_ev, Bool.not_false, br_t, decide_true, Bool.and_true, chk_t, cond_false]
    · rw [br_ne h1, chkLen, h]
      simp only [NG.o, out_ev, un_li_ev, un_ls_ev, un_b_ev, un_nil_ev, Bool.not_false, br_t, decide_true, Bool.and_true, chk_t, cond_false]
  | @step s s1 s' m ok t d os ds ht h h1' ih =>
    intro p0 p1 n hl hn hb
    obtain ⟨n, rfl⟩ : ∃ n', n = n' + 1 := ⟨n - 1, by omega⟩
    simp only [List.length_cons] at hn hb
    have hlen : (p0 ++ t :: os).length = p0.length + (os.length + 1) := by rw [List.length_append, List.length_cons]
    have e1 : addI .i64 (p0.length : Int) 1 = (((p0 ++ [t]).length : Nat) : Int) := by rw [addI_i (by unfold I63; omega), List.length_append]; rfl
    have ih := ih (p0 ++ [t]) (p1 ++ [d]) n (by rw [List.length_append, List.length_append, hl]; rfl) (by omega) (by rw [List.length_append]; simp only [List.length_cons, List.length_nil]; omega)
    simp only [List.append_assoc, List.cons_append, List.nil_append] at ih
    rw [nego_Take_5_L, nego_Take_5_B]
    rw [br_pos (by rw [e, hlen]; omega), chk_pos (by rw [e, hlen]; omega), chk_pos (by rw [e, hlen]; omega), Int.toNat_natCast, getD_app]
    have g1 : (p1 ++ d :: ds).getD p0.length ByteArray.empty = d := by rw [← hl]; exact getD_app _ _ _ _
    rw [g1]
    unfold NG.one at h
    by_cases h1 : t = 1
    · have hm : m = true := ht.resolve_left (fun x => x h1)
      subst hm
      rw [br_eq h1, Bool.not_true, br_f, chkLen, h]
      simp only [NG.o, out_ev, un_li_ev, un_ls_ev, un_b_ev, un_nil_ev, Bool.not_true, br_f, one_ev, e1, decide_true, Bool.and_true, chk_t]
      exact ih
    · rw [br_ne h1, chkLen, h]
      simp only [NG.o, out_ev, un_li_ev, un_ls_ev, un_b_ev, un_nil_ev, Bool.not_true, br_f, one_ev, e1, decide_true, Bool.and_true, chk_t]
      exact ih
theorem take_t {s s' : NG} {ok : Bool} {os : List Int} {ds : List ByteArray} (h : Hear s false os ds s' ok) (hb : os.length ≤ 1000) : s.take os ds = some (s'.o [.b ok]) := by
  unfold NG.take nego_Take nego_Take_d
  rw [one_ev, chkLen, chkLen1]
  have q := fun kx kr => take_L (α := List Leaf) kx kr h [] [] top rfl (by unfold top; omega) (by simp only [List.length_nil]; omega)
  simp only [List.nil_append, List.length_nil] at q
  rw [show ((0 : Nat) : Int) = 0 from rfl] at q
  rw [q]
  cases ok
  · simp only [cond_false, un_li_ev, un_ls_ev, un_b_ev, un_nil_ev, decide_true, Bool.and_true, chk_t, NG.o]
  · simp only [cond_true, show Nat.beq 0 0 = true from rfl, br_t, un_li_ev, un_ls_ev, un_b_ev, un_nil_ev, decide_true, Bool.and_true, chk_t, NG.o]
end Go.Sx.T

