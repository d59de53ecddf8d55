import Derived.Test.YtdjnfdcoilgegaaGreatDoorPlR1
import Derived.Test.YtdjnfdcoilgegaaGreatDoorPlNB
import Derived.Test.YtdjnfdcoilgegaaGreatDoorYNTSpec
set_option linter.all false
namespace Go.Sx.T
open Go Go.Sx
/-- One of the two: what it wants and likes, what comes of it, what it answers; whether it still wants, has agreed, has an answer due. -/
def P (sv : Bool) (W L mr tr an : ByteArray) (w t d : Bool) : NG :=
  { wk := bif w then [1] else [], wv := bif w then [W] else [], lk := [1, 6, 8], lv := [L, strOfI [0, 1], strOfI [0, 1, 2, 3, 4, 5, 6, 7, 8, 9, 10, 11, 12, 13, 14, 15]], nk := [1, 3, 6, 8], nv := [bif w then strOfI [2] else mr, strOfI [0, 0, 0, 0, 0, 100], strOfI [0], strOfI [0]], tk := [1, 3, 6, 8], tv := [bif t then tr else strOfI [2], strOfI [0, 0, 0, 0, 0, 100], strOfI [0], strOfI [0]], d0 := bif d then [35] else [], d1 := bif d then [strOfI [1] ++ an] else [], sv := sv }
def hd0 (sv : Bool) (A B : ByteArray) : ByteArray := bif sv then B else A
def hd2 (sv : Bool) (A B : ByteArray) : ByteArray := bif sv then A else B
/-- What comes of one's wish: what is agreed on, what is answered. -/
structure Ch (sv : Bool) (A B res ans : ByteArray) : Prop where
  chg : ∀ (W mr : ByteArray) (w t : Bool), (P sv W B mr res ans w t false).chg 1 A false = some ((P sv W B mr res ans w true true).o [.b true])
  conf : ∀ (sv' : Bool) (L tr an : ByteArray) (t d : Bool), (P sv' A L res tr an true t d).conf 1 ans = some ((P sv' A L res tr an false t d).o [.b true])
  ref : ∃ o ok, r18_Choose 1 (hd0 sv A B) (hd2 sv A B) = some [.s o, .b ok] ∧ res = bif ok then o else strOfI [2]
theorem four_size {v : ByteArray} (h : Four v) : v.size ≤ 2 := by rcases h with rfl | rfl | rfl | rfl <;> decide
/-- .. if something is chosen. -/
theorem ch_some {sv : Bool} {A B o : ByteArray} (hA : A.size ≤ 100) (hB : B.size ≤ 100) (h1 : o.size = 1) (hc : feat_Choose 1 (hd0 sv A B) (hd2 sv A B) = some [.s o, .b true]) (hr : r18_Choose 1 (hd0 sv A B) (hd2 sv A B) = some [.s o, .b true])
    (hh : A.data.toList.contains (o.data.toList.getD 0 0) = true) : Ch sv A B o (o ++ B) := by
  refine ⟨fun W mr w t => ?_, fun sv' L tr an t d => ?_, o, true, hr, rfl⟩
  · have := chg_list (s := P sv W B mr o (o ++ B) w t false) (f := 1) (v := A) (val := o) (m := false) (.inl rfl) (Nat.zero_le _) (by omega) (by omega) hB hc
    rw [this]; rfl
  · have := conf_list (s := P sv' A L o tr an true t d) (f := 1) (v := o ++ B) (.inl rfl) (by rw [ByteArray.size_append]; omega) rfl (by
      show A.data.toList.contains ((o ++ B).data.toList.getD 0 0) = true
      have : (o ++ B).data.toList.getD 0 0 = o.data.toList.getD 0 0 := by
        rw [ByteArray.data_append, Array.toList_append]
        have hl : o.data.toList.length = 1 := by rw [size_l]; exact h1
        rw [List.getD_eq_getElem?_getD, List.getD_eq_getElem?_getD, List.getElem?_append_left (by omega)]
      rw [this]; exact hh)
    have e : hd1 (o ++ B) = o := by
      show (o ++ B).extract (0 : Int).toNat (1 : Int).toNat = o
      have := ByteArray.extract_append_eq_left (a := o) (b := B) (i := o.size) rfl
      rw [h1] at this
      exact this
    rw [this, e]; rfl
/-- .. if nothing is. -/
theorem ch_none {sv : Bool} {A B : ByteArray} (hc : feat_Choose 1 (hd0 sv A B) (hd2 sv A B) = some [.s ({ data := #[] } : ByteArray), .b false]) (hr : r18_Choose 1 (hd0 sv A B) (hd2 sv A B) = some [.s ({ data := #[] } : ByteArray), .b false]) :
    Ch sv A B (strOfI [2]) ByteArray.empty := by
  refine ⟨fun W mr w t => ?_, fun sv' L tr an t d => ?_, _, false, hr, rfl⟩
  · have := chg_none (s := P sv W B mr (strOfI [2]) ByteArray.empty w t false) (f := 1) (v := A) (.inl rfl) (Nat.zero_le _) (by
      cases sv
      · rw [if_neg (by simp [P]), if_neg (by simp [P])]; exact hc
      · rw [if_pos (.inl rfl), if_pos (.inl rfl)]; exact hc)
    rw [this]
    cases t <;> rfl
  · have := conf_empty (s := P sv' A L (strOfI [2]) tr an true t d) (f := 1) rfl
    exact this
theorem ch_of {sv : Bool} {A B : ByteArray} (hA : Four A) (hB : Four B) : ∃ res ans, Ch sv A B res ans := by
  cases sv
  · rcases hA with rfl | rfl | rfl | rfl <;> rcases hB with rfl | rfl | rfl | rfl
    · exact ⟨_, _, ch_some (o := strOfI [2]) (by decide) (by decide) (by kernel_rfl) (by kernel_rfl) (by kernel_rfl) (by kernel_rfl)⟩
    · exact ⟨_, _, ch_none (by kernel_rfl) (by kernel_rfl)⟩
    · exact ⟨_, _, ch_some (o := strOfI [2]) (by decide) (by decide) (by kernel_rfl) (by kernel_rfl) (by kernel_rfl) (by kernel_rfl)⟩
    · exact ⟨_, _, ch_some (o := strOfI [2]) (by decide) (by decide) (by kernel_rfl) (by kernel_rfl) (by kernel_rfl) (by kernel_rfl)⟩
    · exact ⟨_, _, ch_none (by kernel_rfl) (by kernel_rfl)⟩
    · exact ⟨_, _, ch_some (o := strOfI [3]) (by decide) (by decide) (by kernel_rfl) (by kernel_rfl) (by kernel_rfl) (by kernel_rfl)⟩
    · exact ⟨_, _, ch_some (o := strOfI [3]) (by decide) (by decide) (by kernel_rfl) (by kernel_rfl) (by kernel_rfl) (by kernel_rfl)⟩
    · exact ⟨_, _, ch_some (o := strOfI [3]) (by decide) (by decide) (by kernel_rfl) (by kernel_rfl) (by kernel_rfl) (by kernel_rfl)⟩
    · exact ⟨_, _, ch_some (o := strOfI [2]) (by decide) (by decide) (by kernel_rfl) (by kernel_rfl) (by kernel_rfl) (by kernel_rfl)⟩
    · exact ⟨_, _, ch_some (o := strOfI [3]) (by decide) (by decide) (by kernel_rfl) (by kernel_rfl) (by kernel_rfl) (by kernel_rfl)⟩
    · exact ⟨_, _, ch_some (o := strOfI [2]) (by decide) (by decide) (by kernel_rfl) (by kernel_rfl) (by kernel_rfl) (by kernel_rfl)⟩
    · exact ⟨_, _, ch_some (o := strOfI [2]) (by decide) (by decide) (by kernel_rfl) (by kernel_rfl) (by kernel_rfl) (by kernel_rfl)⟩
    · exact ⟨_, _, ch_some (o := strOfI [2]) (by decide) (by decide) (by kernel_rfl) (by kernel_rfl) (by kernel_rfl) (by kernel_rfl)⟩
    · exact ⟨_, _, ch_some (o := strOfI [3]) (by decide) (by decide) (by kernel_rfl) (by kernel_rfl) (by kernel_rfl) (by kernel_rfl)⟩
    · exact ⟨_, _, ch_some (o := strOfI [3]) (by decide) (by decide) (by kernel_rfl) (by kernel_rfl) (by kernel_rfl) (by kernel_rfl)⟩
    · exact ⟨_, _, ch_some (o := strOfI [3]) (by decide) (by decide) (by kernel_rfl) (by kernel_rfl) (by kernel_rfl) (by kernel_rfl)⟩
  · rcases hB with rfl | rfl | rfl | rfl <;> rcases hA with rfl | rfl | rfl | rfl
    · exact ⟨_, _, ch_some (o := strOfI [2]) (by decide) (by decide) (by kernel_rfl) (by kernel_rfl) (by kernel_rfl) (by kernel_rfl)⟩
    · exact ⟨_, _, ch_none (by kernel_rfl) (by kernel_rfl)⟩
    · exact ⟨_, _, ch_some (o := strOfI [2]) (by decide) (by decide) (by kernel_rfl) (by kernel_rfl) (by kernel_rfl) (by kernel_rfl)⟩
    · exact ⟨_, _, ch_some (o := strOfI [2]) (by decide) (by decide) (by kernel_rfl) (by kernel_rfl) (by kernel_rfl) (by kernel_rfl)⟩
    · exact ⟨_, _, ch_none (by kernel_rfl) (by kernel_rfl)⟩
    · exact ⟨_, _, ch_some (o := strOfI [3]) (by decide) (by decide) (by kernel_rfl) (by kernel_rfl) (by kernel_rfl) (by kernel_rfl)⟩
    · exact ⟨_, _, ch_some (o := strOfI [3]) (by decide) (by decide) (by kernel_rfl) (by kernel_rfl) (by kernel_rfl) (by kernel_rfl)⟩
    · exact ⟨_, _, ch_some (o := strOfI [3]) (by decide) (by decide) (by kernel_rfl) (by kernel_rfl) (by kernel_rfl) (by kernel_rfl)⟩
    · exact ⟨_, _, ch_some (o := strOfI [2]) (by decide) (by decide) (by kernel_rfl) (by kernel_rfl) (by kernel_rfl) (by kernel_rfl)⟩
    · exact ⟨_, _, ch_some (o := strOfI [3]) (by decide) (by decide) (by kernel_rfl) (by kernel_rfl) (by kernel_rfl) (by kernel_rfl)⟩
    · exact ⟨_, _, ch_some (o := strOfI [2]) (by decide) (by decide) (by kernel_rfl) (by kernel_rfl) (by kernel_rfl) (by kernel_rfl)⟩
    · exact ⟨_, _, ch_some (o := strOfI [2]) (by decide) (by decide) (by kernel_rfl) (by kernel_rfl) (by kernel_rfl) (by kernel_rfl)⟩
    · exact ⟨_, _, ch_some (o := strOfI [2]) (by decide) (by decide) (by kernel_rfl) (by kernel_rfl) (by kernel_rfl) (by kernel_rfl)⟩
    · exact ⟨_, _, ch_some (o := strOfI [3]) (by decide) (by decide) (by kernel_rfl) (by kernel_rfl) (by kernel_rfl) (by kernel_rfl)⟩
    · exact ⟨_, _, ch_some (o := strOfI [3]) (by decide) (by decide) (by kernel_rfl) (by kernel_rfl) (by kernel_rfl) (by kernel_rfl)⟩
    · exact ⟨_, _, ch_some (o := strOfI [3]) (by decide) (by decide) (by kernel_rfl) (by kernel_rfl) (by kernel_rfl) (by kernel_rfl)⟩
/-! ### A turn of each -/
def r0 (d w : Bool) : List Int := (bif d then [35] else []) ++ (bif w then [32] else [])
def r1 (d w : Bool) (an W : ByteArray) : List ByteArray := (bif d then [strOfI [1] ++ an] else []) ++ (bif w then [strOfI [1] ++ W] else [])
theorem optsP {sv : Bool} {W L mr tr an : ByteArray} {w t d : Bool} (hW : W.size ≤ 100) {q : NG} (hq : q = P sv W L mr tr an w t false) :
    (P sv W L mr tr an w t d).opts = some [.li q.wk, .ls q.wv, .li q.lk, .ls q.lv, .li q.nk, .ls q.nv, .li q.tk, .ls q.tv, .li q.d0, .ls q.d1, .li (r0 d w), .ls (r1 d w an W), .b q.sv] := by
  have hv : ∀ f ∈ fts, (mget ByteArray.empty (P sv W L mr tr an w t d).wk (P sv W L mr tr an w t d).wv f).size ≤ 1000 := by
    intro f _
    cases w
    · exact Nat.zero_le _
    · show (mget ByteArray.empty [1] [W] f).size ≤ 1000
      simp only [mget]
      cases ((1 : Int) == f)
      · exact Nat.zero_le _
      · exact Nat.le_trans hW (by decide)
  rw [opts_t (s := P sv W L mr tr an w t d) hv (by cases d <;> exact Nat.le_of_ble_eq_true rfl), hq]
  cases w <;> cases d <;> rfl
theorem takeP {sv : Bool} {W L mr tr an ao O : ByteArray} {w t d' w' : Bool} (hc : ∀ (t d : Bool), (P sv W L mr tr an true t d).conf 1 ao = some ((P sv W L mr tr an false t d).o [.b true]))
    (hg : ∀ (w t : Bool), (P sv W L mr tr an w t false).chg 1 O false = some ((P sv W L mr tr an w true true).o [.b true])) :
    (P sv W L mr tr an w t false).take (r0 d' w') (r1 d' w' ao O) = some ((P sv W L mr tr an (w && !d') (t || w') w').o [.b true]) := by
  have k1 : Kn 1 := .inl rfl
  have cf : (P sv W L mr tr an w t false).one 35 (strOfI [1] ++ ao) false = some ((P sv W L mr tr an false t false).o [.b true]) := by
    cases w
    · exact one_conf k1 (conf_none rfl)
    · exact one_conf k1 (hc t false)
  cases d' <;> cases w'
  · rw [Bool.not_false, Bool.and_true, Bool.or_false]
    exact take_t (Hear.nil _ _) (Nat.le_of_ble_eq_true rfl)
  · rw [Bool.not_false, Bool.and_true, Bool.or_true]
    exact take_t (Hear.step (.inl (by decide)) (one_chg k1 (hg w t)) (Hear.nil _ _)) (Nat.le_of_ble_eq_true rfl)
  · rw [Bool.not_true, Bool.and_false, Bool.or_false]
    exact take_t (Hear.step (.inl (by decide)) cf (Hear.nil _ _)) (Nat.le_of_ble_eq_true rfl)
  · rw [Bool.not_true, Bool.and_false, Bool.or_true]
    exact take_t (Hear.step (.inl (by decide)) cf (Hear.step (.inl (by decide)) (one_chg k1 (hg false t)) (Hear.nil _ _))) (Nat.le_of_ble_eq_true rfl)
/-! ### What is lost -/
def lostB (lost : List Bool) (i j : Int) : Bool := decide (i < 20) && (decide (j < (lost.length : Int)) && List.getD lost j.toNat false)
theorem getf {lost : List Bool} {j : Int} {α : Type} (A B : Option α) : br (List.getD lost j.toNat false == false) A B = bif List.getD lost j.toNat false then B else A := by
  cases List.getD lost j.toNat false <;> rfl
theorem lost1 {lost : List Bool} {i : Int} (h0 : 0 ≤ i) {α : Type} (A B : Option α) :
    br (decide (i < 20)) (one (mulI .i64 2 i) fun x => one (Int.ofNat (List.length lost)) fun l => br (decide (x < l)) (one (mulI .i64 2 i) fun z => chk (decide ((0 : Int) ≤ z ∧ z < Int.ofNat (List.length lost))) <| chk (decide ((0 : Int) ≤ z ∧ z < Int.ofNat (List.length lost))) <| br (List.getD lost (Int.toNat z) false == false) A B) A) A =
      bif lostB lost i (2 * i) then B else A := by
  unfold lostB
  by_cases h : i < 20
  · have e : mulI .i64 2 i = 2 * i := mulI_i (by unfold I63; omega)
    rw [br_pos h, decide_eq_true h, Bool.true_and, one_ev, one_ev, e]
    by_cases hl : 2 * i < (lost.length : Int)
    · rw [decide_eq_true hl, Bool.true_and, br_pos (show 2 * i < Int.ofNat lost.length from hl), one_ev, chk_pos (⟨by omega, hl⟩ : (0 : Int) ≤ 2 * i ∧ 2 * i < Int.ofNat lost.length), chk_pos (⟨by omega, hl⟩ : (0 : Int) ≤ 2 * i ∧ 2 * i < Int.ofNat lost.length), getf]
    · rw [decide_eq_false hl, Bool.false_and, cond_false, br_neg (show ¬ 2 * i < Int.ofNat lost.length from hl)]
  · rw [br_neg h, decide_eq_false h, Bool.false_and, cond_false]
theorem lost2 {lost : List Bool} {i : Int} (h0 : 0 ≤ i) {α : Type} (A B : Option α) :
    br (decide (i < 20)) (one (mulI .i64 2 i) fun y => one (addI .i64 y 1) fun x => one (Int.ofNat (List.length lost)) fun l => br (decide (x < l)) (one (mulI .i64 2 i) fun y => one (addI .i64 y 1) fun z => chk (decide ((0 : Int) ≤ z ∧ z < Int.ofNat (List.length lost))) <| chk (decide ((0 : Int) ≤ z ∧ z < Int.ofNat (List.length lost))) <| br (List.getD lost (Int.toNat z) false == false) A B) A) A =
      bif lostB lost i (2 * i + 1) then B else A := by
  unfold lostB
  by_cases h : i < 20
  · have e : mulI .i64 2 i = 2 * i := mulI_i (by unfold I63; omega)
    have e2 : addI .i64 (2 * i) 1 = 2 * i + 1 := addI_i (by unfold I63; omega)
    rw [br_pos h, decide_eq_true h, Bool.true_and, one_ev, one_ev, one_ev, e, e2]
    by_cases hl : 2 * i + 1 < (lost.length : Int)
    · rw [decide_eq_true hl, Bool.true_and, br_pos (show 2 * i + 1 < Int.ofNat lost.length from hl), one_ev, one_ev, e2, chk_pos (⟨by omega, hl⟩ : (0 : Int) ≤ 2 * i + 1 ∧ 2 * i + 1 < Int.ofNat lost.length), chk_pos (⟨by omega, hl⟩ : (0 : Int) ≤ 2 * i + 1 ∧ 2 * i + 1 < Int.ofNat lost.length), getf]
    · rw [decide_eq_false hl, Bool.false_and, cond_false, br_neg (show ¬ 2 * i + 1 < Int.ofNat lost.length from hl)]
  · rw [br_neg h, decide_eq_false h, Bool.false_and, cond_false]
theorem not_lost {lost : List Bool} {i j : Int} (h : 20 ≤ i) : lostB lost i j = false := by
  unfold lostB; rw [decide_eq_false (by omega), Bool.false_and]
/-- What is so ahead of a round. -/
def Inv (i : Int) (wx tx dx wy ty : Bool) : Prop := (wx = false → ty = true) ∧ (wy = false → tx = true) ∧ (dx = true → tx = true) ∧ (21 ≤ i → wx = false ∧ (wy = true → dx = true)) ∧ (22 ≤ i → wy = false)
theorem inv_step {i : Int} {wx tx dx wy ty lp lq : Bool} (h : Inv i wx tx dx wy ty) (h0 : 0 ≤ i) (hp : 20 ≤ i → lp = false) (hq : 20 ≤ i → lq = false)
    {wy1 ty1 dy1 wx1 tx1 dx1 : Bool} (e1 : wy1 = bif lp then wy else wy && !dx) (e2 : ty1 = bif lp then ty else ty || wx) (e3 : dy1 = bif lp then false else wx)
    (e4 : wx1 = bif lq then wx else wx && !dy1) (e5 : tx1 = bif lq then tx else tx || wy1) (e6 : dx1 = bif lq then false else wy1) : Inv (i + 1) wx1 tx1 dx1 wy1 ty1 := by
  obtain ⟨a1, a2, a3, a4, a5⟩ := h
  subst e1 e2 e3 e4 e5 e6
  have g1 : (bif lq then wx else wx && !(bif lp then false else wx)) = false → (bif lp then ty else ty || wx) = true := by
    clear a2 a3 a4 a5 hp hq h0
    revert a1
    cases lp <;> cases lq <;> cases wx <;> cases ty <;> decide
  have g2 : (bif lp then wy else wy && !dx) = false → (bif lq then tx else tx || (bif lp then wy else wy && !dx)) = true := by
    clear a1 a4 a5 hp hq h0 g1
    revert a2 a3
    cases lp <;> cases lq <;> cases wy <;> cases dx <;> cases tx <;> decide
  have g3 : (bif lq then false else (bif lp then wy else wy && !dx)) = true → (bif lq then tx else tx || (bif lp then wy else wy && !dx)) = true := by
    clear a1 a2 a3 a4 a5 hp hq h0 g1 g2
    cases lp <;> cases lq <;> cases wy <;> cases dx <;> cases tx <;> decide
  refine ⟨g1, g2, g3, fun h21 => ?_, fun h22 => ?_⟩
  · have p0 := hp (by omega); have q0 := hq (by omega)
    subst p0 q0
    cases wx <;> cases wy <;> cases dx <;> decide
  · have p0 := hp (by omega); have q0 := hq (by omega)
    subst p0 q0
    obtain ⟨b1, b2⟩ := a4 (by omega)
    clear a1 a2 a3 a4 a5 hp hq h0 g1 g2 g3
    revert b2
    cases wy <;> cases dx <;> decide
/-- All rounds. -/
theorem two_L {a b c d one two ax ay : ByteArray} {lost : List Bool} (ha : a.size ≤ 100) (hc : c.size ≤ 100) (A : Ch true a b one ay) (C : Ch false c d two ax) :
    ∀ (m n : Nat) (i : Int) (wx tx dx wy ty : Bool), 0 ≤ i → i + m = 60 → m < n → Inv i wx tx dx wy ty → ∃ tx' dx' ty', tx' = true ∧ ty' = true ∧ ∀ {α : Type} (kx : Nat → List Leaf → Option α) (kr : List Leaf → Option α),
    NegoTwo_10_L kx kr n lost (P false a d one two ax wx tx dx).wk (P false a d one two ax wx tx dx).wv (P false a d one two ax wx tx dx).lk (P false a d one two ax wx tx dx).lv (P false a d one two ax wx tx dx).nk (P false a d one two ax wx tx dx).nv (P false a d one two ax wx tx dx).tk (P false a d one two ax wx tx dx).tv (P false a d one two ax wx tx dx).d0 (P false a d one two ax wx tx dx).d1
      (P true c b two one ay wy ty false).wk (P true c b two one ay wy ty false).wv (P true c b two one ay wy ty false).lk (P true c b two one ay wy ty false).lv (P true c b two one ay wy ty false).nk (P true c b two one ay wy ty false).nv (P true c b two one ay wy ty false).tk (P true c b two one ay wy ty false).tv (P true c b two one ay wy ty false).d0 (P true c b two one ay wy ty false).d1 (P false a d one two ax wx tx dx).sv (P true c b two one ay wy ty false).sv i d c a b =
      kx 0 [.lb lost, .li (P false a d one two ax false tx' dx').wk, .ls (P false a d one two ax false tx' dx').wv, .li (P false a d one two ax false tx' dx').lk, .ls (P false a d one two ax false tx' dx').lv, .li (P false a d one two ax false tx' dx').nk, .ls (P false a d one two ax false tx' dx').nv, .li (P false a d one two ax false tx' dx').tk, .ls (P false a d one two ax false tx' dx').tv, .li (P false a d one two ax false tx' dx').d0, .ls (P false a d one two ax false tx' dx').d1,
        .li (P true c b two one ay false ty' false).wk, .ls (P true c b two one ay false ty' false).wv, .li (P true c b two one ay false ty' false).lk, .ls (P true c b two one ay false ty' false).lv, .li (P true c b two one ay false ty' false).nk, .ls (P true c b two one ay false ty' false).nv, .li (P true c b two one ay false ty' false).tk, .ls (P true c b two one ay false ty' false).tv, .li (P true c b two one ay false ty' false).d0, .ls (P true c b two one ay false ty' false).d1, .b (P false a d one two ax false tx' dx').sv, .b (P true c b two one ay false ty' false).sv, .s d, .s c, .s a, .s b]
  | 0, n, i, wx, tx, dx, wy, ty, h0, h1, hn, hI => by
    obtain ⟨n, rfl⟩ : ∃ n', n = n' + 1 := ⟨n - 1, by omega⟩
    obtain ⟨a1, a2, a3, a4, a5⟩ := hI
    obtain rfl := (a4 (by omega)).1
    obtain rfl := a5 (by omega)
    refine ⟨tx, dx, ty, a2 rfl, a1 rfl, fun kx kr => ?_⟩
    rw [NegoTwo_10_L, NegoTwo_10_B, br_neg (by omega)]
    simp only [decide_true, Bool.and_true, chk_t]
  | m + 1, n, i, wx, tx, dx, wy, ty, h0, h1, hn, hI => by
    obtain ⟨n, rfl⟩ : ∃ n', n = n' + 1 := ⟨n - 1, by omega⟩
    have e1 : addI .i64 i 1 = i + 1 := addI_i (by unfold I63; omega)
    obtain ⟨lp, hlp⟩ : ∃ lp, lp = lostB lost i (2 * i) := ⟨_, rfl⟩
    obtain ⟨lq, hlq⟩ : ∃ lq, lq = lostB lost i (2 * i + 1) := ⟨_, rfl⟩
    obtain ⟨wy1, hwy1⟩ : ∃ x, x = bif lp then wy else wy && !dx := ⟨_, rfl⟩
    obtain ⟨ty1, hty1⟩ : ∃ x, x = bif lp then ty else ty || wx := ⟨_, rfl⟩
    obtain ⟨dy1, hdy1⟩ : ∃ x, x = bif lp then false else wx := ⟨_, rfl⟩
    obtain ⟨wx1, hwx1⟩ : ∃ x, x = bif lq then wx else wx && !dy1 := ⟨_, rfl⟩
    obtain ⟨tx1, htx1⟩ : ∃ x, x = bif lq then tx else tx || wy1 := ⟨_, rfl⟩
    obtain ⟨dx1, hdx1⟩ : ∃ x, x = bif lq then false else wy1 := ⟨_, rfl⟩
    have hI1 := inv_step hI h0 (fun h => by rw [hlp]; exact not_lost h) (fun h => by rw [hlq]; exact not_lost h) hwy1 hty1 hdy1 hwx1 htx1 hdx1
    obtain ⟨tx', dx', ty', g1, g2, ih⟩ := two_L (lost := lost) ha hc A C m n (i + 1) wx1 tx1 dx1 wy1 ty1 (by omega) (by omega) (by omega) hI1
    refine ⟨tx', dx', ty', g1, g2, fun kx kr => ?_⟩
    rw [← ih kx kr]
    have ox := optsP (sv := false) (W := a) (L := d) (mr := one) (tr := two) (an := ax) (w := wx) (t := tx) (d := dx) ha rfl
    have ty_ := takeP (sv := true) (W := c) (L := b) (mr := two) (tr := one) (an := ay) (ao := ax) (O := a) (w := wy) (t := ty) (d' := dx) (w' := wx) (C.conf true b one ay) (A.chg c two)
    have oy := optsP (sv := true) (W := c) (L := b) (mr := two) (tr := one) (an := ay) (w := wy1) (t := ty1) (d := dy1) hc rfl
    have tx_ := takeP (sv := false) (W := a) (L := d) (mr := one) (tr := two) (an := ax) (ao := ay) (O := c) (w := wx) (t := tx) (d' := dy1) (w' := wy1) (A.conf false d two ax) (C.chg a one)
    unfold NG.opts at ox oy
    unfold NG.take at ty_ tx_
    rw [NegoTwo_10_L, NegoTwo_10_B, br_pos (by omega), chkLen, ox]
    simp only [out_ev, un_li_ev, un_ls_ev, un_b_ev, un_nil_ev]
    rw [lost1 h0, ← hlp]
    cases lp
    · simp only [cond_false] at hwy1 hty1 hdy1
      subst hwy1 hty1 hdy1
      rw [cond_false]
      simp only [decide_true, Bool.and_true, chk_t, ty_, NG.o, out_ev, un_li_ev, un_ls_ev, un_b_ev, un_nil_ev, Bool.not_true, br_f]
      rw [oy]
      simp only [out_ev, un_li_ev, un_ls_ev, un_b_ev, un_nil_ev]
      rw [lost2 h0, ← hlq]
      cases lq
      · simp only [cond_false] at hwx1 htx1 hdx1
        subst hwx1 htx1 hdx1
        simp only [cond_false, decide_true, Bool.and_true, chk_t, tx_, NG.o, out_ev, un_li_ev, un_ls_ev, un_b_ev, un_nil_ev, Bool.not_true, br_f, one_ev, e1]
      · simp only [cond_true] at hwx1 htx1 hdx1
        subst hwx1 htx1 hdx1
        simp only [cond_true, decide_true, Bool.and_true, chk_t, one_ev, e1]
    · simp only [cond_true] at hwy1 hty1 hdy1
      subst hwy1 hty1 hdy1
      rw [cond_true]
      simp only [decide_true, Bool.and_true, chk_t, NG.o, out_ev, un_li_ev, un_ls_ev, un_b_ev, un_nil_ev, Bool.not_true, br_f]
      rw [oy]
      simp only [out_ev, un_li_ev, un_ls_ev, un_b_ev, un_nil_ev]
      rw [lost2 h0, ← hlq]
      cases lq
      · simp only [cond_false] at hwx1 htx1 hdx1
        subst hwx1 htx1 hdx1
        simp only [cond_false, decide_true, Bool.and_true, chk_t, tx_, NG.o, out_ev, un_li_ev, un_ls_ev, un_b_ev, un_nil_ev, Bool.not_true, br_f, one_ev, e1]
      · simp only [cond_true] at hwx1 htx1 hdx1
        subst hwx1 htx1 hdx1
        simp only [cond_true, decide_true, Bool.and_true, chk_t, one_ev, e1]
theorem may4 {v : ByteArray} (h : Four v) : mayB 1 v = true := by rcases h with rfl | rfl | rfl | rfl <;> kernel_rfl
theorem may_e : mayB 1 ({ data := #[] } : ByteArray) = false := by kernel_rfl
theorem th_P (sv : Bool) (W L mr tr an : ByteArray) (w d : Bool) : mget ByteArray.empty (P sv W L mr tr an w true d).tk (P sv W L mr tr an w true d).tv 1 = tr := rfl
theorem mi_P (sv : Bool) (W L mr tr an : ByteArray) (t d : Bool) : mget ByteArray.empty (P sv W L mr tr an false t d).nk (P sv W L mr tr an false t d).nv 1 = mr := rfl
set_option maxRecDepth 100000 in
theorem NegoTwo_true (lost : List Bool) (a b c d : ByteArray) : NegoTwo lost a b c d = some [.b true] := by
  have bad : nego_Want (ng0 false).wk (ng0 false).wv (ng0 false).lk (ng0 false).lv (ng0 false).nk (ng0 false).nv (ng0 false).tk (ng0 false).tv (ng0 false).d0 (ng0 false).d1 (ng0 false).sv 1 ({ data := #[] } : ByteArray) = some ((ng0 false).o [.i 3]) := by
    have := ask_no (s := ng0 false) (f := 1) (v := ({ data := #[] } : ByteArray)) (.inl rfl) (by decide) may_e
    unfold NG.ask at this
    exact this
  unfold NegoTwo NegoTwo_d
  rcases r18_four a with ha | ⟨ha, ra⟩
  · simp only [new_ng, NG.o, ha, out_ev, un_li_ev, un_ls_ev, un_b_ev, un_i_ev, un_nil_ev, Bool.not_false, br_t, decide_true, Bool.and_true, chk_t, bad]
    rfl
  rcases r18_four b with hb | ⟨hb, rb⟩
  · simp only [new_ng, NG.o, ra, hb, out_ev, un_li_ev, un_ls_ev, un_b_ev, un_i_ev, un_nil_ev, Bool.not_false, br_t, Bool.not_true, br_f, decide_true, Bool.and_true, chk_t, bad]
    rfl
  rcases r18_four c with hc | ⟨hc, rc⟩
  · simp only [new_ng, NG.o, ra, rb, hc, out_ev, un_li_ev, un_ls_ev, un_b_ev, un_i_ev, un_nil_ev, Bool.not_false, br_t, Bool.not_true, br_f, decide_true, Bool.and_true, chk_t, bad]
    rfl
  rcases r18_four d with hd | ⟨hd, rd⟩
  · simp only [new_ng, NG.o, ra, rb, rc, hd, out_ev, un_li_ev, un_ls_ev, un_b_ev, un_i_ev, un_nil_ev, Bool.not_false, br_t, Bool.not_true, br_f, decide_true, Bool.and_true, chk_t, bad]
    rfl
  obtain ⟨one, ay, A⟩ := ch_of (sv := true) ha hb
  obtain ⟨two, ax, C⟩ := ch_of (sv := false) hc hd
  have sa := four_size ha; have sb := four_size hb; have sc := four_size hc; have sd := four_size hd
  have k1 : Kn 1 := .inl rfl
  obtain ⟨x1, hx1⟩ : ∃ x1 : NG, x1 = { ng0 false with wk := mputK (ng0 false).wk 1, wv := mputV (ng0 false).wk (ng0 false).wv 1 a } := ⟨_, rfl⟩
  obtain ⟨y1, hy1⟩ : ∃ y1 : NG, y1 = { ng0 true with lk := mputK (ng0 true).lk 1, lv := mputV (ng0 true).lk (ng0 true).lv 1 b } := ⟨_, rfl⟩
  have q1 : (ng0 false).ask 1 a = some (x1.o [.i 0]) := by rw [hx1]; exact ask_ok k1 (by omega) (may4 ha)
  have q2 : (ng0 true).likes 1 b = some (y1.o [.i 0]) := by rw [hy1]; exact like_ok k1 (by omega) (may4 hb)
  have q3 : y1.ask 1 c = some ((P true c b two one ay true false false).o [.i 0]) := by rw [ask_ok k1 (by omega) (may4 hc), hy1]; rfl
  have q4 : x1.likes 1 d = some ((P false a d one two ax true false false).o [.i 0]) := by rw [like_ok k1 (by omega) (may4 hd), hx1]; rfl
  unfold NG.ask at q1 q3
  unfold NG.likes at q2 q4
  obtain ⟨tx', dx', ty', rfl, rfl, ih⟩ := two_L (lost := lost) (show a.size ≤ 100 by omega) (show c.size ≤ 100 by omega) A C 60 top 0 true false false true false (by omega) (by omega) (by unfold top; omega) ⟨fun h => (by cases h), fun h => (by cases h), fun h => (by cases h), fun h => (by omega), fun h => (by omega)⟩
  simp only [new_ng, NG.o, ra, rb, rc, rd, out_ev, un_li_ev, un_ls_ev, un_b_ev, un_i_ev, un_nil_ev, Bool.not_true, br_f, decide_true, Bool.and_true, chk_t, q1, q2, q3, q4]
  rw [show ((0 : Int) != 0) = false from rfl]
  simp only [br_f, out_ev, un_li_ev, un_ls_ev, un_b_ev, un_i_ev, un_nil_ev, decide_true, Bool.and_true, chk_t, q1, q2, q3, q4]
  rw [ih]
  obtain ⟨o1, k1', e1, f1⟩ := A.ref
  obtain ⟨o2, k2', e2, f2⟩ := C.ref
  have e1' : r18_Choose 1 b a = some [.s o1, .b k1'] := e1
  have e2' : r18_Choose 1 c d = some [.s o2, .b k2'] := e2
  have z2 : ({ data := #[(2 : UInt8)] } : ByteArray) = strOfI [2] := rfl
  simp only [show Nat.beq 0 0 = true from rfl, br_t, un_li_ev, un_ls_ev, un_lb_ev, un_b_ev, un_s_ev, un_nil_ev, e1', e2', out_ev, decide_true, Bool.and_true, chk_t, nego_Done, nego_Mine, nego_Theirs, Sx.one_ev, th_P, mi_P]
  have hw : ((((P false a d one two ax false true dx').wk.length : Nat) : Int) == 0) = true := rfl
  have hw2 : ((((P true c b two one ay false true false).wk.length : Nat) : Int) == 0) = true := rfl
  rw [hw, hw2, z2]
  cases k1' <;> cases k2' <;> simp only [cond_true, cond_false] at f1 f2 <;> subst f1 f2 <;> simp only [Bool.not_true, Bool.not_false, br_t, br_f, beq_b]
end Go.Sx.T

