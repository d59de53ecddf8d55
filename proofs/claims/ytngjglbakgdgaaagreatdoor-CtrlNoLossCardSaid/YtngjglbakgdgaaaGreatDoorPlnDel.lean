import Derived.Test.YtngjglbakgdgaaaGreatDoorPlnTg
set_option linter.all false
namespace Go.Sx.T
open Go Go.Sx
def delB (now r x : Int) : Bool := decide (x < subI .i64 now (mulI .i64 2 r))
theorem upd1_t (now r a x : Int) : rset_Update_1 now r a x = some [.i now, .i r, .b (delB now r a)] := by
  unfold rset_Update_1 delB
  simp only [one_ev]
theorem mfK_one (d : Int → Bool) (x : Int) : mfK d [x] = bif d x then [] else [x] := rfl
theorem mfV_one {α : Type} (d : Int → Bool) (x : Int) (y : α) : mfV d [x] [y] = bif d x then [] else [y] := rfl
theorem mfK_app (d : Int → Bool) : ∀ (a b : List Int), mfK d (a ++ b) = mfK d a ++ mfK d b
  | [], b => rfl
  | x :: a, b => by
    simp only [List.cons_append, mfK, mfK_app d a b]
    cases d x <;> rfl
theorem mfV_app {α : Type} (d : Int → Bool) : ∀ (a b : List Int) (u v : List α), u.length = a.length → mfV d (a ++ b) (u ++ v) = mfV d a u ++ mfV d b v
  | [], b, [], v, _ => rfl
  | x :: a, b, y :: u, v, h => by
    simp only [List.cons_append, mfV, mfV_app d a b u v (by simpa using h)]
    cases d x <;> rfl
theorem mfK_lenle (d : Int → Bool) : ∀ (a : List Int), (mfK d a).length ≤ a.length
  | [] => Nat.le_refl _
  | x :: a => by
    have := mfK_lenle d a
    simp only [mfK]
    cases d x <;> simp <;> omega
theorem mfV_lenK {α : Type} (d : Int → Bool) : ∀ (a : List Int) (u : List α), u.length = a.length → (mfV d a u).length = (mfK d a).length
  | [], [], _ => rfl
  | x :: a, y :: u, h => by
    have := mfV_lenK d a u (by simpa using h)
    simp only [mfK, mfV]
    cases d x <;> simp [this]
theorem mfK_none (d : Int → Bool) : ∀ (a : List Int), (∀ x ∈ a, d x = false) → mfK d a = a
  | [], _ => rfl
  | x :: a, h => by
    simp only [mfK, h x (by simp), cond_false, mfK_none d a (fun y hy => h y (by simp [hy]))]
theorem mfV_none {α : Type} (d : Int → Bool) : ∀ (a : List Int) (u : List α), u.length = a.length → (∀ x ∈ a, d x = false) → mfV d a u = u
  | [], [], _, _ => rfl
  | x :: a, y :: u, hl, h => by
    simp only [mfV, h x (by simp), cond_false, mfV_none d a u (by simpa using hl) (fun y hy => h y (by simp [hy]))]
theorem getD_mem {l : List Int} {i : Nat} (h : i < l.length) : l.getD i 0 ∈ l := by
  rw [List.getD_eq_getElem?_getD, List.getElem?_eq_getElem h]
  exact List.getElem_mem h
theorem getD_get {α : Type} {l : List α} {i : Nat} {d : α} (h : i < l.length) : l.getD i d = l[i] := by
  rw [List.getD_eq_getElem?_getD, List.getElem?_eq_getElem h]; rfl
theorem idxL {s0 s1 : List Int} {now r : Int} (hl : s0.length ≤ 1000) {α : Type} (kx : Nat → List Leaf → Option α) (kr : List Leaf → Option α) : ∀ (m n i : Nat), i + m = s0.length → m < n → (∀ j, j < i → delB now r (s0.getD j 0) = false) →
    (∃ j, j < s0.length ∧ delB now r (s0.getD j 0) = true ∧ (∀ k, k < j → delB now r (s0.getD k 0) = false) ∧ set_IndexFunc_2_L kx kr n s0 s1 now r (i : Int) (s0.length : Int) = kr [.li s0, .li s1, .i now, .i r, .i (j : Int)]) ∨
    ((∀ k, k < s0.length → delB now r (s0.getD k 0) = false) ∧ set_IndexFunc_2_L kx kr n s0 s1 now r (i : Int) (s0.length : Int) = kx 0 [.li s0, .li s1, .i now, .i r])
  | 0, n, i, h, hn, hb => by
    obtain ⟨n, rfl⟩ : ∃ n', n = n' + 1 := ⟨n - 1, by omega⟩
    right
    refine ⟨fun k hk => hb k (by omega), ?_⟩
    simp only [set_IndexFunc_2_L, set_IndexFunc_2_B]
    rw [br_neg (by omega)]
  | m + 1, n, i, h, hn, hb => by
    obtain ⟨n, rfl⟩ : ∃ n', n = n' + 1 := ⟨n - 1, by omega⟩
    have c : (0 : Int) ≤ (i : Int) ∧ (i : Int) < Int.ofNat s0.length := by simp only [Int.ofNat_eq_natCast]; omega
    have e1 : addI .i64 (i : Int) 1 = ((i + 1 : Nat) : Int) := by rw [addI_i (by unfold I63; omega)]; omega
    have open_ : set_IndexFunc_2_L kx kr (n + 1) s0 s1 now r (i : Int) (s0.length : Int) = br (delB now r (s0.getD i 0)) (kr [.li s0, .li s1, .i now, .i r, .i (i : Int)]) (set_IndexFunc_2_L kx kr n s0 s1 now r ((i + 1 : Nat) : Int) (s0.length : Int)) := by
      simp only [set_IndexFunc_2_L, set_IndexFunc_2_B]
      rw [br_pos (by omega), chk_pos c, chk_pos c, upd1_t]
      simp only [Int.toNat_natCast, out_ev, un_i_ev, un_b_ev, un_nil_ev, one_ev, e1, decide_true, Bool.and_true, chk_t]
    cases hd : delB now r (s0.getD i 0)
    · rw [hd, br_f] at open_
      rw [open_]
      exact idxL hl kx kr m n (i + 1) (by omega) (by omega) (fun j hj => by
        by_cases e : j = i
        · rw [e]; exact hd
        · exact hb j (by omega))
    · left
      rw [hd, br_t] at open_
      exact ⟨i, by omega, hd, hb, open_⟩
structure DelI (now r : Int) (s0 s1 A B : List Int) (i j : Nat) : Prop where
  la : A.length = s0.length
  lb : B.length = s0.length
  ij : i ≤ j
  ta : A.take i = mfK (delB now r) (s0.take j)
  tb : B.take i = mfV (delB now r) (s0.take j) (s1.take j)
  da : A.drop j = s0.drop j
  db : B.drop j = s1.drop j
  li : (mfK (delB now r) (s0.take j)).length = i
theorem drop_getD {A s : List Int} {j : Nat} (h : A.drop j = s.drop j) : A.getD j 0 = s.getD j 0 := by
  have := congrArg (fun l => l.getD 0 0) h
  simpa [List.getD_eq_getElem?_getD, List.getElem?_drop] using this
theorem take_set {α : Type} {A : List α} {i : Nat} {x : α} (h : i < A.length) : (A.set i x).take (i + 1) = A.take i ++ [x] := by
  rw [List.take_succ_eq_append_getElem (by simpa using h)]
  rw [List.take_set_of_le (Nat.le_refl i)]
  simp
theorem drop_set {α : Type} {A : List α} {i j : Nat} {x : α} (h : i < j) : (A.set i x).drop j = A.drop j := by
  rw [List.drop_set_of_lt h]
theorem drop_one {A s : List Int} {j : Nat} (h : A.drop j = s.drop j) : A.drop (j + 1) = s.drop (j + 1) := by
  rw [← List.drop_drop, ← List.drop_drop, h]
theorem take_snoc {α : Type} {s : List α} {j : Nat} {d : α} (h : j < s.length) : s.take (j + 1) = s.take j ++ [s.getD j d] := by
  rw [List.take_succ_eq_append_getElem h, getD_get h]
theorem delL {s0 s1 : List Int} {now r : Int} (hl : s0.length ≤ 1000) (hs : s1.length = s0.length) : ∀ (m n i j : Nat) (A B : List Int), j + m = s0.length → m < n → DelI now r s0 s1 A B i j →
    ∃ A' B' i', DelI now r s0 s1 A' B' i' s0.length ∧ ∀ {α : Type} (kx : Nat → List Leaf → Option α) (kr : List Leaf → Option α), set_DeleteFunc_5_L kx kr n A B now r (j : Int) (i : Int) = kx 0 [.li A', .li B', .i now, .i r, .i (i' : Int)]
  | 0, n, i, j, A, B, h, hn, hI => by
    obtain ⟨n, rfl⟩ : ∃ n', n = n' + 1 := ⟨n - 1, by omega⟩
    obtain rfl : j = s0.length := by omega
    refine ⟨A, B, i, hI, fun kx kr => ?_⟩
    simp only [set_DeleteFunc_5_L, set_DeleteFunc_5_B, one_ev]
    rw [br_neg (by simp only [Int.ofNat_eq_natCast, hI.la]; omega)]
    simp only [decide_true, Bool.and_true, chk_t]
  | m + 1, n, i, j, A, B, h, hn, hI => by
    obtain ⟨n, rfl⟩ : ∃ n', n = n' + 1 := ⟨n - 1, by omega⟩
    have hj : j < s0.length := by omega
    have c : (0 : Int) ≤ (j : Int) ∧ (j : Int) < Int.ofNat A.length := by simp only [Int.ofNat_eq_natCast, hI.la]; omega
    have ci : (0 : Int) ≤ (i : Int) ∧ (i : Int) < Int.ofNat A.length := by have := hI.ij; simp only [Int.ofNat_eq_natCast, hI.la]; omega
    have e1 : addI .i64 (j : Int) 1 = ((j + 1 : Nat) : Int) := by rw [addI_i (by unfold I63; omega)]; omega
    have e2 : addI .i64 (i : Int) 1 = ((i + 1 : Nat) : Int) := by have := hI.ij; rw [addI_i (by unfold I63; omega)]; omega
    have ga : A.getD j 0 = s0.getD j 0 := drop_getD hI.da
    have gb : B.getD j 0 = s1.getD j 0 := drop_getD hI.db
    have t0 := take_snoc (d := 0) hj
    have t1 := take_snoc (d := 0) (s := s1) (j := j) (by omega)
    have hlt : (s1.take j).length = (s0.take j).length := by simp [hs]
    cases hd : delB now r (s0.getD j 0)
    · have hI2 : DelI now r s0 s1 (A.set i (A.getD j 0)) (B.set i (B.getD j 0)) (i + 1) (j + 1) := by
        have hia : i < A.length := by have := hI.ij; rw [hI.la]; omega
        have hib : i < B.length := by have := hI.ij; rw [hI.lb]; omega
        by_cases eij : i = j
        · subst eij
          have sa : A.set i (A.getD i 0) = A := by rw [getD_get hia]; exact List.set_getElem_self hia
          have sb' : B.set i (B.getD i 0) = B := by rw [getD_get hib]; exact List.set_getElem_self hib
          rw [sa, sb']
          refine ⟨hI.la, hI.lb, by omega, ?_, ?_, drop_one hI.da, drop_one hI.db, ?_⟩
          · rw [t0, mfK_app, ← hI.ta, take_snoc (d := 0) hia, ga]; simp only [mfK_one, hd, cond_true, cond_false, List.append_nil, List.length_nil, List.length_cons, Nat.add_zero, Nat.zero_add]
          · rw [t0, t1, mfV_app _ _ _ _ _ hlt, ← hI.tb, take_snoc (d := 0) hib, gb]; simp only [mfV_one, hd, cond_true, cond_false, List.append_nil]
          · rw [t0, mfK_app, List.length_append, hI.li]; simp only [mfK_one, hd, cond_true, cond_false, List.append_nil, List.length_nil, List.length_cons, Nat.add_zero, Nat.zero_add]
        · have hlt2 : i < j + 1 := by have := hI.ij; omega
          refine ⟨by simp [hI.la], by simp [hI.lb], by have := hI.ij; omega, ?_, ?_, ?_, ?_, ?_⟩
          · rw [take_set hia, hI.ta, t0, mfK_app, ga]; simp only [mfK_one, hd, cond_true, cond_false, List.append_nil, List.length_nil, List.length_cons, Nat.add_zero, Nat.zero_add]
          · rw [take_set hib, hI.tb, t0, t1, mfV_app _ _ _ _ _ hlt, gb]; simp only [mfV_one, hd, cond_true, cond_false, List.append_nil]
          · rw [drop_set hlt2]; exact drop_one hI.da
          · rw [drop_set hlt2]; exact drop_one hI.db
          · rw [t0, mfK_app, List.length_append, hI.li]; simp only [mfK_one, hd, cond_true, cond_false, List.append_nil, List.length_nil, List.length_cons, Nat.add_zero, Nat.zero_add]
      obtain ⟨A', B', i', q1, q2⟩ := delL hl hs m n (i + 1) (j + 1) _ _ (by omega) (by omega) hI2
      refine ⟨A', B', i', q1, fun kx kr => ?_⟩
      rw [← q2 kx kr]
      simp only [set_DeleteFunc_5_L, set_DeleteFunc_5_B, one_ev]
      rw [br_pos c.2, chk_pos c, chk_pos c, upd1_t]
      simp only [Int.toNat_natCast, out_ev, un_i_ev, un_b_ev, un_nil_ev, ga, hd, Bool.not_false, br_t]
      rw [chk_pos ci, chk_pos ci]
      have g : decide (Int.ofNat A.length = Int.ofNat (A.set i (s0.getD j 0)).length) = true := by simp
      simp only [one_ev, e1, e2, g, Bool.and_true, chk_t]
    · have hI2 : DelI now r s0 s1 A B i (j + 1) := by
        refine ⟨hI.la, hI.lb, by have := hI.ij; omega, ?_, ?_, drop_one hI.da, drop_one hI.db, ?_⟩
        · rw [t0, mfK_app, ← hI.ta]; simp only [mfK_one, hd, cond_true, cond_false, List.append_nil, List.length_nil, List.length_cons, Nat.add_zero, Nat.zero_add]
        · rw [t0, t1, mfV_app _ _ _ _ _ hlt, ← hI.tb]; simp only [mfV_one, hd, cond_true, cond_false, List.append_nil]
        · rw [t0, mfK_app, List.length_append, hI.li]; simp only [mfK_one, hd, cond_true, cond_false, List.append_nil, List.length_nil, List.length_cons, Nat.add_zero, Nat.zero_add]
      obtain ⟨A', B', i', q1, q2⟩ := delL hl hs m n i (j + 1) A B (by omega) (by omega) hI2
      refine ⟨A', B', i', q1, fun kx kr => ?_⟩
      rw [← q2 kx kr]
      simp only [set_DeleteFunc_5_L, set_DeleteFunc_5_B, one_ev]
      rw [br_pos c.2, chk_pos c, chk_pos c, upd1_t]
      simp only [Int.toNat_natCast, out_ev, un_i_ev, un_b_ev, un_nil_ev, ga, hd, Bool.not_true, br_f, one_ev, e1, decide_true, Bool.and_true, chk_t]
theorem take_wipe {α : Type} {i k : Nat} {l : List α} {x : α} (h : i ≤ l.length) : (wipeL i k l x).take i = l.take i := by
  unfold wipeL
  rw [List.append_assoc, List.take_append_of_le_length (by simp [h]), List.take_take, Nat.min_self]
theorem wipe_len {α : Type} {i k : Nat} {l : List α} {x : α} (h : i + k = l.length) : (wipeL i k l x).length = l.length := by
  unfold wipeL
  simp; omega
theorem idx_t {s0 s1 : List Int} {now r : Int} (hl : s0.length ≤ 1000) :
    (∃ j : Nat, j < s0.length ∧ delB now r (s0.getD j 0) = true ∧ (∀ k, k < j → delB now r (s0.getD k 0) = false) ∧ set_IndexFunc s0 s1 now r = some [.i now, .i r, .i (j : Int)]) ∨
    ((∀ k, k < s0.length → delB now r (s0.getD k 0) = false) ∧ set_IndexFunc s0 s1 now r = some [.i now, .i r, .i (-1)]) := by
  unfold set_IndexFunc set_IndexFunc_d
  simp only [one_ev, decide_true, Bool.and_true, chk_t]
  have := fun kx kr => idxL (s1 := s1) (now := now) (r := r) hl (α := List Leaf) kx kr s0.length top 0 (by omega) (by unfold top; omega) (fun j hj => by omega)
  rcases this (fun i522 r523 => br (Nat.beq 0 i522) (un_li r523 fun x524 r525 => un_li r525 fun x526 r527 => un_i r527 fun x528 r529 => un_i r529 fun x530 r531 => un_nil r531 (some [.i x528, .i x530, .i (-1)])) none)
    (fun r532 => un_li r532 fun x533 r534 => un_li r534 fun x535 r536 => un_i r536 fun x537 r538 => un_i r538 fun x539 r540 => un_i r540 fun x541 r542 => un_nil r542 (some [.i x537, .i x539, .i x541])) with ⟨j, h1, h2, h3, h4⟩ | ⟨h1, h2⟩
  · refine .inl ⟨j, h1, h2, h3, ?_⟩
    refine Eq.trans ?_ (h4.trans ?_)
    · rfl
    · simp only [un_li_ev, un_i_ev, un_nil_ev]
  · refine .inr ⟨h1, ?_⟩
    refine Eq.trans ?_ (h2.trans ?_)
    · rfl
    · simp only [beq00, br_t, un_li_ev, un_i_ev, un_nil_ev]
theorem del_t {s0 s1 : List Int} {now r : Int} (hl : s0.length ≤ 1000) (hs : s1.length = s0.length) : set_DeleteFunc s0 s1 now r = some [.li (mfK (delB now r) s0), .li (mfV (delB now r) s0 s1), .i now, .i r] := by
  unfold set_DeleteFunc set_DeleteFunc_d
  simp only [decide_true, Bool.and_true, chk_t]
  rcases idx_t (s1 := s1) (now := now) (r := r) hl with ⟨j, h1, h2, h3, h4⟩ | ⟨h1, h2⟩
  · rw [h4]
    have e1 : addI .i64 (j : Int) 1 = ((j + 1 : Nat) : Int) := by rw [addI_i (by unfold I63; omega)]; omega
    have hno : ∀ x ∈ s0.take j, delB now r x = false := fun x hx => by
      obtain ⟨k, hk, rfl⟩ := List.getElem_of_mem hx
      have hk' : k < j := by have := hk; rw [List.length_take] at this; omega
      have := h3 k hk'
      rw [getD_get (by omega)] at this
      simpa using this
    have hI : DelI now r s0 s1 s0 s1 j (j + 1) := by
      have t0 := take_snoc (d := 0) h1
      have t1 := take_snoc (d := 0) (s := s1) (j := j) (by omega)
      have hlt : (s1.take j).length = (s0.take j).length := by simp [hs]
      have m0 := mfK_none _ _ hno
      have m1 := mfV_none _ _ (s1.take j) hlt hno
      refine ⟨rfl, hs, by omega, ?_, ?_, rfl, rfl, ?_⟩
      · rw [t0, mfK_app, m0]; simp only [mfK_one, h2, cond_true, cond_false, List.append_nil, List.length_nil, Nat.add_zero]
      · rw [t0, t1, mfV_app _ _ _ _ _ hlt, m1]; simp only [mfV_one, h2, cond_true, cond_false, List.append_nil]
      · rw [t0, mfK_app, m0]; simp only [mfK_one, h2, cond_true, cond_false, List.append_nil, List.length_nil, Nat.add_zero]; rw [List.length_take]; omega
    obtain ⟨A, B, i, q1, q2⟩ := delL hl hs (s0.length - (j + 1)) top j (j + 1) s0 s1 (by omega) (by unfold top; omega) hI
    have hil : i ≤ A.length := by have := q1.ij; rw [q1.la]; exact this
    have hib : i ≤ B.length := by have := q1.ij; rw [q1.lb]; exact this
    simp only [out_ev, un_i_ev, un_nil_ev]
    rw [br_ne (by omega)]
    simp only [one_ev, e1, q2, beq00, br_t, un_li_ev, un_i_ev, un_nil_ev, decide_true, Bool.and_true, chk_t]
    have ta := q1.ta
    have tb := q1.tb
    rw [List.take_of_length_le (Nat.le_refl _)] at ta tb
    rw [List.take_of_length_le (Nat.le_of_eq hs)] at tb
    have c1 : condSl (rlOf [[Col.int .i64 A, Col.int .u64 B], [], []] (0 : Nat)) (Option.some (i : Int)) Option.none = true := by
      show decide ((0 : Int) ≤ (i : Int) ∧ (i : Int) ≤ (A.length : Int)) = true
      exact decide_eq_true (by omega)
    have c2 : rowIn (Option.some (offAdd Option.none (i : Int))) (lenSl (rlOf [[Col.int .i64 A, Col.int .u64 B], [], []] (0 : Nat)) (Option.some (i : Int)) Option.none) (Int.ofNat A.length) = true := by
      show decide ((0 : Int) ≤ (i : Int) ∧ (0 : Int) ≤ (A.length : Int) - i ∧ (i : Int) + ((A.length : Int) - i) ≤ (A.length : Int)) = true
      exact decide_eq_true (by omega)
    have c3 : condSl (rlOf [[Col.int .i64 A, Col.int .u64 B], [], []] (0 : Nat)) Option.none (Option.some (i : Int)) = true := by
      show decide ((0 : Int) ≤ (i : Int) ∧ (i : Int) ≤ (A.length : Int)) = true
      exact decide_eq_true (by omega)
    have c4 : decide (Int.ofNat (nat_lit 0) + (i : Int) ≤ Int.ofNat A.length) = true := by
      apply decide_eq_true
      show (0 : Int) + (i : Int) ≤ (A.length : Int)
      omega
    rw [c1, chk_t, c2, chk_t, c3, chk_t, c4, chk_t]
    have c5 : lenSl (rlOf [[Col.int .i64 A, Col.int .u64 B], [], []] (0 : Nat)) (Option.some (i : Int)) Option.none = (A.length : Int) - i := rfl
    rw [c5]
    generalize hg : (Option.getD (cutOff _ _ _ _) (0 : Int)) = g
    have hg2 : g = (i : Int) := by
      rw [← hg]
      first
        | rfl
        | simp [cutOff, isRo]
    rw [hg2]
    have w : ∀ (X : List Int), X.length = A.length → List.take (Int.toNat (i : Int)) (List.drop (Int.toNat (Int.ofNat (nat_lit 0))) (wipeL (Int.toNat (i : Int)) (Int.toNat ((A.length : Int) - i)) X 0)) = X.take i := fun X hX => by
      rw [Int.toNat_natCast]
      exact take_wipe (by omega)
    rw [w A rfl, w B (by rw [q1.la, q1.lb]), ta, tb]
    have c6 : decide ((i : Int) = Int.ofNat (mfK (delB now r) s0).length) = true := by
      apply decide_eq_true
      have := q1.li
      rw [List.take_of_length_le (Nat.le_refl _)] at this
      rw [this]; rfl
    rw [c6, chk_t]
  · rw [h2]
    simp only [out_ev, un_i_ev, un_nil_ev]
    rw [br_eq rfl]
    have hno : ∀ x ∈ s0, delB now r x = false := fun x hx => by
      obtain ⟨k, hk, rfl⟩ := List.getElem_of_mem hx
      have := h1 k hk
      rwa [getD_get hk] at this
    rw [mfK_none _ _ hno, mfV_none _ _ s1 hs hno]
    have d4 : decide (Int.ofNat (nat_lit 0) + Int.ofNat s0.length ≤ Int.ofNat s0.length) = true := by
      apply decide_eq_true
      show (0 : Int) + (s0.length : Int) ≤ (s0.length : Int)
      omega
    have w : ∀ (X : List Int), X.length = s0.length → List.take (Int.toNat (Int.ofNat s0.length)) (List.drop (Int.toNat (Int.ofNat (nat_lit 0))) X) = X := fun X hX => by
      show List.take s0.length X = X
      exact List.take_of_length_le (by omega)
    rw [d4, chk_t, w s0 rfl, w s1 hs]
    simp only [decide_true, chk_t]
end Go.Sx.T

