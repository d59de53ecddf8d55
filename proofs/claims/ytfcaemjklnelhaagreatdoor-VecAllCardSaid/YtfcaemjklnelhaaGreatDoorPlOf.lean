import Derived.Test.YtfcaemjklnelhaaGreatDoorPlVec
set_option linter.all false
namespace Go.Sx.T
open Go Go.Sx
/-- As few cells as there may be. -/
def Few (a b : List Int) : Prop := ∀ j, j + 1 < a.length → a.getD j 0 = a.getD (j + 1) 0 → 64 ≤ b.getD j 0
structure OfI (l a b : List Int) : Prop where
  ok : CsOk a b
  few : Few a b
  spr : spr a b = l
theorem OfI.nil : OfI [] [] [] := ⟨⟨rfl, by simp, by simp⟩, fun j h => by simp at h, rfl⟩
theorem getD_app1 {a : List Int} {s : Int} {j : Nat} (h : j < a.length) : (a ++ [s]).getD j 0 = a.getD j 0 := by
  rw [List.getD_eq_getElem?_getD, List.getD_eq_getElem?_getD, List.getElem?_append_left h]
theorem getD_app2 {a : List Int} {s : Int} : (a ++ [s]).getD a.length 0 = s := by simp [List.getD_eq_getElem?_getD]
/-- One more cell. -/
theorem OfI.more {l a b : List Int} {s : Int} (h : OfI l a b) (hs : St s) (hd : ∀ t r, a.getLast? = some t → b.getLast? = some r → t = s → 64 ≤ r) : OfI (l ++ [s]) (a ++ [s]) (b ++ [1]) := by
  obtain ⟨⟨h1, h2, h3⟩, h4, h5⟩ := h
  refine ⟨⟨by simp [h1], fun x hx => ?_, fun x hx => ?_⟩, fun j hj he => ?_, by rw [spr_append h1.symm, h5]; rfl⟩
  · rcases List.mem_append.1 hx with h | h
    · exact h2 x h
    · simp at h; subst h; exact hs
  · rcases List.mem_append.1 hx with h | h
    · exact h3 x h
    · simp at h; subst h; omega
  · simp only [List.length_append, List.length_cons, List.length_nil] at hj
    by_cases hl : j + 1 < a.length
    · rw [getD_app1 (by omega), getD_app1 hl] at he
      rw [getD_app1 (by omega)]
      exact h4 j hl he
    · have e : j + 1 = a.length := by omega
      rw [e, getD_app2, getD_app1 (by omega)] at he
      rw [getD_app1 (by omega)]
      refine hd (a.getD j 0) _ ?_ ?_ he
      · rw [List.getLast?_eq_getElem?, List.getD_eq_getElem?_getD, ← e, Nat.add_sub_cancel, List.getElem?_eq_getElem (show j < a.length by omega)]; rfl
      · rw [List.getLast?_eq_getElem?, List.getD_eq_getElem?_getD, h1, ← e, Nat.add_sub_cancel, List.getElem?_eq_getElem (show j < b.length by omega)]; rfl
/-- The last one grows. -/
theorem OfI.grow {l a b : List Int} {s r : Int} (h : OfI l (a ++ [s]) (b ++ [r])) (hl : b.length = a.length) (hr : r < 64) : OfI (l ++ [s]) (a ++ [s]) (b ++ [r + 1]) := by
  obtain ⟨⟨h1, h2, h3⟩, h4, h5⟩ := h
  have hr1 := h3 r (by simp)
  refine ⟨⟨by simp [hl], h2, fun x hx => ?_⟩, fun j hj he => ?_, ?_⟩
  · rcases List.mem_append.1 hx with h | h
    · exact h3 x (by simp [h])
    · simp at h; subst h; omega
  · have := h4 j hj he
    simp only [List.length_append, List.length_cons, List.length_nil] at hj
    rw [getD_app1 (by omega)] at this ⊢
    exact this
  · rw [spr_append hl.symm] at h5 ⊢
    rw [← h5, List.append_assoc]
    congr 1
    simp only [Go.Sx.T.spr, List.append_nil]
    rw [show (r + 1).toNat = r.toNat + 1 by omega, List.replicate_succ']
theorem nil_or (l : List Int) : l = [] ∨ ∃ A t, l = A ++ [t] := by
  rcases List.eq_nil_or_concat l with h | ⟨A, t, h⟩
  · exact .inl h
  · exact .inr ⟨A, t, by rw [h, List.concat_eq_append]⟩
theorem take_succ_getD {l : List Int} {j : Nat} (h : j < l.length) : l.take (j + 1) = l.take j ++ [l.getD j 0] := by
  rw [List.take_succ, List.getD_eq_getElem?_getD, List.getElem?_eq_getElem h]
  rfl
theorem of_L {l : List Int} (hl : ∀ s ∈ l, St s) (hn : l.length ≤ 1000000) : ∀ (m n : Nat) (a b : List Int) (j : Int), 0 ≤ j → j + m = (l.length : Int) → (a.length : Int) ≤ j → OfI (l.take j.toNat) a b → m < n →
    ∃ a' b', OfI l a' b' ∧ ∀ {α : Type} (kx : Nat → List Leaf → Option α) (kr : List Leaf → Option α), vec_Of_3_L kx kr n l a b j (Int.ofNat l.length) = kx 0 [.li l, .li a', .li b']
  | 0, n, a, b, j, hj, hm, ha, hI, hk => by
    obtain ⟨n, rfl⟩ : ∃ n', n = n' + 1 := ⟨n - 1, by omega⟩
    rw [List.take_of_length_le (by omega)] at hI
    refine ⟨a, b, hI, fun kx kr => ?_⟩
    simp only [vec_Of_3_L, vec_Of_3_B]
    rw [br_neg (by simp; omega)]
    simp only [chk_T]
  | m + 1, n, a, b, j, hj, hm, ha, hI, hk => by
    obtain ⟨n, rfl⟩ : ∃ n', n = n' + 1 := ⟨n - 1, by omega⟩
    have hlt : j < Int.ofNat l.length := by simp; omega
    have hjl : j.toNat < l.length := by omega
    have e3 : addI .i64 j 1 = j + 1 := addI_i (by unfold I63; omega)
    have hst : St (l.getD j.toNat 0) := by
      rw [List.getD_eq_getElem?_getD, List.getElem?_eq_getElem hjl]
      exact hl _ (List.getElem_mem hjl)
    have htk : l.take (j + 1).toNat = l.take j.toNat ++ [l.getD j.toNat 0] := by
      rw [show (j + 1).toNat = j.toNat + 1 by omega, take_succ_getD hjl]
    obtain ⟨s, hs⟩ : ∃ s, s = l.getD j.toNat 0 := ⟨_, rfl⟩
    rw [← hs] at hst htk
    have e4 : subI .i64 (Int.ofNat a.length) 1 = (a.length : Int) - 1 := subI_i (by simp only [Int.ofNat_eq_natCast]; unfold I63; omega)
    have room : ∀ {α : Type} (x : Option α), chk (decide True && true && decide ((Int.ofNat a.length + (↑(1 : Nat) : Int)) * (↑(nat_lit 16) : Int) ≤ (140737488355328 : Int) ∧ Int.ofNat a.length + (↑(1 : Nat) : Int) ≤ (4611686018427387904 : Int))) x = x := fun x => by
      rw [show decide ((Int.ofNat a.length + (↑(1 : Nat) : Int)) * (↑(nat_lit 16) : Int) ≤ (140737488355328 : Int) ∧ Int.ofNat a.length + (↑(1 : Nat) : Int) ≤ (4611686018427387904 : Int)) = true from decide_eq_true (by simp only [Int.ofNat_eq_natCast]; constructor <;> omega)]
      simp [chk]
    have grown : ∀ {α : Type} (x : Option α), chk (decide (Int.ofNat a.length + (↑(1 : Nat) : Int) = Int.ofNat (List.length (a ++ [s]))) && (decide True && true)) x = x := fun x => by simp [chk]
    have t2 : ∀ {α : Type} (x : Option α), chk (decide True && (decide True && true)) x = x := fun x => by simp [chk]
    -- one more cell
    have more : (∀ t r, a.getLast? = some t → b.getLast? = some r → t = s → 64 ≤ r) → ∃ a' b', OfI l a' b' ∧ ∀ {α : Type} (kx : Nat → List Leaf → Option α) (kr : List Leaf → Option α), vec_Of_3_L kx kr n l (a ++ [s]) (b ++ [1]) (j + 1) (Int.ofNat l.length) = kx 0 [.li l, .li a', .li b'] := fun hd =>
      of_L hl hn m n (a ++ [s]) (b ++ [1]) (j + 1) (by omega) (by omega) (by simp; omega) (by rw [htk]; exact hI.more hst hd) (by omega)
    have head : ∀ {α : Type} (kx : Nat → List Leaf → Option α) (kr : List Leaf → Option α), vec_Of_3_L kx kr (n + 1) l a b j (Int.ofNat l.length) =
        br (decide ((a.length : Int) - 1 ≥ 0)) (chk (decide ((0 : Int) ≤ (a.length : Int) - 1 ∧ (a.length : Int) - 1 < Int.ofNat a.length)) <| chk (decide ((0 : Int) ≤ (a.length : Int) - 1 ∧ (a.length : Int) - 1 < Int.ofNat a.length)) <|
          br (a.getD ((a.length : Int) - 1).toNat 0 == s) (chk (decide ((0 : Int) ≤ (a.length : Int) - 1 ∧ (a.length : Int) - 1 < Int.ofNat a.length)) <| chk (decide ((0 : Int) ≤ (a.length : Int) - 1 ∧ (a.length : Int) - 1 < Int.ofNat a.length)) <|
            br (decide (b.getD ((a.length : Int) - 1).toNat 0 < 64))
              (chk (decide ((0 : Int) ≤ (a.length : Int) - 1 ∧ (a.length : Int) - 1 < Int.ofNat a.length)) <| chk (decide ((0 : Int) ≤ (a.length : Int) - 1 ∧ (a.length : Int) - 1 < Int.ofNat a.length)) <|
                chk (decide ((0 : Int) ≤ (a.length : Int) - 1 ∧ (a.length : Int) - 1 < Int.ofNat a.length)) <| chk (decide ((0 : Int) ≤ (a.length : Int) - 1 ∧ (a.length : Int) - 1 < Int.ofNat a.length)) <|
                vec_Of_3_L kx kr n l a (b.set ((a.length : Int) - 1).toNat (addI .i64 (b.getD ((a.length : Int) - 1).toNat 0) 1)) (j + 1) (Int.ofNat l.length))
              (vec_Of_3_L kx kr n l (a ++ [s]) (b ++ [1]) (j + 1) (Int.ofNat l.length)))
            (vec_Of_3_L kx kr n l (a ++ [s]) (b ++ [1]) (j + 1) (Int.ofNat l.length)))
          (vec_Of_3_L kx kr n l (a ++ [s]) (b ++ [1]) (j + 1) (Int.ofNat l.length)) := by
      intro α kx kr
      simp only [vec_Of_3_L, vec_Of_3_B, one_ev, e3, e4, ← hs]
      rw [br_pos hlt, chk_pos ⟨hj, hlt⟩, chk_pos ⟨hj, hlt⟩, state_t hst]
      simp only [out_ev, un_b_ev, un_nil_ev, Bool.not_true, br_f, room, grown, t2]
    rcases nil_or a with rfl | ⟨A, t, rfl⟩
    · obtain ⟨a', b', h1, h2⟩ := more (fun t r h => by simp at h)
      refine ⟨a', b', h1, fun kx kr => ?_⟩
      rw [head, br_neg (by simp)]
      exact h2 kx kr
    · have hbl := hI.ok.len
      rcases nil_or b with rfl | ⟨B, r, rfl⟩
      · simp at hbl
      · have hAB : B.length = A.length := by simpa using hbl
        have hidx : (((A ++ [t]).length : Int) - 1).toNat = A.length := by simp
        have hin : (0 : Int) ≤ ((A ++ [t]).length : Int) - 1 ∧ ((A ++ [t]).length : Int) - 1 < Int.ofNat (A ++ [t]).length := by simp; omega
        have g1 : (A ++ [t]).getD A.length 0 = t := getD_app2
        have g2 : (B ++ [r]).getD A.length 0 = r := by rw [← hAB]; exact getD_app2
        have hr1 := hI.ok.run r (by simp)
        by_cases ht : t = s
        · subst ht
          by_cases hr : r < 64
          · have e5 : addI .i64 r 1 = r + 1 := addI_i (by unfold I63; omega)
            have hset : (B ++ [r]).set A.length (r + 1) = B ++ [r + 1] := by rw [← hAB]; simp
            obtain ⟨a', b', h1, h2⟩ := of_L hl hn m n (A ++ [t]) (B ++ [r + 1]) (j + 1) (by omega) (by omega) (by simp at ha ⊢; omega) (by rw [htk]; exact hI.grow hAB hr) (by omega)
            refine ⟨a', b', h1, fun kx kr => ?_⟩
            rw [head, br_pos hin.1, hidx, chk_pos hin, chk_pos hin, br_eq g1, chk_pos hin, chk_pos hin, g2, br_pos hr, chk_pos hin, chk_pos hin, chk_pos hin, chk_pos hin, e5, hset]
            exact h2 kx kr
          · obtain ⟨a', b', h1, h2⟩ := more (fun t' r' h h' _ => by simp at h h'; subst h'; omega)
            refine ⟨a', b', h1, fun kx kr => ?_⟩
            rw [head, br_pos hin.1, hidx, chk_pos hin, chk_pos hin, br_eq g1, chk_pos hin, chk_pos hin, g2, br_neg hr]
            exact h2 kx kr
        · obtain ⟨a', b', h1, h2⟩ := more (fun t' r' h h' e => by simp at h; subst h; exact absurd e ht)
          refine ⟨a', b', h1, fun kx kr => ?_⟩
          rw [head, br_pos hin.1, hidx, chk_pos hin, chk_pos hin, br_ne (by rw [g1]; exact ht)]
          exact h2 kx kr
theorem of_states {l : List Int} (hl : ∀ s ∈ l, St s) (hn : l.length ≤ 1000000) : ∃ a b, OfI l a b ∧ vec_Of l = some [.li a, .li b] := by
  obtain ⟨a, b, h1, h2⟩ := of_L hl hn l.length top [] [] 0 (by omega) (by omega) (by simp) (by simpa using OfI.nil) (by
    have : top = 1000000000000000000000000 := rfl
    omega)
  refine ⟨a, b, h1, ?_⟩
  unfold vec_Of vec_Of_d
  simp only [one_ev]
  rw [show ∀ x : Option (List Leaf), chk (decide ((0 : Int) = Int.ofNat (0 : Nat)) && (decide True && true)) x = x from fun x => by simp [chk], h2]
  simp only [beq00, br_t, un_li_ev, un_nil_ev, chk_T]
end Go.Sx.T

