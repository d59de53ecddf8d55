import Derived.Test.YtngjglbakgdgaaaGreatDoorPlnDel
set_option linter.all false
namespace Go.Sx.T
open Go Go.Sx
theorem upd_t {l0 l1 : List Int} {v now r : Int} (hl : l0.length ≤ 7) (hs : l1.length = l0.length) (hn0 : 0 ≤ now) (hn1 : now ≤ 4611686018427387904) (hr0 : 0 ≤ r) (hr1 : r ≤ 1099511627776) :
    rset_Update l0 l1 v now r = some [.li (mfK (delB now r) (l0 ++ [now])), .li (mfV (delB now r) (l0 ++ [now]) (l1 ++ [v]))] := by
  have e1 : min (max r 0) 1099511627776 = r := by omega
  have e2 : min (max now 0) 4611686018427387904 = now := by omega
  unfold rset_Update
  simp only [one_ev, maxI_eq, minI_eq, e1, e2]
  have k1 : decide ((Int.ofNat (List.length l0) + (↑(1 : Nat) : Int)) * (↑(nat_lit 16) : Int) ≤ (140737488355328 : Int) ∧ Int.ofNat (List.length l0) + (↑(1 : Nat) : Int) ≤ (4611686018427387904 : Int)) = true := by
    apply decide_eq_true
    show ((l0.length : Int) + 1) * 16 ≤ _ ∧ (l0.length : Int) + 1 ≤ _
    omega
  have k2 : decide (Int.ofNat (List.length l0) + (↑(1 : Nat) : Int) = Int.ofNat (List.length (l0 ++ [now]))) = true := by
    apply decide_eq_true
    show (l0.length : Int) + 1 = ((l0 ++ [now]).length : Int)
    simp
  rw [k1, k2]
  simp only [decide_true, Bool.and_true, chk_t]
  rw [del_t (by simp; omega) (by simp [hs])]
  simp only [out_ev, un_li_ev, un_i_ev, un_nil_ev, one_ev]
  generalize hK : mfK (delB now r) (l0 ++ [now]) = K
  generalize hV : mfV (delB now r) (l0 ++ [now]) (l1 ++ [v]) = V
  have hKl : K.length ≤ 8 := by
    have := mfK_lenle (delB now r) (l0 ++ [now])
    rw [hK] at this
    simp at this; omega
  have hVl : V.length = K.length := by rw [← hK, ← hV]; exact mfV_lenK _ _ _ (by simp [hs])
  have z : max (subI .i64 (Int.ofNat K.length) 8) 0 = 0 := by
    rw [subI_i (by simp only [Int.ofNat_eq_natCast]; unfold I63; omega)]; simp only [Int.ofNat_eq_natCast]; omega
  rw [z]
  have c5 : lenSl (rlOf [[], [], [], [Col.int .i64 K, Col.int .u64 V]] (3 : Nat)) (Option.some (0 : Int)) Option.none = (K.length : Int) - 0 := rfl
  have c1 : condSl (rlOf [[], [], [], [Col.int .i64 K, Col.int .u64 V]] (3 : Nat)) (Option.some (0 : Int)) Option.none = true := by
    show decide ((0 : Int) ≤ 0 ∧ (0 : Int) ≤ (K.length : Int)) = true
    exact decide_eq_true (by omega)
  rw [c1, chk_t, c5]
  have w : ∀ (X : List Int), X.length = K.length → List.take (Int.toNat ((K.length : Int) - 0)) (List.drop (Int.toNat (0 : Int)) X) = X := fun X hX => by
    rw [show Int.toNat ((K.length : Int) - 0) = K.length by omega]
    show List.take K.length X = X
    exact List.take_of_length_le (by omega)
  rw [w K rfl, w V hVl]
  have c2 : decide ((0 : Int) + ((K.length : Int) - 0) ≤ Int.ofNat K.length) = true := decide_eq_true (by simp only [Int.ofNat_eq_natCast]; omega)
  have c3 : decide ((K.length : Int) - 0 = Int.ofNat K.length) = true := decide_eq_true (by simp only [Int.ofNat_eq_natCast]; omega)
  rw [c2, c3]
  simp only [Bool.and_true, chk_t]
theorem max3 {l0 l1 : List Int} (hs : l1.length = l0.length) (hl : l0.length ≤ 1000) {α : Type} (kx : Nat → List Leaf → Option α) (kr : List Leaf → Option α) : ∀ (m n i : Nat) (M : Int), i + m = l0.length → m < n →
    rset_Max_3_L kx kr n l0 l1 (i : Int) M (l0.length : Int) = kx 0 [.li l0, .li l1, .i ((l1.drop i).foldl max M)]
  | 0, n, i, M, h, hn => by
    obtain ⟨n, rfl⟩ : ∃ n', n = n' + 1 := ⟨n - 1, by omega⟩
    simp only [rset_Max_3_L, rset_Max_3_B]
    rw [br_neg (by omega), List.drop_eq_nil_of_le (by omega)]
    simp only [decide_true, Bool.and_true, chk_t, List.foldl]
  | m + 1, n, i, M, h, hn => by
    obtain ⟨n, rfl⟩ : ∃ n', n = n' + 1 := ⟨n - 1, by omega⟩
    have c : (0 : Int) ≤ (i : Int) ∧ (i : Int) < Int.ofNat l0.length := by simp only [Int.ofNat_eq_natCast]; omega
    have e1 : addI .i64 (i : Int) 1 = ((i + 1 : Nat) : Int) := by rw [addI_i (by unfold I63; omega)]; omega
    have hi : i < l1.length := by omega
    simp only [rset_Max_3_L, rset_Max_3_B]
    rw [br_pos (by omega), chk_pos c, chk_pos c]
    simp only [one_ev, e1, decide_true, Bool.and_true, chk_t, maxI_eq, Int.toNat_natCast]
    rw [max3 hs hl kx kr m n (i + 1) _ (by omega) (by omega)]
    rw [List.drop_eq_getElem_cons hi, List.foldl_cons, getD_get hi]
theorem max_t {l0 l1 : List Int} (hs : l1.length = l0.length) (hl : l0.length ≤ 1000) : rset_Max l0 l1 = some [.i (l1.foldl max 0)] := by
  unfold rset_Max rset_Max_d rset_Len
  simp only [one_ev, out_ev, un_i_ev, un_nil_ev, decide_true, Bool.and_true, chk_t]
  have := max3 hs hl (α := List Leaf) (fun i444 r445 => br (Nat.beq 0 i444) (un_li r445 fun x446 r447 => un_li r447 fun x448 r449 => un_i r449 fun x450 r451 => un_nil r451 <| some [.i (x450)]) none) (fun r452 => un_nil r452 none) l0.length top 0 0 (by omega) (by unfold top; omega)
  refine Eq.trans ?_ (this.trans ?_)
  · rfl
  · simp only [beq00, br_t, un_li_ev, un_i_ev, un_nil_ev, List.drop_zero]
theorem foldl_max_U : ∀ (l : List Int) (m : Int), 0 ≤ m → m < 18446744073709551616 → (∀ x ∈ l, x < 18446744073709551616) → 0 ≤ l.foldl max m ∧ l.foldl max m < 18446744073709551616
  | [], m, h0, h1, _ => ⟨h0, h1⟩
  | x :: l, m, h0, h1, h => by
    have := h x (by simp)
    exact foldl_max_U l (max m x) (by omega) (by omega) (fun y hy => h y (by simp [hy]))
theorem mfV_mem {α : Type} (d : Int → Bool) : ∀ (a : List Int) (u : List α), ∀ x ∈ mfV d a u, x ∈ u
  | [], u, x, h => by cases u <;> simp [mfV] at h
  | a :: as, [], x, h => by simp [mfV] at h
  | a :: as, y :: u, x, h => by
    simp only [mfV] at h
    cases hd : d a
    · rw [hd, cond_false] at h
      rcases List.mem_cons.mp h with e | e
      · simp [e]
      · exact List.mem_cons_of_mem _ (mfV_mem d as u x e)
    · rw [hd, cond_true] at h
      exact List.mem_cons_of_mem _ (mfV_mem d as u x h)
end Go.Sx.T

