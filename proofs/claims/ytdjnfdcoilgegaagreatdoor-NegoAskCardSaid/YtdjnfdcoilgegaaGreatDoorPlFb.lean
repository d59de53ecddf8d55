import Derived.Test.YtdjnfdcoilgegaaGreatDoorPlA
import Derived.Test.YtdjnfdcoilgegaaGreatDoorYFeatSpec
set_option linter.all false
namespace Go.Sx.T
open Go Go.Sx
theorem idxB_ge : ∀ (l : List UInt8) (c : UInt8) (k : Nat), decide (idxB l c k ≥ 0) = l.contains c
  | [], c, k => rfl
  | b :: r, c, k => by
    unfold idxB
    rw [List.contains_cons, show (c == b) = (b == c) from Bool.eq_iff_iff.2 ⟨fun h => beq_iff_eq.2 (beq_iff_eq.1 h).symm, fun h => beq_iff_eq.2 (beq_iff_eq.1 h).symm⟩]
    cases h : b == c
    · rw [cond_false, Bool.false_or]; exact idxB_ge r c (k + 1)
    · rw [cond_true, Bool.true_or]; exact decide_eq_true (by omega)
theorem bt_n (s : ByteArray) (i : Nat) : bt s (i : Int) = ((s.data.toList.getD i 0).toNat : Int) := rfl
theorem u8_back (c : UInt8) : Nat.toUInt8 (Int.toNat ((c.toNat : Nat) : Int)) = c := by
  rw [Int.toNat_natCast]; exact UInt8.ofNat_toNat
theorem size_l (s : ByteArray) : s.data.toList.length = s.size := by rw [Array.length_toList]; rfl
theorem index_t (s : ByteArray) (c : UInt8) : ∃ n, decide (n ≥ 0) = s.data.toList.contains c ∧ str_IndexByte s (c.toNat : Int) = some [.i n] := by
  refine ⟨idxB s.data.toList c 0, idxB_ge _ _ _, ?_⟩
  unfold str_IndexByte sl_IndexByte
  rw [u8_back]
  simp only [out_ev, un_i_ev, un_nil_ev, one_ev]
theorem bdec {p : Prop} [Decidable p] {b : Bool} (h : decide p = b) {α : Type} (x y : Option α) : br (decide p) x y = bif b then x else y := by
  rw [h]; cases b <;> rfl
def fi (A B : List UInt8) : Nat → Nat → Option Nat
  | 0, _ => none
  | m + 1, i => bif B.contains (A.getD i 0) then some i else fi A B m (i + 1)
def slc (a : ByteArray) (i : Nat) : ByteArray := strSlO a (Option.some (i : Int)) (Option.some ((i + 1 : Nat) : Int))
theorem cond_sl {n i : Nat} (h : i < n) : condSl (n : Int) (Option.some (i : Int)) (Option.some ((i + 1 : Nat) : Int)) = true := by
  show decide ((0 : Int) ≤ i ∧ (i : Int) ≤ ((i + 1 : Nat) : Int) ∧ ((i + 1 : Nat) : Int) ≤ (n : Int)) = true
  exact decide_eq_true (by omega)
theorem choose_L {a b : ByteArray} (ha : a.size ≤ 1000) {α : Type} (kx : Nat → List Leaf → Option α) (kr : List Leaf → Option α) : ∀ (m n i : Nat), i + m = a.size → m < n →
    feat_Choose_8_L kx kr n a (i : Int) b (a.size : Int) = match fi a.data.toList b.data.toList m i with | some j => kr [.s (slc a j), .b true] | none => kx 0 []
  | 0, n, i, h, hn => by
    obtain ⟨n, rfl⟩ : ∃ n', n = n' + 1 := ⟨n - 1, by omega⟩
    simp only [feat_Choose_8_L, feat_Choose_8_B, fi]
    rw [br_neg (by omega)]
  | m + 1, n, i, h, hn => by
    obtain ⟨n, rfl⟩ : ∃ n', n = n' + 1 := ⟨n - 1, by omega⟩
    have e1 : addI .i64 (i : Int) 1 = ((i + 1 : Nat) : Int) := by rw [addI_i (by unfold I63; omega)]; omega
    obtain ⟨v, hv, ev⟩ := index_t b (a.data.toList.getD i 0)
    simp only [feat_Choose_8_L, feat_Choose_8_B, fi]
    rw [br_pos (by omega), chk_pos (by omega)]
    simp only [one_ev, bt_n, ev, out_ev, un_i_ev, un_nil_ev, e1]
    rw [bdec hv]
    cases b.data.toList.contains (a.data.toList.getD i 0)
    · rw [cond_false, cond_false]
      exact choose_L ha kx kr m n (i + 1) (by omega) (by omega)
    · rw [cond_true, cond_true, cond_sl (show i < a.size by omega), chk_t]
      rfl
theorem num_L {v : ByteArray} (hv : v.size ≤ 1000) {α : Type} (kx : Nat → List Leaf → Option α) (kr : List Leaf → Option α) : ∀ (m n i : Nat) (x : Int), i + m = v.size → m < n → ∃ y, opt_Number_5_L kx kr n (i : Int) v x (v.size : Int) = kx 0 [.i y]
  | 0, n, i, x, h, hn => by
    obtain ⟨n, rfl⟩ : ∃ n', n = n' + 1 := ⟨n - 1, by omega⟩
    refine ⟨x, ?_⟩
    simp only [opt_Number_5_L, opt_Number_5_B]
    rw [br_neg (by omega)]
  | m + 1, n, i, x, h, hn => by
    obtain ⟨n, rfl⟩ : ∃ n', n = n' + 1 := ⟨n - 1, by omega⟩
    have e1 : addI .i64 (i : Int) 1 = ((i + 1 : Nat) : Int) := by rw [addI_i (by unfold I63; omega)]; omega
    obtain ⟨y, hy⟩ := num_L hv kx kr m n (i + 1) (orI .u64 (shlI .u64 x 8) (wrapI .u64 (bt v (i : Int)))) (by omega) (by omega)
    refine ⟨y, ?_⟩
    simp only [opt_Number_5_L, opt_Number_5_B]
    rw [br_pos (by omega), one_ev, chk_pos (by omega)]
    simp only [one_ev, e1]
    exact hy
theorem number_t {v : ByteArray} (hv : v.size ≤ 1000) : ∃ n m, feat_Number v = some [.i n, .b m] := by
  have q : ∃ n m, opt_Number v = some [.i n, .b m] := by
    unfold opt_Number opt_Number_d
    simp only [one_ev]
    by_cases h1 : (v.size : Int) < 1
    · exact ⟨_, _, by rw [br_pos h1]⟩
    · rw [br_neg h1]
      by_cases h2 : (v.size : Int) > 8
      · exact ⟨_, _, by rw [br_pos h2]⟩
      · rw [br_neg h2]
        obtain ⟨y, hy⟩ := num_L hv (α := List Leaf) (fun i642 r643 => br (Nat.beq 0 i642) (un_i r643 fun x644 r645 => un_nil r645 <| some [.i (x644), .b (true)]) none) (fun r646 => un_nil r646 none) v.size top 0 0 (by omega) (by unfold top; omega)
        refine ⟨y, true, ?_⟩
        refine Eq.trans ?_ (hy.trans ?_)
        · rfl
        · simp only [show Nat.beq 0 0 = true from rfl, br_t, un_i_ev, un_nil_ev]
  obtain ⟨n, m, q⟩ := q
  refine ⟨n, m, ?_⟩
  unfold feat_Number
  rw [q]
  simp only [out_ev, un_i_ev, un_b_ev, un_nil_ev, one_ev]
theorem may_L {v : ByteArray} {high low : Int} (hv : v.size ≤ 1000) : ∀ (m n i : Nat), i + m = v.size → m < n → ∃ r : Bool, ∀ {α : Type} (kx : Nat → List Leaf → Option α) (kr : List Leaf → Option α), feat_May_8_L kx kr n (i : Int) v high low (v.size : Int) = bif r then kx 0 [] else kr [.b false]
  | 0, n, i, h, hn => by
    obtain ⟨n, rfl⟩ : ∃ n', n = n' + 1 := ⟨n - 1, by omega⟩
    refine ⟨true, fun kx kr => ?_⟩
    simp only [feat_May_8_L, feat_May_8_B]
    rw [br_neg (by omega), cond_true]
  | m + 1, n, i, h, hn => by
    obtain ⟨n, rfl⟩ : ∃ n', n = n' + 1 := ⟨n - 1, by omega⟩
    have e1 : addI .i64 (i : Int) 1 = ((i + 1 : Nat) : Int) := by rw [addI_i (by unfold I63; omega)]; omega
    have c : condSl (v.size : Int) Option.none (Option.some (i : Int)) = true := by
      show decide ((0 : Int) ≤ i ∧ (i : Int) ≤ (v.size : Int)) = true
      exact decide_eq_true (by omega)
    obtain ⟨w, hw, ew⟩ := index_t (strSlO v Option.none (Option.some (i : Int))) (v.data.toList.getD i 0)
    obtain ⟨r, hr⟩ := may_L (high := high) (low := low) hv m n (i + 1) (by omega) (by omega)
    by_cases h1 : ((v.data.toList.getD i 0).toNat : Int) < low
    · refine ⟨false, fun kx kr => ?_⟩
      simp only [feat_May_8_L, feat_May_8_B, one_ev, bt_n]
      rw [br_pos (by omega), chk_pos (by omega), br_pos h1, cond_false]
    · by_cases h2 : ((v.data.toList.getD i 0).toNat : Int) > high
      · refine ⟨false, fun kx kr => ?_⟩
        simp only [feat_May_8_L, feat_May_8_B, one_ev, bt_n]
        rw [br_pos (by omega), chk_pos (by omega), br_neg h1, chk_pos (by omega), br_pos h2, cond_false]
      · by_cases h3 : w ≥ 0
        · refine ⟨false, fun kx kr => ?_⟩
          simp only [feat_May_8_L, feat_May_8_B, one_ev, bt_n]
          rw [br_pos (by omega), chk_pos (by omega), br_neg h1, chk_pos (by omega), br_neg h2, c, chk_t, chk_pos (by omega), ew]
          simp only [out_ev, un_i_ev, un_nil_ev]
          rw [br_pos h3, cond_false]
        · refine ⟨r, fun kx kr => ?_⟩
          rw [← hr kx kr]
          simp only [feat_May_8_L, feat_May_8_B, one_ev, bt_n, e1]
          rw [br_pos (by omega), chk_pos (by omega), br_neg h1, chk_pos (by omega), br_neg h2, c, chk_t, chk_pos (by omega), ew]
          simp only [out_ev, un_i_ev, un_nil_ev]
          rw [br_neg h3]
theorem list_t (f : Int) : ∃ m, feat_List f = some [.b m] := by
  unfold feat_List
  by_cases h1 : f = 1
  · exact ⟨_, by rw [br_eq h1]⟩
  · rw [br_ne h1]
    by_cases h2 : f = 6
    · exact ⟨_, by rw [br_eq h2]⟩
    · exact ⟨_, by rw [br_ne h2]⟩
theorem limits_t (f : Int) : ∃ a b c, feat_limits f = some [.i a, .i b, .i c] := by
  unfold feat_limits
  by_cases h1 : f = 1
  · exact ⟨_, _, _, by rw [br_eq h1]⟩
  · rw [br_ne h1]
    by_cases h2 : f = 6
    · exact ⟨_, _, _, by rw [br_eq h2]⟩
    · exact ⟨_, _, _, by rw [br_ne h2]⟩
theorem fmay_t {f : Int} {v : ByteArray} (hv : v.size ≤ 1000) : ∃ m, feat_May f v = some [.b m] := by
  unfold feat_May feat_May_d
  by_cases hf : f = 3
  · rw [br_eq hf]
    obtain ⟨n, m, e⟩ := number_t hv
    rw [e]
    simp only [out_ev, un_i_ev, un_b_ev, un_nil_ev, one_ev]
    by_cases h6 : (v.size : Int) = 6
    · rw [br_eq h6]
      by_cases h32 : n ≥ 32
      · exact ⟨_, by rw [br_pos h32]⟩
      · exact ⟨_, by rw [br_neg h32]⟩
    · exact ⟨_, by rw [br_ne h6]⟩
  · rw [br_ne hf]
    obtain ⟨n, low, high, e⟩ := limits_t f
    obtain ⟨l, el⟩ := list_t f
    rw [e, el]
    simp only [out_ev, un_i_ev, un_b_ev, un_nil_ev, one_ev]
    cases l
    · exact ⟨_, by rw [Bool.not_false, br_t]⟩
    · rw [Bool.not_true, br_f]
      by_cases h1 : (v.size : Int) < 1
      · exact ⟨_, by rw [br_pos h1]⟩
      · rw [br_neg h1]
        by_cases h2 : (v.size : Int) > n
        · exact ⟨_, by rw [br_pos h2]⟩
        · rw [br_neg h2]
          obtain ⟨r, hr⟩ := may_L (v := v) (high := high) (low := low) hv v.size top 0 (by omega) (by unfold top; omega)
          refine ⟨r, ?_⟩
          refine Eq.trans ?_ ((hr (α := List Leaf) (fun i719 r720 => br (Nat.beq 0 i719) (un_nil r720 <| some [.b (true)]) none) (fun r721 => un_b r721 fun x722 r723 => un_nil r723 <| some [.b (x722)])).trans ?_)
          · rfl
          · cases r
            · simp only [cond_false, un_b_ev, un_nil_ev]
            · simp only [cond_true, show Nat.beq 0 0 = true from rfl, br_t, un_nil_ev]
theorem size_cut {s : ByteArray} {n : Nat} (h : n ≤ s.size) : (strSlO s Option.none (Option.some (n : Int))).size = n := by
  show (strSl s 0 (n : Int)).size = n
  unfold strSl
  simp [ByteArray.size_extract]
  omega
theorem beq_b (s : ByteArray) : (s == s) = true := by
  cases s with
  | mk d =>
    show ByteArray.beq ⟨d⟩ ⟨d⟩ = true
    simp [ByteArray.beq]
end Go.Sx.T

