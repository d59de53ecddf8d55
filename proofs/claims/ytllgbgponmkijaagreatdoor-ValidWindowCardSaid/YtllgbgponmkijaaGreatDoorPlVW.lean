import Derived.Test.YtllgbgponmkijaaGreatDoorPlR18
import Derived.Test.YtllgbgponmkijaaGreatDoorYVWSpec
set_option linter.all false
namespace Go.Sx.T
open Go Go.Sx
section
variable {g s n : Int}
theorem lateI_far {x n : Int} (hx : M48 x) (h1 : -2000 ≤ n) (h2 : n ≤ 2000) : lateI ((x + -5000) % 281474976710656) ((x + n) % 281474976710656) = (x + n) % 281474976710656 := by
  unfold M48 at hx
  unfold lateI
  rw [if_neg (by omega)]
  omega
theorem winds (hg : M48 g) (hs : M48 s) (h1 : 32 ≤ n) (h2 : n ≤ 1000) :
    valid_Windows 5 s g s ((s + -5000) % 281474976710656) ((g + -5000) % 281474976710656) n n =
      some [.i ((g + (1 - n / 4)) % 281474976710656), .i ((g + 3 * n / 4) % 281474976710656), .i ((s + (1 - n)) % 281474976710656), .i s] := by
  have hw : winI n = n := by unfold winI; omega
  rw [windows_t hs.u (M48.mod _).u (M48.mod _).u, hw, lateI_far hg (by omega) (by omega), lateI_far hs (by omega) (by omega), show s % 281474976710656 = s by unfold M48 at hs; omega]
theorem sub_m (g a b : Int) : ((g + a) % 281474976710656 - (g + b) % 281474976710656) % 281474976710656 = (a - b) % 281474976710656 := by omega
theorem chk2 (hg : M48 g) (hs : M48 s) (h1 : 32 ≤ n) (h2 : n ≤ 1000) {d : Int} (d1 : -2000 ≤ d) (d2 : d ≤ 2000) :
    valid_Check 5 s g s ((s + -5000) % 281474976710656) ((g + -5000) % 281474976710656) n n 0 0 0 0 0 0 2 true ((g + d) % 281474976710656) 0 0 0 0 0 0 ByteArray.empty = some [.i (if 1 - n / 4 ≤ d ∧ d ≤ 3 * n / 4 then 1 else 2)] := by
  rw [check_t (winds hg hs h1 h2) (judge_t (winds hg hs h1 h2) (by omega))]
  obtain ⟨q, hq⟩ : ∃ q, q = n / 4 := ⟨_, rfl⟩
  obtain ⟨r, hr⟩ : ∃ r, r = 3 * n / 4 := ⟨_, rfl⟩
  have hb : 8 ≤ q ∧ q ≤ 250 ∧ 24 ≤ r ∧ r ≤ 750 := by omega
  unfold M48 at hg
  rw [← hq, ← hr]
  have e : decide (((g + d) % 281474976710656 - (g + (1 - q)) % 281474976710656) % 281474976710656 ≤ ((g + r) % 281474976710656 - (g + (1 - q)) % 281474976710656) % 281474976710656) = decide (1 - q ≤ d ∧ d ≤ r) := by
    rw [decide_eq_decide, sub_m, sub_m, show (r - (1 - q)) % 281474976710656 = r - (1 - q) by clear hq hr; omega]
    clear hq hr
    omega
  rw [e]
  by_cases h : 1 - q ≤ d ∧ d ≤ r
  · rw [decide_eq_true h, if_pos h]; simp [checkI, judgeB]
  · rw [decide_eq_false h, if_neg h]; simp [checkI, judgeB]
theorem chk3 (hg : M48 g) (hs : M48 s) (h1 : 32 ≤ n) (h2 : n ≤ 1000) {d : Int} (d1 : -2000 ≤ d) (d2 : d ≤ 2000) :
    valid_Check 5 s g s ((s + -5000) % 281474976710656) ((g + -5000) % 281474976710656) n n 0 0 0 0 0 0 3 true g ((s + d) % 281474976710656) 0 0 0 0 0 ByteArray.empty = some [.i (if 1 - n ≤ d ∧ d ≤ 0 then 1 else 2)] := by
  rw [check_t (winds hg hs h1 h2) (judge_t (winds hg hs h1 h2) (by omega))]
  obtain ⟨q, hq⟩ : ∃ q, q = n / 4 := ⟨_, rfl⟩
  obtain ⟨r, hr⟩ : ∃ r, r = 3 * n / 4 := ⟨_, rfl⟩
  have hb : 8 ≤ q ∧ q ≤ 250 ∧ 24 ≤ r ∧ r ≤ 750 := by omega
  unfold M48 at hg hs
  rw [← hq, ← hr]
  have e1 : decide ((g - (g + (1 - q)) % 281474976710656) % 281474976710656 ≤ ((g + r) % 281474976710656 - (g + (1 - q)) % 281474976710656) % 281474976710656) = true := decide_eq_true (by clear hq hr; omega)
  have e2 : decide (((s + d) % 281474976710656 - (s + (1 - n)) % 281474976710656) % 281474976710656 ≤ (s - (s + (1 - n)) % 281474976710656) % 281474976710656) = decide (1 - n ≤ d ∧ d ≤ 0) := by
    rw [decide_eq_decide]
    clear hq hr
    omega
  rw [e1, e2]
  by_cases h : 1 - n ≤ d ∧ d ≤ 0
  · rw [decide_eq_true h, if_pos h]; simp [checkI, judgeB]
  · rw [decide_eq_false h, if_neg h]; simp [checkI, judgeB]
theorem getD_all {l : List Int} {p : Int → Prop} (h : ∀ x ∈ l, p x) {j : Int} (h0 : 0 ≤ j) (h1 : j < (l.length : Int)) : p (l.getD j.toNat 0) := by
  have hj : j.toNat < l.length := by omega
  rw [List.getD_eq_getElem?_getD, List.getElem?_eq_getElem hj]
  exact h _ (List.getElem_mem hj)
theorem vw10 (hg : M48 g) (hs : M48 s) (h1 : 32 ≤ n) (h2 : n ≤ 1000) {l : List Int} {low high n2 : Int} (el : low = 1 - n / 4) (eh : high = 3 * n / 4) (hl : ∀ x ∈ l, -2000 ≤ x ∧ x ≤ 2000 ∧ ((low ≤ x ∧ x ≤ high) ↔ (x = low ∨ x = high)))
    {α : Type} (kx : Nat → List Leaf → Option α) (kr : List Leaf → Option α) : ∀ (m k : Nat) (j : Int), 0 ≤ j → j + m = (l.length : Int) → l.length < 1000 → m < k →
      ValidWindow_10_L kx kr k l 5 s g s ((s + -5000) % 281474976710656) ((g + -5000) % 281474976710656) n n j high low n2 (l.length : Int) =
        kx 0 [.i 5, .i s, .i g, .i s, .i ((s + -5000) % 281474976710656), .i ((g + -5000) % 281474976710656), .i n, .i n, .i n2]
  | 0, k, j, hj, hm, hn, hk => by
    obtain ⟨k, rfl⟩ : ∃ k', k = k' + 1 := ⟨k - 1, by omega⟩
    simp only [ValidWindow_10_L, ValidWindow_10_B]
    rw [br_neg (by omega)]
  | m + 1, k, j, hj, hm, hn, hk => by
    obtain ⟨k, rfl⟩ : ∃ k', k = k' + 1 := ⟨k - 1, by omega⟩
    have hlt : j < Int.ofNat l.length := by simp; omega
    obtain ⟨p1, p2, p3⟩ := getD_all hl hj (by omega)
    obtain ⟨d, hd⟩ : ∃ d, d = l.getD j.toNat 0 := ⟨_, rfl⟩
    rw [← hd] at p1 p2 p3
    have e3 : addI .i64 j 1 = j + 1 := addI_i (by unfold I63; omega)
    have ih := vw10 hg hs h1 h2 el eh hl kx kr m k (j + 1) (by omega) (by omega) hn (by omega) (n2 := n2)
    simp only [ValidWindow_10_L, ValidWindow_10_B, ← hd]
    rw [br_pos (by omega), chk_pos ⟨hj, hlt⟩, chk_pos ⟨hj, hlt⟩]
    simp only [rstep_t _ hg.u, out_ev, un_i_ev, un_nil_ev, chk2 hg hs h1 h2 p1 p2, one_ev, e3, chk_len, ← el, ← eh]
    by_cases h : d = low
    · rw [br_eq h, if_pos (p3.2 (.inl h))]
      exact ih
    · rw [br_ne h]
      by_cases hh : d = high
      · rw [if_pos (p3.2 (.inr hh)), beq_iff_eq.2 hh]
        exact ih
      · rw [if_neg (fun x => by rcases p3.1 x with y | y; exact h y; exact hh y), beq_eq_false_iff_ne.2 hh]
        exact ih
theorem vw17 (hg : M48 g) (hs : M48 s) (h1 : 32 ≤ n) (h2 : n ≤ 1000) {l : List Int} (hl : ∀ x ∈ l, -2000 ≤ x ∧ x ≤ 2000 ∧ ((1 - n ≤ x ∧ x ≤ 0) ↔ (x = 0 ∨ x = 1 - n)))
    {α : Type} (kx : Nat → List Leaf → Option α) (kr : List Leaf → Option α) : ∀ (m k : Nat) (j : Int), 0 ≤ j → j + m = (l.length : Int) → l.length < 1000 → m < k →
      ValidWindow_17_L kx kr k l 5 s g s ((s + -5000) % 281474976710656) ((g + -5000) % 281474976710656) n n j n (l.length : Int) =
        kx 2 [.i 5, .i s, .i g, .i s, .i ((s + -5000) % 281474976710656), .i ((g + -5000) % 281474976710656), .i n, .i n]
  | 0, k, j, hj, hm, hn, hk => by
    obtain ⟨k, rfl⟩ : ∃ k', k = k' + 1 := ⟨k - 1, by omega⟩
    simp only [ValidWindow_17_L, ValidWindow_17_B]
    rw [br_neg (by omega)]
  | m + 1, k, j, hj, hm, hn, hk => by
    obtain ⟨k, rfl⟩ : ∃ k', k = k' + 1 := ⟨k - 1, by omega⟩
    have hlt : j < Int.ofNat l.length := by simp; omega
    obtain ⟨p1, p2, p3⟩ := getD_all hl hj (by omega)
    obtain ⟨d, hd⟩ : ∃ d, d = l.getD j.toNat 0 := ⟨_, rfl⟩
    rw [← hd] at p1 p2 p3
    have e3 : addI .i64 j 1 = j + 1 := addI_i (by unfold I63; omega)
    have e4 : subI .i64 1 n = 1 - n := subI_i (by unfold I63; omega)
    have ih := vw17 hg hs h1 h2 hl kx kr m k (j + 1) (by omega) (by omega) hn (by omega)
    simp only [ValidWindow_17_L, ValidWindow_17_B, ← hd]
    rw [br_pos (by omega), chk_pos ⟨hj, hlt⟩, chk_pos ⟨hj, hlt⟩]
    simp only [rstep_t _ hs.u, out_ev, un_i_ev, un_nil_ev, chk3 hg hs h1 h2 p1 p2, one_ev, e3, e4, chk_len]
    by_cases h : d = 0
    · rw [br_eq h, if_pos (p3.2 (.inl h))]
      exact ih
    · rw [br_ne h]
      by_cases hh : d = 1 - n
      · rw [if_pos (p3.2 (.inr hh)), beq_iff_eq.2 hh]
        exact ih
      · rw [if_neg (fun x => by rcases p3.1 x with y | y; exact h y; exact hh y), beq_eq_false_iff_ne.2 hh]
        exact ih
theorem rcheck (hg : M48 g) (hs : M48 s) (h1 : 32 ≤ n) (h2 : n ≤ 1000) :
    r18_Check 5 s g s ((s + -5000) % 281474976710656) ((g + -5000) % 281474976710656) n n 0 0 0 0 0 0 2 false g 0 0 0 0 0 0 ByteArray.empty = some [.i 1] := by
  have hw : winI n = n := by unfold winI; omega
  have hs' : s % 281474976710656 = s := by unfold M48 at hs; omega
  have h0 : M48 0 := by unfold M48; omega
  have hd : decide ((g - (g + (1 - n / 4)) % 281474976710656) % 281474976710656 ≤ ((g + 3 * n / 4) % 281474976710656 - (g + (1 - n / 4)) % 281474976710656) % 281474976710656) = true := by
    obtain ⟨q, hq⟩ : ∃ q, q = n / 4 := ⟨_, rfl⟩
    obtain ⟨r, hr⟩ : ∃ r, r = 3 * n / 4 := ⟨_, rfl⟩
    have hb : 8 ≤ q ∧ q ≤ 250 ∧ 24 ≤ r ∧ r ≤ 750 := by omega
    unfold M48 at hg
    rw [← hq, ← hr]
    exact decide_eq_true (by clear hq hr; omega)
  unfold r18_Check
  simp only [rwindows_t hg hs (M48.mod _) (M48.mod _), hw, lateI_far hg (show -2000 ≤ 1 - n / 4 by omega) (show 1 - n / 4 ≤ 2000 by omega), lateI_far hs (show -2000 ≤ 1 - n by omega) (show 1 - n ≤ 2000 by omega), hs', out_ev, un_i_ev, un_b_ev, un_nil_ev,
    rin_t (M48.mod _) h0 hs, rin_t (M48.mod _) hg (M48.mod _), rstep_t _ hg.u, rin_t hs h0 hs, hd]
  generalize decide ((g - (g + 1) % 281474976710656) % 281474976710656 ≤ ((g + 3 * n / 4) % 281474976710656 - (g + 1) % 281474976710656) % 281474976710656) = a
  cases a <;> rfl
end
theorem ValidWindow_true {v0 v1 v2 v3 v4 v5 v6 v7 w : Int} (_ : I63 v0) (h1 : U v1) (h2 : U v2) (_ : U v3) (_ : U v4) (_ : U v5) (_ : I63 v6) (_ : I63 v7) : ValidWindow v0 v1 v2 v3 v4 v5 v6 v7 w = some [.b true] := by
  obtain ⟨N, hN0, hN1, eN⟩ := rem_N (m := 969) (by decide) (by decide) w
  obtain ⟨n, hn⟩ : ∃ n, n = 32 + N := ⟨_, rfl⟩
  have e1 : addI .i64 32 N = n := by rw [addI_i (show I63 (32 + N) by unfold I63; omega), hn]
  have n1 : 32 ≤ n := by omega
  have n2 : n ≤ 1000 := by omega
  obtain ⟨g, hg⟩ : ∃ g, g = v2 % 281474976710656 := ⟨_, rfl⟩
  obtain ⟨s, hs⟩ : ∃ s, s = v1 % 281474976710656 := ⟨_, rfl⟩
  have hg' : M48 g := by unfold M48; omega
  have hs' : M48 s := by unfold M48; omega
  have q1 : quoI .i64 n 4 = n / 4 := quoI_n (by omega) (by omega) (by omega)
  have q2 : mulI .i64 3 n = 3 * n := mulI_i (by unfold I63; omega)
  have q3 : quoI .i64 (3 * n) 4 = 3 * n / 4 := quoI_n (by omega) (by omega) (by omega)
  have q4 : subI .i64 1 (n / 4) = 1 - n / 4 := subI_i (by unfold I63; omega)
  have q5 : subI .i64 (1 - n / 4) 1 = 1 - n / 4 - 1 := subI_i (by unfold I63; omega)
  have q6 : addI .i64 (3 * n / 4) 1 = 3 * n / 4 + 1 := addI_i (by unfold I63; omega)
  have q7 : subI .i64 0 n = 0 - n := subI_i (by unfold I63; omega)
  have q8 : subI .i64 1 n = 1 - n := subI_i (by unfold I63; omega)
  unfold ValidWindow ValidWindow_d
  simp only [one_ev, eN, e1, rseq_t h1, rseq_t h2, out_ev, un_i_ev, un_nil_ev, ← hg, ← hs, rstep_t _ hg'.u, rstep_t _ hs'.u, q1, q2, q3, q4, q5, q6]
  have c4 : ∀ (a b c d : Int) (x : Option (List Leaf)), chk (decide ((↑(4 : Nat) : Int) = Int.ofNat (List.length [a, b, c, d])) && true) x = x := fun a b c d x => by rw [show decide ((↑(4 : Nat) : Int) = Int.ofNat (List.length [a, b, c, d])) = true from decide_eq_true rfl]; rfl
  rw [c4]
  have l1 : ∀ x ∈ [1 - n / 4 - 1, 1 - n / 4, 3 * n / 4, 3 * n / 4 + 1], -2000 ≤ x ∧ x ≤ 2000 ∧ ((1 - n / 4 ≤ x ∧ x ≤ 3 * n / 4) ↔ (x = 1 - n / 4 ∨ x = 3 * n / 4)) := by
    intro x hx
    simp only [List.mem_cons, List.not_mem_nil, or_false] at hx
    rcases hx with rfl | rfl | rfl | rfl <;> omega
  have l2 : ∀ x ∈ [0 - n, 1 - n, 0, 1], -2000 ≤ x ∧ x ≤ 2000 ∧ ((1 - n ≤ x ∧ x ≤ 0) ↔ (x = 0 ∨ x = 1 - n)) := by
    intro x hx
    simp only [List.mem_cons, List.not_mem_nil, or_false] at hx
    rcases hx with rfl | rfl | rfl | rfl <;> omega
  refine (vw10 hg' hs' n1 n2 rfl rfl l1 _ _ 4 top 0 (by omega) (by rfl) (by simp) (by decide)).trans ?_
  simp only [beq00, br_t, un_i_ev, un_nil_ev, one_ev, q7, q8]
  rw [c4]
  refine (vw17 hg' hs' n1 n2 l2 _ _ 4 top 0 (by omega) (by rfl) (by simp) (by decide)).trans ?_
  simp only [show Nat.beq 2 2 = true from rfl, br_t, un_i_ev, un_nil_ev, rcheck hg' hs' n1 n2, out_ev]
  rfl
end Go.Sx.T

