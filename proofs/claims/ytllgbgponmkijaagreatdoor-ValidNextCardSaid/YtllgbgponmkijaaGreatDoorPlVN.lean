import Derived.Test.YtllgbgponmkijaaGreatDoorPlVS
import Derived.Test.YtllgbgponmkijaaGreatDoorYVNSpec
set_option linter.all false
namespace Go.Sx.T
open Go Go.Sx
theorem check_far {g s mine th T S A k : Int} (hg : 0 ≤ g ∧ g < 281474976710656) (hs : 0 ≤ s ∧ s < 281474976710656) (hT : 2 ≤ T ∧ T ≤ 9) (hS : S = (g + k) % 281474976710656)
    (hk : (800 ≤ k ∧ k < 2199023255552 ∧ T ≤ 7) ∨ (-2199023255552 < k ∧ k ≤ -1 ∧ 8 ≤ T)) :
    valid_Check 5 s g s s g mine th 0 0 0 0 0 0 T true S A 0 0 0 0 0 ByteArray.empty = some [.i (if T ≤ 7 then 2 else 3)] := by
  have w1 : 32 ≤ winI th ∧ winI th ≤ 1000 := by unfold winI; omega
  have w2 : 32 ≤ winI mine ∧ winI mine ≤ 1000 := by unfold winI; omega
  have hW := windows_t (St := 5) (g := g) (s := s) (gar := s) (iss := s) (isr := g) (mine := mine) (th := th) (by unfold U; omega) (by unfold U; omega) (by unfold U; omega)
  obtain ⟨swl, e1⟩ : ∃ x, x = lateI g ((g + (1 - winI th / 4)) % 281474976710656) := ⟨_, rfl⟩
  obtain ⟨awl, e2⟩ : ∃ x, x = lateI s ((s + (1 - winI mine)) % 281474976710656) := ⟨_, rfl⟩
  obtain ⟨q, hq⟩ : ∃ q, q = 3 * winI th / 4 := ⟨_, rfl⟩
  have q1 : 24 ≤ q ∧ q ≤ 750 := by omega
  rw [← hq] at hW
  clear hq
  obtain ⟨swh, e3⟩ : ∃ x, x = (g + q) % 281474976710656 := ⟨_, rfl⟩
  rw [← e1, ← e2, ← e3] at hW
  have f1 : swl = g := by rcases lateI_back hg.1 hg.2 (n := winI th / 4) (by omega) (by omega) with h | h <;> omega
  have f2 : awl = s := by rcases lateI_back hs.1 hs.2 (n := winI mine) (by omega) (by omega) with h | h <;> omega
  subst f1 f2
  rw [check_t hW (judge_t hW (by omega))]
  generalize decide ((A - awl) % 281474976710656 ≤ (awl % 281474976710656 - awl) % 281474976710656) = p2
  rcases hk with ⟨h1, h2, h3⟩ | ⟨h1, h2, h3⟩
  · have d1 : decide ((S - swl) % 281474976710656 ≤ (swh - swl) % 281474976710656) = false := decide_eq_false (by omega)
    have d3 : decide ((S - (swl + 1) % 281474976710656) % 281474976710656 ≤ (swh - (swl + 1) % 281474976710656) % 281474976710656) = false := decide_eq_false (by omega)
    rw [d1, d3, if_pos h3]
    generalize decide ((S - swl) % 281474976710656 ≥ 140737488355328) = p5
    have hc : T = 2 ∨ T = 3 ∨ T = 4 ∨ T = 5 ∨ T = 6 ∨ T = 7 := by omega
    rcases hc with rfl | rfl | rfl | rfl | rfl | rfl <;> simp [checkI, judgeB]
  · have d5 : decide ((S - swl) % 281474976710656 ≥ 140737488355328) = true := decide_eq_true (by omega)
    rw [d5, if_neg (by omega)]
    generalize decide ((S - swl) % 281474976710656 ≤ (swh - swl) % 281474976710656) = p1
    have hc : T = 8 ∨ T = 9 := by omega
    rcases hc with rfl | rfl <;> simp [checkI, judgeB]
theorem okB5 {T : Int} (hT : 2 ≤ T ∧ T ≤ 9) : okB 5 T = true := by
  have hc : T = 2 ∨ T = 3 ∨ T = 4 ∨ T = 5 ∨ T = 6 ∨ T = 7 ∨ T = 8 ∨ T = 9 := by omega
  rcases hc with rfl | rfl | rfl | rfl | rfl | rfl | rfl | rfl <;> decide
theorem getT8 {N : Int} (h0 : 0 ≤ N) (h1 : N < 8) : List.getD [(2 : Int), 3, 4, 5, 6, 7, 8, 9] N.toNat 0 = N + 2 := by
  have hc : N = 0 ∨ N = 1 ∨ N = 2 ∨ N = 3 ∨ N = 4 ∨ N = 5 ∨ N = 6 ∨ N = 7 := by omega
  rcases hc with rfl | rfl | rfl | rfl | rfl | rfl | rfl | rfl <;> decide
theorem answer_far {g s mine th T S A k : Int} (hg : 0 ≤ g ∧ g < 281474976710656) (hs : 0 ≤ s ∧ s < 281474976710656) (hT : 2 ≤ T ∧ T ≤ 7) (hS : S = (g + k) % 281474976710656)
    (hk : 800 ≤ k ∧ k < 2199023255552) :
    valid_Answer 5 s g s s g mine th 0 0 0 0 0 0 T true S A 0 0 0 0 0 ByteArray.empty = some [.i (if T = 7 then g else S), .b true] := by
  unfold valid_Answer
  rw [check_far hg hs (by omega) hS (.inl ⟨hk.1, hk.2, hT.2⟩), if_pos hT.2]
  simp only [out_ev, un_i_ev, un_nil_ev, bne_self_eq_false, br_f, valid_Long, br_t, un_b_ev, un_s_ev, of_t (show U g by unfold U; omega)]
  by_cases h7 : T = 7
  · rw [br_eq h7, if_pos h7, show g % 281474976710656 = g by omega]
  · rw [br_ne h7, if_neg h7]
theorem ValidNext_true {v0 v1 v2 v3 v4 v5 v6 v7 t far : Int} (_ : I63 v0) (h1 : U v1) (h2 : U v2) (_ : U v3) (_ : U v4) (_ : U v5) (_ : I63 v6) (_ : I63 v7) (hf : U far) : ValidNext v0 v1 v2 v3 v4 v5 v6 v7 t far = some [.b true] := by
  obtain ⟨N, hN0, hN1, eN⟩ := rem_N (m := 8) (by decide) (by decide) t
  obtain ⟨T, hT⟩ : ∃ T, T = N + 2 := ⟨_, rfl⟩
  have gT := getT8 hN0 hN1
  rw [← hT] at gT
  obtain ⟨F, hF⟩ : ∃ F, F = far % 1099511627776 := ⟨_, rfl⟩
  have e1 : remI .u64 far 1099511627776 = F := by rw [remI_u hf.1, hF]
  have e2 : wrapI .i64 F = F := wrapI_i (by unfold I63; omega)
  have e3 : subI .i64 (-1) F = -1 - F := subI_i (by unfold I63; omega)
  have e4 : addI .i64 800 F = 800 + F := addI_i (by unfold I63; omega)
  obtain ⟨g, hg⟩ : ∃ g, g = v2 % 281474976710656 := ⟨_, rfl⟩
  obtain ⟨s, hs⟩ : ∃ s, s = v1 % 281474976710656 := ⟨_, rfl⟩
  have hg' : 0 ≤ g ∧ g < 281474976710656 := by omega
  have hs' : 0 ≤ s ∧ s < 281474976710656 := by omega
  have gU : U g := by unfold U; omega
  have first : ∀ A : Int, (A = s ∨ T = 0 ∨ T = 2) → valid_Check 5 s g s s g v6 v7 0 0 0 0 0 0 T true ((g + 1) % 281474976710656) A 0 0 0 0 0 ByteArray.empty = some [.i 1] := by
    intro A hA
    obtain ⟨r, h1, h2⟩ := check_std (St := 5) (mine := v6) (th := v7) (T := T) hg' hs' (by omega) hA
    rw [h1, h2.2 (okB5 (by omega))]
  unfold ValidNext
  simp only [one_ev, eN, rseq_t h1, rseq_t h2, out_ev, un_i_ev, un_nil_ev, ← hg, ← hs, gT, rstep_t _ gU, e1, e2, e3, e4]
  rw [chk_pos ⟨hN0, hN1⟩, chk_pos ⟨hN0, hN1⟩]
  have both : ∀ A : Int, (A = s ∨ T = 0 ∨ T = 2) →
      (out (valid_Check 5 s g s s g v6 v7 0 0 0 0 0 0 T true ((g + 1) % 281474976710656) A 0 0 0 0 0 ByteArray.empty) fun r => un_i r fun x r => un_nil r <|
        br (x != 1) (some [Leaf.b false]) (br (decide (T ≥ 8))
          (out (valid_Check 5 s g s s g v6 v7 0 0 0 0 0 0 T true ((g + (-1 - F)) % 281474976710656) A 0 0 0 0 0 ByteArray.empty) fun r => un_i r fun x r => un_nil r <| some [Leaf.b (x == 3)])
          (out (valid_Answer 5 s g s s g v6 v7 0 0 0 0 0 0 T true ((g + (800 + F)) % 281474976710656) A 0 0 0 0 0 ByteArray.empty) fun r => un_i r fun a r => un_b r fun b r => un_nil r <|
            br (T == 7)
              (out (valid_Check 5 s g s s g v6 v7 0 0 0 0 0 0 T true ((g + (800 + F)) % 281474976710656) A 0 0 0 0 0 ByteArray.empty) fun r => un_i r fun x r => un_nil r <|
                br (x == 2) (br b (some [Leaf.b (a == g)]) (some [Leaf.b false])) (some [Leaf.b false]))
              (out (valid_Check 5 s g s s g v6 v7 0 0 0 0 0 0 T true ((g + (800 + F)) % 281474976710656) A 0 0 0 0 0 ByteArray.empty) fun r => un_i r fun x r => un_nil r <|
                br (x == 2) (br b (some [Leaf.b (a == (g + (800 + F)) % 281474976710656)]) (some [Leaf.b false])) (some [Leaf.b false]))))) = some [Leaf.b true] := by
    intro A hA
    simp only [first A hA, out_ev, un_i_ev, un_nil_ev, bne_self_eq_false, br_f]
    by_cases h8 : T ≥ 8
    · rw [br_pos h8, check_far hg' hs' (by omega) rfl (.inr ⟨by omega, by omega, h8⟩), if_neg (by omega)]
      rfl
    · rw [br_neg h8, answer_far hg' hs' (by omega) rfl ⟨by omega, by omega⟩, check_far hg' hs' (by omega) rfl (.inl ⟨by omega, by omega, by omega⟩), if_pos (show T ≤ 7 by omega)]
      simp only [out_ev, un_i_ev, un_b_ev, un_nil_ev, beq_self_eq_true, br_t]
      by_cases h7 : T = 7
      · rw [br_eq h7, if_pos h7, beq_self_eq_true]
      · rw [br_ne h7, if_neg h7, beq_self_eq_true]
  by_cases hd : T = 2
  · rw [br_eq hd]
    exact both 0 (.inr (.inr hd))
  · rw [br_ne hd]
    exact both s (.inl rfl)
end Go.Sx.T

