import Derived.Test.YthcddikjnpbnjaaGreatDoorYFixSpec
import Derived.Test.YthcddikjnpbnjaaGreatDoorPlA
set_option linter.all false
namespace Go.Sx.T
open Go Go.Sx
theorem of_t {n : Int} (h : U n) : seq_Of n = some [.i (n % 281474976710656)] := by
  unfold seq_Of
  rw [one_ev, andI_mask h 48 (by decide) _ (by decide)]
  rfl
theorem add_t (s n : Int) : seq_Add s n = some [.i ((s + n) % 281474976710656)] := by
  unfold seq_Add
  have hu : U (addI .u64 s (wrapI .u64 n)) := by rw [addI_u]; unfold U; omega
  simp only [one_ev, of_t hu, out_ev, un_i_ev, un_nil_ev]
  rw [addI_u, wrapI_u]
  congr 3
  omega
theorem diff_t (a b : Int) : seq_Diff a b = some [.i (if (a - b) % 281474976710656 ≥ 140737488355328 then (a - b) % 281474976710656 - 281474976710656 else (a - b) % 281474976710656)] := by
  unfold seq_Diff
  have hu : U (subI .u64 a b) := by rw [subI_u]; unfold U; omega
  have e : subI .u64 a b % 281474976710656 = (a - b) % 281474976710656 := by rw [subI_u]; omega
  simp only [one_ev, of_t hu, out_ev, un_i_ev, un_nil_ev, e]
  obtain ⟨d, hd⟩ : ∃ d, d = (a - b) % 281474976710656 := ⟨_, rfl⟩
  rw [← hd, wrapI_i (by unfold I63; omega)]
  by_cases h : d ≥ 140737488355328
  · rw [br_pos h, if_pos h, subI_i (by unfold I63; omega)]
  · rw [br_neg h, if_neg h]
theorem less_t (a b : Int) : seq_Less a b = some [.b (decide ((a - b) % 281474976710656 ≥ 140737488355328))] := by
  unfold seq_Less
  simp only [diff_t, out_ev, un_i_ev, un_nil_ev]
  congr 3
  split
  · rename_i h; simp only [h, decide_true]; rw [decide_eq_true]; omega
  · rename_i h; simp only [h, decide_false]; rw [decide_eq_false]; omega
theorem rseq_t {n : Int} (h : U n) : ref_Seq n = some [.i (n % 281474976710656)] := by
  unfold ref_Seq
  rw [one_ev, remI_u h.1]
theorem rstep_t {s : Int} (n : Int) (h : U s) : ref_Step s n = some [.i ((s + n) % 281474976710656)] := by
  unfold ref_Step
  have e : remI .i64 n 281474976710656 = n.tmod 281474976710656 := rfl
  have t1 := Int.tmod_add_mul_tdiv n 281474976710656
  have t2 : -281474976710656 < n.tmod 281474976710656 ∧ n.tmod 281474976710656 < 281474976710656 := by
    rw [Int.tmod_eq_emod]
    split <;> omega
  rw [one_ev, e]
  obtain ⟨x, hx⟩ : ∃ x, x = n.tmod 281474976710656 := ⟨_, rfl⟩
  obtain ⟨q, hq⟩ : ∃ q, q = n.tdiv 281474976710656 := ⟨_, rfl⟩
  rw [← hx] at t1 t2 ⊢
  rw [← hq] at t1
  by_cases h0 : x < 0
  · rw [br_pos h0]
    have e1 : addI .i64 x 281474976710656 = x + 281474976710656 := addI_i (by unfold I63; omega)
    have e2 : wrapI .u64 (x + 281474976710656) = x + 281474976710656 := by rw [wrapI_u]; omega
    have e3 : addI .u64 (s % 281474976710656) (x + 281474976710656) = s % 281474976710656 + (x + 281474976710656) := by rw [addI_u]; omega
    simp only [one_ev, e1, e2, rseq_t h, out_ev, un_i_ev, un_nil_ev, e3]
    rw [rseq_t (by unfold U; omega)]
    simp only [out_ev, un_i_ev, un_nil_ev]
    congr 3
    omega
  · rw [br_neg h0]
    have e2 : wrapI .u64 x = x := by rw [wrapI_u]; omega
    have e3 : addI .u64 (s % 281474976710656) x = s % 281474976710656 + x := by rw [addI_u]; omega
    simp only [one_ev, e2, rseq_t h, out_ev, un_i_ev, un_nil_ev, e3]
    rw [rseq_t (by unfold U; omega)]
    simp only [out_ev, un_i_ev, un_nil_ev]
    congr 3
    omega
end Go.Sx.T

