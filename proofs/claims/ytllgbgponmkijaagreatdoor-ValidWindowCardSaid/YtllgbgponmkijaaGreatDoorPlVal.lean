import Derived.Test.YtllgbgponmkijaaGreatDoorYValSpec
import Derived.Test.YtllgbgponmkijaaGreatDoorPlA
set_option linter.all false
namespace Go.Sx.T
open Go Go.Sx
theorem of_t {n : Int} (h : U n) : seq_Of n = some [.i (n % 281474976710656)] := by
  unfold seq_Of
  rw [one_ev, andI_mask h 48 (by decide) _ (by decide)]
  rfl
theorem add_t (s n : Int) : seq_Add s n = some [.i ((s + n) % 281474976710656)] := by
  unfold seq_Add
  have hu : U (addI .u64 s (wrapI .u64 n)) := by rw [addI_u]; unfold U; omega
  simp only [one_ev, of_t hu, out_ev, un_i_ev, un_nil_ev]
  rw [addI_u, wrapI_u]
  congr 3
  omega
theorem diff_t (a b : Int) : seq_Diff a b = some [.i (if (a - b) % 281474976710656 ≥ 140737488355328 then (a - b) % 281474976710656 - 281474976710656 else (a - b) % 281474976710656)] := by
  unfold seq_Diff
  have hu : U (subI .u64 a b) := by rw [subI_u]; unfold U; omega
  have e : subI .u64 a b % 281474976710656 = (a - b) % 281474976710656 := by rw [subI_u]; omega
  simp only [one_ev, of_t hu, out_ev, un_i_ev, un_nil_ev, e]
  obtain ⟨d, hd⟩ : ∃ d, d = (a - b) % 281474976710656 := ⟨_, rfl⟩
  rw [← hd, wrapI_i (by unfold I63; omega)]
  by_cases h : d ≥ 140737488355328
  · rw [br_pos h, if_pos h, subI_i (by unfold I63; omega)]
  · rw [br_neg h, if_neg h]
theorem less_t (a b : Int) : seq_Less a b = some [.b (decide ((a - b) % 281474976710656 ≥ 140737488355328))] := by
  unfold seq_Less
  simp only [diff_t, out_ev, un_i_ev, un_nil_ev]
  congr 3
  split
  · rename_i h; simp only [h, decide_true]; rw [decide_eq_true]; omega
  · rename_i h; simp only [h, decide_false]; rw [decide_eq_false]; omega
theorem in_t (l s h : Int) : seq_In l s h = some [.b (decide ((s - l) % 281474976710656 ≤ (h - l) % 281474976710656))] := by
  unfold seq_In
  have hu : U (subI .u64 s l) := by rw [subI_u]; unfold U; omega
  have hv : U (subI .u64 h l) := by rw [subI_u]; unfold U; omega
  have e : subI .u64 s l % 281474976710656 = (s - l) % 281474976710656 := by rw [subI_u]; omega
  have f : subI .u64 h l % 281474976710656 = (h - l) % 281474976710656 := by rw [subI_u]; omega
  simp only [one_ev, of_t hu, of_t hv, out_ev, un_i_ev, un_nil_ev, e, f]
theorem chk_T' {α : Type} (x : Option α) : chk (decide True && true) x = x := chk_T x
theorem max1_t {m t : Int} (hm : U m) (ht : U t) : seq_Max [m] t = some [.i ((if (t - m) % 281474976710656 ≥ 140737488355328 then m else t) % 281474976710656)] := by
  unfold seq_Max seq_Max_d
  have L : ∀ (n : Nat) {α : Type} (kx : Nat → List Leaf → Option α) (kr : List Leaf → Option α), seq_Max_2_L kx kr (n + 2) [m] 0 t 1 = kx 0 [.li [m], .i (if (t - m) % 281474976710656 ≥ 140737488355328 then m else t)] := by
    intro n α kx kr
    unfold seq_Max_2_L seq_Max_2_B
    rw [br_pos (by omega)]
    simp only [List.length_cons, List.length_nil, Nat.zero_add, Int.ofNat_eq_natCast, Int.natCast_one]
    rw [chk_pos (by omega), chk_pos (by omega)]
    simp only [Int.toNat_zero, List.getD_cons_zero, less_t, out_ev, un_b_ev, un_nil_ev, one_ev, show addI .i64 0 1 = 1 by decide]
    by_cases h : (t - m) % 281474976710656 ≥ 140737488355328
    · rw [br_pos h, if_pos h, chk_T]
      unfold seq_Max_2_L seq_Max_2_B
      rw [br_neg (by omega)]
    · rw [br_neg h, if_neg h, chk_T]
      unfold seq_Max_2_L seq_Max_2_B
      rw [br_neg (by omega)]
  simp only [one_ev, List.length_cons, List.length_nil, Nat.zero_add, Int.ofNat_eq_natCast, Int.natCast_one, chk_T]
  obtain ⟨k, hk⟩ : ∃ k, top = k + 2 := ⟨top - 2, by decide⟩
  rw [hk, L]
  have hu : U (if (t - m) % 281474976710656 ≥ 140737488355328 then m else t) := by split <;> assumption
  simp only [show Nat.beq 0 0 = true from rfl, br_t, un_li_ev, un_i_ev, un_nil_ev, of_t hu, out_ev, chk_T]
theorem rseq_t {n : Int} (h : U n) : ref_Seq n = some [.i (n % 281474976710656)] := by
  unfold ref_Seq
  rw [one_ev, remI_u h.1]
theorem rstep_t {s : Int} (n : Int) (h : U s) : ref_Step s n = some [.i ((s + n) % 281474976710656)] := by
  unfold ref_Step
  have e : remI .i64 n 281474976710656 = n.tmod 281474976710656 := rfl
  have t1 := Int.tmod_add_mul_tdiv n 281474976710656
  have t2 : -281474976710656 < n.tmod 281474976710656 ∧ n.tmod 281474976710656 < 281474976710656 := by
    rw [Int.tmod_eq_emod]
    split <;> omega
  rw [one_ev, e]
  obtain ⟨x, hx⟩ : ∃ x, x = n.tmod 281474976710656 := ⟨_, rfl⟩
  obtain ⟨q, hq⟩ : ∃ q, q = n.tdiv 281474976710656 := ⟨_, rfl⟩
  rw [← hx] at t1 t2 ⊢
  rw [← hq] at t1
  by_cases h0 : x < 0
  · rw [br_pos h0]
    have e1 : addI .i64 x 281474976710656 = x + 281474976710656 := addI_i (by unfold I63; omega)
    have e2 : wrapI .u64 (x + 281474976710656) = x + 281474976710656 := by rw [wrapI_u]; omega
    have e3 : addI .u64 (s % 281474976710656) (x + 281474976710656) = s % 281474976710656 + (x + 281474976710656) := by rw [addI_u]; omega
    simp only [one_ev, e1, e2, rseq_t h, out_ev, un_i_ev, un_nil_ev, e3]
    rw [rseq_t (by unfold U; omega)]
    simp only [out_ev, un_i_ev, un_nil_ev]
    congr 3
    omega
  · rw [br_neg h0]
    have e2 : wrapI .u64 x = x := by rw [wrapI_u]; omega
    have e3 : addI .u64 (s % 281474976710656) x = s % 281474976710656 + x := by rw [addI_u]; omega
    simp only [one_ev, e2, rseq_t h, out_ev, un_i_ev, un_nil_ev, e3]
    rw [rseq_t (by unfold U; omega)]
    simp only [out_ev, un_i_ev, un_nil_ev]
    congr 3
    omega
/-- The later one of two numbers that go round. -/
def lateI (m t : Int) : Int := (if (t - m) % 281474976710656 ≥ 140737488355328 then m else t) % 281474976710656
def winI (n : Int) : Int := min (max n 32) 1000
theorem windows_t {St g s gar iss isr mine th : Int} (hs : U s) (hiss : U iss) (hisr : U isr) : valid_Windows St s g gar iss isr mine th =
    some [.i (lateI isr ((g + (1 - winI th / 4)) % 281474976710656)), .i ((g + 3 * winI th / 4) % 281474976710656), .i (lateI iss ((s + (1 - winI mine)) % 281474976710656)), .i (s % 281474976710656)] := by
  unfold valid_Windows
  have w1 : 32 ≤ winI th ∧ winI th ≤ 1000 := by unfold winI; omega
  have w2 : 32 ≤ winI mine ∧ winI mine ≤ 1000 := by unfold winI; omega
  simp only [one_ev, maxI_eq, minI_eq]
  rw [show min (max th 32) 1000 = winI th from rfl, show min (max mine 32) 1000 = winI mine from rfl]
  have q1 : quoI .i64 (winI th) 4 = winI th / 4 := quoI_n (by omega) (by omega) (by omega)
  have q2 : mulI .i64 3 (winI th) = 3 * winI th := mulI_i (by unfold I63; omega)
  have q3 : quoI .i64 (3 * winI th) 4 = 3 * winI th / 4 := quoI_n (by omega) (by omega) (by omega)
  have q4 : subI .i64 1 (winI th / 4) = 1 - winI th / 4 := subI_i (by unfold I63; omega)
  have q5 : subI .i64 1 (winI mine) = 1 - winI mine := subI_i (by unfold I63; omega)
  have u1 : ∀ x : Int, U (x % 281474976710656) := fun x => by unfold U; omega
  simp only [q1, q2, q3, q4, q5, add_t, out_ev, un_i_ev, un_nil_ev, max1_t hisr (u1 _), max1_t hiss (u1 _), of_t hs]
  rfl
end Go.Sx.T

