import Derived.Test.YtllgbgponmkijaaGreatDoorPlChk
import Derived.Test.YtllgbgponmkijaaGreatDoorYR18Spec
set_option linter.all false
namespace Go.Sx.T
open Go Go.Sx
def M48 (x : Int) : Prop := 0 ≤ x ∧ x < 281474976710656
theorem M48.u {x : Int} (h : M48 x) : U x := by unfold M48 at h; unfold U; omega
theorem M48.mod (x : Int) : M48 (x % 281474976710656) := by unfold M48; omega
theorem rdiff_t {a b : Int} (ha : M48 a) (hb : M48 b) : ref_Diff a b = some [.i (if (a - b) % 281474976710656 ≥ 140737488355328 then (a - b) % 281474976710656 - 281474976710656 else (a - b) % 281474976710656)] := by
  unfold M48 at ha hb
  have ea : a % 281474976710656 = a := by omega
  have eb : b % 281474976710656 = b := by omega
  have e1 : addI .u64 a 281474976710656 = a + 281474976710656 := by rw [addI_u]; omega
  have e2 : subI .u64 (a + 281474976710656) b = a + 281474976710656 - b := by rw [subI_u]; omega
  have e3 : remI .u64 (a + 281474976710656 - b) 281474976710656 = (a - b) % 281474976710656 := by rw [remI_u (by omega)]; omega
  unfold ref_Diff
  simp only [rseq_t (show U a by unfold U; omega), rseq_t (show U b by unfold U; omega), out_ev, un_i_ev, un_nil_ev, one_ev, ea, eb, e1, e2, e3]
  obtain ⟨d, hd⟩ : ∃ d, d = (a - b) % 281474976710656 := ⟨_, rfl⟩
  rw [← hd, wrapI_i (by unfold I63; omega)]
  by_cases h : d ≥ 140737488355328
  · rw [br_pos h, if_pos h, subI_i (by unfold I63; omega)]
  · rw [br_neg h, if_neg h]
theorem rless_t {a b : Int} (ha : M48 a) (hb : M48 b) : ref_Less a b = some [.b (decide ((a - b) % 281474976710656 ≥ 140737488355328))] := by
  unfold ref_Less
  simp only [rdiff_t ha hb, out_ev, un_i_ev, un_nil_ev]
  congr 3
  split
  · rename_i h; simp only [h, decide_true]; rw [decide_eq_true]; omega
  · rename_i h; simp only [h, decide_false]; rw [decide_eq_false]; omega
theorem rin_t {l s h : Int} (hl : M48 l) (hs : M48 s) (hh : M48 h) : ref_In l s h = some [.b (decide ((s - l) % 281474976710656 ≤ (h - l) % 281474976710656))] := by
  unfold M48 at hl hs hh
  have el : l % 281474976710656 = l := by omega
  have e1 : addI .u64 s 281474976710656 = s + 281474976710656 := by rw [addI_u]; omega
  have e2 : subI .u64 (s + 281474976710656) l = s + 281474976710656 - l := by rw [subI_u]; omega
  have e3 : addI .u64 h 281474976710656 = h + 281474976710656 := by rw [addI_u]; omega
  have e4 : subI .u64 (h + 281474976710656) l = h + 281474976710656 - l := by rw [subI_u]; omega
  have e5 : (s + 281474976710656 - l) % 281474976710656 = (s - l) % 281474976710656 := by omega
  have e6 : (h + 281474976710656 - l) % 281474976710656 = (h - l) % 281474976710656 := by omega
  unfold ref_In
  simp only [one_ev, rseq_t (show U l by unfold U; omega), out_ev, un_i_ev, un_nil_ev, el, e1, e2, e3, e4, rseq_t (show U (s + 281474976710656 - l) by unfold U; omega), rseq_t (show U (h + 281474976710656 - l) by unfold U; omega), e5, e6]
theorem further_t {a b : Int} (ha : M48 a) (hb : M48 b) : r18_further a b = some [.i (if (a - b) % 281474976710656 ≥ 140737488355328 then b else a)] := by
  unfold r18_further
  simp only [rless_t ha hb, out_ev, un_b_ev, un_nil_ev]
  have ea : a % 281474976710656 = a := by unfold M48 at ha; omega
  have eb : b % 281474976710656 = b := by unfold M48 at hb; omega
  by_cases h : (a - b) % 281474976710656 ≥ 140737488355328
  · rw [br_pos h, if_pos h]; simp only [rseq_t hb.u, out_ev, un_i_ev, un_nil_ev, eb]
  · rw [br_neg h, if_neg h]; simp only [rseq_t ha.u, out_ev, un_i_ev, un_nil_ev, ea]
theorem lateI_eq {m t : Int} (hm : M48 m) (ht : M48 t) : lateI m t = if (t - m) % 281474976710656 ≥ 140737488355328 then m else t := by
  unfold M48 at hm ht
  unfold lateI
  split <;> omega
theorem rwindows_t {St g s gar iss isr mine th : Int} (hg : M48 g) (hs : M48 s) (hiss : M48 iss) (hisr : M48 isr) : r18_Windows St s g gar iss isr mine th =
    some [.i (lateI isr ((g + (1 - winI th / 4)) % 281474976710656)), .i ((g + 3 * winI th / 4) % 281474976710656), .i (lateI iss ((s + (1 - winI mine)) % 281474976710656)), .i (s % 281474976710656)] := by
  unfold r18_Windows
  have w1 : 32 ≤ winI th ∧ winI th ≤ 1000 := by unfold winI; omega
  have w2 : 32 ≤ winI mine ∧ winI mine ≤ 1000 := by unfold winI; omega
  have m1 : max 32 (min mine 1000) = winI mine := by unfold winI; omega
  have m2 : max 32 (min th 1000) = winI th := by unfold winI; omega
  simp only [one_ev, maxI_eq, minI_eq, m1, m2]
  have q1 : quoI .i64 (winI th) 4 = winI th / 4 := quoI_n (by omega) (by omega) (by omega)
  have q2 : mulI .i64 3 (winI th) = 3 * winI th := mulI_i (by unfold I63; omega)
  have q3 : quoI .i64 (3 * winI th) 4 = 3 * winI th / 4 := quoI_n (by omega) (by omega) (by omega)
  have q4 : subI .i64 1 (winI th / 4) = 1 - winI th / 4 := subI_i (by unfold I63; omega)
  have q5 : subI .i64 1 (winI mine) = 1 - winI mine := subI_i (by unfold I63; omega)
  simp only [q1, q2, q3, q4, q5, rstep_t _ hg.u, rstep_t _ hs.u, further_t (M48.mod _) hisr, further_t (M48.mod _) hiss, rseq_t hs.u, out_ev, un_i_ev, un_nil_ev, lateI_eq hisr (M48.mod _), lateI_eq hiss (M48.mod _)]
end Go.Sx.T

