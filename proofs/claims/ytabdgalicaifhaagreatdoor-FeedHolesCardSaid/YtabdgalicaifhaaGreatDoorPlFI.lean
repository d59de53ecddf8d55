import Derived.Test.YtabdgalicaifhaaGreatDoorPlFH
set_option linter.all false
namespace Go.Sx.T
open Go Go.Sx
theorem FeedHoles_true {first gap holes apart : Int} (hu : U first) : FeedHoles first gap holes apart = some [.b true] := by
  unfold FeedHoles FeedHoles_d
  obtain ⟨G', hG0, hG1, hG⟩ := rem_N (m := 20) (by omega) (by omega) gap
  obtain ⟨G, hGe⟩ : ∃ G, G = 4 + G' := ⟨_, rfl⟩
  have e1 : addI .i64 4 G' = G := by rw [addI_i (by unfold I63; omega)]; omega
  obtain ⟨H', hH0, hH1, hH⟩ := rem_N (m := 8) (by omega) (by omega) holes
  obtain ⟨Hs, hHe⟩ : ∃ Hs, Hs = 1 + H' := ⟨_, rfl⟩
  have e2 : addI .i64 1 H' = Hs := by rw [addI_i (by unfold I63; omega)]; omega
  obtain ⟨A, hA⟩ : ∃ A, A = max 0 (min apart 5000) := ⟨_, rfl⟩
  have hnew : feed_New 1000 = some [.li [], .li [], .li [], .lb [], .li [], .i 1000, .b false, .i 0, .i 0, .i 0, .i 0, .b false, .i 0, .i 0, .i 0, .i 0] := by kernel_rfl
  obtain ⟨n2, now, events, last, F, b1, b2, b3, b4, b5, b6⟩ := fh12 hu (gap := G) (apart := A) (holes := Hs) (by omega) (by omega) (by omega) Hs.toNat top 0 0 0 0 (-1152921504606846976) ⟨[], [], [], [], [], 1000, false, 0, 0, 0, 0, false, 0, 0, 0, 0⟩ (by omega) (by omega) (by omega) (by omega) (by omega) (by omega) (by omega) (by omega) (by omega) (.inl ⟨rfl, rfl, rfl, rfl, rfl, rfl⟩) (top_gt (by omega))
  simp only [one_ev, hG, e1, hH, e2, minI_eq, maxI_eq, ← hA, hnew, out_ev, un_li_ev, un_lb_ev, un_i_ev, un_b_ev, un_nil_ev, decide_true, Bool.and_true, chk_t]
  simp only at b6
  rw [b6]
  obtain ⟨S, F1, p1, p2, p3⟩ := blk_start b5 (by omega) (by omega) (by omega)
  obtain ⟨T, hT⟩ := top_s 1 (by omega)
  obtain ⟨F2, q1, q2, q3⟩ := fh25 (holes := Hs) (ev := events) hu (by omega) 4 T 1 n2 F1 (by omega) (by omega) (by omega) p2 p3 (by
    have : top = 1000000000000000000000000 := rfl
    omega)
  obtain ⟨d1, d2⟩ := evs_end q2 (by omega) (by omega)
  have hb0 := p2.b0
  have e6 : addI .i64 n2 1 = n2 + 1 := addI_i (by unfold I63; omega)
  have e7 : addI .i64 0 1 = 1 := by decide
  simp only [FS.ls, List.cons_append, List.nil_append, beq00, br_t, un_li_ev, un_lb_ev, un_i_ev, un_b_ev, un_nil_ev, decide_true, Bool.and_true, chk_t]
  rw [hT]
  simp only [FeedHoles_25_L, FeedHoles_25_B]
  rw [br_pos (show (0 : Int) < 5 by omega), rstep_t _ hu, show (first + n2) % 281474976710656 = ky first n2 from rfl]
  simp only [out_ev, un_i_ev, un_nil_ev, p1, FS.ls, List.cons_append, List.nil_append, un_li_ev, un_lb_ev, un_b_ev, one_ev, e6, e7, decide_true, Bool.and_true, chk_t]
  rw [q3]
  have hev : F2.ev = true := by rw [d2.ev, decide_eq_true (by omega)]
  have hll := d2.lst (by omega)
  have hcl := d2.cl
  have hle := d2.le
  have room : (Int.ofNat F2.cl.length * (↑(nat_lit 8) : Int) ≤ (140737488355328 : Int) ∧ Int.ofNat F2.cl.length ≤ (4611686018427387904 : Int)) := by
    simp only [Int.ofNat_eq_natCast]; constructor <;> omega
  have hne : F2.cl ≠ [] := fun x => by rw [x] at hll; simp at hll
  have hlp : 0 < F2.cl.length := List.length_pos_iff.2 hne
  have e8 : subI .i64 (Int.ofNat F2.cl.length) 1 = (F2.cl.length : Int) - 1 := subI_i (by unfold I63; simp only [Int.ofNat_eq_natCast]; omega)
  have e9 : wrapI .u64 G = G := by rw [wrapI_u]; omega
  have hgl : F2.cl.getD ((F2.cl.length : Int) - 1).toNat 0 = G := by
    rw [List.getLast?_eq_getElem?] at hll
    rw [show ((F2.cl.length : Int) - 1).toNat = F2.cl.length - 1 by omega, List.getD_eq_getElem?_getD, hll]
    rfl
  have hin : (0 : Int) ≤ (F2.cl.length : Int) - 1 ∧ (F2.cl.length : Int) - 1 < Int.ofNat F2.cl.length := by simp only [Int.ofNat_eq_natCast]; omega
  simp only [FS.ls, List.cons_append, List.nil_append, show Nat.beq 4 4 = true from rfl, br_t, un_li_ev, un_lb_ev, un_i_ev, un_b_ev, un_nil_ev, decide_true, Bool.and_true, Bool.true_and, chk_t, feed_Intervals, hev, Bool.not_true, br_f, diffD_t, out_ev, one_ev, room, and_self, feed_Lost, d2.ct, minI_eq, e8, e9]
  rw [br_eq rfl, br_eq (by simp only [Int.ofNat_eq_natCast]; omega), chk_pos hin, chk_pos hin, br_eq hgl]
end Go.Sx.T

