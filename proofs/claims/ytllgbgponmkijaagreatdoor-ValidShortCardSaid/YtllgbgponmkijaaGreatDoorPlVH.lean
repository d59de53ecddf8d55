import Derived.Test.YtllgbgponmkijaaGreatDoorPlR18
import Derived.Test.YtllgbgponmkijaaGreatDoorL6
import Derived.Test.YtllgbgponmkijaaGreatDoorYVHSpec
set_option linter.all false
namespace Go.Sx.T
open Go Go.Sx
theorem wrapI_u32 {a : Int} (h0 : 0 ≤ a) (h1 : a < 4294967296) : wrapI .u32 a = a := by
  unfold wrapI
  simp [IntKind.wrap, IntKind.bits, IntKind.signed]
  omega
theorem long_t {near k : Int} (hn : M48 near) (h0 : -8388608 ≤ k) (h1 : k < 8388608) : seq_Long ((near + k) % 281474976710656 % 16777216) near = some [.i ((near + k) % 281474976710656)] := by
  unfold M48 at hn
  obtain ⟨s, hs⟩ : ∃ s, s = (near + k) % 281474976710656 % 16777216 := ⟨_, rfl⟩
  have e1 : wrapI .u64 s = s := by rw [wrapI_u]; omega
  have e2 : andI .u64 (subI .u64 s near) 16777215 = k % 16777216 := by
    have hu : U (subI .u64 s near) := by rw [subI_u]; unfold U; omega
    have := andI_mask hu 24 (by decide) 16777215 (by decide)
    rw [this, subI_u]
    have e : (2 : Int) ^ 24 = 16777216 := by decide
    rw [e]
    omega
  unfold seq_Long
  rw [← hs]
  simp only [one_ev, e1, e2]
  obtain ⟨d, hd⟩ : ∃ d, d = k % 16777216 := ⟨_, rfl⟩
  rw [← hd, wrapI_i (by unfold I63; omega)]
  by_cases h : d ≥ 8388608
  · rw [br_pos h, subI_i (by unfold I63; omega)]
    simp only [add_t, out_ev, un_i_ev, un_nil_ev]
    rw [show d - 16777216 = k by omega]
  · rw [br_neg h]
    simp only [add_t, out_ev, un_i_ev, un_nil_ev]
    rw [show d = k by omega]
theorem getT3 {N : Int} (h0 : 0 ≤ N) (h1 : N < 3) : List.getD [(2 : Int), 3, 4] N.toNat 0 = N + 2 := by
  have hc : N = 0 ∨ N = 1 ∨ N = 2 := by omega
  rcases hc with rfl | rfl | rfl <;> decide
theorem rem_small (d : Int) : -100000 < remI .i64 d 100000 ∧ remI .i64 d 100000 < 100000 := by
  unfold remI
  exact ⟨Int.lt_tmod_of_pos d (by decide), Int.tmod_lt_of_pos d (by decide)⟩
theorem ValidShort_true {v0 v1 v2 v3 v4 v5 v6 v7 t d e : Int} (_ : I63 v0) (h1 : U v1) (h2 : U v2) (h3 : U v3) (h4 : U v4) (h5 : U v5) (_ : I63 v6) (_ : I63 v7) : ValidShort v0 v1 v2 v3 v4 v5 v6 v7 t d e = some [.b true] := by
  obtain ⟨N, hN0, hN1, eN⟩ := rem_N (m := 3) (by decide) (by decide) t
  obtain ⟨T, hT⟩ : ∃ T, T = N + 2 := ⟨_, rfl⟩
  have gT := getT3 hN0 hN1
  rw [← hT] at gT
  obtain ⟨D, hD⟩ : ∃ D, D = remI .i64 d 100000 := ⟨_, rfl⟩
  obtain ⟨E, hE⟩ : ∃ E, E = remI .i64 e 100000 := ⟨_, rfl⟩
  have bD := rem_small d
  have bE := rem_small e
  rw [← hD] at bD
  rw [← hE] at bE
  have m0 := M48.mod v2
  have m1 := M48.mod v1
  have m3 := M48.mod v3
  have m4 := M48.mod v4
  have m5 := M48.mod v5
  unfold ValidShort
  simp only [one_ev, eN, rseq_t h1, rseq_t h2, rseq_t h3, rseq_t h4, rseq_t h5, out_ev, un_i_ev, un_nil_ev, show ∀ x : Int, offAdd Option.none x = x from fun _ => rfl, gT, ← hD, ← hE]
  generalize v2 % 281474976710656 = g at *
  generalize v1 % 281474976710656 = s at *
  generalize v3 % 281474976710656 = ga at *
  generalize v4 % 281474976710656 = is at *
  generalize v5 % 281474976710656 = ir at *
  rw [chk_pos ⟨hN0, hN1⟩, chk_pos ⟨hN0, hN1⟩]
  simp only [rstep_t _ m0.u, rstep_t _ m1.u, out_ev, un_i_ev, un_nil_ev]
  have r1 : remI .u64 ((g + D) % 281474976710656) 16777216 = (g + D) % 281474976710656 % 16777216 := remI_u (by omega)
  have r2 : remI .u64 ((s + E) % 281474976710656) 16777216 = (s + E) % 281474976710656 % 16777216 := remI_u (by omega)
  have w1 : wrapI .u32 ((g + D) % 281474976710656 % 16777216) = (g + D) % 281474976710656 % 16777216 := wrapI_u32 (by omega) (by omega)
  have w2 : wrapI .u32 ((s + E) % 281474976710656 % 16777216) = (s + E) % 281474976710656 % 16777216 := wrapI_u32 (by omega) (by omega)
  have l1 := long_t m0 (show -8388608 ≤ D by omega) (show D < 8388608 by omega)
  have l2 := long_t m1 (show -8388608 ≤ E by omega) (show E < 8388608 by omega)
  have ck : ∀ (S A : Int) (dt : ByteArray), ∃ r, valid_Check 5 s g ga is ir v6 v7 0 0 0 0 0 0 T true S A 0 0 0 0 0 dt = some [.i r] := fun S A dt =>
    ⟨_, check_t (windows_t m1.u m4.u m5.u) (judge_t (windows_t m1.u m4.u m5.u) (by omega))⟩
  rw [r1, r2]
  have hc : T = 2 ∨ T = 3 ∨ T = 4 := by omega
  rcases hc with hc | hc
  · have hx : head_HasAck T = some [.b false] := by rw [hc]; rfl
    obtain ⟨r, hr⟩ := ck ((g + D) % 281474976710656) 0 { data := #[120] }
    rw [br_eq hc]
    unfold valid_Long
    simp only [br_f, one_ev, w1, l1, hx, out_ev, un_i_ev, un_b_ev, un_s_ev, un_nil_ev, eqP, beq_self_eq_true, Bool.and_true, br_t, hr]
    rfl
  · have hx : head_HasAck T = some [.b true] := by rcases hc with rfl | rfl <;> rfl
    obtain ⟨r, hr⟩ := ck ((g + D) % 281474976710656) ((s + E) % 281474976710656) { data := #[120] }
    rw [br_ne (by omega)]
    unfold valid_Long
    simp only [br_f, br_t, one_ev, w1, w2, l1, l2, hx, out_ev, un_i_ev, un_b_ev, un_s_ev, un_nil_ev, eqP, beq_self_eq_true, Bool.and_true, hr]
    rfl
end Go.Sx.T

