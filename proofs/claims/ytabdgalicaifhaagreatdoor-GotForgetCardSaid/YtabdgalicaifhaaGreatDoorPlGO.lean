import Derived.Test.YtabdgalicaifhaaGreatDoorYGOSpec
import Derived.Test.YtabdgalicaifhaaGreatDoorPlCel
set_option linter.all false
namespace Go.Sx.T
open Go Go.Sx
theorem GI.congr {first top : Int} {O O' : Int → Prop} {val val' : Int → Int} {k v : List Int} (h : GI first top O val k v) (h1 : ∀ x, O' x ↔ O x) (h2 : ∀ x, O x → val' x = val x) : GI first top O' val' k v :=
  ⟨h.len, h.nd, fun n => (h.mem n).trans ⟨fun ⟨o, a, b⟩ => ⟨o, (h1 o).2 a, b⟩, fun ⟨o, a, b⟩ => ⟨o, (h1 o).1 a, b⟩⟩, fun o ho => by rw [h.get o ((h1 o).1 ho), h2 o ((h1 o).1 ho)], fun o ho => h.rng o ((h1 o).1 ho), (h1 _).2 h.top⟩
def par (x : Int) : Int := x % 2
theorem mk_par (i : Int) (h : 0 ≤ i) : mk (i % 2 == 1) = par i := by
  unfold mk par
  by_cases e : i % 2 = 1
  · simp [e]
  · have : i % 2 = 0 := by omega
    simp [this]
theorem gf8 {first at2 : Int} (hu : U first) {N : Int} (hN : N ≤ 62) : ∀ (m n : Nat) (i : Int) (k v : List Int), 1 ≤ i → i + m = N → GI first (i - 1) (fun x => 0 ≤ x ∧ x < i) par k v → (k.length : Int) ≤ i → m < n →
    ∃ k' v', GI first (N - 1) (fun x => 0 ≤ x ∧ x < N) par k' v' ∧ (k'.length : Int) ≤ N ∧ ∀ {α : Type} (kx : Nat → List Leaf → Option α) (kr : List Leaf → Option α), GotForget_8_L kx kr n k v (ky first (i - 1)) true 0 false i first N at2 = kx 0 [.li k', .li v', .i (ky first (N - 1)), .b true, .i 0, .b false, .i first, .i N, .i at2]
  | 0, n, i, k, v, hi, hm, h, hk, hn => by
    obtain ⟨n, rfl⟩ : ∃ n', n = n' + 1 := ⟨n - 1, by omega⟩
    obtain rfl : i = N := by omega
    refine ⟨k, v, h, hk, fun kx kr => ?_⟩
    simp only [GotForget_8_L, GotForget_8_B]
    rw [br_neg (by omega)]
  | m + 1, n, i, k, v, hi, hm, h, hk, hn => by
    obtain ⟨n, rfl⟩ : ∃ n', n = n' + 1 := ⟨n - 1, by omega⟩
    have hm0 : ky first i ∉ k := fun x => by have := (h.has (o := i) (by omega) (by omega)).1 x; omega
    have hp := gput_new (mark := i % 2 == 1) (any := true) (fg := 0) (nw := ky first (i - 1)) (ky_U first i) h.len h.nd (by rw [ky_mod]; exact hm0) (fun _ => by rw [ky_mod, dif_ky (by omega) (by omega)]; omega)
    rw [ky_mod, mk_par i (by omega)] at hp
    have hI := (h.put_new (o := i) (par i) (by omega) (by omega)).congr (O' := fun x => 0 ≤ x ∧ x < i + 1) (val' := par) (fun x => by omega) (fun x hx => by
      show par x = if x = i then par i else par x
      split
      · rename_i e; rw [e]
      · rfl)
    have hl := mfK_le (p := dropP (ky first i) (ky first i)) (k := k ++ [ky first i])
    rw [List.length_append] at hl
    generalize mfK (dropP (ky first i) (ky first i)) (k ++ [ky first i]) = k2 at *
    generalize mfV (dropP (ky first i) (ky first i)) (k ++ [ky first i]) (v ++ [par i]) = v2 at *
    simp only [List.length_cons, List.length_nil] at hl
    obtain ⟨k', v', g1, g2, g3⟩ := gf8 (at2 := at2) hu hN m n (i + 1) k2 v2 (by omega) (by omega) (by rw [show i + 1 - 1 = i by omega]; exact hI) (by omega) (by omega)
    rw [show i + 1 - 1 = i by omega] at g3
    refine ⟨k', v', g1, g2, fun kx kr => ?_⟩
    have e1 : addI .i64 i 1 = i + 1 := addI_i (by unfold I63; omega)
    have e2 : remI .i64 i 2 = i % 2 := remI_u (by omega)
    simp only [GotForget_8_L, GotForget_8_B, one_ev, e1, e2]
    rw [br_pos (by omega), rstep_t _ hu, show (first + i) % 281474976710656 = ky first i from rfl]
    simp only [out_ev, un_i_ev, un_b_ev, un_li_ev, un_nil_ev, hp]
    exact g3 kx kr
theorem forget_t {first top at2 : Int} {O : Int → Prop} {val : Int → Int} {k v : List Int} (h : GI first top O val k v) (ha : -1000000 < top - at2) (hb : top - at2 < 1000000) :
    ∃ k' v', got_Forget k v (ky first top) true 0 false (ky first at2) = some [.li k', .li v', .i (ky first top), .b true, .i (ky first at2), .b true] ∧ GI first top (fun x => O x ∧ (at2 < x ∨ x = top)) val k' v' ∧ k'.length ≤ k.length := by
  have hdp : ∀ a, O a → dropPF (ky first at2) (ky first top) (ky first a) = decide (¬ (at2 < a ∨ a = top)) := fun a ho => by
    have := h.rng a ho
    unfold dropPF fgHold
    rw [diffI_eq, dif_ky (by omega) (by omega)]
    by_cases e : a = top
    · subst e; simp
    · have hne : ky first a ≠ ky first top := fun x => e (ky_inj x (by omega) (by omega))
      rw [show (ky first a != ky first top) = true by simpa using hne, cond_true]
      by_cases h2 : at2 < a
      · rw [decide_eq_true (show at2 - a < 0 by omega), cond_true, decide_eq_false (by omega)]
      · rw [decide_eq_false (show ¬ at2 - a < 0 by omega), cond_false, decide_eq_true (by omega)]
  refine ⟨mfK (dropPF (ky first at2) (ky first top)) k, mfV (dropPF (ky first at2) (ky first top)) k v, ?_, ?_, mfK_le⟩
  · unfold got_Forget
    simp only [of_t (ky_U _ _), ky_mod, out_ev, un_i_ev, un_nil_ev, Bool.not_false, br_t, got_dropF, nodupB_of h.nd, chk_t, un_li_ev, un_b_ev]
  · refine ⟨mfV_len h.len, mfK_nodup h.nd, fun n => ?_, fun a ho => ?_, fun a ho => h.rng a ho.1, ⟨h.top, .inr rfl⟩⟩
    · rw [mem_mfK, h.mem]
      constructor
      · rintro ⟨⟨a, ho, rfl⟩, hp⟩
        rw [hdp a ho, decide_eq_false_iff_not] at hp
        exact ⟨a, ⟨ho, by omega⟩, rfl⟩
      · rintro ⟨a, ⟨ho, h2⟩, rfl⟩
        exact ⟨⟨a, ho, rfl⟩, by rw [hdp a ho, decide_eq_false (by omega)]⟩
    · rw [mget_mf (by rw [hdp a ho.1, decide_eq_false (by have := ho.2; omega)]) h.len, h.get a ho.1]
theorem gf13 {first at2 : Int} (hu : U first) {N : Int} (hN : N ≤ 62) (ha0 : 0 ≤ at2) (ha1 : at2 < N) {k v : List Int} (h : GI first (N - 1) (fun x => (0 ≤ x ∧ x < N) ∧ (at2 < x ∨ x = N - 1)) par k v) {α : Type} (kx : Nat → List Leaf → Option α) (kr : List Leaf → Option α) : ∀ (m n : Nat) (i : Int), 0 ≤ i → i + m = N → m < n →
    GotForget_13_L kx kr n k v (ky first (N - 1)) true (ky first at2) true i first N at2 = kx 2 [.li k, .li v, .i (ky first (N - 1)), .b true, .i (ky first at2), .b true, .i at2, .i N, .i first]
  | 0, n, i, hi, hm, hn => by
    obtain ⟨n, rfl⟩ : ∃ n', n = n' + 1 := ⟨n - 1, by omega⟩
    simp only [GotForget_13_L, GotForget_13_B]
    rw [br_neg (by omega)]
  | m + 1, n, i, hi, hm, hn => by
    obtain ⟨n, rfl⟩ : ∃ n', n = n' + 1 := ⟨n - 1, by omega⟩
    have ih := gf13 hu hN ha0 ha1 h kx kr m n (i + 1) (by omega) (by omega) (by omega)
    have e1 : addI .i64 i 1 = i + 1 := addI_i (by unfold I63; omega)
    have e2 : subI .i64 (-1) i = -1 - i := subI_i (by unfold I63; omega)
    have e3 : subI .i64 N 1 = N - 1 := subI_i (by unfold I63; omega)
    have hmem : mhas k (ky first i) = decide (at2 < i ∨ i = N - 1) := by
      rw [mhas_dec]
      apply decide_eq_decide.2
      rw [h.has (by omega) (by omega)]
      omega
    have hp1 : got_Put k v (ky first (N - 1)) true (ky first at2) true (ky first i) false = some [.li k, .li v, .i (ky first (N - 1)), .b true, .i (ky first at2), .b true, .b false] := by
      by_cases hm : ky first i ∈ k
      · exact gput_there (ky_U _ _) (by rw [ky_mod]; exact hm)
      · have : ¬ (at2 < i ∨ i = N - 1) := fun x => hm (mhas_iff.1 (by rw [hmem, decide_eq_true x]))
        exact gput_forgot (ky_U _ _) (by rw [ky_mod]; exact hm) (by rw [ky_mod, dif_ky (by omega) (by omega)]; omega) (by rw [ky_mod, dif_ky (by omega) (by omega)]; omega)
    have hn2 : ky first (-1 - i) ∉ k := fun x => by have := (h.has (o := -1 - i) (by omega) (by omega)).1 x; omega
    have hp2 : got_Put k v (ky first (N - 1)) true (ky first at2) true (ky first (-1 - i)) false = some [.li k, .li v, .i (ky first (N - 1)), .b true, .i (ky first at2), .b true, .b false] :=
      gput_forgot (ky_U _ _) (by rw [ky_mod]; exact hn2) (by rw [ky_mod, dif_ky (by omega) (by omega)]; omega) (by rw [ky_mod, dif_ky (by omega) (by omega)]; omega)
    have hs1 : ref_Step first i = some [.i (ky first i)] := rstep_t i hu
    have hs2 : ref_Step first (-1 - i) = some [.i (ky first (-1 - i))] := rstep_t _ hu
    simp only [GotForget_13_L, GotForget_13_B, one_ev, e1, e2, e3, hs1, hs2, out_ev, un_i_ev, un_b_ev, un_li_ev, un_nil_ev, has_t', hmem, hp1, hp2, br_f]
    rw [br_pos (by omega)]
    by_cases h2 : i > at2
    · rw [br_pos h2, decide_eq_true (Or.inl h2), show (!(true == true)) = false from rfl, br_f]
      exact ih
    · rw [br_neg h2]
      have : (!(decide (at2 < i ∨ i = N - 1) == (i == N - 1))) = false := by
        by_cases h3 : i = N - 1
        · rw [decide_eq_true (Or.inr h3), show (i == N - 1) = true by simpa using h3]; rfl
        · rw [decide_eq_false (by omega), show (i == N - 1) = false by simpa using h3]; rfl
      rw [this, br_f]
      exact ih
theorem GotForget_true {first n2 at2 : Int} (hu : U first) : GotForget first n2 at2 = some [.b true] := by
  unfold GotForget GotForget_d
  obtain ⟨N', hN0, hN1, hN⟩ := rem_N (m := 60) (by omega) (by omega) n2
  obtain ⟨N, hNe⟩ : ∃ N, N = 2 + N' := ⟨_, rfl⟩
  have e1 : addI .i64 2 N' = N := by rw [addI_i (by unfold I63; omega)]; omega
  obtain ⟨A, hA0, hA1, hA⟩ := rem_N (m := N) (by omega) (by omega) at2
  have hnz : decide (N ≠ 0) = true := decide_eq_true (by omega)
  have hn : got_New = some [.li [], .li [], .i 0, .b false, .i 0, .b false] := rfl
  have hs0 : ref_Step first 0 = some [.i (ky first 0)] := rstep_t 0 hu
  obtain ⟨k, v, hp, hI, hk⟩ := gput_first (first := first) (s := ky first 0) (mark := false) (ky_U _ _) (ky_mod _ _) rfl
  have hI1 : GI first (1 - 1) (fun x => 0 ≤ x ∧ x < 1) par k v := hI.congr (fun x => by omega) (fun x hx => by subst hx; rfl)
  obtain ⟨T, hT⟩ : ∃ T, top = T + 1 := ⟨top - 1, rfl⟩
  obtain ⟨k1, v1, g1, g2, g3⟩ := gf8 (at2 := A) hu (N := N) (by omega) (N - 1).toNat T 1 k v (by omega) (by omega) hI1 (by omega) (by
    have : top = 1000000000000000000000000 := rfl
    omega)
  obtain ⟨k2, v2, f1, f2, f3⟩ := forget_t (at2 := A) g1 (by omega) (by omega)
  have h13 := fun kx kr => gf13 hu (N := N) (by omega) hA0 hA1 f2 (α := List Leaf) kx kr N.toNat top 0 (by omega) (by omega) (top_gt (by omega))
  obtain ⟨lo, hlo⟩ : ∃ lo, lo = if A < N - 1 then A + 1 else N - 1 := ⟨_, rfl⟩
  have hlo' : (A < N - 1 ∧ lo = A + 1) ∨ (A = N - 1 ∧ lo = N - 1) := by split at hlo <;> omega
  obtain ⟨a, b, hc1, hc2⟩ := f2.cells (lo := lo) (any := true) (fgt := true) (fg := ky first A) (by omega) (fun o ho => by omega) (fun o _ => by unfold par; omega) (by omega)
  have hsA : ref_Step first A = some [.i (ky first A)] := rstep_t _ hu
  have hsN : ref_Step first (N - 1) = some [.i (ky first (N - 1))] := rstep_t _ hu
  have e2 : subI .i64 N 1 = N - 1 := subI_i (by unfold I63; omega)
  have e3 : subI .i64 (N - 1) A = N - 1 - A := subI_i (by unfold I63; omega)
  have e4 : addI .i64 0 1 = 1 := by decide
  simp only [one_ev, hN, e1, hnz, chk_t, hA, hn, out_ev, un_li_ev, un_i_ev, un_b_ev, un_nil_ev]
  rw [hT]
  simp only [GotForget_8_L, GotForget_8_B]
  rw [← hT, br_pos (by omega), hs0]
  simp only [out_ev, un_i_ev, un_nil_ev, one_ev, show (remI .i64 0 2 == 1) = false by decide, hp, un_li_ev, un_b_ev, e4]
  rw [show (1 : Int) - 1 = 0 by rfl] at g3
  rw [g3]
  simp only [beq00, br_t, un_li_ev, un_i_ev, un_b_ev, un_nil_ev, hsA, out_ev, f1, h13]
  simp only [show Nat.beq 2 2 = true from rfl, br_t, un_li_ev, un_i_ev, un_b_ev, un_nil_ev, hc1, hc2, out_ev, decide_true, Bool.and_true, chk_t, got_Newest, Bool.not_true, br_f, one_ev, e2, hsN, e3, maxI_eq]
  rw [br_eq rfl]
  have : Int.ofNat ((List.range (N - 1 - lo + 1).toNat).map (stA first (N - 1) k2 v2)).length = max (N - 1 - A) 1 := by
    simp; omega
  rw [this]
  simp
end Go.Sx.T

