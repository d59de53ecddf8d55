import Derived.Test.YtabdgalicaifhaaGreatDoorPlOf
import Derived.Test.YtabdgalicaifhaaGreatDoorYVRSpec
set_option linter.all false
namespace Go.Sx.T
open Go Go.Sx
theorem room8 {α : Type} {k : Nat} (h : k ≤ 1000000) (x : Option α) : chk (decide True && true && decide ((Int.ofNat k + (↑(1 : Nat) : Int)) * (↑(nat_lit 8) : Int) ≤ (140737488355328 : Int) ∧ Int.ofNat k + (↑(1 : Nat) : Int) ≤ (4611686018427387904 : Int))) x = x := by
  rw [show decide ((Int.ofNat k + (↑(1 : Nat) : Int)) * (↑(nat_lit 8) : Int) ≤ (140737488355328 : Int) ∧ Int.ofNat k + (↑(1 : Nat) : Int) ≤ (4611686018427387904 : Int)) = true from decide_eq_true (by simp only [Int.ofNat_eq_natCast]; constructor <;> omega)]
  simp [chk]
theorem grown1 {α : Type} (l : List Int) (s : Int) (x : Option α) : chk (decide (Int.ofNat l.length + (↑(1 : Nat) : Int) = Int.ofNat (List.length (l ++ [s]))) && (decide True && true)) x = x := by simp [chk]
theorem grown2 {α : Type} (l : List Int) (s : Int) (x : Option α) : chk (decide True && (decide (Int.ofNat l.length + (↑(1 : Nat) : Int) = Int.ofNat (List.length (l ++ [s]))) && true)) x = x := by simp [chk]
theorem tt2 {α : Type} (x : Option α) : chk (decide True && (decide True && true)) x = x := by simp [chk]
theorem tt3 {α : Type} (x : Option α) : chk (decide True && (decide True && (decide True && true))) x = x := by simp [chk]
theorem z2 {α : Type} (x : Option α) : chk (decide ((0 : Int) = Int.ofNat (0 : Nat)) && (decide True && true)) x = x := by simp [chk]
theorem getS3 {N : Int} (h0 : 0 ≤ N) (h1 : N < 3) : St (List.getD [(0 : Int), 1, 3] N.toNat 0) := by
  have hc : N = 0 ∨ N = 1 ∨ N = 2 := by omega
  rcases hc with rfl | rfl | rfl
  · exact .inl rfl
  · exact .inr (.inl rfl)
  · exact .inr (.inr rfl)
theorem vr8 {more : List Int} {s N : Int} {α : Type} (kx : Nat → List Leaf → Option α) (kr : List Leaf → Option α) : ∀ (m n : Nat) (l : List Int) (i : Int), 0 ≤ i → i + m = N → N ≤ 300 → l.length + m ≤ 1000 → m < n →
    VecRuns_8_L kx kr n more l i s N = kx 0 [.li more, .li (l ++ List.replicate m s)]
  | 0, n, l, i, hi, hm, hN, hl, hn => by
    obtain ⟨n, rfl⟩ : ∃ n', n = n' + 1 := ⟨n - 1, by omega⟩
    simp only [VecRuns_8_L, VecRuns_8_B]
    rw [br_neg (by omega)]
    simp only [tt2, List.replicate_zero, List.append_nil]
  | m + 1, n, l, i, hi, hm, hN, hl, hn => by
    obtain ⟨n, rfl⟩ : ∃ n', n = n' + 1 := ⟨n - 1, by omega⟩
    have e3 : addI .i64 i 1 = i + 1 := addI_i (by unfold I63; omega)
    have ih := vr8 (more := more) (s := s) kx kr m n (l ++ [s]) (i + 1) (by omega) (by omega) hN (by simp; omega) (by omega)
    simp only [VecRuns_8_L, VecRuns_8_B, one_ev, e3]
    rw [br_pos (by omega)]
    simp only [room8 (show l.length ≤ 1000000 by omega), grown1]
    rw [ih, List.append_assoc, List.replicate_succ, List.singleton_append]
theorem vr12 {more : List Int} : ∀ (m n : Nat) (l : List Int) (i : Int), 0 ≤ i → i + m = min (more.length : Int) 60 → l.length + m ≤ 1000 → (∀ s ∈ l, St s) → m < n →
    ∃ l', (∀ s ∈ l', St s) ∧ l'.length = l.length + m ∧ ∀ {α : Type} (kx : Nat → List Leaf → Option α) (kr : List Leaf → Option α), VecRuns_12_L kx kr n more l i = kx 2 [.li more, .li l']
  | 0, n, l, i, hi, hm, hl, hs, hn => by
    obtain ⟨n, rfl⟩ : ∃ n', n = n' + 1 := ⟨n - 1, by omega⟩
    refine ⟨l, hs, rfl, fun kx kr => ?_⟩
    simp only [VecRuns_12_L, VecRuns_12_B, one_ev]
    by_cases h : i < Int.ofNat more.length
    · rw [br_pos h, br_neg (by simp at h; omega)]
      simp only [chk_T]
    · rw [br_neg h]
      simp only [chk_T]
  | m + 1, n, l, i, hi, hm, hl, hs, hn => by
    obtain ⟨n, rfl⟩ : ∃ n', n = n' + 1 := ⟨n - 1, by omega⟩
    have hlt : i < Int.ofNat more.length := by simp; omega
    have e3 : addI .i64 i 1 = i + 1 := addI_i (by unfold I63; omega)
    obtain ⟨N, hN0, hN1, eN⟩ := rem_N (m := 3) (by decide) (by decide) (more.getD i.toNat 0)
    have hst := getS3 hN0 hN1
    obtain ⟨l', h1, h2, h3⟩ := vr12 (more := more) m n (l ++ [List.getD [(0 : Int), 1, 3] N.toNat 0]) (i + 1) (by omega) (by omega) (by simp; omega) (fun s hx => by
      rcases List.mem_append.1 hx with h | h
      · exact hs s h
      · simp at h; rw [h]; simpa using hst) (by omega)
    refine ⟨l', h1, by rw [h2]; simp; omega, fun kx kr => ?_⟩
    simp only [VecRuns_12_L, VecRuns_12_B, one_ev, e3, eN]
    rw [br_pos hlt, br_pos (by omega), chk_pos ⟨hi, hlt⟩, chk_pos ⟨hi, hlt⟩, chk_pos ⟨hN0, hN1⟩, chk_pos ⟨hN0, hN1⟩]
    simp only [room8 (show l.length ≤ 1000000 by omega), grown2]
    exact h3 kx kr
theorem vr20 {more l a b : List Int} {α : Type} (kx : Nat → List Leaf → Option α) (kr : List Leaf → Option α) : ∀ (m n : Nat) (j : Int), 0 ≤ j → j + m = (l.length : Int) → l.length ≤ 1000 → m < n →
    VecRuns_20_L kx kr n more l l a b j (Int.ofNat l.length) = kx 4 [.li more, .li a, .li b]
  | 0, n, j, hj, hm, hl, hn => by
    obtain ⟨n, rfl⟩ : ∃ n', n = n' + 1 := ⟨n - 1, by omega⟩
    simp only [VecRuns_20_L, VecRuns_20_B]
    rw [br_neg (by simp; omega)]
    simp only [chk_T]
  | m + 1, n, j, hj, hm, hl, hn => by
    obtain ⟨n, rfl⟩ : ∃ n', n = n' + 1 := ⟨n - 1, by omega⟩
    have hlt : j < Int.ofNat l.length := by simp; omega
    have e3 : addI .i64 j 1 = j + 1 := addI_i (by unfold I63; omega)
    have ih := vr20 (more := more) (l := l) (a := a) (b := b) kx kr m n (j + 1) (by omega) (by omega) hl (by omega)
    simp only [VecRuns_20_L, VecRuns_20_B, one_ev, e3]
    rw [br_pos hlt, chk_pos ⟨hj, hlt⟩, chk_pos ⟨hj, hlt⟩, chk_pos ⟨hj, hlt⟩, chk_pos ⟨hj, hlt⟩, bne_self_eq_false, br_f]
    simp only [tt3]
    exact ih
theorem vr26 {more a b : List Int} (hf : Few a b) (ha : a.length ≤ 1000) {α : Type} (kx : Nat → List Leaf → Option α) (kr : List Leaf → Option α) : ∀ (m n : Nat) (j : Int), 1 ≤ j → (j + m = (a.length : Int) ∨ (m = 0 ∧ (a.length : Int) ≤ j)) → m < n →
    VecRuns_26_L kx kr n more a b j = kx 6 [.li more, .li a, .li b]
  | 0, n, j, hj, hm, hn => by
    obtain ⟨n, rfl⟩ : ∃ n', n = n' + 1 := ⟨n - 1, by omega⟩
    simp only [VecRuns_26_L, VecRuns_26_B, one_ev]
    rw [br_neg (by simp; omega)]
    simp only [chk_T]
  | m + 1, n, j, hj, hm, hn => by
    obtain ⟨n, rfl⟩ : ∃ n', n = n' + 1 := ⟨n - 1, by omega⟩
    have hlt : j < Int.ofNat a.length := by simp; omega
    have hin : 0 ≤ j ∧ j < Int.ofNat a.length := ⟨by omega, hlt⟩
    have e3 : addI .i64 j 1 = j + 1 := addI_i (by unfold I63; omega)
    have e4 : subI .i64 j 1 = j - 1 := subI_i (by unfold I63; omega)
    have hin1 : 0 ≤ j - 1 ∧ j - 1 < Int.ofNat a.length := ⟨by omega, by simp at hlt ⊢; omega⟩
    have ih := vr26 (more := more) hf ha kx kr m n (j + 1) (by omega) (by omega) (by omega)
    simp only [VecRuns_26_L, VecRuns_26_B, one_ev, e3, e4]
    rw [br_pos hlt, chk_pos hin1, chk_pos hin1, chk_pos hin, chk_pos hin]
    by_cases h : a.getD (j - 1).toNat 0 = a.getD j.toNat 0
    · have := hf (j - 1).toNat (by omega) (by rw [show (j - 1).toNat + 1 = j.toNat by omega]; exact h)
      rw [br_eq h, chk_pos hin1, chk_pos hin1, br_neg (by omega)]
      simp only [chk_T]
      exact ih
    · rw [br_ne h]
      simp only [chk_T]
      exact ih
theorem VecRuns_true (more : List Int) (n2 state : Int) : VecRuns more n2 state = some [.b true] := by
  obtain ⟨N, hN0, hN1, eN⟩ := rem_N (m := 300) (by decide) (by decide) n2
  obtain ⟨S, hS0, hS1, eS⟩ := rem_N (m := 3) (by decide) (by decide) state
  have hst := getS3 hS0 hS1
  have ht : top = 1000000000000000000000000 := rfl
  obtain ⟨l, h1, h2, h3⟩ := vr12 (more := more) (min (more.length : Int) 60).toNat top (List.replicate N.toNat (List.getD [(0 : Int), 1, 3] S.toNat 0)) 0 (by omega) (by omega) (by simp only [List.length_replicate]; omega) (fun s hs => by rw [List.eq_of_mem_replicate hs]; exact hst) (by omega)
  rw [List.length_replicate] at h2
  have hl : l.length ≤ 400 := by omega
  obtain ⟨a, b, hI, hO⟩ := of_states h1 (by omega)
  have hal := cs_len hI.ok
  rw [hI.spr] at hal
  have hsp := spread_t hI.ok (by rw [hI.spr]; omega)
  rw [hI.spr] at hsp
  have hmay := may_t hI.ok (by rw [hI.spr]; omega)
  unfold VecRuns VecRuns_d
  simp only [one_ev, eN, eS]
  rw [chk_pos ⟨hS0, hS1⟩, chk_pos ⟨hS0, hS1⟩]
  simp only [z2]
  rw [vr8 _ _ N.toNat top [] 0 (by omega) (by omega) (by omega) (by simp; omega) (by omega)]
  simp only [beq00, br_t, un_li_ev, un_nil_ev, tt2, List.nil_append]
  rw [h3]
  simp only [show Nat.beq 2 2 = true from rfl, br_t, un_li_ev, un_nil_ev, chk_T, hO, out_ev, hsp, bne_self_eq_false, br_f, tt3]
  rw [vr20 _ _ l.length top 0 (by omega) (by omega) (by omega) (by omega)]
  simp only [show Nat.beq 4 4 = true from rfl, br_t, un_li_ev, un_nil_ev, chk_T]
  rw [vr26 hI.few (by omega) _ _ (a.length - 1) top 1 (by omega) (by omega) (by omega)]
  simp only [show Nat.beq 6 6 = true from rfl, br_t, un_li_ev, un_b_ev, un_nil_ev, chk_T, hmay, out_ev]
end Go.Sx.T

