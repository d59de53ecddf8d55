import Derived.Test.YtdjnfdcoilgegaaGreatDoorPlDiv
set_option linter.all false
namespace Go.Sx.T
open Go Go.Sx
def tab8 : ByteArray := { data := List.toArray (List.append (List.append [0, 1, 2, 2, 3, 3, 3, 3, 4, 4, 4, 4, 4, 4, 4, 4, 5, 5, 5, 5, 5, 5, 5, 5, 5, 5, 5, 5, 5, 5, 5, 5, 6, 6, 6, 6, 6, 6, 6, 6, 6, 6, 6, 6, 6, 6, 6, 6, 6, 6, 6, 6, 6, 6, 6, 6, 6, 6, 6, 6, 6, 6, 6, 6] [7, 7, 7, 7, 7, 7, 7, 7, 7, 7, 7, 7, 7, 7, 7, 7, 7, 7, 7, 7, 7, 7, 7, 7, 7, 7, 7, 7, 7, 7, 7, 7, 7, 7, 7, 7, 7, 7, 7, 7, 7, 7, 7, 7, 7, 7, 7, 7, 7, 7, 7, 7, 7, 7, 7, 7, 7, 7, 7, 7, 7, 7, 7, 7]) (List.append [8, 8, 8, 8, 8, 8, 8, 8, 8, 8, 8, 8, 8, 8, 8, 8, 8, 8, 8, 8, 8, 8, 8, 8, 8, 8, 8, 8, 8, 8, 8, 8, 8, 8, 8, 8, 8, 8, 8, 8, 8, 8, 8, 8, 8, 8, 8, 8, 8, 8, 8, 8, 8, 8, 8, 8, 8, 8, 8, 8, 8, 8, 8, 8] [8, 8, 8, 8, 8, 8, 8, 8, 8, 8, 8, 8, 8, 8, 8, 8, 8, 8, 8, 8, 8, 8, 8, 8, 8, 8, 8, 8, 8, 8, 8, 8, 8, 8, 8, 8, 8, 8, 8, 8, 8, 8, 8, 8, 8, 8, 8, 8, 8, 8, 8, 8, 8, 8, 8, 8, 8, 8, 8, 8, 8, 8, 8, 8])) }
def len64 (x : Int) : Option (List Leaf) :=
  br (decide (x ≥ 4294967296))
    (one (shrI .u64 x 32) fun z40 =>
     br (decide (z40 ≥ 65536))
       (one (shrI .u64 z40 16) fun z41 =>
        one (addI .i64 32 16) fun z42 =>
        br (decide (z41 ≥ 256))
          (one (shrI .u64 z41 8) fun z43 =>
           one (addI .i64 z42 8) fun z44 =>
           one (wrapI .u8 z43) fun z45 =>
           chk (decide (0 ≤ z45 ∧ z45 < ↑(ByteArray.size tab8))) <|
           one (bt tab8 z45) fun z46 =>
           one (wrapI .i64 z46) fun z47 =>
           one (addI .i64 z44 z47) fun z48 =>
           some [.i (z48)])
          (one (wrapI .u8 z41) fun z49 =>
           chk (decide (0 ≤ z49 ∧ z49 < ↑(ByteArray.size tab8))) <|
           one (bt tab8 z49) fun z50 =>
           one (wrapI .i64 z50) fun z51 =>
           one (addI .i64 z42 z51) fun z52 =>
           some [.i (z52)]))
       (br (decide (z40 ≥ 256))
          (one (shrI .u64 z40 8) fun z53 =>
           one (addI .i64 32 8) fun z54 =>
           one (wrapI .u8 z53) fun z55 =>
           chk (decide (0 ≤ z55 ∧ z55 < ↑(ByteArray.size tab8))) <|
           one (bt tab8 z55) fun z56 =>
           one (wrapI .i64 z56) fun z57 =>
           one (addI .i64 z54 z57) fun z58 =>
           some [.i (z58)])
          (one (wrapI .u8 z40) fun z59 =>
           chk (decide (0 ≤ z59 ∧ z59 < ↑(ByteArray.size tab8))) <|
           one (bt tab8 z59) fun z60 =>
           one (wrapI .i64 z60) fun z61 =>
           one (addI .i64 32 z61) fun z62 =>
           some [.i (z62)])))
    (br (decide (x ≥ 65536))
       (one (shrI .u64 x 16) fun z63 =>
        one (addI .i64 0 16) fun z64 =>
        br (decide (z63 ≥ 256))
          (one (shrI .u64 z63 8) fun z65 =>
           one (addI .i64 z64 8) fun z66 =>
           one (wrapI .u8 z65) fun z67 =>
           chk (decide (0 ≤ z67 ∧ z67 < ↑(ByteArray.size tab8))) <|
           one (bt tab8 z67) fun z68 =>
           one (wrapI .i64 z68) fun z69 =>
           one (addI .i64 z66 z69) fun z70 =>
           some [.i (z70)])
          (one (wrapI .u8 z63) fun z71 =>
           chk (decide (0 ≤ z71 ∧ z71 < ↑(ByteArray.size tab8))) <|
           one (bt tab8 z71) fun z72 =>
           one (wrapI .i64 z72) fun z73 =>
           one (addI .i64 z64 z73) fun z74 =>
           some [.i (z74)]))
       (br (decide (x ≥ 256))
          (one (shrI .u64 x 8) fun z75 =>
           one (addI .i64 0 8) fun z76 =>
           one (wrapI .u8 z75) fun z77 =>
           chk (decide (0 ≤ z77 ∧ z77 < ↑(ByteArray.size tab8))) <|
           one (bt tab8 z77) fun z78 =>
           one (wrapI .i64 z78) fun z79 =>
           one (addI .i64 z76 z79) fun z80 =>
           some [.i (z80)])
          (one (wrapI .u8 x) fun z81 =>
           chk (decide (0 ≤ z81 ∧ z81 < ↑(ByteArray.size tab8))) <|
           one (bt tab8 z81) fun z82 =>
           one (wrapI .i64 z82) fun z83 =>
           one (addI .i64 0 z83) fun z84 =>
           some [.i (z84)])))
theorem bits_Len64_eq (x : Int) : bits_Len64 x = len64 x := by kernel_rfl
theorem tab8_size : ByteArray.size tab8 = 256 := by kernel_rfl
def tOk (k : Nat) : Bool := decide (k = 0) || (decide (bt tab8 (k : Int) = (((bt tab8 (k : Int)).toNat - 1 + 1 : Nat) : Int)) && Nat.ble (2 ^ ((bt tab8 (k : Int)).toNat - 1)) k && Nat.ble (k + 1) (2 ^ ((bt tab8 (k : Int)).toNat - 1 + 1)) && Nat.ble ((bt tab8 (k : Int)).toNat - 1) 7)
theorem tab8_ok : (List.range 256).all tOk = true := by kernel_rfl
theorem tab8_at {y : Int} (h1 : 1 ≤ y) (h2 : y < 256) : ∃ k : Nat, k ≤ 7 ∧ bt tab8 y = ((k + 1 : Nat) : Int) ∧ (2 : Int) ^ k ≤ y ∧ y < 2 ^ (k + 1) := by
  obtain ⟨n, rfl⟩ : ∃ n : Nat, y = n := ⟨y.toNat, by omega⟩
  have h := List.all_eq_true.1 tab8_ok n (List.mem_range.2 (by omega))
  unfold tOk at h
  rw [decide_eq_false (show ¬ n = 0 by omega), Bool.false_or] at h
  simp only [Bool.and_eq_true, decide_eq_true_eq] at h
  obtain ⟨⟨⟨a, b⟩, c⟩, d⟩ := h
  have b := Nat.le_of_ble_eq_true b
  have c := Nat.le_of_ble_eq_true c
  have d := Nat.le_of_ble_eq_true d
  refine ⟨_, d, a, ?_, ?_⟩
  · have : ((2 ^ ((bt tab8 (n : Int)).toNat - 1) : Nat) : Int) ≤ (n : Int) := by exact_mod_cast b
    push_cast at this
    exact this
  · have : ((n + 1 : Nat) : Int) ≤ ((2 ^ ((bt tab8 (n : Int)).toNat - 1 + 1) : Nat) : Int) := by exact_mod_cast c
    push_cast at this
    omega
theorem len_leaf {x y bI : Int} (b : Nat) (hb : b ≤ 56) (hbI : bI = (b : Int)) (hy : y = x / 2 ^ b) (h1 : 1 ≤ y) (h2 : y < 256) :
    ∃ m : Nat, m < 64 ∧ (2 : Int) ^ m ≤ x ∧ x < 2 ^ (m + 1) ∧
      chk (decide (0 ≤ wrapI .u8 y ∧ wrapI .u8 y < (ByteArray.size tab8 : Int))) (some [Leaf.i (addI .i64 bI (wrapI .i64 (bt tab8 (wrapI .u8 y))))]) = some [.i ((m + 1 : Nat) : Int)] := by
  obtain ⟨k, hk, ht, hlo, hhi⟩ := tab8_at h1 h2
  have hw : wrapI .u8 y = y := by rw [wrapI_u8]; omega
  have hp := pow2_pos b
  refine ⟨b + k, by omega, ?_, ?_, ?_⟩
  · rw [Int.pow_add, Int.mul_comm]
    rw [hy] at hlo
    exact (Int.le_ediv_iff_mul_le hp).1 hlo
  · rw [show b + k + 1 = (k + 1) + b by omega, Int.pow_add]
    rw [hy] at hhi
    exact (Int.ediv_lt_iff_lt_mul hp).1 hhi
  · rw [hw, chk_pos ⟨by omega, by rw [tab8_size]; exact h2⟩, ht, wrapI_i (by unfold I63; omega), hbI, addI_i (by unfold I63; omega)]
    congr 3
theorem shr16 {x : Int} : shrI .u64 x 16 = x / 65536 := by
  have := shrI_u .u64 rfl x 16 (by decide)
  simpa using this
theorem shr8 {x : Int} : shrI .u64 x 8 = x / 256 := by
  have := shrI_u .u64 rfl x 8 (by decide)
  simpa using this
theorem bits_Len64_t {x : Int} (hx : U x) (h0 : x ≠ 0) : ∃ m : Nat, m < 64 ∧ (2 : Int) ^ m ≤ x ∧ x < 2 ^ (m + 1) ∧ bits_Len64 x = some [.i ((m + 1 : Nat) : Int)] := by
  have hx1 := hx.1
  have hx2 := hx.2
  rw [bits_Len64_eq]
  unfold len64
  simp only [one_ev, shr32, shr16, shr8]
  by_cases a : x ≥ 4294967296
  · rw [br_pos a]
    by_cases b : x / 4294967296 ≥ 65536
    · rw [br_pos b]
      by_cases c : x / 4294967296 / 65536 ≥ 256
      · rw [br_pos c]; exact len_leaf 56 (by decide) (by decide) (by omega) (by omega) (by omega)
      · rw [br_neg c]; exact len_leaf 48 (by decide) (by decide) (by omega) (by omega) (by omega)
    · rw [br_neg b]
      by_cases c : x / 4294967296 ≥ 256
      · rw [br_pos c]; exact len_leaf 40 (by decide) (by decide) (by omega) (by omega) (by omega)
      · rw [br_neg c]; exact len_leaf 32 (by decide) (by decide) (by omega) (by omega) (by omega)
  · rw [br_neg a]
    by_cases b : x ≥ 65536
    · rw [br_pos b]
      by_cases c : x / 65536 ≥ 256
      · rw [br_pos c]; exact len_leaf 24 (by decide) (by decide) (by omega) (by omega) (by omega)
      · rw [br_neg c]; exact len_leaf 16 (by decide) (by decide) (by omega) (by omega) (by omega)
    · rw [br_neg b]
      by_cases c : x ≥ 256
      · rw [br_pos c]; exact len_leaf 8 (by decide) (by decide) (by omega) (by omega) (by omega)
      · rw [br_neg c]; exact len_leaf 0 (by decide) (by decide) (by omega) (by omega) (by omega)

/-! ### Knuth -/
theorem kn_more {V u u0 q rhat yn1 yn0 : Int} (hV : V = yn1 * 4294967296 + yn0) (hV0 : 0 < V) (huV : u < V) (hu0 : u0 < 4294967296) (hsum : q * yn1 + rhat = u)
    (ht : q ≥ 4294967296 ∨ q * yn0 > 4294967296 * rhat + u0) : (u * 4294967296 + u0) / V ≤ q - 1 := by
  have : (u * 4294967296 + u0) / V < q := by
    rw [Int.ediv_lt_iff_lt_mul hV0]
    rcases ht with h | h
    · have := Int.mul_le_mul_of_nonneg_right h (Int.le_of_lt hV0)
      omega
    · have e : q * V = q * yn1 * 4294967296 + q * yn0 := by rw [hV]; grind
      rw [e]
      omega
  omega
theorem kn_exit {V u u0 q rhat yn1 yn0 : Int} (hV : V = yn1 * 4294967296 + yn0) (hV0 : 0 < V) (hy0 : 0 ≤ yn0) (hy0' : yn0 < 4294967296) (hu0 : 0 ≤ u0) (hsum : q * yn1 + rhat = u) (hq : q ≤ 4294967296) (hq0 : 0 ≤ q)
    (hr : rhat ≥ 4294967296) : q ≤ (u * 4294967296 + u0) / V := by
  rw [Int.le_ediv_iff_mul_le hV0]
  have e : q * V = q * yn1 * 4294967296 + q * yn0 := by rw [hV]; grind
  have h1 := Int.mul_le_mul_of_nonneg_left (show yn0 ≤ 4294967295 by omega) hq0
  rw [e]
  omega
theorem kn_stop {V u u0 q rhat yn1 yn0 : Int} (hV : V = yn1 * 4294967296 + yn0) (hV0 : 0 < V) (hsum : q * yn1 + rhat = u)
    (ht : q * yn0 ≤ 4294967296 * rhat + u0) : q ≤ (u * 4294967296 + u0) / V := by
  rw [Int.le_ediv_iff_mul_le hV0]
  have e : q * V = q * yn1 * 4294967296 + q * yn0 := by rw [hV]; grind
  rw [e]
  omega
/-- What a round of a correction needs. -/
structure KnInv (V u u0 yn1 yn0 rhat q : Int) : Prop where
  hV : V = yn1 * 4294967296 + yn0
  y1 : 2147483648 ≤ yn1
  y1' : yn1 < 4294967296
  y0 : 0 ≤ yn0
  y0' : yn0 < 4294967296
  u_ : 0 ≤ u
  uV : u < V
  u0_ : 0 ≤ u0
  u0' : u0 < 4294967296
  sum : q * yn1 + rhat = u
  r0 : 0 ≤ rhat
  r1 : rhat < 4294967296
  ge : (u * 4294967296 + u0) / V ≤ q
  le : q ≤ 4294967297
theorem KnInv.q0 {V u u0 yn1 yn0 rhat q : Int} (h : KnInv V u u0 yn1 yn0 rhat q) : 0 ≤ (u * 4294967296 + u0) / V := by
  have := h.hV; have := h.y1; have := h.y0; have := h.u_; have := h.u0_
  exact Int.ediv_nonneg (by omega) (by omega)
/-- Behind a correction: the invariant again, or the exit. -/
theorem KnInv.step {V u u0 yn1 yn0 rhat q : Int} (h : KnInv V u u0 yn1 yn0 rhat q) (ht : q ≥ 4294967296 ∨ q * yn0 > 4294967296 * rhat + u0) :
    subI .u64 q 1 = q - 1 ∧ addI .u64 rhat yn1 = rhat + yn1 ∧ (rhat + yn1 ≥ 4294967296 → q - 1 = (u * 4294967296 + u0) / V) ∧ (¬ rhat + yn1 ≥ 4294967296 → KnInv V u u0 yn1 yn0 (rhat + yn1) (q - 1)) := by
  have hV0 : 0 < V := by have := h.hV; have := h.y1; have := h.y0; omega
  have q0 := h.q0
  have more := kn_more h.hV hV0 h.uV h.u0' h.sum ht
  have hsum : (q - 1) * yn1 + (rhat + yn1) = u := by have := h.sum; grind
  have hle := h.le; have hr0 := h.r0; have hr1 := h.r1; have hy := h.y1'; have hy1 := h.y1
  refine ⟨by rw [subI_u]; omega, by rw [addI_u]; omega, fun hx => ?_, fun hx => ?_⟩
  · have := kn_exit (u0 := u0) h.hV hV0 h.y0 h.y0' h.u0_ hsum (by omega) (by omega) hx
    omega
  · exact ⟨h.hV, h.y1, h.y1', h.y0, h.y0', h.u_, h.uV, h.u0_, h.u0', hsum, by omega, by omega, more, by omega⟩
theorem KnInv.mul {V u u0 yn1 yn0 rhat q : Int} (h : KnInv V u u0 yn1 yn0 rhat q) (hq : ¬ q ≥ 4294967296) : mulI .u64 q yn0 = q * yn0 ∧ addI .u64 (mulI .u64 4294967296 rhat) u0 = 4294967296 * rhat + u0 := by
  have q0 := h.q0; have hge := h.ge
  have h1 := h.y0; have h2 := h.y0'; have h3 := h.r0; have h4 := h.r1; have h5 := h.u0_; have h6 := h.u0'
  have p := prod_bound q yn0 (by omega) (by omega) h1 (by omega)
  refine ⟨by rw [mulI_u]; omega, by rw [mulI_u, addI_u]; omega⟩
theorem div17_L {V u u0 yn1 yn0 s y un0 : Int} : ∀ (k n : Nat) (rhat q : Int), k < n → KnInv V u u0 yn1 yn0 rhat q → 4294967296 ≤ rhat + (k : Int) * 2147483648 →
    ∀ {α : Type} (kx : Nat → List Leaf → Option α) (kr : List Leaf → Option α), bits_Div64_17_L kx kr n s y un0 yn1 yn0 u0 u rhat q = kx 0 [.i s, .i y, .i un0, .i ((u * 4294967296 + u0) / V), .i yn1, .i yn0, .i u0, .i u] := by
  intro k
  induction k with
  | zero => intro n rhat q _ h hk; have := h.r1; exfalso; omega
  | succ k ih =>
    intro n rhat q hn h hk α kx kr
    obtain ⟨n, rfl⟩ : ∃ n', n = n' + 1 := ⟨n - 1, by omega⟩
    simp only [bits_Div64_17_L, bits_Div64_17_B]
    by_cases hq : q ≥ 4294967296
    · obtain ⟨e1, e2, hx1, hx2⟩ := h.step (.inl hq)
      rw [br_pos hq]
      simp only [one_ev, e1, e2]
      by_cases hx : rhat + yn1 ≥ 4294967296
      · rw [br_pos hx, hx1 hx]
      · rw [br_neg hx]; exact ih n (rhat + yn1) (q - 1) (by omega) (hx2 hx) (by have := h.y1; omega) kx kr
    · obtain ⟨m1, m2⟩ := h.mul hq
      rw [br_neg hq]
      simp only [one_ev, m1, m2]
      by_cases ht : q * yn0 > 4294967296 * rhat + u0
      · obtain ⟨e1, e2, hx1, hx2⟩ := h.step (.inr ht)
        rw [br_pos ht]
        simp only [one_ev, e1, e2]
        by_cases hx : rhat + yn1 ≥ 4294967296
        · rw [br_pos hx, hx1 hx]
        · rw [br_neg hx]; exact ih n (rhat + yn1) (q - 1) (by omega) (hx2 hx) (by have := h.y1; omega) kx kr
      · rw [br_neg ht]
        have hV0 : 0 < V := by have := h.hV; have := h.y1; have := h.y0; omega
        have := kn_stop (u0 := u0) h.hV hV0 h.sum (by omega)
        have := h.ge
        rw [show q = (u * 4294967296 + u0) / V by omega]
theorem div24_L {V u u0 yn1 yn0 s y q1 : Int} : ∀ (k n : Nat) (rhat q : Int), k < n → KnInv V u u0 yn1 yn0 rhat q → 4294967296 ≤ rhat + (k : Int) * 2147483648 →
    ∀ {α : Type} (kx : Nat → List Leaf → Option α) (kr : List Leaf → Option α), bits_Div64_24_L kx kr n s y u0 u q1 yn1 rhat q yn0 = kx 2 [.i s, .i y, .i ((u * 4294967296 + u0) / V), .i u0, .i u, .i q1] := by
  intro k
  induction k with
  | zero => intro n rhat q _ h hk; have := h.r1; exfalso; omega
  | succ k ih =>
    intro n rhat q hn h hk α kx kr
    obtain ⟨n, rfl⟩ : ∃ n', n = n' + 1 := ⟨n - 1, by omega⟩
    simp only [bits_Div64_24_L, bits_Div64_24_B]
    by_cases hq : q ≥ 4294967296
    · obtain ⟨e1, e2, hx1, hx2⟩ := h.step (.inl hq)
      rw [br_pos hq]
      simp only [one_ev, e1, e2]
      by_cases hx : rhat + yn1 ≥ 4294967296
      · rw [br_pos hx, hx1 hx]
      · rw [br_neg hx]; exact ih n (rhat + yn1) (q - 1) (by omega) (hx2 hx) (by have := h.y1; omega) kx kr
    · obtain ⟨m1, m2⟩ := h.mul hq
      rw [br_neg hq]
      simp only [one_ev, m1, m2]
      by_cases ht : q * yn0 > 4294967296 * rhat + u0
      · obtain ⟨e1, e2, hx1, hx2⟩ := h.step (.inr ht)
        rw [br_pos ht]
        simp only [one_ev, e1, e2]
        by_cases hx : rhat + yn1 ≥ 4294967296
        · rw [br_pos hx, hx1 hx]
        · rw [br_neg hx]; exact ih n (rhat + yn1) (q - 1) (by omega) (hx2 hx) (by have := h.y1; omega) kx kr
      · rw [br_neg ht]
        have hV0 : 0 < V := by have := h.hV; have := h.y1; have := h.y0; omega
        have := kn_stop (u0 := u0) h.hV hV0 h.sum (by omega)
        have := h.ge
        rw [show q = (u * 4294967296 + u0) / V by omega]
end Go.Sx.T

