import Derived.Test.YtllgbgponmkijaaGreatDoorPlPA
import Derived.Test.YtllgbgponmkijaaGreatDoorYPBSpec
set_option linter.all false
namespace Go.Sx.T
open Go Go.Sx
theorem chk_T2 {α : Type} (x : Option α) : chk (decide True && (decide True && true)) x = x := by simp [chk]
theorem chk_T3 {α : Type} (x : Option α) : chk (decide True && (decide True && (decide True && true))) x = x := by simp [chk]
theorem mod_u {a : Int} (h0 : 0 ≤ a) (h1 : a < 18446744073709551616) : a % 18446744073709551616 = a := by omega
/-- What is noted so far holds. -/
def MarksOk (l0 l1 : List Int) (G T h most : Int) : Prop :=
  l0.length = l1.length ∧ ∀ j, j < l0.length → 0 ≤ l0.getD j 0 ∧ l0.getD j 0 ≤ G ∧ 0 ≤ l1.getD j 0 ∧ l1.getD j 0 ≤ T ∧ T - l1.getD j 0 + h ≤ G - l0.getD j 0 + most
theorem MarksOk.step {l0 l1 : List Int} {G T h most G' T' h' most' : Int} (k : MarksOk l0 l1 G T h most) (hG : G ≤ G') (hT : T ≤ T') (hh : T' + h' - T - h ≤ G' - G + (most' - most)) : MarksOk l0 l1 G' T' h' most' :=
  ⟨k.1, fun j hj => by obtain ⟨a, b, c, d, e⟩ := k.2 j hj; exact ⟨a, by omega, c, by omega, by omega⟩⟩
theorem MarksOk.add {l0 l1 : List Int} {G T h most : Int} (k : MarksOk l0 l1 G T h most) (hG : 0 ≤ G) (hT : 0 ≤ T) (hh : h ≤ most) : MarksOk (l0 ++ [G]) (l1 ++ [T]) G T h most := by
  refine ⟨by simp [k.1], fun j hj => ?_⟩
  have hl := k.1
  by_cases hjl : j < l0.length
  · rw [List.getD_eq_getElem?_getD, List.getD_eq_getElem?_getD, List.getElem?_append_left hjl, List.getElem?_append_left (by omega), ← List.getD_eq_getElem?_getD, ← List.getD_eq_getElem?_getD]
    exact k.2 j hjl
  · have : j = l0.length := by simp at hj; omega
    subst this
    have e1 : (l0 ++ [G]).getD l0.length 0 = G := by simp [List.getD_eq_getElem?_getD]
    have e2 : (l1 ++ [T]).getD l0.length 0 = T := by rw [hl]; simp [List.getD_eq_getElem?_getD]
    rw [e1, e2]
    exact ⟨hG, Int.le_refl _, hT, Int.le_refl _, by omega⟩
theorem pb26 {ops0 ops1 ops2 ops3 l0 l1 : List Int} {G T ps pk ph pr pn most x now t35 i : Int} {t36 : Bool} (h : MarksOk l0 l1 G T ph most) (hG : 0 ≤ G ∧ G ≤ 1000000000000000000) (hT : 0 ≤ T ∧ T ≤ 1000000000000000000) (hh : 0 ≤ ph) (hm : 0 ≤ most ∧ most ≤ 1000000000000000000)
    (hl : l0.length ≤ 50) {α : Type} (kx : Nat → List Leaf → Option α) (kr : List Leaf → Option α) : ∀ (m n : Nat) (j : Int), 0 ≤ j → j + m = (l0.length : Int) → m < n →
      PaceBound_26_L kx kr n ops0 ops1 ops2 ops3 l0 l1 G T ps pk ph pr pn j most x now t36 t35 i (Int.ofNat l0.length) =
        kx 2 [.li ops0, .li ops1, .li ops2, .li ops3, .li l0, .li l1, .i G, .i T, .i ps, .i pk, .i ph, .i pr, .i pn, .i most, .i x, .i now, .b t36, .i t35, .i i]
  | 0, n, j, hj, hm', hn => by
    obtain ⟨n, rfl⟩ : ∃ n', n = n' + 1 := ⟨n - 1, by omega⟩
    simp only [PaceBound_26_L, PaceBound_26_B]
    rw [br_neg (by simp; omega)]
    simp only [chk_T2]
  | m + 1, n, j, hj, hm', hn => by
    obtain ⟨n, rfl⟩ : ∃ n', n = n' + 1 := ⟨n - 1, by omega⟩
    have hlt : j < Int.ofNat l0.length := by simp; omega
    obtain ⟨a1, a2, a3, a4, a5⟩ := h.2 j.toNat (by omega)
    have ih := pb26 (ops0 := ops0) (ops1 := ops1) (ops2 := ops2) (ops3 := ops3) (ps := ps) (pk := pk) (pr := pr) (pn := pn) (x := x) (now := now) (t35 := t35) (i := i) (t36 := t36) h hG hT hh hm hl kx kr m n (j + 1) (by omega) (by omega) (by omega)
    have e1 : subI .u64 T (l1.getD j.toNat 0) = T - l1.getD j.toNat 0 := by rw [subI_u]; omega
    have e2 : subI .u64 G (l0.getD j.toNat 0) = G - l0.getD j.toNat 0 := by rw [subI_u]; omega
    have e3 : addI .u64 (G - l0.getD j.toNat 0) most = G - l0.getD j.toNat 0 + most := by rw [addI_u]; omega
    have e4 : addI .i64 j 1 = j + 1 := addI_i (by unfold I63; omega)
    simp only [PaceBound_26_L, PaceBound_26_B, one_ev, e1, e2, e3, e4]
    rw [br_pos hlt, chk_pos ⟨hj, hlt⟩, chk_pos ⟨hj, hlt⟩, br_neg (by omega)]
    simp only [chk_T3]
    exact ih
theorem getH_le {s k h r now at_ : Int} (p : PS s k h r now) (h1 : now ≤ at_) : getH s k h r now at_ ≤ h + r * (at_ - now) := by
  have hr := p.r.1
  have := Int.mul_nonneg hr (show 0 ≤ at_ - now by omega)
  unfold getH
  split
  · omega
  · unfold satA satM; omega
theorem prod_le {a b A B : Int} (a0 : 0 ≤ a) (a1 : a ≤ A) (b0 : 0 ≤ b) (b1 : b ≤ B) : 0 ≤ a * b ∧ a * b ≤ A * B :=
  ⟨Int.mul_nonneg a0 b0, Int.le_trans (Int.mul_le_mul_of_nonneg_right a1 b0) (Int.mul_le_mul_of_nonneg_left b1 (by omega))⟩
theorem capI_le {s r : Int} (s2 : s ≤ 1400) (r0 : 0 ≤ r) (r1 : r ≤ 1000000000) : 0 ≤ capI s 1000 r ∧ capI s 1000 r ≤ 1000000000000 := by
  unfold capI satM M64
  have := prod_le r0 r1 (show (0 : Int) ≤ 1000 by omega) (Int.le_refl 1000)
  omega
theorem pb_L {ops0 ops1 ops2 ops3 : List Int} (hU : ∀ x ∈ ops2, U x) {α : Type} (kx : Nat → List Leaf → Option α) (kr : List Leaf → Option α) :
    ∀ (m n : Nat) (l0 l1 : List Int) (G T s h r now i most : Int), PS s 1000 h r now → 0 ≤ r → r ≤ 1000000000 → MarksOk l0 l1 G T h most → 0 ≤ G → G ≤ i * 2000000000000000 → 0 ≤ T → T ≤ i * 128000000000 → capI s 1000 r ≤ most → most ≤ 1000000000000 →
      now ≤ i * 2000000 → (l0.length : Int) = i → 0 ≤ i → i + m = min (ops0.length : Int) 40 → m < n →
      PaceBound_11_L kx kr n ops0 ops1 ops2 ops3 l0 l1 G T s 1000 h r now i most r now = kx 0 [.li ops0, .li ops1, .li ops2, .li ops3]
  | 0, n, l0, l1, G, T, s, h, r, now, i, most, p, r0, r1, hM, g0, g1, t0, t1, c1, c2, hn, hlen, hi, hm, hk => by
    obtain ⟨n, rfl⟩ : ∃ n', n = n' + 1 := ⟨n - 1, by omega⟩
    simp only [PaceBound_11_L, PaceBound_11_B, one_ev]
    by_cases hl : i < Int.ofNat ops0.length
    · rw [br_pos hl, br_neg (by simp at hl; omega)]
    · rw [br_neg hl]
  | m + 1, n, l0, l1, G, T, s, h, r, now, i, most, p, r0, r1, hM, g0, g1, t0, t1, c1, c2, hn, hlen, hi, hm, hk => by
    obtain ⟨n, rfl⟩ : ∃ n', n = n' + 1 := ⟨n - 1, by omega⟩
    have hlt : i < Int.ofNat ops0.length := by simp; omega
    have e3 : addI .i64 i 1 = i + 1 := addI_i (by unfold I63; omega)
    have n0 := p.n0
    have hm0 := (capI_le p.s2 r0 r1).1
    -- how far on
    obtain ⟨D, hD⟩ : ∃ D, D = remI .i64 (ops3.getD i.toNat 0) 2000000 := ⟨_, rfl⟩
    have bD : -2000000 < D ∧ D < 2000000 := by
      rw [hD]; unfold remI
      exact ⟨Int.lt_tmod_of_pos _ (by decide), Int.tmod_lt_of_pos _ (by decide)⟩
    obtain ⟨X, hX⟩ : ∃ X, X = ops2.getD i.toNat 0 % 1000000000 := ⟨_, rfl⟩
    have hXU := getD_U hU i.toNat
    have eX : remI .u64 (ops2.getD i.toNat 0) 1000000000 = X := by rw [remI_u hXU.1, hX]
    have bX : 0 ≤ X ∧ X < 1000000000 := by omega
    obtain ⟨B, hB0, hB1, eB⟩ := rem_N (m := 2000) (by decide) (by decide) (ops1.getD i.toNat 0)
    have eB1 : wrapI .u64 B = B := by rw [wrapI_u]; omega
    have eB2 : mulI .u64 64000000 B = 64000000 * B := by rw [mulI_u]; omega
    -- what comes of it
    have after : ∀ (d T2 h2 r2 most2 : Int), 0 ≤ d → d < 2000000 → PS s 1000 h2 r2 (now + d) → 0 ≤ r2 → r2 ≤ 1000000000 → T ≤ T2 → T2 ≤ T + 128000000000 → capI s 1000 r2 ≤ most2 → most ≤ most2 → most2 ≤ 1000000000000 → T2 + h2 ≤ T + h + r * d →
        MarksOk l0 l1 (G + r * d) T2 h2 most2 ∧ 0 ≤ G + r * d ∧ G + r * d ≤ 1000000000000000000 ∧ T2 ≤ 1000000000000000000 ∧
        PaceBound_11_L kx kr n ops0 ops1 ops2 ops3 (l0 ++ [G + r * d]) (l1 ++ [T2]) (G + r * d) T2 s 1000 h2 r2 (now + d) (i + 1) most2 r2 (now + d) = kx 0 [.li ops0, .li ops1, .li ops2, .li ops3] := by
      intro d T2 h2 r2 most2 d0 d1 p2 q0 q1 u0 u1 v0 v1 v2 hh
      have hrd := prod_le r0 r1 d0 (show d ≤ 2000000 by omega)
      have k := hM.step (G' := G + r * d) (T' := T2) (h' := h2) (most' := most2) (by omega) u0 (by omega)
      have hh2 := p2.h1
      refine ⟨k, by omega, by omega, by omega, ?_⟩
      exact pb_L hU kx kr m n _ _ _ _ s h2 r2 (now + d) (i + 1) most2 p2 q0 q1 (k.add (by omega) (by omega) (by omega)) (by omega) (by omega) (by omega) (by omega) v0 v2 (by omega) (by simp; omega) (by omega) (by omega) (by omega)
    have lenOk := @chk_T3 α
    have room : ∀ (g t : Int) (x : Option α), chk (decide True && true && decide ((Int.ofNat l0.length + (↑(1 : Nat) : Int)) * (↑(nat_lit 16) : Int) ≤ (140737488355328 : Int) ∧ Int.ofNat l0.length + (↑(1 : Nat) : Int) ≤ (4611686018427387904 : Int))) x = x := fun g t x => by
      rw [show decide ((Int.ofNat l0.length + (↑(1 : Nat) : Int)) * (↑(nat_lit 16) : Int) ≤ (140737488355328 : Int) ∧ Int.ofNat l0.length + (↑(1 : Nat) : Int) ≤ (4611686018427387904 : Int)) = true from decide_eq_true (by simp only [Int.ofNat_eq_natCast]; constructor <;> omega)]
      simp [chk]
    have grown : ∀ (g : Int) (x : Option α), chk (decide (Int.ofNat l0.length + (↑(1 : Nat) : Int) = Int.ofNat (List.length (l0 ++ [g]))) && (decide True && true)) x = x := fun g x => by simp [chk]
    have hlen50 : l0.length ≤ 50 := by omega
    simp only [PaceBound_11_L, PaceBound_11_B, one_ev, e3, ← hD, eX, eB, eB1, eB2, maxI_eq]
    rw [br_pos hlt, br_pos (by omega), chk_pos ⟨hi, hlt⟩, chk_pos ⟨hi, hlt⟩]
    have dcases : ∃ d, 0 ≤ d ∧ d < 2000000 ∧ ((D < 0 ∧ d = 0 - D) ∨ (¬ D < 0 ∧ d = D)) := by
      by_cases hd : D < 0
      · exact ⟨0 - D, by omega, by omega, .inl ⟨hd, rfl⟩⟩
      · exact ⟨D, by omega, by omega, .inr ⟨hd, rfl⟩⟩
    obtain ⟨d, d0, d1, hdc⟩ := dcases
    have hrd := prod_le r0 r1 d0 (show d ≤ 2000000 by omega)
    have f1 : subI .i64 0 D = 0 - D := subI_i (by unfold I63; omega)
    have f2 : addI .i64 now d = now + d := addI_i (by unfold I63; omega)
    have f3 : wrapI .u64 d = d := by rw [wrapI_u]; omega
    have f4 : mulI .u64 r d = r * d := by rw [mulI_u]; omega
    have f5 : addI .u64 G (r * d) = G + r * d := by rw [addI_u]; omega
    have hle := getH_le p (show now ≤ now + d by omega)
    rw [show now + d - now = d by omega] at hle
    have pR := p.rate (at_ := now + d) (x := X) (by omega) (by omega) (show U X by unfold U; omega)
    have pT := take_PS (n := B) p (at_ := now + d) (by omega) (by omega)
    rw [show max now (now + d) = now + d by omega] at pR pT
    have cX := capI_le p.s2 bX.1 (show X ≤ 1000000000 by omega)
    have aR := after d T (min (getH s 1000 h r now (now + d)) (capI s 1000 X)) X (max most (capI s 1000 X)) d0 d1 pR bX.1 (by omega) (by omega) (by omega) (by omega) (by omega) (by omega) (by omega)
    have tR := rate_t p (at_ := now + d) (x := X) (by omega) (by omega) (show U X by unfold U; omega)
    have tT := take_t p (at_ := now + d) (n := B) (by omega) (by omega)
    rw [show max now (now + d) = now + d by omega] at tR tT
    have hc0 := p.h0
    have aT := after d (T + 64000000 * B) (getH s 1000 h r now (now + d) - 64000000 * B) r most d0 d1
    have aN := after d T (getH s 1000 h r now (now + d)) r most d0 d1
    obtain ⟨k1, k2, k3, k4, k5⟩ := aR
    rcases hdc with ⟨hd, hdd⟩ | ⟨hd, hdd⟩
    · rw [br_pos hd]
      simp only [f1, ← hdd, f2, f3, f4, f5]
      rw [chk_pos ⟨hi, hlt⟩, chk_pos ⟨hi, hlt⟩]
      by_cases z : ops0.getD i.toNat 0 = 0
      · rw [br_eq z, chk_pos ⟨hi, hlt⟩, chk_pos ⟨hi, hlt⟩, tR]
        simp only [out_ev, un_i_ev, un_nil_ev, cap_t pR.s1 pR.s2 pR.k0 pR.k1 pR.r, lenOk]
        rw [pb26 k1 ⟨k2, k3⟩ ⟨t0, k4⟩ pR.h0 ⟨by omega, by omega⟩ hlen50 _ _ l0.length top 0 (by omega) (by omega) (by unfold top; omega)]
        simp only [show Nat.beq 2 2 = true from rfl, br_t, un_li_ev, un_i_ev, un_b_ev, un_nil_ev, room 0 0, grown, e3]
        exact k5
      · rw [br_ne z, chk_pos ⟨hi, hlt⟩, chk_pos ⟨hi, hlt⟩, tT]
        simp only [out_ev, un_i_ev, un_b_ev, un_nil_ev]
        cases hmay : mayB (getH s 1000 h r now (now + d)) B with
        | true =>
          rw [hmay] at pT
          simp only [if_true] at pT
          have g6 : addI .u64 T (64000000 * B) = T + 64000000 * B := by rw [addI_u]; omega
          obtain ⟨j1, j2, j3, j4, j5⟩ := aT pT r0 r1 (by omega) (by omega) c1 (by omega) c2 (by omega)
          simp only [if_true, br_t, g6, lenOk]
          rw [pb26 j1 ⟨j2, j3⟩ ⟨by omega, j4⟩ pT.h0 ⟨by omega, by omega⟩ hlen50 _ _ l0.length top 0 (by omega) (by omega) (by unfold top; omega)]
          simp only [show Nat.beq 2 2 = true from rfl, br_t, un_li_ev, un_i_ev, un_b_ev, un_nil_ev, room 0 0, grown, e3]
          exact j5
        | false =>
          rw [hmay] at pT
          simp only [Bool.false_eq_true, if_false] at pT
          obtain ⟨j1, j2, j3, j4, j5⟩ := aN pT r0 r1 (by omega) (by omega) c1 (by omega) c2 (by omega)
          simp only [Bool.false_eq_true, if_false, br_f, lenOk]
          rw [pb26 j1 ⟨j2, j3⟩ ⟨by omega, j4⟩ pT.h0 ⟨by omega, by omega⟩ hlen50 _ _ l0.length top 0 (by omega) (by omega) (by unfold top; omega)]
          simp only [show Nat.beq 2 2 = true from rfl, br_t, un_li_ev, un_i_ev, un_b_ev, un_nil_ev, room 0 0, grown, e3]
          exact j5
    · rw [br_neg hd]
      simp only [← hdd, f2, f3, f4, f5]
      rw [chk_pos ⟨hi, hlt⟩, chk_pos ⟨hi, hlt⟩]
      by_cases z : ops0.getD i.toNat 0 = 0
      · rw [br_eq z, chk_pos ⟨hi, hlt⟩, chk_pos ⟨hi, hlt⟩, tR]
        simp only [out_ev, un_i_ev, un_nil_ev, cap_t pR.s1 pR.s2 pR.k0 pR.k1 pR.r, lenOk]
        rw [pb26 k1 ⟨k2, k3⟩ ⟨t0, k4⟩ pR.h0 ⟨by omega, by omega⟩ hlen50 _ _ l0.length top 0 (by omega) (by omega) (by unfold top; omega)]
        simp only [show Nat.beq 2 2 = true from rfl, br_t, un_li_ev, un_i_ev, un_b_ev, un_nil_ev, room 0 0, grown, e3]
        exact k5
      · rw [br_ne z, chk_pos ⟨hi, hlt⟩, chk_pos ⟨hi, hlt⟩, tT]
        simp only [out_ev, un_i_ev, un_b_ev, un_nil_ev]
        cases hmay : mayB (getH s 1000 h r now (now + d)) B with
        | true =>
          rw [hmay] at pT
          simp only [if_true] at pT
          have g6 : addI .u64 T (64000000 * B) = T + 64000000 * B := by rw [addI_u]; omega
          obtain ⟨j1, j2, j3, j4, j5⟩ := aT pT r0 r1 (by omega) (by omega) c1 (by omega) c2 (by omega)
          simp only [if_true, br_t, g6, lenOk]
          rw [pb26 j1 ⟨j2, j3⟩ ⟨by omega, j4⟩ pT.h0 ⟨by omega, by omega⟩ hlen50 _ _ l0.length top 0 (by omega) (by omega) (by unfold top; omega)]
          simp only [show Nat.beq 2 2 = true from rfl, br_t, un_li_ev, un_i_ev, un_b_ev, un_nil_ev, room 0 0, grown, e3]
          exact j5
        | false =>
          rw [hmay] at pT
          simp only [Bool.false_eq_true, if_false] at pT
          obtain ⟨j1, j2, j3, j4, j5⟩ := aN pT r0 r1 (by omega) (by omega) c1 (by omega) c2 (by omega)
          simp only [Bool.false_eq_true, if_false, br_f, lenOk]
          rw [pb26 j1 ⟨j2, j3⟩ ⟨by omega, j4⟩ pT.h0 ⟨by omega, by omega⟩ hlen50 _ _ l0.length top 0 (by omega) (by omega) (by unfold top; omega)]
          simp only [show Nat.beq 2 2 = true from rfl, br_t, un_li_ev, un_i_ev, un_b_ev, un_nil_ev, room 0 0, grown, e3]
          exact j5
theorem PaceBound_true {ops0 ops1 ops2 ops3 : List Int} {s : Int} (_ : ∀ x ∈ ops0, I63 x) (_ : ∀ x ∈ ops1, I63 x) (hU : ∀ x ∈ ops2, U x) (_ : ∀ x ∈ ops3, I63 x)
    (_ : ops1.length = ops0.length) (_ : ops2.length = ops0.length) (_ : ops3.length = ops0.length) : PaceBound ops0 ops1 ops2 ops3 s = some [.b true] := by
  obtain ⟨N, hN0, hN1, eN⟩ := rem_N (m := 1400) (by decide) (by decide) s
  obtain ⟨S, hS⟩ : ∃ S, S = 1 + N := ⟨_, rfl⟩
  have e1 : addI .i64 1 N = S := by rw [addI_i (show I63 (1 + N) by unfold I63; omega), hS]
  have s1 : 1 ≤ S := by omega
  have s2 : S ≤ 1400 := by omega
  have c0 := capI_le s2 (Int.le_refl 0) (show (0 : Int) ≤ 1000000000 by omega)
  unfold PaceBound PaceBound_d
  simp only [one_ev, eN, e1, new_pace s1 s2 (show (0 : Int) ≤ 1000 by omega) (show (1000 : Int) ≤ 1000000 by omega), out_ev, un_i_ev, un_nil_ev, cap_t s1 s2 (show (0 : Int) ≤ 1000 by omega) (show (1000 : Int) ≤ 1000000 by omega) (show U 0 by unfold U; omega)]
  rw [show ∀ x : Option (List Leaf), chk (decide ((0 : Int) = Int.ofNat (0 : Nat)) && (decide True && true)) x = x from fun x => by simp [chk]]
  rw [pb_L hU _ _ (min (ops0.length : Int) 40).toNat top [] [] 0 0 S 0 0 0 0 (capI S 1000 0) (PS.new s1 s2 (by omega) (by omega)) (by omega) (by omega) ⟨rfl, fun j hj => by simp at hj⟩ (by omega) (by omega) (by omega) (by omega) (by omega) (by omega) (by omega) (by simp) (by omega) (by omega) (by unfold top; omega)]
  simp only [beq00, br_t, un_li_ev, un_nil_ev]
end Go.Sx.T

