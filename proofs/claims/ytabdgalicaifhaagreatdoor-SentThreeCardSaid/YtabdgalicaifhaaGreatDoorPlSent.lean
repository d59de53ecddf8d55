import Derived.Test.YtabdgalicaifhaaGreatDoorYSentSpec
import Derived.Test.YtabdgalicaifhaaGreatDoorPlSeq
import Derived.Test.YtabdgalicaifhaaGreatDoorPlVec
set_option linter.all false
namespace Go.Sx.T
open Go Go.Sx
structure Pk where
  n : Int
  t : Int
  w : Int
def pn (l : List Pk) : List Int := l.map Pk.n
def pt (l : List Pk) : List Int := l.map Pk.t
def pw (l : List Pk) : List Int := l.map Pk.w
theorem pn_len (l : List Pk) : (pn l).length = l.length := by simp [pn]
theorem pn_at (P q : List Pk) (p : Pk) : (pn (P ++ p :: q)).getD P.length 0 = p.n := by simp [pn, List.getD_eq_getElem?_getD]
theorem pt_at (P q : List Pk) (p : Pk) : (pt (P ++ p :: q)).getD P.length 0 = p.t := by simp [pt, List.getD_eq_getElem?_getD]
theorem pw_at (P q : List Pk) (p : Pk) : (pw (P ++ p :: q)).getD P.length 0 = p.w := by simp [pw, List.getD_eq_getElem?_getD]
theorem pw_set (P q : List Pk) (p : Pk) (v : Int) : (pw (P ++ p :: q)).set P.length v = pw (P ++ { p with w := v } :: q) := by
  have : P.length = (P.map Pk.w).length := by simp
  simp only [pw, List.map_append, List.map_cons]
  rw [this, List.set_append_right _ _ (Nat.le_refl _), Nat.sub_self]
  rfl
theorem pn_set (P q : List Pk) (p : Pk) (v : Int) : pn (P ++ p :: q) = pn (P ++ { p with w := v } :: q) := by simp [pn]
theorem pt_set (P q : List Pk) (p : Pk) (v : Int) : pt (P ++ p :: q) = pt (P ++ { p with w := v } :: q) := by simp [pt]
structure H where
  got : List Int
  late : List Int
  marks : Int
  rtt : Int
def hstep (tl : Int → Int) (t : Int) (p : Pk) (h : H) : Pk × H :=
  if tl p.n = 3 ∨ p.w = 1 then (p, h)
  else if p.w = 0 then ({ p with w := 1 }, ⟨h.got ++ [p.n], h.late, h.marks + (if tl p.n = 1 then 1 else 0), max (t - p.t) 0⟩)
  else ({ p with w := 1 }, ⟨h.got, h.late ++ [p.n], h.marks + (if tl p.n = 1 then 1 else 0), h.rtt⟩)
def hfold (tl : Int → Int) (t : Int) : List Pk → H → List Pk × H
  | [], h => ([], h)
  | p :: q, h => ((hstep tl t p h).1 :: (hfold tl t q (hstep tl t p h).2).1, (hfold tl t q (hstep tl t p h).2).2)
theorem chk_R1 {α : Type} {d : Prop} [Decidable d] (h : d) (x : Option α) : chk (decide d) x = x := by simp [chk, h]
theorem hear_L {st : List Int} {ack now : Int} {tl : Int → Int} {c0 c1 : List Int} {last : Int} {any : Bool} {N : Int} {α : Type} (kx : Nat → List Leaf → Option α) (kr : List Leaf → Option α) : ∀ (q P : List Pk) (n : Nat) (h : H), (∀ p ∈ q, sent_told st ack p.n = some [.i (tl p.n)]) → (∀ p ∈ q, 0 ≤ p.t ∧ p.t ≤ 4611686018427387904) → N = P.length + q.length → N ≤ 1000 → h.got.length ≤ P.length → h.late.length ≤ P.length → 0 ≤ h.marks → h.marks ≤ P.length → q.length < n →
    sent_Hear_6_L kx kr n (pn (P ++ q)) (pt (P ++ q)) (pw (P ++ q)) c0 c1 h.got h.late [] st [] [] [] last any h.marks h.rtt 0 0 P.length now ack N =
      kx 0 [.li (pn (P ++ (hfold tl (min (max now 0) 4611686018427387904) q h).1)), .li (pt (P ++ (hfold tl (min (max now 0) 4611686018427387904) q h).1)), .li (pw (P ++ (hfold tl (min (max now 0) 4611686018427387904) q h).1)), .li c0, .li c1, .li [], .li [], .li [], .li (hfold tl (min (max now 0) 4611686018427387904) q h).2.got, .li (hfold tl (min (max now 0) 4611686018427387904) q h).2.late, .li [], .i last, .b any, .i 0, .i 0, .i (hfold tl (min (max now 0) 4611686018427387904) q h).2.marks, .i (hfold tl (min (max now 0) 4611686018427387904) q h).2.rtt]
  | [], P, n, h, _, _, hN, hN1, _, _, _, _, hk => by
    obtain ⟨n, rfl⟩ : ∃ n', n = n' + 1 := ⟨n - 1, by omega⟩
    simp only [sent_Hear_6_L, sent_Hear_6_B]
    simp only [List.length_nil] at hN
    rw [br_neg (by omega)]
    simp only [decide_true, Bool.and_true, chk_t, hfold]
  | p :: q, P, n, h, htl, hat, hN, hN1, hg, hl, hm0, hm1, hk => by
    obtain ⟨n, rfl⟩ : ∃ n', n = n' + 1 := ⟨n - 1, by omega⟩
    simp only [List.length_cons] at hN hk
    have hT := htl p (by simp)
    have hA := hat p (by simp)
    have hin : (0 : Int) ≤ (P.length : Int) ∧ (P.length : Int) < Int.ofNat (pn (P ++ p :: q)).length := by
      rw [pn_len]; simp; omega
    have ih : ∀ (p' : Pk) (h' : H), h'.got.length ≤ P.length + 1 → h'.late.length ≤ P.length + 1 → 0 ≤ h'.marks → h'.marks ≤ P.length + 1 → _ := fun p' h' g1 g2 g3 g4 =>
      hear_L (st := st) (ack := ack) (now := now) (tl := tl) (c0 := c0) (c1 := c1) (last := last) (any := any) (N := N) kx kr q (P ++ [p']) n h' (fun x hx => htl x (by simp [hx])) (fun x hx => hat x (by simp [hx])) (by simp; omega) hN1 (by simp; omega) (by simp; omega) g3 (by simp; omega) (by omega)
    simp only [List.append_assoc, List.cons_append, List.nil_append, List.length_append, List.length_cons, List.length_nil, Nat.zero_add, Int.natCast_add, Int.natCast_one] at ih
    have e1 : addI .i64 (P.length : Int) 1 = (P.length : Int) + 1 := addI_i (by unfold I63; omega)
    have e2 : addI .i64 h.marks 1 = h.marks + 1 := addI_i (by unfold I63; omega)
    have e3 : subI .i64 (min (max now 0) 4611686018427387904) p.t = min (max now 0) 4611686018427387904 - p.t := subI_i (by unfold I63; omega)
    have room : ∀ {l : List Int}, l.length ≤ P.length → ((Int.ofNat l.length + (↑(1 : Nat) : Int)) * (↑(nat_lit 8) : Int) ≤ (140737488355328 : Int) ∧ Int.ofNat l.length + (↑(1 : Nat) : Int) ≤ (4611686018427387904 : Int)) := fun hl => by
      simp only [Int.ofNat_eq_natCast]; constructor <;> omega
    have grown : ∀ {l : List Int} {s : Int}, decide (Int.ofNat l.length + (↑(1 : Nat) : Int) = Int.ofNat (List.length (l ++ [s]))) = true := fun {l s} => by simp
    simp only [sent_Hear_6_L, sent_Hear_6_B, Int.toNat_natCast, pn_at, pt_at, pw_at, hT, hfold, hstep]
    rw [br_pos (by omega), chk_pos hin]
    simp only [chk_R1 hin, decide_true, Bool.and_true, Bool.true_and, chk_t, out_ev, un_i_ev, un_nil_ev, one_ev, maxI_eq, minI_eq, e1, e2, e3, grown, room hg, room hl, pw_set]
    by_cases h3 : tl p.n = 3
    · rw [br_eq h3, if_pos (Or.inl h3)]
      exact ih p h (by omega) (by omega) hm0 (by omega)
    · rw [br_ne h3]
      by_cases hw1 : p.w = 1
      · rw [br_eq hw1, if_pos (Or.inr hw1)]
        exact ih p h (by omega) (by omega) hm0 (by omega)
      · rw [br_ne hw1, if_neg (fun x => x.elim h3 hw1)]
        by_cases hw0 : p.w = 0
        · rw [if_pos hw0]
          have := ih { p with w := 1 } ⟨h.got ++ [p.n], h.late, h.marks + (if tl p.n = 1 then 1 else 0), max (min (max now 0) 4611686018427387904 - p.t) 0⟩ (by simp; omega) (by simp; omega) (by simp only; split <;> omega) (by simp only; split <;> omega)
          rw [← pn_set, ← pt_set] at this
          by_cases h1 : tl p.n = 1
          · rw [br_eq h1, br_eq hw0]
            simp only [h1, if_pos, if_true] at this ⊢
            exact this
          · rw [br_ne h1, br_eq hw0]
            simp only [h1, if_false, Int.add_zero] at this ⊢
            exact this
        · rw [if_neg hw0]
          have := ih { p with w := 1 } ⟨h.got, h.late ++ [p.n], h.marks + (if tl p.n = 1 then 1 else 0), h.rtt⟩ (by simp; omega) (by simp; omega) (by simp only; split <;> omega) (by simp only; split <;> omega)
          rw [← pn_set, ← pt_set] at this
          by_cases h1 : tl p.n = 1
          · rw [br_eq h1, br_ne hw0]
            simp only [h1, if_pos, if_true] at this ⊢
            exact this
          · rw [br_ne h1, br_ne hw0]
            simp only [h1, if_false, Int.add_zero] at this ⊢
            exact this
/-- How far a number lies behind another one, rounds taken off. -/
def dif (a b : Int) : Int := if (a - b) % 281474976710656 ≥ 140737488355328 then (a - b) % 281474976710656 - 281474976710656 else (a - b) % 281474976710656
theorem dif_seq {first W k : Int} (h0 : -140737488355328 ≤ W - k) (h1 : W - k < 140737488355328) : dif ((first + W) % 281474976710656) ((first + k) % 281474976710656) = W - k := by
  unfold dif
  split <;> omega
def told (st : List Int) (ack n : Int) : Int := if 0 ≤ dif ack n ∧ dif ack n < st.length then st.getD (dif ack n).toNat 0 else 3
theorem told_t (st : List Int) (ack n : Int) : sent_told st ack n = some [.i (told st ack n)] := by
  unfold sent_told told
  simp only [diff_t, out_ev, un_i_ev, un_nil_ev, one_ev]
  rw [show (if (ack - n) % 281474976710656 ≥ 140737488355328 then (ack - n) % 281474976710656 - 281474976710656 else (ack - n) % 281474976710656) = dif ack n from rfl]
  generalize dif ack n = d
  by_cases h0 : 0 ≤ d
  · rw [br_pos h0]
    by_cases h1 : d < (st.length : Int)
    · rw [br_pos (show d < Int.ofNat st.length from h1), chk_pos ⟨h0, h1⟩, chk_pos ⟨h0, h1⟩, if_pos ⟨h0, h1⟩]
    · rw [br_neg (show ¬ d < Int.ofNat st.length from h1), if_neg (fun h => h1 h.2)]
  · rw [br_neg (show ¬ d ≥ 0 from h0), if_neg (fun h => h0 h.1)]
/-- Taking for lost, from the last one down. -/
structure L3 where
  ps : List Pk
  b : Int
  l : List Int
def lstep (p : Pk) (x : L3) : L3 :=
  if p.w = 1 then ⟨p :: x.ps, x.b + 1, x.l⟩
  else if p.w = 0 ∧ 3 ≤ x.b then ⟨{ p with w := 2 } :: x.ps, x.b, p.n :: x.l⟩
  else ⟨p :: x.ps, x.b, x.l⟩
def lose : List Pk → L3
  | [] => ⟨[], 0, []⟩
  | p :: q => lstep p (lose q)
theorem lose_len : ∀ q : List Pk, (lose q).ps.length = q.length ∧ 0 ≤ (lose q).b ∧ (lose q).b ≤ q.length ∧ (lose q).l.length ≤ q.length
  | [] => by simp [lose]
  | p :: q => by
    have ⟨h1, h2, h3, h4⟩ := lose_len q
    simp only [lose, lstep, List.length_cons]
    split
    · simp only [List.length_cons]; omega
    · split
      · simp only [List.length_cons]; omega
      · simp only [List.length_cons]; omega
theorem lose_L {last : Int} {any : Bool} {α : Type} (kx : Nat → List Leaf → Option α) (kr : List Leaf → Option α) : ∀ (m : Nat) (P q : List Pk) (n : Nat), P.length = m → P.length + q.length ≤ 1000 → m < n →
    sent_lose_4_L kx kr n (pn (P ++ (lose q).ps)) (pt (P ++ (lose q).ps)) (pw (P ++ (lose q).ps)) (lose q).l last any ((P.length : Int) - 1) (lose q).b =
      kx 0 [.li (pn (lose (P ++ q)).ps), .li (pt (lose (P ++ q)).ps), .li (pw (lose (P ++ q)).ps), .li (lose (P ++ q)).l, .i last, .b any]
  | 0, P, q, n, hP, hl, hk => by
    obtain ⟨n, rfl⟩ : ∃ n', n = n' + 1 := ⟨n - 1, by omega⟩
    obtain rfl : P = [] := List.eq_nil_of_length_eq_zero hP
    simp only [sent_lose_4_L, sent_lose_4_B]
    rw [br_neg (by simp)]
    simp only [decide_true, Bool.and_true, chk_t, List.nil_append]
  | m + 1, P, q, n, hP, hl, hk => by
    obtain ⟨n, rfl⟩ : ∃ n', n = n' + 1 := ⟨n - 1, by omega⟩
    obtain ⟨R, p, rfl⟩ : ∃ R p, P = R ++ [p] := by
      rcases List.eq_nil_or_concat P with h | ⟨A, t, h⟩
      · simp [h] at hP
      · exact ⟨A, t, by rw [h, List.concat_eq_append]⟩
    have hR : R.length = m := by simpa using hP
    simp only [List.length_append, List.length_cons, List.length_nil] at hl
    have ih := lose_L (last := last) (any := any) kx kr m R (p :: q) n hR (by simp only [List.length_cons]; omega) (by omega)
    obtain ⟨g1, g2, g3, g4⟩ := lose_len q
    have hi : (((R ++ [p]).length : Int) - 1) = (R.length : Int) := by simp
    rw [hi]
    simp only [List.append_assoc, List.cons_append, List.nil_append]
    have hin : (0 : Int) ≤ (R.length : Int) ∧ (R.length : Int) < Int.ofNat (pn (R ++ p :: (lose q).ps)).length := by
      rw [pn_len]; simp; omega
    have e1 : subI .i64 (R.length : Int) 1 = (R.length : Int) - 1 := subI_i (by unfold I63; omega)
    have e2 : addI .i64 (lose q).b 1 = (lose q).b + 1 := addI_i (by unfold I63; omega)
    have room : (((↑(1 : Nat) : Int) + Int.ofNat (lose q).l.length) * (↑(nat_lit 8) : Int) ≤ (140737488355328 : Int) ∧ (↑(1 : Nat) : Int) + Int.ofNat (lose q).l.length ≤ (4611686018427387904 : Int)) := by
      simp only [Int.ofNat_eq_natCast]; constructor <;> omega
    have grown : ∀ {l : List Int} {s : Int}, decide ((↑(1 : Nat) : Int) + Int.ofNat l.length = Int.ofNat (List.length ([s] ++ l))) = true := fun {l s} => by simp; omega
    simp only [sent_lose_4_L, sent_lose_4_B, Int.toNat_natCast, pn_at, pw_at]
    rw [br_pos (by omega), chk_pos hin]
    simp only [chk_R1 hin, decide_true, Bool.and_true, Bool.true_and, chk_t, one_ev, e1, e2, grown, room, pw_set]
    by_cases h1 : p.w = 1
    · rw [br_eq h1]
      simp only [lose, lstep, if_pos h1] at ih
      exact ih
    · rw [br_ne h1]
      by_cases h0 : p.w = 0
      · rw [br_eq h0]
        by_cases h3 : 3 ≤ (lose q).b
        · rw [br_pos h3]
          simp only [lose, lstep, if_neg h1, if_pos (And.intro h0 h3)] at ih
          rw [← pn_set, ← pt_set] at ih
          exact ih
        · rw [br_neg h3]
          simp only [lose, lstep, if_neg h1, if_neg (fun h : p.w = 0 ∧ 3 ≤ (lose q).b => h3 h.2)] at ih
          exact ih
      · rw [br_ne h0]
        simp only [lose, lstep, if_neg h1, if_neg (fun h : p.w = 0 ∧ 3 ≤ (lose q).b => h0 h.1)] at ih
        exact ih
theorem top_gt {n : Nat} (h : n ≤ 1000000) : n < top := by
  have : top = 1000000000000000000000000 := rfl
  omega
theorem lose_t {last : Int} {any : Bool} {ps : List Pk} (hl : ps.length ≤ 1000) : sent_lose (pn ps) (pt ps) (pw ps) last any = some [.li (pn (lose ps).ps), .li (pt (lose ps).ps), .li (pw (lose ps).ps), .li (lose ps).l, .i last, .b any] := by
  unfold sent_lose sent_lose_d
  have e1 : subI .i64 (Int.ofNat (pn ps).length) 1 = (ps.length : Int) - 1 := by
    rw [pn_len]
    exact subI_i (by simp only [Int.ofNat_eq_natCast]; unfold I63; omega)
  simp only [one_ev, decide_true, Bool.and_true, chk_t, e1]
  rw [show ∀ x : Option (List Leaf), chk (decide ((0 : Int) = Int.ofNat (0 : Nat))) x = x from fun x => by simp [chk]]
  have := lose_L (last := last) (any := any) (α := List Leaf) (kr := fun r603 => un_nil r603 none) (kx := (fun i589 r590 =>
     br (Nat.beq 0 i589)
       (un_li r590 fun x591 r592 =>
        un_li r592 fun x593 r594 =>
        un_li r594 fun x595 r596 =>
        un_li r596 fun x597 r598 =>
        un_i r598 fun x599 r600 =>
        un_b r600 fun x601 r602 =>
        un_nil r602 <|
        some [.li (x591), .li (x593), .li (x595), .li (x597), .i (x599), .b (x601)])
       (none))) ps.length ps [] top rfl (by simpa using hl) (top_gt (by omega))
  simp only [lose, List.append_nil] at this
  rw [this]
  simp only [beq00, br_t, un_li_ev, un_i_ev, un_b_ev, un_nil_ev]
/-- How many are out. -/
def outs (ps : List Pk) : Nat := (ps.filter fun p => p.w = 0).length
theorem out_L {last : Int} {any : Bool} {α : Type} (kx : Nat → List Leaf → Option α) (kr : List Leaf → Option α) {N : Int} : ∀ (q P : List Pk) (n : Nat) (c : Int), N = P.length + q.length → N ≤ 1000 → 0 ≤ c → c ≤ P.length → q.length < n →
    sent_Out_3_L kx kr n (pn (P ++ q)) (pt (P ++ q)) (pw (P ++ q)) last any P.length c N = kx 0 [.li (pn (P ++ q)), .li (pt (P ++ q)), .li (pw (P ++ q)), .i last, .b any, .i (c + outs q)]
  | [], P, n, c, hN, hN1, _, _, hk => by
    obtain ⟨n, rfl⟩ : ∃ n', n = n' + 1 := ⟨n - 1, by omega⟩
    simp only [sent_Out_3_L, sent_Out_3_B]
    simp only [List.length_nil] at hN
    rw [br_neg (by omega)]
    simp only [decide_true, Bool.and_true, chk_t, outs, List.filter_nil, List.length_nil, Int.natCast_zero, Int.add_zero]
  | p :: q, P, n, c, hN, hN1, hc0, hc1, hk => by
    obtain ⟨n, rfl⟩ : ∃ n', n = n' + 1 := ⟨n - 1, by omega⟩
    simp only [List.length_cons] at hN hk
    have hin : (0 : Int) ≤ (P.length : Int) ∧ (P.length : Int) < Int.ofNat (pn (P ++ p :: q)).length := by
      rw [pn_len]; simp; omega
    have ih : ∀ c', 0 ≤ c' → c' ≤ (P.length : Int) + 1 → _ := fun c' g1 g2 =>
      out_L (last := last) (any := any) kx kr (N := N) q (P ++ [p]) n c' (by simp; omega) hN1 g1 (by simp; omega) (by omega)
    simp only [List.append_assoc, List.cons_append, List.nil_append, List.length_append, List.length_cons, List.length_nil, Nat.zero_add, Int.natCast_add, Int.natCast_one] at ih
    have e1 : addI .i64 (P.length : Int) 1 = (P.length : Int) + 1 := addI_i (by unfold I63; omega)
    have e2 : addI .i64 c 1 = c + 1 := addI_i (by unfold I63; omega)
    simp only [sent_Out_3_L, sent_Out_3_B, Int.toNat_natCast, pw_at]
    rw [br_pos (by omega), chk_pos hin]
    simp only [chk_R1 hin, decide_true, Bool.and_true, chk_t, one_ev, e1, e2]
    by_cases h0 : p.w = 0
    · rw [br_eq h0, ih _ (by omega) (by omega)]
      have : outs (p :: q) = outs q + 1 := by simp [outs, h0]
      rw [this, show c + 1 + (outs q : Int) = c + ((outs q + 1 : Nat) : Int) by omega]
    · rw [br_ne h0, ih _ (by omega) (by omega)]
      have : outs (p :: q) = outs q := by simp [outs, h0]
      rw [this]
theorem len_t (a b c : List Int) (last : Int) (any : Bool) : sent_Len a b c last any = some [.i (a.length : Int)] := rfl
theorem out_t {last : Int} {any : Bool} {ps : List Pk} (hl : ps.length ≤ 1000) : sent_Out (pn ps) (pt ps) (pw ps) last any = some [.i (outs ps)] := by
  unfold sent_Out sent_Out_d
  simp only [one_ev, decide_true, Bool.and_true, chk_t, len_t, out_ev, un_i_ev, un_nil_ev]
  have := fun kx kr => out_L (last := last) (any := any) (α := List Leaf) (N := ps.length) kx kr ps [] top 0 (by simp) (by omega) (by omega) (by simp) (top_gt (by omega))
  simp only [List.nil_append, List.length_nil, Int.natCast_zero, Int.zero_add] at this
  rw [pn_len, this]
  simp only [beq00, br_t, un_li_ev, un_i_ev, un_b_ev, un_nil_ev]
/-- What hearing leaves. -/
theorem hear_t {ps : List Pk} {c0 c1 : List Int} {last ack now : Int} {any : Bool} (hl : ps.length ≤ 1000) (hat : ∀ p ∈ ps, 0 ≤ p.t ∧ p.t ≤ 4611686018427387904) (hc : CsOk c0 c1) (hs : (spr c0 c1).length ≤ 1000)
    {r : List Pk × H} (hr : hfold (told (spr c0 c1) ack) (min (max now 0) 4611686018427387904) ps ⟨[], [], 0, -1⟩ = r) (hrl : r.1.length = ps.length) :
    sent_Hear (pn ps) (pt ps) (pw ps) c0 c1 last any ack now = some [.li (pn (lose r.1).ps), .li (pt (lose r.1).ps), .li (pw (lose r.1).ps), .li r.2.got, .li r.2.late, .li (lose r.1).l, .i last, .b any, .i r.2.marks, .i r.2.rtt] := by
  unfold sent_Hear sent_Hear_d
  have z0 : decide ((0 : Int) = Int.ofNat (0 : Nat)) = true := by decide
  simp only [one_ev, decide_true, Bool.and_true, Bool.true_and, chk_t, may_t hc hs, spread_t hc hs, out_ev, un_b_ev, un_li_ev, un_nil_ev, Bool.not_true, br_f, z0]
  have := fun kx kr => hear_L (st := spr c0 c1) (ack := ack) (now := now) (tl := told (spr c0 c1) ack) (c0 := c0) (c1 := c1) (last := last) (any := any) (α := List Leaf) (N := ps.length) kx kr ps [] top ⟨[], [], 0, -1⟩ (fun p _ => told_t _ _ _) hat (by simp) (by omega) (by simp) (by simp) (by simp) (by simp) (top_gt (by omega))
  simp only [List.nil_append, List.length_nil, Int.natCast_zero, hr] at this
  rw [pn_len, show Int.ofNat ps.length = (ps.length : Int) from rfl, this]
  simp only [beq00, br_t, un_li_ev, un_i_ev, un_b_ev, un_nil_ev, decide_true, Bool.and_true, Bool.true_and, chk_t, lose_t (show r.1.length ≤ 1000 by omega), out_ev]
/-- Cells that may not be: nothing is heard. -/
theorem hear_not {ps : List Pk} {c0 c1 : List Int} {last ack now : Int} {any : Bool} (hc : vec_May c0 c1 = some [.b false]) :
    sent_Hear (pn ps) (pt ps) (pw ps) c0 c1 last any ack now = some [.li (pn ps), .li (pt ps), .li (pw ps), .li [], .li [], .li [], .i last, .b any, .i 0, .i (-1)] := by
  unfold sent_Hear sent_Hear_d
  have z0 : decide ((0 : Int) = Int.ofNat (0 : Nat)) = true := by decide
  simp only [one_ev, decide_true, Bool.and_true, Bool.true_and, chk_t, hc, out_ev, un_b_ev, un_nil_ev, Bool.not_false, br_t, z0]
theorem hfold_len (tl : Int → Int) (t : Int) : ∀ (q : List Pk) (h : H), (hfold tl t q h).1.length = q.length
  | [], h => rfl
  | p :: q, h => by simp only [hfold, List.length_cons, hfold_len tl t q]
theorem hfold_app (tl : Int → Int) (t : Int) : ∀ (q r : List Pk) (h : H), hfold tl t (q ++ r) h = ((hfold tl t q h).1 ++ (hfold tl t r (hfold tl t q h).2).1, (hfold tl t r (hfold tl t q h).2).2)
  | [], r, h => by simp [hfold]
  | p :: q, r, h => by simp only [List.cons_append, hfold, hfold_app tl t q r]
/-- None of them is heard newly. -/
theorem hfold_skip {tl : Int → Int} {t : Int} : ∀ {q : List Pk} {h : H}, (∀ p ∈ q, tl p.n = 3 ∨ p.w = 1) → hfold tl t q h = (q, h)
  | [], h, _ => rfl
  | p :: q, h, hs => by
    have ih := hfold_skip (t := t) (q := q) (h := h) (fun x hx => hs x (by simp [hx]))
    simp only [hfold, hstep, if_pos (hs p (by simp)), ih]
def gotAll (q : List Pk) : List Pk := q.map fun p => { p with w := 1 }
/-- All of them are newly got. -/
theorem hfold_got {tl : Int → Int} {t : Int} : ∀ {q : List Pk} {h : H}, (∀ p ∈ q, tl p.n = 0 ∧ p.w = 0) → hfold tl t q h = (gotAll q, ⟨h.got ++ pn q, h.late, h.marks, match q.getLast? with | some p => max (t - p.t) 0 | none => h.rtt⟩)
  | [], h, _ => by simp [hfold, gotAll, pn]
  | p :: q, h, hs => by
    obtain ⟨h1, h2⟩ := hs p (by simp)
    simp only [hfold, hstep, h1, h2]
    rw [if_neg (by decide), if_pos trivial]
    simp only
    rw [hfold_got (fun x hx => hs x (by simp [hx]))]
    cases q with
    | nil => simp [gotAll, pn]
    | cons a q =>
      have hz : ∃ z, (a :: q).getLast? = some z := ⟨_, List.getLast?_cons⟩
      obtain ⟨z, hz⟩ := hz
      have hz2 : (p :: a :: q).getLast? = some z := by rw [List.getLast?_cons_cons]; exact hz
      rw [hz, hz2]
      simp [gotAll, pn]
theorem lose_all {q : List Pk} : (∀ p ∈ q, p.w ≠ 0) → (lose q).ps = q ∧ (lose q).l = [] := by
  induction q with
  | nil => intro _; simp [lose]
  | cons p q ih =>
    intro h
    obtain ⟨h1, h2⟩ := ih (fun x hx => h x (by simp [hx]))
    have h0 := h p (by simp)
    simp only [lose, lstep]
    by_cases h3 : p.w = 1
    · rw [if_pos h3]; simp [h1, h2]
    · rw [if_neg h3, if_neg (fun x => h0 x.1)]; simp [h1, h2]
/-- Fewer than three behind each: none is taken for lost. -/
theorem lose_few {q : List Pk} (h : (q.filter fun p => p.w = 1).length ≤ 2) : (lose q).ps = q ∧ (lose q).l = [] ∧ (lose q).b = (q.filter fun p => p.w = 1).length := by
  induction q with
  | nil => simp [lose]
  | cons p q ih =>
    by_cases h3 : p.w = 1
    · simp only [List.filter_cons, h3, decide_true, if_true, List.length_cons] at h ⊢
      obtain ⟨h1, h2, h4⟩ := ih (by omega)
      simp only [lose, lstep, if_pos h3, h1, h2, h4]
      simp
    · simp only [List.filter_cons, h3, decide_false, Bool.false_eq_true, if_false] at h ⊢
      obtain ⟨h1, h2, h4⟩ := ih h
      simp only [lose, lstep, if_neg h3, h1, h2, h4]
      rw [if_neg (by omega)]
      simp
/-- There is room: the number goes in. -/
theorem put_t {ps : List Pk} {last n now : Int} {any : Bool} (hn : U n) (h0 : 0 ≤ now) (hl : ps.length < 200) (hls : any = true → (last - n % 281474976710656) % 281474976710656 ≥ 140737488355328) :
    sent_Put (pn ps) (pt ps) (pw ps) last any n now = some [.li (pn (ps ++ [⟨n % 281474976710656, min now 4611686018427387904, 0⟩])), .li (pt (ps ++ [⟨n % 281474976710656, min now 4611686018427387904, 0⟩])), .li (pw (ps ++ [⟨n % 281474976710656, min now 4611686018427387904, 0⟩])), .i (n % 281474976710656), .b true, .b true] := by
  unfold sent_Put
  have room : ((Int.ofNat (pn ps).length + (↑(1 : Nat) : Int)) * (↑(nat_lit 24) : Int) ≤ (140737488355328 : Int) ∧ Int.ofNat (pn ps).length + (↑(1 : Nat) : Int) ≤ (4611686018427387904 : Int)) := by
    rw [pn_len]; simp only [Int.ofNat_eq_natCast]; constructor <;> omega
  have grown : ∀ {l : List Int} {s : Int}, decide (Int.ofNat l.length + (↑(1 : Nat) : Int) = Int.ofNat (List.length (l ++ [s]))) = true := fun {l s} => by simp
  have hlen : ¬ (Int.ofNat (pn ps).length ≥ 200) := by rw [pn_len]; simp only [Int.ofNat_eq_natCast]; omega
  have e1 : pn (ps ++ [⟨n % 281474976710656, min now 4611686018427387904, 0⟩]) = pn ps ++ [n % 281474976710656] := by simp [pn]
  have e2 : pt (ps ++ [⟨n % 281474976710656, min now 4611686018427387904, 0⟩]) = pt ps ++ [min now 4611686018427387904] := by simp [pt]
  have e3 : pw (ps ++ [⟨n % 281474976710656, min now 4611686018427387904, 0⟩]) = pw ps ++ [0] := by simp [pw]
  rw [e1, e2, e3, of_t hn]
  simp only [one_ev, out_ev, un_i_ev, un_b_ev, un_nil_ev, less_t, minI_eq, decide_true, Bool.and_true, Bool.true_and, chk_t, room, grown, and_self]
  rw [br_neg (show ¬ now < 0 by omega)]
  cases any
  · rw [br_f, br_neg hlen]
  · simp only [br_t, decide_eq_true (hls rfl), Bool.not_true, br_f]
    rw [br_neg hlen]
/-- Full, and the first one is out: it does not go in. -/
theorem put_full {p : Pk} {ps : List Pk} {last n now : Int} {any : Bool} (hn : U n) (h0 : 0 ≤ now) (hl : 199 ≤ ps.length) (hp : p.w = 0) (hls : any = true → (last - n % 281474976710656) % 281474976710656 ≥ 140737488355328) :
    sent_Put (pn (p :: ps)) (pt (p :: ps)) (pw (p :: ps)) last any n now = some [.li (pn (p :: ps)), .li (pt (p :: ps)), .li (pw (p :: ps)), .i last, .b any, .b false] := by
  unfold sent_Put
  have hlen : (Int.ofNat (pn (p :: ps)).length ≥ 200) := by rw [pn_len]; simp only [Int.ofNat_eq_natCast, List.length_cons]; omega
  have hin : (0 : Int) ≤ (0 : Int) ∧ (0 : Int) < Int.ofNat (pn (p :: ps)).length := ⟨by omega, by omega⟩
  have hin' : (0 : Int) ≤ Int.ofNat (nat_lit 0) ∧ Int.ofNat (nat_lit 0) < Int.ofNat (pn (p :: ps)).length := hin
  have g : (pw (p :: ps)).getD (Int.toNat (Int.ofNat 0)) 0 = 0 := hp
  rw [of_t hn]
  simp only [one_ev, out_ev, un_i_ev, un_b_ev, un_nil_ev, less_t, minI_eq, decide_true, Bool.and_true, Bool.true_and, chk_t]
  rw [br_neg (show ¬ now < 0 by omega)]
  cases any
  · rw [br_f, br_pos hlen, chk_pos hin, chk_pos hin', br_eq g]
  · simp only [br_t, decide_eq_true (hls rfl), Bool.not_true, br_f]
    rw [br_pos hlen, chk_pos hin, chk_pos hin', br_eq g]
/-- Full, and the first one is not out: that one goes. -/
theorem put_shift {p : Pk} {ps : List Pk} {last n now : Int} (hn : U n) (h0 : 0 ≤ now) (hl : 199 ≤ ps.length) (hl1 : ps.length ≤ 1000) (hp : p.w ≠ 0) (hls : (last - n % 281474976710656) % 281474976710656 ≥ 140737488355328) :
    sent_Put (pn (p :: ps)) (pt (p :: ps)) (pw (p :: ps)) last true n now = some [.li (pn (ps ++ [⟨n % 281474976710656, min now 4611686018427387904, 0⟩])), .li (pt (ps ++ [⟨n % 281474976710656, min now 4611686018427387904, 0⟩])), .li (pw (ps ++ [⟨n % 281474976710656, min now 4611686018427387904, 0⟩])), .i (n % 281474976710656), .b true, .b true] := by
  unfold sent_Put
  have hlen : (Int.ofNat (pn (p :: ps)).length ≥ 200) := by rw [pn_len]; simp only [Int.ofNat_eq_natCast, List.length_cons]; omega
  have hin : (0 : Int) ≤ (0 : Int) ∧ (0 : Int) < Int.ofNat (pn (p :: ps)).length := ⟨by omega, by omega⟩
  have hin' : (0 : Int) ≤ Int.ofNat (nat_lit 0) ∧ Int.ofNat (nat_lit 0) < Int.ofNat (pn (p :: ps)).length := hin
  have g : (pw (p :: ps)).getD (Int.toNat (Int.ofNat 0)) 0 ≠ 0 := hp
  have hsl : lenSl (rlOf [[], [Col.int .u64 (pn (p :: ps)), Col.int .i64 (pt (p :: ps)), Col.int .i64 (pw (p :: ps))]] (1 : Nat)) (Option.some (1 : Int)) Option.none = (ps.length : Int) := by
    show ((pn (p :: ps)).length : Int) - 1 = _
    rw [pn_len, List.length_cons]; omega
  have hcs : condSl (rlOf [[], [Col.int .u64 (pn (p :: ps)), Col.int .i64 (pt (p :: ps)), Col.int .i64 (pw (p :: ps))]] (1 : Nat)) (Option.some (1 : Int)) Option.none = true := by
    show decide ((0 : Int) ≤ 1 ∧ 1 ≤ ((pn (p :: ps)).length : Int)) = true
    rw [pn_len, List.length_cons]; exact decide_eq_true (by omega)
  have e1 : pn (ps ++ [⟨n % 281474976710656, min now 4611686018427387904, 0⟩]) = pn ps ++ [n % 281474976710656] := by simp [pn]
  have e2 : pt (ps ++ [⟨n % 281474976710656, min now 4611686018427387904, 0⟩]) = pt ps ++ [min now 4611686018427387904] := by simp [pt]
  have e3 : pw (ps ++ [⟨n % 281474976710656, min now 4611686018427387904, 0⟩]) = pw ps ++ [0] := by simp [pw]
  have k1 : (pn (p :: ps)).drop (Int.toNat (Int.ofNat 1)) = pn ps := rfl
  have k2 : (pt (p :: ps)).drop (Int.toNat (Int.ofNat 1)) = pt ps := rfl
  have k3 : (pw (p :: ps)).drop (Int.toNat (Int.ofNat 1)) = pw ps := rfl
  have k0 : (pn (p :: ps)).drop (Int.toNat (Int.ofNat (nat_lit 1))) = pn ps := rfl
  have t1 : (pn ps).take ps.length = pn ps := List.take_of_length_le (by simp [pn])
  have t2 : (pt ps).take ps.length = pt ps := List.take_of_length_le (by simp [pt])
  have t3 : (pw ps).take ps.length = pw ps := List.take_of_length_le (by simp [pw])
  rw [e1, e2, e3, of_t hn]
  simp only [one_ev, out_ev, un_i_ev, un_b_ev, un_nil_ev, less_t, minI_eq, hsl, hcs, k0, k1, k2, k3, Int.toNat_natCast, t1, t2, t3]
  rw [br_neg (show ¬ now < 0 by omega)]
  simp only [br_t, decide_eq_true hls, Bool.not_true, br_f]
  rw [br_pos hlen, chk_pos hin, chk_pos hin', br_ne g, chk_t]
  have c1 : Int.ofNat (nat_lit 1) + (ps.length : Int) ≤ Int.ofNat (pn (p :: ps)).length := by
    rw [pn_len]; show (1 : Int) + ps.length ≤ ((p :: ps).length : Int); rw [List.length_cons]; omega
  have c2 : ((ps.length : Int) + (↑(1 : Nat) : Int)) * (↑(nat_lit 24) : Int) ≤ (140737488355328 : Int) ∧ (ps.length : Int) + (↑(1 : Nat) : Int) ≤ (4611686018427387904 : Int) := by
    show ((ps.length : Int) + 1) * 24 ≤ 140737488355328 ∧ (ps.length : Int) + 1 ≤ 4611686018427387904
    constructor <;> omega
  have c3 : (ps.length : Int) + (↑(1 : Nat) : Int) = Int.ofNat (List.length (pn ps ++ [n % 281474976710656])) := by simp [pn]
  simp only [c1, c2, decide_true, Bool.and_true, chk_t, and_self]
  simp only [c3, decide_true, Bool.and_true, chk_t]
/-- Numbers in a row, from the first one on. -/
def seqP (first : Int) (f : Nat → Int) (k : Nat) : List Pk := (List.range k).map fun (i : Nat) => ⟨(first + (i : Int)) % 281474976710656, f i, 0⟩
theorem seqP_succ (first : Int) (f : Nat → Int) (k : Nat) : seqP first f (k + 1) = seqP first f k ++ [⟨(first + (k : Int)) % 281474976710656, f k, 0⟩] := by
  simp [seqP, List.range_succ]
theorem seqP_len (first : Int) (f : Nat → Int) (k : Nat) : (seqP first f k).length = k := by simp [seqP]
def lastP (first : Int) (k : Nat) : Int := if k = 0 then 0 else (first + (k : Int) - 1) % 281474976710656
theorem put_seq {first : Int} {f : Nat → Int} {k : Nat} (hk : k < 200) (h0 : 0 ≤ f k) (h1 : f k ≤ 4611686018427387904) :
    sent_Put (pn (seqP first f k)) (pt (seqP first f k)) (pw (seqP first f k)) (lastP first k) (decide (k ≠ 0)) ((first + (k : Int)) % 281474976710656) (f k) = some [.li (pn (seqP first f (k + 1))), .li (pt (seqP first f (k + 1))), .li (pw (seqP first f (k + 1))), .i (lastP first (k + 1)), .b (decide (k + 1 ≠ 0)), .b true] := by
  have hu : U ((first + (k : Int)) % 281474976710656) := by unfold U; omega
  rw [put_t hu h0 (by rw [seqP_len]; exact hk) (fun ha => by
    have : k ≠ 0 := of_decide_eq_true ha
    unfold lastP
    rw [if_neg this]
    omega), seqP_succ, show min (f k) 4611686018427387904 = f k by omega, show (first + (k : Int)) % 281474976710656 % 281474976710656 = (first + (k : Int)) % 281474976710656 by omega]
  unfold lastP
  rw [if_neg (by omega), show first + ((k + 1 : Nat) : Int) - 1 = first + k by omega]
  simp
end Go.Sx.T

