import Derived.Test.YtabdgalicaifhaaGreatDoorYSUSpec
import Derived.Test.YtabdgalicaifhaaGreatDoorPlSent
import Derived.Test.YtabdgalicaifhaaGreatDoorPlMay
set_option linter.all false
namespace Go.Sx.T
open Go Go.Sx
theorem rstate_t {s : Int} (h : St s) : ref_State s = some [.b true] := by
  rcases h with rfl | rfl | rfl <;> rfl
theorem rstate_n {s : Int} (h : ¬ St s) : ref_State s = some [.b false] := by
  unfold ref_State
  have h0 : s ≠ 0 := fun x => h (.inl x)
  have h1 : s ≠ 1 := fun x => h (.inr (.inl x))
  have h3 : s ≠ 3 := fun x => h (.inr (.inr x))
  rw [br_ne h0, br_ne h1, beq_eq_false_iff_ne.2 h3]
theorem rmay_D {a b : List Int} (hl : b.length = a.length) : ∀ (n : Nat) (j t : Int), 0 ≤ j → j ≤ t → t ≤ 1000 → 1001 - t ≤ n → 
    ∃ r : Bool, (r = true → CsOk (a.drop j.toNat) (b.drop j.toNat) ∧ t + (spr (a.drop j.toNat) (b.drop j.toNat)).length ≤ 1000) ∧ ∀ {α : Type} (kx : Nat → List Leaf → Option α) (kr : List Leaf → Option α), ref_MayCells_3_L kx kr n a b j t = bif r then kx 0 [.li a, .li b] else kr [.li a, .li b, .b false]
  | 0, j, t, hj, ht, ht1, hn => by omega
  | n + 1, j, t, hj, ht, ht1, hn => by
    by_cases hlt : j < (a.length : Int)
    · have hlt' : j < Int.ofNat a.length := hlt
      have e3 : addI .i64 j 1 = j + 1 := addI_i (by unfold I63; omega)
      have no : (∀ {α : Type} (kx : Nat → List Leaf → Option α) (kr : List Leaf → Option α), ref_MayCells_3_L kx kr (n + 1) a b j t = kr [.li a, .li b, .b false]) → ∃ r : Bool, (r = true → CsOk (a.drop j.toNat) (b.drop j.toNat) ∧ t + (spr (a.drop j.toNat) (b.drop j.toNat)).length ≤ 1000) ∧ ∀ {α : Type} (kx : Nat → List Leaf → Option α) (kr : List Leaf → Option α), ref_MayCells_3_L kx kr (n + 1) a b j t = bif r then kx 0 [.li a, .li b] else kr [.li a, .li b, .b false] :=
        fun h => ⟨false, fun h => (by cases h), fun kx kr => h kx kr⟩
      by_cases hs : St (a.getD j.toNat 0)
      · by_cases h1 : b.getD j.toNat 0 < 1
        · refine no fun kx kr => ?_
          simp only [ref_MayCells_3_L, ref_MayCells_3_B, one_ev]
          rw [br_pos hlt', chk_pos ⟨hj, hlt'⟩, chk_pos ⟨hj, hlt'⟩, rstate_t hs]
          simp only [out_ev, un_b_ev, un_nil_ev, Bool.not_true, br_f]
          rw [chk_pos ⟨hj, hlt'⟩, chk_pos ⟨hj, hlt'⟩, br_pos h1]
        · by_cases h2 : b.getD j.toNat 0 > 64
          · refine no fun kx kr => ?_
            simp only [ref_MayCells_3_L, ref_MayCells_3_B, one_ev]
            rw [br_pos hlt', chk_pos ⟨hj, hlt'⟩, chk_pos ⟨hj, hlt'⟩, rstate_t hs]
            simp only [out_ev, un_b_ev, un_nil_ev, Bool.not_true, br_f]
            rw [chk_pos ⟨hj, hlt'⟩, chk_pos ⟨hj, hlt'⟩, br_neg h1, chk_pos ⟨hj, hlt'⟩, chk_pos ⟨hj, hlt'⟩, br_pos h2]
          · have e4 : addI .i64 t (b.getD j.toNat 0) = t + b.getD j.toNat 0 := addI_i (by unfold I63; omega)
            have e5 : subI .i64 1000 (b.getD j.toNat 0) = 1000 - b.getD j.toNat 0 := subI_i (by unfold I63; omega)
            by_cases h3 : t > 1000 - b.getD j.toNat 0
            · refine no fun kx kr => ?_
              simp only [ref_MayCells_3_L, ref_MayCells_3_B, one_ev, e4, e5]
              rw [br_pos hlt', chk_pos ⟨hj, hlt'⟩, chk_pos ⟨hj, hlt'⟩, rstate_t hs]
              simp only [out_ev, un_b_ev, un_nil_ev, Bool.not_true, br_f]
              rw [chk_pos ⟨hj, hlt'⟩, chk_pos ⟨hj, hlt'⟩, br_neg h1, chk_pos ⟨hj, hlt'⟩, chk_pos ⟨hj, hlt'⟩, br_neg h2, chk_pos ⟨hj, hlt'⟩, chk_pos ⟨hj, hlt'⟩, br_pos h3]
            · obtain ⟨r, g1, g2⟩ := rmay_D hl n (j + 1) (t + b.getD j.toNat 0) (by omega) (by omega) (by omega) (by omega)
              refine ⟨r, fun hr => ?_, fun kx kr => ?_⟩
              · obtain ⟨c1, c2⟩ := g1 hr
                rw [show (j + 1).toNat = j.toNat + 1 by omega] at c1 c2
                refine ⟨CsOk.consD hl (by omega) c1 hs (by omega), ?_⟩
                rw [spr_drop hl (by omega), List.length_append, List.length_replicate]
                omega
              · simp only [ref_MayCells_3_L, ref_MayCells_3_B, one_ev, e3, e4, e5]
                rw [br_pos hlt', chk_pos ⟨hj, hlt'⟩, chk_pos ⟨hj, hlt'⟩, rstate_t hs]
                simp only [out_ev, un_b_ev, un_nil_ev, Bool.not_true, br_f]
                rw [chk_pos ⟨hj, hlt'⟩, chk_pos ⟨hj, hlt'⟩, br_neg h1, chk_pos ⟨hj, hlt'⟩, chk_pos ⟨hj, hlt'⟩, br_neg h2, chk_pos ⟨hj, hlt'⟩, chk_pos ⟨hj, hlt'⟩, br_neg h3, chk_pos ⟨hj, hlt'⟩, chk_pos ⟨hj, hlt'⟩]
                simp only [chk_T]
                exact g2 kx kr
      · refine no fun kx kr => ?_
        simp only [ref_MayCells_3_L, ref_MayCells_3_B, one_ev]
        rw [br_pos hlt', chk_pos ⟨hj, hlt'⟩, chk_pos ⟨hj, hlt'⟩, rstate_n hs]
        simp only [out_ev, un_b_ev, un_nil_ev, Bool.not_false, br_t]
    · refine ⟨true, fun _ => ?_, fun kx kr => ?_⟩
      · rw [List.drop_eq_nil_of_le (by omega), List.drop_eq_nil_of_le (by omega)]
        exact ⟨CsOk.nil, by simp [spr]; omega⟩
      · simp only [ref_MayCells_3_L, ref_MayCells_3_B, one_ev]
        rw [br_neg (show ¬ j < Int.ofNat a.length from hlt)]
        rfl
theorem rmay_dec {a b : List Int} (hl : b.length = a.length) : ref_MayCells a b = some [.b false] ∨ (ref_MayCells a b = some [.b true] ∧ CsOk a b ∧ (spr a b).length ≤ 1000) := by
  obtain ⟨r, h1, h2⟩ := rmay_D hl top 0 0 (by omega) (by omega) (by omega) (by
    have : top = 1000000000000000000000000 := rfl
    omega)
  have : ref_MayCells a b = some [.b r] := by
    unfold ref_MayCells ref_MayCells_d
    simp only [one_ev, chk_T]
    rw [h2]
    cases r
    · simp only [cond_false, un_li_ev, un_b_ev, un_nil_ev]
    · simp only [cond_true, beq00, br_t, un_li_ev, un_nil_ev]
  cases r
  · exact .inl this
  · obtain ⟨c1, c2⟩ := h1 rfl
    simp only [Int.toNat_zero, List.drop_zero] at c1 c2
    exact .inr ⟨this, c1, by omega⟩
theorem rspr8 {a b : List Int} {i : Int} (hi : 0 ≤ i ∧ i < Int.ofNat a.length) {α : Type} (kx : Nat → List Leaf → Option α) (kr : List Leaf → Option α) : ∀ (m n : Nat) (l : List Int) (k : Int), 0 ≤ k → k + m = b.getD i.toNat 0 → l.length + m ≤ 1000000 → k + m ≤ 1000000 → m < n →
    ref_Spread_8_L kx kr n a b l k i = kx 2 [.li a, .li b, .li (l ++ List.replicate m (a.getD i.toNat 0)), .i i]
  | 0, n, l, k, h0, hk, hl, hk1, hn => by
    obtain ⟨n, rfl⟩ : ∃ n', n = n' + 1 := ⟨n - 1, by omega⟩
    simp only [ref_Spread_8_L, ref_Spread_8_B]
    rw [chk_pos hi, chk_pos hi, br_neg (by omega)]
    simp only [decide_true, Bool.and_true, chk_t, List.replicate_zero, List.append_nil]
  | m + 1, n, l, k, h0, hk, hl, hk1, hn => by
    obtain ⟨n, rfl⟩ : ∃ n', n = n' + 1 := ⟨n - 1, by omega⟩
    have e3 : addI .i64 k 1 = k + 1 := addI_i (by unfold I63; omega)
    have ih := rspr8 (b := b) hi kx kr m n (l ++ [a.getD i.toNat 0]) (k + 1) (by omega) (by omega) (by simp; omega) (by omega) (by omega)
    have room : ((Int.ofNat l.length + (↑(1 : Nat) : Int)) * (↑(nat_lit 8) : Int) ≤ (140737488355328 : Int) ∧ Int.ofNat l.length + (↑(1 : Nat) : Int) ≤ (4611686018427387904 : Int)) := by
      simp only [Int.ofNat_eq_natCast]; constructor <;> omega
    have grown : ∀ {l : List Int} {s : Int}, decide (Int.ofNat l.length + (↑(1 : Nat) : Int) = Int.ofNat (List.length (l ++ [s]))) = true := fun {l s} => by simp
    simp only [ref_Spread_8_L, ref_Spread_8_B, one_ev, e3]
    rw [chk_pos hi, chk_pos hi, br_pos (by omega), chk_pos hi, chk_pos hi]
    simp only [decide_true, Bool.and_true, Bool.true_and, chk_t, room, grown, and_self]
    rw [ih, List.append_assoc, List.replicate_succ]
    rfl
theorem rspr5 {a b : List Int} (hc : CsOk a b) (ha : a.length ≤ 1000) {α : Type} (kx : Nat → List Leaf → Option α) (kr : List Leaf → Option α) : ∀ (m n : Nat) (l : List Int) (j : Int), 0 ≤ j → j + m = (a.length : Int) → l.length + (spr (a.drop j.toNat) (b.drop j.toNat)).length ≤ 1000 → m < n →
    ref_Spread_5_L kx kr n a b l j = kx 0 [.li a, .li b, .li (l ++ spr (a.drop j.toNat) (b.drop j.toNat))]
  | 0, n, l, j, hj, hm, hs, hn => by
    obtain ⟨n, rfl⟩ : ∃ n', n = n' + 1 := ⟨n - 1, by omega⟩
    simp only [ref_Spread_5_L, ref_Spread_5_B, one_ev]
    rw [br_neg (by simp; omega), List.drop_eq_nil_of_le (by omega)]
    simp only [decide_true, Bool.and_true, chk_t, spr, List.append_nil]
  | m + 1, n, l, j, hj, hm, hs, hn => by
    obtain ⟨n, rfl⟩ : ∃ n', n = n' + 1 := ⟨n - 1, by omega⟩
    have hlt : j < Int.ofNat a.length := by simp; omega
    obtain ⟨p1, p2, p3⟩ := hc.at hj (by omega)
    rw [spr_drop hc.len (by omega), List.length_append, List.length_replicate] at hs
    have e3 : addI .i64 j 1 = j + 1 := addI_i (by unfold I63; omega)
    have ih := rspr5 hc ha kx kr m n (l ++ List.replicate (b.getD j.toNat 0).toNat (a.getD j.toNat 0)) (j + 1) (by omega) (by omega) (by rw [show (j + 1).toNat = j.toNat + 1 by omega, List.length_append, List.length_replicate]; omega) (by omega)
    rw [show (j + 1).toNat = j.toNat + 1 by omega, List.append_assoc, ← spr_drop hc.len (by omega)] at ih
    simp only [ref_Spread_5_L, ref_Spread_5_B, one_ev]
    rw [br_pos hlt]
    simp only [decide_true, Bool.and_true, chk_t]
    rw [rspr8 ⟨hj, hlt⟩ _ _ (b.getD j.toNat 0).toNat top l 0 (by omega) (by omega) (by omega) (by omega) (top_gt (by omega))]
    simp only [show Nat.beq 2 2 = true from rfl, br_t, un_li_ev, un_i_ev, un_nil_ev, e3, decide_true, Bool.and_true, chk_t]
    exact ih
theorem rspread_len {a b : List Int} (hl : b.length = a.length) : ∃ l, ref_Spread a b = some [.li l] ∧ l.length ≤ 1000 := by
  have z0 : decide ((0 : Int) = Int.ofNat (0 : Nat)) = true := by decide
  rcases rmay_dec hl with h | ⟨h, hc, hs⟩
  · refine ⟨[], ?_, by simp⟩
    unfold ref_Spread ref_Spread_d
    simp only [decide_true, Bool.and_true, chk_t, h, out_ev, un_b_ev, un_nil_ev, Bool.not_false, br_t, z0]
  · refine ⟨spr a b, ?_, hs⟩
    have hla := cs_len hc
    unfold ref_Spread ref_Spread_d
    simp only [decide_true, Bool.and_true, chk_t, h, out_ev, un_b_ev, un_nil_ev, Bool.not_true, br_f, z0]
    rw [rspr5 hc (by omega) _ _ a.length top [] 0 (by omega) (by omega) (by simp only [Int.toNat_zero, List.drop_zero, List.length_nil]; omega) (top_gt (by omega))]
    simp only [beq00, br_t, un_li_ev, un_nil_ev, decide_true, Bool.and_true, chk_t, List.nil_append, Int.toNat_zero, List.drop_zero]
def z : Nat → Int := fun _ => 0
theorem outs_seq (first : Int) (f : Nat → Int) (k : Nat) : outs (seqP first f k) = k := by
  have : (seqP first f k).filter (fun p => p.w = 0) = seqP first f k := List.filter_eq_self.2 fun p hp => by
    obtain ⟨i, _, rfl⟩ := List.mem_map.1 hp
    rfl
  unfold outs
  rw [this, seqP_len]
theorem few_seq (first : Int) (f : Nat → Int) (k : Nat) : (seqP first f k).filter (fun p => p.w = 1) = [] := by
  rw [List.filter_eq_nil_iff]
  intro p hp
  obtain ⟨i, _, rfl⟩ := List.mem_map.1 hp
  simp
/-- None of them is told of. -/
theorem hear_none {first : Int} {f : Nat → Int} {k : Nat} (hk : k ≤ 200) (hf : ∀ i, 0 ≤ f i ∧ f i ≤ 4611686018427387904) {c0 c1 : List Int} (hl : c1.length = c0.length) {last ack now : Int} {any : Bool}
    (hd : ∀ i : Nat, i < k → dif ack ((first + (i : Int)) % 281474976710656) < 0 ∨ 1000 ≤ dif ack ((first + (i : Int)) % 281474976710656)) :
    sent_Hear (pn (seqP first f k)) (pt (seqP first f k)) (pw (seqP first f k)) c0 c1 last any ack now = some [.li (pn (seqP first f k)), .li (pt (seqP first f k)), .li (pw (seqP first f k)), .li [], .li [], .li [], .i last, .b any, .i 0, .i (-1)] := by
  rcases may_dec hl with h | ⟨h, hc, hs⟩
  · exact hear_not h
  · have hsk := hfold_skip (tl := told (spr c0 c1) ack) (t := min (max now 0) 4611686018427387904) (q := seqP first f k) (h := ⟨[], [], 0, -1⟩) (fun p hp => by
      obtain ⟨i, hi, rfl⟩ := List.mem_map.1 hp
      refine .inl ?_
      have := hd i (by simpa using hi)
      unfold told
      rw [if_neg]
      simp only
      omega)
    have hfw := lose_few (q := seqP first f k) (by rw [few_seq]; simp)
    rw [hear_t (by rw [seqP_len]; omega) (fun p hp => by
      obtain ⟨i, hi, rfl⟩ := List.mem_map.1 hp
      exact hf i) hc hs hsk rfl, hfw.1, hfw.2.1]
theorem su_L {c0 c1 : List Int} {first off : Int} (hu : U first) {N : Nat} (hN : N ≤ 30) {α : Type} (kx : Nat → List Leaf → Option α) (kr : List Leaf → Option α) : ∀ (m n k : Nat), k + m = N → m < n →
    SentUnknown_7_L kx kr n c0 c1 (pn (seqP first z k)) (pt (seqP first z k)) (pw (seqP first z k)) (lastP first k) (decide (k ≠ 0)) k first N off =
      kx 0 [.li c0, .li c1, .li (pn (seqP first z N)), .li (pt (seqP first z N)), .li (pw (seqP first z N)), .i (lastP first N), .b (decide (N ≠ 0)), .i N, .i first, .i off]
  | 0, n, k, hk, hn => by
    obtain ⟨n, rfl⟩ : ∃ n', n = n' + 1 := ⟨n - 1, by omega⟩
    obtain rfl : k = N := by omega
    simp only [SentUnknown_7_L, SentUnknown_7_B]
    rw [br_neg (by omega)]
    simp only [decide_true, Bool.and_true, chk_t]
  | m + 1, n, k, hk, hn => by
    obtain ⟨n, rfl⟩ : ∃ n', n = n' + 1 := ⟨n - 1, by omega⟩
    have ih := su_L (c0 := c0) (c1 := c1) (off := off) hu hN kx kr m n (k + 1) (by omega) (by omega)
    have e1 : addI .i64 (k : Int) 1 = ((k + 1 : Nat) : Int) := by rw [addI_i (by unfold I63; omega)]; rfl
    have hp := put_seq (first := first) (f := z) (k := k) (by omega) (by simp [z]) (by simp [z])
    simp only [SentUnknown_7_L, SentUnknown_7_B]
    rw [br_pos (by omega), rstep_t _ hu]
    simp only [out_ev, un_i_ev, un_nil_ev]
    rw [show (0 : Int) = z k from rfl, hp]
    simp only [out_ev, un_li_ev, un_i_ev, un_b_ev, un_nil_ev, one_ev, e1, decide_true, Bool.and_true, chk_t]
    exact ih
theorem new_t : sent_New = some [.li [], .li [], .li [], .i 0, .b false] := by
  unfold sent_New
  simp [chk]
theorem dif_far {first off : Int} {i : Nat} (hi : i < 200) (h : 2000 ≤ off) (h1 : off < 1099511627776 + 2000) : 1000 ≤ dif ((first + off) % 281474976710656) ((first + (i : Int)) % 281474976710656) := by
  unfold dif
  split <;> omega
theorem dif_neg {first off : Int} {i : Nat} (hi : i < 200) (h : off < 0) (h1 : -1099511627778 ≤ off) : dif ((first + off) % 281474976710656) ((first + (i : Int)) % 281474976710656) < 0 := by
  unfold dif
  split <;> omega
theorem SentUnknown_true {cells0 cells1 : List Int} {first n2 off : Int} (_ : ∀ x ∈ cells0, I63 x) (_ : ∀ x ∈ cells1, I63 x) (hl : cells1.length = cells0.length) (hu : U first) : SentUnknown cells0 cells1 first n2 off = some [.b true] := by
  unfold SentUnknown SentUnknown_d
  obtain ⟨N', hN0, hN1, hN⟩ := rem_N (m := 20) (by omega) (by omega) n2
  obtain ⟨N, rfl⟩ : ∃ N : Nat, N' = (N : Int) := ⟨N'.toNat, by omega⟩
  have e1 : addI .i64 1 (N : Int) = ((N + 1 : Nat) : Int) := by rw [addI_i (by unfold I63; omega)]; omega
  simp only [one_ev, hN, e1, new_t, out_ev, un_li_ev, un_i_ev, un_b_ev, un_nil_ev, decide_true, Bool.and_true, chk_t]
  have hL := fun kx kr => su_L (c0 := cells0) (c1 := cells1) (off := off) hu (N := N + 1) (by omega) (α := List Leaf) kx kr (N + 1) top 0 (by omega) (top_gt (by omega))
  rw [show seqP first z 0 = [] from rfl, show lastP first 0 = 0 from rfl] at hL
  simp only [pn, pt, pw, List.map_nil, Int.natCast_zero, show decide ((0 : Nat) ≠ 0) = false by decide] at hL
  rw [hL]
  simp only [beq00, br_t, un_li_ev, un_i_ev, un_b_ev, un_nil_ev]
  have hb : -1099511627776 < remI .i64 off 1099511627776 ∧ remI .i64 off 1099511627776 < 1099511627776 := by
    unfold remI
    exact ⟨Int.lt_tmod_of_pos _ (by omega), Int.tmod_lt_of_pos _ (by omega)⟩
  obtain ⟨x, hx⟩ : ∃ x, x = remI .i64 off 1099511627776 := ⟨_, rfl⟩
  rw [← hx] at hb ⊢
  have hz : ∀ i, 0 ≤ z i ∧ z i ≤ 4611686018427387904 := fun i => by simp [z]
  have hO : ∀ {last : Int} {any : Bool}, sent_Out (pn (seqP first z (N + 1))) (pt (seqP first z (N + 1))) (pw (seqP first z (N + 1))) last any = some [.i ((N + 1 : Nat) : Int)] := fun {last any} => by
    rw [out_t (by rw [seqP_len]; omega), outs_seq]
  change br (decide (x ≥ 0)) _ _ = _
  have z0 : ((Int.ofNat (List.length ([] : List Int))) == 0) = true := rfl
  simp only [show ∀ (l : List Pk), l.map Pk.n = pn l from fun _ => rfl, show ∀ (l : List Pk), l.map Pk.t = pt l from fun _ => rfl, show ∀ (l : List Pk), l.map Pk.w = pw l from fun _ => rfl]
  by_cases h : x ≥ 0
  · rw [br_pos h]
    have e2 : addI .i64 2000 x = 2000 + x := addI_i (by unfold I63; omega)
    obtain ⟨q, hq⟩ : ∃ q : Nat, (q : Int) = min (Int.ofNat cells0.length) 20 := ⟨(min (Int.ofNat cells0.length) 20).toNat, by simp only [Int.ofNat_eq_natCast]; omega⟩
    have hq1 : q ≤ cells0.length ∧ q ≤ 20 := by simp only [Int.ofNat_eq_natCast] at hq; omega
    have hcs : ∀ R, condSl (rlOf ([Col.int .i64 cells0, Col.int .i64 cells1] :: R) (0 : Nat)) Option.none (Option.some (q : Int)) = true := fun R => by
      show decide ((0 : Int) ≤ q ∧ (q : Int) ≤ (cells0.length : Int)) = true
      exact decide_eq_true (by omega)
    have htl : (List.take q cells0).length = q := by rw [List.length_take]; omega
    have c1 : Int.ofNat (nat_lit 0) + (q : Int) ≤ Int.ofNat cells0.length := by
      show (0 : Int) + (q : Int) ≤ (cells0.length : Int); omega
    have d0 : ∀ l : List Int, l.drop (Int.toNat (Int.ofNat (nat_lit 0))) = l := fun l => rfl
    have d1 : ∀ l : List Int, l.drop (Int.toNat (Int.ofNat 0)) = l := fun l => rfl
    have c2 : decide ((q : Int) = Int.ofNat (List.take q cells0).length) = true := by rw [htl]; simp
    obtain ⟨l, hsp, hsl⟩ := rspread_len (a := List.take q cells0) (b := List.take q cells1) (by rw [List.length_take, List.length_take]; omega)
    simp only [one_ev, e2, minI_eq, ← hq, hcs, chk_t, rstep_t _ hu, out_ev, un_i_ev, un_nil_ev, c1, d0, d1, Int.toNat_natCast, c2, decide_true, Bool.and_true]
    rw [hear_none (by omega) hz (by rw [List.length_take, List.length_take]; omega) (fun i hi => .inr (dif_far (by omega) (by omega) (by omega)))]
    simp only [out_ev, un_li_ev, un_i_ev, un_b_ev, un_nil_ev, hsp, hO, z0, br_t]
    rw [br_pos (by omega), br_neg (by simp only [Int.ofNat_eq_natCast]; omega), br_eq rfl]
    simp
  · rw [br_neg h]
    have e2 : subI .i64 x 1 = x - 1 := subI_i (by unfold I63; omega)
    simp only [one_ev, e2, chk_t, rstep_t _ hu, out_ev, un_i_ev, un_nil_ev, decide_true, Bool.and_true]
    rw [hear_none (by omega) hz hl (fun i hi => .inl (dif_neg (by omega) (by omega) (by omega)))]
    simp only [out_ev, un_li_ev, un_i_ev, un_b_ev, un_nil_ev, hO, z0, br_t]
    rw [br_neg (by omega), br_eq rfl]
    simp
end Go.Sx.T

