import Derived.Test.YtabdgalicaifhaaGreatDoorYSRSpec
import Derived.Test.YtabdgalicaifhaaGreatDoorPlSent
set_option linter.all false
namespace Go.Sx.T
open Go Go.Sx
theorem outs_seq (first : Int) (f : Nat → Int) (k : Nat) : outs (seqP first f k) = k := by
  have : (seqP first f k).filter (fun p => p.w = 0) = seqP first f k := List.filter_eq_self.2 fun p hp => by
    obtain ⟨i, _, rfl⟩ := List.mem_map.1 hp
    rfl
  unfold outs
  rw [this, seqP_len]
theorem new_t : sent_New = some [.li [], .li [], .li [], .i 0, .b false] := by
  unfold sent_New
  simp [chk]
theorem lose_app {A q : List Pk} (h : ∀ p ∈ A, p.w = 1) : (lose (A ++ q)).ps = A ++ (lose q).ps ∧ (lose (A ++ q)).l = (lose q).l := by
  induction A with
  | nil => exact ⟨rfl, rfl⟩
  | cons p A ih =>
    obtain ⟨h1, h2⟩ := ih (fun x hx => h x (by simp [hx]))
    have h0 := h p (by simp)
    simp only [List.cons_append, lose, lstep, if_pos h0, h1, h2]
    exact ⟨trivial, trivial⟩
def cum (g : Nat → Int) : Nat → Int
  | 0 => g 0
  | k + 1 => cum g k + g (k + 1)
theorem cum_bd {g : Nat → Int} (h : ∀ i, 0 ≤ g i ∧ g i < 1000) : ∀ k, 0 ≤ cum g k ∧ cum g k ≤ 1000 * (k + 1)
  | 0 => by have := h 0; simp only [cum]; omega
  | k + 1 => by have := h (k + 1); have := cum_bd h k; simp only [cum]; omega
theorem cum_mono {g : Nat → Int} (h : ∀ i, 0 ≤ g i ∧ g i < 1000) {a : Nat} : ∀ d, cum g a ≤ cum g (a + d)
  | 0 => Int.le_refl _
  | d + 1 => by have := h (a + d + 1); have := cum_mono h (a := a) d; rw [show a + (d + 1) = a + d + 1 from rfl]; simp only [cum]; omega
def tail (first : Int) (f : Nat → Int) (a b : Nat) : List Pk := (List.range b).map fun (i : Nat) => ⟨(first + ((a + i : Nat) : Int)) % 281474976710656, f (a + i), 0⟩
theorem seqP_add (first : Int) (f : Nat → Int) (a b : Nat) : seqP first f (a + b) = seqP first f a ++ tail first f a b := by
  simp [seqP, tail, List.range_add]
def lastN (f : Nat → Int) (k : Nat) : Int := if k = 0 then 0 else f (k - 1)
def gp (gaps : List Int) (i : Nat) : Int := remI .i64 (addI .i64 (remI .i64 (gaps.getD i 0) 1000) 1000) 1000
theorem gp_bd (gaps : List Int) (i : Nat) : 0 ≤ gp gaps i ∧ gp gaps i < 1000 := by
  obtain ⟨N, h1, h2, h3⟩ := rem_N (m := 1000) (by omega) (by omega) (gaps.getD i 0)
  unfold gp
  rw [h3]; exact ⟨h1, h2⟩
theorem sr_L {gaps : List Int} {late which : Int} {N : Nat} (hN : (N : Int) = min (gaps.length : Int) 30) {α : Type} (kx : Nat → List Leaf → Option α) (kr : List Leaf → Option α) : ∀ (m n k : Nat), k + m = N → m < n →
    SentRtt_8_L kx kr n gaps ((List.range k).map (cum (gp gaps))) (pn (seqP 10 (cum (gp gaps)) k)) (pt (seqP 10 (cum (gp gaps)) k)) (pw (seqP 10 (cum (gp gaps)) k)) (lastP 10 k) (decide (k ≠ 0)) k (lastN (cum (gp gaps)) k) late which =
      kx 0 [.li gaps, .li (pn (seqP 10 (cum (gp gaps)) N)), .li (pt (seqP 10 (cum (gp gaps)) N)), .li (pw (seqP 10 (cum (gp gaps)) N)), .li ((List.range N).map (cum (gp gaps))), .i (lastP 10 N), .b (decide (N ≠ 0)), .i (lastN (cum (gp gaps)) N), .i late, .i which]
  | 0, n, k, hk, hn => by
    obtain ⟨n, rfl⟩ : ∃ n', n = n' + 1 := ⟨n - 1, by omega⟩
    obtain rfl : k = N := by omega
    simp only [SentRtt_8_L, SentRtt_8_B, one_ev, decide_true, Bool.and_true, chk_t]
    by_cases h : (k : Int) < Int.ofNat gaps.length
    · rw [br_pos h, br_neg (by simp only [Int.ofNat_eq_natCast] at h; omega)]
    · rw [br_neg h]
  | m + 1, n, k, hk, hn => by
    obtain ⟨n, rfl⟩ : ∃ n', n = n' + 1 := ⟨n - 1, by omega⟩
    have ih := sr_L (late := late) (which := which) hN kx kr m n (k + 1) (by omega) (by omega)
    have hlt : (0 : Int) ≤ (k : Int) ∧ (k : Int) < Int.ofNat gaps.length := by simp only [Int.ofNat_eq_natCast]; omega
    have hb := cum_bd (gp_bd gaps) k
    have hg := gp_bd gaps k
    have e1 : addI .i64 (k : Int) 1 = ((k + 1 : Nat) : Int) := by rw [addI_i (by unfold I63; omega)]; rfl
    have e2 : addI .i64 10 (k : Int) = 10 + (k : Int) := addI_i (by unfold I63; omega)
    have e3 : wrapI .u64 (10 + (k : Int)) = (10 + (k : Int)) % 281474976710656 := by rw [wrapI_u]; omega
    have e4 : addI .i64 (lastN (cum (gp gaps)) k) (gp gaps k) = cum (gp gaps) k := by
      cases k with
      | zero => simp only [lastN, if_true, cum]; rw [addI_i (by unfold I63; omega)]; omega
      | succ k =>
        have hb' := cum_bd (gp_bd gaps) k
        simp only [lastN, cum, Nat.add_sub_cancel]
        rw [if_neg (by omega), addI_i (by unfold I63; omega)]
    have hp := put_seq (first := 10) (f := cum (gp gaps)) (k := k) (by omega) (by omega) (by omega)
    have room : ((Int.ofNat ((List.range k).map (cum (gp gaps))).length + (↑(1 : Nat) : Int)) * (↑(nat_lit 8) : Int) ≤ (140737488355328 : Int) ∧ Int.ofNat ((List.range k).map (cum (gp gaps))).length + (↑(1 : Nat) : Int) ≤ (4611686018427387904 : Int)) := by
      simp only [Int.ofNat_eq_natCast, List.length_map, List.length_range]; constructor <;> omega
    have grown : ∀ {l : List Int} {s : Int}, decide (Int.ofNat l.length + (↑(1 : Nat) : Int) = Int.ofNat (List.length (l ++ [s]))) = true := fun {l s} => by simp
    have hr : (List.range (k + 1)).map (cum (gp gaps)) = (List.range k).map (cum (gp gaps)) ++ [cum (gp gaps) k] := by simp [List.range_succ]
    simp only [SentRtt_8_L, SentRtt_8_B, one_ev, Int.toNat_natCast]
    rw [br_pos hlt.2, br_pos (by omega), chk_pos hlt, chk_pos hlt, show remI .i64 (addI .i64 (remI .i64 (gaps.getD k 0) 1000) 1000) 1000 = gp gaps k from rfl, e4, e2, e3]
    simp only [decide_true, Bool.and_true, Bool.true_and, chk_t, room, grown, and_self, hp, out_ev, un_li_ev, un_i_ev, un_b_ev, un_nil_ev, e1]
    rw [← hr]
    have hl : lastN (cum (gp gaps)) (k + 1) = cum (gp gaps) k := rfl
    rw [hl] at ih
    exact ih
theorem told_seq {W k : Nat} (hW : W < 30) (hk : k < 30) : told (List.replicate 64 0) ((10 + (W : Int)) % 281474976710656) ((10 + (k : Int)) % 281474976710656) = if k ≤ W then 0 else 3 := by
  unfold told
  rw [dif_seq (by omega) (by omega)]
  by_cases h : k ≤ W
  · rw [if_pos h, if_pos (by simp only [List.length_replicate]; omega), show ((W : Int) - (k : Int)).toNat = W - k by omega]
    simp only [List.getD_eq_getElem?_getD, List.getElem?_replicate]
    split <;> rfl
  · rw [if_neg h, if_neg (by omega)]
theorem cs64 : CsOk [0] [64] := ⟨rfl, by simp [St], by simp⟩
set_option maxHeartbeats 4000000 in
theorem SentRtt_true (gaps : List Int) (which late : Int) : SentRtt gaps which late = some [.b true] := by
  unfold SentRtt SentRtt_d
  obtain ⟨N, hN⟩ : ∃ N : Nat, (N : Int) = min (gaps.length : Int) 30 := ⟨(min (gaps.length : Int) 30).toNat, by omega⟩
  have z0 : decide ((0 : Int) = Int.ofNat (0 : Nat)) = true := by decide
  simp only [new_t, out_ev, un_li_ev, un_i_ev, un_b_ev, un_nil_ev, decide_true, Bool.and_true, chk_t, z0]
  have hL := fun kx kr => sr_L (gaps := gaps) (late := late) (which := which) hN (α := List Leaf) kx kr N top 0 (by omega) (top_gt (by omega))
  rw [show seqP 10 (cum (gp gaps)) 0 = [] from rfl, show lastP 10 0 = 0 from rfl, show lastN (cum (gp gaps)) 0 = 0 from rfl] at hL
  simp only [pn, pt, pw, List.map_nil, Int.natCast_zero, show decide ((0 : Nat) ≠ 0) = false by decide, List.range_zero] at hL
  rw [hL]
  simp only [beq00, br_t, un_li_ev, un_i_ev, un_b_ev, un_nil_ev, one_ev, List.length_map, List.length_range]
  simp only [show ∀ (l : List Pk), l.map Pk.n = pn l from fun _ => rfl, show ∀ (l : List Pk), l.map Pk.t = pt l from fun _ => rfl, show ∀ (l : List Pk), l.map Pk.w = pw l from fun _ => rfl]
  by_cases h0 : N = 0
  · subst h0
    rw [br_eq (show Int.ofNat 0 = 0 from rfl), out_t (by rw [seqP_len]; omega)]
    rfl
  · rw [br_ne (by simp only [Int.ofNat_eq_natCast]; omega)]
    obtain ⟨W', hW0, hW1, hW⟩ := rem_N (m := (N : Int)) (by omega) (by omega) which
    obtain ⟨W, rfl⟩ : ∃ W : Nat, W' = (W : Int) := ⟨W'.toNat, by omega⟩
    obtain ⟨D, hD⟩ : ∃ D : Nat, N = W + 1 + D := ⟨N - (W + 1), by omega⟩
    have hlast : lastN (cum (gp gaps)) N = cum (gp gaps) (N - 1) := if_neg h0
    have hb := cum_bd (gp_bd gaps) (N - 1)
    have hbW := cum_bd (gp_bd gaps) W
    have hmono : cum (gp gaps) W ≤ cum (gp gaps) (N - 1) := by
      have := cum_mono (gp_bd gaps) (a := W) D
      rwa [show W + D = N - 1 by omega] at this
    have hnz : (Int.ofNat N) ≠ 0 := by simp only [Int.ofNat_eq_natCast]; omega
    have e1 : minI late 1099511627776 = min late 1099511627776 := minI_eq _ _
    obtain ⟨L, hLe⟩ : ∃ L, L = max 0 (min late 1099511627776) := ⟨_, rfl⟩
    have e3 : addI .i64 10 (W : Int) = 10 + (W : Int) := addI_i (by unfold I63; omega)
    have e4 : wrapI .u64 (10 + (W : Int)) = (10 + (W : Int)) % 281474976710656 := by rw [wrapI_u]; omega
    have e5 : addI .i64 (cum (gp gaps) (N - 1)) L = cum (gp gaps) (N - 1) + L := addI_i (by unfold I63; omega)
    have e6 : addI .i64 (W : Int) 1 = ((W + 1 : Nat) : Int) := by rw [addI_i (by unfold I63; omega)]; rfl
    have e7 : subI .i64 (cum (gp gaps) (N - 1) + L) (cum (gp gaps) W) = cum (gp gaps) (N - 1) + L - cum (gp gaps) W := subI_i (by unfold I63; omega)
    have hg : ((List.range N).map (cum (gp gaps))).getD W 0 = cum (gp gaps) W := by
      rw [List.getD_eq_getElem?_getD, List.getElem?_map, List.getElem?_range (by omega)]
      rfl
    -- the two hearings
    let A := seqP 10 (cum (gp gaps)) (W + 1)
    let B := tail 10 (cum (gp gaps)) (W + 1) D
    have hsp : spr [0] [64] = List.replicate 64 0 := rfl
    have hA : ∀ p ∈ A, told (List.replicate 64 0) ((10 + (W : Int)) % 281474976710656) p.n = 0 ∧ p.w = 0 := fun p hp => by
      obtain ⟨i, hi, rfl⟩ := List.mem_map.1 hp
      have : i < W + 1 := by simpa using hi
      exact ⟨by rw [told_seq (by omega) (by omega), if_pos (by omega)], rfl⟩
    have hB : ∀ p ∈ B, told (List.replicate 64 0) ((10 + (W : Int)) % 281474976710656) p.n = 3 ∧ p.w = 0 := fun p hp => by
      obtain ⟨i, hi, rfl⟩ := List.mem_map.1 hp
      have : i < D := by simpa using hi
      refine ⟨?_, rfl⟩
      show told _ _ ((10 + ((W + 1 + i : Nat) : Int)) % 281474976710656) = 3
      rw [told_seq (by omega) (by omega), if_neg (by omega)]
    have hlA : A.getLast? = some ⟨(10 + (W : Int)) % 281474976710656, cum (gp gaps) W, 0⟩ := by
      show (seqP 10 (cum (gp gaps)) (W + 1)).getLast? = _
      rw [seqP_succ]; simp
    have hps : seqP 10 (cum (gp gaps)) N = A ++ B := by rw [hD]; exact seqP_add _ _ _ _
    have hgA : ∀ p ∈ gotAll A, p.w = 1 := fun p hp => by
      obtain ⟨q, _, rfl⟩ := List.mem_map.1 hp
      rfl
    have hBf : B.filter (fun p => p.w = 1) = [] := by
      rw [List.filter_eq_nil_iff]
      intro p hp
      simp [(hB p hp).2]
    obtain ⟨k1, k2, _⟩ := lose_few (q := B) (by rw [hBf]; simp)
    have hlo := lose_app (A := gotAll A) (q := B) hgA
    rw [k1, k2] at hlo
    have hf1 : hfold (told (spr [0] [64]) ((10 + (W : Int)) % 281474976710656)) (min (max (cum (gp gaps) (N - 1) + L) 0) 4611686018427387904) (A ++ B) ⟨[], [], 0, -1⟩ = (gotAll A ++ B, ⟨pn A, [], 0, max (min (max (cum (gp gaps) (N - 1) + L) 0) 4611686018427387904 - cum (gp gaps) W) 0⟩) := by
      rw [hsp, hfold_app, hfold_got hA, hfold_skip (fun p hp => .inl (hB p hp).1), hlA]
      rfl
    have hf2 : hfold (told (spr [0] [64]) ((10 + (W : Int)) % 281474976710656)) (min (max (cum (gp gaps) (N - 1) + L) 0) 4611686018427387904) (gotAll A ++ B) ⟨[], [], 0, -1⟩ = (gotAll A ++ B, ⟨[], [], 0, -1⟩) := by
      rw [hsp]
      refine hfold_skip fun p hp => ?_
      rcases List.mem_append.1 hp with h | h
      · exact .inr (hgA p h)
      · exact .inl (hB p h).1
    have hlen : (A ++ B).length = N := by rw [← hps, seqP_len]
    have hlen2 : (gotAll A ++ B).length = N := by rw [← hlen]; simp [gotAll]
    have hat1 : ∀ p ∈ A ++ B, 0 ≤ p.t ∧ p.t ≤ 4611686018427387904 := fun p hp => by
      rw [← hps] at hp
      obtain ⟨i, hi, rfl⟩ := List.mem_map.1 hp
      have : i < N := by simpa using hi
      have := cum_bd (gp_bd gaps) i
      show 0 ≤ cum (gp gaps) i ∧ cum (gp gaps) i ≤ _
      omega
    have hat2 : ∀ p ∈ gotAll A ++ B, 0 ≤ p.t ∧ p.t ≤ 4611686018427387904 := fun p hp => by
      rcases List.mem_append.1 hp with h | h
      · obtain ⟨q, hq, rfl⟩ := List.mem_map.1 h
        exact hat1 q (by simp [hq])
      · exact hat1 p (by simp [h])
    rw [show (decide (Int.ofNat N ≠ 0)) = true from decide_eq_true hnz]
    have c1 : decide ((↑(1 : Nat) : Int) = Int.ofNat (List.length [(0 : Int)])) = true := by decide
    simp only [chk_t, show Int.ofNat N = (N : Int) from rfl, hW, e1, maxI_eq, ← hLe, hlast, e3, e4, e5, e6, hps, c1]
    rw [hear_t (by omega) hat1 cs64 (by decide) hf1 (by simp [gotAll])]
    simp only [out_ev, un_li_ev, un_i_ev, un_b_ev, un_nil_ev, hlo.1]
    rw [hear_t (by omega) hat2 cs64 (by decide) hf2 rfl]
    simp only [out_ev, un_li_ev, un_i_ev, un_b_ev, un_nil_ev, Int.toNat_natCast, hg, e7]
    have hin : (0 : Int) ≤ (W : Int) ∧ (W : Int) < (N : Int) := by omega
    simp only [chk_R1 hin]
    have f1 : max (min (max (cum (gp gaps) (N - 1) + L) 0) 4611686018427387904 - cum (gp gaps) W) 0 = cum (gp gaps) (N - 1) + L - cum (gp gaps) W := by omega
    have f2 : Int.ofNat (pn A).length = ((W + 1 : Nat) : Int) := by
      rw [pn_len]; show Int.ofNat (seqP 10 (cum (gp gaps)) (W + 1)).length = _; rw [seqP_len]; rfl
    rw [f1, br_eq rfl, br_eq f2, br_eq rfl]
    rfl
end Go.Sx.T

