import Derived.Test.YtabdgalicaifhaaGreatDoorYSFSpec
import Derived.Test.YtabdgalicaifhaaGreatDoorPlSq
set_option linter.all false
namespace Go.Sx.T
open Go Go.Sx
def c200 (k : Nat) : Nat := if k < 200 then k else 200
theorem sf_L {first : Int} (hu : U first) {N : Nat} (hN : N ≤ 210) {α : Type} (kx : Nat → List Leaf → Option α) (kr : List Leaf → Option α) : ∀ (m n k : Nat), k + m = N → m < n →
    SentFull_7_L kx kr n (pn (seqP first z (c200 k))) (pt (seqP first z (c200 k))) (pw (seqP first z (c200 k))) (lastP first (c200 k)) (decide (c200 k ≠ 0)) k first N =
      kx 0 [.li (pn (seqP first z (c200 N))), .li (pt (seqP first z (c200 N))), .li (pw (seqP first z (c200 N))), .i (lastP first (c200 N)), .b (decide (c200 N ≠ 0)), .i N, .i first]
  | 0, n, k, hk, hn => by
    obtain ⟨n, rfl⟩ : ∃ n', n = n' + 1 := ⟨n - 1, by omega⟩
    obtain rfl : k = N := by omega
    simp only [SentFull_7_L, SentFull_7_B]
    rw [br_neg (by omega)]
    simp only [decide_true, Bool.and_true, chk_t]
  | m + 1, n, k, hk, hn => by
    obtain ⟨n, rfl⟩ : ∃ n', n = n' + 1 := ⟨n - 1, by omega⟩
    have ih := sf_L hu hN kx kr m n (k + 1) (by omega) (by omega)
    have e1 : addI .i64 (k : Int) 1 = ((k + 1 : Nat) : Int) := by rw [addI_i (by unfold I63; omega)]; rfl
    simp only [SentFull_7_L, SentFull_7_B]
    rw [br_pos (by omega), rstep_t _ hu]
    simp only [out_ev, un_i_ev, un_nil_ev, one_ev, e1, decide_true, Bool.and_true, chk_t]
    by_cases h : k < 200
    · have hc : c200 k = k := if_pos h
      have hp := put_seq (first := first) (f := z) (k := k) h (by simp [z]) (by simp [z])
      rw [hc, show (0 : Int) = z k from rfl, hp]
      simp only [out_ev, un_li_ev, un_i_ev, un_b_ev, un_nil_ev]
      rw [decide_eq_true (show (k : Int) < 200 by omega)]
      have hc1 : c200 (k + 1) = k + 1 := by unfold c200; split <;> omega
      rw [hc1] at ih
      exact ih
    · have hc : c200 k = 200 := if_neg h
      have hc1 : c200 (k + 1) = 200 := if_neg (by omega)
      have hu2 : U ((first + (k : Int)) % 281474976710656) := by unfold U; omega
      have hs : seqP first z 200 = ⟨first % 281474976710656, 0, 0⟩ :: tail first z 1 199 := by
        rw [show 200 = 1 + 199 from rfl, seqP_add, one_seq]; rfl
      have hp := put_full (p := ⟨first % 281474976710656, 0, 0⟩) (ps := tail first z 1 199) (last := lastP first 200) (now := 0) (any := decide ((200 : Nat) ≠ 0)) hu2 (by omega) (by rw [tail_len]; omega) rfl (fun _ => by
        unfold lastP
        rw [if_neg (by decide)]
        omega)
      rw [← hs] at hp
      rw [hc, hp]
      simp only [out_ev, un_li_ev, un_i_ev, un_b_ev, un_nil_ev]
      rw [decide_eq_false (show ¬ (k : Int) < 200 by omega)]
      rw [hc1] at ih
      exact ih
theorem cs1 : CsOk [0] [1] := ⟨rfl, by simp [St], by simp⟩
theorem has_t (n : Int) : law_has n = some [.i (if n ≥ 200 then 0 else 1)] := by
  unfold law_has
  by_cases h : n ≥ 200
  · rw [br_pos h, if_pos h]
  · rw [br_neg h, if_neg h]
theorem lastS_t (a b c : List Int) (last : Int) : sent_Last a b c last true = some [.i last, .b true] := rfl
set_option maxHeartbeats 4000000 in
theorem SentFull_true {first n2 : Int} (hu : U first) : SentFull first n2 = some [.b true] := by
  unfold SentFull SentFull_d
  obtain ⟨N', hN0, hN1, hN⟩ := rem_N (m := 20) (by omega) (by omega) n2
  obtain ⟨N'', rfl⟩ : ∃ N : Nat, N' = (N : Int) := ⟨N'.toNat, by omega⟩
  have e1 : addI .i64 190 (N'' : Int) = ((190 + N'' : Nat) : Int) := by rw [addI_i (by unfold I63; omega)]; omega
  obtain ⟨N, hNe⟩ : ∃ N, N = 190 + N'' := ⟨_, rfl⟩
  rw [← hNe] at e1
  simp only [one_ev, hN, e1, new_t, out_ev, un_li_ev, un_i_ev, un_b_ev, un_nil_ev, decide_true, Bool.and_true, chk_t]
  have hL := fun kx kr => sf_L hu (N := N) (by omega) (α := List Leaf) kx kr N top 0 (by omega) (top_gt (by omega))
  rw [show c200 0 = 0 from rfl, show seqP first z 0 = [] from rfl, show lastP first 0 = 0 from rfl] at hL
  simp only [pn, pt, pw, List.map_nil, Int.natCast_zero, show decide ((0 : Nat) ≠ 0) = false by decide] at hL
  rw [hL]
  simp only [beq00, br_t, un_li_ev, un_i_ev, un_b_ev, un_nil_ev]
  simp only [show ∀ (l : List Pk), l.map Pk.n = pn l from fun _ => rfl, show ∀ (l : List Pk), l.map Pk.t = pt l from fun _ => rfl, show ∀ (l : List Pk), l.map Pk.w = pw l from fun _ => rfl]
  obtain ⟨Q, hQ⟩ : ∃ Q, c200 N = Q + 1 := ⟨c200 N - 1, by unfold c200; split <;> omega⟩
  have hQb : (N < 200 ∧ Q + 1 = N) ∨ (200 ≤ N ∧ Q = 199) := by
    unfold c200 at hQ; split at hQ <;> omega
  let p0 : Pk := ⟨first % 281474976710656, 0, 0⟩
  let p1 : Pk := ⟨first % 281474976710656, 0, 1⟩
  let T := tail first z 1 Q
  have hTl : T.length = Q := tail_len _ _ _ _
  have hs : seqP first z (Q + 1) = [p0] ++ T := by
    rw [show Q + 1 = 1 + Q by omega, seqP_add, one_seq]; rfl
  have hTn : ∀ p ∈ T, told [0] first p.n = 3 := fun p hp => by
    obtain ⟨i, hi, rfl⟩ := List.mem_map.1 hp
    have : i < Q := by simpa using hi
    show told [0] first ((first + ((1 + i : Nat) : Int)) % 281474976710656) = 3
    unfold told
    rw [dif0 (by omega) (by omega), if_neg (by omega)]
  have h0n : told [0] first p0.n = 0 := by
    have : dif first (first % 281474976710656) = 0 := by unfold dif; split <;> omega
    show told [0] first (first % 281474976710656) = 0
    unfold told
    rw [this]
    rfl
  have hf : hfold (told (spr [0] [1]) first) (min (max 9 0) 4611686018427387904) ([p0] ++ T) ⟨[], [], 0, -1⟩ = ([p1] ++ T, ⟨[first % 281474976710656], [], 0, 9⟩) := by
    rw [show spr [0] [1] = [0] from rfl, hfold_app, hfold_got (q := [p0]) (fun p hp => by
      obtain rfl : p = p0 := by simpa using hp
      exact ⟨h0n, rfl⟩), hfold_skip (fun p hp => .inl (hTn p hp))]
    rfl
  obtain ⟨k1, k2, _⟩ := lose_few (q := T) (by rw [few_tail]; simp)
  have hlo := lose_app (A := [p1]) (q := T) (fun p hp => by
    obtain rfl : p = p1 := by simpa using hp
    rfl)
  rw [k1, k2] at hlo
  have hO1 : outs (seqP first z (Q + 1)) = Q + 1 := outs_seq _ _ _
  have hat : ∀ p ∈ [p0] ++ T, 0 ≤ p.t ∧ p.t ≤ 4611686018427387904 := fun p hp => by
    rw [← hs] at hp
    obtain ⟨i, hi, rfl⟩ := List.mem_map.1 hp
    show 0 ≤ (0 : Int) ∧ (0 : Int) ≤ _
    omega
  have c1 : decide ((↑(1 : Nat) : Int) = Int.ofNat (List.length [(0 : Int)])) = true := by decide
  have hlast : lastP first (Q + 1) = (first + (Q : Int)) % 281474976710656 := by
    unfold lastP
    rw [if_neg (by omega)]
    congr 1; omega
  have hul : U (lastP first (Q + 1)) := by rw [hlast]; unfold U; omega
  have hst : (lastP first (Q + 1) + 1) % 281474976710656 = (first + ((Q + 1 : Nat) : Int)) % 281474976710656 := by rw [hlast]; omega
  have hun : U ((first + ((Q + 1 : Nat) : Int)) % 281474976710656) := by unfold U; omega
  have hles : (lastP first (Q + 1) - (first + ((Q + 1 : Nat) : Int)) % 281474976710656 % 281474976710656) % 281474976710656 ≥ 140737488355328 := by rw [hlast]; omega
  have hmin : min (N : Int) 200 = ((Q + 1 : Nat) : Int) := by omega
  have e2 : addI .i64 (N : Int) 1 = (N : Int) + 1 := addI_i (by unfold I63; omega)
  have hsl : ([p0] ++ T).length = Q + 1 := by simp [hTl]
  have hsl1 : ([p1] ++ T).length = Q + 1 := by simp [hTl]
  have hOs : outs ([p0] ++ T) = Q + 1 := by rw [← hs]; exact hO1
  rw [hQ]
  simp only [len_t, out_ev, un_i_ev, un_b_ev, un_nil_ev, minI_eq, hmin, pn_len, seqP_len, decide_eq_true (show Q + 1 ≠ 0 by omega), lastS_t]
  rw [show ((((Q + 1 : Nat) : Int) != ((Q + 1 : Nat) : Int))) = false by simp, br_f, out_t (by rw [seqP_len]; omega), hO1]
  simp only [out_ev, un_i_ev, un_b_ev, un_nil_ev, c1, chk_t]
  rw [show ((((Q + 1 : Nat) : Int) != ((Q + 1 : Nat) : Int))) = false by simp, br_f, hs, hear_t (by omega) hat cs1 (by decide) hf (by simp)]
  simp only [out_ev, un_li_ev, un_i_ev, un_b_ev, un_nil_ev, hlo.1, rstep_t _ hul, hst]
  rcases hQb with ⟨h1, h2⟩ | ⟨h1, h2⟩
  · rw [put_t (ps := [p1] ++ T) hun (by omega) (by omega) (fun _ => hles)]
    simp only [out_ev, un_li_ev, un_i_ev, un_b_ev, un_nil_ev, pn_len, br_t, e2]
    rw [br_eq (show Int.ofNat [first % 281474976710656].length = 1 from rfl), br_eq rfl, br_eq (by rw [List.length_append, hsl1]; simp; omega), out_t (by rw [List.length_append, hsl1]; simp; omega)]
    simp only [out_ev, un_i_ev, un_nil_ev, has_t]
    rw [if_neg (by omega), outs_app, outs_app, show outs T = Q from outs_tail _ _ _ _, show outs [p1] = 0 from rfl, List.length_append, hsl1]
    have : subI .i64 ((Q + 1 + [(⟨(first + ((Q + 1 : Nat) : Int)) % 281474976710656 % 281474976710656, min 5 4611686018427387904, 0⟩ : Pk)].length : Nat) : Int) 1 = ((Q + 1 : Nat) : Int) := by
      rw [subI_i (by unfold I63; simp; omega)]; simp
    rw [this]
    simp [outs]
  · rw [show [p1] ++ T = p1 :: T from rfl, put_shift hun (by omega) (by omega) (by omega) (show (1 : Int) ≠ 0 by decide) hles]
    simp only [out_ev, un_li_ev, un_i_ev, un_b_ev, un_nil_ev, pn_len, br_t, e2]
    rw [br_eq (show Int.ofNat [first % 281474976710656].length = 1 from rfl), br_eq rfl, br_eq (by rw [List.length_append, hTl]; simp; omega), out_t (by rw [List.length_append, hTl]; simp; omega)]
    simp only [out_ev, un_i_ev, un_nil_ev, has_t]
    rw [if_pos (by omega), outs_app, show outs T = Q from outs_tail _ _ _ _, List.length_append, hTl]
    have : subI .i64 ((Q + [(⟨(first + ((Q + 1 : Nat) : Int)) % 281474976710656 % 281474976710656, min 5 4611686018427387904, 0⟩ : Pk)].length : Nat) : Int) 0 = ((Q + 1 : Nat) : Int) := by
      rw [subI_i (by unfold I63; simp; omega)]; simp
    rw [this]
    simp [outs]
end Go.Sx.T

