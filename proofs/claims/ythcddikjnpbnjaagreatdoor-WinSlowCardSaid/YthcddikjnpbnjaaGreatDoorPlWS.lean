import Derived.Test.YthcddikjnpbnjaaGreatDoorPlWinS
import Derived.Test.YthcddikjnpbnjaaGreatDoorPlSeq
import Derived.Test.YthcddikjnpbnjaaGreatDoorYWSSpec
set_option linter.all false
namespace Go.Sx.T
open Go Go.Sx
/-- The samples so far. -/
def SA (a : Bool) (sm sp rto : Int) : Prop := (a = false ∧ rto = 3000000) ∨ (a = true ∧ RS sm sp rto)
theorem SA.rto {a : Bool} {sm sp rto : Int} (h : SA a sm sp rto) : 0 ≤ rto ∧ rto ≤ 64000000 := by
  rcases h with ⟨_, rfl⟩ | ⟨_, h⟩
  · omega
  · have := rto_bounds sm sp
    rw [h.t]; omega
theorem SA.samp {a : Bool} {sm sp rto : Int} (h : SA a sm sp rto) (d : Int) : ∃ sm' sp' rto', rtt_Sample a sm sp rto d = some [.b true, .i sm', .i sp', .i rto'] ∧ SA true sm' sp' rto' := by
  rcases h with ⟨rfl, rfl⟩ | ⟨rfl, h⟩
  · exact ⟨_, _, _, rtt_Sample_first _ _ _ d, .inr ⟨rfl, RS.first d⟩⟩
  · exact ⟨_, _, _, rtt_Sample_t d h.s0 h.s1 h.p0 h.p1, .inr ⟨rfl, h.next d⟩⟩
theorem grow_n {k cwnd pipe hn ln due sm sp rto : Int} {hi li a runs : Bool} (hk : 0 ≤ k) (hk1 : k ≤ 100) (h0 : 1 ≤ cwnd) (hs : cwnd ≤ 1000) :
    win_grow cwnd 1000000 pipe 0 hn hi ln li runs due a sm sp rto k = some [.i (cwnd + k), .i 1000000, .i pipe, .i 0, .i hn, .b hi, .i ln, .b li, .b runs, .i due, .b a, .i sm, .i sp, .i rto] := by
  have e1 : subI .i64 1000000 cwnd = 1000000 - cwnd := subI_i (by unfold I63; omega)
  have e2 : addI .i64 cwnd k = cwnd + k := addI_i (by unfold I63; omega)
  have e3 : subI .i64 k k = 0 := by rw [subI_i (by unfold I63; omega)]; omega
  have e4 : addI .i64 0 0 = 0 := by decide
  unfold win_grow win_grow_d
  rw [br_pos (by omega)]
  simp only [one_ev, e1, minI_eq, show min k (1000000 - cwnd) = k by omega, e2, e3, e4]
  obtain ⟨n, ht⟩ : ∃ n, top = n + 1 := ⟨top - 1, by unfold top; omega⟩
  rw [ht]
  simp only [win_grow_5_L, win_grow_5_B]
  rw [br_neg (by omega)]
  simp only [beq00, br_t, un_i_ev, un_b_ev, un_nil_ev]
/-- k are got of what is on its way. -/
theorem hear_k {g : List Int} {cwnd pipe hn ln due sm sp rto sm' sp' rto' : Int} {hi li a runs : Bool} (hg : (g.length : Int) ≤ pipe) (hp : pipe ≤ 1000) (h0 : 1 ≤ cwnd) (hs : cwnd ≤ 1000) (hk : (g.length : Int) ≤ 100)
    (hsm : rtt_Sample a sm sp rto 1000 = some [.b true, .i sm', .i sp', .i rto']) (hr : 0 ≤ rto' ∧ rto' ≤ 64000000) :
    win_Hear g [] [] cwnd 1000000 pipe 0 hn hi ln li runs due a sm sp rto 0 1000 5 = some [.i (cwnd + g.length), .i 1000000, .i (pipe - g.length), .i 0, .i hn, .b hi, .i ln, .b li, .b (decide (pipe - g.length > 0)), .i (if pipe - g.length > 0 then 5 + rto' else due), .b true, .i sm', .i sp', .i rto'] := by
  obtain ⟨K, hK⟩ : ∃ K, K = (g.length : Int) := ⟨_, rfl⟩
  have hK0 : 0 ≤ K := by omega
  have e0 : Int.ofNat g.length = K := hK.symm
  rw [← hK] at hg hk ⊢
  have e1 : subI .i64 pipe K = pipe - K := subI_i (by unfold I63; omega)
  have e2 : subI .i64 (pipe - K) 0 = pipe - K := by rw [subI_i (by unfold I63; omega)]; omega
  have e3 : addI .i64 5 rto' = 5 + rto' := addI_i (by unfold I63; omega)
  have e4 : max (pipe - K) 0 = pipe - K := by omega
  unfold win_Hear
  simp only [one_ev, e0, len0, e1, e2, maxI_eq, e4]
  rw [br_pos (by omega), hsm]
  simp only [out_ev, un_i_ev, un_b_ev, un_nil_ev]
  by_cases hpos : K > 0
  · rw [br_pos hpos, grow_n hK0 hk h0 hs]
    simp only [out_ev, un_i_ev, un_b_ev, un_nil_ev]
    rw [br_neg (by omega), br_neg (by omega)]
    by_cases h : pipe - K > 0
    · rw [br_pos h, decide_eq_true h, if_pos h]
      simp only [win_runsTo, one_ev, minI_eq, show min (5 : Int) 4611686018427387904 = 5 by omega, rtt_Rto, out_ev, un_i_ev, un_b_ev, un_nil_ev, e3]
    · rw [br_neg h, decide_eq_false h, if_neg h]
  · rw [br_neg hpos]
    obtain rfl : K = 0 := by omega
    rw [br_neg (by omega), br_neg (by omega)]
    rw [show cwnd + 0 = cwnd by omega]
    by_cases h : pipe - 0 > 0
    · rw [br_pos h, decide_eq_true h, if_pos h]
      simp only [win_runsTo, one_ev, minI_eq, show min (5 : Int) 4611686018427387904 = 5 by omega, rtt_Rto, out_ev, un_i_ev, un_b_ev, un_nil_ev, e3]
    · rw [br_neg h, decide_eq_false h, if_neg h]
/-- One more is sent, or may not be. -/
theorem sent_one {cwnd pipe hn ln due sm sp rto n : Int} {hi li a runs : Bool} (h : SA a sm sp rto) (hp : 0 ≤ pipe) (hc : cwnd ≤ 1000) :
    ∃ ln' li' runs' due', win_Sent cwnd 1000000 pipe 0 hn hi ln li runs due a sm sp rto n 0 = some [.i cwnd, .i 1000000, .i (if pipe < cwnd then pipe + 1 else pipe), .i 0, .i hn, .b hi, .i ln', .b li', .b runs', .i due', .b a, .i sm, .i sp, .i rto, .b (decide (pipe < cwnd))] := by
  have hr := h.rto
  by_cases hlt : pipe < cwnd
  · rw [if_pos hlt, decide_eq_true hlt]
    cases runs
    · exact ⟨_, _, _, _, sent_go0 hlt hp (by omega) hr.1 hr.2 (by omega) (by omega)⟩
    · exact ⟨_, _, _, _, sent_go1 hlt hp (by omega)⟩
  · rw [if_neg hlt, decide_eq_false hlt]
    exact ⟨_, _, _, _, sent_no hlt⟩
theorem ws11 {cwnd hv sm sp rto K t22 i : Int} {hi a t23 : Bool} {ns : List Int} (h : SA a sm sp rto) (hc : cwnd ≤ 1000) (hK : K ≤ 5) : ∀ (m n : Nat) (j n2 pipe ln due : Int) (li runs : Bool), 0 ≤ j → j + m = K → 0 ≤ pipe → pipe ≤ cwnd → m < n →
    ∃ n2' pipe' ln' due' li' runs', 0 ≤ pipe' ∧ pipe' ≤ cwnd ∧ ∀ {α : Type} (kx : Nat → List Leaf → Option α) (kr : List Leaf → Option α), WinSlow_11_L kx kr n ns cwnd 1000000 pipe 0 hv hi ln li runs due a sm sp rto j n2 pipe t23 t22 i K =
      kx 2 [.li ns, .i cwnd, .i 1000000, .i pipe', .i 0, .i hv, .b hi, .i ln', .b li', .b runs', .i due', .b a, .i sm, .i sp, .i rto, .i n2', .b t23, .i t22, .i i, .i pipe', .i K]
  | 0, n, j, n2, pipe, ln, due, li, runs, h0, h1, hp, hpc, hn => by
    obtain ⟨n, rfl⟩ : ∃ n', n = n' + 1 := ⟨n - 1, by omega⟩
    refine ⟨n2, pipe, ln, due, li, runs, hp, hpc, fun kx kr => ?_⟩
    simp only [WinSlow_11_L, WinSlow_11_B]
    rw [br_neg (by omega)]
    simp only [decide_true, Bool.and_true, chk_t]
  | m + 1, n, j, n2, pipe, ln, due, li, runs, h0, h1, hp, hpc, hn => by
    obtain ⟨n, rfl⟩ : ∃ n', n = n' + 1 := ⟨n - 1, by omega⟩
    obtain ⟨ln1, li1, runs1, due1, hs⟩ := sent_one (hn := hv) (ln := ln) (due := due) (n := n2) (hi := hi) (li := li) (runs := runs) h hp hc
    obtain ⟨n2', p', ln', due', li', runs', g1, g2, g3⟩ := ws11 (t22 := t22) (i := i) (t23 := t23) (ns := ns) (hv := hv) (hi := hi) h hc hK m n (j + 1) (addI .u64 n2 1) (if pipe < cwnd then pipe + 1 else pipe) ln1 due1 li1 runs1 (by omega) (by omega) (by split <;> omega) (by split <;> omega) (by omega)
    refine ⟨n2', p', ln', due', li', runs', g1, g2, fun kx kr => ?_⟩
    have e1 : addI .i64 j 1 = j + 1 := addI_i (by unfold I63; omega)
    have e2 : addI .i64 pipe 1 = pipe + 1 := addI_i (by unfold I63; omega)
    rw [← g3 kx kr]
    simp only [WinSlow_11_L, WinSlow_11_B]
    rw [br_pos (by omega), hs]
    simp only [out_ev, un_i_ev, un_b_ev, un_nil_ev, win_Cwnd, one_ev, e1, e2, decide_true, Bool.and_true, chk_t]
    by_cases hlt : pipe < cwnd
    · simp only [if_pos hlt, decide_eq_true hlt, beq_self_eq_true, Bool.not_true, br_f, br_t]
    · simp only [if_neg hlt, decide_eq_false hlt, beq_self_eq_true, Bool.not_true, br_f]
theorem subU (a b : Int) : U (subI .u64 a b) := by rw [subI_u]; unfold U; omega
theorem addU (a b : Int) : U (addI .u64 a b) := by rw [addI_u]; unfold U; omega
theorem ws7 {ns : List Int} {hv : Int} {hi : Bool} {α : Type} (kx : Nat → List Leaf → Option α) (kr : List Leaf → Option α) : ∀ (m n : Nat) (i cwnd pipe n2 ln due sm sp rto : Int) (li runs a : Bool), 0 ≤ i → i + m = 30 → SA a sm sp rto → 3 ≤ cwnd → cwnd ≤ 3 + 5 * i → 0 ≤ pipe → pipe ≤ cwnd → m < n →
    WinSlow_7_L kx kr n ns cwnd 1000000 pipe 0 hv hi ln li runs due a sm sp rto n2 pipe i = kx 0 [.li ns]
  | 0, n, i, cwnd, pipe, n2, ln, due, sm, sp, rto, li, runs, a, h0, h1, hS, hc0, hc1, hp0, hp1, hn => by
    obtain ⟨n, rfl⟩ : ∃ n', n = n' + 1 := ⟨n - 1, by omega⟩
    simp only [WinSlow_7_L, WinSlow_7_B, one_ev]
    by_cases hl : i < Int.ofNat ns.length
    · rw [br_pos hl, br_neg (by omega)]
    · rw [br_neg hl]
  | m + 1, n, i, cwnd, pipe, n2, ln, due, sm, sp, rto, li, runs, a, h0, h1, hS, hc0, hc1, hp0, hp1, hn => by
    obtain ⟨n, rfl⟩ : ∃ n', n = n' + 1 := ⟨n - 1, by omega⟩
    by_cases hl : i < Int.ofNat ns.length
    · obtain ⟨K, hK0, hK1, eK⟩ := rem_N (m := 6) (by decide) (by decide) (ns.getD i.toNat 0)
      obtain ⟨n2', p', ln', due', li', runs', g1, g2, g3⟩ := ws11 (hv := hv) (t22 := i) (i := i) (t23 := decide (i < 30)) (ns := ns) (hi := hi) (K := K) hS (show cwnd ≤ 1000 by omega) (by omega) K.toNat top 0 n2 pipe ln due li runs (by omega) (by omega) hp0 hp1 (by unfold top; omega)
      obtain ⟨sm', sp', rto', q1, q2⟩ := hS.samp 1000
      have hr := q2.rto
      have e5 : addI .i64 i 1 = i + 1 := addI_i (by unfold I63; omega)
      have step : ∃ c : Nat, minI K p' = (c : Int) ∧ c ≤ 5 ∧ (c : Int) ≤ p' := ⟨(min K p').toNat, by rw [minI_eq]; omega, by omega, by omega⟩
      obtain ⟨c, hc, hc5, hcp⟩ := step
      have e6 : subI .i64 p' (c : Int) = p' - c := subI_i (by unfold I63; omega)
      have e7 : addI .i64 cwnd (c : Int) = cwnd + c := addI_i (by unfold I63; omega)
      have ih := fun nn (hnn : nn = n2') => ws7 (ns := ns) (hv := hv) (hi := hi) kx kr m n (i + 1) (cwnd + c) (p' - c) nn ln' (if p' - c > 0 then 5 + rto' else due') sm' sp' rto' li' (decide (p' - c > 0)) true (by omega) (by omega) q2 (by omega) (by omega) (by omega) (by omega) (by omega)
      simp only [WinSlow_7_L, WinSlow_7_B, one_ev]
      rw [br_pos hl, br_pos (show i < 30 by omega), chk_pos ⟨h0, hl⟩, chk_pos ⟨h0, hl⟩, eK]
      simp only [decide_true, Bool.and_true, chk_t] at g3 ⊢
      rw [g3]
      simp only [show Nat.beq 2 2 = true from rfl, br_t, out_ev, un_li_ev, un_i_ev, un_b_ev, un_nil_ev, win_Cwnd, one_ev, hc, e6, e7, e5]
      match c, hc5 with
      | 0, _ =>
        have hh := hear_k (g := []) (cwnd := cwnd) (pipe := p') (hn := hv) (ln := ln') (due := due') (hi := hi) (li := li') (runs := runs') (by simpa using hcp) (by omega) (by omega) (by omega) (by simp) q1 hr
        rw [br_eq (show ((0 : Nat) : Int) = 0 from rfl)]
        have ih0 := ih n2' rfl
        simp only [List.length_cons, List.length_nil] at hh
        have z0 : decide ((0 : Int) = ((0 : Nat) : Int)) = true := by decide
        simp only [out_ev, un_i_ev, un_b_ev, un_nil_ev, one_ev, List.length_nil, Int.ofNat_eq_natCast, decide_true, Bool.and_true, Bool.and_self, chk_t, List.cons_append, List.nil_append, z0, hh, win_Pipe, bne_self_eq_false, br_f]
        exact ih0
      | 1, _ =>
        have hh := hear_k (g := [(subI .u64 n2' (wrapI .u64 ((1 : Nat) : Int))) % 281474976710656]) (cwnd := cwnd) (pipe := p') (hn := hv) (ln := ln') (due := due') (hi := hi) (li := li') (runs := runs') (by simpa using hcp) (by omega) (by omega) (by omega) (by simp) q1 hr
        rw [br_ne (show ((1 : Nat) : Int) ≠ 0 by decide), br_eq (show ((1 : Nat) : Int) = 1 from rfl)]
        have ih0 := ih n2' rfl
        simp only [List.length_cons, List.length_nil] at hh
        have z0 : decide ((0 : Int) = ((0 : Nat) : Int)) = true := by decide
        have z1 : decide (((1 : Nat) : Int) = ((0 + 1 : Nat) : Int)) = true := by decide
        simp only [rseq_t (subU _ _), rseq_t (addU _ _), out_ev, un_i_ev, un_b_ev, un_nil_ev, one_ev, List.length_cons, List.length_nil, Int.ofNat_eq_natCast, decide_true, Bool.and_true, Bool.and_self, chk_t, List.cons_append, List.nil_append, z0, z1, hh, win_Pipe, bne_self_eq_false, br_f]
        exact ih0
      | 2, _ =>
        have hh := hear_k (g := [(subI .u64 n2' (wrapI .u64 ((2 : Nat) : Int))) % 281474976710656, (addI .u64 (subI .u64 n2' (wrapI .u64 ((2 : Nat) : Int))) 1) % 281474976710656]) (cwnd := cwnd) (pipe := p') (hn := hv) (ln := ln') (due := due') (hi := hi) (li := li') (runs := runs') (by simpa using hcp) (by omega) (by omega) (by omega) (by simp) q1 hr
        rw [br_ne (show ((2 : Nat) : Int) ≠ 0 by decide), br_ne (show ((2 : Nat) : Int) ≠ 1 by decide), br_eq (show ((2 : Nat) : Int) = 2 from rfl)]
        have ih0 := ih n2' rfl
        simp only [List.length_cons, List.length_nil] at hh
        have z0 : decide ((0 : Int) = ((0 : Nat) : Int)) = true := by decide
        have z1 : decide (((1 : Nat) : Int) + ((1 : Nat) : Int) = ((0 + 1 + 1 : Nat) : Int)) = true := by decide
        simp only [rseq_t (subU _ _), rseq_t (addU _ _), out_ev, un_i_ev, un_b_ev, un_nil_ev, one_ev, List.length_cons, List.length_nil, Int.ofNat_eq_natCast, decide_true, Bool.and_true, Bool.and_self, chk_t, List.cons_append, List.nil_append, z0, z1, hh, win_Pipe, bne_self_eq_false, br_f]
        exact ih0
      | 3, _ =>
        have hh := hear_k (g := [(subI .u64 n2' (wrapI .u64 ((3 : Nat) : Int))) % 281474976710656, (addI .u64 (subI .u64 n2' (wrapI .u64 ((3 : Nat) : Int))) 1) % 281474976710656, (addI .u64 (addI .u64 (subI .u64 n2' (wrapI .u64 ((3 : Nat) : Int))) 1) 1) % 281474976710656]) (cwnd := cwnd) (pipe := p') (hn := hv) (ln := ln') (due := due') (hi := hi) (li := li') (runs := runs') (by simpa using hcp) (by omega) (by omega) (by omega) (by simp) q1 hr
        rw [br_ne (show ((3 : Nat) : Int) ≠ 0 by decide), br_ne (show ((3 : Nat) : Int) ≠ 1 by decide), br_ne (show ((3 : Nat) : Int) ≠ 2 by decide), br_eq (show ((3 : Nat) : Int) = 3 from rfl)]
        have ih0 := ih n2' rfl
        simp only [List.length_cons, List.length_nil] at hh
        have z0 : decide ((0 : Int) = ((0 : Nat) : Int)) = true := by decide
        have z1 : decide (((1 : Nat) : Int) + ((1 : Nat) : Int) + ((1 : Nat) : Int) = ((0 + 1 + 1 + 1 : Nat) : Int)) = true := by decide
        simp only [rseq_t (subU _ _), rseq_t (addU _ _), out_ev, un_i_ev, un_b_ev, un_nil_ev, one_ev, List.length_cons, List.length_nil, Int.ofNat_eq_natCast, decide_true, Bool.and_true, Bool.and_self, chk_t, List.cons_append, List.nil_append, z0, z1, hh, win_Pipe, bne_self_eq_false, br_f]
        exact ih0
      | 4, _ =>
        have hh := hear_k (g := [(subI .u64 n2' (wrapI .u64 ((4 : Nat) : Int))) % 281474976710656, (addI .u64 (subI .u64 n2' (wrapI .u64 ((4 : Nat) : Int))) 1) % 281474976710656, (addI .u64 (addI .u64 (subI .u64 n2' (wrapI .u64 ((4 : Nat) : Int))) 1) 1) % 281474976710656, (addI .u64 (addI .u64 (addI .u64 (subI .u64 n2' (wrapI .u64 ((4 : Nat) : Int))) 1) 1) 1) % 281474976710656]) (cwnd := cwnd) (pipe := p') (hn := hv) (ln := ln') (due := due') (hi := hi) (li := li') (runs := runs') (by simpa using hcp) (by omega) (by omega) (by omega) (by simp) q1 hr
        rw [br_ne (show ((4 : Nat) : Int) ≠ 0 by decide), br_ne (show ((4 : Nat) : Int) ≠ 1 by decide), br_ne (show ((4 : Nat) : Int) ≠ 2 by decide), br_ne (show ((4 : Nat) : Int) ≠ 3 by decide), br_eq (show ((4 : Nat) : Int) = 4 from rfl)]
        have ih0 := ih n2' rfl
        simp only [List.length_cons, List.length_nil] at hh
        have z0 : decide ((0 : Int) = ((0 : Nat) : Int)) = true := by decide
        have z1 : decide (((1 : Nat) : Int) + ((1 : Nat) : Int) + ((1 : Nat) : Int) + ((1 : Nat) : Int) = ((0 + 1 + 1 + 1 + 1 : Nat) : Int)) = true := by decide
        simp only [rseq_t (subU _ _), rseq_t (addU _ _), out_ev, un_i_ev, un_b_ev, un_nil_ev, one_ev, List.length_cons, List.length_nil, Int.ofNat_eq_natCast, decide_true, Bool.and_true, Bool.and_self, chk_t, List.cons_append, List.nil_append, z0, z1, hh, win_Pipe, bne_self_eq_false, br_f]
        exact ih0
      | 5, _ =>
        have hh := hear_k (g := [(subI .u64 n2' (wrapI .u64 ((5 : Nat) : Int))) % 281474976710656, (addI .u64 (subI .u64 n2' (wrapI .u64 ((5 : Nat) : Int))) 1) % 281474976710656, (addI .u64 (addI .u64 (subI .u64 n2' (wrapI .u64 ((5 : Nat) : Int))) 1) 1) % 281474976710656, (addI .u64 (addI .u64 (addI .u64 (subI .u64 n2' (wrapI .u64 ((5 : Nat) : Int))) 1) 1) 1) % 281474976710656, (addI .u64 (addI .u64 (addI .u64 (addI .u64 (subI .u64 n2' (wrapI .u64 ((5 : Nat) : Int))) 1) 1) 1) 1) % 281474976710656]) (cwnd := cwnd) (pipe := p') (hn := hv) (ln := ln') (due := due') (hi := hi) (li := li') (runs := runs') (by simpa using hcp) (by omega) (by omega) (by omega) (by simp) q1 hr
        rw [br_ne (show ((5 : Nat) : Int) ≠ 0 by decide), br_ne (show ((5 : Nat) : Int) ≠ 1 by decide), br_ne (show ((5 : Nat) : Int) ≠ 2 by decide), br_ne (show ((5 : Nat) : Int) ≠ 3 by decide), br_ne (show ((5 : Nat) : Int) ≠ 4 by decide), br_eq (show ((5 : Nat) : Int) = 5 from rfl)]
        have ih0 := ih n2' rfl
        simp only [List.length_cons, List.length_nil] at hh
        have z0 : decide ((0 : Int) = ((0 : Nat) : Int)) = true := by decide
        have z1 : decide (((1 : Nat) : Int) + ((1 : Nat) : Int) + ((1 : Nat) : Int) + ((1 : Nat) : Int) + ((1 : Nat) : Int) = ((0 + 1 + 1 + 1 + 1 + 1 : Nat) : Int)) = true := by decide
        simp only [rseq_t (subU _ _), rseq_t (addU _ _), out_ev, un_i_ev, un_b_ev, un_nil_ev, one_ev, List.length_cons, List.length_nil, Int.ofNat_eq_natCast, decide_true, Bool.and_true, Bool.and_self, chk_t, List.cons_append, List.nil_append, z0, z1, hh, win_Pipe, bne_self_eq_false, br_f]
        exact ih0
    · simp only [WinSlow_7_L, WinSlow_7_B, one_ev]
      rw [br_neg hl]
theorem WinSlow_true (ns : List Int) : WinSlow ns = some [.b true] := by
  unfold WinSlow WinSlow_d
  simp only [new_win, out_ev, un_i_ev, un_b_ev, un_nil_ev, decide_true, Bool.and_true, chk_t]
  rw [ws7 _ _ 30 top 0 3 0 1 0 0 0 0 3000000 false false false (by omega) (by omega) (.inl ⟨rfl, rfl⟩) (by omega) (by omega) (by omega) (by omega) (by unfold top; omega)]
  simp only [beq00, br_t, un_li_ev, un_nil_ev]
end Go.Sx.T

