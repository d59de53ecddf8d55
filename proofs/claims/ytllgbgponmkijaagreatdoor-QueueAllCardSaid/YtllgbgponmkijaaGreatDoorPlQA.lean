import Derived.Test.YtllgbgponmkijaaGreatDoorYQASpec
import Derived.Test.YtllgbgponmkijaaGreatDoorPlA
set_option linter.all false
namespace Go.Sx.T
open Go Go.Sx
theorem top_gt {n : Nat} (h : n ≤ 1000000) : n < top := by
  have : top = 1000000000000000000000000 := rfl
  omega
def tot : List ByteArray → Int
  | [] => 0
  | a :: r => (a.size : Int) + tot r
theorem tot_app (a b : List ByteArray) : tot (a ++ b) = tot a + tot b := by
  induction a with
  | nil => simp [tot]
  | cons x a ih => simp only [List.cons_append, tot, ih]; omega
def Small (w : List ByteArray) : Prop := w.length ≤ 50 ∧ ∀ a ∈ w, a.size ≤ 1400
theorem tot_bd : ∀ {w : List ByteArray}, (∀ a ∈ w, a.size ≤ 1400) → 0 ≤ tot w ∧ tot w ≤ 1400 * w.length
  | [], _ => by simp [tot]
  | a :: r, h => by
    have h1 := tot_bd (w := r) (fun x hx => h x (by simp [hx]))
    have h2 := h a (by simp)
    simp only [tot, List.length_cons]
    omega
theorem beq_b (s : ByteArray) : (s == s) = true := by
  cases s with
  | mk d =>
    show ByteArray.beq ⟨d⟩ ⟨d⟩ = true
    simp [ByteArray.beq]
theorem qlen_t (w : List ByteArray) (m : Int) : queue_Len w m = some [.i (w.length : Int)] := rfl
theorem bytes_L {w : List ByteArray} {m : Int} (hw : Small w) {α : Type} (kx : Nat → List Leaf → Option α) (kr : List Leaf → Option α) : ∀ (q p : List ByteArray) (n : Nat), p ++ q = w → q.length < n →
    queue_Bytes_3_L kx kr n w m p.length (tot p) w.length = kx 0 [.ls w, .i m, .i (tot w)]
  | [], p, n, hp, hn => by
    obtain ⟨n, rfl⟩ : ∃ n', n = n' + 1 := ⟨n - 1, by omega⟩
    simp only [List.append_nil] at hp
    subst hp
    simp only [queue_Bytes_3_L, queue_Bytes_3_B]
    rw [br_neg (by omega)]
    simp only [decide_true, Bool.and_true, chk_t]
  | a :: q, p, n, hp, hn => by
    obtain ⟨n, rfl⟩ : ∃ n', n = n' + 1 := ⟨n - 1, by omega⟩
    have ih := bytes_L (m := m) hw kx kr q (p ++ [a]) n (by rw [← hp]; simp) (by simp at hn; omega)
    have hlen : w.length = p.length + (q.length + 1) := by rw [← hp]; simp
    have hg : w.getD p.length ByteArray.empty = a := by rw [← hp, List.getD_eq_getElem?_getD]; simp
    have hin : (0 : Int) ≤ (p.length : Int) ∧ (p.length : Int) < Int.ofNat w.length := by simp only [Int.ofNat_eq_natCast]; omega
    have hp' := tot_bd (w := p) (fun x hx => hw.2 x (by rw [← hp]; simp [hx]))
    have ha := hw.2 a (by rw [← hp]; simp)
    have hl := hw.1
    have e1 : addI .i64 (tot p) (a.size : Int) = tot (p ++ [a]) := by
      rw [tot_app, addI_i (by unfold I63; omega)]; simp [tot]
    have e2 : addI .i64 (p.length : Int) 1 = ((p ++ [a]).length : Int) := by rw [addI_i (by unfold I63; omega)]; simp
    simp only [queue_Bytes_3_L, queue_Bytes_3_B, Int.toNat_natCast, hg, one_ev, e1, e2]
    rw [br_pos (by omega), chk_pos hin, chk_pos hin]
    simp only [decide_true, Bool.and_true, chk_t]
    exact ih
theorem bytes_t {w : List ByteArray} {m : Int} (hw : Small w) : queue_Bytes w m = some [.i (tot w)] := by
  unfold queue_Bytes queue_Bytes_d
  have := fun kx kr => bytes_L (m := m) hw (α := List Leaf) kx kr w [] top rfl (top_gt (by have := hw.1; omega))
  simp only [List.length_nil, Int.natCast_zero, tot] at this
  simp only [decide_true, Bool.and_true, chk_t, qlen_t, out_ev, un_i_ev, un_nil_ev, this, beq00, br_t, un_ls_ev]
theorem qput_large {w : List ByteArray} {m : Int} {d : ByteArray} (h : (d.size : Int) > 1400) : queue_Put w m d = some [.ls w, .i m, .i 13] := by
  unfold queue_Put
  simp only [one_ev]
  rw [br_pos h]
  simp only [decide_true, Bool.and_true, chk_t]
theorem qput_full {w : List ByteArray} {m : Int} {d : ByteArray} (h : ¬ (d.size : Int) > 1400) (h2 : Int.ofNat w.length ≥ m) : queue_Put w m d = some [.ls w, .i m, .i 9] := by
  unfold queue_Put
  simp only [one_ev]
  rw [br_neg h, br_pos h2]
  simp only [decide_true, Bool.and_true, chk_t]
theorem qput_ok {w : List ByteArray} {m : Int} {d : ByteArray} (h : ¬ (d.size : Int) > 1400) (h2 : ¬ Int.ofNat w.length ≥ m) (hw : w.length ≤ 1000) : queue_Put w m d = some [.ls (w ++ [d]), .i m, .i 0] := by
  unfold queue_Put
  have room : ((Int.ofNat w.length + (↑(1 : Nat) : Int)) * (↑(nat_lit 16) : Int) ≤ (140737488355328 : Int) ∧ Int.ofNat w.length + (↑(1 : Nat) : Int) ≤ (4611686018427387904 : Int)) := by
    simp only [Int.ofNat_eq_natCast]; constructor <;> omega
  have grown : decide (Int.ofNat w.length + (↑(1 : Nat) : Int) = Int.ofNat (List.length (w ++ [d]))) = true := by simp
  simp only [one_ev]
  rw [br_neg h, br_neg h2]
  simp only [decide_true, Bool.and_true, Bool.true_and, chk_t, room, grown, and_self]
theorem qfirst_nil {m : Int} : queue_First [] m = some [.s { data := #[] }, .b false] := rfl
theorem qtake_nil {m : Int} : queue_Take [] m = some [.ls [], .i m, .s { data := #[] }, .b false] := rfl
theorem qfirst_cons {a : ByteArray} {r : List ByteArray} {m : Int} : queue_First (a :: r) m = some [.s a, .b true] := by
  unfold queue_First
  have hin : (0 : Int) ≤ (0 : Int) ∧ (0 : Int) < Int.ofNat (a :: r).length := ⟨by omega, by simp only [Int.ofNat_eq_natCast, List.length_cons]; omega⟩
  simp only [qlen_t, out_ev, un_i_ev, un_nil_ev, decide_true, Bool.and_true, chk_t]
  rw [br_ne (by simp only [List.length_cons]; omega), chk_pos hin, chk_pos (show (0 : Int) ≤ Int.ofNat (nat_lit 0) ∧ Int.ofNat (nat_lit 0) < Int.ofNat (a :: r).length from hin)]
  rfl
theorem qtake_cons {a : ByteArray} {r : List ByteArray} {m : Int} : queue_Take (a :: r) m = some [.ls r, .i m, .s a, .b true] := by
  unfold queue_Take
  have hsl : lenSl (rlOf [[], [Col.str (a :: r)]] (1 : Nat)) (Option.some (1 : Int)) Option.none = (r.length : Int) := by
    show ((a :: r).length : Int) - 1 = _
    rw [List.length_cons]; omega
  have hcs : condSl (rlOf [[], [Col.str (a :: r)]] (1 : Nat)) (Option.some (1 : Int)) Option.none = true := by
    show decide ((0 : Int) ≤ 1 ∧ 1 ≤ ((a :: r).length : Int)) = true
    rw [List.length_cons]; exact decide_eq_true (by omega)
  have k0 : (a :: r).drop (Int.toNat (Int.ofNat (nat_lit 1))) = r := rfl
  have k1 : (a :: r).drop (Int.toNat (Int.ofNat 1)) = r := rfl
  have c1 : Int.ofNat (nat_lit 1) + (r.length : Int) ≤ Int.ofNat (a :: r).length := by
    show (1 : Int) + r.length ≤ ((a :: r).length : Int)
    rw [List.length_cons]; omega
  have t1 : r.take r.length = r := List.take_length
  have c2 : decide ((r.length : Int) = Int.ofNat r.length) = true := by simp
  simp only [qfirst_cons, out_ev, un_s_ev, un_b_ev, un_nil_ev, decide_true, Bool.and_true, chk_t, br_t, hcs, hsl, k0, k1, Int.toNat_natCast, t1, c1, c2]
theorem text_t (s : ByteArray) : ∃ d, law1_Text s 30 = some [.s d] := by
  unfold law1_Text
  refine ⟨strSlO s none (some (min (s.size : Int) 30)), ?_⟩
  simp only [one_ev, minI_eq]
  rw [show condSl (s.size : Int) none (some (min (s.size : Int) 30)) = true from decide_eq_true (by omega), chk_t]
theorem qa_L {ops0 : List Int} {ops1 : List ByteArray} {most big : Int} (hm : 1 ≤ most ∧ most ≤ 50) {α : Type} (kx : Nat → List Leaf → Option α) (kr : List Leaf → Option α) : ∀ (m n : Nat) (i : Int) (w : List ByteArray), 0 ≤ i → i + m = min (ops0.length : Int) 60 → (w.length : Int) ≤ most → (∀ a ∈ w, a.size ≤ 1400) → m < n →
    QueueAll_10_L kx kr n ops0 ops1 w w most i (tot w) most big = kx 0 [.li ops0, .ls ops1]
  | 0, n, i, w, hi, him, hwl, hws, hn => by
    obtain ⟨n, rfl⟩ : ∃ n', n = n' + 1 := ⟨n - 1, by omega⟩
    simp only [QueueAll_10_L, QueueAll_10_B, one_ev]
    by_cases h : i < Int.ofNat ops0.length
    · rw [br_pos h, br_neg (by simp only [Int.ofNat_eq_natCast] at h; omega)]
      try simp only [decide_true, Bool.and_true, chk_t]
    · rw [br_neg h]
      try simp only [decide_true, Bool.and_true, chk_t]
  | m + 1, n, i, w, hi, him, hwl, hws, hn => by
    obtain ⟨n, rfl⟩ : ∃ n', n = n' + 1 := ⟨n - 1, by omega⟩
    have hin : (0 : Int) ≤ i ∧ i < Int.ofNat ops0.length := by simp only [Int.ofNat_eq_natCast]; omega
    have ih := fun w' h1 h2 => qa_L (ops0 := ops0) (ops1 := ops1) (big := big) hm kx kr m n (i + 1) w' (by omega) (by omega) h1 h2 (by omega)
    have e1 : addI .i64 i 1 = i + 1 := addI_i (by unfold I63; omega)
    have hw : Small w := ⟨by omega, hws⟩
    have htb := tot_bd hws
    obtain ⟨d0, hd0⟩ := text_t (List.getD ops1 (Int.toNat i) ByteArray.empty)
    obtain ⟨X, hX0, hX1, hX⟩ := rem_N (m := 60) (by omega) (by omega) big
    obtain ⟨Y, hY0, hY1, hY⟩ := rem_N (m := 10) (by omega) (by omega) big
    have e2 : addI .i64 1395 Y = 1395 + Y := addI_i (by unfold I63; omega)
    have ck1 : decide ((0 : Int) ≤ 1395 + Y ∧ 1395 + Y ≤ 1395 + Y ∧ (↑(nat_lit 1) : Int) * (1395 + Y) ≤ (140737488355328 : Int) ∧ 1395 + Y ≤ (4611686018427387904 : Int)) = true := decide_eq_true (by
      show (0 : Int) ≤ 1395 + Y ∧ 1395 + Y ≤ 1395 + Y ∧ 1 * (1395 + Y) ≤ (140737488355328 : Int) ∧ 1395 + Y ≤ (4611686018427387904 : Int)
      omega)
    have ck2 : rowIn Option.none (1395 + Y) (1395 + Y) = true := by simp [rowIn]; omega
    have z1 : ((13 : Int) != 13) = false := by decide
    have z2 : ((9 : Int) != 9) = false := by decide
    have z3 : ((0 : Int) != 0) = false := by decide
    have zl : ∀ x : Int, (x != x) = false := fun x => by simp
    have grown : ∀ d : ByteArray, decide (Int.ofNat w.length + (↑(1 : Nat) : Int) = Int.ofNat (List.length (w ++ [d]))) = true := fun d => by simp
    have room : ((Int.ofNat w.length + (↑(1 : Nat) : Int)) * (↑(nat_lit 16) : Int) ≤ (140737488355328 : Int) ∧ Int.ofNat w.length + (↑(1 : Nat) : Int) ≤ (4611686018427387904 : Int)) := by
      simp only [Int.ofNat_eq_natCast]; constructor <;> omega
    have lw : ∀ d : ByteArray, ((w ++ [d]).length : Int) = Int.ofNat w.length + (↑1 : Int) := fun d => by simp
    simp only [QueueAll_10_L, QueueAll_10_B, one_ev, e1]
    rw [br_pos hin.2, br_pos (by omega), chk_pos hin, chk_pos hin]
    simp only [hd0, out_ev, un_s_ev, un_nil_ev, hX, hY, e2, ck1, ck2, chk_t]
    by_cases hk : List.getD ops0 (Int.toNat i) 0 = 0
    · -- a datagram comes
      have put : ∀ d : ByteArray, ∃ x : Option α, x = kx 0 [.li ops0, .ls ops1] ∧ True := fun d => ⟨_, rfl, trivial⟩
      have small : ∀ d : ByteArray, ¬ (d.size : Int) > 1400 → ¬ Int.ofNat w.length ≥ most → Small (w ++ [d]) := fun d h1 h2 => ⟨by simp only [Int.ofNat_eq_natCast] at h2; simp; omega, fun a ha => by
        rcases List.mem_append.1 ha with h | h
        · exact hws a h
        · obtain rfl : a = d := by simpa using h
          omega⟩
      have eb : ∀ d : ByteArray, ¬ (d.size : Int) > 1400 → addI .i64 (tot w) (d.size : Int) = tot (w ++ [d]) := fun d h1 => by
        rw [tot_app, addI_i (by unfold I63; omega)]; simp [tot]
      have fin : ∀ d : ByteArray, ¬ (d.size : Int) > 1400 → ¬ Int.ofNat w.length ≥ most → QueueAll_10_L kx kr n ops0 ops1 (w ++ [d]) (w ++ [d]) most (i + 1) (tot (w ++ [d])) most big = kx 0 [.li ops0, .ls ops1] := fun d h1 h2 =>
        ih _ (by simp only [Int.ofNat_eq_natCast] at h2; simp; omega) (small d h1 h2).2
      by_cases hX2 : i = X
      · rw [br_eq hX2, chk_pos hin, chk_pos hin, br_eq hk]
        generalize strOfI (partL Option.none (1395 + Y) (List.replicate (Int.toNat (1395 + Y)) 0)) = d
        by_cases h1 : (d.size : Int) > 1400
        · rw [br_pos h1]
          simp only [qput_large h1, out_ev, un_ls_ev, un_i_ev, un_nil_ev, z1, br_f, qlen_t, bytes_t hw, zl, show Int.ofNat w.length = (w.length : Int) from rfl, decide_true, Bool.and_true, chk_t]
          exact ih w hwl hws
        · rw [br_neg h1]
          by_cases h2 : Int.ofNat w.length ≥ most
          · rw [br_pos h2]
            simp only [qput_full h1 h2, out_ev, un_ls_ev, un_i_ev, un_nil_ev, z2, br_f, qlen_t, bytes_t hw, zl, show Int.ofNat w.length = (w.length : Int) from rfl, decide_true, Bool.and_true, chk_t]
            exact ih w hwl hws
          · rw [br_neg h2]
            simp only [qput_ok h1 h2 (by omega), out_ev, un_ls_ev, un_i_ev, un_nil_ev, z3, br_f, qlen_t, bytes_t (small d h1 h2), zl, eb d h1, lw, grown, room, and_self, decide_true, Bool.and_true, Bool.true_and, chk_t]
            exact fin d h1 h2
      · rw [br_ne hX2, chk_pos hin, chk_pos hin, br_eq hk]
        by_cases h1 : (d0.size : Int) > 1400
        · rw [br_pos h1]
          simp only [qput_large h1, out_ev, un_ls_ev, un_i_ev, un_nil_ev, z1, br_f, qlen_t, bytes_t hw, zl, show Int.ofNat w.length = (w.length : Int) from rfl, decide_true, Bool.and_true, chk_t]
          exact ih w hwl hws
        · rw [br_neg h1]
          by_cases h2 : Int.ofNat w.length ≥ most
          · rw [br_pos h2]
            simp only [qput_full h1 h2, out_ev, un_ls_ev, un_i_ev, un_nil_ev, z2, br_f, qlen_t, bytes_t hw, zl, show Int.ofNat w.length = (w.length : Int) from rfl, decide_true, Bool.and_true, chk_t]
            exact ih w hwl hws
          · rw [br_neg h2]
            simp only [qput_ok h1 h2 (by omega), out_ev, un_ls_ev, un_i_ev, un_nil_ev, z3, br_f, qlen_t, bytes_t (small d0 h1 h2), zl, eb d0 h1, lw, grown, room, and_self, decide_true, Bool.and_true, Bool.true_and, chk_t]
            exact fin d0 h1 h2
    · -- the eldest one goes
      cases w with
      | nil =>
        have n1 : ∀ s : ByteArray, (!(s == s)) = false := fun s => by rw [beq_b]; rfl
        have g0 : decide (Int.ofNat (List.length ([] : List ByteArray)) > 0) = false := by decide
        have b0 := bytes_t (m := most) hw
        have fin := ih [] hwl hws
        by_cases hX2 : i = X
        · rw [br_eq hX2, chk_pos hin, chk_pos hin, br_ne hk]
          simp only [qfirst_nil, qtake_nil, out_ev, un_s_ev, un_ls_ev, un_b_ev, un_i_ev, un_nil_ev, g0, n1, br_f, br_t, Bool.not_false, qlen_t, b0, zl, show Int.ofNat (List.length ([] : List ByteArray)) = ((List.length ([] : List ByteArray) : Nat) : Int) from rfl, decide_true, Bool.and_true, chk_t]
          exact fin
        · rw [br_ne hX2, chk_pos hin, chk_pos hin, br_ne hk]
          simp only [qfirst_nil, qtake_nil, out_ev, un_s_ev, un_ls_ev, un_b_ev, un_i_ev, un_nil_ev, g0, n1, br_f, br_t, Bool.not_false, qlen_t, b0, zl, show Int.ofNat (List.length ([] : List ByteArray)) = ((List.length ([] : List ByteArray) : Nat) : Int) from rfl, decide_true, Bool.and_true, chk_t]
          exact fin
      | cons a r =>
        have n1 : ∀ s : ByteArray, (!(s == s)) = false := fun s => by rw [beq_b]; rfl
        have n2 : (!(true == true)) = false := rfl
        have g0 : decide (Int.ofNat (List.length (a :: r)) > 0) = true := decide_eq_true (by simp only [Int.ofNat_eq_natCast, List.length_cons]; omega)
        have hr : Small r := ⟨by have := hw.1; simp at this; omega, fun x hx => hws x (by simp [hx])⟩
        have b0 := bytes_t (m := most) hr
        have fin := ih r (by simp only [List.length_cons] at hwl; omega) hr.2
        have hi0 : (0 : Int) ≤ (0 : Int) ∧ (0 : Int) < Int.ofNat (a :: r).length := ⟨by omega, by simp only [Int.ofNat_eq_natCast, List.length_cons]; omega⟩
        have hi1 : (0 : Int) ≤ Int.ofNat (nat_lit 0) ∧ Int.ofNat (nat_lit 0) < Int.ofNat (a :: r).length := hi0
        have c0 : decide ((0 : Int) ≤ (0 : Int) ∧ (0 : Int) < Int.ofNat (a :: r).length) = true := decide_eq_true hi0
        have c1 : decide ((0 : Int) ≤ Int.ofNat (nat_lit 0) ∧ Int.ofNat (nat_lit 0) < Int.ofNat (a :: r).length) = true := decide_eq_true hi1
        have ga : List.getD (a :: r) (Int.toNat (Int.ofNat 0)) ByteArray.empty = a := rfl
        have hsl : lenSl (rlOf [[Col.int .i64 ops0, Col.str ops1], [], [Col.str (a :: r)], [Col.str (a :: r)]] (3 : Nat)) (Option.some (1 : Int)) Option.none = (r.length : Int) := by
          show ((a :: r).length : Int) - 1 = _
          rw [List.length_cons]; omega
        have hcs : condSl (rlOf [[Col.int .i64 ops0, Col.str ops1], [], [Col.str (a :: r)], [Col.str (a :: r)]] (3 : Nat)) (Option.some (1 : Int)) Option.none = true := by
          show decide ((0 : Int) ≤ 1 ∧ 1 ≤ ((a :: r).length : Int)) = true
          rw [List.length_cons]; exact decide_eq_true (by omega)
        have k0 : (a :: r).drop (Int.toNat (Int.ofNat (nat_lit 1))) = r := rfl
        have k1 : (a :: r).drop (Int.toNat (Int.ofNat 1)) = r := rfl
        have c2 : decide (Int.ofNat (nat_lit 1) + (r.length : Int) ≤ Int.ofNat (a :: r).length) = true := decide_eq_true (by
          show (1 : Int) + r.length ≤ ((a :: r).length : Int)
          rw [List.length_cons]; omega)
        have t1 : r.take r.length = r := List.take_length
        have c3 : decide ((r.length : Int) = Int.ofNat r.length) = true := by simp
        have htr := tot_bd hr.2
        have hrl := hr.1
        have e3 : subI .i64 (tot (a :: r)) (a.size : Int) = tot r := by
          rw [subI_i (by unfold I63; simp only [tot]; omega)]; simp only [tot]; omega
        by_cases hX2 : i = X
        · rw [br_eq hX2, chk_pos hin, chk_pos hin, br_ne hk]
          simp only [qfirst_cons, qtake_cons, out_ev, un_s_ev, un_ls_ev, un_b_ev, un_i_ev, un_nil_ev, g0, n1, n2, br_f, br_t, Bool.not_true, c0, c1, ga, hsl, hcs, k0, k1, Int.toNat_natCast, t1, c2, c3, e3, qlen_t, b0, zl, decide_true, Bool.and_true, chk_t]
          exact fin
        · rw [br_ne hX2, chk_pos hin, chk_pos hin, br_ne hk]
          simp only [qfirst_cons, qtake_cons, out_ev, un_s_ev, un_ls_ev, un_b_ev, un_i_ev, un_nil_ev, g0, n1, n2, br_f, br_t, Bool.not_true, c0, c1, ga, hsl, hcs, k0, k1, Int.toNat_natCast, t1, c2, c3, e3, qlen_t, b0, zl, decide_true, Bool.and_true, chk_t]
          exact fin
theorem QueueAll_true (ops0 : List Int) (ops1 : List ByteArray) (most big : Int) : QueueAll ops0 ops1 most big = some [.b true] := by
  unfold QueueAll QueueAll_d
  by_cases h1 : most < 1
  · rw [br_pos h1, br_pos h1]
  · rw [br_neg h1]
    by_cases h2 : most > 50
    · rw [br_pos h2, br_neg h1, br_pos h2]
    · rw [br_neg h2, br_neg h1, br_neg h2]
      have z0 : decide ((0 : Int) = Int.ofNat (0 : Nat)) = true := by decide
      have hL := fun kx kr => qa_L (ops0 := ops0) (ops1 := ops1) (big := big) (most := most) (by omega) (α := List Leaf) kx kr (min (ops0.length : Int) 60).toNat top 0 [] (by omega) (by omega) (by simp; omega) (by simp) (top_gt (by omega))
      simp only [tot] at hL
      simp only [z0, decide_true, Bool.and_true, chk_t, hL, beq00, br_t, un_li_ev, un_ls_ev, un_nil_ev]
end Go.Sx.T

