import Derived.Test.YthcddikjnpbnjaaGreatDoorYFPSpec
import Derived.Test.YthcddikjnpbnjaaGreatDoorPlCel
set_option linter.all false
namespace Go.Sx.T
open Go Go.Sx
structure FS where
  gk : List Int
  gv : List Int
  lk : List Int
  lv : List Bool
  cl : List Int
  r : Int
  any : Bool
  now : Int
  fs : Int
  nw : Int
  ct : Int
  ev : Bool
  ea : Int
  en : Int
  bs : Int
  si : Int
def FS.ls (F : FS) : List Leaf := [.li F.gk, .li F.gv, .li F.lk, .lb F.lv, .li F.cl, .i F.r, .b F.any, .i F.now, .i F.fs, .i F.nw, .i F.ct, .b F.ev, .i F.ea, .i F.en, .i F.bs, .i F.si]
def loseG (F : FS) (n t : Int) : FS :=
  if F.ev = true ∧ t ≤ F.ea + F.r then { F with lk := mputK F.lk n, lv := mputV F.lk F.lv n true, ct := F.ct + 1 }
  else { F with lk := mputK F.lk n, lv := mputV F.lk F.lv n true, ct := F.ct + 1, cl := (max (dif n (if F.ev = true then F.en else F.fs)) 1 :: F.cl).take 8, ev := true, ea := t, en := n }
theorem dif_bd (a b : Int) : -140737488355328 ≤ dif a b ∧ dif a b < 140737488355328 := by
  unfold dif
  split <;> omega
theorem lose_G (F : FS) (n t : Int) (h1 : 0 ≤ F.ct ∧ F.ct < 1000000) (h2 : I63 (F.ea + F.r)) (h3 : F.cl.length ≤ 8) :
    feed_lose F.gk F.gv F.lk F.lv F.cl F.r F.any F.now F.fs F.nw F.ct F.ev F.ea F.en F.bs F.si n t = some (loseG F n t).ls := by
  obtain ⟨gk, gv, lk, lv, cl, r, any, now, fs, nw, ct, ev, ea, en, bs, si⟩ := F
  simp only at h1 h2 h3 ⊢
  have e1 : addI .i64 ct 1 = ct + 1 := addI_i (by unfold I63; omega)
  have e2 : addI .i64 ea r = ea + r := addI_i h2
  have hw : ∀ x, wrapI .u64 (max (dif n x) 1) = max (dif n x) 1 := fun x => by
    have := dif_bd n x
    rw [wrapI_u]; omega
  have room : (((↑(1 : Nat) : Int) + Int.ofNat cl.length) * (↑(nat_lit 8) : Int) ≤ (140737488355328 : Int) ∧ (↑(1 : Nat) : Int) + Int.ofNat cl.length ≤ (4611686018427387904 : Int)) := by
    simp only [Int.ofNat_eq_natCast]; constructor <;> omega
  obtain ⟨m, hm⟩ : ∃ m : Int, m = min (1 + (cl.length : Int)) 8 := ⟨_, rfl⟩
  have e3 : minI ((↑1 : Int) + Int.ofNat cl.length) 8 = m := by
    rw [minI_eq, hm]; rfl
  have e4 : condSl ((↑(1 : Nat) : Int) + rlOf [[], [Col.int .i64 gk, Col.int .i64 gv], [Col.int .i64 lk, Col.bool lv], [Col.int .u64 cl]] (3 : Nat)) Option.none (Option.some m) = true := by
    show decide ((0 : Int) ≤ m ∧ m ≤ 1 + (cl.length : Int)) = true
    exact decide_eq_true (by omega)
  have e6 : decide (Int.ofNat (nat_lit 0) + m ≤ (↑(1 : Nat) : Int) + Int.ofNat (List.length cl)) = true := by
    apply decide_eq_true
    show (0 : Int) + m ≤ 1 + (cl.length : Int)
    omega
  have e7 : ∀ x : Int, List.take m.toNat (List.drop (Int.toNat (Int.ofNat (nat_lit 0))) ([x] ++ cl)) = (x :: cl).take 8 := fun x => by
    show List.take m.toNat (x :: cl) = _
    by_cases h : cl.length + 1 ≤ 8
    · rw [List.take_of_length_le (by simp; omega), List.take_of_length_le (by simp; omega)]
    · rw [show m.toNat = 8 by omega]
  have e8 : ∀ x : Int, decide (m = Int.ofNat (List.length ((x :: cl).take 8))) = true := fun x => by
    apply decide_eq_true
    simp only [Int.ofNat_eq_natCast, List.length_take, List.length_cons]
    omega
  have e9 : List.take (Int.toNat (Int.ofNat (List.length cl))) (List.drop (Int.toNat (Int.ofNat (nat_lit 0))) cl) = cl := by
    show List.take cl.length cl = cl
    exact List.take_of_length_le (Nat.le_refl _)
  have e10 : decide (Int.ofNat (nat_lit 0) + Int.ofNat (List.length cl) ≤ Int.ofNat (List.length cl)) = true := by
    apply decide_eq_true
    show (0 : Int) + (cl.length : Int) ≤ (cl.length : Int)
    omega
  unfold feed_lose
  have e7' : ∀ x : Int, List.take m.toNat (List.drop (Int.toNat (Int.ofNat 0)) ([x] ++ cl)) = (x :: cl).take 8 := e7
  have e9' : List.take (Int.toNat (Int.ofNat (List.length cl))) (List.drop (Int.toNat (Int.ofNat 0)) cl) = cl := e9
  simp only [one_ev, e1, e2, e3, e4, e6, e7, e7', e8, e9, e9', e10, diffD_t, out_ev, un_i_ev, un_nil_ev, maxI_eq, hw, room, and_self, decide_true, Bool.and_true, chk_t]
  unfold loseG
  simp only
  cases ev
  · simp only [br_f, Bool.false_eq_true, false_and, if_false]
    rfl
  · simp only [br_t, true_and, if_true]
    by_cases h : t ≤ ea + r
    · rw [br_pos h, if_pos h]; rfl
    · rw [br_neg h, if_neg h]; rfl
/-- The state as offsets from the first number. -/
structure FO (first top : Int) (F : FS) : Prop where
  fs : F.fs = ky first 0
  nw : F.nw = ky first top
  t0 : 0 ≤ top
  t1 : top < 245
def gO (first : Int) (F : FS) (o : Int) : Bool := mhas F.gk (ky first o)
def wO (first : Int) (F : FS) (o : Int) : Int := mget 0 F.gk F.gv (ky first o)
def lO (first : Int) (F : FS) (o : Int) : Bool := mget false F.lk F.lv (ky first o)
theorem add_ky {first top : Int} (d : Int) : (ky first top + (0 - d)) % 281474976710656 = ky first (top - d) := by unfold ky; omega
theorem scanA {first top : Int} {F : FS} (hF : FO first top F) {α : Type} (kx : Nat → List Leaf → Option α) (kr : List Leaf → Option α) (at2 l : List Int) : ∀ (m n : Nat) (d b next : Int), 0 ≤ d → d + m = top → 0 ≤ b → b ≤ d → (∀ o, 0 < o → o ≤ top - d → gO first F o = true ∨ lO first F o = true) → m < n →
    feed_look_4_L kx kr n F.gk F.gv F.lk F.lv F.cl at2 l F.r F.any F.now F.fs F.nw F.ct F.ev F.ea F.en F.bs F.si d b next = kx 0 [.li F.gk, .li F.gv, .li F.lk, .lb F.lv, .li F.cl, .li at2, .li l, .i F.r, .b F.any, .i F.now, .i F.fs, .i F.nw, .i F.ct, .b F.ev, .i F.ea, .i F.en, .i F.bs, .i F.si]
  | 0, n, d, b, next, hd, hm, hb0, hb1, ha, hn => by
    obtain ⟨n, rfl⟩ : ∃ n', n = n' + 1 := ⟨n - 1, by omega⟩
    have := hF.t1
    have e1 : subI .i64 0 d = 0 - d := subI_i (by unfold I63; omega)
    simp only [feed_look_4_L, feed_look_4_B, one_ev, e1, add_t, out_ev, un_i_ev, un_nil_ev, lessD_t, un_b_ev, hF.nw, hF.fs, add_ky]
    rw [br_pos (by omega), show top - d = 0 by omega, dif_ky (by omega) (by omega), decide_eq_false (by omega)]
    simp only [Bool.not_false, br_t, decide_true, Bool.and_true, chk_t]
  | m + 1, n, d, b, next, hd, hm, hb0, hb1, ha, hn => by
    obtain ⟨n, rfl⟩ : ∃ n', n = n' + 1 := ⟨n - 1, by omega⟩
    have ht := hF.t1
    have e1 : subI .i64 0 d = 0 - d := subI_i (by unfold I63; omega)
    have e2 : addI .i64 d 1 = d + 1 := addI_i (by unfold I63; omega)
    have e3 : addI .i64 b 1 = b + 1 := addI_i (by unfold I63; omega)
    have ih := fun b' next' h0 h1 => scanA hF kx kr at2 l m n (d + 1) b' next' (by omega) (by omega) h0 h1 (fun o h0 h1 => ha o h0 (by omega)) (by omega)
    rw [hF.fs, hF.nw] at ih ⊢
    simp only [feed_look_4_L, feed_look_4_B, one_ev, e1, e2, e3, add_t, out_ev, un_i_ev, un_nil_ev, lessD_t, un_b_ev, add_ky]
    rw [br_pos (by omega), dif_ky (by omega) (by omega), decide_eq_true (by omega)]
    simp only [Bool.not_true, br_f, decide_true, Bool.and_true, chk_t]
    rcases Bool.eq_false_or_eq_true (gO first F (top - d)) with hg | hg
    · rw [show mhas F.gk (ky first (top - d)) = true from hg, br_t]
      exact ih _ _ (by omega) (by omega)
    · have hl := (ha (top - d) (by omega) (by omega)).resolve_left (by rw [hg]; decide)
      rw [show mhas F.gk (ky first (top - d)) = false from hg, br_f, show mget false F.lk F.lv (ky first (top - d)) = true from hl]
      simp only [Bool.not_true, br_f]
      exact ih _ _ (by omega) (by omega)
theorem scanB {first top h : Int} {F : FS} (hF : FO first top F) (h0 : 0 < h) (h1 : h ≤ top) (hg : gO first F h = false) (hl : lO first F h = false) (hab : ∀ o, h < o → o ≤ top → gO first F o = true) (hbe : ∀ o, 0 < o → o < h → gO first F o = true ∨ lO first F o = true)
    {α : Type} (kx : Nat → List Leaf → Option α) (kr : List Leaf → Option α) : ∀ (m n : Nat) (d next : Int), 0 ≤ d → d + m = top - h → (0 < d → next = wO first F (top - d + 1)) → m + 400 < n →
    feed_look_4_L kx kr n F.gk F.gv F.lk F.lv F.cl [] [] F.r F.any F.now F.fs F.nw F.ct F.ev F.ea F.en F.bs F.si d d next = kx 0 [.li F.gk, .li F.gv, .li F.lk, .lb F.lv, .li F.cl, .li (if 3 ≤ top - h then [wO first F (h + 1)] else []), .li (if 3 ≤ top - h then [ky first h] else []), .i F.r, .b F.any, .i F.now, .i F.fs, .i F.nw, .i F.ct, .b F.ev, .i F.ea, .i F.en, .i F.bs, .i F.si]
  | 0, n, d, next, hd, hm, hnx, hn => by
    obtain ⟨n, rfl⟩ : ∃ n', n = n' + 1 := ⟨n - 1, by omega⟩
    have ht := hF.t1
    have e1 : subI .i64 0 d = 0 - d := subI_i (by unfold I63; omega)
    have e2 : addI .i64 d 1 = d + 1 := addI_i (by unfold I63; omega)
    obtain ⟨q, hq⟩ : ∃ q : Nat, (q : Int) = h - 1 := ⟨(h - 1).toNat, by omega⟩
    have ih := fun at2 l => scanA hF kx kr at2 l q n (d + 1) d next (by omega) (by omega) (by omega) (by omega) (fun o p0 p1 => hbe o p0 (by omega)) (by omega)
    rw [hF.fs, hF.nw] at ih ⊢
    simp only [feed_look_4_L, feed_look_4_B, one_ev, e1, e2, add_t, out_ev, un_i_ev, un_nil_ev, lessD_t, un_b_ev, add_ky]
    rw [br_pos (by omega), show top - d = h by omega, dif_ky (by omega) (by omega), decide_eq_true (by omega), show mhas F.gk (ky first h) = false from hg, show mget false F.lk F.lv (ky first h) = false from hl]
    simp only [Bool.not_true, Bool.not_false, br_f, br_t, decide_true, Bool.and_true, Bool.true_and, chk_t, List.nil_append]
    by_cases h3 : 3 ≤ top - h
    · rw [br_pos (show d ≥ 3 by omega), if_pos h3, if_pos h3, chk_pos (by simp), chk_pos (by simp)]
      have : next = wO first F (h + 1) := by rw [hnx (by omega), show top - d + 1 = h + 1 by omega]
      rw [← this]
      have c : ∀ x : Option α, chk (decide (Int.ofNat (List.length ([] : List Int)) + (↑(1 : Nat) : Int) = Int.ofNat (List.length [next])) && decide (Int.ofNat (List.length ([] : List Int)) + (↑(1 : Nat) : Int) = Int.ofNat (List.length [ky first h]))) x = x := fun x => by simp [chk]
      rw [c]
      exact ih _ _
    · rw [br_neg (show ¬ d ≥ 3 by omega), if_neg h3, if_neg h3]
      exact ih _ _
  | m + 1, n, d, next, hd, hm, hnx, hn => by
    obtain ⟨n, rfl⟩ : ∃ n', n = n' + 1 := ⟨n - 1, by omega⟩
    have ht := hF.t1
    have e1 : subI .i64 0 d = 0 - d := subI_i (by unfold I63; omega)
    have e2 : addI .i64 d 1 = d + 1 := addI_i (by unfold I63; omega)
    have ih := scanB hF h0 h1 hg hl hab hbe kx kr m n (d + 1) (wO first F (top - d)) (by omega) (by omega) (fun _ => by rw [show top - (d + 1) + 1 = top - d by omega]) (by omega)
    rw [hF.fs, hF.nw] at ih ⊢
    simp only [feed_look_4_L, feed_look_4_B, one_ev, e1, e2, add_t, out_ev, un_i_ev, un_nil_ev, lessD_t, un_b_ev, add_ky]
    rw [br_pos (by omega), dif_ky (by omega) (by omega), decide_eq_true (by omega), show mhas F.gk (ky first (top - d)) = true from hab _ (by omega) (by omega)]
    simp only [Bool.not_true, br_f, br_t, decide_true, Bool.and_true, chk_t]
    exact ih
theorem nop15 {F : FS} {at2 l : List Int} {α : Type} (kx : Nat → List Leaf → Option α) (kr : List Leaf → Option α) (n : Nat) {i : Int} (hi : i < 0) : feed_look_15_L kx kr (n + 1) F.gk F.gv F.lk F.lv F.cl at2 l F.r F.any F.now F.fs F.nw F.ct F.ev F.ea F.en F.bs F.si i = kx 3 F.ls := by
  simp only [feed_look_15_L, feed_look_15_B]
  rw [br_neg (by omega)]
  simp only [decide_true, Bool.and_true, chk_t]
  rfl
theorem top_s (k : Nat) (h : k ≤ 1000) : ∃ T, top = T + k := ⟨top - k, by
  have : top = 1000000000000000000000000 := rfl
  omega⟩
theorem look_none {first tp : Int} {F : FS} (hF : FO first tp F) (ha : ∀ o, 0 < o → o ≤ tp → gO first F o = true ∨ lO first F o = true) :
    feed_look F.gk F.gv F.lk F.lv F.cl F.r F.any F.now F.fs F.nw F.ct F.ev F.ea F.en F.bs F.si = some F.ls := by
  unfold feed_look feed_look_d
  have h0 := hF.t0
  have h1 := hF.t1
  have z0 : decide ((0 : Int) = Int.ofNat (0 : Nat)) = true := by decide
  obtain ⟨q, hq⟩ : ∃ q : Nat, (q : Int) = tp := ⟨tp.toNat, by omega⟩
  simp only [decide_true, Bool.and_true, chk_t, z0]
  rw [scanA hF _ _ [] [] q top 0 0 0 (by omega) (by omega) (by omega) (by omega) (fun o p0 p1 => ha o p0 (by omega)) (top_gt (by omega))]
  simp only [beq00, br_t, un_li_ev, un_lb_ev, un_i_ev, un_b_ev, un_nil_ev, one_ev, decide_true, Bool.and_true, chk_t]
  rw [show subI .i64 (Int.ofNat (List.length ([] : List Int))) 1 = -1 by decide]
  obtain ⟨T, hT⟩ := top_s 1 (by omega)
  rw [hT, nop15 _ _ T (by omega)]
  simp only [FS.ls, show Nat.beq 3 3 = true from rfl, br_t, un_li_ev, un_lb_ev, un_i_ev, un_b_ev, un_nil_ev]
theorem look_few {first tp h : Int} {F : FS} (hF : FO first tp F) (h0 : 0 < h) (h1 : h ≤ tp) (hg : gO first F h = false) (hl : lO first F h = false) (hab : ∀ o, h < o → o ≤ tp → gO first F o = true) (hbe : ∀ o, 0 < o → o < h → gO first F o = true ∨ lO first F o = true) (h3 : ¬ 3 ≤ tp - h) :
    feed_look F.gk F.gv F.lk F.lv F.cl F.r F.any F.now F.fs F.nw F.ct F.ev F.ea F.en F.bs F.si = some F.ls := by
  unfold feed_look feed_look_d
  have h2 := hF.t1
  have z0 : decide ((0 : Int) = Int.ofNat (0 : Nat)) = true := by decide
  obtain ⟨q, hq⟩ : ∃ q : Nat, (q : Int) = tp - h := ⟨(tp - h).toNat, by omega⟩
  simp only [decide_true, Bool.and_true, chk_t, z0]
  rw [scanB hF h0 h1 hg hl hab hbe _ _ q top 0 0 (by omega) (by omega) (fun x => absurd x (by omega)) (top_gt (n := q + 400) (by omega)), if_neg h3, if_neg h3]
  simp only [beq00, br_t, un_li_ev, un_lb_ev, un_i_ev, un_b_ev, un_nil_ev, one_ev, decide_true, Bool.and_true, chk_t]
  rw [show subI .i64 (Int.ofNat (List.length ([] : List Int))) 1 = -1 by decide]
  obtain ⟨T, hT⟩ := top_s 1 (by omega)
  rw [hT, nop15 _ _ T (by omega)]
  simp only [FS.ls, show Nat.beq 3 3 = true from rfl, br_t, un_li_ev, un_lb_ev, un_i_ev, un_b_ev, un_nil_ev]
end Go.Sx.T

