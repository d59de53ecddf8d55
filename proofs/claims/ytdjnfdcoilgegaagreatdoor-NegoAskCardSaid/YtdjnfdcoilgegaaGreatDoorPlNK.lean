import Derived.Test.YtdjnfdcoilgegaaGreatDoorPlNh
import Derived.Test.YtdjnfdcoilgegaaGreatDoorYNKSpec
set_option linter.all false
namespace Go.Sx.T
open Go Go.Sx
def kg0 : NG := { wk := [], wv := [], lk := [1, 6, 8], lv := [strOfI [2, 3], strOfI [0, 1], strOfI [0, 1, 2, 3, 4, 5, 6, 7, 8, 9, 10, 11, 12, 13, 14, 15]], nk := [1, 3, 6, 8], nv := [strOfI [2], strOfI [0, 0, 0, 0, 0, 100], strOfI [0], strOfI [0]], tk := [1, 3, 6, 8], tv := [strOfI [2], strOfI [0, 0, 0, 0, 0, 100], strOfI [0], strOfI [0]], d0 := [], d1 := [], sv := false }
theorem new_kg : nego_New false = some (kg0.o []) := rfl
def dfl (f : Int) : ByteArray := mget ByteArray.empty kg0.nk kg0.nv f
theorem default_k {f : Int} (h : Kn f) : feat_Default f = some [.s (dfl f)] := by rcases h with rfl | rfl | rfl | rfl <;> kernel_rfl
theorem dfl_may {f : Int} (h : Kn f) : mayB f (dfl f) = true := by rcases h with rfl | rfl | rfl | rfl <;> kernel_rfl
theorem dfl_size {f : Int} (h : Kn f) : (dfl f).size ≤ 6 := by rcases h with rfl | rfl | rfl | rfl <;> decide
/-- The side that has asked for ks. -/
def kg (ks : List Int) : NG := { kg0 with wk := ks, wv := ks.map dfl }
/-! ### Rows by a function -/
theorem set_map {α : Type} (g : Int → α) : ∀ (ks : List Int) (f : Int), mhas ks f = true → (ks.map g).set (midx ks f) (g f) = ks.map g
  | [], f, h => by cases h
  | k :: ks, f, h => by
    simp only [mhas] at h
    simp only [midx]
    by_cases e : k = f
    · subst e; simp
    · have e' : (k == f) = false := beq_eq_false_iff_ne.2 e
      rw [e', cond_false] at h
      rw [e', cond_false, List.map_cons, List.set_cons_succ, set_map g ks f h]
theorem put_map {α : Type} (g : Int → α) (ks : List Int) (f : Int) : mputV ks (ks.map g) f (g f) = (mputK ks f).map g := by
  unfold mputV mputK
  cases h : mhas ks f
  · rw [cond_false, cond_false, List.map_append]; rfl
  · rw [cond_true, cond_true, set_map g ks f h]
theorem get_map {α : Type} (g : Int → α) (d : α) : ∀ (ks : List Int) (f : Int), mget d ks (ks.map g) f = bif mhas ks f then g f else d
  | [], f => rfl
  | k :: ks, f => by
    simp only [List.map_cons, mget, mhas]
    by_cases e : k = f
    · subst e; simp
    · have e' : (k == f) = false := beq_eq_false_iff_ne.2 e
      rw [e', cond_false, cond_false, get_map g d ks f]
theorem has_app : ∀ (ks : List Int) (f g : Int), mhas (ks ++ [f]) g = (mhas ks g || (f == g))
  | [], f, g => by simp only [List.nil_append, mhas, Bool.false_or]; cases f == g <;> rfl
  | k :: ks, f, g => by
    simp only [List.cons_append, mhas, has_app ks f g]
    cases k == g <;> rfl
theorem has_put (ks : List Int) (f g : Int) : mhas (mputK ks f) g = (mhas ks g || (f == g)) := by
  unfold mputK
  cases h : mhas ks f
  · rw [cond_false, has_app]
  · rw [cond_true]
    by_cases e : f = g
    · subst e; rw [h]; rfl
    · rw [beq_eq_false_iff_ne.2 e, Bool.or_false]
theorem count_f (p : Int → Bool) : (fts.filter p).length = (p 1).toNat + (p 3).toNat + (p 6).toNat + (p 8).toNat := by
  simp only [fts, List.filter_cons, List.filter_nil]
  cases p 1 <;> cases p 3 <;> cases p 6 <;> cases p 8 <;> rfl
/-- Asked for: features, each once. -/
def KsOk (ks : List Int) : Prop := (fts.filter (mhas ks)).length = ks.length
theorem ks_put {ks : List Int} {f : Int} (hf : Kn f) (h : KsOk ks) : KsOk (mputK ks f) := by
  unfold KsOk at *
  have e : fts.filter (mhas (mputK ks f)) = fts.filter (fun g => mhas ks g || (f == g)) := by
    congr 1; funext g; exact has_put ks f g
  rw [e]
  cases hh : mhas ks f
  · have : (mputK ks f).length = ks.length + 1 := by unfold mputK; rw [hh, cond_false, List.length_append]; rfl
    rw [this, ← h]
    rw [count_f, count_f]
    have t : ∀ x : Bool, (x || true) = true := fun x => by cases x <;> rfl
    rcases hf with rfl | rfl | rfl | rfl
    · rw [hh, show ((1 : Int) == 1) = true from rfl, show ((1 : Int) == 3) = false from rfl, show ((1 : Int) == 6) = false from rfl, show ((1 : Int) == 8) = false from rfl]
      simp only [Bool.or_false, Bool.or_true, Bool.toNat_true, Bool.toNat_false] <;> omega
    · rw [hh, show ((3 : Int) == 1) = false from rfl, show ((3 : Int) == 3) = true from rfl, show ((3 : Int) == 6) = false from rfl, show ((3 : Int) == 8) = false from rfl]
      simp only [Bool.or_false, Bool.or_true, Bool.toNat_true, Bool.toNat_false] <;> omega
    · rw [hh, show ((6 : Int) == 1) = false from rfl, show ((6 : Int) == 3) = false from rfl, show ((6 : Int) == 6) = true from rfl, show ((6 : Int) == 8) = false from rfl]
      simp only [Bool.or_false, Bool.or_true, Bool.toNat_true, Bool.toNat_false] <;> omega
    · rw [hh, show ((8 : Int) == 1) = false from rfl, show ((8 : Int) == 3) = false from rfl, show ((8 : Int) == 6) = false from rfl, show ((8 : Int) == 8) = true from rfl]
      simp only [Bool.or_false, Bool.or_true, Bool.toNat_true, Bool.toNat_false] <;> omega
  · have : (mputK ks f).length = ks.length := by unfold mputK; rw [hh, cond_true]
    rw [this, ← h]
    congr 2
    funext g
    by_cases e : f = g
    · subst e; rw [hh]; rfl
    · rw [beq_eq_false_iff_ne.2 e, Bool.or_false]
/-! ### Asking -/
theorem ask_kg {ks : List Int} {f : Int} (hf : Kn f) : (kg ks).ask f (dfl f) = some ((kg (mputK ks f)).o [.i 0]) := by
  have := ask_ok (s := kg ks) hf (Nat.le_trans (dfl_size hf) (by decide)) (dfl_may hf)
  rw [this]
  have e : mputV (kg ks).wk (kg ks).wv f (dfl f) = (mputK ks f).map dfl := put_map dfl ks f
  rw [e]; rfl
theorem ask_L {fs : List Int} {times : Int} : ∀ (m n i : Nat) (ks : List Int), i + m = 6 → m < n → KsOk ks → (∀ f, mhas ks f = true → Kn f) → ks.length ≤ i →
    ∃ ks', KsOk ks' ∧ ks'.length ≤ 6 ∧ ∀ {α : Type} (kx : Nat → List Leaf → Option α) (kr : List Leaf → Option α), NegoAsk_8_L kx kr n fs ks (ks.map fun _ => true) (kg ks).wk (kg ks).wv (kg ks).lk (kg ks).lv (kg ks).nk (kg ks).nv (kg ks).tk (kg ks).tv (kg ks).d0 (kg ks).d1 fts (kg ks).sv (i : Int) times =
      kx 0 [.li fs, .li ks', .lb (ks'.map fun _ => true), .li (kg ks').wk, .ls (kg ks').wv, .li (kg ks').lk, .ls (kg ks').lv, .li (kg ks').nk, .ls (kg ks').nv, .li (kg ks').tk, .ls (kg ks').tv, .li (kg ks').d0, .ls (kg ks').d1, .li fts, .b (kg ks').sv, .i times]
  | 0, n, i, ks, h, hn, hk, hq, hle => by
    obtain ⟨n, rfl⟩ : ∃ n', n = n' + 1 := ⟨n - 1, by omega⟩
    refine ⟨ks, hk, by omega, fun kx kr => ?_⟩
    rw [NegoAsk_8_L, NegoAsk_8_B, one_ev]
    by_cases h1 : (i : Int) < Int.ofNat fs.length
    · rw [br_pos h1, br_neg (by omega)]
      simp only [decide_true, Bool.and_true, chk_t]
    · rw [br_neg h1]
      simp only [decide_true, Bool.and_true, chk_t]
  | m + 1, n, i, ks, h, hn, hk, hq, hle => by
    obtain ⟨n, rfl⟩ : ∃ n', n = n' + 1 := ⟨n - 1, by omega⟩
    by_cases h1 : (i : Int) < Int.ofNat fs.length
    · obtain ⟨K, hK0, hK1, eK⟩ := rem_N (m := 4) (by decide) (by decide) (fs.getD i 0)
      obtain ⟨f, hf⟩ : ∃ f, f = fts.getD K.toNat 0 := ⟨_, rfl⟩
      have kf : Kn f := by
        have : K = 0 ∨ K = 1 ∨ K = 2 ∨ K = 3 := by omega
        rcases this with rfl | rfl | rfl | rfl <;> subst hf <;> unfold Kn <;> decide
      have e1 : addI .i64 (i : Int) 1 = ((i + 1 : Nat) : Int) := by rw [addI_i (by unfold I63; omega)]; omega
      have hw := ask_kg (ks := ks) kf
      unfold NG.ask at hw
      obtain ⟨ks', g1, g2, ih⟩ := ask_L (fs := fs) (times := times) m n (i + 1) (mputK ks f) (by omega) (by omega) (ks_put kf hk) (by
        intro g hg
        rw [has_put] at hg
        cases hx : mhas ks g
        · rw [hx, Bool.false_or] at hg
          have : f = g := by simpa using hg
          exact this ▸ kf
        · exact hq g hx) (by
        unfold mputK
        cases mhas ks f
        · rw [cond_false, List.length_append]; simp only [List.length_cons, List.length_nil]; omega
        · rw [cond_true]; omega)
      refine ⟨ks', g1, g2, fun kx kr => ?_⟩
      rw [← ih kx kr]
      have l4 : (Int.ofNat (List.length fts)) = 4 := rfl
      rw [NegoAsk_8_L, NegoAsk_8_B, one_ev, br_pos h1, br_pos (by omega), chk_pos (⟨by omega, h1⟩ : (0 : Int) ≤ (i : Int) ∧ (i : Int) < Int.ofNat fs.length), chk_pos (⟨by omega, h1⟩ : (0 : Int) ≤ (i : Int) ∧ (i : Int) < Int.ofNat fs.length), Int.toNat_natCast, one_ev, one_ev, one_ev, eK, chk_pos (by rw [l4]; omega), chk_pos (by rw [l4]; omega), ← hf, default_k kf]
      simp only [out_ev, un_s_ev, un_nil_ev, decide_true, Bool.and_true, chk_t, hw, NG.o, un_li_ev, un_ls_ev, un_b_ev, un_i_ev, one_ev, e1]
      rw [show ((0 : Int) != 0) = false from rfl, br_f]
      rw [put_map (fun _ => true) ks f]
    · refine ⟨ks, hk, by omega, fun kx kr => ?_⟩
      rw [NegoAsk_8_L, NegoAsk_8_B, one_ev, br_neg h1]
      simp only [decide_true, Bool.and_true, chk_t]
/-! ### What goes with a packet is what was asked for -/
theorem split_f {j : Nat} (hj : j < 4) : fts = fts.take j ++ fts.getD j 0 :: fts.drop (j + 1) := by
  have : j = 0 ∨ j = 1 ∨ j = 2 ∨ j = 3 := by omega
  rcases this with rfl | rfl | rfl | rfl <;> rfl
theorem take_f {j : Nat} (hj : j < 4) : fts.take (j + 1) = fts.take j ++ [fts.getD j 0] := by
  have : j = 0 ∨ j = 1 ∨ j = 2 ∨ j = 3 := by omega
  rcases this with rfl | rfl | rfl | rfl <;> rfl
theorem kn_f {j : Nat} (hj : j < 4) : Kn (fts.getD j 0) := by
  have : j = 0 ∨ j = 1 ∨ j = 2 ∨ j = 3 := by omega
  unfold Kn
  rcases this with rfl | rfl | rfl | rfl <;> decide
theorem at_f {β : Type} (h : Int → β) (p : Int → Bool) (d : β) {j : Nat} (hj : j < 4) (hp : p (fts.getD j 0) = true) : ((fts.filter p).map h).getD ((fts.take j).filter p).length d = h (fts.getD j 0) ∧ ((fts.take j).filter p).length < (fts.filter p).length := by
  have e : fts.filter p = (fts.take j).filter p ++ fts.getD j 0 :: (fts.drop (j + 1)).filter p := by
    conv => lhs; rw [split_f hj]
    rw [List.filter_append, List.filter_cons, if_pos hp]
  rw [e, List.map_append, List.map_cons]
  constructor
  · have := getD_app (((fts.take j).filter p).map h) (((fts.drop (j + 1)).filter p).map h) (h (fts.getD j 0)) d
    rw [List.length_map] at this
    exact this
  · rw [List.length_append, List.length_cons]; omega
theorem cnt_yes {p : Int → Bool} {j : Nat} (hj : j < 4) (hp : p (fts.getD j 0) = true) : ((fts.take (j + 1)).filter p).length = ((fts.take j).filter p).length + 1 := by
  rw [take_f hj, List.filter_append, List.length_append, List.filter_cons, if_pos hp]; rfl
theorem cnt_no {p : Int → Bool} {j : Nat} (hj : j < 4) (hp : p (fts.getD j 0) = false) : ((fts.take (j + 1)).filter p).length = ((fts.take j).filter p).length := by
  rw [take_f hj, List.filter_append, List.length_append, List.filter_cons, if_neg (by rw [hp]; decide)]; rfl
def a0 (ks : List Int) : List Int := ask0 ks fts
def a1 (ks : List Int) : List ByteArray := ask1 ks (ks.map dfl) fts
theorem list_L {fs ks : List Int} {times k : Int} {S : NG} {α : Type} (kx : Nat → List Leaf → Option α) (kr : List Leaf → Option α) : ∀ (m n j : Nat), j + m = 4 → m < n →
    NegoAsk_20_L kx kr n fs (a0 ks) (a1 ks) ks (ks.map fun _ => true) fts S.wk S.wv S.lk S.lv S.nk S.nv S.tk S.tv S.d0 S.d1 S.sv (j : Int) (((fts.take j).filter (mhas ks)).length : Int) times k (Int.ofNat (List.length fts)) =
      kx 4 [.li fs, .li ks, .lb (ks.map fun _ => true), .li S.wk, .ls S.wv, .li S.lk, .ls S.lv, .li S.nk, .ls S.nv, .li S.tk, .ls S.tv, .li S.d0, .ls S.d1, .li fts, .li (a0 ks), .ls (a1 ks), .b S.sv, .i times, .i k, .i ((fts.filter (mhas ks)).length : Int)]
  | 0, n, j, h, hn => by
    obtain ⟨n, rfl⟩ : ∃ n', n = n' + 1 := ⟨n - 1, by omega⟩
    obtain rfl : j = 4 := by omega
    rw [NegoAsk_20_L, NegoAsk_20_B, br_neg (by decide)]
    simp only [decide_true, Bool.and_true, chk_t]
    rfl
  | m + 1, n, j, h, hn => by
    obtain ⟨n, rfl⟩ : ∃ n', n = n' + 1 := ⟨n - 1, by omega⟩
    have hj : j < 4 := by omega
    have l4 : (Int.ofNat (List.length fts)) = 4 := rfl
    have e1 : addI .i64 (j : Int) 1 = ((j + 1 : Nat) : Int) := by rw [addI_i (by unfold I63; omega)]; omega
    have hg : mget false ks (ks.map fun _ => true) (fts.getD j 0) = mhas ks (fts.getD j 0) := by
      rw [get_map (fun _ => true) false ks]; cases mhas ks (fts.getD j 0) <;> rfl
    have kf := kn_f hj
    have ih := list_L (fs := fs) (ks := ks) (times := times) (k := k) (S := S) kx kr m n (j + 1) (by omega) (by omega)
    rw [NegoAsk_20_L, NegoAsk_20_B, br_pos (by rw [l4]; omega), chk_pos (by rw [l4]; omega), chk_pos (by rw [l4]; omega), Int.toNat_natCast, hg]
    cases hp : mhas ks (fts.getD j 0)
    · rw [cnt_no hj hp] at ih
      rw [← ih, Bool.not_false, br_t, one_ev, e1]
      simp only [decide_true, Bool.and_true, chk_t]
    · obtain ⟨q0, q2⟩ := at_f (fun _ => (32 : Int)) (mhas ks) 0 hj hp
      obtain ⟨q1, _⟩ := at_f (fun f => strOfI [f] ++ mget ByteArray.empty ks (ks.map dfl) f) (mhas ks) ByteArray.empty hj hp
      have q1' : (a1 ks).getD ((fts.take j).filter (mhas ks)).length ByteArray.empty = strOfI [fts.getD j 0] ++ dfl (fts.getD j 0) := by
        have : mget ByteArray.empty ks (ks.map dfl) (fts.getD j 0) = dfl (fts.getD j 0) := by rw [get_map dfl ByteArray.empty ks, hp]; rfl
        rw [← this]; exact q1
      have q0' : (a0 ks).getD ((fts.take j).filter (mhas ks)).length 0 = 32 := q0
      have la : (a0 ks).length = (fts.filter (mhas ks)).length := by unfold a0 ask0; rw [List.length_map]
      rw [cnt_yes hj hp] at ih
      have lt : (((fts.take j).filter (mhas ks)).length : Int) < Int.ofNat (a0 ks).length := by rw [la]; exact Int.ofNat_lt.2 q2
      have c4 : ((fts.take j).filter (mhas ks)).length ≤ 4 := Nat.le_trans (List.length_filter_le _ _) (by rw [List.length_take]; omega)
      have e2 : addI .i64 (((fts.take j).filter (mhas ks)).length : Int) 1 = ((((fts.take j).filter (mhas ks)).length + 1 : Nat) : Int) := by rw [addI_i (by unfold I63; omega)]; omega
      have o1 : Int.toNat (offAdd Option.none (((fts.take j).filter (mhas ks)).length : Int)) = ((fts.take j).filter (mhas ks)).length := Int.toNat_natCast _
      have ds := dfl_size kf
      rw [← ih, Bool.not_true, br_f, one_ev, br_neg (by omega), chk_pos ⟨by omega, lt⟩, chk_pos ⟨by omega, lt⟩, one_ev, kf.w8, pairK_same, pairK_same, default_k kf]
      simp only [out_ev, un_s_ev, un_nil_ev, part1, size1, o1, q0', q1']
      rw [show Nat.ble (1 + (dfl (fts.getD j 0)).size) 9223372036854775807 = true from Nat.ble_eq_true_of_le (by omega), chk_t]
      rw [show eqP [Go.Value.int .i64 (32 : Int), Go.Value.string (strOfI [fts.getD j 0] ++ dfl (fts.getD j 0))] [Go.Value.int .i64 (32 : Int), Go.Value.string (strOfI [fts.getD j 0] ++ dfl (fts.getD j 0))] = true from by
        simp only [eqP, beq_b, beq_self_eq_true, Bool.and_true], Bool.not_true, br_f, one_ev, one_ev, e1, e2]
      simp only [decide_true, Bool.and_true, chk_t]
theorem opts_kg {ks : List Int} : (kg ks).opts = some [.li (kg ks).wk, .ls (kg ks).wv, .li (kg ks).lk, .ls (kg ks).lv, .li (kg ks).nk, .ls (kg ks).nv, .li (kg ks).tk, .ls (kg ks).tv, .li (kg ks).d0, .ls (kg ks).d1, .li (a0 ks), .ls (a1 ks), .b (kg ks).sv] := by
  have := opts_t (s := kg ks) (by
    intro f hf
    show (mget ByteArray.empty ks (ks.map dfl) f).size ≤ 1000
    rw [get_map dfl ByteArray.empty ks]
    cases mhas ks f
    · exact Nat.zero_le _
    · exact Nat.le_trans (dfl_size (show Kn f by simpa [fts, Kn] using hf)) (by decide)) (Nat.zero_le _)
  rw [this]; rfl
theorem turn_L {fs ks : List Int} {times K : Int} (eK : remI .i64 (addI .i64 (remI .i64 times 5) 5) 5 = K) (hK0 : 0 ≤ K) (hK1 : K < 5) {α : Type} (kx : Nat → List Leaf → Option α) (kr : List Leaf → Option α) : ∀ (m n : Nat) (k : Int), 0 ≤ k → k + m = K + 1 → m < n →
    NegoAsk_15_L kx kr n fs ks (ks.map fun _ => true) (kg ks).wk (kg ks).wv (kg ks).lk (kg ks).lv (kg ks).nk (kg ks).nv (kg ks).tk (kg ks).tv (kg ks).d0 (kg ks).d1 fts (kg ks).sv k times =
      kx 2 [.li fs, .li ks, .lb (ks.map fun _ => true), .li (kg ks).wk, .ls (kg ks).wv, .li (kg ks).lk, .ls (kg ks).lv, .li (kg ks).nk, .ls (kg ks).nv, .li (kg ks).tk, .ls (kg ks).tv, .li (kg ks).d0, .ls (kg ks).d1, .b (kg ks).sv]
  | 0, n, k, h0, h, hn => by
    obtain ⟨n, rfl⟩ : ∃ n', n = n' + 1 := ⟨n - 1, by omega⟩
    rw [NegoAsk_15_L, NegoAsk_15_B, one_ev, one_ev, one_ev, eK, br_neg (by omega)]
    simp only [decide_true, Bool.and_true, chk_t]
  | m + 1, n, k, h0, h, hn => by
    obtain ⟨n, rfl⟩ : ∃ n', n = n' + 1 := ⟨n - 1, by omega⟩
    have e1 : addI .i64 k 1 = k + 1 := addI_i (by unfold I63; omega)
    have ho := opts_kg (ks := ks)
    unfold NG.opts at ho
    have q := fun kx kr => list_L (fs := fs) (ks := ks) (times := times) (k := k) (S := kg ks) (α := α) kx kr 4 top 0 rfl (by unfold top; omega)
    rw [show ((0 : Nat) : Int) = 0 from rfl, show (((fts.take 0).filter (mhas ks)).length : Int) = 0 from rfl] at q
    have ih := turn_L (fs := fs) (ks := ks) eK hK0 hK1 kx kr m n (k + 1) (by omega) (by omega) (by omega)
    rw [← ih, NegoAsk_15_L, NegoAsk_15_B, one_ev, one_ev, one_ev, eK, br_pos (by omega), chkLen, ho]
    simp only [out_ev, un_li_ev, un_ls_ev, un_b_ev, un_nil_ev, decide_true, Bool.and_true, chk_t]
    rw [one_ev, q]
    simp only [show Nat.beq 4 4 = true from rfl, br_t, un_li_ev, un_ls_ev, un_lb_ev, un_b_ev, un_i_ev, un_nil_ev, one_ev, nego_Done, out_ev]
    have la : (a0 ks).length = (fts.filter (mhas ks)).length := by unfold a0 ask0; rw [List.length_map]
    rw [show (((fts.filter (mhas ks)).length : Int) != Int.ofNat (a0 ks).length) = false from by rw [la]; exact bne_self_eq_false _, br_f]
    simp only [decide_true, Bool.and_true, chk_t, e1]
    rw [show (!((((kg ks).wk.length : Nat) : Int) == 0) == (((ks.length : Nat) : Int) == 0)) = false from by
      show (!(((((ks.length : Nat) : Int) == 0)) == (((ks.length : Nat) : Int) == 0))) = false
      rw [beq_self_eq_true]; rfl, br_f]
/-- .. and has heard what the other side likes. -/
def kg2 (ks : List Int) : NG := { kg ks with d0 := [33], d1 := [strOfI [8] ++ ByteArray.empty] }
theorem take_kg {ks : List Int} : (kg ks).take [34] [{ data := #[(8 : UInt8), (1 : UInt8)] }] = some ((kg2 ks).o [.b true]) := by
  have e : ({ data := #[(8 : UInt8), (1 : UInt8)] } : ByteArray) = strOfI [8] ++ strOfI [1] := by decide
  rw [e]
  exact take_t (Hear.step (.inl (by decide)) (one_chgR (by unfold Kn; omega) (Nat.zero_le _)) (Hear.nil _ _)) (Nat.le_of_ble_eq_true rfl)
theorem opts_kg2 {ks : List Int} : (kg2 ks).opts = some [.li (kg ks).wk, .ls (kg ks).wv, .li (kg ks).lk, .ls (kg ks).lv, .li (kg ks).nk, .ls (kg ks).nv, .li (kg ks).tk, .ls (kg ks).tv, .li (kg ks).d0, .ls (kg ks).d1, .li (33 :: a0 ks), .ls ((strOfI [8] ++ ByteArray.empty) :: a1 ks), .b (kg ks).sv] := by
  have := opts_t (s := kg2 ks) (by
    intro f hf
    show (mget ByteArray.empty ks (ks.map dfl) f).size ≤ 1000
    rw [get_map dfl ByteArray.empty ks]
    cases mhas ks f
    · exact Nat.zero_le _
    · exact Nat.le_trans (dfl_size (show Kn f by simpa [fts, Kn] using hf)) (by decide)) (Nat.le_of_ble_eq_true rfl)
  rw [this]; rfl
theorem NegoAsk_true (fs : List Int) (times : Int) : NegoAsk fs times = some [.b true] := by
  obtain ⟨K, hK0, hK1, eK⟩ := rem_N (m := 5) (by decide) (by decide) times
  obtain ⟨ks, g1, g2, q⟩ := ask_L (fs := fs) (times := times) 6 top 0 [] rfl (by unfold top; omega) rfl (fun f h => by cases h) (by decide)
  have q : ∀ {α : Type} (kx : Nat → List Leaf → Option α) (kr : List Leaf → Option α), NegoAsk_8_L kx kr top fs [] [] kg0.wk kg0.wv kg0.lk kg0.lv kg0.nk kg0.nv kg0.tk kg0.tv kg0.d0 kg0.d1 fts kg0.sv 0 times =
      kx 0 [.li fs, .li ks, .lb (ks.map fun _ => true), .li (kg ks).wk, .ls (kg ks).wv, .li (kg ks).lk, .ls (kg ks).lv, .li (kg ks).nk, .ls (kg ks).nv, .li (kg ks).tk, .ls (kg ks).tv, .li (kg ks).d0, .ls (kg ks).d1, .li fts, .b (kg ks).sv, .i times] := q
  unfold NegoAsk NegoAsk_d
  have ha := take_kg (ks := ks)
  have ho := opts_kg2 (ks := ks)
  unfold NG.take at ha
  unfold NG.opts at ho
  have t := fun kx kr => turn_L (fs := fs) (ks := ks) eK hK0 hK1 (α := List Leaf) kx kr (K + 1).toNat top 0 (by omega) (by omega) (by unfold top; omega)
  have la : (a0 ks).length = ks.length := by
    have : (a0 ks).length = (fts.filter (mhas ks)).length := by unfold a0 ask0; rw [List.length_map]
    rw [this]; exact g1
  have e1 : addI .i64 ((ks.length : Nat) : Int) 1 = ((ks.length + 1 : Nat) : Int) := by rw [addI_i (by unfold I63; omega)]; omega
  simp only [new_kg, NG.o, out_ev, un_li_ev, un_ls_ev, un_b_ev, un_nil_ev, decide_true, Bool.and_true, chk_t]
  rw [show (true && decide ((↑(4 : Nat) : Int) = Int.ofNat (List.length [(1 : Int), (3 : Int), (6 : Int), (8 : Int)]))) = true from rfl, chk_t]
  rw [show ([(1 : Int), (3 : Int), (6 : Int), (8 : Int)] : List Int) = fts from rfl, q]
  simp only [show Nat.beq 0 0 = true from rfl, br_t, un_li_ev, un_ls_ev, un_lb_ev, un_b_ev, un_i_ev, un_nil_ev, decide_true, Bool.and_true, chk_t]
  rw [t]
  simp only [show Nat.beq 2 2 = true from rfl, br_t, un_li_ev, un_ls_ev, un_lb_ev, un_b_ev, un_i_ev, un_nil_ev, decide_true, Bool.and_true, chk_t]
  rw [chk_pos (show ((1 : Nat) : Int) = Int.ofNat [(34 : Int)].length from rfl), ha]
  simp only [NG.o, out_ev, un_li_ev, un_ls_ev, un_b_ev, un_nil_ev, decide_true, Bool.and_true, chk_t, ho, one_ev, e1]
  have l1 : Int.ofNat (List.length (33 :: a0 ks)) = ((ks.length + 1 : Nat) : Int) := by rw [List.length_cons, la]; rfl
  rw [l1, beq_self_eq_true, br_t, chk_pos (show (0 : Int) ≤ 0 ∧ (0 : Int) < ((ks.length + 1 : Nat) : Int) by omega), chk_pos (show (0 : Int) ≤ Int.ofNat (nat_lit 0) ∧ Int.ofNat (nat_lit 0) < ((ks.length + 1 : Nat) : Int) from ⟨by decide, by show (0 : Int) < _; omega⟩)]
  rw [show List.getD (33 :: a0 ks) (Int.toNat (offAdd Option.none 0)) 0 = 33 from rfl, show List.getD ((strOfI [8] ++ ByteArray.empty) :: a1 ks) (Int.toNat (offAdd Option.none 0)) ByteArray.empty = ({ data := #[8] } : ByteArray) from ByteArray.append_empty]
  simp only [eqP, beq_b, beq_self_eq_true, Bool.and_true]
end Go.Sx.T

