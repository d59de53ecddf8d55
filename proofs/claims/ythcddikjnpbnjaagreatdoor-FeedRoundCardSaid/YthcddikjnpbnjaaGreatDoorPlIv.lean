import Derived.Test.YthcddikjnpbnjaaGreatDoorYIvalSpec
import Derived.Test.YthcddikjnpbnjaaGreatDoorPlDv
set_option linter.all false
namespace Go.Sx.T
open Go Go.Sx
theorem fix_Mul_t {a b : Int} (ha : U a) (hb : U b) (h : U (a * b)) : fix_Mul a b = some [.i (a * b)] := by
  unfold fix_Mul
  simp only [bits_Mul64_t ha hb, out_ev, one_ev, un_i_ev, un_nil_ev]
  unfold U at h
  rw [br_neg (by omega), show a * b % 18446744073709551616 = a * b by omega]
theorem fix_Add_t {a b : Int} (ha : 0 ≤ a) (hb : 0 ≤ b) (h : U (a + b)) : fix_Add a b = some [.i (a + b)] := by
  unfold fix_Add addLo addHi
  unfold U at h
  rw [chk_pos ⟨ha, hb⟩]
  simp only [one_ev]
  rw [br_neg (by omega), show (a + b + 0) % 18446744073709551616 = a + b by omega]
def M64 : Int := 18446744073709551615
def satM (a b : Int) : Int := min (a * b) M64
def satA (a b : Int) : Int := min (a + b) M64
theorem satM_U {a b : Int} (ha : 0 ≤ a) (hb : 0 ≤ b) : U (satM a b) := by
  have := Int.mul_nonneg ha hb
  unfold satM M64 U; omega
theorem satA_U {a b : Int} (ha : 0 ≤ a) (hb : 0 ≤ b) : U (satA a b) := by
  unfold satA M64 U; omega
theorem fix_Mul_s {a b : Int} (ha : U a) (hb : U b) : fix_Mul a b = some [.i (satM a b)] := by
  unfold fix_Mul satM M64
  simp only [bits_Mul64_t ha hb, out_ev, one_ev, un_i_ev, un_nil_ev]
  have h0 := Int.mul_nonneg ha.1 hb.1
  by_cases h : a * b / 18446744073709551616 > 0
  · rw [br_pos h, Int.min_eq_right (by omega)]
  · rw [br_neg h, show a * b % 18446744073709551616 = a * b by omega, Int.min_eq_left (by omega)]
theorem fix_Add_s {a b : Int} (ha : 0 ≤ a) (hb : 0 ≤ b) : fix_Add a b = some [.i (satA a b)] := by
  unfold fix_Add addLo addHi satA M64
  rw [chk_pos ⟨ha, hb⟩]
  simp only [one_ev]
  by_cases h : (a + b + 0) / 18446744073709551616 > 0
  · rw [br_pos h, Int.min_eq_right (by omega)]
  · rw [br_neg h, show (a + b + 0) % 18446744073709551616 = a + b by omega, Int.min_eq_left (by omega)]
def wt (i : Nat) : Int := List.getD [5, 5, 5, 5, 4, 3, 2, 1] i 0
theorem wt_b (i : Nat) : 0 ≤ wt i ∧ wt i ≤ 5 := by
  match i with
  | 0 | 1 | 2 | 3 | 4 | 5 | 6 | 7 => decide
  | n + 8 => simp [wt]
theorem wt_pos {i : Nat} (h : i < 8) : 1 ≤ wt i := by
  match i, h with
  | 0, _ | 1, _ | 2, _ | 3, _ | 4, _ | 5, _ | 6, _ | 7, _ => decide
theorem ival_Weight_t (i : Nat) : ival_Weight (i : Int) = some [.i (wt i)] := by
  unfold ival_Weight
  rw [br_neg (by omega)]
  simp only [one_ev]
  by_cases h : i < 8
  · rw [br_neg (by omega), chk_pos (by omega), chk_pos (by omega)]; simp [wt]
  · rw [br_pos (by omega)]
    have : wt i = 0 := by
      unfold wt
      rw [List.getD_eq_getElem?_getD, List.getElem?_eq_none (by simp; omega)]
      rfl
    rw [this]
/-- The weighed sums: from the i-th on, m of n. -/
def sg (l : List Int) (n : Nat) : Nat → Nat → Int → Int → Int → Int × Int × Int
  | 0, _, a, b, w => (a, b, w)
  | m + 1, i, a, b, w => sg l n m (i + 1) (if i + 1 < n then satA a (satM (l.getD i 0) (wt (i + 1))) else a) (satA b (satM (l.getD i 0) (wt i))) (w + wt i)
theorem getD_U {l : List Int} (hl : ∀ x ∈ l, U x) (i : Nat) : U (l.getD i 0) := by
  rw [List.getD_eq_getElem?_getD]
  cases h : l[i]? with
  | none => simp [U]
  | some x => exact hl x (List.mem_of_getElem? h)
theorem sg_U {l : List Int} (hl : ∀ x ∈ l, U x) {n : Nat} : ∀ (m i : Nat) (a b w : Int), U a → U b → U (sg l n m i a b w).1 ∧ U (sg l n m i a b w).2.1
  | 0, _, _, _, _, ha, hb => ⟨ha, hb⟩
  | m + 1, i, a, b, w, ha, hb => by
    have hx := getD_U hl i
    unfold sg
    refine sg_U hl m (i + 1) _ _ _ ?_ (satA_U hb.1 (satM_U hx.1 (wt_b i).1).1)
    split
    · exact satA_U ha.1 (satM_U hx.1 (wt_b (i + 1)).1).1
    · exact ha
theorem sg_w {l : List Int} {n : Nat} : ∀ (m i : Nat) (a b w : Int), (∀ j, i ≤ j → j < i + m → j < 8) → w + m ≤ (sg l n m i a b w).2.2 ∧ (sg l n m i a b w).2.2 ≤ w + 5 * m
  | 0, _, _, _, _, _ => by simp [sg]
  | m + 1, i, a, b, w, h => by
    have := sg_w (l := l) (n := n) m (i + 1) (if i + 1 < n then satA a (satM (l.getD i 0) (wt (i + 1))) else a) (satA b (satM (l.getD i 0) (wt i))) (w + wt i) (fun j h1 h2 => h j (by omega) (by omega))
    have h1 := wt_b i
    have h2 := wt_pos (h i (by omega) (by omega))
    unfold sg
    omega
theorem sums4 {l : List Int} (hl : ∀ x ∈ l, U x) {n : Nat} (hn : n ≤ 8) (hnl : n ≤ l.length) (co to cn tn : Int) (hto : to = 0) (hcn : cn = n) (htn : tn = n) :
    ∀ (m fuel i : Nat) (a b w : Int), m < fuel → i + m = n → U a → U b → 0 ≤ w → w ≤ 5 * i → ∀ {α : Type} (kx : Nat → List Leaf → Option α) (kr : List Leaf → Option α),
      ival_sums_4_L kx kr fuel l (i : Int) a co cn b w to tn (n : Int) = kx 0 [.li l, .i (sg l n m i a b w).2.1, .i (sg l n m i a b w).1, .i (sg l n m i a b w).2.2] := by
  intro m
  induction m with
  | zero =>
    intro fuel i a b w hf hi ha hb hw0 hw1 α kx kr
    obtain ⟨f, rfl⟩ : ∃ f, fuel = f + 1 := ⟨fuel - 1, by omega⟩
    simp only [ival_sums_4_L, ival_sums_4_B]
    rw [br_neg (by omega)]
    rfl
  | succ m ih =>
    intro fuel i a b w hf hi ha hb hw0 hw1 α kx kr
    obtain ⟨f, rfl⟩ : ∃ f, fuel = f + 1 := ⟨fuel - 1, by omega⟩
    have hx := getD_U hl i
    have hwi := wt_b i
    have hwi1 := wt_b (i + 1)
    have e1 : addI .u64 w (wt i) = w + wt i := by rw [addI_u]; omega
    have e2 : addI .i64 (i : Int) 1 = ((i + 1 : Nat) : Int) := by rw [addI_i (show I63 ((i : Int) + 1) by unfold I63; omega)]; simp
    have e3 : subI .i64 cn 1 = (n : Int) - 1 := by rw [hcn, subI_i (show I63 ((n : Int) - 1) by unfold I63; omega)]
    have e4 : offAdd (some to) (i : Int) = (i : Int) := by simp [offAdd, hto]
    have wU : ∀ j, U (wt j) := fun j => by have := wt_b j; unfold U; omega
    simp only [ival_sums_4_L, ival_sums_4_B]
    rw [br_pos (by omega), chk_pos (by omega)]
    simp only [e4]
    rw [chk_pos (by simp; omega)]
    simp only [ival_Weight_t, out_ev, one_ev, un_i_ev, un_nil_ev, one_ev, e1, e2, e3, Int.toNat_natCast, fix_Mul_s hx (wU i), fix_Mul_s hx (wU (i + 1)), fix_Add_s hb.1 (satM_U hx.1 hwi.1).1, fix_Add_s ha.1 (satM_U hx.1 hwi1.1).1]
    unfold sg
    by_cases hlt : i + 1 < n
    · rw [br_pos (by omega), if_pos hlt]
      exact ih f (i + 1) _ _ _ (by omega) (by omega) (satA_U ha.1 (satM_U hx.1 hwi1.1).1) (satA_U hb.1 (satM_U hx.1 hwi.1).1) (by omega) (by omega) kx kr
    · rw [br_neg (by omega), if_neg hlt]
      exact ih f (i + 1) _ _ _ (by omega) (by omega) ha (satA_U hb.1 (satM_U hx.1 hwi.1).1) (by omega) (by omega) kx kr
def cn8 (l : List Int) : Nat := min l.length 8
def sA (l : List Int) (o : Int) : Int := (sg l (cn8 l) (cn8 l) 0 (satM o 5) 0 0).1
def sB (l : List Int) (o : Int) : Int := (sg l (cn8 l) (cn8 l) 0 (satM o 5) 0 0).2.1
def sW (l : List Int) (o : Int) : Int := (sg l (cn8 l) (cn8 l) 0 (satM o 5) 0 0).2.2
theorem ival_sums_t {l : List Int} {o : Int} (hl : ∀ x ∈ l, U x) (ho : U o) : ival_sums l o = some [.i (sW l o), .i (max (sA l o) (sB l o))] := by
  unfold ival_sums ival_sums_d
  have e0 : min (Int.ofNat l.length) 8 = (cn8 l : Int) := by unfold cn8; simp; omega
  have c1 : condSl (rlOf [[Col.int .u64 l]] 0) none (some (cn8 l : Int)) = true := by
    simp [condSl, rlOf, colsN, Col.len, cn8]; omega
  simp only [one_ev, minI_eq, e0]
  rw [c1, chk_t, show ival_Weight 0 = some [.i 5] from rfl]
  simp only [out_ev, one_ev, un_i_ev, un_nil_ev, fix_Mul_s ho (show U 5 by unfold U; omega)]
  have h : ∀ {α : Type} (kx : Nat → List Leaf → Option α) (kr : List Leaf → Option α), ival_sums_4_L kx kr top l 0 (satM o 5) (Int.ofNat 0) (cn8 l) 0 0 (Int.ofNat 0) (cn8 l) (cn8 l) = kx 0 [.li l, .i (sB l o), .i (sA l o), .i (sW l o)] :=
    fun kx kr => sums4 hl (n := cn8 l) (by unfold cn8; omega) (by unfold cn8; omega) 0 0 (cn8 l) (cn8 l) rfl rfl rfl (cn8 l) top 0 (satM o 5) 0 0 (by unfold top cn8; omega) (by omega) (satM_U ho.1 (by omega)) (by unfold U; omega) (by omega) (by omega) kx kr
  rw [h]
  simp only [beq00, br_t, un_li_ev, un_i_ev, un_nil_ev, one_ev, maxI_eq]
theorem cn8_le (l : List Int) : cn8 l ≤ 8 := by unfold cn8; omega
theorem sAB_U {l : List Int} {o : Int} (hl : ∀ x ∈ l, U x) (ho : U o) : U (sA l o) ∧ U (sB l o) :=
  sg_U hl _ _ _ _ _ (satM_U ho.1 (by omega)) (by unfold U; omega)
theorem sW_b (l : List Int) (o : Int) : (cn8 l : Int) ≤ sW l o ∧ sW l o ≤ 5 * cn8 l := by
  have := sg_w (l := l) (n := cn8 l) (cn8 l) 0 (satM o 5) 0 0 (fun j _ h => by have := cn8_le l; omega)
  unfold sW; omega
def mean8 (l : List Int) (o : Int) : Int := if sW l o = 0 then 0 else max (sA l o) (sB l o) / sW l o
def rate8 (l : List Int) (o : Int) : Int := if sW l o = 0 then 0 else min (mdI (sW l o) 4294967296 (max (sA l o) (sB l o))) 4294967296
theorem ival_Rate_t {l : List Int} {o : Int} (hl : ∀ x ∈ l, U x) (ho : U o) : ival_Rate l o = some [.i (rate8 l o)] := by
  have hU := sAB_U hl ho
  have hw := sW_b l o
  have hc := cn8_le l
  unfold ival_Rate
  simp only [chk_len, chk_T, ival_sums_t hl ho, out_ev, one_ev, un_i_ev, un_nil_ev, one_ev]
  unfold rate8
  by_cases h : sW l o = 0
  · rw [br_eq h, if_pos h]
  · rw [br_ne h, if_neg h, fix_MulDiv_t (by unfold U; omega) (by unfold U; omega) (by have := hU.1; have := hU.2; unfold U at *; omega)]
    simp only [out_ev, one_ev, un_i_ev, un_nil_ev, one_ev, minI_eq]
theorem satA_eq {a b : Int} (h : a + b ≤ M64) : satA a b = a + b := by unfold satA; omega
theorem satM_eq {a b : Int} (h : a * b ≤ M64) : satM a b = a * b := by unfold satM; omega
end Go.Sx.T

