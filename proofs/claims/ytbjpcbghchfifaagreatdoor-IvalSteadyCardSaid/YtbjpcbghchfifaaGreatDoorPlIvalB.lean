import Derived.Test.YtbjpcbghchfifaaGreatDoorYI2Spec
import Derived.Test.YtbjpcbghchfifaaGreatDoorPlIval
import Derived.Test.YtbjpcbghchfifaaGreatDoorPlRttB
set_option linter.all false
namespace Go.Sx.T
open Go Go.Sx
def M64 : Int := 18446744073709551615
def satM (a b : Int) : Int := min (a * b) M64
def satA (a b : Int) : Int := min (a + b) M64
theorem satM_U {a b : Int} (ha : 0 ≤ a) (hb : 0 ≤ b) : U (satM a b) := by
  have := Int.mul_nonneg ha hb
  unfold satM M64 U; omega
theorem satA_U {a b : Int} (ha : 0 ≤ a) (hb : 0 ≤ b) : U (satA a b) := by
  unfold satA M64 U; omega
theorem fix_Mul_s {a b : Int} (ha : U a) (hb : U b) : fix_Mul a b = some [.i (satM a b)] := by
  unfold fix_Mul satM M64
  simp only [bits_Mul64_t ha hb, out_ev, un_i_ev, un_nil_ev]
  have h0 := Int.mul_nonneg ha.1 hb.1
  by_cases h : a * b / 18446744073709551616 > 0
  · rw [br_pos h, Int.min_eq_right (by omega)]
  · rw [br_neg h, show a * b % 18446744073709551616 = a * b by omega, Int.min_eq_left (by omega)]
theorem fix_Add_s {a b : Int} (ha : 0 ≤ a) (hb : 0 ≤ b) : fix_Add a b = some [.i (satA a b)] := by
  unfold fix_Add addLo addHi satA M64
  rw [chk_pos ⟨ha, hb⟩]
  simp only [one_ev]
  by_cases h : (a + b + 0) / 18446744073709551616 > 0
  · rw [br_pos h, Int.min_eq_right (by omega)]
  · rw [br_neg h, show (a + b + 0) % 18446744073709551616 = a + b by omega, Int.min_eq_left (by omega)]
def wt (i : Nat) : Int := List.getD [5, 5, 5, 5, 4, 3, 2, 1] i 0
theorem wt_b (i : Nat) : 0 ≤ wt i ∧ wt i ≤ 5 := by
  match i with
  | 0 | 1 | 2 | 3 | 4 | 5 | 6 | 7 => decide
  | n + 8 => simp [wt]
theorem wt_pos {i : Nat} (h : i < 8) : 1 ≤ wt i := by
  match i, h with
  | 0, _ | 1, _ | 2, _ | 3, _ | 4, _ | 5, _ | 6, _ | 7, _ => decide
theorem ival_Weight_t (i : Nat) : ival_Weight (i : Int) = some [.i (wt i)] := by
  unfold ival_Weight
  rw [br_neg (by omega)]
  simp only [one_ev]
  by_cases h : i < 8
  · rw [br_neg (by omega), chk_pos (by omega), chk_pos (by omega)]; simp [wt]
  · rw [br_pos (by omega)]
    have : wt i = 0 := by
      unfold wt
      rw [List.getD_eq_getElem?_getD, List.getElem?_eq_none (by simp; omega)]
      rfl
    rw [this]
/-- The weighed sums: from the i-th on, m of n. -/
def sg (l : List Int) (n : Nat) : Nat → Nat → Int → Int → Int → Int × Int × Int
  | 0, _, a, b, w => (a, b, w)
  | m + 1, i, a, b, w => sg l n m (i + 1) (if i + 1 < n then satA a (satM (l.getD i 0) (wt (i + 1))) else a) (satA b (satM (l.getD i 0) (wt i))) (w + wt i)
theorem getD_U {l : List Int} (hl : ∀ x ∈ l, U x) (i : Nat) : U (l.getD i 0) := by
  rw [List.getD_eq_getElem?_getD]
  cases h : l[i]? with
  | none => simp [U]
  | some x => exact hl x (List.mem_of_getElem? h)
theorem sg_U {l : List Int} (hl : ∀ x ∈ l, U x) {n : Nat} : ∀ (m i : Nat) (a b w : Int), U a → U b → U (sg l n m i a b w).1 ∧ U (sg l n m i a b w).2.1
  | 0, _, _, _, _, ha, hb => ⟨ha, hb⟩
  | m + 1, i, a, b, w, ha, hb => by
    have hx := getD_U hl i
    unfold sg
    refine sg_U hl m (i + 1) _ _ _ ?_ (satA_U hb.1 (satM_U hx.1 (wt_b i).1).1)
    split
    · exact satA_U ha.1 (satM_U hx.1 (wt_b (i + 1)).1).1
    · exact ha
theorem sg_w {l : List Int} {n : Nat} : ∀ (m i : Nat) (a b w : Int), (∀ j, i ≤ j → j < i + m → j < 8) → w + m ≤ (sg l n m i a b w).2.2 ∧ (sg l n m i a b w).2.2 ≤ w + 5 * m
  | 0, _, _, _, _, _ => by simp [sg]
  | m + 1, i, a, b, w, h => by
    have := sg_w (l := l) (n := n) m (i + 1) (if i + 1 < n then satA a (satM (l.getD i 0) (wt (i + 1))) else a) (satA b (satM (l.getD i 0) (wt i))) (w + wt i) (fun j h1 h2 => h j (by omega) (by omega))
    have h1 := wt_b i
    have h2 := wt_pos (h i (by omega) (by omega))
    unfold sg
    omega
theorem sums4 {l : List Int} (hl : ∀ x ∈ l, U x) {n : Nat} (hn : n ≤ 8) (hnl : n ≤ l.length) (co to cn tn : Int) (hto : to = 0) (hcn : cn = n) (htn : tn = n) :
    ∀ (m fuel i : Nat) (a b w : Int), m < fuel → i + m = n → U a → U b → 0 ≤ w → w ≤ 5 * i → ∀ {α : Type} (kx : Nat → List Leaf → Option α) (kr : List Leaf → Option α),
      ival_sums_4_L kx kr fuel l (i : Int) a co cn b w to tn (n : Int) = kx 0 [.li l, .i (sg l n m i a b w).2.1, .i (sg l n m i a b w).1, .i (sg l n m i a b w).2.2] := by
  intro m
  induction m with
  | zero =>
    intro fuel i a b w hf hi ha hb hw0 hw1 α kx kr
    obtain ⟨f, rfl⟩ : ∃ f, fuel = f + 1 := ⟨fuel - 1, by omega⟩
    simp only [ival_sums_4_L, ival_sums_4_B]
    rw [br_neg (by omega)]
    rfl
  | succ m ih =>
    intro fuel i a b w hf hi ha hb hw0 hw1 α kx kr
    obtain ⟨f, rfl⟩ : ∃ f, fuel = f + 1 := ⟨fuel - 1, by omega⟩
    have hx := getD_U hl i
    have hwi := wt_b i
    have hwi1 := wt_b (i + 1)
    have e1 : addI .u64 w (wt i) = w + wt i := by rw [addI_u]; omega
    have e2 : addI .i64 (i : Int) 1 = ((i + 1 : Nat) : Int) := by rw [addI_i (show I63 ((i : Int) + 1) by unfold I63; omega)]; simp
    have e3 : subI .i64 cn 1 = (n : Int) - 1 := by rw [hcn, subI_i (show I63 ((n : Int) - 1) by unfold I63; omega)]
    have e4 : offAdd (some to) (i : Int) = (i : Int) := by simp [offAdd, hto]
    have wU : ∀ j, U (wt j) := fun j => by have := wt_b j; unfold U; omega
    simp only [ival_sums_4_L, ival_sums_4_B]
    rw [br_pos (by omega), chk_pos (by omega)]
    simp only [e4]
    rw [chk_pos (by simp; omega)]
    simp only [ival_Weight_t, out_ev, un_i_ev, un_nil_ev, one_ev, e1, e2, e3, Int.toNat_natCast, fix_Mul_s hx (wU i), fix_Mul_s hx (wU (i + 1)), fix_Add_s hb.1 (satM_U hx.1 hwi.1).1, fix_Add_s ha.1 (satM_U hx.1 hwi1.1).1]
    unfold sg
    by_cases hlt : i + 1 < n
    · rw [br_pos (by omega), if_pos hlt]
      exact ih f (i + 1) _ _ _ (by omega) (by omega) (satA_U ha.1 (satM_U hx.1 hwi1.1).1) (satA_U hb.1 (satM_U hx.1 hwi.1).1) (by omega) (by omega) kx kr
    · rw [br_neg (by omega), if_neg hlt]
      exact ih f (i + 1) _ _ _ (by omega) (by omega) ha (satA_U hb.1 (satM_U hx.1 hwi.1).1) (by omega) (by omega) kx kr
def cn8 (l : List Int) : Nat := min l.length 8
def sA (l : List Int) (o : Int) : Int := (sg l (cn8 l) (cn8 l) 0 (satM o 5) 0 0).1
def sB (l : List Int) (o : Int) : Int := (sg l (cn8 l) (cn8 l) 0 (satM o 5) 0 0).2.1
def sW (l : List Int) (o : Int) : Int := (sg l (cn8 l) (cn8 l) 0 (satM o 5) 0 0).2.2
theorem ival_sums_t {l : List Int} {o : Int} (hl : ∀ x ∈ l, U x) (ho : U o) : ival_sums l o = some [.i (sW l o), .i (max (sA l o) (sB l o))] := by
  unfold ival_sums ival_sums_d
  have e0 : min (Int.ofNat l.length) 8 = (cn8 l : Int) := by unfold cn8; simp; omega
  have c1 : condSl (rlOf [[Col.int .u64 l]] 0) none (some (cn8 l : Int)) = true := by
    simp [condSl, rlOf, colsN, Col.len, cn8]; omega
  simp only [one_ev, minI_eq, e0]
  rw [c1, chk_t, show ival_Weight 0 = some [.i 5] from rfl]
  simp only [out_ev, un_i_ev, un_nil_ev, fix_Mul_s ho (show U 5 by unfold U; omega)]
  have h : ∀ {α : Type} (kx : Nat → List Leaf → Option α) (kr : List Leaf → Option α), ival_sums_4_L kx kr top l 0 (satM o 5) (Int.ofNat 0) (cn8 l) 0 0 (Int.ofNat 0) (cn8 l) (cn8 l) = kx 0 [.li l, .i (sB l o), .i (sA l o), .i (sW l o)] :=
    fun kx kr => sums4 hl (n := cn8 l) (by unfold cn8; omega) (by unfold cn8; omega) 0 0 (cn8 l) (cn8 l) rfl rfl rfl (cn8 l) top 0 (satM o 5) 0 0 (by unfold top cn8; omega) (by omega) (satM_U ho.1 (by omega)) (by unfold U; omega) (by omega) (by omega) kx kr
  rw [h]
  simp only [beq00, br_t, un_li_ev, un_i_ev, un_nil_ev, one_ev, maxI_eq]
theorem cn8_le (l : List Int) : cn8 l ≤ 8 := by unfold cn8; omega
theorem sAB_U {l : List Int} {o : Int} (hl : ∀ x ∈ l, U x) (ho : U o) : U (sA l o) ∧ U (sB l o) :=
  sg_U hl _ _ _ _ _ (satM_U ho.1 (by omega)) (by unfold U; omega)
theorem sW_b (l : List Int) (o : Int) : (cn8 l : Int) ≤ sW l o ∧ sW l o ≤ 5 * cn8 l := by
  have := sg_w (l := l) (n := cn8 l) (cn8 l) 0 (satM o 5) 0 0 (fun j _ h => by have := cn8_le l; omega)
  unfold sW; omega
def mean8 (l : List Int) (o : Int) : Int := if sW l o = 0 then 0 else max (sA l o) (sB l o) / sW l o
def rate8 (l : List Int) (o : Int) : Int := if sW l o = 0 then 0 else min (mdI (sW l o) 4294967296 (max (sA l o) (sB l o))) 4294967296
theorem ival_Mean_t {l : List Int} {o : Int} (hl : ∀ x ∈ l, U x) (ho : U o) : ival_Mean l o = some [.i (mean8 l o)] := by
  have hU := sAB_U hl ho
  have hw := sW_b l o
  unfold ival_Mean
  simp only [chk_len, chk_T, ival_sums_t hl ho, out_ev, un_i_ev, un_nil_ev, one_ev]
  unfold mean8
  by_cases h : sW l o = 0
  · rw [br_eq h, if_pos h]
  · rw [br_ne h, if_neg h, chk_pos h, quoI_u (by have := hU.1; have := hU.2; unfold U at *; omega) (by omega)]
theorem ival_Rate_t {l : List Int} {o : Int} (hl : ∀ x ∈ l, U x) (ho : U o) : ival_Rate l o = some [.i (rate8 l o)] := by
  have hU := sAB_U hl ho
  have hw := sW_b l o
  have hc := cn8_le l
  unfold ival_Rate
  simp only [chk_len, chk_T, ival_sums_t hl ho, out_ev, un_i_ev, un_nil_ev, one_ev]
  unfold rate8
  by_cases h : sW l o = 0
  · rw [br_eq h, if_pos h]
  · rw [br_ne h, if_neg h, fix_MulDiv_t (by unfold U; omega) (by unfold U; omega) (by have := hU.1; have := hU.2; unfold U at *; omega)]
    simp only [out_ev, un_i_ev, un_nil_ev, one_ev, minI_eq]
/-- The same number again and again. -/
theorem satA_eq {a b : Int} (h : a + b ≤ M64) : satA a b = a + b := by unfold satA; omega
theorem satM_eq {a b : Int} (h : a * b ≤ M64) : satM a b = a * b := by unfold satM; omega
theorem sg_same {v o : Int} (hv : 0 ≤ v) (hv1 : v ≤ 1099511627776) (ho : 0 ≤ o) (ho1 : o ≤ 1099511627776) {l : List Int} {n : Nat} (hl : ∀ i, i < n → l.getD i 0 = v) (hn : n ≤ 8) : ∀ (m i : Nat) (w a b : Int), i + (m + 1) = n → 0 ≤ w → w ≤ 5 * i →
    a = 5 * o + v * (w + wt i - 5) → b = v * w → (sg l n (m + 1) i a b w).1 = 5 * o + v * ((sg l n (m + 1) i a b w).2.2 - 5) ∧ (sg l n (m + 1) i a b w).2.1 = v * (sg l n (m + 1) i a b w).2.2 := by
  intro m
  induction m with
  | zero =>
    intro i w a b hi hw0 hw1 ha hb
    have h1 := wt_b i
    have p1 : v * wt i ≤ v * 5 := Int.mul_le_mul_of_nonneg_left h1.2 hv
    have p2 : v * w ≤ v * 40 := Int.mul_le_mul_of_nonneg_left (by omega) hv
    have e1 : satM v (wt i) = v * wt i := satM_eq (by unfold M64; omega)
    have e2 : satA b (v * wt i) = v * (w + wt i) := by rw [Int.mul_add, ← hb]; exact satA_eq (by unfold M64; omega)
    simp only [sg]
    rw [if_neg (by omega), hl i (by omega), e1, e2]
    exact ⟨ha, rfl⟩
  | succ m ih =>
    intro i w a b hi hw0 hw1 ha hb
    have h1 := wt_b i
    have h2 := wt_b (i + 1)
    have p1 : v * wt i ≤ v * 5 := Int.mul_le_mul_of_nonneg_left h1.2 hv
    have p2 : v * w ≤ v * 40 := Int.mul_le_mul_of_nonneg_left (by omega) hv
    have p3 : v * wt (i + 1) ≤ v * 5 := Int.mul_le_mul_of_nonneg_left h2.2 hv
    have p4 : v * (w + wt i - 5) = v * w + v * wt i - v * 5 := by rw [Int.mul_sub, Int.mul_add]
    have p5 : v * (w + wt i + wt (i + 1) - 5) = v * w + v * wt i + v * wt (i + 1) - v * 5 := by rw [Int.mul_sub, Int.mul_add, Int.mul_add]
    have e1 : satM v (wt i) = v * wt i := satM_eq (by unfold M64; omega)
    have e3 : satM v (wt (i + 1)) = v * wt (i + 1) := satM_eq (by unfold M64; omega)
    have e2 : satA b (v * wt i) = v * (w + wt i) := by rw [Int.mul_add, ← hb]; exact satA_eq (by unfold M64; omega)
    have e4 : satA a (v * wt (i + 1)) = 5 * o + v * (w + wt i + wt (i + 1) - 5) := by rw [satA_eq (by unfold M64; omega)]; omega
    rw [sg]
    rw [if_pos (by omega), hl i (by omega), e1, e2, e3, e4]
    exact ih (i + 1) (w + wt i) _ _ (by omega) (by omega) (by omega) rfl rfl
theorem same_t {v o : Int} (hv : 0 ≤ v) (hv1 : v ≤ 1099511627776) (ho : 0 ≤ o) (ho1 : o ≤ 1099511627776) {k : Nat} (hk : 1 ≤ k) :
    sA (List.replicate k v) o = 5 * o + v * (sW (List.replicate k v) o - 5) ∧ sB (List.replicate k v) o = v * sW (List.replicate k v) o ∧ 1 ≤ sW (List.replicate k v) o ∧ sW (List.replicate k v) o ≤ 40 := by
  have hc : cn8 (List.replicate k v) = min k 8 := by unfold cn8; simp
  obtain ⟨m, hm⟩ : ∃ m, cn8 (List.replicate k v) = m + 1 := ⟨cn8 (List.replicate k v) - 1, by omega⟩
  have hl : ∀ i, i < cn8 (List.replicate k v) → (List.replicate k v).getD i 0 = v := by
    intro i hi
    rw [List.getD_eq_getElem?_getD, List.getElem?_replicate, if_pos (by omega)]; rfl
  have h := sg_same hv hv1 ho ho1 hl (by omega) m 0 0 (satM o 5) 0 (by omega) (by omega) (by omega) (by
    rw [satM_eq (by unfold M64; omega)]; simp [wt]; omega) (by simp)
  have hb := sW_b (List.replicate k v) o
  rw [← hm] at h
  exact ⟨h.1, h.2, by omega, by omega⟩
theorem wide0 {v w : Int} (hv : 0 ≤ v) (hw : 0 ≤ w) : v * (w - 5) ≤ v * w := Int.mul_le_mul_of_nonneg_left (by omega) hv
theorem IvalSteady_true {n2 : Int} {k : Int} (hn : U n2) : IvalSteady n2 k = some [.b true] := by
  obtain ⟨N, hN0, hN1, eN⟩ := rem_N (m := 10) (by decide) (by decide) k
  have e1 : remI .u64 n2 1099511627776 = n2 % 1099511627776 := remI_u hn.1
  have e2 : addI .u64 1 (n2 % 1099511627776) = 1 + n2 % 1099511627776 := by rw [addI_u]; omega
  obtain ⟨v, hv⟩ : ∃ v, v = 1 + n2 % 1099511627776 := ⟨_, rfl⟩
  have hv0 : 1 ≤ v := by omega
  have hv1 : v ≤ 1099511627776 := by omega
  have e3 : addI .i64 1 N = 1 + N := addI_i (by unfold I63; omega)
  unfold IvalSteady IvalSteady_d
  simp only [one_ev, e1, e2, ← hv, eN, e3]
  rw [show (decide ((0 : Int) = Int.ofNat 0) && true) = true by decide, chk_t]
  have loop : ∀ (m n : Nat) (l : List Int) (i : Int), m < n → i + m = 1 + N → l = List.replicate i.toNat v → 0 ≤ i → ∀ {α : Type} (kx : Nat → List Leaf → Option α) (kr : List Leaf → Option α),
      IvalSteady_8_L kx kr n l i v (1 + N) = kx 0 [.li (List.replicate (1 + N).toNat v), .i v] := by
    intro m
    induction m with
    | zero =>
      intro n l i hn hi hl h0 α kx kr
      obtain ⟨n, rfl⟩ : ∃ n', n = n' + 1 := ⟨n - 1, by omega⟩
      simp only [IvalSteady_8_L, IvalSteady_8_B, chk_len, chk_T]
      rw [br_neg (by omega), hl, show i = 1 + N by omega]
    | succ m ih =>
      intro n l i hn hi hl h0 α kx kr
      obtain ⟨n, rfl⟩ : ∃ n', n = n' + 1 := ⟨n - 1, by omega⟩
      have hlen : l.length = i.toNat := by rw [hl]; simp
      simp only [IvalSteady_8_L, IvalSteady_8_B, chk_len, chk_T, one_ev]
      rw [br_pos (by omega), addI_i (show I63 (i + 1) by unfold I63; omega)]
      have c1 : (decide (Int.ofNat l.length = Int.ofNat l.length) && true && decide ((Int.ofNat l.length + ↑1) * ↑8 ≤ 140737488355328 ∧ Int.ofNat l.length + ↑1 ≤ 4611686018427387904)) = true := by
        simp [hlen]; omega
      have c2 : (decide (Int.ofNat l.length + ↑1 = Int.ofNat (l ++ [v]).length) && true) = true := by simp
      simp only [decide_true, Bool.true_and, Bool.and_true] at c1 c2 ⊢
      rw [c1, chk_t, c2, chk_t]
      exact ih n (l ++ [v]) (i + 1) (by omega) (by omega) (by rw [hl, show (i + 1).toNat = i.toNat + 1 by omega, List.replicate_succ']) (by omega) kx kr
  rw [loop (1 + N).toNat top [] 0 (by unfold top; omega) (by omega) rfl (by omega)]
  obtain ⟨K, hK⟩ : ∃ K, K = (1 + N).toNat := ⟨_, rfl⟩
  rw [← hK]
  have hU : ∀ x ∈ List.replicate K v, U x := by
    intro x hx
    rw [List.eq_of_mem_replicate hx]; unfold U; omega
  have U0 : U 0 := by unfold U; omega
  have Uv : U v := by unfold U; omega
  have s0 := same_t (v := v) (o := 0) (k := K) (by omega) hv1 (by omega) (by omega) (by omega)
  have sv := same_t (v := v) (o := v) (k := K) (by omega) hv1 (by omega) hv1 (by omega)
  have m0 : mean8 (List.replicate K v) 0 = v := by
    obtain ⟨a, b, c, d⟩ := s0
    unfold mean8
    rw [if_neg (by omega), a, b]
    have := wide0 (v := v) (w := sW (List.replicate K v) 0) (by omega) (by omega)
    rw [Int.max_eq_right (by omega)]
    exact Int.mul_ediv_cancel _ (by omega)
  have eA : sA (List.replicate K v) v = v * sW (List.replicate K v) v := by
    rw [sv.1, Int.mul_sub]; omega
  have mv : mean8 (List.replicate K v) v = v := by
    obtain ⟨a, b, c, d⟩ := sv
    unfold mean8
    rw [if_neg (by omega), eA, b, Int.max_self]
    exact Int.mul_ediv_cancel _ (by omega)
  have rv : rate8 (List.replicate K v) v = min 4294967296 (4294967296 / v) := by
    obtain ⟨a, b, c, d⟩ := sv
    have hp : 0 < v * sW (List.replicate K v) v := Int.mul_pos (by omega) (by omega)
    unfold rate8
    rw [if_neg (by omega), eA, b, Int.max_self]
    unfold mdI
    rw [if_neg (by omega)]
    have h1 : sW (List.replicate K v) v * 4294967296 / (v * sW (List.replicate K v) v) = 4294967296 / v := by
      rw [Int.mul_comm v]; exact Int.mul_ediv_mul_of_pos _ _ (by omega)
    rw [h1]
    have h2 : 4294967296 / v ≤ 4294967296 := Int.ediv_le_self _ (by decide)
    omega
  simp only [beq00, br_t, un_li_ev, un_i_ev, un_nil_ev, chk_len, chk_T, ival_Mean_t hU U0, ival_Mean_t hU Uv, ival_Rate_t hU Uv, out_ev, m0, mv, rv, one_ev, minI_eq]
  rw [br_eq rfl, br_eq rfl, chk_pos (by omega), quoI_u (by unfold U; omega) (by omega)]
  simp
end Go.Sx.T

