import Derived.Test.YtopcljhdejindaaGreatDoorYFixSpec
import Derived.Test.YtopcljhdejindaaGreatDoorPlDv
set_option linter.all false
namespace Go.Sx.T
open Go Go.Sx
noncomputable def rt (N : Int) : Int := open Classical in if h : ∃ r, IsRoot N r then h.choose else 0
theorem rt_eq {N r : Int} (h : IsRoot N r) : rt N = r := by
  unfold rt
  have hx : ∃ r, IsRoot N r := ⟨r, h⟩
  rw [dif_pos hx]
  exact hx.choose_spec.uniq h
theorem rt_of {N : Int} (h : U N) : IsRoot N (rt N) ∧ fix_Sqrt N = some [.i (rt N)] ∧ ref_Sqrt N = some [.i (rt N)] := by
  obtain ⟨r, h1, _, h3⟩ := fix_Sqrt_t h
  obtain ⟨s, k1, _, k3⟩ := ref_Sqrt_t h
  have := h1.uniq k1
  subst this
  rw [rt_eq h1]
  exact ⟨h1, h3, k3⟩
theorem root_mono {N M r s : Int} (h : IsRoot N r) (k : IsRoot M s) (hle : N ≤ M) : r ≤ s := by
  rcases Int.lt_or_le s r with hlt | hle'
  · have := mul_mono (by have := k.1; omega : 0 ≤ s + 1) (show s + 1 ≤ r by omega)
    have := h.2.1
    have := k.2.2
    omega
  · exact hle'
theorem root_lt {N r : Int} (h : IsRoot N r) (b : Int) (hb : 0 ≤ b) (hlt : N < b * b) : r < b := by
  rcases Int.lt_or_le r b with h1 | h1
  · exact h1
  · have := mul_mono hb h1
    have := h.2.1
    omega
theorem mdI_mono {a a' b b' c : Int} (ha0 : 0 ≤ a) (ha : a ≤ a') (hb0 : 0 ≤ b) (hb : b ≤ b') (hc : 0 < c) : mdI a b c ≤ mdI a' b' c := by
  unfold mdI
  rw [if_neg (by omega), if_neg (by omega)]
  have := Int.ediv_le_ediv hc (Int.mul_le_mul ha hb hb0 (by omega))
  omega
theorem mdI_anti {a b c c' : Int} (ha0 : 0 ≤ a) (hb0 : 0 ≤ b) (hc : 0 < c) (hcc : c ≤ c') : mdI a b c' ≤ mdI a b c := by
  unfold mdI
  rw [if_neg (by omega), if_neg (by omega)]
  have h0 := Int.mul_nonneg ha0 hb0
  have : a * b / c' ≤ a * b / c := by
    rw [Int.le_ediv_iff_mul_le hc]
    have h1 := Int.ediv_mul_le (a * b) (show c' ≠ 0 by omega)
    have h2 := Int.ediv_nonneg h0 (show 0 ≤ c' by omega)
    have h3 := Int.mul_le_mul_of_nonneg_left hcc h2
    omega
  omega
theorem mdI_le {a b c m : Int} (ha : 0 ≤ a) (hb : 0 ≤ b) (hc : 0 < c) (h : a * b ≤ m * c) : mdI a b c ≤ m := by
  unfold mdI
  rw [if_neg (by omega)]
  have : a * b / c ≤ m := Int.ediv_le_of_le_mul hc h
  omega
theorem mdI_nn {a b c : Int} (ha : 0 ≤ a) (hb : 0 ≤ b) (hc : 0 ≤ c) : 0 ≤ mdI a b c := (mdI_U a b c ha hb hc).1
def cl (n lo hi : Int) : Int := min (max n lo) hi
theorem clampP (n lo hi : Int) : minI (maxI n lo) hi = cl n lo hi := by unfold minI maxI cl; split <;> split <;> omega
theorem clampR (n lo hi : Int) (h : lo ≤ hi) : maxI lo (minI n hi) = cl n lo hi := by unfold minI maxI cl; split <;> split <;> omega
noncomputable def Fa (m : Int) : Int := rt (mdI 8589934592 m 3)
noncomputable def Fb (m : Int) : Int := rt (mdI 12884901888 m 8)
noncomputable def Fd (m : Int) : Int := mdI (Fb m) m 4294967296
noncomputable def Fc (m : Int) : Int := 4294967296 + mdI (32 * m) m 4294967296
noncomputable def Fe (m : Int) : Int := mdI (Fd m) (Fc m) 4294967296
noncomputable def FM (m : Int) : Int := Fa m + 12 * Fe m
noncomputable def FI (n : Int) : Int := FM (cl n 1 4294967296)
structure FOk (m : Int) : Prop where
  ua : U (mdI 8589934592 m 3)
  ub : U (mdI 12884901888 m 8)
  a0 : 1 ≤ Fa m
  a1 : Fa m < 4294967296
  b0 : 0 ≤ Fb m
  b1 : Fb m < 4294967296
  d0 : 0 ≤ Fd m
  d1 : Fd m < 4294967296
  c0 : 4294967296 ≤ Fc m
  c1 : Fc m ≤ 141733920768
  c2 : mdI (32 * m) m 4294967296 = Fc m - 4294967296
  e0 : 0 ≤ Fe m
  e1 : Fe m ≤ 141733920768
theorem f_ok {m : Int} (h1 : 1 ≤ m) (h2 : m ≤ 4294967296) : FOk m := by
  have ua := mdI_U 8589934592 m 3 (by omega) (by omega) (by omega)
  have ub := mdI_U 12884901888 m 8 (by omega) (by omega) (by omega)
  have ra := (rt_of ua).1
  have rb := (rt_of ub).1
  have a0 : 1 ≤ Fa m := by
    refine root_mono (N := 1) (r := 1) (by unfold IsRoot; omega) ra ?_
    unfold mdI
    rw [if_neg (by decide)]
    omega
  have a1 : Fa m < 4294967296 := root_lt ra _ (by decide) (by have := ua.2; omega)
  have b0 : 0 ≤ Fb m := rb.1
  have b1 : Fb m < 4294967296 := root_lt rb _ (by decide) (by have := ub.2; omega)
  have d0 : 0 ≤ Fd m := mdI_nn b0 (by omega) (by decide)
  have d1 : Fd m ≤ Fb m := mdI_le b0 (by omega) (by decide) (Int.mul_le_mul_of_nonneg_left h2 b0)
  have mm : m * m ≤ 4294967296 * m := Int.mul_le_mul_of_nonneg_right h2 (by omega)
  have x0 : 0 ≤ mdI (32 * m) m 4294967296 := mdI_nn (by omega) (by omega) (by decide)
  have x1 : mdI (32 * m) m 4294967296 ≤ 137438953472 := mdI_le (by omega) (by omega) (by decide) (by
    rw [Int.mul_assoc]; omega)
  have c0 : 4294967296 ≤ Fc m := by unfold Fc; omega
  have c1 : Fc m ≤ 141733920768 := by unfold Fc; omega
  have e0 : 0 ≤ Fe m := mdI_nn d0 (by omega) (by decide)
  have e1 : Fe m ≤ 141733920768 := mdI_le d0 (by omega) (by decide) (by
    have := Int.mul_le_mul (show Fd m ≤ 4294967296 by omega) c1 (by omega) (by decide)
    omega)
  exact ⟨ua, ub, a0, a1, b0, b1, d0, by omega, c0, c1, by unfold Fc; omega, e0, e1⟩
theorem cl_in (n : Int) (lo hi : Int) (h : lo ≤ hi) : lo ≤ cl n lo hi ∧ cl n lo hi ≤ hi := by unfold cl; omega
theorem eqn_F_t (n : Int) : eqn_F n = some [.i (FI n)] ∧ ref_F n = some [.i (FI n)] := by
  have hm := cl_in n 1 4294967296 (by decide)
  have k := f_ok hm.1 hm.2
  unfold eqn_F ref_F FI
  simp only [one_ev, clampP, clampR n 1 4294967296 (by decide)]
  generalize cl n 1 4294967296 = m at *
  have um : U m := ⟨by omega, by omega⟩
  have x1 : mulI .u64 32 m = 32 * m := by rw [mulI_u]; omega
  have u32 : U (32 * m) := ⟨by omega, by omega⟩
  have uw : U 4294967296 := by unfold U; omega
  have ub : U (Fb m) := ⟨k.b0, by have := k.b1; omega⟩
  have ud : U (Fd m) := ⟨k.d0, by have := k.d1; omega⟩
  have uc : U (Fc m) := ⟨by have := k.c0; omega, by have := k.c1; omega⟩
  have x2 : addI .u64 4294967296 (mdI (32 * m) m 4294967296) = Fc m := by
    rw [addI_u, k.c2]; have := k.c0; have := k.c1; omega
  have x3 : mulI .u64 12 (Fe m) = 12 * Fe m := by rw [mulI_u]; have := k.e0; have := k.e1; omega
  have x4 : addI .u64 (Fa m) (12 * Fe m) = FM m := by
    rw [addI_u]; unfold FM; have := k.e0; have := k.e1; have := k.a0; have := k.a1; omega
  have u1 : U 8589934592 := by unfold U; omega
  have u2 : U 12884901888 := by unfold U; omega
  have u3 : U 3 := by unfold U; omega
  have u8 : U 8 := by unfold U; omega
  constructor
  · rw [fix_MulDiv_t u1 um u3, fix_MulDiv_t u2 um u8]
    simp only [out_ev, un_i_ev, un_nil_ev, (rt_of k.ua).2.1, (rt_of k.ub).2.1, x1, fix_MulDiv_t u32 um uw]
    rw [show rt (mdI 12884901888 m 8) = Fb m from rfl, show rt (mdI 8589934592 m 3) = Fa m from rfl]
    simp only [x2, fix_MulDiv_t ub um uw, out_ev, un_i_ev, un_nil_ev]
    rw [show mdI (Fb m) m 4294967296 = Fd m from rfl]
    simp only [fix_MulDiv_t ud uc uw, out_ev, un_i_ev, un_nil_ev]
    rw [show mdI (Fd m) (Fc m) 4294967296 = Fe m from rfl, x3, x4]
  · rw [ref_MulDiv_t u1 um u3, ref_MulDiv_t u2 um u8]
    simp only [out_ev, un_i_ev, un_nil_ev, (rt_of k.ua).2.2, (rt_of k.ub).2.2, x1, ref_MulDiv_t u32 um uw]
    rw [show rt (mdI 12884901888 m 8) = Fb m from rfl, show rt (mdI 8589934592 m 3) = Fa m from rfl]
    simp only [x2, ref_MulDiv_t ub um uw, out_ev, un_i_ev, un_nil_ev]
    rw [show mdI (Fb m) m 4294967296 = Fd m from rfl]
    simp only [ref_MulDiv_t ud uc uw, out_ev, un_i_ev, un_nil_ev]
    rw [show mdI (Fd m) (Fc m) 4294967296 = Fe m from rfl, x3, x4]
theorem FI_in (n : Int) : 1 ≤ FI n ∧ FI n ≤ 1705102016512 := by
  have hm := cl_in n 1 4294967296 (by decide)
  have k := f_ok hm.1 hm.2
  unfold FI FM
  have := k.e0; have := k.e1; have := k.a0; have := k.a1
  omega
/-- The rate. -/
noncomputable def RI (s r n : Int) : Int := mdI (64000000 * cl s 1 65535) 4294967296 (FI n) / cl r 1 4294967296
theorem eqn_Rate_t (s r n : Int) : eqn_Rate s r n = some [.i (RI s r n)] ∧ ref_Rate s r n = some [.i (RI s r n)] := by
  have hs := cl_in s 1 65535 (by decide)
  have hr := cl_in r 1 4294967296 (by decide)
  have hf := FI_in n
  have uf : U (FI n) := ⟨by omega, by omega⟩
  have uw : U 4294967296 := by unfold U; omega
  have x1 : mulI .u64 64000000 (cl s 1 65535) = 64000000 * cl s 1 65535 := by rw [mulI_u]; omega
  have us : U (64000000 * cl s 1 65535) := ⟨by omega, by omega⟩
  have um := mdI_U (64000000 * cl s 1 65535) 4294967296 (FI n) us.1 uw.1 uf.1
  have hr0 : cl r 1 4294967296 ≠ 0 := by omega
  unfold eqn_Rate ref_Rate RI
  simp only [one_ev, clampP, clampR s 1 65535 (by decide), clampR r 1 4294967296 (by decide), x1, eqn_F_t, out_ev, un_i_ev, un_nil_ev, fix_MulDiv_t us uw uf, ref_MulDiv_t us uw uf, chk_pos hr0, quoI_u um (show 0 < cl r 1 4294967296 by omega), and_self]
theorem FM_mono {m k : Int} (h1 : 1 ≤ m) (h : m ≤ k) (h2 : k ≤ 4294967296) : FM m ≤ FM k := by
  have km := f_ok h1 (by omega)
  have kk := f_ok (show 1 ≤ k by omega) h2
  have ha : Fa m ≤ Fa k := root_mono (rt_of km.ua).1 (rt_of kk.ua).1 (mdI_mono (by decide) (by omega) (by omega) h (by decide))
  have hb : Fb m ≤ Fb k := root_mono (rt_of km.ub).1 (rt_of kk.ub).1 (mdI_mono (by decide) (by omega) (by omega) h (by decide))
  have hd : Fd m ≤ Fd k := mdI_mono km.b0 hb (by omega) h (by decide)
  have hc : Fc m ≤ Fc k := by
    unfold Fc
    have := mdI_mono (a := 32 * m) (a' := 32 * k) (b := m) (b' := k) (c := 4294967296) (by omega) (by omega) (by omega) h (by decide)
    omega
  have he : Fe m ≤ Fe k := mdI_mono km.d0 hd (by have := km.c0; omega) hc (by decide)
  unfold FM
  omega
theorem FI_mono {n k : Int} (h : n ≤ k) : FI n ≤ FI k :=
  FM_mono (cl_in n 1 4294967296 (by decide)).1 (by unfold cl; omega) (cl_in k 1 4294967296 (by decide)).2
theorem RI_mono {s s' r r' n n' : Int} (hs : s ≤ s') (hr : r' ≤ r) (hn : n' ≤ n) : RI s r n ≤ RI s' r' n' := by
  have h1 := cl_in s 1 65535 (by decide)
  have h1' := cl_in s' 1 65535 (by decide)
  have h2 := cl_in r 1 4294967296 (by decide)
  have h2' := cl_in r' 1 4294967296 (by decide)
  have hss : cl s 1 65535 ≤ cl s' 1 65535 := by unfold cl; omega
  have hrr : cl r' 1 4294967296 ≤ cl r 1 4294967296 := by unfold cl; omega
  have f := FI_in n
  have f' := FI_in n'
  have a1 : mdI (64000000 * cl s 1 65535) 4294967296 (FI n) ≤ mdI (64000000 * cl s' 1 65535) 4294967296 (FI n') :=
    Int.le_trans (mdI_anti (by omega) (by decide) (by omega) (FI_mono hn)) (mdI_mono (by omega) (by omega) (by decide) (by omega) (by omega))
  have nn : 0 ≤ mdI (64000000 * cl s 1 65535) 4294967296 (FI n) := mdI_nn (by omega) (by decide) (by omega)
  unfold RI
  generalize mdI (64000000 * cl s 1 65535) 4294967296 (FI n) = X at *
  generalize mdI (64000000 * cl s' 1 65535) 4294967296 (FI n') = Y at *
  rw [Int.le_ediv_iff_mul_le (by omega)]
  have q0 := Int.ediv_nonneg nn (show 0 ≤ cl r 1 4294967296 by omega)
  have e1 := Int.ediv_mul_le X (show cl r 1 4294967296 ≠ 0 by omega)
  have e2 := Int.mul_le_mul_of_nonneg_left hrr q0
  omega
end Go.Sx.T

