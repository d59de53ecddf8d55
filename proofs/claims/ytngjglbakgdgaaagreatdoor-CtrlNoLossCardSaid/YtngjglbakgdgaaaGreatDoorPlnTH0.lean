import Derived.Test.YtngjglbakgdgaaaGreatDoorPlnTg
set_option linter.all false
namespace Go.Sx.T
open Go Go.Sx
theorem wrapU (x : Int) : U (IntKind.wrap .u64 x) := by rw [wrap_u64]; unfold U; omega
theorem mdU {a b c : Int} (ha : U a) (hb : U b) (hc : U c) : ∃ e, U e ∧ fix_MulDiv a b c = some [.i e] := ⟨_, mdI_U _ _ _ ha.1 hb.1 hc.1, fix_MulDiv_t ha hb hc⟩
theorem clU (n lo hi : Int) (h0 : 0 ≤ lo) (h1 : lo ≤ hi) (h2 : hi < 18446744073709551616) : U (minI (maxI n lo) hi) ∧ lo ≤ minI (maxI n lo) hi := by rw [minI_eq, maxI_eq]; unfold U; omega
theorem eqn_F_U (n : Int) : ∃ e, U e ∧ eqn_F n = some [.i e] := by
  obtain ⟨m, hm⟩ : ∃ m, m = minI (maxI n 1) 4294967296 := ⟨_, rfl⟩
  have hmU := (clU n 1 4294967296 (by omega) (by omega) (by omega)).1
  rw [← hm] at hmU
  obtain ⟨a, ha, ea⟩ := mdU (a := 8589934592) (b := m) (c := 3) (by unfold U; omega) hmU (by unfold U; omega)
  obtain ⟨a1, _, ha1, ea1⟩ := fix_Sqrt_t ha
  obtain ⟨b, hb, eb⟩ := mdU (a := 12884901888) (b := m) (c := 8) (by unfold U; omega) hmU (by unfold U; omega)
  obtain ⟨b1, _, hb1, eb1⟩ := fix_Sqrt_t hb
  obtain ⟨c, hc, ec⟩ := mdU (a := mulI .u64 32 m) (b := m) (c := 4294967296) (wrapU _) hmU (by unfold U; omega)
  obtain ⟨d, hd, ed⟩ := mdU (a := b1) (b := m) (c := 4294967296) hb1 hmU (by unfold U; omega)
  obtain ⟨e, he, ee⟩ := mdU (a := d) (b := addI .u64 4294967296 c) (c := 4294967296) hd (wrapU _) (by unfold U; omega)
  refine ⟨addI .u64 a1 (mulI .u64 12 e), wrapU _, ?_⟩
  unfold eqn_F
  simp only [one_ev, ← hm, ea, ea1, eb, eb1, ec, ed, ee, out_ev, un_i_ev, un_nil_ev]
theorem eqn_Rate_U (s r n : Int) : ∃ e, U e ∧ eqn_Rate s r n = some [.i e] := by
  obtain ⟨f, hf, ef⟩ := eqn_F_U n
  obtain ⟨a, ha, ea⟩ := mdU (a := mulI .u64 64000000 (minI (maxI s 1) 65535)) (b := 4294967296) (c := f) (wrapU _) (by unfold U; omega) hf
  have hr := clU r 1 4294967296 (by omega) (by omega) (by omega)
  refine ⟨quoI .u64 a (minI (maxI r 1) 4294967296), wrapU _, ?_⟩
  unfold eqn_Rate
  simp only [one_ev, ef, ea, out_ev, un_i_ev, un_nil_ev]
  rw [chk_pos (by omega)]
end Go.Sx.T

