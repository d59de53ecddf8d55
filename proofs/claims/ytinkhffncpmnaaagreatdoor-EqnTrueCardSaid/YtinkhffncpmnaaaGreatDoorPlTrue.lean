/-
  EqnTrue: the rate lies between both brackets.
-/
import Derived.Test.YtinkhffncpmnaaaGreatDoorPlEqn
set_option linter.all false
namespace Go.Sx.T
open Go Go.Sx
theorem mdI_eq {a b c : Int} (hc : 0 < c) (h : a * b ≤ 18446744073709551615 * c) : mdI a b c = a * b / c := by
  unfold mdI
  rw [if_neg (by omega)]
  have : a * b / c ≤ 18446744073709551615 := Int.ediv_le_of_le_mul hc h
  omega
theorem lt_ediv_succ (a : Int) {c : Int} (hc : 0 < c) : a < (a / c + 1) * c := Int.lt_ediv_add_one_mul_self a hc
theorem ediv_le_ (a : Int) {c : Int} (hc : 0 < c) : a / c * c ≤ a := Int.ediv_mul_le a (by omega)
theorem ba_up {n N1 P1 A ap : Int} (h1 : 3 * N1 ≤ n * 1073741824) (hA : IsRoot (N1 * 8796093022208) A) (h2 : 8589934592 * n < 3 * (P1 + 1)) (hp : IsRoot P1 ap) : A < 1048576 * (ap + 1) := by
  rcases Int.lt_or_le A (1048576 * (ap + 1)) with h | h
  · exact h
  · have a1 := hp.2.2
    have a2 := hA.2.1
    have := mul_mono (show 0 ≤ 1048576 * (ap + 1) by have := hp.1; omega) h
    have e : 1048576 * (ap + 1) * (1048576 * (ap + 1)) = 1099511627776 * ((ap + 1) * (ap + 1)) := by grind
    rw [e] at this
    omega
theorem ba_lo {n N1 P1 A ap : Int} (h1 : n * 1073741824 ≤ 3 * N1 + 2) (hA : IsRoot (N1 * 8796093022208) A) (h2 : 3 * P1 ≤ 8589934592 * n) (hp : IsRoot P1 ap) (hb : 53509 ≤ ap) : 1048576 * ap ≤ A + 64 := by
  rcases Int.lt_or_le (A + 64) (1048576 * ap) with h | h
  · have a1 := hp.2.1
    have a2 := hA.2.2
    have := mul_mono (show 0 ≤ A + 1 by have := hA.1; omega) (show A + 1 ≤ 1048576 * ap - 64 by omega)
    have e : (1048576 * ap - 64) * (1048576 * ap - 64) = 1099511627776 * (ap * ap) - 134217728 * ap + 4096 := by grind
    rw [e] at this
    omega
  · exact h
theorem bb_up {n be bp : Int} (hB : IsRoot (3 * n * 9223372036854775808) be) (hp : IsRoot (1610612736 * n) bp) : 8 * be < 1048576 * (bp + 1) := by
  rcases Int.lt_or_le (8 * be) (1048576 * (bp + 1)) with h | h
  · exact h
  · have a1 := hp.2.2
    have a2 := hB.2.1
    have := mul_mono (show 0 ≤ 1048576 * (bp + 1) by have := hp.1; omega) h
    have e : 1048576 * (bp + 1) * (1048576 * (bp + 1)) = 1099511627776 * ((bp + 1) * (bp + 1)) := by grind
    have e2 : 8 * be * (8 * be) = 64 * (be * be) := by grind
    rw [e, e2] at this
    omega
theorem bb_lo {n be bp : Int} (hB : IsRoot (3 * n * 9223372036854775808) be) (hp : IsRoot (1610612736 * n) bp) : 1048576 * bp ≤ 8 * be + 8 := by
  rcases Int.lt_or_le (8 * be + 8) (1048576 * bp) with h | h
  · have a1 := hp.2.1
    have a2 := hB.2.2
    have := mul_mono (show 0 ≤ 8 * be + 8 by have := hB.1; omega) (show 8 * be + 8 ≤ 1048576 * bp by omega)
    have e : 1048576 * bp * (1048576 * bp) = 1099511627776 * (bp * bp) := by grind
    have e2 : (8 * be + 8) * (8 * be + 8) = 64 * ((be + 1) * (be + 1)) := by grind
    rw [e, e2] at this
    omega
  · exact h
structure Brk (n low high : Int) : Prop where
  l0 : 50000000000 ≤ low
  fm : 53509 ≤ FM n
  l1 : low < 4611686018427387904
  h1 : high < 9223372036854775808
  lo : 1024 * low ≤ 1074790400 * FM n
  hi : 1048576 * FM n ≤ high
theorem bracket_t {n : Int} (n1 : 1 ≤ n) (n2 : n ≤ 4294967296) : ∃ low high, bracket n = some [.i low, .i high] ∧ Brk n low high := by
  have k := f_ok n1 n2
  have nU : U n := ⟨by omega, by omega⟩
  have uw : U 4294967296 := by unfold U; omega
  -- the program's parts
  have e1 : mdI 8589934592 n 3 = 8589934592 * n / 3 := mdI_eq (by decide) (by omega)
  have e2 : mdI 12884901888 n 8 = 1610612736 * n := by rw [mdI_eq (by decide) (by omega)]; omega
  have ra : IsRoot (8589934592 * n / 3) (Fa n) := by have := (rt_of k.ua).1; rw [e1] at this; unfold Fa; rw [e1]; exact this
  have rb : IsRoot (1610612736 * n) (Fb n) := by have := (rt_of k.ub).1; rw [e2] at this; unfold Fb; rw [e2]; exact this
  have b0 := k.b0; have b1 := k.b1; have d0 := k.d0; have d1 := k.d1; have c0 := k.c0; have c1 := k.c1
  have bn := Int.mul_le_mul (show Fb n ≤ 4294967295 by omega) n2 (by omega) (by decide)
  have ed : Fd n = Fb n * n / 4294967296 := by unfold Fd; exact mdI_eq (by decide) (by omega)
  have dc := Int.mul_le_mul (show Fd n ≤ 4294967295 by omega) c1 (by omega) (by decide)
  have ee : Fe n = Fd n * Fc n / 4294967296 := by unfold Fe; exact mdI_eq (by decide) (by omega)
  have nn := Int.mul_le_mul_of_nonneg_left n2 (show 0 ≤ 32 * n by omega)
  have ec : Fc n = 4294967296 + 32 * n * n / 4294967296 := by unfold Fc; rw [mdI_eq (by decide) (by omega)]
  -- the bracket's parts
  have g1 : mdI n 1073741824 3 = n * 1073741824 / 3 := mdI_eq (by decide) (by omega)
  have u1 : U (n * 1073741824 / 3) := ⟨by omega, by omega⟩
  obtain ⟨A, hA, uA, sA⟩ := ref_SqrtMul_t u1 (b := 8796093022208) (by unfold U; omega)
  have m1 : mulI .u64 3 n = 3 * n := by rw [mulI_u]; omega
  obtain ⟨be, hB, uB, sB⟩ := ref_SqrtMul_t (a := 3 * n) ⟨by omega, by omega⟩ (b := 9223372036854775808) (by unfold U; omega)
  have A1 : A < 4503599627370496 := root_lt hA _ (by decide) (by omega)
  have be1 : be < 562949953421312 := root_lt hB _ (by decide) (by omega)
  have A0 := hA.1; have be0 := hB.1
  have m2 : mulI .u64 be 8 = 8 * be := by rw [mulI_u]; omega
  have m3 : mulI .u64 32 n = 32 * n := by rw [mulI_u]; omega
  have u32 : U (32 * n) := ⟨by omega, by omega⟩
  have x2 : addI .u64 4294967296 (mdI (32 * n) n 4294967296) = Fc n := by rw [addI_u, k.c2]; omega
  have uc : U (Fc n) := ⟨by omega, by omega⟩
  have u8b : U (8 * be) := ⟨by omega, by omega⟩
  have up := ba_up (n := n) (N1 := n * 1073741824 / 3) (P1 := 8589934592 * n / 3) (by omega) hA (by omega) ra
  have ap : 53509 ≤ Fa n := root_mono (N := 2863311530) (r := 53509) (by unfold IsRoot; omega) ra (by omega)
  have lo := ba_lo (n := n) (N1 := n * 1073741824 / 3) (P1 := 8589934592 * n / 3) (by omega) hA (by omega) ra ap
  have bup := bb_up hB rb
  have blo := bb_lo hB rb
  have Bn := Int.mul_le_mul_of_nonneg_right (show 8 * be ≤ 4503599627370496 by omega) (show 0 ≤ n by omega)
  have g2 : mdI (8 * be) n 4294967296 = 8 * be * n / 4294967296 := mdI_eq (by decide) (by omega)
  have Bnn := Int.mul_nonneg u8b.1 (show 0 ≤ n by omega)
  generalize hdl : 8 * be * n / 4294967296 = dl at g2
  have dl0 : 0 ≤ dl := by omega
  have dl1 : dl ≤ 4503599627370496 := by omega
  have dlc := Int.mul_le_mul dl1 c1 (by omega) (by decide)
  have dlnn := Int.mul_nonneg dl0 (show 0 ≤ Fc n by omega)
  have g3 : mdI dl (Fc n) 4294967296 = dl * Fc n / 4294967296 := mdI_eq (by decide) (by omega)
  generalize hel : dl * Fc n / 4294967296 = el at g3
  have el0 : 0 ≤ el := by omega
  have el1 : el ≤ 148618787703226368 := by omega
  have m4 : mulI .u64 12 el = 12 * el := by rw [mulI_u]; omega
  have m5 : addI .u64 A (12 * el) = A + 12 * el := by rw [addI_u]; omega
  have m6 : shrI .u64 A 16 = A / 65536 := shr16
  have m7 : addI .u64 A (A / 65536) = A + A / 65536 := by rw [addI_u]; omega
  have m8 : addI .u64 (A + A / 65536) 64 = A + A / 65536 + 64 := by rw [addI_u]; omega
  have m9 : addI .u64 (8 * be) 16 = 8 * be + 16 := by rw [addI_u]; omega
  have Bn2 := Int.mul_le_mul_of_nonneg_right (show 8 * be + 16 ≤ 4503599627370512 by omega) (show 0 ≤ n by omega)
  have Bnn2 := Int.mul_nonneg (show 0 ≤ 8 * be + 16 by omega) (show 0 ≤ n by omega)
  have g4 : mdI (8 * be + 16) n 4294967296 = (8 * be + 16) * n / 4294967296 := mdI_eq (by decide) (by omega)
  generalize hdh : (8 * be + 16) * n / 4294967296 = dh at g4
  have dh0 : 0 ≤ dh := by omega
  have dh1 : dh ≤ 4503599627370512 := by omega
  have m10 : addI .u64 dh 1 = dh + 1 := by rw [addI_u]; omega
  have m11 : addI .u64 (Fc n) 1 = Fc n + 1 := by rw [addI_u]; omega
  have dhc := Int.mul_le_mul (show dh + 1 ≤ 4503599627370513 by omega) (show Fc n + 1 ≤ 141733920769 by omega) (by omega) (by decide)
  have dhnn := Int.mul_nonneg (show 0 ≤ dh + 1 by omega) (show 0 ≤ Fc n + 1 by omega)
  have g5 : mdI (dh + 1) (Fc n + 1) 4294967296 = (dh + 1) * (Fc n + 1) / 4294967296 := mdI_eq (by decide) (by omega)
  generalize heh : (dh + 1) * (Fc n + 1) / 4294967296 = eh at g5
  have eh0 : 0 ≤ eh := by omega
  have eh1 : eh ≤ 148618787800000000 := by omega
  have m12 : addI .u64 eh 1 = eh + 1 := by rw [addI_u]; omega
  have m13 : mulI .u64 12 (eh + 1) = 12 * (eh + 1) := by rw [mulI_u]; omega
  have m14 : addI .u64 (A + A / 65536 + 64) (12 * (eh + 1)) = A + A / 65536 + 64 + 12 * (eh + 1) := by rw [addI_u]; omega
  refine ⟨A + 12 * el, A + A / 65536 + 64 + 12 * (eh + 1), ?_, ?_⟩
  · unfold bracket
    rw [ref_MulDiv_t nU (by unfold U; omega) (by unfold U; omega), g1]
    simp only [out_ev, un_i_ev, un_nil_ev, one_ev, sA, m1, sB, m2, m3, ref_MulDiv_t u32 nU uw, x2, ref_MulDiv_t u8b nU uw, g2]
    rw [ref_MulDiv_t (a := dl) ⟨dl0, by omega⟩ uc uw, g3]
    simp only [out_ev, un_i_ev, un_nil_ev, m4, m5, m6, m7, m8, m9]
    rw [ref_MulDiv_t (a := 8 * be + 16) ⟨by omega, by omega⟩ nU uw, g4]
    simp only [out_ev, un_i_ev, un_nil_ev, m10, m11]
    rw [ref_MulDiv_t (a := dh + 1) ⟨by omega, by omega⟩ (b := Fc n + 1) ⟨by omega, by omega⟩ uw, g5]
    simp only [out_ev, un_i_ev, un_nil_ev, m12, m13, m14]
  · -- low
    have p1 := lt_ediv_succ (Fb n * n) (c := 4294967296) (by decide)
    rw [← ed] at p1
    have p2 := ediv_le_ (8 * be * n) (c := 4294967296) (by decide)
    rw [hdl] at p2
    have p3 := Int.mul_le_mul_of_nonneg_right (show 8 * be ≤ 1048576 * (Fb n + 1) by omega) (show 0 ≤ n by omega)
    have p4 : 1048576 * (Fb n + 1) * n = 1048576 * (Fb n * n + n) := by grind
    have dlt : dl < 1048576 * (Fd n + 2) := by omega
    have q1 := lt_ediv_succ (Fd n * Fc n) (c := 4294967296) (by decide)
    rw [← ee] at q1
    have q2 := ediv_le_ (dl * Fc n) (c := 4294967296) (by decide)
    rw [hel] at q2
    have q3 := Int.mul_le_mul_of_nonneg_right (show dl ≤ 1048576 * (Fd n + 2) by omega) (show 0 ≤ Fc n by omega)
    have q4 : 1048576 * (Fd n + 2) * Fc n = 1048576 * (Fd n * Fc n + 2 * Fc n) := by grind
    -- high
    have r1 := ediv_le_ (Fb n * n) (c := 4294967296) (by decide)
    rw [← ed] at r1
    have r2 := lt_ediv_succ ((8 * be + 16) * n) (c := 4294967296) (by decide)
    rw [hdh] at r2
    have r3 := Int.mul_le_mul_of_nonneg_right (show 1048576 * Fb n ≤ 8 * be + 16 by omega) (show 0 ≤ n by omega)
    have r4 : 1048576 * Fb n * n = 1048576 * (Fb n * n) := by grind
    have dht : 1048576 * Fd n ≤ dh + 1 := by omega
    have s1 := ediv_le_ (Fd n * Fc n) (c := 4294967296) (by decide)
    rw [← ee] at s1
    have s2 := lt_ediv_succ ((dh + 1) * (Fc n + 1)) (c := 4294967296) (by decide)
    rw [heh] at s2
    have s3 := Int.mul_le_mul dht (show Fc n ≤ Fc n + 1 by omega) (by omega) (by omega)
    have s4 : 1048576 * Fd n * Fc n = 1048576 * (Fd n * Fc n) := by grind
    have eht : 1048576 * Fe n ≤ eh + 1 := by omega
    have e0 := k.e0
    refine ⟨by omega, by unfold FM; omega, by omega, by omega, ?_, ?_⟩
    · have e0 := k.e0
      have low : 4294967296 * (A + 12 * el) < 1048576 * (4294967296 * (Fa n + 12 * Fe n + 13) + 24 * Fc n) := by omega
      have main : 1024 * (13 * 4294967296 + 24 * Fc n) ≤ 4294967296 * Fa n := by
        by_cases hs : n ≤ 1048576
        · have := Int.mul_le_mul hs hs (by omega) (by decide)
          have e : 32 * n * n = 32 * (n * n) := by grind
          rw [e] at ec
          omega
        · have : 50000000 ≤ Fa n := root_mono (N := 2500000000000000) (r := 50000000) (by unfold IsRoot; omega) ra (by omega)
          omega
      unfold FM
      omega
    · unfold FM
      omega
theorem EqnTrue_true {s r n : Int} (hs : U s) (hr : U r) (hn : U n) : EqnTrue s r n = some [.b true] := by
  have s0 := hs.1; have r0 := hr.1; have n0 := hn.1
  unfold EqnTrue
  simp only [one_ev, remI_u s0, remI_u r0, remI_u n0]
  rw [show addI .u64 1 (s % 65535) = 1 + s % 65535 by rw [addI_u]; omega, show addI .u64 1 (r % 4294967296) = 1 + r % 4294967296 by rw [addI_u]; omega, show addI .u64 1 (n % 4294967296) = 1 + n % 4294967296 by rw [addI_u]; omega]
  have hs1 : 1 ≤ 1 + s % 65535 ∧ 1 + s % 65535 ≤ 65535 := by omega
  have hr1 : 1 ≤ 1 + r % 4294967296 ∧ 1 + r % 4294967296 ≤ 4294967296 := by omega
  have hn1 : 1 ≤ 1 + n % 4294967296 ∧ 1 + n % 4294967296 ≤ 4294967296 := by omega
  generalize 1 + s % 65535 = S at *
  generalize 1 + r % 4294967296 = R at *
  generalize 1 + n % 4294967296 = M at *
  obtain ⟨low, high, hb, k⟩ := bracket_t hn1.1 hn1.2
  have f := f_ok hn1.1 hn1.2
  have hF : FI M = FM M := by unfold FI cl; congr 1; omega
  have hFi := FI_in M
  rw [hF] at hFi
  have fm := k.fm
  have hRI : RI S R M = 64000000 * S * 4294967296 / FM M / R := by
    unfold RI
    rw [hF, show cl S 1 65535 = S by unfold cl; omega, show cl R 1 4294967296 = R by unfold cl; omega, mdI_eq (by omega) (by omega)]
  have l0 := k.l0; have l1 := k.l1; have h1 := k.h1; have klo := k.lo; have khi := k.hi
  have m1 : mulI .u64 64000000 S = 64000000 * S := by rw [mulI_u]; omega
  have uS : U (64000000 * S) := ⟨by omega, by omega⟩
  have u52 : U 4503599627370496 := by unfold U; omega
  have ul : U low := ⟨by omega, by omega⟩
  have uh : U high := ⟨by omega, by omega⟩
  have hp : 0 < high := by omega
  have g1 : mdI (64000000 * S) 4503599627370496 low = 64000000 * S * 4503599627370496 / low := mdI_eq (by omega) (by omega)
  have g2 : mdI (64000000 * S) 4503599627370496 high = 64000000 * S * 4503599627370496 / high := mdI_eq hp (by omega)
  -- the numbers
  generalize hN : 64000000 * S = N at *
  have N1 : 64000000 ≤ N ∧ N ≤ 4194240000000 := by omega
  have y1 := ediv_le_ (N * 4294967296) (c := FM M) (by omega)
  have y2 := lt_ediv_succ (N * 4294967296) (c := FM M) (by omega)
  generalize hY : N * 4294967296 / FM M = Y at *
  have y3 := ediv_le_ Y (c := R) (by omega)
  have y4 := lt_ediv_succ Y (c := R) (by omega)
  generalize hy : Y / R = y at *
  have a1 := lt_ediv_succ (N * 4503599627370496) (c := low) (by omega)
  have ge0 : 0 ≤ N * 4503599627370496 / low := Int.ediv_nonneg (by omega) (by omega)
  have ge1 : N * 4503599627370496 / low ≤ 18446744073709551615 := Int.ediv_le_of_le_mul (by omega) (by omega)
  generalize hQ : N * 4503599627370496 / low = Q at *
  have a2 := lt_ediv_succ Q (c := R) (by omega)
  have a3 := Int.ediv_le_self R ge0
  have a4 : 0 ≤ Q / R := Int.ediv_nonneg ge0 (by omega)
  have b1 := ediv_le_ (N * 4503599627370496) hp
  have he0 : 0 ≤ N * 4503599627370496 / high := Int.ediv_nonneg (by omega) (by omega)
  have he1 : N * 4503599627370496 / high ≤ 18446744073709551615 := Int.ediv_le_of_le_mul hp (by omega)
  generalize hT : N * 4503599627370496 / high = T at *
  have b2 := ediv_le_ T (c := R) (by omega)
  have b3 := Int.ediv_le_self R he0
  have b4 : 0 ≤ T / R := Int.ediv_nonneg he0 (by omega)
  have hQlt : Q < 1000000000000000000 := by
    rcases Int.lt_or_le Q 1000000000000000000 with h | h
    · exact h
    · have := ediv_le_ (N * 4503599627370496) (c := low) (by omega)
      rw [hQ] at this
      have := Int.mul_le_mul h l0 (by omega) (by omega)
      omega
  generalize hm : Q / R = m at *
  generalize hl : T / R = l at *
  have up : y ≤ (m + 1) + (m + 1) / 1024 := by
    -- y R F 2^20 1024 < (m+1) R 1025 2^20 F
    have c1 : y * R * FM M ≤ N * 4294967296 := Int.le_trans (Int.mul_le_mul_of_nonneg_right y3 (by omega)) y1
    have c2 : (Q + 1) * low ≤ (m + 1) * R * low := Int.mul_le_mul_of_nonneg_right (by omega) (by omega)
    have c3 : N * 4503599627370496 < (m + 1) * R * low := by omega
    have c4 := Int.mul_le_mul_of_nonneg_left klo (Int.mul_nonneg (show 0 ≤ m + 1 by omega) (show 0 ≤ R by omega))
    have c5 : (m + 1) * R * (1024 * low) = 1024 * ((m + 1) * R * low) := by grind
    have c6 : (m + 1) * R * (1074790400 * FM M) = 1048576 * (1025 * (m + 1) * (R * FM M)) := by grind
    have c7 : 1024 * y * (R * FM M) = 1024 * (y * R * FM M) := by grind
    have c8 : 1024 * y * (R * FM M) < 1025 * (m + 1) * (R * FM M) := by omega
    have c9 := Int.lt_of_mul_lt_mul_right c8 (Int.mul_nonneg (show 0 ≤ R by omega) (show 0 ≤ FM M by omega))
    omega
  have dn : l ≤ y := by
    have c1 : l * R * high ≤ N * 4503599627370496 := Int.le_trans (Int.mul_le_mul_of_nonneg_right b2 (by omega)) b1
    have c2 := Int.mul_le_mul_of_nonneg_left khi (Int.mul_nonneg b4 (show 0 ≤ R by omega))
    have c3 : l * R * (1048576 * FM M) = 1048576 * (l * R * FM M) := by grind
    have c4 : (Y + 1) * FM M ≤ (y + 1) * R * FM M := Int.mul_le_mul_of_nonneg_right (by omega) (by omega)
    have c5 : l * (R * FM M) < (y + 1) * (R * FM M) := by
      rw [show l * (R * FM M) = l * R * FM M by grind, show (y + 1) * (R * FM M) = (y + 1) * R * FM M by grind]
      omega
    have c6 := Int.lt_of_mul_lt_mul_right c5 (Int.mul_nonneg (show 0 ≤ R by omega) (show 0 ≤ FM M by omega))
    omega
  have Yle : Y ≤ N * 4294967296 := by rw [← hY]; exact Int.ediv_le_self _ (by omega)
  have Ynn : 0 ≤ Y := by rw [← hY]; exact Int.ediv_nonneg (by omega) (by omega)
  have y0 : 0 ≤ y := by rw [← hy]; exact Int.ediv_nonneg Ynn (by omega)
  simp only [(eqn_Rate_t _ _ _).1, hb, out_ev, un_i_ev, un_nil_ev, m1, ref_MulDiv_t uS u52 ul, ref_MulDiv_t uS u52 uh, g1, g2, chk_pos (show R ≠ 0 by omega)]
  rw [quoI_u (a := Q) ⟨ge0, by omega⟩ (by omega), quoI_u (a := T) ⟨he0, by omega⟩ (by omega), hm, hl, hRI]
  rw [show addI .u64 m 1 = m + 1 by rw [addI_u]; omega, quoI_u (a := m + 1) ⟨by omega, by omega⟩ (by decide), show addI .u64 (m + 1) ((m + 1) / 1024) = m + 1 + (m + 1) / 1024 by rw [addI_u]; omega, show addI .u64 (m + 1 + (m + 1) / 1024) 1 = m + 1 + (m + 1) / 1024 + 1 by rw [addI_u]; omega]
  rw [br_pos (by omega), quoI_u (a := l) ⟨b4, by omega⟩ (by decide)]
  have hmin : 0 ≤ minI 1 l ∧ minI 1 l ≤ 1 ∧ minI 1 l ≤ l - l / 1024 := by unfold minI; split <;> omega
  have ylt : y < 18446744073709551615 := by
    have := up
    omega
  rw [show addI .u64 y 1 = y + 1 by rw [addI_u]; omega, show subI .u64 l (l / 1024) = l - l / 1024 by rw [subI_u]; omega, show subI .u64 (l - l / 1024) (minI 1 l) = l - l / 1024 - minI 1 l by rw [subI_u]; omega]
  rw [decide_eq_true (by omega)]
end Go.Sx.T
