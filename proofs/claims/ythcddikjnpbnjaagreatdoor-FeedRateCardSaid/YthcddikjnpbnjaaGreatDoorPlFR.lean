import Derived.Test.YthcddikjnpbnjaaGreatDoorYFRSpec
import Derived.Test.YthcddikjnpbnjaaGreatDoorPlFa
import Derived.Test.YthcddikjnpbnjaaGreatDoorPlSt
import Derived.Test.YthcddikjnpbnjaaGreatDoorPlDiv
set_option linter.all false
namespace Go.Sx.T
open Go Go.Sx
theorem GI.app {first top : Int} {O : Int → Prop} {val : Int → Int} {k v : List Int} (h : GI first top O val k v) (hO : ∀ x, O x → 0 ≤ x) {o : Int} (m : Int) (h1 : top < o) (h2 : o < 245) : GI first o (fun x => O x ∨ x = o) (fun x => if x = o then m else val x) (k ++ [ky first o]) (v ++ [m]) := by
  have h3 := hO _ h.top
  have hn : ky first o ∉ k := fun x => by
    obtain ⟨a, ha, e⟩ := (h.mem _).1 x
    have := h.rng a ha
    have := hO a ha
    have := ky_inj e (by omega) (by omega)
    omega
  refine ⟨by simp [h.len], nodup_app h.nd hn, fun n => ?_, fun a ha => ?_, fun a ha => ?_, .inr rfl⟩
  · rw [List.mem_append, h.mem]
    constructor
    · rintro (⟨a, ha, rfl⟩ | hx)
      · exact ⟨a, .inl ha, rfl⟩
      · exact ⟨o, .inr rfl, by simpa using hx⟩
    · rintro ⟨a, ha | rfl, rfl⟩
      · exact .inl ⟨a, ha, rfl⟩
      · exact .inr (by simp)
  · rw [mget_app h.len hn]
    rcases ha with ha | rfl
    · have := h.rng a ha
      have := hO a ha
      rw [if_neg (fun e => by have := ky_inj e (by omega) (by omega); omega), if_neg (by omega), h.get a ha]
    · rw [if_pos rfl, if_pos rfl]
  · rcases ha with ha | rfl
    · have := h.rng a ha; have := hO a ha; omega
    · omega
/-- Numbers in order from nought on: so many, at that time, so many bytes since. -/
structure RI (i now B S : Int) (F : FS) : Prop where
  gi : ∃ tm, GI 0 (i - 1) (fun o => 0 ≤ o ∧ o ≤ i - 1) tm F.gk F.gv
  lk : F.lk = []
  lv : F.lv = []
  fo : FO 0 (i - 1) F
  any : F.any = true
  ct : F.ct = 0
  ev : F.ev = false
  now : F.now = now
  bs : F.bs = B
  si : F.si = S
  tb : 1 ≤ i ∧ i ≤ 100
theorem ky0 {i : Int} (h0 : 0 ≤ i) (h1 : i < 1000) : ky 0 i = i := by unfold ky; omega
theorem RI.look {i now B S : Int} {F : FS} (hN : RI i now B S F) : feed_look F.gk F.gv F.lk F.lv F.cl F.r F.any F.now F.fs F.nw F.ct F.ev F.ea F.en F.bs F.si = some F.ls := by
  obtain ⟨⟨tm, hg⟩, hlk, hlv, hfo, hany, hct, hev, hnow, hbs, hsi, htb⟩ := hN
  exact look_none hfo fun o p0 p1 => .inl (by
    unfold gO
    rw [mhas_iff, hg.has (by omega) (by omega)]
    exact ⟨by omega, p1⟩)
theorem bytes_z {z : Int} (h0 : 0 ≤ z) (h1 : z < 1400) : wrapI .u64 (min (max z 0) 65535) = z := by rw [wrapI_u]; omega
theorem RI.put {i now B S t z : Int} {F : FS} (hN : RI i now B S F) (hi : i < 99) (ht : now ≤ t) (ht1 : t ≤ 4611686018427387904) (hz : 0 ≤ z) (hz1 : z < 1400) (hB : 0 ≤ B) (hB1 : B < 1000000) :
    ∃ F', feed_Put F.gk F.gv F.lk F.lv F.cl F.r F.any F.now F.fs F.nw F.ct F.ev F.ea F.en F.bs F.si t i z = some (F'.ls ++ [.b true]) ∧ RI (i + 1) t (B + z) S F' := by
  obtain ⟨⟨tm, hg⟩, hlk, hlv, hfo, hany, hct, hev, hnow, hbs, hsi, htb⟩ := hN
  have hn : ky 0 i ∉ F.gk := fun x => by
    have := (hg.has (by omega) (by omega)).1 x
    omega
  have hd : dif F.nw (ky 0 i) = -1 := by rw [hfo.nw, dif_ky (by omega) (by omega)]; omega
  have hoff : offS F (ky 0 i) = false := by
    unfold offS
    rw [mhas_f hn, hlk, hlv, hd]
    simp [mget]
  have hnw : nowS F t = t := by unfold nowS; rw [hnow]; omega
  have hbytes : addI .u64 F.bs (wrapI .u64 (min (max z 0) 65535)) = B + z := by
    rw [bytes_z hz hz1, addI_u, hbs]; omega
  have old0 : ∀ n ∈ F.gk ++ [ky 0 i], oldP (ky 0 i) n = false := fun n hn => by
    rcases List.mem_append.1 hn with hn | hn
    · obtain ⟨a, ha, rfl⟩ := (hg.mem n).1 hn
      exact oldP_f (by omega) (by omega)
    · obtain rfl : n = ky 0 i := by simpa using hn
      exact oldP_f (by omega) (by omega)
  obtain ⟨K, hK⟩ : ∃ K, K = takeS F t (ky 0 i) z := ⟨_, rfl⟩
  have hKN : RI (i + 1) t (B + z) S K := by
    have base : takeS F t (ky 0 i) z = { F with now := t, gk := mfK (oldP (ky 0 i)) (F.gk ++ [ky 0 i]), gv := mfV (oldP (ky 0 i)) (F.gk ++ [ky 0 i]) (F.gv ++ [t]), lk := [], lv := [], nw := ky 0 i, bs := B + z } := by
      unfold takeS
      simp only [hany, if_true, hd, hnw, hbytes, mputK_new hn, mputV_new hn, hlk, hlv]
      rw [if_pos (by omega)]
      rfl
    rw [mfK_congr (d' := fun _ => false) old0, mfV_congr (d' := fun _ => false) old0, mfK_all, mfV_all (by simp [hg.len])] at base
    rw [hK, base]
    refine ⟨⟨fun x => if x = i then t else tm x, ?_⟩, rfl, rfl, ⟨hfo.fs, by simp only; rw [show i + 1 - 1 = i by omega], by omega, by omega⟩, hany, hct, hev, rfl, rfl, hsi, by omega⟩
    rw [show i + 1 - 1 = i by omega]
    refine (hg.app (fun x hx => hx.1) t (o := i) (by omega) (by omega)).congr (fun x => ?_) (fun x _ => rfl)
    constructor
    · rintro ⟨a, b⟩
      by_cases e : x = i
      · exact .inr e
      · exact .inl ⟨a, by omega⟩
    · rintro (⟨a, b⟩ | rfl)
      · exact ⟨a, by omega⟩
      · exact ⟨by omega, by omega⟩
  refine ⟨K, ?_, hKN⟩
  have := put_take F t z (n := ky 0 i) (ky_U 0 i) (by rw [ky_mod]; exact hoff) hg.nd (by rw [hlk]; exact List.nodup_nil) (K := K)
  rw [ky_mod, ← hK] at this
  have := this hKN.look
  rwa [ky0 (by omega) (by omega)] at this
theorem RI.first {t z : Int} (ht : 0 ≤ t) (ht1 : t ≤ 4611686018427387904) (hz : 0 ≤ z) (hz1 : z < 1400) : ∃ F', feed_Put [] [] [] [] [] 1000 false 0 0 0 0 false 0 0 0 0 t 0 z = some (F'.ls ++ [.b true]) ∧ RI 1 t z t F' := by
  obtain ⟨K, hK⟩ : ∃ K, K = takeS ⟨[], [], [], [], [], 1000, false, 0, 0, 0, 0, false, 0, 0, 0, 0⟩ t (ky 0 0) z := ⟨_, rfl⟩
  have hnw : nowS ⟨[], [], [], [], [], 1000, false, 0, 0, 0, 0, false, 0, 0, 0, 0⟩ t = t := by unfold nowS; simp only; omega
  have hbytes : addI .u64 0 (wrapI .u64 (min (max z 0) 65535)) = z := by rw [bytes_z hz hz1, addI_u]; omega
  have base : K = ⟨[ky 0 0], [t], [], [], [], 1000, true, t, ky 0 0, ky 0 0, 0, false, 0, 0, z, t⟩ := by
    rw [hK]
    unfold takeS
    simp only [Bool.false_eq_true, if_false, hnw, hbytes]
    rw [if_neg (by rw [dif_ky (by omega) (by omega)]; omega)]
    rfl
  have hKN : RI 1 t z t K := by
    rw [base]
    refine ⟨⟨fun _ => t, ⟨rfl, by simp, fun n => ?_, fun o ho => ?_, fun o ho => ?_, ?_⟩⟩, rfl, rfl, ⟨rfl, rfl, by omega, by omega⟩, rfl, rfl, rfl, rfl, rfl, rfl, by omega⟩
    · constructor
      · intro hx
        exact ⟨0, ⟨by omega, by omega⟩, by simpa using hx⟩
      · rintro ⟨o, ⟨a1, a2⟩, rfl⟩
        obtain rfl : o = 0 := by omega
        simp
    · obtain rfl : o = 0 := by omega
      simp [mget]
    · omega
    · omega
  refine ⟨K, ?_, hKN⟩
  have := put_take ⟨[], [], [], [], [], 1000, false, 0, 0, 0, 0, false, 0, 0, 0, 0⟩ t z (ky_U 0 0) (by rfl) List.nodup_nil List.nodup_nil (K := K)
  rw [ky_mod, ← hK] at this
  exact this hKN.look
/-- What stands ahead of a round. -/
def AR (i now B S : Int) (F : FS) : Prop :=
  (i = 0 ∧ now = 0 ∧ B = 0 ∧ S = 0 ∧ F = ⟨[], [], [], [], [], 1000, false, 0, 0, 0, 0, false, 0, 0, 0, 0⟩) ∨ (1 ≤ i ∧ RI i now B S F)
theorem ar_put {i now B S t z : Int} {F : FS} (h : AR i now B S F) (hi0 : 0 ≤ i) (hi : i < 40) (hn : 0 ≤ now) (ht : now ≤ t) (ht1 : t ≤ 4611686018427387904) (hz : 0 ≤ z) (hz1 : z < 1400) (hB : 0 ≤ B) (hB1 : B < 1000000) :
    ∃ F', feed_Put F.gk F.gv F.lk F.lv F.cl F.r F.any F.now F.fs F.nw F.ct F.ev F.ea F.en F.bs F.si t i z = some (F'.ls ++ [.b true]) ∧ RI (i + 1) t (B + z) (if i = 0 then t else S) F' := by
  rcases h with ⟨rfl, rfl, rfl, rfl, rfl⟩ | ⟨h1, h2⟩
  · obtain ⟨F', a, b⟩ := RI.first (t := t) (z := z) (by omega) ht1 hz hz1
    exact ⟨F', a, by rw [if_pos rfl]; simpa using b⟩
  · obtain ⟨F', a, b⟩ := h2.put (t := t) (z := z) (by omega) ht ht1 hz hz1 hB hB1
    exact ⟨F', a, by rw [if_neg (by omega)]; exact b⟩
theorem mdI_same {B t S : Int} (hB : 0 ≤ B) (hB1 : B < 1000000) (h0 : 0 < t - S) (h1 : t - S < 1000000000000) : fix_MulDiv (64 * B) 1000000 (t - S) = some [.i (mdI (64 * B) 1000000 (t - S))] ∧ ref_MulDiv (64 * B) 1000000 (t - S) = some [.i (mdI (64 * B) 1000000 (t - S))] :=
  ⟨fix_MulDiv_t (by unfold U; omega) (by unfold U; omega) (by unfold U; omega), ref_MulDiv_t (by unfold U; omega) (by unfold U; omega) (by unfold U; omega)⟩
theorem fr8 {sizes gaps : List Int} : ∀ (m n : Nat) (i now B S : Int) (F : FS), 0 ≤ i → i + m = 40 → AR i now B S F → 0 ≤ now → now ≤ i * 10007 → 0 ≤ B → B ≤ 1400 * i → 0 ≤ S → S ≤ now → m < n →
    ∃ F' : FS, F'.ct = 0 ∧ ∀ {α : Type} (kx : Nat → List Leaf → Option α) (kr : List Leaf → Option α), FeedRate_8_L kx kr n sizes gaps F.gk F.gv F.lk F.lv F.cl F.r F.any F.now F.fs F.nw F.ct F.ev F.ea F.en F.bs F.si i B S now = kx 0 ([.li sizes, .li gaps] ++ F'.ls)
  | 0, n, i, now, B, S, F, h0, h1, ha, hn0, hn1, hB0, hB1, hS0, hS1, hn => by
    obtain ⟨n, rfl⟩ : ∃ n', n = n' + 1 := ⟨n - 1, by omega⟩
    refine ⟨F, ?_, fun kx kr => ?_⟩
    · rcases ha with ⟨_, _, _, _, rfl⟩ | ⟨_, h⟩
      · rfl
      · exact h.ct
    · simp only [FeedRate_8_L, FeedRate_8_B, one_ev]
      by_cases c1 : i < Int.ofNat sizes.length
      · rw [br_pos c1]
        by_cases c2 : i < Int.ofNat gaps.length
        · rw [br_pos c2, br_neg (by omega)]
          simp only [decide_true, Bool.and_true, chk_t]
          rfl
        · rw [br_neg c2]
          simp only [decide_true, Bool.and_true, chk_t]
          rfl
      · rw [br_neg c1]
        simp only [decide_true, Bool.and_true, chk_t]
        rfl
  | m + 1, n, i, now, B, S, F, h0, h1, ha, hn0, hn1, hB0, hB1, hS0, hS1, hn => by
    obtain ⟨n, rfl⟩ : ∃ n', n = n' + 1 := ⟨n - 1, by omega⟩
    by_cases c1 : i < Int.ofNat sizes.length
    · by_cases c2 : i < Int.ofNat gaps.length
      · obtain ⟨G, hG0, hG1, eG⟩ := rem_N (m := 10000) (by decide) (by decide) (gaps.getD i.toNat 0)
        obtain ⟨Z, hZ0, hZ1, eZ⟩ := rem_N (m := 1400) (by decide) (by decide) (sizes.getD i.toNat 0)
        obtain ⟨t, ht⟩ : ∃ t, t = now + (1 + G) := ⟨_, rfl⟩
        obtain ⟨F1, p1, p2⟩ := ar_put (t := t) (z := Z) ha h0 (by omega) hn0 (by omega) (by omega) hZ0 hZ1 hB0 (by omega)
        obtain ⟨S1, hS1e⟩ : ∃ S1, S1 = if i = 0 then t else S := ⟨_, rfl⟩
        rw [← hS1e] at p2
        have hS1b : 0 ≤ S1 ∧ S1 ≤ t := by rw [hS1e]; split <;> omega
        have e1 : addI .i64 1 G = 1 + G := addI_i (by unfold I63; omega)
        have e2 : addI .i64 now (1 + G) = t := by rw [addI_i (by unfold I63; omega), ht]
        have e3 : wrapI .u64 i = i := by rw [wrapI_u]; omega
        have e4 : wrapI .u64 Z = Z := by rw [wrapI_u]; omega
        have e5 : addI .u64 B Z = B + Z := by rw [addI_u]; omega
        have e6 : remI .i64 i 5 = i % 5 := remI_u h0
        have e7 : addI .i64 i 1 = i + 1 := addI_i (by unfold I63; omega)
        obtain ⟨a1, a2, a3, a4, a5, a6, a7, a8, a9, a10, a11⟩ := p2
        by_cases c5 : i % 5 = 4
        · -- what came is told
          obtain ⟨u, hu⟩ : ∃ u, u = t + 7 := ⟨_, rfl⟩
          have f1 : addI .i64 t 7 = u := by rw [addI_i (by unfold I63; omega), hu]
          have f2 : min u 4611686018427387904 = u := by omega
          have f3 : max t u = u := by omega
          have f4 : mulI .u64 64 (B + Z) = 64 * (B + Z) := by rw [mulI_u]; omega
          have f5 : subI .i64 u S1 = u - S1 := subI_i (by unfold I63; omega)
          have f6 : max (u - S1) 1 = u - S1 := by omega
          have f7 : wrapI .u64 (u - S1) = u - S1 := by rw [wrapI_u]; omega
          obtain ⟨f8, f9⟩ := mdI_same (B := B + Z) (t := u) (S := S1) (by omega) (by omega) (by omega) (by omega)
          have g1 : min (0 : Int) 8 = 0 := by omega
          have g2 : condSl 0 Option.none (Option.some 0) = true := by decide
          have g3 : ival_Weight 0 = some [.i 5] := rfl
          have g4 : fix_Mul 0 5 = some [.i 0] := by rw [fix_Mul_s (by unfold U; omega) (by unfold U; omega)]; rfl
          obtain ⟨F', q1, q2⟩ := fr8 m n (i + 1) u 0 u { F1 with now := u, bs := 0, si := u } (by omega) (by omega) (.inr ⟨by omega, ⟨a1, a2, a3, ⟨a4.fs, a4.nw, a4.t0, a4.t1⟩, a5, a6, a7, rfl, rfl, rfl, a11⟩⟩) (by omega) (by omega) (by omega) (by omega) (by omega) (by omega) (by omega)
          refine ⟨F', q1, fun kx kr => ?_⟩
          rw [← q2 kx kr]
          simp only [FeedRate_8_L, FeedRate_8_B, one_ev]
          rw [br_pos c1, br_pos c2, br_pos (show i < 40 by omega), chk_pos ⟨h0, c2⟩, chk_pos ⟨h0, c2⟩, chk_pos ⟨h0, c1⟩, chk_pos ⟨h0, c1⟩]
          simp only [eG, eZ, e1, e2, e3, decide_true, Bool.and_true, chk_t, p1, FS.ls, List.cons_append, List.nil_append, out_ev, un_li_ev, un_lb_ev, un_b_ev, un_i_ev, un_nil_ev, e4, e5, e6, a5, a7, a8, a9, a10, Bool.not_false, br_t]
          by_cases c0 : i = 0
          · omega
          · rw [br_ne c0, br_eq c5]
            rw [if_neg c0] at hS1e
            subst hS1e
            simp only [f1, minI_eq, maxI_eq, f2, f3, f4, f5, f6, f7, f8, f9, g1, g2, g3, g4, out_ev, un_i_ev, un_nil_ev, chk_t, e7, bne_self_eq_false, br_f]
        · obtain ⟨F', q1, q2⟩ := fr8 m n (i + 1) t (B + Z) S1 F1 (by omega) (by omega) (.inr ⟨by omega, ⟨a1, a2, a3, a4, a5, a6, a7, a8, a9, a10, a11⟩⟩) (by omega) (by omega) (by omega) (by omega) (by omega) (by omega) (by omega)
          refine ⟨F', q1, fun kx kr => ?_⟩
          rw [← q2 kx kr]
          simp only [FeedRate_8_L, FeedRate_8_B, one_ev]
          rw [br_pos c1, br_pos c2, br_pos (show i < 40 by omega), chk_pos ⟨h0, c2⟩, chk_pos ⟨h0, c2⟩, chk_pos ⟨h0, c1⟩, chk_pos ⟨h0, c1⟩]
          simp only [eG, eZ, e1, e2, e3, decide_true, Bool.and_true, chk_t, p1, FS.ls, List.cons_append, List.nil_append, out_ev, un_li_ev, un_lb_ev, un_b_ev, un_i_ev, un_nil_ev, e4, e5, e6]
          by_cases c0 : i = 0
          · rw [br_eq c0, br_ne c5]
            rw [if_pos c0] at hS1e
            subst hS1e
            simp only [e7]
          · rw [br_ne c0, br_ne c5]
            rw [if_neg c0] at hS1e
            subst hS1e
            simp only [e7]
      · refine ⟨F, ?_, fun kx kr => ?_⟩
        · rcases ha with ⟨_, _, _, _, rfl⟩ | ⟨_, h⟩
          · rfl
          · exact h.ct
        · simp only [FeedRate_8_L, FeedRate_8_B, one_ev]
          rw [br_pos c1, br_neg c2]
          simp only [decide_true, Bool.and_true, chk_t]
          rfl
    · refine ⟨F, ?_, fun kx kr => ?_⟩
      · rcases ha with ⟨_, _, _, _, rfl⟩ | ⟨_, h⟩
        · rfl
        · exact h.ct
      · simp only [FeedRate_8_L, FeedRate_8_B, one_ev]
        rw [br_neg c1]
        simp only [decide_true, Bool.and_true, chk_t]
        rfl
theorem FeedRate_true (sizes gaps : List Int) : FeedRate sizes gaps = some [.b true] := by
  unfold FeedRate FeedRate_d
  have hnew : feed_New 1000 = some [.li [], .li [], .li [], .lb [], .li [], .i 1000, .b false, .i 0, .i 0, .i 0, .i 0, .b false, .i 0, .i 0, .i 0, .i 0] := by kernel_rfl
  obtain ⟨F, h1, h2⟩ := fr8 (sizes := sizes) (gaps := gaps) 40 top 0 0 0 0 ⟨[], [], [], [], [], 1000, false, 0, 0, 0, 0, false, 0, 0, 0, 0⟩ (by omega) (by omega) (.inl ⟨rfl, rfl, rfl, rfl, rfl⟩) (by omega) (by omega) (by omega) (by omega) (by omega) (by omega) (by unfold top; omega)
  simp only at h2
  simp only [one_ev, hnew, out_ev, un_li_ev, un_lb_ev, un_i_ev, un_b_ev, un_nil_ev, decide_true, Bool.and_true, chk_t]
  rw [h2]
  simp only [FS.ls, List.cons_append, List.nil_append, beq00, br_t, un_li_ev, un_lb_ev, un_i_ev, un_b_ev, un_nil_ev, decide_true, Bool.and_true, chk_t, feed_Lost, out_ev, h1, one_ev]
  rfl
end Go.Sx.T

