import Derived.Test.YthcddikjnpbnjaaGreatDoorYFNSpec
import Derived.Test.YthcddikjnpbnjaaGreatDoorPlFa
import Derived.Test.YthcddikjnpbnjaaGreatDoorPlIv
import Derived.Test.YthcddikjnpbnjaaGreatDoorPlDv
set_option linter.all false
namespace Go.Sx.T
open Go Go.Sx
theorem GI.app {first top : Int} {O : Int → Prop} {val : Int → Int} {k v : List Int} (h : GI first top O val k v) (hO : ∀ x, O x → 0 ≤ x) {o : Int} (m : Int) (h1 : top < o) (h2 : o < 245) : GI first o (fun x => O x ∨ x = o) (fun x => if x = o then m else val x) (k ++ [ky first o]) (v ++ [m]) := by
  have h3 := hO _ h.top
  have hn : ky first o ∉ k := fun x => by
    obtain ⟨a, ha, e⟩ := (h.mem _).1 x
    have := h.rng a ha
    have := hO a ha
    have := ky_inj e (by omega) (by omega)
    omega
  refine ⟨by simp [h.len], nodup_app h.nd hn, fun n => ?_, fun a ha => ?_, fun a ha => ?_, .inr rfl⟩
  · rw [List.mem_append, h.mem]
    constructor
    · rintro (⟨a, ha, rfl⟩ | hx)
      · exact ⟨a, .inl ha, rfl⟩
      · exact ⟨o, .inr rfl, by simpa using hx⟩
    · rintro ⟨a, ha | rfl, rfl⟩
      · exact .inl ⟨a, ha, rfl⟩
      · exact .inr (by simp)
  · rw [mget_app h.len hn]
    rcases ha with ha | rfl
    · have := h.rng a ha
      have := hO a ha
      rw [if_neg (fun e => by have := ky_inj e (by omega) (by omega); omega), if_neg (by omega), h.get a ha]
    · rw [if_pos rfl, if_pos rfl]
  · rcases ha with ha | rfl
    · have := h.rng a ha; have := hO a ha; omega
    · omega
/-- Numbers in order, two neighbours turned about here and there. -/
def OkS (σ : Int → Int) (n : Int) : Prop := ∀ j, 0 ≤ j → j < n → σ j = j ∨ (σ j = j + 1 ∧ j + 1 < n ∧ 1 ≤ j ∧ σ (j + 1) = j) ∨ (σ j = j - 1 ∧ 2 ≤ j ∧ σ (j - 1) = j)
def lstS (first : Int) (σ : Int → Int) (n : Int) : List Int := (List.range n.toNat).map fun j => ky first (σ (j : Nat))
theorem lstS_len (first : Int) (σ : Int → Int) (n : Int) : (lstS first σ n).length = n.toNat := by simp [lstS]
theorem lstS_get {first : Int} {σ : Int → Int} {n j : Int} (h0 : 0 ≤ j) (h1 : j < n) : (lstS first σ n).getD j.toNat 0 = ky first (σ j) := by
  unfold lstS
  rw [List.getD_eq_getElem?_getD, List.getElem?_map, List.getElem?_range (by omega)]
  simp only [Option.map_some, Option.getD_some]
  rw [show ((j.toNat : Nat) : Int) = j by omega]
def swS (σ : Int → Int) (i : Int) : Int → Int := fun j => if j = i then i + 1 else if j = i + 1 then i else σ j
theorem lstS_sw {first : Int} {σ : Int → Int} {n i : Int} (h0 : 0 ≤ i) (h1 : i + 1 < n) : ((lstS first σ n).set i.toNat (ky first (i + 1))).set (i + 1).toNat (ky first i) = lstS first (swS σ i) n := by
  apply List.ext_getElem
  · simp [lstS]
  · intro k hk1 hk2
    simp only [lstS, List.length_set, List.length_map, List.length_range] at hk1
    rw [List.getElem_set, List.getElem_set]
    simp only [lstS, List.getElem_map, List.getElem_range, swS]
    by_cases c1 : (i + 1).toNat = k
    · rw [if_pos c1, if_neg (by omega), if_pos (by omega)]
    · rw [if_neg c1]
      by_cases c2 : i.toNat = k
      · rw [if_pos c2, if_pos (by omega)]
      · rw [if_neg c2, if_neg (by omega), if_neg (by omega)]
theorem okS_sw {σ : Int → Int} {n i : Int} (h : OkS σ n) (hi : 1 ≤ i) (hn : i + 1 < n) (ht : ∀ j, i ≤ j → σ j = j) : OkS (swS σ i) n ∧ ∀ j, i + 2 ≤ j → swS σ i j = j := by
  refine ⟨fun j h0 h1 => ?_, fun j hj => by unfold swS; rw [if_neg (by omega), if_neg (by omega)]; exact ht j (by omega)⟩
  by_cases c1 : j = i
  · subst c1
    exact .inr (.inl ⟨by simp [swS], hn, hi, by simp [swS]⟩)
  · by_cases c2 : j = i + 1
    · subst c2
      refine .inr (.inr ⟨by simp [swS], by omega, ?_⟩)
      rw [show i + 1 - 1 = i by omega]
      simp [swS]
    · have e : swS σ i j = σ j := by unfold swS; rw [if_neg c1, if_neg c2]
      rw [e]
      rcases h j h0 h1 with hj | ⟨a, b, c, d⟩ | ⟨a, b, c⟩
      · exact .inl hj
      · have : j + 1 < i := by
          by_cases x : j + 1 < i
          · exact x
          · have := ht j
            by_cases y : j = i - 1
            · subst y
              rw [show i - 1 + 1 = i by omega, ht i (by omega)] at d
              omega
            · have := ht j (by omega); omega
        refine .inr (.inl ⟨a, b, c, ?_⟩)
        unfold swS
        rw [if_neg (by omega), if_neg (by omega)]; exact d
      · have : j < i := by
          by_cases x : j < i
          · exact x
          · have := ht j (by omega); omega
        refine .inr (.inr ⟨a, b, ?_⟩)
        unfold swS
        rw [if_neg (by omega), if_neg (by omega)]; exact c
structure NI (first t tp h : Int) (F : FS) : Prop where
  gi : ∃ tm, GI first tp (fun o => 0 ≤ o ∧ o ≤ tp ∧ o ≠ h) tm F.gk F.gv
  lk : F.lk = []
  lv : F.lv = []
  fo : FO first tp F
  any : F.any = true
  ct : F.ct = 0
  ev : F.ev = false
  now : F.now = 10 * (t - 1)
  bs : F.bs = 100 * t
  si : F.si = 0
  hh : h = -1 ∨ (0 < h ∧ h + 1 = tp)
  tb : 1 ≤ t ∧ t ≤ 100 ∧ tp < 200
theorem NI.look {first t tp h : Int} {F : FS} (hN : NI first t tp h F) : feed_look F.gk F.gv F.lk F.lv F.cl F.r F.any F.now F.fs F.nw F.ct F.ev F.ea F.en F.bs F.si = some F.ls := by
  obtain ⟨⟨tm, hg⟩, hlk, hlv, hfo, hany, hct, hev, hnow, hbs, hsi, hh, htb⟩ := hN
  have hgO : ∀ o, 0 ≤ o → o ≤ tp → (gO first F o = true ↔ o ≠ h) := fun o a b => by
    unfold gO
    rw [mhas_iff, hg.has (by omega) (by omega)]
    exact ⟨fun x => x.2.2, fun x => ⟨a, b, x⟩⟩
  have hl : ∀ o, lO first F o = false := fun o => by unfold lO; rw [hlk, hlv]; rfl
  rcases hh with rfl | ⟨h0, h1⟩
  · exact look_none hfo fun o p0 p1 => .inl ((hgO o (by omega) p1).2 (by omega))
  · refine look_few hfo h0 (by omega) ?_ (hl h) (fun o a b => (hgO o (by omega) b).2 (by omega)) (fun o a b => .inl ((hgO o (by omega) (by omega)).2 (by omega))) (by omega)
    cases e : gO first F h
    · rfl
    · exact absurd rfl ((hgO h (by omega) (by omega)).1 e)
theorem NI.again {first t tp h : Int} {F : FS} (hN : NI first t tp h F) {o : Int} (h0 : 0 ≤ o) (h1 : o ≤ tp) (h2 : o ≠ h) :
    feed_Put F.gk F.gv F.lk F.lv F.cl F.r F.any F.now F.fs F.nw F.ct F.ev F.ea F.en F.bs F.si (10 * (t - 1)) (ky first o) 100 = some (F.ls ++ [.b false]) := by
  obtain ⟨tm, hg⟩ := hN.gi
  have htb := hN.tb
  have hm : mhas F.gk (ky first o) = true := by rw [mhas_iff, hg.has (by omega) (by omega)]; exact ⟨h0, h1, h2⟩
  rw [put_off F _ _ (ky_U _ _) (by rw [ky_mod]; unfold offS; rw [hm]; rfl)]
  have : nowS F (10 * (t - 1)) = F.now := by unfold nowS; rw [hN.now]; omega
  rw [this]
/-- One more number, the newest or the one that lacked. -/
theorem NI.put {first t tp h o tp' h' : Int} {F : FS} (hN : NI first t tp h F) (ht : t < 100) (ho : o ≤ tp + 2) (hc : (h = -1 ∧ o = tp + 1 ∧ tp' = o ∧ h' = -1) ∨ (h = -1 ∧ 0 ≤ tp ∧ o = tp + 2 ∧ tp' = o ∧ h' = tp + 1) ∨ (0 < h ∧ o = h ∧ tp' = tp ∧ h' = -1)) (hb : tp' < 200) :
    ∃ F', feed_Put F.gk F.gv F.lk F.lv F.cl F.r F.any F.now F.fs F.nw F.ct F.ev F.ea F.en F.bs F.si (10 * t) (ky first o) 100 = some (F'.ls ++ [.b true]) ∧ NI first (t + 1) tp' h' F' := by
  obtain ⟨⟨tm, hg⟩, hlk, hlv, hfo, hany, hct, hev, hnow, hbs, hsi, hh, htb⟩ := hN
  have ht0 := hfo.t0
  have hO : ¬ (0 ≤ o ∧ o ≤ tp ∧ o ≠ h) := by omega
  have hn : ky first o ∉ F.gk := fun x => hO ((hg.has (by omega) (by omega)).1 x)
  have hd : dif F.nw (ky first o) = tp - o := by rw [hfo.nw, dif_ky (by omega) (by omega)]
  have hoff : offS F (ky first o) = false := by
    unfold offS
    rw [mhas_f hn, hlk, hlv, hd, decide_eq_false (by omega)]
    simp [mget]
  have hnw : nowS F (10 * t) = 10 * t := by unfold nowS; rw [hnow]; omega
  have hbytes : addI .u64 F.bs (wrapI .u64 (min (max 100 0) 65535)) = 100 * (t + 1) := by
    rw [show min (max (100 : Int) 0) 65535 = 100 by decide, show wrapI .u64 100 = 100 by decide, addI_u, hbs]; omega
  have old0 : ∀ n ∈ F.gk ++ [ky first o], tp < o → oldP (ky first o) n = false := fun n hn hlt => by
    rcases List.mem_append.1 hn with hn | hn
    · obtain ⟨a, ha, rfl⟩ := (hg.mem n).1 hn
      have := hg.rng a ha
      exact oldP_f (by omega) (by omega)
    · obtain rfl : n = ky first o := by simpa using hn
      exact oldP_f (by omega) (by omega)
  obtain ⟨K, hK⟩ : ∃ K, K = takeS F (10 * t) (ky first o) 100 := ⟨_, rfl⟩
  have hKN : NI first (t + 1) tp' h' K := by
    have base : takeS F (10 * t) (ky first o) 100 = if tp - o < 0 then { F with now := 10 * t, gk := mfK (oldP (ky first o)) (F.gk ++ [ky first o]), gv := mfV (oldP (ky first o)) (F.gk ++ [ky first o]) (F.gv ++ [10 * t]), lk := [], lv := [], nw := ky first o, bs := 100 * (t + 1) } else { F with now := 10 * t, gk := F.gk ++ [ky first o], gv := F.gv ++ [10 * t], bs := 100 * (t + 1) } := by
      unfold takeS
      simp only [hany, if_true, hd, hnw, hbytes, mputK_new hn, mputV_new hn, hlk, hlv]
      rfl
    rcases hc with ⟨rfl, rfl, rfl, rfl⟩ | ⟨rfl, hp, rfl, rfl, rfl⟩ | ⟨hp, rfl, rfl, rfl⟩
    · rw [if_pos (by omega), mfK_congr (d' := fun _ => false) (fun n hn => old0 n hn (by omega)), mfV_congr (d' := fun _ => false) (fun n hn => old0 n hn (by omega)), mfK_all, mfV_all (by simp [hg.len])] at base
      rw [hK, base]
      refine ⟨⟨_, (hg.app (fun x hx => hx.1) (10 * t) (o := tp + 1) (by omega) (by omega)).congr (fun x => ?_) (fun x _ => rfl)⟩, rfl, rfl, ⟨hfo.fs, rfl, by omega, by omega⟩, hany, hct, hev, by simp only; omega, rfl, hsi, .inl rfl, by omega⟩
      constructor
      · rintro ⟨a, b, c⟩
        by_cases e : x = tp + 1
        · exact .inr e
        · exact .inl ⟨a, by omega, c⟩
      · rintro (⟨a, b, c⟩ | rfl)
        · exact ⟨a, by omega, c⟩
        · exact ⟨by omega, by omega, by omega⟩
    · rw [if_pos (by omega), mfK_congr (d' := fun _ => false) (fun n hn => old0 n hn (by omega)), mfV_congr (d' := fun _ => false) (fun n hn => old0 n hn (by omega)), mfK_all, mfV_all (by simp [hg.len])] at base
      rw [hK, base]
      refine ⟨⟨_, (hg.app (fun x hx => hx.1) (10 * t) (o := tp + 2) (by omega) (by omega)).congr (fun x => ?_) (fun x _ => rfl)⟩, rfl, rfl, ⟨hfo.fs, rfl, by omega, by omega⟩, hany, hct, hev, by simp only; omega, rfl, hsi, .inr (by omega), by omega⟩
      constructor
      · rintro ⟨a, b, c⟩
        by_cases e : x = tp + 2
        · exact .inr e
        · exact .inl ⟨a, by omega, by omega⟩
      · rintro (⟨a, b, c⟩ | rfl)
        · exact ⟨a, by omega, by omega⟩
        · exact ⟨by omega, by omega, by omega⟩
    · rw [if_neg (by omega)] at base
      rw [hK, base]
      refine ⟨⟨_, (hg.put_in (10 * t) hO (by omega) (by omega)).congr (fun x => ?_) (fun x _ => rfl)⟩, hlk, hlv, ⟨hfo.fs, hfo.nw, hfo.t0, hfo.t1⟩, hany, hct, hev, by simp only; omega, rfl, hsi, .inl rfl, by omega⟩
      constructor
      · rintro ⟨a, b, c⟩
        by_cases e : x = o
        · exact .inr e
        · exact .inl ⟨a, b, e⟩
      · rintro (⟨a, b, c⟩ | rfl)
        · exact ⟨a, by omega, by omega⟩
        · exact ⟨by omega, by omega, by omega⟩
  have hlook := hKN.look
  refine ⟨K, ?_, hKN⟩
  have := put_take F (10 * t) 100 (ky_U first o) (by rw [ky_mod]; exact hoff) hg.nd (by rw [hlk]; exact List.nodup_nil) (K := K)
  rw [ky_mod, ← hK] at this
  exact this hlook
theorem NI.first (first : Int) : ∃ F', feed_Put [] [] [] [] [] 1000 false 0 0 0 0 false 0 0 0 0 0 (ky first 0) 100 = some (F'.ls ++ [.b true]) ∧ NI first 1 0 (-1) F' := by
  obtain ⟨K, hK⟩ : ∃ K, K = takeS ⟨[], [], [], [], [], 1000, false, 0, 0, 0, 0, false, 0, 0, 0, 0⟩ 0 (ky first 0) 100 := ⟨_, rfl⟩
  have base : K = ⟨[ky first 0], [0], [], [], [], 1000, true, 0, ky first 0, ky first 0, 0, false, 0, 0, 100, 0⟩ := by
    rw [hK]
    unfold takeS
    simp only [Bool.false_eq_true, if_false]
    rw [if_neg (by rw [dif_ky (by omega) (by omega)]; omega)]
    rfl
  have hKN : NI first 1 0 (-1) K := by
    rw [base]
    refine ⟨⟨fun _ => 0, ⟨rfl, by simp, fun n => ?_, fun o ho => ?_, fun o ho => ?_, ?_⟩⟩, rfl, rfl, ⟨rfl, rfl, by omega, by omega⟩, rfl, rfl, rfl, rfl, rfl, rfl, .inl rfl, by omega⟩
    · constructor
      · intro hx
        exact ⟨0, ⟨by omega, by omega, by omega⟩, by simpa using hx⟩
      · rintro ⟨o, ⟨a1, a2, _⟩, rfl⟩
        obtain rfl : o = 0 := by omega
        simp
    · obtain rfl : o = 0 := by omega
      simp [mget]
    · omega
    · omega
  refine ⟨K, ?_, hKN⟩
  have := put_take ⟨[], [], [], [], [], 1000, false, 0, 0, 0, 0, false, 0, 0, 0, 0⟩ 0 100 (ky_U first 0) (by rfl) List.nodup_nil List.nodup_nil (K := K)
  rw [ky_mod, ← hK] at this
  exact this hKN.look
theorem fn8 {first N : Int} (hu : U first) (hN : N ≤ 60) {α : Type} (kx : Nat → List Leaf → Option α) (kr : List Leaf → Option α) (sw : List Bool) (F : FS) : ∀ (m n : Nat) (i : Int), 0 ≤ i → i + m = N → m < n →
    FeedNone_8_L kx kr n sw (lstS first id i) F.gk F.gv F.lk F.lv F.cl F.r F.any F.now F.fs F.nw F.ct F.ev F.ea F.en F.bs F.si i first N = kx 0 ([.lb sw, .li (lstS first id N)] ++ F.ls ++ [.i N])
  | 0, n, i, h0, h1, hn => by
    obtain ⟨n, rfl⟩ : ∃ n', n = n' + 1 := ⟨n - 1, by omega⟩
    obtain rfl : i = N := by omega
    simp only [FeedNone_8_L, FeedNone_8_B]
    rw [br_neg (by omega)]
    simp only [decide_true, Bool.and_true, chk_t]
    rfl
  | m + 1, n, i, h0, h1, hn => by
    obtain ⟨n, rfl⟩ : ∃ n', n = n' + 1 := ⟨n - 1, by omega⟩
    have ih := fn8 hu hN kx kr sw F m n (i + 1) (by omega) (by omega) (by omega)
    have e1 : addI .i64 i 1 = i + 1 := addI_i (by unfold I63; omega)
    have hl := lstS_len first id i
    have hs : lstS first id (i + 1) = lstS first id i ++ [ky first i] := by
      unfold lstS
      rw [show (i + 1).toNat = i.toNat + 1 by omega, List.range_succ, List.map_append]
      simp only [List.map_cons, List.map_nil, id]
      rw [show ((i.toNat : Nat) : Int) = i by omega]
    have room : ((Int.ofNat (lstS first id i).length + (↑(1 : Nat) : Int)) * (↑(nat_lit 8) : Int) ≤ (140737488355328 : Int) ∧ Int.ofNat (lstS first id i).length + (↑(1 : Nat) : Int) ≤ (4611686018427387904 : Int)) := by
      simp only [Int.ofNat_eq_natCast, hl]; constructor <;> omega
    have grown : decide (Int.ofNat (lstS first id i).length + (↑(1 : Nat) : Int) = Int.ofNat (List.length (lstS first id i ++ [ky first i]))) = true := by simp
    simp only [FeedNone_8_L, FeedNone_8_B]
    rw [br_pos (by omega), rstep_t _ hu, show (first + i) % 281474976710656 = ky first i from rfl]
    simp only [out_ev, un_i_ev, un_nil_ev, one_ev, e1, decide_true, Bool.and_true, chk_t, room, and_self, grown]
    rw [← hs]
    exact ih
theorem fn12 {first N : Int} (hN : 1 ≤ N ∧ N ≤ 60) (sw : List Bool) (F : FS) : ∀ (m n : Nat) (i : Int) (σ : Int → Int), 1 ≤ i → i + m = N + 2 → OkS σ N → (∀ j, i ≤ j → σ j = j) → m < n →
    ∃ σ', OkS σ' N ∧ ∀ {α : Type} (kx : Nat → List Leaf → Option α) (kr : List Leaf → Option α), FeedNone_12_L kx kr n sw (lstS first σ N) F.gk F.gv F.lk F.lv F.cl F.r F.any F.now F.fs F.nw F.ct F.ev F.ea F.en F.bs F.si i N = kx 2 ([.lb sw, .li (lstS first σ' N)] ++ F.ls ++ [.i N]) := by
  intro m
  induction m using Nat.strongRecOn with
  | _ m ih =>
    intro n i σ h0 h1 hok ht hn
    obtain ⟨n, rfl⟩ : ∃ n', n = n' + 1 := ⟨n - 1, by omega⟩
    have hl : ∀ σ, Int.ofNat (lstS first σ N).length = N := fun σ => by rw [lstS_len]; simp only [Int.ofNat_eq_natCast]; omega
    by_cases c1 : i + 1 < N
    · have e1 : addI .i64 i 1 = i + 1 := addI_i (by unfold I63; omega)
      have e2 : addI .i64 i 2 = i + 2 := addI_i (by unfold I63; omega)
      by_cases c2 : i < Int.ofNat sw.length
      · rcases hb : sw.getD i.toNat false
        · obtain ⟨σ', g1, g2⟩ := ih (m - 2) (by omega) n (i + 2) σ (by omega) (by omega) hok (fun j hj => ht j (by omega)) (by omega)
          refine ⟨σ', g1, fun kx kr => ?_⟩
          simp only [FeedNone_12_L, FeedNone_12_B, one_ev, e1]
          rw [br_pos c1, br_pos c2, chk_pos ⟨by omega, c2⟩, chk_pos ⟨by omega, c2⟩, hb]
          simp only [br_f, e2, decide_true, Bool.and_true, chk_t]
          exact g2 kx kr
        · obtain ⟨k1, k2⟩ := okS_sw hok h0 c1 ht
          obtain ⟨σ', g1, g2⟩ := ih (m - 2) (by omega) n (i + 2) (swS σ i) (by omega) (by omega) k1 k2 (by omega)
          refine ⟨σ', g1, fun kx kr => ?_⟩
          have d1 : (lstS first σ N).getD (i + 1).toNat 0 = ky first (i + 1) := by rw [lstS_get (by omega) c1, ht (i + 1) (by omega)]
          have d2 : (lstS first σ N).getD i.toNat 0 = ky first i := by rw [lstS_get (by omega) (by omega), ht i (by omega)]
          simp only [FeedNone_12_L, FeedNone_12_B, one_ev, e1]
          rw [br_pos c1, br_pos c2, chk_pos ⟨by omega, c2⟩, chk_pos ⟨by omega, c2⟩, hb]
          simp only [br_t, e2, d1, d2, lstS_sw (show 0 ≤ i by omega) c1, hl, decide_true, Bool.and_true, chk_t]
          rw [chk_pos (show 0 ≤ i + 1 ∧ i + 1 < N by omega), chk_pos (show 0 ≤ i + 1 ∧ i + 1 < N by omega), chk_pos (show 0 ≤ i ∧ i < N by omega), chk_pos (show 0 ≤ i ∧ i < N by omega), chk_pos (show 0 ≤ i ∧ i < N by omega), chk_pos (show 0 ≤ i ∧ i < N by omega), chk_pos (show 0 ≤ i + 1 ∧ i + 1 < N by omega), chk_pos (show 0 ≤ i + 1 ∧ i + 1 < N by omega)]
          exact g2 kx kr
      · refine ⟨σ, hok, fun kx kr => ?_⟩
        simp only [FeedNone_12_L, FeedNone_12_B, one_ev, e1]
        rw [br_pos c1, br_neg c2]
        simp only [decide_true, Bool.and_true, chk_t]
        rfl
    · refine ⟨σ, hok, fun kx kr => ?_⟩
      have e1 : addI .i64 i 1 = i + 1 := addI_i (by unfold I63; omega)
      simp only [FeedNone_12_L, FeedNone_12_B, one_ev, e1]
      rw [br_neg c1]
      simp only [decide_true, Bool.and_true, chk_t]
      rfl
/-- What stands ahead of a round: all below t, but for one that was turned about. -/
def Ahead (first : Int) (σ : Int → Int) (t : Int) (F : FS) : Prop :=
  (t = 0 ∧ F = ⟨[], [], [], [], [], 1000, false, 0, 0, 0, 0, false, 0, 0, 0, 0⟩) ∨
  (1 ≤ t ∧ σ (t - 1) ≠ t ∧ NI first t (t - 1) (-1) F) ∨ (2 ≤ t ∧ σ (t - 1) = t ∧ NI first t t (t - 1) F)
theorem ahead_step {first N t : Int} {σ : Int → Int} {F : FS} (hok : OkS σ N) (hN : N ≤ 60) (h : Ahead first σ t F) (ht : t < N) (h0 : 0 ≤ t) :
    ∃ F', feed_Put F.gk F.gv F.lk F.lv F.cl F.r F.any F.now F.fs F.nw F.ct F.ev F.ea F.en F.bs F.si (10 * t) (ky first (σ t)) 100 = some (F'.ls ++ [.b true]) ∧ feed_Put F'.gk F'.gv F'.lk F'.lv F'.cl F'.r F'.any F'.now F'.fs F'.nw F'.ct F'.ev F'.ea F'.en F'.bs F'.si (10 * t) (ky first (σ t)) 100 = some (F'.ls ++ [.b false]) ∧ Ahead first σ (t + 1) F' := by
  have key : ∀ {tp h o : Int} {F' : FS}, NI first (t + 1) tp h F' → 0 ≤ o → o ≤ tp → o ≠ h → feed_Put F'.gk F'.gv F'.lk F'.lv F'.cl F'.r F'.any F'.now F'.fs F'.nw F'.ct F'.ev F'.ea F'.en F'.bs F'.si (10 * t) (ky first o) 100 = some (F'.ls ++ [.b false]) := fun hn a b c => by
    have := hn.again a b c
    rw [show t + 1 - 1 = t by omega] at this
    exact this
  have hs := hok t h0 ht
  rcases h with ⟨rfl, rfl⟩ | ⟨h1, h2, h3⟩ | ⟨h1, h2, h3⟩
  · have e : σ 0 = 0 := by omega
    obtain ⟨F', a, b⟩ := NI.first first
    rw [e]
    exact ⟨F', a, key b (by omega) (by omega) (by omega), .inr (.inl ⟨by omega, by rw [show (0 : Int) + 1 - 1 = 0 by omega]; omega, b⟩)⟩
  · have h4 := hok (t - 1) (by omega) (by omega)
    rw [show t - 1 + 1 = t by omega] at h4
    rcases hs with e | ⟨e, e2, e3, e4⟩ | ⟨e, e2, e3⟩
    · obtain ⟨F', a, b⟩ := h3.put (o := t) (tp' := t) (h' := -1) (by omega) (by omega) (.inl ⟨rfl, by omega, rfl, rfl⟩) (by omega)
      rw [e]
      exact ⟨F', a, key b (by omega) (by omega) (by omega), .inr (.inl ⟨by omega, by rw [show t + 1 - 1 = t by omega, e]; omega, by rw [show t + 1 - 1 = t by omega]; exact b⟩)⟩
    · obtain ⟨F', a, b⟩ := h3.put (o := t + 1) (tp' := t + 1) (h' := t) (by omega) (by omega) (.inr (.inl ⟨rfl, by omega, by omega, rfl, by omega⟩)) (by omega)
      rw [e]
      exact ⟨F', a, key b (by omega) (by omega) (by omega), .inr (.inr ⟨by omega, by rw [show t + 1 - 1 = t by omega, e], by rw [show t + 1 - 1 = t by omega]; exact b⟩)⟩
    · omega
  · have h4 := hok (t - 1) (by omega) (by omega)
    rw [show t - 1 + 1 = t by omega] at h4
    have e : σ t = t - 1 := by omega
    obtain ⟨F', a, b⟩ := h3.put (o := t - 1) (tp' := t) (h' := -1) (by omega) (by omega) (.inr (.inr ⟨by omega, rfl, rfl, rfl⟩)) (by omega)
    rw [e]
    exact ⟨F', a, key b (by omega) (by omega) (by omega), .inr (.inl ⟨by omega, by rw [show t + 1 - 1 = t by omega, e]; omega, by rw [show t + 1 - 1 = t by omega]; exact b⟩)⟩
theorem fn17 {first N : Int} (hN : N ≤ 60) {σ : Int → Int} (hok : OkS σ N) (sw : List Bool) : ∀ (m n : Nat) (t : Int) (F : FS), 0 ≤ t → t + m = N → Ahead first σ t F → m < n →
    ∃ F', Ahead first σ N F' ∧ ∀ {α : Type} (kx : Nat → List Leaf → Option α) (kr : List Leaf → Option α), FeedNone_17_L kx kr n sw (lstS first σ N) F.gk F.gv F.lk F.lv F.cl F.r F.any F.now F.fs F.nw F.ct F.ev F.ea F.en F.bs F.si t N N = kx 4 ([.lb sw] ++ F'.ls ++ [.i N])
  | 0, n, t, F, h0, h1, ha, hn => by
    obtain ⟨n, rfl⟩ : ∃ n', n = n' + 1 := ⟨n - 1, by omega⟩
    obtain rfl : t = N := by omega
    refine ⟨F, ha, fun kx kr => ?_⟩
    simp only [FeedNone_17_L, FeedNone_17_B]
    rw [br_neg (by omega)]
    simp only [decide_true, Bool.and_true, chk_t]
    rfl
  | m + 1, n, t, F, h0, h1, ha, hn => by
    obtain ⟨n, rfl⟩ : ∃ n', n = n' + 1 := ⟨n - 1, by omega⟩
    obtain ⟨F1, p1, p2, p3⟩ := ahead_step hok hN ha (by omega) h0
    obtain ⟨F', g1, g2⟩ := fn17 hN hok sw m n (t + 1) F1 (by omega) (by omega) p3 (by omega)
    refine ⟨F', g1, fun kx kr => ?_⟩
    have e1 : addI .i64 t 1 = t + 1 := addI_i (by unfold I63; omega)
    have e2 : mulI .i64 t 10 = 10 * t := by rw [mulI_i (by unfold I63; omega)]; omega
    have hl : Int.ofNat (lstS first σ N).length = N := by rw [lstS_len]; simp only [Int.ofNat_eq_natCast]; omega
    have hr : decide ((0 : Int) ≤ t ∧ t < Int.ofNat (lstS first σ N).length) = true := by rw [hl]; exact decide_eq_true (by omega)
    simp only [FeedNone_17_L, FeedNone_17_B]
    rw [br_pos (by omega)]
    simp only [one_ev, hr, e1, e2, lstS_get h0 (show t < N by omega), decide_true, Bool.and_true, chk_t, p1, FS.ls, List.cons_append, List.nil_append, out_ev, un_li_ev, un_lb_ev, un_b_ev, un_i_ev, un_nil_ev, Bool.not_true, br_f]
    simp only [p2, FS.ls, List.cons_append, List.nil_append, out_ev, un_li_ev, un_lb_ev, un_b_ev, un_i_ev, un_nil_ev, br_f, decide_true, Bool.and_true, chk_t]
    exact g2 kx kr
set_option maxRecDepth 100000 in
theorem FeedNone_true {first n : Int} {swaps : List Bool} (hu : U first) : FeedNone swaps first n = some [.b true] := by
  unfold FeedNone FeedNone_d
  obtain ⟨G, hG0, hG1, hG⟩ := rem_N (m := 60) (by omega) (by omega) n
  obtain ⟨N, hNe⟩ : ∃ N, N = 1 + G := ⟨_, rfl⟩
  have e1 : addI .i64 1 G = N := by rw [addI_i (by unfold I63; omega)]; omega
  have hnew : feed_New 1000 = some [.li [], .li [], .li [], .lb [], .li [], .i 1000, .b false, .i 0, .i 0, .i 0, .i 0, .b false, .i 0, .i 0, .i 0, .i 0] := by kernel_rfl
  have z0 : decide ((0 : Int) = Int.ofNat (0 : Nat)) = true := by decide
  simp only [one_ev, hG, e1, hnew, out_ev, un_li_ev, un_lb_ev, un_i_ev, un_b_ev, un_nil_ev, decide_true, Bool.and_true, chk_t, z0]
  have h8 := fun kx kr => fn8 (first := first) (N := N) hu (by omega) (α := List Leaf) kx kr swaps ⟨[], [], [], [], [], 1000, false, 0, 0, 0, 0, false, 0, 0, 0, 0⟩ N.toNat top 0 (by omega) (by omega) (top_gt (by omega))
  simp only [show lstS first id 0 = [] from rfl] at h8
  rw [h8]
  simp only [FS.ls, List.cons_append, List.nil_append, beq00, br_t, un_li_ev, un_lb_ev, un_i_ev, un_b_ev, un_nil_ev, decide_true, Bool.and_true, chk_t]
  have hid : OkS id N := fun j _ _ => .inl rfl
  obtain ⟨σ, hσ, h12⟩ := fn12 (first := first) (N := N) (by omega) swaps ⟨[], [], [], [], [], 1000, false, 0, 0, 0, 0, false, 0, 0, 0, 0⟩ (N + 1).toNat top 1 id (by omega) (by omega) hid (fun _ _ => rfl) (top_gt (by omega))
  simp only at h12
  rw [h12]
  have hl : Int.ofNat (lstS first σ N).length = N := by rw [lstS_len]; simp only [Int.ofNat_eq_natCast]; omega
  simp only [FS.ls, List.cons_append, List.nil_append, show Nat.beq 2 2 = true from rfl, br_t, un_li_ev, un_lb_ev, un_i_ev, un_b_ev, un_nil_ev, one_ev, hl, decide_true, Bool.and_true, chk_t]
  obtain ⟨F, hF, h17⟩ := fn17 (first := first) (N := N) (by omega) hσ swaps N.toNat top 0 ⟨[], [], [], [], [], 1000, false, 0, 0, 0, 0, false, 0, 0, 0, 0⟩ (by omega) (by omega) (.inl ⟨rfl, rfl⟩) (top_gt (by omega))
  simp only at h17
  rw [h17]
  obtain ⟨tp, h, hNI⟩ : ∃ tp h, NI first N tp h F := by
    rcases hF with ⟨hx, _⟩ | ⟨_, _, hx⟩ | ⟨_, _, hx⟩
    · omega
    · exact ⟨_, _, hx⟩
    · exact ⟨_, _, hx⟩
  have a1 := hNI.any
  have a2 := hNI.ev
  have a3 := hNI.now
  have a4 := hNI.bs
  have a5 := hNI.si
  have a6 := hNI.ct
  have m1 : minI 1000000 4611686018427387904 = 1000000 := by decide
  have m2 : maxI (10 * (N - 1)) 1000000 = 1000000 := by rw [maxI_eq]; omega
  have m3 : mulI .u64 64 (100 * N) = 6400 * N := by rw [mulI_u]; omega
  have m4 : subI .i64 1000000 0 = 1000000 := by decide
  have m5 : maxI 1000000 1 = 1000000 := by decide
  have m6 : wrapI .u64 1000000 = 1000000 := by decide
  have m7 : fix_MulDiv (6400 * N) 1000000 1000000 = some [.i (6400 * N)] := by
    rw [fix_MulDiv_t (by unfold U; omega) (by unfold U; omega) (by unfold U; omega)]
    unfold mdI
    rw [if_neg (by omega)]
    congr 3
    omega
  have m8 : minI 0 8 = 0 := by decide
  have m9 : condSl 0 Option.none (Option.some 0) = true := by decide
  have n1 : fix_Mul 0 5 = some [.i 0] := by rw [fix_Mul_t (by unfold U; omega) (by unfold U; omega) (by unfold U; omega)]; rfl
  have n2 : maxI 0 0 = 0 := by decide
  have n3 : maxI 1000000 1000000 = 1000000 := by decide
  have n4 : mulI .u64 64 0 = 0 := by decide
  have n5 : subI .i64 1000000 1000000 = 0 := by decide
  have n6 : maxI 0 1 = 1 := by decide
  have n7 : wrapI .u64 1 = 1 := by decide
  have n8 : fix_MulDiv 0 1000000 1 = some [.i 0] := by
    rw [fix_MulDiv_t (by unfold U; omega) (by unfold U; omega) (by unfold U; omega)]
    rfl
  have p1 : mulI .i64 6400 N = 6400 * N := mulI_i (by unfold I63; omega)
  have p2 : wrapI .u64 (6400 * N) = 6400 * N := by rw [wrapI_u]; omega
  have w0 : ival_Weight 0 = some [.i 5] := rfl
  simp only [FS.ls, List.cons_append, List.nil_append, show Nat.beq 4 4 = true from rfl, br_t, un_li_ev, un_lb_ev, un_i_ev, un_b_ev, un_nil_ev, one_ev, a1, a2, a3, a4, a5, a6, Bool.not_false, m1, m2, m3, m4, m5, m6, m7, out_ev, m8, m9, chk_t, w0, n1, n2, n3, n4, n5, n6, n7, n8, decide_true, Bool.and_true, feed_Lost]
  rw [br_eq rfl, p1, p2, br_eq rfl]
  rfl
end Go.Sx.T

