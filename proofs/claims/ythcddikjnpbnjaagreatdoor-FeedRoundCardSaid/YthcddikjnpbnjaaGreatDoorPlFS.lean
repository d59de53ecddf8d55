import Derived.Test.YthcddikjnpbnjaaGreatDoorPlFa
set_option linter.all false
namespace Go.Sx.T
open Go Go.Sx
def shB (B n : Int) : Int := (n + B) % 281474976710656
def RG (n : Int) : Prop := 0 ≤ n ∧ n < 281474976710656
theorem shB_RG (B n : Int) : RG (shB B n) := by unfold shB RG; omega
theorem shB_inj {B a b : Int} (ha : RG a) (hb : RG b) (h : shB B a = shB B b) : a = b := by unfold shB at h; unfold RG at ha hb; omega
theorem dif_sB (B a b : Int) : dif (shB B a) (shB B b) = dif a b := by
  unfold dif shB
  have : ((a + B) % 281474976710656 - (b + B) % 281474976710656) % 281474976710656 = (a - b) % 281474976710656 := by omega
  rw [this]
theorem oldP_sB (B a b : Int) : oldP (shB B a) (shB B b) = oldP a b := by
  unfold oldP
  simp only [diffI_eq, dif_sB]
theorem mhas_sB {B n : Int} (hn : RG n) : ∀ {k : List Int}, (∀ a ∈ k, RG a) → mhas (k.map (shB B)) (shB B n) = mhas k n
  | [], _ => rfl
  | a :: k, h => by
    have ih := mhas_sB (B := B) hn (k := k) (fun a ha => h a (by simp [ha]))
    simp only [List.map_cons, mhas, ih]
    by_cases e : a = n
    · subst e; simp
    · rw [beq_eq_false_iff_ne.2 e, beq_eq_false_iff_ne.2 (fun x => e (shB_inj (h a (by simp)) hn x))]
theorem mget_sB {α : Type} {d : α} {B n : Int} (hn : RG n) : ∀ {k : List Int} {v : List α}, (∀ a ∈ k, RG a) → mget d (k.map (shB B)) v (shB B n) = mget d k v n
  | [], _, _ => by simp [mget]
  | a :: k, [], _ => by simp [mget]
  | a :: k, b :: v, h => by
    have ih := mget_sB (d := d) (B := B) hn (k := k) (v := v) (fun a ha => h a (by simp [ha]))
    simp only [List.map_cons, mget, ih]
    by_cases e : a = n
    · subst e; simp
    · rw [beq_eq_false_iff_ne.2 e, beq_eq_false_iff_ne.2 (fun x => e (shB_inj (h a (by simp)) hn x))]
theorem midx_sB {B n : Int} (hn : RG n) : ∀ {k : List Int}, (∀ a ∈ k, RG a) → midx (k.map (shB B)) (shB B n) = midx k n
  | [], _ => rfl
  | a :: k, h => by
    have ih := midx_sB (B := B) hn (k := k) (fun a ha => h a (by simp [ha]))
    simp only [List.map_cons, midx, ih]
    by_cases e : a = n
    · subst e; simp
    · rw [beq_eq_false_iff_ne.2 e, beq_eq_false_iff_ne.2 (fun x => e (shB_inj (h a (by simp)) hn x))]
theorem mputK_sB {B n : Int} (hn : RG n) {k : List Int} (h : ∀ a ∈ k, RG a) : mputK (k.map (shB B)) (shB B n) = (mputK k n).map (shB B) := by
  unfold mputK
  rw [mhas_sB hn h]
  cases mhas k n <;> simp
theorem mputV_sB {α : Type} {B n : Int} (hn : RG n) {k : List Int} (h : ∀ a ∈ k, RG a) (v : List α) (x : α) : mputV (k.map (shB B)) v (shB B n) x = mputV k v n x := by
  unfold mputV
  rw [mhas_sB hn h, midx_sB hn h]
theorem mfK_sB (B n : Int) : ∀ (k : List Int), mfK (oldP (shB B n)) (k.map (shB B)) = (mfK (oldP n) k).map (shB B)
  | [] => rfl
  | a :: k => by
    simp only [List.map_cons, mfK, oldP_sB, mfK_sB B n k]
    cases oldP n a <;> rfl
theorem mfV_sB {α : Type} (B n : Int) : ∀ (k : List Int) (v : List α), mfV (oldP (shB B n)) (k.map (shB B)) v = mfV (oldP n) k v
  | [], v => by cases v <;> simp [mfV]
  | a :: k, [] => by simp [mfV]
  | a :: k, b :: v => by simp only [List.map_cons, mfV, oldP_sB, mfV_sB B n k v]
theorem map_nodup {B : Int} : ∀ {k : List Int}, (∀ a ∈ k, RG a) → k.Nodup → (k.map (shB B)).Nodup
  | [], _, _ => List.nodup_nil
  | a :: k, h, hn => by
    obtain ⟨h1, h2⟩ := List.nodup_cons.1 hn
    rw [List.map_cons, List.nodup_cons]
    refine ⟨fun hx => ?_, map_nodup (fun a ha => h a (by simp [ha])) h2⟩
    obtain ⟨b, hb, e⟩ := List.mem_map.1 hx
    obtain rfl := shB_inj (h b (by simp [hb])) (h a (by simp)) e
    exact h1 hb
/-- What a receiver keeps to. -/
structure FI (C : Int) (F : FS) : Prop where
  gk : ∀ n ∈ F.gk, RG n
  lk : ∀ n ∈ F.lk, RG n
  gn : F.gk.Nodup
  ln : F.lk.Nodup
  gv : ∀ v ∈ F.gv, 0 ≤ v ∧ v ≤ 4611686018427387904
  cl : F.cl.length ≤ 8 ∧ ∀ x ∈ F.cl, 1 ≤ x ∧ x ≤ 140737488355328
  r : F.r = 1000
  now : 0 ≤ F.now ∧ F.now ≤ 4611686018427387904
  fs : RG F.fs
  nw : RG F.nw
  en : RG F.en
  ct : 0 ≤ F.ct ∧ F.ct ≤ C
  ea : 0 ≤ F.ea ∧ F.ea ≤ 4611686018427387904
  an : F.ev = true → F.any = true
/-- The other one, shifted. -/
structure RR (B : Int) (F G : FS) : Prop where
  gk : G.gk = F.gk.map (shB B)
  gv : G.gv = F.gv
  lk : G.lk = F.lk.map (shB B)
  lv : G.lv = F.lv
  cl : G.cl = F.cl
  r : G.r = F.r
  any : G.any = F.any
  now : G.now = F.now
  fs : F.any = true → G.fs = shB B F.fs
  nw : F.any = true → G.nw = shB B F.nw
  ct : G.ct = F.ct
  ev : G.ev = F.ev
  ea : G.ea = F.ea
  en : F.ev = true → G.en = shB B F.en
theorem mputK_RG {k : List Int} {n : Int} (h : ∀ a ∈ k, RG a) (hn : RG n) : ∀ a ∈ mputK k n, RG a := by
  intro a ha
  unfold mputK at ha
  cases hb : mhas k n
  · rw [hb] at ha
    rcases List.mem_append.1 ha with ha | ha
    · exact h a ha
    · obtain rfl : a = n := by simpa using ha
      exact hn
  · rw [hb] at ha; exact h a ha
theorem mputK_nodup {k : List Int} {n : Int} (h : k.Nodup) : (mputK k n).Nodup := by
  unfold mputK
  cases hb : mhas k n
  · have : n ∉ k := fun x => by rw [mhas_iff.2 x] at hb; cases hb
    exact nodup_app h this
  · exact h
theorem lose_rel {B C : Int} {F G : FS} (h : RR B F G) (hF : FI C F) (ha : F.any = true) {n t : Int} (hn : RG n) (ht : 0 ≤ t ∧ t ≤ 4611686018427387904) :
    RR B (loseG F n t) (loseG G (shB B n) t) ∧ FI (C + 1) (loseG F n t) ∧ (loseG F n t).any = true := by
  have hcl : ∀ x, 1 ≤ max (dif n x) 1 ∧ max (dif n x) 1 ≤ 140737488355328 := fun x => by have := dif_bd n x; omega
  unfold loseG
  by_cases hc : F.ev = true ∧ t ≤ F.ea + F.r
  · have hc2 : G.ev = true ∧ t ≤ G.ea + G.r := by rw [h.ev, h.ea, h.r]; exact hc
    rw [if_pos hc, if_pos hc2]
    refine ⟨⟨h.gk, h.gv, by simp only; rw [h.lk, mputK_sB hn hF.lk], by simp only; rw [h.lk, h.lv, mputV_sB hn hF.lk], h.cl, h.r, h.any, h.now, h.fs, h.nw, by simp only; rw [h.ct], h.ev, h.ea, h.en⟩,
      ⟨hF.gk, mputK_RG hF.lk hn, hF.gn, mputK_nodup hF.ln, hF.gv, hF.cl, hF.r, hF.now, hF.fs, hF.nw, hF.en, ?_, hF.ea, hF.an⟩, ha⟩
    have := hF.ct
    simp only; omega
  · have hc2 : ¬ (G.ev = true ∧ t ≤ G.ea + G.r) := by rw [h.ev, h.ea, h.r]; exact hc
    rw [if_neg hc, if_neg hc2]
    refine ⟨⟨h.gk, h.gv, by simp only; rw [h.lk, mputK_sB hn hF.lk], by simp only; rw [h.lk, h.lv, mputV_sB hn hF.lk], ?_, h.r, h.any, h.now, h.fs, h.nw, by simp only; rw [h.ct], rfl, rfl, fun _ => rfl⟩,
      ⟨hF.gk, mputK_RG hF.lk hn, hF.gn, mputK_nodup hF.ln, hF.gv, ⟨by simp only [List.length_take]; omega, fun x hx => ?_⟩, hF.r, hF.now, hF.fs, hF.nw, hn, ?_, ht, fun _ => ha⟩, ha⟩
    · simp only
      rw [h.cl]
      congr 2
      rw [h.ev]
      cases he : F.ev
      · simp only [Bool.false_eq_true, if_false, h.fs ha, dif_sB]
      · simp only [if_true, h.en he, dif_sB]
    · have hx := List.mem_of_mem_take hx
      rcases List.mem_cons.1 hx with rfl | hx
      · exact hcl _
      · exact hF.cl.2 x hx
    · have := hF.ct
      simp only; omega
theorem mget_bd {n : Int} : ∀ {k : List Int} {v : List Int}, (∀ x ∈ v, 0 ≤ x ∧ x ≤ 4611686018427387904) → 0 ≤ mget 0 k v n ∧ mget 0 k v n ≤ 4611686018427387904
  | [], _, _ => by simp [mget]
  | a :: k, [], _ => by simp [mget]
  | a :: k, b :: v, h => by
    have ih := mget_bd (n := n) (k := k) (v := v) (fun x hx => h x (by simp [hx]))
    simp only [mget]
    cases (a == n)
    · exact ih
    · exact h b (by simp)
/-- What looking finds: both the same. -/
theorem scan_rel {B C : Int} {F G : FS} (h : RR B F G) (hF : FI C F) (ha : F.any = true) : ∀ (m n : Nat) (d b next : Int) (A L : List Int), 0 ≤ d → d + m = 250 → 0 ≤ b → b ≤ d → 0 ≤ next ∧ next ≤ 4611686018427387904 → A.length = L.length → (L.length : Int) ≤ d → (∀ a ∈ A, 0 ≤ a ∧ a ≤ 4611686018427387904) → (∀ l ∈ L, RG l) → m < n →
    ∃ A' L', A'.length = L'.length ∧ L'.length ≤ 250 ∧ (∀ a ∈ A', 0 ≤ a ∧ a ≤ 4611686018427387904) ∧ (∀ l ∈ L', RG l) ∧
      (∀ {α : Type} (kx : Nat → List Leaf → Option α) (kr : List Leaf → Option α), feed_look_4_L kx kr n F.gk F.gv F.lk F.lv F.cl A L F.r F.any F.now F.fs F.nw F.ct F.ev F.ea F.en F.bs F.si d b next = kx 0 [.li F.gk, .li F.gv, .li F.lk, .lb F.lv, .li F.cl, .li A', .li L', .i F.r, .b F.any, .i F.now, .i F.fs, .i F.nw, .i F.ct, .b F.ev, .i F.ea, .i F.en, .i F.bs, .i F.si]) ∧
      (∀ {α : Type} (kx : Nat → List Leaf → Option α) (kr : List Leaf → Option α), feed_look_4_L kx kr n G.gk G.gv G.lk G.lv G.cl A (L.map (shB B)) G.r G.any G.now G.fs G.nw G.ct G.ev G.ea G.en G.bs G.si d b next = kx 0 [.li G.gk, .li G.gv, .li G.lk, .lb G.lv, .li G.cl, .li A', .li (L'.map (shB B)), .i G.r, .b G.any, .i G.now, .i G.fs, .i G.nw, .i G.ct, .b G.ev, .i G.ea, .i G.en, .i G.bs, .i G.si])
  | 0, n, d, b, next, A, L, h0, h1, hb, hb1, hx, hl, hl1, hA, hL, hn => by
    obtain ⟨n, rfl⟩ : ∃ n', n = n' + 1 := ⟨n - 1, by omega⟩
    refine ⟨A, L, hl, by omega, hA, hL, fun kx kr => ?_, fun kx kr => ?_⟩
    · simp only [feed_look_4_L, feed_look_4_B]
      rw [br_neg (by omega)]
      simp only [decide_true, Bool.and_true, chk_t]
    · simp only [feed_look_4_L, feed_look_4_B]
      rw [br_neg (by omega)]
      simp only [decide_true, Bool.and_true, chk_t]
  | m + 1, n, d, b, next, A, L, h0, h1, hb, hb1, hx, hl, hl1, hA, hL, hn => by
    obtain ⟨n, rfl⟩ : ∃ n', n = n' + 1 := ⟨n - 1, by omega⟩
    have e1 : subI .i64 0 d = 0 - d := subI_i (by unfold I63; omega)
    have e2 : addI .i64 d 1 = d + 1 := addI_i (by unfold I63; omega)
    have e3 : addI .i64 b 1 = b + 1 := addI_i (by unfold I63; omega)
    obtain ⟨N, hN⟩ : ∃ N, N = (F.nw + (0 - d)) % 281474976710656 := ⟨_, rfl⟩
    have hNR : RG N := by rw [hN]; unfold RG; omega
    have hN2 : (G.nw + (0 - d)) % 281474976710656 = shB B N := by rw [h.nw ha, hN]; unfold shB; omega
    have hd : dif G.fs (shB B N) = dif F.fs N := by rw [h.fs ha, dif_sB]
    have hg1 : mhas G.gk (shB B N) = mhas F.gk N := by rw [h.gk, mhas_sB hNR hF.gk]
    have hg2 : mget 0 G.gk G.gv (shB B N) = mget 0 F.gk F.gv N := by rw [h.gk, h.gv, mget_sB hNR hF.gk]
    have hg3 : mget false G.lk G.lv (shB B N) = mget false F.lk F.lv N := by rw [h.lk, h.lv, mget_sB hNR hF.lk]
    by_cases c1 : dif F.fs N < 0
    · cases c2 : mhas F.gk N
      · cases c3 : mget false F.lk F.lv N
        · by_cases c4 : b ≥ 3
          · obtain ⟨A', L', q1, q2, q3, q4, q5, q6⟩ := scan_rel h hF ha m n (d + 1) b next (A ++ [next]) (L ++ [N]) (by omega) (by omega) hb (by omega) hx (by simp [hl]) (by simp; omega) (fun a hm => by
              rcases List.mem_append.1 hm with hm | hm
              · exact hA a hm
              · obtain rfl : a = next := by simpa using hm
                exact hx) (fun a hm => by
              rcases List.mem_append.1 hm with hm | hm
              · exact hL a hm
              · obtain rfl : a = N := by simpa using hm
                exact hNR) (by omega)
            have r1 : ∀ X : List Int, X.length = L.length → ((Int.ofNat X.length + (↑(1 : Nat) : Int)) * (↑(nat_lit 8) : Int) ≤ (140737488355328 : Int) ∧ Int.ofNat X.length + (↑(1 : Nat) : Int) ≤ (4611686018427387904 : Int)) := fun X hX => by
              simp only [Int.ofNat_eq_natCast, hX]; constructor <;> omega
            have g1 : ∀ (X : List Int) (x : Int), decide (Int.ofNat X.length + (↑(1 : Nat) : Int) = Int.ofNat (List.length (X ++ [x]))) = true := fun X x => by simp
            refine ⟨A', L', q1, q2, q3, q4, fun kx kr => ?_, fun kx kr => ?_⟩
            · rw [← q5 kx kr]
              simp only [feed_look_4_L, feed_look_4_B, one_ev, e1, e2, e3, add_t, out_ev, un_i_ev, un_nil_ev, lessD_t, un_b_ev, ← hN]
              rw [br_pos (by omega), decide_eq_true c1, c2, c3, br_pos c4]
              simp only [Bool.not_true, Bool.not_false, br_f, br_t, decide_true, Bool.and_true, Bool.true_and, chk_t, r1 L rfl, r1 A hl, and_self, g1]
            · rw [← q6 kx kr]
              simp only [feed_look_4_L, feed_look_4_B, one_ev, e1, e2, e3, add_t, out_ev, un_i_ev, un_nil_ev, lessD_t, un_b_ev, hN2, hd, hg1, hg2, hg3]
              rw [br_pos (by omega), decide_eq_true c1, c2, c3, br_pos c4]
              simp only [Bool.not_true, Bool.not_false, br_f, br_t, decide_true, Bool.and_true, Bool.true_and, chk_t, r1 (L.map (shB B)) (by simp), r1 A hl, and_self, g1, List.map_append, List.map_cons, List.map_nil]
          · obtain ⟨A', L', q1, q2, q3, q4, q5, q6⟩ := scan_rel h hF ha m n (d + 1) b next A L (by omega) (by omega) hb (by omega) hx hl (by omega) hA hL (by omega)
            refine ⟨A', L', q1, q2, q3, q4, fun kx kr => ?_, fun kx kr => ?_⟩
            · rw [← q5 kx kr]
              simp only [feed_look_4_L, feed_look_4_B, one_ev, e1, e2, e3, add_t, out_ev, un_i_ev, un_nil_ev, lessD_t, un_b_ev, ← hN]
              rw [br_pos (by omega), decide_eq_true c1, c2, c3, br_neg c4]
              simp only [Bool.not_true, Bool.not_false, br_f, br_t, decide_true, Bool.and_true, Bool.true_and, chk_t]
            · rw [← q6 kx kr]
              simp only [feed_look_4_L, feed_look_4_B, one_ev, e1, e2, e3, add_t, out_ev, un_i_ev, un_nil_ev, lessD_t, un_b_ev, hN2, hd, hg1, hg2, hg3]
              rw [br_pos (by omega), decide_eq_true c1, c2, c3, br_neg c4]
              simp only [Bool.not_true, Bool.not_false, br_f, br_t, decide_true, Bool.and_true, Bool.true_and, chk_t]
        · obtain ⟨A', L', q1, q2, q3, q4, q5, q6⟩ := scan_rel h hF ha m n (d + 1) b next A L (by omega) (by omega) hb (by omega) hx hl (by omega) hA hL (by omega)
          refine ⟨A', L', q1, q2, q3, q4, fun kx kr => ?_, fun kx kr => ?_⟩
          · rw [← q5 kx kr]
            simp only [feed_look_4_L, feed_look_4_B, one_ev, e1, e2, e3, add_t, out_ev, un_i_ev, un_nil_ev, lessD_t, un_b_ev, ← hN]
            rw [br_pos (by omega), decide_eq_true c1, c2, c3]
            simp only [Bool.not_true, br_f, decide_true, Bool.and_true, Bool.true_and, chk_t]
          · rw [← q6 kx kr]
            simp only [feed_look_4_L, feed_look_4_B, one_ev, e1, e2, e3, add_t, out_ev, un_i_ev, un_nil_ev, lessD_t, un_b_ev, hN2, hd, hg1, hg2, hg3]
            rw [br_pos (by omega), decide_eq_true c1, c2, c3]
            simp only [Bool.not_true, br_f, decide_true, Bool.and_true, Bool.true_and, chk_t]
      · obtain ⟨A', L', q1, q2, q3, q4, q5, q6⟩ := scan_rel h hF ha m n (d + 1) (b + 1) (mget 0 F.gk F.gv N) A L (by omega) (by omega) (by omega) (by omega) (mget_bd hF.gv) hl (by omega) hA hL (by omega)
        refine ⟨A', L', q1, q2, q3, q4, fun kx kr => ?_, fun kx kr => ?_⟩
        · rw [← q5 kx kr]
          simp only [feed_look_4_L, feed_look_4_B, one_ev, e1, e2, e3, add_t, out_ev, un_i_ev, un_nil_ev, lessD_t, un_b_ev, ← hN]
          rw [br_pos (by omega), decide_eq_true c1, c2]
          simp only [Bool.not_true, br_f, br_t, decide_true, Bool.and_true, Bool.true_and, chk_t]
        · rw [← q6 kx kr]
          simp only [feed_look_4_L, feed_look_4_B, one_ev, e1, e2, e3, add_t, out_ev, un_i_ev, un_nil_ev, lessD_t, un_b_ev, hN2, hd, hg1, hg2, hg3]
          rw [br_pos (by omega), decide_eq_true c1, c2]
          simp only [Bool.not_true, br_f, br_t, decide_true, Bool.and_true, Bool.true_and, chk_t]
    · refine ⟨A, L, hl, by omega, hA, hL, fun kx kr => ?_, fun kx kr => ?_⟩
      · simp only [feed_look_4_L, feed_look_4_B, one_ev, e1, add_t, out_ev, un_i_ev, un_nil_ev, lessD_t, un_b_ev, ← hN]
        rw [br_pos (by omega), decide_eq_false c1]
        simp only [Bool.not_false, br_t, decide_true, Bool.and_true, chk_t]
      · simp only [feed_look_4_L, feed_look_4_B, one_ev, e1, add_t, out_ev, un_i_ev, un_nil_ev, lessD_t, un_b_ev, hN2, hd]
        rw [br_pos (by omega), decide_eq_false c1]
        simp only [Bool.not_false, br_t, decide_true, Bool.and_true, chk_t]
/-- What was found is taken for lost, by both. -/
theorem loses_rel {B : Int} {A L : List Int} (hl : A.length = L.length) (hl1 : L.length ≤ 250) (hA : ∀ a ∈ A, 0 ≤ a ∧ a ≤ 4611686018427387904) (hL : ∀ l ∈ L, RG l) : ∀ (m n : Nat) (C : Int) (F G : FS), m ≤ L.length → m < n → RR B F G → FI C F → F.any = true → C + m < 1000000 →
    ∃ F' G', RR B F' G' ∧ FI (C + m) F' ∧ F'.any = true ∧ (∀ {α : Type} (kx : Nat → List Leaf → Option α) (kr : List Leaf → Option α), feed_look_15_L kx kr n F.gk F.gv F.lk F.lv F.cl A L F.r F.any F.now F.fs F.nw F.ct F.ev F.ea F.en F.bs F.si ((m : Int) - 1) = kx 3 F'.ls) ∧
      (∀ {α : Type} (kx : Nat → List Leaf → Option α) (kr : List Leaf → Option α), feed_look_15_L kx kr n G.gk G.gv G.lk G.lv G.cl A (L.map (shB B)) G.r G.any G.now G.fs G.nw G.ct G.ev G.ea G.en G.bs G.si ((m : Int) - 1) = kx 3 G'.ls)
  | 0, n, C, F, G, hm, hn, h, hF, ha, hC => by
    obtain ⟨n, rfl⟩ : ∃ n', n = n' + 1 := ⟨n - 1, by omega⟩
    refine ⟨F, G, h, by simpa using hF, ha, fun kx kr => nop15 kx kr n (by omega), fun kx kr => nop15 kx kr n (by omega)⟩
  | m + 1, n, C, F, G, hm, hn, h, hF, ha, hC => by
    obtain ⟨n, rfl⟩ : ∃ n', n = n' + 1 := ⟨n - 1, by omega⟩
    have hlt : m < L.length := by omega
    obtain ⟨x, hx⟩ : ∃ x, x = L.getD m 0 := ⟨_, rfl⟩
    obtain ⟨t, ht⟩ : ∃ t, t = A.getD m 0 := ⟨_, rfl⟩
    have hxm : RG x := by
      rw [hx, List.getD_eq_getElem?_getD, List.getElem?_eq_getElem hlt]
      exact hL _ (List.getElem_mem hlt)
    have htm : 0 ≤ t ∧ t ≤ 4611686018427387904 := by
      rw [ht, List.getD_eq_getElem?_getD, List.getElem?_eq_getElem (by omega)]
      exact hA _ (List.getElem_mem (by omega))
    have hx2 : (L.map (shB B)).getD m 0 = shB B x := by
      rw [hx, List.getD_eq_getElem?_getD, List.getD_eq_getElem?_getD, List.getElem?_map, List.getElem?_eq_getElem hlt]
      rfl
    obtain ⟨r1, r2, r3⟩ := lose_rel h hF ha hxm htm
    have hct := hF.ct
    have hea := hF.ea
    have hr := hF.r
    have p1 := lose_G F x t ⟨hct.1, by omega⟩ (by unfold I63; omega) hF.cl.1
    have p2 := lose_G G (shB B x) t (by rw [h.ct]; exact ⟨hct.1, by omega⟩) (by rw [h.ea, h.r]; unfold I63; omega) (by rw [h.cl]; exact hF.cl.1)
    obtain ⟨F', G', q1, q2, q3, q4, q5⟩ := loses_rel hl hl1 hA hL m n (C + 1) _ _ (by omega) (by omega) r1 r2 r3 (by omega)
    have e0 : ((m + 1 : Nat) : Int) - 1 = (m : Int) := by omega
    have e1 : subI .i64 (m : Int) 1 = (m : Int) - 1 := subI_i (by unfold I63; omega)
    refine ⟨F', G', q1, by rw [show C + ((m + 1 : Nat) : Int) = C + 1 + m by omega]; exact q2, q3, fun kx kr => ?_, fun kx kr => ?_⟩
    · rw [e0, ← q4 kx kr]
      simp only [feed_look_15_L, feed_look_15_B]
      have b1 : (0 : Int) ≤ (m : Int) ∧ (m : Int) < Int.ofNat L.length := by simp only [Int.ofNat_eq_natCast]; omega
      have b2 : (0 : Int) ≤ (m : Int) ∧ (m : Int) < Int.ofNat A.length := by simp only [Int.ofNat_eq_natCast]; omega
      rw [br_pos (by omega), chk_pos b1, chk_pos b1, chk_pos b2, chk_pos b2]
      simp only [Int.toNat_natCast, ← hx, ← ht, decide_true, Bool.and_true, chk_t, p1, out_ev]
      simp only [FS.ls, un_li_ev, un_lb_ev, un_i_ev, un_b_ev, un_nil_ev, one_ev, e1, decide_true, Bool.and_true, chk_t]
    · rw [e0, ← q5 kx kr]
      simp only [feed_look_15_L, feed_look_15_B]
      have b1 : (0 : Int) ≤ (m : Int) ∧ (m : Int) < Int.ofNat (L.map (shB B)).length := by simp only [Int.ofNat_eq_natCast, List.length_map]; omega
      have b2 : (0 : Int) ≤ (m : Int) ∧ (m : Int) < Int.ofNat A.length := by simp only [Int.ofNat_eq_natCast]; omega
      rw [br_pos (by omega), chk_pos b1, chk_pos b1, chk_pos b2, chk_pos b2]
      simp only [Int.toNat_natCast, hx2, ← ht, decide_true, Bool.and_true, chk_t, p2, out_ev]
      simp only [FS.ls, un_li_ev, un_lb_ev, un_i_ev, un_b_ev, un_nil_ev, one_ev, e1, decide_true, Bool.and_true, chk_t]
theorem look_rel {B C : Int} {F G : FS} (h : RR B F G) (hF : FI C F) (ha : F.any = true) (hC : C + 250 < 1000000) :
    ∃ F' G', RR B F' G' ∧ FI (C + 250) F' ∧ F'.any = true ∧ feed_look F.gk F.gv F.lk F.lv F.cl F.r F.any F.now F.fs F.nw F.ct F.ev F.ea F.en F.bs F.si = some F'.ls ∧ feed_look G.gk G.gv G.lk G.lv G.cl G.r G.any G.now G.fs G.nw G.ct G.ev G.ea G.en G.bs G.si = some G'.ls := by
  obtain ⟨A, L, q1, q2, q3, q4, q5, q6⟩ := scan_rel h hF ha 250 top 0 0 0 [] [] (by omega) (by omega) (by omega) (by omega) (by omega) rfl (by simp) (by simp) (by simp) (by unfold top; omega)
  obtain ⟨F', G', r1, r2, r3, r4, r5⟩ := loses_rel q1 q2 q3 q4 L.length top C F G (Nat.le_refl _) (by unfold top; omega) h hF ha (by omega)
  have z0 : decide ((0 : Int) = Int.ofNat (0 : Nat)) = true := by decide
  have e1 : subI .i64 (Int.ofNat L.length) 1 = (L.length : Int) - 1 := subI_i (by unfold I63; simp only [Int.ofNat_eq_natCast]; omega)
  have e2 : subI .i64 (Int.ofNat (L.map (shB B)).length) 1 = (L.length : Int) - 1 := by rw [List.length_map]; exact e1
  refine ⟨F', G', r1, ⟨r2.gk, r2.lk, r2.gn, r2.ln, r2.gv, r2.cl, r2.r, r2.now, r2.fs, r2.nw, r2.en, ⟨r2.ct.1, by have := r2.ct.2; omega⟩, r2.ea, r2.an⟩, r3, ?_, ?_⟩
  · unfold feed_look feed_look_d
    simp only [decide_true, Bool.and_true, chk_t, z0]
    rw [q5]
    simp only [beq00, br_t, un_li_ev, un_lb_ev, un_i_ev, un_b_ev, un_nil_ev, one_ev, decide_true, Bool.and_true, chk_t, e1]
    rw [r4]
    simp only [FS.ls, show Nat.beq 3 3 = true from rfl, br_t, un_li_ev, un_lb_ev, un_i_ev, un_b_ev, un_nil_ev]
  · unfold feed_look feed_look_d
    simp only [decide_true, Bool.and_true, chk_t, z0]
    rw [show ([] : List Int) = ([] : List Int).map (shB B) from rfl]
    have q6' := fun kx kr => q6 (α := List Leaf) kx kr
    simp only [List.map_nil] at q6' ⊢
    rw [q6']
    simp only [beq00, br_t, un_li_ev, un_lb_ev, un_i_ev, un_b_ev, un_nil_ev, one_ev, decide_true, Bool.and_true, chk_t, e2]
    rw [r5]
    simp only [FS.ls, show Nat.beq 3 3 = true from rfl, br_t, un_li_ev, un_lb_ev, un_i_ev, un_b_ev, un_nil_ev]
end Go.Sx.T

