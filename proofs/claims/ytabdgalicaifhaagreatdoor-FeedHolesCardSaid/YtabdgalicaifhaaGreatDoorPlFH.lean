import Derived.Test.YtabdgalicaifhaaGreatDoorYFHSpec
import Derived.Test.YtabdgalicaifhaaGreatDoorPlFq
set_option linter.all false
namespace Go.Sx.T
open Go Go.Sx
theorem fh15 {first t b i events last gap apart holes r : Int} {S : Int → Prop} (hu : U first) (hg : 4 ≤ gap ∧ gap ≤ 23) (hb : b + gap < 240) : ∀ (m n : Nat) (k top : Int) (F : FS), 1 ≤ k → k + m = gap → top = b + k - 1 → HI first b top t S F → Evs i events last gap b top t F → m < n →
    ∃ F', HI first b (b + gap - 1) t S F' ∧ Evs i events last gap b (b + gap - 1) t F' ∧ ∀ {α : Type} (kx : Nat → List Leaf → Option α) (kr : List Leaf → Option α), FeedHoles_15_L kx kr n F.gk F.gv F.lk F.lv F.cl F.r F.any F.now F.fs F.nw F.ct F.ev F.ea F.en F.bs F.si k (b + k) first t r apart gap holes i events last = kx 2 (F'.ls ++ [.i first, .i r, .i apart, .i gap, .i holes, .i i, .i events, .i last, .i t, .i (b + gap)])
  | 0, n, k, top, F, hk, hm, ht, h, he, hn => by
    obtain ⟨n, rfl⟩ : ∃ n', n = n' + 1 := ⟨n - 1, by omega⟩
    obtain rfl : k = gap := by omega
    subst ht
    refine ⟨F, h, he, fun kx kr => ?_⟩
    simp only [FeedHoles_15_L, FeedHoles_15_B]
    rw [br_neg (by omega)]
    simp only [decide_true, Bool.and_true, chk_t]
    rfl
  | m + 1, n, k, top, F, hk, hm, ht, h, he, hn => by
    obtain ⟨n, rfl⟩ : ∃ n', n = n' + 1 := ⟨n - 1, by omega⟩
    have hb0 := h.b0
    obtain ⟨F1, p1, p2, p3⟩ := stepH h he (by omega)
    obtain ⟨F', g1, g2, g3⟩ := fh15 (apart := apart) (holes := holes) (r := r) hu hg hb m n (k + 1) (top + 1) F1 (by omega) (by omega) (by omega) p2 p3 (by omega)
    refine ⟨F', g1, g2, fun kx kr => ?_⟩
    have e1 : addI .i64 (b + k) 1 = b + (k + 1) := by rw [addI_i (by unfold I63; omega)]; omega
    have e2 : addI .i64 k 1 = k + 1 := addI_i (by unfold I63; omega)
    rw [show top + 1 = b + k by omega] at p1
    simp only [FeedHoles_15_L, FeedHoles_15_B]
    rw [br_pos (by omega), rstep_t _ hu, show (first + (b + k)) % 281474976710656 = ky first (b + k) from rfl]
    simp only [out_ev, un_i_ev, un_nil_ev, decide_true, Bool.and_true, chk_t, p1, FS.ls, List.cons_append, List.nil_append, un_li_ev, un_lb_ev, un_b_ev, one_ev, e1, e2]
    exact g3 kx kr
/-- A block may begin. -/
def Blk (first gap i n2 now events last : Int) (F : FS) : Prop :=
  (i = 0 ∧ n2 = 0 ∧ now = 0 ∧ events = 0 ∧ last = -1152921504606846976 ∧ F = ⟨[], [], [], [], [], 1000, false, 0, 0, 0, 0, false, 0, 0, 0, 0⟩) ∨
  (1 ≤ i ∧ ∃ b top t S e0 l0, HI first b top t S F ∧ (b = 0 ∨ 3 ≤ top - (b - 1)) ∧ 3 ≤ top ∧ Se (i - 1) e0 l0 gap F ∧ n2 = top + 2 ∧ (i = 1 → top + 1 = gap) ∧ t ≤ now ∧ Rel e0 l0 events last now i)
theorem blk_start {first gap i n2 now events last : Int} {F : FS} (h : Blk first gap i n2 now events last F) (hi : i ≤ 8) (hn : n2 < 240) (ht : now ≤ 100000) :
    ∃ S F', feed_Put F.gk F.gv F.lk F.lv F.cl F.r F.any F.now F.fs F.nw F.ct F.ev F.ea F.en F.bs F.si now (ky first n2) 1 = some (F'.ls ++ [.b true]) ∧ HI first n2 n2 now S F' ∧ Evs i events last gap n2 n2 now F' := by
  rcases h with ⟨rfl, rfl, rfl, rfl, rfl, rfl⟩ | ⟨hi1, b, top, t, S, e0, l0, h1, h2, h3, h4, rfl, h6, h7, h8⟩
  · refine ⟨fun _ => False, F1 first, put_F0 first, ?_, .inl ⟨rfl, rfl, ⟨rfl, rfl, fun x => absurd x (by omega), rfl, by omega, fun x => absurd x (by omega), by show (-1000000 : Int) ≤ 0 ∧ (0 : Int) ≤ 1000000; omega⟩⟩⟩
    refine ⟨⟨fun _ => 0, ⟨rfl, by simp [F1], fun n => ?_, fun o ho => ?_, fun o ho => ?_, ?_⟩⟩, fun x => absurd x (by omega), ⟨by simp [F1], rfl, fun n => ?_, fun o ho => ?_⟩, fun o ho => ho.elim, ⟨rfl, rfl, by omega, by omega⟩, rfl, rfl, rfl, ⟨by omega, by omega⟩, by omega⟩
    · constructor
      · intro hx
        exact ⟨0, ⟨by omega, by omega, fun x => x, by omega⟩, by simpa [F1] using hx⟩
      · rintro ⟨o, ⟨a1, a2, _, _⟩, rfl⟩
        obtain rfl : o = 0 := by omega
        simp [F1]
    · obtain ⟨a1, a2, _, _⟩ := ho
      obtain rfl : o = 0 := by omega
      simp [F1, mget]
    · obtain ⟨a1, a2, _, _⟩ := ho; omega
    · exact ⟨by omega, by omega, fun x => x, by omega⟩
    · constructor
      · intro hx; simp [F1] at hx
      · rintro ⟨o, ho, _⟩
        rcases ho with ho | ho
        · exact ho.elim
        · omega
    · rcases ho with ho | ho
      · exact ho.elim
      · omega
  · obtain ⟨S', F', q1, q2, q3⟩ := startH h1 h2 h3 h4 hi1 hi h6 h8 h7 ht (by omega)
    exact ⟨S', F', q1, q2, q3⟩
theorem evs_end {i events last gap b top t : Int} {F : FS} (h : Evs i events last gap b top t F) (h3 : 3 ≤ top - (b - 1)) (hi : 0 ≤ i) : (b = 0 ∨ 3 ≤ top - (b - 1)) ∧ Se i events last gap F := by
  rcases h with ⟨h1, rfl, h2⟩ | h | ⟨_, _, _, h4⟩
  · exact ⟨.inl h1, h2⟩
  · omega
  · exact ⟨.inr h3, h4⟩
theorem fh12 {first gap apart holes : Int} (hu : U first) (hg : 4 ≤ gap ∧ gap ≤ 23) (ha : 0 ≤ apart ∧ apart ≤ 5000) (hh : 1 ≤ holes ∧ holes ≤ 8) : ∀ (m n : Nat) (i n2 now events last : Int) (F : FS), 0 ≤ i → i + m = holes → n2 ≤ 24 * i → 0 ≤ now → now ≤ 5000 * i → 0 ≤ events → events ≤ i → -1152921504606846976 ≤ last → last ≤ 100000 → Blk first gap i n2 now events last F → m < n →
    ∃ n2' now' events' last' F', n2' ≤ 192 ∧ now' ≤ 40000 ∧ 0 ≤ events' ∧ events' ≤ 8 ∧ Blk first gap holes n2' now' events' last' F' ∧ ∀ {α : Type} (kx : Nat → List Leaf → Option α) (kr : List Leaf → Option α), FeedHoles_12_L kx kr n F.gk F.gv F.lk F.lv F.cl F.r F.any F.now F.fs F.nw F.ct F.ev F.ea F.en F.bs F.si n2 first now i events 1000 last apart gap holes = kx 0 (F'.ls ++ [.i n2', .i first, .i now', .i events', .i gap, .i holes])
  | 0, n, i, n2, now, events, last, F, hi, hm, hn2, hnw0, hnw, hev0, hev, hl0, hl1, hB, hn => by
    obtain ⟨n, rfl⟩ : ∃ n', n = n' + 1 := ⟨n - 1, by omega⟩
    obtain rfl : i = holes := by omega
    refine ⟨n2, now, events, last, F, by omega, by omega, hev0, by omega, hB, fun kx kr => ?_⟩
    simp only [FeedHoles_12_L, FeedHoles_12_B]
    rw [br_neg (by omega)]
    simp only [decide_true, Bool.and_true, chk_t]
    rfl
  | m + 1, n, i, n2, now, events, last, F, hi, hm, hn2, hnw0, hnw, hev0, hev, hl0, hl1, hB, hn => by
    obtain ⟨n, rfl⟩ : ∃ n', n = n' + 1 := ⟨n - 1, by omega⟩
    obtain ⟨S, F1, p1, p2, p3⟩ := blk_start hB (by omega) (by omega) (by omega)
    have hb0 := p2.b0
    obtain ⟨T, hT⟩ := top_s 1 (by omega)
    obtain ⟨F2, q1, q2, q3⟩ := fh15 (apart := apart) (holes := holes) (r := 1000) hu hg (by omega) (gap - 1).toNat T 1 n2 F1 (by omega) (by omega) (by omega) p2 p3 (by
      have : top = 1000000000000000000000000 := rfl
      omega)
    obtain ⟨d1, d2⟩ := evs_end q2 (by omega) hi
    have e1 : addI .i64 (n2 + gap) 1 = n2 + gap + 1 := addI_i (by unfold I63; omega)
    have e2 : addI .i64 now apart = now + apart := addI_i (by unfold I63; omega)
    have e3 : addI .i64 last 1000 = last + 1000 := addI_i (by unfold I63; omega)
    have e4 : addI .i64 events 1 = events + 1 := addI_i (by unfold I63; omega)
    have e5 : addI .i64 i 1 = i + 1 := addI_i (by unfold I63; omega)
    have e6 : addI .i64 n2 1 = n2 + 1 := addI_i (by unfold I63; omega)
    have e7 : addI .i64 0 1 = 1 := by decide
    have hi0 : n2 = 0 ∨ 1 ≤ i := by
      rcases hB with ⟨_, hx, _⟩ | ⟨hx, _⟩
      · exact .inl hx
      · exact .inr hx
    have hblk : ∀ ev' l', Rel events last ev' l' (now + apart) (i + 1) → Blk first gap (i + 1) (n2 + gap + 1) (now + apart) ev' l' F2 := fun ev' l' hR =>
      .inr ⟨by omega, n2, n2 + gap - 1, now, S, events, last, q1, d1, by omega, by rw [show i + 1 - 1 = i by omega]; exact d2, by omega, fun e => by omega, by omega, hR⟩
    have key : ∃ ev' l', Rel events last ev' l' (now + apart) (i + 1) ∧ 0 ≤ ev' ∧ ev' ≤ i + 1 ∧ -1152921504606846976 ≤ l' ∧ l' ≤ 100000 ∧ ∀ {α : Type} (kx : Nat → List Leaf → Option α) (kr : List Leaf → Option α), FeedHoles_12_L kx kr (n + 1) F.gk F.gv F.lk F.lv F.cl F.r F.any F.now F.fs F.nw F.ct F.ev F.ea F.en F.bs F.si n2 first now i events 1000 last apart gap holes = FeedHoles_12_L kx kr n F2.gk F2.gv F2.lk F2.lv F2.cl F2.r F2.any F2.now F2.fs F2.nw F2.ct F2.ev F2.ea F2.en F2.bs F2.si (n2 + gap + 1) first (now + apart) (i + 1) ev' 1000 l' apart gap holes := by
      have open12 : ∀ {α : Type} (kx : Nat → List Leaf → Option α) (kr : List Leaf → Option α), FeedHoles_12_L kx kr (n + 1) F.gk F.gv F.lk F.lv F.cl F.r F.any F.now F.fs F.nw F.ct F.ev F.ea F.en F.bs F.si n2 first now i events 1000 last apart gap holes =
          br (decide (now + apart > last + 1000)) (FeedHoles_12_L kx kr n F2.gk F2.gv F2.lk F2.lv F2.cl F2.r F2.any F2.now F2.fs F2.nw F2.ct F2.ev F2.ea F2.en F2.bs F2.si (n2 + gap + 1) first (now + apart) (i + 1) (events + 1) 1000 (now + apart) apart gap holes)
            (br (i == 0) (FeedHoles_12_L kx kr n F2.gk F2.gv F2.lk F2.lv F2.cl F2.r F2.any F2.now F2.fs F2.nw F2.ct F2.ev F2.ea F2.en F2.bs F2.si (n2 + gap + 1) first (now + apart) (i + 1) (events + 1) 1000 (now + apart) apart gap holes)
              (FeedHoles_12_L kx kr n F2.gk F2.gv F2.lk F2.lv F2.cl F2.r F2.any F2.now F2.fs F2.nw F2.ct F2.ev F2.ea F2.en F2.bs F2.si (n2 + gap + 1) first (now + apart) (i + 1) events 1000 last apart gap holes)) := by
        intro α kx kr
        simp only [FeedHoles_12_L, FeedHoles_12_B]
        rw [br_pos (by omega), hT]
        simp only [decide_true, Bool.and_true, chk_t, FeedHoles_15_L, FeedHoles_15_B]
        rw [br_pos (show (0 : Int) < gap by omega), rstep_t _ hu, show (first + n2) % 281474976710656 = ky first n2 from rfl]
        simp only [out_ev, un_i_ev, un_nil_ev, p1, FS.ls, List.cons_append, List.nil_append, un_li_ev, un_lb_ev, un_b_ev, one_ev, e6, e7, decide_true, Bool.and_true, chk_t]
        rw [q3]
        simp only [FS.ls, List.cons_append, List.nil_append, show Nat.beq 2 2 = true from rfl, br_t, un_li_ev, un_lb_ev, un_i_ev, un_b_ev, un_nil_ev, one_ev, e1, e2, e3, e4, e5, decide_true, Bool.and_true, chk_t]
      by_cases c : now + apart > last + 1000
      · exact ⟨events + 1, now + apart, .inl ⟨.inl c, rfl, rfl⟩, by omega, by omega, by omega, by omega, fun kx kr => by rw [open12, br_pos c]⟩
      · by_cases c0 : i = 0
        · exact ⟨events + 1, now + apart, .inl ⟨.inr (by omega), rfl, rfl⟩, by omega, by omega, by omega, by omega, fun kx kr => by rw [open12, br_neg c, br_eq c0]⟩
        · exact ⟨events, last, .inr ⟨by omega, rfl, rfl⟩, by omega, by omega, by omega, by omega, fun kx kr => by rw [open12, br_neg c, br_ne c0]⟩
    obtain ⟨ev', l', r1, r2, r3, r4, r5, r6⟩ := key
    obtain ⟨a1, a2, a3, a4, F', b1, b2, b3, b4, b5, b6⟩ := fh12 hu hg ha hh m n (i + 1) (n2 + gap + 1) (now + apart) ev' l' F2 (by omega) (by omega) (by omega) (by omega) (by omega) r2 r3 r4 r5 (hblk _ _ r1) (by omega)
    exact ⟨a1, a2, a3, a4, F', b1, b2, b3, b4, b5, fun kx kr => by rw [r6, b6]⟩
theorem fh25 {first t b i events last gap holes ev : Int} {S : Int → Prop} (hu : U first) (hb : b < 230) : ∀ (m n : Nat) (k top : Int) (F : FS), 1 ≤ k → k + m = 5 → top = b + k - 1 → HI first b top t S F → Evs i events last gap b top t F → m < n →
    ∃ F', HI first b (b + 4) t S F' ∧ Evs i events last gap b (b + 4) t F' ∧ ∀ {α : Type} (kx : Nat → List Leaf → Option α) (kr : List Leaf → Option α), FeedHoles_25_L kx kr n F.gk F.gv F.lk F.lv F.cl F.r F.any F.now F.fs F.nw F.ct F.ev F.ea F.en F.bs F.si k (b + k) first t ev gap holes = kx 4 (F'.ls ++ [.i ev, .i gap, .i holes])
  | 0, n, k, top, F, hk, hm, ht, h, he, hn => by
    obtain ⟨n, rfl⟩ : ∃ n', n = n' + 1 := ⟨n - 1, by omega⟩
    obtain rfl : k = 5 := by omega
    obtain rfl : top = b + 4 := by omega
    refine ⟨F, h, he, fun kx kr => ?_⟩
    simp only [FeedHoles_25_L, FeedHoles_25_B]
    rw [br_neg (by omega)]
    simp only [decide_true, Bool.and_true, chk_t]
    rfl
  | m + 1, n, k, top, F, hk, hm, ht, h, he, hn => by
    obtain ⟨n, rfl⟩ : ∃ n', n = n' + 1 := ⟨n - 1, by omega⟩
    have hb0 := h.b0
    obtain ⟨F1, p1, p2, p3⟩ := stepH h he (by omega)
    obtain ⟨F', g1, g2, g3⟩ := fh25 (holes := holes) (ev := ev) hu hb m n (k + 1) (top + 1) F1 (by omega) (by omega) (by omega) p2 p3 (by omega)
    refine ⟨F', g1, g2, fun kx kr => ?_⟩
    have e1 : addI .i64 (b + k) 1 = b + (k + 1) := by rw [addI_i (by unfold I63; omega)]; omega
    have e2 : addI .i64 k 1 = k + 1 := addI_i (by unfold I63; omega)
    rw [show top + 1 = b + k by omega] at p1
    simp only [FeedHoles_25_L, FeedHoles_25_B]
    rw [br_pos (by omega), rstep_t _ hu, show (first + (b + k)) % 281474976710656 = ky first (b + k) from rfl]
    simp only [out_ev, un_i_ev, un_nil_ev, decide_true, Bool.and_true, chk_t, p1, FS.ls, List.cons_append, List.nil_append, un_li_ev, un_lb_ev, un_b_ev, one_ev, e1, e2]
    exact g3 kx kr
end Go.Sx.T

