import Derived.Test.YthcddikjnpbnjaaGreatDoorYFOSpec
import Derived.Test.YthcddikjnpbnjaaGreatDoorPlFS
import Derived.Test.YthcddikjnpbnjaaGreatDoorPlIv
set_option linter.all false
namespace Go.Sx.T
open Go Go.Sx
theorem mputV_bd {k l : List Int} {n x : Int} {P : Int → Prop} (h : ∀ v ∈ l, P v) (hx : P x) : ∀ v ∈ mputV k l n x, P v := by
  intro v hv
  unfold mputV at hv
  cases hb : mhas k n
  · rw [hb] at hv
    rcases List.mem_append.1 hv with hv | hv
    · exact h v hv
    · obtain rfl : v = x := by simpa using hv
      exact hx
  · rw [hb] at hv
    rcases List.mem_or_eq_of_mem_set hv with hv | hv
    · exact h v hv
    · rw [hv]; exact hx
theorem mfV_sub {d : Int → Bool} : ∀ {k : List Int} {l : List Int}, ∀ v ∈ mfV d k l, v ∈ l
  | [], l, v, h => by simp [mfV] at h
  | a :: k, [], v, h => by simp [mfV] at h
  | a :: k, b :: l, v, h => by
    simp only [mfV] at h
    cases hd : d a
    · rw [hd] at h
      rcases List.mem_cons.1 h with rfl | h
      · exact .head _
      · exact .tail _ (mfV_sub v h)
    · rw [hd] at h
      exact .tail _ (mfV_sub v h)
theorem offS_rel {B C : Int} {F G : FS} (h : RR B F G) (hF : FI C F) {n : Int} (hn : RG n) : offS G (shB B n) = offS F n := by
  unfold offS
  rw [h.gk, h.lk, h.lv, h.any, mhas_sB hn hF.gk, mget_sB hn hF.lk]
  cases ha : F.any
  · rfl
  · rw [h.nw ha, dif_sB]
theorem nowS_rel {B : Int} {F G : FS} (h : RR B F G) (t : Int) : nowS G t = nowS F t := by unfold nowS; rw [h.now]
theorem now_bd {C : Int} {F : FS} (hF : FI C F) (t : Int) : 0 ≤ nowS F t ∧ nowS F t ≤ 4611686018427387904 := by
  have := hF.now
  unfold nowS; omega
theorem take_rel {B C : Int} {F G : FS} (h : RR B F G) (hF : FI C F) {n : Int} (hn : RG n) (t z : Int) : RR B (takeS F t n z) (takeS G t (shB B n) z) ∧ FI C (takeS F t n z) ∧ (takeS F t n z).any = true := by
  have hnw := nowS_rel h t
  have hbd := now_bd hF t
  have k1 : mputK G.gk (shB B n) = (mputK F.gk n).map (shB B) := by rw [h.gk, mputK_sB hn hF.gk]
  have k2 : mputV G.gk G.gv (shB B n) (nowS G t) = mputV F.gk F.gv n (nowS F t) := by rw [h.gk, h.gv, mputV_sB hn hF.gk, hnw]
  have r1 := mputK_RG hF.gk hn
  have r2 := mputK_nodup (n := n) hF.gn
  have r3 : ∀ v ∈ mputV F.gk F.gv n (nowS F t), 0 ≤ v ∧ v ≤ 4611686018427387904 := mputV_bd hF.gv hbd
  have sub : ∀ {d : Int → Bool} {k : List Int}, (∀ a ∈ k, RG a) → ∀ a ∈ mfK d k, RG a := fun hk a ha => hk a ((mem_mfK.1 ha).1)
  cases ha : F.any
  · have hs : ∀ x : Int, ¬ dif x x < 0 := fun x => by unfold dif; split <;> omega
    unfold takeS
    simp only [ha, h.any, Bool.false_eq_true, if_false, if_neg (hs _)]
    refine ⟨⟨k1, k2, h.lk, h.lv, h.cl, h.r, rfl, hnw, fun _ => rfl, fun _ => rfl, h.ct, h.ev, h.ea, h.en⟩, ⟨r1, hF.lk, r2, hF.ln, r3, hF.cl, hF.r, hbd, hn, hn, hF.en, hF.ct, hF.ea, fun _ => rfl⟩, trivial⟩
  · have hd : dif G.nw (shB B n) = dif F.nw n := by rw [h.nw ha, dif_sB]
    unfold takeS
    simp only [ha, h.any, if_true, hd]
    by_cases hc : dif F.nw n < 0
    · simp only [if_pos hc]
      refine ⟨⟨by simp only; rw [k1, mfK_sB], by simp only; rw [k1, k2, mfV_sB], by simp only; rw [h.lk, mfK_sB], by simp only; rw [h.lk, h.lv, mfV_sB], h.cl, h.r, rfl, hnw, fun _ => h.fs ha, fun _ => rfl, h.ct, h.ev, h.ea, h.en⟩,
        ⟨sub r1, sub hF.lk, mfK_nodup r2, mfK_nodup hF.ln, fun v hv => r3 v (mfV_sub v hv), hF.cl, hF.r, hbd, hF.fs, hn, hF.en, hF.ct, hF.ea, fun _ => rfl⟩, trivial⟩
    · simp only [if_neg hc]
      exact ⟨⟨k1, k2, h.lk, h.lv, h.cl, h.r, rfl, hnw, fun _ => h.fs ha, fun _ => h.nw ha, h.ct, h.ev, h.ea, h.en⟩, ⟨r1, hF.lk, r2, hF.ln, r3, hF.cl, hF.r, hbd, hF.fs, hF.nw, hF.en, hF.ct, hF.ea, fun _ => rfl⟩, trivial⟩
theorem RG_U {n : Int} (h : RG n) : U n := by unfold RG at h; unfold U; omega
theorem RG_mod {n : Int} (h : RG n) : n % 281474976710656 = n := by unfold RG at h; omega
theorem put_rel {B C : Int} {F G : FS} (h : RR B F G) (hF : FI C F) (hC : C + 250 < 1000000) {n : Int} (hn : RG n) (t z : Int) :
    ∃ F' G' b, RR B F' G' ∧ FI (C + 250) F' ∧ feed_Put F.gk F.gv F.lk F.lv F.cl F.r F.any F.now F.fs F.nw F.ct F.ev F.ea F.en F.bs F.si t n z = some (F'.ls ++ [.b b]) ∧
      feed_Put G.gk G.gv G.lk G.lv G.cl G.r G.any G.now G.fs G.nw G.ct G.ev G.ea G.en G.bs G.si t (shB B n) z = some (G'.ls ++ [.b b]) := by
  have hn2 := shB_RG B n
  have ho := offS_rel h hF hn
  cases hoff : offS F n
  · obtain ⟨r1, r2, r3⟩ := take_rel h hF hn t z
    obtain ⟨F', G', q1, q2, q3, q4, q5⟩ := look_rel r1 r2 r3 hC
    have p1 := put_take F t z (RG_U hn) (by rw [RG_mod hn]; exact hoff) hF.gn hF.ln (K := F')
    have p2 := put_take G t z (RG_U hn2) (by rw [RG_mod hn2, ho]; exact hoff) (by rw [h.gk]; exact map_nodup hF.gk hF.gn) (by rw [h.lk]; exact map_nodup hF.lk hF.ln) (K := G')
    rw [RG_mod hn] at p1
    rw [RG_mod hn2] at p2
    exact ⟨F', G', true, q1, q2, p1 q4, p2 q5⟩
  · have p1 := put_off F t z (RG_U hn) (by rw [RG_mod hn]; exact hoff)
    have p2 := put_off G t z (RG_U hn2) (by rw [RG_mod hn2, ho]; exact hoff)
    refine ⟨_, _, false, ?_, ?_, p1, p2⟩
    · exact ⟨h.gk, h.gv, h.lk, h.lv, h.cl, h.r, h.any, nowS_rel h t, h.fs, h.nw, h.ct, h.ev, h.ea, h.en⟩
    · have := hF.ct
      exact ⟨hF.gk, hF.lk, hF.gn, hF.ln, hF.gv, hF.cl, hF.r, now_bd hF t, hF.fs, hF.nw, hF.en, by simp only; omega, hF.ea, hF.an⟩
theorem fo6 {o0 o1 o2 o3 : List Int} {bY : Int} (hY : U bY) (h2 : ∀ x ∈ o2, U x) : ∀ (m n : Nat) (i C : Int) (F G : FS), 0 ≤ i → i + m = 50 → (o1.length = o0.length ∧ o2.length = o0.length ∧ o3.length = o0.length) → RR (bY % 281474976710656) F G → FI C F → C = 250 * i → m < n →
    ∃ F' G', RR (bY % 281474976710656) F' G' ∧ FI 12500 F' ∧ ∀ {α : Type} (kx : Nat → List Leaf → Option α) (kr : List Leaf → Option α), FeedRound_6_L kx kr n o0 o1 o2 o3 G.gk G.gv G.lk G.lv G.cl F.gk F.gv F.lk F.lv F.cl G.r G.any G.now G.fs G.nw G.ct G.ev G.ea G.en G.bs G.si F.r F.any F.now F.fs F.nw F.ct F.ev F.ea F.en F.bs F.si i bY =
      kx 0 [.li o0, .li o1, .li o2, .li o3, .li G'.gk, .li G'.gv, .li G'.lk, .lb G'.lv, .li G'.cl, .li F'.gk, .li F'.gv, .li F'.lk, .lb F'.lv, .li F'.cl, .i G'.r, .b G'.any, .i G'.now, .i G'.fs, .i G'.nw, .i G'.ct, .b G'.ev, .i G'.ea, .i G'.en, .i G'.bs, .i G'.si, .i F'.r, .b F'.any, .i F'.now, .i F'.fs, .i F'.nw, .i F'.ct, .b F'.ev, .i F'.ea, .i F'.en, .i F'.bs, .i F'.si]
  | 0, n, i, C, F, G, h0, h1, hl, hR, hF, hC, hn => by
    obtain ⟨n, rfl⟩ : ∃ n', n = n' + 1 := ⟨n - 1, by omega⟩
    refine ⟨F, G, hR, by obtain rfl : C = 12500 := by omega
                         exact hF, fun kx kr => ?_⟩
    simp only [FeedRound_6_L, FeedRound_6_B, one_ev]
    by_cases c1 : i < Int.ofNat o0.length
    · rw [br_pos c1, br_neg (by omega)]
      simp only [decide_true, Bool.and_true, chk_t]
    · rw [br_neg c1]
      simp only [decide_true, Bool.and_true, chk_t]
  | m + 1, n, i, C, F, G, h0, h1, hl, hR, hF, hC, hn => by
    obtain ⟨n, rfl⟩ : ∃ n', n = n' + 1 := ⟨n - 1, by omega⟩
    by_cases c1 : i < Int.ofNat o0.length
    · have hU : U (o2.getD i.toNat 0) := by
        have hlt : i.toNat < o2.length := by simp only [Int.ofNat_eq_natCast] at c1; omega
        rw [List.getD_eq_getElem?_getD, List.getElem?_eq_getElem hlt]
        exact h2 _ (List.getElem_mem hlt)
      obtain ⟨N, hN⟩ : ∃ N, N = (o2.getD i.toNat 0) % 400 := ⟨_, rfl⟩
      have hNR : RG N := by rw [hN]; unfold RG; omega
      have hN4 : 0 ≤ N ∧ N < 400 := by omega
      have e1 : remI .u64 (o2.getD i.toNat 0) 400 = N := by rw [remI_u hU.1, hN]
      obtain ⟨D, hD⟩ : ∃ D, D = bY % 281474976710656 := ⟨_, rfl⟩
      have hDb : 0 ≤ D ∧ D < 281474976710656 := by rw [hD]; omega
      have e2 : addI .u64 N D = N + D := by rw [addI_u]; omega
      have e3 : (N + D) % 281474976710656 = shB D N := rfl
      have e4 : addI .i64 i 1 = i + 1 := addI_i (by unfold I63; omega)
      rw [← hD] at hR
      obtain ⟨F1, G1, b, q1, q2, q3, q4⟩ := put_rel hR hF (by omega) hNR (max 0 (min (o3.getD i.toNat 0) 2305843009213693952)) (o1.getD i.toNat 0)
      rw [hD] at q1
      obtain ⟨F', G', g1, g2, g3⟩ := fo6 hY h2 m n (i + 1) (C + 250) F1 G1 (by omega) (by omega) hl q1 q2 (by omega) (by omega)
      refine ⟨F', G', g1, g2, fun kx kr => ?_⟩
      rw [← g3 kx kr]
      simp only [FeedRound_6_L, FeedRound_6_B, one_ev]
      rw [br_pos c1, br_pos (show i < 50 by omega), chk_pos ⟨h0, c1⟩, chk_pos ⟨h0, c1⟩]
      simp only [minI_eq, maxI_eq, e1, decide_true, Bool.and_true, chk_t, q3, FS.ls, List.cons_append, List.nil_append, out_ev, un_li_ev, un_lb_ev, un_b_ev, un_i_ev, un_nil_ev, rseq_t hY, ← hD, e2, rseq_t (show U (N + D) by unfold U; omega), e3, q4, e4]
      cases b <;> simp only [Bool.not_true, Bool.not_false, br_f, show (!true == true) = false from rfl, show (!false == false) = false from rfl]
    · refine ⟨F, G, hR, ⟨hF.gk, hF.lk, hF.gn, hF.ln, hF.gv, hF.cl, hF.r, hF.now, hF.fs, hF.nw, hF.en, by have := hF.ct; omega, hF.ea, hF.an⟩, fun kx kr => ?_⟩
      simp only [FeedRound_6_L, FeedRound_6_B, one_ev]
      rw [br_neg c1]
      simp only [decide_true, Bool.and_true, chk_t]
theorem same4 {l : List Int} {α : Type} (kx : Nat → List Leaf → Option α) (kr : List Leaf → Option α) : ∀ (m n : Nat) (i : Int), 0 ≤ i → i + m = Int.ofNat l.length → i ≤ 1000000 → l.length ≤ 1000000 → m < n → law_same_4_L kx kr n l l i (Int.ofNat l.length) = kx 0 [.li l, .li l]
  | 0, n, i, h0, h1, h2, h3, hn => by
    obtain ⟨n, rfl⟩ : ∃ n', n = n' + 1 := ⟨n - 1, by omega⟩
    simp only [law_same_4_L, law_same_4_B]
    rw [br_neg (by omega)]
  | m + 1, n, i, h0, h1, h2, h3, hn => by
    obtain ⟨n, rfl⟩ : ∃ n', n = n' + 1 := ⟨n - 1, by omega⟩
    have e4 : addI .i64 i 1 = i + 1 := addI_i (by unfold I63; omega)
    have hlt : i < Int.ofNat l.length := by omega
    simp only [law_same_4_L, law_same_4_B]
    rw [br_pos hlt, chk_pos ⟨h0, hlt⟩, chk_pos ⟨h0, hlt⟩, chk_pos ⟨h0, hlt⟩, chk_pos ⟨h0, hlt⟩, bne_self_eq_false, br_f]
    simp only [one_ev, e4, decide_true, Bool.and_true, chk_t]
    exact same4 kx kr m n (i + 1) (by omega) (by omega) (by simp only [Int.ofNat_eq_natCast] at hlt; omega) h3 (by omega)
theorem same_t {l : List Int} (h : l.length ≤ 1000000) : law_same l l = some [.b true] := by
  unfold law_same law_same_d
  simp only [one_ev, bne_self_eq_false, br_f, decide_true, Bool.and_true, chk_t]
  rw [same4 _ _ l.length top 0 (by omega) (by simp) (by omega) h (by unfold top; omega)]
  simp only [beq00, br_t, un_li_ev, un_nil_ev]
theorem FeedRound_tr {o0 o1 o2 o3 : List Int} {bY : Int} (hY : U bY) (h2 : ∀ x ∈ o2, U x) (hl : o1.length = o0.length ∧ o2.length = o0.length ∧ o3.length = o0.length) : FeedRound o0 o1 o2 o3 bY = some [.b true] := by
  unfold FeedRound FeedRound_d
  have hnew : feed_New 1000 = some [.li [], .li [], .li [], .lb [], .li [], .i 1000, .b false, .i 0, .i 0, .i 0, .i 0, .b false, .i 0, .i 0, .i 0, .i 0] := by kernel_rfl
  obtain ⟨F, G, hR, hF, h6⟩ := fo6 (o0 := o0) (o1 := o1) (o3 := o3) hY h2 50 top 0 0 ⟨[], [], [], [], [], 1000, false, 0, 0, 0, 0, false, 0, 0, 0, 0⟩ ⟨[], [], [], [], [], 1000, false, 0, 0, 0, 0, false, 0, 0, 0, 0⟩ (by omega) (by omega) hl
    ⟨rfl, rfl, rfl, rfl, rfl, rfl, rfl, rfl, fun h => (by cases h), fun h => (by cases h), rfl, rfl, rfl, fun h => (by cases h)⟩
    ⟨fun n h => (by cases h), fun n h => (by cases h), List.nodup_nil, List.nodup_nil, fun n h => (by cases h), ⟨by simp, fun n h => (by cases h)⟩, rfl, by simp, by unfold RG; simp, by unfold RG; simp, by unfold RG; simp, by simp, by simp, fun h => (by cases h)⟩ (by omega) (by unfold top; omega)
  simp only at h6
  simp only [one_ev, hnew, out_ev, un_li_ev, un_lb_ev, un_i_ev, un_b_ev, un_nil_ev, decide_true, Bool.and_true, chk_t]
  rw [h6]
  have z0 : decide ((0 : Int) = Int.ofNat (0 : Nat)) = true := by decide
  have g1 : min (0 : Int) 8 = 0 := by omega
  have g2 : condSl 0 Option.none (Option.some 0) = true := by decide
  have g3 : ival_Weight 0 = some [.i 5] := rfl
  have g4 : fix_Mul 0 5 = some [.i 0] := by rw [fix_Mul_t (by unfold U; omega) (by unfold U; omega) (by unfold U; omega)]; rfl
  have g5 : max (0 : Int) 0 = 0 := by omega
  have g6 := same_t (l := []) (by simp)
  have g7 := same_t (l := F.cl) (by have := hF.cl.1; omega)
  simp only [beq00, br_t, un_li_ev, un_lb_ev, un_i_ev, un_b_ev, un_nil_ev]
  cases he : F.ev
  · simp only [hR.ev, he, Bool.not_false, br_t, z0, Bool.and_true, chk_t, g6, out_ev, un_b_ev, un_i_ev, un_nil_ev, decide_true, feed_Lost, hR.ct, one_ev, minI_eq, maxI_eq, g1, g2, g3, g4, g5]
    rw [br_eq rfl]
    rfl
  · obtain ⟨O, hO⟩ : ∃ O, O = wrapI .u64 (max (dif F.nw F.en) 0) := ⟨_, rfl⟩
    have hOU : U O := by
      have := dif_bd F.nw F.en
      rw [hO, wrapI_u]; unfold U; omega
    have room : (Int.ofNat F.cl.length * (↑(nat_lit 8) : Int) ≤ (140737488355328 : Int) ∧ Int.ofNat F.cl.length ≤ (4611686018427387904 : Int)) := by
      have := hF.cl.1
      simp only [Int.ofNat_eq_natCast]; constructor <;> omega
    have hrate := ival_Rate_t (l := F.cl) (o := O) (fun x hx => by have := hF.cl.2 x hx; unfold U; omega) hOU
    simp only [hR.ev, he, Bool.not_true, br_f, diffD_t, out_ev, un_i_ev, un_nil_ev, one_ev, maxI_eq, hR.nw (hF.an he), hR.en he, dif_sB, hR.cl, room, and_self, decide_true, Bool.and_true, Bool.true_and, chk_t, ← hO, g7, un_b_ev, br_t, feed_Lost, hR.ct, hrate]
    rw [br_eq rfl, br_eq rfl]
    simp
theorem FeedRound_true {o0 o1 o2 o3 : List Int} {bY : Int} (_ : ∀ x ∈ o0, I63 x) (_ : ∀ x ∈ o1, I63 x) (h2 : ∀ x ∈ o2, U x) (_ : ∀ x ∈ o3, I63 x) (l1 : o1.length = o0.length) (l2 : o2.length = o0.length) (l3 : o3.length = o0.length) (hY : U bY) : FeedRound o0 o1 o2 o3 bY = some [.b true] :=
  FeedRound_tr hY h2 ⟨l1, l2, l3⟩
end Go.Sx.T

