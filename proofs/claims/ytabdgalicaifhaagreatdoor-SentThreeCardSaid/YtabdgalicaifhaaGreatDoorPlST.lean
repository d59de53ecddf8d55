import Derived.Test.YtabdgalicaifhaaGreatDoorYSTSpec
import Derived.Test.YtabdgalicaifhaaGreatDoorPlSq
set_option linter.all false
namespace Go.Sx.T
open Go Go.Sx
def fi : Nat → Int := fun i => (i : Int)
theorem st8 {first hole : Int} (hu : U first) {N : Nat} (hN : N ≤ 60) {α : Type} (kx : Nat → List Leaf → Option α) (kr : List Leaf → Option α) : ∀ (m n k : Nat), k + m = N → m < n →
    SentThree_8_L kx kr n (pn (seqP first fi k)) (pt (seqP first fi k)) (pw (seqP first fi k)) (lastP first k) (decide (k ≠ 0)) k first hole N =
      kx 0 [.li (pn (seqP first fi N)), .li (pt (seqP first fi N)), .li (pw (seqP first fi N)), .i (lastP first N), .b (decide (N ≠ 0)), .i hole, .i N, .i first]
  | 0, n, k, hk, hn => by
    obtain ⟨n, rfl⟩ : ∃ n', n = n' + 1 := ⟨n - 1, by omega⟩
    obtain rfl : k = N := by omega
    simp only [SentThree_8_L, SentThree_8_B]
    rw [br_neg (by omega)]
    simp only [decide_true, Bool.and_true, chk_t]
  | m + 1, n, k, hk, hn => by
    obtain ⟨n, rfl⟩ : ∃ n', n = n' + 1 := ⟨n - 1, by omega⟩
    have ih := st8 (hole := hole) hu hN kx kr m n (k + 1) (by omega) (by omega)
    have e1 : addI .i64 (k : Int) 1 = ((k + 1 : Nat) : Int) := by rw [addI_i (by unfold I63; omega)]; rfl
    have hp := put_seq (first := first) (f := fi) (k := k) (by omega) (by simp [fi]) (by simp [fi]; omega)
    rw [show fi k = (k : Int) from rfl] at hp
    simp only [SentThree_8_L, SentThree_8_B]
    rw [br_pos (by omega), rstep_t _ hu]
    simp only [out_ev, un_i_ev, un_nil_ev, one_ev, e1, decide_true, Bool.and_true, chk_t, hp, un_li_ev, un_b_ev, Bool.not_true, br_f]
    exact ih
/-- The cells: the last one first. -/
def cv (N Hn j : Nat) : Int := if j + Hn + 1 = N then 3 else 0
def cl (N Hn k : Nat) : List Int := (List.range k).map (cv N Hn)
theorem cl_succ (N Hn k : Nat) : cl N Hn (k + 1) = cl N Hn k ++ [cv N Hn k] := by simp [cl, List.range_succ]
theorem st14 {a b c : List Int} {last first : Int} {any : Bool} {N Hn : Nat} (hN : N ≤ 60) {α : Type} (kx : Nat → List Leaf → Option α) (kr : List Leaf → Option α) : ∀ (m n k : Nat), k + m = N → m < n →
    SentThree_14_L kx kr n (cl N Hn k) (List.replicate k 1) a b c last any ((N : Int) - 1 - k) Hn N first =
      kx 2 [.li a, .li b, .li c, .li (cl N Hn N), .li (List.replicate N 1), .i last, .b any, .i Hn, .i N, .i first]
  | 0, n, k, hk, hn => by
    obtain ⟨n, rfl⟩ : ∃ n', n = n' + 1 := ⟨n - 1, by omega⟩
    obtain rfl : k = N := by omega
    simp only [SentThree_14_L, SentThree_14_B]
    rw [br_neg (by omega)]
    simp only [decide_true, Bool.and_true, chk_t]
  | m + 1, n, k, hk, hn => by
    obtain ⟨n, rfl⟩ : ∃ n', n = n' + 1 := ⟨n - 1, by omega⟩
    have ih := st14 (a := a) (b := b) (c := c) (last := last) (first := first) (any := any) (Hn := Hn) hN kx kr m n (k + 1) (by omega) (by omega)
    have e1 : subI .i64 ((N : Int) - 1 - k) 1 = (N : Int) - 1 - ((k + 1 : Nat) : Int) := by rw [subI_i (by unfold I63; omega)]; omega
    have room : ((Int.ofNat (cl N Hn k).length + (↑(1 : Nat) : Int)) * (↑(nat_lit 16) : Int) ≤ (140737488355328 : Int) ∧ Int.ofNat (cl N Hn k).length + (↑(1 : Nat) : Int) ≤ (4611686018427387904 : Int)) := by
      simp only [Int.ofNat_eq_natCast, cl, List.length_map, List.length_range]; constructor <;> omega
    have grown : ∀ {l : List Int} {s : Int}, decide (Int.ofNat l.length + (↑(1 : Nat) : Int) = Int.ofNat (List.length (l ++ [s]))) = true := fun {l s} => by simp
    simp only [SentThree_14_L, SentThree_14_B, one_ev, e1, decide_true, Bool.and_true, chk_t, room, grown, and_self]
    rw [cl_succ, List.replicate_succ'] at ih
    rw [br_pos (by omega)]
    by_cases h : k + Hn + 1 = N
    · rw [br_eq (by omega)]
      rw [show cv N Hn k = 3 from if_pos h] at ih
      exact ih
    · rw [br_ne (by omega)]
      rw [show cv N Hn k = 0 from if_neg h] at ih
      exact ih
theorem spr_ones : ∀ a : List Int, spr a (List.replicate a.length 1) = a
  | [] => rfl
  | s :: a => by simp only [List.length_cons, List.replicate_succ, spr, spr_ones a]; rfl
theorem ones_ok {a : List Int} (h : ∀ s ∈ a, St s) : CsOk a (List.replicate a.length 1) := ⟨by simp, h, fun r hr => by
  obtain ⟨_, rfl⟩ := List.mem_replicate.1 hr
  omega⟩
theorem lose_gots : ∀ {q : List Pk}, (∀ p ∈ q, p.w = 1) → lose q = ⟨q, q.length, []⟩
  | [], _ => rfl
  | p :: q, h => by
    have ih := lose_gots (q := q) (fun x hx => h x (by simp [hx]))
    simp only [lose, ih, lstep, if_pos (h p (by simp)), List.length_cons]
    rfl
set_option maxHeartbeats 4000000 in
theorem SentThree_true {n2 hole first : Int} (hu : U first) : SentThree n2 hole first = some [.b true] := by
  unfold SentThree SentThree_d
  obtain ⟨N', hN0, hN1, hN⟩ := rem_N (m := 30) (by omega) (by omega) n2
  obtain ⟨N'', rfl⟩ : ∃ N : Nat, N' = (N : Int) := ⟨N'.toNat, by omega⟩
  obtain ⟨N, hNe⟩ : ∃ N, N = 5 + N'' := ⟨_, rfl⟩
  have e1 : addI .i64 5 (N'' : Int) = (N : Int) := by rw [addI_i (by unfold I63; omega)]; omega
  obtain ⟨H', hH0, hH1, hH⟩ := rem_N (m := (N : Int)) (by omega) (by omega) hole
  obtain ⟨Hn, rfl⟩ : ∃ N : Nat, H' = (N : Int) := ⟨H'.toNat, by omega⟩
  obtain ⟨D, hD⟩ : ∃ D, N = Hn + 1 + D := ⟨N - (Hn + 1), by omega⟩
  have hnz : decide ((N : Int) ≠ 0) = true := decide_eq_true (by omega)
  have z0 : decide ((0 : Int) = Int.ofNat (0 : Nat)) = true := by decide
  have e2 : subI .i64 (N : Int) 1 = (N : Int) - 1 := subI_i (by unfold I63; omega)
  have e3 : subI .i64 ((N : Int) - 1) (Hn : Int) = (D : Int) := by rw [subI_i (by unfold I63; omega)]; omega
  simp only [one_ev, hN, e1, hnz, chk_t, hH, new_t, out_ev, un_li_ev, un_i_ev, un_b_ev, un_nil_ev, decide_true, Bool.and_true]
  have hL := fun kx kr => st8 (hole := (Hn : Int)) hu (N := N) (by omega) (α := List Leaf) kx kr N top 0 (by omega) (top_gt (by omega))
  rw [show seqP first fi 0 = [] from rfl, show lastP first 0 = 0 from rfl] at hL
  simp only [pn, pt, pw, List.map_nil, Int.natCast_zero, show decide ((0 : Nat) ≠ 0) = false by decide] at hL
  rw [hL]
  simp only [beq00, br_t, un_li_ev, un_i_ev, un_b_ev, un_nil_ev, z0, chk_t, e2]
  simp only [show ∀ (l : List Pk), l.map Pk.n = pn l from fun _ => rfl, show ∀ (l : List Pk), l.map Pk.t = pt l from fun _ => rfl, show ∀ (l : List Pk), l.map Pk.w = pw l from fun _ => rfl]
  have hL2 := fun a b c last any kx kr => st14 (a := a) (b := b) (c := c) (last := last) (first := first) (any := any) (N := N) (Hn := Hn) (by omega) (α := List Leaf) kx kr N top 0 (by omega) (top_gt (by omega))
  simp only [show cl N Hn 0 = [] from rfl, List.replicate_zero, Int.natCast_zero, Int.sub_zero] at hL2
  rw [hL2]
  simp only [show Nat.beq 2 2 = true from rfl, br_t, un_li_ev, un_i_ev, un_b_ev, un_nil_ev]
  -- the vectors
  have hclen : (cl N Hn N).length = N := by simp [cl]
  have hcg : ∀ j, j < N → (cl N Hn N).getD j 0 = cv N Hn j := fun j hj => by
    unfold cl
    rw [List.getD_eq_getElem?_getD, List.getElem?_map, List.getElem?_range hj]
    rfl
  have hcS : ∀ s ∈ cl N Hn N, St s := fun s hs => by
    obtain ⟨j, _, rfl⟩ := List.mem_map.1 hs
    unfold cv; split
    · exact .inr (.inr rfl)
    · exact .inl rfl
  have hok1 : CsOk (cl N Hn N) (List.replicate N 1) := by have := ones_ok hcS; rwa [hclen] at this
  have hsp1 : spr (cl N Hn N) (List.replicate N 1) = cl N Hn N := by have := spr_ones (cl N Hn N); rwa [hclen] at this
  let c2 := (cl N Hn N).set D 1
  have hc2l : c2.length = N := by show ((cl N Hn N).set D 1).length = N; rw [List.length_set, hclen]
  have hc2S : ∀ s ∈ c2, St s := fun s hs => by
    rcases List.mem_or_eq_of_mem_set hs with h | rfl
    · exact hcS s h
    · exact .inr (.inl rfl)
  have hok2 : CsOk c2 (List.replicate N 1) := by have := ones_ok hc2S; rwa [hc2l] at this
  have hsp2 : spr c2 (List.replicate N 1) = c2 := by have := spr_ones c2; rwa [hc2l] at this
  let ack := (first + ((N : Int) - 1)) % 281474976710656
  have hdif : ∀ k : Nat, k < N → dif ack ((first + (k : Int)) % 281474976710656) = ((N - 1 - k : Nat) : Int) := fun k hk => by
    show dif ((first + ((N : Int) - 1)) % 281474976710656) _ = _
    rw [dif_seq (by omega) (by omega)]; omega
  have ht1 : ∀ k : Nat, k < N → told (cl N Hn N) ack ((first + (k : Int)) % 281474976710656) = if k = Hn then 3 else 0 := fun k hk => by
    unfold told
    rw [hdif k hk, if_pos (by rw [hclen]; omega), Int.toNat_natCast, hcg _ (by omega)]
    unfold cv
    by_cases h : k = Hn
    · rw [if_pos h, if_pos (by omega)]
    · rw [if_neg h, if_neg (by omega)]
  have ht2 : told c2 ack ((first + (Hn : Int)) % 281474976710656) = 1 := by
    unfold told
    rw [hdif Hn (by omega), if_pos (by rw [hc2l]; omega), Int.toNat_natCast, show N - 1 - Hn = D by omega]
    show ((cl N Hn N).set D 1).getD D 0 = 1
    rw [List.getD_eq_getElem?_getD, List.getElem?_set_self (by rw [hclen]; omega)]
    rfl
  -- the packets
  let A := seqP first fi Hn
  let B := tail first fi (Hn + 1) D
  let hk : Int → Pk := fun w => ⟨(first + (Hn : Int)) % 281474976710656, (Hn : Int), w⟩
  let S : Int → List Pk := fun w => gotAll A ++ ([hk w] ++ gotAll B)
  have hps : seqP first fi N = A ++ ([hk 0] ++ B) := by
    rw [hD, seqP_add, seqP_succ, List.append_assoc]; rfl
  have hA : ∀ p ∈ A, told (cl N Hn N) ack p.n = 0 ∧ p.w = 0 := fun p hp => by
    obtain ⟨i, hi, rfl⟩ := List.mem_map.1 hp
    have : i < Hn := by simpa using hi
    exact ⟨by rw [ht1 i (by omega), if_neg (by omega)], rfl⟩
  have hB : ∀ p ∈ B, told (cl N Hn N) ack p.n = 0 ∧ p.w = 0 := fun p hp => by
    obtain ⟨i, hi, rfl⟩ := List.mem_map.1 hp
    have : i < D := by simpa using hi
    exact ⟨by show told _ _ ((first + ((Hn + 1 + i : Nat) : Int)) % 281474976710656) = 0; rw [ht1 _ (by omega), if_neg (by omega)], rfl⟩
  have hgA : ∀ q : List Pk, ∀ p ∈ gotAll q, p.w = 1 := fun q p hp => by
    obtain ⟨q, _, rfl⟩ := List.mem_map.1 hp
    rfl
  have hAl : A.length = Hn := seqP_len _ _ _
  have hBl : B.length = D := tail_len _ _ _ _
  have hgl : ∀ q : List Pk, (gotAll q).length = q.length := fun q => by simp [gotAll]
  have hSl : ∀ w, (S w).length = N := fun w => by
    show (gotAll A ++ ([hk w] ++ gotAll B)).length = N
    simp only [List.length_append, hgl, hAl, hBl, List.length_cons, List.length_nil]; omega
  have hat1 : ∀ p ∈ A ++ ([hk 0] ++ B), 0 ≤ p.t ∧ p.t ≤ 4611686018427387904 := fun p hp => by
    rw [← hps] at hp
    obtain ⟨i, hi, rfl⟩ := List.mem_map.1 hp
    have : i < N := by simpa using hi
    show 0 ≤ (i : Int) ∧ (i : Int) ≤ _
    omega
  have hatS : ∀ w, ∀ p ∈ S w, 0 ≤ p.t ∧ p.t ≤ 4611686018427387904 := fun w p hp => by
    rcases List.mem_append.1 hp with h | h
    · obtain ⟨q, hq, rfl⟩ := List.mem_map.1 h
      exact hat1 q (by simp [hq])
    · rcases List.mem_append.1 h with h | h
      · obtain rfl : p = hk w := by simpa using h
        show 0 ≤ (Hn : Int) ∧ (Hn : Int) ≤ _
        omega
      · obtain ⟨q, hq, rfl⟩ := List.mem_map.1 h
        exact hat1 q (by simp [hq])
  have hf1 : ∃ rt, hfold (told (spr (cl N Hn N) (List.replicate N 1)) ack) (min (max 1000 0) 4611686018427387904) (A ++ ([hk 0] ++ B)) ⟨[], [], 0, -1⟩ = (S 0, ⟨pn A ++ pn B, [], 0, rt⟩) := by
    rw [hsp1, hfold_app, hfold_got hA, hfold_app, hfold_skip (q := [hk 0]) (fun p hp => by
      obtain rfl : p = hk 0 := by simpa using hp
      refine .inl ?_
      show told _ _ ((first + (Hn : Int)) % 281474976710656) = 3
      rw [ht1 Hn (by omega), if_pos rfl]), hfold_got hB]
    exact ⟨_, rfl⟩
  obtain ⟨rt, hf1⟩ := hf1
  have hlB := lose_gots (hgA B)
  have hlA := fun q => lose_app (A := gotAll A) (q := q) (hgA A)
  have hskA : ∀ tl t h, hfold tl t (gotAll A) h = (gotAll A, h) := fun tl t h => hfold_skip fun p hp => .inr (hgA A p hp)
  have hskB : ∀ tl t h, hfold tl t (gotAll B) h = (gotAll B, h) := fun tl t h => hfold_skip fun p hp => .inr (hgA B p hp)
  have hS1 : ∀ p ∈ S 1, p.w = 1 := fun p hp => by
    rcases List.mem_append.1 hp with h | h
    · exact hgA A p h
    · rcases List.mem_append.1 h with h | h
      · obtain rfl : p = hk 1 := by simpa using h
        rfl
      · exact hgA B p h
  have hl1 := lose_all (q := S 1) (fun p hp => by rw [hS1 p hp]; decide)
  have hf3 : hfold (told (spr c2 (List.replicate N 1)) ack) (min (max 3000 0) 4611686018427387904) (S 1) ⟨[], [], 0, -1⟩ = (S 1, ⟨[], [], 0, -1⟩) := hfold_skip fun p hp => .inr (hS1 p hp)
  have hog : ∀ q, outs (gotAll q) = 0 := fun q => by
    unfold outs
    rw [List.filter_eq_nil_iff.2 (fun p hp => by rw [hgA q p hp]; decide)]
    rfl
  have ho1 : outs (S 1) = 0 := by
    show outs (gotAll A ++ ([hk 1] ++ gotAll B)) = 0
    rw [outs_app, outs_app, hog, hog]; rfl
  obtain ⟨w, lostL, got2, late2, rtt2, F1, F1', F2, F3⟩ : ∃ (w : Int) (lostL got2 late2 : List Int) (rtt2 : Int), (lose (S 0)).ps = S w ∧ (lose (S 0)).l = lostL ∧ hfold (told (spr c2 (List.replicate N 1)) ack) (min (max 2000 0) 4611686018427387904) (S w) ⟨[], [], 0, -1⟩ = (S 1, ⟨got2, late2, 1, rtt2⟩) ∧
      ((3 ≤ D ∧ lostL.length = 1 ∧ got2.length = 0 ∧ late2.length = 1 ∧ rtt2 = -1 ∧ outs (S w) = 0) ∨ (D < 3 ∧ lostL.length = 0 ∧ got2.length = 1 ∧ late2.length = 0 ∧ rtt2 ≠ -1 ∧ outs (S w) = 1)) := by
    by_cases h : 3 ≤ D
    · refine ⟨2, [(hk 0).n], [], [(hk 0).n], -1, ?_, ?_, ?_, .inl ⟨h, rfl, rfl, rfl, rfl, ?_⟩⟩
      · show (lose (gotAll A ++ (hk 0 :: gotAll B))).ps = _
        rw [(hlA _).1, lose, hlB, lstep, if_neg (show ¬ (hk 0).w = 1 from (by decide : ¬ (0 : Int) = 1)), if_pos ⟨rfl, by show (3 : Int) ≤ ((gotAll B).length : Int); rw [hgl, hBl]; omega⟩]
        rfl
      · show (lose (gotAll A ++ (hk 0 :: gotAll B))).l = _
        rw [(hlA _).2, lose, hlB, lstep, if_neg (show ¬ (hk 0).w = 1 from (by decide : ¬ (0 : Int) = 1)), if_pos ⟨rfl, by show (3 : Int) ≤ ((gotAll B).length : Int); rw [hgl, hBl]; omega⟩]
      · show hfold _ _ (gotAll A ++ ([hk 2] ++ gotAll B)) _ = _
        rw [hsp2, hfold_app, hskA, hfold_app, hskB]
        have : hstep (told c2 ack) (min (max 2000 0) 4611686018427387904) (hk 2) ⟨[], [], 0, -1⟩ = (hk 1, ⟨[], [(hk 0).n], 1, -1⟩) := by
          unfold hstep
          rw [show told c2 ack (hk 2).n = 1 from ht2, if_neg (show ¬ ((1 : Int) = 3 ∨ (2 : Int) = 1) by decide), if_neg (show ¬ (2 : Int) = 0 by decide)]
          rfl
        simp only [hfold, this]
        rfl
      · show outs (gotAll A ++ ([hk 2] ++ gotAll B)) = 0
        rw [outs_app, outs_app, hog, hog]; rfl
    · refine ⟨0, [], [(hk 0).n], [], max (2000 - (Hn : Int)) 0, ?_, ?_, ?_, .inr ⟨by omega, rfl, rfl, rfl, by omega, ?_⟩⟩
      · show (lose (gotAll A ++ (hk 0 :: gotAll B))).ps = _
        rw [(hlA _).1, lose, hlB, lstep, if_neg (show ¬ (hk 0).w = 1 from (by decide : ¬ (0 : Int) = 1)), if_neg (fun x => by have := x.2; simp only [hgl, hBl] at this; omega)]
        rfl
      · show (lose (gotAll A ++ (hk 0 :: gotAll B))).l = _
        rw [(hlA _).2, lose, hlB, lstep, if_neg (show ¬ (hk 0).w = 1 from (by decide : ¬ (0 : Int) = 1)), if_neg (fun x => by have := x.2; simp only [hgl, hBl] at this; omega)]
      · show hfold _ _ (gotAll A ++ ([hk 0] ++ gotAll B)) _ = _
        rw [hsp2, hfold_app, hskA, hfold_app, hskB]
        have : hstep (told c2 ack) (min (max 2000 0) 4611686018427387904) (hk 0) ⟨[], [], 0, -1⟩ = (hk 1, ⟨[(hk 0).n], [], 1, max (2000 - (Hn : Int)) 0⟩) := by
          unfold hstep
          rw [show told c2 ack (hk 0).n = 1 from ht2, if_neg (show ¬ ((1 : Int) = 3 ∨ (0 : Int) = 1) by decide), if_pos (show (0 : Int) = 0 from rfl)]
          rfl
        simp only [hfold, this]
        rfl
      · show outs (gotAll A ++ ([hk 0] ++ gotAll B)) = 1
        rw [outs_app, outs_app, hog, hog]; rfl
  have hack : (first + ((N : Int) - 1)) % 281474976710656 = ack := rfl
  have hgot : (pn A ++ pn B).length = N - 1 := by rw [List.length_append, pn_len, pn_len, hAl, hBl]; omega
  have hO := fun w last any => out_t (last := last) (any := any) (ps := S w) (by rw [hSl]; omega)
  have cD : decide (Int.ofNat (cl N Hn N).length = Int.ofNat ((cl N Hn N).set D 1).length) = true := by rw [List.length_set]; simp
  have inD : (0 : Int) ≤ (D : Int) ∧ (D : Int) < Int.ofNat (cl N Hn N).length := by rw [hclen]; simp only [Int.ofNat_eq_natCast]; omega
  simp only [one_ev, e2, rstep_t _ hu, out_ev, un_i_ev, un_nil_ev, hack, e3, hps]
  rw [hear_t (by rw [← hps, seqP_len]; omega) hat1 hok1 (by rw [hsp1, hclen]; omega) hf1 (by rw [hSl, ← hps, seqP_len])]
  simp only [out_ev, un_li_ev, un_i_ev, un_b_ev, un_nil_ev, F1, F1', hgot, hO]
  rw [show (Int.ofNat (N - 1) != (N : Int) - 1) = false by simp only [Int.ofNat_eq_natCast]; rw [show ((N - 1 : Nat) : Int) = (N : Int) - 1 by omega]; simp, br_f]
  simp only [chk_R1 inD, cD, chk_t, Int.toNat_natCast]
  rw [hear_t (by rw [hSl]; omega) (hatS w) hok2 (by rw [hsp2, hc2l]; omega) F2 (by rw [hSl, hSl])]
  simp only [out_ev, un_li_ev, un_i_ev, un_b_ev, un_nil_ev, hl1.1, hl1.2]
  rw [hear_t (by rw [hSl]; omega) (hatS 1) hok2 (by rw [hsp2, hc2l]; omega) hf3 rfl]
  simp only [out_ev, un_li_ev, un_i_ev, un_b_ev, un_nil_ev, hl1.1, hl1.2, hO, ho1]
  have e4 : subI .i64 ((N : Int) - 1) (Int.ofNat (N - 1)) = 0 := by rw [subI_i (by unfold I63; simp only [Int.ofNat_eq_natCast]; omega)]; simp only [Int.ofNat_eq_natCast]; omega
  have e5 : addI .i64 0 1 = 1 := by decide
  have e6 : subI .i64 1 (Int.ofNat 1) = 0 := by decide
  have e7 : subI .i64 1 (Int.ofNat 0) = 1 := by decide
  rcases F3 with ⟨g0, g1, g2, g3, g4, g5⟩ | ⟨g0, g1, g2, g3, g4, g5⟩
  · rw [g1, g2, g3, g4, g5, e4, e5, e6, decide_eq_true (show (D : Int) ≥ 3 by omega)]
    rfl
  · rw [g1, g2, g3, g5, e4, e5, e7, decide_eq_false (show ¬ (D : Int) ≥ 3 by omega)]
    have : (rtt2 == -1) = false := beq_eq_false_iff_ne.2 g4
    rw [this]
    rfl
end Go.Sx.T

