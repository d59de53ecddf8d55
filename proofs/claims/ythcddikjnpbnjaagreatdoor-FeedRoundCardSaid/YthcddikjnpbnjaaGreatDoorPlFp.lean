import Derived.Test.YthcddikjnpbnjaaGreatDoorPlFd
set_option linter.all false
namespace Go.Sx.T
open Go Go.Sx
structure LI (first : Int) (L : Int → Prop) (lk : List Int) (lv : List Bool) : Prop where
  nd : lk.Nodup
  vs : lv = List.replicate lk.length true
  mem : ∀ n, n ∈ lk ↔ ∃ o, L o ∧ n = ky first o
  rng : ∀ o, L o → 0 < o ∧ o < 245
theorem mget_all {n : Int} : ∀ {k : List Int}, mget false k (List.replicate k.length true) n = mhas k n
  | [] => rfl
  | a :: k => by
    simp only [List.length_cons, List.replicate_succ, mget, mhas, mget_all (k := k)]
theorem mput_all {n : Int} {k : List Int} : mputV k (List.replicate k.length true) n true = List.replicate (mputK k n).length true := by
  unfold mputV mputK
  cases mhas k n
  · simp [List.replicate_succ']
  · simp
theorem LI.has {first : Int} {L : Int → Prop} {lk : List Int} {lv : List Bool} (h : LI first L lk lv) {o : Int} (h0 : -1000 < o) (h1 : o < 1000) : mget false lk lv (ky first o) = true ↔ L o := by
  rw [h.vs, mget_all, mhas_iff, h.mem]
  constructor
  · rintro ⟨a, ha, e⟩
    have := h.rng a ha
    obtain rfl : o = a := ky_inj e (by omega) (by omega)
    exact ha
  · exact fun ho => ⟨o, ho, rfl⟩
theorem LI.put {first : Int} {L L' : Int → Prop} {lk : List Int} {lv : List Bool} (h : LI first L lk lv) {o : Int} (h0 : 0 < o) (h1 : o < 245) (hn : ¬ L o) (hL : ∀ x, L' x ↔ L x ∨ x = o) : LI first L' (mputK lk (ky first o)) (mputV lk lv (ky first o) true) := by
  have hk : ky first o ∉ lk := fun x => by
    obtain ⟨a, ha, e⟩ := (h.mem _).1 x
    have := h.rng a ha
    obtain rfl : o = a := ky_inj e (by omega) (by omega)
    exact hn ha
  refine ⟨?_, ?_, fun n => ?_, fun x hx => ?_⟩
  · rw [mputK_new hk]; exact nodup_app h.nd hk
  · rw [h.vs, mput_all]
  · rw [mputK_new hk, List.mem_append, h.mem]
    constructor
    · rintro (⟨a, ha, rfl⟩ | hx)
      · exact ⟨a, (hL a).2 (.inl ha), rfl⟩
      · exact ⟨o, (hL o).2 (.inr rfl), by simpa using hx⟩
    · rintro ⟨a, ha, rfl⟩
      rcases (hL a).1 ha with ha | rfl
      · exact .inl ⟨a, ha, rfl⟩
      · exact .inr (by simp)
  · rcases (hL x).1 hx with hx | rfl
    · exact h.rng x hx
    · exact ⟨h0, h1⟩
theorem LI.congr {first : Int} {L L' : Int → Prop} {lk : List Int} {lv : List Bool} (h : LI first L lk lv) (hL : ∀ x, L' x ↔ L x) : LI first L' lk lv :=
  ⟨h.nd, h.vs, fun n => (h.mem n).trans ⟨fun ⟨o, a, b⟩ => ⟨o, (hL o).2 a, b⟩, fun ⟨o, a, b⟩ => ⟨o, (hL o).1 a, b⟩⟩, fun o ho => h.rng o ((hL o).1 ho)⟩
theorem GI.congr {first top : Int} {O O' : Int → Prop} {val val' : Int → Int} {k v : List Int} (h : GI first top O val k v) (h1 : ∀ x, O' x ↔ O x) (h2 : ∀ x, O x → val' x = val x) : GI first top O' val' k v :=
  ⟨h.len, h.nd, fun n => (h.mem n).trans ⟨fun ⟨o, a, b⟩ => ⟨o, (h1 o).2 a, b⟩, fun ⟨o, a, b⟩ => ⟨o, (h1 o).1 a, b⟩⟩, fun o ho => by rw [h.get o ((h1 o).1 ho), h2 o ((h1 o).1 ho)], fun o ho => h.rng o ((h1 o).1 ho), (h1 _).2 h.top⟩
theorem oldP_f {first o a : Int} (h0 : 0 ≤ o - a) (h1 : o - a < 250) : oldP (ky first o) (ky first a) = false := by
  unfold oldP
  rw [diffI_eq, dif_ky (by omega) (by omega), decide_eq_false (show ¬ (o - a ≥ 250) by omega), cond_false, decide_eq_false (by omega)]
/-- The state with one more number, ahead of looking. -/
def putS (F : FS) (n t : Int) : FS := { F with gk := F.gk ++ [n], gv := F.gv ++ [max F.now (min t 4611686018427387904)], now := max F.now (min t 4611686018427387904), nw := n, bs := addI .u64 F.bs (wrapI .u64 1) }
/-- A number ahead of the newest. -/
theorem put_F {first top o t : Int} {F : FS} {G : Int → Prop} {tm : Int → Int} {L : Int → Prop} (hF : FO first top F) (ha : F.any = true) (hg : GI first top G tm F.gk F.gv) (hG : ∀ x, G x → 0 ≤ x) (hl : LI first L F.lk F.lv) (hL : ∀ x, L x → x < o) (h1 : top < o) (h2 : o < 245)
    {K : FS} (hlook : feed_look (putS F (ky first o) t).gk (putS F (ky first o) t).gv F.lk F.lv F.cl F.r F.any (putS F (ky first o) t).now F.fs (ky first o) F.ct F.ev F.ea F.en (putS F (ky first o) t).bs F.si = some K.ls) :
    feed_Put F.gk F.gv F.lk F.lv F.cl F.r F.any F.now F.fs F.nw F.ct F.ev F.ea F.en F.bs F.si t (ky first o) 1 = some (K.ls ++ [.b true]) := by
  have ht0 := hF.t0
  have hn : ky first o ∉ F.gk := fun x => by
    obtain ⟨a, ha, e⟩ := (hg.mem _).1 x
    have := hg.rng a ha
    have := hG a ha
    have := ky_inj e (by omega) (by omega)
    omega
  have hln : mget false F.lk F.lv (ky first o) = false := by
    cases e : mget false F.lk F.lv (ky first o)
    · rfl
    · have := hL _ ((hl.has (by omega) (by omega)).1 e)
      omega
  have hg1 : mfK (oldP (ky first o)) (F.gk ++ [ky first o]) = F.gk ++ [ky first o] := by
    rw [mfK_congr (d' := fun _ => false), mfK_all]
    intro n hn
    rcases List.mem_append.1 hn with hn | hn
    · obtain ⟨a, ha, rfl⟩ := (hg.mem n).1 hn
      have := hg.rng a ha
      have := hG a ha
      exact oldP_f (by omega) (by omega)
    · obtain rfl : n = ky first o := by simpa using hn
      exact oldP_f (by omega) (by omega)
  have hl2 : ∀ w : Int, (F.gv ++ [w]).length = (F.gk ++ [ky first o]).length := fun w => by simp [hg.len]
  have hg2 : ∀ w : Int, mfV (oldP (ky first o)) (F.gk ++ [ky first o]) (F.gv ++ [w]) = F.gv ++ [w] := fun w => by
    rw [mfV_congr (d' := fun _ => false), mfV_all (hl2 w)]
    intro n hn
    rcases List.mem_append.1 hn with hn | hn
    · obtain ⟨a, ha, rfl⟩ := (hg.mem n).1 hn
      have := hg.rng a ha
      have := hG a ha
      exact oldP_f (by omega) (by omega)
    · obtain rfl : n = ky first o := by simpa using hn
      exact oldP_f (by omega) (by omega)
  have hol : ∀ n ∈ F.lk, oldP (ky first o) n = false := fun n hn => by
    obtain ⟨a, ha, rfl⟩ := (hl.mem n).1 hn
    have := hl.rng a ha
    have := hL a ha
    exact oldP_f (by omega) (by omega)
  have hg3 : mfK (oldP (ky first o)) F.lk = F.lk := by rw [mfK_congr (d' := fun _ => false) hol, mfK_all]
  have hg4 : mfV (oldP (ky first o)) F.lk F.lv = F.lv := by rw [mfV_congr (d' := fun _ => false) hol, mfV_all (by rw [hl.vs]; simp)]
  unfold feed_Put
  simp only [of_t (ky_U _ _), ky_mod, out_ev, un_i_ev, un_nil_ev, one_ev, mhas_f hn, hln, br_f, br_t, ha, hF.nw, diffD_t, Bool.not_true, minI_eq, maxI_eq, lessD_t, un_b_ev]
  rw [dif_ky (by omega) (by omega), br_neg (by omega), decide_eq_true (by omega), br_t]
  simp only [mputK_new hn, mputV_new hn, feed_old, nodupB_of (nodup_app hg.nd hn), nodupB_of hl.nd, chk_t, hg1, hg2, hg3, hg4, out_ev, un_li_ev, un_lb_ev, un_i_ev, un_b_ev, un_nil_ev, decide_true, Bool.and_true]
  rw [show min (max (1 : Int) 0) 65535 = 1 from rfl]
  unfold putS at hlook
  simp only [ha] at hlook
  rw [hlook]
  simp only [FS.ls, out_ev, un_li_ev, un_lb_ev, un_i_ev, un_b_ev, un_nil_ev, decide_true, Bool.and_true, chk_t, List.cons_append, List.nil_append]
/-- The first one of all. -/
def F1 (first : Int) : FS := ⟨[ky first 0], [0], [], [], [], 1000, true, 0, ky first 0, ky first 0, 0, false, 0, 0, addI .u64 0 (wrapI .u64 1), 0⟩
theorem put_F0 (first : Int) : feed_Put [] [] [] [] [] 1000 false 0 0 0 0 false 0 0 0 0 0 (ky first 0) 1 = some ((F1 first).ls ++ [.b true]) := by
  have hO : FO first 0 (F1 first) := ⟨rfl, rfl, by omega, by omega⟩
  have hlook := look_none hO (fun o p0 p1 => by omega)
  unfold feed_Put
  simp only [of_t (ky_U _ _), ky_mod, out_ev, un_i_ev, un_nil_ev, one_ev, mhas, mget, br_f, br_t, Bool.not_false, minI_eq, maxI_eq, lessD_t, un_b_ev]
  rw [dif_ky (by omega) (by omega)]
  simp only [show ((0 : Int) - 0 < 0) = False by simp, decide_false, br_f, decide_true, Bool.and_true, chk_t]
  rw [show mputK [] (ky first 0) = [ky first 0] from rfl, show mputV [] [] (ky first 0) (max 0 (min 0 4611686018427387904)) = [(0 : Int)] from rfl, show min (max (1 : Int) 0) 65535 = 1 from rfl, show max (0 : Int) (min 0 4611686018427387904) = 0 from rfl]
  unfold F1 at hlook ⊢
  simp only at hlook
  rw [hlook]
  simp only [FS.ls, out_ev, un_li_ev, un_lb_ev, un_i_ev, un_b_ev, un_nil_ev, decide_true, Bool.and_true, chk_t, List.cons_append, List.nil_append]
end Go.Sx.T

