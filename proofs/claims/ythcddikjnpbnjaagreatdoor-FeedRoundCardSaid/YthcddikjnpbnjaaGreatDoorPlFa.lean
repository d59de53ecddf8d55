import Derived.Test.YthcddikjnpbnjaaGreatDoorPlFp
set_option linter.all false
namespace Go.Sx.T
open Go Go.Sx
def nowS (F : FS) (t : Int) : Int := max F.now (min t 4611686018427387904)
/-- The number is there already, is lost, or is old. -/
def offS (F : FS) (n : Int) : Bool := mhas F.gk n || mget false F.lk F.lv n || (F.any && decide (250 ≤ dif F.nw n))
/-- The state ahead of looking. -/
def takeS (F : FS) (t n z : Int) : FS :=
  let F1 : FS := if F.any = true then F else { F with any := true, fs := n, nw := n, si := nowS F t }
  let F2 : FS := { F1 with now := nowS F t, gk := mputK F.gk n, gv := mputV F.gk F.gv n (nowS F t), bs := addI .u64 F.bs (wrapI .u64 (min (max z 0) 65535)) }
  if dif F1.nw n < 0 then { F2 with nw := n, gk := mfK (oldP n) F2.gk, gv := mfV (oldP n) F2.gk F2.gv, lk := mfK (oldP n) F.lk, lv := mfV (oldP n) F.lk F.lv } else F2
theorem put_off (F : FS) (t z : Int) {n : Int} (hn : U n) (h : offS F (n % 281474976710656) = true) :
    feed_Put F.gk F.gv F.lk F.lv F.cl F.r F.any F.now F.fs F.nw F.ct F.ev F.ea F.en F.bs F.si t n z = some (({ F with now := nowS F t } : FS).ls ++ [.b false]) := by
  obtain ⟨gk, gv, lk, lv, cl, r, any, now, fs, nw, ct, ev, ea, en, bs, si⟩ := F
  unfold feed_Put
  simp only [of_t hn, out_ev, un_i_ev, un_nil_ev, one_ev, minI_eq, maxI_eq, nowS, FS.ls, List.cons_append, List.nil_append, decide_true, Bool.and_true, chk_t, diffD_t]
  unfold offS at h
  simp only at h
  cases h1 : mhas gk (n % 281474976710656)
  · rw [h1, Bool.false_or] at h
    rw [br_f]
    cases h2 : mget false lk lv (n % 281474976710656)
    · rw [h2, Bool.false_or, Bool.and_eq_true, decide_eq_true_eq] at h
      obtain ⟨rfl, h3⟩ := h
      rw [br_f, br_t, br_pos h3]
    · rw [br_t]
  · rw [br_t]
theorem put_take (F : FS) (t z : Int) {n : Int} (hn : U n) (h : offS F (n % 281474976710656) = false) (hg : F.gk.Nodup) (hl : F.lk.Nodup) {K : FS}
    (hk : feed_look (takeS F t (n % 281474976710656) z).gk (takeS F t (n % 281474976710656) z).gv (takeS F t (n % 281474976710656) z).lk (takeS F t (n % 281474976710656) z).lv (takeS F t (n % 281474976710656) z).cl (takeS F t (n % 281474976710656) z).r (takeS F t (n % 281474976710656) z).any (takeS F t (n % 281474976710656) z).now (takeS F t (n % 281474976710656) z).fs (takeS F t (n % 281474976710656) z).nw (takeS F t (n % 281474976710656) z).ct (takeS F t (n % 281474976710656) z).ev (takeS F t (n % 281474976710656) z).ea (takeS F t (n % 281474976710656) z).en (takeS F t (n % 281474976710656) z).bs (takeS F t (n % 281474976710656) z).si = some K.ls) :
    feed_Put F.gk F.gv F.lk F.lv F.cl F.r F.any F.now F.fs F.nw F.ct F.ev F.ea F.en F.bs F.si t n z = some (K.ls ++ [.b true]) := by
  obtain ⟨gk, gv, lk, lv, cl, r, any, now, fs, nw, ct, ev, ea, en, bs, si⟩ := F
  have hnd : (mputK gk (n % 281474976710656)).Nodup := by
    unfold offS at h
    simp only [Bool.or_eq_false_iff] at h
    have : n % 281474976710656 ∉ gk := fun x => by rw [mhas_iff.2 x] at h; exact absurd h.1.1 (by decide)
    rw [mputK_new this]
    exact nodup_app hg this
  unfold offS at h
  simp only [Bool.or_eq_false_iff, Bool.and_eq_false_iff, decide_eq_false_iff_not] at h
  obtain ⟨⟨h1, h2⟩, h3⟩ := h
  unfold takeS at hk
  simp only at hk hl hg
  unfold feed_Put
  simp only [of_t hn, out_ev, un_i_ev, un_nil_ev, one_ev, minI_eq, maxI_eq, diffD_t, lessD_t, un_b_ev]
  rw [h1, h2, br_f, br_f]
  have hold : ∀ (cl : List Int) (r : Int) (any : Bool) (now fs nw ct : Int) (ev : Bool) (ea en bs si : Int) (gv : List Int), feed_old (mputK gk (n % 281474976710656)) gv lk lv cl r any now fs nw ct ev ea en bs si = some [.li (mfK (oldP nw) (mputK gk (n % 281474976710656))), .li (mfV (oldP nw) (mputK gk (n % 281474976710656)) gv), .li (mfK (oldP nw) lk), .lb (mfV (oldP nw) lk lv), .li cl, .i r, .b any, .i now, .i fs, .i nw, .i ct, .b ev, .i ea, .i en, .i bs, .i si] := fun _ _ _ _ _ _ _ _ _ _ _ _ _ => by
    unfold feed_old
    rw [nodupB_of hnd, nodupB_of hl, chk_t, chk_t]
  cases any
  · have hs : ¬ dif (n % 281474976710656) (n % 281474976710656) < 0 := by unfold dif; split <;> omega
    simp only [Bool.false_eq_true, if_false, if_neg hs, nowS] at hk
    rw [br_f, decide_eq_false hs]
    simp only [Bool.not_false, br_t, br_f, decide_true, Bool.and_true, chk_t, hk]
    simp only [FS.ls, out_ev, un_li_ev, un_lb_ev, un_i_ev, un_b_ev, un_nil_ev, decide_true, Bool.and_true, chk_t, List.cons_append, List.nil_append]
  · have h3 : ¬ 250 ≤ dif nw (n % 281474976710656) := by simpa using h3
    simp only [if_true, nowS] at hk
    rw [br_t, br_neg (show ¬ dif nw (n % 281474976710656) ≥ 250 from h3)]
    simp only [Bool.not_true, br_f]
    by_cases h4 : dif nw (n % 281474976710656) < 0
    · simp only [if_pos h4] at hk
      rw [decide_eq_true h4, br_t]
      simp only [decide_true, Bool.and_true, chk_t, hold, out_ev, un_li_ev, un_lb_ev, un_i_ev, un_b_ev, un_nil_ev]
      simp only [hk, FS.ls, out_ev, un_li_ev, un_lb_ev, un_i_ev, un_b_ev, un_nil_ev, decide_true, Bool.and_true, chk_t, List.cons_append, List.nil_append]
    · simp only [if_neg h4] at hk
      rw [decide_eq_false h4, br_f]
      simp only [decide_true, Bool.and_true, chk_t]
      simp only [hk, FS.ls, out_ev, un_li_ev, un_lb_ev, un_i_ev, un_b_ev, un_nil_ev, decide_true, Bool.and_true, chk_t, List.cons_append, List.nil_append]
end Go.Sx.T

