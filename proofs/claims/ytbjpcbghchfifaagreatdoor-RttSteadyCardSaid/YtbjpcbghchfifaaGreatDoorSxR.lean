/-
  A part of the heap, its objects numbered anew.
-/
import Derived.Test.YtbjpcbghchfifaaGreatDoorSxNh
set_option linter.all false
namespace Go.Sx
open Go

def mapI (f : Nat → AObj → AObj) : Nat → Heap → Heap
  | _, [] => []
  | i, o :: r => f i o :: mapI f (i + 1) r
theorem mapI_get {f : Nat → AObj → AObj} : ∀ {H : Heap} {n i : Nat}, (mapI f n H)[i]? = (H[i]?).map (f (n + i))
  | [], n, i => by simp [mapI]
  | o :: r, n, i => by
    match i with
    | 0 => simp [mapI]
    | i + 1 => simp only [mapI, List.getElem?_cons_succ, mapI_get]; congr 2; omega
theorem mapI_len {f : Nat → AObj → AObj} : ∀ {H : Heap} {n : Nat}, (mapI f n H).length = H.length
  | [], n => rfl
  | o :: r, n => by simp [mapI, mapI_len]
def idx : List Nat → Nat → Option Nat
  | [], _ => none
  | k :: ks, i => bif Nat.beq k i then some 0 else match idx ks i with | some j => some (j + 1) | none => none
theorem idx_get : ∀ {keep : List Nat} {i j : Nat}, idx keep i = some j → keep[j]? = some i
  | [], i, j, h => by simp [idx] at h
  | k :: ks, i, j, h => by
    simp only [idx] at h
    cases hb : Nat.beq k i with
    | true => rw [hb] at h; cases h; simp [Nat.eq_of_beq_eq_true hb]
    | false =>
      rw [hb] at h
      simp only [cond_false] at h
      split at h
      · rename_i j' hj; cases h; simpa using idx_get hj
      · cases h

def rnCaps (m : Nat → Option Nat) : List (Nat × Nat) → Option (List (Nat × Nat))
  | [] => some []
  | (i, o) :: r => match m i, rnCaps m r with | some j, some l => some ((j, o) :: l) | _, _ => none
def rnA (m : Nat → Option Nat) : A → A
  | .raw v => .raw v
  | .ptr i o => match m i with | some j => .ptr j o | none => .junk
  | .eptr i sz x f => match m i with | some j => .eptr j sz x f | none => .junk
  | .sl i sz off len => match m i with | some j => .sl j sz off len | none => .junk
  | .map i => match m i with | some j => .map j | none => .junk
  | .fn f caps => match rnCaps m caps with | some l => .fn f l | none => .junk
  | .junk => .junk
def rnCol (m : Nat → Option Nat) : Col → Col
  | .ats l => .ats (l.map (rnA m))
  | c => c
def rnO (m : Nat → Option Nat) : AObj → AObj
  | .dead => .dead
  | .cells t cs => .cells t (cs.map (rnA m))
  | .row e sz n cols => .row e sz n (cols.map (rnCol m))
  | .ro e sz n cols => .ro e sz n (cols.map (rnCol m))
  | .map k ks c => .map k ks (rnCol m c)
def rnW (m : Nat → Option Nat) : W → W
  | .at a => .at (rnA m a)
  | .agg as => .agg (as.map (rnA m))
def rnV (m : Nat → Option Nat) : V → V
  | .at a => .at (rnA m a)
  | .agg as => .agg (as.map (rnA m))
  | .tup xs => .tup (xs.map (rnW m))
def rnH (keep : List Nat) (H : Heap) : List Nat → Option Heap
  | [] => some []
  | i :: r => match H[i]?, rnH keep H r with | some o, some l => some (rnO (idx keep) o :: l) | _, _ => none
/-- The objects of these numbers, in this order. -/
def restrict (keep : List Nat) (H : Heap) : Option Heap := rnH keep H keep
def noDup : List Nat → Bool
  | [] => true
  | k :: ks => (match idx ks k with | some _ => false | none => true) && noDup ks

theorem idx_mem : ∀ {ks : List Nat} {k j : Nat}, ks[j]? = some k → idx ks k ≠ none
  | [], k, j, h => by simp at h
  | x :: ks, k, j, h => by
    simp only [idx]
    cases hb : Nat.beq x k with
    | true => simp
    | false =>
      simp only [cond_false]
      match j with
      | 0 => simp at h; subst h; simp at hb
      | j + 1 =>
        have := idx_mem (j := j) (by simpa using h)
        cases hi : idx ks k with
        | none => exact absurd hi this
        | some _ => simp
theorem noDup_ne : ∀ {ks : List Nat}, noDup ks = true → ∀ {i j a : Nat}, ks[i]? = some a → ks[j]? = some a → i = j
  | [], _, i, j, a, hi, _ => by simp at hi
  | k :: ks, h, i, j, a, hi, hj => by
    simp only [noDup, Bool.and_eq_true] at h
    match i, j with
    | 0, 0 => rfl
    | 0, j + 1 =>
      simp at hi hj
      subst hi
      have := idx_mem hj
      have h1 := h.1
      split at h1
      · cases h1
      · rename_i hn; exact absurd hn this
    | i + 1, 0 =>
      simp at hi hj
      subst hj
      have := idx_mem hi
      have h1 := h.1
      split at h1
      · cases h1
      · rename_i hn; exact absurd hn this
    | i + 1, j + 1 => simp at hi hj; rw [noDup_ne h.2 hi hj]

theorem rnH_get {keep : List Nat} {H : Heap} : ∀ {l : List Nat} {H' : Heap}, rnH keep H l = some H' → H'.length = l.length ∧ ∀ (j : Nat) (i : Nat), l[j]? = some i → ∃ o, H[i]? = some o ∧ H'[j]? = some (rnO (idx keep) o)
  | [], H', h => by simp only [rnH, Option.some.injEq] at h; subst h; exact ⟨rfl, fun j i hi => by simp at hi⟩
  | x :: l, H', h => by
    simp only [rnH] at h
    split at h
    · rename_i o r h1 h2
      cases h
      obtain ⟨a1, a2⟩ := rnH_get h2
      refine ⟨by simp [a1], fun j i hi => ?_⟩
      match j with
      | 0 => simp at hi; subst hi; exact ⟨o, h1, rfl⟩
      | j + 1 => simp at hi; obtain ⟨y, hy, hy2⟩ := a2 j i hi; exact ⟨y, hy, by simpa using hy2⟩
    · cases h

def dpl : Pl := ⟨0, 0, 0, false⟩
def rnP (ρ : List Pl) (keep : List Nat) : List Pl := keep.map fun i => ρ.getD i dpl

section
variable {P : Program} {E : Nat → Prop} {w0 w : World} {ρ : List Pl} {H H' : Heap} {keep : List Nat}

/-- How the two heaps lie to one another. -/
structure Rn (ρ : List Pl) (H : Heap) (keep : List Nat) (H' : Heap) : Prop where
  len : H'.length = keep.length
  rl : ρ.length = H.length
  get : ∀ (j i : Nat), keep[j]? = some i → ∃ o, H[i]? = some o ∧ H'[j]? = some (rnO (idx keep) o)

theorem Rn.of (h : restrict keep H = some H') (hl : ρ.length = H.length) : Rn ρ H keep H' := by
  obtain ⟨a, b⟩ := rnH_get h
  exact ⟨a, hl, b⟩
theorem Rn.place (h : Rn ρ H keep H') {i j : Nat} {p : Pl} (hj : keep[j]? = some i) (hp : ρ[i]? = some p) : (rnP ρ keep)[j]? = some p := by
  simp [rnP, hj, hp]
theorem Rn.placed (h : Rn ρ H keep H') {j : Nat} {p : Pl} (hp : (rnP ρ keep)[j]? = some p) : ∃ i o, keep[j]? = some i ∧ ρ[i]? = some p ∧ H[i]? = some o ∧ H'[j]? = some (rnO (idx keep) o) := by
  simp only [rnP, List.getElem?_map, Option.map_eq_some_iff] at hp
  obtain ⟨i, hi, rfl⟩ := hp
  obtain ⟨o, ho, ho'⟩ := h.get j i hi
  have hlt : i < ρ.length := by rw [h.rl]; exact (List.getElem?_eq_some_iff.1 ho).1
  exact ⟨i, o, hi, by simp [List.getD_eq_getElem?_getD, List.getElem?_eq_getElem hlt], ho, ho'⟩
/-- Objects numbered anew: what is said of them stays. -/
structure Mp (m : Nat → Option Nat) (ρ : List Pl) (H : Heap) (ρ' : List Pl) (H' : Heap) : Prop where
  place : ∀ {i j : Nat} {p : Pl}, m i = some j → ρ[i]? = some p → ρ'[j]? = some p
  gone : ∀ {i j : Nat}, m i = some j → Gone H i → Gone H' j

theorem Rn.mp (h : Rn ρ H keep H') : Mp (idx keep) ρ H (rnP ρ keep) H' := by
  refine ⟨fun hj hp => h.place (idx_get hj) hp, fun {i j} hj hg => ?_⟩
  obtain ⟨o, ho, ho'⟩ := h.get j i (idx_get hj)
  unfold Gone at hg ⊢
  rw [hg] at ho; cases ho
  exact ho'

variable {m : Nat → Option Nat} {ρ' : List Pl}

theorem rnCaps_at : ∀ {caps l : List (Nat × Nat)}, rnCaps m caps = some l → l.length = caps.length ∧ ∀ (j : Nat) (c : Nat × Nat), l[j]? = some c → ∃ c', caps[j]? = some c' ∧ m c'.1 = some c.1 ∧ c'.2 = c.2
  | [], l, h => by simp only [rnCaps, Option.some.injEq] at h; subst h; exact ⟨rfl, fun j c hc => by simp at hc⟩
  | (i, o) :: r, l, h => by
    simp only [rnCaps] at h
    split at h
    · rename_i j' l' h1 h2
      cases h
      obtain ⟨a1, a2⟩ := rnCaps_at h2
      refine ⟨by simp [a1], fun j c hc => ?_⟩
      match j with
      | 0 => simp at hc; subst hc; exact ⟨_, rfl, h1, rfl⟩
      | j + 1 => simp at hc; obtain ⟨c', x1, x2, x3⟩ := a2 j c hc; exact ⟨c', by simpa using x1, x2, x3⟩
    · cases h
theorem rnCaps_mem : ∀ {caps l : List (Nat × Nat)}, rnCaps m caps = some l → ∀ c ∈ caps, ∃ c' ∈ l, m c.1 = some c'.1
  | [], l, h, c, hc => by simp at hc
  | (i, o) :: r, l, h, c, hc => by
    simp only [rnCaps] at h
    split at h
    · rename_i j' l' h1 h2
      cases h
      simp at hc
      rcases hc with rfl | hc
      · exact ⟨_, List.mem_cons_self, h1⟩
      · obtain ⟨c', m, e⟩ := rnCaps_mem h2 c hc; exact ⟨c', List.mem_cons_of_mem _ m, e⟩
    · cases h

theorem rnA_ok (h : Mp m ρ H ρ' H') {a : A} {u : Value} (ha : ARel ρ H a u) : ARel ρ' H' (rnA m a) u := by
  cases a with
  | raw v => exact ha
  | ptr i o =>
    simp only [rnA]; split
    · rename_i j hj; exact ha.imp (h.gone hj) fun ⟨p, hp, hu⟩ => ⟨p, h.place hj hp, hu⟩
    · trivial
  | eptr i sz x f =>
    simp only [rnA]; split
    · rename_i j hj; exact ha.imp (h.gone hj) fun ⟨p, hp, hu⟩ => ⟨p, h.place hj hp, hu⟩
    · trivial
  | sl i sz off len =>
    simp only [rnA]; split
    · rename_i j hj; exact ha.imp (h.gone hj) fun ⟨p, hp, hu⟩ => ⟨p, h.place hj hp, hu⟩
    · trivial
  | map i =>
    simp only [rnA]; split
    · rename_i j hj; exact ha.imp (h.gone hj) fun ⟨p, hp, hu⟩ => ⟨p, h.place hj hp, hu⟩
    · trivial
  | fn f caps =>
    simp only [rnA]; split
    · rename_i l hl
      obtain ⟨hlen, hat⟩ := rnCaps_at hl
      rcases ha with ⟨c, hc, hg⟩ | ⟨vs, hu, hvl, hv⟩
      · obtain ⟨c', hm, he⟩ := rnCaps_mem hl c hc
        exact .inl ⟨c', hm, h.gone he hg⟩
      · refine .inr ⟨vs, hu, by rw [hvl, hlen], fun j c hc => ?_⟩
        obtain ⟨c', h1, h2, h3⟩ := hat j c hc
        obtain ⟨p, hp, hj⟩ := hv j c' h1
        exact ⟨p, h.place h2 hp, by rw [← h3]; exact hj⟩
    · trivial
  | junk => trivial

theorem rnAs_ok (h : Mp m ρ H ρ' H') {as : List A} {vs : List Value} (ha : AsRel ρ H as vs) : AsRel ρ' H' (as.map (rnA m)) vs := by
  refine ⟨by simp [ha.1], fun j a v hj hv => ?_⟩
  simp only [List.getElem?_map, Option.map_eq_some_iff] at hj
  obtain ⟨a0, h0, rfl⟩ := hj
  exact rnA_ok h (ha.2 j a0 v h0 hv)
theorem rnW_ok (h : Mp m ρ H ρ' H') {x : W} {u : Value} (hx : WRel ρ H x u) : WRel ρ' H' (rnW m x) u := by
  cases x with
  | «at» a => exact rnA_ok h hx
  | agg as => obtain ⟨vs, hu, hv⟩ := hx; exact ⟨vs, hu, rnAs_ok h hv⟩
theorem rnV_ok (h : Mp m ρ H ρ' H') {x : V} {u : Value} (hx : VRel ρ H x u) : VRel ρ' H' (rnV m x) u := by
  cases x with
  | «at» a => exact rnA_ok h hx
  | agg as => obtain ⟨vs, hu, hv⟩ := hx; exact ⟨vs, hu, rnAs_ok h hv⟩
  | tup xs =>
    obtain ⟨vs, hu, hl, hv⟩ := hx
    refine ⟨vs, hu, by simp [hl], fun j x v hj hvj => ?_⟩
    simp only [List.getElem?_map, Option.map_eq_some_iff] at hj
    obtain ⟨x0, h0, rfl⟩ := hj
    exact rnW_ok h (hv j x0 v h0 hvj)
theorem rnCol_len (c : Col) : (rnCol m c).len = c.len := by cases c <;> simp [rnCol, Col.len]
theorem rnCol_at (h : Mp m ρ H ρ' H') {c : Col} {i : Nat} {u : Value} (hi : i < c.len) (ha : ARel ρ H (c.at i) u) : ARel ρ' H' ((rnCol m c).at i) u := by
  cases c with
  | ats l =>
    simp only [Col.len] at hi
    simp only [Col.at, rnCol, List.getD_eq_getElem?_getD, List.getElem?_map, List.getElem?_eq_getElem hi, Option.map_some, Option.getD_some] at ha ⊢
    exact rnA_ok h ha
  | int k l => exact ha
  | bool l => exact ha
  | str l => exact ha
theorem rnCols_ok (h : Mp m ρ H ρ' H') {p : Pl} {sz : Nat} {n : Int} {cols : List Col} {cur : Array Value} (hl : ∀ c ∈ cols, c.len = n.toNat) (hc : ColsRel ρ H p sz n cols cur) : ColsRel ρ' H' p sz n (cols.map (rnCol m)) cur := by
  intro i f c hi hf
  simp only [List.getElem?_map, Option.map_eq_some_iff] at hf
  obtain ⟨c0, h0, rfl⟩ := hf
  obtain ⟨v, hv, hva⟩ := hc i f c0 hi h0
  exact ⟨v, hv, rnCol_at h (by rw [hl c0 (List.mem_of_getElem? h0)]; exact hi) hva⟩
theorem rnRow_ok {p : Pl} {sz : Nat} {n : Int} {cols : List Col} (h : RowOk p sz n cols) : RowOk p sz n (cols.map (rnCol m)) := by
  obtain ⟨h1, h2, h3, h4⟩ := h
  refine ⟨h1, fun c hc => ?_, by simp [h3], h4⟩
  simp only [List.mem_map] at hc
  obtain ⟨c0, hm, rfl⟩ := hc
  rw [rnCol_len]; exact h2 c0 hm
theorem rnO_ok (h : Mp m ρ H ρ' H') {w : World} {p : Pl} {o : AObj} (ho : ObjRel ρ H w p o) : ObjRel ρ' H' w p (rnO m o) := by
  cases o with
  | dead => trivial
  | cells t cs => obtain ⟨h1, h2, cur, h3, h4⟩ := ho; exact ⟨h1, h2, cur, h3, rnAs_ok h h4⟩
  | row e sz n cols => exact ⟨rnRow_ok ho.1, fun hr => let ⟨cur, h1, h2, h3⟩ := ho.2 hr; ⟨cur, h1, h2, rnCols_ok h ho.1.2.1 h3⟩⟩
  | ro e sz n cols => exact ⟨rnRow_ok ho.1, fun hr => let ⟨cur, t, fz, h1, h3⟩ := ho.2 hr; ⟨cur, t, fz, h1, rnCols_ok h ho.1.2.1 h3⟩⟩
  | map kt ks col =>
    obtain ⟨h1, h2, es, clock, h3, h4, h5, h6⟩ := ho
    refine ⟨h1, by rw [rnCol_len]; exact h2, es, clock, h3, h4, fun i x hx => ⟨(h5 i x hx).1, rnCol_at h ?_ (h5 i x hx).2.1, (h5 i x hx).2.2⟩, h6⟩
    rw [h2, ← h4]; exact (Array.getElem?_eq_some_iff.1 hx).1
theorem rnO_mut (o : AObj) : (rnO m o).mut = o.mut ∧ (rnO m o).isDead = o.isDead := by cases o <;> exact ⟨rfl, rfl⟩

theorem restrict_read (h : restrict keep H = some H') (hr : HRead ρ H w) : HRead (rnP ρ keep) H' w := by
  have hR := Rn.of h hr.len
  refine ⟨by simp [rnP, hR.len], fun j p o hp ho => ?_⟩
  obtain ⟨i, o0, hi, hpi, hoi, hoj⟩ := hR.placed hp
  rw [ho] at hoj; cases hoj
  exact rnO_ok hR.mp (hr.obj i p o0 hpi hoi)
theorem restrict_rel (h : restrict keep H = some H') (hd : noDup keep = true) (hr : HRel E w0 ρ H w) : HRel E w0 (rnP ρ keep) H' w := by
  have hR := Rn.of h hr.len
  have hread := restrict_read h hr.read
  refine ⟨hread.len, hread.obj, ?_, ?_, hr.kept⟩
  · intro j j2 p q o o' hp hq ho ho' hm hdd hrl hrl' hne
    obtain ⟨i, o0, hi, hpi, hoi, hoj⟩ := hR.placed hp
    obtain ⟨i2, o2, hi2, hpi2, hoi2, hoj2⟩ := hR.placed hq
    rw [ho] at hoj; cases hoj
    rw [ho'] at hoj2; cases hoj2
    rw [(rnO_mut _).1] at hm
    rw [(rnO_mut _).2] at hdd
    exact hr.inj i i2 p q o0 o2 hpi hpi2 hoi hoi2 hm hdd hrl hrl' fun e => hne (noDup_ne hd hi (e ▸ hi2))
  · intro j p o hp ho hm hrl
    obtain ⟨i, o0, hi, hpi, hoi, hoj⟩ := hR.placed hp
    rw [ho] at hoj; cases hoj
    rw [(rnO_mut _).1] at hm
    exact hr.own i p o0 hpi hoi hm hrl
end
end Go.Sx
