/-
  Shapes: what a frame and a heap look like, but for their numbers, truths, texts and lists of these.
-/
import Derived.Test.YtbjpcbghchfifaaGreatDoorSxS
set_option linter.all false
namespace Go.Sx
open Go

inductive Leaf where
  | i (n : Int)
  | b (x : Bool)
  | s (x : ByteArray)
  | li (l : List Int)
  | lb (l : List Bool)
  | ls (l : List ByteArray)

inductive TA where
  | int (k : IntKind)
  | bool
  | str
  | ptr (i o : Nat)
  | all (i sz : Nat)
  | sl (i sz : Nat)
  | map (i : Nat)
  | fn (f : Nat) (caps : List (Nat × Nat))
  | nilp
  | nilm
  | nils
  | junk
inductive TC where
  | int (k : IntKind)
  | bool
  | str
inductive TO where
  | dead
  | cells (t : TypeId) (as : List TA)
  | row (e : TypeId) (sz : Nat) (cs : List TC)
  | ro (e : TypeId) (sz : Nat) (cs : List TC)
  | map (kt : IntKind) (c : TC)
inductive TW where
  | at (a : TA)
  | agg (as : List TA)
inductive TV where
  | w (x : TW)
  | tup (xs : List TW)
structure Tm where
  objs : List TO
  roots : List (Nat × TV)

def colsN : List Col → Int
  | c :: _ => (c.len : Int)
  | [] => 0

/-! ### From leaves to what they say -/
def iC : TC → List Leaf → Option (Col × List Leaf)
  | .int k, .li l :: r => some (.int k l, r)
  | .bool, .lb l :: r => some (.bool l, r)
  | .str, .ls l :: r => some (.str l, r)
  | _, _ => none
def iCs : List TC → List Leaf → Option (List Col × List Leaf)
  | [], r => some ([], r)
  | t :: ts, r => match iC t r with
    | some (c, r1) => match iCs ts r1 with | some (cs, r2) => some (c :: cs, r2) | none => none
    | none => none
def toCols : TO → List TC
  | .row _ _ cs => cs
  | .ro _ _ cs => cs
  | .map _ c => [.int .i64, c]
  | _ => []
def iRows : List TO → List Leaf → Option (List (List Col) × List Leaf)
  | [], r => some ([], r)
  | t :: ts, r => match iCs (toCols t) r with
    | some (cs, r1) => match iRows ts r1 with | some (l, r2) => some (cs :: l, r2) | none => none
    | none => none
def rlOf (rows : List (List Col)) (i : Nat) : Int := match rows[i]? with | some cs => colsN cs | none => 0

def iA (rl : Nat → Int) : TA → List Leaf → Option (A × List Leaf)
  | .int k, .i n :: r => some (.raw (.int k n), r)
  | .bool, .b x :: r => some (.raw (.bool x), r)
  | .str, .s x :: r => some (.raw (.string x), r)
  | .ptr i o, r => some (.ptr i o, r)
  | .all i sz, r => some (.sl i sz none (rl i), r)
  | .sl i sz, .i o :: .i l :: r => some (.sl i sz (some o) l, r)
  | .map i, r => some (.map i, r)
  | .fn f caps, r => some (.fn f caps, r)
  | .nilp, r => some (.raw (.pointer none), r)
  | .nilm, r => some (.raw (.map none), r)
  | .nils, r => some (.raw (.slice none 0 0), r)
  | .junk, r => some (.junk, r)
  | _, _ => none
def iAs (rl : Nat → Int) : List TA → List Leaf → Option (List A × List Leaf)
  | [], r => some ([], r)
  | t :: ts, r => match iA rl t r with
    | some (c, r1) => match iAs rl ts r1 with | some (cs, r2) => some (c :: cs, r2) | none => none
    | none => none
def iW (rl : Nat → Int) : TW → List Leaf → Option (W × List Leaf)
  | .at a, r => match iA rl a r with | some (x, r1) => some (.at x, r1) | none => none
  | .agg as, r => match iAs rl as r with | some (x, r1) => some (.agg x, r1) | none => none
def iWs (rl : Nat → Int) : List TW → List Leaf → Option (List W × List Leaf)
  | [], r => some ([], r)
  | t :: ts, r => match iW rl t r with
    | some (c, r1) => match iWs rl ts r1 with | some (cs, r2) => some (c :: cs, r2) | none => none
    | none => none
def iV (rl : Nat → Int) : TV → List Leaf → Option (V × List Leaf)
  | .w x, r => match iW rl x r with | some (x, r1) => some (x.v, r1) | none => none
  | .tup xs, r => match iWs rl xs r with | some (x, r1) => some (.tup x, r1) | none => none
def iRoots (rl : Nat → Int) : List (Nat × TV) → List Leaf → Option (Fr × List Leaf)
  | [], r => some ([], r)
  | (s, t) :: ts, r => match iV rl t r with
    | some (c, r1) => match iRoots rl ts r1 with | some (cs, r2) => some ((s, c) :: cs, r2) | none => none
    | none => none
def iO (rl : Nat → Int) (t : TO) (cols : List Col) (r : List Leaf) : Option (AObj × List Leaf) :=
  match t with
  | .dead => some (.dead, r)
  | .cells t as => match iAs rl as r with | some (x, r1) => some (.cells t x, r1) | none => none
  | .row e sz _ => some (.row e sz (colsN cols) cols, r)
  | .ro e sz _ => some (.ro e sz (colsN cols) cols, r)
  | .map k _ => match cols with | [.int _ ks, c] => some (.map k ks c, r) | _ => none
def iObjs (rl : Nat → Int) : List TO → List (List Col) → List Leaf → Option (Heap × List Leaf)
  | [], [], r => some ([], r)
  | t :: ts, c :: cs, r => match iO rl t c r with
    | some (o, r1) => match iObjs rl ts cs r1 with | some (os, r2) => some (o :: os, r2) | none => none
    | none => none
  | _, _, _ => none
/-- The frame and the heap of these leaves. -/
def inst (T : Tm) (ls : List Leaf) : Option (Fr × Heap) :=
  match iRows T.objs ls with
  | some (rows, r1) =>
    match iObjs (rlOf rows) T.objs rows r1 with
    | some (H, r2) =>
      match iRoots (rlOf rows) T.roots r2 with
      | some (fr, []) => some (fr, H)
      | _ => none
    | none => none
  | none => none

/-! ### From what is there to its leaves -/
def mC : TC → Col → Option Leaf
  | .int k, .int k' l => bif decide (k = k') then some (.li l) else none
  | .bool, .bool l => some (.lb l)
  | .str, .str l => some (.ls l)
  | _, _ => none
def mCs : List TC → List Col → Option (List Leaf)
  | [], [] => some []
  | t :: ts, c :: cs => match mC t c, mCs ts cs with | some x, some l => some (x :: l) | _, _ => none
  | _, _ => none
def mRow (t : TO) (o : AObj) : Option (List Leaf × List Col) :=
  match t, o with
  | .row e sz cs, .row e' sz' _ cols => bif Nat.beq e e' && Nat.beq sz sz' then match mCs cs cols with | some l => some (l, cols) | none => none else none
  | .ro e sz cs, .ro e' sz' _ cols => bif Nat.beq e e' && Nat.beq sz sz' then match mCs cs cols with | some l => some (l, cols) | none => none else none
  | .map k c, .map k' ks col => bif decide (k = k') then match mC c col with | some l => some ([.li ks, l], [.int .i64 ks, col]) | none => none else none
  | .cells t _, .cells t' _ => bif Nat.beq t t' then some ([], []) else none
  | .dead, _ => some ([], [])
  | _, _ => none
def mRows : List TO → Heap → Option (List Leaf × List (List Col))
  | [], [] => some ([], [])
  | t :: ts, o :: os => match mRow t o, mRows ts os with | some (l, c), some (l', c') => some (l ++ l', c :: c') | _, _ => none
  | _, _ => none
def mCaps : List (Nat × Nat) → List (Nat × Nat) → Bool
  | [], [] => true
  | (a, b) :: r, (c, d) :: s => Nat.beq a c && Nat.beq b d && mCaps r s
  | _, _ => false
def mA (rl : Nat → Int) (t : TA) (a : A) : Option (List Leaf × Bool) :=
  match t, a with
  | .int k, .raw (.int k' n) => bif decide (k = k') then some ([.i n], true) else none
  | .bool, .raw (.bool x) => some ([.b x], true)
  | .str, .raw (.string x) => some ([.s x], true)
  | .ptr i o, .ptr i' o' => bif Nat.beq i i' && Nat.beq o o' then some ([], true) else none
  | .all i sz, .sl i' sz' none len => bif Nat.beq i i' && Nat.beq sz sz' then some ([], decide (len = rl i)) else none
  | .sl i sz, .sl i' sz' off len => bif Nat.beq i i' && Nat.beq sz sz' then some ([.i (off.getD 0), .i len], true) else none
  | .map i, .map i' => bif Nat.beq i i' then some ([], true) else none
  | .fn f caps, .fn f' caps' => bif Nat.beq f f' && mCaps caps caps' then some ([], true) else none
  | .nilp, .raw (.pointer none) => some ([], true)
  | .nilm, .raw (.map none) => some ([], true)
  | .nils, .raw (.slice none 0 0) => some ([], true)
  | .junk, _ => some ([], true)
  | _, _ => none
def mAs (rl : Nat → Int) : List TA → List A → Option (List Leaf × Bool)
  | [], [] => some ([], true)
  | t :: ts, a :: as => match mA rl t a, mAs rl ts as with | some (l, c), some (l', c') => some (l ++ l', c && c') | _, _ => none
  | _, _ => none
def mW (rl : Nat → Int) : TW → W → Option (List Leaf × Bool)
  | .at t, .at a => mA rl t a
  | .agg ts, .agg as => mAs rl ts as
  | _, _ => none
def mWs (rl : Nat → Int) : List TW → List W → Option (List Leaf × Bool)
  | [], [] => some ([], true)
  | t :: ts, a :: as => match mW rl t a, mWs rl ts as with | some (l, c), some (l', c') => some (l ++ l', c && c') | _, _ => none
  | _, _ => none
def mV (rl : Nat → Int) : TV → V → Option (List Leaf × Bool)
  | .w (.at t), .at a => mA rl t a
  | .w (.agg ts), .agg as => mAs rl ts as
  | .tup ts, .tup as => mWs rl ts as
  | _, _ => none
def mRoots (rl : Nat → Int) (fr : Fr) : List (Nat × TV) → Option (List Leaf × Bool)
  | [] => some ([], true)
  | (s, t) :: ts => match lk fr s with
    | some v => match mV rl t v, mRoots rl fr ts with | some (l, c), some (l', c') => some (l ++ l', c && c') | _, _ => none
    | none => none
def mO (rl : Nat → Int) (t : TO) (o : AObj) : Option (List Leaf × Bool) :=
  match t, o with
  | .cells _ ts, .cells _ as => mAs rl ts as
  | .cells _ _, _ => none
  | _, _ => some ([], true)
def mObjs (rl : Nat → Int) : List TO → Heap → Option (List Leaf × Bool)
  | [], [] => some ([], true)
  | t :: ts, o :: os => match mO rl t o, mObjs rl ts os with | some (l, c), some (l', c') => some (l ++ l', c && c') | _, _ => none
  | _, _ => none
/-- The leaves of what is there. -/
def seen {α : Type} (T : Tm) (fr : Fr) (H : Heap) (k : List Leaf → Option α) : Option α :=
  match mRows T.objs H with
  | some (l1, rows) =>
    match mObjs (rlOf rows) T.objs H, mRoots (rlOf rows) fr T.roots with
    | some (l2, c2), some (l3, c3) => chk c2 (chk c3 (k (l1 ++ (l2 ++ l3))))
    | _, _ => none
  | none => none

section
variable {P : Program} {E : Nat → Prop} {w0 w : World} {ρ : List Pl} {H H' : Heap} {fr : Fr} {g : Nat → Value} {rl : Nat → Int}

theorem mC_ok {t : TC} {c : Col} {x : Leaf} (h : mC t c = some x) (r : List Leaf) : iC t (x :: r) = some (c, r) := by
  unfold mC at h
  split at h
  · rename_i k k' l
    by_cases hk : k = k'
    · subst hk; simp at h; subst h; rfl
    · simp [hk] at h
  · cases h; rfl
  · cases h; rfl
  · cases h
theorem mCs_ok : ∀ {ts : List TC} {cs : List Col} {l : List Leaf}, mCs ts cs = some l → ∀ r, iCs ts (l ++ r) = some (cs, r)
  | [], [], l, h, r => by simp only [mCs, Option.some.injEq] at h; subst h; rfl
  | t :: ts, c :: cs, l, h, r => by
    simp only [mCs] at h
    split at h
    · rename_i x l' h1 h2
      cases h
      simp only [List.cons_append, iCs, mC_ok h1, mCs_ok h2]
    · cases h
  | [], _ :: _, _, h, _ => by simp [mCs] at h
  | _ :: _, [], _, h, _ => by simp [mCs] at h
theorem mRow_ok {t : TO} {o : AObj} {l : List Leaf} {c : List Col} (h : mRow t o = some (l, c)) (r : List Leaf) : iCs (toCols t) (l ++ r) = some (c, r) := by
  unfold mRow at h
  split at h
  · rename_i e sz cs e' sz' n cols
    cases hb : (Nat.beq e e' && Nat.beq sz sz') with
    | false => rw [hb] at h; cases h
    | true =>
      rw [hb] at h; simp only [cond_true] at h
      split at h
      · rename_i x hx; cases h; exact mCs_ok hx r
      · cases h
  · rename_i e sz cs e' sz' n cols
    cases hb : (Nat.beq e e' && Nat.beq sz sz') with
    | false => rw [hb] at h; cases h
    | true =>
      rw [hb] at h; simp only [cond_true] at h
      split at h
      · rename_i x hx; cases h; exact mCs_ok hx r
      · cases h
  · rename_i k c k' ks col
    by_cases hk : k = k'
    · subst hk
      simp only [decide_true, cond_true] at h
      split at h
      · rename_i x hx; cases h; simp only [toCols, List.cons_append, List.nil_append, iCs, show ∀ l r, iC (.int .i64) (.li l :: r) = some (.int .i64 l, r) from fun _ _ => rfl, mC_ok hx]
      · cases h
    · simp [hk] at h
  · rename_i t as t' as'
    cases hb : Nat.beq t t' with
    | false => rw [hb] at h; cases h
    | true => rw [hb] at h; cases h; rfl
  · cases h; rfl
  · cases h
theorem mRows_ok : ∀ {ts : List TO} {os : Heap} {l : List Leaf} {rows : List (List Col)}, mRows ts os = some (l, rows) → ∀ r, iRows ts (l ++ r) = some (rows, r)
  | [], [], l, rows, h, r => by simp only [mRows, Option.some.injEq, Prod.mk.injEq] at h; obtain ⟨rfl, rfl⟩ := h; rfl
  | t :: ts, o :: os, l, rows, h, r => by
    simp only [mRows] at h
    split at h
    · rename_i x c l' c' h1 h2
      cases h
      simp only [iRows, List.append_assoc, mRow_ok h1, mRows_ok h2]
    · cases h
  | [], _ :: _, _, _, h, _ => by simp [mRows] at h
  | _ :: _, [], _, _, h, _ => by simp [mRows] at h

theorem mCaps_ok : ∀ {a b : List (Nat × Nat)}, mCaps a b = true → a = b
  | [], [], _ => rfl
  | (a, b) :: r, (c, d) :: s, h => by
    simp only [mCaps, Bool.and_eq_true] at h
    rw [Nat.eq_of_beq_eq_true h.1.1, Nat.eq_of_beq_eq_true h.1.2, mCaps_ok h.2]
  | [], _ :: _, h => by simp [mCaps] at h
  | _ :: _, [], h => by simp [mCaps] at h

/-- Said with less. -/
def Le (ρ : List Pl) (H : Heap) (a a' : A) : Prop := ∀ u, ARel ρ H a u → ARel ρ H a' u

theorem mA_ok {t : TA} {a : A} {l : List Leaf} {c : Bool} (h : mA rl t a = some (l, c)) (hc : c = true) (r : List Leaf) : ∃ a', iA rl t (l ++ r) = some (a', r) ∧ Le ρ H a a' := by
  unfold mA at h
  split at h
  · rename_i k k' n
    by_cases hk : k = k'
    · subst hk; simp at h; obtain ⟨rfl, rfl⟩ := h; exact ⟨_, rfl, fun _ h => h⟩
    · simp [hk] at h
  · cases h; exact ⟨_, rfl, fun _ h => h⟩
  · cases h; exact ⟨_, rfl, fun _ h => h⟩
  · rename_i i o i' o'
    cases hb : (Nat.beq i i' && Nat.beq o o') with
    | false => rw [hb] at h; cases h
    | true =>
      rw [hb] at h; cases h
      rw [Bool.and_eq_true] at hb
      rw [Nat.eq_of_beq_eq_true hb.1, Nat.eq_of_beq_eq_true hb.2]
      exact ⟨_, rfl, fun _ h => h⟩
  · rename_i i sz i' sz' len
    cases hb : (Nat.beq i i' && Nat.beq sz sz') with
    | false => rw [hb] at h; cases h
    | true =>
      rw [hb] at h; cases h
      rw [Bool.and_eq_true] at hb
      have e1 := Nat.eq_of_beq_eq_true hb.1
      have e2 := Nat.eq_of_beq_eq_true hb.2
      subst e1 e2
      have := of_decide_eq_true hc
      subst this
      exact ⟨_, rfl, fun _ h => h⟩
  · rename_i i sz i' sz' off len
    cases hb : (Nat.beq i i' && Nat.beq sz sz') with
    | false => rw [hb] at h; cases h
    | true =>
      rw [hb] at h; cases h
      rw [Bool.and_eq_true] at hb
      have e1 := Nat.eq_of_beq_eq_true hb.1
      have e2 := Nat.eq_of_beq_eq_true hb.2
      subst e1 e2
      exact ⟨_, rfl, fun _ h => h⟩
  · rename_i i i'
    cases hb : Nat.beq i i' with
    | false => rw [hb] at h; cases h
    | true => rw [hb] at h; cases h; rw [Nat.eq_of_beq_eq_true hb]; exact ⟨_, rfl, fun _ h => h⟩
  · rename_i f caps f' caps'
    cases hb : (Nat.beq f f' && mCaps caps caps') with
    | false => rw [hb] at h; cases h
    | true =>
      rw [hb] at h; cases h
      rw [Bool.and_eq_true] at hb
      rw [Nat.eq_of_beq_eq_true hb.1, mCaps_ok hb.2]
      exact ⟨_, rfl, fun _ h => h⟩
  · cases h; exact ⟨_, rfl, fun _ h => h⟩
  · cases h; exact ⟨_, rfl, fun _ h => h⟩
  · cases h; exact ⟨_, rfl, fun _ h => h⟩
  · cases h; exact ⟨_, rfl, fun _ _ => trivial⟩
  · cases h

theorem mAs_ok : ∀ {ts : List TA} {as : List A} {l : List Leaf} {c : Bool}, mAs rl ts as = some (l, c) → c = true → ∀ r, ∃ as', iAs rl ts (l ++ r) = some (as', r) ∧ ∀ vs, AsRel ρ H as vs → AsRel ρ H as' vs
  | [], [], l, c, h, hc, r => by simp only [mAs, Option.some.injEq, Prod.mk.injEq] at h; obtain ⟨rfl, rfl⟩ := h; exact ⟨[], rfl, fun _ h => h⟩
  | t :: ts, a :: as, l, c, h, hc, r => by
    simp only [mAs] at h
    split at h
    · rename_i x c1 l' c' h1 h2
      cases h
      rw [Bool.and_eq_true] at hc
      obtain ⟨a', e1, le1⟩ := mA_ok (ρ := ρ) (H := H) h1 hc.1 (l' ++ r)
      obtain ⟨as', e2, le2⟩ := mAs_ok h2 hc.2 r
      refine ⟨a' :: as', by simp only [iAs, List.append_assoc, e1, e2], fun vs hv => ?_⟩
      cases vs with
      | nil => have := hv.1; simp at this
      | cons v vs =>
        have hs : AsRel ρ H as' vs := le2 vs ⟨by have := hv.1; simpa using this, fun j b u hb hu => hv.2 (j + 1) b u (by simpa using hb) (by simpa using hu)⟩
        refine ⟨by simp [hs.1], fun j b u hb hu => ?_⟩
        match j with
        | 0 => simp at hb hu; subst hb hu; exact le1 _ (hv.2 0 a v rfl rfl)
        | j + 1 => simp at hb hu; exact hs.2 j b u hb hu
    · cases h
  | [], _ :: _, _, _, h, _, _ => by simp [mAs] at h
  | _ :: _, [], _, _, h, _, _ => by simp [mAs] at h

theorem mW_ok {t : TW} {x : W} {l : List Leaf} {c : Bool} (h : mW rl t x = some (l, c)) (hc : c = true) (r : List Leaf) : ∃ x', iW rl t (l ++ r) = some (x', r) ∧ ∀ u, WRel ρ H x u → WRel ρ H x' u := by
  unfold mW at h
  split at h
  · obtain ⟨a', e, le⟩ := mA_ok (ρ := ρ) (H := H) h hc r
    exact ⟨.at a', by simp [iW, e], le⟩
  · obtain ⟨a', e, le⟩ := mAs_ok (ρ := ρ) (H := H) h hc r
    exact ⟨.agg a', by simp [iW, e], fun u ⟨vs, hu, hv⟩ => ⟨vs, hu, le vs hv⟩⟩
  · cases h
theorem mWs_ok : ∀ {ts : List TW} {as : List W} {l : List Leaf} {c : Bool}, mWs rl ts as = some (l, c) → c = true → ∀ r, ∃ as', iWs rl ts (l ++ r) = some (as', r) ∧ ∀ u, VRel ρ H (.tup as) u → VRel ρ H (.tup as') u
  | [], [], l, c, h, hc, r => by simp only [mWs, Option.some.injEq, Prod.mk.injEq] at h; obtain ⟨rfl, rfl⟩ := h; exact ⟨[], rfl, fun _ h => h⟩
  | t :: ts, a :: as, l, c, h, hc, r => by
    simp only [mWs] at h
    split at h
    · rename_i x c1 l' c' h1 h2
      cases h
      rw [Bool.and_eq_true] at hc
      obtain ⟨a', e1, le1⟩ := mW_ok (ρ := ρ) (H := H) h1 hc.1 (l' ++ r)
      obtain ⟨as', e2, le2⟩ := mWs_ok h2 hc.2 r
      refine ⟨a' :: as', by simp only [iWs, List.append_assoc, e1, e2], fun u hu => ?_⟩
      obtain ⟨vs, rfl, hl, hv⟩ := hu
      cases vs with
      | nil => simp at hl
      | cons v vs =>
        obtain ⟨vs', hvs, hl', hv'⟩ := le2 (.tuple vs.toArray) ⟨vs, rfl, by simpa using hl, fun j b u hb hu => hv (j + 1) b u (by simpa using hb) (by simpa using hu)⟩
        simp only [Value.tuple.injEq] at hvs
        have hvs' : vs = vs' := by simpa using congrArg Array.toList hvs
        subst hvs'
        refine ⟨v :: vs, rfl, by simp [hl'], fun j b u hb hu => ?_⟩
        match j with
        | 0 => simp at hb hu; subst hb hu; exact le1 _ (hv 0 a v rfl rfl)
        | j + 1 => simp at hb hu; exact hv' j b u hb hu
    · cases h
  | [], _ :: _, _, _, h, _, _ => by simp [mWs] at h
  | _ :: _, [], _, _, h, _, _ => by simp [mWs] at h
theorem mV_ok {t : TV} {x : V} {l : List Leaf} {c : Bool} (h : mV rl t x = some (l, c)) (hc : c = true) (r : List Leaf) : ∃ x', iV rl t (l ++ r) = some (x', r) ∧ ∀ u, VRel ρ H x u → VRel ρ H x' u := by
  unfold mV at h
  split at h
  · obtain ⟨a', e, le⟩ := mA_ok (ρ := ρ) (H := H) h hc r
    exact ⟨.at a', by simp [iV, iW, e, W.v], le⟩
  · obtain ⟨a', e, le⟩ := mAs_ok (ρ := ρ) (H := H) h hc r
    exact ⟨.agg a', by simp [iV, iW, e, W.v], fun u ⟨vs, hu, hv⟩ => ⟨vs, hu, le vs hv⟩⟩
  · obtain ⟨a', e, le⟩ := mWs_ok (ρ := ρ) (H := H) h hc r
    exact ⟨.tup a', by simp [iV, e], le⟩
  · cases h
theorem mRoots_ok : ∀ {ts : List (Nat × TV)} {l : List Leaf} {c : Bool}, mRoots rl fr ts = some (l, c) → c = true → SRel ρ H fr g → ∀ r, ∃ fr', iRoots rl ts (l ++ r) = some (fr', r) ∧ SRel ρ H fr' g ∧ ∀ t v, lk fr' t = some v → ∃ v0, lk fr t = some v0
  | [], l, c, h, hc, hs, r => by simp only [mRoots, Option.some.injEq, Prod.mk.injEq] at h; obtain ⟨rfl, rfl⟩ := h; exact ⟨[], rfl, by intro t v h; simp [lk] at h, by intro t v h; simp [lk] at h⟩
  | (s, t) :: ts, l, c, h, hc, hs, r => by
    simp only [mRoots] at h
    split at h
    · rename_i v hv
      split at h
      · rename_i x c1 l' c' h1 h2
        cases h
        rw [Bool.and_eq_true] at hc
        obtain ⟨a', e1, le1⟩ := mV_ok (ρ := ρ) (H := H) h1 hc.1 (l' ++ r)
        obtain ⟨fr', e2, s2, l2⟩ := mRoots_ok h2 hc.2 hs r
        refine ⟨(s, a') :: fr', by simp only [iRoots, List.append_assoc, e1, e2], fun t' v' ht => ?_, fun t' v' ht => ?_⟩
        · rw [lk_cons] at ht
          split at ht
          · rename_i e; subst e; cases ht; exact le1 _ (hs _ _ hv)
          · exact s2 t' v' ht
        · rw [lk_cons] at ht
          split at ht
          · rename_i e; subst e; exact ⟨v, hv⟩
          · exact l2 t' v' ht
      · cases h
    · cases h

/-- An object said with less. -/
def LeO (ρ : List Pl) (H : Heap) (w : World) (o o' : AObj) : Prop :=
  (o'.mut = true → o.mut = true) ∧ (o'.isDead = false → o.isDead = false) ∧ (o.isDead = true → o'.isDead = true) ∧ ∀ p, ObjRel ρ H w p o → ObjRel ρ H w p o'

theorem mO_ok {t : TO} {o : AObj} {l0 : List Leaf} {cols : List Col} {l : List Leaf} {c : Bool} (h0 : mRow t o = some (l0, cols)) (h : mO rl t o = some (l, c)) (hc : c = true) (r : List Leaf) (hok : ∃ p, ObjRel ρ H w p o) :
    ∃ o', iO rl t cols (l ++ r) = some (o', r) ∧ LeO ρ H w o o' := by
  unfold mRow at h0
  have hn : ∀ {p : Pl} {sz : Nat} {n : Int} {cols : List Col}, RowOk p sz n cols → colsN cols = n := by
    intro p sz n cols hr
    obtain ⟨k1, k2, k3, k4, _⟩ := hr
    cases cols with
    | nil => simp at k3; omega
    | cons d ds => simp only [colsN, k2 d (by simp)]; omega
  split at h0
  · rename_i e sz cs e' sz' n cols'
    cases hb : (Nat.beq e e' && Nat.beq sz sz') with
    | false => rw [hb] at h0; cases h0
    | true =>
      rw [hb] at h0; simp only [cond_true] at h0
      rw [Bool.and_eq_true] at hb
      have e1 := Nat.eq_of_beq_eq_true hb.1
      have e2 := Nat.eq_of_beq_eq_true hb.2
      subst e1 e2
      split at h0
      · rename_i x hx; cases h0
        simp only [mO, Option.some.injEq, Prod.mk.injEq] at h
        obtain ⟨rfl, rfl⟩ := h
        obtain ⟨p, hp⟩ := hok
        refine ⟨_, rfl, ?_⟩
        rw [hn hp.1]
        exact ⟨fun h => h, fun h => h, fun h => h, fun _ h => h⟩
      · cases h0
  · rename_i e sz cs e' sz' n cols'
    cases hb : (Nat.beq e e' && Nat.beq sz sz') with
    | false => rw [hb] at h0; cases h0
    | true =>
      rw [hb] at h0; simp only [cond_true] at h0
      rw [Bool.and_eq_true] at hb
      have e1 := Nat.eq_of_beq_eq_true hb.1
      have e2 := Nat.eq_of_beq_eq_true hb.2
      subst e1 e2
      split at h0
      · rename_i x hx; cases h0
        simp only [mO, Option.some.injEq, Prod.mk.injEq] at h
        obtain ⟨rfl, rfl⟩ := h
        obtain ⟨p, hp⟩ := hok
        refine ⟨_, rfl, ?_⟩
        rw [hn hp.1]
        exact ⟨fun h => h, fun h => h, fun h => h, fun _ h => h⟩
      · cases h0
  · rename_i k cc k' ks col
    by_cases hk : k = k'
    · subst hk
      simp only [decide_true, cond_true] at h0
      split at h0
      · rename_i x hx; cases h0
        simp only [mO, Option.some.injEq, Prod.mk.injEq] at h
        obtain ⟨rfl, rfl⟩ := h
        exact ⟨_, rfl, fun h => h, fun h => h, fun h => h, fun _ h => h⟩
      · cases h0
    · simp [hk] at h0
  · rename_i t as t' as'
    cases hb : Nat.beq t t' with
    | false => rw [hb] at h0; cases h0
    | true =>
      rw [hb] at h0; cases h0
      have e1 := Nat.eq_of_beq_eq_true hb
      subst e1
      simp only [mO] at h
      obtain ⟨x, e, le⟩ := mAs_ok (ρ := ρ) (H := H) h hc r
      exact ⟨.cells t x, by simp [iO, e], fun h => h, fun h => h, fun h => h, fun p ⟨h1, h2, cur, h3, h4⟩ => ⟨h1, h2, cur, h3, le _ h4⟩⟩
  · cases h0
    simp only [mO, Option.some.injEq, Prod.mk.injEq] at h
    obtain ⟨rfl, rfl⟩ := h
    refine ⟨.dead, rfl, ?_⟩
    unfold LeO
    exact ⟨fun h => (Bool.noConfusion h), fun h => (Bool.noConfusion h), fun _ => rfl, fun _ _ => trivial⟩
  · cases h0

theorem mObjs_ok : ∀ {ts : List TO} {os : Heap} {l0 : List Leaf} {rows : List (List Col)} {l : List Leaf} {c : Bool}, mRows ts os = some (l0, rows) → mObjs rl ts os = some (l, c) → c = true → (∀ o ∈ os, ∃ p, ObjRel ρ H w p o) → ∀ r,
    ∃ H', iObjs rl ts rows (l ++ r) = some (H', r) ∧ H'.length = os.length ∧ ∀ (i : Nat) (o' : AObj), H'[i]? = some o' → ∃ o, os[i]? = some o ∧ LeO ρ H w o o'
  | [], [], l0, rows, l, c, h0, h, hc, hok, r => by
    simp only [mRows, Option.some.injEq, Prod.mk.injEq] at h0
    simp only [mObjs, Option.some.injEq, Prod.mk.injEq] at h
    obtain ⟨rfl, rfl⟩ := h0
    obtain ⟨rfl, rfl⟩ := h
    exact ⟨[], rfl, rfl, fun i o' hi => by simp at hi⟩
  | t :: ts, o :: os, l0, rows, l, c, h0, h, hc, hok, r => by
    simp only [mRows] at h0
    simp only [mObjs] at h
    split at h0
    · rename_i x c1 l' c' h1 h2
      cases h0
      split at h
      · rename_i y d y' d' h3 h4
        cases h
        rw [Bool.and_eq_true] at hc
        obtain ⟨o', e1, le1⟩ := mO_ok h1 h3 hc.1 (y' ++ r) (hok o (by simp))
        obtain ⟨H', e2, hl, le2⟩ := mObjs_ok h2 h4 hc.2 (fun o ho => hok o (by simp [ho])) r
        refine ⟨o' :: H', by simp only [iObjs, List.append_assoc, e1, e2], by simp [hl], fun i b hb => ?_⟩
        match i with
        | 0 => simp at hb; subst hb; exact ⟨o, rfl, le1⟩
        | i + 1 => simp at hb; simpa using le2 i b hb
      · cases h
    · cases h0
  | [], _ :: _, _, _, _, _, h, _, _, _, _ => by simp [mRows] at h
  | _ :: _, [], _, _, _, _, h, _, _, _, _ => by simp [mRows] at h

theorem seen_par {α : Type} {T : Tm} {k : List Leaf → Option α} {r : α} (h : seen T fr H k = some r) : ∃ ls, k ls = some r ∧ ∀ {β : Type} (k' : List Leaf → Option β), seen T fr H k' = k' ls := by
  unfold seen at h
  split at h
  · rename_i l1 rows h1
    split at h
    · rename_i l2 c2 l3 c3 h2 h3
      obtain ⟨hc2, h⟩ := chk_some.1 h
      obtain ⟨hc3, h⟩ := chk_some.1 h
      exact ⟨_, h, fun k' => by simp only [seen, h1, h2, h3, hc2, hc3, chk_true]⟩
    · cases h
  · cases h

theorem seen_ok {α : Type} {T : Tm} {k : List Leaf → Option α} {r : α} (h : seen T fr H k = some r) (hr : HRel E w0 ρ H w) (hs : SRel ρ H fr g) :
    ∃ ls fr' H', k ls = some r ∧ inst T ls = some (fr', H') ∧ HRel E w0 ρ H' w ∧ SRel ρ H' fr' g ∧ (∀ t v, lk fr' t = some v → ∃ v0, lk fr t = some v0) ∧
      H'.length = H.length ∧ ∀ (i : Nat) (o' : AObj), H'[i]? = some o' → ∃ o, H[i]? = some o ∧ (o'.mut = true → o.mut = true) ∧ (o'.isDead = false → o.isDead = false) := by
  unfold seen at h
  split at h
  · rename_i l1 rows h1
    split at h
    · rename_i l2 c2 l3 c3 h2 h3
      obtain ⟨hc2, h⟩ := chk_some.1 h
      obtain ⟨hc3, h⟩ := chk_some.1 h
      have hobj : ∀ o ∈ H, ∃ p, ObjRel ρ H w p o := by
        intro o ho
        obtain ⟨i, hi, rfl⟩ := List.getElem_of_mem ho
        obtain ⟨p, _, hp⟩ := hr.at (List.getElem?_eq_getElem hi)
        exact ⟨p, hp⟩
      obtain ⟨H', e2, hl, le⟩ := mObjs_ok (w := w) (ρ := ρ) h1 h2 hc2 hobj l3
      obtain ⟨fr', e3, s3, sub⟩ := mRoots_ok (g := g) (ρ := ρ) (H := H) h3 hc3 hs []
      have hx : Ext ρ H ρ H' := by
        refine ⟨fun _ _ h => h, fun i hg => ?_⟩
        unfold Gone at hg ⊢
        have hi : i < H'.length := by rw [hl]; exact (List.getElem?_eq_some_iff.1 hg).1
        obtain ⟨o, ho, _, _, hdd, _⟩ := le i _ (List.getElem?_eq_getElem hi)
        rw [hg] at ho; cases ho
        have := hdd rfl
        rw [List.getElem?_eq_getElem hi]
        cases hq : H'[i] <;> rw [hq] at this <;> first | rfl | cases this
      refine ⟨_, fr', H', h, ?_, ⟨by rw [hl, hr.len], ?_, ?_, ?_, hr.kept⟩, s3.ext hx, sub, hl, fun i o' ho' => let ⟨o, ho, h1, h2, _, _⟩ := le i o' ho'; ⟨o, ho, h1, h2⟩⟩
      · simp only [List.append_nil] at e3
        simp only [inst, mRows_ok h1, e2, e3]
      · intro i p o' hp ho'
        obtain ⟨o, ho, _, _, _, hrel⟩ := le i o' ho'
        exact (hrel p (hr.obj i p o hp ho)).ext hx rfl
      · intro i j p q o o' hp hq ho ho' hm hd hpr hqr hij
        obtain ⟨o1, ho1, hm1, _, _, _⟩ := le i o ho
        obtain ⟨o2, ho2, _, hd2, _, _⟩ := le j o' ho'
        exact hr.inj i j p q o1 o2 hp hq ho1 ho2 (hm1 hm) (hd2 hd) hpr hqr hij
      · intro i p o' hp ho' hm hpr
        obtain ⟨o1, ho1, hm1, _, _, _⟩ := le i o' ho'
        exact hr.own i p o1 hp ho1 (hm1 hm) hpr
    · cases h
  · cases h
end
end Go.Sx
