/-
  The last of the operations that only read, and all of them together.
-/
import Derived.Test.YtbjpcbghchfifaaGreatDoorSxD
set_option linter.all false
namespace Go.Sx
open Go

def optI : Option V → Option (Option Int)
  | none => some none
  | some (.at (.raw (.int _ n))) => some (some n)
  | _ => none

def offSl (off : Option Int) (lo : Option Int) : Option Int := match lo with | none => off | some l => some (offAdd off l)
def lenSl (len : Int) (lo hi : Option Int) : Int :=
  match lo, hi with
  | none, none => len
  | none, some h => h
  | some l, none => len - l
  | some l, some h => h - l
def condSl (len : Int) (lo hi : Option Int) : Bool :=
  match lo, hi with
  | none, none => true
  | none, some h => decide (0 ≤ h ∧ h ≤ len)
  | some l, none => decide (0 ≤ l ∧ l ≤ len)
  | some l, some h => decide (0 ≤ l ∧ l ≤ h ∧ h ≤ len)
def strSlO (s : ByteArray) (lo hi : Option Int) : ByteArray :=
  match lo, hi with
  | none, none => s
  | none, some h => strSl s 0 h
  | some l, none => strSl s l (s.size : Int)
  | some l, some h => strSl s l h

def nSlice (H : Heap) (tl : Tab) (t : TypeId) (x : V) (lo hi : Option V) : Option (V × Bool) :=
  match kd tl t, x, optI lo, optI hi with
  | some .str, .at (.raw (.string s)), some l, some h => some (.at (.raw (.string (strSlO s l h))), condSl (s.size : Int) l h)
  | some (.sl e), .at (.sl id sz off len), some l, some h =>
    match lk tl e with
    | some ti => bif Nat.beq ti.size sz && alive H id then some (.at (.sl id sz (offSl off l) (lenSl len l h)), condSl len l h) else none
    | none => none
  | some (.sl e), .at (.raw (.slice none 0 0)), some l, some h =>
    match lk tl e with
    | some _ => some (.at (.raw (.slice none 0 0)), condSl 0 l h)
    | none => none
  | _, _, _, _ => none

def nUn (op : UnOp) (x : V) : Option V :=
  match op, x with
  | .not, .at (.raw (.bool b)) => some (.at (.raw (.bool (!b))))
  | .neg, .at (.raw (.int k n)) => some (.at (.raw (.int k (subI k 0 n))))
  | _, _ => none

def wrapI (k : IntKind) (n : Int) : Int := k.wrap n
def nConv (tl : Tab) (src dst : TypeId) (x : V) : Option V :=
  match kd tl src, kd tl dst, x with
  | some (.int _), some (.int k), .at (.raw (.int _ n)) => some (.at (.raw (.int k (wrapI k n))))
  | some .str, some .str, .at (.raw (.string s)) => some (.at (.raw (.string s)))
  | _, _, _ => none

def foldMM (f : Int → Int → Int) : Int → List V → Option Int
  | a, [] => some a
  | a, .at (.raw (.int _ n)) :: r => foldMM f (f a n) r
  | _, _ => none
def nMM (f : Int → Int → Int) : List V → Option V
  | .at (.raw (.int k n)) :: r => match foldMM f n r with | some m => some (.at (.raw (.int k m))) | none => none
  | _ => none

def nExtract (x : V) (i : Nat) : Option V :=
  match x with
  | .tup xs => match xs[i]? with | some y => some y.v | none => none
  | .at (.raw (.tuple vs)) => match vs[i]? with | some y => some (.at (.raw y)) | none => none
  | _ => none

def capsOf : List V → Option (List (Nat × Nat))
  | [] => some []
  | .at (.ptr id o) :: r => match capsOf r with | some l => some ((id, o) :: l) | none => none
  | _ => none

def nEqNil (H : Heap) (x y : V) : Option Bool :=   -- x == nil, pointers and maps
  match x, y with
  | .at (.ptr id _), .at (.raw (.pointer none)) => bif alive H id then some false else none
  | .at (.raw (.pointer none)), .at (.raw (.pointer none)) => some true
  | _, _ => none

def nBin (H : Heap) (tl : Tab) (op : BinOp) (t : TypeId) (x y : V) : Option (V × Bool) :=
  match x, y with
  | .at (.raw (.bool a)), .at (.raw (.bool b)) =>
    match op, kd tl t with
    | .eql, some .bool => some (.at (.raw (.bool (a == b))), true)
    | .neq, some .bool => some (.at (.raw (.bool (!(a == b)))), true)
    | _, _ => none
  | .at (.raw (.pointer _)), _ | .at (.ptr _ _), _ =>
    match op, kd tl t, nEqNil H x y with
    | .eql, some (.ptr _), some b => some (.at (.raw (.bool b)), true)
    | .neq, some (.ptr _), some b => some (.at (.raw (.bool (!b))), true)
    | _, _, _ => none
  | .at (.raw a), .at (.raw b) => match binR op a b with | some (v, c) => some (.at (.raw v), c) | none => none
  | _, _ => none

def mget {α : Type} (d : α) : List Int → List α → Int → α
  | k :: ks, v :: vs, n => bif k == n then v else mget d ks vs n
  | _, _, _ => d
def mhas : List Int → Int → Bool
  | [], _ => false
  | k :: ks, n => bif k == n then true else mhas ks n

section
variable {P : Program} {E : Nat → Prop} {w0 w : World} {ρ : List Pl} {H : Heap}

theorem sliceBounds_run {isS : Bool} {len cap : Nat} {lo hi : Option Value} {l h : Option Int} (hle : len ≤ cap)
    (hl : lo = l.map (Value.int .i64) ∨ ∃ k, lo = l.map (Value.int k)) (hh : ∃ k, hi = h.map (Value.int k)) (hc : condSl (len : Int) l h = true) (w' : World) :
    (Instr.sliceBounds isS len cap lo hi none).run P w' = .ok ((l.getD 0).toNat, (h.getD (len : Int)).toNat, cap) w' := by
  obtain ⟨k', rfl⟩ := hh
  have hl : ∃ k, lo = l.map (Value.int k) := by rcases hl with h | h; exact ⟨_, h⟩; exact h
  obtain ⟨k, rfl⟩ := hl
  cases l <;> cases h <;> simp only [condSl, decide_eq_true_eq] at hc
  · simp [Instr.sliceBounds]
  · rename_i h
    have h1 : h ≤ (cap : Int) := by omega
    simp [Instr.sliceBounds, run_sliceBound, hc.1, h1]
  · rename_i l
    simp [Instr.sliceBounds, run_sliceBound, hc.1, hc.2]
  · rename_i l h
    have h0 : 0 ≤ h := by omega
    have h1 : h ≤ (cap : Int) := by omega
    have h2 : l ≤ ((h.toNat : Nat) : Int) := by omega
    simp only [Instr.sliceBounds, Option.map_some, Sem.run_bind, Sem.run_pure, Result.andThen_ok, run_sliceBound w' k' h cap _ h0 h1, Option.isSome_none, Bool.false_eq_true, if_false, run_sliceBound w' k l h.toNat _ hc.1 h2, Option.getD_some]

theorem optI_rel {lo : Option V} {l : Option Int} {lo' : Option Value} (h : optI lo = some l) (hr : (lo = none ∧ lo' = none) ∨ ∃ x u, lo = some x ∧ lo' = some u ∧ VRel ρ H x u) : ∃ k, lo' = l.map (Value.int k) := by
  rcases hr with ⟨rfl, rfl⟩ | ⟨x, u, rfl, rfl, hx⟩
  · simp only [optI, Option.some.injEq] at h; subst h; exact ⟨.i64, rfl⟩
  · unfold optI at h
    split at h
    · rename_i e; cases e
    · rename_i k n e
      cases e; cases h
      simp only [VRel, ARel] at hx
      subst hx
      exact ⟨k, rfl⟩
    · cases h

theorem nSlice_ok {tl : Tab} (htl : TabOk P tl) {t : TypeId} {x v : V} {lo hi : Option V} {u : Value} {lo' hi' : Option Value} {c : Bool} (h : nSlice H tl t x lo hi = some (v, c)) (hc : c = true) (hx : VRel ρ H x u)
    (hlo : (lo = none ∧ lo' = none) ∨ ∃ x u, lo = some x ∧ lo' = some u ∧ VRel ρ H x u) (hhi : (hi = none ∧ hi' = none) ∨ ∃ x u, hi = some x ∧ hi' = some u ∧ VRel ρ H x u) :
    ∃ y, VRel ρ H v y ∧ ∀ w' : World, (Instr.sliceAt t u lo' hi' none).run P w' = .ok y w' := by
  unfold nSlice at h
  split at h
  · rename_i s l h' hti hl hh
    have hu : P.underlying t = some .string := kd_ok htl hti
    cases h
    obtain ⟨k, hk⟩ := optI_rel hl hlo
    obtain ⟨k', hk'⟩ := optI_rel hh hhi
    simp only [VRel, ARel] at hx
    subst hx
    refine ⟨_, rfl, fun w' => ?_⟩
    have hb := sliceBounds_run (P := P) (isS := false) (len := s.size) (cap := s.size) (Nat.le_refl _) (.inr ⟨k, hk⟩) ⟨k', hk'⟩ hc w'
    simp only [Instr.sliceAt, Sem.run_bind, run_underlying hu, Result.andThen_ok, Instr.slice, hb, Option.isSome_none, Bool.false_eq_true, if_false, Sem.run_pure]
    congr 2
    cases l <;> cases h' <;> simp [strSlO, strSl]
  · rename_i e id sz off len l h' hti hl hh
    have hu : P.underlying t = some (.slice e) := kd_ok htl hti
    split at h
    · rename_i ti hti'
      cases hb : (Nat.beq ti.size sz && alive H id) with
      | false => rw [hb] at h; cases h
      | true =>
        rw [hb] at h
        cases h
        rw [Bool.and_eq_true] at hb
        have hsz : ti.size = sz := Nat.eq_of_beq_eq_true hb.1
        obtain ⟨p, hp, h0, h1, h2, hsl⟩ := hx.resolve_left (not_gone hb.2)
        have ht := htl e ti hti'
        obtain ⟨k, hk⟩ := optI_rel hl hlo
        obtain ⟨k', hk'⟩ := optI_rel hh hhi
        have hlen : condSl ((len.toNat : Nat) : Int) l h' = true := by rw [Int.toNat_of_nonneg h1]; exact hc
        have facts : 0 ≤ l.getD 0 ∧ l.getD 0 ≤ h'.getD len ∧ h'.getD len ≤ len ∧ lenSl len l h' = h'.getD len - l.getD 0 ∧ (offSl off l).getD 0 = off.getD 0 + l.getD 0 := by
          cases l <;> cases h' <;> cases off <;> simp only [condSl, decide_eq_true_eq] at hc <;> simp [lenSl, offSl, offAdd] <;> omega
        obtain ⟨f1, f2, f3, f4, f5⟩ := facts
        rcases hsl with ⟨hr, a, rfl, ha⟩ | ⟨hr, hr2, rfl⟩
        · have hbnd := sliceBounds_run (P := P) (isS := true) (len := len.toNat) (cap := p.cap - (off.getD 0).toNat) (by omega) (.inr ⟨k, hk⟩) ⟨k', hk'⟩ hlen
          refine ⟨.slice (if p.cap - (off.getD 0).toNat = (l.getD 0).toNat then some a else some (a.add ((l.getD 0).toNat * sz))) ((h'.getD len).toNat - (l.getD 0).toNat) (p.cap - (off.getD 0).toNat - (l.getD 0).toNat), .inr ⟨p, hp, by rw [f5]; omega, by omega, by rw [f4, f5]; omega, .inl ⟨hr, ?_⟩⟩, fun w' => ?_⟩
          · by_cases hq : p.cap - (off.getD 0).toNat = (l.getD 0).toNat
            · rw [if_pos hq]
              refine ⟨a, ?_, fun hne => ?_⟩
              · rw [f4, f5]; congr 1 <;> omega
              · rw [f5] at hne; omega
            · rw [if_neg hq]
              refine ⟨a.add ((l.getD 0).toNat * sz), ?_, fun hne => ?_⟩
              · rw [f4, f5]; congr 1 <;> omega
              · rw [ha (by omega), addr_add, f5, ← Nat.add_mul]
                congr 2; omega
          · simp only [Instr.sliceAt, Sem.run_bind, run_underlying hu, Result.andThen_ok, Instr.slice, hbnd, Sem.run_pure, ht.size_run, hsz, Option.map_some]
            congr 2
            rw [Int.toNat_of_nonneg h1]
        · have hlen0 : len = 0 := by omega
          subst hlen0
          have hl0 : l.getD 0 = 0 := by omega
          have hh0 : h'.getD 0 = 0 := by omega
          have hbnd := sliceBounds_run (P := P) (isS := true) (len := 0) (cap := 0) (Nat.le_refl _) (.inr ⟨k, hk⟩) ⟨k', hk'⟩ (by simpa using hc)
          refine ⟨.slice none 0 0, .inr ⟨p, hp, by rw [f5]; omega, by omega, by rw [f4, f5]; omega, .inr ⟨hr, hr2, rfl⟩⟩, fun w' => ?_⟩
          have hh0' : h'.getD ((0 : Nat) : Int) = 0 := hh0
          simp [Instr.sliceAt, run_underlying hu, Instr.slice, hbnd, ht.size_run, hl0, hh0']
          omega
    · cases h
  · rename_i e l h' hti hl hh
    have hu : P.underlying t = some (.slice e) := kd_ok htl hti
    split at h
    · rename_i ti hti'
      cases h
      have ht := htl e ti hti'
      simp only [VRel, ARel] at hx
      subst hx
      obtain ⟨k, hk⟩ := optI_rel hl hlo
      obtain ⟨k', hk'⟩ := optI_rel hh hhi
      have f0 : l.getD 0 = 0 ∧ h'.getD 0 = 0 := by
        cases l <;> cases h' <;> simp only [condSl, decide_eq_true_eq] at hc <;> simp <;> omega
      have hbnd := sliceBounds_run (P := P) (isS := true) (len := 0) (cap := 0) (Nat.le_refl _) (.inr ⟨k, hk⟩) ⟨k', hk'⟩ (by simpa using hc)
      refine ⟨.slice none 0 0, rfl, fun w' => ?_⟩
      have hh0' : h'.getD ((0 : Nat) : Int) = 0 := f0.2
      simp [Instr.sliceAt, run_underlying hu, Instr.slice, hbnd, ht.size_run, f0.1, hh0']
      omega
    · cases h
  · cases h

theorem nUn_ok {op : UnOp} {x v : V} {u : Value} (h : nUn op x = some v) (hx : VRel ρ H x u) : ∃ y, VRel ρ H v y ∧ ∀ w' : World, (Op.unary op u).run P w' = .ok y w' := by
  unfold nUn at h
  split at h
  · cases h; simp only [VRel, ARel] at hx; subst hx; exact ⟨_, rfl, fun w' => rfl⟩
  · cases h; simp only [VRel, ARel] at hx; subst hx; exact ⟨_, rfl, fun w' => rfl⟩
  · cases h

theorem nConv_ok {tl : Tab} (htl : TabOk P tl) {src dst : TypeId} {x v : V} {u : Value} (h : nConv tl src dst x = some v) (hx : VRel ρ H x u) : ∃ y, VRel ρ H v y ∧ ∀ w' : World, (convert src dst u).run P w' = .ok y w' := by
  unfold nConv at h
  split at h
  · rename_i k0 k k1 n h1 h2
    have hs : P.underlying src = some (.int k0) := kd_ok htl h1
    have hd : P.underlying dst = some (.int k) := kd_ok htl h2
    cases h; simp only [VRel, ARel] at hx; subst hx
    exact ⟨_, rfl, fun w' => by simp [convert, run_underlying hs, run_underlying hd, Conv.intToInt, wrapI]⟩
  · rename_i s h1 h2
    have hs : P.underlying src = some .string := kd_ok htl h1
    have hd : P.underlying dst = some .string := kd_ok htl h2
    cases h; simp only [VRel, ARel] at hx; subst hx
    exact ⟨_, rfl, fun w' => by simp [convert, run_underlying hs, run_underlying hd]⟩
  · cases h

/-- Arguments, one by one. -/
inductive VsRel (ρ : List Pl) (H : Heap) : List V → List Value → Prop
  | nil : VsRel ρ H [] []
  | cons {x : V} {u : Value} {xs : List V} {us : List Value} (h : VRel ρ H x u) (hs : VsRel ρ H xs us) : VsRel ρ H (x :: xs) (u :: us)

theorem foldMM_ok {f : Int → Int → Int} {g : Value → Value → Sem Value} (hg : ∀ (k k' : IntKind) (a b : Int), g (.int k a) (.int k' b) = pure (.int k (f a b))) {k : IntKind} {w' : World} :
    ∀ {xs : List V} {us : List Value} {a m : Int}, VsRel ρ H xs us → foldMM f a xs = some m → (us.foldlM g (.int k a)).run P w' = .ok (.int k m) w' := by
  intro xs
  induction xs with
  | nil => intro us a m hv h; cases hv; simp only [foldMM, Option.some.injEq] at h; subst h; rfl
  | cons x xs ih =>
    intro us a m hv h
    cases hv with
    | cons hx hs =>
      unfold foldMM at h
      split at h
      · rename_i e; cases e
      · rename_i k' n r e
        cases e
        simp only [VRel, ARel] at hx
        subst hx
        simp only [List.foldlM_cons, hg, pure_bind]
        exact ih hs h
      · cases h

theorem nMax_ok {xs : List V} {us : List Value} {v : V} (h : nMM maxI xs = some v) (hx : VsRel ρ H xs us) (ts : Array TypeId) (t : TypeId) : ∃ y, VRel ρ H v y ∧ ∀ w' : World, (Builtin.max_ ts t us.toArray).run P w' = .ok y w' := by
  unfold nMM at h
  split at h
  · rename_i k n r
    cases hx with
    | cons h0 hs =>
      simp only [VRel, ARel] at h0
      subst h0
      split at h
      · rename_i m hm
        cases h
        refine ⟨_, rfl, fun w' => ?_⟩
        simp only [Builtin.max_]
        exact foldMM_ok (fun _ _ _ _ => rfl) hs hm
      · cases h
  · cases h
theorem nMin_ok {xs : List V} {us : List Value} {v : V} (h : nMM minI xs = some v) (hx : VsRel ρ H xs us) (ts : Array TypeId) (t : TypeId) : ∃ y, VRel ρ H v y ∧ ∀ w' : World, (Builtin.min_ ts t us.toArray).run P w' = .ok y w' := by
  unfold nMM at h
  split at h
  · rename_i k n r
    cases hx with
    | cons h0 hs =>
      simp only [VRel, ARel] at h0
      subst h0
      split at h
      · rename_i m hm
        cases h
        refine ⟨_, rfl, fun w' => ?_⟩
        simp only [Builtin.min_]
        exact foldMM_ok (fun _ _ _ _ => rfl) hs hm
      · cases h
  · cases h

theorem W.v_rel {x : W} {u : Value} (h : WRel ρ H x u) : VRel ρ H x.v u := by cases x <;> exact h

theorem nExtract_ok {x v : V} {i : Nat} {u : Value} (h : nExtract x i = some v) (hx : VRel ρ H x u) : ∃ y, VRel ρ H v y ∧ ∀ w' : World, (Instr.extract u i).run P w' = .ok y w' := by
  unfold nExtract at h
  split at h
  · rename_i xs
    split at h
    · rename_i y hy
      cases h
      obtain ⟨vs, rfl, hl, hv⟩ := hx
      have hi : i < vs.length := by rw [hl]; exact (List.getElem?_eq_some_iff.1 hy).1
      refine ⟨vs[i], W.v_rel (hv i y _ hy (List.getElem?_eq_getElem hi)), fun w' => ?_⟩
      simp [Instr.extract, hi]
    · cases h
  · rename_i vs
    split at h
    · rename_i y hy
      cases h
      simp only [VRel, ARel] at hx
      subst hx
      exact ⟨y, rfl, fun w' => by simp [Instr.extract, hy]⟩
    · cases h
  · cases h

theorem nEqNil_ok {x y : V} {u z : Value} {b : Bool} (hb : nEqNil H x y = some b) (hx : VRel ρ H x u) (hy : VRel ρ H y z) : z = .pointer none ∧ ∃ q, u = .pointer q ∧ b = q.isNone := by
  unfold nEqNil at hb
  split at hb
  · rename_i id o
    cases ha : alive H id with
    | false => rw [ha] at hb; cases hb
    | true =>
      rw [ha] at hb; cases hb
      obtain ⟨p, _, rfl⟩ := hx.resolve_left (not_gone ha)
      exact ⟨hy, _, rfl, rfl⟩
  · cases hb; exact ⟨hy, none, hx, rfl⟩
  · cases hb

theorem ptrEql_run {tl : Tab} (htl : TabOk P tl) {t e : Nat} (hk : kd tl t = some (.ptr e)) (ox oy : Operand) (q : Option Addr) (w' : World) :
    (do eqGuard .eql t ox oy (.pointer q) (.pointer none); binOp .eql t (.pointer q) (.pointer none) : Sem Value).run P w' = .ok (.bool q.isNone) w' := by
  have hp : P.underlying t = some (.pointer e) := kd_ok htl hk
  have hp' : P.underlying t = some (.pointer (P.pointee t)) := by rw [hp]; simp [Program.pointee, hp]
  simp only [eqGuard_at_pointer, Sem.run_bind, Sem.run_pure, Result.andThen_ok, run_eql_pointer_nil w' t q hp']
theorem ptrNeq_run {tl : Tab} (htl : TabOk P tl) {t e : Nat} (hk : kd tl t = some (.ptr e)) (ox oy : Operand) (q : Option Addr) (w' : World) :
    (do eqGuard .neq t ox oy (.pointer q) (.pointer none); binOp .neq t (.pointer q) (.pointer none) : Sem Value).run P w' = .ok (.bool (!q.isNone)) w' := by
  have hp : P.underlying t = some (.pointer e) := kd_ok htl hk
  have hp' : P.underlying t = some (.pointer (P.pointee t)) := by rw [hp]; simp [Program.pointee, hp]
  simp only [eqGuard_at_pointer, Sem.run_bind, Sem.run_pure, Result.andThen_ok, run_neq_pointer_nil w' t q hp']
  try cases q <;> rfl

theorem nBinPtr_ok {tl : Tab} (htl : TabOk P tl) {op : BinOp} {t : TypeId} {ox oy : Operand} {x y v : V} {u z : Value} {c : Bool}
    (h : (match op, kd tl t, nEqNil H x y with
      | .eql, some (.ptr _), some b => some (V.at (.raw (.bool b)), true)
      | .neq, some (.ptr _), some b => some (V.at (.raw (.bool (!b))), true)
      | _, _, _ => none) = some (v, c)) (hx : VRel ρ H x u) (hy : VRel ρ H y z) :
    ∃ r, VRel ρ H v r ∧ ∀ w' : World, (do eqGuard op t ox oy u z; binOp op t u z : Sem Value).run P w' = .ok r w' := by
  split at h
  · rename_i e b hk hn
    cases h
    obtain ⟨rfl, q, rfl, rfl⟩ := nEqNil_ok hn hx hy
    exact ⟨_, rfl, ptrEql_run htl hk ox oy q⟩
  · rename_i e b hk hn
    cases h
    obtain ⟨rfl, q, rfl, rfl⟩ := nEqNil_ok hn hx hy
    exact ⟨_, rfl, ptrNeq_run htl hk ox oy q⟩
  · cases h

theorem nBin_ok {tl : Tab} (htl : TabOk P tl) {op : BinOp} {t : TypeId} {ox oy : Operand} {x y v : V} {u z : Value} {c : Bool} (h : nBin H tl op t x y = some (v, c)) (hc : c = true) (hx : VRel ρ H x u) (hy : VRel ρ H y z) :
    ∃ r, VRel ρ H v r ∧ ∀ w' : World, (do eqGuard op t ox oy u z; binOp op t u z : Sem Value).run P w' = .ok r w' := by
  unfold nBin at h
  split at h
  · rename_i a b
    simp only [VRel, ARel] at hx hy
    subst hx hy
    split at h
    · rename_i hk
      have hu : P.underlying t = some .bool := kd_ok htl hk
      cases h
      exact ⟨_, rfl, fun w' => by simp [eqGuard_at_bool, run_eql_bool w' t a b hu]⟩
    · rename_i hk
      have hu : P.underlying t = some .bool := kd_ok htl hk
      cases h
      exact ⟨_, rfl, fun w' => by simp [eqGuard_at_bool, run_neq_bool w' t a b hu]⟩
    · cases h
  · exact nBinPtr_ok htl h hx hy
  · exact nBinPtr_ok htl h hx hy
  · rename_i a b _ _
    simp only [VRel, ARel] at hx hy
    subst hx hy
    split at h
    · rename_i r c' hb
      cases h
      exact ⟨r, rfl, fun w' => binR_run hb hc t ox oy w'⟩
    · cases h
  · cases h

theorem findNow_ok {kk : IntKind} {n : Int} : ∀ (es : List MapEntry) (ks : List Int) (j : Nat), es.length = ks.length → (∀ (i : Nat) (e : MapEntry), es[i]? = some e → e.key = .int kk (ks.getD i 0)) →
    (mhas ks n = false ∧ Instr.findNow (.int kk) (.int kk n) es j = some none) ∨
    (mhas ks n = true ∧ ∃ i e, es[i]? = some e ∧ Instr.findNow (.int kk) (.int kk n) es j = some (some (j + i, e.val)) ∧ ∀ {α : Type} (d : α) (l : List α), l.length = ks.length → mget d ks l n = l.getD i d) := by
  intro es
  induction es with
  | nil => intro ks j hl _; cases ks with | nil => exact .inl ⟨rfl, rfl⟩ | cons k ks => cases hl
  | cons e es ih =>
    intro ks j hl hk
    cases ks with
    | nil => cases hl
    | cons k ks =>
      have h0 : e.key = .int kk k := hk 0 e rfl
      by_cases hn : k = n
      · subst hn
        refine .inr ⟨by simp [mhas], 0, e, rfl, ?_, fun d l hl' => ?_⟩
        · simp [Instr.findNow, h0, Instr.sameNow]
        · cases l with | nil => cases hl' | cons v l => simp [mget]
      · have hb : (k == n) = false := by simpa using hn
        have hb' : (n == k) = false := by simpa using fun h => hn h.symm
        rcases ih ks (j + 1) (by simpa using hl) (fun i e' he' => by have := hk (i + 1) e' (by simpa using he'); simpa using this) with ⟨h1, h2⟩ | ⟨h1, i, e', he', h2, h3⟩
        · exact .inl ⟨by simp [mhas, hb, h1], by simp [Instr.findNow, h0, Instr.sameNow, hb', h2]⟩
        · refine .inr ⟨by simp [mhas, hb, h1], i + 1, e', by simpa using he', by simp [Instr.findNow, h0, Instr.sameNow, hb', h2]; omega, fun d l hl' => ?_⟩
          cases l with
          | nil => cases hl'
          | cons v l => simp [mget, hb, h3 d l (by simpa using hl')]

theorem mget_none {α : Type} (d : α) : ∀ (ks : List Int) (l : List α) (n : Int), mhas ks n = false → mget d ks l n = d
  | [], _, _, _ => by simp [mget]
  | k :: ks, [], _, _ => by simp [mget]
  | k :: ks, v :: l, n, h => by
    simp only [mhas] at h
    cases hb : (k == n) with
    | true => rw [hb] at h; cases h
    | false => rw [hb] at h; simp only [mget, hb, cond_false]; exact mget_none d ks l n h

/-- A look-up in a map, as the model makes it. -/
theorem lookup_run {t kt et : TypeId} {kk : IntKind} {n : Int} {ok : Bool} {zero : Value} {es : Array MapEntry} {clock : Nat} {b : Nat} {ks : List Int} {w' : World}
    (hu : P.underlying t = some (.map kt et)) (hk : P.underlying kt = some (.int kk)) (hz : (zeroValue et).run P w' = .ok zero w') (hb : w'.heap[b]? = some (.map es clock))
    (hl : es.size = ks.length) (hkeys : ∀ (i : Nat) (e : MapEntry), es[i]? = some e → e.key = .int kk (ks.getD i 0)) :
    ∃ val, (Instr.lookup t (.map (some b)) (.int kk n) ok).run P w' = .ok (if ok then .tuple #[val, .bool (mhas ks n)] else val) w' ∧
      ((mhas ks n = false ∧ val = zero) ∨ ∃ i e, es[i]? = some e ∧ val = e.val ∧ ∀ {α : Type} (d : α) (l : List α), l.length = ks.length → mget d ks l n = l.getD i d) := by
  have hg : (getObj b).run P w' = .ok (.map es clock) w' := by simp [getObj, Sem.run, hb]
  have hck1 : ∀ x d, (Instr.checkKey x (d + 1) kt (.int kk n)).run P w' = .ok () w' := fun x d => by simp [Instr.checkKey, run_underlying hk]
  have hck : ∀ x, (Instr.checkKey x 10000 kt (.int kk n)).run P w' = .ok () w' := fun x => hck1 x 9999
  have hf := findNow_ok (kk := kk) (n := n) es.toList ks 0 (by simpa using hl) (fun i e he => hkeys i e (by simpa using he))
  rcases hf with ⟨h1, h2⟩ | ⟨h1, i, e, he, h2, h3⟩
  · refine ⟨zero, ?_, .inl ⟨h1, rfl⟩⟩
    have hfk : (Instr.findKey kt (.int kk n) es.toList).run P w' = .ok none w' := by simp [Instr.findKey, run_underlying hk, h2]
    simp only [Instr.lookup, Sem.run_bind, run_underlying hu, Result.andThen_ok, hg, Sem.run_pure, hck, hfk, hz, h1]
  · refine ⟨e.val, ?_, .inr ⟨i, e, by simpa using he, rfl, h3⟩⟩
    have hfk : (Instr.findKey kt (.int kk n) es.toList).run P w' = .ok (some (0 + i, e.val)) w' := by simp [Instr.findKey, run_underlying hk, h2]
    simp only [Instr.lookup, Sem.run_bind, run_underlying hu, Result.andThen_ok, hg, Sem.run_pure, hck, hfk, h1]

theorem TiOk.zero_run {t : Nat} {ti : TI} (h : TiOk P t ti) : ∃ z, z.cells.toList = ti.zero ∧ (ti.kind.isAgg = some false → ti.zero = [z]) ∧ ∀ w : World, (zeroValue t).run P w = .ok z w := by
  obtain ⟨i, z, hi, _, _, hz, hc, h1⟩ := h.parts
  exact ⟨z, hc, h1, fun w => by simp [zeroValue, typeInfo, hi, hz]⟩

def zeroInt (tl : Tab) (t : Nat) (k : IntKind) : Bool :=
  match lk tl t with
  | some { kind := .int k', zero := [.int k'' n], .. } => decide (k' = k) && decide (k'' = k) && decide (n = 0)
  | _ => false
def zeroBool (tl : Tab) (t : Nat) : Bool :=
  match lk tl t with
  | some { kind := .bool, zero := [.bool b], .. } => !b
  | _ => false
theorem zeroInt_ok {tl : Tab} (htl : TabOk P tl) {t : Nat} {k : IntKind} (h : zeroInt tl t k = true) (w : World) : (zeroValue t).run P w = .ok (.int k 0) w := by
  unfold zeroInt at h
  split at h
  · rename_i k' sz bs k'' n hl
    simp only [Bool.and_eq_true, decide_eq_true_eq] at h
    obtain ⟨⟨rfl, rfl⟩, rfl⟩ := h
    obtain ⟨z, hz, h1, hr⟩ := (htl t _ hl).zero_run
    have := h1 rfl
    simp only [List.cons.injEq, and_true] at this
    rw [hr, ← this]
  · cases h
theorem zeroBool_ok {tl : Tab} (htl : TabOk P tl) {t : Nat} (h : zeroBool tl t = true) (w : World) : (zeroValue t).run P w = .ok (.bool false) w := by
  unfold zeroBool at h
  split at h
  · rename_i sz bs b hl
    obtain ⟨z, hz, h1, hr⟩ := (htl t _ hl).zero_run
    have := h1 rfl
    simp only [List.cons.injEq, and_true] at this
    rw [hr, ← this]
    cases b with
    | true => cases h
    | false => rfl
  · cases h

def nLookup (H : Heap) (tl : Tab) (t : TypeId) (m k : V) (ok : Bool) : Option V :=
  match kd tl t, m, k with
  | some (.map kt et), .at (.map id), .at (.raw (.int kk n)) =>
    match kd tl kt, H[id]? with
    | some (.int k1), some (.map k3 ks (.int k4 l)) =>
      bif decide (k1 = kk) && decide (k3 = kk) && zeroInt tl et k4 then
        some (bif ok then .tup [.at (.raw (.int k4 (mget 0 ks l n))), .at (.raw (.bool (mhas ks n)))] else .at (.raw (.int k4 (mget 0 ks l n))))
      else none
    | some (.int k1), some (.map k3 ks (.bool l)) =>
      bif decide (k1 = kk) && decide (k3 = kk) && zeroBool tl et then
        some (bif ok then .tup [.at (.raw (.bool (mget false ks l n))), .at (.raw (.bool (mhas ks n)))] else .at (.raw (.bool (mget false ks l n))))
      else none
    | _, _ => none
  | _, _, _ => none

theorem nLookup_ok {tl : Tab} (htl : TabOk P tl) (hr : HRead ρ H w) {t : TypeId} {m k v : V} {ok : Bool} {u z : Value} (h : nLookup H tl t m k ok = some v) (hm : VRel ρ H m u) (hk : VRel ρ H k z) :
    ∃ y, VRel ρ H v y ∧ ∀ w' : World, HSame ρ H (idsV m) w w' → (Instr.lookup t u z ok).run P w' = .ok y w' := by
  unfold nLookup at h
  split at h
  · rename_i kt et id kk n hti
    have hu : P.underlying t = some (.map kt et) := kd_ok htl hti
    simp only [VRel, ARel] at hk
    subst hk
    split at h
    · rename_i k1 k3 ks k4 l hkt hid
      cases hb : (decide (k1 = kk) && decide (k3 = kk) && zeroInt tl et k4) with
      | false => rw [hb] at h; cases h
      | true =>
        rw [hb] at h
        simp only [Bool.and_eq_true, decide_eq_true_eq] at hb
        obtain ⟨⟨rfl, rfl⟩, hz⟩ := hb
        have hk1 : P.underlying kt = some (.int k3) := kd_ok htl hkt
        obtain ⟨p, hp, h1, h2, es, clock, h3, h4, h5, _⟩ := hr.at hid
        have hu' : u = .map (some p.blk) := by
          rcases hm with hm | ⟨q, hq, hm⟩
          · rw [Gone, hid] at hm; cases hm
          · rw [hp] at hq; cases hq; exact hm
        subst hu'
        obtain ⟨val, -, hval⟩ := lookup_run (P := P) (ok := ok) (n := n) (w' := w) hu hk1 (zeroInt_ok htl hz w) h3 h4 (fun i e he => (h5 i e he).1)
        have hv : ∀ w' : World, HSame ρ H [id] w w' → (Instr.lookup t (.map (some p.blk)) (.int k3 n) ok).run P w' = .ok (if ok then .tuple #[.int k4 (mget 0 ks l n), .bool (mhas ks n)] else .int k4 (mget 0 ks l n)) w' := by
          intro w' hw
          obtain ⟨val, hrun, hval⟩ := lookup_run (P := P) (ok := ok) (n := n) (w' := w') hu hk1 (zeroInt_ok htl hz w') (by rw [hw id (by simp) _ _ hp hid rfl h1]; exact h3) h4 (fun i e he => (h5 i e he).1)
          have : val = .int k4 (mget 0 ks l n) := by
            rcases hval with ⟨hh, rfl⟩ | ⟨i, e, he, rfl, hg⟩
            · rw [mget_none _ _ _ _ hh]
            · have := (h5 i e he).2.1
              simp only [Col.at, ARel] at this
              rw [this, hg 0 l h2]
          rw [hrun, this]
        cases ok with
        | true =>
          cases h
          exact ⟨_, ⟨[_, _], rfl, rfl, fun j x v hx hv => by
            match j with
            | 0 => simp at hx hv; subst hx hv; rfl
            | 1 => simp at hx hv; subst hx hv; rfl
            | j + 2 => simp at hx⟩, hv⟩
        | false => cases h; exact ⟨_, rfl, hv⟩
    · rename_i k1 k3 ks l hkt hid
      cases hb : (decide (k1 = kk) && decide (k3 = kk) && zeroBool tl et) with
      | false => rw [hb] at h; cases h
      | true =>
        rw [hb] at h
        simp only [Bool.and_eq_true, decide_eq_true_eq] at hb
        obtain ⟨⟨rfl, rfl⟩, hz⟩ := hb
        have hk1 : P.underlying kt = some (.int k3) := kd_ok htl hkt
        obtain ⟨p, hp, h1, h2, es, clock, h3, h4, h5, _⟩ := hr.at hid
        have hu' : u = .map (some p.blk) := by
          rcases hm with hm | ⟨q, hq, hm⟩
          · rw [Gone, hid] at hm; cases hm
          · rw [hp] at hq; cases hq; exact hm
        subst hu'
        have hv : ∀ w' : World, HSame ρ H [id] w w' → (Instr.lookup t (.map (some p.blk)) (.int k3 n) ok).run P w' = .ok (if ok then .tuple #[.bool (mget false ks l n), .bool (mhas ks n)] else .bool (mget false ks l n)) w' := by
          intro w' hw
          obtain ⟨val, hrun, hval⟩ := lookup_run (P := P) (ok := ok) (n := n) (w' := w') hu hk1 (zeroBool_ok htl hz w') (by rw [hw id (by simp) _ _ hp hid rfl h1]; exact h3) h4 (fun i e he => (h5 i e he).1)
          have : val = .bool (mget false ks l n) := by
            rcases hval with ⟨hh, rfl⟩ | ⟨i, e, he, rfl, hg⟩
            · rw [mget_none _ _ _ _ hh]
            · have := (h5 i e he).2.1
              simp only [Col.at, ARel] at this
              rw [this, hg false l h2]
          rw [hrun, this]
        cases ok with
        | true =>
          cases h
          exact ⟨_, ⟨[_, _], rfl, rfl, fun j x v hx hv => by
            match j with
            | 0 => simp at hx hv; subst hx hv; rfl
            | 1 => simp at hx hv; subst hx hv; rfl
            | j + 2 => simp at hx⟩, hv⟩
        | false => cases h; exact ⟨_, rfl, hv⟩
    · cases h
  · cases h
end
end Go.Sx
