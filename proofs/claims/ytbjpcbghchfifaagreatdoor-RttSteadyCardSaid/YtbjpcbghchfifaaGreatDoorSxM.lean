/-
  Struct and array literals.
-/
import Derived.Test.YtbjpcbghchfifaaGreatDoorSxJ
set_option linter.all false
namespace Go.Sx
open Go

/-- Where part i goes, and how many cells it has. -/
def placesOf (tl : Tab) : List (Nat × Nat) → Option (List (Nat × Nat))
  | [] => some []
  | (o, ty) :: r => match lk tl ty, placesOf tl r with | some ti, some l => some ((o, ti.size) :: l) | _, _ => none
def foldB (H : Heap) (place : Nat → Option (Nat × Nat)) : List A → List (Nat × V) → Option (List A)
  | cs, [] => some cs
  | cs, (i, x) :: r =>
    match place i, asOf x with
    | some (o, s), some as => bif Nat.beq as.length s && Nat.ble (o + s) cs.length && as.all (okA H) then foldB H place (cs.take o ++ as ++ cs.drop (o + s)) r else none
    | _, _ => none
def nBuild (H : Heap) (tl : Tab) (t : TypeId) (idx : List (Nat × V)) : Option V :=
  match lk tl t with
  | some ti =>
    match ti.kind with
    | .st fs => match placesOf tl fs with
      | some ps => match foldB H (fun i => ps[i]?) (ti.zero.map A.raw) idx with | some cs => some (.agg cs) | none => none
      | none => none
    | .arr _ e => match lk tl e with
      | some te => match foldB H (fun i => some (i * te.size, te.size)) (ti.zero.map A.raw) idx with | some cs => some (.agg cs) | none => none
      | none => none
    | _ => none
  | none => none

section
variable {P : Program} {E : Nat → Prop} {w0 w : World} {ρ : List Pl} {H : Heap}

theorem foldB_ok {place : Nat → Option (Nat × Nat)} : ∀ {idx : List (Nat × V)} {us : List Value} {cs cs' : List A} {vs : Array Value}, VsRel ρ H (idx.map (·.2)) us → foldB H place cs idx = some cs' → AsRel ρ H cs vs.toList →
    ∃ vs', Instr.fill place vs ((idx.map (·.1)).zip us) = some vs' ∧ AsRel ρ H cs' vs'.toList
  | [], us, cs, cs', vs, hx, h, hv => by
    cases hx
    simp only [foldB, Option.some.injEq] at h
    subst h
    exact ⟨vs, rfl, hv⟩
  | (i, x) :: r, us, cs, cs', vs, hx, h, hv => by
    simp only [foldB] at h
    cases hx with
    | @cons _ u _ us h0 hs =>
      split at h
      · rename_i o s as hp has
        cases hb : (Nat.beq as.length s && Nat.ble (o + s) cs.length && as.all (okA H)) with
        | false => rw [hb] at h; cases h
        | true =>
          rw [hb] at h
          simp only [cond_true] at h
          simp only [Bool.and_eq_true] at hb
          obtain ⟨⟨b1, b2⟩, b3⟩ := hb
          have b1 := Nat.eq_of_beq_eq_true b1
          have b2 := Nat.le_of_ble_eq_true b2
          subst b1
          obtain ⟨ha, _⟩ := asOf_rel has b3 h0
          have hus : u.cells.size = as.length := by simpa using ha.1
          have hvl : vs.size = cs.length := by simpa using hv.1
          generalize hcs1 : u.cells.zipIdx.foldl (fun (cs : Array Value) (x : Value × Nat) => cs.setIfInBounds (o + x.2) x.1) vs = cs1
          have hcs1' : (u.cells.toList.zipIdx 0).foldl (fun (cs : Array Value) (x : Value × Nat) => cs.setIfInBounds (o + x.2) x.1) vs = cs1 := by
            rw [← hcs1, ← Array.foldl_toList]
            simp
          obtain ⟨g1, g2⟩ := foldl_set u.cells.toList 0 o vs (by simp [hus, hvl]; omega) cs1 hcs1'
          have hrel : AsRel ρ H (cs.take o ++ as ++ cs.drop (o + as.length)) cs1.toList := by
            refine ⟨by simp [g1, hvl]; omega, fun j a v haj hvj => ?_⟩
            have hvj' : cs1[j]? = some v := by simpa using hvj
            rw [g2 j] at hvj'
            simp only [Nat.add_zero, Array.length_toList, hus] at hvj'
            rcases Nat.lt_or_ge j o with hj | hj
            · rw [if_neg (by omega)] at hvj'
              rw [List.append_assoc, List.getElem?_append_left (by simp; omega), List.getElem?_take, if_pos hj] at haj
              exact hv.2 j a v haj (by simpa using hvj')
            · rcases Nat.lt_or_ge j (o + as.length) with hj2 | hj2
              · rw [if_pos ⟨hj, hj2⟩] at hvj'
                rw [List.append_assoc, List.getElem?_append_right (by simp; omega), List.getElem?_append_left (by simp; omega)] at haj
                rw [show (cs.take o).length = o by simp; omega] at haj
                exact ha.2 (j - o) a v haj (by simpa using hvj')
              · rw [if_neg (by omega)] at hvj'
                rw [List.getElem?_append_right (by simp; omega), List.getElem?_drop] at haj
                rw [show (cs.take o ++ as).length = o + as.length by simp; omega, show o + as.length + (j - (o + as.length)) = j by omega] at haj
                exact hv.2 j a v haj (by simpa using hvj')
          obtain ⟨vs', f1, f2⟩ := foldB_ok hs h hrel
          refine ⟨vs', ?_, f2⟩
          simp only [List.map_cons, List.zip_cons_cons, Instr.fill, hp]
          rw [if_neg (by simp [hus, hvl]; omega)]
          exact (congrArg (fun z => Instr.fill place z ((r.map (·.1)).zip us)) hcs1).trans f1
      · cases h

theorem placesOf_at {tl : Tab} : ∀ {fs ps : List (Nat × Nat)}, placesOf tl fs = some ps → ps.length = fs.length ∧ ∀ (i : Nat) (o t : Nat), fs[i]? = some (o, t) → ∃ ti, lk tl t = some ti ∧ ps[i]? = some (o, ti.size)
  | [], ps, h => by simp only [placesOf, Option.some.injEq] at h; subst h; exact ⟨rfl, fun i o t ha => by simp at ha⟩
  | (o, ty) :: r, ps, h => by
    simp only [placesOf] at h
    split at h
    · rename_i ti l h1 h2
      cases h
      obtain ⟨a1, a2⟩ := placesOf_at h2
      refine ⟨by simp [a1], fun i o' t' hi => ?_⟩
      match i with
      | 0 => simp at hi; obtain ⟨rfl, rfl⟩ := hi; exact ⟨ti, h1, rfl⟩
      | i + 1 => simp at hi; obtain ⟨ti', h3, h4⟩ := a2 i o' t' hi; exact ⟨ti', h3, by simpa using h4⟩
    · cases h

theorem zero_rel {zs : List Value} {z : Value} (h : z.cells.toList = zs) : AsRel ρ H (zs.map A.raw) z.cells.toList := by
  rw [h]
  refine ⟨by simp, fun j a v ha hv => ?_⟩
  simp only [List.getElem?_map, hv, Option.map_some, Option.some.injEq] at ha
  subst ha; rfl

theorem mapM_run {tl : Tab} (htl : TabOk P tl) (w' : World) : ∀ (F : List Field) (ps : List (Nat × Nat)), placesOf tl (F.map fun f => (f.offset, f.type)) = some ps →
    (F.mapM (fun f : Field => (do pure (f.offset, ← sizeOf f.type) : Sem (Nat × Nat)))).run P w' = .ok ps w'
  | [], ps, h => by simp only [List.map_nil, placesOf, Option.some.injEq] at h; subst h; rfl
  | f :: F, ps, h => by
    simp only [List.map_cons, placesOf] at h
    split at h
    · rename_i ti l h1 h2
      cases h
      have ih := mapM_run htl w' F l h2
      simp only [List.mapM_cons, Sem.run_bind, (htl _ ti h1).size_run, Result.andThen_ok, Sem.run_pure, ih]
    · cases h

theorem nBuild_ok {tl : Tab} (htl : TabOk P tl) {t : TypeId} {idx : List (Nat × V)} {us : List Value} {v : V} (h : nBuild H tl t idx = some v) (hx : VsRel ρ H (idx.map (·.2)) us) :
    ∃ y, VRel ρ H v y ∧ ∀ w' : World, (Instr.build t ((idx.map (·.1)).zip us).toArray).run P w' = .ok y w' := by
  unfold nBuild at h
  split at h
  · rename_i ti hti
    have ht := htl t ti hti
    obtain ⟨z, hz, _, hzr⟩ := ht.zero_run
    have hk := ht.kind
    split at h
    · rename_i fs hfs
      rw [hfs] at hk
      obtain ⟨F, hF, hm⟩ := hk
      split at h
      · rename_i ps hps
        split at h
        · rename_i cs hcs
          cases h
          obtain ⟨vs', f1, f2⟩ := foldB_ok (vs := z.cells) hx hcs (zero_rel hz)
          refine ⟨.agg vs', ⟨vs'.toList, by simp, f2⟩, fun w' => ?_⟩
          rw [← hm] at hps
          have hmm := mapM_run htl w' F.toList ps hps
          have hmm' : (F.mapM (fun f : Field => (do pure (f.offset, ← sizeOf f.type) : Sem (Nat × Nat)))).run P w' = .ok ps.toArray w' := by
            rw [Array.mapM_eq_mapM_toList, Sem.run_map, hmm]
            rfl
          simp only [Instr.build, Sem.run_bind, hzr, Result.andThen_ok, run_underlying hF, hmm']
          simp [f1]
        · cases h
      · cases h
    · rename_i m e hfs
      rw [hfs] at hk
      have hu : P.underlying t = some (.array m e) := hk
      split at h
      · rename_i te hte
        split at h
        · rename_i cs hcs
          cases h
          obtain ⟨vs', f1, f2⟩ := foldB_ok (vs := z.cells) hx hcs (zero_rel hz)
          refine ⟨.agg vs', ⟨vs'.toList, by simp, f2⟩, fun w' => ?_⟩
          simp only [Instr.build, Sem.run_bind, hzr, Result.andThen_ok, run_underlying hu, (htl e te hte).size_run]
          simp [f1]
        · cases h
      · cases h
    · cases h
  · cases h
end
end Go.Sx
