/-
  More operations: texts of bytes, function values, new slices, copy.
-/
import Derived.Test.YtbjpcbghchfifaaGreatDoorSxM
import Derived.Laws.MakeOwn
import Derived.Laws.BytesString
import Derived.Laws.IdiomCopy
set_option linter.all false
namespace Go.Sx
open Go

/-- The text of these bytes. -/
def strOfI (l : List Int) : ByteArray := ⟨(l.map fun n => UInt8.ofNat n.toNat).toArray⟩
/-- Does the part lie within the row? -/
def rowIn (off : Option Int) (len n : Int) : Bool := decide (0 ≤ off.getD 0 ∧ 0 ≤ len ∧ off.getD 0 + len ≤ n)
def partL {α : Type} (off : Option Int) (len : Int) (l : List α) : List α :=
  match off with
  | none => l.take len.toNat
  | some o => (l.drop o.toNat).take len.toNat
/-- A row of one column of numbers, or nil. -/
def intsAt (H : Heap) (x : V) : Option (IntKind × List Int × Bool) :=
  match x with
  | .at (.sl id sz off len) =>
    match H[id]? with
    | some (.row _ sz' n [.int k l]) | some (.ro _ sz' n [.int k l]) => bif Nat.beq sz 1 && Nat.beq sz' 1 then some (k, partL off len l, rowIn off len n) else none
    | _ => none
  | _ => none
def nStr (H : Heap) (tl : Tab) (src dst : TypeId) (x : V) : Option (V × Bool) :=
  match kd tl src, kd tl dst with
  | some (.sl e), some .str =>
    match kd tl e with
    | some (.int .u8) =>
      match x with
      | .at (.raw (.slice none 0 0)) => some (.at (.raw (.string ByteArray.empty)), true)
      | x => match intsAt H x with
        | some (.u8, l, c) => some (.at (.raw (.string (strOfI l))), c)
        | _ => none
    | _ => none
  | _, _ => none

def nFunc (fn : Fn) (first caps : List V) : Option V :=
  match fn, first, capsOf caps with
  | .func f, [], some l => some (.at (.fn f l))
  | _, _, _ => none

def zeroCol (v : Value) (n : Nat) : Col :=
  match v with
  | .int k z => .int k (List.replicate n z)
  | .bool z => .bool (List.replicate n z)
  | .string z => .str (List.replicate n z)
  | v => .ats (List.replicate n (.raw v))
def eMake (H : Heap) (tl : Tab) (t : TypeId) (len cap : V) : Option (V × Heap × Bool) :=
  match kd tl t, rawI len, rawI cap with
  | some (.sl e), some l, some c =>
    match lk tl e with
    | some ti => bif Nat.ble 1 ti.size && Nat.beq ti.zero.length ti.size then
        some (.at (.sl H.length ti.size none l), H ++ [.row e ti.size l (ti.zero.map (zeroCol · l.toNat))], decide (0 ≤ l ∧ l ≤ c ∧ (ti.bytes : Int) * c ≤ 140737488355328 ∧ c ≤ 4611686018427387904))
      else none
    | none => none
  | _, _, _ => none

def spliceL {α : Type} (off : Option Int) (k : Nat) (l l2 : List α) : List α := l.take (off.getD 0).toNat ++ l2.take k ++ l.drop ((off.getD 0).toNat + k)
def eCopy (H : Heap) (tl : Tab) (t : TypeId) (d s : V) : Option (V × Heap × Bool) :=
  match kd tl t, d with
  | some (.sl e), .at (.sl id sz off len) =>
    match lk tl e, H[id]?, intsAt H s with
    | some ti, some (.row e' sz' n [.int k l]), some (k2, l2, c) =>
      bif Nat.beq ti.size 1 && Nat.beq sz 1 && Nat.beq sz' 1 && decide (k = k2) then
        some (.at (.raw (.int .i64 (minI (l2.length : Int) len))), H.set id (.row e' 1 n [.int k (spliceL off (minI (l2.length : Int) len).toNat l l2)]), c && rowIn off len n)
      else none
    | _, _, _ => none
  | _, _ => none

section
variable {P : Program} {E : Nat → Prop} {w0 w : World} {ρ : List Pl} {H : Heap}

theorem partL_len {α : Type} {off : Option Int} {len n : Int} {l : List α} (h : rowIn off len n = true) (hl : l.length = n.toNat) : (partL off len l).length = len.toNat := by
  have h := of_decide_eq_true h
  unfold partL
  cases off with
  | none => simp at h ⊢; omega
  | some o => simp at h ⊢; omega
theorem partL_get {α : Type} {off : Option Int} {len n : Int} {l : List α} (h : rowIn off len n = true) (hl : l.length = n.toNat) {j : Nat} (hj : j < len.toNat) : (partL off len l)[j]? = l[(off.getD 0).toNat + j]? := by
  unfold partL
  cases off with
  | none => simp [List.getElem?_take, hj]
  | some o => simp [List.getElem?_take, hj]

/-- What is there of such a slice: its cells, wherever the heap is the same. -/
theorem intsAt_ok (hr : HRead ρ H w) {x : V} {u : Value} {k : IntKind} {l : List Int} {c : Bool} (h : intsAt H x = some (k, l, c)) (hc : c = true) (hx : VRel ρ H x u) :
    ∃ (a : Option Addr) (cap : Nat), u = .slice a l.length cap ∧ (l.length ≠ 0 → ∃ ad, a = some ad ∧ ∀ w' : World, HSame ρ H (idsV x) w w' → ∀ (j : Nat) (v : Value), (l.map (Value.int k))[j]? = some v → w'.cell? (ad.add j) = some v) := by
  have key : ∀ (id : Nat) (off : Option Int) (len n : Int) (l0 : List Int), VRel ρ H (.at (.sl id 1 off len)) u → (∃ o, H[id]? = some o ∧ o.isDead = false) → rowIn off len n = true → l = partL off len l0 →
      (∃ p, ρ[id]? = some p ∧ RowOk p 1 n [.int k l0] ∧ (p.real = true → ∃ cur e fz, w.heap[p.blk]? = some (.cells cur e fz) ∧ ColsRel ρ H p 1 n [.int k l0] cur)) →
      ∃ (a : Option Addr) (cap : Nat), u = .slice a l.length cap ∧ (l.length ≠ 0 → ∃ ad, a = some ad ∧ ∀ w' : World, HSame ρ H [id] w w' → ∀ (j : Nat) (v : Value), (l.map (Value.int k))[j]? = some v → w'.cell? (ad.add j) = some v) := by
    intro id off len n l0 hx ⟨o, ho, hod⟩ hin hl ⟨p, hp, hok, hreal⟩
    have hnd : H[id]? ≠ some .dead := fun hx => by rw [ho] at hx; cases hx; cases hod
    obtain ⟨q, hq, s0, s1, s2, hs⟩ := hx.resolve_left hnd
    rw [hp] at hq; cases hq
    obtain ⟨hn, hcl, _, _, hnc, _, hv⟩ := hok
    have hl0 : l0.length = n.toNat := hcl (.int k l0) (by simp)
    have hll : l.length = len.toNat := by rw [hl]; exact partL_len hin hl0
    have hin' := of_decide_eq_true hin
    rcases hs with ⟨hrl, a, rfl, ha⟩ | ⟨hrl, hr2, rfl⟩
    · refine ⟨_, _, by rw [hll], fun hne => ⟨a, rfl, fun w' hw j v hj => ?_⟩⟩
      obtain ⟨cur, e, fz, hh, hcols⟩ := hreal hrl
      have haa := ha (by omega)
      subst haa
      simp only [List.getElem?_map, Option.map_eq_some_iff] at hj
      obtain ⟨z, hz, rfl⟩ := hj
      have hjl : j < len.toNat := by rw [← hll]; exact (List.getElem?_eq_some_iff.1 hz).1
      rw [hl, partL_get hin hl0 hjl] at hz
      have hi : (off.getD 0).toNat + j < n.toNat := by omega
      obtain ⟨y, hy, hya⟩ := hcols ((off.getD 0).toNat + j) 0 _ hi rfl
      rw [addr_add, cell_at (t := e) (fz := fz) (cur := cur) (by rw [hw id (by simp) _ _ hp ho hod hrl]; exact hh)]
      simp only [Col.at, ARel, List.getD_eq_getElem?_getD, hz, Option.getD_some] at hya
      subst hya
      simpa [Nat.add_assoc] using hy
    · have h0 : len.toNat = 0 := by omega
      exact ⟨none, 0, by rw [hll, h0], fun hne => absurd (hll.trans h0) hne⟩
  unfold intsAt at h
  split at h
  · rename_i id sz off len
    split at h
    · rename_i e sz' n k' l' hid
      cases hb : (Nat.beq sz 1 && Nat.beq sz' 1) with
      | false => rw [hb] at h; cases h
      | true =>
        rw [hb] at h; cases h
        rw [Bool.and_eq_true] at hb
        have e1 := Nat.eq_of_beq_eq_true hb.1
        have e2 := Nat.eq_of_beq_eq_true hb.2
        subst e1 e2
        obtain ⟨p, hp, hok, hreal⟩ := hr.at hid
        exact key id off len n l' hx ⟨_, hid, rfl⟩ hc rfl ⟨p, hp, hok, fun hrl => let ⟨cur, a1, _, a3⟩ := hreal hrl; ⟨cur, _, _, a1, a3⟩⟩
    · rename_i e sz' n k' l' hid
      cases hb : (Nat.beq sz 1 && Nat.beq sz' 1) with
      | false => rw [hb] at h; cases h
      | true =>
        rw [hb] at h; cases h
        rw [Bool.and_eq_true] at hb
        have e1 := Nat.eq_of_beq_eq_true hb.1
        have e2 := Nat.eq_of_beq_eq_true hb.2
        subst e1 e2
        obtain ⟨p, hp, hok, hreal⟩ := hr.at hid
        exact key id off len n l' hx ⟨_, hid, rfl⟩ hc rfl ⟨p, hp, hok, hreal⟩
    · cases h
  · cases h

theorem foldl_push : ∀ (ns : List Int) (s : ByteArray), ns.foldl (fun r n => r.push (UInt8.ofNat n.toNat)) s = ⟨s.data ++ (ns.map fun n => UInt8.ofNat n.toNat).toArray⟩
  | [], s => by simp
  | n :: ns, s => by
    simp only [List.foldl_cons, foldl_push ns, List.map_cons]
    congr 1
    apply Array.ext'
    simp [ByteArray.push]

theorem nStr_ok {tl : Tab} (htl : TabOk P tl) (hr : HRead ρ H w) {s d : TypeId} {x v : V} {u : Value} {c : Bool} (h : nStr H tl s d x = some (v, c)) (hc : c = true) (hx : VRel ρ H x u) :
    ∃ y, VRel ρ H v y ∧ ∀ w' : World, HSame ρ H (idsV x) w w' → (convert s d u).run P w' = .ok y w' := by
  unfold nStr at h
  split at h
  · rename_i e hs hd
    have hus : P.underlying s = some (.slice e) := kd_ok htl hs
    have hud : P.underlying d = some .string := kd_ok htl hd
    split at h
    · rename_i he
      have hue : P.underlying e = some (.int .u8) := kd_ok htl he
      split at h
      · cases h
        simp only [VRel, ARel] at hx
        subst hx
        exact ⟨_, rfl, fun w' _ => by rw [run_convert_bytes_string w' s d e none 0 0 hus hue hud]; simp [Conv.bytesToString]⟩
      · rename_i x' _
        split at h
        · rename_i l c' hi
          cases h
          obtain ⟨a, cap, rfl, hcell⟩ := intsAt_ok hr hi hc hx
          refine ⟨.string (strOfI l), rfl, fun w' hw => ?_⟩
          rw [run_convert_bytes_string w' s d e a l.length cap hus hue hud]
          by_cases hl : l.length = 0
          · have : l = [] := List.eq_nil_of_length_eq_zero hl
            subst this
            cases a with
            | none => simp [Conv.bytesToString, strOfI]; rfl
            | some ad =>
              have := run_bytesToString (P := P) w' ad 0 cap [] (by simpa using run_loadCells_list (P := P) w' ad [] (by simp))
              show _ = Result.ok (Value.string ByteArray.empty) w'
              simpa using this
          · obtain ⟨ad, rfl, hc2⟩ := hcell hl
            have h1 := run_loadCells_list (P := P) w' ad (l.map (Value.int .u8)) (hc2 w' hw)
            rw [List.length_map] at h1
            rw [run_bytesToString (P := P) w' ad l.length cap l h1, foldl_push]
            simp [strOfI]
        · cases h
    · cases h
  · cases h

theorem nFunc_ok {fn : Fn} {first caps : List V} {fs us : List Value} {v : V} (h : nFunc fn first caps = some v) (hf : VsRel ρ H first fs) (hx : VsRel ρ H caps us) :
    ∃ y, VRel ρ H v y ∧ ∀ w' : World, (Instr.makeFunc fn fs.toArray us.toArray).run P w' = .ok y w' := by
  unfold nFunc at h
  split at h
  · rename_i f l hl
    cases h
    cases hf
    refine ⟨.func (.func f) #[] us.toArray, ?_, fun w' => rfl⟩
    have key : ∀ {caps : List V} {l : List (Nat × Nat)} {us : List Value}, capsOf caps = some l → VsRel ρ H caps us → (∃ c ∈ l, Gone H c.1) ∨ (us.length = l.length ∧ ∀ (j : Nat) (c : Nat × Nat), l[j]? = some c → ∃ p, ρ[c.1]? = some p ∧ us[j]? = some (Value.pointer (some (p.addr c.2)))) := by
      intro caps
      induction caps with
      | nil =>
        intro l us h hv
        cases hv
        simp only [capsOf, Option.some.injEq] at h
        subst h
        exact .inr ⟨rfl, fun j c hc => by simp at hc⟩
      | cons x r ih =>
        intro l us h hv
        unfold capsOf at h
        split at h
        · rename_i e; cases e
        · rename_i id o r' e
          cases e
          split at h
          · rename_i l' hl'
            cases h
            cases hv with
            | cons h0 hs =>
              rcases h0 with hg | ⟨p, hp, rfl⟩
              · exact .inl ⟨(id, o), by simp, hg⟩
              · rcases ih hl' hs with ⟨c, hc, hg⟩ | ⟨h1, h2⟩
                · exact .inl ⟨c, by simp [hc], hg⟩
                · refine .inr ⟨by simp [h1], fun j c hc => ?_⟩
                  match j with
                  | 0 => simp at hc; subst hc; exact ⟨p, hp, rfl⟩
                  | j + 1 => simp at hc; simpa using h2 j c hc
          · cases h
        · cases h
    rcases key hl hx with hg | ⟨h1, h2⟩
    · exact .inl hg
    · exact .inr ⟨us, rfl, h1, h2⟩
  · cases h

theorem zeroCol_at (v : Value) (n : Nat) : (zeroCol v n).len = n ∧ ∀ i, i < n → (zeroCol v n).at i = .raw v := by
  cases v <;> (refine ⟨by simp [zeroCol, Col.len], fun i hi => ?_⟩; simp [zeroCol, Col.at, List.getD_eq_getElem?_getD, List.getElem?_replicate, hi])

theorem eMake_ok {tl : Tab} (htl : TabOk P tl) (hr : HRel E w0 ρ H w) {t : TypeId} {l c v : V} {ul uc : Value} {H' : Heap} {b : Bool} (h : eMake H tl t l c = some (v, H', b)) (hb : b = true) (hl : VRel ρ H l ul) (hc : VRel ρ H c uc) :
    EOk P E w0 w ρ H (Instr.makeSlice t ul uc) v H' := by
  unfold eMake at h
  split at h
  · rename_i e n m hk hln hcm
    have hu : P.underlying t = some (.slice e) := kd_ok htl hk
    split at h
    · rename_i ti hti
      cases hbb : (Nat.ble 1 ti.size && Nat.beq ti.zero.length ti.size) with
      | false => rw [hbb] at h; cases h
      | true =>
        rw [hbb] at h; cases h
        rw [Bool.and_eq_true] at hbb
        have b1 := Nat.le_of_ble_eq_true hbb.1
        have b2 := Nat.eq_of_beq_eq_true hbb.2
        obtain ⟨h0, hle, hby, h62⟩ := of_decide_eq_true hb
        have rawI_ok : ∀ {x : V} {y : Value} {n : Int}, rawI x = some n → VRel ρ H x y → ∃ k, y = .int k n := by
          intro x y n hx hy
          unfold rawI at hx
          split at hx
          · cases hx; simp only [VRel, ARel] at hy; exact ⟨_, hy⟩
          · cases hx
        obtain ⟨kl, rfl⟩ := rawI_ok hln hl
        obtain ⟨kc, rfl⟩ := rawI_ok hcm hc
        obtain ⟨i, z, hi, hsz, hbt, hzz, hzc, _⟩ := (htl e ti hti).parts
        have hzs : z.cells.size = ti.size := by rw [← Array.length_toList, hzc]; exact b2
        have hrun := run_make (P := P) w t e i z hu hi hzz kl kc n m h0 hle (by rw [hbt]; omega) (by omega)
        rw [hsz] at hrun
        have hx := Ext.push hr.len ⟨w.heap.size, 0, m.toNat, true⟩ (.row e ti.size n (ti.zero.map (zeroCol · n.toNat)))
        refine ⟨_, _, _, hrun, hx, hr.push rfl rfl rfl (by simp) (fun k hk => heap_alloc_old w _ k hk) (fun _ => Nat.le_refl _) ⟨⟨h0, fun c hc => ?_, by simp [b2], b1, by simp; omega, by simp only [maxLen]; omega, by simp⟩, fun _ => ⟨_, heap_alloc_new w _, by simp [size_madeCells], fun i f c hi hf => ?_⟩⟩,
          .inr ⟨⟨w.heap.size, 0, m.toNat, true⟩, by rw [← hr.len]; simp, by simp, h0, by simp; omega, .inl ⟨rfl, _, by simp; rfl, fun _ => by simp [Pl.addr]⟩⟩⟩
        · simp at hc; obtain ⟨v, _, rfl⟩ := hc; exact (zeroCol_at v _).1
        · simp only [List.getElem?_map, Option.map_eq_some_iff] at hf
          obtain ⟨v, hv, rfl⟩ := hf
          have hfl : f < ti.size := by rw [← b2]; exact (List.getElem?_eq_some_iff.1 hv).1
          rw [(zeroCol_at v _).2 i hi]
          refine ⟨v, ?_, rfl⟩
          have hlt : i * ti.size + f < m.toNat * ti.size := by
            have : (i + 1) * ti.size ≤ m.toNat * ti.size := Nat.mul_le_mul_right _ (by omega)
            rw [Nat.add_mul] at this; omega
          have hmod : (i * ti.size + f) % ti.size = f := by rw [Nat.mul_comm, Nat.mul_add_mod]; exact Nat.mod_eq_of_lt hfl
          have hzf : z.cells[f]? = some v := by rw [← Array.getElem?_toList, hzc]; exact hv
          simp only [madeCells, Nat.zero_add, Array.getElem?_map, Array.getElem?_range, hlt, if_true, Option.map_some, hzs, hmod]
          rw [getElem!_def, hzf]
    · cases h
  · cases h

theorem eCopy_ok {tl : Tab} (htl : TabOk P tl) (hr : HRel E w0 ρ H w) {t t2 ty : TypeId} {d s v : V} {q u : Value} {H' : Heap} {b : Bool} (h : eCopy H tl t d s = some (v, H', b)) (hb : b = true) (hd : VRel ρ H d q) (hs : VRel ρ H s u) :
    EOk P E w0 w ρ H (Builtin.copy_ #[t, t2] ty #[q, u]) v H' := by
  unfold eCopy at h
  split at h
  · rename_i e id sz off len hk
    have hu : P.underlying t = some (.slice e) := kd_ok htl hk
    split at h
    · rename_i ti e' sz' n k l k2 l2 c hti hid hint
      cases hbb : (Nat.beq ti.size 1 && Nat.beq sz 1 && Nat.beq sz' 1 && decide (k = k2)) with
      | false => rw [hbb] at h; cases h
      | true =>
        rw [hbb] at h; cases h
        simp only [Bool.and_eq_true] at hbb
        obtain ⟨⟨⟨b1, b2⟩, b3⟩, b4⟩ := hbb
        have b1 := Nat.eq_of_beq_eq_true b1
        have b2 := Nat.eq_of_beq_eq_true b2
        have b3 := Nat.eq_of_beq_eq_true b3
        have b4 := of_decide_eq_true b4
        subst b2 b3 b4
        rw [Bool.and_eq_true] at hb
        obtain ⟨hc, hin⟩ := hb
        have hin' := of_decide_eq_true hin
        obtain ⟨i, z, hi, hsz, _⟩ := (htl e ti hti).parts
        have hs1 : (P.info? e).map (·.size) = some 1 := by rw [hi]; simp [hsz, b1]
        obtain ⟨a, cap, rfl, hcell⟩ := intsAt_ok hr.read hint hc hs
        obtain ⟨p, hp, hok, hreal⟩ := hr.at hid
        have hok' := hok
        obtain ⟨hn, hcl, _, _, hnc, hcm, hv⟩ := hok'
        have hl : l.length = n.toNat := hcl (.int k l) (by simp)
        obtain ⟨p', hp', s0, s1, s2, hsl⟩ := hd.resolve_left (by rw [Gone, hid]; simp)
        rw [hp] at hp'; cases hp'
        have hmin : (minI (l2.length : Int) len).toNat = Nat.min l2.length len.toNat := by
          unfold minI
          simp only [Nat.min_def]
          split <;> split <;> omega
        have hmin0 : 0 ≤ minI (l2.length : Int) len := by unfold minI; split <;> omega
        have hres : goInt (Nat.min l2.length len.toNat) = .int .i64 (minI (l2.length : Int) len) := by
          rw [← hmin]; simp [goInt, Int.toNat_of_nonneg hmin0]
        have hx : Ext ρ H ρ (H.set id (.row e' 1 n [.int k (spliceL off (minI (l2.length : Int) len).toNat l l2)])) := Ext.set hid rfl
        have hsame : Nat.min l2.length len.toNat = 0 → spliceL off (minI (l2.length : Int) len).toNat l l2 = l := by
          intro h0
          rw [hmin, h0]
          simp [spliceL, List.take_append_drop]
        by_cases hk0 : Nat.min l2.length len.toNat = 0
        · have hset : H.set id (.row e' 1 n [.int k (spliceL off (minI (l2.length : Int) len).toNat l l2)]) = H := by
            rw [hsame hk0]
            apply List.ext_getElem?
            intro j
            rw [List.getElem?_set]
            split
            · rename_i e; subst e; rw [if_pos (List.getElem?_eq_some_iff.1 hid).1, hid]
            · rfl
          rw [hset]
          have hq : ∃ d dc, q = .slice d len.toNat dc := by
            rcases hsl with ⟨_, ad, rfl, _⟩ | ⟨_, hr2, rfl⟩
            · exact ⟨_, _, rfl⟩
            · exact ⟨none, 0, by rw [show len.toNat = 0 by omega]⟩
          obtain ⟨d', dc, rfl⟩ := hq
          have hrun := run_copy_none (P := P) w t t2 ty e d' a len.toNat dc l2.length cap hu hs1 hk0
          refine ⟨_, w, ρ, hrun, Ext.refl _ _, hr, ?_⟩
          rw [← hres, hk0]; rfl
        · have hlp : 0 < len.toNat := by simp only [Nat.min_def] at hk0; split at hk0 <;> omega
          have hrl : p.real = true := by
            cases hpr : p.real with
            | true => rfl
            | false => have := hv hpr; omega
          rcases hsl with ⟨_, ad, rfl, ha⟩ | ⟨hf, _⟩
          case inr => rw [hrl] at hf; cases hf
          have haa := ha (by omega)
          subst haa
          obtain ⟨cur, hh, hfit, hcols⟩ := hreal hrl
          have hl2 : l2.length ≠ 0 := by simp only [Nat.min_def] at hk0; split at hk0 <;> omega
          obtain ⟨as, rfl, hc2⟩ := hcell hl2
          generalize hkk : Nat.min l2.length len.toNat = kk at *
          have hkl2 : kk ≤ l2.length := by rw [← hkk]; exact Nat.min_le_left _ _
          have hklen : kk ≤ len.toNat := by rw [← hkk]; exact Nat.min_le_right _ _
          have hcsl : ((l2.take kk).map (Value.int k)).length = kk := by simp; omega
          have hrun := run_copy_row P w t t2 ty e p.blk (p.off + (off.getD 0).toNat) len.toNat (p.cap - (off.getD 0).toNat) as l2.length cap cur e' ((l2.take kk).map (Value.int k)) hu hs1 hh (by rw [hcsl, hkk])
            (fun j v hj => hc2 w (HSame.of_heap rfl) j v (by
              simp only [List.getElem?_map, List.getElem?_take] at hj
              split at hj
              · simpa using hj
              · simp at hj)) (by rw [hcsl]; omega) (by intro v hv; obtain ⟨_, _, rfl⟩ := List.mem_map.1 hv; rfl)
          rw [hcsl] at hrun
          refine ⟨goInt kk, _, ρ, by rw [show p.addr ((off.getD 0).toNat * 1) = ⟨p.blk, p.off + (off.getD 0).toNat, none⟩ by simp [Pl.addr]]; exact hrun, hx, ?_, by rw [hres]; rfl⟩
          rw [hmin]
          rw [hmin] at hx
          have hspl : (spliceL off kk l l2).length = n.toNat := by simp [spliceL]; omega
          refine hr.set hp hid rfl rfl hrl rfl rfl rfl (by simp) (fun j hj => setRow_other w _ j _ hj) ⟨⟨hn, by intro c hc; simp at hc; subst hc; exact hspl, rfl, by omega, hnc, hcm, hv⟩, fun _ => ⟨_, setRow_heap w _ cur _ e' (0, 0) hh, ?_, ?_⟩⟩
          · simp [hcsl]; omega
          · intro j f c hj hf
            match f with
            | f + 1 => simp at hf
            | 0 =>
              simp at hf; subst hf
              have htake : (cur.toList.take (p.off + (off.getD 0).toNat)).length = p.off + (off.getD 0).toNat := by simp; omega
              simp only [Nat.mul_one, Nat.add_zero, List.getElem?_toArray]
              rcases Nat.lt_or_ge j (off.getD 0).toNat with h1 | h1
              · obtain ⟨y, hy, hya⟩ := hcols j 0 (.int k l) hj rfl
                refine ⟨y, ?_, ?_⟩
                · rw [List.append_assoc, List.getElem?_append_left (by omega), List.getElem?_take, if_pos (by omega)]
                  simpa using hy
                · simp only [Col.at, ARel] at hya ⊢
                  rw [hya]
                  congr 1
                  simp only [spliceL, List.getD_eq_getElem?_getD]
                  rw [List.append_assoc, List.getElem?_append_left (by simp; omega), List.getElem?_take, if_pos h1]
              · rcases Nat.lt_or_ge j ((off.getD 0).toNat + kk) with h2 | h2
                · have hj2 : j - (off.getD 0).toNat < (l2.take kk).length := by simp; omega
                  refine ⟨.int k ((l2.take kk)[j - (off.getD 0).toNat]), ?_, ?_⟩
                  · rw [List.append_assoc, List.getElem?_append_right (by omega), List.getElem?_append_left (by simp; omega)]
                    rw [htake, show p.off + j - (p.off + (off.getD 0).toNat) = j - (off.getD 0).toNat by omega]
                    rw [List.getElem?_map, List.getElem?_eq_getElem hj2]; rfl
                  · simp only [Col.at, ARel]
                    congr 1
                    simp only [spliceL, List.getD_eq_getElem?_getD]
                    rw [List.append_assoc, List.getElem?_append_right (by simp; omega), List.getElem?_append_left (by simp; omega)]
                    rw [show (l.take (off.getD 0).toNat).length = (off.getD 0).toNat by simp; omega, List.getElem?_eq_getElem hj2]; rfl
                · obtain ⟨y, hy, hya⟩ := hcols j 0 (.int k l) hj rfl
                  refine ⟨y, ?_, ?_⟩
                  · rw [List.getElem?_append_right (by simp; omega), List.getElem?_drop]
                    rw [show p.off + (off.getD 0).toNat + kk + (p.off + j - (cur.toList.take (p.off + (off.getD 0).toNat) ++ (l2.take kk).map (Value.int k)).length) = p.off + j by simp; omega]
                    simpa using hy
                  · simp only [Col.at, ARel] at hya ⊢
                    rw [hya]
                    congr 1
                    simp only [spliceL, List.getD_eq_getElem?_getD]
                    rw [List.getElem?_append_right (by simp; omega), List.getElem?_drop]
                    rw [show (off.getD 0).toNat + kk + (j - (l.take (off.getD 0).toNat ++ l2.take kk).length) = j by simp; omega]
    · cases h
  · cases h
end
end Go.Sx
