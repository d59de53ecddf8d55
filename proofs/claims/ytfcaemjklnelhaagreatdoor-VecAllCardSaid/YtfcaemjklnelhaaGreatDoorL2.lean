import Derived.Test.YtfcaemjklnelhaaGreatDoorL1
import Derived.Laws.MakeOwn
import Derived.Laws.BytesString
import Derived.Laws.IdiomCopy
set_option linter.all false
namespace Go.Sx
open Go

def bytesI (s : ByteArray) : List Int := s.data.toList.map fun b => (b.toNat : Int)
def catCol : Col → Col → Option Col
  | .int k l, .int k' l' => bif decide (k = k') then some (.int k (l ++ l')) else none
  | .bool l, .bool l' => some (.bool (l ++ l'))
  | .str l, .str l' => some (.str (l ++ l'))
  | .ats l, .ats l' => some (.ats (l ++ l'))
  | _, _ => none
def catCols : List Col → List Col → Option (List Col)
  | [], [] => some []
  | c :: cs, d :: ds => match catCol c d, catCols cs ds with | some x, some xs => some (x :: xs) | _, _ => none
  | _, _ => none

/-- Every live cell of a row is one cell's value: columns of plain values. -/
def Col.plain : Col → Bool
  | .ats _ => false
  | _ => true
/-- What an append takes in: how many elements, their columns, what must hold. -/
def srcOf (H : Heap) (tl : Tab) (t : TypeId) (sz : Nat) (x : V) : Option (Int × List Col × Bool) :=
  match kd tl t, x with
  | some (.sl _), .at (.sl id sz' none m) =>
    match H[id]? with
    | some (.row _ sz2 n cols) => bif Nat.beq sz sz' && Nat.beq sz sz2 then some (m, cols, decide (m = n)) else none
    | some (.ro _ sz2 n cols) => bif Nat.beq sz sz' && Nat.beq sz sz2 then some (m, cols, decide (m = n)) else none
    | _ => none
  | some (.sl _), .at (.sl id sz' (some o) m) =>
    match H[id]? with
    | some (.row _ sz2 n cols) => match cutCols o m cols with | some cols' => bif Nat.beq sz sz' && Nat.beq sz sz2 then some (m, cols', decide (o + m ≤ n)) else none | none => none
    | some (.ro _ sz2 n cols) => match cutCols o m cols with | some cols' => bif Nat.beq sz sz' && Nat.beq sz sz2 then some (m, cols', decide (o + m ≤ n)) else none | none => none
    | _ => none
  | some .str, .at (.raw (.string s)) => bif Nat.beq sz 1 then some ((s.size : Int), [.int .u8 (bytesI s)], true) else none
  | _, _ => none

def eAppend (H : Heap) (tl : Tab) (t t2 : TypeId) (s x : V) : Option (V × Heap × Bool) :=
  match kd tl t with
  | some (.sl e) =>
    match lk tl e, s with
    | some ti, .at (.sl id sz none len) =>
      match H[id]?, srcOf H tl t2 sz x with
      | some (.row e' sz2 n cols), some (m, cols2, c) =>
        match catCols cols cols2 with
        | some cols' =>
          bif Nat.beq sz sz2 && Nat.beq ti.size sz && Nat.beq e e' && Nat.beq ti.zero.length sz && cols2.all Col.plain then
            some (.at (.sl H.length sz none (len + m)), H.set id .dead ++ [.row e sz (len + m) cols'], decide (len = n) && c && decide ((len + m) * (ti.bytes : Int) ≤ 140737488355328 ∧ len + m ≤ 4611686018427387904))
          else none
        | none => none
      | _, _ => none
    | some ti, .at (.raw (.slice none 0 0)) =>
      match srcOf H tl t2 ti.size x with
      | some (m, cols2, c) =>
        bif Nat.beq ti.zero.length ti.size && Nat.beq cols2.length ti.size && Nat.ble 1 ti.size && cols2.all Col.plain then
          some (.at (.sl H.length ti.size none m), H ++ [.row e ti.size m cols2], c && decide (m * (ti.bytes : Int) ≤ 140737488355328 ∧ m ≤ 4611686018427387904))
        else none
      | none => none
    | _, _ => none
  | none => none
  | _ => none

section
variable {P : Program} {E : Nat → Prop} {w0 w : World} {ρ : List Pl} {H : Heap}

/-- The source of an append, as the model reads it. -/
def SrcRun (P : Program) (w : World) (t : TypeId) (size m : Nat) (u : Value) (news : List Value) : Prop :=
  (∃ d, P.underlying t = some d ∧ ∀ k, d ≠ .int k) ∧ news.length = m * size ∧ (∀ v ∈ news, v.oneCell' = true) ∧
  ∀ w' : World, w'.heap = w.heap → (Builtin.lenOf u).run P w' = .ok m w' ∧ (Builtin.firstCells size m u).run P w' = .ok news.toArray w'

theorem append_room (t t2 ty e : TypeId) (i : TypeInfo) (ht : P.underlying t = some (.slice e)) (hi : P.info? e = some i)
    (g o sLen sCap : Nat) (cur : Array Value) (hg : w.heap[g]? = some (.cells cur e (0, 0))) {m : Nat} {u : Value} {news : List Value} (hs : SrcRun P w t2 i.size m u news)
    (hroom : sLen + m ≤ sCap) (hfit : o + sLen * i.size + news.length ≤ cur.size) :
    (Builtin.append_ #[t, t2] ty #[.slice (some ⟨g, o, none⟩) sLen sCap, u]).run P w =
      .ok (.slice (some ⟨g, o, none⟩) (sLen + m) sCap) (w.setRow g (cur.toList.take (o + sLen * i.size) ++ news ++ cur.toList.drop (o + sLen * i.size + news.length)).toArray) := by
  obtain ⟨⟨d, hd, hdi⟩, hl, h1, hrun⟩ := hs
  obtain ⟨hlen, hf⟩ := hrun w rfl
  have hst := run_storeCells_at P g (o + sLen * i.size) e news 0 cur w hg (by simpa using hfit) h1
  simp only [Nat.add_zero] at hst
  have hadd : (⟨g, o, none⟩ : Addr).add (sLen * i.size) = ⟨g, o + sLen * i.size, none⟩ := by unfold Addr.add; split <;> simp_all
  have hz : (match d with | .int _ => true | _ => false) = false := by cases d <;> first | rfl | exact absurd rfl (hdi _)
  simp [Builtin.append_, run_underlying ht, run_underlying hd, sizeOf, typeInfo, hi, hz, hlen, hroom, hf, hadd, hst]

theorem append_grow (t t2 ty e : TypeId) (i : TypeInfo) (z : Value) (ht : P.underlying t = some (.slice e)) (hi : P.info? e = some i) (hz : i.zero = some z)
    (b : Option Addr) (sLen sCap : Nat) (olds : List Value) (hlo : olds.length = sLen * i.size) (holds : ∀ w' : World, w'.heap = w.heap → (Builtin.firstCells i.size sLen (.slice b sLen sCap)).run P w' = .ok olds.toArray w')
    {m : Nat} {u : Value} {news : List Value} (hs : SrcRun P w t2 i.size m u news)
    (hg : sCap < sLen + m) (h63 : ((sLen + m : Nat) : Int) ≤ 9223372036854775807) (hfit : Builtin.nextslicecap (sLen + m) sCap * i.bytes ≤ 281474976710656) :
    (Builtin.append_ #[t, t2] ty #[.slice b sLen sCap, u]).run P w =
      .ok (.slice (some ⟨w.heap.size, 0, none⟩) (sLen + m) (grownCap w (sLen + m) sCap e))
        (w.drew.alloc (.cells (olds.toArray ++ news.toArray ++ Builtin.zeroCells z.cells (grownCap w (sLen + m) sCap e - (sLen + m))) e)) := by
  obtain ⟨⟨d, hd, hdi⟩, hl, h1, hrun⟩ := hs
  have hzd : (match d with | .int _ => true | _ => false) = false := by cases d <;> first | rfl | exact absurd rfl (hdi _)
  obtain ⟨hlen, -⟩ := hrun w rfl
  obtain ⟨-, hf⟩ := hrun w.drew rfl
  have hfo := holds w.drew rfl
  have hn : ¬ (sLen + m ≤ sCap) := by omega
  have h63' : ¬ (9223372036854775807 < ((sLen : Int) + (m : Int))) := by omega
  have h48' : ¬ (281474976710656 < Builtin.nextslicecap (sLen + m) sCap * i.bytes) := by omega
  simp [Builtin.append_, run_underlying ht, run_underlying hd, sizeOf, typeInfo, zeroValue, hi, hz, hzd, hlen, hn, h63', h48', Question.forced, hf, hfo, newRow, grownCap]
  congr 2
  apply Array.ext'
  simp [List.append_assoc]

/-- The live cells of a row, as a list. -/
def rowVals (cur : Array Value) (o n : Nat) : List Value := (List.range n).map fun j => (cur[o + j]?).getD undef
theorem rowVals_get {cur : Array Value} {o n j : Nat} {v : Value} (h : (rowVals cur o n)[j]? = some v) (hf : o + n ≤ cur.size) : j < n ∧ cur[o + j]? = some v := by
  simp only [rowVals, List.getElem?_map, List.getElem?_range] at h
  by_cases hj : j < n
  · have hs : o + j < cur.size := by omega
    simp only [List.getElem?_range hj, Option.map_some, Option.some.injEq, Array.getElem?_eq_getElem hs, Option.getD_some] at h
    exact ⟨hj, by rw [Array.getElem?_eq_getElem hs, h]⟩
  · simp [List.getElem?_eq_none, Nat.le_of_not_lt hj] at h
theorem rowVals_at {cur : Array Value} {o n j : Nat} (hj : j < n) (hf : o + n ≤ cur.size) : (rowVals cur o n)[j]? = cur[o + j]? := by
  have hs : o + j < cur.size := by omega
  simp [rowVals, List.getElem?_range hj, Array.getElem?_eq_getElem hs]
theorem rowVals_run {p : Pl} {cur : Array Value} {e : TypeId} {fz : Nat × Nat} (hh : w.heap[p.blk]? = some (.cells cur e fz)) {n sz c : Nat} (hf : p.off + n * sz ≤ cur.size) {w' : World} (hw : w'.heap = w.heap) :
    (Builtin.firstCells sz n (.slice (some (p.addr 0)) n c)).run P w' = .ok (rowVals cur p.off (n * sz)).toArray w' := by
  have hl : (rowVals cur p.off (n * sz)).length = n * sz := by simp [rowVals]
  have := run_loadCells_list (P := P) w' (p.addr 0) (rowVals cur p.off (n * sz)) (fun j v hv => by
    obtain ⟨hj, hc⟩ := rowVals_get hv hf
    rw [addr_add, cell_at (t := e) (fz := fz) (cur := cur) (by rw [hw]; exact hh), Nat.zero_add]
    exact hc)
  rw [hl] at this
  simpa [Builtin.firstCells] using this

theorem cell_ok {v : Value} (h : ∃ a, okA H a = true ∧ ARel ρ H a v) : v.oneCell' = true := let ⟨_, h1, h2⟩ := h; okA_one h1 h2

theorem Col.at_one {c : Col} (hc : c.plain = true) (i : Nat) {v : Value} (h : ARel ρ H (c.at i) v) : v.oneCell' = true := by
  cases c <;> first | (cases hc; done) | (simp only [Col.at, ARel] at h; subst h; rfl)

theorem catCol_ok {c d x : Col} (h : catCol c d = some x) : x.len = c.len + d.len ∧ ∀ i, x.at i = if i < c.len then c.at i else d.at (i - c.len) := by
  unfold catCol at h
  split at h
  · rename_i k l k' l'
    by_cases hk : k = k'
    · subst hk
      simp only [decide_true, cond_true, Option.some.injEq] at h
      subst h
      refine ⟨by simp [Col.len], fun i => ?_⟩
      simp only [Col.at, Col.len, List.getD_eq_getElem?_getD]
      split
      · rename_i hi; rw [List.getElem?_append_left hi]
      · rename_i hi; rw [List.getElem?_append_right (by omega)]
    · simp [hk] at h
  all_goals first
    | (cases h; done)
    | (cases h
       refine ⟨by simp [Col.len], fun i => ?_⟩
       simp only [Col.at, Col.len, List.getD_eq_getElem?_getD]
       split
       · rename_i hi; rw [List.getElem?_append_left hi]
       · rename_i hi; rw [List.getElem?_append_right (by omega)])
theorem catCols_ok : ∀ {cs ds xs : List Col}, catCols cs ds = some xs → cs.length = xs.length ∧ ds.length = xs.length ∧
    ∀ (f : Nat) (x : Col), xs[f]? = some x → ∃ c d, cs[f]? = some c ∧ ds[f]? = some d ∧ catCol c d = some x
  | [], [], xs, h => by simp only [catCols, Option.some.injEq] at h; subst h; exact ⟨rfl, rfl, fun f x hx => by simp at hx⟩
  | c :: cs, d :: ds, xs, h => by
    simp only [catCols] at h
    split at h
    · rename_i x1 xs1 h1 h2
      cases h
      obtain ⟨a1, a2, a3⟩ := catCols_ok h2
      refine ⟨by simp [a1], by simp [a2], fun f x hx => ?_⟩
      match f with
      | 0 => simp at hx; subst hx; exact ⟨c, d, rfl, rfl, h1⟩
      | f + 1 => simp at hx; obtain ⟨c', d', e1, e2, e3⟩ := a3 f x hx; exact ⟨c', d', by simpa using e1, by simpa using e2, e3⟩
    · cases h
  | [], d :: ds, xs, h => by simp [catCols] at h
  | c :: cs, [], xs, h => by simp [catCols] at h

/-- The source: its cells, and what the columns say of them. -/
theorem srcOf_ok {tl : Tab} (htl : TabOk P tl) (hr : HRel E w0 ρ H w) {t : TypeId} {sz : Nat} {x : V} {u : Value} {m : Int} {cols : List Col} {c : Bool} (h : srcOf H tl t sz x = some (m, cols, c)) (hc : c = true) (hx : VRel ρ H x u) (hp : cols.all Col.plain = true) (hsz : cols.length = sz) :
    0 ≤ m ∧ (∀ c ∈ cols, c.len = m.toNat) ∧ ∃ news, SrcRun P w t sz m.toNat u news ∧
      ∀ (i f : Nat) (c : Col), i < m.toNat → cols[f]? = some c → ∃ v, news[i * sz + f]? = some v ∧ ARel ρ H (c.at i) v := by
  have key : ∀ (e : TypeId) (p : Pl), kd tl t = some (.sl e) → SlRel p sz 0 m u → RowOk p sz m cols → (p.real = true → ∃ cur e' fz, w.heap[p.blk]? = some (.cells cur e' fz) ∧ ColsRel ρ H p sz m cols cur) →
      0 ≤ m ∧ (∀ c ∈ cols, c.len = m.toNat) ∧ ∃ news, SrcRun P w t sz m.toNat u news ∧
      ∀ (i f : Nat) (c : Col), i < m.toNat → cols[f]? = some c → ∃ v, news[i * sz + f]? = some v ∧ ARel ρ H (c.at i) v := by
    intro e p hk ⟨s0, s1, s2, hs⟩ hok hreal
    have hu : P.underlying t = some (.slice e) := kd_ok htl hk
    obtain ⟨hn, hcl, hcn, hs0, hnc, hcm, hv⟩ := hok
    refine ⟨hn, hcl, ?_⟩
    rcases hs with ⟨hrl, a, rfl, ha⟩ | ⟨hrl, hr2, oa, rfl⟩
    · obtain ⟨cur, e', fz, hh, hcols⟩ := hreal hrl
      by_cases hm0 : m.toNat = 0
      · refine ⟨[], ⟨⟨_, hu, fun k hk => by cases hk⟩, by simp [hm0], by simp, fun w' hw => ⟨by simp [Builtin.lenOf], by simp [Builtin.firstCells, hm0, loadCells, loadCellsFrom]⟩⟩, fun i f c hi => by omega⟩
      · have hane : p.cap - (0 : Int).toNat ≠ 0 := by simp; omega
        have haddr := ha hane
        simp at haddr
        subst haddr
        have hfit : p.off + m.toNat * sz ≤ cur.size := by
          have h1 : m.toNat - 1 < m.toNat := by omega
          have hlast : sz - 1 < cols.length := by omega
          obtain ⟨v, hv1, _⟩ := hcols (m.toNat - 1) (sz - 1) _ h1 (List.getElem?_eq_getElem hlast)
          have := (Array.getElem?_eq_some_iff.1 hv1).1
          have e1 : (m.toNat - 1) * sz + sz = m.toNat * sz := by
            rw [← Nat.succ_mul]; congr 1; omega
          omega
        have hgetv : ∀ (i f : Nat) (c : Col), i < m.toNat → cols[f]? = some c → ∃ v, (rowVals cur p.off (m.toNat * sz))[i * sz + f]? = some v ∧ ARel ρ H (c.at i) v := by
          intro i f c hi hf
          obtain ⟨v, hv1, hv2⟩ := hcols i f c hi hf
          have hfs : f < sz := by rw [← hcn]; exact (List.getElem?_eq_some_iff.1 hf).1
          have hlt : i * sz + f < m.toNat * sz := by
            have : (i + 1) * sz ≤ m.toNat * sz := Nat.mul_le_mul_right _ hi
            rw [Nat.add_mul] at this; omega
          refine ⟨v, ?_, hv2⟩
          rw [rowVals_at hlt hfit, ← Nat.add_assoc]
          exact hv1
        refine ⟨rowVals cur p.off (m.toNat * sz), ⟨⟨_, hu, fun k hk => by cases hk⟩, by simp [rowVals], fun v hm => ?_, fun w' hw => ⟨by simp [Builtin.lenOf], rowVals_run hh hfit hw⟩⟩, hgetv⟩
        obtain ⟨j, hj, rfl⟩ := List.getElem_of_mem hm
        have hj' : j < m.toNat * sz := by simpa [rowVals] using hj
        have hd : j / sz < m.toNat := Nat.div_lt_of_lt_mul (by rw [Nat.mul_comm]; exact hj')
        have hf : j % sz < cols.length := by rw [hcn]; exact Nat.mod_lt _ hs0
        obtain ⟨v, hv1, hv2⟩ := hgetv (j / sz) (j % sz) _ hd (List.getElem?_eq_getElem hf)
        rw [show j / sz * sz + j % sz = j by rw [Nat.mul_comm]; exact Nat.div_add_mod j sz, List.getElem?_eq_getElem hj] at hv1
        cases hv1
        exact Col.at_one (List.all_eq_true.1 hp _ (List.getElem_mem hf)) _ hv2
    · have hm0 : m.toNat = 0 := by omega
      refine ⟨[], ⟨⟨_, hu, fun k hk => by cases hk⟩, by simp [hm0], by simp, fun w' hw => ⟨by simp [Builtin.lenOf, hm0], by cases oa <;> simp [Builtin.firstCells, loadCells, loadCellsFrom, hm0]⟩⟩, fun i f c hi => by omega⟩
  unfold srcOf at h
  split at h
  · rename_i e id sz' m' hk
    split at h
    · rename_i e' sz2 n cols' hid
      cases hb : (Nat.beq sz sz' && Nat.beq sz sz2) with
      | false => rw [hb] at h; cases h
      | true =>
        rw [hb] at h
        rw [Bool.and_eq_true] at hb
        have e1 := Nat.eq_of_beq_eq_true hb.1
        have e2 := Nat.eq_of_beq_eq_true hb.2
        subst e1 e2
        cases h
        obtain ⟨p, hpl, hok, hreal⟩ := hr.at hid
        obtain ⟨q, hq, hsl⟩ := hx.resolve_left (by rw [Gone, hid]; simp)
        rw [hpl] at hq; cases hq
        have hmn := of_decide_eq_true hc
        subst hmn
        exact key e p hk hsl hok (fun hrl => let ⟨cur, a1, _, a3⟩ := hreal hrl; ⟨cur, _, _, a1, a3⟩)
    · rename_i e' sz2 n cols' hid
      cases hb : (Nat.beq sz sz' && Nat.beq sz sz2) with
      | false => rw [hb] at h; cases h
      | true =>
        rw [hb] at h
        rw [Bool.and_eq_true] at hb
        have e1 := Nat.eq_of_beq_eq_true hb.1
        have e2 := Nat.eq_of_beq_eq_true hb.2
        subst e1 e2
        cases h
        obtain ⟨p, hpl, hok, hreal⟩ := hr.at hid
        obtain ⟨q, hq, hsl⟩ := hx.resolve_left (by rw [Gone, hid]; simp)
        rw [hpl] at hq; cases hq
        have hmn := of_decide_eq_true hc
        subst hmn
        exact key e p hk hsl hok (fun hrl => hreal hrl)
    · cases h
  · rename_i e id sz' o m' hk
    split at h
    · rename_i e' sz2 n cols' hid
      split at h
      · rename_i cols2 hcut
        cases hb : (Nat.beq sz sz' && Nat.beq sz sz2) with
        | false => rw [hb] at h; cases h
        | true =>
          rw [hb] at h
          rw [Bool.and_eq_true] at hb
          have e1 := Nat.eq_of_beq_eq_true hb.1
          have e2 := Nat.eq_of_beq_eq_true hb.2
          subst e1 e2
          cases h
          obtain ⟨p, hpl, hok, hreal⟩ := hr.at hid
          obtain ⟨q, hq, hsl⟩ := hx.resolve_left (by rw [Gone, hid]; simp)
          rw [hpl] at hq; cases hq
          have hle := of_decide_eq_true hc
          have s0 := hsl.1
          have s1 := hsl.2.1
          exact key e (cutPl p sz o) hk (by simpa using cutSl_ok hsl) (cutRow_ok hok hcut s0 s1 hle) (fun hrl => let ⟨cur, a1, _, a3⟩ := hreal hrl; ⟨cur, _, _, a1, cutRow_cols hok hcut s0 s1 hle a3⟩)
      · cases h
    · rename_i e' sz2 n cols' hid
      split at h
      · rename_i cols2 hcut
        cases hb : (Nat.beq sz sz' && Nat.beq sz sz2) with
        | false => rw [hb] at h; cases h
        | true =>
          rw [hb] at h
          rw [Bool.and_eq_true] at hb
          have e1 := Nat.eq_of_beq_eq_true hb.1
          have e2 := Nat.eq_of_beq_eq_true hb.2
          subst e1 e2
          cases h
          obtain ⟨p, hpl, hok, hreal⟩ := hr.at hid
          obtain ⟨q, hq, hsl⟩ := hx.resolve_left (by rw [Gone, hid]; simp)
          rw [hpl] at hq; cases hq
          have hle := of_decide_eq_true hc
          have s0 := hsl.1
          have s1 := hsl.2.1
          exact key e (cutPl p sz o) hk (by simpa using cutSl_ok hsl) (cutRow_ok hok hcut s0 s1 hle) (fun hrl => let ⟨cur, t, fz, a1, a3⟩ := hreal hrl; ⟨cur, t, fz, a1, cutRow_cols hok hcut s0 s1 hle a3⟩)
      · cases h
    · cases h
  · rename_i s hk
    have hu : P.underlying t = some .string := kd_ok htl hk
    cases hb : Nat.beq sz 1 with
    | false => rw [hb] at h; cases h
    | true =>
      rw [hb] at h
      have e1 := Nat.eq_of_beq_eq_true hb
      subst e1
      cases h
      simp only [VRel, ARel] at hx
      subst hx
      have hsl : s.data.toList.length = s.size := by simp
      refine ⟨by omega, fun c hcm => by simp at hcm; subst hcm; simp [Col.len, bytesI], s.data.toList.map (fun b => .int .u8 b.toNat), ⟨⟨_, hu, fun k hk => by cases hk⟩, by simp, fun v hm => ?_, fun w' hw => ⟨by simp [Builtin.lenOf], ?_⟩⟩, fun i f c hi hf => ?_⟩
      · simp at hm; obtain ⟨b, _, rfl⟩ := hm; rfl
      · simp [Builtin.firstCells]
        apply Array.ext'
        simp
      · match f with
        | 0 =>
          simp at hf; subst hf
          have hi' : i < s.data.toList.length := by simp at hi ⊢; omega
          refine ⟨.int .u8 ((s.data.toList[i]'hi').toNat : Int), by simp [List.getElem?_eq_getElem hi'], ?_⟩
          simp [Col.at, bytesI, ARel, List.getD_eq_getElem?_getD, List.getElem?_eq_getElem hi']
        | f + 1 => simp at hf
  · cases h

theorem newRow_ok (hr : HRel E w0 ρ H w) {w' : World} {e : TypeId} {sz cap : Nat} {n m : Int} {cols cols2 cols' : List Col} {olds news : List Value} {zs : Array Value} {ρ1 : List Pl} {H1 : Heap}
    (hx1 : Ext ρ H ρ1 H1) (hl1 : ρ1.length = H1.length)
    (hw : w'.heap[w.heap.size]? = some (.cells (olds.toArray ++ news.toArray ++ zs) e (0, 0)))
    (hn : 0 ≤ n) (hm : 0 ≤ m) (h0 : 0 < sz) (hol : olds.length = n.toNat * sz) (hnl : news.length = m.toNat * sz) (hcap : (n + m).toNat ≤ cap) (hcm : cap ≤ maxLen) (hzs : zs.size = (cap - (n + m).toNat) * sz)
    (hcols : catCols cols cols2 = some cols') (hcl : ∀ c ∈ cols, c.len = n.toNat) (hcl2 : ∀ c ∈ cols2, c.len = m.toNat) (hcn : cols.length = sz)
    (ho : ∀ (i f : Nat) (c : Col), i < n.toNat → cols[f]? = some c → ∃ v, olds[i * sz + f]? = some v ∧ ARel ρ H (c.at i) v)
    (hne : ∀ (i f : Nat) (c : Col), i < m.toNat → cols2[f]? = some c → ∃ v, news[i * sz + f]? = some v ∧ ARel ρ H (c.at i) v) :
    ObjRel (ρ1 ++ [⟨w.heap.size, 0, cap, true⟩]) (H1 ++ [.row e sz (n + m) cols']) w' ⟨w.heap.size, 0, cap, true⟩ (.row e sz (n + m) cols') := by
  have hx := hx1.trans (Ext.push hl1 ⟨w.heap.size, 0, cap, true⟩ (.row e sz (n + m) cols'))
  obtain ⟨a1, a2, a3⟩ := catCols_ok hcols
  have hnm : (n + m).toNat = n.toNat + m.toNat := by omega
  refine ⟨⟨by omega, fun c hc => ?_, by omega, h0, hcap, hcm, by simp⟩, fun _ => ⟨_, hw, ?_, fun i f c hi hf => ?_⟩⟩
  · obtain ⟨f, hf, rfl⟩ := List.getElem_of_mem hc
    obtain ⟨c1, d1, e1, e2, e3⟩ := a3 f _ (List.getElem?_eq_getElem hf)
    rw [(catCol_ok e3).1, hcl c1 (List.mem_of_getElem? e1), hcl2 d1 (List.mem_of_getElem? e2), hnm]
  · simp only [Nat.zero_add, Array.size_append, List.size_toArray, hol, hnl, hzs, ← Nat.add_mul]
    exact Nat.mul_le_mul_right _ (by omega)
  · obtain ⟨c1, d1, e1, e2, e3⟩ := a3 f c hf
    have hfs : f < sz := by rw [← hcn]; exact (List.getElem?_eq_some_iff.1 e1).1
    have hc1 := hcl c1 (List.mem_of_getElem? e1)
    rw [(catCol_ok e3).2 i, hc1]
    simp only [Nat.zero_add]
    by_cases hlt : i < n.toNat
    · rw [if_pos hlt]
      obtain ⟨v, hv, hva⟩ := ho i f c1 hlt e1
      refine ⟨v, ?_, hva.ext hx⟩
      have hb : i * sz + f < olds.length := (List.getElem?_eq_some_iff.1 hv).1
      rw [Array.append_assoc, Array.getElem?_append_left (by simpa using hb)]
      simpa using hv
    · rw [if_neg hlt]
      obtain ⟨v, hv, hva⟩ := hne (i - n.toNat) f d1 (by omega) e2
      refine ⟨v, ?_, hva.ext hx⟩
      have hb : (i - n.toNat) * sz + f < news.length := (List.getElem?_eq_some_iff.1 hv).1
      have hidx : i * sz + f = olds.length + ((i - n.toNat) * sz + f) := by
        rw [hol, ← Nat.add_assoc, ← Nat.add_mul]; congr 2; omega
      rw [Array.getElem?_append_left (by simp; omega), Array.getElem?_append_right (by simp; omega)]
      rw [hidx]
      simpa using hv

theorem roomRow_ok (hr : HRel E w0 ρ H w) {w' : World} {p : Pl} {e : TypeId} {sz : Nat} {n m : Int} {cols cols2 cols' : List Col} {cur : Array Value} {news : List Value}
    {ρ1 : List Pl} {H1 : Heap} (hx1 : Ext ρ H ρ1 H1) (hl1 : ρ1.length = H1.length) (hpr : p.real = true)
    (hw : w'.heap[p.blk]? = some (.cells (cur.toList.take (p.off + n.toNat * sz) ++ news ++ cur.toList.drop (p.off + n.toNat * sz + news.length)).toArray e (0, 0)))
    (hn : 0 ≤ n) (hm : 0 ≤ m) (h0 : 0 < sz) (hnl : news.length = m.toNat * sz) (hcap : (n + m).toNat ≤ p.cap) (hcm : p.cap ≤ maxLen) (hfit : p.off + p.cap * sz ≤ cur.size)
    (hcols : catCols cols cols2 = some cols') (hcl : ∀ c ∈ cols, c.len = n.toNat) (hcl2 : ∀ c ∈ cols2, c.len = m.toNat) (hcn : cols.length = sz)
    (ho : ColsRel ρ H p sz n cols cur)
    (hne : ∀ (i f : Nat) (c : Col), i < m.toNat → cols2[f]? = some c → ∃ v, news[i * sz + f]? = some v ∧ ARel ρ H (c.at i) v) :
    ObjRel (ρ1 ++ [p]) (H1 ++ [.row e sz (n + m) cols']) w' p (.row e sz (n + m) cols') := by
  have hx := hx1.trans (Ext.push hl1 p (.row e sz (n + m) cols'))
  obtain ⟨a1, a2, a3⟩ := catCols_ok hcols
  have hnm : (n + m).toNat = n.toNat + m.toNat := by omega
  have hmul : n.toNat * sz + m.toNat * sz ≤ p.cap * sz := by rw [← Nat.add_mul]; exact Nat.mul_le_mul_right _ (by omega)
  refine ⟨⟨by omega, fun c hc => ?_, by omega, h0, hcap, hcm, by simp [hpr]⟩, fun _ => ⟨_, hw, ?_, fun i f c hi hf => ?_⟩⟩
  · obtain ⟨f, hf, rfl⟩ := List.getElem_of_mem hc
    obtain ⟨c1, d1, e1, e2, e3⟩ := a3 f _ (List.getElem?_eq_getElem hf)
    rw [(catCol_ok e3).1, hcl c1 (List.mem_of_getElem? e1), hcl2 d1 (List.mem_of_getElem? e2), hnm]
  · simp; omega
  · obtain ⟨c1, d1, e1, e2, e3⟩ := a3 f c hf
    have hfs : f < sz := by rw [← hcn]; exact (List.getElem?_eq_some_iff.1 e1).1
    have hc1 := hcl c1 (List.mem_of_getElem? e1)
    rw [(catCol_ok e3).2 i, hc1]
    by_cases hlt : i < n.toNat
    · rw [if_pos hlt]
      obtain ⟨v, hv, hva⟩ := ho i f c1 hlt e1
      refine ⟨v, ?_, hva.ext hx⟩
      have hlt2 : i * sz + f < n.toNat * sz := by
        have : (i + 1) * sz ≤ n.toNat * sz := Nat.mul_le_mul_right _ hlt
        rw [Nat.add_mul] at this; omega
      rw [List.getElem?_toArray, List.append_assoc, List.getElem?_append_left (by simp; omega), List.getElem?_take, if_pos (by omega)]
      simpa using hv
    · rw [if_neg hlt]
      obtain ⟨v, hv, hva⟩ := hne (i - n.toNat) f d1 (by omega) e2
      refine ⟨v, ?_, hva.ext hx⟩
      have hb : (i - n.toNat) * sz + f < news.length := (List.getElem?_eq_some_iff.1 hv).1
      have hidx : p.off + i * sz + f = (p.off + n.toNat * sz) + ((i - n.toNat) * sz + f) := by
        have : i * sz = n.toNat * sz + (i - n.toNat) * sz := by rw [← Nat.add_mul]; congr 1; omega
        omega
      have hta : (cur.toList.take (p.off + n.toNat * sz)).length = p.off + n.toNat * sz := by simp; omega
      rw [List.getElem?_toArray, List.append_assoc, List.getElem?_append_right (by omega), hta, List.getElem?_append_left (by omega)]
      rw [show p.off + i * sz + f - (p.off + n.toNat * sz) = (i - n.toNat) * sz + f by omega]
      exact hv

theorem catCol_empty {c d x : Col} (h : catCol c d = some x) (hc : c.len = 0) : x = d := by
  unfold catCol at h
  split at h
  · rename_i k l k' l'
    have : l = [] := List.eq_nil_of_length_eq_zero hc
    subst this
    by_cases hkk : k = k'
    · subst hkk; simp at h; exact h.symm
    · simp [hkk] at h
  all_goals first
    | (cases h; done)
    | (rename_i l l'
       have : l = [] := List.eq_nil_of_length_eq_zero hc
       subst this
       simp at h; exact h.symm)
theorem catCols_empty : ∀ {cs ds xs : List Col}, catCols cs ds = some xs → (∀ c ∈ cs, c.len = 0) → xs = ds
  | [], [], xs, h, _ => by simp only [catCols, Option.some.injEq] at h; exact h.symm
  | c :: cs, d :: ds, xs, h, hl => by
    simp only [catCols] at h
    split at h
    · rename_i x1 xs1 h1 h2
      cases h
      rw [catCol_empty h1 (hl c (by simp)), catCols_empty h2 fun c hc => hl c (by simp [hc])]
    · cases h
  | [], d :: ds, xs, h, _ => by simp [catCols] at h
  | c :: cs, [], xs, h, _ => by simp [catCols] at h

/-- nil, appended to. -/
theorem appendNil_ok {tl : Tab} (htl : TabOk P tl) (hr : HRel E w0 ρ H w) {t t2 ty e : TypeId} {ti : TI} (hk : kd tl t = some (.sl e)) (hti : lk tl e = some ti) {x : V} {u : Value} {m : Int} {cols2 : List Col} {c : Bool}
    (h : srcOf H tl t2 ti.size x = some (m, cols2, c)) (hc : c = true) (hx : VRel ρ H x u) (hz : ti.zero.length = ti.size) (hl2 : cols2.length = ti.size) (h1 : 1 ≤ ti.size) (hp : cols2.all Col.plain = true)
    (hb : m * (ti.bytes : Int) ≤ 140737488355328) (hm63 : m ≤ 4611686018427387904) {ρ1 : List Pl} {H1 : Heap} (hx1 : Ext ρ H ρ1 H1) (hr1 : HRel E w0 ρ1 H1 w) (oa : Option Addr) :
    ∃ u' w' ρ', (Builtin.append_ #[t, t2] ty #[.slice oa 0 0, u]).run P w = .ok u' w' ∧ Ext ρ H ρ' (H1 ++ [.row e ti.size m cols2]) ∧ HRel E w0 ρ' (H1 ++ [.row e ti.size m cols2]) w' ∧ VRel ρ' (H1 ++ [.row e ti.size m cols2]) (.at (.sl H1.length ti.size none m)) u' := by
  have hu : P.underlying t = some (.slice e) := kd_ok htl hk
  obtain ⟨i, z, hi, hsz, hby, hzz, hzc, _⟩ := (htl e ti hti).parts
  obtain ⟨hm0, hcl2, news, hsrc, hnews⟩ := srcOf_ok htl hr h hc hx hp hl2
  have hsrc' := hsrc
  obtain ⟨⟨d, hd, hdi⟩, hnl, hone, hrun⟩ := hsrc'
  rw [← hsz] at hsrc
  have hlen1 := hr1.len
  by_cases hmz : m.toNat = 0
  · have hm : m = 0 := by omega
    subst hm
    have hn : news = [] := List.eq_nil_of_length_eq_zero (by simpa using hnl)
    subst hn
    have hzd : (match d with | .int _ => true | _ => false) = false := by cases d <;> first | rfl | exact absurd rfl (hdi _)
    obtain ⟨hlen, hf⟩ := hrun w rfl
    have hf' : (Builtin.firstCells ti.size 0 u).run P w = .ok #[] w := by simpa using hf
    refine ⟨.slice oa 0 0, w, ρ1 ++ [⟨0, 0, 0, false⟩], ?_, hx1.trans (Ext.push hlen1 _ _), hr1.virtual rfl ⟨⟨by omega, hcl2, hl2, by omega, by simp, by simp [maxLen], by simp⟩, by simp⟩, .inr ⟨⟨0, 0, 0, false⟩, by rw [← hlen1]; simp, by simp, by simp, by simp, .inr ⟨rfl, rfl, oa, rfl⟩⟩⟩
    cases oa <;> simp [Builtin.append_, run_underlying hu, run_underlying hd, sizeOf, typeInfo, hi, hzd, hlen, hsz, hf', storeCells]
  · have hmz' : 0 < m.toNat := by omega
    have hbN : m.toNat * ti.bytes ≤ 140737488355328 := by
      have : ((m.toNat * ti.bytes : Nat) : Int) ≤ 140737488355328 := by rw [Int.natCast_mul, Int.toNat_of_nonneg hm0]; exact hb
      omega
    have hg := append_grow (P := P) (w := w) t t2 ty e i z hu hi hzz oa 0 0 [] (by simp) (fun w' _ => by cases oa <;> simp [Builtin.firstCells, loadCells, loadCellsFrom]) hsrc (by omega) (by omega) (by rw [hby]; simpa using growslice_fits (by omega) hbN)
    have hcge := grownCap_ge w (0 + m.toNat) 0 e
    have hcle := grownCap_le_maxLen w (0 + m.toNat) 0 e (by simp only [maxLen]; omega)
    simp only [Nat.zero_add] at hg hcge hcle
    refine ⟨_, _, ρ1 ++ [⟨w.heap.size, 0, grownCap w m.toNat 0 e, true⟩], hg, hx1.trans (Ext.push hlen1 _ _), ?_, .inr ⟨⟨w.heap.size, 0, grownCap w m.toNat 0 e, true⟩, by rw [← hlen1]; simp, by simp, hm0, by simpa using hcge, .inl ⟨rfl, _, by simp; rfl, fun _ => by simp [Pl.addr]⟩⟩⟩
    have hcz : z.cells.size = ti.size := by rw [← Array.length_toList, hzc]; exact hz
    have hcat : catCols (cols2.map fun c => match c with | .int k _ => Col.int k [] | .bool _ => .bool [] | .str _ => .str [] | .ats _ => .ats []) cols2 = some cols2 := by
      clear h hx hp hl2 hcl2 hnews hz h1 hnl
      induction cols2 with
      | nil => rfl
      | cons c cs ih => cases c <;> simp [catCols, catCol, ih]
    have ho := newRow_ok (w' := w.drew.alloc (.cells ((([] : List Value)).toArray ++ news.toArray ++ Builtin.zeroCells z.cells (grownCap w m.toNat 0 e - m.toNat)) e)) (n := 0) (olds := []) hr hx1 hlen1 (heap_alloc_new w.drew _) (by omega) hm0 h1 (by simp) hnl (by simpa using hcge) hcle (by rw [size_zeroCells, hcz]; simp) hcat (by intro c hc; simp at hc; obtain ⟨c', _, rfl⟩ := hc; cases c' <;> rfl) hcl2 (by simpa using hl2) (fun i f c hi => by simp at hi) hnews
    simp only [Int.zero_add] at ho
    exact hr1.push rfl rfl rfl (by simp) (fun k hk => heap_alloc_old w.drew _ k hk) (fun _ => Nat.le_refl _) ho

theorem eAppend_ok {tl : Tab} (htl : TabOk P tl) (hr : HRel E w0 ρ H w) {t t2 ty : TypeId} {s x v : V} {q u : Value} {H' : Heap} {c : Bool} (h : eAppend H tl t t2 s x = some (v, H', c)) (hc : c = true) (hs : VRel ρ H s q) (hx : VRel ρ H x u) :
    EOk P E w0 w ρ H (Builtin.append_ #[t, t2] ty #[q, u]) v H' := by
  unfold eAppend at h
  split at h
  · rename_i e hk
    have hu : P.underlying t = some (.slice e) := kd_ok htl hk
    split at h
    · rename_i ti id sz len hti
      split at h
      · rename_i e' sz2 n cols m cols2 c2 hid hsrc0
        split at h
        · rename_i cols' hcat
          cases hb : (Nat.beq sz sz2 && Nat.beq ti.size sz && Nat.beq e e' && Nat.beq ti.zero.length sz && cols2.all Col.plain) with
          | false => rw [hb] at h; cases h
          | true =>
            rw [hb] at h
            cases h
            simp only [Bool.and_eq_true] at hb
            obtain ⟨⟨⟨⟨b1, b2⟩, b3⟩, b4⟩, hp⟩ := hb
            have b1 := Nat.eq_of_beq_eq_true b1
            have b2 := Nat.eq_of_beq_eq_true b2
            have b3 := Nat.eq_of_beq_eq_true b3
            have b4 := Nat.eq_of_beq_eq_true b4
            subst b1 b3
            subst b2
            simp only [Bool.and_eq_true, decide_eq_true_eq] at hc
            obtain ⟨⟨hlenn, hc2⟩, hbytes, h63⟩ := hc
            subst hlenn
            obtain ⟨p, hpl, hok, hreal⟩ := hr.at hid
            have hok' := hok
            obtain ⟨hn, hcl, hcn, hs0, hnc, hcm, hv⟩ := hok'
            obtain ⟨a1, a2, _⟩ := catCols_ok hcat
            have hl2 : cols2.length = ti.size := by omega
            obtain ⟨i, z, hi, hsz, hby, hzz, hzc, _⟩ := (htl e ti hti).parts
            obtain ⟨hm0, hcl2, news, hsrc, hnews⟩ := srcOf_ok htl hr hsrc0 hc2 hx hp hl2
            have hnl : news.length = m.toNat * ti.size := hsrc.2.1
            have hsrcx := hsrc
            rw [← hsz] at hsrc
            obtain ⟨p', hp', s0, s1, s2, hsl⟩ := hs.resolve_left (by rw [Gone, hid]; simp)
            rw [hpl] at hp'; cases hp'
            simp only [Option.getD_none, Int.toNat_zero, Nat.zero_add, Nat.sub_zero, Nat.zero_mul] at s2 hsl
            have hnm : (len + m).toNat = len.toNat + m.toNat := by omega
            have hbN : (len.toNat + m.toNat) * ti.bytes ≤ 140737488355328 := by
              have : (((len.toNat + m.toNat) * ti.bytes : Nat) : Int) ≤ 140737488355328 := by rw [Int.natCast_mul, Int.natCast_add, Int.toNat_of_nonneg hm0, Int.toNat_of_nonneg hn]; exact hbytes
              omega
            have hxk : Ext ρ H ρ (H.set id .dead) := Ext.kill
            have hlen := hr.len
            have hcz : z.cells.size = ti.size := by rw [← Array.length_toList, hzc]; exact b4
            rcases hsl with ⟨hrl, a, rfl, ha⟩ | ⟨hrl, hr2, oa, rfl⟩
            · obtain ⟨cur, hh, hfit, hcols⟩ := hreal hrl
              by_cases hroom : len.toNat + m.toNat ≤ p.cap
              · by_cases hcap0 : p.cap = 0
                · have hn0 : len.toNat = 0 := by omega
                  have hmz : m.toNat = 0 := by omega
                  have hnn : news = [] := List.eq_nil_of_length_eq_zero (by rw [hnl, hmz]; simp)
                  subst hnn
                  obtain ⟨⟨d, hd, hdi⟩, _, _, hrun⟩ := hsrcx
                  have hzd : (match d with | .int _ => true | _ => false) = false := by cases d <;> first | rfl | exact absurd rfl (hdi _)
                  obtain ⟨hl', hf⟩ := hrun w rfl
                  rw [hmz] at hl' hf
                  have ho := roomRow_ok (w' := w) (news := []) (n := len) (m := m) hr hxk (by simp [hlen]) hrl (by simpa [List.take_append_drop] using hh) hn hm0 hs0 (by simp [hmz]) (by omega) hcm hfit hcat hcl hcl2 hcn hcols hnews
                  refine ⟨.slice (some a) 0 0, w, ρ ++ [p], ?_, hxk.trans (Ext.push (by simp [hlen]) _ _), hr.take hpl hid rfl hrl rfl rfl rfl rfl rfl (fun _ _ => rfl) ho, .inr ⟨p, by rw [← hlen]; simp, by simp, by omega, by simp; omega, .inl ⟨hrl, a, by simp [hnm, hn0, hmz, hcap0], fun hne => absurd hcap0 (by simpa using hne)⟩⟩⟩
                  simp [Builtin.append_, run_underlying hu, run_underlying hd, sizeOf, typeInfo, hi, hzd, hl', hn0, hcap0, hsz, hf, storeCells]
                · have haa := ha hcap0
                  subst haa
                  have hmul : len.toNat * ti.size + m.toNat * ti.size ≤ p.cap * ti.size := by rw [← Nat.add_mul]; exact Nat.mul_le_mul_right _ hroom
                  have hrun := append_room (P := P) (w := w) t t2 ty e i hu hi p.blk p.off len.toNat p.cap cur hh hsrc hroom (by rw [hsz]; omega)
                  rw [hsz] at hrun
                  have ho := roomRow_ok (w' := w.setRow p.blk (cur.toList.take (p.off + len.toNat * ti.size) ++ news ++ cur.toList.drop (p.off + len.toNat * ti.size + news.length)).toArray) (news := news) (n := len) (m := m) hr hxk (by simp [hlen]) hrl (setRow_heap w p.blk cur _ e (0, 0) hh) hn hm0 hs0 hnl (by omega) hcm hfit hcat hcl hcl2 hcn hcols hnews
                  refine ⟨.slice (some (p.addr 0)) (len.toNat + m.toNat) p.cap, w.setRow p.blk (cur.toList.take (p.off + len.toNat * ti.size) ++ news ++ cur.toList.drop (p.off + len.toNat * ti.size + news.length)).toArray, ρ ++ [p], by rw [show p.addr 0 = ⟨p.blk, p.off, none⟩ from rfl]; exact hrun, hxk.trans (Ext.push (by simp [hlen]) _ _), hr.take hpl hid rfl hrl rfl rfl rfl rfl (by simp) (fun k hk => setRow_other w _ k _ hk) ho, .inr ⟨p, by rw [← hlen]; simp, by simp, by omega, by simp; omega, .inl ⟨hrl, p.addr 0, by simp [hnm], fun _ => by simp⟩⟩⟩
              · have holds : ∀ w' : World, w'.heap = w.heap → (Builtin.firstCells i.size len.toNat (.slice (some a) len.toNat p.cap)).run P w' = .ok (rowVals cur p.off (len.toNat * ti.size)).toArray w' := by
                  intro w' hw
                  by_cases hcap0 : p.cap = 0
                  · have hn0 : len.toNat = 0 := by omega
                    simp [Builtin.firstCells, hn0, loadCells, loadCellsFrom, rowVals]
                  · have haa := ha hcap0
                    subst haa
                    rw [hsz]
                    exact rowVals_run hh (by have : len.toNat * ti.size ≤ p.cap * ti.size := Nat.mul_le_mul_right _ hnc
                                             omega) hw
                have hfitn : p.off + len.toNat * ti.size ≤ cur.size := by
                  have : len.toNat * ti.size ≤ p.cap * ti.size := Nat.mul_le_mul_right _ hnc
                  omega
                have hg := append_grow (P := P) (w := w) t t2 ty e i z hu hi hzz (some a) len.toNat p.cap (rowVals cur p.off (len.toNat * ti.size)) (by rw [hsz]; simp [rowVals]) holds hsrc (by omega) (by omega) (by rw [hby]; exact growslice_fits (by omega) hbN)
                have hcge := grownCap_ge w (len.toNat + m.toNat) p.cap e
                have hcle := grownCap_le_maxLen w (len.toNat + m.toNat) p.cap e (by simp only [maxLen]; omega)
                have ho := newRow_ok (w' := w.drew.alloc (.cells ((rowVals cur p.off (len.toNat * ti.size)).toArray ++ news.toArray ++ Builtin.zeroCells z.cells (grownCap w (len.toNat + m.toNat) p.cap e - (len.toNat + m.toNat))) e)) (n := len) (m := m) (cap := grownCap w (len.toNat + m.toNat) p.cap e) hr hxk (by simp [hlen]) (heap_alloc_new w.drew _) hn hm0 hs0 (by simp [rowVals]) hnl (by omega) hcle (by rw [size_zeroCells, hcz, hnm]) hcat hcl hcl2 hcn
                  (fun i f c hi hf => by
                    obtain ⟨v, hv1, hv2⟩ := hcols i f c hi hf
                    have hfs : f < ti.size := by rw [← hcn]; exact (List.getElem?_eq_some_iff.1 hf).1
                    have hlt : i * ti.size + f < len.toNat * ti.size := by
                      have : (i + 1) * ti.size ≤ len.toNat * ti.size := Nat.mul_le_mul_right _ hi
                      rw [Nat.add_mul] at this; omega
                    exact ⟨v, by rw [rowVals_at hlt hfitn, ← Nat.add_assoc]; exact hv1, hv2⟩) hnews
                refine ⟨_, _, ρ ++ [⟨w.heap.size, 0, grownCap w (len.toNat + m.toNat) p.cap e, true⟩], hg, hxk.trans (Ext.push (by simp [hlen]) _ _), ?_, .inr ⟨⟨w.heap.size, 0, grownCap w (len.toNat + m.toNat) p.cap e, true⟩, by rw [← hlen]; simp, by simp, by omega, by simp; omega, .inl ⟨rfl, _, by simp [hnm]; rfl, fun _ => by simp [Pl.addr]⟩⟩⟩
                exact (hr.kill id).push rfl rfl rfl (by simp) (fun k hk => heap_alloc_old w.drew _ k hk) (fun _ => Nat.le_refl _) ho
            · have hn0 : len = 0 := by omega
              subst hn0
              have hcc : cols' = cols2 := catCols_empty hcat fun c hc => by simpa using hcl c hc
              subst hcc
              have := appendNil_ok (ty := ty) htl hr hk hti hsrc0 hc2 hx b4 hl2 hs0 hp (by simpa using hbytes) (by omega) hxk (hr.kill id) oa
              simpa [EOk] using this
        · cases h
      · cases h
    · rename_i ti hti
      split at h
      · rename_i m cols2 c2 hsrc0
        cases hb : (Nat.beq ti.zero.length ti.size && Nat.beq cols2.length ti.size && Nat.ble 1 ti.size && cols2.all Col.plain) with
        | false => rw [hb] at h; cases h
        | true =>
          rw [hb] at h
          cases h
          simp only [Bool.and_eq_true] at hb
          obtain ⟨⟨⟨b1, b2⟩, b3⟩, hp⟩ := hb
          simp only [Bool.and_eq_true, decide_eq_true_eq] at hc
          obtain ⟨hc2, hbytes, h63⟩ := hc
          simp only [VRel, ARel] at hs
          subst hs
          exact appendNil_ok (ty := ty) htl hr hk hti hsrc0 hc2 hx (Nat.eq_of_beq_eq_true b1) (Nat.eq_of_beq_eq_true b2) (Nat.le_of_ble_eq_true b3) hp hbytes h63 (Ext.refl _ _) hr none
      · cases h
    · cases h
  · cases h
  · cases h
end
end Go.Sx

namespace Go.Sx
open Go

/-- Explicit cells to columns. -/
def intsOf (k : IntKind) : List A → Option (List Int)
  | [] => some []
  | .raw (.int k' n) :: r => bif decide (k = k') then (match intsOf k r with | some l => some (n :: l) | none => none) else none
  | _ => none
def boolsOf : List A → Option (List Bool)
  | [] => some []
  | .raw (.bool b) :: r => match boolsOf r with | some l => some (b :: l) | none => none
  | _ => none
def strsOf : List A → Option (List ByteArray)
  | [] => some []
  | .raw (.string b) :: r => match strsOf r with | some l => some (b :: l) | none => none
  | _ => none
def colOf : List A → Option Col
  | .raw (.int k n) :: r => match intsOf k r with | some l => some (.int k (n :: l)) | none => none
  | .raw (.bool b) :: r => match boolsOf r with | some l => some (.bool (b :: l)) | none => none
  | .raw (.string b) :: r => match strsOf r with | some l => some (.str (b :: l)) | none => none
  | l => some (.ats l)
/-- The f-th cell of each part. -/
def nthCells : List (List A) → Nat → Option (List A)
  | [], _ => some []
  | as :: r, f => match as[f]?, nthCells r f with | some a, some l => some (a :: l) | _, _ => none
def colsOf (parts : List (List A)) : Nat → Nat → Option (List Col)
  | 0, _ => some []
  | n + 1, f => match nthCells parts f with
    | some l => match colOf l, colsOf parts n (f + 1) with | some c, some cs => some (c :: cs) | _, _ => none
    | none => none
def asOfs : List V → Option (List (List A))
  | [] => some []
  | x :: r => match asOf x, asOfs r with | some as, some l => some (as :: l) | _, _ => none
def inOrder {α : Type} : List (Nat × α) → Nat → Bool
  | [], _ => true
  | (i, _) :: r, k => Nat.beq i k && inOrder r (k + 1)

def eBuild (H : Heap) (tl : Tab) (t : TypeId) (len : Nat) (idx : List (Nat × V)) : Option (V × Heap) :=
  match kd tl t with
  | some (.sl e) =>
    match lk tl e, asOfs (idx.map (·.2)) with
    | some ti, some parts =>
      bif inOrder idx 0 && Nat.beq idx.length len && Nat.ble 1 ti.size && Nat.beq ti.zero.length ti.size && parts.all (fun as => Nat.beq as.length ti.size && as.all (okA H)) && Nat.ble (len * ti.size) 16777216 then
        match colsOf parts ti.size 0 with
        | some cols => some (.at (.sl H.length ti.size none (len : Int)), H ++ [.row e ti.size (len : Int) cols])
        | none => none
      else none
    | _, _ => none
  | _ => none

section
variable {P : Program} {E : Nat → Prop} {w0 w : World} {ρ : List Pl} {H : Heap}

theorem intsOf_at {k : IntKind} : ∀ {as : List A} {l : List Int}, intsOf k as = some l → l.length = as.length ∧ ∀ (i : Nat), i < as.length → as[i]? = some (.raw (.int k (l.getD i 0)))
  | [], l, h => by simp only [intsOf, Option.some.injEq] at h; subst h; exact ⟨rfl, fun i hi => by simp at hi⟩
  | a :: as, l, h => by
    unfold intsOf at h
    split at h
    · rename_i e; cases e
    · rename_i k' n r e
      cases e
      by_cases hk : k = k'
      · subst hk
        simp only [decide_true, cond_true] at h
        split at h
        · rename_i l' hl
          cases h
          obtain ⟨h1, h2⟩ := intsOf_at hl
          refine ⟨by simp [h1], fun i hi => ?_⟩
          match i with
          | 0 => rfl
          | i + 1 => simpa using h2 i (by simpa using hi)
        · cases h
      · simp [hk] at h
    · cases h
theorem boolsOf_at : ∀ {as : List A} {l : List Bool}, boolsOf as = some l → l.length = as.length ∧ ∀ (i : Nat), i < as.length → as[i]? = some (.raw (.bool (l.getD i false)))
  | [], l, h => by simp only [boolsOf, Option.some.injEq] at h; subst h; exact ⟨rfl, fun i hi => by simp at hi⟩
  | a :: as, l, h => by
    unfold boolsOf at h
    split at h
    · rename_i e; cases e
    · rename_i b r e
      cases e
      split at h
      · rename_i l' hl
        cases h
        obtain ⟨h1, h2⟩ := boolsOf_at hl
        refine ⟨by simp [h1], fun i hi => ?_⟩
        match i with
        | 0 => rfl
        | i + 1 => simpa using h2 i (by simpa using hi)
      · cases h
    · cases h
theorem strsOf_at : ∀ {as : List A} {l : List ByteArray}, strsOf as = some l → l.length = as.length ∧ ∀ (i : Nat), i < as.length → as[i]? = some (.raw (.string (l.getD i ByteArray.empty)))
  | [], l, h => by simp only [strsOf, Option.some.injEq] at h; subst h; exact ⟨rfl, fun i hi => by simp at hi⟩
  | a :: as, l, h => by
    unfold strsOf at h
    split at h
    · rename_i e; cases e
    · rename_i b r e
      cases e
      split at h
      · rename_i l' hl
        cases h
        obtain ⟨h1, h2⟩ := strsOf_at hl
        refine ⟨by simp [h1], fun i hi => ?_⟩
        match i with
        | 0 => rfl
        | i + 1 => simpa using h2 i (by simpa using hi)
      · cases h
    · cases h
theorem colOf_at {as : List A} {c : Col} (h : colOf as = some c) : c.len = as.length ∧ ∀ (i : Nat) (a : A), as[i]? = some a → c.at i = a := by
  unfold colOf at h
  split at h
  · rename_i k n r
    split at h
    · rename_i l hl
      cases h
      obtain ⟨h1, h2⟩ := intsOf_at hl
      refine ⟨by simp [Col.len, h1], fun i a ha => ?_⟩
      match i with
      | 0 => simp at ha; subst ha; rfl
      | i + 1 =>
        simp at ha
        have := h2 i (List.getElem?_eq_some_iff.1 ha).1
        rw [ha] at this; cases this; simp [Col.at]
    · cases h
  · rename_i b r
    split at h
    · rename_i l hl
      cases h
      obtain ⟨h1, h2⟩ := boolsOf_at hl
      refine ⟨by simp [Col.len, h1], fun i a ha => ?_⟩
      match i with
      | 0 => simp at ha; subst ha; rfl
      | i + 1 =>
        simp at ha
        have := h2 i (List.getElem?_eq_some_iff.1 ha).1
        rw [ha] at this; cases this; simp [Col.at]
    · cases h
  · rename_i b r
    split at h
    · rename_i l hl
      cases h
      obtain ⟨h1, h2⟩ := strsOf_at hl
      refine ⟨by simp [Col.len, h1], fun i a ha => ?_⟩
      match i with
      | 0 => simp at ha; subst ha; rfl
      | i + 1 =>
        simp at ha
        have := h2 i (List.getElem?_eq_some_iff.1 ha).1
        rw [ha] at this; cases this; simp [Col.at]
    · cases h
  · cases h
    exact ⟨rfl, fun i a ha => by simp [Col.at, List.getD_eq_getElem?_getD, ha]⟩
theorem nthCells_at : ∀ {parts : List (List A)} {f : Nat} {l : List A}, nthCells parts f = some l → l.length = parts.length ∧ ∀ (i : Nat) (as : List A), parts[i]? = some as → ∃ a, as[f]? = some a ∧ l[i]? = some a
  | [], f, l, h => by simp only [nthCells, Option.some.injEq] at h; subst h; exact ⟨rfl, fun i as ha => by simp at ha⟩
  | p :: r, f, l, h => by
    simp only [nthCells] at h
    split at h
    · rename_i a l' ha hl
      cases h
      obtain ⟨h1, h2⟩ := nthCells_at hl
      refine ⟨by simp [h1], fun i as has => ?_⟩
      match i with
      | 0 => simp at has; subst has; exact ⟨a, ha, rfl⟩
      | i + 1 => simp at has; obtain ⟨b, hb, hlb⟩ := h2 i as has; exact ⟨b, hb, by simpa using hlb⟩
    · cases h
theorem colsOf_at {parts : List (List A)} : ∀ {n f : Nat} {cs : List Col}, colsOf parts n f = some cs → cs.length = n ∧ ∀ (g : Nat) (c : Col), cs[g]? = some c → c.len = parts.length ∧ ∀ (i : Nat) (as : List A), parts[i]? = some as → as[f + g]? = some (c.at i)
  | 0, f, cs, h => by simp only [colsOf, Option.some.injEq] at h; subst h; exact ⟨rfl, fun g c hg => by simp at hg⟩
  | n + 1, f, cs, h => by
    simp only [colsOf] at h
    split at h
    · rename_i l hl
      split at h
      · rename_i c0 cs0 h1 h2
        cases h
        obtain ⟨a1, a2⟩ := colsOf_at h2
        obtain ⟨b1, b2⟩ := nthCells_at hl
        obtain ⟨d1, d2⟩ := colOf_at h1
        refine ⟨by simp [a1], fun g c hg => ?_⟩
        match g with
        | 0 =>
          simp at hg; subst hg
          refine ⟨by rw [d1, b1], fun i as has => ?_⟩
          obtain ⟨a, ha, hla⟩ := b2 i as has
          rw [d2 i a hla]; simpa using ha
        | g + 1 =>
          simp at hg
          obtain ⟨e1, e2⟩ := a2 g c hg
          refine ⟨e1, fun i as has => ?_⟩
          have := e2 i as has
          rwa [show f + (g + 1) = f + 1 + g by omega]
      · cases h
    · cases h

/-- The model's fill, over parts in order. -/
theorem foldl_set (v : List Value) : ∀ (k o : Nat) (cs : Array Value), o + k + v.length ≤ cs.size →
    ∀ r, (v.zipIdx k).foldl (fun (cs : Array Value) (x : Value × Nat) => cs.setIfInBounds (o + x.2) x.1) cs = r → r.size = cs.size ∧ ∀ j, r[j]? = if o + k ≤ j ∧ j < o + k + v.length then v[j - (o + k)]? else cs[j]? := by
  induction v with
  | nil => intro k o cs h r hr; simp at hr; subst hr; exact ⟨rfl, fun j => by rw [if_neg (by simp)]⟩
  | cons x v ih =>
    intro k o cs h r hr
    simp only [List.zipIdx_cons, List.foldl_cons] at hr
    simp only [List.length_cons] at h
    obtain ⟨h1, h2⟩ := ih (k + 1) o _ (by simp; omega) r hr
    refine ⟨by simpa using h1, fun j => ?_⟩
    rw [h2 j]
    simp only [List.length_cons]
    by_cases hj : j = o + k
    · subst hj
      rw [if_neg (by omega), if_pos (by omega)]
      simp [Array.getElem?_setIfInBounds, show o + k < cs.size by omega]
    · by_cases hin : o + k ≤ j ∧ j < o + k + (v.length + 1)
      · rw [if_pos (by omega), if_pos hin]
        rw [show j - (o + k) = (j - (o + (k + 1))) + 1 by omega]
        simp
      · rw [if_neg (by omega), if_neg hin]
        simp [Array.getElem?_setIfInBounds, Ne.symm hj]

theorem fill_order {size : Nat} (h0 : 0 < size) : ∀ (parts : List (Nat × Value)) (k : Nat) (cs : Array Value), inOrder parts k = true → (∀ x ∈ parts, x.2.cells.size = size) → (k + parts.length) * size ≤ cs.size →
    ∃ cs', Instr.fill (fun i => some (i * size, size)) cs parts = some cs' ∧ cs'.size = cs.size ∧ (∀ j, j < k * size → cs'[j]? = cs[j]?) ∧
      ∀ (i f : Nat) (x : Nat × Value), parts[i]? = some x → f < size → cs'[(k + i) * size + f]? = x.2.cells[f]?
  | [], k, cs, _, _, _ => ⟨cs, rfl, rfl, fun _ _ => rfl, fun i f x hx => by simp at hx⟩
  | (i, v) :: rest, k, cs, ho, hs, hl => by
    simp only [inOrder, Bool.and_eq_true] at ho
    have hi := Nat.eq_of_beq_eq_true ho.1
    subst hi
    have hv : v.cells.size = size := hs (i, v) (by simp)
    have hmul : (i + 1) * size = i * size + size := by rw [Nat.add_mul, Nat.one_mul]
    have hle : i * size + v.cells.size ≤ cs.size := by
      rw [hv]
      have : (i + 1) * size ≤ (i + (rest.length + 1)) * size := Nat.mul_le_mul_right _ (by omega)
      simp only [List.length_cons] at hl
      omega
    generalize hcs1 : v.cells.zipIdx.foldl (fun (cs : Array Value) (x : Value × Nat) => cs.setIfInBounds (i * size + x.2) x.1) cs = cs1
    have hcs1' : (v.cells.toList.zipIdx 0).foldl (fun (cs : Array Value) (x : Value × Nat) => cs.setIfInBounds (i * size + x.2) x.1) cs = cs1 := by
      rw [← hcs1, ← Array.foldl_toList]
      simp
    obtain ⟨g1, g2⟩ := foldl_set v.cells.toList 0 (i * size) cs (by simpa using hle) cs1 hcs1'
    obtain ⟨cs', h1, h2, h3, h4⟩ := fill_order h0 rest (i + 1) cs1 ho.2 (fun x hx => hs x (by simp [hx])) (by rw [g1]; simp only [List.length_cons] at hl; rwa [show i + 1 + rest.length = i + (rest.length + 1) by omega])
    refine ⟨cs', ?_, h2.trans g1, fun j hj => ?_, fun n f x hx hf => ?_⟩
    · simp only [Instr.fill]
      rw [if_neg (by rw [hv]; simp; omega)]
      exact (congrArg (fun z => Instr.fill (fun i => some (i * size, size)) z rest) hcs1).trans h1
    · rw [h3 j (by omega), g2 j, if_neg (by omega)]
    · match n with
      | 0 =>
        simp at hx; subst hx
        rw [Nat.add_zero, h3 _ (by omega), g2, if_pos (by simp [hv]; omega)]
        simp
      | n + 1 =>
        simp at hx
        rw [show i + (n + 1) = i + 1 + n by omega]
        exact h4 n f x hx hf

theorem asOfs_at : ∀ {xs : List V} {parts : List (List A)}, asOfs xs = some parts → parts.length = xs.length ∧ ∀ (i : Nat) (as : List A), parts[i]? = some as → ∃ x, xs[i]? = some x ∧ asOf x = some as
  | [], parts, h => by simp only [asOfs, Option.some.injEq] at h; subst h; exact ⟨rfl, fun i as ha => by simp at ha⟩
  | x :: xs, parts, h => by
    simp only [asOfs] at h
    split at h
    · rename_i as l h1 h2
      cases h
      obtain ⟨a1, a2⟩ := asOfs_at h2
      refine ⟨by simp [a1], fun i as' ha => ?_⟩
      match i with
      | 0 => simp at ha; subst ha; exact ⟨x, rfl, h1⟩
      | i + 1 => simp at ha; obtain ⟨y, hy, hy2⟩ := a2 i as' ha; exact ⟨y, by simpa using hy, hy2⟩
    · cases h

theorem VsRel.at_ : ∀ {xs : List V} {us : List Value}, VsRel ρ H xs us → ∀ (i : Nat) (x : V), xs[i]? = some x → ∃ u, us[i]? = some u ∧ VRel ρ H x u
  | _, _, .nil, i, x, h => by simp at h
  | _, _, .cons h hs, i, x, hx => by
    match i with
    | 0 => simp at hx; subst hx; exact ⟨_, rfl, h⟩
    | i + 1 => simp at hx; obtain ⟨u, hu, hr⟩ := hs.at_ i x hx; exact ⟨u, by simpa using hu, hr⟩
theorem VsRel.length : ∀ {xs : List V} {us : List Value}, VsRel ρ H xs us → us.length = xs.length
  | _, _, .nil => rfl
  | _, _, .cons h hs => by simp [hs.length]

theorem eBuild_ok {tl : Tab} (htl : TabOk P tl) (hr : HRel E w0 ρ H w) {t : TypeId} {len : Nat} {idx : List (Nat × V)} {us : List Value} {v : V} {H' : Heap} (h : eBuild H tl t len idx = some (v, H')) (hx : VsRel ρ H (idx.map (·.2)) us) :
    EOk P E w0 w ρ H (Instr.buildSlice t len ((idx.map (·.1)).zip us).toArray) v H' := by
  unfold eBuild at h
  split at h
  · rename_i e hk
    have hu : P.underlying t = some (.slice e) := kd_ok htl hk
    split at h
    · rename_i ti parts hti hparts
      cases hb : (inOrder idx 0 && Nat.beq idx.length len && Nat.ble 1 ti.size && Nat.beq ti.zero.length ti.size && parts.all (fun as => Nat.beq as.length ti.size && as.all (okA H)) && Nat.ble (len * ti.size) 16777216) with
      | false => rw [hb] at h; cases h
      | true =>
        rw [hb] at h
        simp only [cond_true] at h
        split at h
        · rename_i cols hcols
          cases h
          simp only [Bool.and_eq_true] at hb
          obtain ⟨⟨⟨⟨⟨b1, b2⟩, b3⟩, b4⟩, b5⟩, b6⟩ := hb
          have b2 := Nat.eq_of_beq_eq_true b2
          have b3 := Nat.le_of_ble_eq_true b3
          have b4 := Nat.eq_of_beq_eq_true b4
          have b6 := Nat.le_of_ble_eq_true b6
          subst b2
          have ht := htl e ti hti
          obtain ⟨z, hz, _, hzr⟩ := ht.zero_run
          have hzs : z.cells.size = ti.size := by rw [← Array.length_toList, hz]; exact b4
          obtain ⟨p1, p2⟩ := asOfs_at hparts
          simp only [List.length_map] at p1
          have hul : us.length = idx.length := by simpa using hx.length
          have hzl : ((idx.map (·.1)).zip us).length = idx.length := by simp [hul]
          have hord : inOrder ((idx.map (·.1)).zip us) 0 = true := by
            have gen : ∀ (idx : List (Nat × V)) (us : List Value) (k : Nat), us.length = idx.length → inOrder idx k = true → inOrder ((idx.map (·.1)).zip us) k = true := by
              intro idx
              induction idx with
              | nil => intro us k _ _; rfl
              | cons x idx ih =>
                intro us k hl ho
                cases us with
                | nil => cases hl
                | cons u us =>
                  obtain ⟨a, b⟩ := x
                  simp only [inOrder, Bool.and_eq_true] at ho
                  simp only [List.map_cons, List.zip_cons_cons, inOrder, Bool.and_eq_true]
                  exact ⟨ho.1, ih us (k + 1) (by simpa using hl) ho.2⟩
            exact gen idx us 0 hul b1
          have hpart : ∀ (i : Nat) (as : List A), parts[i]? = some as → ∃ u, ((idx.map (·.1)).zip us)[i]? = some u ∧ AsRel ρ H as u.2.cells.toList ∧ u.2.cells.size = ti.size := by
            intro i as has
            obtain ⟨x, hx1, hx2⟩ := p2 i as has
            obtain ⟨u, hu1, hu2⟩ := hx.at_ i x hx1
            have hall := List.all_eq_true.1 b5 as (List.mem_of_getElem? has)
            rw [Bool.and_eq_true] at hall
            have hasl := Nat.eq_of_beq_eq_true hall.1
            obtain ⟨ha, _⟩ := asOf_rel hx2 hall.2 hu2
            simp only [List.getElem?_map, Option.map_eq_some_iff] at hx1
            obtain ⟨y, hy, _⟩ := hx1
            refine ⟨(y.1, u), by simp [List.getElem?_zip_eq_some, hy, hu1], ha, ?_⟩
            rw [← Array.length_toList, ha.1, hasl]
          have hsize : ∀ x ∈ (idx.map (·.1)).zip us, x.2.cells.size = ti.size := by
            intro x hm
            obtain ⟨i, hi, rfl⟩ := List.getElem_of_mem hm
            have hip : i < parts.length := by omega
            obtain ⟨u, hu1, _, hu3⟩ := hpart i _ (List.getElem?_eq_getElem hip)
            rw [List.getElem?_eq_getElem hi] at hu1
            cases hu1
            exact hu3
          generalize hcs0 : (Array.range (idx.length * ti.size)).map (z.cells[· % z.cells.size]!) = cs0
          have hcs0s : cs0.size = idx.length * ti.size := by rw [← hcs0]; simp
          obtain ⟨cs', f1, f2, _, f4⟩ := fill_order b3 ((idx.map (·.1)).zip us) 0 cs0 hord hsize (by rw [hzl, hcs0s]; simp)
          have hrun : (Instr.buildSlice t idx.length ((idx.map (·.1)).zip us).toArray).run P w = .ok (.slice (some ⟨w.heap.size, 0, none⟩) idx.length idx.length) (w.alloc (.cells cs' e)) := by
            have hlim : ¬ (idx.length * ti.size > 2 ^ 24) := by omega
            by_cases h00 : idx.length * ti.size = 0
            · have hi0 : idx = [] := by
                cases idx with
                | nil => rfl
                | cons a b =>
                  have : 0 < (a :: b).length * ti.size := Nat.mul_pos (by simp) b3
                  omega
              subst hi0
              have hu0 : us = [] := List.eq_nil_of_length_eq_zero (by simpa using hul)
              subst hu0
              simp [Instr.fill] at f1
              simp at hcs0
              subst hcs0
              subst f1
              simp [Instr.buildSlice, run_underlying hu, ht.size_run, Instr.fill, newRow]
              exact congrArg (fun x => w.alloc (Obj.cells x e)) (Array.ext (by simp) (fun i h1 _ => by simp at h1))
            · simp only [Instr.buildSlice, Sem.run_bind, run_underlying hu, Result.andThen_ok, ht.size_run, if_neg hlim, if_neg h00, Sem.run_ite, Sem.run_pure, hzr, Sem.run_map, hcs0, f1, newRow, run_newObj]
              rfl
          have hxp := Ext.push hr.len ⟨w.heap.size, 0, idx.length, true⟩ (.row e ti.size (idx.length : Int) cols)
          obtain ⟨c1, c2⟩ := colsOf_at hcols
          have ho : ObjRel (ρ ++ [⟨w.heap.size, 0, idx.length, true⟩]) (H ++ [.row e ti.size (idx.length : Int) cols]) (w.alloc (.cells cs' e)) ⟨w.heap.size, 0, idx.length, true⟩ (.row e ti.size (idx.length : Int) cols) := by
            refine ⟨⟨by omega, fun c hc => ?_, c1, b3, by simp, by simp [maxLen]; have : idx.length ≤ idx.length * ti.size := Nat.le_mul_of_pos_right _ b3; omega, by simp⟩, fun _ => ⟨cs', heap_alloc_new w _, ?_, fun i f c hi hf => ?_⟩⟩
            · obtain ⟨g, hg, rfl⟩ := List.getElem_of_mem hc
              rw [(c2 g _ (List.getElem?_eq_getElem hg)).1, p1]; simp
            · rw [f2, hcs0s]; simp
            · simp at hi
              have hip : i < parts.length := by omega
              have hfs : f < ti.size := by rw [← c1]; exact (List.getElem?_eq_some_iff.1 hf).1
              have hat := (c2 f c hf).2 i _ (List.getElem?_eq_getElem hip)
              obtain ⟨u, hu1, hu2, hu3⟩ := hpart i _ (List.getElem?_eq_getElem hip)
              have := f4 i f u hu1 hfs
              simp only [Nat.zero_add] at this hat ⊢
              rw [this]
              obtain ⟨y, hy, hya⟩ := hu2.get hat
              exact ⟨y, by simpa using hy, hya.ext hxp⟩
          exact ⟨_, _, _, hrun, hxp, hr.push rfl rfl rfl (by simp) (fun k hk => heap_alloc_old w _ k hk) (fun _ => Nat.le_refl _) ho, .inr ⟨⟨w.heap.size, 0, idx.length, true⟩, by rw [← hr.len]; simp, by simp, by omega, by simp, .inl ⟨rfl, _, by simp; rfl, fun _ => by simp [Pl.addr]⟩⟩⟩
        · cases h
    · cases h
  · cases h
end
end Go.Sx

namespace Go.Sx
open Go

def midx : List Int → Int → Nat
  | [], _ => 0
  | k :: ks, n => bif k == n then 0 else midx ks n + 1
def mputK (ks : List Int) (n : Int) : List Int := bif mhas ks n then ks else ks ++ [n]
def mputV {α : Type} (ks : List Int) (l : List α) (n : Int) (v : α) : List α := bif mhas ks n then l.set (midx ks n) v else l ++ [v]
def mdelK (ks : List Int) (n : Int) : List Int := bif mhas ks n then ks.eraseIdx (midx ks n) else ks
def mdelV {α : Type} (ks : List Int) (l : List α) (n : Int) : List α := bif mhas ks n then l.eraseIdx (midx ks n) else l

def eMakeMap (H : Heap) (tl : Tab) (t : TypeId) : Option (V × Heap) :=
  match kd tl t with
  | some (.map kt et) =>
    match kd tl kt, kd tl et with
    | some (.int k), some (.int k2) => some (.at (.map H.length), H ++ [.map k [] (.int k2 [])])
    | some (.int k), some .bool => some (.at (.map H.length), H ++ [.map k [] (.bool [])])
    | some (.int k), some .str => some (.at (.map H.length), H ++ [.map k [] (.str [])])
    | _, _ => none
  | _ => none
def eMapUpdate (H : Heap) (tl : Tab) (t : TypeId) (m k x : V) : Option Heap :=
  match kd tl t, m, k, x with
  | some (.map kt _), .at (.map id), .at (.raw (.int kk n)), .at (.raw y) =>
    match kd tl kt, H[id]?, y with
    | some (.int k1), some (.map k3 ks (.int k4 l)), .int k5 z =>
      bif decide (k1 = kk) && decide (k3 = kk) && decide (k4 = k5) then some (H.set id (.map k3 (mputK ks n) (.int k4 (mputV ks l n z)))) else none
    | some (.int k1), some (.map k3 ks (.bool l)), .bool z =>
      bif decide (k1 = kk) && decide (k3 = kk) then some (H.set id (.map k3 (mputK ks n) (.bool (mputV ks l n z)))) else none
    | some (.int k1), some (.map k3 ks (.str l)), .string z =>
      bif decide (k1 = kk) && decide (k3 = kk) then some (H.set id (.map k3 (mputK ks n) (.str (mputV ks l n z)))) else none
    | _, _, _ => none
  | _, _, _, _ => none
def eDelete (H : Heap) (tl : Tab) (t : TypeId) (m k : V) : Option Heap :=
  match kd tl t, m, k with
  | some (.map kt _), .at (.map id), .at (.raw (.int kk n)) =>
    match kd tl kt, H[id]? with
    | some (.int k1), some (.map k3 ks (.int k4 l)) => bif decide (k1 = kk) && decide (k3 = kk) then some (H.set id (.map k3 (mdelK ks n) (.int k4 (mdelV ks l n)))) else none
    | some (.int k1), some (.map k3 ks (.bool l)) => bif decide (k1 = kk) && decide (k3 = kk) then some (H.set id (.map k3 (mdelK ks n) (.bool (mdelV ks l n)))) else none
    | some (.int k1), some (.map k3 ks (.str l)) => bif decide (k1 = kk) && decide (k3 = kk) then some (H.set id (.map k3 (mdelK ks n) (.str (mdelV ks l n)))) else none
    | _, _ => none
  | _, _, _ => none

section
variable {P : Program} {E : Nat → Prop} {w0 w : World} {ρ : List Pl} {H : Heap}

theorem eMakeMap_ok {tl : Tab} (htl : TabOk P tl) (hr : HRel E w0 ρ H w) {t : TypeId} {v : V} {H' : Heap} (h : eMakeMap H tl t = some (v, H')) : EOk P E w0 w ρ H (Instr.makeMap t none) v H' := by
  have key : ∀ (k : IntKind) (c : Col), c.len = 0 → v = .at (.map H.length) → H' = H ++ [.map k [] c] → EOk P E w0 w ρ H (Instr.makeMap t none) v H' := by
    intro k c hc hv hH
    subst hv hH
    have hx := Ext.push hr.len ⟨w.heap.size, 0, 0, true⟩ (.map k [] c)
    refine ⟨_, w.alloc (.map #[] 0), _, by simp [Instr.makeMap], hx, hr.push rfl rfl rfl (by simp) (fun k hk => heap_alloc_old w _ k hk) (fun _ => Nat.le_refl _) ⟨rfl, by simpa using hc, #[], 0, heap_alloc_new w _, by simp, fun i e he => by simp at he, fun i j e f he => by simp at he⟩, .inr ⟨⟨w.heap.size, 0, 0, true⟩, by rw [← hr.len]; simp, rfl⟩⟩
  unfold eMakeMap at h
  split at h
  · split at h
    · cases h; exact key _ _ rfl rfl rfl
    · cases h; exact key _ _ rfl rfl rfl
    · cases h; exact key _ _ rfl rfl rfl
    · cases h
  · cases h

theorem findNow_idx {kk : IntKind} {n : Int} : ∀ (es : List MapEntry) (ks : List Int) (j : Nat), es.length = ks.length → (∀ (i : Nat) (e : MapEntry), es[i]? = some e → e.key = .int kk (ks.getD i 0)) →
    (mhas ks n = false ∧ Instr.findNow (.int kk) (.int kk n) es j = some none) ∨
    (mhas ks n = true ∧ midx ks n < ks.length ∧ ks.getD (midx ks n) 0 = n ∧ ∃ v, Instr.findNow (.int kk) (.int kk n) es j = some (some (j + midx ks n, v))) := by
  intro es
  induction es with
  | nil => intro ks j hl _; cases ks with | nil => exact .inl ⟨rfl, rfl⟩ | cons k ks => cases hl
  | cons e es ih =>
    intro ks j hl hk
    cases ks with
    | nil => cases hl
    | cons k ks =>
      have h0 : e.key = .int kk k := hk 0 e rfl
      by_cases hn : k = n
      · subst hn
        exact .inr ⟨by simp [mhas], by simp [midx], by simp [midx], e.val, by simp [Instr.findNow, h0, Instr.sameNow, midx]⟩
      · have hb : (k == n) = false := by simpa using hn
        have hb' : (n == k) = false := by simpa using fun h => hn h.symm
        rcases ih ks (j + 1) (by simpa using hl) (fun i e' he' => by have := hk (i + 1) e' (by simpa using he'); simpa using this) with ⟨h1, h2⟩ | ⟨h1, h3, h4, v, h2⟩
        · exact .inl ⟨by simp [mhas, hb, h1], by simp [Instr.findNow, h0, Instr.sameNow, hb', h2]⟩
        · exact .inr ⟨by simp [mhas, hb, h1], by simp [midx, hb]; omega, by simpa [midx, hb] using h4, v, by simp [Instr.findNow, h0, Instr.sameNow, hb', h2, midx, hb]; omega⟩

theorem heap_set_obj {b : Nat} {o : Obj} (w : World) (hb : b < w.heap.size) : ({ w with heap := w.heap.setIfInBounds b o } : World).heap[b]? = some o := by simp [hb]

/-- m[k] = v on a map of plain values, as the model carries it out. -/
theorem update_run {t kt et : TypeId} {kk : IntKind} {n : Int} {es : Array MapEntry} {clock b : Nat} {ks : List Int} {val : Value}
    (hu : P.underlying t = some (.map kt et)) (hk : P.underlying kt = some (.int kk)) (hb : w.heap[b]? = some (.map es clock))
    (hl : es.size = ks.length) (hkeys : ∀ (i : Nat) (e : MapEntry), es[i]? = some e → e.key = .int kk (ks.getD i 0)) :
    (Instr.mapUpdate t (.map (some b)) (.int kk n) val).run P w = .ok () { w with heap := w.heap.setIfInBounds b (bif mhas ks n then .map (es.modify (midx ks n) fun e => { e with key := .int kk n, val := val }) clock else .map (es.push { key := .int kk n, val := val, born := clock }) (clock + 1)) } := by
  have hg : (getObj b).run P w = .ok (.map es clock) w := by simp [getObj, Sem.run, hb]
  have hset : ∀ o, (setObj b o).run P w = .ok () { w with heap := w.heap.setIfInBounds b o } := fun o => by simp [setObj, Sem.run, hb]
  have hck1 : ∀ x d, (Instr.checkKey x (d + 1) kt (.int kk n)).run P w = .ok () w := fun x d => by simp [Instr.checkKey, run_underlying hk]
  have hck : (Instr.checkKey false 10000 kt (.int kk n)).run P w = .ok () w := hck1 _ 9999
  rcases findNow_idx (kk := kk) (n := n) es.toList ks 0 (by simpa using hl) (fun i e he => hkeys i e (by simpa using he)) with ⟨h1, h2⟩ | ⟨h1, h3, h4, v, h2⟩
  · have hfk : (Instr.findKey kt (.int kk n) es.toList).run P w = .ok none w := by simp [Instr.findKey, run_underlying hk, h2]
    simp only [Instr.mapUpdate, Sem.run_bind, run_underlying hu, Result.andThen_ok, hg, hck, hfk, hset, h1, cond_false]
  · have hfk : (Instr.findKey kt (.int kk n) es.toList).run P w = .ok (some (0 + midx ks n, v)) w := by simp [Instr.findKey, run_underlying hk, h2]
    have hlt : midx ks n < es.size := by omega
    have hkey : ((es[midx ks n]?).map (·.key)).getD (.int kk n) = .int kk n := by
      rw [Array.getElem?_eq_getElem hlt]
      simp only [Option.map_some, Option.getD_some]
      rw [hkeys _ _ (Array.getElem?_eq_getElem hlt), h4]
    have hst1 : ∀ d, Instr.sameBits d (.int kk n) (.int kk n) = true := fun d => by simp [Instr.sameBits]
    have hst : (Instr.keyThatStays (.int kk n) (.int kk n)).run P w = .ok (.int kk n) w := by
      simp only [Instr.keyThatStays, hst1, if_true]; rfl
    simp only [Instr.mapUpdate, Sem.run_bind, run_underlying hu, Result.andThen_ok, hg, hck, hfk, Nat.zero_add, hkey, hst, hset, h1, cond_true]

theorem delete_run {t kt et ty : TypeId} {kk : IntKind} {n : Int} {es : Array MapEntry} {clock b : Nat} {ks : List Int} {ts : Array TypeId}
    (hts : ts[0]? = some t) (hu : P.underlying t = some (.map kt et)) (hk : P.underlying kt = some (.int kk)) (hb : w.heap[b]? = some (.map es clock))
    (hl : es.size = ks.length) (hkeys : ∀ (i : Nat) (e : MapEntry), es[i]? = some e → e.key = .int kk (ks.getD i 0)) :
    (Builtin.delete_ ts ty #[.map (some b), .int kk n]).run P w = .ok (.tuple #[]) { w with heap := w.heap.setIfInBounds b (bif mhas ks n then .map (es.eraseIdxIfInBounds (midx ks n)) clock else .map es clock) } := by
  have hg : (getObj b).run P w = .ok (.map es clock) w := by simp [getObj, Sem.run, hb]
  have hset : ∀ o, (setObj b o).run P w = .ok () { w with heap := w.heap.setIfInBounds b o } := fun o => by simp [setObj, Sem.run, hb]
  have hck1 : ∀ x d, (Instr.checkKey x (d + 1) kt (.int kk n)).run P w = .ok () w := fun x d => by simp [Instr.checkKey, run_underlying hk]
  have hck : ∀ x, (Instr.checkKey x 10000 kt (.int kk n)).run P w = .ok () w := fun x => hck1 x 9999
  rcases findNow_idx (kk := kk) (n := n) es.toList ks 0 (by simpa using hl) (fun i e he => hkeys i e (by simpa using he)) with ⟨h1, h2⟩ | ⟨h1, h3, h4, v, h2⟩
  · have hfk : (Instr.findKey kt (.int kk n) es.toList).run P w = .ok none w := by simp [Instr.findKey, run_underlying hk, h2]
    simp [Builtin.delete_, hts, run_underlying hu, hg, hck, hfk, hset, h1]
  · have hfk : (Instr.findKey kt (.int kk n) es.toList).run P w = .ok (some (0 + midx ks n, v)) w := by simp [Instr.findKey, run_underlying hk, h2]
    simp [Builtin.delete_, hts, run_underlying hu, hg, hck, hfk, hset, h1]

theorem mhas_idx : ∀ {ks : List Int} {n : Int}, mhas ks n = true → midx ks n < ks.length ∧ ks.getD (midx ks n) 0 = n
  | [], n, h => by simp [mhas] at h
  | k :: ks, n, h => by
    simp only [mhas] at h
    cases hb : (k == n) with
    | true => simp only [midx, hb, cond_true]; exact ⟨by simp, by simpa using hb⟩
    | false =>
      rw [hb] at h
      obtain ⟨h1, h2⟩ := mhas_idx h
      simp only [midx, hb, cond_false]
      exact ⟨by simp; exact h1, by simpa using h2⟩

/-- The columns of a map behind a store. -/
def PutOf (ks : List Int) (n : Int) (col col' : Col) (a : A) : Prop :=
  col'.len = (mputK ks n).length ∧ (mhas ks n = true → ∀ i, i < ks.length → col'.at i = if i = midx ks n then a else col.at i) ∧
  (mhas ks n = false → (∀ i, i < ks.length → col'.at i = col.at i) ∧ col'.at ks.length = a)
theorem PutOf.int {ks : List Int} {n : Int} {k : IntKind} {l : List Int} {z : Int} (hl : l.length = ks.length) : PutOf ks n (.int k l) (.int k (mputV ks l n z)) (.raw (.int k z)) := by
  refine ⟨?_, fun h i hi => ?_, fun h => ⟨fun i hi => ?_, ?_⟩⟩
  · simp only [Col.len, mputV, mputK]; cases mhas ks n <;> simp [hl]
  · simp only [mputV, h, cond_true, Col.at, List.getD_eq_getElem?_getD, List.getElem?_set]
    by_cases e : midx ks n = i
    · subst e; simp [hl, hi]
    · simp [e, Ne.symm e]
  · simp only [mputV, h, cond_false, Col.at, List.getD_eq_getElem?_getD]
    rw [List.getElem?_append_left (by omega)]
  · simp only [mputV, h, cond_false, Col.at, List.getD_eq_getElem?_getD]
    rw [List.getElem?_append_right (by omega)]; simp [hl]
theorem PutOf.bool {ks : List Int} {n : Int} {l : List Bool} {z : Bool} (hl : l.length = ks.length) : PutOf ks n (.bool l) (.bool (mputV ks l n z)) (.raw (.bool z)) := by
  refine ⟨?_, fun h i hi => ?_, fun h => ⟨fun i hi => ?_, ?_⟩⟩
  · simp only [Col.len, mputV, mputK]; cases mhas ks n <;> simp [hl]
  · simp only [mputV, h, cond_true, Col.at, List.getD_eq_getElem?_getD, List.getElem?_set]
    by_cases e : midx ks n = i
    · subst e; simp [hl, hi]
    · simp [e, Ne.symm e]
  · simp only [mputV, h, cond_false, Col.at, List.getD_eq_getElem?_getD]
    rw [List.getElem?_append_left (by omega)]
  · simp only [mputV, h, cond_false, Col.at, List.getD_eq_getElem?_getD]
    rw [List.getElem?_append_right (by omega)]; simp [hl]

theorem PutOf.str {ks : List Int} {n : Int} {l : List ByteArray} {z : ByteArray} (hl : l.length = ks.length) : PutOf ks n (.str l) (.str (mputV ks l n z)) (.raw (.string z)) := by
  refine ⟨?_, fun h i hi => ?_, fun h => ⟨fun i hi => ?_, ?_⟩⟩
  · simp only [Col.len, mputV, mputK]; cases mhas ks n <;> simp [hl]
  · simp only [mputV, h, cond_true, Col.at, List.getD_eq_getElem?_getD, List.getElem?_set]
    by_cases e : midx ks n = i
    · subst e; simp [hl, hi]
    · simp [e, Ne.symm e]
  · simp only [mputV, h, cond_false, Col.at, List.getD_eq_getElem?_getD]
    rw [List.getElem?_append_left (by omega)]
  · simp only [mputV, h, cond_false, Col.at, List.getD_eq_getElem?_getD]
    rw [List.getElem?_append_right (by omega)]; simp [hl]

theorem map_put_ok {tl : Tab} (hr : HRel E w0 ρ H w) {id : Nat} {kk : IntKind} {n : Int} {ks : List Int} {col col' : Col} {a : A} {val : Value} {t kt et : TypeId} {m : Value}
    (hid : H[id]? = some (.map kk ks col)) (hu : P.underlying t = some (.map kt et)) (hk : P.underlying kt = some (.int kk)) (hm : VRel ρ H (.at (.map id)) m)
    (ha : ∀ ρ' H', ARel ρ' H' a val) (hput : PutOf ks n col col' a) :
    ∃ w', (Instr.mapUpdate t m (.int kk n) val).run P w = .ok () w' ∧ Ext ρ H ρ (H.set id (.map kk (mputK ks n) col')) ∧ HRel E w0 ρ (H.set id (.map kk (mputK ks n) col')) w' := by
  obtain ⟨p, hp, h1, h2, es, clock, h3, h4, h5, h6⟩ := hr.at hid
  have hm' : m = .map (some p.blk) := by
    rcases hm with hm | ⟨q, hq, hm⟩
    · rw [Gone, hid] at hm; cases hm
    · rw [hp] at hq; cases hq; exact hm
  subst hm'
  have hlt : p.blk < w.heap.size := (Array.getElem?_eq_some_iff.1 h3).1
  have hx : Ext ρ H ρ (H.set id (.map kk (mputK ks n) col')) := Ext.set hid rfl
  refine ⟨_, update_run hu hk h3 h4 (fun i e he => (h5 i e he).1), hx, hr.set hp hid rfl rfl h1 rfl rfl rfl (by simp) (fun k hk' => by simp [Array.getElem?_setIfInBounds, Ne.symm hk']) ⟨h1, hput.1, ?_⟩⟩
  cases hh : mhas ks n with
  | true =>
    obtain ⟨i1, i2⟩ := mhas_idx hh
    refine ⟨_, clock, by simpa [hh] using heap_set_obj w hlt, by simp [mputK, hh, h4], fun i e he => ?_, fun i j e f he hf hb => ?_⟩
    · have hi : i < es.size := by simpa using (Array.getElem?_eq_some_iff.1 he).1
      rw [Array.getElem?_modify] at he
      simp only [Array.getElem?_eq_getElem hi] at he
      obtain ⟨a1, a2, a3⟩ := h5 i _ (Array.getElem?_eq_getElem hi)
      rw [hput.2.1 hh i (by omega)]
      have hx2 := hx
      simp only [mputK, hh, cond_true] at hx2 ⊢
      by_cases e' : midx ks n = i
      · rw [if_pos e'] at he
        simp only [Option.map_some, Option.some.injEq] at he
        subst he
        subst e'
        refine ⟨by rw [i2], ?_, a3⟩
        rw [if_pos rfl]; exact ha _ _
      · rw [if_neg e'] at he
        simp only [Option.some.injEq] at he
        subst he
        rw [if_neg (Ne.symm e')]
        exact ⟨a1, a2.ext hx2, a3⟩
    · have hi : i < es.size := by simpa using (Array.getElem?_eq_some_iff.1 he).1
      have hj : j < es.size := by simpa using (Array.getElem?_eq_some_iff.1 hf).1
      rw [Array.getElem?_modify] at he hf
      simp only [Array.getElem?_eq_getElem hi] at he
      simp only [Array.getElem?_eq_getElem hj] at hf
      have be : e.born = es[i].born := by
        split at he
        · simp only [Option.map_some, Option.some.injEq] at he; subst he; rfl
        · simp only [Option.some.injEq] at he; subst he; rfl
      have bf : f.born = es[j].born := by
        split at hf
        · simp only [Option.map_some, Option.some.injEq] at hf; subst hf; rfl
        · simp only [Option.some.injEq] at hf; subst hf; rfl
      exact h6 i j _ _ (Array.getElem?_eq_getElem hi) (Array.getElem?_eq_getElem hj) (by rw [← be, ← bf, hb])
  | false =>
    obtain ⟨p1, p2⟩ := hput.2.2 hh
    refine ⟨_, clock + 1, by simpa [hh] using heap_set_obj w hlt, by simp [mputK, hh, h4], fun i e he => ?_, fun i j e f he hf hb => ?_⟩
    · rw [Array.getElem?_push] at he
      have hx2 := hx
      simp only [mputK, hh, cond_false] at hx2 ⊢
      split at he
      · rename_i hi
        subst hi
        simp only [Option.some.injEq] at he
        subst he
        refine ⟨by simp [List.getD_eq_getElem?_getD, h4], ?_, by simp⟩
        rw [h4, p2]; exact ha _ _
      · obtain ⟨a1, a2, a3⟩ := h5 i e he
        have hi : i < es.size := (Array.getElem?_eq_some_iff.1 he).1
        refine ⟨?_, ?_, by omega⟩
        · rw [a1]; congr 1
          rw [List.getD_eq_getElem?_getD, List.getD_eq_getElem?_getD, List.getElem?_append_left (by omega)]
        · rw [p1 i (by omega)]; exact a2.ext hx2
    · rw [Array.getElem?_push] at he hf
      split at he <;> split at hf
      · omega
      · simp only [Option.some.injEq] at he
        subst he
        have := (h5 j f hf).2.2
        simp at hb; omega
      · simp only [Option.some.injEq] at hf
        subst hf
        have := (h5 i e he).2.2
        simp at hb; omega
      · exact h6 i j e f he hf hb

theorem eMapUpdate_ok {tl : Tab} (htl : TabOk P tl) (hr : HRel E w0 ρ H w) {t : TypeId} {m k x : V} {a b c : Value} {H' : Heap} (h : eMapUpdate H tl t m k x = some H') (hm : VRel ρ H m a) (hk : VRel ρ H k b) (hx : VRel ρ H x c) :
    ∃ w', (Instr.mapUpdate t a b c).run P w = .ok () w' ∧ Ext ρ H ρ H' ∧ HRel E w0 ρ H' w' := by
  unfold eMapUpdate at h
  split at h
  · rename_i kt et id kk n y hti
    have hu : P.underlying t = some (.map kt et) := kd_ok htl hti
    simp only [VRel, ARel] at hk hx
    subst hk hx
    split at h
    · rename_i k1 k3 ks k4 l k5 z hkt hid
      cases hb : (decide (k1 = kk) && decide (k3 = kk) && decide (k4 = k5)) with
      | false => rw [hb] at h; cases h
      | true =>
        rw [hb] at h
        simp only [Bool.and_eq_true, decide_eq_true_eq] at hb
        obtain ⟨⟨e1, e2⟩, e3⟩ := hb
        subst e1 e2 e3
        cases h
        obtain ⟨p, hp, h1, h2, _⟩ := hr.at hid
        exact map_put_ok (tl := tl) (a := .raw (.int k4 z)) hr hid hu (kd_ok htl hkt) hm (fun _ _ => rfl) (PutOf.int h2)
    · rename_i k1 k3 ks l z hkt hid
      cases hb : (decide (k1 = kk) && decide (k3 = kk)) with
      | false => rw [hb] at h; cases h
      | true =>
        rw [hb] at h
        simp only [Bool.and_eq_true, decide_eq_true_eq] at hb
        obtain ⟨e1, e2⟩ := hb
        subst e1 e2
        cases h
        obtain ⟨p, hp, h1, h2, _⟩ := hr.at hid
        exact map_put_ok (tl := tl) (a := .raw (.bool z)) hr hid hu (kd_ok htl hkt) hm (fun _ _ => rfl) (PutOf.bool h2)
    · rename_i k1 k3 ks l z hkt hid
      cases hb : (decide (k1 = kk) && decide (k3 = kk)) with
      | false => rw [hb] at h; cases h
      | true =>
        rw [hb] at h
        simp only [Bool.and_eq_true, decide_eq_true_eq] at hb
        obtain ⟨e1, e2⟩ := hb
        subst e1 e2
        cases h
        obtain ⟨p, hp, h1, h2, _⟩ := hr.at hid
        exact map_put_ok (tl := tl) (a := .raw (.string z)) hr hid hu (kd_ok htl hkt) hm (fun _ _ => rfl) (PutOf.str h2)
    · cases h
  · cases h

theorem map_del_ok {tl : Tab} (hr : HRel E w0 ρ H w) {id : Nat} {kk : IntKind} {n : Int} {ks : List Int} {col col' : Col} {t kt et ty : TypeId} {m : Value}
    (hid : H[id]? = some (.map kk ks col)) (hu : P.underlying t = some (.map kt et)) (hk : P.underlying kt = some (.int kk)) (hm : VRel ρ H (.at (.map id)) m)
    (hlen : col'.len = (mdelK ks n).length) (hdel : ∀ i, i < (mdelK ks n).length → col'.at i = if mhas ks n = true ∧ midx ks n ≤ i then col.at (i + 1) else col.at i) (ts : Array TypeId) (hts : ts[0]? = some t) :
    ∃ w', (Builtin.delete_ ts ty #[m, .int kk n]).run P w = .ok (.tuple #[]) w' ∧ Ext ρ H ρ (H.set id (.map kk (mdelK ks n) col')) ∧ HRel E w0 ρ (H.set id (.map kk (mdelK ks n) col')) w' := by
  obtain ⟨p, hp, h1, h2, es, clock, h3, h4, h5, h6⟩ := hr.at hid
  have hm' : m = .map (some p.blk) := by
    rcases hm with hm | ⟨q, hq, hm⟩
    · rw [Gone, hid] at hm; cases hm
    · rw [hp] at hq; cases hq; exact hm
  subst hm'
  have hlt : p.blk < w.heap.size := (Array.getElem?_eq_some_iff.1 h3).1
  have hx : Ext ρ H ρ (H.set id (.map kk (mdelK ks n) col')) := Ext.set hid rfl
  refine ⟨_, delete_run hts hu hk h3 h4 (fun i e he => (h5 i e he).1), hx, hr.set hp hid rfl rfl h1 rfl rfl rfl (by simp) (fun k hk' => by simp [Array.getElem?_setIfInBounds, Ne.symm hk']) ⟨h1, hlen, ?_⟩⟩
  cases hh : mhas ks n with
  | true =>
    obtain ⟨i1, i2⟩ := mhas_idx hh
    have hget : ∀ (i : Nat) (e : MapEntry), (es.eraseIdxIfInBounds (midx ks n))[i]? = some e → es[if midx ks n ≤ i then i + 1 else i]? = some e := by
      intro i e he
      have hml : midx ks n < es.size := by omega
      simp only [Array.eraseIdxIfInBounds, hml, dite_true] at he
      rw [Array.getElem?_eraseIdx] at he
      split
      · rename_i hle; rw [if_neg (by omega)] at he; exact he
      · rename_i hle; rw [if_pos (by omega)] at he; exact he
    have hsz : (es.eraseIdxIfInBounds (midx ks n)).size = (mdelK ks n).length := by
      have hml : midx ks n < es.size := by omega
      simp [Array.eraseIdxIfInBounds, hml, mdelK, hh, List.length_eraseIdx, i1, h4]
    refine ⟨_, clock, by simpa [hh] using heap_set_obj w hlt, hsz, fun i e he => ?_, fun i j e f he hf hb => ?_⟩
    · have hi : i < (mdelK ks n).length := by rw [← hsz]; exact (Array.getElem?_eq_some_iff.1 he).1
      have hg := hget i e he
      obtain ⟨a1, a2, a3⟩ := h5 _ e hg
      rw [hdel i hi]
      refine ⟨?_, ?_, a3⟩
      · rw [a1]
        congr 1
        simp only [mdelK, hh, cond_true, List.getD_eq_getElem?_getD, List.getElem?_eraseIdx]
        split <;> split <;> first | rfl | omega
      · simp only [hh, true_and]
        split
        · rename_i hle; rw [if_pos hle] at a2; exact a2.ext hx
        · rename_i hle; rw [if_neg hle] at a2; exact a2.ext hx
    · have := h6 _ _ e f (hget i e he) (hget j f hf) hb
      split at this <;> split at this <;> omega
  | false =>
    have hk' : mdelK ks n = ks := by simp [mdelK, hh]
    rw [hk'] at hdel ⊢
    refine ⟨_, clock, by simpa [hh] using heap_set_obj w hlt, h4, fun i e he => ?_, h6⟩
    have hi : i < ks.length := by rw [← h4]; exact (Array.getElem?_eq_some_iff.1 he).1
    obtain ⟨a1, a2, a3⟩ := h5 i e he
    rw [hdel i hi]
    simp only [hh, Bool.false_eq_true, false_and, if_false]
    exact ⟨a1, a2.ext (by rw [hk'] at hx; exact hx), a3⟩

theorem eDelete_ok {tl : Tab} (htl : TabOk P tl) (hr : HRel E w0 ρ H w) {t ty : TypeId} {m k : V} {a b : Value} {H' : Heap} (h : eDelete H tl t m k = some H') (hm : VRel ρ H m a) (hk : VRel ρ H k b) (ts : Array TypeId) (hts : ts[0]? = some t) :
    ∃ w', (Builtin.delete_ ts ty #[a, b]).run P w = .ok (.tuple #[]) w' ∧ Ext ρ H ρ H' ∧ HRel E w0 ρ H' w' := by
  unfold eDelete at h
  split at h
  · rename_i kt et id kk n hti
    have hu : P.underlying t = some (.map kt et) := kd_ok htl hti
    simp only [VRel, ARel] at hk
    subst hk
    split at h
    · rename_i k1 k3 ks k4 l hkt hid
      cases hb : (decide (k1 = kk) && decide (k3 = kk)) with
      | false => rw [hb] at h; cases h
      | true =>
        rw [hb] at h
        simp only [Bool.and_eq_true, decide_eq_true_eq] at hb
        obtain ⟨e1, e2⟩ := hb
        subst e1 e2
        cases h
        obtain ⟨p, hp, h1, h2, _⟩ := hr.at hid
        simp only [Col.len] at h2
        refine map_del_ok (tl := tl) hr hid hu (kd_ok htl hkt) hm ?_ (fun i hi => ?_) ts hts
        · simp only [Col.len, mdelV, mdelK]; cases mhas ks n <;> simp [h2, List.length_eraseIdx]
        · simp only [Col.at, mdelV]
          cases hh : mhas ks n with
          | false => simp
          | true =>
            simp only [cond_true, List.getD_eq_getElem?_getD, List.getElem?_eraseIdx, true_and]
            by_cases hle : midx ks n ≤ i
            · rw [if_neg (by omega), if_pos hle]
            · rw [if_pos (by omega), if_neg hle]
    · rename_i k1 k3 ks l hkt hid
      cases hb : (decide (k1 = kk) && decide (k3 = kk)) with
      | false => rw [hb] at h; cases h
      | true =>
        rw [hb] at h
        simp only [Bool.and_eq_true, decide_eq_true_eq] at hb
        obtain ⟨e1, e2⟩ := hb
        subst e1 e2
        cases h
        obtain ⟨p, hp, h1, h2, _⟩ := hr.at hid
        simp only [Col.len] at h2
        refine map_del_ok (tl := tl) hr hid hu (kd_ok htl hkt) hm ?_ (fun i hi => ?_) ts hts
        · simp only [Col.len, mdelV, mdelK]; cases mhas ks n <;> simp [h2, List.length_eraseIdx]
        · simp only [Col.at, mdelV]
          cases hh : mhas ks n with
          | false => simp
          | true =>
            simp only [cond_true, List.getD_eq_getElem?_getD, List.getElem?_eraseIdx, true_and]
            by_cases hle : midx ks n ≤ i
            · rw [if_neg (by omega), if_pos hle]
            · rw [if_pos (by omega), if_neg hle]
    · rename_i k1 k3 ks l hkt hid
      cases hb : (decide (k1 = kk) && decide (k3 = kk)) with
      | false => rw [hb] at h; cases h
      | true =>
        rw [hb] at h
        simp only [Bool.and_eq_true, decide_eq_true_eq] at hb
        obtain ⟨e1, e2⟩ := hb
        subst e1 e2
        cases h
        obtain ⟨p, hp, h1, h2, _⟩ := hr.at hid
        simp only [Col.len] at h2
        refine map_del_ok (tl := tl) hr hid hu (kd_ok htl hkt) hm ?_ (fun i hi => ?_) ts hts
        · simp only [Col.len, mdelV, mdelK]; cases mhas ks n <;> simp [h2, List.length_eraseIdx]
        · simp only [Col.at, mdelV]
          cases hh : mhas ks n with
          | false => simp
          | true =>
            simp only [cond_true, List.getD_eq_getElem?_getD, List.getElem?_eraseIdx, true_and]
            by_cases hle : midx ks n ≤ i
            · rw [if_neg (by omega), if_pos hle]
            · rw [if_pos (by omega), if_neg hle]
    · cases h
  · cases h
end
end Go.Sx

namespace Go.Sx
open Go

/-- Where part i goes, and how many cells it has. -/
def placesOf (tl : Tab) : List (Nat × Nat) → Option (List (Nat × Nat))
  | [] => some []
  | (o, ty) :: r => match lk tl ty, placesOf tl r with | some ti, some l => some ((o, ti.size) :: l) | _, _ => none
def foldB (H : Heap) (place : Nat → Option (Nat × Nat)) : List A → List (Nat × V) → Option (List A)
  | cs, [] => some cs
  | cs, (i, x) :: r =>
    match place i, asOf x with
    | some (o, s), some as => bif Nat.beq as.length s && Nat.ble (o + s) cs.length && as.all (okA H) then foldB H place (cs.take o ++ as ++ cs.drop (o + s)) r else none
    | _, _ => none
def nBuild (H : Heap) (tl : Tab) (t : TypeId) (idx : List (Nat × V)) : Option V :=
  match lk tl t with
  | some ti =>
    match ti.kind with
    | .st fs => match placesOf tl fs with
      | some ps => match foldB H (fun i => ps[i]?) (ti.zero.map A.raw) idx with | some cs => some (.agg cs) | none => none
      | none => none
    | .arr _ e => match lk tl e with
      | some te => match foldB H (fun i => some (i * te.size, te.size)) (ti.zero.map A.raw) idx with | some cs => some (.agg cs) | none => none
      | none => none
    | _ => none
  | none => none

section
variable {P : Program} {E : Nat → Prop} {w0 w : World} {ρ : List Pl} {H : Heap}

theorem foldB_ok {place : Nat → Option (Nat × Nat)} : ∀ {idx : List (Nat × V)} {us : List Value} {cs cs' : List A} {vs : Array Value}, VsRel ρ H (idx.map (·.2)) us → foldB H place cs idx = some cs' → AsRel ρ H cs vs.toList →
    ∃ vs', Instr.fill place vs ((idx.map (·.1)).zip us) = some vs' ∧ AsRel ρ H cs' vs'.toList
  | [], us, cs, cs', vs, hx, h, hv => by
    cases hx
    simp only [foldB, Option.some.injEq] at h
    subst h
    exact ⟨vs, rfl, hv⟩
  | (i, x) :: r, us, cs, cs', vs, hx, h, hv => by
    simp only [foldB] at h
    cases hx with
    | @cons _ u _ us h0 hs =>
      split at h
      · rename_i o s as hp has
        cases hb : (Nat.beq as.length s && Nat.ble (o + s) cs.length && as.all (okA H)) with
        | false => rw [hb] at h; cases h
        | true =>
          rw [hb] at h
          simp only [cond_true] at h
          simp only [Bool.and_eq_true] at hb
          obtain ⟨⟨b1, b2⟩, b3⟩ := hb
          have b1 := Nat.eq_of_beq_eq_true b1
          have b2 := Nat.le_of_ble_eq_true b2
          subst b1
          obtain ⟨ha, _⟩ := asOf_rel has b3 h0
          have hus : u.cells.size = as.length := by simpa using ha.1
          have hvl : vs.size = cs.length := by simpa using hv.1
          generalize hcs1 : u.cells.zipIdx.foldl (fun (cs : Array Value) (x : Value × Nat) => cs.setIfInBounds (o + x.2) x.1) vs = cs1
          have hcs1' : (u.cells.toList.zipIdx 0).foldl (fun (cs : Array Value) (x : Value × Nat) => cs.setIfInBounds (o + x.2) x.1) vs = cs1 := by
            rw [← hcs1, ← Array.foldl_toList]
            simp
          obtain ⟨g1, g2⟩ := foldl_set u.cells.toList 0 o vs (by simp [hus, hvl]; omega) cs1 hcs1'
          have hrel : AsRel ρ H (cs.take o ++ as ++ cs.drop (o + as.length)) cs1.toList := by
            refine ⟨by simp [g1, hvl]; omega, fun j a v haj hvj => ?_⟩
            have hvj' : cs1[j]? = some v := by simpa using hvj
            rw [g2 j] at hvj'
            simp only [Nat.add_zero, Array.length_toList, hus] at hvj'
            rcases Nat.lt_or_ge j o with hj | hj
            · rw [if_neg (by omega)] at hvj'
              rw [List.append_assoc, List.getElem?_append_left (by simp; omega), List.getElem?_take, if_pos hj] at haj
              exact hv.2 j a v haj (by simpa using hvj')
            · rcases Nat.lt_or_ge j (o + as.length) with hj2 | hj2
              · rw [if_pos ⟨hj, hj2⟩] at hvj'
                rw [List.append_assoc, List.getElem?_append_right (by simp; omega), List.getElem?_append_left (by simp; omega)] at haj
                rw [show (cs.take o).length = o by simp; omega] at haj
                exact ha.2 (j - o) a v haj (by simpa using hvj')
              · rw [if_neg (by omega)] at hvj'
                rw [List.getElem?_append_right (by simp; omega), List.getElem?_drop] at haj
                rw [show (cs.take o ++ as).length = o + as.length by simp; omega, show o + as.length + (j - (o + as.length)) = j by omega] at haj
                exact hv.2 j a v haj (by simpa using hvj')
          obtain ⟨vs', f1, f2⟩ := foldB_ok hs h hrel
          refine ⟨vs', ?_, f2⟩
          simp only [List.map_cons, List.zip_cons_cons, Instr.fill, hp]
          rw [if_neg (by simp [hus, hvl]; omega)]
          exact (congrArg (fun z => Instr.fill place z ((r.map (·.1)).zip us)) hcs1).trans f1
      · cases h

theorem placesOf_at {tl : Tab} : ∀ {fs ps : List (Nat × Nat)}, placesOf tl fs = some ps → ps.length = fs.length ∧ ∀ (i : Nat) (o t : Nat), fs[i]? = some (o, t) → ∃ ti, lk tl t = some ti ∧ ps[i]? = some (o, ti.size)
  | [], ps, h => by simp only [placesOf, Option.some.injEq] at h; subst h; exact ⟨rfl, fun i o t ha => by simp at ha⟩
  | (o, ty) :: r, ps, h => by
    simp only [placesOf] at h
    split at h
    · rename_i ti l h1 h2
      cases h
      obtain ⟨a1, a2⟩ := placesOf_at h2
      refine ⟨by simp [a1], fun i o' t' hi => ?_⟩
      match i with
      | 0 => simp at hi; obtain ⟨rfl, rfl⟩ := hi; exact ⟨ti, h1, rfl⟩
      | i + 1 => simp at hi; obtain ⟨ti', h3, h4⟩ := a2 i o' t' hi; exact ⟨ti', h3, by simpa using h4⟩
    · cases h

theorem zero_rel {zs : List Value} {z : Value} (h : z.cells.toList = zs) : AsRel ρ H (zs.map A.raw) z.cells.toList := by
  rw [h]
  refine ⟨by simp, fun j a v ha hv => ?_⟩
  simp only [List.getElem?_map, hv, Option.map_some, Option.some.injEq] at ha
  subst ha; rfl

theorem mapM_run {tl : Tab} (htl : TabOk P tl) (w' : World) : ∀ (F : List Field) (ps : List (Nat × Nat)), placesOf tl (F.map fun f => (f.offset, f.type)) = some ps →
    (F.mapM (fun f : Field => (do pure (f.offset, ← sizeOf f.type) : Sem (Nat × Nat)))).run P w' = .ok ps w'
  | [], ps, h => by simp only [List.map_nil, placesOf, Option.some.injEq] at h; subst h; rfl
  | f :: F, ps, h => by
    simp only [List.map_cons, placesOf] at h
    split at h
    · rename_i ti l h1 h2
      cases h
      have ih := mapM_run htl w' F l h2
      simp only [List.mapM_cons, Sem.run_bind, (htl _ ti h1).size_run, Result.andThen_ok, Sem.run_pure, ih]
    · cases h

theorem nBuild_ok {tl : Tab} (htl : TabOk P tl) {t : TypeId} {idx : List (Nat × V)} {us : List Value} {v : V} (h : nBuild H tl t idx = some v) (hx : VsRel ρ H (idx.map (·.2)) us) :
    ∃ y, VRel ρ H v y ∧ ∀ w' : World, (Instr.build t ((idx.map (·.1)).zip us).toArray).run P w' = .ok y w' := by
  unfold nBuild at h
  split at h
  · rename_i ti hti
    have ht := htl t ti hti
    obtain ⟨z, hz, _, hzr⟩ := ht.zero_run
    have hk := ht.kind
    split at h
    · rename_i fs hfs
      rw [hfs] at hk
      obtain ⟨F, hF, hm⟩ := hk
      split at h
      · rename_i ps hps
        split at h
        · rename_i cs hcs
          cases h
          obtain ⟨vs', f1, f2⟩ := foldB_ok (vs := z.cells) hx hcs (zero_rel hz)
          refine ⟨.agg vs', ⟨vs'.toList, by simp, f2⟩, fun w' => ?_⟩
          rw [← hm] at hps
          have hmm := mapM_run htl w' F.toList ps hps
          have hmm' : (F.mapM (fun f : Field => (do pure (f.offset, ← sizeOf f.type) : Sem (Nat × Nat)))).run P w' = .ok ps.toArray w' := by
            rw [Array.mapM_eq_mapM_toList, Sem.run_map, hmm]
            rfl
          simp only [Instr.build, Sem.run_bind, hzr, Result.andThen_ok, run_underlying hF, hmm']
          simp [f1]
        · cases h
      · cases h
    · rename_i m e hfs
      rw [hfs] at hk
      have hu : P.underlying t = some (.array m e) := hk
      split at h
      · rename_i te hte
        split at h
        · rename_i cs hcs
          cases h
          obtain ⟨vs', f1, f2⟩ := foldB_ok (vs := z.cells) hx hcs (zero_rel hz)
          refine ⟨.agg vs', ⟨vs'.toList, by simp, f2⟩, fun w' => ?_⟩
          simp only [Instr.build, Sem.run_bind, hzr, Result.andThen_ok, run_underlying hu, (htl e te hte).size_run]
          simp [f1]
        · cases h
      · cases h
    · cases h
  · cases h
end
end Go.Sx

namespace Go.Sx
open Go

/-- The text of these bytes. -/
def strOfI (l : List Int) : ByteArray := ⟨(l.map fun n => UInt8.ofNat n.toNat).toArray⟩
/-- Does the part lie within the row? -/
def rowIn (off : Option Int) (len n : Int) : Bool := decide (0 ≤ off.getD 0 ∧ 0 ≤ len ∧ off.getD 0 + len ≤ n)
def partL {α : Type} (off : Option Int) (len : Int) (l : List α) : List α :=
  match off with
  | none => l.take len.toNat
  | some o => (l.drop o.toNat).take len.toNat
/-- A row of one column of numbers, or nil. -/
def intsAt (H : Heap) (x : V) : Option (IntKind × List Int × Bool) :=
  match x with
  | .at (.sl id sz off len) =>
    match H[id]? with
    | some (.row _ sz' n [.int k l]) | some (.ro _ sz' n [.int k l]) => bif Nat.beq sz 1 && Nat.beq sz' 1 then some (k, partL off len l, rowIn off len n) else none
    | _ => none
  | _ => none
def nStr (H : Heap) (tl : Tab) (src dst : TypeId) (x : V) : Option (V × Bool) :=
  match kd tl src, kd tl dst with
  | some (.sl e), some .str =>
    match kd tl e with
    | some (.int .u8) =>
      match x with
      | .at (.raw (.slice none 0 0)) => some (.at (.raw (.string ByteArray.empty)), true)
      | x => match intsAt H x with
        | some (.u8, l, c) => some (.at (.raw (.string (strOfI l))), c)
        | _ => none
    | _ => none
  | _, _ => none

def nFunc (fn : Fn) (first caps : List V) : Option V :=
  match fn, first, capsOf caps with
  | .func f, [], some l => some (.at (.fn f l))
  | _, _, _ => none

def zeroCol (v : Value) (n : Nat) : Col :=
  match v with
  | .int k z => .int k (List.replicate n z)
  | .bool z => .bool (List.replicate n z)
  | .string z => .str (List.replicate n z)
  | v => .ats (List.replicate n (.raw v))
def eMake (H : Heap) (tl : Tab) (t : TypeId) (len cap : V) : Option (V × Heap × Bool) :=
  match kd tl t, rawI len, rawI cap with
  | some (.sl e), some l, some c =>
    match lk tl e with
    | some ti => bif Nat.ble 1 ti.size && Nat.beq ti.zero.length ti.size then
        some (.at (.sl H.length ti.size none l), H ++ [.row e ti.size l (ti.zero.map (zeroCol · l.toNat))], decide (0 ≤ l ∧ l ≤ c ∧ (ti.bytes : Int) * c ≤ 140737488355328 ∧ c ≤ 4611686018427387904))
      else none
    | none => none
  | _, _, _ => none

def spliceL {α : Type} (off : Option Int) (k : Nat) (l l2 : List α) : List α := l.take (off.getD 0).toNat ++ l2.take k ++ l.drop ((off.getD 0).toNat + k)
def eCopy (H : Heap) (tl : Tab) (t : TypeId) (d s : V) : Option (V × Heap × Bool) :=
  match kd tl t, d with
  | some (.sl e), .at (.sl id sz off len) =>
    match lk tl e, H[id]?, intsAt H s with
    | some ti, some (.row e' sz' n [.int k l]), some (k2, l2, c) =>
      bif Nat.beq ti.size 1 && Nat.beq sz 1 && Nat.beq sz' 1 && decide (k = k2) then
        some (.at (.raw (.int .i64 (minI (l2.length : Int) len))), H.set id (.row e' 1 n [.int k (spliceL off (minI (l2.length : Int) len).toNat l l2)]), c && rowIn off len n)
      else none
    | _, _, _ => none
  | _, _ => none

section
variable {P : Program} {E : Nat → Prop} {w0 w : World} {ρ : List Pl} {H : Heap}

theorem partL_len {α : Type} {off : Option Int} {len n : Int} {l : List α} (h : rowIn off len n = true) (hl : l.length = n.toNat) : (partL off len l).length = len.toNat := by
  have h := of_decide_eq_true h
  unfold partL
  cases off with
  | none => simp at h ⊢; omega
  | some o => simp at h ⊢; omega
theorem partL_get {α : Type} {off : Option Int} {len n : Int} {l : List α} (h : rowIn off len n = true) (hl : l.length = n.toNat) {j : Nat} (hj : j < len.toNat) : (partL off len l)[j]? = l[(off.getD 0).toNat + j]? := by
  unfold partL
  cases off with
  | none => simp [List.getElem?_take, hj]
  | some o => simp [List.getElem?_take, hj]

/-- What is there of such a slice: its cells, wherever the heap is the same. -/
theorem intsAt_ok (hr : HRead ρ H w) {x : V} {u : Value} {k : IntKind} {l : List Int} {c : Bool} (h : intsAt H x = some (k, l, c)) (hc : c = true) (hx : VRel ρ H x u) :
    ∃ (a : Option Addr) (cap : Nat), u = .slice a l.length cap ∧ (l.length ≠ 0 → ∃ ad, a = some ad ∧ ∀ w' : World, HSame ρ H (idsV x) w w' → ∀ (j : Nat) (v : Value), (l.map (Value.int k))[j]? = some v → w'.cell? (ad.add j) = some v) := by
  have key : ∀ (id : Nat) (off : Option Int) (len n : Int) (l0 : List Int), VRel ρ H (.at (.sl id 1 off len)) u → (∃ o, H[id]? = some o ∧ o.isDead = false) → rowIn off len n = true → l = partL off len l0 →
      (∃ p, ρ[id]? = some p ∧ RowOk p 1 n [.int k l0] ∧ (p.real = true → ∃ cur e fz, w.heap[p.blk]? = some (.cells cur e fz) ∧ ColsRel ρ H p 1 n [.int k l0] cur)) →
      ∃ (a : Option Addr) (cap : Nat), u = .slice a l.length cap ∧ (l.length ≠ 0 → ∃ ad, a = some ad ∧ ∀ w' : World, HSame ρ H [id] w w' → ∀ (j : Nat) (v : Value), (l.map (Value.int k))[j]? = some v → w'.cell? (ad.add j) = some v) := by
    intro id off len n l0 hx ⟨o, ho, hod⟩ hin hl ⟨p, hp, hok, hreal⟩
    have hnd : H[id]? ≠ some .dead := fun hx => by rw [ho] at hx; cases hx; cases hod
    obtain ⟨q, hq, s0, s1, s2, hs⟩ := hx.resolve_left hnd
    rw [hp] at hq; cases hq
    obtain ⟨hn, hcl, _, _, hnc, _, hv⟩ := hok
    have hl0 : l0.length = n.toNat := hcl (.int k l0) (by simp)
    have hll : l.length = len.toNat := by rw [hl]; exact partL_len hin hl0
    have hin' := of_decide_eq_true hin
    rcases hs with ⟨hrl, a, rfl, ha⟩ | ⟨hrl, hr2, oa, rfl⟩
    · refine ⟨_, _, by rw [hll], fun hne => ⟨a, rfl, fun w' hw j v hj => ?_⟩⟩
      obtain ⟨cur, e, fz, hh, hcols⟩ := hreal hrl
      have haa := ha (by omega)
      subst haa
      simp only [List.getElem?_map, Option.map_eq_some_iff] at hj
      obtain ⟨z, hz, rfl⟩ := hj
      have hjl : j < len.toNat := by rw [← hll]; exact (List.getElem?_eq_some_iff.1 hz).1
      rw [hl, partL_get hin hl0 hjl] at hz
      have hi : (off.getD 0).toNat + j < n.toNat := by omega
      obtain ⟨y, hy, hya⟩ := hcols ((off.getD 0).toNat + j) 0 _ hi rfl
      rw [addr_add, cell_at (t := e) (fz := fz) (cur := cur) (by rw [hw id (by simp) _ _ hp ho hod hrl]; exact hh)]
      simp only [Col.at, ARel, List.getD_eq_getElem?_getD, hz, Option.getD_some] at hya
      subst hya
      simpa [Nat.add_assoc] using hy
    · have h0 : len.toNat = 0 := by omega
      exact ⟨oa, 0, by rw [hll, h0], fun hne => absurd (hll.trans h0) hne⟩
  unfold intsAt at h
  split at h
  · rename_i id sz off len
    split at h
    · rename_i e sz' n k' l' hid
      cases hb : (Nat.beq sz 1 && Nat.beq sz' 1) with
      | false => rw [hb] at h; cases h
      | true =>
        rw [hb] at h; cases h
        rw [Bool.and_eq_true] at hb
        have e1 := Nat.eq_of_beq_eq_true hb.1
        have e2 := Nat.eq_of_beq_eq_true hb.2
        subst e1 e2
        obtain ⟨p, hp, hok, hreal⟩ := hr.at hid
        exact key id off len n l' hx ⟨_, hid, rfl⟩ hc rfl ⟨p, hp, hok, fun hrl => let ⟨cur, a1, _, a3⟩ := hreal hrl; ⟨cur, _, _, a1, a3⟩⟩
    · rename_i e sz' n k' l' hid
      cases hb : (Nat.beq sz 1 && Nat.beq sz' 1) with
      | false => rw [hb] at h; cases h
      | true =>
        rw [hb] at h; cases h
        rw [Bool.and_eq_true] at hb
        have e1 := Nat.eq_of_beq_eq_true hb.1
        have e2 := Nat.eq_of_beq_eq_true hb.2
        subst e1 e2
        obtain ⟨p, hp, hok, hreal⟩ := hr.at hid
        exact key id off len n l' hx ⟨_, hid, rfl⟩ hc rfl ⟨p, hp, hok, hreal⟩
    · cases h
  · cases h

theorem foldl_push : ∀ (ns : List Int) (s : ByteArray), ns.foldl (fun r n => r.push (UInt8.ofNat n.toNat)) s = ⟨s.data ++ (ns.map fun n => UInt8.ofNat n.toNat).toArray⟩
  | [], s => by simp
  | n :: ns, s => by
    simp only [List.foldl_cons, foldl_push ns, List.map_cons]
    congr 1
    apply Array.ext'
    simp [ByteArray.push]

theorem nStr_ok {tl : Tab} (htl : TabOk P tl) (hr : HRead ρ H w) {s d : TypeId} {x v : V} {u : Value} {c : Bool} (h : nStr H tl s d x = some (v, c)) (hc : c = true) (hx : VRel ρ H x u) :
    ∃ y, VRel ρ H v y ∧ ∀ w' : World, HSame ρ H (idsV x) w w' → (convert s d u).run P w' = .ok y w' := by
  unfold nStr at h
  split at h
  · rename_i e hs hd
    have hus : P.underlying s = some (.slice e) := kd_ok htl hs
    have hud : P.underlying d = some .string := kd_ok htl hd
    split at h
    · rename_i he
      have hue : P.underlying e = some (.int .u8) := kd_ok htl he
      split at h
      · cases h
        simp only [VRel, ARel] at hx
        subst hx
        exact ⟨_, rfl, fun w' _ => by rw [run_convert_bytes_string w' s d e none 0 0 hus hue hud]; simp [Conv.bytesToString]⟩
      · rename_i x' _
        split at h
        · rename_i l c' hi
          cases h
          obtain ⟨a, cap, rfl, hcell⟩ := intsAt_ok hr hi hc hx
          refine ⟨.string (strOfI l), rfl, fun w' hw => ?_⟩
          rw [run_convert_bytes_string w' s d e a l.length cap hus hue hud]
          by_cases hl : l.length = 0
          · have : l = [] := List.eq_nil_of_length_eq_zero hl
            subst this
            cases a with
            | none => simp [Conv.bytesToString, strOfI]; rfl
            | some ad =>
              have := run_bytesToString (P := P) w' ad 0 cap [] (by simpa using run_loadCells_list (P := P) w' ad [] (by simp))
              show _ = Result.ok (Value.string ByteArray.empty) w'
              simpa using this
          · obtain ⟨ad, rfl, hc2⟩ := hcell hl
            have h1 := run_loadCells_list (P := P) w' ad (l.map (Value.int .u8)) (hc2 w' hw)
            rw [List.length_map] at h1
            rw [run_bytesToString (P := P) w' ad l.length cap l h1, foldl_push]
            simp [strOfI]
        · cases h
    · cases h
  · cases h

theorem nFunc_ok {fn : Fn} {first caps : List V} {fs us : List Value} {v : V} (h : nFunc fn first caps = some v) (hf : VsRel ρ H first fs) (hx : VsRel ρ H caps us) :
    ∃ y, VRel ρ H v y ∧ ∀ w' : World, (Instr.makeFunc fn fs.toArray us.toArray).run P w' = .ok y w' := by
  unfold nFunc at h
  split at h
  · rename_i f l hl
    cases h
    cases hf
    refine ⟨.func (.func f) #[] us.toArray, ?_, fun w' => rfl⟩
    have key : ∀ {caps : List V} {l : List (Nat × Nat)} {us : List Value}, capsOf caps = some l → VsRel ρ H caps us → (∃ c ∈ l, Gone H c.1) ∨ (us.length = l.length ∧ ∀ (j : Nat) (c : Nat × Nat), l[j]? = some c → ∃ p, ρ[c.1]? = some p ∧ us[j]? = some (Value.pointer (some (p.addr c.2)))) := by
      intro caps
      induction caps with
      | nil =>
        intro l us h hv
        cases hv
        simp only [capsOf, Option.some.injEq] at h
        subst h
        exact .inr ⟨rfl, fun j c hc => by simp at hc⟩
      | cons x r ih =>
        intro l us h hv
        unfold capsOf at h
        split at h
        · rename_i e; cases e
        · rename_i id o r' e
          cases e
          split at h
          · rename_i l' hl'
            cases h
            cases hv with
            | cons h0 hs =>
              rcases h0 with hg | ⟨p, hp, rfl⟩
              · exact .inl ⟨(id, o), by simp, hg⟩
              · rcases ih hl' hs with ⟨c, hc, hg⟩ | ⟨h1, h2⟩
                · exact .inl ⟨c, by simp [hc], hg⟩
                · refine .inr ⟨by simp [h1], fun j c hc => ?_⟩
                  match j with
                  | 0 => simp at hc; subst hc; exact ⟨p, hp, rfl⟩
                  | j + 1 => simp at hc; simpa using h2 j c hc
          · cases h
        · cases h
    rcases key hl hx with hg | ⟨h1, h2⟩
    · exact .inl hg
    · exact .inr ⟨us, rfl, h1, h2⟩
  · cases h

theorem zeroCol_at (v : Value) (n : Nat) : (zeroCol v n).len = n ∧ ∀ i, i < n → (zeroCol v n).at i = .raw v := by
  cases v <;> (refine ⟨by simp [zeroCol, Col.len], fun i hi => ?_⟩; simp [zeroCol, Col.at, List.getD_eq_getElem?_getD, List.getElem?_replicate, hi])

theorem eMake_ok {tl : Tab} (htl : TabOk P tl) (hr : HRel E w0 ρ H w) {t : TypeId} {l c v : V} {ul uc : Value} {H' : Heap} {b : Bool} (h : eMake H tl t l c = some (v, H', b)) (hb : b = true) (hl : VRel ρ H l ul) (hc : VRel ρ H c uc) :
    EOk P E w0 w ρ H (Instr.makeSlice t ul uc) v H' := by
  unfold eMake at h
  split at h
  · rename_i e n m hk hln hcm
    have hu : P.underlying t = some (.slice e) := kd_ok htl hk
    split at h
    · rename_i ti hti
      cases hbb : (Nat.ble 1 ti.size && Nat.beq ti.zero.length ti.size) with
      | false => rw [hbb] at h; cases h
      | true =>
        rw [hbb] at h; cases h
        rw [Bool.and_eq_true] at hbb
        have b1 := Nat.le_of_ble_eq_true hbb.1
        have b2 := Nat.eq_of_beq_eq_true hbb.2
        obtain ⟨h0, hle, hby, h62⟩ := of_decide_eq_true hb
        have rawI_ok : ∀ {x : V} {y : Value} {n : Int}, rawI x = some n → VRel ρ H x y → ∃ k, y = .int k n := by
          intro x y n hx hy
          unfold rawI at hx
          split at hx
          · cases hx; simp only [VRel, ARel] at hy; exact ⟨_, hy⟩
          · cases hx
        obtain ⟨kl, rfl⟩ := rawI_ok hln hl
        obtain ⟨kc, rfl⟩ := rawI_ok hcm hc
        obtain ⟨i, z, hi, hsz, hbt, hzz, hzc, _⟩ := (htl e ti hti).parts
        have hzs : z.cells.size = ti.size := by rw [← Array.length_toList, hzc]; exact b2
        have hrun := run_make (P := P) w t e i z hu hi hzz kl kc n m h0 hle (by rw [hbt]; omega) (by omega)
        rw [hsz] at hrun
        have hx := Ext.push hr.len ⟨w.heap.size, 0, m.toNat, true⟩ (.row e ti.size n (ti.zero.map (zeroCol · n.toNat)))
        refine ⟨_, _, _, hrun, hx, hr.push rfl rfl rfl (by simp) (fun k hk => heap_alloc_old w _ k hk) (fun _ => Nat.le_refl _) ⟨⟨h0, fun c hc => ?_, by simp [b2], b1, by simp; omega, by simp only [maxLen]; omega, by simp⟩, fun _ => ⟨_, heap_alloc_new w _, by simp [size_madeCells], fun i f c hi hf => ?_⟩⟩,
          .inr ⟨⟨w.heap.size, 0, m.toNat, true⟩, by rw [← hr.len]; simp, by simp, h0, by simp; omega, .inl ⟨rfl, _, by simp; rfl, fun _ => by simp [Pl.addr]⟩⟩⟩
        · simp at hc; obtain ⟨v, _, rfl⟩ := hc; exact (zeroCol_at v _).1
        · simp only [List.getElem?_map, Option.map_eq_some_iff] at hf
          obtain ⟨v, hv, rfl⟩ := hf
          have hfl : f < ti.size := by rw [← b2]; exact (List.getElem?_eq_some_iff.1 hv).1
          rw [(zeroCol_at v _).2 i hi]
          refine ⟨v, ?_, rfl⟩
          have hlt : i * ti.size + f < m.toNat * ti.size := by
            have : (i + 1) * ti.size ≤ m.toNat * ti.size := Nat.mul_le_mul_right _ (by omega)
            rw [Nat.add_mul] at this; omega
          have hmod : (i * ti.size + f) % ti.size = f := by rw [Nat.mul_comm, Nat.mul_add_mod]; exact Nat.mod_eq_of_lt hfl
          have hzf : z.cells[f]? = some v := by rw [← Array.getElem?_toList, hzc]; exact hv
          simp only [madeCells, Nat.zero_add, Array.getElem?_map, Array.getElem?_range, hlt, if_true, Option.map_some, hzs, hmod]
          rw [getElem!_def, hzf]
    · cases h
  · cases h

theorem eCopy_ok {tl : Tab} (htl : TabOk P tl) (hr : HRel E w0 ρ H w) {t t2 ty : TypeId} {d s v : V} {q u : Value} {H' : Heap} {b : Bool} (h : eCopy H tl t d s = some (v, H', b)) (hb : b = true) (hd : VRel ρ H d q) (hs : VRel ρ H s u) :
    EOk P E w0 w ρ H (Builtin.copy_ #[t, t2] ty #[q, u]) v H' := by
  unfold eCopy at h
  split at h
  · rename_i e id sz off len hk
    have hu : P.underlying t = some (.slice e) := kd_ok htl hk
    split at h
    · rename_i ti e' sz' n k l k2 l2 c hti hid hint
      cases hbb : (Nat.beq ti.size 1 && Nat.beq sz 1 && Nat.beq sz' 1 && decide (k = k2)) with
      | false => rw [hbb] at h; cases h
      | true =>
        rw [hbb] at h; cases h
        simp only [Bool.and_eq_true] at hbb
        obtain ⟨⟨⟨b1, b2⟩, b3⟩, b4⟩ := hbb
        have b1 := Nat.eq_of_beq_eq_true b1
        have b2 := Nat.eq_of_beq_eq_true b2
        have b3 := Nat.eq_of_beq_eq_true b3
        have b4 := of_decide_eq_true b4
        subst b2 b3 b4
        rw [Bool.and_eq_true] at hb
        obtain ⟨hc, hin⟩ := hb
        have hin' := of_decide_eq_true hin
        obtain ⟨i, z, hi, hsz, _⟩ := (htl e ti hti).parts
        have hs1 : (P.info? e).map (·.size) = some 1 := by rw [hi]; simp [hsz, b1]
        obtain ⟨a, cap, rfl, hcell⟩ := intsAt_ok hr.read hint hc hs
        obtain ⟨p, hp, hok, hreal⟩ := hr.at hid
        have hok' := hok
        obtain ⟨hn, hcl, _, _, hnc, hcm, hv⟩ := hok'
        have hl : l.length = n.toNat := hcl (.int k l) (by simp)
        obtain ⟨p', hp', s0, s1, s2, hsl⟩ := hd.resolve_left (by rw [Gone, hid]; simp)
        rw [hp] at hp'; cases hp'
        have hmin : (minI (l2.length : Int) len).toNat = Nat.min l2.length len.toNat := by
          unfold minI
          simp only [Nat.min_def]
          split <;> split <;> omega
        have hmin0 : 0 ≤ minI (l2.length : Int) len := by unfold minI; split <;> omega
        have hres : goInt (Nat.min l2.length len.toNat) = .int .i64 (minI (l2.length : Int) len) := by
          rw [← hmin]; simp [goInt, Int.toNat_of_nonneg hmin0]
        have hx : Ext ρ H ρ (H.set id (.row e' 1 n [.int k (spliceL off (minI (l2.length : Int) len).toNat l l2)])) := Ext.set hid rfl
        have hsame : Nat.min l2.length len.toNat = 0 → spliceL off (minI (l2.length : Int) len).toNat l l2 = l := by
          intro h0
          rw [hmin, h0]
          simp [spliceL, List.take_append_drop]
        by_cases hk0 : Nat.min l2.length len.toNat = 0
        · have hset : H.set id (.row e' 1 n [.int k (spliceL off (minI (l2.length : Int) len).toNat l l2)]) = H := by
            rw [hsame hk0]
            apply List.ext_getElem?
            intro j
            rw [List.getElem?_set]
            split
            · rename_i e; subst e; rw [if_pos (List.getElem?_eq_some_iff.1 hid).1, hid]
            · rfl
          rw [hset]
          have hq : ∃ d dc, q = .slice d len.toNat dc := by
            rcases hsl with ⟨_, ad, rfl, _⟩ | ⟨_, hr2, oa, rfl⟩
            · exact ⟨_, _, rfl⟩
            · exact ⟨oa, 0, by rw [show len.toNat = 0 by omega]⟩
          obtain ⟨d', dc, rfl⟩ := hq
          have hrun := run_copy_none (P := P) w t t2 ty e d' a len.toNat dc l2.length cap hu hs1 hk0
          refine ⟨_, w, ρ, hrun, Ext.refl _ _, hr, ?_⟩
          rw [← hres, hk0]; rfl
        · have hlp : 0 < len.toNat := by simp only [Nat.min_def] at hk0; split at hk0 <;> omega
          have hrl : p.real = true := by
            cases hpr : p.real with
            | true => rfl
            | false => have := hv hpr; omega
          rcases hsl with ⟨_, ad, rfl, ha⟩ | ⟨hf, _⟩
          case inr => rw [hrl] at hf; cases hf
          have haa := ha (by omega)
          subst haa
          obtain ⟨cur, hh, hfit, hcols⟩ := hreal hrl
          have hl2 : l2.length ≠ 0 := by simp only [Nat.min_def] at hk0; split at hk0 <;> omega
          obtain ⟨as, rfl, hc2⟩ := hcell hl2
          generalize hkk : Nat.min l2.length len.toNat = kk at *
          have hkl2 : kk ≤ l2.length := by rw [← hkk]; exact Nat.min_le_left _ _
          have hklen : kk ≤ len.toNat := by rw [← hkk]; exact Nat.min_le_right _ _
          have hcsl : ((l2.take kk).map (Value.int k)).length = kk := by simp; omega
          have hrun := run_copy_row P w t t2 ty e p.blk (p.off + (off.getD 0).toNat) len.toNat (p.cap - (off.getD 0).toNat) as l2.length cap cur e' ((l2.take kk).map (Value.int k)) hu hs1 hh (by rw [hcsl, hkk])
            (fun j v hj => hc2 w (HSame.of_heap rfl) j v (by
              simp only [List.getElem?_map, List.getElem?_take] at hj
              split at hj
              · simpa using hj
              · simp at hj)) (by rw [hcsl]; omega) (by intro v hv; obtain ⟨_, _, rfl⟩ := List.mem_map.1 hv; rfl)
          rw [hcsl] at hrun
          refine ⟨goInt kk, _, ρ, by rw [show p.addr ((off.getD 0).toNat * 1) = ⟨p.blk, p.off + (off.getD 0).toNat, none⟩ by simp [Pl.addr]]; exact hrun, hx, ?_, by rw [hres]; rfl⟩
          rw [hmin]
          rw [hmin] at hx
          have hspl : (spliceL off kk l l2).length = n.toNat := by simp [spliceL]; omega
          refine hr.set hp hid rfl rfl hrl rfl rfl rfl (by simp) (fun j hj => setRow_other w _ j _ hj) ⟨⟨hn, by intro c hc; simp at hc; subst hc; exact hspl, rfl, by omega, hnc, hcm, hv⟩, fun _ => ⟨_, setRow_heap w _ cur _ e' (0, 0) hh, ?_, ?_⟩⟩
          · simp [hcsl]; omega
          · intro j f c hj hf
            match f with
            | f + 1 => simp at hf
            | 0 =>
              simp at hf; subst hf
              have htake : (cur.toList.take (p.off + (off.getD 0).toNat)).length = p.off + (off.getD 0).toNat := by simp; omega
              simp only [Nat.mul_one, Nat.add_zero, List.getElem?_toArray]
              rcases Nat.lt_or_ge j (off.getD 0).toNat with h1 | h1
              · obtain ⟨y, hy, hya⟩ := hcols j 0 (.int k l) hj rfl
                refine ⟨y, ?_, ?_⟩
                · rw [List.append_assoc, List.getElem?_append_left (by omega), List.getElem?_take, if_pos (by omega)]
                  simpa using hy
                · simp only [Col.at, ARel] at hya ⊢
                  rw [hya]
                  congr 1
                  simp only [spliceL, List.getD_eq_getElem?_getD]
                  rw [List.append_assoc, List.getElem?_append_left (by simp; omega), List.getElem?_take, if_pos h1]
              · rcases Nat.lt_or_ge j ((off.getD 0).toNat + kk) with h2 | h2
                · have hj2 : j - (off.getD 0).toNat < (l2.take kk).length := by simp; omega
                  refine ⟨.int k ((l2.take kk)[j - (off.getD 0).toNat]), ?_, ?_⟩
                  · rw [List.append_assoc, List.getElem?_append_right (by omega), List.getElem?_append_left (by simp; omega)]
                    rw [htake, show p.off + j - (p.off + (off.getD 0).toNat) = j - (off.getD 0).toNat by omega]
                    rw [List.getElem?_map, List.getElem?_eq_getElem hj2]; rfl
                  · simp only [Col.at, ARel]
                    congr 1
                    simp only [spliceL, List.getD_eq_getElem?_getD]
                    rw [List.append_assoc, List.getElem?_append_right (by simp; omega), List.getElem?_append_left (by simp; omega)]
                    rw [show (l.take (off.getD 0).toNat).length = (off.getD 0).toNat by simp; omega, List.getElem?_eq_getElem hj2]; rfl
                · obtain ⟨y, hy, hya⟩ := hcols j 0 (.int k l) hj rfl
                  refine ⟨y, ?_, ?_⟩
                  · rw [List.getElem?_append_right (by simp; omega), List.getElem?_drop]
                    rw [show p.off + (off.getD 0).toNat + kk + (p.off + j - (cur.toList.take (p.off + (off.getD 0).toNat) ++ (l2.take kk).map (Value.int k)).length) = p.off + j by simp; omega]
                    simpa using hy
                  · simp only [Col.at, ARel] at hya ⊢
                    rw [hya]
                    congr 1
                    simp only [spliceL, List.getD_eq_getElem?_getD]
                    rw [List.getElem?_append_right (by simp; omega), List.getElem?_drop]
                    rw [show (off.getD 0).toNat + kk + (j - (l.take (off.getD 0).toNat ++ l2.take kk).length) = j by simp; omega]
    · cases h
  · cases h
end
end Go.Sx

namespace Go.Sx
open Go

def nMakeIface (H : Heap) (tl : Tab) (t : TypeId) (x : V) : Option V :=
  match kd tl t, x with
  | some (.ptr _), .at (.ptr id o) => bif alive H id then some (.at (.iface t id o)) else none
  | _, _ => none
def zeroPtr (tl : Tab) (t : Nat) : Bool :=
  match lk tl t with
  | some { kind := .ptr _, zero := [.pointer none], .. } => true
  | _ => false
def nAssert (H : Heap) (tl : Tab) (x : V) (t : TypeId) (ok : Bool) : Option V :=
  match kd tl t, x with
  | some (.ptr _), .at (.iface t' id o) =>
    bif alive H id then
      bif Nat.beq t' t then some (bif ok then .tup [.at (.ptr id o), .at (.raw (.bool true))] else .at (.ptr id o))
      else (bif ok && zeroPtr tl t then some (.tup [.at (.raw (.pointer none)), .at (.raw (.bool false))]) else none)
    else none
  | some (.ptr _), .at (.raw .nilIface) => bif ok && zeroPtr tl t then some (.tup [.at (.raw (.pointer none)), .at (.raw (.bool false))]) else none
  | _, _ => none
def nIfEq (H : Heap) (tl : Tab) (op : BinOp) (t : TypeId) (x : V) (y : Operand) : Option V :=
  match y with
  | .const .nilIface =>
    match op, kd tl t, x with
    | .eql, some .iface, .at (.iface _ id _) => bif alive H id then some (.at (.raw (.bool false))) else none
    | .neq, some .iface, .at (.iface _ id _) => bif alive H id then some (.at (.raw (.bool true))) else none
    | .eql, some .iface, .at (.raw .nilIface) => some (.at (.raw (.bool true)))
    | .neq, some .iface, .at (.raw .nilIface) => some (.at (.raw (.bool false)))
    | _, _, _ => none
  | _ => none

section
variable {P : Program} {E : Nat → Prop} {w0 w : World} {ρ : List Pl} {H : Heap}

theorem nMakeIface_ok {tl : Tab} (htl : TabOk P tl) {t : TypeId} {x v : V} {u : Value} (h : nMakeIface H tl t x = some v) (hx : VRel ρ H x u) : ∃ y, VRel ρ H v y ∧ ∀ w' : World, (Instr.makeInterface t u).run P w' = .ok y w' := by
  unfold nMakeIface at h
  split at h
  · rename_i e id o hk
    have hu : P.underlying t = some (.pointer e) := kd_ok htl hk
    cases ha : alive H id with
    | false => rw [ha] at h; cases h
    | true =>
      rw [ha] at h; cases h
      obtain ⟨p, hp, rfl⟩ := hx.resolve_left (not_gone ha)
      exact ⟨_, .inr ⟨p, hp, rfl⟩, fun w' => by simp [Instr.makeInterface, run_underlying hu]⟩
  · cases h
theorem zeroPtr_ok {tl : Tab} (htl : TabOk P tl) {t : Nat} (h : zeroPtr tl t = true) (w : World) : (zeroValue t).run P w = .ok (.pointer none) w := by
  unfold zeroPtr at h
  split at h
  · rename_i e sz bs hl
    obtain ⟨z, hz, h1, hr⟩ := (htl t _ hl).zero_run
    have := h1 rfl
    simp only [List.cons.injEq, and_true] at this
    rw [hr, ← this]
  · cases h
theorem two_rel {a b : A} {u v : Value} (ha : ARel ρ H a u) (hb : ARel ρ H b v) : VRel ρ H (.tup [.at a, .at b]) (.tuple #[u, v]) :=
  ⟨[u, v], rfl, rfl, fun j x y hx hy => by
    match j with
    | 0 => simp at hx hy; subst hx hy; exact ha
    | 1 => simp at hx hy; subst hx hy; exact hb
    | j + 2 => simp at hx⟩
theorem nAssert_ok {tl : Tab} (htl : TabOk P tl) {t xt : TypeId} {ok : Bool} {x v : V} {u : Value} (h : nAssert H tl x t ok = some v) (hx : VRel ρ H x u) : ∃ y, VRel ρ H v y ∧ ∀ w' : World, (Instr.typeAssert u xt t ok).run P w' = .ok y w' := by
  unfold nAssert at h
  split at h
  · rename_i e t' id o hk
    have hu : P.underlying t = some (.pointer e) := kd_ok htl hk
    cases ha : alive H id with
    | false => rw [ha] at h; cases h
    | true =>
      rw [ha] at h
      simp only [cond_true] at h
      obtain ⟨p, hp, rfl⟩ := hx.resolve_left (not_gone ha)
      cases hb : Nat.beq t' t with
      | true =>
        have e' := Nat.eq_of_beq_eq_true hb
        subst e'
        rw [hb] at h
        cases ok with
        | true =>
          cases h
          exact ⟨_, two_rel (.inr ⟨p, hp, rfl⟩) rfl, fun w' => by simp [Instr.typeAssert, run_underlying hu]⟩
        | false =>
          cases h
          exact ⟨_, .inr ⟨p, hp, rfl⟩, fun w' => by simp [Instr.typeAssert, run_underlying hu]⟩
      | false =>
        have e' : ¬ t' = t := fun e => by subst e; simp at hb
        rw [hb] at h
        cases hz : (ok && zeroPtr tl t) with
        | false => rw [hz] at h; cases h
        | true =>
          rw [hz] at h; cases h
          rw [Bool.and_eq_true] at hz
          obtain ⟨rfl, hz⟩ := hz
          exact ⟨_, two_rel rfl rfl, fun w' => by simp [Instr.typeAssert, run_underlying hu, e', zeroPtr_ok htl hz]⟩
  · rename_i e hk
    have hu : P.underlying t = some (.pointer e) := kd_ok htl hk
    simp only [VRel, ARel] at hx
    subst hx
    cases hz : (ok && zeroPtr tl t) with
    | false => rw [hz] at h; cases h
    | true =>
      rw [hz] at h; cases h
      rw [Bool.and_eq_true] at hz
      obtain ⟨rfl, hz⟩ := hz
      exact ⟨_, two_rel rfl rfl, fun w' => by simp [Instr.typeAssert, run_underlying hu, zeroPtr_ok htl hz]⟩
  · cases h
theorem equalIn_if {t t' : TypeId} {q : Value} {ms : Array (String × TypeId)} (hu : P.underlying t = some (.interface ms)) (d : Nat) (w' : World) : (Op.equalIn (d + 1) t (.iface t' q) .nilIface).run P w' = .ok false w' := by
  unfold Op.equalIn; simp [run_underlying hu]
theorem equalIn_nn {t : TypeId} {ms : Array (String × TypeId)} (hu : P.underlying t = some (.interface ms)) (d : Nat) (w' : World) : (Op.equalIn (d + 1) t .nilIface .nilIface).run P w' = .ok true w' := by
  unfold Op.equalIn; simp [run_underlying hu]
theorem nIfEq_ok {tl : Tab} (htl : TabOk P tl) {op : BinOp} {t : TypeId} {x v : V} {ox y : Operand} {u z : Value} (h : nIfEq H tl op t x y = some v) (hx : VRel ρ H x u) (hz : y = .const z ∨ ∀ c, y ≠ .const c) :
    ∃ r, VRel ρ H v r ∧ ∀ w' : World, (do eqGuard op t ox y u z; binOp op t u z : Sem Value).run P w' = .ok r w' := by
  unfold nIfEq at h
  split at h
  · obtain rfl : z = .nilIface := by
      rcases hz with hz | hz
      · cases hz; rfl
      · exact absurd rfl (hz _)
    split at h
    · rename_i t' id o hk
      obtain ⟨ms, hu⟩ : ∃ ms, P.underlying t = some (.interface ms) := kd_ok htl hk
      cases ha : alive H id with
      | false => rw [ha] at h; cases h
      | true =>
        rw [ha] at h; cases h
        obtain ⟨p, hp, rfl⟩ := hx.resolve_left (not_gone ha)
        exact ⟨_, rfl, fun w' => by
          have := equalIn_if (P := P) (t' := t') (q := .pointer (some (p.addr o))) hu 9999 w'
          simp [eqGuard, binOp, Op.equal, Op.maxDepth, this]⟩
    · rename_i t' id o hk
      obtain ⟨ms, hu⟩ : ∃ ms, P.underlying t = some (.interface ms) := kd_ok htl hk
      cases ha : alive H id with
      | false => rw [ha] at h; cases h
      | true =>
        rw [ha] at h; cases h
        obtain ⟨p, hp, rfl⟩ := hx.resolve_left (not_gone ha)
        exact ⟨_, rfl, fun w' => by
          have := equalIn_if (P := P) (t' := t') (q := .pointer (some (p.addr o))) hu 9999 w'
          simp [eqGuard, binOp, Op.equal, Op.maxDepth, this]⟩
    · rename_i hk
      obtain ⟨ms, hu⟩ : ∃ ms, P.underlying t = some (.interface ms) := kd_ok htl hk
      cases h
      simp only [VRel, ARel] at hx
      subst hx
      exact ⟨_, rfl, fun w' => by
        have := equalIn_nn (P := P) hu 9999 w'
        simp [eqGuard, binOp, Op.equal, Op.maxDepth, this]⟩
    · rename_i hk
      obtain ⟨ms, hu⟩ : ∃ ms, P.underlying t = some (.interface ms) := kd_ok htl hk
      cases h
      simp only [VRel, ARel] at hx
      subst hx
      exact ⟨_, rfl, fun w' => by
        have := equalIn_nn (P := P) hu 9999 w'
        simp [eqGuard, binOp, Op.equal, Op.maxDepth, this]⟩
    · cases h
  · cases h
end
end Go.Sx

namespace Go.Sx
open Go

def wipeL {α : Type} (o k : Nat) (l : List α) (x : α) : List α := l.take o ++ List.replicate k x ++ l.drop (o + k)
def clearCol (o k : Nat) (c : Col) (z : Value) : Option Col :=
  match c, z with
  | .int kk l, .int k' n => bif decide (kk = k') then some (.int kk (wipeL o k l n)) else none
  | .bool l, .bool b => some (.bool (wipeL o k l b))
  | .str l, .string s => some (.str (wipeL o k l s))
  | _, _ => none
def clearCols (o k : Nat) : List Col → List Value → Option (List Col)
  | [], [] => some []
  | c :: cs, z :: zs => match clearCol o k c z, clearCols o k cs zs with | some c', some cs' => some (c' :: cs') | _, _ => none
  | _, _ => none
def eClear (H : Heap) (tl : Tab) (t : TypeId) (s : V) : Option (Heap × Bool) :=
  match kd tl t, s with
  | some (.sl e), .at (.sl id sz off len) =>
    match lk tl e, H[id]? with
    | some ti, some (.row e' sz' n cols) =>
      bif Nat.beq ti.size sz && Nat.beq sz sz' then
        match clearCols (off.getD 0).toNat len.toNat cols ti.zero with
        | some cols' => some (H.set id (.row e' sz' n cols'), rowIn off len n)
        | none => none
      else none
    | _, _ => none
  | some (.sl _), .at (.raw (.slice none 0 0)) => some (H, true)
  | _, _ => none

section
variable {P : Program} {E : Nat → Prop} {w0 w : World} {ρ : List Pl} {H : Heap}

theorem wipeL_at {α : Type} {o k : Nat} {l : List α} {x d : α} (h : o + k ≤ l.length) : (wipeL o k l x).length = l.length ∧ ∀ j, j < l.length → (wipeL o k l x).getD j d = if o ≤ j ∧ j < o + k then x else l.getD j d := by
  refine ⟨by simp [wipeL]; omega, fun j hj => ?_⟩
  unfold wipeL
  simp only [List.getD_eq_getElem?_getD]
  rcases Nat.lt_or_ge j o with h1 | h1
  · rw [if_neg (by omega), List.append_assoc, List.getElem?_append_left (by simp; omega), List.getElem?_take, if_pos h1]
  · rcases Nat.lt_or_ge j (o + k) with h2 | h2
    · rw [if_pos ⟨h1, h2⟩, List.append_assoc, List.getElem?_append_right (by simp; omega), List.getElem?_append_left (by simp; omega), List.getElem?_replicate]
      have : (l.take o).length = o := by simp; omega
      rw [this, if_pos (by omega)]
      rfl
    · rw [if_neg (by omega), List.getElem?_append_right (by simp; omega), List.getElem?_drop]
      have : (l.take o ++ List.replicate k x).length = o + k := by simp; omega
      rw [this, show o + k + (j - (o + k)) = j by omega]
theorem wipeL_zero {α : Type} {o : Nat} {l : List α} {x : α} : wipeL o 0 l x = l := by simp [wipeL]
theorem clearCol_ok {o k : Nat} {c c' : Col} {z : Value} (h : clearCol o k c z = some c') (hk : o + k ≤ c.len) : c'.len = c.len ∧ z.oneCell' = true ∧ ∀ j, j < c.len → c'.at j = if o ≤ j ∧ j < o + k then .raw z else c.at j := by
  unfold clearCol at h
  split at h
  · rename_i kk l k' n
    by_cases e : kk = k'
    · subst e
      simp only [decide_true, cond_true, Option.some.injEq] at h
      subst h
      obtain ⟨h1, h2⟩ := wipeL_at (x := n) (d := 0) hk
      refine ⟨h1, rfl, fun j hj => ?_⟩
      simp only [Col.at, h2 j hj]
      split <;> rfl
    · simp [e] at h
  · rename_i l b
    cases h
    obtain ⟨h1, h2⟩ := wipeL_at (x := b) (d := false) hk
    refine ⟨h1, rfl, fun j hj => ?_⟩
    simp only [Col.at, h2 j hj]
    split <;> rfl
  · rename_i l b
    cases h
    obtain ⟨h1, h2⟩ := wipeL_at (x := b) (d := ByteArray.empty) hk
    refine ⟨h1, rfl, fun j hj => ?_⟩
    simp only [Col.at, h2 j hj]
    split <;> rfl
  · cases h
theorem clearCol_zero {o : Nat} {c c' : Col} {z : Value} (h : clearCol o 0 c z = some c') : c' = c := by
  unfold clearCol at h
  split at h
  · rename_i kk l k' n
    by_cases e : kk = k'
    · subst e
      simp only [decide_true, cond_true, Option.some.injEq] at h
      rw [← h, wipeL_zero]
    · simp [e] at h
  · cases h; rw [wipeL_zero]
  · cases h; rw [wipeL_zero]
  · cases h
theorem clearCols_zero {o : Nat} : ∀ {cs cs' : List Col} {zs : List Value}, clearCols o 0 cs zs = some cs' → cs' = cs
  | [], cs', [], h => by simp only [clearCols, Option.some.injEq] at h; exact h.symm
  | [], _, _ :: _, h => by simp [clearCols] at h
  | _ :: _, _, [], h => by simp [clearCols] at h
  | c :: cs, cs', z :: zs, h => by
    simp only [clearCols] at h
    split at h
    · rename_i c1 cs1 h1 h2
      cases h
      rw [clearCol_zero h1, clearCols_zero h2]
    · cases h
theorem clearCols_ok {o k : Nat} : ∀ {cs cs' : List Col} {zs : List Value}, clearCols o k cs zs = some cs' → (∀ c ∈ cs, o + k ≤ c.len) → cs'.length = cs.length ∧ zs.length = cs.length ∧ (∀ z ∈ zs, z.oneCell' = true) ∧
    ∀ (f : Nat) (c' : Col), cs'[f]? = some c' → ∃ c z, cs[f]? = some c ∧ zs[f]? = some z ∧ c'.len = c.len ∧ ∀ j, j < c.len → c'.at j = if o ≤ j ∧ j < o + k then .raw z else c.at j
  | [], cs', [], h, _ => by
    simp only [clearCols, Option.some.injEq] at h
    subst h
    exact ⟨rfl, rfl, by simp, fun f c' hc => by simp at hc⟩
  | [], _, _ :: _, h, _ => by simp [clearCols] at h
  | _ :: _, _, [], h, _ => by simp [clearCols] at h
  | c :: cs, cs', z :: zs, h, hl => by
    simp only [clearCols] at h
    split at h
    · rename_i c1 cs1 h1 h2
      cases h
      obtain ⟨a1, a2, a3⟩ := clearCol_ok h1 (hl c (by simp))
      obtain ⟨b1, b2, b3, b4⟩ := clearCols_ok h2 fun d hd => hl d (by simp [hd])
      refine ⟨by simp [b1], by simp [b2], fun y hy => ?_, fun f c' hc => ?_⟩
      · rcases List.mem_cons.1 hy with rfl | hy
        · exact a2
        · exact b3 y hy
      · match f with
        | 0 => simp at hc; subst hc; exact ⟨c, z, rfl, rfl, a1, a3⟩
        | f + 1 => obtain ⟨d, y, d1, d2, d3⟩ := b4 f c' (by simpa using hc); exact ⟨d, y, by simpa using d1, by simpa using d2, d3⟩
    · cases h
theorem zeroCells_get (zc : Array Value) (n i : Nat) (h : i < n * zc.size) : (Builtin.zeroCells zc n)[i]? = some (zc[i % zc.size]!) := by
  simp [Builtin.zeroCells, h]

theorem eClear_ok {tl : Tab} (htl : TabOk P tl) (hr : HRel E w0 ρ H w) {t ty : TypeId} {s : V} {q : Value} {H' : Heap} {c : Bool} (h : eClear H tl t s = some (H', c)) (hc : c = true) (hs : VRel ρ H s q) :
    ∃ w', (Builtin.clear_ #[t] ty #[q]).run P w = .ok (.tuple #[]) w' ∧ Ext ρ H ρ H' ∧ HRel E w0 ρ H' w' := by
  unfold eClear at h
  split at h
  · rename_i e id sz off len hk
    have hu : P.underlying t = some (.slice e) := kd_ok htl hk
    split at h
    · rename_i ti e' sz' n cols hti hid
      cases hb : (Nat.beq ti.size sz && Nat.beq sz sz') with
      | false => rw [hb] at h; cases h
      | true =>
        rw [hb] at h
        simp only [cond_true] at h
        rw [Bool.and_eq_true] at hb
        have b1 := Nat.eq_of_beq_eq_true hb.1
        have b2 := Nat.eq_of_beq_eq_true hb.2
        subst b2
        split at h
        · rename_i cols' hcols
          cases h
          have hin := of_decide_eq_true hc
          obtain ⟨p, hp, hok, hreal⟩ := hr.at hid
          obtain ⟨hn, hcl, hcn, hs0, hnc, hcm, hv⟩ := hok
          obtain ⟨p', hp', s0, s1, s2, hsl⟩ := hs.resolve_left (by rw [Gone, hid]; simp)
          rw [hp] at hp'; cases hp'
          by_cases hk0 : len.toNat = 0
          · rw [hk0] at hcols
            have e1 := clearCols_zero hcols
            subst e1
            have hset : H.set id (.row e' sz n cols') = H := by
              apply List.ext_getElem?
              intro j
              rw [List.getElem?_set]
              split
              · rename_i e; subst e; rw [if_pos (List.getElem?_eq_some_iff.1 hid).1, hid]
              · rfl
            rw [hset]
            refine ⟨w, ?_, Ext.refl _ _, hr⟩
            have hq : ∃ d dc, q = .slice d 0 dc := by
              rcases hsl with ⟨_, ad, rfl, _⟩ | ⟨_, hr2, oa, rfl⟩
              · exact ⟨_, _, by rw [hk0]⟩
              · exact ⟨oa, 0, rfl⟩
            obtain ⟨d, dc, rfl⟩ := hq
            cases d <;> simp [Builtin.clear_, run_underlying hu]
          · have hrl : p.real = true := by
              cases hpr : p.real with
              | true => rfl
              | false => have := hv hpr; omega
            rcases hsl with ⟨_, ad, rfl, ha⟩ | ⟨hf, _⟩
            case inr => rw [hrl] at hf; cases hf
            have haa := ha (by omega)
            subst haa
            obtain ⟨cur, hh, hfit, hco⟩ := hreal hrl
            generalize ho : (off.getD 0).toNat = o at *
            generalize hkk : len.toNat = k at *
            have hon : o + k ≤ n.toNat := by omega
            obtain ⟨c1, c2, c3, c4⟩ := clearCols_ok hcols fun d hd => by rw [hcl d hd]; exact hon
            obtain ⟨z, hz, _, hzr⟩ := (htl e ti hti).zero_run
            have hzs : z.cells.size = sz := by have := congrArg List.length hz; simp at this; omega
            have hlen : (Builtin.zeroCells z.cells k).toList.length = k * sz := by simp [Builtin.zeroCells, hzs]
            have hfitk : p.off + o * sz + k * sz ≤ cur.size := by
              have : (o + k) * sz ≤ p.cap * sz := Nat.mul_le_mul_right _ (by omega)
              rw [Nat.add_mul] at this; omega
            have hzc : ∀ i, i < k * sz → (Builtin.zeroCells z.cells k).toList[i]? = some (ti.zero.getD (i % sz) undef) := by
              intro i hi
              have := zeroCells_get z.cells k i (by rw [hzs]; exact hi)
              rw [hzs] at this
              have hm : i % sz < z.cells.size := by rw [hzs]; exact Nat.mod_lt _ hs0
              rw [getElem!_pos z.cells _ hm] at this
              rw [← hz]
              simp only [List.getD_eq_getElem?_getD]
              have e2 : z.cells.toList[i % sz]? = some z.cells[i % sz] := by rw [Array.getElem?_toList]; exact Array.getElem?_eq_getElem hm
              rw [e2, Option.getD_some, Array.getElem?_toList]
              exact this
            have hone : ∀ v ∈ (Builtin.zeroCells z.cells k).toList, v.oneCell' = true := by
              intro v hv'
              obtain ⟨i, hi, rfl⟩ := List.getElem_of_mem hv'
              have hi' : i < k * sz := by rw [← hlen]; exact hi
              have h1 := hzc i hi'
              rw [List.getElem?_eq_getElem hi] at h1
              have h2 : i % sz < ti.zero.length := by rw [c2, hcn]; exact Nat.mod_lt _ hs0
              rw [List.getD_eq_getElem?_getD, List.getElem?_eq_getElem h2] at h1
              simp only [Option.getD_some, Option.some.injEq] at h1
              rw [h1]
              exact c3 _ (List.getElem_mem h2)
            have hst := run_storeCells_at P p.blk (p.off + o * sz) e' (Builtin.zeroCells z.cells k).toList 0 cur w hh (by rw [hlen]; omega) hone
            rw [Nat.add_zero, hlen] at hst
            have hx : Ext ρ H ρ (H.set id (.row e' sz n cols')) := Ext.set hid rfl
            refine ⟨w.setRow p.blk (cur.toList.take (p.off + o * sz) ++ (Builtin.zeroCells z.cells k).toList ++ cur.toList.drop (p.off + o * sz + k * sz)).toArray, ?_, hx, ?_⟩
            · obtain ⟨m, rfl⟩ : ∃ m, k = m + 1 := ⟨k - 1, by omega⟩
              have hpa : p.addr (o * sz) = ⟨p.blk, p.off + o * sz, none⟩ := by simp [Pl.addr]
              simp [Builtin.clear_, run_underlying hu, hzr, hpa, hst]
            · refine hr.set hp hid rfl rfl hrl rfl rfl rfl (by simp) (fun j hj => setRow_other w _ j _ hj) ⟨⟨hn, ?_, by rw [c1, hcn], hs0, hnc, hcm, hv⟩, fun _ => ⟨_, setRow_heap w _ cur _ e' (0, 0) hh, ?_, ?_⟩⟩
              · intro c' hc'
                obtain ⟨g, hg, hge⟩ := List.getElem_of_mem hc'
                obtain ⟨d, y, d1, d2, d3, _⟩ := c4 g c' (by rw [List.getElem?_eq_getElem hg, hge])
                rw [d3]
                exact hcl d (List.mem_of_getElem? d1)
              · simp [hlen]; omega
              · intro j f c' hj hf
                obtain ⟨d, y, d1, d2, d3, d4⟩ := c4 f c' hf
                have hdl : d.len = n.toNat := hcl d (List.mem_of_getElem? d1)
                have hfs : f < sz := by rw [← hcn]; exact (List.getElem?_eq_some_iff.1 d1).1
                rw [d4 j (by omega)]
                have htake : (cur.toList.take (p.off + o * sz)).length = p.off + o * sz := by simp; omega
                simp only [List.getElem?_toArray]
                by_cases hcase : o ≤ j ∧ j < o + k
                · rw [if_pos hcase]
                  have hj1 : (j - o) * sz + f < k * sz := by
                    have : (j - o + 1) * sz ≤ k * sz := Nat.mul_le_mul_right _ (by omega)
                    rw [Nat.add_mul] at this; omega
                  have hpos : p.off + j * sz + f = (p.off + o * sz) + ((j - o) * sz + f) := by
                    have : j * sz = o * sz + (j - o) * sz := by rw [← Nat.add_mul]; congr 1; omega
                    omega
                  refine ⟨y, ?_, rfl⟩
                  rw [hpos, List.append_assoc, List.getElem?_append_right (by omega), List.getElem?_append_left (by rw [hlen]; omega), htake, show p.off + o * sz + ((j - o) * sz + f) - (p.off + o * sz) = (j - o) * sz + f by omega, hzc _ hj1]
                  have hmod : ((j - o) * sz + f) % sz = f := by rw [Nat.mul_comm, Nat.mul_add_mod, Nat.mod_eq_of_lt hfs]
                  rw [hmod, List.getD_eq_getElem?_getD, d2]
                  rfl
                · rw [if_neg hcase]
                  obtain ⟨x, hx1, hx2⟩ := hco j f d hj d1
                  refine ⟨x, ?_, hx2.ext hx⟩
                  rcases Nat.lt_or_ge j o with h1 | h1
                  · have : (j + 1) * sz ≤ o * sz := Nat.mul_le_mul_right _ h1
                    rw [Nat.add_mul] at this
                    rw [List.append_assoc, List.getElem?_append_left (by omega), List.getElem?_take, if_pos (by omega)]
                    simpa using hx1
                  · have hge : (o + k) * sz ≤ j * sz := Nat.mul_le_mul_right _ (by omega)
                    rw [Nat.add_mul] at hge
                    rw [List.getElem?_append_right (by simp [hlen]; omega), List.getElem?_drop]
                    rw [show (cur.toList.take (p.off + o * sz) ++ (Builtin.zeroCells z.cells k).toList).length = p.off + o * sz + k * sz by rw [List.length_append, htake, hlen]]
                    rw [show p.off + o * sz + k * sz + (p.off + j * sz + f - (p.off + o * sz + k * sz)) = p.off + j * sz + f by omega]
                    simpa using hx1
        · cases h
    · cases h
  · rename_i hk
    cases h
    simp only [VRel, ARel] at hs
    subst hs
    have hu := kd_ok htl hk
    exact ⟨w, by simp [Builtin.clear_, run_underlying hu], Ext.refl _ _, hr⟩
  · cases h
end
end Go.Sx

namespace Go.Sx
open Go

def FnOk (P : Program) (f : FuncId) : Prop := ∃ fn, P.funcs[f]? = some fn ∧ (fn.name == "runtime.NumGoroutine") = false ∧ fn.body.isNone = false

def nOp (tl : Tab) (H : Heap) (fr : Fr) (op : Op) : Option (V × Bool) :=
  match op with
  | .move x => some (ev fr x, true)
  | .assign x => some (ev fr x, true)
  | .nilCheck x =>
    match ev fr x with
    | .at (.ptr id o) => bif alive H id then some (.at (.ptr id o), true) else none
    | .at (.eptr id sz i f) => bif alive H id then some (.at (.eptr id sz i f), true) else none
    | .at (.iface t id o) => bif alive H id then some (.at (.iface t id o), true) else none
    | _ => none
  | .binOp o t x y _ => match nIfEq H tl o t (ev fr x) y with | some v => some (v, true) | none => (match nBin H tl o t (ev fr x) (ev fr y) with | some (v, c) => some (v, c) | none => none)
  | .unOp o _ x => match nUn o (ev fr x) with | some v => some (v, true) | none => none
  | .convert s d x => match nConv tl s d (ev fr x) with | some v => some (v, true) | none => (match nStr H tl s d (ev fr x) with | some (v, c) => some (v, c) | none => none)
  | .makeFunc fn ⟨first⟩ ⟨caps⟩ => match nFunc fn (first.map (ev fr)) (caps.map (ev fr)) with | some v => some (v, true) | none => none
  | .extract x i => match nExtract (ev fr x) i with | some v => some (v, true) | none => none
  | .field t x f => match nField tl t (ev fr x) f with | some v => some (v, true) | none => none
  | .fieldAddr t x f => match nFieldAddr H tl t (ev fr x) f with | some v => some (v, true) | none => none
  | .index t x i => match nIndex tl t (ev fr x) (ev fr i) with | some (v, c) => some (v, c) | none => none
  | .indexAddr t x i => match nIndexAddr H tl t (ev fr x) (ev fr i) with | some (v, c) => some (v, c) | none => none
  | .slice t x lo hi none => match nSlice H tl t (ev fr x) (lo.map (ev fr)) (hi.map (ev fr)) with | some (v, c) => some (v, c) | none => none
  | .load t x => match nLoad tl H t (ev fr x) with | some (v, c) => some (v, c) | none => none
  | .build t ⟨ps⟩ => match nBuild H tl t (ps.map fun x => (x.1, ev fr x.2)) with | some v => some (v, true) | none => none
  | .lookup t m k ok => match nLookup H tl t (ev fr m) (ev fr k) ok with | some v => some (v, true) | none => none
  | .call { callee := .builtin .len, args := ⟨[x]⟩, argTypes := ⟨[t]⟩ } => match nLen H tl t (ev fr x) with | some v => some (v, true) | none => none
  | .call { callee := .builtin .max, args := ⟨xs⟩, .. } => match nMM maxI (xs.map (ev fr)) with | some v => some (v, true) | none => none
  | .call { callee := .builtin .min, args := ⟨xs⟩, .. } => match nMM minI (xs.map (ev fr)) with | some v => some (v, true) | none => none
  | .makeInterface t x => match nMakeIface H tl t (ev fr x) with | some v => some (v, true) | none => none
  | .typeAssert x _ t ok => match nAssert H tl (ev fr x) t ok with | some v => some (v, true) | none => none
  | _ => none

/-- The objects that an operation reads. -/
def rdIds (fr : Fr) (op : Op) : List Nat :=
  match op with
  | .load _ x => idsV (ev fr x)
  | .lookup _ m _ _ => idsV (ev fr m)
  | .convert _ _ x => idsV (ev fr x)
  | .call { callee := .builtin .len, args := ⟨[x]⟩, .. } => idsV (ev fr x)
  | _ => []
section
variable {P : Program} {E : Nat → Prop} {w0 w : World} {ρ : List Pl} {H : Heap} {n : Nat} {fr : Fr} {a : Act}

theorem evs_rel (h : FRel n ρ H fr a) : ∀ xs : List Operand, VsRel ρ H (xs.map (ev fr)) (xs.map a.eval)
  | [] => .nil
  | x :: xs => .cons (ev_rel h x) (evs_rel h xs)

theorem callFunc_enter {f : FuncId} (h : FnOk P f) (args : Array Value) (w : World) : (callFunc f args).run P w = .ok (.enter f args) w := by
  obtain ⟨fn, h1, h2, h3⟩ := h
  simp only [callFunc, Sem.run_bind, run_program, Result.andThen_ok, h1, h2, h3, Bool.false_eq_true, if_false]
  rfl

theorem nOp_ok {tl : Tab} (htl : TabOk P tl) (hr : HRead ρ H w) (hf : FRel n ρ H fr a) {o : Oper} {v : V} {c : Bool} (h : nOp tl H fr o.op = some (v, c)) (hc : c = true) : NOk P ρ H (rdIds fr o.op) o a w v := by
  have val : ∀ {s : Sem Value} {y : Value} {w' : World}, execOp a.eval o = (do pure (.value (← s))) → s.run P w' = .ok y w' → QRun P o a w' y := by
    intro s y w' he hs
    unfold QRun
    rw [he]
    simp [hs]
  unfold nOp at h
  split at h
  case h_1 x ho =>
    cases h
    exact ⟨a.eval x, ev_rel hf x, fun w' _ => (show QRun P o a w' _ by unfold QRun execOp; rw [ho]; rfl)⟩
  case h_2 x ho =>
    cases h
    exact ⟨a.eval x, ev_rel hf x, fun w' _ => (show QRun P o a w' _ by unfold QRun execOp; rw [ho]; rfl)⟩
  case h_3 x ho =>
    have hb := ev_rel hf x
    split at h
    · rename_i id o' hx
      cases ha : alive H id with
      | false => rw [ha] at h; cases h
      | true =>
        rw [ha] at h; cases h
        rw [hx] at hb
        obtain ⟨p, hp, hu⟩ := hb.resolve_left (not_gone ha)
        exact ⟨a.eval x, hb, fun w' _ => (show QRun P o a w' _ by unfold QRun execOp; rw [ho]; simp [hu])⟩
    · rename_i id sz i f hx
      cases ha : alive H id with
      | false => rw [ha] at h; cases h
      | true =>
        rw [ha] at h; cases h
        rw [hx] at hb
        obtain ⟨p, hp, hu⟩ := hb.resolve_left (not_gone ha)
        exact ⟨a.eval x, hb, fun w' _ => (show QRun P o a w' _ by unfold QRun execOp; rw [ho]; simp [hu])⟩
    · rename_i t id o' hx
      cases ha : alive H id with
      | false => rw [ha] at h; cases h
      | true =>
        rw [ha] at h; cases h
        rw [hx] at hb
        obtain ⟨p, hp, hu⟩ := hb.resolve_left (not_gone ha)
        exact ⟨a.eval x, hb, fun w' _ => (show QRun P o a w' _ by unfold QRun execOp; rw [ho]; simp [hu])⟩
    · cases h
  case h_4 op t x y yt ho =>
    split at h
    · rename_i v' hv
      cases h
      obtain ⟨y', h1, h2⟩ := nIfEq_ok (ox := x) (z := a.eval y) htl hv (ev_rel hf x) (by
        cases y with
        | const c => exact .inl rfl
        | _ => exact .inr fun c h => by cases h)
      exact ⟨y', h1, fun w' _ => val (by unfold execOp; rw [ho]) (h2 w')⟩
    · split at h
      · rename_i v' c' hv
        cases h
        obtain ⟨y', h1, h2⟩ := nBin_ok (ox := x) (oy := y) htl hv hc (ev_rel hf x) (ev_rel hf y)
        exact ⟨y', h1, fun w' _ => val (by unfold execOp; rw [ho]) (h2 w')⟩
      · cases h
  case h_5 op t x ho =>
    split at h
    · rename_i v' hv
      cases h
      obtain ⟨y', h1, h2⟩ := nUn_ok hv (ev_rel hf x)
      exact ⟨y', h1, fun w' _ => val (by unfold execOp; rw [ho]) (h2 w')⟩
    · cases h
  case h_6 s d x ho =>
    split at h
    · rename_i v' hv
      cases h
      obtain ⟨y', h1, h2⟩ := nConv_ok htl hv (ev_rel hf x)
      exact ⟨y', h1, fun w' _ => val (by unfold execOp; rw [ho]) (h2 w')⟩
    · split at h
      · rename_i v' c' hv
        cases h
        obtain ⟨y', h1, h2⟩ := nStr_ok htl hr hv hc (ev_rel hf x)
        exact ⟨y', h1, fun w' hw => val (by unfold execOp; rw [ho]) (h2 w' (by rw [ho] at hw; exact hw))⟩
      · cases h
  case h_7 fn first caps ho =>
    split at h
    · rename_i v' hv
      cases h
      obtain ⟨y', h1, h2⟩ := nFunc_ok (P := P) hv (evs_rel hf first) (evs_rel hf caps)
      exact ⟨y', h1, fun w' _ => val (by unfold execOp; rw [ho]; simp) (h2 w')⟩
    · cases h
  case h_8 x i ho =>
    split at h
    · rename_i v' hv
      cases h
      obtain ⟨y', h1, h2⟩ := nExtract_ok (P := P) hv (ev_rel hf x)
      exact ⟨y', h1, fun w' _ => val (by unfold execOp; rw [ho]) (h2 w')⟩
    · cases h
  case h_9 t x f ho =>
    split at h
    · rename_i v' hv
      cases h
      obtain ⟨y', h1, h2⟩ := nField_ok htl hv (ev_rel hf x)
      exact ⟨y', h1, fun w' _ => val (by unfold execOp; rw [ho]) (h2 w')⟩
    · cases h
  case h_10 t x f ho =>
    split at h
    · rename_i v' hv
      cases h
      obtain ⟨y', h1, h2⟩ := nFieldAddr_ok htl hv (ev_rel hf x)
      exact ⟨y', h1, fun w' _ => val (by unfold execOp; rw [ho]) (h2 w')⟩
    · cases h
  case h_11 t x i ho =>
    split at h
    · rename_i v' c' hv
      cases h
      obtain ⟨y', h1, h2⟩ := nIndex_ok htl hv hc (ev_rel hf x) (ev_rel hf i)
      exact ⟨y', h1, fun w' _ => val (by unfold execOp; rw [ho]) (h2 w')⟩
    · cases h
  case h_12 t x i ho =>
    split at h
    · rename_i v' c' hv
      cases h
      obtain ⟨y', h1, h2⟩ := nIndexAddr_ok htl hv hc (ev_rel hf x) (ev_rel hf i)
      exact ⟨y', h1, fun w' _ => val (by unfold execOp; rw [ho]) (h2 w')⟩
    · cases h
  case h_13 t x lo hi ho =>
    split at h
    · rename_i v' c' hv
      cases h
      have opt : ∀ q : Option Operand, (q.map (ev fr) = none ∧ q.map a.eval = none) ∨ ∃ x u, q.map (ev fr) = some x ∧ q.map a.eval = some u ∧ VRel ρ H x u := by
        intro q
        cases q with
        | none => exact .inl ⟨rfl, rfl⟩
        | some q => exact .inr ⟨_, _, rfl, rfl, ev_rel hf q⟩
      obtain ⟨y', h1, h2⟩ := nSlice_ok htl hv hc (ev_rel hf x) (opt lo) (opt hi)
      exact ⟨y', h1, fun w' _ => val (by unfold execOp; rw [ho]; rfl) (h2 w')⟩
    · cases h
  case h_14 t x ho =>
    split at h
    · rename_i v' c' hv
      cases h
      obtain ⟨y', h1, h2⟩ := nLoad_ok htl hr hv hc (ev_rel hf x)
      exact ⟨y', h1, fun w' hw => val (by unfold execOp; rw [ho]) (h2 w' (by rw [ho] at hw; exact hw))⟩
    · cases h
  case h_15 t ps ho =>
    split at h
    · rename_i v' hv
      cases h
      have hargs : VsRel ρ H ((ps.map fun x => (x.1, ev fr x.2)).map (·.2)) (ps.map fun x => a.eval x.2) := by
        have := evs_rel hf (ps.map (·.2))
        simpa [List.map_map, Function.comp_def] using this
      obtain ⟨y', h1, h2⟩ := nBuild_ok htl hv hargs
      refine ⟨y', h1, fun w' _ => val (by unfold execOp; rw [ho]) ?_⟩
      have := h2 w'
      rw [← this]
      congr 2
      apply Array.ext'
      simp only [List.map_toArray]
      clear h2 this hargs hv ho
      induction ps with
      | nil => rfl
      | cons p ps ih => simp [ih]
    · cases h
  case h_16 t m k ok ho =>
    split at h
    · rename_i v' hv
      cases h
      obtain ⟨y', h1, h2⟩ := nLookup_ok htl hr hv (ev_rel hf m) (ev_rel hf k)
      exact ⟨y', h1, fun w' hw => val (by unfold execOp; rw [ho]) (h2 w' (by rw [ho] at hw; exact hw))⟩
    · cases h
  case h_17 x t ho =>
    split at h
    · rename_i v' hv
      cases h
      obtain ⟨y', h1, h2⟩ := nLen_ok (ty := o.type) htl hr hv (ev_rel hf x)
      exact ⟨y', h1, fun w' hw => val (by unfold execOp; rw [ho]; simp [resolve, invoke, builtin]) (h2 w' (by rw [ho] at hw; exact hw))⟩
    · cases h
  case h_18 xs at_ ho =>
    split at h
    · rename_i v' hv
      cases h
      obtain ⟨y', h1, h2⟩ := nMax_ok (P := P) hv (evs_rel hf xs) at_ o.type
      exact ⟨y', h1, fun w' hw => val (by unfold execOp; rw [ho]; simp [resolve, invoke, builtin]) (h2 w')⟩
    · cases h
  case h_19 xs at_ ho =>
    split at h
    · rename_i v' hv
      cases h
      obtain ⟨y', h1, h2⟩ := nMin_ok (P := P) hv (evs_rel hf xs) at_ o.type
      exact ⟨y', h1, fun w' hw => val (by unfold execOp; rw [ho]; simp [resolve, invoke, builtin]) (h2 w')⟩
    · cases h
  case h_20 t x ho =>
    split at h
    · rename_i v' hv
      cases h
      obtain ⟨y', h1, h2⟩ := nMakeIface_ok htl hv (ev_rel hf x)
      exact ⟨y', h1, fun w' _ => val (by unfold execOp; rw [ho]) (h2 w')⟩
    · cases h
  case h_21 x xt t ok ho =>
    split at h
    · rename_i v' hv
      cases h
      obtain ⟨y', h1, h2⟩ := nAssert_ok (xt := xt) htl hv (ev_rel hf x)
      exact ⟨y', h1, fun w' _ => val (by unfold execOp; rw [ho]) (h2 w')⟩
    · cases h
  case h_22 => cases h
end
end Go.Sx

namespace Go.Sx
open Go
def cutV (H : Heap) (v : V) : Option (V × Heap × Bool) :=
  match v with
  | .at (.sl id sz (some o) len) =>
    match H[id]? with
    | some (.row e sz' n cols) =>
      match cutCols o len cols with
      | some cols' => bif Nat.beq sz sz' then some (.at (.sl H.length sz none len), H.set id .dead ++ [.row e sz len cols'], decide (o + len ≤ n)) else none
      | none => none
    | _ => none
  | _ => none
def eAppend2 (H : Heap) (tl : Tab) (t t2 : TypeId) (s x : V) : Option (V × Heap × Bool) :=
  match eAppend H tl t t2 s x with
  | some r => some r
  | none => match cutV H s with
    | some (s', H1, c1) => match eAppend H1 tl t t2 s' x with
      | some (v, H2, c2) => some (v, H2, c1 && c2)
      | none => none
    | none => none
section
variable {P : Program} {E : Nat → Prop} {w0 w : World} {ρ : List Pl} {H : Heap}
theorem cutV_ok (hr : HRel E w0 ρ H w) {s s' : V} {H1 : Heap} {c : Bool} {q : Value} (h : cutV H s = some (s', H1, c)) (hc : c = true) (hs : VRel ρ H s q) :
    ∃ ρ1, Ext ρ H ρ1 H1 ∧ HRel E w0 ρ1 H1 w ∧ VRel ρ1 H1 s' q := by
  unfold cutV at h
  split at h
  · rename_i id sz o len
    split at h
    · rename_i e sz' n cols hid
      split at h
      · rename_i cols' hcols
        cases hb : Nat.beq sz sz' with
        | false => rw [hb] at h; cases h
        | true =>
          have e' := Nat.eq_of_beq_eq_true hb
          subst e'
          rw [hb] at h
          cases h
          have hle := of_decide_eq_true hc
          obtain ⟨p, hp, hok, hreal⟩ := hr.at hid
          have hng : ¬ Gone H id := by unfold Gone; rw [hid]; simp
          have hk : Ext ρ H ρ (H.set id .dead) := Ext.kill
          have hx : Ext ρ H (ρ ++ [cutPl p sz o]) (H.set id .dead ++ [.row e sz len cols']) := hk.trans (Ext.push (by simp [hr.len]) _ _)
          obtain ⟨q1, hq1, hu⟩ := hs.resolve_left hng
          rw [hp] at hq1; cases hq1
          have hsl : SlRel p sz ((some o).getD 0) len q := hu
          obtain ⟨s0, s1, _⟩ := hu
          have hrow := cutRow_ok hok hcols s0 s1 hle
          have hnew : HRel E w0 (ρ ++ [cutPl p sz o]) (H.set id .dead ++ [.row e sz len cols']) w := by
            cases hrl : p.real with
            | true =>
              obtain ⟨cur, c1, c2, c3⟩ := hreal hrl
              refine hr.take hp hid rfl hrl rfl rfl rfl rfl rfl (fun _ _ => rfl) ⟨hrow, fun _ => ⟨cur, c1, ?_, cutRow_cols hok hcols s0 s1 hle c3⟩⟩
              obtain ⟨k1, k2, k3, k4, k5, k6, k7⟩ := hok
              simp only [Option.getD_some] at s0
              simp only [cutPl]
              have : o.toNat * sz + (p.cap - o.toNat) * sz = p.cap * sz := by rw [← Nat.add_mul]; congr 1; omega
              omega
            | false =>
              have hpp : (cutPl p sz o).real = false := hrl
              exact (hr.kill id).virtual hpp ⟨hrow, fun hf => by rw [hpp] at hf; cases hf⟩
          refine ⟨_, hx, hnew, .inr ⟨cutPl p sz o, ?_, by simpa using cutSl_ok hsl⟩⟩
          rw [← hr.len]; simp
      · cases h
    · cases h
  · cases h
theorem eAppend2_ok {tl : Tab} (htl : TabOk P tl) (hr : HRel E w0 ρ H w) {t t2 ty : TypeId} {s x v : V} {q u : Value} {H' : Heap} {c : Bool} (h : eAppend2 H tl t t2 s x = some (v, H', c)) (hc : c = true) (hs : VRel ρ H s q) (hx : VRel ρ H x u) :
    EOk P E w0 w ρ H (Builtin.append_ #[t, t2] ty #[q, u]) v H' := by
  unfold eAppend2 at h
  split at h
  · rename_i r hr'
    cases h
    exact eAppend_ok htl hr hr' hc hs hx
  · split at h
    · rename_i s' H1 c1 h1
      split at h
      · rename_i v2 H2 c2 h2
        cases h
        rw [Bool.and_eq_true] at hc
        obtain ⟨ρ1, x1, r1, v1⟩ := cutV_ok hr h1 hc.1 hs
        obtain ⟨u', w', ρ', k1, k2, k3, k4⟩ := eAppend_ok (ty := ty) htl r1 h2 hc.2 v1 (hx.ext x1)
        exact ⟨u', w', ρ', k1, x1.trans k2, k3, k4⟩
      · cases h
    · cases h
end
end Go.Sx

