/-
  append.
-/
import Derived.Test.YtbjpcbghchfifaaGreatDoorSxG
set_option linter.all false
namespace Go.Sx
open Go

def bytesI (s : ByteArray) : List Int := s.data.toList.map fun b => (b.toNat : Int)
def catCol : Col → Col → Option Col
  | .int k l, .int k' l' => bif decide (k = k') then some (.int k (l ++ l')) else none
  | .bool l, .bool l' => some (.bool (l ++ l'))
  | .str l, .str l' => some (.str (l ++ l'))
  | .ats l, .ats l' => some (.ats (l ++ l'))
  | _, _ => none
def catCols : List Col → List Col → Option (List Col)
  | [], [] => some []
  | c :: cs, d :: ds => match catCol c d, catCols cs ds with | some x, some xs => some (x :: xs) | _, _ => none
  | _, _ => none

/-- Every live cell of a row is one cell's value: columns of plain values. -/
def Col.plain : Col → Bool
  | .ats _ => false
  | _ => true
/-- What an append takes in: how many elements, their columns, what must hold. -/
def srcOf (H : Heap) (tl : Tab) (t : TypeId) (sz : Nat) (x : V) : Option (Int × List Col × Bool) :=
  match kd tl t, x with
  | some (.sl _), .at (.sl id sz' none m) =>
    match H[id]? with
    | some (.row _ sz2 n cols) => bif Nat.beq sz sz' && Nat.beq sz sz2 then some (m, cols, decide (m = n)) else none
    | some (.ro _ sz2 n cols) => bif Nat.beq sz sz' && Nat.beq sz sz2 then some (m, cols, decide (m = n)) else none
    | _ => none
  | some .str, .at (.raw (.string s)) => bif Nat.beq sz 1 then some ((s.size : Int), [.int .u8 (bytesI s)], true) else none
  | _, _ => none

def eAppend (H : Heap) (tl : Tab) (t t2 : TypeId) (s x : V) : Option (V × Heap × Bool) :=
  match kd tl t with
  | some (.sl e) =>
    match lk tl e, s with
    | some ti, .at (.sl id sz none len) =>
      match H[id]?, srcOf H tl t2 sz x with
      | some (.row e' sz2 n cols), some (m, cols2, c) =>
        match catCols cols cols2 with
        | some cols' =>
          bif Nat.beq sz sz2 && Nat.beq ti.size sz && Nat.beq e e' && Nat.beq ti.zero.length sz && cols2.all Col.plain then
            some (.at (.sl H.length sz none (len + m)), H.set id .dead ++ [.row e sz (len + m) cols'], decide (len = n) && c && decide ((len + m) * (ti.bytes : Int) ≤ 140737488355328 ∧ len + m ≤ 4611686018427387904))
          else none
        | none => none
      | _, _ => none
    | some ti, .at (.raw (.slice none 0 0)) =>
      match srcOf H tl t2 ti.size x with
      | some (m, cols2, c) =>
        bif Nat.beq ti.zero.length ti.size && Nat.beq cols2.length ti.size && Nat.ble 1 ti.size && cols2.all Col.plain then
          some (.at (.sl H.length ti.size none m), H ++ [.row e ti.size m cols2], c && decide (m * (ti.bytes : Int) ≤ 140737488355328 ∧ m ≤ 4611686018427387904))
        else none
      | none => none
    | _, _ => none
  | none => none
  | _ => none

section
variable {P : Program} {E : Nat → Prop} {w0 w : World} {ρ : List Pl} {H : Heap}

/-- The source of an append, as the model reads it. -/
def SrcRun (P : Program) (w : World) (t : TypeId) (size m : Nat) (u : Value) (news : List Value) : Prop :=
  (∃ d, P.underlying t = some d ∧ ∀ k, d ≠ .int k) ∧ news.length = m * size ∧ (∀ v ∈ news, v.oneCell' = true) ∧
  ∀ w' : World, w'.heap = w.heap → (Builtin.lenOf u).run P w' = .ok m w' ∧ (Builtin.firstCells size m u).run P w' = .ok news.toArray w'

theorem append_room (t t2 ty e : TypeId) (i : TypeInfo) (ht : P.underlying t = some (.slice e)) (hi : P.info? e = some i)
    (g o sLen sCap : Nat) (cur : Array Value) (hg : w.heap[g]? = some (.cells cur e (0, 0))) {m : Nat} {u : Value} {news : List Value} (hs : SrcRun P w t2 i.size m u news)
    (hroom : sLen + m ≤ sCap) (hfit : o + sLen * i.size + news.length ≤ cur.size) :
    (Builtin.append_ #[t, t2] ty #[.slice (some ⟨g, o, none⟩) sLen sCap, u]).run P w =
      .ok (.slice (some ⟨g, o, none⟩) (sLen + m) sCap) (w.setRow g (cur.toList.take (o + sLen * i.size) ++ news ++ cur.toList.drop (o + sLen * i.size + news.length)).toArray) := by
  obtain ⟨⟨d, hd, hdi⟩, hl, h1, hrun⟩ := hs
  obtain ⟨hlen, hf⟩ := hrun w rfl
  have hst := run_storeCells_at P g (o + sLen * i.size) e news 0 cur w hg (by simpa using hfit) h1
  simp only [Nat.add_zero] at hst
  have hadd : (⟨g, o, none⟩ : Addr).add (sLen * i.size) = ⟨g, o + sLen * i.size, none⟩ := by unfold Addr.add; split <;> simp_all
  have hz : (match d with | .int _ => true | _ => false) = false := by cases d <;> first | rfl | exact absurd rfl (hdi _)
  simp [Builtin.append_, run_underlying ht, run_underlying hd, sizeOf, typeInfo, hi, hz, hlen, hroom, hf, hadd, hst]

theorem append_grow (t t2 ty e : TypeId) (i : TypeInfo) (z : Value) (ht : P.underlying t = some (.slice e)) (hi : P.info? e = some i) (hz : i.zero = some z)
    (b : Option Addr) (sLen sCap : Nat) (olds : List Value) (hlo : olds.length = sLen * i.size) (holds : ∀ w' : World, w'.heap = w.heap → (Builtin.firstCells i.size sLen (.slice b sLen sCap)).run P w' = .ok olds.toArray w')
    {m : Nat} {u : Value} {news : List Value} (hs : SrcRun P w t2 i.size m u news)
    (hg : sCap < sLen + m) (h63 : ((sLen + m : Nat) : Int) ≤ 9223372036854775807) (hfit : Builtin.nextslicecap (sLen + m) sCap * i.bytes ≤ 281474976710656) :
    (Builtin.append_ #[t, t2] ty #[.slice b sLen sCap, u]).run P w =
      .ok (.slice (some ⟨w.heap.size, 0, none⟩) (sLen + m) (grownCap w (sLen + m) sCap e))
        (w.drew.alloc (.cells (olds.toArray ++ news.toArray ++ Builtin.zeroCells z.cells (grownCap w (sLen + m) sCap e - (sLen + m))) e)) := by
  obtain ⟨⟨d, hd, hdi⟩, hl, h1, hrun⟩ := hs
  have hzd : (match d with | .int _ => true | _ => false) = false := by cases d <;> first | rfl | exact absurd rfl (hdi _)
  obtain ⟨hlen, -⟩ := hrun w rfl
  obtain ⟨-, hf⟩ := hrun w.drew rfl
  have hfo := holds w.drew rfl
  have hn : ¬ (sLen + m ≤ sCap) := by omega
  have h63' : ¬ (9223372036854775807 < ((sLen : Int) + (m : Int))) := by omega
  have h48' : ¬ (281474976710656 < Builtin.nextslicecap (sLen + m) sCap * i.bytes) := by omega
  simp [Builtin.append_, run_underlying ht, run_underlying hd, sizeOf, typeInfo, zeroValue, hi, hz, hzd, hlen, hn, h63', h48', Question.forced, hf, hfo, newRow, grownCap]
  congr 2
  apply Array.ext'
  simp [List.append_assoc]

/-- The live cells of a row, as a list. -/
def rowVals (cur : Array Value) (o n : Nat) : List Value := (List.range n).map fun j => (cur[o + j]?).getD undef
theorem rowVals_get {cur : Array Value} {o n j : Nat} {v : Value} (h : (rowVals cur o n)[j]? = some v) (hf : o + n ≤ cur.size) : j < n ∧ cur[o + j]? = some v := by
  simp only [rowVals, List.getElem?_map, List.getElem?_range] at h
  by_cases hj : j < n
  · have hs : o + j < cur.size := by omega
    simp only [List.getElem?_range hj, Option.map_some, Option.some.injEq, Array.getElem?_eq_getElem hs, Option.getD_some] at h
    exact ⟨hj, by rw [Array.getElem?_eq_getElem hs, h]⟩
  · simp [List.getElem?_eq_none, Nat.le_of_not_lt hj] at h
theorem rowVals_at {cur : Array Value} {o n j : Nat} (hj : j < n) (hf : o + n ≤ cur.size) : (rowVals cur o n)[j]? = cur[o + j]? := by
  have hs : o + j < cur.size := by omega
  simp [rowVals, List.getElem?_range hj, Array.getElem?_eq_getElem hs]
theorem rowVals_run {p : Pl} {cur : Array Value} {e : TypeId} {fz : Nat × Nat} (hh : w.heap[p.blk]? = some (.cells cur e fz)) {n sz c : Nat} (hf : p.off + n * sz ≤ cur.size) {w' : World} (hw : w'.heap = w.heap) :
    (Builtin.firstCells sz n (.slice (some (p.addr 0)) n c)).run P w' = .ok (rowVals cur p.off (n * sz)).toArray w' := by
  have hl : (rowVals cur p.off (n * sz)).length = n * sz := by simp [rowVals]
  have := run_loadCells_list (P := P) w' (p.addr 0) (rowVals cur p.off (n * sz)) (fun j v hv => by
    obtain ⟨hj, hc⟩ := rowVals_get hv hf
    rw [addr_add, cell_at (t := e) (fz := fz) (cur := cur) (by rw [hw]; exact hh), Nat.zero_add]
    exact hc)
  rw [hl] at this
  simpa [Builtin.firstCells] using this

theorem cell_ok {v : Value} (h : ∃ a, okA H a = true ∧ ARel ρ H a v) : v.oneCell' = true := let ⟨_, h1, h2⟩ := h; okA_one h1 h2

theorem Col.at_one {c : Col} (hc : c.plain = true) (i : Nat) {v : Value} (h : ARel ρ H (c.at i) v) : v.oneCell' = true := by
  cases c <;> first | (cases hc; done) | (simp only [Col.at, ARel] at h; subst h; rfl)

theorem catCol_ok {c d x : Col} (h : catCol c d = some x) : x.len = c.len + d.len ∧ ∀ i, x.at i = if i < c.len then c.at i else d.at (i - c.len) := by
  unfold catCol at h
  split at h
  · rename_i k l k' l'
    by_cases hk : k = k'
    · subst hk
      simp only [decide_true, cond_true, Option.some.injEq] at h
      subst h
      refine ⟨by simp [Col.len], fun i => ?_⟩
      simp only [Col.at, Col.len, List.getD_eq_getElem?_getD]
      split
      · rename_i hi; rw [List.getElem?_append_left hi]
      · rename_i hi; rw [List.getElem?_append_right (by omega)]
    · simp [hk] at h
  all_goals first
    | (cases h; done)
    | (cases h
       refine ⟨by simp [Col.len], fun i => ?_⟩
       simp only [Col.at, Col.len, List.getD_eq_getElem?_getD]
       split
       · rename_i hi; rw [List.getElem?_append_left hi]
       · rename_i hi; rw [List.getElem?_append_right (by omega)])
theorem catCols_ok : ∀ {cs ds xs : List Col}, catCols cs ds = some xs → cs.length = xs.length ∧ ds.length = xs.length ∧
    ∀ (f : Nat) (x : Col), xs[f]? = some x → ∃ c d, cs[f]? = some c ∧ ds[f]? = some d ∧ catCol c d = some x
  | [], [], xs, h => by simp only [catCols, Option.some.injEq] at h; subst h; exact ⟨rfl, rfl, fun f x hx => by simp at hx⟩
  | c :: cs, d :: ds, xs, h => by
    simp only [catCols] at h
    split at h
    · rename_i x1 xs1 h1 h2
      cases h
      obtain ⟨a1, a2, a3⟩ := catCols_ok h2
      refine ⟨by simp [a1], by simp [a2], fun f x hx => ?_⟩
      match f with
      | 0 => simp at hx; subst hx; exact ⟨c, d, rfl, rfl, h1⟩
      | f + 1 => simp at hx; obtain ⟨c', d', e1, e2, e3⟩ := a3 f x hx; exact ⟨c', d', by simpa using e1, by simpa using e2, e3⟩
    · cases h
  | [], d :: ds, xs, h => by simp [catCols] at h
  | c :: cs, [], xs, h => by simp [catCols] at h

/-- The source: its cells, and what the columns say of them. -/
theorem srcOf_ok {tl : Tab} (htl : TabOk P tl) (hr : HRel E w0 ρ H w) {t : TypeId} {sz : Nat} {x : V} {u : Value} {m : Int} {cols : List Col} {c : Bool} (h : srcOf H tl t sz x = some (m, cols, c)) (hc : c = true) (hx : VRel ρ H x u) (hp : cols.all Col.plain = true) (hsz : cols.length = sz) :
    0 ≤ m ∧ (∀ c ∈ cols, c.len = m.toNat) ∧ ∃ news, SrcRun P w t sz m.toNat u news ∧
      ∀ (i f : Nat) (c : Col), i < m.toNat → cols[f]? = some c → ∃ v, news[i * sz + f]? = some v ∧ ARel ρ H (c.at i) v := by
  have key : ∀ (id : Nat) (e : TypeId) (n : Int), kd tl t = some (.sl e) → x = .at (.sl id sz none m) → m = n → H[id]? ≠ some .dead →
      (∃ p, ρ[id]? = some p ∧ RowOk p sz n cols ∧ (p.real = true → ∃ cur e' fz, w.heap[p.blk]? = some (.cells cur e' fz) ∧ ColsRel ρ H p sz n cols cur)) →
      0 ≤ m ∧ (∀ c ∈ cols, c.len = m.toNat) ∧ ∃ news, SrcRun P w t sz m.toNat u news ∧
      ∀ (i f : Nat) (c : Col), i < m.toNat → cols[f]? = some c → ∃ v, news[i * sz + f]? = some v ∧ ARel ρ H (c.at i) v := by
    intro id e n hk hxe hmn hnd ⟨p, hpl, hok, hreal⟩
    subst hxe hmn
    have hu : P.underlying t = some (.slice e) := kd_ok htl hk
    obtain ⟨q, hq, s0, s1, s2, hs⟩ := hx.resolve_left hnd
    rw [hpl] at hq; cases hq
    obtain ⟨hn, hcl, hcn, hs0, hnc, hcm, hv⟩ := hok
    refine ⟨hn, hcl, ?_⟩
    rcases hs with ⟨hrl, a, rfl, ha⟩ | ⟨hrl, hr2, rfl⟩
    · obtain ⟨cur, e', fz, hh, hcols⟩ := hreal hrl
      by_cases hm0 : m.toNat = 0
      · refine ⟨[], ⟨⟨_, hu, fun k hk => by cases hk⟩, by simp [hm0], by simp, fun w' hw => ⟨by simp [Builtin.lenOf], by simp [Builtin.firstCells, hm0, loadCells, loadCellsFrom]⟩⟩, fun i f c hi => by omega⟩
      · have hane : p.cap - (none.getD (0 : Int)).toNat ≠ 0 := by simp; omega
        have haddr := ha hane
        simp at haddr
        subst haddr
        have hfit : p.off + m.toNat * sz ≤ cur.size := by
          have h1 : m.toNat - 1 < m.toNat := by omega
          have hlast : sz - 1 < cols.length := by omega
          obtain ⟨v, hv1, _⟩ := hcols (m.toNat - 1) (sz - 1) _ h1 (List.getElem?_eq_getElem hlast)
          have := (Array.getElem?_eq_some_iff.1 hv1).1
          have e1 : (m.toNat - 1) * sz + sz = m.toNat * sz := by
            rw [← Nat.succ_mul]; congr 1; omega
          omega
        have hgetv : ∀ (i f : Nat) (c : Col), i < m.toNat → cols[f]? = some c → ∃ v, (rowVals cur p.off (m.toNat * sz))[i * sz + f]? = some v ∧ ARel ρ H (c.at i) v := by
          intro i f c hi hf
          obtain ⟨v, hv1, hv2⟩ := hcols i f c hi hf
          have hfs : f < sz := by rw [← hcn]; exact (List.getElem?_eq_some_iff.1 hf).1
          have hlt : i * sz + f < m.toNat * sz := by
            have : (i + 1) * sz ≤ m.toNat * sz := Nat.mul_le_mul_right _ hi
            rw [Nat.add_mul] at this; omega
          refine ⟨v, ?_, hv2⟩
          rw [rowVals_at hlt hfit, ← Nat.add_assoc]
          exact hv1
        refine ⟨rowVals cur p.off (m.toNat * sz), ⟨⟨_, hu, fun k hk => by cases hk⟩, by simp [rowVals], fun v hm => ?_, fun w' hw => ⟨by simp [Builtin.lenOf], rowVals_run hh hfit hw⟩⟩, hgetv⟩
        obtain ⟨j, hj, rfl⟩ := List.getElem_of_mem hm
        have hj' : j < m.toNat * sz := by simpa [rowVals] using hj
        have hd : j / sz < m.toNat := Nat.div_lt_of_lt_mul (by rw [Nat.mul_comm]; exact hj')
        have hf : j % sz < cols.length := by rw [hcn]; exact Nat.mod_lt _ hs0
        obtain ⟨v, hv1, hv2⟩ := hgetv (j / sz) (j % sz) _ hd (List.getElem?_eq_getElem hf)
        rw [show j / sz * sz + j % sz = j by rw [Nat.mul_comm]; exact Nat.div_add_mod j sz, List.getElem?_eq_getElem hj] at hv1
        cases hv1
        exact Col.at_one (List.all_eq_true.1 hp _ (List.getElem_mem hf)) _ hv2
    · have hm0 : m.toNat = 0 := by omega
      refine ⟨[], ⟨⟨_, hu, fun k hk => by cases hk⟩, by simp [hm0], by simp, fun w' hw => ⟨by simp [Builtin.lenOf, hm0], by simp [Builtin.firstCells]⟩⟩, fun i f c hi => by omega⟩
  unfold srcOf at h
  split at h
  · rename_i e id sz' m' hk
    split at h
    · rename_i e' sz2 n cols' hid
      cases hb : (Nat.beq sz sz' && Nat.beq sz sz2) with
      | false => rw [hb] at h; cases h
      | true =>
        rw [hb] at h
        rw [Bool.and_eq_true] at hb
        have e1 := Nat.eq_of_beq_eq_true hb.1
        have e2 := Nat.eq_of_beq_eq_true hb.2
        subst e1 e2
        cases h
        obtain ⟨p, hpl, hok, hreal⟩ := hr.at hid
        exact key id e n hk rfl (of_decide_eq_true hc) (by rw [hid]; simp) ⟨p, hpl, hok, fun hrl => let ⟨cur, a1, _, a3⟩ := hreal hrl; ⟨cur, _, _, a1, a3⟩⟩
    · rename_i e' sz2 n cols' hid
      cases hb : (Nat.beq sz sz' && Nat.beq sz sz2) with
      | false => rw [hb] at h; cases h
      | true =>
        rw [hb] at h
        rw [Bool.and_eq_true] at hb
        have e1 := Nat.eq_of_beq_eq_true hb.1
        have e2 := Nat.eq_of_beq_eq_true hb.2
        subst e1 e2
        cases h
        obtain ⟨p, hpl, hok, hreal⟩ := hr.at hid
        exact key id e n hk rfl (of_decide_eq_true hc) (by rw [hid]; simp) ⟨p, hpl, hok, fun hrl => let ⟨cur, t, fz, a1, a3⟩ := hreal hrl; ⟨cur, t, fz, a1, a3⟩⟩
    · cases h
  · rename_i s hk
    have hu : P.underlying t = some .string := kd_ok htl hk
    cases hb : Nat.beq sz 1 with
    | false => rw [hb] at h; cases h
    | true =>
      rw [hb] at h
      have e1 := Nat.eq_of_beq_eq_true hb
      subst e1
      cases h
      simp only [VRel, ARel] at hx
      subst hx
      have hsl : s.data.toList.length = s.size := by simp
      refine ⟨by omega, fun c hcm => by simp at hcm; subst hcm; simp [Col.len, bytesI], s.data.toList.map (fun b => .int .u8 b.toNat), ⟨⟨_, hu, fun k hk => by cases hk⟩, by simp, fun v hm => ?_, fun w' hw => ⟨by simp [Builtin.lenOf], ?_⟩⟩, fun i f c hi hf => ?_⟩
      · simp at hm; obtain ⟨b, _, rfl⟩ := hm; rfl
      · simp [Builtin.firstCells]
        apply Array.ext'
        simp
      · match f with
        | 0 =>
          simp at hf; subst hf
          have hi' : i < s.data.toList.length := by simp at hi ⊢; omega
          refine ⟨.int .u8 ((s.data.toList[i]'hi').toNat : Int), by simp [List.getElem?_eq_getElem hi'], ?_⟩
          simp [Col.at, bytesI, ARel, List.getD_eq_getElem?_getD, List.getElem?_eq_getElem hi']
        | f + 1 => simp at hf
  · cases h

theorem newRow_ok (hr : HRel E w0 ρ H w) {w' : World} {e : TypeId} {sz cap : Nat} {n m : Int} {cols cols2 cols' : List Col} {olds news : List Value} {zs : Array Value} {ρ1 : List Pl} {H1 : Heap}
    (hx1 : Ext ρ H ρ1 H1) (hl1 : ρ1.length = H1.length)
    (hw : w'.heap[w.heap.size]? = some (.cells (olds.toArray ++ news.toArray ++ zs) e (0, 0)))
    (hn : 0 ≤ n) (hm : 0 ≤ m) (h0 : 0 < sz) (hol : olds.length = n.toNat * sz) (hnl : news.length = m.toNat * sz) (hcap : (n + m).toNat ≤ cap) (hcm : cap ≤ maxLen) (hzs : zs.size = (cap - (n + m).toNat) * sz)
    (hcols : catCols cols cols2 = some cols') (hcl : ∀ c ∈ cols, c.len = n.toNat) (hcl2 : ∀ c ∈ cols2, c.len = m.toNat) (hcn : cols.length = sz)
    (ho : ∀ (i f : Nat) (c : Col), i < n.toNat → cols[f]? = some c → ∃ v, olds[i * sz + f]? = some v ∧ ARel ρ H (c.at i) v)
    (hne : ∀ (i f : Nat) (c : Col), i < m.toNat → cols2[f]? = some c → ∃ v, news[i * sz + f]? = some v ∧ ARel ρ H (c.at i) v) :
    ObjRel (ρ1 ++ [⟨w.heap.size, 0, cap, true⟩]) (H1 ++ [.row e sz (n + m) cols']) w' ⟨w.heap.size, 0, cap, true⟩ (.row e sz (n + m) cols') := by
  have hx := hx1.trans (Ext.push hl1 ⟨w.heap.size, 0, cap, true⟩ (.row e sz (n + m) cols'))
  obtain ⟨a1, a2, a3⟩ := catCols_ok hcols
  have hnm : (n + m).toNat = n.toNat + m.toNat := by omega
  refine ⟨⟨by omega, fun c hc => ?_, by omega, h0, hcap, hcm, by simp⟩, fun _ => ⟨_, hw, ?_, fun i f c hi hf => ?_⟩⟩
  · obtain ⟨f, hf, rfl⟩ := List.getElem_of_mem hc
    obtain ⟨c1, d1, e1, e2, e3⟩ := a3 f _ (List.getElem?_eq_getElem hf)
    rw [(catCol_ok e3).1, hcl c1 (List.mem_of_getElem? e1), hcl2 d1 (List.mem_of_getElem? e2), hnm]
  · simp only [Nat.zero_add, Array.size_append, List.size_toArray, hol, hnl, hzs, ← Nat.add_mul]
    exact Nat.mul_le_mul_right _ (by omega)
  · obtain ⟨c1, d1, e1, e2, e3⟩ := a3 f c hf
    have hfs : f < sz := by rw [← hcn]; exact (List.getElem?_eq_some_iff.1 e1).1
    have hc1 := hcl c1 (List.mem_of_getElem? e1)
    rw [(catCol_ok e3).2 i, hc1]
    simp only [Nat.zero_add]
    by_cases hlt : i < n.toNat
    · rw [if_pos hlt]
      obtain ⟨v, hv, hva⟩ := ho i f c1 hlt e1
      refine ⟨v, ?_, hva.ext hx⟩
      have hb : i * sz + f < olds.length := (List.getElem?_eq_some_iff.1 hv).1
      rw [Array.append_assoc, Array.getElem?_append_left (by simpa using hb)]
      simpa using hv
    · rw [if_neg hlt]
      obtain ⟨v, hv, hva⟩ := hne (i - n.toNat) f d1 (by omega) e2
      refine ⟨v, ?_, hva.ext hx⟩
      have hb : (i - n.toNat) * sz + f < news.length := (List.getElem?_eq_some_iff.1 hv).1
      have hidx : i * sz + f = olds.length + ((i - n.toNat) * sz + f) := by
        rw [hol, ← Nat.add_assoc, ← Nat.add_mul]; congr 2; omega
      rw [Array.getElem?_append_left (by simp; omega), Array.getElem?_append_right (by simp; omega)]
      rw [hidx]
      simpa using hv

theorem roomRow_ok (hr : HRel E w0 ρ H w) {w' : World} {p : Pl} {e : TypeId} {sz : Nat} {n m : Int} {cols cols2 cols' : List Col} {cur : Array Value} {news : List Value}
    {ρ1 : List Pl} {H1 : Heap} (hx1 : Ext ρ H ρ1 H1) (hl1 : ρ1.length = H1.length) (hpr : p.real = true)
    (hw : w'.heap[p.blk]? = some (.cells (cur.toList.take (p.off + n.toNat * sz) ++ news ++ cur.toList.drop (p.off + n.toNat * sz + news.length)).toArray e (0, 0)))
    (hn : 0 ≤ n) (hm : 0 ≤ m) (h0 : 0 < sz) (hnl : news.length = m.toNat * sz) (hcap : (n + m).toNat ≤ p.cap) (hcm : p.cap ≤ maxLen) (hfit : p.off + p.cap * sz ≤ cur.size)
    (hcols : catCols cols cols2 = some cols') (hcl : ∀ c ∈ cols, c.len = n.toNat) (hcl2 : ∀ c ∈ cols2, c.len = m.toNat) (hcn : cols.length = sz)
    (ho : ColsRel ρ H p sz n cols cur)
    (hne : ∀ (i f : Nat) (c : Col), i < m.toNat → cols2[f]? = some c → ∃ v, news[i * sz + f]? = some v ∧ ARel ρ H (c.at i) v) :
    ObjRel (ρ1 ++ [p]) (H1 ++ [.row e sz (n + m) cols']) w' p (.row e sz (n + m) cols') := by
  have hx := hx1.trans (Ext.push hl1 p (.row e sz (n + m) cols'))
  obtain ⟨a1, a2, a3⟩ := catCols_ok hcols
  have hnm : (n + m).toNat = n.toNat + m.toNat := by omega
  have hmul : n.toNat * sz + m.toNat * sz ≤ p.cap * sz := by rw [← Nat.add_mul]; exact Nat.mul_le_mul_right _ (by omega)
  refine ⟨⟨by omega, fun c hc => ?_, by omega, h0, hcap, hcm, by simp [hpr]⟩, fun _ => ⟨_, hw, ?_, fun i f c hi hf => ?_⟩⟩
  · obtain ⟨f, hf, rfl⟩ := List.getElem_of_mem hc
    obtain ⟨c1, d1, e1, e2, e3⟩ := a3 f _ (List.getElem?_eq_getElem hf)
    rw [(catCol_ok e3).1, hcl c1 (List.mem_of_getElem? e1), hcl2 d1 (List.mem_of_getElem? e2), hnm]
  · simp; omega
  · obtain ⟨c1, d1, e1, e2, e3⟩ := a3 f c hf
    have hfs : f < sz := by rw [← hcn]; exact (List.getElem?_eq_some_iff.1 e1).1
    have hc1 := hcl c1 (List.mem_of_getElem? e1)
    rw [(catCol_ok e3).2 i, hc1]
    by_cases hlt : i < n.toNat
    · rw [if_pos hlt]
      obtain ⟨v, hv, hva⟩ := ho i f c1 hlt e1
      refine ⟨v, ?_, hva.ext hx⟩
      have hlt2 : i * sz + f < n.toNat * sz := by
        have : (i + 1) * sz ≤ n.toNat * sz := Nat.mul_le_mul_right _ hlt
        rw [Nat.add_mul] at this; omega
      rw [List.getElem?_toArray, List.append_assoc, List.getElem?_append_left (by simp; omega), List.getElem?_take, if_pos (by omega)]
      simpa using hv
    · rw [if_neg hlt]
      obtain ⟨v, hv, hva⟩ := hne (i - n.toNat) f d1 (by omega) e2
      refine ⟨v, ?_, hva.ext hx⟩
      have hb : (i - n.toNat) * sz + f < news.length := (List.getElem?_eq_some_iff.1 hv).1
      have hidx : p.off + i * sz + f = (p.off + n.toNat * sz) + ((i - n.toNat) * sz + f) := by
        have : i * sz = n.toNat * sz + (i - n.toNat) * sz := by rw [← Nat.add_mul]; congr 1; omega
        omega
      have hta : (cur.toList.take (p.off + n.toNat * sz)).length = p.off + n.toNat * sz := by simp; omega
      rw [List.getElem?_toArray, List.append_assoc, List.getElem?_append_right (by omega), hta, List.getElem?_append_left (by omega)]
      rw [show p.off + i * sz + f - (p.off + n.toNat * sz) = (i - n.toNat) * sz + f by omega]
      exact hv

theorem catCol_empty {c d x : Col} (h : catCol c d = some x) (hc : c.len = 0) : x = d := by
  unfold catCol at h
  split at h
  · rename_i k l k' l'
    have : l = [] := List.eq_nil_of_length_eq_zero hc
    subst this
    by_cases hkk : k = k'
    · subst hkk; simp at h; exact h.symm
    · simp [hkk] at h
  all_goals first
    | (cases h; done)
    | (rename_i l l'
       have : l = [] := List.eq_nil_of_length_eq_zero hc
       subst this
       simp at h; exact h.symm)
theorem catCols_empty : ∀ {cs ds xs : List Col}, catCols cs ds = some xs → (∀ c ∈ cs, c.len = 0) → xs = ds
  | [], [], xs, h, _ => by simp only [catCols, Option.some.injEq] at h; exact h.symm
  | c :: cs, d :: ds, xs, h, hl => by
    simp only [catCols] at h
    split at h
    · rename_i x1 xs1 h1 h2
      cases h
      rw [catCol_empty h1 (hl c (by simp)), catCols_empty h2 fun c hc => hl c (by simp [hc])]
    · cases h
  | [], d :: ds, xs, h, _ => by simp [catCols] at h
  | c :: cs, [], xs, h, _ => by simp [catCols] at h

/-- nil, appended to. -/
theorem appendNil_ok {tl : Tab} (htl : TabOk P tl) (hr : HRel E w0 ρ H w) {t t2 ty e : TypeId} {ti : TI} (hk : kd tl t = some (.sl e)) (hti : lk tl e = some ti) {x : V} {u : Value} {m : Int} {cols2 : List Col} {c : Bool}
    (h : srcOf H tl t2 ti.size x = some (m, cols2, c)) (hc : c = true) (hx : VRel ρ H x u) (hz : ti.zero.length = ti.size) (hl2 : cols2.length = ti.size) (h1 : 1 ≤ ti.size) (hp : cols2.all Col.plain = true)
    (hb : m * (ti.bytes : Int) ≤ 140737488355328) (hm63 : m ≤ 4611686018427387904) {ρ1 : List Pl} {H1 : Heap} (hx1 : Ext ρ H ρ1 H1) (hr1 : HRel E w0 ρ1 H1 w) :
    ∃ u' w' ρ', (Builtin.append_ #[t, t2] ty #[.slice none 0 0, u]).run P w = .ok u' w' ∧ Ext ρ H ρ' (H1 ++ [.row e ti.size m cols2]) ∧ HRel E w0 ρ' (H1 ++ [.row e ti.size m cols2]) w' ∧ VRel ρ' (H1 ++ [.row e ti.size m cols2]) (.at (.sl H1.length ti.size none m)) u' := by
  have hu : P.underlying t = some (.slice e) := kd_ok htl hk
  obtain ⟨i, z, hi, hsz, hby, hzz, hzc, _⟩ := (htl e ti hti).parts
  obtain ⟨hm0, hcl2, news, hsrc, hnews⟩ := srcOf_ok htl hr h hc hx hp hl2
  have hsrc' := hsrc
  obtain ⟨⟨d, hd, hdi⟩, hnl, hone, hrun⟩ := hsrc'
  rw [← hsz] at hsrc
  have hlen1 := hr1.len
  by_cases hmz : m.toNat = 0
  · have hm : m = 0 := by omega
    subst hm
    have hn : news = [] := List.eq_nil_of_length_eq_zero (by simpa using hnl)
    subst hn
    have hzd : (match d with | .int _ => true | _ => false) = false := by cases d <;> first | rfl | exact absurd rfl (hdi _)
    obtain ⟨hlen, hf⟩ := hrun w rfl
    have hf' : (Builtin.firstCells ti.size 0 u).run P w = .ok #[] w := by simpa using hf
    refine ⟨.slice none 0 0, w, ρ1 ++ [⟨0, 0, 0, false⟩], ?_, hx1.trans (Ext.push hlen1 _ _), hr1.virtual rfl ⟨⟨by omega, hcl2, hl2, by omega, by simp, by simp [maxLen], by simp⟩, by simp⟩, .inr ⟨⟨0, 0, 0, false⟩, by rw [← hlen1]; simp, by simp, by simp, by simp, .inr ⟨rfl, rfl, rfl⟩⟩⟩
    simp [Builtin.append_, run_underlying hu, run_underlying hd, sizeOf, typeInfo, hi, hzd, hlen, hsz, hf']
  · have hmz' : 0 < m.toNat := by omega
    have hbN : m.toNat * ti.bytes ≤ 140737488355328 := by
      have : ((m.toNat * ti.bytes : Nat) : Int) ≤ 140737488355328 := by rw [Int.natCast_mul, Int.toNat_of_nonneg hm0]; exact hb
      omega
    have hg := append_grow (P := P) (w := w) t t2 ty e i z hu hi hzz none 0 0 [] (by simp) (fun w' _ => by simp [Builtin.firstCells]) hsrc (by omega) (by omega) (by rw [hby]; simpa using growslice_fits (by omega) hbN)
    have hcge := grownCap_ge w (0 + m.toNat) 0 e
    have hcle := grownCap_le_maxLen w (0 + m.toNat) 0 e (by simp only [maxLen]; omega)
    simp only [Nat.zero_add] at hg hcge hcle
    refine ⟨_, _, ρ1 ++ [⟨w.heap.size, 0, grownCap w m.toNat 0 e, true⟩], hg, hx1.trans (Ext.push hlen1 _ _), ?_, .inr ⟨⟨w.heap.size, 0, grownCap w m.toNat 0 e, true⟩, by rw [← hlen1]; simp, by simp, hm0, by simpa using hcge, .inl ⟨rfl, _, by simp; rfl, fun _ => by simp [Pl.addr]⟩⟩⟩
    have hcz : z.cells.size = ti.size := by rw [← Array.length_toList, hzc]; exact hz
    have hcat : catCols (cols2.map fun c => match c with | .int k _ => Col.int k [] | .bool _ => .bool [] | .str _ => .str [] | .ats _ => .ats []) cols2 = some cols2 := by
      clear h hx hp hl2 hcl2 hnews hz h1 hnl
      induction cols2 with
      | nil => rfl
      | cons c cs ih => cases c <;> simp [catCols, catCol, ih]
    have ho := newRow_ok (w' := w.drew.alloc (.cells ((([] : List Value)).toArray ++ news.toArray ++ Builtin.zeroCells z.cells (grownCap w m.toNat 0 e - m.toNat)) e)) (n := 0) (olds := []) hr hx1 hlen1 (heap_alloc_new w.drew _) (by omega) hm0 h1 (by simp) hnl (by simpa using hcge) hcle (by rw [size_zeroCells, hcz]; simp) hcat (by intro c hc; simp at hc; obtain ⟨c', _, rfl⟩ := hc; cases c' <;> rfl) hcl2 (by simpa using hl2) (fun i f c hi => by simp at hi) hnews
    simp only [Int.zero_add] at ho
    exact hr1.push rfl rfl rfl (by simp) (fun k hk => heap_alloc_old w.drew _ k hk) (fun _ => Nat.le_refl _) ho

theorem eAppend_ok {tl : Tab} (htl : TabOk P tl) (hr : HRel E w0 ρ H w) {t t2 ty : TypeId} {s x v : V} {q u : Value} {H' : Heap} {c : Bool} (h : eAppend H tl t t2 s x = some (v, H', c)) (hc : c = true) (hs : VRel ρ H s q) (hx : VRel ρ H x u) :
    EOk P E w0 w ρ H (Builtin.append_ #[t, t2] ty #[q, u]) v H' := by
  unfold eAppend at h
  split at h
  · rename_i e hk
    have hu : P.underlying t = some (.slice e) := kd_ok htl hk
    split at h
    · rename_i ti id sz len hti
      split at h
      · rename_i e' sz2 n cols m cols2 c2 hid hsrc0
        split at h
        · rename_i cols' hcat
          cases hb : (Nat.beq sz sz2 && Nat.beq ti.size sz && Nat.beq e e' && Nat.beq ti.zero.length sz && cols2.all Col.plain) with
          | false => rw [hb] at h; cases h
          | true =>
            rw [hb] at h
            cases h
            simp only [Bool.and_eq_true] at hb
            obtain ⟨⟨⟨⟨b1, b2⟩, b3⟩, b4⟩, hp⟩ := hb
            have b1 := Nat.eq_of_beq_eq_true b1
            have b2 := Nat.eq_of_beq_eq_true b2
            have b3 := Nat.eq_of_beq_eq_true b3
            have b4 := Nat.eq_of_beq_eq_true b4
            subst b1 b3
            subst b2
            simp only [Bool.and_eq_true, decide_eq_true_eq] at hc
            obtain ⟨⟨hlenn, hc2⟩, hbytes, h63⟩ := hc
            subst hlenn
            obtain ⟨p, hpl, hok, hreal⟩ := hr.at hid
            have hok' := hok
            obtain ⟨hn, hcl, hcn, hs0, hnc, hcm, hv⟩ := hok'
            obtain ⟨a1, a2, _⟩ := catCols_ok hcat
            have hl2 : cols2.length = ti.size := by omega
            obtain ⟨i, z, hi, hsz, hby, hzz, hzc, _⟩ := (htl e ti hti).parts
            obtain ⟨hm0, hcl2, news, hsrc, hnews⟩ := srcOf_ok htl hr hsrc0 hc2 hx hp hl2
            have hnl : news.length = m.toNat * ti.size := hsrc.2.1
            have hsrcx := hsrc
            rw [← hsz] at hsrc
            obtain ⟨p', hp', s0, s1, s2, hsl⟩ := hs.resolve_left (by rw [Gone, hid]; simp)
            rw [hpl] at hp'; cases hp'
            simp only [Option.getD_none, Int.toNat_zero, Nat.zero_add, Nat.sub_zero, Nat.zero_mul] at s2 hsl
            have hnm : (len + m).toNat = len.toNat + m.toNat := by omega
            have hbN : (len.toNat + m.toNat) * ti.bytes ≤ 140737488355328 := by
              have : (((len.toNat + m.toNat) * ti.bytes : Nat) : Int) ≤ 140737488355328 := by rw [Int.natCast_mul, Int.natCast_add, Int.toNat_of_nonneg hm0, Int.toNat_of_nonneg hn]; exact hbytes
              omega
            have hxk : Ext ρ H ρ (H.set id .dead) := Ext.kill
            have hlen := hr.len
            have hcz : z.cells.size = ti.size := by rw [← Array.length_toList, hzc]; exact b4
            rcases hsl with ⟨hrl, a, rfl, ha⟩ | ⟨hrl, hr2, rfl⟩
            · obtain ⟨cur, hh, hfit, hcols⟩ := hreal hrl
              by_cases hroom : len.toNat + m.toNat ≤ p.cap
              · by_cases hcap0 : p.cap = 0
                · have hn0 : len.toNat = 0 := by omega
                  have hmz : m.toNat = 0 := by omega
                  have hnn : news = [] := List.eq_nil_of_length_eq_zero (by rw [hnl, hmz]; simp)
                  subst hnn
                  obtain ⟨⟨d, hd, hdi⟩, _, _, hrun⟩ := hsrcx
                  have hzd : (match d with | .int _ => true | _ => false) = false := by cases d <;> first | rfl | exact absurd rfl (hdi _)
                  obtain ⟨hl', hf⟩ := hrun w rfl
                  rw [hmz] at hl' hf
                  have ho := roomRow_ok (w' := w) (news := []) (n := len) (m := m) hr hxk (by simp [hlen]) hrl (by simpa [List.take_append_drop] using hh) hn hm0 hs0 (by simp [hmz]) (by omega) hcm hfit hcat hcl hcl2 hcn hcols hnews
                  refine ⟨.slice (some a) 0 0, w, ρ ++ [p], ?_, hxk.trans (Ext.push (by simp [hlen]) _ _), hr.take hpl hid rfl hrl rfl rfl rfl rfl rfl (fun _ _ => rfl) ho, .inr ⟨p, by rw [← hlen]; simp, by simp, by omega, by simp; omega, .inl ⟨hrl, a, by simp [hnm, hn0, hmz, hcap0], fun hne => absurd hcap0 (by simpa using hne)⟩⟩⟩
                  simp [Builtin.append_, run_underlying hu, run_underlying hd, sizeOf, typeInfo, hi, hzd, hl', hn0, hcap0, hsz, hf, storeCells]
                · have haa := ha hcap0
                  subst haa
                  have hmul : len.toNat * ti.size + m.toNat * ti.size ≤ p.cap * ti.size := by rw [← Nat.add_mul]; exact Nat.mul_le_mul_right _ hroom
                  have hrun := append_room (P := P) (w := w) t t2 ty e i hu hi p.blk p.off len.toNat p.cap cur hh hsrc hroom (by rw [hsz]; omega)
                  rw [hsz] at hrun
                  have ho := roomRow_ok (w' := w.setRow p.blk (cur.toList.take (p.off + len.toNat * ti.size) ++ news ++ cur.toList.drop (p.off + len.toNat * ti.size + news.length)).toArray) (news := news) (n := len) (m := m) hr hxk (by simp [hlen]) hrl (setRow_heap w p.blk cur _ e (0, 0) hh) hn hm0 hs0 hnl (by omega) hcm hfit hcat hcl hcl2 hcn hcols hnews
                  refine ⟨.slice (some (p.addr 0)) (len.toNat + m.toNat) p.cap, w.setRow p.blk (cur.toList.take (p.off + len.toNat * ti.size) ++ news ++ cur.toList.drop (p.off + len.toNat * ti.size + news.length)).toArray, ρ ++ [p], by rw [show p.addr 0 = ⟨p.blk, p.off, none⟩ from rfl]; exact hrun, hxk.trans (Ext.push (by simp [hlen]) _ _), hr.take hpl hid rfl hrl rfl rfl rfl rfl (by simp) (fun k hk => setRow_other w _ k _ hk) ho, .inr ⟨p, by rw [← hlen]; simp, by simp, by omega, by simp; omega, .inl ⟨hrl, p.addr 0, by simp [hnm], fun _ => by simp⟩⟩⟩
              · have holds : ∀ w' : World, w'.heap = w.heap → (Builtin.firstCells i.size len.toNat (.slice (some a) len.toNat p.cap)).run P w' = .ok (rowVals cur p.off (len.toNat * ti.size)).toArray w' := by
                  intro w' hw
                  by_cases hcap0 : p.cap = 0
                  · have hn0 : len.toNat = 0 := by omega
                    simp [Builtin.firstCells, hn0, loadCells, loadCellsFrom, rowVals]
                  · have haa := ha hcap0
                    subst haa
                    rw [hsz]
                    exact rowVals_run hh (by have : len.toNat * ti.size ≤ p.cap * ti.size := Nat.mul_le_mul_right _ hnc
                                             omega) hw
                have hfitn : p.off + len.toNat * ti.size ≤ cur.size := by
                  have : len.toNat * ti.size ≤ p.cap * ti.size := Nat.mul_le_mul_right _ hnc
                  omega
                have hg := append_grow (P := P) (w := w) t t2 ty e i z hu hi hzz (some a) len.toNat p.cap (rowVals cur p.off (len.toNat * ti.size)) (by rw [hsz]; simp [rowVals]) holds hsrc (by omega) (by omega) (by rw [hby]; exact growslice_fits (by omega) hbN)
                have hcge := grownCap_ge w (len.toNat + m.toNat) p.cap e
                have hcle := grownCap_le_maxLen w (len.toNat + m.toNat) p.cap e (by simp only [maxLen]; omega)
                have ho := newRow_ok (w' := w.drew.alloc (.cells ((rowVals cur p.off (len.toNat * ti.size)).toArray ++ news.toArray ++ Builtin.zeroCells z.cells (grownCap w (len.toNat + m.toNat) p.cap e - (len.toNat + m.toNat))) e)) (n := len) (m := m) (cap := grownCap w (len.toNat + m.toNat) p.cap e) hr hxk (by simp [hlen]) (heap_alloc_new w.drew _) hn hm0 hs0 (by simp [rowVals]) hnl (by omega) hcle (by rw [size_zeroCells, hcz, hnm]) hcat hcl hcl2 hcn
                  (fun i f c hi hf => by
                    obtain ⟨v, hv1, hv2⟩ := hcols i f c hi hf
                    have hfs : f < ti.size := by rw [← hcn]; exact (List.getElem?_eq_some_iff.1 hf).1
                    have hlt : i * ti.size + f < len.toNat * ti.size := by
                      have : (i + 1) * ti.size ≤ len.toNat * ti.size := Nat.mul_le_mul_right _ hi
                      rw [Nat.add_mul] at this; omega
                    exact ⟨v, by rw [rowVals_at hlt hfitn, ← Nat.add_assoc]; exact hv1, hv2⟩) hnews
                refine ⟨_, _, ρ ++ [⟨w.heap.size, 0, grownCap w (len.toNat + m.toNat) p.cap e, true⟩], hg, hxk.trans (Ext.push (by simp [hlen]) _ _), ?_, .inr ⟨⟨w.heap.size, 0, grownCap w (len.toNat + m.toNat) p.cap e, true⟩, by rw [← hlen]; simp, by simp, by omega, by simp; omega, .inl ⟨rfl, _, by simp [hnm]; rfl, fun _ => by simp [Pl.addr]⟩⟩⟩
                exact (hr.kill id).push rfl rfl rfl (by simp) (fun k hk => heap_alloc_old w.drew _ k hk) (fun _ => Nat.le_refl _) ho
            · have hn0 : len = 0 := by omega
              subst hn0
              have hcc : cols' = cols2 := catCols_empty hcat fun c hc => by simpa using hcl c hc
              subst hcc
              have := appendNil_ok (ty := ty) htl hr hk hti hsrc0 hc2 hx b4 hl2 hs0 hp (by simpa using hbytes) (by omega) hxk (hr.kill id)
              simpa [EOk] using this
        · cases h
      · cases h
    · rename_i ti hti
      split at h
      · rename_i m cols2 c2 hsrc0
        cases hb : (Nat.beq ti.zero.length ti.size && Nat.beq cols2.length ti.size && Nat.ble 1 ti.size && cols2.all Col.plain) with
        | false => rw [hb] at h; cases h
        | true =>
          rw [hb] at h
          cases h
          simp only [Bool.and_eq_true] at hb
          obtain ⟨⟨⟨b1, b2⟩, b3⟩, hp⟩ := hb
          simp only [Bool.and_eq_true, decide_eq_true_eq] at hc
          obtain ⟨hc2, hbytes, h63⟩ := hc
          simp only [VRel, ARel] at hs
          subst hs
          exact appendNil_ok (ty := ty) htl hr hk hti hsrc0 hc2 hx (Nat.eq_of_beq_eq_true b1) (Nat.eq_of_beq_eq_true b2) (Nat.le_of_ble_eq_true b3) hp hbytes h63 (Ext.refl _ _) hr
      · cases h
    · cases h
  · cases h
  · cases h
end
end Go.Sx
