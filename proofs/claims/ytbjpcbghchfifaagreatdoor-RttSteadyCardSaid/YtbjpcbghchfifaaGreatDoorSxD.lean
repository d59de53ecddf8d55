/-
  More operations that only read.
-/
import Derived.Test.YtbjpcbghchfifaaGreatDoorSxC
set_option linter.all false
namespace Go.Sx
open Go

def bt (s : ByteArray) (i : Int) : Int := ((s.data.toList.getD i.toNat 0).toNat : Int)
def strSl (s : ByteArray) (lo hi : Int) : ByteArray := s.extract lo.toNat hi.toNat
def offAdd (o : Option Int) (i : Int) : Int := match o with | none => i | some x => x + i
def rawI (v : V) : Option Int := match v with | .at (.raw (.int _ n)) => some n | _ => none

def kd (tl : Tab) (t : Nat) : Option TK := match lk tl t with | some ti => some ti.kind | none => none
theorem kd_ok {P : Program} {tl : Tab} (h : TabOk P tl) {t : Nat} {k : TK} (hk : kd tl t = some k) : k.ok P t := by
  unfold kd at hk
  split at hk
  · rename_i ti hti; cases hk; exact (h t ti hti).kind
  · cases hk

def nField (tl : Tab) (t : TypeId) (x : V) (f : Nat) : Option V :=
  match kd tl t with
  | some (.st fs) =>
    match fs[f]?, x with
    | some (off, ty), .agg as =>
      match lk tl ty with
      | some ti =>
        match ti.kind.isAgg with
        | some false => match as[off]? with | some a => some (.at a) | none => none
        | some true => bif Nat.ble (off + ti.size) as.length then some (.agg ((as.drop off).take ti.size)) else none
        | none => none
      | none => none
    | _, _ => none
  | _ => none

def alive (H : Heap) (id : Nat) : Bool := match H[id]? with | some .dead => false | some _ => true | none => false
theorem not_gone {H : Heap} {id : Nat} (h : alive H id = true) : ¬ Gone H id := by
  intro hg; unfold Gone at hg; simp [alive, hg] at h

def nFieldAddr (H : Heap) (tl : Tab) (t : TypeId) (x : V) (f : Nat) : Option V :=
  match kd tl t with
  | some (.st fs) =>
    match fs[f]? with
    | some (off, ty) =>
      match lk tl ty with
      | some ti =>
        bif Nat.beq ti.size 0 then none else
          match x with
          | .at (.ptr id o) => bif alive H id then some (.at (.ptr id (o + off))) else none
          | .at (.eptr id sz i g) => bif alive H id then some (.at (.eptr id sz i (g + off))) else none
          | _ => none
      | none => none
    | none => none
  | _ => none

def nIndexAddr (H : Heap) (tl : Tab) (t : TypeId) (x i : V) : Option (V × Bool) :=
  match kd tl t, i with
  | some (.sl e), .at (.raw (.int _ n)) =>
    match lk tl e, x with
    | some ti, .at (.sl id sz off len) => bif Nat.beq ti.size sz && alive H id then some (.at (.eptr id sz (offAdd off n) 0), decide (0 ≤ n ∧ n < len)) else none
    | _, _ => none
  | some (.arr k e), .at (.raw (.int _ n)) =>
    match lk tl e, x with
    | some ti, .at (.ptr id o) => bif alive H id then some (.at (.ptr id (o + n.toNat * ti.size)), decide (0 ≤ n ∧ n < (k : Int))) else none
    | _, _ => none
  | _, _ => none

def nIndex (tl : Tab) (t : TypeId) (x i : V) : Option (V × Bool) :=
  match kd tl t, x, i with
  | some .str, .at (.raw (.string s)), .at (.raw (.int _ n)) => some (.at (.raw (.int .u8 (bt s n))), decide (0 ≤ n ∧ n < (s.size : Int)))
  | some (.arr k e), .agg as, .at (.raw (.int _ n)) =>
    match lk tl e with
    | some ti =>
      match ti.kind.isAgg, as[n.toNat * ti.size]? with
      | some false, some a => some (.at a, decide (0 ≤ n ∧ n < (k : Int)))
      | _, _ => none
    | none => none
  | _, _, _ => none

def nLen (H : Heap) (tl : Tab) (t : TypeId) (x : V) : Option V :=
  match kd tl t, x with
  | some .str, .at (.raw (.string s)) => some (.at (.raw (.int .i64 (s.size : Int))))
  | some (.sl _), .at (.sl id _ _ len) => bif alive H id then some (.at (.raw (.int .i64 len))) else none
  | some (.sl _), .at (.raw (.slice none 0 0)) => some (.at (.raw (.int .i64 0)))
  | some (.map _ _), .at (.map id) =>
    match H[id]? with
    | some (.map _ ks _) => some (.at (.raw (.int .i64 (ks.length : Int))))
    | _ => none
  | _, _ => none

section
variable {P : Program} {E : Nat → Prop} {w0 w : World} {ρ : List Pl} {H : Heap}


theorem field_get {F : Array Field} {fs : List (Nat × Nat)} (hF : F.toList.map (fun f => (f.offset, f.type)) = fs) {j o t : Nat} (h : fs[j]? = some (o, t)) : ∃ f, F[j]? = some f ∧ f.offset = o ∧ f.type = t := by
  subst hF
  simp only [List.getElem?_map, Option.map_eq_some_iff, Prod.mk.injEq] at h
  obtain ⟨f, hf, h1, h2⟩ := h
  exact ⟨f, by simpa using hf, h1, h2⟩

theorem part_one {t : TypeId} {ti : TI} (ht : TiOk P t ti) (hk : ti.kind.isAgg = some false) {cs : Array Value} {o : Nat} {u : Value} (h : cs[o]? = some u) (w' : World) : (part t cs o).run P w' = .ok u w' := by
  simp [part, ht.isAgg_run hk, h]
theorem part_agg {t : TypeId} {ti : TI} (ht : TiOk P t ti) (hk : ti.kind.isAgg = some true) (cs : Array Value) (o : Nat) (w' : World) : (part t cs o).run P w' = .ok (.agg (cs.extract o (o + ti.size))) w' := by
  simp [part, ht.isAgg_run hk, ht.size_run]

theorem nField_ok {tl : Tab} (htl : TabOk P tl) {t : TypeId} {x v : V} {f : Nat} {u : Value} (h : nField tl t x f = some v) (hx : VRel ρ H x u) :
    ∃ y, VRel ρ H v y ∧ ∀ w' : World, (Instr.field t u f).run P w' = .ok y w' := by
  unfold nField at h
  split at h
  · rename_i fs hti
    split at h
    · rename_i off ty as hf
      obtain ⟨F, hF, hm⟩ := kd_ok htl hti
      obtain ⟨fd, hfd, ho, hty⟩ := field_get hm hf
      obtain ⟨vs, rfl, hv⟩ := hx
      split at h
      · rename_i ti' hti'
        have ht := htl ty ti' hti'
        split at h
        · rename_i hk
          split at h
          · rename_i a ha
            cases h
            obtain ⟨y, hy, hya⟩ := hv.get ha
            refine ⟨y, hya, fun w' => ?_⟩
            simp only [Instr.field, Sem.run_bind, run_underlying hF, Result.andThen_ok, hfd, asAgg, Sem.run_pure, ho, hty]
            exact part_one ht hk (by simpa using hy) w'
          · cases h
        · rename_i hk
          cases hb : Nat.ble (off + ti'.size) as.length with
          | false => rw [hb] at h; cases h
          | true =>
            rw [hb] at h
            cases h
            refine ⟨.agg ((vs.drop off).take ti'.size).toArray, ⟨_, rfl, hv.part off ti'.size⟩, fun w' => ?_⟩
            simp only [Instr.field, Sem.run_bind, run_underlying hF, Result.andThen_ok, hfd, asAgg, Sem.run_pure, ho, hty]
            rw [part_agg ht hk]
            simp [List.extract_eq_take_drop]
        · cases h
      · cases h
    · cases h
  · cases h

theorem nFieldAddr_ok {tl : Tab} (htl : TabOk P tl) {t : TypeId} {x v : V} {f : Nat} {u : Value} (h : nFieldAddr H tl t x f = some v) (hx : VRel ρ H x u) :
    ∃ y, VRel ρ H v y ∧ ∀ w' : World, (Instr.fieldAt t u f).run P w' = .ok y w' := by
  unfold nFieldAddr at h
  split at h
  · rename_i fs hti
    split at h
    · rename_i off ty hf
      obtain ⟨F, hF, hm⟩ := kd_ok htl hti
      obtain ⟨fd, hfd, ho, hty⟩ := field_get hm hf
      split at h
      · rename_i ti' hti'
        have ht := htl ty ti' hti'
        cases hb : Nat.beq ti'.size 0 with
        | true => rw [hb] at h; cases h
        | false =>
          have hne : ti'.size ≠ 0 := Nat.ne_of_beq_eq_false hb
          rw [hb] at h
          simp only [cond_false] at h
          split at h
          · rename_i id o
            cases ha : alive H id with
            | false => rw [ha] at h; cases h
            | true =>
              rw [ha] at h
              cases h
              obtain ⟨p, hp, rfl⟩ := hx.resolve_left (not_gone ha)
              refine ⟨_, .inr ⟨p, hp, rfl⟩, fun w' => ?_⟩
              simp [Instr.fieldAt, run_underlying hF, hfd, Instr.sureAddr, fieldPlace, hty, ht.size_run, hne, ho, addr_add]
          · rename_i id sz i g
            cases ha : alive H id with
            | false => rw [ha] at h; cases h
            | true =>
              rw [ha] at h
              cases h
              obtain ⟨p, hp, rfl⟩ := hx.resolve_left (not_gone ha)
              refine ⟨_, .inr ⟨p, hp, rfl⟩, fun w' => ?_⟩
              simp [Instr.fieldAt, run_underlying hF, hfd, Instr.sureAddr, fieldPlace, hty, ht.size_run, hne, ho, addr_add, Nat.add_assoc]
          · cases h
      · cases h
    · cases h
  · cases h

theorem nIndexAddr_ok {tl : Tab} (htl : TabOk P tl) {t : TypeId} {x i v : V} {u j : Value} {c : Bool} (h : nIndexAddr H tl t x i = some (v, c)) (hc : c = true) (hx : VRel ρ H x u) (hi : VRel ρ H i j) :
    ∃ y, VRel ρ H v y ∧ ∀ w' : World, (Instr.indexAt t u j).run P w' = .ok y w' := by
  unfold nIndexAddr at h
  split at h
  · rename_i e k n hti
    have hu : P.underlying t = some (.slice e) := kd_ok htl hti
    split at h
    · rename_i ti' id sz off len hti'
      cases hb : (Nat.beq ti'.size sz && alive H id) with
      | false => rw [hb] at h; cases h
      | true =>
        rw [hb] at h
        cases h
        rw [Bool.and_eq_true] at hb
        have hsz : ti'.size = sz := Nat.eq_of_beq_eq_true hb.1
        obtain ⟨p, hp, h0, h1, h2, hsl⟩ := hx.resolve_left (not_gone hb.2)
        have ht := htl e ti' hti'
        simp only [VRel, ARel] at hi
        subst hi
        have hc := of_decide_eq_true hc
        have hcap : p.cap - (off.getD 0).toNat ≠ 0 := by omega
        rcases hsl with ⟨hr, a, rfl, ha⟩ | ⟨hr, hr2, rfl⟩
        · rw [ha hcap]
          refine ⟨.pointer (some (p.addr ((offAdd off n).toNat * sz + 0))), .inr ⟨p, hp, rfl⟩, fun w' => ?_⟩
          have hlen : n < ((len.toNat : Nat) : Int) := by omega
          have heq : (off.getD 0).toNat * sz + n.toNat * sz = (offAdd off n).toNat * sz := by
            cases off with
            | none => simp [offAdd]
            | some o => simp only [Option.getD_some] at h0 ⊢; simp only [offAdd]; rw [← Nat.add_mul]; congr 1; omega
          simp only [Instr.indexAt, asIntOf, Sem.run_bind, Sem.run_pure, Result.andThen_ok, run_underlying hu]
          rw [if_pos ⟨hc.1, hlen⟩]
          simp [ht.size_run, hsz, addr_add, heq]
        · omega
    · cases h
  · rename_i m e k n hti
    have hu : P.underlying t = some (.array m e) := kd_ok htl hti
    split at h
    · rename_i ti' id o hti'
      cases hb : alive H id with
      | false => rw [hb] at h; cases h
      | true =>
        rw [hb] at h
        cases h
        have ht := htl e ti' hti'
        obtain ⟨p, hp, rfl⟩ := hx.resolve_left (not_gone hb)
        simp only [VRel, ARel] at hi
        subst hi
        refine ⟨_, .inr ⟨p, hp, rfl⟩, fun w' => ?_⟩
        simp only [Instr.indexAt, asIntOf, Sem.run_bind, Sem.run_pure, Result.andThen_ok, run_underlying hu, Instr.sureAddr]
        rw [if_pos ⟨(of_decide_eq_true hc).1, (of_decide_eq_true hc).2⟩]
        simp [ht.size_run, addr_add]
    · cases h
  · cases h

theorem bt_get (s : ByteArray) (n : Int) (h0 : 0 ≤ n) (h1 : n < (s.size : Int)) : ∃ b : UInt8, s[n.toNat]? = some b ∧ bt s n = (b.toNat : Int) := by
  have hlt : n.toNat < s.size := by omega
  refine ⟨s[n.toNat], getElem?_pos s n.toNat hlt, ?_⟩
  unfold bt
  have hl : n.toNat < s.data.toList.length := by simpa using hlt
  rw [List.getD_eq_getElem?_getD, List.getElem?_eq_getElem hl]
  rfl

theorem nIndex_ok {tl : Tab} (htl : TabOk P tl) {t : TypeId} {x i v : V} {u j : Value} {c : Bool} (h : nIndex tl t x i = some (v, c)) (hc : c = true) (hx : VRel ρ H x u) (hi : VRel ρ H i j) :
    ∃ y, VRel ρ H v y ∧ ∀ w' : World, (Instr.index t u j).run P w' = .ok y w' := by
  unfold nIndex at h
  split at h
  · rename_i s k n hti
    have hu : P.underlying t = some .string := kd_ok htl hti
    cases h
    simp only [VRel, ARel] at hx hi
    subst hx hi
    have hc := of_decide_eq_true hc
    obtain ⟨b, hb, hbt⟩ := bt_get s n hc.1 hc.2
    refine ⟨.int .u8 (bt s n), rfl, fun w' => ?_⟩
    simp only [Instr.index, asIntOf, Sem.run_bind, Sem.run_pure, Result.andThen_ok, run_underlying hu]
    rw [if_pos hc.1, hb, hbt]
    rfl
  · rename_i m e as k n hti
    have hu : P.underlying t = some (.array m e) := kd_ok htl hti
    split at h
    · rename_i ti' hti'
      have ht := htl e ti' hti'
      split at h
      · rename_i a hk ha
        cases h
        obtain ⟨vs, rfl, hv⟩ := hx
        simp only [VRel, ARel] at hi
        subst hi
        obtain ⟨y, hy, hya⟩ := hv.get ha
        refine ⟨y, hya, fun w' => ?_⟩
        simp only [Instr.index, asIntOf, Sem.run_bind, Sem.run_pure, Result.andThen_ok, run_underlying hu]
        rw [if_pos ⟨(of_decide_eq_true hc).1, (of_decide_eq_true hc).2⟩]
        simp only [Sem.run_bind, ht.size_run, Result.andThen_ok]
        exact part_one ht hk (by simpa using hy) w'
      · cases h
    · cases h
  · cases h

theorem nLen_ok {tl : Tab} (htl : TabOk P tl) (hr : HRead ρ H w) {t ty : TypeId} {x v : V} {u : Value} (h : nLen H tl t x = some v) (hx : VRel ρ H x u) :
    ∃ y, VRel ρ H v y ∧ ∀ w' : World, HSame ρ H (idsV x) w w' → (Builtin.len_ #[t] ty #[u]).run P w' = .ok y w' := by
  unfold nLen at h
  split at h
  · rename_i s hti
    have hu : P.underlying t = some .string := kd_ok htl hti
    cases h
    simp only [VRel, ARel] at hx
    subst hx
    exact ⟨_, rfl, fun w' _ => by simp [Builtin.len_, run_underlying hu, goInt]⟩
  · rename_i e id sz off len hti
    have hu : P.underlying t = some (.slice e) := kd_ok htl hti
    cases hb : alive H id with
    | false => rw [hb] at h; cases h
    | true =>
      rw [hb] at h
      cases h
      obtain ⟨p, hp, h0, h1, h2, hsl⟩ := hx.resolve_left (not_gone hb)
      refine ⟨.int .i64 len, rfl, fun w' _ => ?_⟩
      rcases hsl with ⟨hr, a, rfl, ha⟩ | ⟨hr, hr2, rfl⟩
      · simp [Builtin.len_, run_underlying hu, goInt, Int.toNat_of_nonneg h1]
      · have : len = 0 := by omega
        subst this
        simp [Builtin.len_, run_underlying hu, goInt]
  · rename_i e hti
    have hu : P.underlying t = some (.slice e) := kd_ok htl hti
    cases h
    simp only [VRel, ARel] at hx
    subst hx
    exact ⟨_, rfl, fun w' _ => by simp [Builtin.len_, run_underlying hu, goInt]⟩
  · rename_i k e id hti
    have hu : P.underlying t = some (.map k e) := kd_ok htl hti
    split at h
    · rename_i kt ks col hid
      cases h
      obtain ⟨p, hp, h1, h2, es, clock, h3, h4, _⟩ := hr.at hid
      rcases hx with hx | ⟨q, hq, rfl⟩
      · rw [Gone, hid] at hx; cases hx
      · rw [hp] at hq; cases hq
        refine ⟨.int .i64 (ks.length : Int), rfl, fun w' hw => ?_⟩
        have hg : (getObj p.blk).run P w' = .ok (.map es clock) w' := by simp [getObj, Sem.run, hw id (by simp [idsV]) _ _ hp hid rfl h1, h3]
        simp [Builtin.len_, run_underlying hu, goInt, hg, h4]
    · cases h
  · cases h
end
end Go.Sx
