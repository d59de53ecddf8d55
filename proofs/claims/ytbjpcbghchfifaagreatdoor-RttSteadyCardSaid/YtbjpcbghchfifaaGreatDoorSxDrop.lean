/-
  Parts of a code, by their places.
-/
import Derived.Test.YtbjpcbghchfifaaGreatDoorSxZ
set_option linter.all false
namespace Go.Sx
open Go
def cA : Code → Code
  | .seq a _ => a
  | c => c
def cB : Code → Code
  | .seq _ b => b
  | c => c
def cIn : Code → Code
  | .block _ c => c
  | .loop c => c
  | c => c
def cYes : Code → Code
  | .cond _ a _ => a
  | c => c
def rOps : Code → List Oper
  | .region _ ⟨l⟩ _ => l
  | _ => []
def noOp : Oper := { dst := none, op := .move (.const undef), type := 0, pos := "", after := #[], guard := none }
def opN (l : List Oper) (i : Nat) : Oper := l.getD i noOp
def nodupB : List Int → Bool
  | [] => true
  | k :: r => !(mhas r k) && nodupB r
theorem mhas_mem {n : Int} : ∀ {ks : List Int}, n ∈ ks → mhas ks n = true
  | k :: r, h => by
    simp only [mhas]
    by_cases hk : k = n
    · simp [hk]
    · have : n ∈ r := by simpa [Ne.symm hk] using h
      rw [mhas_mem this]
      cases (k == n) <;> rfl
theorem nodupB_ok : ∀ {ks : List Int}, nodupB ks = true → ks.Nodup
  | [], _ => List.nodup_nil
  | k :: r, h => by
    simp only [nodupB, Bool.and_eq_true, Bool.not_eq_true'] at h
    exact List.nodup_cons.2 ⟨fun hm => by rw [mhas_mem hm] at h; exact absurd h.1 (by decide), nodupB_ok h.2⟩

/-- How far one number is ahead of another one, on the circle. -/
def diffI (a b : Int) : Int :=
  bif decide (andI .u64 (subI .u64 a b) 281474976710655 ≥ 140737488355328) then subI .i64 (wrapI .i64 (andI .u64 (subI .u64 a b) 281474976710655)) 281474976710656
  else wrapI .i64 (andI .u64 (subI .u64 a b) 281474976710655)
def putHold (s n : Int) : Bool := bif decide (diffI s n < 0) then true else decide (diffI s n ≥ 250)
def dropP (s nw n : Int) : Bool := bif n != nw then putHold s n else false

section
variable {P : Program} {tl : Tab}
/-- A function's contract, its walk made by hand. -/
theorem fn_hand {f : FuncId} {fn : Func} (hfn : P.funcs[f]? = some fn) (hname : (fn.name == "runtime.NumGoroutine") = false) {body : Code} (hbody : fn.body = some body)
    {nargs k0 : Nat} {Tin Tout : Tm} (hsl : slotsLt nargs Tin.roots = true) (hn : nargs ≤ fn.ntmps) {S : List Leaf → Option (List Leaf)}
    (h : ∀ ls r fr H, S ls = some r → inst Tin ls = some (fr, H) → ∀ (E : Nat → Prop) (w0 w : World) (ρ : List Pl) (a : Act), St false E w0 w fn.ntmps ρ ρ H fr a w →
      Goes P f a [.code body] w fun u w' => ∃ ρ' fr' H' v, (∀ (i : Nat) (p : Pl), ρ[i]? = some p → ρ'[i]? = some p) ∧ inst Tout r = some (fr', H') ∧ HRel E w0 ρ' H' w' ∧ lk fr' 0 = some v ∧ VRel ρ' H' v u) :
    FnC P f false nargs k0 Tin Tout S := by
  refine ⟨⟨fn, hfn, hname, by rw [hbody]; rfl⟩, ?_⟩
  intro ls r fr H E w0 w ρ us hSr hi hr hlen hs
  have hlt : ∀ t v, lk fr t = some v → t < nargs := by
    unfold inst at hi
    split at hi
    · split at hi
      · split at hi
        · rename_i h3; cases hi; exact slotsLt_ok hsl h3
        · cases hi
      · cases hi
    · cases hi
  let a0 : Act := { tmps := us.toArray ++ Array.replicate (fn.ntmps - us.toArray.size) undef, defers := [] }
  have hframe : FRel fn.ntmps ρ H fr a0 := by
    refine ⟨by simp [a0, hlen]; omega, rfl, fun t v hl => ?_, fun t v hl => by have := hlt t v hl; omega⟩
    have h1 := hlt t v hl
    have h2 := hs t v hl
    have : a0.tmps.getD t undef = us.getD t undef := by
      simp only [a0, Array.getD_eq_getD_getElem?, List.getD_eq_getElem?_getD]
      rw [Array.getElem?_append_left (by simp [hlen]; exact h1)]
      simp
    rw [this]; exact h2
  have hg := h ls r fr H hSr hi E w0 w ρ a0 ⟨fun _ _ h => h, hframe, hr, fun _ => ⟨0, rfl⟩⟩
  refine Calls.mono (calls_of_goes hfn hbody hg) ?_
  rintro e w' ⟨u, rfl, ρ', fr', H', v, h1, h2, h3, h4, h5⟩
  exact ⟨u, ρ', fr', H', v, rfl, h1, h2, h3, h4, h5, fun hp => by cases hp⟩
end
/-! ### Steps (none of them by mere unfolding: the kernel is not to look into loops) -/
section
variable {α β : Type}
theorem out_ev (v : α) (k : α → Option β) : out (some v) k = k v := Eq.symm (Eq.symm rfl)
theorem one_ev (n : Int) (k : Int → Option α) : one n k = k n := Eq.symm (Eq.symm rfl)
theorem un_i_ev (n : Int) (r : List Leaf) (k : Int → List Leaf → Option α) : un_i (.i n :: r) k = k n r := Eq.symm (Eq.symm rfl)
theorem un_b_ev (n : Bool) (r : List Leaf) (k : Bool → List Leaf → Option α) : un_b (.b n :: r) k = k n r := Eq.symm (Eq.symm rfl)
theorem un_s_ev (n : ByteArray) (r : List Leaf) (k : ByteArray → List Leaf → Option α) : un_s (.s n :: r) k = k n r := Eq.symm (Eq.symm rfl)
theorem un_li_ev (n : List Int) (r : List Leaf) (k : List Int → List Leaf → Option α) : un_li (.li n :: r) k = k n r := Eq.symm (Eq.symm rfl)
theorem un_lb_ev (n : List Bool) (r : List Leaf) (k : List Bool → List Leaf → Option α) : un_lb (.lb n :: r) k = k n r := Eq.symm (Eq.symm rfl)
theorem un_ls_ev (n : List ByteArray) (r : List Leaf) (k : List ByteArray → List Leaf → Option α) : un_ls (.ls n :: r) k = k n r := Eq.symm (Eq.symm rfl)
theorem un_nil_ev (k : Option α) : un_nil [] k = k := Eq.symm (Eq.symm rfl)
theorem br_t (x y : Option α) : br true x y = x := Eq.symm (Eq.symm rfl)
theorem br_f (x y : Option α) : br false x y = y := Eq.symm (Eq.symm rfl)
theorem chk_t (x : Option α) : chk true x = x := Eq.symm (Eq.symm rfl)
theorem beq00 : Nat.beq 0 0 = true := Eq.symm (Eq.symm rfl)
theorem br_pos {c : Prop} [Decidable c] (h : c) (x y : Option α) : br (decide c) x y = x := by rw [decide_eq_true h]; exact br_t x y
theorem br_neg {c : Prop} [Decidable c] (h : ¬ c) (x y : Option α) : br (decide c) x y = y := by rw [decide_eq_false h]; exact br_f x y
theorem chk_pos {c : Prop} [Decidable c] (h : c) (x : Option α) : chk (decide c) x = x := by rw [decide_eq_true h]; exact chk_t x
theorem br_eq {a b : Int} (h : a = b) (x y : Option α) : br (a == b) x y = x := by rw [beq_iff_eq.2 h]; exact br_t x y
theorem br_ne {a b : Int} (h : a ≠ b) (x y : Option α) : br (a == b) x y = y := by rw [beq_eq_false_iff_ne.2 h]; exact br_f x y
end

end Go.Sx
