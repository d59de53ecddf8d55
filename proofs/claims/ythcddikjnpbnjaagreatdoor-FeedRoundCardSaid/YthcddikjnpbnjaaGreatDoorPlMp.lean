import Derived.Test.YthcddikjnpbnjaaGreatDoorYGotSpec
import Derived.Test.YthcddikjnpbnjaaGreatDoorPlSeq
import Derived.Test.YthcddikjnpbnjaaGreatDoorPlOf
set_option linter.all false
namespace Go.Sx.T
open Go Go.Sx
theorem mhas_iff {n : Int} : ∀ {k : List Int}, mhas k n = true ↔ n ∈ k
  | [] => by simp [mhas]
  | a :: k => by
    have ih := mhas_iff (n := n) (k := k)
    by_cases h : a = n
    · subst h; simp [mhas]
    · have h2 : ¬ n = a := fun x => h x.symm
      simp [mhas, beq_eq_false_iff_ne.2 h, h2, ih]
theorem mhas_f {n : Int} {k : List Int} (h : n ∉ k) : mhas k n = false := by
  cases e : mhas k n
  · rfl
  · exact absurd (mhas_iff.1 e) h
theorem mhas_dec (k : List Int) (n : Int) : mhas k n = decide (n ∈ k) := by
  by_cases h : n ∈ k
  · rw [mhas_iff.2 h, decide_eq_true h]
  · rw [mhas_f h, decide_eq_false h]
theorem mputK_new {n : Int} {k : List Int} (h : n ∉ k) : mputK k n = k ++ [n] := by unfold mputK; rw [mhas_f h]; rfl
theorem mputV_new {α : Type} {n : Int} {k : List Int} {l : List α} {x : α} (h : n ∉ k) : mputV k l n x = l ++ [x] := by unfold mputV; rw [mhas_f h]; rfl
theorem mputK_old {n : Int} {k : List Int} (h : n ∈ k) : mputK k n = k := by unfold mputK; rw [mhas_iff.2 h]; rfl
theorem midx_app {n : Int} : ∀ {k : List Int}, n ∉ k → midx (k ++ [n]) n = k.length
  | [], _ => by simp [midx]
  | a :: k, h => by
    have h1 : a ≠ n := fun x => h (by simp [x])
    have ih := midx_app (n := n) (k := k) (fun x => h (by simp [x]))
    simp only [List.cons_append, midx, beq_eq_false_iff_ne.2 h1, cond_false, List.length_cons, ih]
theorem mputV_again {α : Type} {n : Int} {k : List Int} {l : List α} {x y : α} (h : n ∉ k) (hl : l.length = k.length) : mputV (k ++ [n]) (l ++ [x]) n y = l ++ [y] := by
  unfold mputV
  rw [mhas_iff.2 (by simp), midx_app h, ← hl]
  simp
theorem mget_app {α : Type} {d : α} {n m : Int} {x : α} : ∀ {k : List Int} {l : List α}, l.length = k.length → m ∉ k → mget d (k ++ [m]) (l ++ [x]) n = if n = m then x else mget d k l n
  | [], [], _, _ => by
    by_cases h : n = m
    · subst h; simp [mget]
    · have : m ≠ n := fun x => h x.symm
      simp [mget, beq_eq_false_iff_ne.2 this, h]
  | a :: k, b :: l, hl, hm => by
    have ih := mget_app (d := d) (n := n) (m := m) (x := x) (k := k) (l := l) (by simpa using hl) (fun h => hm (by simp [h]))
    simp only [List.cons_append, mget]
    by_cases h : a = n
    · subst h
      have : a ≠ m := fun x => hm (by simp [x])
      simp [this]
    · rw [beq_eq_false_iff_ne.2 h, cond_false, cond_false, ih]
theorem mget_mf {α : Type} {d : α} {p : Int → Bool} {n : Int} (hp : p n = false) : ∀ {k : List Int} {l : List α}, l.length = k.length → mget d (mfK p k) (mfV p k l) n = mget d k l n
  | [], [], _ => rfl
  | a :: k, b :: l, hl => by
    have ih := mget_mf (d := d) hp (k := k) (l := l) (by simpa using hl)
    cases h : p a
    · simp only [mfK, mfV, h, cond_false, mget, ih]
    · have : a ≠ n := fun x => by subst x; rw [hp] at h; cases h
      simp only [mfK, mfV, h, cond_true, mget, ih, beq_eq_false_iff_ne.2 this, cond_false]
theorem nodupB_of : ∀ {k : List Int}, k.Nodup → nodupB k = true
  | [], _ => rfl
  | a :: k, h => by
    obtain ⟨h1, h2⟩ := List.nodup_cons.1 h
    simp [nodupB, mhas_f h1, nodupB_of h2]
theorem nodup_app {k : List Int} {n : Int} (h : k.Nodup) (hn : n ∉ k) : (k ++ [n]).Nodup := by
  rw [List.nodup_append]
  exact ⟨h, by simp, fun a ha b hb => by
    obtain rfl : b = n := by simpa using hb
    exact fun e => hn (e ▸ ha)⟩
/-- How far a number lies behind another one, rounds taken off. -/
def dif (a b : Int) : Int := if (a - b) % 281474976710656 ≥ 140737488355328 then (a - b) % 281474976710656 - 281474976710656 else (a - b) % 281474976710656
theorem diffI_eq (a b : Int) : diffI a b = dif a b := by
  have h1 := seq_Diff_t a b
  have h2 := diff_t a b
  rw [h1] at h2
  simpa [dif] using h2
theorem dif_seq {first W k : Int} (h0 : -140737488355328 ≤ W - k) (h1 : W - k < 140737488355328) : dif ((first + W) % 281474976710656) ((first + k) % 281474976710656) = W - k := by
  unfold dif
  split <;> omega
theorem diffD_t (a b : Int) : seq_Diff a b = some [.i (dif a b)] := diff_t a b
theorem lessD_t (a b : Int) : seq_Less a b = some [.b (decide (dif a b < 0))] := by
  rw [less_t]
  congr 3
  unfold dif
  split
  · rename_i h; simp only [h, decide_true]; rw [decide_eq_true]; omega
  · rename_i h; simp only [h, decide_false]; rw [decide_eq_false]; omega
def ky (first o : Int) : Int := (first + o) % 281474976710656
theorem ky_U (first o : Int) : U (ky first o) := by unfold ky U; omega
theorem ky_mod (first o : Int) : ky first o % 281474976710656 = ky first o := by unfold ky; omega
theorem ky_inj {first a b : Int} (h : ky first a = ky first b) (h0 : a - b < 140737488355328) (h1 : b - a < 140737488355328) : a = b := by unfold ky at h; omega
theorem dif_ky {first a b : Int} (h0 : -140737488355328 ≤ a - b) (h1 : a - b < 140737488355328) : dif (ky first a) (ky first b) = a - b := dif_seq h0 h1
end Go.Sx.T

