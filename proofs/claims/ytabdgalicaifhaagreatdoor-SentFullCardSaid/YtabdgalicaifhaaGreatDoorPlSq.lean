import Derived.Test.YtabdgalicaifhaaGreatDoorPlSent
set_option linter.all false
namespace Go.Sx.T
open Go Go.Sx
def z : Nat → Int := fun _ => 0
theorem outs_app (a b : List Pk) : outs (a ++ b) = outs a + outs b := by simp [outs]
theorem outs_seq (first : Int) (f : Nat → Int) (k : Nat) : outs (seqP first f k) = k := by
  have : (seqP first f k).filter (fun p => p.w = 0) = seqP first f k := List.filter_eq_self.2 fun p hp => by
    obtain ⟨i, _, rfl⟩ := List.mem_map.1 hp
    rfl
  unfold outs
  rw [this, seqP_len]
theorem new_t : sent_New = some [.li [], .li [], .li [], .i 0, .b false] := by
  unfold sent_New
  simp [chk]
theorem lose_app {A q : List Pk} (h : ∀ p ∈ A, p.w = 1) : (lose (A ++ q)).ps = A ++ (lose q).ps ∧ (lose (A ++ q)).l = (lose q).l := by
  induction A with
  | nil => exact ⟨rfl, rfl⟩
  | cons p A ih =>
    obtain ⟨h1, h2⟩ := ih (fun x hx => h x (by simp [hx]))
    have h0 := h p (by simp)
    simp only [List.cons_append, lose, lstep, if_pos h0, h1, h2]
    exact ⟨trivial, trivial⟩
def tail (first : Int) (f : Nat → Int) (a b : Nat) : List Pk := (List.range b).map fun (i : Nat) => ⟨(first + ((a + i : Nat) : Int)) % 281474976710656, f (a + i), 0⟩
theorem seqP_add (first : Int) (f : Nat → Int) (a b : Nat) : seqP first f (a + b) = seqP first f a ++ tail first f a b := by
  simp [seqP, tail, List.range_add]
theorem tail_len (first : Int) (f : Nat → Int) (a b : Nat) : (tail first f a b).length = b := by simp [tail]
theorem outs_tail (first : Int) (f : Nat → Int) (a b : Nat) : outs (tail first f a b) = b := by
  have : (tail first f a b).filter (fun p => p.w = 0) = tail first f a b := List.filter_eq_self.2 fun p hp => by
    obtain ⟨i, _, rfl⟩ := List.mem_map.1 hp
    rfl
  unfold outs
  rw [this, tail_len]
theorem few_tail (first : Int) (f : Nat → Int) (a b : Nat) : (tail first f a b).filter (fun p => p.w = 1) = [] := by
  rw [List.filter_eq_nil_iff]
  intro p hp
  obtain ⟨i, _, rfl⟩ := List.mem_map.1 hp
  simp
theorem one_seq (first : Int) (f : Nat → Int) : seqP first f 1 = [⟨first % 281474976710656, f 0, 0⟩] := by simp [seqP]
theorem dif0 {first k : Int} (h0 : 0 ≤ k) (h1 : k < 140737488355328) : dif first ((first + k) % 281474976710656) = -k := by
  unfold dif
  split <;> omega
end Go.Sx.T

