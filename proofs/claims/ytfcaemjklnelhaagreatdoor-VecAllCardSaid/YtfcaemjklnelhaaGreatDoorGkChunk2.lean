import Derived.Test.YtfcaemjklnelhaaGreatDoorGkChunk1
import Derived.RangeFuncNested
import Derived.RangeFuncBound
import Derived.RangeFuncCalls
import Derived.Maps.AppendAt
set_option linter.all false
namespace Go.Proofs
open Go.RowKit Go.Shelf
attribute [local go_sem] Oper.semAt_some
def encV (a : Option Addr) (len x : Nat) : Value := match a with
  | some ⟨b, off, _⟩ => .slice (some ⟨b, off + 253 * x * 2, none⟩) (plen len x) (plen len x)
  | none => .slice none 0 0
def encS (a : Option Addr) (len x : Nat) : Array Value := #[encV a len x]
theorem KpC.t {B1 B2 : Nat} {A B C : World} (h : KpC B1 B2 A B) (k : KpC B1 B2 B C) : KpC B1 B2 A C := ⟨k.1.trans h.1, k.2.trans h.2⟩
theorem KpC.of {B1 B2 : Nat} {W W' : World} {N : Nat} (h1 : B1 < N) (h2 : B2 < N) (h : ∀ k, B1 ≤ k → k < N → W'.heap[k]? = W.heap[k]?) (h12 : B1 ≤ B2) : KpC B1 B2 W W' := by
  constructor
  · simp only [World.cell?, h B1 (Nat.le_refl _) h1]
  · simp only [World.cell?, h B2 h12 h2]
theorem KpC.b {B1 B2 : Nat} {w : World} (h1 : B1 < w.heap.size) (h2 : B2 < w.heap.size) (W : World) (l : Nat) (o o' : Obj) (hl : w.heap.size ≤ l) (h : W.heap[l]? = some o) (_ : o.isCells = false) (_ : o.isWalk = false) : KpC B1 B2 W (W.putObj l o') := by
  have hg := grownBy_putObj' W l o'
  have hs := (Array.getElem?_eq_some_iff.1 h).1
  constructor
  · simp only [World.cell?]
    rw [hg.block B1 (by omega) (by simp; omega)]
  · simp only [World.cell?]
    rw [hg.block B2 (by omega) (by simp; omega)]
set_option maxRecDepth 100000 in
set_option maxHeartbeats 2000000 in
theorem chunk1_nil_in (F : Fence) (n : Nat) (h7 : F.fn 73) (hro : F.round = none) (l B1 B2 : Nat) (a : Option Addr) (cap : Nat) (J : List Nat → World → Prop)
    (W : World) (hB1 : W.cell? ⟨B1, 0, none⟩ = some (.slice a 0 cap)) (h0 : J [] W) :
    CallsIn F n Tryz.prog 73 #[.func (.yield l) #[] #[], .pointer (some ⟨B1, 0, none⟩), .pointer (some ⟨B2, 0, none⟩)] W fun e W' => (∃ v, e = .returned v) ∧ J [] W' := by
  refine callsIn_of_wp Tryz.func73 rfl h7 ?_ hro
  simp only [Tryz.ntmps73, List.size_toArray, List.length_cons, List.length_nil, Nat.reduceAdd, Nat.reduceSub, Array.replicate_succ, Array.replicate_zero, List.push_toArray, List.append_toArray, List.nil_append, List.cons_append]
  gi_wp2
  gi_loopw [4] (fun i wr => i = .int .i64 0 ∧ J [] wr ∧ wr.cell? ⟨B1, 0, none⟩ = some (.slice a 0 cap)) (fun _ _ => 0)
  case atStart => exact ⟨rfl, h0, hB1⟩
  case round =>
    obtain ⟨rfl, hJs, hC1⟩ := hrel
    gi_wp2
    go_end0
    exact ⟨⟨_, rfl⟩, hJs⟩
/-- What slices.Chunk gives, for loops: the parts' numbers 0, 1, .. -/
theorem chunk_stops (F : Fence) (n : Nat) (h7 : F.fn 73) (hro : F.round = none) (hn : 1 ≤ n) (B1 B2 : Nat) (a : Option Addr) (len cap : Nat) (ha : 0 < len → ∃ b off, a = some ⟨b, off, none⟩) (hlc : len ≤ cap) (hcap : len ≤ 1000000000) (w : World) (hb1 : B1 < w.heap.size) (hb2 : B2 < w.heap.size)
    (hc1 : w.cell? ⟨B1, 0, none⟩ = some (.slice a len cap)) (hc2 : w.cell? ⟨B2, 0, none⟩ = some (.int .i64 253)) :
    SeqStopsK F n Tryz.prog 73 #[.pointer (some ⟨B1, 0, none⟩), .pointer (some ⟨B2, 0, none⟩)] (fun x : Nat => encS a len x) (KpC B1 B2) (fun ys => ys = List.range (parts len)) (fun _ => True) (parts len) w := by
  intro l J Jx W hW hJ _ hY h0
  have hc1' := (hW.cell (p := ⟨B1, 0, none⟩) hb1).trans hc1
  have hc2' := (hW.cell (p := ⟨B2, 0, none⟩) hb2).trans hc2
  by_cases hl : 0 < len
  · obtain ⟨b, off, rfl⟩ := ha hl
    exact chunk1_in F n h7 hro hn l B1 B2 b off len cap hlc hcap J Jx (fun s W h => hJ s W W.drew none h ⟨rfl, rfl, rfl, Nat.le_refl _, fun _ _ _ => rfl⟩ (fun r e => by cases e)) (fun pre x W h hl => hY pre x W h hl) W hc1' hc2' h0
  · obtain rfl : len = 0 := by omega
    exact (chunk1_nil_in F n h7 hro l B1 B2 a cap J W hc1' h0).mono fun e W' ⟨he, hj⟩ => ⟨he, .inl ⟨_, by simp [parts], hj⟩⟩
end Go.Proofs

