import Derived.Test.YtfcaemjklnelhaaGreatDoorGkChunk
import Derived.Shelf.RegionOpen
set_option linter.all false
namespace Go.Proofs
open Go.RowKit Go.Shelf
attribute [local go_sem] Oper.semAt_some
/-- How many cells the part from number x on has. -/
def plen (len x : Nat) : Nat := min 253 (len - 253 * x)
def parts (len : Nat) : Nat := (len + 252) / 253
def encP (b off len : Nat) (x : Nat) : Array Value := #[.slice (some ⟨b, off + 253 * x * 2, none⟩) (plen len x) (plen len x)]
def KpC (B1 B2 : Nat) (W W' : World) : Prop := W'.cell? ⟨B1, 0, none⟩ = W.cell? ⟨B1, 0, none⟩ ∧ W'.cell? ⟨B2, 0, none⟩ = W.cell? ⟨B2, 0, none⟩
set_option maxRecDepth 100000 in
set_option maxHeartbeats 2000000 in
theorem chunk1_in (F : Fence) (n : Nat) (h7 : F.fn 73) (hro : F.round = none) (hn : 1 ≤ n) (l B1 B2 b off len cap : Nat) (hlc : len ≤ cap) (hcap : len ≤ 1000000000) (J Jx : List Nat → World → Prop)
    (hJd : ∀ s W, J s W → J s W.drew)
    (hY : ∀ pre x W, J pre W → pre.length < parts len → YieldAt F (n - 1) Tryz.prog l (encP b off len x) W fun e W' =>
      (e = .returned (.bool true) ∧ J (pre ++ [x]) W' ∧ KpC B1 B2 W W') ∨ (e = .returned (.bool false) ∧ Jx (pre ++ [x]) W'))
    (W : World) (hB1 : W.cell? ⟨B1, 0, none⟩ = some (.slice (some ⟨b, off, none⟩) len cap)) (hB2 : W.cell? ⟨B2, 0, none⟩ = some (.int .i64 253)) (h0 : J [] W) :
    CallsIn F n Tryz.prog 73 #[.func (.yield l) #[] #[], .pointer (some ⟨B1, 0, none⟩), .pointer (some ⟨B2, 0, none⟩)] W fun e W' => (∃ v, e = .returned v) ∧
      ((∃ ys, ys = List.range (parts len) ∧ J ys W') ∨ (∃ pre, True ∧ Jx pre W')) := by
  refine callsIn_of_wp Tryz.func73 rfl h7 ?_ hro
  simp only [Tryz.ntmps73, List.size_toArray, List.length_cons, List.length_nil, Nat.reduceAdd, Nat.reduceSub, Array.replicate_succ, Array.replicate_zero, List.push_toArray, List.append_toArray, List.nil_append, List.cons_append]
  gi_wp2
  gi_loopw [4] (fun i wr => ∃ k : Nat, k ≤ parts len ∧ i = .int .i64 ((253 * k : Nat) : Int) ∧ J (List.range k) wr ∧ wr.cell? ⟨B1, 0, none⟩ = some (.slice (some ⟨b, off, none⟩) len cap) ∧ wr.cell? ⟨B2, 0, none⟩ = some (.int .i64 253))
    (fun i _ => 253 * parts len - (intOf i).toNat)
  case atStart => exact ⟨0, Nat.zero_le _, rfl, h0, hB1, hB2⟩
  case round =>
    obtain ⟨k, hk, rfl, hJs, hC1, hC2⟩ := hrel
    by_cases hlt : k < parts len
    · obtain ⟨fn, tmps, assign, body, hy, hR⟩ := hY _ k wr.drew (hJd _ _ hJs) (by rw [List.length_range]; exact hlt)
      have h253 : 253 * k < len := by unfold parts at hlt; omega
      gi_wp2
      have hm : Tryz.prog.follows .mixedOrders = true := by kernel_rfl
      have key : ∀ x y : Nat, x = plen len k → y = plen len k → (#[Value.slice (some ⟨b, off + 253 * k * 2, none⟩) x y] : Array Value) = encP b off len k := by
        rintro _ _ rfl rfl; rfl
      gi_region
      all_goals gi_wp2
      all_goals
        rw [key _ _ (by unfold plen; omega) (by unfold plen; omega), hy]
        refine ⟨fun _ => hn, hR.mono ?_⟩
        rintro e W3 (⟨rfl, hJ3, hk3⟩ | ⟨rfl, hJx3⟩)
        · have hC1' : W3.cell? ⟨B1, 0, none⟩ = some (.slice (some ⟨b, off, none⟩) len cap) := hk3.1.trans hC1
          have hC2' : W3.cell? ⟨B2, 0, none⟩ = some (.int .i64 253) := hk3.2.trans hC2
          gi_wp2
          go_roundw
          case rel => exact ⟨k + 1, by omega, by simp; omega, by rw [List.range_succ]; exact hJ3, hC1', hC2'⟩
          case measure => simp [intOf]; omega
        · gi_wp2
          refine bodyPost_ret (results_none rfl _ _ _) rfl ?_
          exact ⟨⟨_, rfl⟩, .inr ⟨_, trivial, hJx3⟩⟩
    · obtain rfl : k = parts len := by omega
      have h253 : ¬ 253 * parts len < len := by unfold parts; omega
      gi_wp2
      go_end0
      exact ⟨⟨_, rfl⟩, .inl ⟨_, rfl, hJs⟩⟩
end Go.Proofs

