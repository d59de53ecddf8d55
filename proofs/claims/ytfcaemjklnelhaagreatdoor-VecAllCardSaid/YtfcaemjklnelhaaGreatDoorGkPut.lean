import Derived.Test.YtfcaemjklnelhaaGreatDoorGkChunk2
import Derived.Laws.BytesString
set_option linter.all false
namespace Go.Proofs
open Go.RowKit Go.Shelf
attribute [local go_sem] Oper.semAt_some
theorem Vi5 : (Tryz.prog.info? 5).map (fun i => (i.zero, i.size, i.bytes)) = some (some (.int .u8 0), 1, 1) := by kernel_rfl
theorem Vi9 : (Tryz.prog.info? 9).map (fun i => (i.zero, i.size, i.bytes)) = some (some (.string ByteArray.empty), 1, 16) := by kernel_rfl
theorem Vu80 : Tryz.prog.underlying 80 = some (.slice 5) := by kernel_rfl
theorem Vu27 : Tryz.prog.underlying 27 = some (.slice 9) := by kernel_rfl
theorem Vu9 : Tryz.prog.underlying 9 = some .string := by kernel_rfl
theorem Vu5 : Tryz.prog.underlying 5 = some (.int .u8) := by kernel_rfl
theorem cell_one_new2 (w : World) (o : Obj) (x : Value) (t : TypeId) : ∀ j u, [x][j]? = some u → ((w.alloc o).alloc (.cells #[x] t)).cell? ((⟨w.heap.size + 1, 0, none⟩ : Addr).add j) = some u := by
  have := cell_one_new (w.alloc o) x t
  rwa [World.size_alloc] at this
def Stop (p : Prop) : Prop := p
theorem stopHere {p : Prop} (h : Stop p) : p := h
def vbyte (s r : Int) : Int := wrap64 (wrap64 (wrap64 (s * 64) + r) - 1) % 256
def vbytes (st rn : Nat → Int) (x k : Nat) : List Value := (List.range k).map fun j => .int .u8 (vbyte (st (253 * x + j)) (rn (253 * x + j)))
def vtext (st rn : Nat → Int) (len x : Nat) : ByteArray := ((List.range (plen len x)).map fun j => vbyte (st (253 * x + j)) (rn (253 * x + j))).foldl (fun (r : ByteArray) n => r.push (UInt8.ofNat n.toNat)) ByteArray.empty
def vtexts (st rn : Nat → Int) (len : Nat) (pre : List Nat) : List Value := pre.map fun x => .string (vtext st rn len x)
theorem bytes_text {w : World} {base k : Nat} {v : Value} {ns : List Int} (h : w.ownsRow base 5 1 v k (ns.map (Value.int .u8))) :
    (convert 80 9 v).run Tryz.prog w = .ok (.string (ns.foldl (fun (r : ByteArray) n => r.push (UInt8.ofNat n.toNat)) ByteArray.empty)) w := by
  have hl := h.1
  rw [List.length_map, Nat.mul_one] at hl
  rcases h.2 with ⟨rfl, rfl⟩ | ⟨g, cap, cur, rfl, _⟩
  · obtain rfl := List.eq_nil_of_length_eq_zero hl
    rw [run_convert_bytes_string w 80 9 5 none 0 0 Vu80 Vu5 Vu9]; simp [Conv.bytesToString]
  · rw [run_convert_bytes_string w 80 9 5 _ _ _ Vu80 Vu5 Vu9]
    have h1 := run_loadCells_list (P := Tryz.prog) (w := w) ⟨g, 0, none⟩ (ns.map (Value.int .u8)) (h.cells rfl)
    rw [List.length_map] at h1
    rw [← hl, run_bytesToString (P := Tryz.prog) w ⟨g, 0, none⟩ ns.length cap ns h1]
theorem below_grown {W wr : World} (h : Below W.heap.size W wr) : W.grownBy wr none := ⟨h.os, h.tape, h.output, h.size, fun k hk _ => h.block k hk⟩
theorem below_app {W wr w1 : World} {o1 o2 : Obj} {e : TypeId} {size k : Nat} {v : Value} {xs : List Value} (hB : Below W.heap.size W wr) (hown : wr.ownsRow W.heap.size e size v k xs) (hgrow : ((wr.alloc o1).alloc o2).grownBy w1 v.ownBlock) : Below W.heap.size W w1 := by
  refine ((hB.alloc hB.size o1).alloc (by have := hB.size; simp; omega) o2).grown hgrow (by have := hB.size; simp; omega) fun j ej => (hown.lt j ej).1
theorem ownsRow_base {W : World} {b b' : Nat} {e : TypeId} {size k : Nat} {v : Value} {xs : List Value} (hb : b ≤ b') (h : W.ownsRow b' e size v k xs) : W.ownsRow b e size v k xs := by
  refine ⟨h.1, ?_⟩
  rcases h.2 with hn | ⟨g, cap, cur, h1, h2, rest⟩
  · exact .inl hn
  · exact .inr ⟨g, cap, cur, h1, Nat.le_trans hb h2, rest⟩
theorem below_keeps {B : Nat} {W wr : World} (h : Below W.heap.size W wr) : KeepsFrom B W wr := ⟨h.size, fun k o _ hk _ => (h.block k (Array.getElem?_eq_some_iff.1 hk).1).trans hk⟩
theorem KpC.boxed {B1 B2 : Nat} {W W' : World} {t1 t2 : TypeId} {v1 v2 : Value} (h1 : Boxed W B1 t1 v1) (h2 : Boxed W B2 t2 v2) (k1 : Boxed W' B1 t1 v1) (k2 : Boxed W' B2 t2 v2) : KpC B1 B2 W W' := ⟨k1.cell.trans h1.cell.symm, k2.cell.trans h2.cell.symm⟩
/-- Another variable's box behind an append to a box. -/
theorem Boxed.behind {W w1 : World} {B B' : Nat} {t e : TypeId} {size k base : Nat} {u v v' : Value} {xs : List Value} {tmp : Obj} (h : Boxed W B' t u) (hte : t ≠ e) (hne : B' ≠ B) (hrow : W.ownsRow base e size v k xs) (hgrow : (W.alloc tmp).grownBy w1 v.ownBlock) : Boxed (w1.setCell ⟨B, 0, none⟩ v') B' t u :=
  ((h.alloc tmp).kept hgrow (h.not_row hte hrow)).other hne v'
set_option maxRecDepth 100000 in
set_option maxHeartbeats 4000000 in
theorem Put_in (n : Nat) (hn : 5 ≤ n) (a : Option Addr) (len cap : Nat) (ha : 0 < len → ∃ b off, a = some ⟨b, off, none⟩) (hlc : len ≤ cap) (hcap : len ≤ 1000000000) (st rn : Nat → Int) (w : World)
    (hcs : ∀ b off, 0 < len → a = some ⟨b, off, none⟩ → b < w.heap.size ∧ ∀ j, j < len → w.cell? ⟨b, off + 2 * j, none⟩ = some (.int .i64 (st j)) ∧ w.cell? ⟨b, off + 2 * j + 1, none⟩ = some (.int .i64 (rn j)))
    (hM : CallsIn Fence.wide (n - 1) Tryz.prog 10 #[.slice a len cap] w fun e w' => e = .returned (.bool true) ∧ Below w.heap.size w w') :
    CallsIn Fence.wide n Tryz.prog 8 #[.slice a len cap] w fun e W' => ∃ v, e = .returned v ∧ W'.ownsRow w.heap.size 9 1 v (parts len) (vtexts st rn len (List.range (parts len))) ∧ Below w.heap.size w W' := by
  have h1 : 1 ≤ n := by omega
  have hro : Fence.wide.round = none := rfl
  have hf : ∀ k, Fence.wide.fn k := fun _ => trivial
  obtain ⟨i5, hi5, hz5, hs5, hb5⟩ := info_parts Vi5
  obtain ⟨i9, hi9, hz9, hs9, hb9⟩ := info_parts Vi9
  refine callsIn_of_wp_marks Tryz.func8 rfl (hf 8) ?_ hro
  simp only [Tryz.ntmps8, List.size_toArray, List.length_cons, List.length_nil, Nat.reduceAdd, Nat.reduceSub, Array.replicate_succ, Array.replicate_zero, List.push_toArray, List.append_toArray, List.nil_append, List.cons_append]
  gi_wp2_with (first
    | (gi_at_call 10; refine hM.mono ?_; rintro e w1 ⟨rfl, hBM⟩)
    | (gi_at_call 47; refine (Chunk_in Fence.wide (n - 1) (hf 47) hro _ _ _ _).mono ?_; rintro e w' ⟨rfl, rfl⟩))
  have hcs1 : ∀ b off, 0 < len → a = some ⟨b, off, none⟩ → b < w1.heap.size ∧ ∀ j, j < len → w1.cell? ⟨b, off + 2 * j, none⟩ = some (.int .i64 (st j)) ∧ w1.cell? ⟨b, off + 2 * j + 1, none⟩ = some (.int .i64 (rn j)) := by
    intro b off h0 he
    obtain ⟨h1, h2⟩ := hcs b off h0 he
    exact ⟨Nat.lt_of_lt_of_le h1 hBM.size, fun j hj => ⟨(hBM.cell (p := ⟨b, _, none⟩) h1).trans (h2 j hj).1, (hBM.cell (p := ⟨b, _, none⟩) h1).trans (h2 j hj).2⟩⟩
  have bO := Boxed.new w1 27 (.slice none 0 0)
  have bN := Boxed.new (w1.alloc (.cells #[.slice none 0 0] 27)) 22 (.slice a len cap)
  have bM := Boxed.new ((w1.alloc (.cells #[.slice none 0 0] 27)).alloc (.cells #[.slice a len cap] 22)) 3 (.int .i64 253)
  rw [World.size_alloc] at bN
  rw [World.size_alloc, World.size_alloc] at bM
  have hB00 : Below w1.heap.size w1 w1 := Below.refl _ _
  have hB0 : Below w1.heap.size w1 (((w1.alloc (.cells #[.slice none 0 0] 27)).alloc (.cells #[.slice a len cap] 22)).alloc (.cells #[.int .i64 253] 3)) := ((hB00.alloc (Nat.le_refl _) _).alloc (by simp) _).alloc (by simp; omega) _
  refine wpIn_rangeFunc_ownG hro h1 (gf := 73) (lb := #[.pointer (some ⟨w1.heap.size + 1, 0, none⟩), .pointer (some ⟨w1.heap.size + 1 + 1, 0, none⟩)]) rfl (hf 73) (enters_of Tryz.func73 (by kernel_rfl) rfl)
    (chunk_stops Fence.wide (n - 1) (hf 73) hro (by omega) (w1.heap.size + 1) (w1.heap.size + 1 + 1) a len cap ha hlc hcap _ (by simp) (by simp) (bN.alloc _).cell bM.cell)
    KpC.t (KpC.b (by simp) (by simp)) (Below.refl _ _) (fun _ => rfl)
    (fun pre W => ((∃ v, Boxed W w1.heap.size 27 v ∧ W.ownsRow w1.heap.size 9 1 v pre.length (vtexts st rn len pre) ∧ True) ∧ Boxed W (w1.heap.size + 1) 22 (.slice a len cap) ∧ Boxed W (w1.heap.size + 1 + 1) 3 (.int .i64 253)) ∧ Below w1.heap.size w1 W)
    (fun _ _ _ => False)
    (OwnFrom.and (OwnFrom.and (Own.from (holdsRow_own w1.heap.size w1.heap.size 27 9 1 (fun pre : List Nat => pre.length) (fun pre => vtexts st rn len pre) (fun _ _ => True)) _) (OwnFrom.and (Own.from (boxed_own _ _ _) _) (Own.from (boxed_own _ _ _) _))) (ownFrom_below (Nat.le_refl _) (by simp; omega)))
    (fun _ _ _ _ _ hs _ _ => hs)
    ⟨⟨⟨_, (bO.alloc _).alloc _, World.ownsRow_nil _ _ _ _, trivial⟩, bN.alloc _, bM⟩, hB0⟩
    (fun x => { tmps := #[Value.slice a len cap, undef, Value.slice none 0 0, Value.pointer (some { block := w1.heap.size, off := 0 }),
          encV a len x, undef, undef, undef, Value.slice a len cap, Value.bool true, Value.bool false, Value.slice a len cap,
          Value.func (Fn.func 73) #[]
            #[Value.pointer (some { block := w1.heap.size + 1, off := 0 }),
              Value.pointer (some { block := w1.heap.size + 1 + 1, off := 0 })],
          encV a len x, undef, undef, undef, undef, undef, undef, undef, undef, undef, undef, undef, undef, undef, undef,
          undef, undef, undef, undef, undef, undef, undef, undef, undef, undef], defers := [] }) ?assign ?body ?done ?stop
  case assign =>
    intro l x W K hK
    simp only [encS]
    gi_wp2
    exact hK
  case body =>
    rintro l pre x W ⟨⟨⟨v, hv, hrow, _⟩, hb1, hb2'⟩, hB⟩ hlt
    have hc := hv.cell
    by_cases hl0 : 0 < len
    · obtain ⟨b, off, rfl⟩ := ha hl0
      have hev : encV (some ⟨b, off, none⟩) len x = .slice (some ⟨b, off + 253 * x * 2, none⟩) (plen len x) (plen len x) := rfl
      simp only [hev]
      gi_wp2
      gi_loopw [5, 16] (fun bv iv wr => ∃ k : Nat, k ≤ plen len x ∧ iv = .int .i64 (k : Int) ∧ wr.ownsRow W.heap.size 5 1 bv k (vbytes st rn x k) ∧ Below W.heap.size W wr) (fun _ iv _ => plen len x - (intOf iv).toNat)
      case atStart => exact ⟨0, Nat.zero_le _, rfl, World.ownsRow_nil _ _ _ _, Below.refl _ _⟩
      case round =>
        obtain ⟨k, hk, rfl, hown, hBr⟩ := hrel
        by_cases hlt2 : k < plen len x
        · obtain ⟨hbl, hcell⟩ := hcs1 b off hl0 rfl
          have hpl : 253 * x + k < len := by unfold plen at hlt2; omega
          have hbW : b < W.heap.size := Nat.lt_of_lt_of_le hbl hB.size
          have hA1 : wr.cell? ⟨b, off + 253 * x * 2 + k * 2, none⟩ = some (.int .i64 (st (253 * x + k))) := by
            rw [show off + 253 * x * 2 + k * 2 = off + 2 * (253 * x + k) by omega]
            exact (hBr.cell (p := ⟨b, _, none⟩) hbW).trans ((hB.cell (p := ⟨b, _, none⟩) hbl).trans (hcell _ hpl).1)
          have hA2 : wr.cell? ⟨b, off + 253 * x * 2 + k * 2 + 1, none⟩ = some (.int .i64 (rn (253 * x + k))) := by
            rw [show off + 253 * x * 2 + k * 2 + 1 = off + 2 * (253 * x + k) + 1 by omega]
            exact (hBr.cell (p := ⟨b, _, none⟩) hbW).trans ((hB.cell (p := ⟨b, _, none⟩) hbl).trans (hcell _ hpl).2)
          gi_wp2_with (gi_at_builtin; refine wpListIn_append_own _ rfl _ _ 80 rfl W.heap.size 5 i5 (.int .u8 0) 1 1 Vu80 hi5 hz5 hs5 hb5 rfl (by decide) _ _ _ rfl ((hown.alloc _).alloc _) ⟨wr.heap.size + 1, 0, none⟩ 1 1 [.int .u8 (vbyte (st (253 * x + k)) (rn (253 * x + k)))] rfl rfl (cell_one_new2 _ _ _ _) (by simp [Value.oneCell']) (by simp only [maxLen]; omega) (by omega) (by have := hBr.size; simp; omega) ?_; intro v' w2 hown' hgrow _; obtain ⟨g', cap', rfl⟩ := ownsRow_succ hown')
          go_roundw
          case rel =>
            have hr2 : w2.ownsRow W.heap.size 5 1 (.slice (some ⟨g', 0, none⟩) (k + 1) cap') (k + 1) (vbytes st rn x (k + 1)) := by
              rw [vbytes, List.range_succ, List.map_append]
              exact hown'
            refine ⟨k + 1, by omega, by simp, hr2, ?_⟩
            exact below_app hBr hown hgrow
          case measure => simp [intOf]; omega
        · obtain rfl : k = plen len x := by omega
          have hv1 : Boxed wr w1.heap.size 27 v := (hBr.block _ hv.lt).trans hv
          have hc1 := hv1.cell
          have hcv : (convert 80 9 u5).run Tryz.prog wr = .ok (.string (vtext st rn len x)) wr := by
            have hown' := hown
            rw [show vbytes st rn x (plen len x) = ((List.range (plen len x)).map fun j => vbyte (st (253 * x + j)) (rn (253 * x + j))).map (Value.int .u8) by simp [vbytes]] at hown'
            exact bytes_text hown'
          have hrow1 : wr.ownsRow w1.heap.size 9 1 v pre.length (vtexts st rn len pre) := hrow.kept (below_grown hBr) (by
            cases v.ownBlock <;> simp)
          have hp : parts len ≤ 1000000000 := by unfold parts; omega
          gi_wp2_with (gi_at_builtin; refine wpListIn_append_own _ rfl _ _ 27 rfl w1.heap.size 9 i9 (.string ByteArray.empty) 1 16 Vu27 hi9 hz9 hs9 hb9 rfl (by decide) _ _ _ rfl (hrow1.alloc _) ⟨wr.heap.size, 0, none⟩ 1 1 [.string (vtext st rn len x)] rfl rfl (cell_one_new _ _ _) (by simp [Value.oneCell']) (by simp only [maxLen]; omega) (by omega) (by have := hB.size; have := hBr.size; simp; omega) ?_; intro v' w2 hown' hgrow _; obtain ⟨g', cap', rfl⟩ := ownsRow_succ hown'; obtain ⟨hv3, hv2, hr2, hk2, hb2⟩ := hv1.appended (by decide) hrow1 (Nat.le_trans hB.size hBr.size) (Nat.le_refl _) hown' hgrow; have hc3 := hv3.cell; have hf3 := hv3.frozen)
          have hy1 : Boxed wr _ _ _ := (hBr.block _ hb1.lt).trans hb1
          have hy2 : Boxed wr _ _ _ := (hBr.block _ hb2'.lt).trans hb2'
          have hz1 := Boxed.behind hy1 (v' := .slice (some ⟨g', 0, none⟩) (pre.length + 1) cap') (B := w1.heap.size) (by decide) (by omega) hrow1 hgrow
          have hz2 := Boxed.behind hy2 (v' := .slice (some ⟨g', 0, none⟩) (pre.length + 1) cap') (B := w1.heap.size) (by decide) (by omega) hrow1 hgrow
          exact ⟨(below_keeps hBr).trans (hk2.from _), KpC.boxed hb1 hb2' hz1 hz2, ⟨⟨_, hv2, by rw [List.length_append, List.length_singleton, vtexts, List.map_append]; exact hr2, trivial⟩, hz1, hz2⟩, (hB.trans (hBr.mono hB.size)).trans hb2⟩
    · obtain rfl : len = 0 := by omega
      exact absurd hlt (by simp [parts])
  case done =>
    rintro D ys W hD rfl ⟨⟨⟨v, hv, hrow, _⟩, _⟩, hB⟩ hK
    have hc := hv.cell
    gi_wp2
    refine ⟨by simp, .inl ⟨_, _, rfl, run_takeDeferred hK, ?_⟩⟩
    have hrow' := ownsRow_putObj hrow (.deferred none) hK rfl
    rw [List.length_range] at hrow'
    exact ⟨_, results_tmp rfl _ _ _, v, rfl, ownsRow_base hBM.size hrow', hBM.trans ((hB.trans (belowK_b (w := w1) (Nat.le_refl _) W D _ _ (by simp at hD; omega) hK rfl rfl)).mono hBM.size)⟩
  case stop =>
    rintro D c pre W _ _ h _
    exact h.elim
end Go.Proofs
namespace Go.Proofs
open Go.RowKit Go.Shelf
attribute [local go_sem] Oper.semAt_some
set_option maxRecDepth 100000 in
set_option maxHeartbeats 4000000 in
theorem Put_bad_in (n : Nat) (a : Option Addr) (len cap : Nat) (w : World)
    (hM : CallsIn Fence.wide (n - 1) Tryz.prog 10 #[.slice a len cap] w fun e w' => e = .returned (.bool false) ∧ Below w.heap.size w w') (hn : 1 ≤ n) :
    CallsIn Fence.wide n Tryz.prog 8 #[.slice a len cap] w fun e W' => e = .returned (.slice none 0 0) ∧ Below w.heap.size w W' := by
  have hro : Fence.wide.round = none := rfl
  have hf : ∀ k, Fence.wide.fn k := fun _ => trivial
  refine callsIn_of_wp Tryz.func8 rfl (hf 8) ?_ hro
  simp only [Tryz.ntmps8, List.size_toArray, List.length_cons, List.length_nil, Nat.reduceAdd, Nat.reduceSub, Array.replicate_succ, Array.replicate_zero, List.push_toArray, List.append_toArray, List.nil_append, List.cons_append]
  gi_wp2_with (gi_at_call 10; refine hM.mono ?_; rintro e w1 ⟨rfl, hBM⟩)
  go_ret
  exact ⟨rfl, hBM⟩
end Go.Proofs

