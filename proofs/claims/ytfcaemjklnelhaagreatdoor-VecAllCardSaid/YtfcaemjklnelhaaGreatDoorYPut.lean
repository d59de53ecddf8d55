import Derived.Test.YtfcaemjklnelhaaGreatDoorYPutSpec
import Derived.Test.YtfcaemjklnelhaaGreatDoorYVecCon
import Derived.Test.YtfcaemjklnelhaaGreatDoorGkPut
set_option linter.all false
set_option maxRecDepth 100000
namespace Go.Sx.T
open Go Go.Sx Go.Proofs Go.RowKit
def vec_Put_in : Tm := ⟨[.ro 38 2 [.int .i64, .int .i64]], [(0, .w (.at (.all 0 2)))]⟩
def vec_Put_out : Tm := ⟨[.dead, .row 9 1 [.str]], [(0, .w (.at (.all 1 1)))]⟩
def vec_Put_S : List Leaf → Option (List Leaf) := fun ls => un_li ls fun cs0 rr => un_li rr fun cs1 rr => un_nil rr (vec_Put cs0 cs1)
def vec_Put_SC : Tld := fun ls k' => un_li ls fun cs0 rr => un_li rr fun cs1 rr => un_nil rr (out (vec_Put cs0 cs1) k')
theorem vec_Put_Se (cs0 cs1 : List Int) : vec_Put_S [.li cs0, .li cs1] = vec_Put cs0 cs1 := by
  unfold vec_Put_S
  simp only [un_li_ev, un_nil_ev]
theorem vec_Put_says : Says vec_Put_SC vec_Put_S := by
  intro β ls' k' r' h'
  unfold vec_Put_SC at h'
  obtain ⟨cs0, l'1, rfl, h'1⟩ := un_li_some.1 h'
  obtain ⟨cs1, l'2, rfl, h'2⟩ := un_li_some.1 h'1
  obtain ⟨rfl, h'Z⟩ := un_nil_some.1 h'2
  obtain ⟨l', a', b'⟩ := out_some.1 h'Z
  exact ⟨l', (vec_Put_Se cs0 cs1).trans a', b'⟩
theorem put_i64 (n : Int) : IntKind.wrap .i64 n = RowKit.wrap64 n := by
  have : IntKind.wrap .i64 n = if n % 18446744073709551616 ≥ 9223372036854775808 then n % 18446744073709551616 - 18446744073709551616 else n % 18446744073709551616 := by
    simp [IntKind.wrap, IntKind.bits, IntKind.signed]
  rw [this, RowKit.wrap64]
  split <;> omega
theorem put_u8 (n : Int) : IntKind.wrap .u8 n = n % 256 := by
  simp [IntKind.wrap, IntKind.bits, IntKind.signed]
theorem put_byte (s r : Int) : vbyte s r = putB s r := by
  simp only [vbyte, putB, wrapI, subI, addI, mulI, put_i64, put_u8]
theorem put_text (cs0 cs1 : List Int) (x : Nat) : vtext (fun j => cs0.getD j 0) (fun j => cs1.getD j 0) cs0.length x = putT cs0 cs1 x := by
  unfold vtext putT plen strOfI
  rw [foldl_push]
  simp [put_byte]
theorem kept_below {w w' : World} (h : Kept (fun _ => False) w w') : Below w.heap.size w w' := ⟨h.os, h.tape, h.output, h.size, fun k hk => h.block k hk (fun h => h)⟩
theorem vec_Put_c : FnC Go.Proofs.Tryz.prog 8 false 1 1 vec_Put_in vec_Put_out vec_Put_S := by
  refine ⟨⟨Tryz.f8, Tryz.func8, by kernel_rfl, rfl⟩, ?_⟩
  intro ls r fr H E w0 w ρ us hSr hi hr hlen hs
  unfold vec_Put_S at hSr
  obtain ⟨cs0, l'1, rfl, h'1⟩ := un_li_some.1 hSr
  obtain ⟨cs1, l'2, rfl, h'2⟩ := un_li_some.1 h'1
  obtain ⟨rfl, hP⟩ := un_nil_some.1 h'2
  have hi' : inst vec_Put_in [.li cs0, .li cs1] = some ([(0, .at (.sl 0 2 none (cs0.length : Int)))], [.ro 38 2 (cs0.length : Int) [.int .i64 cs0, .int .i64 cs1]]) := rfl
  have hii := hi
  rw [hi'] at hi
  obtain ⟨rfl, rfl⟩ := Prod.mk.inj (Option.some.inj hi)
  obtain ⟨p, rfl⟩ : ∃ p, ρ = [p] := by
    have := hr.len
    match ρ, this with
    | [p], _ => exact ⟨p, rfl⟩
  obtain ⟨u, rfl⟩ : ∃ u, us = [u] := by
    match us, hlen with
    | [u], _ => exact ⟨u, rfl⟩
  have hu := hs 0 _ rfl
  obtain ⟨hrow, hcs⟩ := hr.obj 0 p _ rfl rfl
  obtain ⟨h0, hcl, _, _, hcap, hmx, hvirt⟩ := hrow
  have hl0 : cs0.length = cs0.length := rfl
  have hl1 : cs1.length = cs0.length := by simpa [Col.len] using hcl (.int .i64 cs1) (by simp)
  obtain ⟨p', hp', hsl⟩ : ∃ p', [p][0]? = some p' ∧ SlRel p' 2 0 cs0.length u := by
    rcases hu with hg | hg
    · cases hg
    · exact hg
  obtain rfl : p = p' := by simpa using hp'
  -- the slice
  obtain ⟨a, len, cap, rfl, hlen', hlc, ha⟩ : ∃ a len cap, u = .slice a len cap ∧ len = cs0.length ∧ len ≤ cap ∧ (0 < len → p.real = true ∧ a = some ⟨p.blk, p.off, none⟩) := by
    obtain ⟨_, _, h3, ⟨hre, a, rfl, h4⟩ | ⟨hre, h4, oa, rfl⟩⟩ := hsl
    · refine ⟨some a, cs0.length, p.cap, by simp, rfl, by simpa using h3, fun h => ⟨hre, ?_⟩⟩
      rw [h4 (by simp at h3; simp; omega)]
      simp [Pl.addr]
    · refine ⟨oa, 0, 0, rfl, ?_, Nat.le_refl _, fun h => by omega⟩
      simp at h3; omega
  subst hlen'
  have hcols : ∀ cur, ColsRel [p] [.ro 38 2 (cs0.length : Int) [.int .i64 cs0, .int .i64 cs1]] p 2 cs0.length [.int .i64 cs0, .int .i64 cs1] cur → ∀ j, j < cs0.length → cur[p.off + 2 * j]? = some (.int .i64 (cs0.getD j 0)) ∧ cur[p.off + 2 * j + 1]? = some (.int .i64 (cs1.getD j 0)) := by
    intro cur hc j hj
    obtain ⟨v0, h1, h2⟩ := hc j 0 _ (by simpa using hj) rfl
    obtain ⟨v1, h3, h4⟩ := hc j 1 _ (by simpa using hj) rfl
    simp only [Col.at, ARel] at h2 h4
    subst h2; subst h4
    refine ⟨?_, ?_⟩
    · rw [← h1]; congr 1; omega
    · rw [← h3]; congr 1; omega
  have hcells : ∀ b off, 0 < cs0.length → a = some ⟨b, off, none⟩ → b < w.heap.size ∧ ∀ j, j < cs0.length → w.cell? ⟨b, off + 2 * j, none⟩ = some (.int .i64 (cs0.getD j 0)) ∧ w.cell? ⟨b, off + 2 * j + 1, none⟩ = some (.int .i64 (cs1.getD j 0)) := by
    intro b off hl he
    obtain ⟨hre, h2⟩ := ha hl
    rw [h2] at he
    obtain ⟨rfl, rfl⟩ : p.blk = b ∧ p.off = off := by simpa using he
    obtain ⟨cur, t, fz, hcur, hcc⟩ := hcs hre
    refine ⟨(Array.getElem?_eq_some_iff.1 hcur).1, fun j hj => ?_⟩
    obtain ⟨h5, h6⟩ := hcols cur hcc j hj
    exact ⟨by simp [World.cell?, hcur, h5], by simp [World.cell?, hcur, h6]⟩
  -- May
  have hr0 : HRel (fun _ => False) w [p] [.ro 38 2 (cs0.length : Int) [.int .i64 cs0, .int .i64 cs1]] w := ⟨hr.len, hr.obj, hr.inj, fun i p' o h1 h2 hm _ => by
    cases i with
    | zero => cases h2; cases hm
    | succ i => simp at h2, Kept.refl _ _⟩
  have hmay : ∀ m, vec_May cs0 cs1 = some [.b m] → CallsIn Fence.wide (5 - 1) Tryz.prog 10 #[.slice a cs0.length cap] w fun e w' => e = .returned (.bool m) ∧ Below w.heap.size w w' := by
    intro m hm
    refine callsIn_wide.2 (Calls.mono (vec_May_c.run [.li cs0, .li cs1] [.b m] _ _ _ w w [p] [.slice a cs0.length cap] ((vec_May_Se cs0 cs1).trans hm) hii hr0 rfl hs) ?_)
    rintro e w' ⟨u', ρ', fr', H', v, rfl, _, hi2, hr2, hl2, hv2, _⟩
    have hi3 : inst vec_May_out [.b m] = some ([(0, .at (.raw (.bool m)))], [.dead]) := rfl
    rw [hi3] at hi2
    cases hi2
    cases hl2
    simp only [VRel, ARel] at hv2
    subst hv2
    exact ⟨rfl, kept_below hr2.kept⟩
  have key : ∀ (l : List ByteArray) (W' : World) (v : Value), W'.ownsRow w.heap.size 9 1 v l.length (l.map Value.string) → Below w.heap.size w W' → ∃ u ρ' fr' H' v', Ending.returned v = .returned u ∧ (∀ (i : Nat) (q : Pl), [p][i]? = some q → ρ'[i]? = some q) ∧ inst vec_Put_out [.ls l] = some (fr', H') ∧ HRel E w0 ρ' H' W' ∧ lk fr' 0 = some v' ∧ VRel ρ' H' v' u ∧ (false = true → ∃ k, W' = w.drewN k) := by
    intro l W' v hown hB
    have hi4 : inst vec_Put_out [.ls l] = some ([(0, .at (.sl 1 1 none (l.length : Int)))], [.dead, .row 9 1 (l.length : Int) [.str l]]) := rfl
    have hkept : Kept E w0 W' := ⟨hB.os.trans hr.kept.os, hB.tape.trans hr.kept.tape, hB.output.trans hr.kept.output, Nat.le_trans hr.kept.size hB.size, fun k hk hE => (hB.block k (Nat.lt_of_lt_of_le hk hr.kept.size)).trans (hr.kept.block k hk hE)⟩
    obtain ⟨q, hq1, hq2, hq3⟩ : ∃ q : Pl, ObjRel [p, q] [.dead, .row 9 1 (l.length : Int) [.str l]] W' q (.row 9 1 (l.length : Int) [.str l]) ∧ (q.real = true → w.heap.size ≤ q.blk) ∧ SlRel q 1 0 l.length v := by
      rcases hown.2 with ⟨rfl, hn⟩ | ⟨g, c, cur, rfl, hb, hg, hle, hmx, hsz, htk⟩
      · refine ⟨⟨0, 0, 0, false⟩, ⟨⟨by omega, by simp [Col.len], rfl, by omega, by simpa using hn, by simp, by simp⟩, by simp⟩, by simp, by omega, by omega, by simpa using hn, .inr ⟨rfl, rfl, none, rfl⟩⟩
      · refine ⟨⟨g, 0, c, true⟩, ⟨⟨by omega, by simp [Col.len], rfl, by omega, by simpa using hle, hmx, by simp⟩, fun _ => ⟨cur, hg, by simp [hsz], ?_⟩⟩, fun _ => hb, by omega, by omega, by simpa using hle, .inl ⟨rfl, ⟨g, 0, none⟩, by simp, fun _ => by simp [Pl.addr]⟩⟩
        intro i f co hi5 hco
        cases f with
        | succ f => simp at hco
        | zero =>
          obtain rfl : Col.str l = co := by simpa using hco
          have hi6 : i < l.length := by simpa using hi5
          have h7 : (cur.toList.take (l.length * 1))[i]? = (l.map Value.string)[i]? := by rw [htk]
          rw [List.getElem?_take_of_lt (by omega)] at h7
          refine ⟨.string (l.getD i ByteArray.empty), ?_, ?_⟩
          · simp only [Nat.zero_add, Nat.mul_one, Nat.add_zero]
            rw [← Array.getElem?_toList, h7]
            simp [hi6]
          · simp [Col.at, ARel]
    refine ⟨v, [p, q], _, _, _, rfl, ?_, hi4, ⟨rfl, ?_, ?_, ?_, hkept⟩, rfl, .inr ⟨q, rfl, hq3⟩, fun h => by cases h⟩
    · intro i x hx
      cases i with
      | zero => exact hx
      | succ i => simp at hx
    · intro i x o hx ho
      match i, hx, ho with
      | 0, hx, ho => cases ho; trivial
      | 1, hx, ho => cases hx; cases ho; exact hq1
      | (i + 2), hx, ho => simp at hx
    · intro i j x y o o' hx hy ho ho' hm hd hrx hry hij
      match i, j, ho, ho' with
      | 0, _, ho, _ => cases ho; cases hm
      | 1, 0, _, ho' => cases ho'; cases hd
      | 1, 1, _, _ => exact absurd rfl hij
      | 1, (j + 2), _, ho' => simp at ho'
      | (i + 2), _, ho, _ => simp at ho
    · intro i x o hx ho hm hre
      match i, hx, ho with
      | 0, _, ho => cases ho; cases hm
      | 1, hx, ho => cases hx; exact .inr (Nat.le_trans hr.kept.size (hq2 hre))
      | (i + 2), hx, _ => simp at hx
  unfold vec_Put at hP
  split at hP
  · rename_i hm
    cases hb : Nat.ble cs0.length 1000000000 with
    | false => rw [hb] at hP; cases hP
    | true =>
      rw [hb] at hP
      cases hP
      refine Calls.mono (callsIn_wide.1 (Put_in 5 (Nat.le_refl _) a cs0.length cap (fun h => ⟨p.blk, p.off, (ha h).2⟩) hlc (Nat.le_of_ble_eq_true hb) (fun j => cs0.getD j 0) (fun j => cs1.getD j 0) w hcells (hmay true hm))) ?_
      rintro e W' ⟨v, rfl, hown, hB⟩
      refine key _ W' v ?_ hB
      have e1 : vtexts (fun j => cs0.getD j 0) (fun j => cs1.getD j 0) cs0.length (List.range (parts cs0.length)) = ((List.range ((cs0.length + 252) / 253)).map (putT cs0 cs1)).map Value.string := by
        unfold vtexts parts
        rw [List.map_map]
        exact List.map_congr_left fun x _ => by rw [put_text]; rfl
      rw [e1] at hown
      simpa [parts] using hown
  · rename_i hm
    cases hP
    refine Calls.mono (callsIn_wide.1 (Put_bad_in 5 a cs0.length cap w (hmay false hm) (by omega))) ?_
    rintro e W' ⟨rfl, hB⟩
    exact key [] W' _ (World.ownsRow_nil _ _ _ _) hB
  · cases hP
end Go.Sx.T

