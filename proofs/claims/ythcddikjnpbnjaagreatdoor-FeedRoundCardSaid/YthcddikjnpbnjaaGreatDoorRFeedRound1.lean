import Derived.Test.YthcddikjnpbnjaaGreatDoorPlFO
import Derived.Test.YthcddikjnpbnjaaGreatDoorYFOCon
import Derived.Test.YthcddikjnpbnjaaGreatDoorL6
import Derived.Test.YthcddikjnpbnjaaGreatDoorPlW
import Derived.Test.YthcddikjnpbnjaaGreatDoorRows
import Derived.Test.YthcddikjnpbnjaaGreatDoorTie
import Derived.Test.YthcddikjnpbnjaaGreatDoorCards
import Derived.WalkKit
import Derived.ProofKit
import Derived.OpenShut
import Derived.ShutString
import Derived.ChangeOld
import Derived.LaidMore
import Derived.Lay
import Derived.SevenTiedAt
import Derived.Stop.Joined
import Derived.SizedLaws
set_option linter.all false
namespace Go.Proofs.YthcddikjnpbnjaaGreatDoor.FeedRound
open Go.ChangeShapes Go.WideShapes Go.ChangeAt Go.RowKit Go.Sx Go.Sx.T
open Go.ChangeMaps (open_string shut_string)
theorem laidOut : laidOutB Tryz.prog = true := by kernel_rfl
theorem own : ownKnob Tryz.prog.godebug = none := by kernel_rfl
theorem law (v_ops : Value) (ops0 : List Int) (ops1 : List Int) (ops2 : List Int) (ops3 : List Int) (p_ops : Pl) (by2 : Int) (hby2 : U by2) (W : World) (hr_ops : InRows W v_ops ops0.length [.int .i64 ops0, .int .i64 ops1, .int .u64 ops2, .int .i64 ops3] p_ops) (hw_ops0 : ∀ x ∈ ops0, (Lit.int .i64 x).wf = true) (hw_ops1 : ∀ x ∈ ops1, (Lit.int .i64 x).wf = true) (hw_ops2 : ∀ x ∈ ops2, (Lit.int .u64 x).wf = true) (hw_ops3 : ∀ x ∈ ops3, (Lit.int .i64 x).wf = true) (hl_ops1 : ops1.length = ops0.length) (hl_ops2 : ops2.length = ops0.length) (hl_ops3 : ops3.length = ops0.length) : Calls Tryz.prog 5 #[v_ops, .int .u64 by2] W fun e W' => e = .returned (.bool true) ∧ Below W.heap.size W W' :=
  law_of (us := [v_ops, .int .u64 by2]) (ls := [.li ops0, .li ops1, .li ops2, .li ops3, .i by2]) (r := [.b true]) (fr := [(0, .at (.sl 0 4 none ((Col.int .i64 ops0).len : Int))), (1, .at (.raw (.int .u64 by2)))]) (H := [.ro 41 4 ((Col.int .i64 ops0).len : Int) [.int .i64 ops0, .int .i64 ops1, .int .u64 ops2, .int .i64 ops3]]) FeedRound_c ((FeedRound_Se ops0 ops1 ops2 ops3 by2).trans (FeedRound_true (fun n hn => wfI (hw_ops0 n hn)) (fun n hn => wfI (hw_ops1 n hn)) (fun n hn => wfU (hw_ops2 n hn)) (fun n hn => wfI (hw_ops3 n hn)) hl_ops1 hl_ops2 hl_ops3 hby2)) (by kernel_rfl) rfl (HRel.ros (ps := [p_ops]) rfl (fun i p o hp ho => by
    match i, hp, ho with
    | 0, hp, ho => cases hp; cases ho; exact ⟨rfl, fun ρ H => hr_ops.obj ρ H 41⟩
    | n + 1, hp, ho => simp at hp)) (fun t v h => by
    simp only [lk_cons] at h
    split at h
    · rename_i e; subst e; cases h; exact hr_ops.root rfl
    · split at h
      · rename_i e; subst e; cases h; rfl
      · simp [lk] at h) ⟨[.dead], by kernel_rfl⟩
set_option maxRecDepth 100000 in
theorem lifted (os : Os) (started : os.Started) (H : Type) (enc : TypeId × Value → H) :
    ReturnsInHanded {} Tryz.checked os 5 .any (fun w args => (Rows.feedRoundSpec.pre enc Tryz.prog Tryz.f5 Rows.feedRoundRow.domain false w args ∧ laidMetH Tryz.prog Rows.feedRoundRow.laid w) ∧ sizedMet enc Tryz.prog Tryz.f5 (OpenSpec.ofChange Rows.feedRoundSpec) false w args)
      (Rows.feedRoundSpec.post enc Tryz.prog Tryz.f5 false true false false) := by
  refine returnsInHanded_of_change_and (C := Tryz.checked) (X := fun w _ => laidMetH Tryz.prog Rows.feedRoundRow.laid w) (fun _ _ _ hh h => h.of_heap hh) own started (by kernel_rfl) Tryz.func5
    (ChangeSpec.witness_shaped (enc := enc) (C := Tryz.checked) (os := os) (X := fun w _ => laidMetH Tryz.prog Rows.feedRoundRow.laid w) false (World.laidAll Tryz.prog os Rows.feedRoundRow.laid) #[.slice none 0 0, .int .u64 0] 8 (World.laidAll_os _ _ _)
      (World.shaped_of_ZipB (by kernel_rfl) (by kernel_rfl)) (by kernel_rfl) (by kernel_rfl) (by kernel_rfl)
      (by rw [MakeChecks.laidMetH_plain _ _ _ (by kernel_rfl)]; exact laidMet_laidAll _ (by kernel_rfl) (by kernel_rfl))) ?_
  intro W base args ds gs before hval0 hW hcnd hsz0 hL _
  have hsz : (DataW.weightsEach Tryz.prog (Tryz.f5.params.toList ++ Rows.feedRoundSpec.plain.varTypes Tryz.prog) (ds ++ gs)).all (· ≤ reachBytes) = true := hsz0
  have hval : ∀ (j : Nat) t v, Tryz.f5.params[j]? = some t → args[j]? = some v → Value.okWide Tryz.prog W .any base t v := hval0
  have hW' := hW
  obtain ⟨p, q, hA0, hV, rfl, hfz, hnd⟩ := hW
  have hA : DataW.TrodAll enc Tryz.prog W 0 (fun _ => true) true Tryz.f5.params.toList args.toList ds p := hA0
  rw [Tryz.params5] at hA hval hsz
  obtain ⟨v0, vs0, d0, ds0, p0, q0, hargs, rfl, rfl, h0, r0⟩ := trodAll_cons hA
  obtain ⟨v1, vs1, d1, ds1, p1, q1, rfl, rfl, rfl, h1, r1⟩ := trodAll_cons r0
  obtain ⟨rfl, rfl, rfl⟩ := trodAll_nil r1
  obtain rfl : args = #[v0, v1] := by cases args; simp_all
  obtain ⟨rfl, rfl⟩ := trodVars_none hV
  obtain ⟨a0, len0, cap0, rfl⟩ := okWide_slice Tryz.underlying39 (hval 0 39 v0 rfl rfl)
  have k0 := h0
  have lt0 : ∀ x ∈ p0, x.block < W.heap.size := by obtain ⟨m, hm⟩ := k0; exact DataW.trod_lt m _ _ _ hm
  obtain ⟨C0, N0, b0, y0, z0_0⟩ := inRows_of [.int .i64, .int .i64, .int .u64, .int .i64] Tryz.underlying39 Tryz.underlying41 (by kernel_rfl) (by kernel_rfl) (by decide) h0
  obtain ⟨_, _, rfl, ⟨l0_0, rfl, e0_0, w0_0⟩, z0_1⟩ := z0_0.cons_inv
  obtain ⟨_, _, rfl, ⟨l0_1, rfl, e0_1, w0_1⟩, z0_2⟩ := z0_1.cons_inv
  obtain ⟨_, _, rfl, ⟨l0_2, rfl, e0_2, w0_2⟩, z0_3⟩ := z0_2.cons_inv
  obtain ⟨_, _, rfl, ⟨l0_3, rfl, e0_3, w0_3⟩, z0_4⟩ := z0_3.cons_inv
  obtain rfl := z0_4.nil_inv
  subst e0_0
  obtain ⟨a1, rfl, rfl, rfl, w1⟩ := open_int Tryz.underlying22 (hval 1 22 v1 rfl rfl) h1
  clear hA0 hval0 hsz0 hsz
  refine (law _ l0_0 l0_1 l0_2 l0_3 b0 a1 (wfU w1) W y0 w0_0 w0_1 w0_2 w0_3 e0_1 e0_2 e0_3).mono fun e W' ⟨he, bel⟩ => ?_
  subst he
  exact ⟨_, rfl, _, _, _, [], _, [], hW', trodAll_mk1 (shut_bool Tryz.underlying4 _), (trodAll_cons_mk (Below.trod laidOut (by kernel_rfl) (of_decide_eq_true (by kernel_rfl)) k0 bel lt0) (trodAll_cons_mk (shut_int Tryz.underlying22 w1) trodAll_mk0)), rfl, bel.frame _, fun h => by cases h⟩
end Go.Proofs.YthcddikjnpbnjaaGreatDoor.FeedRound

