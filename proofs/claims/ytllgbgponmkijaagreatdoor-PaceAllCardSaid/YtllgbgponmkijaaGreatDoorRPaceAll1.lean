import Derived.Test.YtllgbgponmkijaaGreatDoorPlPA
import Derived.Test.YtllgbgponmkijaaGreatDoorYPACon
import Derived.Test.YtllgbgponmkijaaGreatDoorL6
import Derived.Test.YtllgbgponmkijaaGreatDoorPlW
import Derived.Test.YtllgbgponmkijaaGreatDoorRows
import Derived.Test.YtllgbgponmkijaaGreatDoorTie
import Derived.Test.YtllgbgponmkijaaGreatDoorCards
import Derived.WalkKit
import Derived.ProofKit
import Derived.OpenShut
import Derived.ShutString
import Derived.ChangeOld
import Derived.LaidMore
import Derived.Lay
import Derived.SevenTiedAt
import Derived.Stop.Joined
import Derived.SizedLaws
set_option linter.all false
namespace Go.Proofs.YtllgbgponmkijaaGreatDoor.PaceAll
open Go.ChangeShapes Go.WideShapes Go.ChangeAt Go.RowKit Go.Sx Go.Sx.T
open Go.ChangeMaps (open_string shut_string)
theorem laidOut : laidOutB Tryz.prog = true := by kernel_rfl
theorem own : ownKnob Tryz.prog.godebug = none := by kernel_rfl
theorem law (s : Int) (tick : Int) (v_ops : Value) (ops0 : List Int) (ops1 : List Int) (ops2 : List Int) (ops3 : List Int) (p_ops : Pl) (W : World) (hr_ops : InRows W v_ops ops0.length [.int .i64 ops0, .int .i64 ops1, .int .u64 ops2, .int .i64 ops3] p_ops) (hw_ops0 : ∀ x ∈ ops0, (Lit.int .i64 x).wf = true) (hw_ops1 : ∀ x ∈ ops1, (Lit.int .i64 x).wf = true) (hw_ops2 : ∀ x ∈ ops2, (Lit.int .u64 x).wf = true) (hw_ops3 : ∀ x ∈ ops3, (Lit.int .i64 x).wf = true) (hl_ops1 : ops1.length = ops0.length) (hl_ops2 : ops2.length = ops0.length) (hl_ops3 : ops3.length = ops0.length) : Calls Tryz.prog 6 #[.int .i64 s, .int .i64 tick, v_ops] W fun e W' => e = .returned (.bool true) ∧ Below W.heap.size W W' :=
  law_of (us := [.int .i64 s, .int .i64 tick, v_ops]) (ls := [.li ops0, .li ops1, .li ops2, .li ops3, .i s, .i tick]) (r := [.b true]) (fr := [(0, .at (.raw (.int .i64 s))), (1, .at (.raw (.int .i64 tick))), (2, .at (.sl 0 4 none ((Col.int .i64 ops0).len : Int)))]) (H := [.ro 39 4 ((Col.int .i64 ops0).len : Int) [.int .i64 ops0, .int .i64 ops1, .int .u64 ops2, .int .i64 ops3]]) PaceAll_c ((PaceAll_Se ops0 ops1 ops2 ops3 s tick).trans (PaceAll_true (fun n hn => wfI (hw_ops0 n hn)) (fun n hn => wfI (hw_ops1 n hn)) (fun n hn => wfU (hw_ops2 n hn)) (fun n hn => wfI (hw_ops3 n hn)) hl_ops1 hl_ops2 hl_ops3)) (by kernel_rfl) rfl (HRel.ros (ps := [p_ops]) rfl (fun i p o hp ho => by
    match i, hp, ho with
    | 0, hp, ho => cases hp; cases ho; exact ⟨rfl, fun ρ H => hr_ops.obj ρ H 39⟩
    | n + 1, hp, ho => simp at hp)) (fun t v h => by
    simp only [lk_cons] at h
    split at h
    · rename_i e; subst e; cases h; rfl
    · split at h
      · rename_i e; subst e; cases h; rfl
      · split at h
        · rename_i e; subst e; cases h; exact hr_ops.root rfl
        · simp [lk] at h) ⟨[.dead], by kernel_rfl⟩
set_option maxRecDepth 100000 in
theorem lifted (os : Os) (started : os.Started) (H : Type) (enc : TypeId × Value → H) :
    ReturnsInHanded {} Tryz.checked os 6 .any (fun w args => (Rows.paceAllSpec.pre enc Tryz.prog Tryz.f6 Rows.paceAllRow.domain false w args ∧ laidMetH Tryz.prog Rows.paceAllRow.laid w) ∧ sizedMet enc Tryz.prog Tryz.f6 (OpenSpec.ofChange Rows.paceAllSpec) false w args)
      (Rows.paceAllSpec.post enc Tryz.prog Tryz.f6 false true false false) := by
  refine returnsInHanded_of_change_and (C := Tryz.checked) (X := fun w _ => laidMetH Tryz.prog Rows.paceAllRow.laid w) (fun _ _ _ hh h => h.of_heap hh) own started (by kernel_rfl) Tryz.func6
    (ChangeSpec.witness_shaped (enc := enc) (C := Tryz.checked) (os := os) (X := fun w _ => laidMetH Tryz.prog Rows.paceAllRow.laid w) false (World.laidAll Tryz.prog os Rows.paceAllRow.laid) #[.int .i64 0, .int .i64 0, .slice none 0 0] 8 (World.laidAll_os _ _ _)
      (World.shaped_of_ZipB (by kernel_rfl) (by kernel_rfl)) (by kernel_rfl) (by kernel_rfl) (by kernel_rfl)
      (by rw [MakeChecks.laidMetH_plain _ _ _ (by kernel_rfl)]; exact laidMet_laidAll _ (by kernel_rfl) (by kernel_rfl))) ?_
  intro W base args ds gs before hval0 hW hcnd hsz0 hL _
  have hsz : (DataW.weightsEach Tryz.prog (Tryz.f6.params.toList ++ Rows.paceAllSpec.plain.varTypes Tryz.prog) (ds ++ gs)).all (· ≤ reachBytes) = true := hsz0
  have hval : ∀ (j : Nat) t v, Tryz.f6.params[j]? = some t → args[j]? = some v → Value.okWide Tryz.prog W .any base t v := hval0
  have hW' := hW
  obtain ⟨p, q, hA0, hV, rfl, hfz, hnd⟩ := hW
  have hA : DataW.TrodAll enc Tryz.prog W 0 (fun _ => true) true Tryz.f6.params.toList args.toList ds p := hA0
  rw [Tryz.params6] at hA hval hsz
  obtain ⟨v0, vs0, d0, ds0, p0, q0, hargs, rfl, rfl, h0, r0⟩ := trodAll_cons hA
  obtain ⟨v1, vs1, d1, ds1, p1, q1, rfl, rfl, rfl, h1, r1⟩ := trodAll_cons r0
  obtain ⟨v2, vs2, d2, ds2, p2, q2, rfl, rfl, rfl, h2, r2⟩ := trodAll_cons r1
  obtain ⟨rfl, rfl, rfl⟩ := trodAll_nil r2
  obtain rfl : args = #[v0, v1, v2] := by cases args; simp_all
  obtain ⟨rfl, rfl⟩ := trodVars_none hV
  obtain ⟨a0, rfl, rfl, rfl, w0⟩ := open_int Tryz.underlying3 (hval 0 3 v0 rfl rfl) h0
  obtain ⟨a1, rfl, rfl, rfl, w1⟩ := open_int Tryz.underlying2 (hval 1 2 v1 rfl rfl) h1
  obtain ⟨a2, len2, cap2, rfl⟩ := okWide_slice Tryz.underlying37 (hval 2 37 v2 rfl rfl)
  have k2 := h2
  have lt2 : ∀ x ∈ p2, x.block < W.heap.size := by obtain ⟨m, hm⟩ := k2; exact DataW.trod_lt m _ _ _ hm
  obtain ⟨C2, N2, b2, y2, z2_0⟩ := inRows_of [.int .i64, .int .i64, .int .u64, .int .i64] Tryz.underlying37 Tryz.underlying39 (by kernel_rfl) (by kernel_rfl) (by decide) h2
  obtain ⟨_, _, rfl, ⟨l2_0, rfl, e2_0, w2_0⟩, z2_1⟩ := z2_0.cons_inv
  obtain ⟨_, _, rfl, ⟨l2_1, rfl, e2_1, w2_1⟩, z2_2⟩ := z2_1.cons_inv
  obtain ⟨_, _, rfl, ⟨l2_2, rfl, e2_2, w2_2⟩, z2_3⟩ := z2_2.cons_inv
  obtain ⟨_, _, rfl, ⟨l2_3, rfl, e2_3, w2_3⟩, z2_4⟩ := z2_3.cons_inv
  obtain rfl := z2_4.nil_inv
  subst e2_0
  clear hA0 hval0 hsz0 hsz
  refine (law a0 a1 _ l2_0 l2_1 l2_2 l2_3 b2 W y2 w2_0 w2_1 w2_2 w2_3 e2_1 e2_2 e2_3).mono fun e W' ⟨he, bel⟩ => ?_
  subst he
  exact ⟨_, rfl, _, _, _, [], _, [], hW', trodAll_mk1 (shut_bool Tryz.underlying4 _), (trodAll_cons_mk (shut_int Tryz.underlying3 w0) (trodAll_cons_mk (shut_int Tryz.underlying2 w1) (trodAll_cons_mk (Below.trod laidOut (by kernel_rfl) (of_decide_eq_true (by kernel_rfl)) k2 bel lt2) trodAll_mk0))), rfl, bel.frame _, fun h => by cases h⟩
end Go.Proofs.YtllgbgponmkijaaGreatDoor.PaceAll

