/- VecMerge. -/
import Derived.Test.YtinkhffncpmnaaaGreatDoorYACon
import Derived.Test.YtinkhffncpmnaaaGreatDoorSxLaw
import Derived.Test.YtinkhffncpmnaaaGreatDoorRows
import Derived.Test.YtinkhffncpmnaaaGreatDoorTie
import Derived.Test.YtinkhffncpmnaaaGreatDoorCards
import Derived.WalkKit
import Derived.ProofKit
import Derived.OpenShut
import Derived.ShutString
import Derived.ChangeOld
import Derived.LaidMore
import Derived.Lay
import Derived.SevenTiedAt
import Derived.Stop.Joined
import Derived.SizedLaws
set_option linter.all false
namespace Go.Sx.T
open Go Go.Sx
theorem VecMerge_true (a b : Int) : VecMerge a b = some [.b true] := by
  have st : ∀ s : Int, s = 0 ∨ s = 1 ∨ s = 3 ∨ ((s == 0) = false ∧ (s == 1) = false ∧ (s == 3) = false) := by
    intro s
    simp only [beq_eq_false_iff_ne, ne_eq]
    omega
  rcases st a with rfl | rfl | rfl | ⟨h0, h1, h3⟩ <;> rcases st b with rfl | rfl | rfl | ⟨k0, k1, k3⟩ <;>
    first
    | rfl
    | simp [VecMerge, vec_Merge, ref_State, vec_state, un_b, un_i, un_nil, br, *]
end Go.Sx.T
namespace Go.Proofs.YtinkhffncpmnaaaGreatDoor.VecMerge
open Go.ChangeShapes Go.WideShapes Go.ChangeAt Go.RowKit Go.Sx Go.Sx.T
theorem own : ownKnob Tryz.prog.godebug = none := by kernel_rfl
theorem law (a b : Int) (W : World) : Calls Tryz.prog 3 #[.int .i64 a, .int .i64 b] W fun e W' => e = .returned (.bool true) ∧ Below W.heap.size W W' :=
  law_of (us := [.int .i64 a, .int .i64 b]) (ls := [.i a, .i b]) (r := [.b true]) (fr := [(0, .at (.raw (.int .i64 a))), (1, .at (.raw (.int .i64 b)))]) (H := []) VecMerge_c (VecMerge_true a b) (by kernel_rfl) rfl (HRel.nil _ W) (fun t v h => by
    simp only [lk_cons] at h
    split at h
    · rename_i e; subst e; cases h; rfl
    · split at h
      · rename_i e; subst e; cases h; rfl
      · simp [lk] at h) ⟨[], by kernel_rfl⟩
set_option maxRecDepth 100000 in
theorem lifted (os : Os) (started : os.Started) (H : Type) (enc : TypeId × Value → H) :
    ReturnsInHanded {} Tryz.checked os 3 .any (fun w args => (Rows.vecMergeSpec.pre enc Tryz.prog Tryz.f3 Rows.vecMergeRow.domain false w args ∧ laidMetH Tryz.prog Rows.vecMergeRow.laid w) ∧ sizedMet enc Tryz.prog Tryz.f3 (OpenSpec.ofChange Rows.vecMergeSpec) false w args)
      (Rows.vecMergeSpec.post enc Tryz.prog Tryz.f3 false true false false) := by
  refine returnsInHanded_of_change_and (C := Tryz.checked) (X := fun w _ => laidMetH Tryz.prog Rows.vecMergeRow.laid w) (fun _ _ _ hh h => h.of_heap hh) own started (by kernel_rfl) Tryz.func3
    (ChangeSpec.witness_shaped (enc := enc) (C := Tryz.checked) (os := os) (X := fun w _ => laidMetH Tryz.prog Rows.vecMergeRow.laid w) false (World.laidAll Tryz.prog os Rows.vecMergeRow.laid) #[.int .i64 0, .int .i64 0] 8 (World.laidAll_os _ _ _)
      (World.shaped_of_ZipB (by kernel_rfl) (by kernel_rfl)) (by kernel_rfl) (by kernel_rfl) (by kernel_rfl)
      (by rw [MakeChecks.laidMetH_plain _ _ _ (by kernel_rfl)]; exact laidMet_laidAll _ (by kernel_rfl) (by kernel_rfl))) ?_
  intro W base args ds gs before hval0 hW hcnd hsz0 hL _
  have hval : ∀ (j : Nat) t v, Tryz.f3.params[j]? = some t → args[j]? = some v → Value.okWide Tryz.prog W .any base t v := hval0
  have hW' := hW
  obtain ⟨p, q, hA0, hV, rfl, hfz, hnd⟩ := hW
  have hA : DataW.TrodAll enc Tryz.prog W 0 (fun _ => true) true Tryz.f3.params.toList args.toList ds p := hA0
  rw [Tryz.params3] at hA hval
  obtain ⟨v0, vs0, d0, ds0, p0, q0, hargs, rfl, rfl, h0, r0⟩ := trodAll_cons hA
  obtain ⟨v1, vs1, d1, ds1, p1, q1, rfl, rfl, rfl, h1, r1⟩ := trodAll_cons r0
  obtain ⟨rfl, rfl, rfl⟩ := trodAll_nil r1
  obtain rfl : args = #[v0, v1] := by cases args; simp_all
  obtain ⟨rfl, rfl⟩ := trodVars_none hV
  obtain ⟨a0, rfl, rfl, rfl, w0⟩ := open_int Tryz.underlying3 (hval 0 3 v0 rfl rfl) h0
  obtain ⟨a1, rfl, rfl, rfl, w1⟩ := open_int Tryz.underlying3 (hval 1 3 v1 rfl rfl) h1
  refine (law a0 a1 W).mono fun e W' ⟨he, bel⟩ => ?_
  subst he
  exact ⟨_, rfl, _, _, _, [], _, [], hW', trodAll_mk1 (shut_bool Tryz.underlying4 _), (trodAll_cons_mk (shut_int Tryz.underlying3 w0) (trodAll_cons_mk (shut_int Tryz.underlying3 w1) trodAll_mk0)), rfl, bel.frame _, fun h => by cases h⟩
end Go.Proofs.YtinkhffncpmnaaaGreatDoor.VecMerge
