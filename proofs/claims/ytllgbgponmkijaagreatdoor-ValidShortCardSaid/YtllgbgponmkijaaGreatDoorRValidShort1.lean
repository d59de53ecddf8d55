import Derived.Test.YtllgbgponmkijaaGreatDoorPlVH
import Derived.Test.YtllgbgponmkijaaGreatDoorYVHCon
import Derived.Test.YtllgbgponmkijaaGreatDoorL6
import Derived.Test.YtllgbgponmkijaaGreatDoorPlW
import Derived.Test.YtllgbgponmkijaaGreatDoorRows
import Derived.Test.YtllgbgponmkijaaGreatDoorTie
import Derived.Test.YtllgbgponmkijaaGreatDoorCards
import Derived.WalkKit
import Derived.ProofKit
import Derived.OpenShut
import Derived.ShutString
import Derived.ChangeOld
import Derived.LaidMore
import Derived.Lay
import Derived.SevenTiedAt
import Derived.Stop.Joined
import Derived.SizedLaws
set_option linter.all false
namespace Go.Proofs.YtllgbgponmkijaaGreatDoor.ValidShort
open Go.ChangeShapes Go.WideShapes Go.ChangeAt Go.RowKit Go.Sx Go.Sx.T
open Go.ChangeMaps (open_string shut_string)
theorem laidOut : laidOutB Tryz.prog = true := by kernel_rfl
theorem own : ownKnob Tryz.prog.godebug = none := by kernel_rfl
theorem law (v_0 : Int) (v_1 : Int) (v_2 : Int) (v_3 : Int) (v_4 : Int) (v_5 : Int) (v_6 : Int) (v_7 : Int) (t : Int) (d : Int) (e : Int) (hv_0 : I63 v_0) (hv_1 : U v_1) (hv_2 : U v_2) (hv_3 : U v_3) (hv_4 : U v_4) (hv_5 : U v_5) (hv_6 : I63 v_6) (hv_7 : I63 v_7) (W : World) : Calls Tryz.prog 11 #[.agg #[.int .i64 v_0, .int .u64 v_1, .int .u64 v_2, .int .u64 v_3, .int .u64 v_4, .int .u64 v_5, .int .i64 v_6, .int .i64 v_7], .int .i64 t, .int .i64 d, .int .i64 e] W fun e W' => e = .returned (.bool true) ∧ Below W.heap.size W W' :=
  law_of (us := [.agg #[.int .i64 v_0, .int .u64 v_1, .int .u64 v_2, .int .u64 v_3, .int .u64 v_4, .int .u64 v_5, .int .i64 v_6, .int .i64 v_7], .int .i64 t, .int .i64 d, .int .i64 e]) (ls := [.i v_0, .i v_1, .i v_2, .i v_3, .i v_4, .i v_5, .i v_6, .i v_7, .i t, .i d, .i e]) (r := [.b true]) (fr := [(0, .agg [.raw (.int .i64 v_0), .raw (.int .u64 v_1), .raw (.int .u64 v_2), .raw (.int .u64 v_3), .raw (.int .u64 v_4), .raw (.int .u64 v_5), .raw (.int .i64 v_6), .raw (.int .i64 v_7)]), (1, .at (.raw (.int .i64 t))), (2, .at (.raw (.int .i64 d))), (3, .at (.raw (.int .i64 e)))]) (H := []) ValidShort_c ((ValidShort_Se v_0 v_1 v_2 v_3 v_4 v_5 v_6 v_7 t d e).trans (ValidShort_true hv_0 hv_1 hv_2 hv_3 hv_4 hv_5 hv_6 hv_7)) (by kernel_rfl) rfl (HRel.nil _ W) (fun t v h => by
    simp only [lk_cons] at h
    split at h
    · rename_i e; subst e; cases h; exact VRel.raws [.int .i64 v_0, .int .u64 v_1, .int .u64 v_2, .int .u64 v_3, .int .u64 v_4, .int .u64 v_5, .int .i64 v_6, .int .i64 v_7]
    · split at h
      · rename_i e; subst e; cases h; rfl
      · split at h
        · rename_i e; subst e; cases h; rfl
        · split at h
          · rename_i e; subst e; cases h; rfl
          · simp [lk] at h) ⟨[], by kernel_rfl⟩
set_option maxRecDepth 100000 in
theorem lifted (os : Os) (started : os.Started) (H : Type) (enc : TypeId × Value → H) :
    ReturnsInHanded {} Tryz.checked os 11 .any (fun w args => (Rows.validShortSpec.pre enc Tryz.prog Tryz.f11 Rows.validShortRow.domain false w args ∧ laidMetH Tryz.prog Rows.validShortRow.laid w) ∧ sizedMet enc Tryz.prog Tryz.f11 (OpenSpec.ofChange Rows.validShortSpec) false w args)
      (Rows.validShortSpec.post enc Tryz.prog Tryz.f11 false true false false) := by
  refine returnsInHanded_of_change_and (C := Tryz.checked) (X := fun w _ => laidMetH Tryz.prog Rows.validShortRow.laid w) (fun _ _ _ hh h => h.of_heap hh) own started (by kernel_rfl) Tryz.func11
    (ChangeSpec.witness_shaped (enc := enc) (C := Tryz.checked) (os := os) (X := fun w _ => laidMetH Tryz.prog Rows.validShortRow.laid w) false (World.laidAll Tryz.prog os Rows.validShortRow.laid) #[.agg #[.int .i64 0, .int .u64 0, .int .u64 0, .int .u64 0, .int .u64 0, .int .u64 0, .int .i64 0, .int .i64 0], .int .i64 0, .int .i64 0, .int .i64 0] 8 (World.laidAll_os _ _ _)
      (World.shaped_of_ZipB (by kernel_rfl) (by kernel_rfl)) (by kernel_rfl) (by kernel_rfl) (by kernel_rfl)
      (by rw [MakeChecks.laidMetH_plain _ _ _ (by kernel_rfl)]; exact laidMet_laidAll _ (by kernel_rfl) (by kernel_rfl))) ?_
  intro W base args ds gs before hval0 hW hcnd hsz0 hL _
  have hsz : (DataW.weightsEach Tryz.prog (Tryz.f11.params.toList ++ Rows.validShortSpec.plain.varTypes Tryz.prog) (ds ++ gs)).all (· ≤ reachBytes) = true := hsz0
  have hval : ∀ (j : Nat) t v, Tryz.f11.params[j]? = some t → args[j]? = some v → Value.okWide Tryz.prog W .any base t v := hval0
  have hW' := hW
  obtain ⟨p, q, hA0, hV, rfl, hfz, hnd⟩ := hW
  have hA : DataW.TrodAll enc Tryz.prog W 0 (fun _ => true) true Tryz.f11.params.toList args.toList ds p := hA0
  rw [Tryz.params11] at hA hval hsz
  obtain ⟨v0, vs0, d0, ds0, p0, q0, hargs, rfl, rfl, h0, r0⟩ := trodAll_cons hA
  obtain ⟨v1, vs1, d1, ds1, p1, q1, rfl, rfl, rfl, h1, r1⟩ := trodAll_cons r0
  obtain ⟨v2, vs2, d2, ds2, p2, q2, rfl, rfl, rfl, h2, r2⟩ := trodAll_cons r1
  obtain ⟨v3, vs3, d3, ds3, p3, q3, rfl, rfl, rfl, h3, r3⟩ := trodAll_cons r2
  obtain ⟨rfl, rfl, rfl⟩ := trodAll_nil r3
  obtain rfl : args = #[v0, v1, v2, v3] := by cases args; simp_all
  obtain ⟨rfl, rfl⟩ := trodVars_none hV
  have k0 := h0
  have lt0 : ∀ x ∈ p0, x.block < W.heap.size := by obtain ⟨m, hm⟩ := k0; exact DataW.trod_lt m _ _ _ hm
  obtain ⟨C0, rfl, z0_0⟩ := inRec_of [.int .i64, .int .u64, .int .u64, .int .u64, .int .u64, .int .u64, .int .i64, .int .i64] Tryz.underlying47 (by kernel_rfl) (by kernel_rfl) (hval 0 47 v0 rfl rfl) h0
  obtain ⟨_, _, rfl, ⟨a0_0, rfl, w0_0⟩, z0_1⟩ := z0_0.cons_inv
  obtain ⟨_, _, rfl, ⟨a0_1, rfl, w0_1⟩, z0_2⟩ := z0_1.cons_inv
  obtain ⟨_, _, rfl, ⟨a0_2, rfl, w0_2⟩, z0_3⟩ := z0_2.cons_inv
  obtain ⟨_, _, rfl, ⟨a0_3, rfl, w0_3⟩, z0_4⟩ := z0_3.cons_inv
  obtain ⟨_, _, rfl, ⟨a0_4, rfl, w0_4⟩, z0_5⟩ := z0_4.cons_inv
  obtain ⟨_, _, rfl, ⟨a0_5, rfl, w0_5⟩, z0_6⟩ := z0_5.cons_inv
  obtain ⟨_, _, rfl, ⟨a0_6, rfl, w0_6⟩, z0_7⟩ := z0_6.cons_inv
  obtain ⟨_, _, rfl, ⟨a0_7, rfl, w0_7⟩, z0_8⟩ := z0_7.cons_inv
  obtain rfl := z0_8.nil_inv
  obtain ⟨a1, rfl, rfl, rfl, w1⟩ := open_int Tryz.underlying3 (hval 1 3 v1 rfl rfl) h1
  obtain ⟨a2, rfl, rfl, rfl, w2⟩ := open_int Tryz.underlying2 (hval 2 2 v2 rfl rfl) h2
  obtain ⟨a3, rfl, rfl, rfl, w3⟩ := open_int Tryz.underlying2 (hval 3 2 v3 rfl rfl) h3
  clear hA0 hval0 hsz0 hsz
  refine (law a0_0 a0_1 a0_2 a0_3 a0_4 a0_5 a0_6 a0_7 a1 a2 a3 (wfI w0_0) (wfU w0_1) (wfU w0_2) (wfU w0_3) (wfU w0_4) (wfU w0_5) (wfI w0_6) (wfI w0_7) W).mono fun e W' ⟨he, bel⟩ => ?_
  subst he
  exact ⟨_, rfl, _, _, _, [], _, [], hW', trodAll_mk1 (shut_bool Tryz.underlying4 _), (trodAll_cons_mk (Below.trod laidOut (by kernel_rfl) (of_decide_eq_true (by kernel_rfl)) k0 bel lt0) (trodAll_cons_mk (shut_int Tryz.underlying3 w1) (trodAll_cons_mk (shut_int Tryz.underlying2 w2) (trodAll_cons_mk (shut_int Tryz.underlying2 w3) trodAll_mk0)))), rfl, bel.frame _, fun h => by cases h⟩
end Go.Proofs.YtllgbgponmkijaaGreatDoor.ValidShort

