import Derived.Test.YthcddikjnpbnjaaGreatDoorPlFN
import Derived.Test.YthcddikjnpbnjaaGreatDoorYFNCon
import Derived.Test.YthcddikjnpbnjaaGreatDoorL6
import Derived.Test.YthcddikjnpbnjaaGreatDoorPlW
import Derived.Test.YthcddikjnpbnjaaGreatDoorRows
import Derived.Test.YthcddikjnpbnjaaGreatDoorTie
import Derived.Test.YthcddikjnpbnjaaGreatDoorCards
import Derived.WalkKit
import Derived.ProofKit
import Derived.OpenShut
import Derived.ShutString
import Derived.ChangeOld
import Derived.LaidMore
import Derived.Lay
import Derived.SevenTiedAt
import Derived.Stop.Joined
import Derived.SizedLaws
set_option linter.all false
namespace Go.Proofs.YthcddikjnpbnjaaGreatDoor.FeedNone
open Go.ChangeShapes Go.WideShapes Go.ChangeAt Go.RowKit Go.Sx Go.Sx.T
open Go.ChangeMaps (open_string shut_string)
theorem laidOut : laidOutB Tryz.prog = true := by kernel_rfl
theorem own : ownKnob Tryz.prog.godebug = none := by kernel_rfl
theorem law (first : Int) (n2 : Int) (v_swaps : Value) (swaps : List Bool) (p_swaps : Pl) (hfirst : U first) (W : World) (hr_swaps : InRows W v_swaps swaps.length [.bool swaps] p_swaps) : Calls Tryz.prog 3 #[.int .u64 first, .int .i64 n2, v_swaps] W fun e W' => e = .returned (.bool true) ∧ Below W.heap.size W W' :=
  law_of (us := [.int .u64 first, .int .i64 n2, v_swaps]) (ls := [.lb swaps, .i first, .i n2]) (r := [.b true]) (fr := [(0, .at (.raw (.int .u64 first))), (1, .at (.raw (.int .i64 n2))), (2, .at (.sl 0 1 none ((Col.bool swaps).len : Int)))]) (H := [.ro 4 1 ((Col.bool swaps).len : Int) [.bool swaps]]) FeedNone_c ((FeedNone_Se swaps first n2).trans (FeedNone_true hfirst)) (by kernel_rfl) rfl (HRel.ros (ps := [p_swaps]) rfl (fun i p o hp ho => by
    match i, hp, ho with
    | 0, hp, ho => cases hp; cases ho; exact ⟨rfl, fun ρ H => hr_swaps.obj ρ H 4⟩
    | n + 1, hp, ho => simp at hp)) (fun t v h => by
    simp only [lk_cons] at h
    split at h
    · rename_i e; subst e; cases h; rfl
    · split at h
      · rename_i e; subst e; cases h; rfl
      · split at h
        · rename_i e; subst e; cases h; exact hr_swaps.root rfl
        · simp [lk] at h) ⟨[.dead], by kernel_rfl⟩
set_option maxRecDepth 100000 in
theorem lifted (os : Os) (started : os.Started) (H : Type) (enc : TypeId × Value → H) :
    ReturnsInHanded {} Tryz.checked os 3 .any (fun w args => (Rows.feedNoneSpec.pre enc Tryz.prog Tryz.f3 Rows.feedNoneRow.domain false w args ∧ laidMetH Tryz.prog Rows.feedNoneRow.laid w) ∧ sizedMet enc Tryz.prog Tryz.f3 (OpenSpec.ofChange Rows.feedNoneSpec) false w args)
      (Rows.feedNoneSpec.post enc Tryz.prog Tryz.f3 false true false false) := by
  refine returnsInHanded_of_change_and (C := Tryz.checked) (X := fun w _ => laidMetH Tryz.prog Rows.feedNoneRow.laid w) (fun _ _ _ hh h => h.of_heap hh) own started (by kernel_rfl) Tryz.func3
    (ChangeSpec.witness_shaped (enc := enc) (C := Tryz.checked) (os := os) (X := fun w _ => laidMetH Tryz.prog Rows.feedNoneRow.laid w) false (World.laidAll Tryz.prog os Rows.feedNoneRow.laid) #[.int .u64 0, .int .i64 0, .slice none 0 0] 8 (World.laidAll_os _ _ _)
      (World.shaped_of_ZipB (by kernel_rfl) (by kernel_rfl)) (by kernel_rfl) (by kernel_rfl) (by kernel_rfl)
      (by rw [MakeChecks.laidMetH_plain _ _ _ (by kernel_rfl)]; exact laidMet_laidAll _ (by kernel_rfl) (by kernel_rfl))) ?_
  intro W base args ds gs before hval0 hW hcnd hsz0 hL _
  have hsz : (DataW.weightsEach Tryz.prog (Tryz.f3.params.toList ++ Rows.feedNoneSpec.plain.varTypes Tryz.prog) (ds ++ gs)).all (· ≤ reachBytes) = true := hsz0
  have hval : ∀ (j : Nat) t v, Tryz.f3.params[j]? = some t → args[j]? = some v → Value.okWide Tryz.prog W .any base t v := hval0
  have hW' := hW
  obtain ⟨p, q, hA0, hV, rfl, hfz, hnd⟩ := hW
  have hA : DataW.TrodAll enc Tryz.prog W 0 (fun _ => true) true Tryz.f3.params.toList args.toList ds p := hA0
  rw [Tryz.params3] at hA hval hsz
  obtain ⟨v0, vs0, d0, ds0, p0, q0, hargs, rfl, rfl, h0, r0⟩ := trodAll_cons hA
  obtain ⟨v1, vs1, d1, ds1, p1, q1, rfl, rfl, rfl, h1, r1⟩ := trodAll_cons r0
  obtain ⟨v2, vs2, d2, ds2, p2, q2, rfl, rfl, rfl, h2, r2⟩ := trodAll_cons r1
  obtain ⟨rfl, rfl, rfl⟩ := trodAll_nil r2
  obtain rfl : args = #[v0, v1, v2] := by cases args; simp_all
  obtain ⟨rfl, rfl⟩ := trodVars_none hV
  obtain ⟨a0, rfl, rfl, rfl, w0⟩ := open_int Tryz.underlying22 (hval 0 22 v0 rfl rfl) h0
  obtain ⟨a1, rfl, rfl, rfl, w1⟩ := open_int Tryz.underlying3 (hval 1 3 v1 rfl rfl) h1
  obtain ⟨a2, len2, cap2, rfl⟩ := okWide_slice Tryz.underlying23 (hval 2 23 v2 rfl rfl)
  have k2 := h2
  have lt2 : ∀ x ∈ p2, x.block < W.heap.size := by obtain ⟨m, hm⟩ := k2; exact DataW.trod_lt m _ _ _ hm
  obtain ⟨C2, N2, b2, y2, z2_0⟩ := inRows1_of .bool Tryz.underlying23 (by kernel_rfl) (by kernel_rfl) h2
  obtain ⟨_, _, rfl, ⟨l2_0, rfl, e2_0⟩, z2_1⟩ := z2_0.cons_inv
  obtain rfl := z2_1.nil_inv
  subst e2_0
  clear hA0 hval0 hsz0 hsz
  refine (law a0 a1 _ l2_0 b2 (wfU w0) W y2).mono fun e W' ⟨he, bel⟩ => ?_
  subst he
  exact ⟨_, rfl, _, _, _, [], _, [], hW', trodAll_mk1 (shut_bool Tryz.underlying4 _), (trodAll_cons_mk (shut_int Tryz.underlying22 w0) (trodAll_cons_mk (shut_int Tryz.underlying3 w1) (trodAll_cons_mk (Below.trod laidOut (by kernel_rfl) (of_decide_eq_true (by kernel_rfl)) k2 bel lt2) trodAll_mk0))), rfl, bel.frame _, fun h => by cases h⟩
end Go.Proofs.YthcddikjnpbnjaaGreatDoor.FeedNone

