import Derived.Test.YthcddikjnpbnjaaGreatDoorPlWS
import Derived.Test.YthcddikjnpbnjaaGreatDoorYWSCon
import Derived.Test.YthcddikjnpbnjaaGreatDoorL6
import Derived.Test.YthcddikjnpbnjaaGreatDoorPlW
import Derived.Test.YthcddikjnpbnjaaGreatDoorRows
import Derived.Test.YthcddikjnpbnjaaGreatDoorTie
import Derived.Test.YthcddikjnpbnjaaGreatDoorCards
import Derived.WalkKit
import Derived.ProofKit
import Derived.OpenShut
import Derived.ShutString
import Derived.ChangeOld
import Derived.LaidMore
import Derived.Lay
import Derived.SevenTiedAt
import Derived.Stop.Joined
import Derived.SizedLaws
set_option linter.all false
namespace Go.Proofs.YthcddikjnpbnjaaGreatDoor.WinSlow
open Go.ChangeShapes Go.WideShapes Go.ChangeAt Go.RowKit Go.Sx Go.Sx.T
open Go.ChangeMaps (open_string shut_string)
theorem laidOut : laidOutB Tryz.prog = true := by kernel_rfl
theorem own : ownKnob Tryz.prog.godebug = none := by kernel_rfl
theorem law (v_ns : Value) (ns : List Int) (p_ns : Pl) (W : World) (hr_ns : InRow .i64 W v_ns ns p_ns) : Calls Tryz.prog 7 #[v_ns] W fun e W' => e = .returned (.bool true) ∧ Below W.heap.size W W' :=
  law_of (us := [v_ns]) (ls := [.li ns]) (r := [.b true]) (fr := [(0, .at (.sl 0 1 none ((Col.int .i64 ns).len : Int)))]) (H := [.ro 3 1 ((Col.int .i64 ns).len : Int) [.int .i64 ns]]) WinSlow_c ((WinSlow_Se ns).trans (WinSlow_true ns)) (by kernel_rfl) rfl (HRel.ros (ps := [p_ns]) rfl (fun i p o hp ho => by
    match i, hp, ho with
    | 0, hp, ho => cases hp; cases ho; exact ⟨rfl, fun ρ H => hr_ns.obj ρ H 3⟩
    | n + 1, hp, ho => simp at hp)) (fun t v h => by
    simp only [lk_cons] at h
    split at h
    · rename_i e; subst e; cases h; exact hr_ns.root rfl
    · simp [lk] at h) ⟨[.dead], by kernel_rfl⟩
set_option maxRecDepth 100000 in
theorem lifted (os : Os) (started : os.Started) (H : Type) (enc : TypeId × Value → H) :
    ReturnsInHanded {} Tryz.checked os 7 .any (fun w args => (Rows.winSlowSpec.pre enc Tryz.prog Tryz.f7 Rows.winSlowRow.domain false w args ∧ laidMetH Tryz.prog Rows.winSlowRow.laid w) ∧ sizedMet enc Tryz.prog Tryz.f7 (OpenSpec.ofChange Rows.winSlowSpec) false w args)
      (Rows.winSlowSpec.post enc Tryz.prog Tryz.f7 false true false false) := by
  refine returnsInHanded_of_change_and (C := Tryz.checked) (X := fun w _ => laidMetH Tryz.prog Rows.winSlowRow.laid w) (fun _ _ _ hh h => h.of_heap hh) own started (by kernel_rfl) Tryz.func7
    (ChangeSpec.witness_shaped (enc := enc) (C := Tryz.checked) (os := os) (X := fun w _ => laidMetH Tryz.prog Rows.winSlowRow.laid w) false (World.laidAll Tryz.prog os Rows.winSlowRow.laid) #[.slice none 0 0] 8 (World.laidAll_os _ _ _)
      (World.shaped_of_ZipB (by kernel_rfl) (by kernel_rfl)) (by kernel_rfl) (by kernel_rfl) (by kernel_rfl)
      (by rw [MakeChecks.laidMetH_plain _ _ _ (by kernel_rfl)]; exact laidMet_laidAll _ (by kernel_rfl) (by kernel_rfl))) ?_
  intro W base args ds gs before hval0 hW hcnd hsz0 hL _
  have hsz : (DataW.weightsEach Tryz.prog (Tryz.f7.params.toList ++ Rows.winSlowSpec.plain.varTypes Tryz.prog) (ds ++ gs)).all (· ≤ reachBytes) = true := hsz0
  have hval : ∀ (j : Nat) t v, Tryz.f7.params[j]? = some t → args[j]? = some v → Value.okWide Tryz.prog W .any base t v := hval0
  have hW' := hW
  obtain ⟨p, q, hA0, hV, rfl, hfz, hnd⟩ := hW
  have hA : DataW.TrodAll enc Tryz.prog W 0 (fun _ => true) true Tryz.f7.params.toList args.toList ds p := hA0
  rw [Tryz.params7] at hA hval hsz
  obtain ⟨v0, vs0, d0, ds0, p0, q0, hargs, rfl, rfl, h0, r0⟩ := trodAll_cons hA
  obtain ⟨rfl, rfl, rfl⟩ := trodAll_nil r0
  obtain rfl : args = #[v0] := by cases args; simp_all
  obtain ⟨rfl, rfl⟩ := trodVars_none hV
  obtain ⟨a0, len0, cap0, rfl⟩ := okWide_slice Tryz.underlying36 (hval 0 36 v0 rfl rfl)
  have k0 := h0
  have lt0 : ∀ x ∈ p0, x.block < W.heap.size := by obtain ⟨m, hm⟩ := k0; exact DataW.trod_lt m _ _ _ hm
  obtain ⟨l0, b0, y0⟩ := inRow_of (k := .i64) Tryz.underlying36 Tryz.underlying3 (by kernel_rfl) h0
  clear hA0 hval0 hsz0 hsz
  refine (law _ l0 b0 W y0).mono fun e W' ⟨he, bel⟩ => ?_
  subst he
  exact ⟨_, rfl, _, _, _, [], _, [], hW', trodAll_mk1 (shut_bool Tryz.underlying4 _), (trodAll_cons_mk (Below.trod laidOut (by kernel_rfl) (of_decide_eq_true (by kernel_rfl)) k0 bel lt0) trodAll_mk0), rfl, bel.frame _, fun h => by cases h⟩
end Go.Proofs.YthcddikjnpbnjaaGreatDoor.WinSlow

