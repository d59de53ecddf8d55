import Derived.Test.YtdjnfdcoilgegaaGreatDoorPlNT
import Derived.Test.YtdjnfdcoilgegaaGreatDoorYNTCon
import Derived.Test.YtdjnfdcoilgegaaGreatDoorL6
import Derived.Test.YtdjnfdcoilgegaaGreatDoorPlW
import Derived.Test.YtdjnfdcoilgegaaGreatDoorRows
import Derived.Test.YtdjnfdcoilgegaaGreatDoorTie
import Derived.Test.YtdjnfdcoilgegaaGreatDoorCards
import Derived.WalkKit
import Derived.ProofKit
import Derived.OpenShut
import Derived.ShutString
import Derived.ChangeOld
import Derived.LaidMore
import Derived.Lay
import Derived.SevenTiedAt
import Derived.Stop.Joined
import Derived.SizedLaws
set_option linter.all false
namespace Go.Proofs.YtdjnfdcoilgegaaGreatDoor.NegoTwo
open Go.ChangeShapes Go.WideShapes Go.ChangeAt Go.RowKit Go.Sx Go.Sx.T
open Go.ChangeMaps (open_string shut_string)
theorem laidOut : laidOutB Tryz.prog = true := by kernel_rfl
theorem own : ownKnob Tryz.prog.godebug = none := by kernel_rfl
theorem law (a : ByteArray) (b : ByteArray) (c : ByteArray) (d : ByteArray) (v_lost : Value) (lost : List Bool) (p_lost : Pl) (W : World) (hr_lost : InRows W v_lost lost.length [.bool lost] p_lost) : Calls Tryz.prog 8 #[.string a, .string b, .string c, .string d, v_lost] W fun e W' => e = .returned (.bool true) ∧ Below W.heap.size W W' :=
  law_of (us := [.string a, .string b, .string c, .string d, v_lost]) (ls := [.lb lost, .s a, .s b, .s c, .s d]) (r := [.b true]) (fr := [(0, .at (.raw (.string a))), (1, .at (.raw (.string b))), (2, .at (.raw (.string c))), (3, .at (.raw (.string d))), (4, .at (.sl 0 1 none ((Col.bool lost).len : Int)))]) (H := [.ro 4 1 ((Col.bool lost).len : Int) [.bool lost]]) NegoTwo_c ((NegoTwo_Se lost a b c d).trans (NegoTwo_true lost a b c d)) (by kernel_rfl) rfl (HRel.ros (ps := [p_lost]) rfl (fun i p o hp ho => by
    match i, hp, ho with
    | 0, hp, ho => cases hp; cases ho; exact ⟨rfl, fun ρ H => hr_lost.obj ρ H 4⟩
    | n + 1, hp, ho => simp at hp)) (fun t v h => by
    simp only [lk_cons] at h
    split at h
    · rename_i e; subst e; cases h; rfl
    · split at h
      · rename_i e; subst e; cases h; rfl
      · split at h
        · rename_i e; subst e; cases h; rfl
        · split at h
          · rename_i e; subst e; cases h; rfl
          · split at h
            · rename_i e; subst e; cases h; exact hr_lost.root rfl
            · simp [lk] at h) ⟨[.dead], by kernel_rfl⟩
set_option maxRecDepth 100000 in
theorem lifted (os : Os) (started : os.Started) (H : Type) (enc : TypeId × Value → H) :
    ReturnsInHanded {} Tryz.checked os 8 .any (fun w args => (Rows.negoTwoSpec.pre enc Tryz.prog Tryz.f8 Rows.negoTwoRow.domain false w args ∧ laidMetH Tryz.prog Rows.negoTwoRow.laid w) ∧ sizedMet enc Tryz.prog Tryz.f8 (OpenSpec.ofChange Rows.negoTwoSpec) false w args)
      (Rows.negoTwoSpec.post enc Tryz.prog Tryz.f8 false true false false) := by
  refine returnsInHanded_of_change_and (C := Tryz.checked) (X := fun w _ => laidMetH Tryz.prog Rows.negoTwoRow.laid w) (fun _ _ _ hh h => h.of_heap hh) own started (by kernel_rfl) Tryz.func8
    (ChangeSpec.witness_shaped (enc := enc) (C := Tryz.checked) (os := os) (X := fun w _ => laidMetH Tryz.prog Rows.negoTwoRow.laid w) false (World.laidAll Tryz.prog os Rows.negoTwoRow.laid) #[.string ByteArray.empty, .string ByteArray.empty, .string ByteArray.empty, .string ByteArray.empty, .slice none 0 0] 8 (World.laidAll_os _ _ _)
      (World.shaped_of_ZipB (by kernel_rfl) (by kernel_rfl)) (by kernel_rfl) (by kernel_rfl) (by kernel_rfl)
      (by rw [MakeChecks.laidMetH_plain _ _ _ (by kernel_rfl)]; exact laidMet_laidAll _ (by kernel_rfl) (by kernel_rfl))) ?_
  intro W base args ds gs before hval0 hW hcnd hsz0 hL _
  have hsz : (DataW.weightsEach Tryz.prog (Tryz.f8.params.toList ++ Rows.negoTwoSpec.plain.varTypes Tryz.prog) (ds ++ gs)).all (· ≤ reachBytes) = true := hsz0
  have hval : ∀ (j : Nat) t v, Tryz.f8.params[j]? = some t → args[j]? = some v → Value.okWide Tryz.prog W .any base t v := hval0
  have hW' := hW
  obtain ⟨p, q, hA0, hV, rfl, hfz, hnd⟩ := hW
  have hA : DataW.TrodAll enc Tryz.prog W 0 (fun _ => true) true Tryz.f8.params.toList args.toList ds p := hA0
  rw [Tryz.params8] at hA hval hsz
  obtain ⟨v0, vs0, d0, ds0, p0, q0, hargs, rfl, rfl, h0, r0⟩ := trodAll_cons hA
  obtain ⟨v1, vs1, d1, ds1, p1, q1, rfl, rfl, rfl, h1, r1⟩ := trodAll_cons r0
  obtain ⟨v2, vs2, d2, ds2, p2, q2, rfl, rfl, rfl, h2, r2⟩ := trodAll_cons r1
  obtain ⟨v3, vs3, d3, ds3, p3, q3, rfl, rfl, rfl, h3, r3⟩ := trodAll_cons r2
  obtain ⟨v4, vs4, d4, ds4, p4, q4, rfl, rfl, rfl, h4, r4⟩ := trodAll_cons r3
  obtain ⟨rfl, rfl, rfl⟩ := trodAll_nil r4
  obtain rfl : args = #[v0, v1, v2, v3, v4] := by cases args; simp_all
  obtain ⟨rfl, rfl⟩ := trodVars_none hV
  obtain ⟨a0, rfl, rfl, rfl, y0⟩ := open_string Tryz.underlying9 (hval 0 9 v0 rfl rfl) h0
  obtain ⟨a1, rfl, rfl, rfl, y1⟩ := open_string Tryz.underlying9 (hval 1 9 v1 rfl rfl) h1
  obtain ⟨a2, rfl, rfl, rfl, y2⟩ := open_string Tryz.underlying9 (hval 2 9 v2 rfl rfl) h2
  obtain ⟨a3, rfl, rfl, rfl, y3⟩ := open_string Tryz.underlying9 (hval 3 9 v3 rfl rfl) h3
  obtain ⟨a4, len4, cap4, rfl⟩ := okWide_slice Tryz.underlying58 (hval 4 58 v4 rfl rfl)
  have k4 := h4
  have lt4 : ∀ x ∈ p4, x.block < W.heap.size := by obtain ⟨m, hm⟩ := k4; exact DataW.trod_lt m _ _ _ hm
  obtain ⟨C4, N4, b4, y4, z4_0⟩ := inRows1_of .bool Tryz.underlying58 (by kernel_rfl) (by kernel_rfl) h4
  obtain ⟨_, _, rfl, ⟨l4_0, rfl, e4_0⟩, z4_1⟩ := z4_0.cons_inv
  obtain rfl := z4_1.nil_inv
  subst e4_0
  clear hA0 hval0 hsz0 hsz
  refine (law a0 a1 a2 a3 _ l4_0 b4 W y4).mono fun e W' ⟨he, bel⟩ => ?_
  subst he
  exact ⟨_, rfl, _, _, _, [], _, [], hW', trodAll_mk1 (shut_bool Tryz.underlying4 _), (trodAll_cons_mk (shut_string Tryz.underlying9 y0) (trodAll_cons_mk (shut_string Tryz.underlying9 y1) (trodAll_cons_mk (shut_string Tryz.underlying9 y2) (trodAll_cons_mk (shut_string Tryz.underlying9 y3) (trodAll_cons_mk (Below.trod laidOut (by kernel_rfl) (of_decide_eq_true (by kernel_rfl)) k4 bel lt4) trodAll_mk0))))), rfl, bel.frame _, fun h => by cases h⟩
end Go.Proofs.YtdjnfdcoilgegaaGreatDoor.NegoTwo

