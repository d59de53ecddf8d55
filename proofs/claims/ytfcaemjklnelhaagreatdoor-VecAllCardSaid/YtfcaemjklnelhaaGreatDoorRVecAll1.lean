import Derived.Test.YtfcaemjklnelhaaGreatDoorPlVA
import Derived.Test.YtfcaemjklnelhaaGreatDoorYVACon
import Derived.Test.YtfcaemjklnelhaaGreatDoorL6
import Derived.Test.YtfcaemjklnelhaaGreatDoorPlW
import Derived.Test.YtfcaemjklnelhaaGreatDoorRows
import Derived.Test.YtfcaemjklnelhaaGreatDoorTie
import Derived.Test.YtfcaemjklnelhaaGreatDoorCards
import Derived.WalkKit
import Derived.ProofKit
import Derived.OpenShut
import Derived.ShutString
import Derived.ChangeOld
import Derived.LaidMore
import Derived.Lay
import Derived.SevenTiedAt
import Derived.Stop.Joined
import Derived.SizedLaws
set_option linter.all false
namespace Go.Proofs.YtfcaemjklnelhaaGreatDoor.VecAll
open Go.ChangeShapes Go.WideShapes Go.ChangeAt Go.RowKit Go.Sx Go.Sx.T
open Go.ChangeMaps (open_string shut_string)
theorem laidOut : laidOutB Tryz.prog = true := by kernel_rfl
theorem own : ownKnob Tryz.prog.godebug = none := by kernel_rfl
theorem law (v_cs : Value) (cs0 : List Int) (cs1 : List Int) (p_cs : Pl) (v_states : Value) (states : List Int) (p_states : Pl) (b : ByteArray) (W : World) (hr_cs : InRows W v_cs cs0.length [.int .i64 cs0, .int .i64 cs1] p_cs) (hw_cs0 : ∀ x ∈ cs0, (Lit.int .i64 x).wf = true) (hw_cs1 : ∀ x ∈ cs1, (Lit.int .i64 x).wf = true) (hl_cs1 : cs1.length = cs0.length) (hr_states : InRow .i64 W v_states states p_states) : Calls Tryz.prog 3 #[v_cs, v_states, .string b] W fun e W' => e = .returned (.bool true) ∧ Below W.heap.size W W' :=
  law_of (us := [v_cs, v_states, .string b]) (ls := [.li cs0, .li cs1, .li states, .s b]) (r := [.b true]) (fr := [(0, .at (.sl 0 2 none ((Col.int .i64 cs0).len : Int))), (1, .at (.sl 1 1 none ((Col.int .i64 states).len : Int))), (2, .at (.raw (.string b)))]) (H := [.ro 38 2 ((Col.int .i64 cs0).len : Int) [.int .i64 cs0, .int .i64 cs1], .ro 3 1 ((Col.int .i64 states).len : Int) [.int .i64 states]]) VecAll_c ((VecAll_Se cs0 cs1 states b).trans (VecAll_true (fun n hn => wfI (hw_cs0 n hn)) (fun n hn => wfI (hw_cs1 n hn)) hl_cs1)) (by kernel_rfl) rfl (HRel.ros (ps := [p_cs, p_states]) rfl (fun i p o hp ho => by
    match i, hp, ho with
    | 0, hp, ho => cases hp; cases ho; exact ⟨rfl, fun ρ H => hr_cs.obj ρ H 38⟩
    | 1, hp, ho => cases hp; cases ho; exact ⟨rfl, fun ρ H => hr_states.obj ρ H 3⟩
    | n + 2, hp, ho => simp at hp)) (fun t v h => by
    simp only [lk_cons] at h
    split at h
    · rename_i e; subst e; cases h; exact hr_cs.root rfl
    · split at h
      · rename_i e; subst e; cases h; exact hr_states.root rfl
      · split at h
        · rename_i e; subst e; cases h; rfl
        · simp [lk] at h) ⟨[.dead, .dead], by kernel_rfl⟩
set_option maxRecDepth 100000 in
theorem lifted (os : Os) (started : os.Started) (H : Type) (enc : TypeId × Value → H) :
    ReturnsInHanded {} Tryz.checked os 3 .any (fun w args => (Rows.vecAllSpec.pre enc Tryz.prog Tryz.f3 Rows.vecAllRow.domain false w args ∧ laidMetH Tryz.prog Rows.vecAllRow.laid w) ∧ sizedMet enc Tryz.prog Tryz.f3 (OpenSpec.ofChange Rows.vecAllSpec) false w args)
      (Rows.vecAllSpec.post enc Tryz.prog Tryz.f3 false true false false) := by
  refine returnsInHanded_of_change_and (C := Tryz.checked) (X := fun w _ => laidMetH Tryz.prog Rows.vecAllRow.laid w) (fun _ _ _ hh h => h.of_heap hh) own started (by kernel_rfl) Tryz.func3
    (ChangeSpec.witness_shaped (enc := enc) (C := Tryz.checked) (os := os) (X := fun w _ => laidMetH Tryz.prog Rows.vecAllRow.laid w) false (World.laidAll Tryz.prog os Rows.vecAllRow.laid) #[.slice none 0 0, .slice none 0 0, .string ByteArray.empty] 8 (World.laidAll_os _ _ _)
      (World.shaped_of_ZipB (by kernel_rfl) (by kernel_rfl)) (by kernel_rfl) (by kernel_rfl) (by kernel_rfl)
      (by rw [MakeChecks.laidMetH_plain _ _ _ (by kernel_rfl)]; exact laidMet_laidAll _ (by kernel_rfl) (by kernel_rfl))) ?_
  intro W base args ds gs before hval0 hW hcnd hsz0 hL _
  have hsz : (DataW.weightsEach Tryz.prog (Tryz.f3.params.toList ++ Rows.vecAllSpec.plain.varTypes Tryz.prog) (ds ++ gs)).all (· ≤ reachBytes) = true := hsz0
  have hval : ∀ (j : Nat) t v, Tryz.f3.params[j]? = some t → args[j]? = some v → Value.okWide Tryz.prog W .any base t v := hval0
  have hW' := hW
  obtain ⟨p, q, hA0, hV, rfl, hfz, hnd⟩ := hW
  have hA : DataW.TrodAll enc Tryz.prog W 0 (fun _ => true) true Tryz.f3.params.toList args.toList ds p := hA0
  rw [Tryz.params3] at hA hval hsz
  obtain ⟨v0, vs0, d0, ds0, p0, q0, hargs, rfl, rfl, h0, r0⟩ := trodAll_cons hA
  obtain ⟨v1, vs1, d1, ds1, p1, q1, rfl, rfl, rfl, h1, r1⟩ := trodAll_cons r0
  obtain ⟨v2, vs2, d2, ds2, p2, q2, rfl, rfl, rfl, h2, r2⟩ := trodAll_cons r1
  obtain ⟨rfl, rfl, rfl⟩ := trodAll_nil r2
  obtain rfl : args = #[v0, v1, v2] := by cases args; simp_all
  obtain ⟨rfl, rfl⟩ := trodVars_none hV
  obtain ⟨a0, len0, cap0, rfl⟩ := okWide_slice Tryz.underlying22 (hval 0 22 v0 rfl rfl)
  have k0 := h0
  have lt0 : ∀ x ∈ p0, x.block < W.heap.size := by obtain ⟨m, hm⟩ := k0; exact DataW.trod_lt m _ _ _ hm
  obtain ⟨C0, N0, b0, y0, z0_0⟩ := inRows_of [.int .i64, .int .i64] Tryz.underlying22 Tryz.underlying38 (by kernel_rfl) (by kernel_rfl) (by decide) h0
  obtain ⟨_, _, rfl, ⟨l0_0, rfl, e0_0, w0_0⟩, z0_1⟩ := z0_0.cons_inv
  obtain ⟨_, _, rfl, ⟨l0_1, rfl, e0_1, w0_1⟩, z0_2⟩ := z0_1.cons_inv
  obtain rfl := z0_2.nil_inv
  subst e0_0
  obtain ⟨a1, len1, cap1, rfl⟩ := okWide_slice Tryz.underlying23 (hval 1 23 v1 rfl rfl)
  have k1 := h1
  have lt1 : ∀ x ∈ p1, x.block < W.heap.size := by obtain ⟨m, hm⟩ := k1; exact DataW.trod_lt m _ _ _ hm
  obtain ⟨l1, b1, y1⟩ := inRow_of (k := .i64) Tryz.underlying23 Tryz.underlying3 (by kernel_rfl) h1
  obtain ⟨a2, rfl, rfl, rfl, y2⟩ := open_string Tryz.underlying9 (hval 2 9 v2 rfl rfl) h2
  clear hA0 hval0 hsz0 hsz
  refine (law _ l0_0 l0_1 b0 _ l1 b1 a2 W y0 w0_0 w0_1 e0_1 y1).mono fun e W' ⟨he, bel⟩ => ?_
  subst he
  exact ⟨_, rfl, _, _, _, [], _, [], hW', trodAll_mk1 (shut_bool Tryz.underlying4 _), (trodAll_cons_mk (Below.trod laidOut (by kernel_rfl) (of_decide_eq_true (by kernel_rfl)) k0 bel lt0) (trodAll_cons_mk (Below.trod laidOut (by kernel_rfl) (of_decide_eq_true (by kernel_rfl)) k1 bel lt1) (trodAll_cons_mk (shut_string Tryz.underlying9 y2) trodAll_mk0))), rfl, bel.frame _, fun h => by cases h⟩
end Go.Proofs.YtfcaemjklnelhaaGreatDoor.VecAll

