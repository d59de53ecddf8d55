import Derived.Test.YtopcljhdejindaaGreatDoorPlIvO
import Derived.Test.YtopcljhdejindaaGreatDoorYIOCon
import Derived.Test.YtopcljhdejindaaGreatDoorL6
import Derived.Test.YtopcljhdejindaaGreatDoorPlW
import Derived.Test.YtopcljhdejindaaGreatDoorRows
import Derived.Test.YtopcljhdejindaaGreatDoorTie
import Derived.Test.YtopcljhdejindaaGreatDoorCards
import Derived.WalkKit
import Derived.ProofKit
import Derived.OpenShut
import Derived.ShutString
import Derived.ChangeOld
import Derived.LaidMore
import Derived.Lay
import Derived.SevenTiedAt
import Derived.Stop.Joined
import Derived.SizedLaws
set_option linter.all false
namespace Go.Proofs.YtopcljhdejindaaGreatDoor.IvalOrder
open Go.ChangeShapes Go.WideShapes Go.ChangeAt Go.RowKit Go.Sx Go.Sx.T
open Go.ChangeMaps (open_string shut_string)
theorem laidOut : laidOutB Tryz.prog = true := by kernel_rfl
theorem own : ownKnob Tryz.prog.godebug = none := by kernel_rfl
theorem law (o : Int) (v_closed : Value) (closed : List Int) (p_closed : Pl) (i : Int) (more : Int) (ho : U o) (hmore : U more) (W : World) (hr_closed : InRow .u64 W v_closed closed p_closed) : Calls Tryz.prog 3 #[.int .u64 o, v_closed, .int .i64 i, .int .u64 more] W fun e W' => e = .returned (.bool true) ∧ Below W.heap.size W W' :=
  law_of (us := [.int .u64 o, v_closed, .int .i64 i, .int .u64 more]) (ls := [.li closed, .i o, .i i, .i more]) (r := [.b true]) (fr := [(0, .at (.raw (.int .u64 o))), (1, .at (.sl 0 1 none ((Col.int .u64 closed).len : Int))), (2, .at (.raw (.int .i64 i))), (3, .at (.raw (.int .u64 more)))]) (H := [.ro 22 1 ((Col.int .u64 closed).len : Int) [.int .u64 closed]]) IvalOrder_c ((IvalOrder_Se closed o i more).trans (IvalOrder_true (fun n hn => wfU (hr_closed.wf n hn)) ho hmore)) (by kernel_rfl) rfl (HRel.ros (ps := [p_closed]) rfl (fun i p o hp ho => by
    match i, hp, ho with
    | 0, hp, ho => cases hp; cases ho; exact ⟨rfl, fun ρ H => hr_closed.obj ρ H 22⟩
    | n + 1, hp, ho => simp at hp)) (fun t v h => by
    simp only [lk_cons] at h
    split at h
    · rename_i e; subst e; cases h; rfl
    · split at h
      · rename_i e; subst e; cases h; exact hr_closed.root rfl
      · split at h
        · rename_i e; subst e; cases h; rfl
        · split at h
          · rename_i e; subst e; cases h; rfl
          · simp [lk] at h) ⟨[.dead], by kernel_rfl⟩
set_option maxRecDepth 100000 in
theorem lifted (os : Os) (started : os.Started) (H : Type) (enc : TypeId × Value → H) :
    ReturnsInHanded {} Tryz.checked os 3 .any (fun w args => (Rows.ivalOrderSpec.pre enc Tryz.prog Tryz.f3 Rows.ivalOrderRow.domain false w args ∧ laidMetH Tryz.prog Rows.ivalOrderRow.laid w) ∧ sizedMet enc Tryz.prog Tryz.f3 (OpenSpec.ofChange Rows.ivalOrderSpec) false w args)
      (Rows.ivalOrderSpec.post enc Tryz.prog Tryz.f3 false true false false) := by
  refine returnsInHanded_of_change_and (C := Tryz.checked) (X := fun w _ => laidMetH Tryz.prog Rows.ivalOrderRow.laid w) (fun _ _ _ hh h => h.of_heap hh) own started (by kernel_rfl) Tryz.func3
    (ChangeSpec.witness_shaped (enc := enc) (C := Tryz.checked) (os := os) (X := fun w _ => laidMetH Tryz.prog Rows.ivalOrderRow.laid w) false (World.laidAll Tryz.prog os Rows.ivalOrderRow.laid) #[.int .u64 0, .slice none 0 0, .int .i64 0, .int .u64 0] 8 (World.laidAll_os _ _ _)
      (World.shaped_of_ZipB (by kernel_rfl) (by kernel_rfl)) (by kernel_rfl) (by kernel_rfl) (by kernel_rfl)
      (by rw [MakeChecks.laidMetH_plain _ _ _ (by kernel_rfl)]; exact laidMet_laidAll _ (by kernel_rfl) (by kernel_rfl))) ?_
  intro W base args ds gs before hval0 hW hcnd hsz0 hL _
  have hsz : (DataW.weightsEach Tryz.prog (Tryz.f3.params.toList ++ Rows.ivalOrderSpec.plain.varTypes Tryz.prog) (ds ++ gs)).all (· ≤ reachBytes) = true := hsz0
  have hval : ∀ (j : Nat) t v, Tryz.f3.params[j]? = some t → args[j]? = some v → Value.okWide Tryz.prog W .any base t v := hval0
  have hW' := hW
  obtain ⟨p, q, hA0, hV, rfl, hfz, hnd⟩ := hW
  have hA : DataW.TrodAll enc Tryz.prog W 0 (fun _ => true) true Tryz.f3.params.toList args.toList ds p := hA0
  rw [Tryz.params3] at hA hval hsz
  obtain ⟨v0, vs0, d0, ds0, p0, q0, hargs, rfl, rfl, h0, r0⟩ := trodAll_cons hA
  obtain ⟨v1, vs1, d1, ds1, p1, q1, rfl, rfl, rfl, h1, r1⟩ := trodAll_cons r0
  obtain ⟨v2, vs2, d2, ds2, p2, q2, rfl, rfl, rfl, h2, r2⟩ := trodAll_cons r1
  obtain ⟨v3, vs3, d3, ds3, p3, q3, rfl, rfl, rfl, h3, r3⟩ := trodAll_cons r2
  obtain ⟨rfl, rfl, rfl⟩ := trodAll_nil r3
  obtain rfl : args = #[v0, v1, v2, v3] := by cases args; simp_all
  obtain ⟨rfl, rfl⟩ := trodVars_none hV
  obtain ⟨a0, rfl, rfl, rfl, w0⟩ := open_int Tryz.underlying22 (hval 0 22 v0 rfl rfl) h0
  obtain ⟨a1, len1, cap1, rfl⟩ := okWide_slice Tryz.underlying23 (hval 1 23 v1 rfl rfl)
  have k1 := h1
  have lt1 : ∀ x ∈ p1, x.block < W.heap.size := by obtain ⟨m, hm⟩ := k1; exact DataW.trod_lt m _ _ _ hm
  obtain ⟨l1, b1, y1⟩ := inRow_of (k := .u64) Tryz.underlying23 Tryz.underlying22 (by kernel_rfl) h1
  obtain ⟨a2, rfl, rfl, rfl, w2⟩ := open_int Tryz.underlying3 (hval 2 3 v2 rfl rfl) h2
  obtain ⟨a3, rfl, rfl, rfl, w3⟩ := open_int Tryz.underlying22 (hval 3 22 v3 rfl rfl) h3
  clear hA0 hval0 hsz0 hsz
  refine (law a0 _ l1 b1 a2 a3 (wfU w0) (wfU w3) W y1).mono fun e W' ⟨he, bel⟩ => ?_
  subst he
  exact ⟨_, rfl, _, _, _, [], _, [], hW', trodAll_mk1 (shut_bool Tryz.underlying4 _), (trodAll_cons_mk (shut_int Tryz.underlying22 w0) (trodAll_cons_mk (Below.trod laidOut (by kernel_rfl) (of_decide_eq_true (by kernel_rfl)) k1 bel lt1) (trodAll_cons_mk (shut_int Tryz.underlying3 w2) (trodAll_cons_mk (shut_int Tryz.underlying22 w3) trodAll_mk0)))), rfl, bel.frame _, fun h => by cases h⟩
end Go.Proofs.YtopcljhdejindaaGreatDoor.IvalOrder

