import Derived.Test.YtllgbgponmkijaaGreatDoorPlQA
import Derived.Test.YtllgbgponmkijaaGreatDoorYQACon
import Derived.Test.YtllgbgponmkijaaGreatDoorL6
import Derived.Test.YtllgbgponmkijaaGreatDoorPlW
import Derived.Test.YtllgbgponmkijaaGreatDoorRows
import Derived.Test.YtllgbgponmkijaaGreatDoorTie
import Derived.Test.YtllgbgponmkijaaGreatDoorCards
import Derived.WalkKit
import Derived.ProofKit
import Derived.OpenShut
import Derived.ShutString
import Derived.ChangeOld
import Derived.LaidMore
import Derived.Lay
import Derived.SevenTiedAt
import Derived.Stop.Joined
import Derived.SizedLaws
set_option linter.all false
namespace Go.Proofs.YtllgbgponmkijaaGreatDoor.QueueAll
open Go.ChangeShapes Go.WideShapes Go.ChangeAt Go.RowKit Go.Sx Go.Sx.T
open Go.ChangeMaps (open_string shut_string)
theorem laidOut : laidOutB Tryz.prog = true := by kernel_rfl
theorem own : ownKnob Tryz.prog.godebug = none := by kernel_rfl
theorem law (most : Int) (v_ops : Value) (ops0 : List Int) (ops1 : List ByteArray) (p_ops : Pl) (big : Int) (W : World) (hr_ops : InRows W v_ops ops0.length [.int .i64 ops0, .str ops1] p_ops) (hw_ops0 : ∀ x ∈ ops0, (Lit.int .i64 x).wf = true) (hl_ops1 : ops1.length = ops0.length) : Calls Tryz.prog 13 #[.int .i64 most, v_ops, .int .i64 big] W fun e W' => e = .returned (.bool true) ∧ Below W.heap.size W W' :=
  law_of (us := [.int .i64 most, v_ops, .int .i64 big]) (ls := [.li ops0, .ls ops1, .i most, .i big]) (r := [.b true]) (fr := [(0, .at (.raw (.int .i64 most))), (1, .at (.sl 0 2 none ((Col.int .i64 ops0).len : Int))), (2, .at (.raw (.int .i64 big)))]) (H := [.ro 86 2 ((Col.int .i64 ops0).len : Int) [.int .i64 ops0, .str ops1]]) QueueAll_c ((QueueAll_Se ops0 ops1 most big).trans (QueueAll_true ops0 ops1 most big)) (by kernel_rfl) rfl (HRel.ros (ps := [p_ops]) rfl (fun i p o hp ho => by
    match i, hp, ho with
    | 0, hp, ho => cases hp; cases ho; exact ⟨rfl, fun ρ H => hr_ops.obj ρ H 86⟩
    | n + 1, hp, ho => simp at hp)) (fun t v h => by
    simp only [lk_cons] at h
    split at h
    · rename_i e; subst e; cases h; rfl
    · split at h
      · rename_i e; subst e; cases h; exact hr_ops.root rfl
      · split at h
        · rename_i e; subst e; cases h; rfl
        · simp [lk] at h) ⟨[.dead], by kernel_rfl⟩
set_option maxRecDepth 100000 in
theorem lifted (os : Os) (started : os.Started) (H : Type) (enc : TypeId × Value → H) :
    ReturnsInHanded {} Tryz.checked os 13 .any (fun w args => (Rows.queueAllSpec.pre enc Tryz.prog Tryz.f13 Rows.queueAllRow.domain false w args ∧ laidMetH Tryz.prog Rows.queueAllRow.laid w) ∧ sizedMet enc Tryz.prog Tryz.f13 (OpenSpec.ofChange Rows.queueAllSpec) false w args)
      (Rows.queueAllSpec.post enc Tryz.prog Tryz.f13 false true false false) := by
  refine returnsInHanded_of_change_and (C := Tryz.checked) (X := fun w _ => laidMetH Tryz.prog Rows.queueAllRow.laid w) (fun _ _ _ hh h => h.of_heap hh) own started (by kernel_rfl) Tryz.func13
    (ChangeSpec.witness_shaped (enc := enc) (C := Tryz.checked) (os := os) (X := fun w _ => laidMetH Tryz.prog Rows.queueAllRow.laid w) false (World.laidAll Tryz.prog os Rows.queueAllRow.laid) #[.int .i64 0, .slice none 0 0, .int .i64 0] 8 (World.laidAll_os _ _ _)
      (World.shaped_of_ZipB (by kernel_rfl) (by kernel_rfl)) (by kernel_rfl) (by kernel_rfl) (by kernel_rfl)
      (by rw [MakeChecks.laidMetH_plain _ _ _ (by kernel_rfl)]; exact laidMet_laidAll _ (by kernel_rfl) (by kernel_rfl))) ?_
  intro W base args ds gs before hval0 hW hcnd hsz0 hL _
  have hsz : (DataW.weightsEach Tryz.prog (Tryz.f13.params.toList ++ Rows.queueAllSpec.plain.varTypes Tryz.prog) (ds ++ gs)).all (· ≤ reachBytes) = true := hsz0
  have hval : ∀ (j : Nat) t v, Tryz.f13.params[j]? = some t → args[j]? = some v → Value.okWide Tryz.prog W .any base t v := hval0
  have hW' := hW
  obtain ⟨p, q, hA0, hV, rfl, hfz, hnd⟩ := hW
  have hA : DataW.TrodAll enc Tryz.prog W 0 (fun _ => true) true Tryz.f13.params.toList args.toList ds p := hA0
  rw [Tryz.params13] at hA hval hsz
  obtain ⟨v0, vs0, d0, ds0, p0, q0, hargs, rfl, rfl, h0, r0⟩ := trodAll_cons hA
  obtain ⟨v1, vs1, d1, ds1, p1, q1, rfl, rfl, rfl, h1, r1⟩ := trodAll_cons r0
  obtain ⟨v2, vs2, d2, ds2, p2, q2, rfl, rfl, rfl, h2, r2⟩ := trodAll_cons r1
  obtain ⟨rfl, rfl, rfl⟩ := trodAll_nil r2
  obtain rfl : args = #[v0, v1, v2] := by cases args; simp_all
  obtain ⟨rfl, rfl⟩ := trodVars_none hV
  obtain ⟨a0, rfl, rfl, rfl, w0⟩ := open_int Tryz.underlying3 (hval 0 3 v0 rfl rfl) h0
  obtain ⟨a1, len1, cap1, rfl⟩ := okWide_slice Tryz.underlying81 (hval 1 81 v1 rfl rfl)
  have k1 := h1
  have lt1 : ∀ x ∈ p1, x.block < W.heap.size := by obtain ⟨m, hm⟩ := k1; exact DataW.trod_lt m _ _ _ hm
  obtain ⟨C1, N1, b1, y1, z1_0⟩ := inRows_of [.int .i64, .str] Tryz.underlying81 Tryz.underlying86 (by kernel_rfl) (by kernel_rfl) (by decide) h1
  obtain ⟨_, _, rfl, ⟨l1_0, rfl, e1_0, w1_0⟩, z1_1⟩ := z1_0.cons_inv
  obtain ⟨_, _, rfl, ⟨l1_1, rfl, e1_1⟩, z1_2⟩ := z1_1.cons_inv
  obtain rfl := z1_2.nil_inv
  subst e1_0
  obtain ⟨a2, rfl, rfl, rfl, w2⟩ := open_int Tryz.underlying3 (hval 2 3 v2 rfl rfl) h2
  clear hA0 hval0 hsz0 hsz
  refine (law a0 _ l1_0 l1_1 b1 a2 W y1 w1_0 e1_1).mono fun e W' ⟨he, bel⟩ => ?_
  subst he
  exact ⟨_, rfl, _, _, _, [], _, [], hW', trodAll_mk1 (shut_bool Tryz.underlying4 _), (trodAll_cons_mk (shut_int Tryz.underlying3 w0) (trodAll_cons_mk (Below.trod laidOut (by kernel_rfl) (of_decide_eq_true (by kernel_rfl)) k1 bel lt1) (trodAll_cons_mk (shut_int Tryz.underlying3 w2) trodAll_mk0))), rfl, bel.frame _, fun h => by cases h⟩
end Go.Proofs.YtllgbgponmkijaaGreatDoor.QueueAll

