import Derived.Test.YtabdgalicaifhaaGreatDoorPlSU
import Derived.Test.YtabdgalicaifhaaGreatDoorYSUCon
import Derived.Test.YtabdgalicaifhaaGreatDoorL6
import Derived.Test.YtabdgalicaifhaaGreatDoorPlW
import Derived.Test.YtabdgalicaifhaaGreatDoorRows
import Derived.Test.YtabdgalicaifhaaGreatDoorTie
import Derived.Test.YtabdgalicaifhaaGreatDoorCards
import Derived.WalkKit
import Derived.ProofKit
import Derived.OpenShut
import Derived.ShutString
import Derived.ChangeOld
import Derived.LaidMore
import Derived.Lay
import Derived.SevenTiedAt
import Derived.Stop.Joined
import Derived.SizedLaws
set_option linter.all false
namespace Go.Proofs.YtabdgalicaifhaaGreatDoor.SentUnknown
open Go.ChangeShapes Go.WideShapes Go.ChangeAt Go.RowKit Go.Sx Go.Sx.T
open Go.ChangeMaps (open_string shut_string)
theorem laidOut : laidOutB Tryz.prog = true := by kernel_rfl
theorem own : ownKnob Tryz.prog.godebug = none := by kernel_rfl
theorem law (first : Int) (n : Int) (off : Int) (v_cells : Value) (cells0 : List Int) (cells1 : List Int) (p_cells : Pl) (hfirst : U first) (W : World) (hr_cells : InRows W v_cells cells0.length [.int .i64 cells0, .int .i64 cells1] p_cells) (hw_cells0 : ∀ x ∈ cells0, (Lit.int .i64 x).wf = true) (hw_cells1 : ∀ x ∈ cells1, (Lit.int .i64 x).wf = true) (hl_cells1 : cells1.length = cells0.length) : Calls Tryz.prog 6 #[.int .u64 first, .int .i64 n, .int .i64 off, v_cells] W fun e W' => e = .returned (.bool true) ∧ Below W.heap.size W W' :=
  law_of (us := [.int .u64 first, .int .i64 n, .int .i64 off, v_cells]) (ls := [.li cells0, .li cells1, .i first, .i n, .i off]) (r := [.b true]) (fr := [(0, .at (.raw (.int .u64 first))), (1, .at (.raw (.int .i64 n))), (2, .at (.raw (.int .i64 off))), (3, .at (.sl 0 2 none ((Col.int .i64 cells0).len : Int)))]) (H := [.ro 36 2 ((Col.int .i64 cells0).len : Int) [.int .i64 cells0, .int .i64 cells1]]) SentUnknown_c ((SentUnknown_Se cells0 cells1 first n off).trans (SentUnknown_true (fun n hn => wfI (hw_cells0 n hn)) (fun n hn => wfI (hw_cells1 n hn)) hl_cells1 hfirst)) (by kernel_rfl) rfl (HRel.ros (ps := [p_cells]) rfl (fun i p o hp ho => by
    match i, hp, ho with
    | 0, hp, ho => cases hp; cases ho; exact ⟨rfl, fun ρ H => hr_cells.obj ρ H 36⟩
    | n + 1, hp, ho => simp at hp)) (fun t v h => by
    simp only [lk_cons] at h
    split at h
    · rename_i e; subst e; cases h; rfl
    · split at h
      · rename_i e; subst e; cases h; rfl
      · split at h
        · rename_i e; subst e; cases h; rfl
        · split at h
          · rename_i e; subst e; cases h; exact hr_cells.root rfl
          · simp [lk] at h) ⟨[.dead], by kernel_rfl⟩
set_option maxRecDepth 100000 in
theorem lifted (os : Os) (started : os.Started) (H : Type) (enc : TypeId × Value → H) :
    ReturnsInHanded {} Tryz.checked os 6 .any (fun w args => (Rows.sentUnknownSpec.pre enc Tryz.prog Tryz.f6 Rows.sentUnknownRow.domain false w args ∧ laidMetH Tryz.prog Rows.sentUnknownRow.laid w) ∧ sizedMet enc Tryz.prog Tryz.f6 (OpenSpec.ofChange Rows.sentUnknownSpec) false w args)
      (Rows.sentUnknownSpec.post enc Tryz.prog Tryz.f6 false true false false) := by
  refine returnsInHanded_of_change_and (C := Tryz.checked) (X := fun w _ => laidMetH Tryz.prog Rows.sentUnknownRow.laid w) (fun _ _ _ hh h => h.of_heap hh) own started (by kernel_rfl) Tryz.func6
    (ChangeSpec.witness_shaped (enc := enc) (C := Tryz.checked) (os := os) (X := fun w _ => laidMetH Tryz.prog Rows.sentUnknownRow.laid w) false (World.laidAll Tryz.prog os Rows.sentUnknownRow.laid) #[.int .u64 0, .int .i64 0, .int .i64 0, .slice none 0 0] 8 (World.laidAll_os _ _ _)
      (World.shaped_of_ZipB (by kernel_rfl) (by kernel_rfl)) (by kernel_rfl) (by kernel_rfl) (by kernel_rfl)
      (by rw [MakeChecks.laidMetH_plain _ _ _ (by kernel_rfl)]; exact laidMet_laidAll _ (by kernel_rfl) (by kernel_rfl))) ?_
  intro W base args ds gs before hval0 hW hcnd hsz0 hL _
  have hsz : (DataW.weightsEach Tryz.prog (Tryz.f6.params.toList ++ Rows.sentUnknownSpec.plain.varTypes Tryz.prog) (ds ++ gs)).all (· ≤ reachBytes) = true := hsz0
  have hval : ∀ (j : Nat) t v, Tryz.f6.params[j]? = some t → args[j]? = some v → Value.okWide Tryz.prog W .any base t v := hval0
  have hW' := hW
  obtain ⟨p, q, hA0, hV, rfl, hfz, hnd⟩ := hW
  have hA : DataW.TrodAll enc Tryz.prog W 0 (fun _ => true) true Tryz.f6.params.toList args.toList ds p := hA0
  rw [Tryz.params6] at hA hval hsz
  obtain ⟨v0, vs0, d0, ds0, p0, q0, hargs, rfl, rfl, h0, r0⟩ := trodAll_cons hA
  obtain ⟨v1, vs1, d1, ds1, p1, q1, rfl, rfl, rfl, h1, r1⟩ := trodAll_cons r0
  obtain ⟨v2, vs2, d2, ds2, p2, q2, rfl, rfl, rfl, h2, r2⟩ := trodAll_cons r1
  obtain ⟨v3, vs3, d3, ds3, p3, q3, rfl, rfl, rfl, h3, r3⟩ := trodAll_cons r2
  obtain ⟨rfl, rfl, rfl⟩ := trodAll_nil r3
  obtain rfl : args = #[v0, v1, v2, v3] := by cases args; simp_all
  obtain ⟨rfl, rfl⟩ := trodVars_none hV
  obtain ⟨a0, rfl, rfl, rfl, w0⟩ := open_int Tryz.underlying22 (hval 0 22 v0 rfl rfl) h0
  obtain ⟨a1, rfl, rfl, rfl, w1⟩ := open_int Tryz.underlying3 (hval 1 3 v1 rfl rfl) h1
  obtain ⟨a2, rfl, rfl, rfl, w2⟩ := open_int Tryz.underlying2 (hval 2 2 v2 rfl rfl) h2
  obtain ⟨a3, len3, cap3, rfl⟩ := okWide_slice Tryz.underlying37 (hval 3 37 v3 rfl rfl)
  have k3 := h3
  have lt3 : ∀ x ∈ p3, x.block < W.heap.size := by obtain ⟨m, hm⟩ := k3; exact DataW.trod_lt m _ _ _ hm
  obtain ⟨C3, N3, b3, y3, z3_0⟩ := inRows_of [.int .i64, .int .i64] Tryz.underlying37 Tryz.underlying36 (by kernel_rfl) (by kernel_rfl) (by decide) h3
  obtain ⟨_, _, rfl, ⟨l3_0, rfl, e3_0, w3_0⟩, z3_1⟩ := z3_0.cons_inv
  obtain ⟨_, _, rfl, ⟨l3_1, rfl, e3_1, w3_1⟩, z3_2⟩ := z3_1.cons_inv
  obtain rfl := z3_2.nil_inv
  subst e3_0
  clear hA0 hval0 hsz0 hsz
  refine (law a0 a1 a2 _ l3_0 l3_1 b3 (wfU w0) W y3 w3_0 w3_1 e3_1).mono fun e W' ⟨he, bel⟩ => ?_
  subst he
  exact ⟨_, rfl, _, _, _, [], _, [], hW', trodAll_mk1 (shut_bool Tryz.underlying4 _), (trodAll_cons_mk (shut_int Tryz.underlying22 w0) (trodAll_cons_mk (shut_int Tryz.underlying3 w1) (trodAll_cons_mk (shut_int Tryz.underlying2 w2) (trodAll_cons_mk (Below.trod laidOut (by kernel_rfl) (of_decide_eq_true (by kernel_rfl)) k3 bel lt3) trodAll_mk0)))), rfl, bel.frame _, fun h => by cases h⟩
end Go.Proofs.YtabdgalicaifhaaGreatDoor.SentUnknown

