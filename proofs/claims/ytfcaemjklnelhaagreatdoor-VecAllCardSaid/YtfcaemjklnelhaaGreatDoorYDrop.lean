import Derived.Test.YtfcaemjklnelhaaGreatDoorYLowCon
set_option linter.all false
namespace Go.Sx.T
open Go Go.Sx Go.Proofs
set_option maxRecDepth 100000
theorem seq_Of_t (n : Int) : seq_Of n = some [.i (andI .u64 n 281474976710655)] := rfl
theorem seq_Diff_t (a b : Int) : seq_Diff a b = some [.i (diffI a b)] := by
  unfold seq_Diff diffI
  simp only [one_eq, seq_Of_t, out_of, un_i, un_nil]
  cases decide (andI .u64 (subI .u64 a b) 281474976710655 ≥ 140737488355328) <;> rfl
def got_drop (ks vs : List Int) (nw : Int) (any : Bool) (fg : Int) (fgt : Bool) (s : Int) : Option (List Leaf) :=
  chk (nodupB ks) (some [.li (mfK (dropP s nw) ks), .li (mfV (dropP s nw) ks vs), .i nw, .b any, .i fg, .b fgt, .i s])
theorem got_Put_1_t (s n : Int) : got_Put_1 s n = some [.b (putHold s n)] := by
  unfold got_Put_1 putHold
  simp only [seq_Diff_t, out_of, un_i, un_nil]
  cases decide (diffI s n < 0) <;> rfl
def got_Put_1_SCt : Tld := fun ls k => un_i ls fun s r => un_i r fun n r => un_nil r (k [.b (putHold s n)])
theorem got_Put_1_saysT : Says got_Put_1_SCt got_Put_1_S := by
  intro β ls k r h
  unfold got_Put_1_SCt at h
  obtain ⟨s, l1, rfl, h1⟩ := un_i_some.1 h
  obtain ⟨n, l2, rfl, h2⟩ := un_i_some.1 h1
  obtain ⟨rfl, hZ⟩ := un_nil_some.1 h2
  exact ⟨_, got_Put_1_t s n, hZ⟩
noncomputable def GT : Env := Env.none.addP 55 2 got_Put_1_in got_Put_1_out got_Put_1_SCt
theorem gT : EnvOk Go.Proofs.Tryz.prog GT := EnvOk.addP EnvOk.none got_Put_1_c got_Put_1_saysT
noncomputable def dc : Code := fb Go.Proofs.Tryz.f54
noncomputable def dl : Code := cIn (cIn (cB dc))
noncomputable def d4 : Code := cB (cB dl)
noncomputable def o0 : List Oper := rOps (cA dc)
noncomputable def o1 : List Oper := rOps (cA dl)
noncomputable def o2 : List Oper := rOps (cA (cIn d4))
noncomputable def o3 : List Oper := rOps (cA (cB (cIn d4)))
noncomputable def o4 : List Oper := rOps (cYes (cB (cB (cIn d4))))
def drop_in : Tm := ⟨[.cells 84 [.map 1, .int .u64, .bool, .int .u64, .bool], .map .u64 (.int .i64), .cells 55 [.int .u64]], [(0, .w (.at (.ptr 0 0))), (1, .w (.at (.fn 55 [(2, 0)])))]⟩
def drop_out : Tm := ⟨[.cells 84 [.map 1, .int .u64, .bool, .int .u64, .bool], .map .u64 (.int .i64), .cells 55 [.int .u64]], [(0, .tup [])]⟩
def drop_S : List Leaf → Option (List Leaf) := fun ls => un_li ls fun ks r => un_li r fun vs r => un_i r fun nw r => un_b r fun any r => un_i r fun fg r => un_b r fun fgt r => un_i r fun s r => un_nil r (got_drop ks vs nw any fg fgt s)
def drop_SC : Tld := fun ls k => un_li ls fun ks r => un_li r fun vs r => un_i r fun nw r => un_b r fun any r => un_i r fun fg r => un_b r fun fgt r => un_i r fun s r => un_nil r (out (got_drop ks vs nw any fg fgt s) k)
theorem drop_says : Says drop_SC drop_S := by
  intro β ls k r h
  unfold drop_SC at h
  obtain ⟨ks, l1, rfl, h1⟩ := un_li_some.1 h
  obtain ⟨vs, l2, rfl, h2⟩ := un_li_some.1 h1
  obtain ⟨nw, l3, rfl, h3⟩ := un_i_some.1 h2
  obtain ⟨any, l4, rfl, h4⟩ := un_b_some.1 h3
  obtain ⟨fg, l5, rfl, h5⟩ := un_i_some.1 h4
  obtain ⟨fgt, l6, rfl, h6⟩ := un_b_some.1 h5
  obtain ⟨s, l7, rfl, h7⟩ := un_i_some.1 h6
  obtain ⟨rfl, hZ⟩ := un_nil_some.1 h7
  exact out_some.1 hZ
def dH (ks : List Int) (col : Col) (nw fg s : Int) (any fgt : Bool) : Heap := [.cells 84 [.map 1, .raw (.int .u64 nw), .raw (.bool any), .raw (.int .u64 fg), .raw (.bool fgt)], .map .u64 ks col, .cells 55 [.raw (.int .u64 s)]]
def dFr : Fr := [(0, .at (.ptr 0 0)), (1, .at (.fn 55 [(2, 0)]))]
def frY (b : Nat) (col : Col) (i : Nat) (n nw s : Int) : Fr := [(24, .at (.raw (.bool (putHold s n)))), (23, .at (.raw (.bool (putHold s n)))), (20, .at (.raw (.bool true))), (22, .at (.raw (.int .u64 n))), (20, .at (.raw (.bool true))), (21, .at (.fn 55 [(2, 0)])), (20, .at (.raw (.bool true))), (20, .at (.raw (.bool (n != nw)))), (19, .at (.raw (.bool (n != nw)))), (18, .at (.raw (.int .u64 nw))), (17, .at (.ptr (0) (0 + 1))), (16, .at (.ptr (0) (0))), (15, .at (.ptr (0) (0))), (14, .at (.raw (.int .u64 n))), (4, .at (.raw (.int .u64 n))), (13, .at (.raw (.int .u64 n))), (12, .tup [.at (.raw (.int .u64 n)), .at (col.at i)]), (9, ptrV b)] ++ dFr
def frN (b : Nat) (col : Col) (i : Nat) (n nw : Int) : Fr := [(24, .at (.raw (.bool false))), (23, .at (.raw undef)), (20, .at (.raw (.bool false))), (22, .at (.raw undef)), (20, .at (.raw (.bool false))), (21, .at (.raw undef)), (20, .at (.raw (.bool false))), (20, .at (.raw (.bool (n != nw)))), (19, .at (.raw (.bool (n != nw)))), (18, .at (.raw (.int .u64 nw))), (17, .at (.ptr (0) (0 + 1))), (16, .at (.ptr (0) (0))), (15, .at (.ptr (0) (0))), (14, .at (.raw (.int .u64 n))), (4, .at (.raw (.int .u64 n))), (13, .at (.raw (.int .u64 n))), (12, .tup [.at (.raw (.int .u64 n)), .at (col.at i)]), (9, ptrV b)] ++ dFr
def fr5 (n : Int) (l : Fr) : Fr := (29, .at (.raw (.int .u64 n))) :: (28, .at (.map 1)) :: (27, .at (.ptr 0 0)) :: (26, .at (.ptr 0 0)) :: (25, .at (.ptr 0 0)) :: l
theorem drop_r1 (b : Nat) (ks : List Int) (col : Col) (i : Nat) (n nw fg s : Int) (any fgt : Bool) :
    denOps GT true tab Go.Proofs.Tryz.f54.ntmps ⟨opN o2 0 :: o2.drop 1⟩ (o2.drop 1) ((12, .tup [.at (.raw (.int .u64 n)), .at (col.at i)]) :: (9, ptrV b) :: dFr) (dH ks col nw fg s any fgt) (fun fr3 H3 => denOps GT true tab Go.Proofs.Tryz.f54.ntmps ⟨o3⟩ o3 fr3 H3 fun fr4 H4 => (some (fr4, H4) : Option (Fr × Heap))) =
    br (n != nw) (some (frY b col i n nw s, dH ks col nw fg s any fgt)) (some (frN b col i n nw, dH ks col nw fg s any fgt)) := by kernel_rfl
theorem drop_r2 (b : Nat) (ks : List Int) (col : Col) (i : Nat) (n nw fg s : Int) (any fgt : Bool) :
    denOps GT true tab Go.Proofs.Tryz.f54.ntmps ⟨o4.take 5 ++ [opN o4 5]⟩ (o4.take 5) (frY b col i n nw s) (dH ks col nw fg s any fgt) (fun fr4 H4 => (some (fr4, H4) : Option (Fr × Heap))) = some (fr5 n (frY b col i n nw s), dH ks col nw fg s any fgt) := by kernel_rfl
def fr1 : Fr := (8, .at (.map 1)) :: (7, .at (.ptr 0 0)) :: (6, .at (.ptr 0 0)) :: (5, .at (.ptr 0 0)) :: dFr
theorem drop_r0 (ks : List Int) (col : Col) (nw fg s : Int) (any fgt : Bool) :
    denOps GT true tab Go.Proofs.Tryz.f54.ntmps ⟨o0.take 4 ++ [opN o0 4]⟩ (o0.take 4) dFr (dH ks col nw fg s any fgt) (fun fr4 H4 => (some (fr4, H4) : Option (Fr × Heap))) = some (fr1, dH ks col nw fg s any fgt) := by kernel_rfl
theorem drop_rg : RgOk (opN o1 0) (opN o1 1) (opN o2 0) (opN o4 5) 9 10 11 12 (.tmp 28) (.tmp 29) 82 55 :=
  ⟨by kernel_rfl, by kernel_rfl, by kernel_rfl, by kernel_rfl, by kernel_rfl, by kernel_rfl, by kernel_rfl, by kernel_rfl, by kernel_rfl, by kernel_rfl, by kernel_rfl, by kernel_rfl⟩
theorem drop_fr {l : Fr} {b : Nat} (h0 : lk l 0 = some (.at (.ptr 0 0))) (h1 : lk l 1 = some (.at (.fn 55 [(2, 0)]))) (h9 : lk l 9 = some (ptrV b)) : ∀ t v, lk ((9, ptrV b) :: dFr) t = some v → lk l t = some v := by
  intro t v h
  simp only [dFr, lk_cons] at h
  split at h
  · rename_i e; subst e; cases h; exact h9
  · split at h
    · rename_i e; subst e; cases h; exact h0
    · split at h
      · rename_i e; subst e; cases h; exact h1
      · simp [lk] at h
theorem drop_round (ks vs : List Int) (nw fg s : Int) (any fgt : Bool) : Round GT tab Go.Proofs.Tryz.f54.ntmps (dH ks (.int .i64 vs) nw fg s any fgt) 1 .u64 ks (dropP s nw) dFr 9 12 24 ⟨opN o2 0 :: o2.drop 1⟩ (o2.drop 1) ⟨o3⟩ ⟨o4.take 5 ++ [opN o4 5]⟩ (o4.take 5) (.tmp 28) (.tmp 29) := by
  intro ks' col' n i b _ _
  have h1 := drop_r1 b ks' col' i n nw fg s any fgt
  cases hb : (n != nw) with
  | true =>
    rw [hb] at h1
    refine ⟨frY b col' i n nw s, h1, ?_, drop_fr rfl rfl rfl, fun _ => ⟨fr5 n (frY b col' i n nw s), drop_r2 b ks' col' i n nw fg s any fgt, rfl, rfl, drop_fr rfl rfl rfl⟩⟩
    unfold dropP
    rw [hb]
    rfl
  | false =>
    rw [hb] at h1
    have hd : dropP s nw n = false := by unfold dropP; rw [hb]; rfl
    refine ⟨frN b col' i n nw, h1, ?_, drop_fr rfl rfl rfl, fun h => by rw [hd] at h; cases h⟩
    rw [hd]
    rfl
theorem got_drop_c : FnC Go.Proofs.Tryz.prog 54 false 2 3 drop_in drop_out drop_S := by
  refine fn_hand Go.Proofs.Tryz.func54 (by kernel_rfl) (body := dc) (by kernel_rfl) (by kernel_rfl) (Nat.le_of_ble_eq_true (by kernel_rfl)) ?_
  intro ls r fr H hS hi E w0 w ρ a hst
  unfold drop_S at hS
  obtain ⟨ks, l1, rfl, h1⟩ := un_li_some.1 hS
  obtain ⟨vs, l2, rfl, h2⟩ := un_li_some.1 h1
  obtain ⟨nw, l3, rfl, h3⟩ := un_i_some.1 h2
  obtain ⟨any, l4, rfl, h4⟩ := un_b_some.1 h3
  obtain ⟨fg, l5, rfl, h5⟩ := un_i_some.1 h4
  obtain ⟨fgt, l6, rfl, h6⟩ := un_b_some.1 h5
  obtain ⟨s, l7, rfl, h7⟩ := un_i_some.1 h6
  obtain ⟨rfl, hZ⟩ := un_nil_some.1 h7
  have hinst : inst drop_in [.li ks, .li vs, .i nw, .b any, .i fg, .b fgt, .i s] = some (dFr, dH ks (.int .i64 vs) nw fg s any fgt) := by kernel_rfl
  rw [hinst] at hi
  cases hi
  unfold got_drop at hZ
  obtain ⟨hnd, hr⟩ := chk_some.1 hZ
  cases hr
  rw [show dc = .seq (.region 0 ⟨o0.take 4 ++ [opN o0 4]⟩ false) (.block 0 (.loop (rgB 1 2 3 4 0 1 11 24 (opN o1 0) (opN o1 1) (opN o2 0) (opN o4 5) (o2.drop 1) ⟨o3⟩ (o4.take 5)))) by kernel_rfl]
  refine range_goes (x := .tmp 8) (id := 1) (kt := .u64) (ks := ks) (col := .int .i64 vs) (del := dropP s nw) tab_ok gT drop_rg (by kernel_rfl) (by kernel_rfl) (by kernel_rfl)
    ⟨Nat.le_of_ble_eq_true (by kernel_rfl), Nat.le_of_ble_eq_true (by kernel_rfl), Nat.le_of_ble_eq_true (by kernel_rfl), Nat.le_of_ble_eq_true (by kernel_rfl)⟩ (by decide) hst (drop_r0 ks (.int .i64 vs) nw fg s any fgt) rfl rfl (nodupB_ok hnd) rfl (et := 3) (by kernel_rfl) (by kernel_rfl) ?_ (drop_round ks vs nw fg s any fgt) ?_
  · intro t v h
    simp only [dFr, lk_cons] at h
    split at h
    · rename_i e; subst e; cases h; exact ⟨rfl, by decide, by decide, by decide, by decide⟩
    · split at h
      · rename_i e; subst e; cases h; exact ⟨rfl, by decide, by decide, by decide, by decide⟩
      · simp [lk] at h
  · intro a' w' hst'
    obtain ⟨u, hu1, hu2⟩ := retV_run tab_ok hst'.heap.read (ts := []) (fn := Go.Proofs.Tryz.f54) (v := .tup []) (by kernel_rfl) rfl hst'.frame
    exact Goes.end_ Go.Proofs.Tryz.func54 hst'.frame.defers hu1 ⟨ρ, [(0, .tup [])], _, .tup [], fun _ _ h => h, by kernel_rfl, hst'.heap, rfl, hu2⟩
end Go.Sx.T

