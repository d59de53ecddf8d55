import Derived.Test.YtabdgalicaifhaaGreatDoorYDrop
set_option linter.all false
namespace Go.Sx.T
open Go Go.Sx Go.Proofs
set_option maxRecDepth 100000
def got_dropF (ks vs : List Int) (nw : Int) (any : Bool) (fg : Int) (fgt : Bool) (s : Int) : Option (List Leaf) :=
  chk (nodupB ks) (some [.li (mfK (dropPF s nw) ks), .li (mfV (dropPF s nw) ks vs), .i nw, .b any, .i fg, .b fgt, .i s])
theorem seq_Less_tF (a b : Int) : seq_Less a b = some [.b (decide (diffI a b < 0))] := by
  unfold seq_Less
  simp only [seq_Diff_t, out_of, un_i, un_nil]
theorem got_Forget_1_t (s n : Int) : got_Forget_1 s n = some [.b (fgHold s n)] := by
  unfold got_Forget_1 fgHold
  simp only [seq_Less_tF, out_of, un_b, un_nil]
  cases decide (diffI s n < 0) <;> rfl
def got_Forget_1_SCt : Tld := fun ls k => un_i ls fun s r => un_i r fun n r => un_nil r (k [.b (fgHold s n)])
theorem got_Forget_1_saysT : Says got_Forget_1_SCt got_Forget_1_S := by
  intro β ls k r h
  unfold got_Forget_1_SCt at h
  obtain ⟨s, l1, rfl, h1⟩ := un_i_some.1 h
  obtain ⟨n, l2, rfl, h2⟩ := un_i_some.1 h1
  obtain ⟨rfl, hZ⟩ := un_nil_some.1 h2
  exact ⟨_, got_Forget_1_t s n, hZ⟩
noncomputable def GTF : Env := Env.none.addP 76 2 got_Forget_1_in got_Forget_1_out got_Forget_1_SCt
theorem gTF : EnvOk Go.Proofs.Tryz.prog GTF := EnvOk.addP EnvOk.none got_Forget_1_c got_Forget_1_saysT
noncomputable def dcF : Code := fb Go.Proofs.Tryz.f73
noncomputable def dlF : Code := cIn (cIn (cB dcF))
noncomputable def d4F : Code := cB (cB dlF)
noncomputable def o0F : List Oper := rOps (cA dcF)
noncomputable def o1F : List Oper := rOps (cA dlF)
noncomputable def o2F : List Oper := rOps (cA (cIn d4F))
noncomputable def o3F : List Oper := rOps (cA (cB (cIn d4F)))
noncomputable def o4F : List Oper := rOps (cYes (cB (cB (cIn d4F))))
def drop_inF : Tm := ⟨[.cells 113 [.map 1, .int .u64, .bool, .int .u64, .bool], .map .u64 (.int .i64), .cells 22 [.int .u64]], [(0, .w (.at (.ptr 0 0))), (1, .w (.at (.fn 76 [(2, 0)])))]⟩
def drop_outF : Tm := ⟨[.cells 113 [.map 1, .int .u64, .bool, .int .u64, .bool], .map .u64 (.int .i64), .cells 22 [.int .u64]], [(0, .tup [])]⟩
def drop_SF : List Leaf → Option (List Leaf) := fun ls => un_li ls fun ks r => un_li r fun vs r => un_i r fun nw r => un_b r fun any r => un_i r fun fg r => un_b r fun fgt r => un_i r fun s r => un_nil r (got_dropF ks vs nw any fg fgt s)
def drop_SCF : Tld := fun ls k => un_li ls fun ks r => un_li r fun vs r => un_i r fun nw r => un_b r fun any r => un_i r fun fg r => un_b r fun fgt r => un_i r fun s r => un_nil r (out (got_dropF ks vs nw any fg fgt s) k)
theorem drop_saysF : Says drop_SCF drop_SF := by
  intro β ls k r h
  unfold drop_SCF at h
  obtain ⟨ks, l1, rfl, h1⟩ := un_li_some.1 h
  obtain ⟨vs, l2, rfl, h2⟩ := un_li_some.1 h1
  obtain ⟨nw, l3, rfl, h3⟩ := un_i_some.1 h2
  obtain ⟨any, l4, rfl, h4⟩ := un_b_some.1 h3
  obtain ⟨fg, l5, rfl, h5⟩ := un_i_some.1 h4
  obtain ⟨fgt, l6, rfl, h6⟩ := un_b_some.1 h5
  obtain ⟨s, l7, rfl, h7⟩ := un_i_some.1 h6
  obtain ⟨rfl, hZ⟩ := un_nil_some.1 h7
  exact out_some.1 hZ
def dHF (ks : List Int) (col : Col) (nw fg s : Int) (any fgt : Bool) : Heap := [.cells 113 [.map 1, .raw (.int .u64 nw), .raw (.bool any), .raw (.int .u64 fg), .raw (.bool fgt)], .map .u64 ks col, .cells 22 [.raw (.int .u64 s)]]
def dFrF : Fr := [(0, .at (.ptr 0 0)), (1, .at (.fn 76 [(2, 0)]))]
def frYF (b : Nat) (col : Col) (i : Nat) (n nw s : Int) : Fr := [(24, .at (.raw (.bool (fgHold s n)))), (23, .at (.raw (.bool (fgHold s n)))), (20, .at (.raw (.bool true))), (22, .at (.raw (.int .u64 n))), (20, .at (.raw (.bool true))), (21, .at (.fn 76 [(2, 0)])), (20, .at (.raw (.bool true))), (20, .at (.raw (.bool (n != nw)))), (19, .at (.raw (.bool (n != nw)))), (18, .at (.raw (.int .u64 nw))), (17, .at (.ptr (0) (0 + 1))), (16, .at (.ptr (0) (0))), (15, .at (.ptr (0) (0))), (14, .at (.raw (.int .u64 n))), (4, .at (.raw (.int .u64 n))), (13, .at (.raw (.int .u64 n))), (12, .tup [.at (.raw (.int .u64 n)), .at (col.at i)]), (9, ptrV b)] ++ dFrF
def frNF (b : Nat) (col : Col) (i : Nat) (n nw : Int) : Fr := [(24, .at (.raw (.bool false))), (23, .at (.raw undef)), (20, .at (.raw (.bool false))), (22, .at (.raw undef)), (20, .at (.raw (.bool false))), (21, .at (.raw undef)), (20, .at (.raw (.bool false))), (20, .at (.raw (.bool (n != nw)))), (19, .at (.raw (.bool (n != nw)))), (18, .at (.raw (.int .u64 nw))), (17, .at (.ptr (0) (0 + 1))), (16, .at (.ptr (0) (0))), (15, .at (.ptr (0) (0))), (14, .at (.raw (.int .u64 n))), (4, .at (.raw (.int .u64 n))), (13, .at (.raw (.int .u64 n))), (12, .tup [.at (.raw (.int .u64 n)), .at (col.at i)]), (9, ptrV b)] ++ dFrF
def fr5F (n : Int) (l : Fr) : Fr := (29, .at (.raw (.int .u64 n))) :: (28, .at (.map 1)) :: (27, .at (.ptr 0 0)) :: (26, .at (.ptr 0 0)) :: (25, .at (.ptr 0 0)) :: l
theorem drop_r1F (b : Nat) (ks : List Int) (col : Col) (i : Nat) (n nw fg s : Int) (any fgt : Bool) :
    denOps GTF true tab Go.Proofs.Tryz.f73.ntmps ⟨opN o2F 0 :: o2F.drop 1⟩ (o2F.drop 1) ((12, .tup [.at (.raw (.int .u64 n)), .at (col.at i)]) :: (9, ptrV b) :: dFrF) (dHF ks col nw fg s any fgt) (fun fr3 H3 => denOps GTF true tab Go.Proofs.Tryz.f73.ntmps ⟨o3F⟩ o3F fr3 H3 fun fr4 H4 => (some (fr4, H4) : Option (Fr × Heap))) =
    br (n != nw) (some (frYF b col i n nw s, dHF ks col nw fg s any fgt)) (some (frNF b col i n nw, dHF ks col nw fg s any fgt)) := by kernel_rfl
theorem drop_r2F (b : Nat) (ks : List Int) (col : Col) (i : Nat) (n nw fg s : Int) (any fgt : Bool) :
    denOps GTF true tab Go.Proofs.Tryz.f73.ntmps ⟨o4F.take 5 ++ [opN o4F 5]⟩ (o4F.take 5) (frYF b col i n nw s) (dHF ks col nw fg s any fgt) (fun fr4 H4 => (some (fr4, H4) : Option (Fr × Heap))) = some (fr5F n (frYF b col i n nw s), dHF ks col nw fg s any fgt) := by kernel_rfl
def fr1F : Fr := (8, .at (.map 1)) :: (7, .at (.ptr 0 0)) :: (6, .at (.ptr 0 0)) :: (5, .at (.ptr 0 0)) :: dFrF
theorem drop_r0F (ks : List Int) (col : Col) (nw fg s : Int) (any fgt : Bool) :
    denOps GTF true tab Go.Proofs.Tryz.f73.ntmps ⟨o0F.take 4 ++ [opN o0F 4]⟩ (o0F.take 4) dFrF (dHF ks col nw fg s any fgt) (fun fr4 H4 => (some (fr4, H4) : Option (Fr × Heap))) = some (fr1F, dHF ks col nw fg s any fgt) := by kernel_rfl
theorem drop_rgF : RgOk (opN o1F 0) (opN o1F 1) (opN o2F 0) (opN o4F 5) 9 10 11 12 (.tmp 28) (.tmp 29) 111 22 :=
  ⟨by kernel_rfl, by kernel_rfl, by kernel_rfl, by kernel_rfl, by kernel_rfl, by kernel_rfl, by kernel_rfl, by kernel_rfl, by kernel_rfl, by kernel_rfl, by kernel_rfl, by kernel_rfl⟩
theorem drop_frF {l : Fr} {b : Nat} (h0 : lk l 0 = some (.at (.ptr 0 0))) (h1 : lk l 1 = some (.at (.fn 76 [(2, 0)]))) (h9 : lk l 9 = some (ptrV b)) : ∀ t v, lk ((9, ptrV b) :: dFrF) t = some v → lk l t = some v := by
  intro t v h
  simp only [dFrF, lk_cons] at h
  split at h
  · rename_i e; subst e; cases h; exact h9
  · split at h
    · rename_i e; subst e; cases h; exact h0
    · split at h
      · rename_i e; subst e; cases h; exact h1
      · simp [lk] at h
theorem drop_roundF (ks vs : List Int) (nw fg s : Int) (any fgt : Bool) : Round GTF tab Go.Proofs.Tryz.f73.ntmps (dHF ks (.int .i64 vs) nw fg s any fgt) 1 .u64 ks (dropPF s nw) dFrF 9 12 24 ⟨opN o2F 0 :: o2F.drop 1⟩ (o2F.drop 1) ⟨o3F⟩ ⟨o4F.take 5 ++ [opN o4F 5]⟩ (o4F.take 5) (.tmp 28) (.tmp 29) := by
  intro ks' col' n i b _ _
  have h1 := drop_r1F b ks' col' i n nw fg s any fgt
  cases hb : (n != nw) with
  | true =>
    rw [hb] at h1
    refine ⟨frYF b col' i n nw s, h1, ?_, drop_frF rfl rfl rfl, fun _ => ⟨fr5F n (frYF b col' i n nw s), drop_r2F b ks' col' i n nw fg s any fgt, rfl, rfl, drop_frF rfl rfl rfl⟩⟩
    unfold dropPF
    rw [hb]
    rfl
  | false =>
    rw [hb] at h1
    have hd : dropPF s nw n = false := by unfold dropPF; rw [hb]; rfl
    refine ⟨frNF b col' i n nw, h1, ?_, drop_frF rfl rfl rfl, fun h => by rw [hd] at h; cases h⟩
    rw [hd]
    rfl
theorem got_drop_cF : FnC Go.Proofs.Tryz.prog 73 false 2 3 drop_inF drop_outF drop_SF := by
  refine fn_hand Go.Proofs.Tryz.func73 (by kernel_rfl) (body := dcF) (by kernel_rfl) (by kernel_rfl) (Nat.le_of_ble_eq_true (by kernel_rfl)) ?_
  intro ls r fr H hS hi E w0 w ρ a hst
  unfold drop_SF at hS
  obtain ⟨ks, l1, rfl, h1⟩ := un_li_some.1 hS
  obtain ⟨vs, l2, rfl, h2⟩ := un_li_some.1 h1
  obtain ⟨nw, l3, rfl, h3⟩ := un_i_some.1 h2
  obtain ⟨any, l4, rfl, h4⟩ := un_b_some.1 h3
  obtain ⟨fg, l5, rfl, h5⟩ := un_i_some.1 h4
  obtain ⟨fgt, l6, rfl, h6⟩ := un_b_some.1 h5
  obtain ⟨s, l7, rfl, h7⟩ := un_i_some.1 h6
  obtain ⟨rfl, hZ⟩ := un_nil_some.1 h7
  have hinst : inst drop_inF [.li ks, .li vs, .i nw, .b any, .i fg, .b fgt, .i s] = some (dFrF, dHF ks (.int .i64 vs) nw fg s any fgt) := by kernel_rfl
  rw [hinst] at hi
  cases hi
  unfold got_dropF at hZ
  obtain ⟨hnd, hr⟩ := chk_some.1 hZ
  cases hr
  rw [show dcF = .seq (.region 0 ⟨o0F.take 4 ++ [opN o0F 4]⟩ false) (.block 0 (.loop (rgB 1 2 3 4 0 1 11 24 (opN o1F 0) (opN o1F 1) (opN o2F 0) (opN o4F 5) (o2F.drop 1) ⟨o3F⟩ (o4F.take 5)))) by kernel_rfl]
  refine range_goes (x := .tmp 8) (id := 1) (kt := .u64) (ks := ks) (col := .int .i64 vs) (del := dropPF s nw) tab_ok gTF drop_rgF (by kernel_rfl) (by kernel_rfl) (by kernel_rfl)
    ⟨Nat.le_of_ble_eq_true (by kernel_rfl), Nat.le_of_ble_eq_true (by kernel_rfl), Nat.le_of_ble_eq_true (by kernel_rfl), Nat.le_of_ble_eq_true (by kernel_rfl)⟩ (by decide) hst (drop_r0F ks (.int .i64 vs) nw fg s any fgt) rfl rfl (nodupB_ok hnd) rfl (et := 3) (by kernel_rfl) (by kernel_rfl) ?_ (drop_roundF ks vs nw fg s any fgt) ?_
  · intro t v h
    simp only [dFrF, lk_cons] at h
    split at h
    · rename_i e; subst e; cases h; exact ⟨rfl, by decide, by decide, by decide, by decide⟩
    · split at h
      · rename_i e; subst e; cases h; exact ⟨rfl, by decide, by decide, by decide, by decide⟩
      · simp [lk] at h
  · intro a' w' hst'
    obtain ⟨u, hu1, hu2⟩ := retV_run tab_ok hst'.heap.read (ts := []) (fn := Go.Proofs.Tryz.f73) (v := .tup []) (by kernel_rfl) rfl hst'.frame
    exact Goes.end_ Go.Proofs.Tryz.func73 hst'.frame.defers hu1 ⟨ρ, [(0, .tup [])], _, .tup [], fun _ _ h => h, by kernel_rfl, hst'.heap, rfl, hu2⟩
end Go.Sx.T

