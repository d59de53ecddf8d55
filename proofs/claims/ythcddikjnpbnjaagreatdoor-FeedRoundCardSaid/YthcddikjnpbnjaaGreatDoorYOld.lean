import Derived.Test.YthcddikjnpbnjaaGreatDoorYDrop
set_option linter.all false
namespace Go.Sx.T
open Go Go.Sx Go.Proofs
set_option maxRecDepth 100000
def feed_old (f_got_k : List Int) (f_got_v : List Int) (f_lost_k : List Int) (f_lost_v : List Bool) (f_closed : List Int) (f_r : Int) (f_any : Bool) (f_now : Int) (f_first : Int) (f_newest : Int) (f_count : Int) (f_event : Bool) (f_eventAt : Int) (f_eventN : Int) (f_bytes : Int) (f_since : Int) : Option (List Leaf) :=
  chk (nodupB f_got_k) (chk (nodupB f_lost_k) (some [.li (mfK (oldP f_newest) f_got_k), .li (mfV (oldP f_newest) f_got_k f_got_v), .li (mfK (oldP f_newest) f_lost_k), .lb (mfV (oldP f_newest) f_lost_k f_lost_v), .li f_closed, .i f_r, .b f_any, .i f_now, .i f_first, .i f_newest, .i f_count, .b f_event, .i f_eventAt, .i f_eventN, .i f_bytes, .i f_since]))
def old_in : Tm := ⟨[.cells 100 [.int .i64, .bool, .int .i64, .int .u64, .int .u64, .map 1, .map 2, .int .i64, .bool, .int .i64, .int .u64, .all 3 1, .int .u64, .int .i64], .map .u64 (.int .i64), .map .u64 (.bool), .row 22 1 [.int .u64]], [(0, .w (.at (.ptr 0 0)))]⟩
def old_out : Tm := ⟨[.cells 100 [.int .i64, .bool, .int .i64, .int .u64, .int .u64, .map 1, .map 2, .int .i64, .bool, .int .i64, .int .u64, .all 3 1, .int .u64, .int .i64], .map .u64 (.int .i64), .map .u64 (.bool), .row 22 1 [.int .u64]], [(0, .tup [])]⟩
def old_S : List Leaf → Option (List Leaf) := fun ls => un_li ls fun f_got_k r => un_li r fun f_got_v r => un_li r fun f_lost_k r => un_lb r fun f_lost_v r => un_li r fun f_closed r => un_i r fun f_r r => un_b r fun f_any r => un_i r fun f_now r => un_i r fun f_first r => un_i r fun f_newest r => un_i r fun f_count r => un_b r fun f_event r => un_i r fun f_eventAt r => un_i r fun f_eventN r => un_i r fun f_bytes r => un_i r fun f_since r => un_nil r (feed_old f_got_k f_got_v f_lost_k f_lost_v f_closed f_r f_any f_now f_first f_newest f_count f_event f_eventAt f_eventN f_bytes f_since)
def old_SC : Tld := fun ls k => un_li ls fun f_got_k r => un_li r fun f_got_v r => un_li r fun f_lost_k r => un_lb r fun f_lost_v r => un_li r fun f_closed r => un_i r fun f_r r => un_b r fun f_any r => un_i r fun f_now r => un_i r fun f_first r => un_i r fun f_newest r => un_i r fun f_count r => un_b r fun f_event r => un_i r fun f_eventAt r => un_i r fun f_eventN r => un_i r fun f_bytes r => un_i r fun f_since r => un_nil r (out (feed_old f_got_k f_got_v f_lost_k f_lost_v f_closed f_r f_any f_now f_first f_newest f_count f_event f_eventAt f_eventN f_bytes f_since) k)
theorem old_says : Says old_SC old_S := by
  intro β ls k r h
  unfold old_SC at h
  obtain ⟨f_got_k, l1, rfl, h1⟩ := un_li_some.1 h
  obtain ⟨f_got_v, l2, rfl, h2⟩ := un_li_some.1 h1
  obtain ⟨f_lost_k, l3, rfl, h3⟩ := un_li_some.1 h2
  obtain ⟨f_lost_v, l4, rfl, h4⟩ := un_lb_some.1 h3
  obtain ⟨f_closed, l5, rfl, h5⟩ := un_li_some.1 h4
  obtain ⟨f_r, l6, rfl, h6⟩ := un_i_some.1 h5
  obtain ⟨f_any, l7, rfl, h7⟩ := un_b_some.1 h6
  obtain ⟨f_now, l8, rfl, h8⟩ := un_i_some.1 h7
  obtain ⟨f_first, l9, rfl, h9⟩ := un_i_some.1 h8
  obtain ⟨f_newest, l10, rfl, h10⟩ := un_i_some.1 h9
  obtain ⟨f_count, l11, rfl, h11⟩ := un_i_some.1 h10
  obtain ⟨f_event, l12, rfl, h12⟩ := un_b_some.1 h11
  obtain ⟨f_eventAt, l13, rfl, h13⟩ := un_i_some.1 h12
  obtain ⟨f_eventN, l14, rfl, h14⟩ := un_i_some.1 h13
  obtain ⟨f_bytes, l15, rfl, h15⟩ := un_i_some.1 h14
  obtain ⟨f_since, l16, rfl, h16⟩ := un_i_some.1 h15
  obtain ⟨rfl, hZ⟩ := un_nil_some.1 h16
  exact out_some.1 hZ
def old_diffSC : Tld := fun ls k => un_i ls fun a r => un_i r fun b r => un_nil r (k [.i (diffI a b)])
theorem old_diffsays : Says old_diffSC seq_Diff_S := by
  intro β ls k r h
  unfold old_diffSC at h
  obtain ⟨s, l1, rfl, h1⟩ := un_i_some.1 h
  obtain ⟨n, l2, rfl, h2⟩ := un_i_some.1 h1
  obtain ⟨rfl, hZ⟩ := un_nil_some.1 h2
  exact ⟨_, seq_Diff_t s n, hZ⟩
noncomputable def oG : Env := Env.none.addP 65 2 seq_Diff_in seq_Diff_out old_diffSC
theorem oG_ok : EnvOk Go.Proofs.Tryz.prog oG := EnvOk.addP EnvOk.none seq_Diff_c old_diffsays
noncomputable def ocode : Code := fb Go.Proofs.Tryz.f67
def oFr : Fr := [(0, .at (.ptr 0 0))]
def oH (ks : List Int) (col : Col) (kl : List Int) (cl : Col) (cs : List Int) (r_ now_ fst_ nw cnt evt evn byt snc : Int) (any_ ev_ : Bool) : Heap := [.cells 100 [.raw (.int .i64 r_), .raw (.bool any_), .raw (.int .i64 now_), .raw (.int .u64 fst_), .raw (.int .u64 nw), .map 1, .map 2, .raw (.int .i64 cnt), .raw (.bool ev_), .raw (.int .i64 evt), .raw (.int .u64 evn), .sl 3 1 none ((Col.len (.int .u64 cs) : Nat) : Int), .raw (.int .u64 byt), .raw (.int .i64 snc)], .map .u64 ks col, .map .u64 kl cl, .row 22 1 ((Col.len (.int .u64 cs) : Nat) : Int) [.int .u64 cs]]
noncomputable def ol1 : Code := cIn (cIn (cB (cA ocode)))
noncomputable def od1 : Code := cB (cB ol1)
noncomputable def oa1 : List Oper := rOps (cA (cA ocode))
noncomputable def ob1 : List Oper := rOps (cA ol1)
noncomputable def oc1 : List Oper := rOps (cA (cIn od1))
noncomputable def oe1 : List Oper := rOps (cA (cB (cIn od1)))
noncomputable def of1 : List Oper := rOps (cYes (cB (cB (cIn od1))))
def oY1 (b : Nat) (col : Col) (i : Nat) (n nw : Int) : Fr := [(28, .at (.raw (.bool true))), (27, .at (.raw undef)), (20, .at (.raw (.bool true))), (26, .at (.raw undef)), (20, .at (.raw (.bool true))), (25, .at (.raw undef)), (20, .at (.raw (.bool true))), (24, .at (.raw undef)), (20, .at (.raw (.bool true))), (23, .at (.raw undef)), (20, .at (.raw (.bool true))), (22, .at (.raw undef)), (20, .at (.raw (.bool true))), (21, .at (.raw undef)), (20, .at (.raw (.bool true))), (20, .at (.raw (.bool (decide (diffI nw n ≥ 250))))), (19, .at (.raw (.bool (decide (diffI nw n ≥ 250))))), (18, .at (.raw (.int .i64 (diffI nw n)))), (17, .at (.raw (.int .u64 n))), (16, .at (.raw (.int .u64 nw))), (15, .at (.ptr 0 4)), (14, .at (.ptr 0 0)), (13, .at (.ptr 0 0)), (2, .at (.raw (.int .u64 n))), (12, .at (.raw (.int .u64 n))), (11, .tup [.at (.raw (.int .u64 n)), .at (col.at i)]), (8, ptrV b)] ++ oFr
def oN1 (b : Nat) (col : Col) (i : Nat) (n nw : Int) : Fr := [(28, .at (.raw (.bool (decide (diffI nw n < 0))))), (27, .at (.raw (.bool (decide (diffI nw n < 0))))), (20, .at (.raw (.bool false))), (26, .at (.raw (.int .i64 (diffI nw n)))), (20, .at (.raw (.bool false))), (25, .at (.raw (.int .u64 n))), (20, .at (.raw (.bool false))), (24, .at (.raw (.int .u64 nw))), (20, .at (.raw (.bool false))), (23, .at (.ptr 0 4)), (20, .at (.raw (.bool false))), (22, .at (.ptr 0 0)), (20, .at (.raw (.bool false))), (21, .at (.ptr 0 0)), (20, .at (.raw (.bool false))), (20, .at (.raw (.bool (decide (diffI nw n ≥ 250))))), (19, .at (.raw (.bool (decide (diffI nw n ≥ 250))))), (18, .at (.raw (.int .i64 (diffI nw n)))), (17, .at (.raw (.int .u64 n))), (16, .at (.raw (.int .u64 nw))), (15, .at (.ptr 0 4)), (14, .at (.ptr 0 0)), (13, .at (.ptr 0 0)), (2, .at (.raw (.int .u64 n))), (12, .at (.raw (.int .u64 n))), (11, .tup [.at (.raw (.int .u64 n)), .at (col.at i)]), (8, ptrV b)] ++ oFr
def oD1 (n : Int) (l : Fr) : Fr := (33, .at (.raw (.int .u64 n))) :: (32, .at (.map 1)) :: (31, .at (.ptr 0 5)) :: (30, .at (.ptr 0 0)) :: (29, .at (.ptr 0 0)) :: l
def oP1 : Fr := (7, .at (.map 1)) :: (6, .at (.ptr 0 5)) :: (5, .at (.ptr 0 0)) :: (4, .at (.ptr 0 0)) :: oFr
theorem or1_1 (b : Nat) (ks : List Int) (col : Col) (kl : List Int) (cl : Col) (cs : List Int) (r_ now_ fst_ nw cnt evt evn byt snc : Int) (any_ ev_ : Bool) (co : Col) (i : Nat) (n : Int) :
    denOps oG true tab Go.Proofs.Tryz.f67.ntmps ⟨opN oc1 0 :: oc1.drop 1⟩ (oc1.drop 1) ((11, .tup [.at (.raw (.int .u64 n)), .at (co.at i)]) :: (8, ptrV b) :: oFr) (oH ks col kl cl cs r_ now_ fst_ nw cnt evt evn byt snc any_ ev_) (fun fr3 H3 => denOps oG true tab Go.Proofs.Tryz.f67.ntmps ⟨oe1⟩ oe1 fr3 H3 fun fr4 H4 => (some (fr4, H4) : Option (Fr × Heap))) =
    br (decide (diffI nw n ≥ 250)) (some (oY1 b co i n nw, oH ks col kl cl cs r_ now_ fst_ nw cnt evt evn byt snc any_ ev_)) (some (oN1 b co i n nw, oH ks col kl cl cs r_ now_ fst_ nw cnt evt evn byt snc any_ ev_)) := by kernel_rfl
theorem or2Y_1 (b : Nat) (ks : List Int) (col : Col) (kl : List Int) (cl : Col) (cs : List Int) (r_ now_ fst_ nw cnt evt evn byt snc : Int) (any_ ev_ : Bool) (co : Col) (i : Nat) (n : Int) :
    denOps oG true tab Go.Proofs.Tryz.f67.ntmps ⟨of1.take 5 ++ [opN of1 5]⟩ (of1.take 5) (oY1 b co i n nw) (oH ks col kl cl cs r_ now_ fst_ nw cnt evt evn byt snc any_ ev_) (fun fr4 H4 => (some (fr4, H4) : Option (Fr × Heap))) = some (oD1 n (oY1 b co i n nw), oH ks col kl cl cs r_ now_ fst_ nw cnt evt evn byt snc any_ ev_) := by kernel_rfl
theorem or2N_1 (b : Nat) (ks : List Int) (col : Col) (kl : List Int) (cl : Col) (cs : List Int) (r_ now_ fst_ nw cnt evt evn byt snc : Int) (any_ ev_ : Bool) (co : Col) (i : Nat) (n : Int) :
    denOps oG true tab Go.Proofs.Tryz.f67.ntmps ⟨of1.take 5 ++ [opN of1 5]⟩ (of1.take 5) (oN1 b co i n nw) (oH ks col kl cl cs r_ now_ fst_ nw cnt evt evn byt snc any_ ev_) (fun fr4 H4 => (some (fr4, H4) : Option (Fr × Heap))) = some (oD1 n (oN1 b co i n nw), oH ks col kl cl cs r_ now_ fst_ nw cnt evt evn byt snc any_ ev_) := by kernel_rfl
theorem or0_1 (ks : List Int) (col : Col) (kl : List Int) (cl : Col) (cs : List Int) (r_ now_ fst_ nw cnt evt evn byt snc : Int) (any_ ev_ : Bool) :
    denOps oG true tab Go.Proofs.Tryz.f67.ntmps ⟨oa1.take 4 ++ [opN oa1 4]⟩ (oa1.take 4) oFr (oH ks col kl cl cs r_ now_ fst_ nw cnt evt evn byt snc any_ ev_) (fun fr4 H4 => (some (fr4, H4) : Option (Fr × Heap))) = some (oP1, oH ks col kl cl cs r_ now_ fst_ nw cnt evt evn byt snc any_ ev_) := by kernel_rfl
theorem org_1 : RgOk (opN ob1 0) (opN ob1 1) (opN oc1 0) (opN of1 5) 8 9 10 11 (.tmp 32) (.tmp 33) 97 22 :=
  ⟨by kernel_rfl, by kernel_rfl, by kernel_rfl, by kernel_rfl, by kernel_rfl, by kernel_rfl, by kernel_rfl, by kernel_rfl, by kernel_rfl, by kernel_rfl, by kernel_rfl, by kernel_rfl⟩
theorem ofr_1 {l : Fr} {b : Nat} (h0 : lk l 0 = some (.at (.ptr 0 0))) (h9 : lk l 8 = some (ptrV b)) : ∀ t v, lk ((8, ptrV b) :: oFr) t = some v → lk l t = some v := by
  intro t v h
  simp only [oFr, lk_cons] at h
  split at h
  · rename_i e; subst e; cases h; exact h9
  · split at h
    · rename_i e; subst e; cases h; exact h0
    · simp [lk] at h
theorem ord_1 (ks : List Int) (col : Col) (kl : List Int) (cl : Col) (cs : List Int) (r_ now_ fst_ nw cnt evt evn byt snc : Int) (any_ ev_ : Bool) : Round oG tab Go.Proofs.Tryz.f67.ntmps (oH ks col kl cl cs r_ now_ fst_ nw cnt evt evn byt snc any_ ev_) 1 .u64 ks (oldP nw) oFr 8 11 28 ⟨opN oc1 0 :: oc1.drop 1⟩ (oc1.drop 1) ⟨oe1⟩ ⟨of1.take 5 ++ [opN of1 5]⟩ (of1.take 5) (.tmp 32) (.tmp 33) := by
  intro ks' col' n i b _ _
  have h1 := or1_1 b ks' col' kl cl cs r_ now_ fst_ nw cnt evt evn byt snc any_ ev_ col' i n
  cases hb : decide (diffI nw n ≥ 250) with
  | true =>
    rw [hb] at h1
    refine ⟨oY1 b col' i n nw, h1, ?_, ofr_1 rfl rfl, fun _ => ⟨oD1 n (oY1 b col' i n nw), or2Y_1 b ks' col' kl cl cs r_ now_ fst_ nw cnt evt evn byt snc any_ ev_ col' i n, rfl, rfl, ofr_1 rfl rfl⟩⟩
    unfold oldP
    rw [hb]
    rfl
  | false =>
    rw [hb] at h1
    refine ⟨oN1 b col' i n nw, h1, ?_, ofr_1 rfl rfl, fun _ => ⟨oD1 n (oN1 b col' i n nw), or2N_1 b ks' col' kl cl cs r_ now_ fst_ nw cnt evt evn byt snc any_ ev_ col' i n, rfl, rfl, ofr_1 rfl rfl⟩⟩
    unfold oldP
    rw [hb]
    rfl
noncomputable def ol2 : Code := cIn (cIn (cB (cB ocode)))
noncomputable def od2 : Code := cB (cB ol2)
noncomputable def oa2 : List Oper := rOps (cA (cB ocode))
noncomputable def ob2 : List Oper := rOps (cA ol2)
noncomputable def oc2 : List Oper := rOps (cA (cIn od2))
noncomputable def oe2 : List Oper := rOps (cA (cB (cIn od2)))
noncomputable def of2 : List Oper := rOps (cYes (cB (cB (cIn od2))))
def oY2 (b : Nat) (col : Col) (i : Nat) (n nw : Int) : Fr := [(58, .at (.raw (.bool true))), (57, .at (.raw undef)), (50, .at (.raw (.bool true))), (56, .at (.raw undef)), (50, .at (.raw (.bool true))), (55, .at (.raw undef)), (50, .at (.raw (.bool true))), (54, .at (.raw undef)), (50, .at (.raw (.bool true))), (53, .at (.raw undef)), (50, .at (.raw (.bool true))), (52, .at (.raw undef)), (50, .at (.raw (.bool true))), (51, .at (.raw undef)), (50, .at (.raw (.bool true))), (50, .at (.raw (.bool (decide (diffI nw n ≥ 250))))), (49, .at (.raw (.bool (decide (diffI nw n ≥ 250))))), (48, .at (.raw (.int .i64 (diffI nw n)))), (47, .at (.raw (.int .u64 n))), (46, .at (.raw (.int .u64 nw))), (45, .at (.ptr 0 4)), (44, .at (.ptr 0 0)), (43, .at (.ptr 0 0)), (3, .at (.raw (.int .u64 n))), (42, .at (.raw (.int .u64 n))), (41, .tup [.at (.raw (.int .u64 n)), .at (col.at i)]), (38, ptrV b)] ++ oFr
def oN2 (b : Nat) (col : Col) (i : Nat) (n nw : Int) : Fr := [(58, .at (.raw (.bool (decide (diffI nw n < 0))))), (57, .at (.raw (.bool (decide (diffI nw n < 0))))), (50, .at (.raw (.bool false))), (56, .at (.raw (.int .i64 (diffI nw n)))), (50, .at (.raw (.bool false))), (55, .at (.raw (.int .u64 n))), (50, .at (.raw (.bool false))), (54, .at (.raw (.int .u64 nw))), (50, .at (.raw (.bool false))), (53, .at (.ptr 0 4)), (50, .at (.raw (.bool false))), (52, .at (.ptr 0 0)), (50, .at (.raw (.bool false))), (51, .at (.ptr 0 0)), (50, .at (.raw (.bool false))), (50, .at (.raw (.bool (decide (diffI nw n ≥ 250))))), (49, .at (.raw (.bool (decide (diffI nw n ≥ 250))))), (48, .at (.raw (.int .i64 (diffI nw n)))), (47, .at (.raw (.int .u64 n))), (46, .at (.raw (.int .u64 nw))), (45, .at (.ptr 0 4)), (44, .at (.ptr 0 0)), (43, .at (.ptr 0 0)), (3, .at (.raw (.int .u64 n))), (42, .at (.raw (.int .u64 n))), (41, .tup [.at (.raw (.int .u64 n)), .at (col.at i)]), (38, ptrV b)] ++ oFr
def oD2 (n : Int) (l : Fr) : Fr := (63, .at (.raw (.int .u64 n))) :: (62, .at (.map 2)) :: (61, .at (.ptr 0 6)) :: (60, .at (.ptr 0 0)) :: (59, .at (.ptr 0 0)) :: l
def oP2 : Fr := (37, .at (.map 2)) :: (36, .at (.ptr 0 6)) :: (35, .at (.ptr 0 0)) :: (34, .at (.ptr 0 0)) :: oFr
theorem or1_2 (b : Nat) (ks : List Int) (col : Col) (kl : List Int) (cl : Col) (cs : List Int) (r_ now_ fst_ nw cnt evt evn byt snc : Int) (any_ ev_ : Bool) (co : Col) (i : Nat) (n : Int) :
    denOps oG true tab Go.Proofs.Tryz.f67.ntmps ⟨opN oc2 0 :: oc2.drop 1⟩ (oc2.drop 1) ((41, .tup [.at (.raw (.int .u64 n)), .at (co.at i)]) :: (38, ptrV b) :: oFr) (oH ks col kl cl cs r_ now_ fst_ nw cnt evt evn byt snc any_ ev_) (fun fr3 H3 => denOps oG true tab Go.Proofs.Tryz.f67.ntmps ⟨oe2⟩ oe2 fr3 H3 fun fr4 H4 => (some (fr4, H4) : Option (Fr × Heap))) =
    br (decide (diffI nw n ≥ 250)) (some (oY2 b co i n nw, oH ks col kl cl cs r_ now_ fst_ nw cnt evt evn byt snc any_ ev_)) (some (oN2 b co i n nw, oH ks col kl cl cs r_ now_ fst_ nw cnt evt evn byt snc any_ ev_)) := by kernel_rfl
theorem or2Y_2 (b : Nat) (ks : List Int) (col : Col) (kl : List Int) (cl : Col) (cs : List Int) (r_ now_ fst_ nw cnt evt evn byt snc : Int) (any_ ev_ : Bool) (co : Col) (i : Nat) (n : Int) :
    denOps oG true tab Go.Proofs.Tryz.f67.ntmps ⟨of2.take 5 ++ [opN of2 5]⟩ (of2.take 5) (oY2 b co i n nw) (oH ks col kl cl cs r_ now_ fst_ nw cnt evt evn byt snc any_ ev_) (fun fr4 H4 => (some (fr4, H4) : Option (Fr × Heap))) = some (oD2 n (oY2 b co i n nw), oH ks col kl cl cs r_ now_ fst_ nw cnt evt evn byt snc any_ ev_) := by kernel_rfl
theorem or2N_2 (b : Nat) (ks : List Int) (col : Col) (kl : List Int) (cl : Col) (cs : List Int) (r_ now_ fst_ nw cnt evt evn byt snc : Int) (any_ ev_ : Bool) (co : Col) (i : Nat) (n : Int) :
    denOps oG true tab Go.Proofs.Tryz.f67.ntmps ⟨of2.take 5 ++ [opN of2 5]⟩ (of2.take 5) (oN2 b co i n nw) (oH ks col kl cl cs r_ now_ fst_ nw cnt evt evn byt snc any_ ev_) (fun fr4 H4 => (some (fr4, H4) : Option (Fr × Heap))) = some (oD2 n (oN2 b co i n nw), oH ks col kl cl cs r_ now_ fst_ nw cnt evt evn byt snc any_ ev_) := by kernel_rfl
theorem or0_2 (ks : List Int) (col : Col) (kl : List Int) (cl : Col) (cs : List Int) (r_ now_ fst_ nw cnt evt evn byt snc : Int) (any_ ev_ : Bool) :
    denOps oG true tab Go.Proofs.Tryz.f67.ntmps ⟨oa2.take 4 ++ [opN oa2 4]⟩ (oa2.take 4) oFr (oH ks col kl cl cs r_ now_ fst_ nw cnt evt evn byt snc any_ ev_) (fun fr4 H4 => (some (fr4, H4) : Option (Fr × Heap))) = some (oP2, oH ks col kl cl cs r_ now_ fst_ nw cnt evt evn byt snc any_ ev_) := by kernel_rfl
theorem org_2 : RgOk (opN ob2 0) (opN ob2 1) (opN oc2 0) (opN of2 5) 38 39 40 41 (.tmp 62) (.tmp 63) 98 22 :=
  ⟨by kernel_rfl, by kernel_rfl, by kernel_rfl, by kernel_rfl, by kernel_rfl, by kernel_rfl, by kernel_rfl, by kernel_rfl, by kernel_rfl, by kernel_rfl, by kernel_rfl, by kernel_rfl⟩
theorem ofr_2 {l : Fr} {b : Nat} (h0 : lk l 0 = some (.at (.ptr 0 0))) (h9 : lk l 38 = some (ptrV b)) : ∀ t v, lk ((38, ptrV b) :: oFr) t = some v → lk l t = some v := by
  intro t v h
  simp only [oFr, lk_cons] at h
  split at h
  · rename_i e; subst e; cases h; exact h9
  · split at h
    · rename_i e; subst e; cases h; exact h0
    · simp [lk] at h
theorem ord_2 (ks : List Int) (col : Col) (kl : List Int) (cl : Col) (cs : List Int) (r_ now_ fst_ nw cnt evt evn byt snc : Int) (any_ ev_ : Bool) : Round oG tab Go.Proofs.Tryz.f67.ntmps (oH ks col kl cl cs r_ now_ fst_ nw cnt evt evn byt snc any_ ev_) 2 .u64 kl (oldP nw) oFr 38 41 58 ⟨opN oc2 0 :: oc2.drop 1⟩ (oc2.drop 1) ⟨oe2⟩ ⟨of2.take 5 ++ [opN of2 5]⟩ (of2.take 5) (.tmp 62) (.tmp 63) := by
  intro ks' col' n i b _ _
  have h1 := or1_2 b ks col ks' col' cs r_ now_ fst_ nw cnt evt evn byt snc any_ ev_ col' i n
  cases hb : decide (diffI nw n ≥ 250) with
  | true =>
    rw [hb] at h1
    refine ⟨oY2 b col' i n nw, h1, ?_, ofr_2 rfl rfl, fun _ => ⟨oD2 n (oY2 b col' i n nw), or2Y_2 b ks col ks' col' cs r_ now_ fst_ nw cnt evt evn byt snc any_ ev_ col' i n, rfl, rfl, ofr_2 rfl rfl⟩⟩
    unfold oldP
    rw [hb]
    rfl
  | false =>
    rw [hb] at h1
    refine ⟨oN2 b col' i n nw, h1, ?_, ofr_2 rfl rfl, fun _ => ⟨oD2 n (oN2 b col' i n nw), or2N_2 b ks col ks' col' cs r_ now_ fst_ nw cnt evt evn byt snc any_ ev_ col' i n, rfl, rfl, ofr_2 rfl rfl⟩⟩
    unfold oldP
    rw [hb]
    rfl
theorem feed_old_c : FnC Go.Proofs.Tryz.prog 67 false 1 4 old_in old_out old_S := by
  refine fn_hand Go.Proofs.Tryz.func67 (by kernel_rfl) (body := ocode) (by kernel_rfl) (by kernel_rfl) (Nat.le_of_ble_eq_true (by kernel_rfl)) ?_
  intro ls r fr H hS hi E w0 w ρ a hst
  unfold old_S at hS
  obtain ⟨f_got_k, l1, rfl, h1⟩ := un_li_some.1 hS
  obtain ⟨f_got_v, l2, rfl, h2⟩ := un_li_some.1 h1
  obtain ⟨f_lost_k, l3, rfl, h3⟩ := un_li_some.1 h2
  obtain ⟨f_lost_v, l4, rfl, h4⟩ := un_lb_some.1 h3
  obtain ⟨f_closed, l5, rfl, h5⟩ := un_li_some.1 h4
  obtain ⟨f_r, l6, rfl, h6⟩ := un_i_some.1 h5
  obtain ⟨f_any, l7, rfl, h7⟩ := un_b_some.1 h6
  obtain ⟨f_now, l8, rfl, h8⟩ := un_i_some.1 h7
  obtain ⟨f_first, l9, rfl, h9⟩ := un_i_some.1 h8
  obtain ⟨f_newest, l10, rfl, h10⟩ := un_i_some.1 h9
  obtain ⟨f_count, l11, rfl, h11⟩ := un_i_some.1 h10
  obtain ⟨f_event, l12, rfl, h12⟩ := un_b_some.1 h11
  obtain ⟨f_eventAt, l13, rfl, h13⟩ := un_i_some.1 h12
  obtain ⟨f_eventN, l14, rfl, h14⟩ := un_i_some.1 h13
  obtain ⟨f_bytes, l15, rfl, h15⟩ := un_i_some.1 h14
  obtain ⟨f_since, l16, rfl, h16⟩ := un_i_some.1 h15
  obtain ⟨rfl, hZ⟩ := un_nil_some.1 h16
  have hinst : inst old_in [.li f_got_k, .li f_got_v, .li f_lost_k, .lb f_lost_v, .li f_closed, .i f_r, .b f_any, .i f_now, .i f_first, .i f_newest, .i f_count, .b f_event, .i f_eventAt, .i f_eventN, .i f_bytes, .i f_since] = some (oFr, oH f_got_k (.int .i64 f_got_v) f_lost_k (.bool f_lost_v) f_closed f_r f_now f_first f_newest f_count f_eventAt f_eventN f_bytes f_since f_any f_event) := by kernel_rfl
  rw [hinst] at hi
  cases hi
  unfold feed_old at hZ
  obtain ⟨hnd1, hZ⟩ := chk_some.1 hZ
  obtain ⟨hnd2, hr⟩ := chk_some.1 hZ
  cases hr
  rw [show ocode = .seq (.seq (.region 0 ⟨oa1.take 4 ++ [opN oa1 4]⟩ false) (.block 0 (.loop (rgB 1 2 3 4 0 1 10 28 (opN ob1 0) (opN ob1 1) (opN oc1 0) (opN of1 5) (oc1.drop 1) ⟨oe1⟩ (of1.take 5))))) (.seq (.region 5 ⟨oa2.take 4 ++ [opN oa2 4]⟩ false) (.block 2 (.loop (rgB 6 7 8 9 2 3 40 58 (opN ob2 0) (opN ob2 1) (opN oc2 0) (opN of2 5) (oc2.drop 1) ⟨oe2⟩ (of2.take 5))))) by kernel_rfl]
  refine Goes.step (fun b cs => step_seq) ?_
  refine range_goes (x := .tmp 7) (id := 1) (kt := .u64) (ks := f_got_k) (col := .int .i64 f_got_v) (del := oldP f_newest) tab_ok oG_ok org_1 (by kernel_rfl) (by kernel_rfl) (by kernel_rfl)
    ⟨Nat.le_of_ble_eq_true (by kernel_rfl), Nat.le_of_ble_eq_true (by kernel_rfl), Nat.le_of_ble_eq_true (by kernel_rfl), Nat.le_of_ble_eq_true (by kernel_rfl)⟩ (by decide) hst (or0_1 f_got_k (.int .i64 f_got_v) f_lost_k (.bool f_lost_v) f_closed f_r f_now f_first f_newest f_count f_eventAt f_eventN f_bytes f_since f_any f_event) rfl rfl (nodupB_ok hnd1) rfl (et := 2) (by kernel_rfl) (by kernel_rfl) ?_ (ord_1 f_got_k (.int .i64 f_got_v) f_lost_k (.bool f_lost_v) f_closed f_r f_now f_first f_newest f_count f_eventAt f_eventN f_bytes f_since f_any f_event) ?_
  · intro t v h
    simp only [oFr, lk_cons] at h
    split at h
    · rename_i e; subst e; cases h; exact ⟨rfl, by decide, by decide, by decide, by decide⟩
    · simp [lk] at h
  intro a' w' hst'
  refine range_goes (x := .tmp 37) (id := 2) (kt := .u64) (ks := f_lost_k) (col := .bool f_lost_v) (del := oldP f_newest) tab_ok oG_ok org_2 (by kernel_rfl) (by kernel_rfl) (by kernel_rfl)
    ⟨Nat.le_of_ble_eq_true (by kernel_rfl), Nat.le_of_ble_eq_true (by kernel_rfl), Nat.le_of_ble_eq_true (by kernel_rfl), Nat.le_of_ble_eq_true (by kernel_rfl)⟩ (by decide) hst' (or0_2 (mfK (oldP f_newest) f_got_k) (.int .i64 (mfV (oldP f_newest) f_got_k f_got_v)) f_lost_k (.bool f_lost_v) f_closed f_r f_now f_first f_newest f_count f_eventAt f_eventN f_bytes f_since f_any f_event) rfl rfl (nodupB_ok hnd2) rfl (et := 4) (by kernel_rfl) (by kernel_rfl) ?_ (ord_2 (mfK (oldP f_newest) f_got_k) (.int .i64 (mfV (oldP f_newest) f_got_k f_got_v)) f_lost_k (.bool f_lost_v) f_closed f_r f_now f_first f_newest f_count f_eventAt f_eventN f_bytes f_since f_any f_event) ?_
  · intro t v h
    simp only [oFr, lk_cons] at h
    split at h
    · rename_i e; subst e; cases h; exact ⟨rfl, by decide, by decide, by decide, by decide⟩
    · simp [lk] at h
  intro a2 w2 hst2
  obtain ⟨u, hu1, hu2⟩ := retV_run tab_ok hst2.heap.read (ts := []) (fn := Go.Proofs.Tryz.f67) (v := .tup []) (by kernel_rfl) rfl hst2.frame
  exact Goes.end_ Go.Proofs.Tryz.func67 hst2.frame.defers hu1 ⟨ρ, [(0, .tup [])], _, .tup [], fun _ _ h => h, by kernel_rfl, hst2.heap, rfl, hu2⟩
end Go.Sx.T

