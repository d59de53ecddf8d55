import Derived.Test.YthcddikjnpbnjaaGreatDoorYFNSpec
import Derived.Test.YthcddikjnpbnjaaGreatDoorYFPCon
import Derived.Test.YthcddikjnpbnjaaGreatDoorL6
set_option linter.all false
namespace Go.Sx.T
open Go Go.Sx Go.Proofs
set_option maxRecDepth 100000
noncomputable def fnsNil : Fns := [(61, Go.Proofs.Tryz.f61), (92, Go.Proofs.Tryz.f92)]
theorem fnsNil_ok : FnsOk Go.Proofs.Tryz.prog fnsNil := .cons Go.Proofs.Tryz.func61 (by kernel_rfl) <| .cons Go.Proofs.Tryz.func92 (by kernel_rfl) <| .nil
noncomputable def G37 : Env := inlNil fnsNil tab G36 4
theorem g37 : EnvOk Go.Proofs.Tryz.prog G37 := EnvOk.inlNil mixed tab_ok g36 fnsNil_ok 4
noncomputable def fnsF : Fns := [(14, Go.Proofs.Tryz.f14), (20, Go.Proofs.Tryz.f20), (15, Go.Proofs.Tryz.f15)]
theorem fnsF_ok : FnsOk Go.Proofs.Tryz.prog fnsF := .cons Go.Proofs.Tryz.func14 (by kernel_rfl) <| .cons Go.Proofs.Tryz.func20 (by kernel_rfl) <| .cons Go.Proofs.Tryz.func15 (by kernel_rfl) <| .nil
noncomputable def G38 : Env := inlC fnsF tab G37 5
theorem g38 : EnvOk Go.Proofs.Tryz.prog G38 := EnvOk.inlC mixed tab_ok g37 fnsF_ok 5

-- ### FeedNone: function 3
def FeedNone_in : Tm := ⟨[.ro 4 1 [.bool]], [(0, .w (.at (.int .u64))), (1, .w (.at (.int .i64))), (2, .w (.at (.all 0 1)))]⟩
def FeedNone_out : Tm := ⟨[.dead], [(0, .w (.at (.bool)))]⟩
def FeedNone_8_T : Tm := ⟨[.ro 4 1 [.bool], .row 22 1 [.int .u64], .cells 100 [.int .i64, .bool, .int .i64, .int .u64, .int .u64, .map 3, .map 4, .int .i64, .bool, .int .i64, .int .u64, .all 5 1, .int .u64, .int .i64], .map .u64 (.int .i64), .map .u64 (.bool), .row 22 1 [.int .u64]], [(10, .w (.at (.int .i64))), (0, .w (.at (.int .u64))), (9, .w (.at (.all 1 1))), (2, .w (.at (.all 0 1))), (8, .w (.at (.ptr 2 0))), (1, .w (.at (.int .i64)))]⟩
def FeedNone_8_X0 : Tm := ⟨[.ro 4 1 [.bool], .row 22 1 [.int .u64], .cells 100 [.int .i64, .bool, .int .i64, .int .u64, .int .u64, .map 3, .map 4, .int .i64, .bool, .int .i64, .int .u64, .all 5 1, .int .u64, .int .i64], .map .u64 (.int .i64), .map .u64 (.bool), .row 22 1 [.int .u64]], [(9, .w (.at (.all 1 1))), (2, .w (.at (.all 0 1))), (8, .w (.at (.ptr 2 0))), (1, .w (.at (.int .i64)))]⟩
def FeedNone_8_X : Exits := [(0, (FeedNone_8_X0, []))]
def FeedNone_8_R : Tm := ⟨[], []⟩
def FeedNone_12_T : Tm := ⟨[.ro 4 1 [.bool], .row 22 1 [.int .u64], .cells 100 [.int .i64, .bool, .int .i64, .int .u64, .int .u64, .map 3, .map 4, .int .i64, .bool, .int .i64, .int .u64, .all 5 1, .int .u64, .int .i64], .map .u64 (.int .i64), .map .u64 (.bool), .row 22 1 [.int .u64]], [(11, .w (.at (.int .i64))), (9, .w (.at (.all 1 1))), (2, .w (.at (.all 0 1))), (8, .w (.at (.ptr 2 0))), (1, .w (.at (.int .i64)))]⟩
def FeedNone_12_X2 : Tm := ⟨[.ro 4 1 [.bool], .row 22 1 [.int .u64], .cells 100 [.int .i64, .bool, .int .i64, .int .u64, .int .u64, .map 3, .map 4, .int .i64, .bool, .int .i64, .int .u64, .all 5 1, .int .u64, .int .i64], .map .u64 (.int .i64), .map .u64 (.bool), .row 22 1 [.int .u64]], [(9, .w (.at (.all 1 1))), (8, .w (.at (.ptr 2 0))), (1, .w (.at (.int .i64)))]⟩
def FeedNone_12_X : Exits := [(2, (FeedNone_12_X2, []))]
def FeedNone_12_R : Tm := ⟨[], []⟩
def FeedNone_17_T : Tm := ⟨[.ro 4 1 [.bool], .row 22 1 [.int .u64], .cells 100 [.int .i64, .bool, .int .i64, .int .u64, .int .u64, .map 3, .map 4, .int .i64, .bool, .int .i64, .int .u64, .all 5 1, .int .u64, .int .i64], .map .u64 (.int .i64), .map .u64 (.bool), .row 22 1 [.int .u64]], [(73, .w (.at (.int .i64))), (9, .w (.at (.all 1 1))), (8, .w (.at (.ptr 2 0))), (1, .w (.at (.int .i64))), (72, .w (.at (.int .i64)))]⟩
def FeedNone_17_X4 : Tm := ⟨[.ro 4 1 [.bool], .cells 100 [.int .i64, .bool, .int .i64, .int .u64, .int .u64, .map 2, .map 3, .int .i64, .bool, .int .i64, .int .u64, .all 4 1, .int .u64, .int .i64], .map .u64 (.int .i64), .map .u64 (.bool), .row 22 1 [.int .u64]], [(1, .w (.at (.int .i64))), (8, .w (.at (.ptr 1 0)))]⟩
def FeedNone_17_X : Exits := [(4, (FeedNone_17_X4, []))]
def FeedNone_17_R : Tm := ⟨[.ro 4 1 [.bool]], [(6, .w (.at (.bool)))]⟩

def FeedNone_Λd (L8 : ({β : Type} → (Nat → List Leaf → Option β) → (List Leaf → Option β) → Nat → List Bool → List Int → List Int → List Int → List Int → List Bool → List Int → Int → Bool → Int → Int → Int → Int → Bool → Int → Int → Int → Int → Int → Int → Int → Option β)) (L12 : ({β : Type} → (Nat → List Leaf → Option β) → (List Leaf → Option β) → Nat → List Bool → List Int → List Int → List Int → List Int → List Bool → List Int → Int → Bool → Int → Int → Int → Int → Bool → Int → Int → Int → Int → Int → Int → Option β)) (L17 : ({β : Type} → (Nat → List Leaf → Option β) → (List Leaf → Option β) → Nat → List Bool → List Int → List Int → List Int → List Int → List Bool → List Int → Int → Bool → Int → Int → Int → Int → Bool → Int → Int → Int → Int → Int → Int → Int → Option β)) : Loops := ⟨fun b fr H kx kr => bif Nat.beq (rid b) 8 then loopE 1 FeedNone_8_T [] FeedNone_8_X FeedNone_8_R (FeedNone_8_F @L8 top) fr H kx kr else bif Nat.beq (rid b) 12 then loopE 1 FeedNone_12_T [] FeedNone_12_X FeedNone_12_R (FeedNone_12_F @L12 top) fr H kx kr else bif Nat.beq (rid b) 17 then loopE 1 FeedNone_17_T [] FeedNone_17_X FeedNone_17_R (FeedNone_17_F @L17 top) fr H kx kr else none⟩
def FeedNone_Λ : Loops := FeedNone_Λd @FeedNone_8_L @FeedNone_12_L @FeedNone_17_L
theorem FeedNone_8_e (L8 : ({β : Type} → (Nat → List Leaf → Option β) → (List Leaf → Option β) → Nat → List Bool → List Int → List Int → List Int → List Int → List Bool → List Int → Int → Bool → Int → Int → Int → Int → Bool → Int → Int → Int → Int → Int → Int → Int → Option β)) (L12 : ({β : Type} → (Nat → List Leaf → Option β) → (List Leaf → Option β) → Nat → List Bool → List Int → List Int → List Int → List Int → List Bool → List Int → Int → Bool → Int → Int → Int → Int → Bool → Int → Int → Int → Int → Int → Int → Option β)) (L17 : ({β : Type} → (Nat → List Leaf → Option β) → (List Leaf → Option β) → Nat → List Bool → List Int → List Int → List Int → List Int → List Bool → List Int → Int → Bool → Int → Int → Int → Int → Bool → Int → Int → Int → Int → Int → Int → Int → Option β)) {α : Type} (kx : Nat → List Leaf → Option α) (kr : List Leaf → Option α) (again : List Bool → List Int → List Int → List Int → List Int → List Bool → List Int → Int → Bool → Int → Int → Int → Int → Bool → Int → Int → Int → Int → Int → Int → Int → Option α) (swaps : List Bool) (l : List Int) (f_got_k : List Int) (f_got_v : List Int) (f_lost_k : List Int) (f_lost_v : List Bool) (f_closed : List Int) (f_r : Int) (f_any : Bool) (f_now : Int) (f_first : Int) (f_newest : Int) (f_count : Int) (f_event : Bool) (f_eventAt : Int) (f_eventN : Int) (f_bytes : Int) (f_since : Int) (i : Int) (first : Int) (n2 : Int) : FeedNone_8_B  kx kr again swaps l f_got_k f_got_v f_lost_k f_lost_v f_closed f_r f_any f_now f_first f_newest f_count f_event f_eventAt f_eventN f_bytes f_since i first n2 = loopB G38 (FeedNone_Λd @L8 @L12 @L17) false tab Go.Proofs.Tryz.f3.ntmps 1 FeedNone_8_T [] FeedNone_8_X FeedNone_8_R (bodyAt (fb Go.Proofs.Tryz.f3) 0) (fun ls => un_lb ls fun swaps rr => un_li rr fun l rr => un_li rr fun f_got_k rr => un_li rr fun f_got_v rr => un_li rr fun f_lost_k rr => un_lb rr fun f_lost_v rr => un_li rr fun f_closed rr => un_i rr fun f_r rr => un_b rr fun f_any rr => un_i rr fun f_now rr => un_i rr fun f_first rr => un_i rr fun f_newest rr => un_i rr fun f_count rr => un_b rr fun f_event rr => un_i rr fun f_eventAt rr => un_i rr fun f_eventN rr => un_i rr fun f_bytes rr => un_i rr fun f_since rr => un_i rr fun i rr => un_i rr fun first rr => un_i rr fun n2 rr => un_nil rr (again swaps l f_got_k f_got_v f_lost_k f_lost_v f_closed f_r f_any f_now f_first f_newest f_count f_event f_eventAt f_eventN f_bytes f_since i first n2)) kx kr (instFr FeedNone_8_T [.lb swaps, .li l, .li f_got_k, .li f_got_v, .li f_lost_k, .lb f_lost_v, .li f_closed, .i f_r, .b f_any, .i f_now, .i f_first, .i f_newest, .i f_count, .b f_event, .i f_eventAt, .i f_eventN, .i f_bytes, .i f_since, .i i, .i first, .i n2]) (instH FeedNone_8_T [.lb swaps, .li l, .li f_got_k, .li f_got_v, .li f_lost_k, .lb f_lost_v, .li f_closed, .i f_r, .b f_any, .i f_now, .i f_first, .i f_newest, .i f_count, .b f_event, .i f_eventAt, .i f_eventN, .i f_bytes, .i f_since, .i i, .i first, .i n2]) := by kernel_rfl
theorem FeedNone_12_e (L8 : ({β : Type} → (Nat → List Leaf → Option β) → (List Leaf → Option β) → Nat → List Bool → List Int → List Int → List Int → List Int → List Bool → List Int → Int → Bool → Int → Int → Int → Int → Bool → Int → Int → Int → Int → Int → Int → Int → Option β)) (L12 : ({β : Type} → (Nat → List Leaf → Option β) → (List Leaf → Option β) → Nat → List Bool → List Int → List Int → List Int → List Int → List Bool → List Int → Int → Bool → Int → Int → Int → Int → Bool → Int → Int → Int → Int → Int → Int → Option β)) (L17 : ({β : Type} → (Nat → List Leaf → Option β) → (List Leaf → Option β) → Nat → List Bool → List Int → List Int → List Int → List Int → List Bool → List Int → Int → Bool → Int → Int → Int → Int → Bool → Int → Int → Int → Int → Int → Int → Int → Option β)) {α : Type} (kx : Nat → List Leaf → Option α) (kr : List Leaf → Option α) (again : List Bool → List Int → List Int → List Int → List Int → List Bool → List Int → Int → Bool → Int → Int → Int → Int → Bool → Int → Int → Int → Int → Int → Int → Option α) (swaps : List Bool) (l : List Int) (f_got_k : List Int) (f_got_v : List Int) (f_lost_k : List Int) (f_lost_v : List Bool) (f_closed : List Int) (f_r : Int) (f_any : Bool) (f_now : Int) (f_first : Int) (f_newest : Int) (f_count : Int) (f_event : Bool) (f_eventAt : Int) (f_eventN : Int) (f_bytes : Int) (f_since : Int) (i : Int) (n2 : Int) : FeedNone_12_B  kx kr again swaps l f_got_k f_got_v f_lost_k f_lost_v f_closed f_r f_any f_now f_first f_newest f_count f_event f_eventAt f_eventN f_bytes f_since i n2 = loopB G38 (FeedNone_Λd @L8 @L12 @L17) false tab Go.Proofs.Tryz.f3.ntmps 1 FeedNone_12_T [] FeedNone_12_X FeedNone_12_R (bodyAt (fb Go.Proofs.Tryz.f3) 1) (fun ls => un_lb ls fun swaps rr => un_li rr fun l rr => un_li rr fun f_got_k rr => un_li rr fun f_got_v rr => un_li rr fun f_lost_k rr => un_lb rr fun f_lost_v rr => un_li rr fun f_closed rr => un_i rr fun f_r rr => un_b rr fun f_any rr => un_i rr fun f_now rr => un_i rr fun f_first rr => un_i rr fun f_newest rr => un_i rr fun f_count rr => un_b rr fun f_event rr => un_i rr fun f_eventAt rr => un_i rr fun f_eventN rr => un_i rr fun f_bytes rr => un_i rr fun f_since rr => un_i rr fun i rr => un_i rr fun n2 rr => un_nil rr (again swaps l f_got_k f_got_v f_lost_k f_lost_v f_closed f_r f_any f_now f_first f_newest f_count f_event f_eventAt f_eventN f_bytes f_since i n2)) kx kr (instFr FeedNone_12_T [.lb swaps, .li l, .li f_got_k, .li f_got_v, .li f_lost_k, .lb f_lost_v, .li f_closed, .i f_r, .b f_any, .i f_now, .i f_first, .i f_newest, .i f_count, .b f_event, .i f_eventAt, .i f_eventN, .i f_bytes, .i f_since, .i i, .i n2]) (instH FeedNone_12_T [.lb swaps, .li l, .li f_got_k, .li f_got_v, .li f_lost_k, .lb f_lost_v, .li f_closed, .i f_r, .b f_any, .i f_now, .i f_first, .i f_newest, .i f_count, .b f_event, .i f_eventAt, .i f_eventN, .i f_bytes, .i f_since, .i i, .i n2]) := by kernel_rfl
theorem FeedNone_17_e (L8 : ({β : Type} → (Nat → List Leaf → Option β) → (List Leaf → Option β) → Nat → List Bool → List Int → List Int → List Int → List Int → List Bool → List Int → Int → Bool → Int → Int → Int → Int → Bool → Int → Int → Int → Int → Int → Int → Int → Option β)) (L12 : ({β : Type} → (Nat → List Leaf → Option β) → (List Leaf → Option β) → Nat → List Bool → List Int → List Int → List Int → List Int → List Bool → List Int → Int → Bool → Int → Int → Int → Int → Bool → Int → Int → Int → Int → Int → Int → Option β)) (L17 : ({β : Type} → (Nat → List Leaf → Option β) → (List Leaf → Option β) → Nat → List Bool → List Int → List Int → List Int → List Int → List Bool → List Int → Int → Bool → Int → Int → Int → Int → Bool → Int → Int → Int → Int → Int → Int → Int → Option β)) {α : Type} (kx : Nat → List Leaf → Option α) (kr : List Leaf → Option α) (again : List Bool → List Int → List Int → List Int → List Int → List Bool → List Int → Int → Bool → Int → Int → Int → Int → Bool → Int → Int → Int → Int → Int → Int → Int → Option α) (swaps : List Bool) (l : List Int) (f_got_k : List Int) (f_got_v : List Int) (f_lost_k : List Int) (f_lost_v : List Bool) (f_closed : List Int) (f_r : Int) (f_any : Bool) (f_now : Int) (f_first : Int) (f_newest : Int) (f_count : Int) (f_event : Bool) (f_eventAt : Int) (f_eventN : Int) (f_bytes : Int) (f_since : Int) (t73 : Int) (n2 : Int) (t72 : Int) : FeedNone_17_B  kx kr again swaps l f_got_k f_got_v f_lost_k f_lost_v f_closed f_r f_any f_now f_first f_newest f_count f_event f_eventAt f_eventN f_bytes f_since t73 n2 t72 = loopB G38 (FeedNone_Λd @L8 @L12 @L17) false tab Go.Proofs.Tryz.f3.ntmps 1 FeedNone_17_T [] FeedNone_17_X FeedNone_17_R (bodyAt (fb Go.Proofs.Tryz.f3) 2) (fun ls => un_lb ls fun swaps rr => un_li rr fun l rr => un_li rr fun f_got_k rr => un_li rr fun f_got_v rr => un_li rr fun f_lost_k rr => un_lb rr fun f_lost_v rr => un_li rr fun f_closed rr => un_i rr fun f_r rr => un_b rr fun f_any rr => un_i rr fun f_now rr => un_i rr fun f_first rr => un_i rr fun f_newest rr => un_i rr fun f_count rr => un_b rr fun f_event rr => un_i rr fun f_eventAt rr => un_i rr fun f_eventN rr => un_i rr fun f_bytes rr => un_i rr fun f_since rr => un_i rr fun t73 rr => un_i rr fun n2 rr => un_i rr fun t72 rr => un_nil rr (again swaps l f_got_k f_got_v f_lost_k f_lost_v f_closed f_r f_any f_now f_first f_newest f_count f_event f_eventAt f_eventN f_bytes f_since t73 n2 t72)) kx kr (instFr FeedNone_17_T [.lb swaps, .li l, .li f_got_k, .li f_got_v, .li f_lost_k, .lb f_lost_v, .li f_closed, .i f_r, .b f_any, .i f_now, .i f_first, .i f_newest, .i f_count, .b f_event, .i f_eventAt, .i f_eventN, .i f_bytes, .i f_since, .i t73, .i n2, .i t72]) (instH FeedNone_17_T [.lb swaps, .li l, .li f_got_k, .li f_got_v, .li f_lost_k, .lb f_lost_v, .li f_closed, .i f_r, .b f_any, .i f_now, .i f_first, .i f_newest, .i f_count, .b f_event, .i f_eventAt, .i f_eventN, .i f_bytes, .i f_since, .i t73, .i n2, .i t72]) := by kernel_rfl
theorem FeedNone_17_lok (E : Nat → Prop) (w0 ws : World) (ρ0 : List Pl) (hk : ρ0.length = 1) : LOk Go.Proofs.Tryz.prog 3 Go.Proofs.Tryz.f3 false E w0 ws Go.Proofs.Tryz.f3.ntmps ρ0 FeedNone_Λ (bodyAt (fb Go.Proofs.Tryz.f3) 2) := by
  refine lok mixed tab_ok g38 Go.Proofs.Tryz.func3 hk (T := FeedNone_17_T) (rt := FeedNone_17_R) (cuts := []) (ex := FeedNone_17_X) (top := top) (F := FeedNone_17_F @FeedNone_17_L) (fun fr H kx kr => by kernel_rfl) ?_ ?_ ?_
  · intro α ls' kx' kr' r' h'
    unfold FeedNone_17_F at h'
    obtain ⟨swaps, l'1, rfl, h'1⟩ := un_lb_some.1 h'
    obtain ⟨l, l'2, rfl, h'2⟩ := un_li_some.1 h'1
    obtain ⟨f_got_k, l'3, rfl, h'3⟩ := un_li_some.1 h'2
    obtain ⟨f_got_v, l'4, rfl, h'4⟩ := un_li_some.1 h'3
    obtain ⟨f_lost_k, l'5, rfl, h'5⟩ := un_li_some.1 h'4
    obtain ⟨f_lost_v, l'6, rfl, h'6⟩ := un_lb_some.1 h'5
    obtain ⟨f_closed, l'7, rfl, h'7⟩ := un_li_some.1 h'6
    obtain ⟨f_r, l'8, rfl, h'8⟩ := un_i_some.1 h'7
    obtain ⟨f_any, l'9, rfl, h'9⟩ := un_b_some.1 h'8
    obtain ⟨f_now, l'10, rfl, h'10⟩ := un_i_some.1 h'9
    obtain ⟨f_first, l'11, rfl, h'11⟩ := un_i_some.1 h'10
    obtain ⟨f_newest, l'12, rfl, h'12⟩ := un_i_some.1 h'11
    obtain ⟨f_count, l'13, rfl, h'13⟩ := un_i_some.1 h'12
    obtain ⟨f_event, l'14, rfl, h'14⟩ := un_b_some.1 h'13
    obtain ⟨f_eventAt, l'15, rfl, h'15⟩ := un_i_some.1 h'14
    obtain ⟨f_eventN, l'16, rfl, h'16⟩ := un_i_some.1 h'15
    obtain ⟨f_bytes, l'17, rfl, h'17⟩ := un_i_some.1 h'16
    obtain ⟨f_since, l'18, rfl, h'18⟩ := un_i_some.1 h'17
    obtain ⟨t73, l'19, rfl, h'19⟩ := un_i_some.1 h'18
    obtain ⟨n2, l'20, rfl, h'20⟩ := un_i_some.1 h'19
    obtain ⟨t72, l'21, rfl, h'21⟩ := un_i_some.1 h'20
    obtain ⟨rfl, h'Z⟩ := un_nil_some.1 h'21
    cases h'Z
  · intro α n' ls' kx' kr' r' h'
    unfold FeedNone_17_F at h'
    obtain ⟨swaps, l'1, rfl, h'1⟩ := un_lb_some.1 h'
    obtain ⟨l, l'2, rfl, h'2⟩ := un_li_some.1 h'1
    obtain ⟨f_got_k, l'3, rfl, h'3⟩ := un_li_some.1 h'2
    obtain ⟨f_got_v, l'4, rfl, h'4⟩ := un_li_some.1 h'3
    obtain ⟨f_lost_k, l'5, rfl, h'5⟩ := un_li_some.1 h'4
    obtain ⟨f_lost_v, l'6, rfl, h'6⟩ := un_lb_some.1 h'5
    obtain ⟨f_closed, l'7, rfl, h'7⟩ := un_li_some.1 h'6
    obtain ⟨f_r, l'8, rfl, h'8⟩ := un_i_some.1 h'7
    obtain ⟨f_any, l'9, rfl, h'9⟩ := un_b_some.1 h'8
    obtain ⟨f_now, l'10, rfl, h'10⟩ := un_i_some.1 h'9
    obtain ⟨f_first, l'11, rfl, h'11⟩ := un_i_some.1 h'10
    obtain ⟨f_newest, l'12, rfl, h'12⟩ := un_i_some.1 h'11
    obtain ⟨f_count, l'13, rfl, h'13⟩ := un_i_some.1 h'12
    obtain ⟨f_event, l'14, rfl, h'14⟩ := un_b_some.1 h'13
    obtain ⟨f_eventAt, l'15, rfl, h'15⟩ := un_i_some.1 h'14
    obtain ⟨f_eventN, l'16, rfl, h'16⟩ := un_i_some.1 h'15
    obtain ⟨f_bytes, l'17, rfl, h'17⟩ := un_i_some.1 h'16
    obtain ⟨f_since, l'18, rfl, h'18⟩ := un_i_some.1 h'17
    obtain ⟨t73, l'19, rfl, h'19⟩ := un_i_some.1 h'18
    obtain ⟨n2, l'20, rfl, h'20⟩ := un_i_some.1 h'19
    obtain ⟨t72, l'21, rfl, h'21⟩ := un_i_some.1 h'20
    obtain ⟨rfl, h'Z⟩ := un_nil_some.1 h'21
    exact (FeedNone_17_e @FeedNone_8_L @FeedNone_12_L @FeedNone_17_L kx' kr' (FeedNone_17_L kx' kr' n') swaps l f_got_k f_got_v f_lost_k f_lost_v f_closed f_r f_any f_now f_first f_newest f_count f_event f_eventAt f_eventN f_bytes f_since t73 n2 t72).symm.trans h'Z
  · intro b' hb
    rw [show loopsOf (bodyAt (fb Go.Proofs.Tryz.f3) 2) = [] by kernel_rfl] at hb
    cases hb
theorem FeedNone_12_lok (E : Nat → Prop) (w0 ws : World) (ρ0 : List Pl) (hk : ρ0.length = 1) : LOk Go.Proofs.Tryz.prog 3 Go.Proofs.Tryz.f3 false E w0 ws Go.Proofs.Tryz.f3.ntmps ρ0 FeedNone_Λ (bodyAt (fb Go.Proofs.Tryz.f3) 1) := by
  refine lok mixed tab_ok g38 Go.Proofs.Tryz.func3 hk (T := FeedNone_12_T) (rt := FeedNone_12_R) (cuts := []) (ex := FeedNone_12_X) (top := top) (F := FeedNone_12_F @FeedNone_12_L) (fun fr H kx kr => by kernel_rfl) ?_ ?_ ?_
  · intro α ls' kx' kr' r' h'
    unfold FeedNone_12_F at h'
    obtain ⟨swaps, l'1, rfl, h'1⟩ := un_lb_some.1 h'
    obtain ⟨l, l'2, rfl, h'2⟩ := un_li_some.1 h'1
    obtain ⟨f_got_k, l'3, rfl, h'3⟩ := un_li_some.1 h'2
    obtain ⟨f_got_v, l'4, rfl, h'4⟩ := un_li_some.1 h'3
    obtain ⟨f_lost_k, l'5, rfl, h'5⟩ := un_li_some.1 h'4
    obtain ⟨f_lost_v, l'6, rfl, h'6⟩ := un_lb_some.1 h'5
    obtain ⟨f_closed, l'7, rfl, h'7⟩ := un_li_some.1 h'6
    obtain ⟨f_r, l'8, rfl, h'8⟩ := un_i_some.1 h'7
    obtain ⟨f_any, l'9, rfl, h'9⟩ := un_b_some.1 h'8
    obtain ⟨f_now, l'10, rfl, h'10⟩ := un_i_some.1 h'9
    obtain ⟨f_first, l'11, rfl, h'11⟩ := un_i_some.1 h'10
    obtain ⟨f_newest, l'12, rfl, h'12⟩ := un_i_some.1 h'11
    obtain ⟨f_count, l'13, rfl, h'13⟩ := un_i_some.1 h'12
    obtain ⟨f_event, l'14, rfl, h'14⟩ := un_b_some.1 h'13
    obtain ⟨f_eventAt, l'15, rfl, h'15⟩ := un_i_some.1 h'14
    obtain ⟨f_eventN, l'16, rfl, h'16⟩ := un_i_some.1 h'15
    obtain ⟨f_bytes, l'17, rfl, h'17⟩ := un_i_some.1 h'16
    obtain ⟨f_since, l'18, rfl, h'18⟩ := un_i_some.1 h'17
    obtain ⟨i, l'19, rfl, h'19⟩ := un_i_some.1 h'18
    obtain ⟨n2, l'20, rfl, h'20⟩ := un_i_some.1 h'19
    obtain ⟨rfl, h'Z⟩ := un_nil_some.1 h'20
    cases h'Z
  · intro α n' ls' kx' kr' r' h'
    unfold FeedNone_12_F at h'
    obtain ⟨swaps, l'1, rfl, h'1⟩ := un_lb_some.1 h'
    obtain ⟨l, l'2, rfl, h'2⟩ := un_li_some.1 h'1
    obtain ⟨f_got_k, l'3, rfl, h'3⟩ := un_li_some.1 h'2
    obtain ⟨f_got_v, l'4, rfl, h'4⟩ := un_li_some.1 h'3
    obtain ⟨f_lost_k, l'5, rfl, h'5⟩ := un_li_some.1 h'4
    obtain ⟨f_lost_v, l'6, rfl, h'6⟩ := un_lb_some.1 h'5
    obtain ⟨f_closed, l'7, rfl, h'7⟩ := un_li_some.1 h'6
    obtain ⟨f_r, l'8, rfl, h'8⟩ := un_i_some.1 h'7
    obtain ⟨f_any, l'9, rfl, h'9⟩ := un_b_some.1 h'8
    obtain ⟨f_now, l'10, rfl, h'10⟩ := un_i_some.1 h'9
    obtain ⟨f_first, l'11, rfl, h'11⟩ := un_i_some.1 h'10
    obtain ⟨f_newest, l'12, rfl, h'12⟩ := un_i_some.1 h'11
    obtain ⟨f_count, l'13, rfl, h'13⟩ := un_i_some.1 h'12
    obtain ⟨f_event, l'14, rfl, h'14⟩ := un_b_some.1 h'13
    obtain ⟨f_eventAt, l'15, rfl, h'15⟩ := un_i_some.1 h'14
    obtain ⟨f_eventN, l'16, rfl, h'16⟩ := un_i_some.1 h'15
    obtain ⟨f_bytes, l'17, rfl, h'17⟩ := un_i_some.1 h'16
    obtain ⟨f_since, l'18, rfl, h'18⟩ := un_i_some.1 h'17
    obtain ⟨i, l'19, rfl, h'19⟩ := un_i_some.1 h'18
    obtain ⟨n2, l'20, rfl, h'20⟩ := un_i_some.1 h'19
    obtain ⟨rfl, h'Z⟩ := un_nil_some.1 h'20
    exact (FeedNone_12_e @FeedNone_8_L @FeedNone_12_L @FeedNone_17_L kx' kr' (FeedNone_12_L kx' kr' n') swaps l f_got_k f_got_v f_lost_k f_lost_v f_closed f_r f_any f_now f_first f_newest f_count f_event f_eventAt f_eventN f_bytes f_since i n2).symm.trans h'Z
  · intro b' hb
    rw [show loopsOf (bodyAt (fb Go.Proofs.Tryz.f3) 1) = [] by kernel_rfl] at hb
    cases hb
theorem FeedNone_8_lok (E : Nat → Prop) (w0 ws : World) (ρ0 : List Pl) (hk : ρ0.length = 1) : LOk Go.Proofs.Tryz.prog 3 Go.Proofs.Tryz.f3 false E w0 ws Go.Proofs.Tryz.f3.ntmps ρ0 FeedNone_Λ (bodyAt (fb Go.Proofs.Tryz.f3) 0) := by
  refine lok mixed tab_ok g38 Go.Proofs.Tryz.func3 hk (T := FeedNone_8_T) (rt := FeedNone_8_R) (cuts := []) (ex := FeedNone_8_X) (top := top) (F := FeedNone_8_F @FeedNone_8_L) (fun fr H kx kr => by kernel_rfl) ?_ ?_ ?_
  · intro α ls' kx' kr' r' h'
    unfold FeedNone_8_F at h'
    obtain ⟨swaps, l'1, rfl, h'1⟩ := un_lb_some.1 h'
    obtain ⟨l, l'2, rfl, h'2⟩ := un_li_some.1 h'1
    obtain ⟨f_got_k, l'3, rfl, h'3⟩ := un_li_some.1 h'2
    obtain ⟨f_got_v, l'4, rfl, h'4⟩ := un_li_some.1 h'3
    obtain ⟨f_lost_k, l'5, rfl, h'5⟩ := un_li_some.1 h'4
    obtain ⟨f_lost_v, l'6, rfl, h'6⟩ := un_lb_some.1 h'5
    obtain ⟨f_closed, l'7, rfl, h'7⟩ := un_li_some.1 h'6
    obtain ⟨f_r, l'8, rfl, h'8⟩ := un_i_some.1 h'7
    obtain ⟨f_any, l'9, rfl, h'9⟩ := un_b_some.1 h'8
    obtain ⟨f_now, l'10, rfl, h'10⟩ := un_i_some.1 h'9
    obtain ⟨f_first, l'11, rfl, h'11⟩ := un_i_some.1 h'10
    obtain ⟨f_newest, l'12, rfl, h'12⟩ := un_i_some.1 h'11
    obtain ⟨f_count, l'13, rfl, h'13⟩ := un_i_some.1 h'12
    obtain ⟨f_event, l'14, rfl, h'14⟩ := un_b_some.1 h'13
    obtain ⟨f_eventAt, l'15, rfl, h'15⟩ := un_i_some.1 h'14
    obtain ⟨f_eventN, l'16, rfl, h'16⟩ := un_i_some.1 h'15
    obtain ⟨f_bytes, l'17, rfl, h'17⟩ := un_i_some.1 h'16
    obtain ⟨f_since, l'18, rfl, h'18⟩ := un_i_some.1 h'17
    obtain ⟨i, l'19, rfl, h'19⟩ := un_i_some.1 h'18
    obtain ⟨first, l'20, rfl, h'20⟩ := un_i_some.1 h'19
    obtain ⟨n2, l'21, rfl, h'21⟩ := un_i_some.1 h'20
    obtain ⟨rfl, h'Z⟩ := un_nil_some.1 h'21
    cases h'Z
  · intro α n' ls' kx' kr' r' h'
    unfold FeedNone_8_F at h'
    obtain ⟨swaps, l'1, rfl, h'1⟩ := un_lb_some.1 h'
    obtain ⟨l, l'2, rfl, h'2⟩ := un_li_some.1 h'1
    obtain ⟨f_got_k, l'3, rfl, h'3⟩ := un_li_some.1 h'2
    obtain ⟨f_got_v, l'4, rfl, h'4⟩ := un_li_some.1 h'3
    obtain ⟨f_lost_k, l'5, rfl, h'5⟩ := un_li_some.1 h'4
    obtain ⟨f_lost_v, l'6, rfl, h'6⟩ := un_lb_some.1 h'5
    obtain ⟨f_closed, l'7, rfl, h'7⟩ := un_li_some.1 h'6
    obtain ⟨f_r, l'8, rfl, h'8⟩ := un_i_some.1 h'7
    obtain ⟨f_any, l'9, rfl, h'9⟩ := un_b_some.1 h'8
    obtain ⟨f_now, l'10, rfl, h'10⟩ := un_i_some.1 h'9
    obtain ⟨f_first, l'11, rfl, h'11⟩ := un_i_some.1 h'10
    obtain ⟨f_newest, l'12, rfl, h'12⟩ := un_i_some.1 h'11
    obtain ⟨f_count, l'13, rfl, h'13⟩ := un_i_some.1 h'12
    obtain ⟨f_event, l'14, rfl, h'14⟩ := un_b_some.1 h'13
    obtain ⟨f_eventAt, l'15, rfl, h'15⟩ := un_i_some.1 h'14
    obtain ⟨f_eventN, l'16, rfl, h'16⟩ := un_i_some.1 h'15
    obtain ⟨f_bytes, l'17, rfl, h'17⟩ := un_i_some.1 h'16
    obtain ⟨f_since, l'18, rfl, h'18⟩ := un_i_some.1 h'17
    obtain ⟨i, l'19, rfl, h'19⟩ := un_i_some.1 h'18
    obtain ⟨first, l'20, rfl, h'20⟩ := un_i_some.1 h'19
    obtain ⟨n2, l'21, rfl, h'21⟩ := un_i_some.1 h'20
    obtain ⟨rfl, h'Z⟩ := un_nil_some.1 h'21
    exact (FeedNone_8_e @FeedNone_8_L @FeedNone_12_L @FeedNone_17_L kx' kr' (FeedNone_8_L kx' kr' n') swaps l f_got_k f_got_v f_lost_k f_lost_v f_closed f_r f_any f_now f_first f_newest f_count f_event f_eventAt f_eventN f_bytes f_since i first n2).symm.trans h'Z
  · intro b' hb
    rw [show loopsOf (bodyAt (fb Go.Proofs.Tryz.f3) 0) = [] by kernel_rfl] at hb
    cases hb
theorem FeedNone_ed (L8 : ({β : Type} → (Nat → List Leaf → Option β) → (List Leaf → Option β) → Nat → List Bool → List Int → List Int → List Int → List Int → List Bool → List Int → Int → Bool → Int → Int → Int → Int → Bool → Int → Int → Int → Int → Int → Int → Int → Option β)) (L12 : ({β : Type} → (Nat → List Leaf → Option β) → (List Leaf → Option β) → Nat → List Bool → List Int → List Int → List Int → List Int → List Bool → List Int → Int → Bool → Int → Int → Int → Int → Bool → Int → Int → Int → Int → Int → Int → Option β)) (L17 : ({β : Type} → (Nat → List Leaf → Option β) → (List Leaf → Option β) → Nat → List Bool → List Int → List Int → List Int → List Int → List Bool → List Int → Int → Bool → Int → Int → Int → Int → Bool → Int → Int → Int → Int → Int → Int → Int → Option β)) (swaps : List Bool) (first : Int) (n2 : Int) : FeedNone_d @L8 @L12 @L17 swaps first n2 = den G38 (FeedNone_Λd @L8 @L12 @L17) false tab Go.Proofs.Tryz.f3.ntmps (fun fr H => finish tab 1 Go.Proofs.Tryz.f3.results.toList FeedNone_out [] fr H some) (fun _ _ _ => none) (fun fr H => finish tab 1 Go.Proofs.Tryz.f3.results.toList FeedNone_out [] fr H some) 10000 [.code (fb Go.Proofs.Tryz.f3)] (instFr FeedNone_in [.lb swaps, .i first, .i n2]) (instH FeedNone_in [.lb swaps, .i first, .i n2]) := by kernel_rfl
theorem FeedNone_e (swaps : List Bool) (first : Int) (n2 : Int) : FeedNone swaps first n2 = den G38 FeedNone_Λ false tab Go.Proofs.Tryz.f3.ntmps (fun fr H => finish tab 1 Go.Proofs.Tryz.f3.results.toList FeedNone_out [] fr H some) (fun _ _ _ => none) (fun fr H => finish tab 1 Go.Proofs.Tryz.f3.results.toList FeedNone_out [] fr H some) 10000 [.code (fb Go.Proofs.Tryz.f3)] (instFr FeedNone_in [.lb swaps, .i first, .i n2]) (instH FeedNone_in [.lb swaps, .i first, .i n2]) := FeedNone_ed @FeedNone_8_L @FeedNone_12_L @FeedNone_17_L swaps first n2
def FeedNone_S : List Leaf → Option (List Leaf) := fun ls => un_lb ls fun swaps rr => un_i rr fun first rr => un_i rr fun n2 rr => un_nil rr (FeedNone swaps first n2)
def FeedNone_SC : Tld := fun ls k' => un_lb ls fun swaps rr => un_i rr fun first rr => un_i rr fun n2 rr => un_nil rr (out (FeedNone swaps first n2) k')
theorem FeedNone_Se (swaps : List Bool) (first : Int) (n2 : Int) : FeedNone_S [.lb swaps, .i first, .i n2] = FeedNone swaps first n2 := by
  unfold FeedNone_S
  simp only [un_i_ev, un_b_ev, un_s_ev, un_li_ev, un_lb_ev, un_ls_ev, un_nil_ev]
theorem FeedNone_says : Says FeedNone_SC FeedNone_S := by
  intro β ls' k' r' h'
  unfold FeedNone_SC at h'
  obtain ⟨swaps, l'1, rfl, h'1⟩ := un_lb_some.1 h'
  obtain ⟨first, l'2, rfl, h'2⟩ := un_i_some.1 h'1
  obtain ⟨n2, l'3, rfl, h'3⟩ := un_i_some.1 h'2
  obtain ⟨rfl, h'Z⟩ := un_nil_some.1 h'3
  obtain ⟨l', a', b'⟩ := out_some.1 h'Z
  exact ⟨l', (FeedNone_Se swaps first n2).trans a', b'⟩
theorem FeedNone_c : FnC Go.Proofs.Tryz.prog 3 false 3 1 FeedNone_in FeedNone_out FeedNone_S := by
  refine fn_ok (Λ := FeedNone_Λ) mixed tab_ok g38 Go.Proofs.Tryz.func3 (by kernel_rfl) (body := fb Go.Proofs.Tryz.f3) rfl (ts := Go.Proofs.Tryz.f3.results.toList) rfl (cuts := []) (by kernel_rfl) (Nat.le_of_ble_eq_true (by kernel_rfl)) (by kernel_rfl) (rt := .w (.at (.bool))) rfl ?_ ?_
  · intro ls' r' h'
    unfold FeedNone_S at h'
    obtain ⟨swaps, l'1, rfl, h'1⟩ := un_lb_some.1 h'
    obtain ⟨first, l'2, rfl, h'2⟩ := un_i_some.1 h'1
    obtain ⟨n2, l'3, rfl, h'3⟩ := un_i_some.1 h'2
    obtain ⟨rfl, h'Z⟩ := un_nil_some.1 h'3
    exact (FeedNone_e swaps first n2).symm.trans h'Z
  · intro E w0 ws ρ0 hk b hb
    rw [show loopsOf (fb Go.Proofs.Tryz.f3) = [(bodyAt (fb Go.Proofs.Tryz.f3) 0), (bodyAt (fb Go.Proofs.Tryz.f3) 1), (bodyAt (fb Go.Proofs.Tryz.f3) 2)] by kernel_rfl] at hb
    simp only [List.mem_cons, List.mem_nil_iff, or_false] at hb
    rcases hb with rfl | rfl | rfl
    · exact FeedNone_8_lok E w0 ws ρ0 hk
    · exact FeedNone_12_lok E w0 ws ρ0 hk
    · exact FeedNone_17_lok E w0 ws ρ0 hk
noncomputable def G39 : Env := G38.addE 3 3 FeedNone_in FeedNone_out FeedNone_SC
theorem g39 : EnvOk Go.Proofs.Tryz.prog G39 := EnvOk.addE g38 FeedNone_c FeedNone_says
end Go.Sx.T

