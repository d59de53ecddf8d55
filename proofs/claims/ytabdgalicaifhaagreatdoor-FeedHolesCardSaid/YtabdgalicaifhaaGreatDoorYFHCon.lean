import Derived.Test.YtabdgalicaifhaaGreatDoorYFHSpec
import Derived.Test.YtabdgalicaifhaaGreatDoorYFPCon
set_option linter.all false
namespace Go.Sx.T
open Go Go.Sx Go.Proofs
set_option maxRecDepth 100000

-- ### FeedHoles: function 8
def FeedHoles_in : Tm := ⟨[], [(0, .w (.at (.int .u64))), (1, .w (.at (.int .i64))), (2, .w (.at (.int .i64))), (3, .w (.at (.int .i64)))]⟩
def FeedHoles_out : Tm := ⟨[], [(0, .w (.at (.bool)))]⟩
def FeedHoles_15_T : Tm := ⟨[.cells 105 [.int .i64, .bool, .int .i64, .int .u64, .int .u64, .map 1, .map 2, .int .i64, .bool, .int .i64, .int .u64, .all 3 1, .int .u64, .int .i64], .map .u64 (.int .i64), .map .u64 (.bool), .row 22 1 [.int .u64]], [(17, .w (.at (.int .i64))), (13, .w (.at (.int .i64))), (0, .w (.at (.int .u64))), (12, .w (.at (.int .i64))), (11, .w (.at (.ptr 0 0))), (10, .w (.at (.int .i64))), (3, .w (.at (.int .i64))), (1, .w (.at (.int .i64))), (2, .w (.at (.int .i64))), (16, .w (.at (.int .i64))), (14, .w (.at (.int .i64))), (15, .w (.at (.int .i64)))]⟩
def FeedHoles_15_X2 : Tm := ⟨[.cells 105 [.int .i64, .bool, .int .i64, .int .u64, .int .u64, .map 1, .map 2, .int .i64, .bool, .int .i64, .int .u64, .all 3 1, .int .u64, .int .i64], .map .u64 (.int .i64), .map .u64 (.bool), .row 22 1 [.int .u64]], [(0, .w (.at (.int .u64))), (11, .w (.at (.ptr 0 0))), (10, .w (.at (.int .i64))), (3, .w (.at (.int .i64))), (1, .w (.at (.int .i64))), (2, .w (.at (.int .i64))), (16, .w (.at (.int .i64))), (14, .w (.at (.int .i64))), (15, .w (.at (.int .i64))), (12, .w (.at (.int .i64))), (13, .w (.at (.int .i64)))]⟩
def FeedHoles_15_X : Exits := [(2, (FeedHoles_15_X2, []))]
def FeedHoles_15_R : Tm := ⟨[], []⟩
def FeedHoles_12_T : Tm := ⟨[.cells 105 [.int .i64, .bool, .int .i64, .int .u64, .int .u64, .map 1, .map 2, .int .i64, .bool, .int .i64, .int .u64, .all 3 1, .int .u64, .int .i64], .map .u64 (.int .i64), .map .u64 (.bool), .row 22 1 [.int .u64]], [(13, .w (.at (.int .i64))), (0, .w (.at (.int .u64))), (12, .w (.at (.int .i64))), (11, .w (.at (.ptr 0 0))), (16, .w (.at (.int .i64))), (14, .w (.at (.int .i64))), (10, .w (.at (.int .i64))), (15, .w (.at (.int .i64))), (3, .w (.at (.int .i64))), (1, .w (.at (.int .i64))), (2, .w (.at (.int .i64)))]⟩
def FeedHoles_12_X0 : Tm := ⟨[.cells 105 [.int .i64, .bool, .int .i64, .int .u64, .int .u64, .map 1, .map 2, .int .i64, .bool, .int .i64, .int .u64, .all 3 1, .int .u64, .int .i64], .map .u64 (.int .i64), .map .u64 (.bool), .row 22 1 [.int .u64]], [(13, .w (.at (.int .i64))), (0, .w (.at (.int .u64))), (12, .w (.at (.int .i64))), (11, .w (.at (.ptr 0 0))), (14, .w (.at (.int .i64))), (1, .w (.at (.int .i64))), (2, .w (.at (.int .i64)))]⟩
def FeedHoles_12_X : Exits := [(0, (FeedHoles_12_X0, []))]
def FeedHoles_12_R : Tm := ⟨[], []⟩
def FeedHoles_25_T : Tm := ⟨[.cells 105 [.int .i64, .bool, .int .i64, .int .u64, .int .u64, .map 1, .map 2, .int .i64, .bool, .int .i64, .int .u64, .all 3 1, .int .u64, .int .i64], .map .u64 (.int .i64), .map .u64 (.bool), .row 22 1 [.int .u64]], [(18, .w (.at (.int .i64))), (13, .w (.at (.int .i64))), (0, .w (.at (.int .u64))), (12, .w (.at (.int .i64))), (11, .w (.at (.ptr 0 0))), (14, .w (.at (.int .i64))), (1, .w (.at (.int .i64))), (2, .w (.at (.int .i64)))]⟩
def FeedHoles_25_X4 : Tm := ⟨[.cells 105 [.int .i64, .bool, .int .i64, .int .u64, .int .u64, .map 1, .map 2, .int .i64, .bool, .int .i64, .int .u64, .all 3 1, .int .u64, .int .i64], .map .u64 (.int .i64), .map .u64 (.bool), .row 22 1 [.int .u64]], [(14, .w (.at (.int .i64))), (1, .w (.at (.int .i64))), (2, .w (.at (.int .i64))), (11, .w (.at (.ptr 0 0)))]⟩
def FeedHoles_25_X : Exits := [(4, (FeedHoles_25_X4, []))]
def FeedHoles_25_R : Tm := ⟨[], []⟩

def FeedHoles_Λd (L15 : ({β : Type} → (Nat → List Leaf → Option β) → (List Leaf → Option β) → Nat → List Int → List Int → List Int → List Bool → List Int → Int → Bool → Int → Int → Int → Int → Bool → Int → Int → Int → Int → Int → Int → Int → Int → Int → Int → Int → Int → Int → Int → Int → Option β)) (L12 : ({β : Type} → (Nat → List Leaf → Option β) → (List Leaf → Option β) → Nat → List Int → List Int → List Int → List Bool → List Int → Int → Bool → Int → Int → Int → Int → Bool → Int → Int → Int → Int → Int → Int → Int → Int → Int → Int → Int → Int → Int → Int → Option β)) (L25 : ({β : Type} → (Nat → List Leaf → Option β) → (List Leaf → Option β) → Nat → List Int → List Int → List Int → List Bool → List Int → Int → Bool → Int → Int → Int → Int → Bool → Int → Int → Int → Int → Int → Int → Int → Int → Int → Int → Int → Option β)) : Loops := ⟨fun b fr H kx kr => bif Nat.beq (rid b) 15 then loopE 0 FeedHoles_15_T [] FeedHoles_15_X FeedHoles_15_R (FeedHoles_15_F @L15 top) fr H kx kr else bif Nat.beq (rid b) 12 then loopE 0 FeedHoles_12_T [] FeedHoles_12_X FeedHoles_12_R (FeedHoles_12_F @L12 top) fr H kx kr else bif Nat.beq (rid b) 25 then loopE 0 FeedHoles_25_T [] FeedHoles_25_X FeedHoles_25_R (FeedHoles_25_F @L25 top) fr H kx kr else none⟩
def FeedHoles_Λ : Loops := FeedHoles_Λd @FeedHoles_15_L @FeedHoles_12_L @FeedHoles_25_L
theorem FeedHoles_15_e (L15 : ({β : Type} → (Nat → List Leaf → Option β) → (List Leaf → Option β) → Nat → List Int → List Int → List Int → List Bool → List Int → Int → Bool → Int → Int → Int → Int → Bool → Int → Int → Int → Int → Int → Int → Int → Int → Int → Int → Int → Int → Int → Int → Int → Option β)) (L12 : ({β : Type} → (Nat → List Leaf → Option β) → (List Leaf → Option β) → Nat → List Int → List Int → List Int → List Bool → List Int → Int → Bool → Int → Int → Int → Int → Bool → Int → Int → Int → Int → Int → Int → Int → Int → Int → Int → Int → Int → Int → Int → Option β)) (L25 : ({β : Type} → (Nat → List Leaf → Option β) → (List Leaf → Option β) → Nat → List Int → List Int → List Int → List Bool → List Int → Int → Bool → Int → Int → Int → Int → Bool → Int → Int → Int → Int → Int → Int → Int → Int → Int → Int → Int → Option β)) {α : Type} (kx : Nat → List Leaf → Option α) (kr : List Leaf → Option α) (again : List Int → List Int → List Int → List Bool → List Int → Int → Bool → Int → Int → Int → Int → Bool → Int → Int → Int → Int → Int → Int → Int → Int → Int → Int → Int → Int → Int → Int → Int → Option α) (f_got_k : List Int) (f_got_v : List Int) (f_lost_k : List Int) (f_lost_v : List Bool) (f_closed : List Int) (f_r : Int) (f_any : Bool) (f_now : Int) (f_first : Int) (f_newest : Int) (f_count : Int) (f_event : Bool) (f_eventAt : Int) (f_eventN : Int) (f_bytes : Int) (f_since : Int) (k : Int) (n2 : Int) (first : Int) (now : Int) (r : Int) (apart : Int) (gap : Int) (holes : Int) (i : Int) (events : Int) (last : Int) : FeedHoles_15_B  kx kr again f_got_k f_got_v f_lost_k f_lost_v f_closed f_r f_any f_now f_first f_newest f_count f_event f_eventAt f_eventN f_bytes f_since k n2 first now r apart gap holes i events last = loopB G66 (FeedHoles_Λd @L15 @L12 @L25) false tab Go.Proofs.Tryz.f8.ntmps 0 FeedHoles_15_T [] FeedHoles_15_X FeedHoles_15_R (bodyAt (fb Go.Proofs.Tryz.f8) 1) (fun ls => un_li ls fun f_got_k rr => un_li rr fun f_got_v rr => un_li rr fun f_lost_k rr => un_lb rr fun f_lost_v rr => un_li rr fun f_closed rr => un_i rr fun f_r rr => un_b rr fun f_any rr => un_i rr fun f_now rr => un_i rr fun f_first rr => un_i rr fun f_newest rr => un_i rr fun f_count rr => un_b rr fun f_event rr => un_i rr fun f_eventAt rr => un_i rr fun f_eventN rr => un_i rr fun f_bytes rr => un_i rr fun f_since rr => un_i rr fun k rr => un_i rr fun n2 rr => un_i rr fun first rr => un_i rr fun now rr => un_i rr fun r rr => un_i rr fun apart rr => un_i rr fun gap rr => un_i rr fun holes rr => un_i rr fun i rr => un_i rr fun events rr => un_i rr fun last rr => un_nil rr (again f_got_k f_got_v f_lost_k f_lost_v f_closed f_r f_any f_now f_first f_newest f_count f_event f_eventAt f_eventN f_bytes f_since k n2 first now r apart gap holes i events last)) kx kr (instFr FeedHoles_15_T [.li f_got_k, .li f_got_v, .li f_lost_k, .lb f_lost_v, .li f_closed, .i f_r, .b f_any, .i f_now, .i f_first, .i f_newest, .i f_count, .b f_event, .i f_eventAt, .i f_eventN, .i f_bytes, .i f_since, .i k, .i n2, .i first, .i now, .i r, .i apart, .i gap, .i holes, .i i, .i events, .i last]) (instH FeedHoles_15_T [.li f_got_k, .li f_got_v, .li f_lost_k, .lb f_lost_v, .li f_closed, .i f_r, .b f_any, .i f_now, .i f_first, .i f_newest, .i f_count, .b f_event, .i f_eventAt, .i f_eventN, .i f_bytes, .i f_since, .i k, .i n2, .i first, .i now, .i r, .i apart, .i gap, .i holes, .i i, .i events, .i last]) := by kernel_rfl
theorem FeedHoles_12_e (L15 : ({β : Type} → (Nat → List Leaf → Option β) → (List Leaf → Option β) → Nat → List Int → List Int → List Int → List Bool → List Int → Int → Bool → Int → Int → Int → Int → Bool → Int → Int → Int → Int → Int → Int → Int → Int → Int → Int → Int → Int → Int → Int → Int → Option β)) (L12 : ({β : Type} → (Nat → List Leaf → Option β) → (List Leaf → Option β) → Nat → List Int → List Int → List Int → List Bool → List Int → Int → Bool → Int → Int → Int → Int → Bool → Int → Int → Int → Int → Int → Int → Int → Int → Int → Int → Int → Int → Int → Int → Option β)) (L25 : ({β : Type} → (Nat → List Leaf → Option β) → (List Leaf → Option β) → Nat → List Int → List Int → List Int → List Bool → List Int → Int → Bool → Int → Int → Int → Int → Bool → Int → Int → Int → Int → Int → Int → Int → Int → Int → Int → Int → Option β)) {α : Type} (kx : Nat → List Leaf → Option α) (kr : List Leaf → Option α) (again : List Int → List Int → List Int → List Bool → List Int → Int → Bool → Int → Int → Int → Int → Bool → Int → Int → Int → Int → Int → Int → Int → Int → Int → Int → Int → Int → Int → Int → Option α) (f_got_k : List Int) (f_got_v : List Int) (f_lost_k : List Int) (f_lost_v : List Bool) (f_closed : List Int) (f_r : Int) (f_any : Bool) (f_now : Int) (f_first : Int) (f_newest : Int) (f_count : Int) (f_event : Bool) (f_eventAt : Int) (f_eventN : Int) (f_bytes : Int) (f_since : Int) (n2 : Int) (first : Int) (now : Int) (i : Int) (events : Int) (r : Int) (last : Int) (apart : Int) (gap : Int) (holes : Int) : FeedHoles_12_B @L15 kx kr again f_got_k f_got_v f_lost_k f_lost_v f_closed f_r f_any f_now f_first f_newest f_count f_event f_eventAt f_eventN f_bytes f_since n2 first now i events r last apart gap holes = loopB G66 (FeedHoles_Λd @L15 @L12 @L25) false tab Go.Proofs.Tryz.f8.ntmps 0 FeedHoles_12_T [] FeedHoles_12_X FeedHoles_12_R (bodyAt (fb Go.Proofs.Tryz.f8) 0) (fun ls => un_li ls fun f_got_k rr => un_li rr fun f_got_v rr => un_li rr fun f_lost_k rr => un_lb rr fun f_lost_v rr => un_li rr fun f_closed rr => un_i rr fun f_r rr => un_b rr fun f_any rr => un_i rr fun f_now rr => un_i rr fun f_first rr => un_i rr fun f_newest rr => un_i rr fun f_count rr => un_b rr fun f_event rr => un_i rr fun f_eventAt rr => un_i rr fun f_eventN rr => un_i rr fun f_bytes rr => un_i rr fun f_since rr => un_i rr fun n2 rr => un_i rr fun first rr => un_i rr fun now rr => un_i rr fun i rr => un_i rr fun events rr => un_i rr fun r rr => un_i rr fun last rr => un_i rr fun apart rr => un_i rr fun gap rr => un_i rr fun holes rr => un_nil rr (again f_got_k f_got_v f_lost_k f_lost_v f_closed f_r f_any f_now f_first f_newest f_count f_event f_eventAt f_eventN f_bytes f_since n2 first now i events r last apart gap holes)) kx kr (instFr FeedHoles_12_T [.li f_got_k, .li f_got_v, .li f_lost_k, .lb f_lost_v, .li f_closed, .i f_r, .b f_any, .i f_now, .i f_first, .i f_newest, .i f_count, .b f_event, .i f_eventAt, .i f_eventN, .i f_bytes, .i f_since, .i n2, .i first, .i now, .i i, .i events, .i r, .i last, .i apart, .i gap, .i holes]) (instH FeedHoles_12_T [.li f_got_k, .li f_got_v, .li f_lost_k, .lb f_lost_v, .li f_closed, .i f_r, .b f_any, .i f_now, .i f_first, .i f_newest, .i f_count, .b f_event, .i f_eventAt, .i f_eventN, .i f_bytes, .i f_since, .i n2, .i first, .i now, .i i, .i events, .i r, .i last, .i apart, .i gap, .i holes]) := by kernel_rfl
theorem FeedHoles_25_e (L15 : ({β : Type} → (Nat → List Leaf → Option β) → (List Leaf → Option β) → Nat → List Int → List Int → List Int → List Bool → List Int → Int → Bool → Int → Int → Int → Int → Bool → Int → Int → Int → Int → Int → Int → Int → Int → Int → Int → Int → Int → Int → Int → Int → Option β)) (L12 : ({β : Type} → (Nat → List Leaf → Option β) → (List Leaf → Option β) → Nat → List Int → List Int → List Int → List Bool → List Int → Int → Bool → Int → Int → Int → Int → Bool → Int → Int → Int → Int → Int → Int → Int → Int → Int → Int → Int → Int → Int → Int → Option β)) (L25 : ({β : Type} → (Nat → List Leaf → Option β) → (List Leaf → Option β) → Nat → List Int → List Int → List Int → List Bool → List Int → Int → Bool → Int → Int → Int → Int → Bool → Int → Int → Int → Int → Int → Int → Int → Int → Int → Int → Int → Option β)) {α : Type} (kx : Nat → List Leaf → Option α) (kr : List Leaf → Option α) (again : List Int → List Int → List Int → List Bool → List Int → Int → Bool → Int → Int → Int → Int → Bool → Int → Int → Int → Int → Int → Int → Int → Int → Int → Int → Int → Option α) (f_got_k : List Int) (f_got_v : List Int) (f_lost_k : List Int) (f_lost_v : List Bool) (f_closed : List Int) (f_r : Int) (f_any : Bool) (f_now : Int) (f_first : Int) (f_newest : Int) (f_count : Int) (f_event : Bool) (f_eventAt : Int) (f_eventN : Int) (f_bytes : Int) (f_since : Int) (k : Int) (n2 : Int) (first : Int) (now : Int) (events : Int) (gap : Int) (holes : Int) : FeedHoles_25_B  kx kr again f_got_k f_got_v f_lost_k f_lost_v f_closed f_r f_any f_now f_first f_newest f_count f_event f_eventAt f_eventN f_bytes f_since k n2 first now events gap holes = loopB G66 (FeedHoles_Λd @L15 @L12 @L25) false tab Go.Proofs.Tryz.f8.ntmps 0 FeedHoles_25_T [] FeedHoles_25_X FeedHoles_25_R (bodyAt (fb Go.Proofs.Tryz.f8) 2) (fun ls => un_li ls fun f_got_k rr => un_li rr fun f_got_v rr => un_li rr fun f_lost_k rr => un_lb rr fun f_lost_v rr => un_li rr fun f_closed rr => un_i rr fun f_r rr => un_b rr fun f_any rr => un_i rr fun f_now rr => un_i rr fun f_first rr => un_i rr fun f_newest rr => un_i rr fun f_count rr => un_b rr fun f_event rr => un_i rr fun f_eventAt rr => un_i rr fun f_eventN rr => un_i rr fun f_bytes rr => un_i rr fun f_since rr => un_i rr fun k rr => un_i rr fun n2 rr => un_i rr fun first rr => un_i rr fun now rr => un_i rr fun events rr => un_i rr fun gap rr => un_i rr fun holes rr => un_nil rr (again f_got_k f_got_v f_lost_k f_lost_v f_closed f_r f_any f_now f_first f_newest f_count f_event f_eventAt f_eventN f_bytes f_since k n2 first now events gap holes)) kx kr (instFr FeedHoles_25_T [.li f_got_k, .li f_got_v, .li f_lost_k, .lb f_lost_v, .li f_closed, .i f_r, .b f_any, .i f_now, .i f_first, .i f_newest, .i f_count, .b f_event, .i f_eventAt, .i f_eventN, .i f_bytes, .i f_since, .i k, .i n2, .i first, .i now, .i events, .i gap, .i holes]) (instH FeedHoles_25_T [.li f_got_k, .li f_got_v, .li f_lost_k, .lb f_lost_v, .li f_closed, .i f_r, .b f_any, .i f_now, .i f_first, .i f_newest, .i f_count, .b f_event, .i f_eventAt, .i f_eventN, .i f_bytes, .i f_since, .i k, .i n2, .i first, .i now, .i events, .i gap, .i holes]) := by kernel_rfl
theorem FeedHoles_25_lok (E : Nat → Prop) (w0 ws : World) (ρ0 : List Pl) (hk : ρ0.length = 0) : LOk Go.Proofs.Tryz.prog 8 Go.Proofs.Tryz.f8 false E w0 ws Go.Proofs.Tryz.f8.ntmps ρ0 FeedHoles_Λ (bodyAt (fb Go.Proofs.Tryz.f8) 2) := by
  refine lok mixed tab_ok g66 Go.Proofs.Tryz.func8 hk (T := FeedHoles_25_T) (rt := FeedHoles_25_R) (cuts := []) (ex := FeedHoles_25_X) (top := top) (F := FeedHoles_25_F @FeedHoles_25_L) (fun fr H kx kr => by kernel_rfl) ?_ ?_ ?_
  · intro α ls' kx' kr' r' h'
    unfold FeedHoles_25_F at h'
    obtain ⟨f_got_k, l'1, rfl, h'1⟩ := un_li_some.1 h'
    obtain ⟨f_got_v, l'2, rfl, h'2⟩ := un_li_some.1 h'1
    obtain ⟨f_lost_k, l'3, rfl, h'3⟩ := un_li_some.1 h'2
    obtain ⟨f_lost_v, l'4, rfl, h'4⟩ := un_lb_some.1 h'3
    obtain ⟨f_closed, l'5, rfl, h'5⟩ := un_li_some.1 h'4
    obtain ⟨f_r, l'6, rfl, h'6⟩ := un_i_some.1 h'5
    obtain ⟨f_any, l'7, rfl, h'7⟩ := un_b_some.1 h'6
    obtain ⟨f_now, l'8, rfl, h'8⟩ := un_i_some.1 h'7
    obtain ⟨f_first, l'9, rfl, h'9⟩ := un_i_some.1 h'8
    obtain ⟨f_newest, l'10, rfl, h'10⟩ := un_i_some.1 h'9
    obtain ⟨f_count, l'11, rfl, h'11⟩ := un_i_some.1 h'10
    obtain ⟨f_event, l'12, rfl, h'12⟩ := un_b_some.1 h'11
    obtain ⟨f_eventAt, l'13, rfl, h'13⟩ := un_i_some.1 h'12
    obtain ⟨f_eventN, l'14, rfl, h'14⟩ := un_i_some.1 h'13
    obtain ⟨f_bytes, l'15, rfl, h'15⟩ := un_i_some.1 h'14
    obtain ⟨f_since, l'16, rfl, h'16⟩ := un_i_some.1 h'15
    obtain ⟨k, l'17, rfl, h'17⟩ := un_i_some.1 h'16
    obtain ⟨n2, l'18, rfl, h'18⟩ := un_i_some.1 h'17
    obtain ⟨first, l'19, rfl, h'19⟩ := un_i_some.1 h'18
    obtain ⟨now, l'20, rfl, h'20⟩ := un_i_some.1 h'19
    obtain ⟨events, l'21, rfl, h'21⟩ := un_i_some.1 h'20
    obtain ⟨gap, l'22, rfl, h'22⟩ := un_i_some.1 h'21
    obtain ⟨holes, l'23, rfl, h'23⟩ := un_i_some.1 h'22
    obtain ⟨rfl, h'Z⟩ := un_nil_some.1 h'23
    cases h'Z
  · intro α n' ls' kx' kr' r' h'
    unfold FeedHoles_25_F at h'
    obtain ⟨f_got_k, l'1, rfl, h'1⟩ := un_li_some.1 h'
    obtain ⟨f_got_v, l'2, rfl, h'2⟩ := un_li_some.1 h'1
    obtain ⟨f_lost_k, l'3, rfl, h'3⟩ := un_li_some.1 h'2
    obtain ⟨f_lost_v, l'4, rfl, h'4⟩ := un_lb_some.1 h'3
    obtain ⟨f_closed, l'5, rfl, h'5⟩ := un_li_some.1 h'4
    obtain ⟨f_r, l'6, rfl, h'6⟩ := un_i_some.1 h'5
    obtain ⟨f_any, l'7, rfl, h'7⟩ := un_b_some.1 h'6
    obtain ⟨f_now, l'8, rfl, h'8⟩ := un_i_some.1 h'7
    obtain ⟨f_first, l'9, rfl, h'9⟩ := un_i_some.1 h'8
    obtain ⟨f_newest, l'10, rfl, h'10⟩ := un_i_some.1 h'9
    obtain ⟨f_count, l'11, rfl, h'11⟩ := un_i_some.1 h'10
    obtain ⟨f_event, l'12, rfl, h'12⟩ := un_b_some.1 h'11
    obtain ⟨f_eventAt, l'13, rfl, h'13⟩ := un_i_some.1 h'12
    obtain ⟨f_eventN, l'14, rfl, h'14⟩ := un_i_some.1 h'13
    obtain ⟨f_bytes, l'15, rfl, h'15⟩ := un_i_some.1 h'14
    obtain ⟨f_since, l'16, rfl, h'16⟩ := un_i_some.1 h'15
    obtain ⟨k, l'17, rfl, h'17⟩ := un_i_some.1 h'16
    obtain ⟨n2, l'18, rfl, h'18⟩ := un_i_some.1 h'17
    obtain ⟨first, l'19, rfl, h'19⟩ := un_i_some.1 h'18
    obtain ⟨now, l'20, rfl, h'20⟩ := un_i_some.1 h'19
    obtain ⟨events, l'21, rfl, h'21⟩ := un_i_some.1 h'20
    obtain ⟨gap, l'22, rfl, h'22⟩ := un_i_some.1 h'21
    obtain ⟨holes, l'23, rfl, h'23⟩ := un_i_some.1 h'22
    obtain ⟨rfl, h'Z⟩ := un_nil_some.1 h'23
    exact (FeedHoles_25_e @FeedHoles_15_L @FeedHoles_12_L @FeedHoles_25_L kx' kr' (FeedHoles_25_L kx' kr' n') f_got_k f_got_v f_lost_k f_lost_v f_closed f_r f_any f_now f_first f_newest f_count f_event f_eventAt f_eventN f_bytes f_since k n2 first now events gap holes).symm.trans h'Z
  · intro b' hb
    rw [show loopsOf (bodyAt (fb Go.Proofs.Tryz.f8) 2) = [] by kernel_rfl] at hb
    cases hb
theorem FeedHoles_15_lok (E : Nat → Prop) (w0 ws : World) (ρ0 : List Pl) (hk : ρ0.length = 0) : LOk Go.Proofs.Tryz.prog 8 Go.Proofs.Tryz.f8 false E w0 ws Go.Proofs.Tryz.f8.ntmps ρ0 FeedHoles_Λ (bodyAt (fb Go.Proofs.Tryz.f8) 1) := by
  refine lok mixed tab_ok g66 Go.Proofs.Tryz.func8 hk (T := FeedHoles_15_T) (rt := FeedHoles_15_R) (cuts := []) (ex := FeedHoles_15_X) (top := top) (F := FeedHoles_15_F @FeedHoles_15_L) (fun fr H kx kr => by kernel_rfl) ?_ ?_ ?_
  · intro α ls' kx' kr' r' h'
    unfold FeedHoles_15_F at h'
    obtain ⟨f_got_k, l'1, rfl, h'1⟩ := un_li_some.1 h'
    obtain ⟨f_got_v, l'2, rfl, h'2⟩ := un_li_some.1 h'1
    obtain ⟨f_lost_k, l'3, rfl, h'3⟩ := un_li_some.1 h'2
    obtain ⟨f_lost_v, l'4, rfl, h'4⟩ := un_lb_some.1 h'3
    obtain ⟨f_closed, l'5, rfl, h'5⟩ := un_li_some.1 h'4
    obtain ⟨f_r, l'6, rfl, h'6⟩ := un_i_some.1 h'5
    obtain ⟨f_any, l'7, rfl, h'7⟩ := un_b_some.1 h'6
    obtain ⟨f_now, l'8, rfl, h'8⟩ := un_i_some.1 h'7
    obtain ⟨f_first, l'9, rfl, h'9⟩ := un_i_some.1 h'8
    obtain ⟨f_newest, l'10, rfl, h'10⟩ := un_i_some.1 h'9
    obtain ⟨f_count, l'11, rfl, h'11⟩ := un_i_some.1 h'10
    obtain ⟨f_event, l'12, rfl, h'12⟩ := un_b_some.1 h'11
    obtain ⟨f_eventAt, l'13, rfl, h'13⟩ := un_i_some.1 h'12
    obtain ⟨f_eventN, l'14, rfl, h'14⟩ := un_i_some.1 h'13
    obtain ⟨f_bytes, l'15, rfl, h'15⟩ := un_i_some.1 h'14
    obtain ⟨f_since, l'16, rfl, h'16⟩ := un_i_some.1 h'15
    obtain ⟨k, l'17, rfl, h'17⟩ := un_i_some.1 h'16
    obtain ⟨n2, l'18, rfl, h'18⟩ := un_i_some.1 h'17
    obtain ⟨first, l'19, rfl, h'19⟩ := un_i_some.1 h'18
    obtain ⟨now, l'20, rfl, h'20⟩ := un_i_some.1 h'19
    obtain ⟨r, l'21, rfl, h'21⟩ := un_i_some.1 h'20
    obtain ⟨apart, l'22, rfl, h'22⟩ := un_i_some.1 h'21
    obtain ⟨gap, l'23, rfl, h'23⟩ := un_i_some.1 h'22
    obtain ⟨holes, l'24, rfl, h'24⟩ := un_i_some.1 h'23
    obtain ⟨i, l'25, rfl, h'25⟩ := un_i_some.1 h'24
    obtain ⟨events, l'26, rfl, h'26⟩ := un_i_some.1 h'25
    obtain ⟨last, l'27, rfl, h'27⟩ := un_i_some.1 h'26
    obtain ⟨rfl, h'Z⟩ := un_nil_some.1 h'27
    cases h'Z
  · intro α n' ls' kx' kr' r' h'
    unfold FeedHoles_15_F at h'
    obtain ⟨f_got_k, l'1, rfl, h'1⟩ := un_li_some.1 h'
    obtain ⟨f_got_v, l'2, rfl, h'2⟩ := un_li_some.1 h'1
    obtain ⟨f_lost_k, l'3, rfl, h'3⟩ := un_li_some.1 h'2
    obtain ⟨f_lost_v, l'4, rfl, h'4⟩ := un_lb_some.1 h'3
    obtain ⟨f_closed, l'5, rfl, h'5⟩ := un_li_some.1 h'4
    obtain ⟨f_r, l'6, rfl, h'6⟩ := un_i_some.1 h'5
    obtain ⟨f_any, l'7, rfl, h'7⟩ := un_b_some.1 h'6
    obtain ⟨f_now, l'8, rfl, h'8⟩ := un_i_some.1 h'7
    obtain ⟨f_first, l'9, rfl, h'9⟩ := un_i_some.1 h'8
    obtain ⟨f_newest, l'10, rfl, h'10⟩ := un_i_some.1 h'9
    obtain ⟨f_count, l'11, rfl, h'11⟩ := un_i_some.1 h'10
    obtain ⟨f_event, l'12, rfl, h'12⟩ := un_b_some.1 h'11
    obtain ⟨f_eventAt, l'13, rfl, h'13⟩ := un_i_some.1 h'12
    obtain ⟨f_eventN, l'14, rfl, h'14⟩ := un_i_some.1 h'13
    obtain ⟨f_bytes, l'15, rfl, h'15⟩ := un_i_some.1 h'14
    obtain ⟨f_since, l'16, rfl, h'16⟩ := un_i_some.1 h'15
    obtain ⟨k, l'17, rfl, h'17⟩ := un_i_some.1 h'16
    obtain ⟨n2, l'18, rfl, h'18⟩ := un_i_some.1 h'17
    obtain ⟨first, l'19, rfl, h'19⟩ := un_i_some.1 h'18
    obtain ⟨now, l'20, rfl, h'20⟩ := un_i_some.1 h'19
    obtain ⟨r, l'21, rfl, h'21⟩ := un_i_some.1 h'20
    obtain ⟨apart, l'22, rfl, h'22⟩ := un_i_some.1 h'21
    obtain ⟨gap, l'23, rfl, h'23⟩ := un_i_some.1 h'22
    obtain ⟨holes, l'24, rfl, h'24⟩ := un_i_some.1 h'23
    obtain ⟨i, l'25, rfl, h'25⟩ := un_i_some.1 h'24
    obtain ⟨events, l'26, rfl, h'26⟩ := un_i_some.1 h'25
    obtain ⟨last, l'27, rfl, h'27⟩ := un_i_some.1 h'26
    obtain ⟨rfl, h'Z⟩ := un_nil_some.1 h'27
    exact (FeedHoles_15_e @FeedHoles_15_L @FeedHoles_12_L @FeedHoles_25_L kx' kr' (FeedHoles_15_L kx' kr' n') f_got_k f_got_v f_lost_k f_lost_v f_closed f_r f_any f_now f_first f_newest f_count f_event f_eventAt f_eventN f_bytes f_since k n2 first now r apart gap holes i events last).symm.trans h'Z
  · intro b' hb
    rw [show loopsOf (bodyAt (fb Go.Proofs.Tryz.f8) 1) = [] by kernel_rfl] at hb
    cases hb
theorem FeedHoles_12_lok (E : Nat → Prop) (w0 ws : World) (ρ0 : List Pl) (hk : ρ0.length = 0) : LOk Go.Proofs.Tryz.prog 8 Go.Proofs.Tryz.f8 false E w0 ws Go.Proofs.Tryz.f8.ntmps ρ0 FeedHoles_Λ (bodyAt (fb Go.Proofs.Tryz.f8) 0) := by
  refine lok mixed tab_ok g66 Go.Proofs.Tryz.func8 hk (T := FeedHoles_12_T) (rt := FeedHoles_12_R) (cuts := []) (ex := FeedHoles_12_X) (top := top) (F := FeedHoles_12_F @FeedHoles_12_L) (fun fr H kx kr => by kernel_rfl) ?_ ?_ ?_
  · intro α ls' kx' kr' r' h'
    unfold FeedHoles_12_F at h'
    obtain ⟨f_got_k, l'1, rfl, h'1⟩ := un_li_some.1 h'
    obtain ⟨f_got_v, l'2, rfl, h'2⟩ := un_li_some.1 h'1
    obtain ⟨f_lost_k, l'3, rfl, h'3⟩ := un_li_some.1 h'2
    obtain ⟨f_lost_v, l'4, rfl, h'4⟩ := un_lb_some.1 h'3
    obtain ⟨f_closed, l'5, rfl, h'5⟩ := un_li_some.1 h'4
    obtain ⟨f_r, l'6, rfl, h'6⟩ := un_i_some.1 h'5
    obtain ⟨f_any, l'7, rfl, h'7⟩ := un_b_some.1 h'6
    obtain ⟨f_now, l'8, rfl, h'8⟩ := un_i_some.1 h'7
    obtain ⟨f_first, l'9, rfl, h'9⟩ := un_i_some.1 h'8
    obtain ⟨f_newest, l'10, rfl, h'10⟩ := un_i_some.1 h'9
    obtain ⟨f_count, l'11, rfl, h'11⟩ := un_i_some.1 h'10
    obtain ⟨f_event, l'12, rfl, h'12⟩ := un_b_some.1 h'11
    obtain ⟨f_eventAt, l'13, rfl, h'13⟩ := un_i_some.1 h'12
    obtain ⟨f_eventN, l'14, rfl, h'14⟩ := un_i_some.1 h'13
    obtain ⟨f_bytes, l'15, rfl, h'15⟩ := un_i_some.1 h'14
    obtain ⟨f_since, l'16, rfl, h'16⟩ := un_i_some.1 h'15
    obtain ⟨n2, l'17, rfl, h'17⟩ := un_i_some.1 h'16
    obtain ⟨first, l'18, rfl, h'18⟩ := un_i_some.1 h'17
    obtain ⟨now, l'19, rfl, h'19⟩ := un_i_some.1 h'18
    obtain ⟨i, l'20, rfl, h'20⟩ := un_i_some.1 h'19
    obtain ⟨events, l'21, rfl, h'21⟩ := un_i_some.1 h'20
    obtain ⟨r, l'22, rfl, h'22⟩ := un_i_some.1 h'21
    obtain ⟨last, l'23, rfl, h'23⟩ := un_i_some.1 h'22
    obtain ⟨apart, l'24, rfl, h'24⟩ := un_i_some.1 h'23
    obtain ⟨gap, l'25, rfl, h'25⟩ := un_i_some.1 h'24
    obtain ⟨holes, l'26, rfl, h'26⟩ := un_i_some.1 h'25
    obtain ⟨rfl, h'Z⟩ := un_nil_some.1 h'26
    cases h'Z
  · intro α n' ls' kx' kr' r' h'
    unfold FeedHoles_12_F at h'
    obtain ⟨f_got_k, l'1, rfl, h'1⟩ := un_li_some.1 h'
    obtain ⟨f_got_v, l'2, rfl, h'2⟩ := un_li_some.1 h'1
    obtain ⟨f_lost_k, l'3, rfl, h'3⟩ := un_li_some.1 h'2
    obtain ⟨f_lost_v, l'4, rfl, h'4⟩ := un_lb_some.1 h'3
    obtain ⟨f_closed, l'5, rfl, h'5⟩ := un_li_some.1 h'4
    obtain ⟨f_r, l'6, rfl, h'6⟩ := un_i_some.1 h'5
    obtain ⟨f_any, l'7, rfl, h'7⟩ := un_b_some.1 h'6
    obtain ⟨f_now, l'8, rfl, h'8⟩ := un_i_some.1 h'7
    obtain ⟨f_first, l'9, rfl, h'9⟩ := un_i_some.1 h'8
    obtain ⟨f_newest, l'10, rfl, h'10⟩ := un_i_some.1 h'9
    obtain ⟨f_count, l'11, rfl, h'11⟩ := un_i_some.1 h'10
    obtain ⟨f_event, l'12, rfl, h'12⟩ := un_b_some.1 h'11
    obtain ⟨f_eventAt, l'13, rfl, h'13⟩ := un_i_some.1 h'12
    obtain ⟨f_eventN, l'14, rfl, h'14⟩ := un_i_some.1 h'13
    obtain ⟨f_bytes, l'15, rfl, h'15⟩ := un_i_some.1 h'14
    obtain ⟨f_since, l'16, rfl, h'16⟩ := un_i_some.1 h'15
    obtain ⟨n2, l'17, rfl, h'17⟩ := un_i_some.1 h'16
    obtain ⟨first, l'18, rfl, h'18⟩ := un_i_some.1 h'17
    obtain ⟨now, l'19, rfl, h'19⟩ := un_i_some.1 h'18
    obtain ⟨i, l'20, rfl, h'20⟩ := un_i_some.1 h'19
    obtain ⟨events, l'21, rfl, h'21⟩ := un_i_some.1 h'20
    obtain ⟨r, l'22, rfl, h'22⟩ := un_i_some.1 h'21
    obtain ⟨last, l'23, rfl, h'23⟩ := un_i_some.1 h'22
    obtain ⟨apart, l'24, rfl, h'24⟩ := un_i_some.1 h'23
    obtain ⟨gap, l'25, rfl, h'25⟩ := un_i_some.1 h'24
    obtain ⟨holes, l'26, rfl, h'26⟩ := un_i_some.1 h'25
    obtain ⟨rfl, h'Z⟩ := un_nil_some.1 h'26
    exact (FeedHoles_12_e @FeedHoles_15_L @FeedHoles_12_L @FeedHoles_25_L kx' kr' (FeedHoles_12_L kx' kr' n') f_got_k f_got_v f_lost_k f_lost_v f_closed f_r f_any f_now f_first f_newest f_count f_event f_eventAt f_eventN f_bytes f_since n2 first now i events r last apart gap holes).symm.trans h'Z
  · intro b' hb
    rw [show loopsOf (bodyAt (fb Go.Proofs.Tryz.f8) 0) = [(bodyAt (fb Go.Proofs.Tryz.f8) 1)] by kernel_rfl] at hb
    simp only [List.mem_cons, List.mem_nil_iff, or_false] at hb
    rcases hb with rfl
    · exact FeedHoles_15_lok E w0 ws ρ0 hk
theorem FeedHoles_ed (L15 : ({β : Type} → (Nat → List Leaf → Option β) → (List Leaf → Option β) → Nat → List Int → List Int → List Int → List Bool → List Int → Int → Bool → Int → Int → Int → Int → Bool → Int → Int → Int → Int → Int → Int → Int → Int → Int → Int → Int → Int → Int → Int → Int → Option β)) (L12 : ({β : Type} → (Nat → List Leaf → Option β) → (List Leaf → Option β) → Nat → List Int → List Int → List Int → List Bool → List Int → Int → Bool → Int → Int → Int → Int → Bool → Int → Int → Int → Int → Int → Int → Int → Int → Int → Int → Int → Int → Int → Int → Option β)) (L25 : ({β : Type} → (Nat → List Leaf → Option β) → (List Leaf → Option β) → Nat → List Int → List Int → List Int → List Bool → List Int → Int → Bool → Int → Int → Int → Int → Bool → Int → Int → Int → Int → Int → Int → Int → Int → Int → Int → Int → Option β)) (first : Int) (gap : Int) (holes : Int) (apart : Int) : FeedHoles_d @L12 @L25 first gap holes apart = den G66 (FeedHoles_Λd @L15 @L12 @L25) false tab Go.Proofs.Tryz.f8.ntmps (fun fr H => finish tab 0 Go.Proofs.Tryz.f8.results.toList FeedHoles_out [] fr H some) (fun _ _ _ => none) (fun fr H => finish tab 0 Go.Proofs.Tryz.f8.results.toList FeedHoles_out [] fr H some) 10000 [.code (fb Go.Proofs.Tryz.f8)] (instFr FeedHoles_in [.i first, .i gap, .i holes, .i apart]) (instH FeedHoles_in [.i first, .i gap, .i holes, .i apart]) := by kernel_rfl
theorem FeedHoles_e (first : Int) (gap : Int) (holes : Int) (apart : Int) : FeedHoles first gap holes apart = den G66 FeedHoles_Λ false tab Go.Proofs.Tryz.f8.ntmps (fun fr H => finish tab 0 Go.Proofs.Tryz.f8.results.toList FeedHoles_out [] fr H some) (fun _ _ _ => none) (fun fr H => finish tab 0 Go.Proofs.Tryz.f8.results.toList FeedHoles_out [] fr H some) 10000 [.code (fb Go.Proofs.Tryz.f8)] (instFr FeedHoles_in [.i first, .i gap, .i holes, .i apart]) (instH FeedHoles_in [.i first, .i gap, .i holes, .i apart]) := FeedHoles_ed @FeedHoles_15_L @FeedHoles_12_L @FeedHoles_25_L first gap holes apart
def FeedHoles_S : List Leaf → Option (List Leaf) := fun ls => un_i ls fun first rr => un_i rr fun gap rr => un_i rr fun holes rr => un_i rr fun apart rr => un_nil rr (FeedHoles first gap holes apart)
def FeedHoles_SC : Tld := fun ls k' => un_i ls fun first rr => un_i rr fun gap rr => un_i rr fun holes rr => un_i rr fun apart rr => un_nil rr (out (FeedHoles first gap holes apart) k')
theorem FeedHoles_Se (first : Int) (gap : Int) (holes : Int) (apart : Int) : FeedHoles_S [.i first, .i gap, .i holes, .i apart] = FeedHoles first gap holes apart := by
  unfold FeedHoles_S
  simp only [un_i_ev, un_b_ev, un_s_ev, un_li_ev, un_lb_ev, un_ls_ev, un_nil_ev]
theorem FeedHoles_says : Says FeedHoles_SC FeedHoles_S := by
  intro β ls' k' r' h'
  unfold FeedHoles_SC at h'
  obtain ⟨first, l'1, rfl, h'1⟩ := un_i_some.1 h'
  obtain ⟨gap, l'2, rfl, h'2⟩ := un_i_some.1 h'1
  obtain ⟨holes, l'3, rfl, h'3⟩ := un_i_some.1 h'2
  obtain ⟨apart, l'4, rfl, h'4⟩ := un_i_some.1 h'3
  obtain ⟨rfl, h'Z⟩ := un_nil_some.1 h'4
  obtain ⟨l', a', b'⟩ := out_some.1 h'Z
  exact ⟨l', (FeedHoles_Se first gap holes apart).trans a', b'⟩
theorem FeedHoles_c : FnC Go.Proofs.Tryz.prog 8 false 4 0 FeedHoles_in FeedHoles_out FeedHoles_S := by
  refine fn_ok (Λ := FeedHoles_Λ) mixed tab_ok g66 Go.Proofs.Tryz.func8 (by kernel_rfl) (body := fb Go.Proofs.Tryz.f8) rfl (ts := Go.Proofs.Tryz.f8.results.toList) rfl (cuts := []) (by kernel_rfl) (Nat.le_of_ble_eq_true (by kernel_rfl)) (by kernel_rfl) (rt := .w (.at (.bool))) rfl ?_ ?_
  · intro ls' r' h'
    unfold FeedHoles_S at h'
    obtain ⟨first, l'1, rfl, h'1⟩ := un_i_some.1 h'
    obtain ⟨gap, l'2, rfl, h'2⟩ := un_i_some.1 h'1
    obtain ⟨holes, l'3, rfl, h'3⟩ := un_i_some.1 h'2
    obtain ⟨apart, l'4, rfl, h'4⟩ := un_i_some.1 h'3
    obtain ⟨rfl, h'Z⟩ := un_nil_some.1 h'4
    exact (FeedHoles_e first gap holes apart).symm.trans h'Z
  · intro E w0 ws ρ0 hk b hb
    rw [show loopsOf (fb Go.Proofs.Tryz.f8) = [(bodyAt (fb Go.Proofs.Tryz.f8) 0), (bodyAt (fb Go.Proofs.Tryz.f8) 1), (bodyAt (fb Go.Proofs.Tryz.f8) 2)] by kernel_rfl] at hb
    simp only [List.mem_cons, List.mem_nil_iff, or_false] at hb
    rcases hb with rfl | rfl | rfl
    · exact FeedHoles_12_lok E w0 ws ρ0 hk
    · exact FeedHoles_15_lok E w0 ws ρ0 hk
    · exact FeedHoles_25_lok E w0 ws ρ0 hk
noncomputable def G69 : Env := G66.addE 8 4 FeedHoles_in FeedHoles_out FeedHoles_SC
theorem g69 : EnvOk Go.Proofs.Tryz.prog G69 := EnvOk.addE g66 FeedHoles_c FeedHoles_says
end Go.Sx.T

