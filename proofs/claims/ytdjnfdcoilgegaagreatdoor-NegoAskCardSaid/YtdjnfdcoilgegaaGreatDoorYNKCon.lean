import Derived.Test.YtdjnfdcoilgegaaGreatDoorYNKSpec
import Derived.Test.YtdjnfdcoilgegaaGreatDoorYNegoCon
set_option linter.all false
noncomputable section
set_option maxRecDepth 100000
namespace Go.Sx.T
open Go Go.Sx Go.Proofs
set_option maxRecDepth 100000
noncomputable def G38 : Env := G37.addEqS 49 [.int .i64, .str]
theorem g38 : EnvOk Go.Proofs.Tryz.prog G38 := EnvOk.addEqS g37 tab_ok (by kernel_rfl) (by kernel_rfl) (by kernel_rfl) (by kernel_rfl)
noncomputable def G39 : Env := G38.addEqS 78 [.int .u8, .int .u8, .int .u8]
theorem g39 : EnvOk Go.Proofs.Tryz.prog G39 := EnvOk.addEqS g38 tab_ok (by kernel_rfl) (by kernel_rfl) (by kernel_rfl) (by kernel_rfl)

-- ### NegoAsk: function 4
def NegoAsk_in : Tm := ⟨[.ro 3 1 [.int .i64]], [(0, .w (.at (.all 0 1))), (1, .w (.at (.int .i64)))]⟩
def NegoAsk_out : Tm := ⟨[.dead], [(0, .w (.at (.bool)))]⟩
def NegoAsk_8_T : Tm := ⟨[.ro 3 1 [.int .i64], .map .i64 (.bool), .cells 102 [.bool, .map 3, .map 4, .map 5, .map 6, .all 7 2], .map .i64 (.str), .map .i64 (.str), .map .i64 (.str), .map .i64 (.str), .row 49 2 [.int .i64, .str], .row 3 1 [.int .i64]], [(9, .w (.at (.int .i64))), (7, .w (.at (.map 1))), (6, .w (.at (.ptr 2 0))), (0, .w (.at (.all 0 1))), (8, .w (.at (.all 8 1))), (1, .w (.at (.int .i64)))]⟩
def NegoAsk_8_X0 : Tm := ⟨[.ro 3 1 [.int .i64], .map .i64 (.bool), .cells 102 [.bool, .map 3, .map 4, .map 5, .map 6, .all 7 2], .map .i64 (.str), .map .i64 (.str), .map .i64 (.str), .map .i64 (.str), .row 49 2 [.int .i64, .str], .row 3 1 [.int .i64]], [(7, .w (.at (.map 1))), (6, .w (.at (.ptr 2 0))), (8, .w (.at (.all 8 1))), (1, .w (.at (.int .i64)))]⟩
def NegoAsk_8_X : Exits := [(0, (NegoAsk_8_X0, []))]
def NegoAsk_8_R : Tm := ⟨[.ro 3 1 [.int .i64]], [(4, .w (.at (.bool)))]⟩
def NegoAsk_20_T : Tm := ⟨[.ro 3 1 [.int .i64], .row 49 2 [.int .i64, .str], .map .i64 (.bool), .row 3 1 [.int .i64], .cells 102 [.bool, .map 5, .map 6, .map 7, .map 8, .all 9 2], .map .i64 (.str), .map .i64 (.str), .map .i64 (.str), .map .i64 (.str), .row 49 2 [.int .i64, .str]], [(63, .w (.at (.int .i64))), (13, .w (.at (.int .i64))), (12, .w (.at (.all 1 2))), (7, .w (.at (.map 2))), (61, .w (.at (.all 3 1))), (6, .w (.at (.ptr 4 0))), (8, .w (.at (.all 3 1))), (1, .w (.at (.int .i64))), (11, .w (.at (.int .i64))), (62, .w (.at (.int .i64)))]⟩
def NegoAsk_20_X4 : Tm := ⟨[.ro 3 1 [.int .i64], .map .i64 (.bool), .cells 102 [.bool, .map 3, .map 4, .map 5, .map 6, .all 7 2], .map .i64 (.str), .map .i64 (.str), .map .i64 (.str), .map .i64 (.str), .row 49 2 [.int .i64, .str], .row 3 1 [.int .i64], .row 49 2 [.int .i64, .str]], [(7, .w (.at (.map 1))), (6, .w (.at (.ptr 2 0))), (8, .w (.at (.all 8 1))), (1, .w (.at (.int .i64))), (11, .w (.at (.int .i64))), (12, .w (.at (.all 9 2))), (13, .w (.at (.int .i64)))]⟩
def NegoAsk_20_X : Exits := [(4, (NegoAsk_20_X4, []))]
def NegoAsk_20_R : Tm := ⟨[.ro 3 1 [.int .i64]], [(4, .w (.at (.bool)))]⟩
def NegoAsk_15_T : Tm := ⟨[.ro 3 1 [.int .i64], .map .i64 (.bool), .cells 102 [.bool, .map 3, .map 4, .map 5, .map 6, .all 7 2], .map .i64 (.str), .map .i64 (.str), .map .i64 (.str), .map .i64 (.str), .row 49 2 [.int .i64, .str], .row 3 1 [.int .i64]], [(7, .w (.at (.map 1))), (11, .w (.at (.int .i64))), (6, .w (.at (.ptr 2 0))), (8, .w (.at (.all 8 1))), (1, .w (.at (.int .i64)))]⟩
def NegoAsk_15_X2 : Tm := ⟨[.ro 3 1 [.int .i64], .map .i64 (.bool), .cells 102 [.bool, .map 3, .map 4, .map 5, .map 6, .all 7 2], .map .i64 (.str), .map .i64 (.str), .map .i64 (.str), .map .i64 (.str), .row 49 2 [.int .i64, .str]], [(7, .w (.at (.map 1))), (6, .w (.at (.ptr 2 0)))]⟩
def NegoAsk_15_X : Exits := [(2, (NegoAsk_15_X2, []))]
def NegoAsk_15_R : Tm := ⟨[.ro 3 1 [.int .i64]], [(4, .w (.at (.bool)))]⟩

def NegoAsk_Λd (L8 : ({β : Type} → (Nat → List Leaf → Option β) → (List Leaf → Option β) → Nat → List Int → List Int → List Bool → List Int → List ByteArray → List Int → List ByteArray → List Int → List ByteArray → List Int → List ByteArray → List Int → List ByteArray → List Int → Bool → Int → Int → Option β)) (L20 : ({β : Type} → (Nat → List Leaf → Option β) → (List Leaf → Option β) → Nat → List Int → List Int → List ByteArray → List Int → List Bool → List Int → List Int → List ByteArray → List Int → List ByteArray → List Int → List ByteArray → List Int → List ByteArray → List Int → List ByteArray → Bool → Int → Int → Int → Int → Int → Option β)) (L15 : ({β : Type} → (Nat → List Leaf → Option β) → (List Leaf → Option β) → Nat → List Int → List Int → List Bool → List Int → List ByteArray → List Int → List ByteArray → List Int → List ByteArray → List Int → List ByteArray → List Int → List ByteArray → List Int → Bool → Int → Int → Option β)) : Loops := ⟨fun b fr H kx kr => bif Nat.beq (rid b) 8 then loopE 1 NegoAsk_8_T [] NegoAsk_8_X NegoAsk_8_R (NegoAsk_8_F @L8 top) fr H kx kr else bif Nat.beq (rid b) 20 then loopE 1 NegoAsk_20_T [] NegoAsk_20_X NegoAsk_20_R (NegoAsk_20_F @L20 top) fr H kx kr else bif Nat.beq (rid b) 15 then loopE 1 NegoAsk_15_T [] NegoAsk_15_X NegoAsk_15_R (NegoAsk_15_F @L15 top) fr H kx kr else none⟩
def NegoAsk_Λ : Loops := NegoAsk_Λd @NegoAsk_8_L @NegoAsk_20_L @NegoAsk_15_L
theorem NegoAsk_8_e (L8 : ({β : Type} → (Nat → List Leaf → Option β) → (List Leaf → Option β) → Nat → List Int → List Int → List Bool → List Int → List ByteArray → List Int → List ByteArray → List Int → List ByteArray → List Int → List ByteArray → List Int → List ByteArray → List Int → Bool → Int → Int → Option β)) (L20 : ({β : Type} → (Nat → List Leaf → Option β) → (List Leaf → Option β) → Nat → List Int → List Int → List ByteArray → List Int → List Bool → List Int → List Int → List ByteArray → List Int → List ByteArray → List Int → List ByteArray → List Int → List ByteArray → List Int → List ByteArray → Bool → Int → Int → Int → Int → Int → Option β)) (L15 : ({β : Type} → (Nat → List Leaf → Option β) → (List Leaf → Option β) → Nat → List Int → List Int → List Bool → List Int → List ByteArray → List Int → List ByteArray → List Int → List ByteArray → List Int → List ByteArray → List Int → List ByteArray → List Int → Bool → Int → Int → Option β)) {α : Type} (kx : Nat → List Leaf → Option α) (kr : List Leaf → Option α) (again : List Int → List Int → List Bool → List Int → List ByteArray → List Int → List ByteArray → List Int → List ByteArray → List Int → List ByteArray → List Int → List ByteArray → List Int → Bool → Int → Int → Option α) (fs : List Int) (asked_k : List Int) (asked_v : List Bool) (n_want_k : List Int) (n_want_v : List ByteArray) (n_like_k : List Int) (n_like_v : List ByteArray) (n_mine_k : List Int) (n_mine_v : List ByteArray) (n_theirs_k : List Int) (n_theirs_v : List ByteArray) (n_due0 : List Int) (n_due1 : List ByteArray) (all : List Int) (n_server : Bool) (i : Int) (times : Int) : NegoAsk_8_B  kx kr again fs asked_k asked_v n_want_k n_want_v n_like_k n_like_v n_mine_k n_mine_v n_theirs_k n_theirs_v n_due0 n_due1 all n_server i times = loopB G39 (NegoAsk_Λd @L8 @L20 @L15) false tab Go.Proofs.Tryz.f4.ntmps 1 NegoAsk_8_T [] NegoAsk_8_X NegoAsk_8_R (bodyAt (fb Go.Proofs.Tryz.f4) 0) (fun ls => un_li ls fun fs rr => un_li rr fun asked_k rr => un_lb rr fun asked_v rr => un_li rr fun n_want_k rr => un_ls rr fun n_want_v rr => un_li rr fun n_like_k rr => un_ls rr fun n_like_v rr => un_li rr fun n_mine_k rr => un_ls rr fun n_mine_v rr => un_li rr fun n_theirs_k rr => un_ls rr fun n_theirs_v rr => un_li rr fun n_due0 rr => un_ls rr fun n_due1 rr => un_li rr fun all rr => un_b rr fun n_server rr => un_i rr fun i rr => un_i rr fun times rr => un_nil rr (again fs asked_k asked_v n_want_k n_want_v n_like_k n_like_v n_mine_k n_mine_v n_theirs_k n_theirs_v n_due0 n_due1 all n_server i times)) kx kr (instFr NegoAsk_8_T [.li fs, .li asked_k, .lb asked_v, .li n_want_k, .ls n_want_v, .li n_like_k, .ls n_like_v, .li n_mine_k, .ls n_mine_v, .li n_theirs_k, .ls n_theirs_v, .li n_due0, .ls n_due1, .li all, .b n_server, .i i, .i times]) (instH NegoAsk_8_T [.li fs, .li asked_k, .lb asked_v, .li n_want_k, .ls n_want_v, .li n_like_k, .ls n_like_v, .li n_mine_k, .ls n_mine_v, .li n_theirs_k, .ls n_theirs_v, .li n_due0, .ls n_due1, .li all, .b n_server, .i i, .i times]) := by kernel_rfl
theorem NegoAsk_20_e (L8 : ({β : Type} → (Nat → List Leaf → Option β) → (List Leaf → Option β) → Nat → List Int → List Int → List Bool → List Int → List ByteArray → List Int → List ByteArray → List Int → List ByteArray → List Int → List ByteArray → List Int → List ByteArray → List Int → Bool → Int → Int → Option β)) (L20 : ({β : Type} → (Nat → List Leaf → Option β) → (List Leaf → Option β) → Nat → List Int → List Int → List ByteArray → List Int → List Bool → List Int → List Int → List ByteArray → List Int → List ByteArray → List Int → List ByteArray → List Int → List ByteArray → List Int → List ByteArray → Bool → Int → Int → Int → Int → Int → Option β)) (L15 : ({β : Type} → (Nat → List Leaf → Option β) → (List Leaf → Option β) → Nat → List Int → List Int → List Bool → List Int → List ByteArray → List Int → List ByteArray → List Int → List ByteArray → List Int → List ByteArray → List Int → List ByteArray → List Int → Bool → Int → Int → Option β)) {α : Type} (kx : Nat → List Leaf → Option α) (kr : List Leaf → Option α) (again : List Int → List Int → List ByteArray → List Int → List Bool → List Int → List Int → List ByteArray → List Int → List ByteArray → List Int → List ByteArray → List Int → List ByteArray → List Int → List ByteArray → Bool → Int → Int → Int → Int → Int → Option α) (fs : List Int) (l0 : List Int) (l1 : List ByteArray) (asked_k : List Int) (asked_v : List Bool) (t61 : List Int) (n_want_k : List Int) (n_want_v : List ByteArray) (n_like_k : List Int) (n_like_v : List ByteArray) (n_mine_k : List Int) (n_mine_v : List ByteArray) (n_theirs_k : List Int) (n_theirs_v : List ByteArray) (n_due0 : List Int) (n_due1 : List ByteArray) (n_server : Bool) (t63 : Int) (i : Int) (times : Int) (k : Int) (t62 : Int) : NegoAsk_20_B  kx kr again fs l0 l1 asked_k asked_v t61 n_want_k n_want_v n_like_k n_like_v n_mine_k n_mine_v n_theirs_k n_theirs_v n_due0 n_due1 n_server t63 i times k t62 = loopB G39 (NegoAsk_Λd @L8 @L20 @L15) false tab Go.Proofs.Tryz.f4.ntmps 1 NegoAsk_20_T [] NegoAsk_20_X NegoAsk_20_R (bodyAt (fb Go.Proofs.Tryz.f4) 2) (fun ls => un_li ls fun fs rr => un_li rr fun l0 rr => un_ls rr fun l1 rr => un_li rr fun asked_k rr => un_lb rr fun asked_v rr => un_li rr fun t61 rr => un_li rr fun n_want_k rr => un_ls rr fun n_want_v rr => un_li rr fun n_like_k rr => un_ls rr fun n_like_v rr => un_li rr fun n_mine_k rr => un_ls rr fun n_mine_v rr => un_li rr fun n_theirs_k rr => un_ls rr fun n_theirs_v rr => un_li rr fun n_due0 rr => un_ls rr fun n_due1 rr => un_b rr fun n_server rr => un_i rr fun t63 rr => un_i rr fun i rr => un_i rr fun times rr => un_i rr fun k rr => un_i rr fun t62 rr => un_nil rr (again fs l0 l1 asked_k asked_v t61 n_want_k n_want_v n_like_k n_like_v n_mine_k n_mine_v n_theirs_k n_theirs_v n_due0 n_due1 n_server t63 i times k t62)) kx kr (instFr NegoAsk_20_T [.li fs, .li l0, .ls l1, .li asked_k, .lb asked_v, .li t61, .li n_want_k, .ls n_want_v, .li n_like_k, .ls n_like_v, .li n_mine_k, .ls n_mine_v, .li n_theirs_k, .ls n_theirs_v, .li n_due0, .ls n_due1, .b n_server, .i t63, .i i, .i times, .i k, .i t62]) (instH NegoAsk_20_T [.li fs, .li l0, .ls l1, .li asked_k, .lb asked_v, .li t61, .li n_want_k, .ls n_want_v, .li n_like_k, .ls n_like_v, .li n_mine_k, .ls n_mine_v, .li n_theirs_k, .ls n_theirs_v, .li n_due0, .ls n_due1, .b n_server, .i t63, .i i, .i times, .i k, .i t62]) := by kernel_rfl
theorem NegoAsk_15_e (L8 : ({β : Type} → (Nat → List Leaf → Option β) → (List Leaf → Option β) → Nat → List Int → List Int → List Bool → List Int → List ByteArray → List Int → List ByteArray → List Int → List ByteArray → List Int → List ByteArray → List Int → List ByteArray → List Int → Bool → Int → Int → Option β)) (L20 : ({β : Type} → (Nat → List Leaf → Option β) → (List Leaf → Option β) → Nat → List Int → List Int → List ByteArray → List Int → List Bool → List Int → List Int → List ByteArray → List Int → List ByteArray → List Int → List ByteArray → List Int → List ByteArray → List Int → List ByteArray → Bool → Int → Int → Int → Int → Int → Option β)) (L15 : ({β : Type} → (Nat → List Leaf → Option β) → (List Leaf → Option β) → Nat → List Int → List Int → List Bool → List Int → List ByteArray → List Int → List ByteArray → List Int → List ByteArray → List Int → List ByteArray → List Int → List ByteArray → List Int → Bool → Int → Int → Option β)) {α : Type} (kx : Nat → List Leaf → Option α) (kr : List Leaf → Option α) (again : List Int → List Int → List Bool → List Int → List ByteArray → List Int → List ByteArray → List Int → List ByteArray → List Int → List ByteArray → List Int → List ByteArray → List Int → Bool → Int → Int → Option α) (fs : List Int) (asked_k : List Int) (asked_v : List Bool) (n_want_k : List Int) (n_want_v : List ByteArray) (n_like_k : List Int) (n_like_v : List ByteArray) (n_mine_k : List Int) (n_mine_v : List ByteArray) (n_theirs_k : List Int) (n_theirs_v : List ByteArray) (n_due0 : List Int) (n_due1 : List ByteArray) (all : List Int) (n_server : Bool) (k : Int) (times : Int) : NegoAsk_15_B @L20 kx kr again fs asked_k asked_v n_want_k n_want_v n_like_k n_like_v n_mine_k n_mine_v n_theirs_k n_theirs_v n_due0 n_due1 all n_server k times = loopB G39 (NegoAsk_Λd @L8 @L20 @L15) false tab Go.Proofs.Tryz.f4.ntmps 1 NegoAsk_15_T [] NegoAsk_15_X NegoAsk_15_R (bodyAt (fb Go.Proofs.Tryz.f4) 1) (fun ls => un_li ls fun fs rr => un_li rr fun asked_k rr => un_lb rr fun asked_v rr => un_li rr fun n_want_k rr => un_ls rr fun n_want_v rr => un_li rr fun n_like_k rr => un_ls rr fun n_like_v rr => un_li rr fun n_mine_k rr => un_ls rr fun n_mine_v rr => un_li rr fun n_theirs_k rr => un_ls rr fun n_theirs_v rr => un_li rr fun n_due0 rr => un_ls rr fun n_due1 rr => un_li rr fun all rr => un_b rr fun n_server rr => un_i rr fun k rr => un_i rr fun times rr => un_nil rr (again fs asked_k asked_v n_want_k n_want_v n_like_k n_like_v n_mine_k n_mine_v n_theirs_k n_theirs_v n_due0 n_due1 all n_server k times)) kx kr (instFr NegoAsk_15_T [.li fs, .li asked_k, .lb asked_v, .li n_want_k, .ls n_want_v, .li n_like_k, .ls n_like_v, .li n_mine_k, .ls n_mine_v, .li n_theirs_k, .ls n_theirs_v, .li n_due0, .ls n_due1, .li all, .b n_server, .i k, .i times]) (instH NegoAsk_15_T [.li fs, .li asked_k, .lb asked_v, .li n_want_k, .ls n_want_v, .li n_like_k, .ls n_like_v, .li n_mine_k, .ls n_mine_v, .li n_theirs_k, .ls n_theirs_v, .li n_due0, .ls n_due1, .li all, .b n_server, .i k, .i times]) := by kernel_rfl
theorem NegoAsk_20_lok (E : Nat → Prop) (w0 ws : World) (ρ0 : List Pl) (hk : ρ0.length = 1) : LOk Go.Proofs.Tryz.prog 4 Go.Proofs.Tryz.f4 false E w0 ws Go.Proofs.Tryz.f4.ntmps ρ0 NegoAsk_Λ (bodyAt (fb Go.Proofs.Tryz.f4) 2) := by
  refine lok mixed tab_ok g39 Go.Proofs.Tryz.func4 hk (T := NegoAsk_20_T) (rt := NegoAsk_20_R) (cuts := []) (ex := NegoAsk_20_X) (top := top) (F := NegoAsk_20_F @NegoAsk_20_L) (fun fr H kx kr => by kernel_rfl) ?_ ?_ ?_
  · intro α ls' kx' kr' r' h'
    unfold NegoAsk_20_F at h'
    obtain ⟨fs, l'1, rfl, h'1⟩ := un_li_some.1 h'
    obtain ⟨l0, l'2, rfl, h'2⟩ := un_li_some.1 h'1
    obtain ⟨l1, l'3, rfl, h'3⟩ := un_ls_some.1 h'2
    obtain ⟨asked_k, l'4, rfl, h'4⟩ := un_li_some.1 h'3
    obtain ⟨asked_v, l'5, rfl, h'5⟩ := un_lb_some.1 h'4
    obtain ⟨t61, l'6, rfl, h'6⟩ := un_li_some.1 h'5
    obtain ⟨n_want_k, l'7, rfl, h'7⟩ := un_li_some.1 h'6
    obtain ⟨n_want_v, l'8, rfl, h'8⟩ := un_ls_some.1 h'7
    obtain ⟨n_like_k, l'9, rfl, h'9⟩ := un_li_some.1 h'8
    obtain ⟨n_like_v, l'10, rfl, h'10⟩ := un_ls_some.1 h'9
    obtain ⟨n_mine_k, l'11, rfl, h'11⟩ := un_li_some.1 h'10
    obtain ⟨n_mine_v, l'12, rfl, h'12⟩ := un_ls_some.1 h'11
    obtain ⟨n_theirs_k, l'13, rfl, h'13⟩ := un_li_some.1 h'12
    obtain ⟨n_theirs_v, l'14, rfl, h'14⟩ := un_ls_some.1 h'13
    obtain ⟨n_due0, l'15, rfl, h'15⟩ := un_li_some.1 h'14
    obtain ⟨n_due1, l'16, rfl, h'16⟩ := un_ls_some.1 h'15
    obtain ⟨n_server, l'17, rfl, h'17⟩ := un_b_some.1 h'16
    obtain ⟨t63, l'18, rfl, h'18⟩ := un_i_some.1 h'17
    obtain ⟨i, l'19, rfl, h'19⟩ := un_i_some.1 h'18
    obtain ⟨times, l'20, rfl, h'20⟩ := un_i_some.1 h'19
    obtain ⟨k, l'21, rfl, h'21⟩ := un_i_some.1 h'20
    obtain ⟨t62, l'22, rfl, h'22⟩ := un_i_some.1 h'21
    obtain ⟨rfl, h'Z⟩ := un_nil_some.1 h'22
    cases h'Z
  · intro α n' ls' kx' kr' r' h'
    unfold NegoAsk_20_F at h'
    obtain ⟨fs, l'1, rfl, h'1⟩ := un_li_some.1 h'
    obtain ⟨l0, l'2, rfl, h'2⟩ := un_li_some.1 h'1
    obtain ⟨l1, l'3, rfl, h'3⟩ := un_ls_some.1 h'2
    obtain ⟨asked_k, l'4, rfl, h'4⟩ := un_li_some.1 h'3
    obtain ⟨asked_v, l'5, rfl, h'5⟩ := un_lb_some.1 h'4
    obtain ⟨t61, l'6, rfl, h'6⟩ := un_li_some.1 h'5
    obtain ⟨n_want_k, l'7, rfl, h'7⟩ := un_li_some.1 h'6
    obtain ⟨n_want_v, l'8, rfl, h'8⟩ := un_ls_some.1 h'7
    obtain ⟨n_like_k, l'9, rfl, h'9⟩ := un_li_some.1 h'8
    obtain ⟨n_like_v, l'10, rfl, h'10⟩ := un_ls_some.1 h'9
    obtain ⟨n_mine_k, l'11, rfl, h'11⟩ := un_li_some.1 h'10
    obtain ⟨n_mine_v, l'12, rfl, h'12⟩ := un_ls_some.1 h'11
    obtain ⟨n_theirs_k, l'13, rfl, h'13⟩ := un_li_some.1 h'12
    obtain ⟨n_theirs_v, l'14, rfl, h'14⟩ := un_ls_some.1 h'13
    obtain ⟨n_due0, l'15, rfl, h'15⟩ := un_li_some.1 h'14
    obtain ⟨n_due1, l'16, rfl, h'16⟩ := un_ls_some.1 h'15
    obtain ⟨n_server, l'17, rfl, h'17⟩ := un_b_some.1 h'16
    obtain ⟨t63, l'18, rfl, h'18⟩ := un_i_some.1 h'17
    obtain ⟨i, l'19, rfl, h'19⟩ := un_i_some.1 h'18
    obtain ⟨times, l'20, rfl, h'20⟩ := un_i_some.1 h'19
    obtain ⟨k, l'21, rfl, h'21⟩ := un_i_some.1 h'20
    obtain ⟨t62, l'22, rfl, h'22⟩ := un_i_some.1 h'21
    obtain ⟨rfl, h'Z⟩ := un_nil_some.1 h'22
    exact (NegoAsk_20_e @NegoAsk_8_L @NegoAsk_20_L @NegoAsk_15_L kx' kr' (NegoAsk_20_L kx' kr' n') fs l0 l1 asked_k asked_v t61 n_want_k n_want_v n_like_k n_like_v n_mine_k n_mine_v n_theirs_k n_theirs_v n_due0 n_due1 n_server t63 i times k t62).symm.trans h'Z
  · intro b' hb
    rw [show loopsOf (bodyAt (fb Go.Proofs.Tryz.f4) 2) = [] by kernel_rfl] at hb
    cases hb
theorem NegoAsk_15_lok (E : Nat → Prop) (w0 ws : World) (ρ0 : List Pl) (hk : ρ0.length = 1) : LOk Go.Proofs.Tryz.prog 4 Go.Proofs.Tryz.f4 false E w0 ws Go.Proofs.Tryz.f4.ntmps ρ0 NegoAsk_Λ (bodyAt (fb Go.Proofs.Tryz.f4) 1) := by
  refine lok mixed tab_ok g39 Go.Proofs.Tryz.func4 hk (T := NegoAsk_15_T) (rt := NegoAsk_15_R) (cuts := []) (ex := NegoAsk_15_X) (top := top) (F := NegoAsk_15_F @NegoAsk_15_L) (fun fr H kx kr => by kernel_rfl) ?_ ?_ ?_
  · intro α ls' kx' kr' r' h'
    unfold NegoAsk_15_F at h'
    obtain ⟨fs, l'1, rfl, h'1⟩ := un_li_some.1 h'
    obtain ⟨asked_k, l'2, rfl, h'2⟩ := un_li_some.1 h'1
    obtain ⟨asked_v, l'3, rfl, h'3⟩ := un_lb_some.1 h'2
    obtain ⟨n_want_k, l'4, rfl, h'4⟩ := un_li_some.1 h'3
    obtain ⟨n_want_v, l'5, rfl, h'5⟩ := un_ls_some.1 h'4
    obtain ⟨n_like_k, l'6, rfl, h'6⟩ := un_li_some.1 h'5
    obtain ⟨n_like_v, l'7, rfl, h'7⟩ := un_ls_some.1 h'6
    obtain ⟨n_mine_k, l'8, rfl, h'8⟩ := un_li_some.1 h'7
    obtain ⟨n_mine_v, l'9, rfl, h'9⟩ := un_ls_some.1 h'8
    obtain ⟨n_theirs_k, l'10, rfl, h'10⟩ := un_li_some.1 h'9
    obtain ⟨n_theirs_v, l'11, rfl, h'11⟩ := un_ls_some.1 h'10
    obtain ⟨n_due0, l'12, rfl, h'12⟩ := un_li_some.1 h'11
    obtain ⟨n_due1, l'13, rfl, h'13⟩ := un_ls_some.1 h'12
    obtain ⟨all, l'14, rfl, h'14⟩ := un_li_some.1 h'13
    obtain ⟨n_server, l'15, rfl, h'15⟩ := un_b_some.1 h'14
    obtain ⟨k, l'16, rfl, h'16⟩ := un_i_some.1 h'15
    obtain ⟨times, l'17, rfl, h'17⟩ := un_i_some.1 h'16
    obtain ⟨rfl, h'Z⟩ := un_nil_some.1 h'17
    cases h'Z
  · intro α n' ls' kx' kr' r' h'
    unfold NegoAsk_15_F at h'
    obtain ⟨fs, l'1, rfl, h'1⟩ := un_li_some.1 h'
    obtain ⟨asked_k, l'2, rfl, h'2⟩ := un_li_some.1 h'1
    obtain ⟨asked_v, l'3, rfl, h'3⟩ := un_lb_some.1 h'2
    obtain ⟨n_want_k, l'4, rfl, h'4⟩ := un_li_some.1 h'3
    obtain ⟨n_want_v, l'5, rfl, h'5⟩ := un_ls_some.1 h'4
    obtain ⟨n_like_k, l'6, rfl, h'6⟩ := un_li_some.1 h'5
    obtain ⟨n_like_v, l'7, rfl, h'7⟩ := un_ls_some.1 h'6
    obtain ⟨n_mine_k, l'8, rfl, h'8⟩ := un_li_some.1 h'7
    obtain ⟨n_mine_v, l'9, rfl, h'9⟩ := un_ls_some.1 h'8
    obtain ⟨n_theirs_k, l'10, rfl, h'10⟩ := un_li_some.1 h'9
    obtain ⟨n_theirs_v, l'11, rfl, h'11⟩ := un_ls_some.1 h'10
    obtain ⟨n_due0, l'12, rfl, h'12⟩ := un_li_some.1 h'11
    obtain ⟨n_due1, l'13, rfl, h'13⟩ := un_ls_some.1 h'12
    obtain ⟨all, l'14, rfl, h'14⟩ := un_li_some.1 h'13
    obtain ⟨n_server, l'15, rfl, h'15⟩ := un_b_some.1 h'14
    obtain ⟨k, l'16, rfl, h'16⟩ := un_i_some.1 h'15
    obtain ⟨times, l'17, rfl, h'17⟩ := un_i_some.1 h'16
    obtain ⟨rfl, h'Z⟩ := un_nil_some.1 h'17
    exact (NegoAsk_15_e @NegoAsk_8_L @NegoAsk_20_L @NegoAsk_15_L kx' kr' (NegoAsk_15_L kx' kr' n') fs asked_k asked_v n_want_k n_want_v n_like_k n_like_v n_mine_k n_mine_v n_theirs_k n_theirs_v n_due0 n_due1 all n_server k times).symm.trans h'Z
  · intro b' hb
    rw [show loopsOf (bodyAt (fb Go.Proofs.Tryz.f4) 1) = [(bodyAt (fb Go.Proofs.Tryz.f4) 2)] by kernel_rfl] at hb
    simp only [List.mem_cons, List.mem_nil_iff, or_false] at hb
    rcases hb with rfl
    · exact NegoAsk_20_lok E w0 ws ρ0 hk
theorem NegoAsk_8_lok (E : Nat → Prop) (w0 ws : World) (ρ0 : List Pl) (hk : ρ0.length = 1) : LOk Go.Proofs.Tryz.prog 4 Go.Proofs.Tryz.f4 false E w0 ws Go.Proofs.Tryz.f4.ntmps ρ0 NegoAsk_Λ (bodyAt (fb Go.Proofs.Tryz.f4) 0) := by
  refine lok mixed tab_ok g39 Go.Proofs.Tryz.func4 hk (T := NegoAsk_8_T) (rt := NegoAsk_8_R) (cuts := []) (ex := NegoAsk_8_X) (top := top) (F := NegoAsk_8_F @NegoAsk_8_L) (fun fr H kx kr => by kernel_rfl) ?_ ?_ ?_
  · intro α ls' kx' kr' r' h'
    unfold NegoAsk_8_F at h'
    obtain ⟨fs, l'1, rfl, h'1⟩ := un_li_some.1 h'
    obtain ⟨asked_k, l'2, rfl, h'2⟩ := un_li_some.1 h'1
    obtain ⟨asked_v, l'3, rfl, h'3⟩ := un_lb_some.1 h'2
    obtain ⟨n_want_k, l'4, rfl, h'4⟩ := un_li_some.1 h'3
    obtain ⟨n_want_v, l'5, rfl, h'5⟩ := un_ls_some.1 h'4
    obtain ⟨n_like_k, l'6, rfl, h'6⟩ := un_li_some.1 h'5
    obtain ⟨n_like_v, l'7, rfl, h'7⟩ := un_ls_some.1 h'6
    obtain ⟨n_mine_k, l'8, rfl, h'8⟩ := un_li_some.1 h'7
    obtain ⟨n_mine_v, l'9, rfl, h'9⟩ := un_ls_some.1 h'8
    obtain ⟨n_theirs_k, l'10, rfl, h'10⟩ := un_li_some.1 h'9
    obtain ⟨n_theirs_v, l'11, rfl, h'11⟩ := un_ls_some.1 h'10
    obtain ⟨n_due0, l'12, rfl, h'12⟩ := un_li_some.1 h'11
    obtain ⟨n_due1, l'13, rfl, h'13⟩ := un_ls_some.1 h'12
    obtain ⟨all, l'14, rfl, h'14⟩ := un_li_some.1 h'13
    obtain ⟨n_server, l'15, rfl, h'15⟩ := un_b_some.1 h'14
    obtain ⟨i, l'16, rfl, h'16⟩ := un_i_some.1 h'15
    obtain ⟨times, l'17, rfl, h'17⟩ := un_i_some.1 h'16
    obtain ⟨rfl, h'Z⟩ := un_nil_some.1 h'17
    cases h'Z
  · intro α n' ls' kx' kr' r' h'
    unfold NegoAsk_8_F at h'
    obtain ⟨fs, l'1, rfl, h'1⟩ := un_li_some.1 h'
    obtain ⟨asked_k, l'2, rfl, h'2⟩ := un_li_some.1 h'1
    obtain ⟨asked_v, l'3, rfl, h'3⟩ := un_lb_some.1 h'2
    obtain ⟨n_want_k, l'4, rfl, h'4⟩ := un_li_some.1 h'3
    obtain ⟨n_want_v, l'5, rfl, h'5⟩ := un_ls_some.1 h'4
    obtain ⟨n_like_k, l'6, rfl, h'6⟩ := un_li_some.1 h'5
    obtain ⟨n_like_v, l'7, rfl, h'7⟩ := un_ls_some.1 h'6
    obtain ⟨n_mine_k, l'8, rfl, h'8⟩ := un_li_some.1 h'7
    obtain ⟨n_mine_v, l'9, rfl, h'9⟩ := un_ls_some.1 h'8
    obtain ⟨n_theirs_k, l'10, rfl, h'10⟩ := un_li_some.1 h'9
    obtain ⟨n_theirs_v, l'11, rfl, h'11⟩ := un_ls_some.1 h'10
    obtain ⟨n_due0, l'12, rfl, h'12⟩ := un_li_some.1 h'11
    obtain ⟨n_due1, l'13, rfl, h'13⟩ := un_ls_some.1 h'12
    obtain ⟨all, l'14, rfl, h'14⟩ := un_li_some.1 h'13
    obtain ⟨n_server, l'15, rfl, h'15⟩ := un_b_some.1 h'14
    obtain ⟨i, l'16, rfl, h'16⟩ := un_i_some.1 h'15
    obtain ⟨times, l'17, rfl, h'17⟩ := un_i_some.1 h'16
    obtain ⟨rfl, h'Z⟩ := un_nil_some.1 h'17
    exact (NegoAsk_8_e @NegoAsk_8_L @NegoAsk_20_L @NegoAsk_15_L kx' kr' (NegoAsk_8_L kx' kr' n') fs asked_k asked_v n_want_k n_want_v n_like_k n_like_v n_mine_k n_mine_v n_theirs_k n_theirs_v n_due0 n_due1 all n_server i times).symm.trans h'Z
  · intro b' hb
    rw [show loopsOf (bodyAt (fb Go.Proofs.Tryz.f4) 0) = [] by kernel_rfl] at hb
    cases hb
theorem NegoAsk_ed (L8 : ({β : Type} → (Nat → List Leaf → Option β) → (List Leaf → Option β) → Nat → List Int → List Int → List Bool → List Int → List ByteArray → List Int → List ByteArray → List Int → List ByteArray → List Int → List ByteArray → List Int → List ByteArray → List Int → Bool → Int → Int → Option β)) (L20 : ({β : Type} → (Nat → List Leaf → Option β) → (List Leaf → Option β) → Nat → List Int → List Int → List ByteArray → List Int → List Bool → List Int → List Int → List ByteArray → List Int → List ByteArray → List Int → List ByteArray → List Int → List ByteArray → List Int → List ByteArray → Bool → Int → Int → Int → Int → Int → Option β)) (L15 : ({β : Type} → (Nat → List Leaf → Option β) → (List Leaf → Option β) → Nat → List Int → List Int → List Bool → List Int → List ByteArray → List Int → List ByteArray → List Int → List ByteArray → List Int → List ByteArray → List Int → List ByteArray → List Int → Bool → Int → Int → Option β)) (fs : List Int) (times : Int) : NegoAsk_d @L8 @L15 fs times = den G39 (NegoAsk_Λd @L8 @L20 @L15) false tab Go.Proofs.Tryz.f4.ntmps (fun fr H => finish tab 1 Go.Proofs.Tryz.f4.results.toList NegoAsk_out [] fr H some) (fun _ _ _ => none) (fun fr H => finish tab 1 Go.Proofs.Tryz.f4.results.toList NegoAsk_out [] fr H some) 10000 [.code (fb Go.Proofs.Tryz.f4)] (instFr NegoAsk_in [.li fs, .i times]) (instH NegoAsk_in [.li fs, .i times]) := by kernel_rfl
theorem NegoAsk_e (fs : List Int) (times : Int) : NegoAsk fs times = den G39 NegoAsk_Λ false tab Go.Proofs.Tryz.f4.ntmps (fun fr H => finish tab 1 Go.Proofs.Tryz.f4.results.toList NegoAsk_out [] fr H some) (fun _ _ _ => none) (fun fr H => finish tab 1 Go.Proofs.Tryz.f4.results.toList NegoAsk_out [] fr H some) 10000 [.code (fb Go.Proofs.Tryz.f4)] (instFr NegoAsk_in [.li fs, .i times]) (instH NegoAsk_in [.li fs, .i times]) := NegoAsk_ed @NegoAsk_8_L @NegoAsk_20_L @NegoAsk_15_L fs times
def NegoAsk_S : List Leaf → Option (List Leaf) := fun ls => un_li ls fun fs rr => un_i rr fun times rr => un_nil rr (NegoAsk fs times)
def NegoAsk_SC : Tld := fun ls k' => un_li ls fun fs rr => un_i rr fun times rr => un_nil rr (out (NegoAsk fs times) k')
theorem NegoAsk_Se (fs : List Int) (times : Int) : NegoAsk_S [.li fs, .i times] = NegoAsk fs times := by
  unfold NegoAsk_S
  simp only [un_i_ev, un_b_ev, un_s_ev, un_li_ev, un_lb_ev, un_ls_ev, un_nil_ev]
theorem NegoAsk_says : Says NegoAsk_SC NegoAsk_S := by
  intro β ls' k' r' h'
  unfold NegoAsk_SC at h'
  obtain ⟨fs, l'1, rfl, h'1⟩ := un_li_some.1 h'
  obtain ⟨times, l'2, rfl, h'2⟩ := un_i_some.1 h'1
  obtain ⟨rfl, h'Z⟩ := un_nil_some.1 h'2
  obtain ⟨l', a', b'⟩ := out_some.1 h'Z
  exact ⟨l', (NegoAsk_Se fs times).trans a', b'⟩
theorem NegoAsk_c : FnC Go.Proofs.Tryz.prog 4 false 2 1 NegoAsk_in NegoAsk_out NegoAsk_S := by
  refine fn_ok (Λ := NegoAsk_Λ) mixed tab_ok g39 Go.Proofs.Tryz.func4 (by kernel_rfl) (body := fb Go.Proofs.Tryz.f4) rfl (ts := Go.Proofs.Tryz.f4.results.toList) rfl (cuts := []) (by kernel_rfl) (Nat.le_of_ble_eq_true (by kernel_rfl)) (by kernel_rfl) (rt := .w (.at (.bool))) rfl ?_ ?_
  · intro ls' r' h'
    unfold NegoAsk_S at h'
    obtain ⟨fs, l'1, rfl, h'1⟩ := un_li_some.1 h'
    obtain ⟨times, l'2, rfl, h'2⟩ := un_i_some.1 h'1
    obtain ⟨rfl, h'Z⟩ := un_nil_some.1 h'2
    exact (NegoAsk_e fs times).symm.trans h'Z
  · intro E w0 ws ρ0 hk b hb
    rw [show loopsOf (fb Go.Proofs.Tryz.f4) = [(bodyAt (fb Go.Proofs.Tryz.f4) 0), (bodyAt (fb Go.Proofs.Tryz.f4) 1), (bodyAt (fb Go.Proofs.Tryz.f4) 2)] by kernel_rfl] at hb
    simp only [List.mem_cons, List.mem_nil_iff, or_false] at hb
    rcases hb with rfl | rfl | rfl
    · exact NegoAsk_8_lok E w0 ws ρ0 hk
    · exact NegoAsk_15_lok E w0 ws ρ0 hk
    · exact NegoAsk_20_lok E w0 ws ρ0 hk
noncomputable def G40 : Env := G39.addE 4 2 NegoAsk_in NegoAsk_out NegoAsk_SC
theorem g40 : EnvOk Go.Proofs.Tryz.prog G40 := EnvOk.addE g39 NegoAsk_c NegoAsk_says
end Go.Sx.T

