import Derived.Test.YtllgbgponmkijaaGreatDoorYPBSpec
import Derived.Test.YtllgbgponmkijaaGreatDoorYPWCon
set_option linter.all false
namespace Go.Sx.T
open Go Go.Sx Go.Proofs
set_option maxRecDepth 100000

-- ### PaceBound: function 7
def PaceBound_in : Tm := ⟨[.ro 39 4 [.int .i64, .int .i64, .int .u64, .int .i64]], [(0, .w (.at (.int .i64))), (1, .w (.at (.all 0 4)))]⟩
def PaceBound_out : Tm := ⟨[.dead], [(0, .w (.at (.bool)))]⟩
def PaceBound_26_T : Tm := ⟨[.ro 39 4 [.int .i64, .int .i64, .int .u64, .int .i64], .cells 44 [.int .u64, .int .u64], .row 44 2 [.int .u64, .int .u64], .cells 104 [.int .u64, .int .u64, .int .u64, .int .u64, .int .i64]], [(102, .w (.at (.int .i64))), (11, .w (.at (.int .u64))), (9, .w (.at (.ptr 1 0))), (100, .w (.at (.all 2 2))), (6, .w (.at (.ptr 3 0))), (1, .w (.at (.all 0 4))), (10, .w (.at (.int .u64))), (7, .w (.at (.int .i64))), (36, .w (.at (.bool))), (35, .w (.at (.int .i64))), (12, .w (.at (.int .i64))), (8, .w (.at (.all 2 2))), (101, .w (.at (.int .i64)))]⟩
def PaceBound_26_X2 : Tm := ⟨[.ro 39 4 [.int .i64, .int .i64, .int .u64, .int .i64], .cells 44 [.int .u64, .int .u64], .cells 104 [.int .u64, .int .u64, .int .u64, .int .u64, .int .i64], .row 44 2 [.int .u64, .int .u64]], [(9, .w (.at (.ptr 1 0))), (6, .w (.at (.ptr 2 0))), (11, .w (.at (.int .u64))), (1, .w (.at (.all 0 4))), (10, .w (.at (.int .u64))), (7, .w (.at (.int .i64))), (36, .w (.at (.bool))), (35, .w (.at (.int .i64))), (12, .w (.at (.int .i64))), (8, .w (.at (.all 3 2)))]⟩
def PaceBound_26_X : Exits := [(2, (PaceBound_26_X2, []))]
def PaceBound_26_R : Tm := ⟨[.ro 39 4 [.int .i64, .int .i64, .int .u64, .int .i64]], [(4, .w (.at (.bool)))]⟩
def PaceBound_11_T : Tm := ⟨[.ro 39 4 [.int .i64, .int .i64, .int .u64, .int .i64], .cells 44 [.int .u64, .int .u64], .row 44 2 [.int .u64, .int .u64], .cells 104 [.int .u64, .int .u64, .int .u64, .int .u64, .int .i64]], [(9, .w (.at (.ptr 1 0))), (12, .w (.at (.int .i64))), (8, .w (.at (.all 2 2))), (6, .w (.at (.ptr 3 0))), (11, .w (.at (.int .u64))), (1, .w (.at (.all 0 4))), (10, .w (.at (.int .u64))), (7, .w (.at (.int .i64)))]⟩
def PaceBound_11_X0 : Tm := ⟨[.ro 39 4 [.int .i64, .int .i64, .int .u64, .int .i64]], []⟩
def PaceBound_11_X : Exits := [(0, (PaceBound_11_X0, []))]
def PaceBound_11_R : Tm := ⟨[.ro 39 4 [.int .i64, .int .i64, .int .u64, .int .i64]], [(4, .w (.at (.bool)))]⟩

def PaceBound_Λd (L26 : ({β : Type} → (Nat → List Leaf → Option β) → (List Leaf → Option β) → Nat → List Int → List Int → List Int → List Int → List Int → List Int → Int → Int → Int → Int → Int → Int → Int → Int → Int → Int → Int → Bool → Int → Int → Int → Option β)) (L11 : ({β : Type} → (Nat → List Leaf → Option β) → (List Leaf → Option β) → Nat → List Int → List Int → List Int → List Int → List Int → List Int → Int → Int → Int → Int → Int → Int → Int → Int → Int → Int → Int → Option β)) : Loops := ⟨fun b fr H kx kr => bif Nat.beq (rid b) 26 then loopE 1 PaceBound_26_T [] PaceBound_26_X PaceBound_26_R (PaceBound_26_F @L26 top) fr H kx kr else bif Nat.beq (rid b) 11 then loopE 1 PaceBound_11_T [] PaceBound_11_X PaceBound_11_R (PaceBound_11_F @L11 top) fr H kx kr else none⟩
def PaceBound_Λ : Loops := PaceBound_Λd @PaceBound_26_L @PaceBound_11_L
theorem PaceBound_26_e (L26 : ({β : Type} → (Nat → List Leaf → Option β) → (List Leaf → Option β) → Nat → List Int → List Int → List Int → List Int → List Int → List Int → Int → Int → Int → Int → Int → Int → Int → Int → Int → Int → Int → Bool → Int → Int → Int → Option β)) (L11 : ({β : Type} → (Nat → List Leaf → Option β) → (List Leaf → Option β) → Nat → List Int → List Int → List Int → List Int → List Int → List Int → Int → Int → Int → Int → Int → Int → Int → Int → Int → Int → Int → Option β)) {α : Type} (kx : Nat → List Leaf → Option α) (kr : List Leaf → Option α) (again : List Int → List Int → List Int → List Int → List Int → List Int → Int → Int → Int → Int → Int → Int → Int → Int → Int → Int → Int → Bool → Int → Int → Int → Option α) (ops0 : List Int) (ops1 : List Int) (ops2 : List Int) (ops3 : List Int) (t1000 : List Int) (t1001 : List Int) (m_given : Int) (m_taken : Int) (p_s : Int) (p_tick : Int) (p_has : Int) (p_rate : Int) (p_now : Int) (t102 : Int) (most : Int) (x : Int) (now : Int) (t36 : Bool) (t35 : Int) (i : Int) (t101 : Int) : PaceBound_26_B  kx kr again ops0 ops1 ops2 ops3 t1000 t1001 m_given m_taken p_s p_tick p_has p_rate p_now t102 most x now t36 t35 i t101 = loopB G32 (PaceBound_Λd @L26 @L11) false tab Go.Proofs.Tryz.f7.ntmps 1 PaceBound_26_T [] PaceBound_26_X PaceBound_26_R (bodyAt (fb Go.Proofs.Tryz.f7) 1) (fun ls => un_li ls fun ops0 rr => un_li rr fun ops1 rr => un_li rr fun ops2 rr => un_li rr fun ops3 rr => un_li rr fun t1000 rr => un_li rr fun t1001 rr => un_i rr fun m_given rr => un_i rr fun m_taken rr => un_i rr fun p_s rr => un_i rr fun p_tick rr => un_i rr fun p_has rr => un_i rr fun p_rate rr => un_i rr fun p_now rr => un_i rr fun t102 rr => un_i rr fun most rr => un_i rr fun x rr => un_i rr fun now rr => un_b rr fun t36 rr => un_i rr fun t35 rr => un_i rr fun i rr => un_i rr fun t101 rr => un_nil rr (again ops0 ops1 ops2 ops3 t1000 t1001 m_given m_taken p_s p_tick p_has p_rate p_now t102 most x now t36 t35 i t101)) kx kr (instFr PaceBound_26_T [.li ops0, .li ops1, .li ops2, .li ops3, .li t1000, .li t1001, .i m_given, .i m_taken, .i p_s, .i p_tick, .i p_has, .i p_rate, .i p_now, .i t102, .i most, .i x, .i now, .b t36, .i t35, .i i, .i t101]) (instH PaceBound_26_T [.li ops0, .li ops1, .li ops2, .li ops3, .li t1000, .li t1001, .i m_given, .i m_taken, .i p_s, .i p_tick, .i p_has, .i p_rate, .i p_now, .i t102, .i most, .i x, .i now, .b t36, .i t35, .i i, .i t101]) := by kernel_rfl
theorem PaceBound_11_e (L26 : ({β : Type} → (Nat → List Leaf → Option β) → (List Leaf → Option β) → Nat → List Int → List Int → List Int → List Int → List Int → List Int → Int → Int → Int → Int → Int → Int → Int → Int → Int → Int → Int → Bool → Int → Int → Int → Option β)) (L11 : ({β : Type} → (Nat → List Leaf → Option β) → (List Leaf → Option β) → Nat → List Int → List Int → List Int → List Int → List Int → List Int → Int → Int → Int → Int → Int → Int → Int → Int → Int → Int → Int → Option β)) {α : Type} (kx : Nat → List Leaf → Option α) (kr : List Leaf → Option α) (again : List Int → List Int → List Int → List Int → List Int → List Int → Int → Int → Int → Int → Int → Int → Int → Int → Int → Int → Int → Option α) (ops0 : List Int) (ops1 : List Int) (ops2 : List Int) (ops3 : List Int) (l0 : List Int) (l1 : List Int) (m_given : Int) (m_taken : Int) (p_s : Int) (p_tick : Int) (p_has : Int) (p_rate : Int) (p_now : Int) (i : Int) (most : Int) (x : Int) (now : Int) : PaceBound_11_B @L26 kx kr again ops0 ops1 ops2 ops3 l0 l1 m_given m_taken p_s p_tick p_has p_rate p_now i most x now = loopB G32 (PaceBound_Λd @L26 @L11) false tab Go.Proofs.Tryz.f7.ntmps 1 PaceBound_11_T [] PaceBound_11_X PaceBound_11_R (bodyAt (fb Go.Proofs.Tryz.f7) 0) (fun ls => un_li ls fun ops0 rr => un_li rr fun ops1 rr => un_li rr fun ops2 rr => un_li rr fun ops3 rr => un_li rr fun l0 rr => un_li rr fun l1 rr => un_i rr fun m_given rr => un_i rr fun m_taken rr => un_i rr fun p_s rr => un_i rr fun p_tick rr => un_i rr fun p_has rr => un_i rr fun p_rate rr => un_i rr fun p_now rr => un_i rr fun i rr => un_i rr fun most rr => un_i rr fun x rr => un_i rr fun now rr => un_nil rr (again ops0 ops1 ops2 ops3 l0 l1 m_given m_taken p_s p_tick p_has p_rate p_now i most x now)) kx kr (instFr PaceBound_11_T [.li ops0, .li ops1, .li ops2, .li ops3, .li l0, .li l1, .i m_given, .i m_taken, .i p_s, .i p_tick, .i p_has, .i p_rate, .i p_now, .i i, .i most, .i x, .i now]) (instH PaceBound_11_T [.li ops0, .li ops1, .li ops2, .li ops3, .li l0, .li l1, .i m_given, .i m_taken, .i p_s, .i p_tick, .i p_has, .i p_rate, .i p_now, .i i, .i most, .i x, .i now]) := by kernel_rfl
theorem PaceBound_26_lok (E : Nat → Prop) (w0 ws : World) (ρ0 : List Pl) (hk : ρ0.length = 1) : LOk Go.Proofs.Tryz.prog 7 Go.Proofs.Tryz.f7 false E w0 ws Go.Proofs.Tryz.f7.ntmps ρ0 PaceBound_Λ (bodyAt (fb Go.Proofs.Tryz.f7) 1) := by
  refine lok mixed tab_ok g32 Go.Proofs.Tryz.func7 hk (T := PaceBound_26_T) (rt := PaceBound_26_R) (cuts := []) (ex := PaceBound_26_X) (top := top) (F := PaceBound_26_F @PaceBound_26_L) (fun fr H kx kr => by kernel_rfl) ?_ ?_ ?_
  · intro α ls' kx' kr' r' h'
    unfold PaceBound_26_F at h'
    obtain ⟨ops0, l'1, rfl, h'1⟩ := un_li_some.1 h'
    obtain ⟨ops1, l'2, rfl, h'2⟩ := un_li_some.1 h'1
    obtain ⟨ops2, l'3, rfl, h'3⟩ := un_li_some.1 h'2
    obtain ⟨ops3, l'4, rfl, h'4⟩ := un_li_some.1 h'3
    obtain ⟨t1000, l'5, rfl, h'5⟩ := un_li_some.1 h'4
    obtain ⟨t1001, l'6, rfl, h'6⟩ := un_li_some.1 h'5
    obtain ⟨m_given, l'7, rfl, h'7⟩ := un_i_some.1 h'6
    obtain ⟨m_taken, l'8, rfl, h'8⟩ := un_i_some.1 h'7
    obtain ⟨p_s, l'9, rfl, h'9⟩ := un_i_some.1 h'8
    obtain ⟨p_tick, l'10, rfl, h'10⟩ := un_i_some.1 h'9
    obtain ⟨p_has, l'11, rfl, h'11⟩ := un_i_some.1 h'10
    obtain ⟨p_rate, l'12, rfl, h'12⟩ := un_i_some.1 h'11
    obtain ⟨p_now, l'13, rfl, h'13⟩ := un_i_some.1 h'12
    obtain ⟨t102, l'14, rfl, h'14⟩ := un_i_some.1 h'13
    obtain ⟨most, l'15, rfl, h'15⟩ := un_i_some.1 h'14
    obtain ⟨x, l'16, rfl, h'16⟩ := un_i_some.1 h'15
    obtain ⟨now, l'17, rfl, h'17⟩ := un_i_some.1 h'16
    obtain ⟨t36, l'18, rfl, h'18⟩ := un_b_some.1 h'17
    obtain ⟨t35, l'19, rfl, h'19⟩ := un_i_some.1 h'18
    obtain ⟨i, l'20, rfl, h'20⟩ := un_i_some.1 h'19
    obtain ⟨t101, l'21, rfl, h'21⟩ := un_i_some.1 h'20
    obtain ⟨rfl, h'Z⟩ := un_nil_some.1 h'21
    cases h'Z
  · intro α n' ls' kx' kr' r' h'
    unfold PaceBound_26_F at h'
    obtain ⟨ops0, l'1, rfl, h'1⟩ := un_li_some.1 h'
    obtain ⟨ops1, l'2, rfl, h'2⟩ := un_li_some.1 h'1
    obtain ⟨ops2, l'3, rfl, h'3⟩ := un_li_some.1 h'2
    obtain ⟨ops3, l'4, rfl, h'4⟩ := un_li_some.1 h'3
    obtain ⟨t1000, l'5, rfl, h'5⟩ := un_li_some.1 h'4
    obtain ⟨t1001, l'6, rfl, h'6⟩ := un_li_some.1 h'5
    obtain ⟨m_given, l'7, rfl, h'7⟩ := un_i_some.1 h'6
    obtain ⟨m_taken, l'8, rfl, h'8⟩ := un_i_some.1 h'7
    obtain ⟨p_s, l'9, rfl, h'9⟩ := un_i_some.1 h'8
    obtain ⟨p_tick, l'10, rfl, h'10⟩ := un_i_some.1 h'9
    obtain ⟨p_has, l'11, rfl, h'11⟩ := un_i_some.1 h'10
    obtain ⟨p_rate, l'12, rfl, h'12⟩ := un_i_some.1 h'11
    obtain ⟨p_now, l'13, rfl, h'13⟩ := un_i_some.1 h'12
    obtain ⟨t102, l'14, rfl, h'14⟩ := un_i_some.1 h'13
    obtain ⟨most, l'15, rfl, h'15⟩ := un_i_some.1 h'14
    obtain ⟨x, l'16, rfl, h'16⟩ := un_i_some.1 h'15
    obtain ⟨now, l'17, rfl, h'17⟩ := un_i_some.1 h'16
    obtain ⟨t36, l'18, rfl, h'18⟩ := un_b_some.1 h'17
    obtain ⟨t35, l'19, rfl, h'19⟩ := un_i_some.1 h'18
    obtain ⟨i, l'20, rfl, h'20⟩ := un_i_some.1 h'19
    obtain ⟨t101, l'21, rfl, h'21⟩ := un_i_some.1 h'20
    obtain ⟨rfl, h'Z⟩ := un_nil_some.1 h'21
    exact (PaceBound_26_e @PaceBound_26_L @PaceBound_11_L kx' kr' (PaceBound_26_L kx' kr' n') ops0 ops1 ops2 ops3 t1000 t1001 m_given m_taken p_s p_tick p_has p_rate p_now t102 most x now t36 t35 i t101).symm.trans h'Z
  · intro b' hb
    rw [show loopsOf (bodyAt (fb Go.Proofs.Tryz.f7) 1) = [] by kernel_rfl] at hb
    cases hb
theorem PaceBound_11_lok (E : Nat → Prop) (w0 ws : World) (ρ0 : List Pl) (hk : ρ0.length = 1) : LOk Go.Proofs.Tryz.prog 7 Go.Proofs.Tryz.f7 false E w0 ws Go.Proofs.Tryz.f7.ntmps ρ0 PaceBound_Λ (bodyAt (fb Go.Proofs.Tryz.f7) 0) := by
  refine lok mixed tab_ok g32 Go.Proofs.Tryz.func7 hk (T := PaceBound_11_T) (rt := PaceBound_11_R) (cuts := []) (ex := PaceBound_11_X) (top := top) (F := PaceBound_11_F @PaceBound_11_L) (fun fr H kx kr => by kernel_rfl) ?_ ?_ ?_
  · intro α ls' kx' kr' r' h'
    unfold PaceBound_11_F at h'
    obtain ⟨ops0, l'1, rfl, h'1⟩ := un_li_some.1 h'
    obtain ⟨ops1, l'2, rfl, h'2⟩ := un_li_some.1 h'1
    obtain ⟨ops2, l'3, rfl, h'3⟩ := un_li_some.1 h'2
    obtain ⟨ops3, l'4, rfl, h'4⟩ := un_li_some.1 h'3
    obtain ⟨l0, l'5, rfl, h'5⟩ := un_li_some.1 h'4
    obtain ⟨l1, l'6, rfl, h'6⟩ := un_li_some.1 h'5
    obtain ⟨m_given, l'7, rfl, h'7⟩ := un_i_some.1 h'6
    obtain ⟨m_taken, l'8, rfl, h'8⟩ := un_i_some.1 h'7
    obtain ⟨p_s, l'9, rfl, h'9⟩ := un_i_some.1 h'8
    obtain ⟨p_tick, l'10, rfl, h'10⟩ := un_i_some.1 h'9
    obtain ⟨p_has, l'11, rfl, h'11⟩ := un_i_some.1 h'10
    obtain ⟨p_rate, l'12, rfl, h'12⟩ := un_i_some.1 h'11
    obtain ⟨p_now, l'13, rfl, h'13⟩ := un_i_some.1 h'12
    obtain ⟨i, l'14, rfl, h'14⟩ := un_i_some.1 h'13
    obtain ⟨most, l'15, rfl, h'15⟩ := un_i_some.1 h'14
    obtain ⟨x, l'16, rfl, h'16⟩ := un_i_some.1 h'15
    obtain ⟨now, l'17, rfl, h'17⟩ := un_i_some.1 h'16
    obtain ⟨rfl, h'Z⟩ := un_nil_some.1 h'17
    cases h'Z
  · intro α n' ls' kx' kr' r' h'
    unfold PaceBound_11_F at h'
    obtain ⟨ops0, l'1, rfl, h'1⟩ := un_li_some.1 h'
    obtain ⟨ops1, l'2, rfl, h'2⟩ := un_li_some.1 h'1
    obtain ⟨ops2, l'3, rfl, h'3⟩ := un_li_some.1 h'2
    obtain ⟨ops3, l'4, rfl, h'4⟩ := un_li_some.1 h'3
    obtain ⟨l0, l'5, rfl, h'5⟩ := un_li_some.1 h'4
    obtain ⟨l1, l'6, rfl, h'6⟩ := un_li_some.1 h'5
    obtain ⟨m_given, l'7, rfl, h'7⟩ := un_i_some.1 h'6
    obtain ⟨m_taken, l'8, rfl, h'8⟩ := un_i_some.1 h'7
    obtain ⟨p_s, l'9, rfl, h'9⟩ := un_i_some.1 h'8
    obtain ⟨p_tick, l'10, rfl, h'10⟩ := un_i_some.1 h'9
    obtain ⟨p_has, l'11, rfl, h'11⟩ := un_i_some.1 h'10
    obtain ⟨p_rate, l'12, rfl, h'12⟩ := un_i_some.1 h'11
    obtain ⟨p_now, l'13, rfl, h'13⟩ := un_i_some.1 h'12
    obtain ⟨i, l'14, rfl, h'14⟩ := un_i_some.1 h'13
    obtain ⟨most, l'15, rfl, h'15⟩ := un_i_some.1 h'14
    obtain ⟨x, l'16, rfl, h'16⟩ := un_i_some.1 h'15
    obtain ⟨now, l'17, rfl, h'17⟩ := un_i_some.1 h'16
    obtain ⟨rfl, h'Z⟩ := un_nil_some.1 h'17
    exact (PaceBound_11_e @PaceBound_26_L @PaceBound_11_L kx' kr' (PaceBound_11_L kx' kr' n') ops0 ops1 ops2 ops3 l0 l1 m_given m_taken p_s p_tick p_has p_rate p_now i most x now).symm.trans h'Z
  · intro b' hb
    rw [show loopsOf (bodyAt (fb Go.Proofs.Tryz.f7) 0) = [(bodyAt (fb Go.Proofs.Tryz.f7) 1)] by kernel_rfl] at hb
    simp only [List.mem_cons, List.mem_nil_iff, or_false] at hb
    rcases hb with rfl
    · exact PaceBound_26_lok E w0 ws ρ0 hk
theorem PaceBound_ed (L26 : ({β : Type} → (Nat → List Leaf → Option β) → (List Leaf → Option β) → Nat → List Int → List Int → List Int → List Int → List Int → List Int → Int → Int → Int → Int → Int → Int → Int → Int → Int → Int → Int → Bool → Int → Int → Int → Option β)) (L11 : ({β : Type} → (Nat → List Leaf → Option β) → (List Leaf → Option β) → Nat → List Int → List Int → List Int → List Int → List Int → List Int → Int → Int → Int → Int → Int → Int → Int → Int → Int → Int → Int → Option β)) (ops0 : List Int) (ops1 : List Int) (ops2 : List Int) (ops3 : List Int) (s : Int) : PaceBound_d @L11 ops0 ops1 ops2 ops3 s = den G32 (PaceBound_Λd @L26 @L11) false tab Go.Proofs.Tryz.f7.ntmps (fun fr H => finish tab 1 Go.Proofs.Tryz.f7.results.toList PaceBound_out [] fr H some) (fun _ _ _ => none) (fun fr H => finish tab 1 Go.Proofs.Tryz.f7.results.toList PaceBound_out [] fr H some) 10000 [.code (fb Go.Proofs.Tryz.f7)] (instFr PaceBound_in [.li ops0, .li ops1, .li ops2, .li ops3, .i s]) (instH PaceBound_in [.li ops0, .li ops1, .li ops2, .li ops3, .i s]) := by kernel_rfl
theorem PaceBound_e (ops0 : List Int) (ops1 : List Int) (ops2 : List Int) (ops3 : List Int) (s : Int) : PaceBound ops0 ops1 ops2 ops3 s = den G32 PaceBound_Λ false tab Go.Proofs.Tryz.f7.ntmps (fun fr H => finish tab 1 Go.Proofs.Tryz.f7.results.toList PaceBound_out [] fr H some) (fun _ _ _ => none) (fun fr H => finish tab 1 Go.Proofs.Tryz.f7.results.toList PaceBound_out [] fr H some) 10000 [.code (fb Go.Proofs.Tryz.f7)] (instFr PaceBound_in [.li ops0, .li ops1, .li ops2, .li ops3, .i s]) (instH PaceBound_in [.li ops0, .li ops1, .li ops2, .li ops3, .i s]) := PaceBound_ed @PaceBound_26_L @PaceBound_11_L ops0 ops1 ops2 ops3 s
def PaceBound_S : List Leaf → Option (List Leaf) := fun ls => un_li ls fun ops0 rr => un_li rr fun ops1 rr => un_li rr fun ops2 rr => un_li rr fun ops3 rr => un_i rr fun s rr => un_nil rr (PaceBound ops0 ops1 ops2 ops3 s)
def PaceBound_SC : Tld := fun ls k' => un_li ls fun ops0 rr => un_li rr fun ops1 rr => un_li rr fun ops2 rr => un_li rr fun ops3 rr => un_i rr fun s rr => un_nil rr (out (PaceBound ops0 ops1 ops2 ops3 s) k')
theorem PaceBound_Se (ops0 : List Int) (ops1 : List Int) (ops2 : List Int) (ops3 : List Int) (s : Int) : PaceBound_S [.li ops0, .li ops1, .li ops2, .li ops3, .i s] = PaceBound ops0 ops1 ops2 ops3 s := by
  unfold PaceBound_S
  simp only [un_i_ev, un_b_ev, un_s_ev, un_li_ev, un_lb_ev, un_ls_ev, un_nil_ev]
theorem PaceBound_says : Says PaceBound_SC PaceBound_S := by
  intro β ls' k' r' h'
  unfold PaceBound_SC at h'
  obtain ⟨ops0, l'1, rfl, h'1⟩ := un_li_some.1 h'
  obtain ⟨ops1, l'2, rfl, h'2⟩ := un_li_some.1 h'1
  obtain ⟨ops2, l'3, rfl, h'3⟩ := un_li_some.1 h'2
  obtain ⟨ops3, l'4, rfl, h'4⟩ := un_li_some.1 h'3
  obtain ⟨s, l'5, rfl, h'5⟩ := un_i_some.1 h'4
  obtain ⟨rfl, h'Z⟩ := un_nil_some.1 h'5
  obtain ⟨l', a', b'⟩ := out_some.1 h'Z
  exact ⟨l', (PaceBound_Se ops0 ops1 ops2 ops3 s).trans a', b'⟩
theorem PaceBound_c : FnC Go.Proofs.Tryz.prog 7 false 2 1 PaceBound_in PaceBound_out PaceBound_S := by
  refine fn_ok (Λ := PaceBound_Λ) mixed tab_ok g32 Go.Proofs.Tryz.func7 (by kernel_rfl) (body := fb Go.Proofs.Tryz.f7) rfl (ts := Go.Proofs.Tryz.f7.results.toList) rfl (cuts := []) (by kernel_rfl) (Nat.le_of_ble_eq_true (by kernel_rfl)) (by kernel_rfl) (rt := .w (.at (.bool))) rfl ?_ ?_
  · intro ls' r' h'
    unfold PaceBound_S at h'
    obtain ⟨ops0, l'1, rfl, h'1⟩ := un_li_some.1 h'
    obtain ⟨ops1, l'2, rfl, h'2⟩ := un_li_some.1 h'1
    obtain ⟨ops2, l'3, rfl, h'3⟩ := un_li_some.1 h'2
    obtain ⟨ops3, l'4, rfl, h'4⟩ := un_li_some.1 h'3
    obtain ⟨s, l'5, rfl, h'5⟩ := un_i_some.1 h'4
    obtain ⟨rfl, h'Z⟩ := un_nil_some.1 h'5
    exact (PaceBound_e ops0 ops1 ops2 ops3 s).symm.trans h'Z
  · intro E w0 ws ρ0 hk b hb
    rw [show loopsOf (fb Go.Proofs.Tryz.f7) = [(bodyAt (fb Go.Proofs.Tryz.f7) 0), (bodyAt (fb Go.Proofs.Tryz.f7) 1)] by kernel_rfl] at hb
    simp only [List.mem_cons, List.mem_nil_iff, or_false] at hb
    rcases hb with rfl | rfl
    · exact PaceBound_11_lok E w0 ws ρ0 hk
    · exact PaceBound_26_lok E w0 ws ρ0 hk
noncomputable def G33 : Env := G32.addE 7 2 PaceBound_in PaceBound_out PaceBound_SC
theorem g33 : EnvOk Go.Proofs.Tryz.prog G33 := EnvOk.addE g32 PaceBound_c PaceBound_says
end Go.Sx.T

