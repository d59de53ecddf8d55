import Derived.Test.YtabdgalicaifhaaGreatDoorYVRSpec
import Derived.Test.YtabdgalicaifhaaGreatDoorYSUCon
set_option linter.all false
namespace Go.Sx.T
open Go Go.Sx Go.Proofs
set_option maxRecDepth 100000

-- ### VecRuns: function 11
def VecRuns_in : Tm := ⟨[.ro 3 1 [.int .i64]], [(0, .w (.at (.int .i64))), (1, .w (.at (.int .i64))), (2, .w (.at (.all 0 1)))]⟩
def VecRuns_out : Tm := ⟨[.dead], [(0, .w (.at (.bool)))]⟩
def VecRuns_8_T : Tm := ⟨[.ro 3 1 [.int .i64], .row 3 1 [.int .i64]], [(9, .w (.at (.int .i64))), (1, .w (.at (.int .i64))), (8, .w (.at (.all 1 1))), (2, .w (.at (.all 0 1))), (0, .w (.at (.int .i64)))]⟩
def VecRuns_8_X0 : Tm := ⟨[.ro 3 1 [.int .i64], .row 3 1 [.int .i64]], [(2, .w (.at (.all 0 1))), (8, .w (.at (.all 1 1)))]⟩
def VecRuns_8_X : Exits := [(0, (VecRuns_8_X0, []))]
def VecRuns_8_R : Tm := ⟨[], []⟩
def VecRuns_12_T : Tm := ⟨[.ro 3 1 [.int .i64], .row 3 1 [.int .i64]], [(10, .w (.at (.int .i64))), (2, .w (.at (.all 0 1))), (8, .w (.at (.all 1 1)))]⟩
def VecRuns_12_X2 : Tm := ⟨[.ro 3 1 [.int .i64], .row 3 1 [.int .i64]], [(8, .w (.at (.all 1 1)))]⟩
def VecRuns_12_X : Exits := [(2, (VecRuns_12_X2, []))]
def VecRuns_12_R : Tm := ⟨[], []⟩
def VecRuns_20_T : Tm := ⟨[.ro 3 1 [.int .i64], .row 3 1 [.int .i64], .row 3 1 [.int .i64], .row 36 2 [.int .i64, .int .i64]], [(72, .w (.at (.int .i64))), (8, .w (.at (.all 1 1))), (12, .w (.at (.all 2 1))), (11, .w (.at (.all 3 2))), (71, .w (.at (.int .i64)))]⟩
def VecRuns_20_X4 : Tm := ⟨[.ro 3 1 [.int .i64], .row 36 2 [.int .i64, .int .i64]], [(11, .w (.at (.all 1 2)))]⟩
def VecRuns_20_X : Exits := [(4, (VecRuns_20_X4, []))]
def VecRuns_20_R : Tm := ⟨[.ro 3 1 [.int .i64]], [(6, .w (.at (.bool)))]⟩
def VecRuns_26_T : Tm := ⟨[.ro 3 1 [.int .i64], .row 36 2 [.int .i64, .int .i64]], [(14, .w (.at (.int .i64))), (11, .w (.at (.all 1 2)))]⟩
def VecRuns_26_X6 : Tm := ⟨[.ro 3 1 [.int .i64], .row 36 2 [.int .i64, .int .i64]], [(11, .w (.at (.all 1 2)))]⟩
def VecRuns_26_X : Exits := [(6, (VecRuns_26_X6, []))]
def VecRuns_26_R : Tm := ⟨[.ro 3 1 [.int .i64]], [(6, .w (.at (.bool)))]⟩

def VecRuns_Λd (L8 : ({β : Type} → (Nat → List Leaf → Option β) → (List Leaf → Option β) → Nat → List Int → List Int → Int → Int → Int → Option β)) (L12 : ({β : Type} → (Nat → List Leaf → Option β) → (List Leaf → Option β) → Nat → List Int → List Int → Int → Option β)) (L20 : ({β : Type} → (Nat → List Leaf → Option β) → (List Leaf → Option β) → Nat → List Int → List Int → List Int → List Int → List Int → Int → Int → Option β)) (L26 : ({β : Type} → (Nat → List Leaf → Option β) → (List Leaf → Option β) → Nat → List Int → List Int → List Int → Int → Option β)) : Loops := ⟨fun b fr H kx kr => bif Nat.beq (rid b) 8 then loopE 1 VecRuns_8_T [] VecRuns_8_X VecRuns_8_R (VecRuns_8_F @L8 top) fr H kx kr else bif Nat.beq (rid b) 12 then loopE 1 VecRuns_12_T [] VecRuns_12_X VecRuns_12_R (VecRuns_12_F @L12 top) fr H kx kr else bif Nat.beq (rid b) 20 then loopE 1 VecRuns_20_T [] VecRuns_20_X VecRuns_20_R (VecRuns_20_F @L20 top) fr H kx kr else bif Nat.beq (rid b) 26 then loopE 1 VecRuns_26_T [] VecRuns_26_X VecRuns_26_R (VecRuns_26_F @L26 top) fr H kx kr else none⟩
def VecRuns_Λ : Loops := VecRuns_Λd @VecRuns_8_L @VecRuns_12_L @VecRuns_20_L @VecRuns_26_L
theorem VecRuns_8_e (L8 : ({β : Type} → (Nat → List Leaf → Option β) → (List Leaf → Option β) → Nat → List Int → List Int → Int → Int → Int → Option β)) (L12 : ({β : Type} → (Nat → List Leaf → Option β) → (List Leaf → Option β) → Nat → List Int → List Int → Int → Option β)) (L20 : ({β : Type} → (Nat → List Leaf → Option β) → (List Leaf → Option β) → Nat → List Int → List Int → List Int → List Int → List Int → Int → Int → Option β)) (L26 : ({β : Type} → (Nat → List Leaf → Option β) → (List Leaf → Option β) → Nat → List Int → List Int → List Int → Int → Option β)) {α : Type} (kx : Nat → List Leaf → Option α) (kr : List Leaf → Option α) (again : List Int → List Int → Int → Int → Int → Option α) (more : List Int) (l : List Int) (i : Int) (state : Int) (n2 : Int) : VecRuns_8_B  kx kr again more l i state n2 = loopB G46 (VecRuns_Λd @L8 @L12 @L20 @L26) false tab Go.Proofs.Tryz.f11.ntmps 1 VecRuns_8_T [] VecRuns_8_X VecRuns_8_R (bodyAt (fb Go.Proofs.Tryz.f11) 0) (fun ls => un_li ls fun more rr => un_li rr fun l rr => un_i rr fun i rr => un_i rr fun state rr => un_i rr fun n2 rr => un_nil rr (again more l i state n2)) kx kr (instFr VecRuns_8_T [.li more, .li l, .i i, .i state, .i n2]) (instH VecRuns_8_T [.li more, .li l, .i i, .i state, .i n2]) := by kernel_rfl
theorem VecRuns_12_e (L8 : ({β : Type} → (Nat → List Leaf → Option β) → (List Leaf → Option β) → Nat → List Int → List Int → Int → Int → Int → Option β)) (L12 : ({β : Type} → (Nat → List Leaf → Option β) → (List Leaf → Option β) → Nat → List Int → List Int → Int → Option β)) (L20 : ({β : Type} → (Nat → List Leaf → Option β) → (List Leaf → Option β) → Nat → List Int → List Int → List Int → List Int → List Int → Int → Int → Option β)) (L26 : ({β : Type} → (Nat → List Leaf → Option β) → (List Leaf → Option β) → Nat → List Int → List Int → List Int → Int → Option β)) {α : Type} (kx : Nat → List Leaf → Option α) (kr : List Leaf → Option α) (again : List Int → List Int → Int → Option α) (more : List Int) (l : List Int) (i : Int) : VecRuns_12_B  kx kr again more l i = loopB G46 (VecRuns_Λd @L8 @L12 @L20 @L26) false tab Go.Proofs.Tryz.f11.ntmps 1 VecRuns_12_T [] VecRuns_12_X VecRuns_12_R (bodyAt (fb Go.Proofs.Tryz.f11) 1) (fun ls => un_li ls fun more rr => un_li rr fun l rr => un_i rr fun i rr => un_nil rr (again more l i)) kx kr (instFr VecRuns_12_T [.li more, .li l, .i i]) (instH VecRuns_12_T [.li more, .li l, .i i]) := by kernel_rfl
theorem VecRuns_20_e (L8 : ({β : Type} → (Nat → List Leaf → Option β) → (List Leaf → Option β) → Nat → List Int → List Int → Int → Int → Int → Option β)) (L12 : ({β : Type} → (Nat → List Leaf → Option β) → (List Leaf → Option β) → Nat → List Int → List Int → Int → Option β)) (L20 : ({β : Type} → (Nat → List Leaf → Option β) → (List Leaf → Option β) → Nat → List Int → List Int → List Int → List Int → List Int → Int → Int → Option β)) (L26 : ({β : Type} → (Nat → List Leaf → Option β) → (List Leaf → Option β) → Nat → List Int → List Int → List Int → Int → Option β)) {α : Type} (kx : Nat → List Leaf → Option α) (kr : List Leaf → Option α) (again : List Int → List Int → List Int → List Int → List Int → Int → Int → Option α) (more : List Int) (l : List Int) (back : List Int) (cs0 : List Int) (cs1 : List Int) (t72 : Int) (t71 : Int) : VecRuns_20_B  kx kr again more l back cs0 cs1 t72 t71 = loopB G46 (VecRuns_Λd @L8 @L12 @L20 @L26) false tab Go.Proofs.Tryz.f11.ntmps 1 VecRuns_20_T [] VecRuns_20_X VecRuns_20_R (bodyAt (fb Go.Proofs.Tryz.f11) 2) (fun ls => un_li ls fun more rr => un_li rr fun l rr => un_li rr fun back rr => un_li rr fun cs0 rr => un_li rr fun cs1 rr => un_i rr fun t72 rr => un_i rr fun t71 rr => un_nil rr (again more l back cs0 cs1 t72 t71)) kx kr (instFr VecRuns_20_T [.li more, .li l, .li back, .li cs0, .li cs1, .i t72, .i t71]) (instH VecRuns_20_T [.li more, .li l, .li back, .li cs0, .li cs1, .i t72, .i t71]) := by kernel_rfl
theorem VecRuns_26_e (L8 : ({β : Type} → (Nat → List Leaf → Option β) → (List Leaf → Option β) → Nat → List Int → List Int → Int → Int → Int → Option β)) (L12 : ({β : Type} → (Nat → List Leaf → Option β) → (List Leaf → Option β) → Nat → List Int → List Int → Int → Option β)) (L20 : ({β : Type} → (Nat → List Leaf → Option β) → (List Leaf → Option β) → Nat → List Int → List Int → List Int → List Int → List Int → Int → Int → Option β)) (L26 : ({β : Type} → (Nat → List Leaf → Option β) → (List Leaf → Option β) → Nat → List Int → List Int → List Int → Int → Option β)) {α : Type} (kx : Nat → List Leaf → Option α) (kr : List Leaf → Option α) (again : List Int → List Int → List Int → Int → Option α) (more : List Int) (cs0 : List Int) (cs1 : List Int) (i : Int) : VecRuns_26_B  kx kr again more cs0 cs1 i = loopB G46 (VecRuns_Λd @L8 @L12 @L20 @L26) false tab Go.Proofs.Tryz.f11.ntmps 1 VecRuns_26_T [] VecRuns_26_X VecRuns_26_R (bodyAt (fb Go.Proofs.Tryz.f11) 3) (fun ls => un_li ls fun more rr => un_li rr fun cs0 rr => un_li rr fun cs1 rr => un_i rr fun i rr => un_nil rr (again more cs0 cs1 i)) kx kr (instFr VecRuns_26_T [.li more, .li cs0, .li cs1, .i i]) (instH VecRuns_26_T [.li more, .li cs0, .li cs1, .i i]) := by kernel_rfl
theorem VecRuns_26_lok (E : Nat → Prop) (w0 ws : World) (ρ0 : List Pl) (hk : ρ0.length = 1) : LOk Go.Proofs.Tryz.prog 11 Go.Proofs.Tryz.f11 false E w0 ws Go.Proofs.Tryz.f11.ntmps ρ0 VecRuns_Λ (bodyAt (fb Go.Proofs.Tryz.f11) 3) := by
  refine lok mixed tab_ok g46 Go.Proofs.Tryz.func11 hk (T := VecRuns_26_T) (rt := VecRuns_26_R) (cuts := []) (ex := VecRuns_26_X) (top := top) (F := VecRuns_26_F @VecRuns_26_L) (fun fr H kx kr => by kernel_rfl) ?_ ?_ ?_
  · intro α ls' kx' kr' r' h'
    unfold VecRuns_26_F at h'
    obtain ⟨more, l'1, rfl, h'1⟩ := un_li_some.1 h'
    obtain ⟨cs0, l'2, rfl, h'2⟩ := un_li_some.1 h'1
    obtain ⟨cs1, l'3, rfl, h'3⟩ := un_li_some.1 h'2
    obtain ⟨i, l'4, rfl, h'4⟩ := un_i_some.1 h'3
    obtain ⟨rfl, h'Z⟩ := un_nil_some.1 h'4
    cases h'Z
  · intro α n' ls' kx' kr' r' h'
    unfold VecRuns_26_F at h'
    obtain ⟨more, l'1, rfl, h'1⟩ := un_li_some.1 h'
    obtain ⟨cs0, l'2, rfl, h'2⟩ := un_li_some.1 h'1
    obtain ⟨cs1, l'3, rfl, h'3⟩ := un_li_some.1 h'2
    obtain ⟨i, l'4, rfl, h'4⟩ := un_i_some.1 h'3
    obtain ⟨rfl, h'Z⟩ := un_nil_some.1 h'4
    exact (VecRuns_26_e @VecRuns_8_L @VecRuns_12_L @VecRuns_20_L @VecRuns_26_L kx' kr' (VecRuns_26_L kx' kr' n') more cs0 cs1 i).symm.trans h'Z
  · intro b' hb
    rw [show loopsOf (bodyAt (fb Go.Proofs.Tryz.f11) 3) = [] by kernel_rfl] at hb
    cases hb
theorem VecRuns_20_lok (E : Nat → Prop) (w0 ws : World) (ρ0 : List Pl) (hk : ρ0.length = 1) : LOk Go.Proofs.Tryz.prog 11 Go.Proofs.Tryz.f11 false E w0 ws Go.Proofs.Tryz.f11.ntmps ρ0 VecRuns_Λ (bodyAt (fb Go.Proofs.Tryz.f11) 2) := by
  refine lok mixed tab_ok g46 Go.Proofs.Tryz.func11 hk (T := VecRuns_20_T) (rt := VecRuns_20_R) (cuts := []) (ex := VecRuns_20_X) (top := top) (F := VecRuns_20_F @VecRuns_20_L) (fun fr H kx kr => by kernel_rfl) ?_ ?_ ?_
  · intro α ls' kx' kr' r' h'
    unfold VecRuns_20_F at h'
    obtain ⟨more, l'1, rfl, h'1⟩ := un_li_some.1 h'
    obtain ⟨l, l'2, rfl, h'2⟩ := un_li_some.1 h'1
    obtain ⟨back, l'3, rfl, h'3⟩ := un_li_some.1 h'2
    obtain ⟨cs0, l'4, rfl, h'4⟩ := un_li_some.1 h'3
    obtain ⟨cs1, l'5, rfl, h'5⟩ := un_li_some.1 h'4
    obtain ⟨t72, l'6, rfl, h'6⟩ := un_i_some.1 h'5
    obtain ⟨t71, l'7, rfl, h'7⟩ := un_i_some.1 h'6
    obtain ⟨rfl, h'Z⟩ := un_nil_some.1 h'7
    cases h'Z
  · intro α n' ls' kx' kr' r' h'
    unfold VecRuns_20_F at h'
    obtain ⟨more, l'1, rfl, h'1⟩ := un_li_some.1 h'
    obtain ⟨l, l'2, rfl, h'2⟩ := un_li_some.1 h'1
    obtain ⟨back, l'3, rfl, h'3⟩ := un_li_some.1 h'2
    obtain ⟨cs0, l'4, rfl, h'4⟩ := un_li_some.1 h'3
    obtain ⟨cs1, l'5, rfl, h'5⟩ := un_li_some.1 h'4
    obtain ⟨t72, l'6, rfl, h'6⟩ := un_i_some.1 h'5
    obtain ⟨t71, l'7, rfl, h'7⟩ := un_i_some.1 h'6
    obtain ⟨rfl, h'Z⟩ := un_nil_some.1 h'7
    exact (VecRuns_20_e @VecRuns_8_L @VecRuns_12_L @VecRuns_20_L @VecRuns_26_L kx' kr' (VecRuns_20_L kx' kr' n') more l back cs0 cs1 t72 t71).symm.trans h'Z
  · intro b' hb
    rw [show loopsOf (bodyAt (fb Go.Proofs.Tryz.f11) 2) = [] by kernel_rfl] at hb
    cases hb
theorem VecRuns_12_lok (E : Nat → Prop) (w0 ws : World) (ρ0 : List Pl) (hk : ρ0.length = 1) : LOk Go.Proofs.Tryz.prog 11 Go.Proofs.Tryz.f11 false E w0 ws Go.Proofs.Tryz.f11.ntmps ρ0 VecRuns_Λ (bodyAt (fb Go.Proofs.Tryz.f11) 1) := by
  refine lok mixed tab_ok g46 Go.Proofs.Tryz.func11 hk (T := VecRuns_12_T) (rt := VecRuns_12_R) (cuts := []) (ex := VecRuns_12_X) (top := top) (F := VecRuns_12_F @VecRuns_12_L) (fun fr H kx kr => by kernel_rfl) ?_ ?_ ?_
  · intro α ls' kx' kr' r' h'
    unfold VecRuns_12_F at h'
    obtain ⟨more, l'1, rfl, h'1⟩ := un_li_some.1 h'
    obtain ⟨l, l'2, rfl, h'2⟩ := un_li_some.1 h'1
    obtain ⟨i, l'3, rfl, h'3⟩ := un_i_some.1 h'2
    obtain ⟨rfl, h'Z⟩ := un_nil_some.1 h'3
    cases h'Z
  · intro α n' ls' kx' kr' r' h'
    unfold VecRuns_12_F at h'
    obtain ⟨more, l'1, rfl, h'1⟩ := un_li_some.1 h'
    obtain ⟨l, l'2, rfl, h'2⟩ := un_li_some.1 h'1
    obtain ⟨i, l'3, rfl, h'3⟩ := un_i_some.1 h'2
    obtain ⟨rfl, h'Z⟩ := un_nil_some.1 h'3
    exact (VecRuns_12_e @VecRuns_8_L @VecRuns_12_L @VecRuns_20_L @VecRuns_26_L kx' kr' (VecRuns_12_L kx' kr' n') more l i).symm.trans h'Z
  · intro b' hb
    rw [show loopsOf (bodyAt (fb Go.Proofs.Tryz.f11) 1) = [] by kernel_rfl] at hb
    cases hb
theorem VecRuns_8_lok (E : Nat → Prop) (w0 ws : World) (ρ0 : List Pl) (hk : ρ0.length = 1) : LOk Go.Proofs.Tryz.prog 11 Go.Proofs.Tryz.f11 false E w0 ws Go.Proofs.Tryz.f11.ntmps ρ0 VecRuns_Λ (bodyAt (fb Go.Proofs.Tryz.f11) 0) := by
  refine lok mixed tab_ok g46 Go.Proofs.Tryz.func11 hk (T := VecRuns_8_T) (rt := VecRuns_8_R) (cuts := []) (ex := VecRuns_8_X) (top := top) (F := VecRuns_8_F @VecRuns_8_L) (fun fr H kx kr => by kernel_rfl) ?_ ?_ ?_
  · intro α ls' kx' kr' r' h'
    unfold VecRuns_8_F at h'
    obtain ⟨more, l'1, rfl, h'1⟩ := un_li_some.1 h'
    obtain ⟨l, l'2, rfl, h'2⟩ := un_li_some.1 h'1
    obtain ⟨i, l'3, rfl, h'3⟩ := un_i_some.1 h'2
    obtain ⟨state, l'4, rfl, h'4⟩ := un_i_some.1 h'3
    obtain ⟨n2, l'5, rfl, h'5⟩ := un_i_some.1 h'4
    obtain ⟨rfl, h'Z⟩ := un_nil_some.1 h'5
    cases h'Z
  · intro α n' ls' kx' kr' r' h'
    unfold VecRuns_8_F at h'
    obtain ⟨more, l'1, rfl, h'1⟩ := un_li_some.1 h'
    obtain ⟨l, l'2, rfl, h'2⟩ := un_li_some.1 h'1
    obtain ⟨i, l'3, rfl, h'3⟩ := un_i_some.1 h'2
    obtain ⟨state, l'4, rfl, h'4⟩ := un_i_some.1 h'3
    obtain ⟨n2, l'5, rfl, h'5⟩ := un_i_some.1 h'4
    obtain ⟨rfl, h'Z⟩ := un_nil_some.1 h'5
    exact (VecRuns_8_e @VecRuns_8_L @VecRuns_12_L @VecRuns_20_L @VecRuns_26_L kx' kr' (VecRuns_8_L kx' kr' n') more l i state n2).symm.trans h'Z
  · intro b' hb
    rw [show loopsOf (bodyAt (fb Go.Proofs.Tryz.f11) 0) = [] by kernel_rfl] at hb
    cases hb
theorem VecRuns_ed (L8 : ({β : Type} → (Nat → List Leaf → Option β) → (List Leaf → Option β) → Nat → List Int → List Int → Int → Int → Int → Option β)) (L12 : ({β : Type} → (Nat → List Leaf → Option β) → (List Leaf → Option β) → Nat → List Int → List Int → Int → Option β)) (L20 : ({β : Type} → (Nat → List Leaf → Option β) → (List Leaf → Option β) → Nat → List Int → List Int → List Int → List Int → List Int → Int → Int → Option β)) (L26 : ({β : Type} → (Nat → List Leaf → Option β) → (List Leaf → Option β) → Nat → List Int → List Int → List Int → Int → Option β)) (more : List Int) (n2 : Int) (state : Int) : VecRuns_d @L8 @L12 @L20 @L26 more n2 state = den G46 (VecRuns_Λd @L8 @L12 @L20 @L26) false tab Go.Proofs.Tryz.f11.ntmps (fun fr H => finish tab 1 Go.Proofs.Tryz.f11.results.toList VecRuns_out [] fr H some) (fun _ _ _ => none) (fun fr H => finish tab 1 Go.Proofs.Tryz.f11.results.toList VecRuns_out [] fr H some) 10000 [.code (fb Go.Proofs.Tryz.f11)] (instFr VecRuns_in [.li more, .i n2, .i state]) (instH VecRuns_in [.li more, .i n2, .i state]) := by kernel_rfl
theorem VecRuns_e (more : List Int) (n2 : Int) (state : Int) : VecRuns more n2 state = den G46 VecRuns_Λ false tab Go.Proofs.Tryz.f11.ntmps (fun fr H => finish tab 1 Go.Proofs.Tryz.f11.results.toList VecRuns_out [] fr H some) (fun _ _ _ => none) (fun fr H => finish tab 1 Go.Proofs.Tryz.f11.results.toList VecRuns_out [] fr H some) 10000 [.code (fb Go.Proofs.Tryz.f11)] (instFr VecRuns_in [.li more, .i n2, .i state]) (instH VecRuns_in [.li more, .i n2, .i state]) := VecRuns_ed @VecRuns_8_L @VecRuns_12_L @VecRuns_20_L @VecRuns_26_L more n2 state
def VecRuns_S : List Leaf → Option (List Leaf) := fun ls => un_li ls fun more rr => un_i rr fun n2 rr => un_i rr fun state rr => un_nil rr (VecRuns more n2 state)
def VecRuns_SC : Tld := fun ls k' => un_li ls fun more rr => un_i rr fun n2 rr => un_i rr fun state rr => un_nil rr (out (VecRuns more n2 state) k')
theorem VecRuns_Se (more : List Int) (n2 : Int) (state : Int) : VecRuns_S [.li more, .i n2, .i state] = VecRuns more n2 state := by
  unfold VecRuns_S
  simp only [un_i_ev, un_b_ev, un_s_ev, un_li_ev, un_lb_ev, un_ls_ev, un_nil_ev]
theorem VecRuns_says : Says VecRuns_SC VecRuns_S := by
  intro β ls' k' r' h'
  unfold VecRuns_SC at h'
  obtain ⟨more, l'1, rfl, h'1⟩ := un_li_some.1 h'
  obtain ⟨n2, l'2, rfl, h'2⟩ := un_i_some.1 h'1
  obtain ⟨state, l'3, rfl, h'3⟩ := un_i_some.1 h'2
  obtain ⟨rfl, h'Z⟩ := un_nil_some.1 h'3
  obtain ⟨l', a', b'⟩ := out_some.1 h'Z
  exact ⟨l', (VecRuns_Se more n2 state).trans a', b'⟩
theorem VecRuns_c : FnC Go.Proofs.Tryz.prog 11 false 3 1 VecRuns_in VecRuns_out VecRuns_S := by
  refine fn_ok (Λ := VecRuns_Λ) mixed tab_ok g46 Go.Proofs.Tryz.func11 (by kernel_rfl) (body := fb Go.Proofs.Tryz.f11) rfl (ts := Go.Proofs.Tryz.f11.results.toList) rfl (cuts := []) (by kernel_rfl) (Nat.le_of_ble_eq_true (by kernel_rfl)) (by kernel_rfl) (rt := .w (.at (.bool))) rfl ?_ ?_
  · intro ls' r' h'
    unfold VecRuns_S at h'
    obtain ⟨more, l'1, rfl, h'1⟩ := un_li_some.1 h'
    obtain ⟨n2, l'2, rfl, h'2⟩ := un_i_some.1 h'1
    obtain ⟨state, l'3, rfl, h'3⟩ := un_i_some.1 h'2
    obtain ⟨rfl, h'Z⟩ := un_nil_some.1 h'3
    exact (VecRuns_e more n2 state).symm.trans h'Z
  · intro E w0 ws ρ0 hk b hb
    rw [show loopsOf (fb Go.Proofs.Tryz.f11) = [(bodyAt (fb Go.Proofs.Tryz.f11) 0), (bodyAt (fb Go.Proofs.Tryz.f11) 1), (bodyAt (fb Go.Proofs.Tryz.f11) 2), (bodyAt (fb Go.Proofs.Tryz.f11) 3)] by kernel_rfl] at hb
    simp only [List.mem_cons, List.mem_nil_iff, or_false] at hb
    rcases hb with rfl | rfl | rfl | rfl
    · exact VecRuns_8_lok E w0 ws ρ0 hk
    · exact VecRuns_12_lok E w0 ws ρ0 hk
    · exact VecRuns_20_lok E w0 ws ρ0 hk
    · exact VecRuns_26_lok E w0 ws ρ0 hk
noncomputable def G47 : Env := G46.addE 11 3 VecRuns_in VecRuns_out VecRuns_SC
theorem g47 : EnvOk Go.Proofs.Tryz.prog G47 := EnvOk.addE g46 VecRuns_c VecRuns_says
end Go.Sx.T

