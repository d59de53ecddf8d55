import Derived.Test.YtopcljhdejindaaGreatDoorYRttSpec
set_option linter.all false
namespace Go.Sx.T
open Go Go.Sx
def win_New  : Option (List Leaf) :=
  out (rtt_New) fun r48 =>
  un_b r48 fun x49 r50 =>
  un_i r50 fun x51 r52 =>
  un_i r52 fun x53 r54 =>
  un_i r54 fun x55 r56 =>
  un_nil r56 <|
  some [.i (3), .i (1000000), .i (0), .i (0), .i (0), .b (false), .i (0), .b (false), .b (false), .i (0), .b (x49), .i (x51), .i (x53), .i (x55)]
def win_May (w_cwnd : Int) (w_slow : Int) (w_pipe : Int) (w_count : Int) (w_halved_n : Int) (w_halved_is : Bool) (w_last_n : Int) (w_last_is : Bool) (w_runs : Bool) (w_due : Int) (w_rtt_any : Bool) (w_rtt_smooth : Int) (w_rtt_spread : Int) (w_rtt_rto : Int) : Option (List Leaf) :=
  some [.b (decide (w_pipe < w_cwnd))]
def win_runsTo (w_cwnd : Int) (w_slow : Int) (w_pipe : Int) (w_count : Int) (w_halved_n : Int) (w_halved_is : Bool) (w_last_n : Int) (w_last_is : Bool) (w_runs : Bool) (w_due : Int) (w_rtt_any : Bool) (w_rtt_smooth : Int) (w_rtt_spread : Int) (w_rtt_rto : Int) (now : Int) : Option (List Leaf) :=
  one (minI now 4611686018427387904) fun x57 =>
  out (rtt_Rto w_rtt_any w_rtt_smooth w_rtt_spread w_rtt_rto) fun r58 =>
  un_i r58 fun x59 r60 =>
  un_nil r60 <|
  one (addI .i64 x57 x59) fun x61 =>
  some [.i (w_cwnd), .i (w_slow), .i (w_pipe), .i (w_count), .i (w_halved_n), .b (w_halved_is), .i (w_last_n), .b (w_last_is), .b (true), .i (x61), .b (w_rtt_any), .i (w_rtt_smooth), .i (w_rtt_spread), .i (w_rtt_rto)]
def win_Sent (w_cwnd : Int) (w_slow : Int) (w_pipe : Int) (w_count : Int) (w_halved_n : Int) (w_halved_is : Bool) (w_last_n : Int) (w_last_is : Bool) (w_runs : Bool) (w_due : Int) (w_rtt_any : Bool) (w_rtt_smooth : Int) (w_rtt_spread : Int) (w_rtt_rto : Int) (n2 : Int) (now : Int) : Option (List Leaf) :=
  out (win_May w_cwnd w_slow w_pipe w_count w_halved_n w_halved_is w_last_n w_last_is w_runs w_due w_rtt_any w_rtt_smooth w_rtt_spread w_rtt_rto) fun r62 =>
  un_b r62 fun x63 r64 =>
  un_nil r64 <|
  br (!x63)
    (some [.i (w_cwnd), .i (w_slow), .i (w_pipe), .i (w_count), .i (w_halved_n), .b (w_halved_is), .i (w_last_n), .b (w_last_is), .b (w_runs), .i (w_due), .b (w_rtt_any), .i (w_rtt_smooth), .i (w_rtt_spread), .i (w_rtt_rto), .b (false)])
    (one (addI .i64 w_pipe 1) fun x65 =>
     out (seq_Of n2) fun r66 =>
     un_i r66 fun x67 r68 =>
     un_nil r68 <|
     br (!w_runs)
       (out (win_runsTo w_cwnd w_slow x65 w_count w_halved_n w_halved_is x67 true w_runs w_due w_rtt_any w_rtt_smooth w_rtt_spread w_rtt_rto now) fun r69 =>
        un_i r69 fun x70 r71 =>
        un_i r71 fun x72 r73 =>
        un_i r73 fun x74 r75 =>
        un_i r75 fun x76 r77 =>
        un_i r77 fun x78 r79 =>
        un_b r79 fun x80 r81 =>
        un_i r81 fun x82 r83 =>
        un_b r83 fun x84 r85 =>
        un_b r85 fun x86 r87 =>
        un_i r87 fun x88 r89 =>
        un_b r89 fun x90 r91 =>
        un_i r91 fun x92 r93 =>
        un_i r93 fun x94 r95 =>
        un_i r95 fun x96 r97 =>
        un_nil r97 <|
        some [.i (x70), .i (x72), .i (x74), .i (x76), .i (x78), .b (x80), .i (x82), .b (x84), .b (x86), .i (x88), .b (x90), .i (x92), .i (x94), .i (x96), .b (true)])
       (some [.i (w_cwnd), .i (w_slow), .i (x65), .i (w_count), .i (w_halved_n), .b (w_halved_is), .i (x67), .b (true), .b (w_runs), .i (w_due), .b (w_rtt_any), .i (w_rtt_smooth), .i (w_rtt_spread), .i (w_rtt_rto), .b (true)]))
def win_grow_5_B  {α : Type} (kx : Nat → List Leaf → Option α) (kr : List Leaf → Option α) (again : Int → Int → Int → Int → Int → Bool → Int → Bool → Bool → Int → Bool → Int → Int → Int → Option α) (w_cwnd : Int) (w_slow : Int) (w_pipe : Int) (w_count : Int) (w_halved_n : Int) (w_halved_is : Bool) (w_last_n : Int) (w_last_is : Bool) (w_runs : Bool) (w_due : Int) (w_rtt_any : Bool) (w_rtt_smooth : Int) (w_rtt_spread : Int) (w_rtt_rto : Int) : Option α :=
  br (decide (w_count ≥ w_cwnd))
    (one (subI .i64 w_count w_cwnd) fun x106 =>
     one (addI .i64 w_cwnd 1) fun x107 =>
     again (x107) (w_slow) (w_pipe) (x106) (w_halved_n) (w_halved_is) (w_last_n) (w_last_is) (w_runs) (w_due) (w_rtt_any) (w_rtt_smooth) (w_rtt_spread) (w_rtt_rto))
    (kx 0 [.i (w_cwnd), .i (w_slow), .i (w_pipe), .i (w_count), .i (w_halved_n), .b (w_halved_is), .i (w_last_n), .b (w_last_is), .b (w_runs), .i (w_due), .b (w_rtt_any), .i (w_rtt_smooth), .i (w_rtt_spread), .i (w_rtt_rto)])
def win_grow_5_L {α : Type} (kx : Nat → List Leaf → Option α) (kr : List Leaf → Option α) : Nat → Int → Int → Int → Int → Int → Bool → Int → Bool → Bool → Int → Bool → Int → Int → Int → Option α
  | 0, _, _, _, _, _, _, _, _, _, _, _, _, _, _ => none
  | n + 1, w_cwnd, w_slow, w_pipe, w_count, w_halved_n, w_halved_is, w_last_n, w_last_is, w_runs, w_due, w_rtt_any, w_rtt_smooth, w_rtt_spread, w_rtt_rto => win_grow_5_B  kx kr (win_grow_5_L kx kr n) w_cwnd w_slow w_pipe w_count w_halved_n w_halved_is w_last_n w_last_is w_runs w_due w_rtt_any w_rtt_smooth w_rtt_spread w_rtt_rto
def win_grow_5_F (L5 : ({β : Type} → (Nat → List Leaf → Option β) → (List Leaf → Option β) → Nat → Int → Int → Int → Int → Int → Bool → Int → Bool → Bool → Int → Bool → Int → Int → Int → Option β)) {α : Type} (n : Nat) (ls : List Leaf) (kx : Nat → List Leaf → Option α) (kr : List Leaf → Option α) : Option α := un_i ls fun w_cwnd rr => un_i rr fun w_slow rr => un_i rr fun w_pipe rr => un_i rr fun w_count rr => un_i rr fun w_halved_n rr => un_b rr fun w_halved_is rr => un_i rr fun w_last_n rr => un_b rr fun w_last_is rr => un_b rr fun w_runs rr => un_i rr fun w_due rr => un_b rr fun w_rtt_any rr => un_i rr fun w_rtt_smooth rr => un_i rr fun w_rtt_spread rr => un_i rr fun w_rtt_rto rr => un_nil rr (L5 kx kr n w_cwnd w_slow w_pipe w_count w_halved_n w_halved_is w_last_n w_last_is w_runs w_due w_rtt_any w_rtt_smooth w_rtt_spread w_rtt_rto)
def win_grow_d (L5 : ({β : Type} → (Nat → List Leaf → Option β) → (List Leaf → Option β) → Nat → Int → Int → Int → Int → Int → Bool → Int → Bool → Bool → Int → Bool → Int → Int → Int → Option β)) (w_cwnd : Int) (w_slow : Int) (w_pipe : Int) (w_count : Int) (w_halved_n : Int) (w_halved_is : Bool) (w_last_n : Int) (w_last_is : Bool) (w_runs : Bool) (w_due : Int) (w_rtt_any : Bool) (w_rtt_smooth : Int) (w_rtt_spread : Int) (w_rtt_rto : Int) (n2 : Int) : Option (List Leaf) :=
  br (decide (w_cwnd < w_slow))
    (one (subI .i64 w_slow w_cwnd) fun x108 =>
     one (minI n2 x108) fun x109 =>
     one (addI .i64 w_cwnd x109) fun x110 =>
     one (subI .i64 n2 x109) fun x111 =>
     one (addI .i64 w_count x111) fun x112 =>
     L5
       (fun i113 r114 =>
        br (Nat.beq 0 i113)
          (un_i r114 fun x115 r116 =>
           un_i r116 fun x117 r118 =>
           un_i r118 fun x119 r120 =>
           un_i r120 fun x121 r122 =>
           un_i r122 fun x123 r124 =>
           un_b r124 fun x125 r126 =>
           un_i r126 fun x127 r128 =>
           un_b r128 fun x129 r130 =>
           un_b r130 fun x131 r132 =>
           un_i r132 fun x133 r134 =>
           un_b r134 fun x135 r136 =>
           un_i r136 fun x137 r138 =>
           un_i r138 fun x139 r140 =>
           un_i r140 fun x141 r142 =>
           un_nil r142 <|
           some [.i (x115), .i (x117), .i (x119), .i (x121), .i (x123), .b (x125), .i (x127), .b (x129), .b (x131), .i (x133), .b (x135), .i (x137), .i (x139), .i (x141)])
          (none))
       (fun r143 =>
        un_nil r143 <|
        none)
       top (x110) (w_slow) (w_pipe) (x112) (w_halved_n) (w_halved_is) (w_last_n) (w_last_is) (w_runs) (w_due) (w_rtt_any) (w_rtt_smooth) (w_rtt_spread) (w_rtt_rto))
    (one (addI .i64 w_count n2) fun x144 =>
     L5
       (fun i145 r146 =>
        br (Nat.beq 0 i145)
          (un_i r146 fun x147 r148 =>
           un_i r148 fun x149 r150 =>
           un_i r150 fun x151 r152 =>
           un_i r152 fun x153 r154 =>
           un_i r154 fun x155 r156 =>
           un_b r156 fun x157 r158 =>
           un_i r158 fun x159 r160 =>
           un_b r160 fun x161 r162 =>
           un_b r162 fun x163 r164 =>
           un_i r164 fun x165 r166 =>
           un_b r166 fun x167 r168 =>
           un_i r168 fun x169 r170 =>
           un_i r170 fun x171 r172 =>
           un_i r172 fun x173 r174 =>
           un_nil r174 <|
           some [.i (x147), .i (x149), .i (x151), .i (x153), .i (x155), .b (x157), .i (x159), .b (x161), .b (x163), .i (x165), .b (x167), .i (x169), .i (x171), .i (x173)])
          (none))
       (fun r175 =>
        un_nil r175 <|
        none)
       top (w_cwnd) (w_slow) (w_pipe) (x144) (w_halved_n) (w_halved_is) (w_last_n) (w_last_is) (w_runs) (w_due) (w_rtt_any) (w_rtt_smooth) (w_rtt_spread) (w_rtt_rto))
def win_grow (w_cwnd : Int) (w_slow : Int) (w_pipe : Int) (w_count : Int) (w_halved_n : Int) (w_halved_is : Bool) (w_last_n : Int) (w_last_is : Bool) (w_runs : Bool) (w_due : Int) (w_rtt_any : Bool) (w_rtt_smooth : Int) (w_rtt_spread : Int) (w_rtt_rto : Int) (n2 : Int) : Option (List Leaf) := win_grow_d @win_grow_5_L w_cwnd w_slow w_pipe w_count w_halved_n w_halved_is w_last_n w_last_is w_runs w_due w_rtt_any w_rtt_smooth w_rtt_spread w_rtt_rto n2
def win_halve (w_cwnd : Int) (w_slow : Int) (w_pipe : Int) (w_count : Int) (w_halved_n : Int) (w_halved_is : Bool) (w_last_n : Int) (w_last_is : Bool) (w_runs : Bool) (w_due : Int) (w_rtt_any : Bool) (w_rtt_smooth : Int) (w_rtt_spread : Int) (w_rtt_rto : Int) : Option (List Leaf) :=
  one (quoI .i64 w_cwnd 2) fun x176 =>
  one (maxI x176 1) fun x177 =>
  br (w_last_is)
    (some [.i (x177), .i (x177), .i (w_pipe), .i (0), .i (w_last_n), .b (w_last_is), .i (w_last_n), .b (w_last_is), .b (w_runs), .i (w_due), .b (w_rtt_any), .i (w_rtt_smooth), .i (w_rtt_spread), .i (w_rtt_rto)])
    (some [.i (x177), .i (x177), .i (w_pipe), .i (0), .i (w_halved_n), .b (w_halved_is), .i (w_last_n), .b (w_last_is), .b (w_runs), .i (w_due), .b (w_rtt_any), .i (w_rtt_smooth), .i (w_rtt_spread), .i (w_rtt_rto)])
def win_where (h_Got : List Int) (h_Late : List Int) (h_Lost : List Int) (h_Marks : Int) (h_Rtt : Int) : Option (List Leaf) :=
  one (Int.ofNat (List.length h_Lost)) fun x180 =>
  br (decide (x180 > 0))
    (one (subI .i64 x180 1) fun x181 =>
     chk (decide (0 ≤ x181 ∧ x181 < Int.ofNat (List.length h_Lost))) <|
     chk (decide (0 ≤ x181 ∧ x181 < Int.ofNat (List.length h_Lost))) <|
     some [.i (List.getD h_Lost (Int.toNat x181) 0), .b (true)])
    (one (Int.ofNat (List.length h_Got)) fun x182 =>
     br (decide (x182 > 0))
       (one (subI .i64 x182 1) fun x183 =>
        chk (decide (0 ≤ x183 ∧ x183 < Int.ofNat (List.length h_Got))) <|
        chk (decide (0 ≤ x183 ∧ x183 < Int.ofNat (List.length h_Got))) <|
        one (Int.ofNat (List.length h_Late)) fun x184 =>
        br (decide (x184 > 0))
          (one (subI .i64 x184 1) fun x185 =>
           chk (decide (0 ≤ x185 ∧ x185 < Int.ofNat (List.length h_Late))) <|
           chk (decide (0 ≤ x185 ∧ x185 < Int.ofNat (List.length h_Late))) <|
           out (seq_Less (List.getD h_Got (Int.toNat x183) 0) (List.getD h_Late (Int.toNat x185) 0)) fun r186 =>
           un_b r186 fun x187 r188 =>
           un_nil r188 <|
           br (x187)
             (one (subI .i64 x184 1) fun x189 =>
              chk (decide (0 ≤ x189 ∧ x189 < Int.ofNat (List.length h_Late))) <|
              chk (decide (0 ≤ x189 ∧ x189 < Int.ofNat (List.length h_Late))) <|
              some [.i (List.getD h_Late (Int.toNat x189) 0), .b (true)])
             (some [.i (List.getD h_Got (Int.toNat x183) 0), .b (true)]))
          (some [.i (List.getD h_Got (Int.toNat x183) 0), .b (true)]))
       (one (Int.ofNat (List.length h_Late)) fun x190 =>
        br (decide (x190 > 0))
          (one (subI .i64 x190 1) fun x191 =>
           chk (decide (0 ≤ x191 ∧ x191 < Int.ofNat (List.length h_Late))) <|
           chk (decide (0 ≤ x191 ∧ x191 < Int.ofNat (List.length h_Late))) <|
           some [.i (List.getD h_Late (Int.toNat x191) 0), .b (true)])
          (some [.i (0), .b (false)])))
def win_Hear (h_Got : List Int) (h_Late : List Int) (h_Lost : List Int) (w_cwnd : Int) (w_slow : Int) (w_pipe : Int) (w_count : Int) (w_halved_n : Int) (w_halved_is : Bool) (w_last_n : Int) (w_last_is : Bool) (w_runs : Bool) (w_due : Int) (w_rtt_any : Bool) (w_rtt_smooth : Int) (w_rtt_spread : Int) (w_rtt_rto : Int) (h_Marks : Int) (h_Rtt : Int) (now : Int) : Option (List Leaf) :=
  one (Int.ofNat (List.length h_Got)) fun x192 =>
  one (subI .i64 w_pipe x192) fun x193 =>
  one (Int.ofNat (List.length h_Lost)) fun x194 =>
  one (subI .i64 x193 x194) fun x195 =>
  one (maxI x195 0) fun x196 =>
  br (decide (h_Rtt ≥ 0))
    (out (rtt_Sample w_rtt_any w_rtt_smooth w_rtt_spread w_rtt_rto h_Rtt) fun r197 =>
     un_b r197 fun x198 r199 =>
     un_i r199 fun x200 r201 =>
     un_i r201 fun x202 r203 =>
     un_i r203 fun x204 r205 =>
     un_nil r205 <|
     one (Int.ofNat (List.length h_Got)) fun x206 =>
     br (decide (x206 > 0))
       (one (Int.ofNat (List.length h_Got)) fun x207 =>
        out (win_grow w_cwnd w_slow x196 w_count w_halved_n w_halved_is w_last_n w_last_is w_runs w_due x198 x200 x202 x204 x207) fun r208 =>
        un_i r208 fun x209 r210 =>
        un_i r210 fun x211 r212 =>
        un_i r212 fun x213 r214 =>
        un_i r214 fun x215 r216 =>
        un_i r216 fun x217 r218 =>
        un_b r218 fun x219 r220 =>
        un_i r220 fun x221 r222 =>
        un_b r222 fun x223 r224 =>
        un_b r224 fun x225 r226 =>
        un_i r226 fun x227 r228 =>
        un_b r228 fun x229 r230 =>
        un_i r230 fun x231 r232 =>
        un_i r232 fun x233 r234 =>
        un_i r234 fun x235 r236 =>
        un_nil r236 <|
        one (Int.ofNat (List.length h_Lost)) fun x237 =>
        br (decide (x237 > 0))
          (chk (decide (Int.ofNat (List.length h_Got) = Int.ofNat (List.length h_Got)) && (decide (Int.ofNat (List.length h_Late) = Int.ofNat (List.length h_Late)) && (decide (Int.ofNat (List.length h_Lost) = Int.ofNat (List.length h_Lost)) && true)) && true) <|
           out (win_where h_Got h_Late h_Lost h_Marks h_Rtt) fun r238 =>
           un_i r238 fun x239 r240 =>
           un_b r240 fun x241 r242 =>
           un_nil r242 <|
           br (!x219)
             (out (win_halve x209 x211 x213 x215 x217 x219 x221 x223 x225 x227 x229 x231 x233 x235) fun r243 =>
              un_i r243 fun x244 r245 =>
              un_i r245 fun x246 r247 =>
              un_i r247 fun x248 r249 =>
              un_i r249 fun x250 r251 =>
              un_i r251 fun x252 r253 =>
              un_b r253 fun x254 r255 =>
              un_i r255 fun x256 r257 =>
              un_b r257 fun x258 r259 =>
              un_b r259 fun x260 r261 =>
              un_i r261 fun x262 r263 =>
              un_b r263 fun x264 r265 =>
              un_i r265 fun x266 r267 =>
              un_i r267 fun x268 r269 =>
              un_i r269 fun x270 r271 =>
              un_nil r271 <|
              br (decide (x248 > 0))
                (out (win_runsTo x244 x246 x248 x250 x252 x254 x256 x258 false x262 x264 x266 x268 x270 now) fun r272 =>
                 un_i r272 fun x273 r274 =>
                 un_i r274 fun x275 r276 =>
                 un_i r276 fun x277 r278 =>
                 un_i r278 fun x279 r280 =>
                 un_i r280 fun x281 r282 =>
                 un_b r282 fun x283 r284 =>
                 un_i r284 fun x285 r286 =>
                 un_b r286 fun x287 r288 =>
                 un_b r288 fun x289 r290 =>
                 un_i r290 fun x291 r292 =>
                 un_b r292 fun x293 r294 =>
                 un_i r294 fun x295 r296 =>
                 un_i r296 fun x297 r298 =>
                 un_i r298 fun x299 r300 =>
                 un_nil r300 <|
                 some [.i (x273), .i (x275), .i (x277), .i (x279), .i (x281), .b (x283), .i (x285), .b (x287), .b (x289), .i (x291), .b (x293), .i (x295), .i (x297), .i (x299)])
                (some [.i (x244), .i (x246), .i (x248), .i (x250), .i (x252), .b (x254), .i (x256), .b (x258), .b (false), .i (x262), .b (x264), .i (x266), .i (x268), .i (x270)]))
             (br (x241)
                (out (seq_Less x217 x239) fun r301 =>
                 un_b r301 fun x302 r303 =>
                 un_nil r303 <|
                 br (x302)
                   (out (win_halve x209 x211 x213 x215 x217 x219 x221 x223 x225 x227 x229 x231 x233 x235) fun r304 =>
                    un_i r304 fun x305 r306 =>
                    un_i r306 fun x307 r308 =>
                    un_i r308 fun x309 r310 =>
                    un_i r310 fun x311 r312 =>
                    un_i r312 fun x313 r314 =>
                    un_b r314 fun x315 r316 =>
                    un_i r316 fun x317 r318 =>
                    un_b r318 fun x319 r320 =>
                    un_b r320 fun x321 r322 =>
                    un_i r322 fun x323 r324 =>
                    un_b r324 fun x325 r326 =>
                    un_i r326 fun x327 r328 =>
                    un_i r328 fun x329 r330 =>
                    un_i r330 fun x331 r332 =>
                    un_nil r332 <|
                    br (decide (x309 > 0))
                      (out (win_runsTo x305 x307 x309 x311 x313 x315 x317 x319 false x323 x325 x327 x329 x331 now) fun r333 =>
                       un_i r333 fun x334 r335 =>
                       un_i r335 fun x336 r337 =>
                       un_i r337 fun x338 r339 =>
                       un_i r339 fun x340 r341 =>
                       un_i r341 fun x342 r343 =>
                       un_b r343 fun x344 r345 =>
                       un_i r345 fun x346 r347 =>
                       un_b r347 fun x348 r349 =>
                       un_b r349 fun x350 r351 =>
                       un_i r351 fun x352 r353 =>
                       un_b r353 fun x354 r355 =>
                       un_i r355 fun x356 r357 =>
                       un_i r357 fun x358 r359 =>
                       un_i r359 fun x360 r361 =>
                       un_nil r361 <|
                       some [.i (x334), .i (x336), .i (x338), .i (x340), .i (x342), .b (x344), .i (x346), .b (x348), .b (x350), .i (x352), .b (x354), .i (x356), .i (x358), .i (x360)])
                      (some [.i (x305), .i (x307), .i (x309), .i (x311), .i (x313), .b (x315), .i (x317), .b (x319), .b (false), .i (x323), .b (x325), .i (x327), .i (x329), .i (x331)]))
                   (br (decide (x213 > 0))
                      (out (win_runsTo x209 x211 x213 x215 x217 x219 x221 x223 false x227 x229 x231 x233 x235 now) fun r362 =>
                       un_i r362 fun x363 r364 =>
                       un_i r364 fun x365 r366 =>
                       un_i r366 fun x367 r368 =>
                       un_i r368 fun x369 r370 =>
                       un_i r370 fun x371 r372 =>
                       un_b r372 fun x373 r374 =>
                       un_i r374 fun x375 r376 =>
                       un_b r376 fun x377 r378 =>
                       un_b r378 fun x379 r380 =>
                       un_i r380 fun x381 r382 =>
                       un_b r382 fun x383 r384 =>
                       un_i r384 fun x385 r386 =>
                       un_i r386 fun x387 r388 =>
                       un_i r388 fun x389 r390 =>
                       un_nil r390 <|
                       some [.i (x363), .i (x365), .i (x367), .i (x369), .i (x371), .b (x373), .i (x375), .b (x377), .b (x379), .i (x381), .b (x383), .i (x385), .i (x387), .i (x389)])
                      (some [.i (x209), .i (x211), .i (x213), .i (x215), .i (x217), .b (x219), .i (x221), .b (x223), .b (false), .i (x227), .b (x229), .i (x231), .i (x233), .i (x235)])))
                (br (decide (x213 > 0))
                   (out (win_runsTo x209 x211 x213 x215 x217 x219 x221 x223 false x227 x229 x231 x233 x235 now) fun r391 =>
                    un_i r391 fun x392 r393 =>
                    un_i r393 fun x394 r395 =>
                    un_i r395 fun x396 r397 =>
                    un_i r397 fun x398 r399 =>
                    un_i r399 fun x400 r401 =>
                    un_b r401 fun x402 r403 =>
                    un_i r403 fun x404 r405 =>
                    un_b r405 fun x406 r407 =>
                    un_b r407 fun x408 r409 =>
                    un_i r409 fun x410 r411 =>
                    un_b r411 fun x412 r413 =>
                    un_i r413 fun x414 r415 =>
                    un_i r415 fun x416 r417 =>
                    un_i r417 fun x418 r419 =>
                    un_nil r419 <|
                    some [.i (x392), .i (x394), .i (x396), .i (x398), .i (x400), .b (x402), .i (x404), .b (x406), .b (x408), .i (x410), .b (x412), .i (x414), .i (x416), .i (x418)])
                   (some [.i (x209), .i (x211), .i (x213), .i (x215), .i (x217), .b (x219), .i (x221), .b (x223), .b (false), .i (x227), .b (x229), .i (x231), .i (x233), .i (x235)]))))
          (br (decide (h_Marks > 0))
             (chk (decide (Int.ofNat (List.length h_Got) = Int.ofNat (List.length h_Got)) && (decide (Int.ofNat (List.length h_Late) = Int.ofNat (List.length h_Late)) && (decide (Int.ofNat (List.length h_Lost) = Int.ofNat (List.length h_Lost)) && true)) && true) <|
              out (win_where h_Got h_Late h_Lost h_Marks h_Rtt) fun r420 =>
              un_i r420 fun x421 r422 =>
              un_b r422 fun x423 r424 =>
              un_nil r424 <|
              br (!x219)
                (out (win_halve x209 x211 x213 x215 x217 x219 x221 x223 x225 x227 x229 x231 x233 x235) fun r425 =>
                 un_i r425 fun x426 r427 =>
                 un_i r427 fun x428 r429 =>
                 un_i r429 fun x430 r431 =>
                 un_i r431 fun x432 r433 =>
                 un_i r433 fun x434 r435 =>
                 un_b r435 fun x436 r437 =>
                 un_i r437 fun x438 r439 =>
                 un_b r439 fun x440 r441 =>
                 un_b r441 fun x442 r443 =>
                 un_i r443 fun x444 r445 =>
                 un_b r445 fun x446 r447 =>
                 un_i r447 fun x448 r449 =>
                 un_i r449 fun x450 r451 =>
                 un_i r451 fun x452 r453 =>
                 un_nil r453 <|
                 br (decide (x430 > 0))
                   (out (win_runsTo x426 x428 x430 x432 x434 x436 x438 x440 false x444 x446 x448 x450 x452 now) fun r454 =>
                    un_i r454 fun x455 r456 =>
                    un_i r456 fun x457 r458 =>
                    un_i r458 fun x459 r460 =>
                    un_i r460 fun x461 r462 =>
                    un_i r462 fun x463 r464 =>
                    un_b r464 fun x465 r466 =>
                    un_i r466 fun x467 r468 =>
                    un_b r468 fun x469 r470 =>
                    un_b r470 fun x471 r472 =>
                    un_i r472 fun x473 r474 =>
                    un_b r474 fun x475 r476 =>
                    un_i r476 fun x477 r478 =>
                    un_i r478 fun x479 r480 =>
                    un_i r480 fun x481 r482 =>
                    un_nil r482 <|
                    some [.i (x455), .i (x457), .i (x459), .i (x461), .i (x463), .b (x465), .i (x467), .b (x469), .b (x471), .i (x473), .b (x475), .i (x477), .i (x479), .i (x481)])
                   (some [.i (x426), .i (x428), .i (x430), .i (x432), .i (x434), .b (x436), .i (x438), .b (x440), .b (false), .i (x444), .b (x446), .i (x448), .i (x450), .i (x452)]))
                (br (x423)
                   (out (seq_Less x217 x421) fun r483 =>
                    un_b r483 fun x484 r485 =>
                    un_nil r485 <|
                    br (x484)
                      (out (win_halve x209 x211 x213 x215 x217 x219 x221 x223 x225 x227 x229 x231 x233 x235) fun r486 =>
                       un_i r486 fun x487 r488 =>
                       un_i r488 fun x489 r490 =>
                       un_i r490 fun x491 r492 =>
                       un_i r492 fun x493 r494 =>
                       un_i r494 fun x495 r496 =>
                       un_b r496 fun x497 r498 =>
                       un_i r498 fun x499 r500 =>
                       un_b r500 fun x501 r502 =>
                       un_b r502 fun x503 r504 =>
                       un_i r504 fun x505 r506 =>
                       un_b r506 fun x507 r508 =>
                       un_i r508 fun x509 r510 =>
                       un_i r510 fun x511 r512 =>
                       un_i r512 fun x513 r514 =>
                       un_nil r514 <|
                       br (decide (x491 > 0))
                         (out (win_runsTo x487 x489 x491 x493 x495 x497 x499 x501 false x505 x507 x509 x511 x513 now) fun r515 =>
                          un_i r515 fun x516 r517 =>
                          un_i r517 fun x518 r519 =>
                          un_i r519 fun x520 r521 =>
                          un_i r521 fun x522 r523 =>
                          un_i r523 fun x524 r525 =>
                          un_b r525 fun x526 r527 =>
                          un_i r527 fun x528 r529 =>
                          un_b r529 fun x530 r531 =>
                          un_b r531 fun x532 r533 =>
                          un_i r533 fun x534 r535 =>
                          un_b r535 fun x536 r537 =>
                          un_i r537 fun x538 r539 =>
                          un_i r539 fun x540 r541 =>
                          un_i r541 fun x542 r543 =>
                          un_nil r543 <|
                          some [.i (x516), .i (x518), .i (x520), .i (x522), .i (x524), .b (x526), .i (x528), .b (x530), .b (x532), .i (x534), .b (x536), .i (x538), .i (x540), .i (x542)])
                         (some [.i (x487), .i (x489), .i (x491), .i (x493), .i (x495), .b (x497), .i (x499), .b (x501), .b (false), .i (x505), .b (x507), .i (x509), .i (x511), .i (x513)]))
                      (br (decide (x213 > 0))
                         (out (win_runsTo x209 x211 x213 x215 x217 x219 x221 x223 false x227 x229 x231 x233 x235 now) fun r544 =>
                          un_i r544 fun x545 r546 =>
                          un_i r546 fun x547 r548 =>
                          un_i r548 fun x549 r550 =>
                          un_i r550 fun x551 r552 =>
                          un_i r552 fun x553 r554 =>
                          un_b r554 fun x555 r556 =>
                          un_i r556 fun x557 r558 =>
                          un_b r558 fun x559 r560 =>
                          un_b r560 fun x561 r562 =>
                          un_i r562 fun x563 r564 =>
                          un_b r564 fun x565 r566 =>
                          un_i r566 fun x567 r568 =>
                          un_i r568 fun x569 r570 =>
                          un_i r570 fun x571 r572 =>
                          un_nil r572 <|
                          some [.i (x545), .i (x547), .i (x549), .i (x551), .i (x553), .b (x555), .i (x557), .b (x559), .b (x561), .i (x563), .b (x565), .i (x567), .i (x569), .i (x571)])
                         (some [.i (x209), .i (x211), .i (x213), .i (x215), .i (x217), .b (x219), .i (x221), .b (x223), .b (false), .i (x227), .b (x229), .i (x231), .i (x233), .i (x235)])))
                   (br (decide (x213 > 0))
                      (out (win_runsTo x209 x211 x213 x215 x217 x219 x221 x223 false x227 x229 x231 x233 x235 now) fun r573 =>
                       un_i r573 fun x574 r575 =>
                       un_i r575 fun x576 r577 =>
                       un_i r577 fun x578 r579 =>
                       un_i r579 fun x580 r581 =>
                       un_i r581 fun x582 r583 =>
                       un_b r583 fun x584 r585 =>
                       un_i r585 fun x586 r587 =>
                       un_b r587 fun x588 r589 =>
                       un_b r589 fun x590 r591 =>
                       un_i r591 fun x592 r593 =>
                       un_b r593 fun x594 r595 =>
                       un_i r595 fun x596 r597 =>
                       un_i r597 fun x598 r599 =>
                       un_i r599 fun x600 r601 =>
                       un_nil r601 <|
                       some [.i (x574), .i (x576), .i (x578), .i (x580), .i (x582), .b (x584), .i (x586), .b (x588), .b (x590), .i (x592), .b (x594), .i (x596), .i (x598), .i (x600)])
                      (some [.i (x209), .i (x211), .i (x213), .i (x215), .i (x217), .b (x219), .i (x221), .b (x223), .b (false), .i (x227), .b (x229), .i (x231), .i (x233), .i (x235)]))))
             (br (decide (x213 > 0))
                (out (win_runsTo x209 x211 x213 x215 x217 x219 x221 x223 false x227 x229 x231 x233 x235 now) fun r602 =>
                 un_i r602 fun x603 r604 =>
                 un_i r604 fun x605 r606 =>
                 un_i r606 fun x607 r608 =>
                 un_i r608 fun x609 r610 =>
                 un_i r610 fun x611 r612 =>
                 un_b r612 fun x613 r614 =>
                 un_i r614 fun x615 r616 =>
                 un_b r616 fun x617 r618 =>
                 un_b r618 fun x619 r620 =>
                 un_i r620 fun x621 r622 =>
                 un_b r622 fun x623 r624 =>
                 un_i r624 fun x625 r626 =>
                 un_i r626 fun x627 r628 =>
                 un_i r628 fun x629 r630 =>
                 un_nil r630 <|
                 some [.i (x603), .i (x605), .i (x607), .i (x609), .i (x611), .b (x613), .i (x615), .b (x617), .b (x619), .i (x621), .b (x623), .i (x625), .i (x627), .i (x629)])
                (some [.i (x209), .i (x211), .i (x213), .i (x215), .i (x217), .b (x219), .i (x221), .b (x223), .b (false), .i (x227), .b (x229), .i (x231), .i (x233), .i (x235)]))))
       (one (Int.ofNat (List.length h_Lost)) fun x631 =>
        br (decide (x631 > 0))
          (chk (decide (Int.ofNat (List.length h_Got) = Int.ofNat (List.length h_Got)) && (decide (Int.ofNat (List.length h_Late) = Int.ofNat (List.length h_Late)) && (decide (Int.ofNat (List.length h_Lost) = Int.ofNat (List.length h_Lost)) && true)) && true) <|
           out (win_where h_Got h_Late h_Lost h_Marks h_Rtt) fun r632 =>
           un_i r632 fun x633 r634 =>
           un_b r634 fun x635 r636 =>
           un_nil r636 <|
           br (!w_halved_is)
             (out (win_halve w_cwnd w_slow x196 w_count w_halved_n w_halved_is w_last_n w_last_is w_runs w_due x198 x200 x202 x204) fun r637 =>
              un_i r637 fun x638 r639 =>
              un_i r639 fun x640 r641 =>
              un_i r641 fun x642 r643 =>
              un_i r643 fun x644 r645 =>
              un_i r645 fun x646 r647 =>
              un_b r647 fun x648 r649 =>
              un_i r649 fun x650 r651 =>
              un_b r651 fun x652 r653 =>
              un_b r653 fun x654 r655 =>
              un_i r655 fun x656 r657 =>
              un_b r657 fun x658 r659 =>
              un_i r659 fun x660 r661 =>
              un_i r661 fun x662 r663 =>
              un_i r663 fun x664 r665 =>
              un_nil r665 <|
              br (decide (x642 > 0))
                (out (win_runsTo x638 x640 x642 x644 x646 x648 x650 x652 false x656 x658 x660 x662 x664 now) fun r666 =>
                 un_i r666 fun x667 r668 =>
                 un_i r668 fun x669 r670 =>
                 un_i r670 fun x671 r672 =>
                 un_i r672 fun x673 r674 =>
                 un_i r674 fun x675 r676 =>
                 un_b r676 fun x677 r678 =>
                 un_i r678 fun x679 r680 =>
                 un_b r680 fun x681 r682 =>
                 un_b r682 fun x683 r684 =>
                 un_i r684 fun x685 r686 =>
                 un_b r686 fun x687 r688 =>
                 un_i r688 fun x689 r690 =>
                 un_i r690 fun x691 r692 =>
                 un_i r692 fun x693 r694 =>
                 un_nil r694 <|
                 some [.i (x667), .i (x669), .i (x671), .i (x673), .i (x675), .b (x677), .i (x679), .b (x681), .b (x683), .i (x685), .b (x687), .i (x689), .i (x691), .i (x693)])
                (some [.i (x638), .i (x640), .i (x642), .i (x644), .i (x646), .b (x648), .i (x650), .b (x652), .b (false), .i (x656), .b (x658), .i (x660), .i (x662), .i (x664)]))
             (br (x635)
                (out (seq_Less w_halved_n x633) fun r695 =>
                 un_b r695 fun x696 r697 =>
                 un_nil r697 <|
                 br (x696)
                   (out (win_halve w_cwnd w_slow x196 w_count w_halved_n w_halved_is w_last_n w_last_is w_runs w_due x198 x200 x202 x204) fun r698 =>
                    un_i r698 fun x699 r700 =>
                    un_i r700 fun x701 r702 =>
                    un_i r702 fun x703 r704 =>
                    un_i r704 fun x705 r706 =>
                    un_i r706 fun x707 r708 =>
                    un_b r708 fun x709 r710 =>
                    un_i r710 fun x711 r712 =>
                    un_b r712 fun x713 r714 =>
                    un_b r714 fun x715 r716 =>
                    un_i r716 fun x717 r718 =>
                    un_b r718 fun x719 r720 =>
                    un_i r720 fun x721 r722 =>
                    un_i r722 fun x723 r724 =>
                    un_i r724 fun x725 r726 =>
                    un_nil r726 <|
                    br (decide (x703 > 0))
                      (out (win_runsTo x699 x701 x703 x705 x707 x709 x711 x713 false x717 x719 x721 x723 x725 now) fun r727 =>
                       un_i r727 fun x728 r729 =>
                       un_i r729 fun x730 r731 =>
                       un_i r731 fun x732 r733 =>
                       un_i r733 fun x734 r735 =>
                       un_i r735 fun x736 r737 =>
                       un_b r737 fun x738 r739 =>
                       un_i r739 fun x740 r741 =>
                       un_b r741 fun x742 r743 =>
                       un_b r743 fun x744 r745 =>
                       un_i r745 fun x746 r747 =>
                       un_b r747 fun x748 r749 =>
                       un_i r749 fun x750 r751 =>
                       un_i r751 fun x752 r753 =>
                       un_i r753 fun x754 r755 =>
                       un_nil r755 <|
                       some [.i (x728), .i (x730), .i (x732), .i (x734), .i (x736), .b (x738), .i (x740), .b (x742), .b (x744), .i (x746), .b (x748), .i (x750), .i (x752), .i (x754)])
                      (some [.i (x699), .i (x701), .i (x703), .i (x705), .i (x707), .b (x709), .i (x711), .b (x713), .b (false), .i (x717), .b (x719), .i (x721), .i (x723), .i (x725)]))
                   (br (decide (x196 > 0))
                      (out (win_runsTo w_cwnd w_slow x196 w_count w_halved_n w_halved_is w_last_n w_last_is false w_due x198 x200 x202 x204 now) fun r756 =>
                       un_i r756 fun x757 r758 =>
                       un_i r758 fun x759 r760 =>
                       un_i r760 fun x761 r762 =>
                       un_i r762 fun x763 r764 =>
                       un_i r764 fun x765 r766 =>
                       un_b r766 fun x767 r768 =>
                       un_i r768 fun x769 r770 =>
                       un_b r770 fun x771 r772 =>
                       un_b r772 fun x773 r774 =>
                       un_i r774 fun x775 r776 =>
                       un_b r776 fun x777 r778 =>
                       un_i r778 fun x779 r780 =>
                       un_i r780 fun x781 r782 =>
                       un_i r782 fun x783 r784 =>
                       un_nil r784 <|
                       some [.i (x757), .i (x759), .i (x761), .i (x763), .i (x765), .b (x767), .i (x769), .b (x771), .b (x773), .i (x775), .b (x777), .i (x779), .i (x781), .i (x783)])
                      (some [.i (w_cwnd), .i (w_slow), .i (x196), .i (w_count), .i (w_halved_n), .b (w_halved_is), .i (w_last_n), .b (w_last_is), .b (false), .i (w_due), .b (x198), .i (x200), .i (x202), .i (x204)])))
                (br (decide (x196 > 0))
                   (out (win_runsTo w_cwnd w_slow x196 w_count w_halved_n w_halved_is w_last_n w_last_is false w_due x198 x200 x202 x204 now) fun r785 =>
                    un_i r785 fun x786 r787 =>
                    un_i r787 fun x788 r789 =>
                    un_i r789 fun x790 r791 =>
                    un_i r791 fun x792 r793 =>
                    un_i r793 fun x794 r795 =>
                    un_b r795 fun x796 r797 =>
                    un_i r797 fun x798 r799 =>
                    un_b r799 fun x800 r801 =>
                    un_b r801 fun x802 r803 =>
                    un_i r803 fun x804 r805 =>
                    un_b r805 fun x806 r807 =>
                    un_i r807 fun x808 r809 =>
                    un_i r809 fun x810 r811 =>
                    un_i r811 fun x812 r813 =>
                    un_nil r813 <|
                    some [.i (x786), .i (x788), .i (x790), .i (x792), .i (x794), .b (x796), .i (x798), .b (x800), .b (x802), .i (x804), .b (x806), .i (x808), .i (x810), .i (x812)])
                   (some [.i (w_cwnd), .i (w_slow), .i (x196), .i (w_count), .i (w_halved_n), .b (w_halved_is), .i (w_last_n), .b (w_last_is), .b (false), .i (w_due), .b (x198), .i (x200), .i (x202), .i (x204)]))))
          (br (decide (h_Marks > 0))
             (chk (decide (Int.ofNat (List.length h_Got) = Int.ofNat (List.length h_Got)) && (decide (Int.ofNat (List.length h_Late) = Int.ofNat (List.length h_Late)) && (decide (Int.ofNat (List.length h_Lost) = Int.ofNat (List.length h_Lost)) && true)) && true) <|
              out (win_where h_Got h_Late h_Lost h_Marks h_Rtt) fun r814 =>
              un_i r814 fun x815 r816 =>
              un_b r816 fun x817 r818 =>
              un_nil r818 <|
              br (!w_halved_is)
                (out (win_halve w_cwnd w_slow x196 w_count w_halved_n w_halved_is w_last_n w_last_is w_runs w_due x198 x200 x202 x204) fun r819 =>
                 un_i r819 fun x820 r821 =>
                 un_i r821 fun x822 r823 =>
                 un_i r823 fun x824 r825 =>
                 un_i r825 fun x826 r827 =>
                 un_i r827 fun x828 r829 =>
                 un_b r829 fun x830 r831 =>
                 un_i r831 fun x832 r833 =>
                 un_b r833 fun x834 r835 =>
                 un_b r835 fun x836 r837 =>
                 un_i r837 fun x838 r839 =>
                 un_b r839 fun x840 r841 =>
                 un_i r841 fun x842 r843 =>
                 un_i r843 fun x844 r845 =>
                 un_i r845 fun x846 r847 =>
                 un_nil r847 <|
                 br (decide (x824 > 0))
                   (out (win_runsTo x820 x822 x824 x826 x828 x830 x832 x834 false x838 x840 x842 x844 x846 now) fun r848 =>
                    un_i r848 fun x849 r850 =>
                    un_i r850 fun x851 r852 =>
                    un_i r852 fun x853 r854 =>
                    un_i r854 fun x855 r856 =>
                    un_i r856 fun x857 r858 =>
                    un_b r858 fun x859 r860 =>
                    un_i r860 fun x861 r862 =>
                    un_b r862 fun x863 r864 =>
                    un_b r864 fun x865 r866 =>
                    un_i r866 fun x867 r868 =>
                    un_b r868 fun x869 r870 =>
                    un_i r870 fun x871 r872 =>
                    un_i r872 fun x873 r874 =>
                    un_i r874 fun x875 r876 =>
                    un_nil r876 <|
                    some [.i (x849), .i (x851), .i (x853), .i (x855), .i (x857), .b (x859), .i (x861), .b (x863), .b (x865), .i (x867), .b (x869), .i (x871), .i (x873), .i (x875)])
                   (some [.i (x820), .i (x822), .i (x824), .i (x826), .i (x828), .b (x830), .i (x832), .b (x834), .b (false), .i (x838), .b (x840), .i (x842), .i (x844), .i (x846)]))
                (br (x817)
                   (out (seq_Less w_halved_n x815) fun r877 =>
                    un_b r877 fun x878 r879 =>
                    un_nil r879 <|
                    br (x878)
                      (out (win_halve w_cwnd w_slow x196 w_count w_halved_n w_halved_is w_last_n w_last_is w_runs w_due x198 x200 x202 x204) fun r880 =>
                       un_i r880 fun x881 r882 =>
                       un_i r882 fun x883 r884 =>
                       un_i r884 fun x885 r886 =>
                       un_i r886 fun x887 r888 =>
                       un_i r888 fun x889 r890 =>
                       un_b r890 fun x891 r892 =>
                       un_i r892 fun x893 r894 =>
                       un_b r894 fun x895 r896 =>
                       un_b r896 fun x897 r898 =>
                       un_i r898 fun x899 r900 =>
                       un_b r900 fun x901 r902 =>
                       un_i r902 fun x903 r904 =>
                       un_i r904 fun x905 r906 =>
                       un_i r906 fun x907 r908 =>
                       un_nil r908 <|
                       br (decide (x885 > 0))
                         (out (win_runsTo x881 x883 x885 x887 x889 x891 x893 x895 false x899 x901 x903 x905 x907 now) fun r909 =>
                          un_i r909 fun x910 r911 =>
                          un_i r911 fun x912 r913 =>
                          un_i r913 fun x914 r915 =>
                          un_i r915 fun x916 r917 =>
                          un_i r917 fun x918 r919 =>
                          un_b r919 fun x920 r921 =>
                          un_i r921 fun x922 r923 =>
                          un_b r923 fun x924 r925 =>
                          un_b r925 fun x926 r927 =>
                          un_i r927 fun x928 r929 =>
                          un_b r929 fun x930 r931 =>
                          un_i r931 fun x932 r933 =>
                          un_i r933 fun x934 r935 =>
                          un_i r935 fun x936 r937 =>
                          un_nil r937 <|
                          some [.i (x910), .i (x912), .i (x914), .i (x916), .i (x918), .b (x920), .i (x922), .b (x924), .b (x926), .i (x928), .b (x930), .i (x932), .i (x934), .i (x936)])
                         (some [.i (x881), .i (x883), .i (x885), .i (x887), .i (x889), .b (x891), .i (x893), .b (x895), .b (false), .i (x899), .b (x901), .i (x903), .i (x905), .i (x907)]))
                      (br (decide (x196 > 0))
                         (out (win_runsTo w_cwnd w_slow x196 w_count w_halved_n w_halved_is w_last_n w_last_is false w_due x198 x200 x202 x204 now) fun r938 =>
                          un_i r938 fun x939 r940 =>
                          un_i r940 fun x941 r942 =>
                          un_i r942 fun x943 r944 =>
                          un_i r944 fun x945 r946 =>
                          un_i r946 fun x947 r948 =>
                          un_b r948 fun x949 r950 =>
                          un_i r950 fun x951 r952 =>
                          un_b r952 fun x953 r954 =>
                          un_b r954 fun x955 r956 =>
                          un_i r956 fun x957 r958 =>
                          un_b r958 fun x959 r960 =>
                          un_i r960 fun x961 r962 =>
                          un_i r962 fun x963 r964 =>
                          un_i r964 fun x965 r966 =>
                          un_nil r966 <|
                          some [.i (x939), .i (x941), .i (x943), .i (x945), .i (x947), .b (x949), .i (x951), .b (x953), .b (x955), .i (x957), .b (x959), .i (x961), .i (x963), .i (x965)])
                         (some [.i (w_cwnd), .i (w_slow), .i (x196), .i (w_count), .i (w_halved_n), .b (w_halved_is), .i (w_last_n), .b (w_last_is), .b (false), .i (w_due), .b (x198), .i (x200), .i (x202), .i (x204)])))
                   (br (decide (x196 > 0))
                      (out (win_runsTo w_cwnd w_slow x196 w_count w_halved_n w_halved_is w_last_n w_last_is false w_due x198 x200 x202 x204 now) fun r967 =>
                       un_i r967 fun x968 r969 =>
                       un_i r969 fun x970 r971 =>
                       un_i r971 fun x972 r973 =>
                       un_i r973 fun x974 r975 =>
                       un_i r975 fun x976 r977 =>
                       un_b r977 fun x978 r979 =>
                       un_i r979 fun x980 r981 =>
                       un_b r981 fun x982 r983 =>
                       un_b r983 fun x984 r985 =>
                       un_i r985 fun x986 r987 =>
                       un_b r987 fun x988 r989 =>
                       un_i r989 fun x990 r991 =>
                       un_i r991 fun x992 r993 =>
                       un_i r993 fun x994 r995 =>
                       un_nil r995 <|
                       some [.i (x968), .i (x970), .i (x972), .i (x974), .i (x976), .b (x978), .i (x980), .b (x982), .b (x984), .i (x986), .b (x988), .i (x990), .i (x992), .i (x994)])
                      (some [.i (w_cwnd), .i (w_slow), .i (x196), .i (w_count), .i (w_halved_n), .b (w_halved_is), .i (w_last_n), .b (w_last_is), .b (false), .i (w_due), .b (x198), .i (x200), .i (x202), .i (x204)]))))
             (br (decide (x196 > 0))
                (out (win_runsTo w_cwnd w_slow x196 w_count w_halved_n w_halved_is w_last_n w_last_is false w_due x198 x200 x202 x204 now) fun r996 =>
                 un_i r996 fun x997 r998 =>
                 un_i r998 fun x999 r1000 =>
                 un_i r1000 fun x1001 r1002 =>
                 un_i r1002 fun x1003 r1004 =>
                 un_i r1004 fun x1005 r1006 =>
                 un_b r1006 fun x1007 r1008 =>
                 un_i r1008 fun x1009 r1010 =>
                 un_b r1010 fun x1011 r1012 =>
                 un_b r1012 fun x1013 r1014 =>
                 un_i r1014 fun x1015 r1016 =>
                 un_b r1016 fun x1017 r1018 =>
                 un_i r1018 fun x1019 r1020 =>
                 un_i r1020 fun x1021 r1022 =>
                 un_i r1022 fun x1023 r1024 =>
                 un_nil r1024 <|
                 some [.i (x997), .i (x999), .i (x1001), .i (x1003), .i (x1005), .b (x1007), .i (x1009), .b (x1011), .b (x1013), .i (x1015), .b (x1017), .i (x1019), .i (x1021), .i (x1023)])
                (some [.i (w_cwnd), .i (w_slow), .i (x196), .i (w_count), .i (w_halved_n), .b (w_halved_is), .i (w_last_n), .b (w_last_is), .b (false), .i (w_due), .b (x198), .i (x200), .i (x202), .i (x204)])))))
    (one (Int.ofNat (List.length h_Got)) fun x1025 =>
     br (decide (x1025 > 0))
       (one (Int.ofNat (List.length h_Got)) fun x1026 =>
        out (win_grow w_cwnd w_slow x196 w_count w_halved_n w_halved_is w_last_n w_last_is w_runs w_due w_rtt_any w_rtt_smooth w_rtt_spread w_rtt_rto x1026) fun r1027 =>
        un_i r1027 fun x1028 r1029 =>
        un_i r1029 fun x1030 r1031 =>
        un_i r1031 fun x1032 r1033 =>
        un_i r1033 fun x1034 r1035 =>
        un_i r1035 fun x1036 r1037 =>
        un_b r1037 fun x1038 r1039 =>
        un_i r1039 fun x1040 r1041 =>
        un_b r1041 fun x1042 r1043 =>
        un_b r1043 fun x1044 r1045 =>
        un_i r1045 fun x1046 r1047 =>
        un_b r1047 fun x1048 r1049 =>
        un_i r1049 fun x1050 r1051 =>
        un_i r1051 fun x1052 r1053 =>
        un_i r1053 fun x1054 r1055 =>
        un_nil r1055 <|
        one (Int.ofNat (List.length h_Lost)) fun x1056 =>
        br (decide (x1056 > 0))
          (chk (decide (Int.ofNat (List.length h_Got) = Int.ofNat (List.length h_Got)) && (decide (Int.ofNat (List.length h_Late) = Int.ofNat (List.length h_Late)) && (decide (Int.ofNat (List.length h_Lost) = Int.ofNat (List.length h_Lost)) && true)) && true) <|
           out (win_where h_Got h_Late h_Lost h_Marks h_Rtt) fun r1057 =>
           un_i r1057 fun x1058 r1059 =>
           un_b r1059 fun x1060 r1061 =>
           un_nil r1061 <|
           br (!x1038)
             (out (win_halve x1028 x1030 x1032 x1034 x1036 x1038 x1040 x1042 x1044 x1046 x1048 x1050 x1052 x1054) fun r1062 =>
              un_i r1062 fun x1063 r1064 =>
              un_i r1064 fun x1065 r1066 =>
              un_i r1066 fun x1067 r1068 =>
              un_i r1068 fun x1069 r1070 =>
              un_i r1070 fun x1071 r1072 =>
              un_b r1072 fun x1073 r1074 =>
              un_i r1074 fun x1075 r1076 =>
              un_b r1076 fun x1077 r1078 =>
              un_b r1078 fun x1079 r1080 =>
              un_i r1080 fun x1081 r1082 =>
              un_b r1082 fun x1083 r1084 =>
              un_i r1084 fun x1085 r1086 =>
              un_i r1086 fun x1087 r1088 =>
              un_i r1088 fun x1089 r1090 =>
              un_nil r1090 <|
              br (decide (x1067 > 0))
                (out (win_runsTo x1063 x1065 x1067 x1069 x1071 x1073 x1075 x1077 false x1081 x1083 x1085 x1087 x1089 now) fun r1091 =>
                 un_i r1091 fun x1092 r1093 =>
                 un_i r1093 fun x1094 r1095 =>
                 un_i r1095 fun x1096 r1097 =>
                 un_i r1097 fun x1098 r1099 =>
                 un_i r1099 fun x1100 r1101 =>
                 un_b r1101 fun x1102 r1103 =>
                 un_i r1103 fun x1104 r1105 =>
                 un_b r1105 fun x1106 r1107 =>
                 un_b r1107 fun x1108 r1109 =>
                 un_i r1109 fun x1110 r1111 =>
                 un_b r1111 fun x1112 r1113 =>
                 un_i r1113 fun x1114 r1115 =>
                 un_i r1115 fun x1116 r1117 =>
                 un_i r1117 fun x1118 r1119 =>
                 un_nil r1119 <|
                 some [.i (x1092), .i (x1094), .i (x1096), .i (x1098), .i (x1100), .b (x1102), .i (x1104), .b (x1106), .b (x1108), .i (x1110), .b (x1112), .i (x1114), .i (x1116), .i (x1118)])
                (some [.i (x1063), .i (x1065), .i (x1067), .i (x1069), .i (x1071), .b (x1073), .i (x1075), .b (x1077), .b (false), .i (x1081), .b (x1083), .i (x1085), .i (x1087), .i (x1089)]))
             (br (x1060)
                (out (seq_Less x1036 x1058) fun r1120 =>
                 un_b r1120 fun x1121 r1122 =>
                 un_nil r1122 <|
                 br (x1121)
                   (out (win_halve x1028 x1030 x1032 x1034 x1036 x1038 x1040 x1042 x1044 x1046 x1048 x1050 x1052 x1054) fun r1123 =>
                    un_i r1123 fun x1124 r1125 =>
                    un_i r1125 fun x1126 r1127 =>
                    un_i r1127 fun x1128 r1129 =>
                    un_i r1129 fun x1130 r1131 =>
                    un_i r1131 fun x1132 r1133 =>
                    un_b r1133 fun x1134 r1135 =>
                    un_i r1135 fun x1136 r1137 =>
                    un_b r1137 fun x1138 r1139 =>
                    un_b r1139 fun x1140 r1141 =>
                    un_i r1141 fun x1142 r1143 =>
                    un_b r1143 fun x1144 r1145 =>
                    un_i r1145 fun x1146 r1147 =>
                    un_i r1147 fun x1148 r1149 =>
                    un_i r1149 fun x1150 r1151 =>
                    un_nil r1151 <|
                    br (decide (x1128 > 0))
                      (out (win_runsTo x1124 x1126 x1128 x1130 x1132 x1134 x1136 x1138 false x1142 x1144 x1146 x1148 x1150 now) fun r1152 =>
                       un_i r1152 fun x1153 r1154 =>
                       un_i r1154 fun x1155 r1156 =>
                       un_i r1156 fun x1157 r1158 =>
                       un_i r1158 fun x1159 r1160 =>
                       un_i r1160 fun x1161 r1162 =>
                       un_b r1162 fun x1163 r1164 =>
                       un_i r1164 fun x1165 r1166 =>
                       un_b r1166 fun x1167 r1168 =>
                       un_b r1168 fun x1169 r1170 =>
                       un_i r1170 fun x1171 r1172 =>
                       un_b r1172 fun x1173 r1174 =>
                       un_i r1174 fun x1175 r1176 =>
                       un_i r1176 fun x1177 r1178 =>
                       un_i r1178 fun x1179 r1180 =>
                       un_nil r1180 <|
                       some [.i (x1153), .i (x1155), .i (x1157), .i (x1159), .i (x1161), .b (x1163), .i (x1165), .b (x1167), .b (x1169), .i (x1171), .b (x1173), .i (x1175), .i (x1177), .i (x1179)])
                      (some [.i (x1124), .i (x1126), .i (x1128), .i (x1130), .i (x1132), .b (x1134), .i (x1136), .b (x1138), .b (false), .i (x1142), .b (x1144), .i (x1146), .i (x1148), .i (x1150)]))
                   (br (decide (x1032 > 0))
                      (out (win_runsTo x1028 x1030 x1032 x1034 x1036 x1038 x1040 x1042 false x1046 x1048 x1050 x1052 x1054 now) fun r1181 =>
                       un_i r1181 fun x1182 r1183 =>
                       un_i r1183 fun x1184 r1185 =>
                       un_i r1185 fun x1186 r1187 =>
                       un_i r1187 fun x1188 r1189 =>
                       un_i r1189 fun x1190 r1191 =>
                       un_b r1191 fun x1192 r1193 =>
                       un_i r1193 fun x1194 r1195 =>
                       un_b r1195 fun x1196 r1197 =>
                       un_b r1197 fun x1198 r1199 =>
                       un_i r1199 fun x1200 r1201 =>
                       un_b r1201 fun x1202 r1203 =>
                       un_i r1203 fun x1204 r1205 =>
                       un_i r1205 fun x1206 r1207 =>
                       un_i r1207 fun x1208 r1209 =>
                       un_nil r1209 <|
                       some [.i (x1182), .i (x1184), .i (x1186), .i (x1188), .i (x1190), .b (x1192), .i (x1194), .b (x1196), .b (x1198), .i (x1200), .b (x1202), .i (x1204), .i (x1206), .i (x1208)])
                      (some [.i (x1028), .i (x1030), .i (x1032), .i (x1034), .i (x1036), .b (x1038), .i (x1040), .b (x1042), .b (false), .i (x1046), .b (x1048), .i (x1050), .i (x1052), .i (x1054)])))
                (br (decide (x1032 > 0))
                   (out (win_runsTo x1028 x1030 x1032 x1034 x1036 x1038 x1040 x1042 false x1046 x1048 x1050 x1052 x1054 now) fun r1210 =>
                    un_i r1210 fun x1211 r1212 =>
                    un_i r1212 fun x1213 r1214 =>
                    un_i r1214 fun x1215 r1216 =>
                    un_i r1216 fun x1217 r1218 =>
                    un_i r1218 fun x1219 r1220 =>
                    un_b r1220 fun x1221 r1222 =>
                    un_i r1222 fun x1223 r1224 =>
                    un_b r1224 fun x1225 r1226 =>
                    un_b r1226 fun x1227 r1228 =>
                    un_i r1228 fun x1229 r1230 =>
                    un_b r1230 fun x1231 r1232 =>
                    un_i r1232 fun x1233 r1234 =>
                    un_i r1234 fun x1235 r1236 =>
                    un_i r1236 fun x1237 r1238 =>
                    un_nil r1238 <|
                    some [.i (x1211), .i (x1213), .i (x1215), .i (x1217), .i (x1219), .b (x1221), .i (x1223), .b (x1225), .b (x1227), .i (x1229), .b (x1231), .i (x1233), .i (x1235), .i (x1237)])
                   (some [.i (x1028), .i (x1030), .i (x1032), .i (x1034), .i (x1036), .b (x1038), .i (x1040), .b (x1042), .b (false), .i (x1046), .b (x1048), .i (x1050), .i (x1052), .i (x1054)]))))
          (br (decide (h_Marks > 0))
             (chk (decide (Int.ofNat (List.length h_Got) = Int.ofNat (List.length h_Got)) && (decide (Int.ofNat (List.length h_Late) = Int.ofNat (List.length h_Late)) && (decide (Int.ofNat (List.length h_Lost) = Int.ofNat (List.length h_Lost)) && true)) && true) <|
              out (win_where h_Got h_Late h_Lost h_Marks h_Rtt) fun r1239 =>
              un_i r1239 fun x1240 r1241 =>
              un_b r1241 fun x1242 r1243 =>
              un_nil r1243 <|
              br (!x1038)
                (out (win_halve x1028 x1030 x1032 x1034 x1036 x1038 x1040 x1042 x1044 x1046 x1048 x1050 x1052 x1054) fun r1244 =>
                 un_i r1244 fun x1245 r1246 =>
                 un_i r1246 fun x1247 r1248 =>
                 un_i r1248 fun x1249 r1250 =>
                 un_i r1250 fun x1251 r1252 =>
                 un_i r1252 fun x1253 r1254 =>
                 un_b r1254 fun x1255 r1256 =>
                 un_i r1256 fun x1257 r1258 =>
                 un_b r1258 fun x1259 r1260 =>
                 un_b r1260 fun x1261 r1262 =>
                 un_i r1262 fun x1263 r1264 =>
                 un_b r1264 fun x1265 r1266 =>
                 un_i r1266 fun x1267 r1268 =>
                 un_i r1268 fun x1269 r1270 =>
                 un_i r1270 fun x1271 r1272 =>
                 un_nil r1272 <|
                 br (decide (x1249 > 0))
                   (out (win_runsTo x1245 x1247 x1249 x1251 x1253 x1255 x1257 x1259 false x1263 x1265 x1267 x1269 x1271 now) fun r1273 =>
                    un_i r1273 fun x1274 r1275 =>
                    un_i r1275 fun x1276 r1277 =>
                    un_i r1277 fun x1278 r1279 =>
                    un_i r1279 fun x1280 r1281 =>
                    un_i r1281 fun x1282 r1283 =>
                    un_b r1283 fun x1284 r1285 =>
                    un_i r1285 fun x1286 r1287 =>
                    un_b r1287 fun x1288 r1289 =>
                    un_b r1289 fun x1290 r1291 =>
                    un_i r1291 fun x1292 r1293 =>
                    un_b r1293 fun x1294 r1295 =>
                    un_i r1295 fun x1296 r1297 =>
                    un_i r1297 fun x1298 r1299 =>
                    un_i r1299 fun x1300 r1301 =>
                    un_nil r1301 <|
                    some [.i (x1274), .i (x1276), .i (x1278), .i (x1280), .i (x1282), .b (x1284), .i (x1286), .b (x1288), .b (x1290), .i (x1292), .b (x1294), .i (x1296), .i (x1298), .i (x1300)])
                   (some [.i (x1245), .i (x1247), .i (x1249), .i (x1251), .i (x1253), .b (x1255), .i (x1257), .b (x1259), .b (false), .i (x1263), .b (x1265), .i (x1267), .i (x1269), .i (x1271)]))
                (br (x1242)
                   (out (seq_Less x1036 x1240) fun r1302 =>
                    un_b r1302 fun x1303 r1304 =>
                    un_nil r1304 <|
                    br (x1303)
                      (out (win_halve x1028 x1030 x1032 x1034 x1036 x1038 x1040 x1042 x1044 x1046 x1048 x1050 x1052 x1054) fun r1305 =>
                       un_i r1305 fun x1306 r1307 =>
                       un_i r1307 fun x1308 r1309 =>
                       un_i r1309 fun x1310 r1311 =>
                       un_i r1311 fun x1312 r1313 =>
                       un_i r1313 fun x1314 r1315 =>
                       un_b r1315 fun x1316 r1317 =>
                       un_i r1317 fun x1318 r1319 =>
                       un_b r1319 fun x1320 r1321 =>
                       un_b r1321 fun x1322 r1323 =>
                       un_i r1323 fun x1324 r1325 =>
                       un_b r1325 fun x1326 r1327 =>
                       un_i r1327 fun x1328 r1329 =>
                       un_i r1329 fun x1330 r1331 =>
                       un_i r1331 fun x1332 r1333 =>
                       un_nil r1333 <|
                       br (decide (x1310 > 0))
                         (out (win_runsTo x1306 x1308 x1310 x1312 x1314 x1316 x1318 x1320 false x1324 x1326 x1328 x1330 x1332 now) fun r1334 =>
                          un_i r1334 fun x1335 r1336 =>
                          un_i r1336 fun x1337 r1338 =>
                          un_i r1338 fun x1339 r1340 =>
                          un_i r1340 fun x1341 r1342 =>
                          un_i r1342 fun x1343 r1344 =>
                          un_b r1344 fun x1345 r1346 =>
                          un_i r1346 fun x1347 r1348 =>
                          un_b r1348 fun x1349 r1350 =>
                          un_b r1350 fun x1351 r1352 =>
                          un_i r1352 fun x1353 r1354 =>
                          un_b r1354 fun x1355 r1356 =>
                          un_i r1356 fun x1357 r1358 =>
                          un_i r1358 fun x1359 r1360 =>
                          un_i r1360 fun x1361 r1362 =>
                          un_nil r1362 <|
                          some [.i (x1335), .i (x1337), .i (x1339), .i (x1341), .i (x1343), .b (x1345), .i (x1347), .b (x1349), .b (x1351), .i (x1353), .b (x1355), .i (x1357), .i (x1359), .i (x1361)])
                         (some [.i (x1306), .i (x1308), .i (x1310), .i (x1312), .i (x1314), .b (x1316), .i (x1318), .b (x1320), .b (false), .i (x1324), .b (x1326), .i (x1328), .i (x1330), .i (x1332)]))
                      (br (decide (x1032 > 0))
                         (out (win_runsTo x1028 x1030 x1032 x1034 x1036 x1038 x1040 x1042 false x1046 x1048 x1050 x1052 x1054 now) fun r1363 =>
                          un_i r1363 fun x1364 r1365 =>
                          un_i r1365 fun x1366 r1367 =>
                          un_i r1367 fun x1368 r1369 =>
                          un_i r1369 fun x1370 r1371 =>
                          un_i r1371 fun x1372 r1373 =>
                          un_b r1373 fun x1374 r1375 =>
                          un_i r1375 fun x1376 r1377 =>
                          un_b r1377 fun x1378 r1379 =>
                          un_b r1379 fun x1380 r1381 =>
                          un_i r1381 fun x1382 r1383 =>
                          un_b r1383 fun x1384 r1385 =>
                          un_i r1385 fun x1386 r1387 =>
                          un_i r1387 fun x1388 r1389 =>
                          un_i r1389 fun x1390 r1391 =>
                          un_nil r1391 <|
                          some [.i (x1364), .i (x1366), .i (x1368), .i (x1370), .i (x1372), .b (x1374), .i (x1376), .b (x1378), .b (x1380), .i (x1382), .b (x1384), .i (x1386), .i (x1388), .i (x1390)])
                         (some [.i (x1028), .i (x1030), .i (x1032), .i (x1034), .i (x1036), .b (x1038), .i (x1040), .b (x1042), .b (false), .i (x1046), .b (x1048), .i (x1050), .i (x1052), .i (x1054)])))
                   (br (decide (x1032 > 0))
                      (out (win_runsTo x1028 x1030 x1032 x1034 x1036 x1038 x1040 x1042 false x1046 x1048 x1050 x1052 x1054 now) fun r1392 =>
                       un_i r1392 fun x1393 r1394 =>
                       un_i r1394 fun x1395 r1396 =>
                       un_i r1396 fun x1397 r1398 =>
                       un_i r1398 fun x1399 r1400 =>
                       un_i r1400 fun x1401 r1402 =>
                       un_b r1402 fun x1403 r1404 =>
                       un_i r1404 fun x1405 r1406 =>
                       un_b r1406 fun x1407 r1408 =>
                       un_b r1408 fun x1409 r1410 =>
                       un_i r1410 fun x1411 r1412 =>
                       un_b r1412 fun x1413 r1414 =>
                       un_i r1414 fun x1415 r1416 =>
                       un_i r1416 fun x1417 r1418 =>
                       un_i r1418 fun x1419 r1420 =>
                       un_nil r1420 <|
                       some [.i (x1393), .i (x1395), .i (x1397), .i (x1399), .i (x1401), .b (x1403), .i (x1405), .b (x1407), .b (x1409), .i (x1411), .b (x1413), .i (x1415), .i (x1417), .i (x1419)])
                      (some [.i (x1028), .i (x1030), .i (x1032), .i (x1034), .i (x1036), .b (x1038), .i (x1040), .b (x1042), .b (false), .i (x1046), .b (x1048), .i (x1050), .i (x1052), .i (x1054)]))))
             (br (decide (x1032 > 0))
                (out (win_runsTo x1028 x1030 x1032 x1034 x1036 x1038 x1040 x1042 false x1046 x1048 x1050 x1052 x1054 now) fun r1421 =>
                 un_i r1421 fun x1422 r1423 =>
                 un_i r1423 fun x1424 r1425 =>
                 un_i r1425 fun x1426 r1427 =>
                 un_i r1427 fun x1428 r1429 =>
                 un_i r1429 fun x1430 r1431 =>
                 un_b r1431 fun x1432 r1433 =>
                 un_i r1433 fun x1434 r1435 =>
                 un_b r1435 fun x1436 r1437 =>
                 un_b r1437 fun x1438 r1439 =>
                 un_i r1439 fun x1440 r1441 =>
                 un_b r1441 fun x1442 r1443 =>
                 un_i r1443 fun x1444 r1445 =>
                 un_i r1445 fun x1446 r1447 =>
                 un_i r1447 fun x1448 r1449 =>
                 un_nil r1449 <|
                 some [.i (x1422), .i (x1424), .i (x1426), .i (x1428), .i (x1430), .b (x1432), .i (x1434), .b (x1436), .b (x1438), .i (x1440), .b (x1442), .i (x1444), .i (x1446), .i (x1448)])
                (some [.i (x1028), .i (x1030), .i (x1032), .i (x1034), .i (x1036), .b (x1038), .i (x1040), .b (x1042), .b (false), .i (x1046), .b (x1048), .i (x1050), .i (x1052), .i (x1054)]))))
       (one (Int.ofNat (List.length h_Lost)) fun x1450 =>
        br (decide (x1450 > 0))
          (chk (decide (Int.ofNat (List.length h_Got) = Int.ofNat (List.length h_Got)) && (decide (Int.ofNat (List.length h_Late) = Int.ofNat (List.length h_Late)) && (decide (Int.ofNat (List.length h_Lost) = Int.ofNat (List.length h_Lost)) && true)) && true) <|
           out (win_where h_Got h_Late h_Lost h_Marks h_Rtt) fun r1451 =>
           un_i r1451 fun x1452 r1453 =>
           un_b r1453 fun x1454 r1455 =>
           un_nil r1455 <|
           br (!w_halved_is)
             (out (win_halve w_cwnd w_slow x196 w_count w_halved_n w_halved_is w_last_n w_last_is w_runs w_due w_rtt_any w_rtt_smooth w_rtt_spread w_rtt_rto) fun r1456 =>
              un_i r1456 fun x1457 r1458 =>
              un_i r1458 fun x1459 r1460 =>
              un_i r1460 fun x1461 r1462 =>
              un_i r1462 fun x1463 r1464 =>
              un_i r1464 fun x1465 r1466 =>
              un_b r1466 fun x1467 r1468 =>
              un_i r1468 fun x1469 r1470 =>
              un_b r1470 fun x1471 r1472 =>
              un_b r1472 fun x1473 r1474 =>
              un_i r1474 fun x1475 r1476 =>
              un_b r1476 fun x1477 r1478 =>
              un_i r1478 fun x1479 r1480 =>
              un_i r1480 fun x1481 r1482 =>
              un_i r1482 fun x1483 r1484 =>
              un_nil r1484 <|
              br (decide (x1461 > 0))
                (out (win_runsTo x1457 x1459 x1461 x1463 x1465 x1467 x1469 x1471 false x1475 x1477 x1479 x1481 x1483 now) fun r1485 =>
                 un_i r1485 fun x1486 r1487 =>
                 un_i r1487 fun x1488 r1489 =>
                 un_i r1489 fun x1490 r1491 =>
                 un_i r1491 fun x1492 r1493 =>
                 un_i r1493 fun x1494 r1495 =>
                 un_b r1495 fun x1496 r1497 =>
                 un_i r1497 fun x1498 r1499 =>
                 un_b r1499 fun x1500 r1501 =>
                 un_b r1501 fun x1502 r1503 =>
                 un_i r1503 fun x1504 r1505 =>
                 un_b r1505 fun x1506 r1507 =>
                 un_i r1507 fun x1508 r1509 =>
                 un_i r1509 fun x1510 r1511 =>
                 un_i r1511 fun x1512 r1513 =>
                 un_nil r1513 <|
                 some [.i (x1486), .i (x1488), .i (x1490), .i (x1492), .i (x1494), .b (x1496), .i (x1498), .b (x1500), .b (x1502), .i (x1504), .b (x1506), .i (x1508), .i (x1510), .i (x1512)])
                (some [.i (x1457), .i (x1459), .i (x1461), .i (x1463), .i (x1465), .b (x1467), .i (x1469), .b (x1471), .b (false), .i (x1475), .b (x1477), .i (x1479), .i (x1481), .i (x1483)]))
             (br (x1454)
                (out (seq_Less w_halved_n x1452) fun r1514 =>
                 un_b r1514 fun x1515 r1516 =>
                 un_nil r1516 <|
                 br (x1515)
                   (out (win_halve w_cwnd w_slow x196 w_count w_halved_n w_halved_is w_last_n w_last_is w_runs w_due w_rtt_any w_rtt_smooth w_rtt_spread w_rtt_rto) fun r1517 =>
                    un_i r1517 fun x1518 r1519 =>
                    un_i r1519 fun x1520 r1521 =>
                    un_i r1521 fun x1522 r1523 =>
                    un_i r1523 fun x1524 r1525 =>
                    un_i r1525 fun x1526 r1527 =>
                    un_b r1527 fun x1528 r1529 =>
                    un_i r1529 fun x1530 r1531 =>
                    un_b r1531 fun x1532 r1533 =>
                    un_b r1533 fun x1534 r1535 =>
                    un_i r1535 fun x1536 r1537 =>
                    un_b r1537 fun x1538 r1539 =>
                    un_i r1539 fun x1540 r1541 =>
                    un_i r1541 fun x1542 r1543 =>
                    un_i r1543 fun x1544 r1545 =>
                    un_nil r1545 <|
                    br (decide (x1522 > 0))
                      (out (win_runsTo x1518 x1520 x1522 x1524 x1526 x1528 x1530 x1532 false x1536 x1538 x1540 x1542 x1544 now) fun r1546 =>
                       un_i r1546 fun x1547 r1548 =>
                       un_i r1548 fun x1549 r1550 =>
                       un_i r1550 fun x1551 r1552 =>
                       un_i r1552 fun x1553 r1554 =>
                       un_i r1554 fun x1555 r1556 =>
                       un_b r1556 fun x1557 r1558 =>
                       un_i r1558 fun x1559 r1560 =>
                       un_b r1560 fun x1561 r1562 =>
                       un_b r1562 fun x1563 r1564 =>
                       un_i r1564 fun x1565 r1566 =>
                       un_b r1566 fun x1567 r1568 =>
                       un_i r1568 fun x1569 r1570 =>
                       un_i r1570 fun x1571 r1572 =>
                       un_i r1572 fun x1573 r1574 =>
                       un_nil r1574 <|
                       some [.i (x1547), .i (x1549), .i (x1551), .i (x1553), .i (x1555), .b (x1557), .i (x1559), .b (x1561), .b (x1563), .i (x1565), .b (x1567), .i (x1569), .i (x1571), .i (x1573)])
                      (some [.i (x1518), .i (x1520), .i (x1522), .i (x1524), .i (x1526), .b (x1528), .i (x1530), .b (x1532), .b (false), .i (x1536), .b (x1538), .i (x1540), .i (x1542), .i (x1544)]))
                   (br (decide (x196 > 0))
                      (out (win_runsTo w_cwnd w_slow x196 w_count w_halved_n w_halved_is w_last_n w_last_is false w_due w_rtt_any w_rtt_smooth w_rtt_spread w_rtt_rto now) fun r1575 =>
                       un_i r1575 fun x1576 r1577 =>
                       un_i r1577 fun x1578 r1579 =>
                       un_i r1579 fun x1580 r1581 =>
                       un_i r1581 fun x1582 r1583 =>
                       un_i r1583 fun x1584 r1585 =>
                       un_b r1585 fun x1586 r1587 =>
                       un_i r1587 fun x1588 r1589 =>
                       un_b r1589 fun x1590 r1591 =>
                       un_b r1591 fun x1592 r1593 =>
                       un_i r1593 fun x1594 r1595 =>
                       un_b r1595 fun x1596 r1597 =>
                       un_i r1597 fun x1598 r1599 =>
                       un_i r1599 fun x1600 r1601 =>
                       un_i r1601 fun x1602 r1603 =>
                       un_nil r1603 <|
                       some [.i (x1576), .i (x1578), .i (x1580), .i (x1582), .i (x1584), .b (x1586), .i (x1588), .b (x1590), .b (x1592), .i (x1594), .b (x1596), .i (x1598), .i (x1600), .i (x1602)])
                      (some [.i (w_cwnd), .i (w_slow), .i (x196), .i (w_count), .i (w_halved_n), .b (w_halved_is), .i (w_last_n), .b (w_last_is), .b (false), .i (w_due), .b (w_rtt_any), .i (w_rtt_smooth), .i (w_rtt_spread), .i (w_rtt_rto)])))
                (br (decide (x196 > 0))
                   (out (win_runsTo w_cwnd w_slow x196 w_count w_halved_n w_halved_is w_last_n w_last_is false w_due w_rtt_any w_rtt_smooth w_rtt_spread w_rtt_rto now) fun r1604 =>
                    un_i r1604 fun x1605 r1606 =>
                    un_i r1606 fun x1607 r1608 =>
                    un_i r1608 fun x1609 r1610 =>
                    un_i r1610 fun x1611 r1612 =>
                    un_i r1612 fun x1613 r1614 =>
                    un_b r1614 fun x1615 r1616 =>
                    un_i r1616 fun x1617 r1618 =>
                    un_b r1618 fun x1619 r1620 =>
                    un_b r1620 fun x1621 r1622 =>
                    un_i r1622 fun x1623 r1624 =>
                    un_b r1624 fun x1625 r1626 =>
                    un_i r1626 fun x1627 r1628 =>
                    un_i r1628 fun x1629 r1630 =>
                    un_i r1630 fun x1631 r1632 =>
                    un_nil r1632 <|
                    some [.i (x1605), .i (x1607), .i (x1609), .i (x1611), .i (x1613), .b (x1615), .i (x1617), .b (x1619), .b (x1621), .i (x1623), .b (x1625), .i (x1627), .i (x1629), .i (x1631)])
                   (some [.i (w_cwnd), .i (w_slow), .i (x196), .i (w_count), .i (w_halved_n), .b (w_halved_is), .i (w_last_n), .b (w_last_is), .b (false), .i (w_due), .b (w_rtt_any), .i (w_rtt_smooth), .i (w_rtt_spread), .i (w_rtt_rto)]))))
          (br (decide (h_Marks > 0))
             (chk (decide (Int.ofNat (List.length h_Got) = Int.ofNat (List.length h_Got)) && (decide (Int.ofNat (List.length h_Late) = Int.ofNat (List.length h_Late)) && (decide (Int.ofNat (List.length h_Lost) = Int.ofNat (List.length h_Lost)) && true)) && true) <|
              out (win_where h_Got h_Late h_Lost h_Marks h_Rtt) fun r1633 =>
              un_i r1633 fun x1634 r1635 =>
              un_b r1635 fun x1636 r1637 =>
              un_nil r1637 <|
              br (!w_halved_is)
                (out (win_halve w_cwnd w_slow x196 w_count w_halved_n w_halved_is w_last_n w_last_is w_runs w_due w_rtt_any w_rtt_smooth w_rtt_spread w_rtt_rto) fun r1638 =>
                 un_i r1638 fun x1639 r1640 =>
                 un_i r1640 fun x1641 r1642 =>
                 un_i r1642 fun x1643 r1644 =>
                 un_i r1644 fun x1645 r1646 =>
                 un_i r1646 fun x1647 r1648 =>
                 un_b r1648 fun x1649 r1650 =>
                 un_i r1650 fun x1651 r1652 =>
                 un_b r1652 fun x1653 r1654 =>
                 un_b r1654 fun x1655 r1656 =>
                 un_i r1656 fun x1657 r1658 =>
                 un_b r1658 fun x1659 r1660 =>
                 un_i r1660 fun x1661 r1662 =>
                 un_i r1662 fun x1663 r1664 =>
                 un_i r1664 fun x1665 r1666 =>
                 un_nil r1666 <|
                 br (decide (x1643 > 0))
                   (out (win_runsTo x1639 x1641 x1643 x1645 x1647 x1649 x1651 x1653 false x1657 x1659 x1661 x1663 x1665 now) fun r1667 =>
                    un_i r1667 fun x1668 r1669 =>
                    un_i r1669 fun x1670 r1671 =>
                    un_i r1671 fun x1672 r1673 =>
                    un_i r1673 fun x1674 r1675 =>
                    un_i r1675 fun x1676 r1677 =>
                    un_b r1677 fun x1678 r1679 =>
                    un_i r1679 fun x1680 r1681 =>
                    un_b r1681 fun x1682 r1683 =>
                    un_b r1683 fun x1684 r1685 =>
                    un_i r1685 fun x1686 r1687 =>
                    un_b r1687 fun x1688 r1689 =>
                    un_i r1689 fun x1690 r1691 =>
                    un_i r1691 fun x1692 r1693 =>
                    un_i r1693 fun x1694 r1695 =>
                    un_nil r1695 <|
                    some [.i (x1668), .i (x1670), .i (x1672), .i (x1674), .i (x1676), .b (x1678), .i (x1680), .b (x1682), .b (x1684), .i (x1686), .b (x1688), .i (x1690), .i (x1692), .i (x1694)])
                   (some [.i (x1639), .i (x1641), .i (x1643), .i (x1645), .i (x1647), .b (x1649), .i (x1651), .b (x1653), .b (false), .i (x1657), .b (x1659), .i (x1661), .i (x1663), .i (x1665)]))
                (br (x1636)
                   (out (seq_Less w_halved_n x1634) fun r1696 =>
                    un_b r1696 fun x1697 r1698 =>
                    un_nil r1698 <|
                    br (x1697)
                      (out (win_halve w_cwnd w_slow x196 w_count w_halved_n w_halved_is w_last_n w_last_is w_runs w_due w_rtt_any w_rtt_smooth w_rtt_spread w_rtt_rto) fun r1699 =>
                       un_i r1699 fun x1700 r1701 =>
                       un_i r1701 fun x1702 r1703 =>
                       un_i r1703 fun x1704 r1705 =>
                       un_i r1705 fun x1706 r1707 =>
                       un_i r1707 fun x1708 r1709 =>
                       un_b r1709 fun x1710 r1711 =>
                       un_i r1711 fun x1712 r1713 =>
                       un_b r1713 fun x1714 r1715 =>
                       un_b r1715 fun x1716 r1717 =>
                       un_i r1717 fun x1718 r1719 =>
                       un_b r1719 fun x1720 r1721 =>
                       un_i r1721 fun x1722 r1723 =>
                       un_i r1723 fun x1724 r1725 =>
                       un_i r1725 fun x1726 r1727 =>
                       un_nil r1727 <|
                       br (decide (x1704 > 0))
                         (out (win_runsTo x1700 x1702 x1704 x1706 x1708 x1710 x1712 x1714 false x1718 x1720 x1722 x1724 x1726 now) fun r1728 =>
                          un_i r1728 fun x1729 r1730 =>
                          un_i r1730 fun x1731 r1732 =>
                          un_i r1732 fun x1733 r1734 =>
                          un_i r1734 fun x1735 r1736 =>
                          un_i r1736 fun x1737 r1738 =>
                          un_b r1738 fun x1739 r1740 =>
                          un_i r1740 fun x1741 r1742 =>
                          un_b r1742 fun x1743 r1744 =>
                          un_b r1744 fun x1745 r1746 =>
                          un_i r1746 fun x1747 r1748 =>
                          un_b r1748 fun x1749 r1750 =>
                          un_i r1750 fun x1751 r1752 =>
                          un_i r1752 fun x1753 r1754 =>
                          un_i r1754 fun x1755 r1756 =>
                          un_nil r1756 <|
                          some [.i (x1729), .i (x1731), .i (x1733), .i (x1735), .i (x1737), .b (x1739), .i (x1741), .b (x1743), .b (x1745), .i (x1747), .b (x1749), .i (x1751), .i (x1753), .i (x1755)])
                         (some [.i (x1700), .i (x1702), .i (x1704), .i (x1706), .i (x1708), .b (x1710), .i (x1712), .b (x1714), .b (false), .i (x1718), .b (x1720), .i (x1722), .i (x1724), .i (x1726)]))
                      (br (decide (x196 > 0))
                         (out (win_runsTo w_cwnd w_slow x196 w_count w_halved_n w_halved_is w_last_n w_last_is false w_due w_rtt_any w_rtt_smooth w_rtt_spread w_rtt_rto now) fun r1757 =>
                          un_i r1757 fun x1758 r1759 =>
                          un_i r1759 fun x1760 r1761 =>
                          un_i r1761 fun x1762 r1763 =>
                          un_i r1763 fun x1764 r1765 =>
                          un_i r1765 fun x1766 r1767 =>
                          un_b r1767 fun x1768 r1769 =>
                          un_i r1769 fun x1770 r1771 =>
                          un_b r1771 fun x1772 r1773 =>
                          un_b r1773 fun x1774 r1775 =>
                          un_i r1775 fun x1776 r1777 =>
                          un_b r1777 fun x1778 r1779 =>
                          un_i r1779 fun x1780 r1781 =>
                          un_i r1781 fun x1782 r1783 =>
                          un_i r1783 fun x1784 r1785 =>
                          un_nil r1785 <|
                          some [.i (x1758), .i (x1760), .i (x1762), .i (x1764), .i (x1766), .b (x1768), .i (x1770), .b (x1772), .b (x1774), .i (x1776), .b (x1778), .i (x1780), .i (x1782), .i (x1784)])
                         (some [.i (w_cwnd), .i (w_slow), .i (x196), .i (w_count), .i (w_halved_n), .b (w_halved_is), .i (w_last_n), .b (w_last_is), .b (false), .i (w_due), .b (w_rtt_any), .i (w_rtt_smooth), .i (w_rtt_spread), .i (w_rtt_rto)])))
                   (br (decide (x196 > 0))
                      (out (win_runsTo w_cwnd w_slow x196 w_count w_halved_n w_halved_is w_last_n w_last_is false w_due w_rtt_any w_rtt_smooth w_rtt_spread w_rtt_rto now) fun r1786 =>
                       un_i r1786 fun x1787 r1788 =>
                       un_i r1788 fun x1789 r1790 =>
                       un_i r1790 fun x1791 r1792 =>
                       un_i r1792 fun x1793 r1794 =>
                       un_i r1794 fun x1795 r1796 =>
                       un_b r1796 fun x1797 r1798 =>
                       un_i r1798 fun x1799 r1800 =>
                       un_b r1800 fun x1801 r1802 =>
                       un_b r1802 fun x1803 r1804 =>
                       un_i r1804 fun x1805 r1806 =>
                       un_b r1806 fun x1807 r1808 =>
                       un_i r1808 fun x1809 r1810 =>
                       un_i r1810 fun x1811 r1812 =>
                       un_i r1812 fun x1813 r1814 =>
                       un_nil r1814 <|
                       some [.i (x1787), .i (x1789), .i (x1791), .i (x1793), .i (x1795), .b (x1797), .i (x1799), .b (x1801), .b (x1803), .i (x1805), .b (x1807), .i (x1809), .i (x1811), .i (x1813)])
                      (some [.i (w_cwnd), .i (w_slow), .i (x196), .i (w_count), .i (w_halved_n), .b (w_halved_is), .i (w_last_n), .b (w_last_is), .b (false), .i (w_due), .b (w_rtt_any), .i (w_rtt_smooth), .i (w_rtt_spread), .i (w_rtt_rto)]))))
             (br (decide (x196 > 0))
                (out (win_runsTo w_cwnd w_slow x196 w_count w_halved_n w_halved_is w_last_n w_last_is false w_due w_rtt_any w_rtt_smooth w_rtt_spread w_rtt_rto now) fun r1815 =>
                 un_i r1815 fun x1816 r1817 =>
                 un_i r1817 fun x1818 r1819 =>
                 un_i r1819 fun x1820 r1821 =>
                 un_i r1821 fun x1822 r1823 =>
                 un_i r1823 fun x1824 r1825 =>
                 un_b r1825 fun x1826 r1827 =>
                 un_i r1827 fun x1828 r1829 =>
                 un_b r1829 fun x1830 r1831 =>
                 un_b r1831 fun x1832 r1833 =>
                 un_i r1833 fun x1834 r1835 =>
                 un_b r1835 fun x1836 r1837 =>
                 un_i r1837 fun x1838 r1839 =>
                 un_i r1839 fun x1840 r1841 =>
                 un_i r1841 fun x1842 r1843 =>
                 un_nil r1843 <|
                 some [.i (x1816), .i (x1818), .i (x1820), .i (x1822), .i (x1824), .b (x1826), .i (x1828), .b (x1830), .b (x1832), .i (x1834), .b (x1836), .i (x1838), .i (x1840), .i (x1842)])
                (some [.i (w_cwnd), .i (w_slow), .i (x196), .i (w_count), .i (w_halved_n), .b (w_halved_is), .i (w_last_n), .b (w_last_is), .b (false), .i (w_due), .b (w_rtt_any), .i (w_rtt_smooth), .i (w_rtt_spread), .i (w_rtt_rto)])))))
def win_Due (w_cwnd : Int) (w_slow : Int) (w_pipe : Int) (w_count : Int) (w_halved_n : Int) (w_halved_is : Bool) (w_last_n : Int) (w_last_is : Bool) (w_runs : Bool) (w_due : Int) (w_rtt_any : Bool) (w_rtt_smooth : Int) (w_rtt_spread : Int) (w_rtt_rto : Int) : Option (List Leaf) :=
  br (!w_runs)
    (some [.i (0), .b (false)])
    (some [.i (w_due), .b (true)])
def win_Fire (w_cwnd : Int) (w_slow : Int) (w_pipe : Int) (w_count : Int) (w_halved_n : Int) (w_halved_is : Bool) (w_last_n : Int) (w_last_is : Bool) (w_runs : Bool) (w_due : Int) (w_rtt_any : Bool) (w_rtt_smooth : Int) (w_rtt_spread : Int) (w_rtt_rto : Int) (now : Int) : Option (List Leaf) :=
  br (!w_runs)
    (some [.i (w_cwnd), .i (w_slow), .i (w_pipe), .i (w_count), .i (w_halved_n), .b (w_halved_is), .i (w_last_n), .b (w_last_is), .b (w_runs), .i (w_due), .b (w_rtt_any), .i (w_rtt_smooth), .i (w_rtt_spread), .i (w_rtt_rto), .b (false)])
    (one (minI now 4611686018427387904) fun x1844 =>
     br (decide (x1844 < w_due))
       (some [.i (w_cwnd), .i (w_slow), .i (w_pipe), .i (w_count), .i (w_halved_n), .b (w_halved_is), .i (w_last_n), .b (w_last_is), .b (w_runs), .i (w_due), .b (w_rtt_any), .i (w_rtt_smooth), .i (w_rtt_spread), .i (w_rtt_rto), .b (false)])
       (out (win_halve w_cwnd w_slow w_pipe w_count w_halved_n w_halved_is w_last_n w_last_is w_runs w_due w_rtt_any w_rtt_smooth w_rtt_spread w_rtt_rto) fun r1845 =>
        un_i r1845 fun x1846 r1847 =>
        un_i r1847 fun x1848 r1849 =>
        un_i r1849 fun x1850 r1851 =>
        un_i r1851 fun x1852 r1853 =>
        un_i r1853 fun x1854 r1855 =>
        un_b r1855 fun x1856 r1857 =>
        un_i r1857 fun x1858 r1859 =>
        un_b r1859 fun x1860 r1861 =>
        un_b r1861 fun x1862 r1863 =>
        un_i r1863 fun x1864 r1865 =>
        un_b r1865 fun x1866 r1867 =>
        un_i r1867 fun x1868 r1869 =>
        un_i r1869 fun x1870 r1871 =>
        un_i r1871 fun x1872 r1873 =>
        un_nil r1873 <|
        out (rtt_Back x1866 x1868 x1870 x1872) fun r1874 =>
        un_b r1874 fun x1875 r1876 =>
        un_i r1876 fun x1877 r1878 =>
        un_i r1878 fun x1879 r1880 =>
        un_i r1880 fun x1881 r1882 =>
        un_nil r1882 <|
        some [.i (1), .i (x1848), .i (0), .i (x1852), .i (x1854), .b (x1856), .i (x1858), .b (x1860), .b (false), .i (x1864), .b (x1875), .i (x1877), .i (x1879), .i (x1881), .b (true)]))
def win_Cwnd (w_cwnd : Int) (w_slow : Int) (w_pipe : Int) (w_count : Int) (w_halved_n : Int) (w_halved_is : Bool) (w_last_n : Int) (w_last_is : Bool) (w_runs : Bool) (w_due : Int) (w_rtt_any : Bool) (w_rtt_smooth : Int) (w_rtt_spread : Int) (w_rtt_rto : Int) : Option (List Leaf) :=
  some [.i (w_cwnd)]
def win_Slow (w_cwnd : Int) (w_slow : Int) (w_pipe : Int) (w_count : Int) (w_halved_n : Int) (w_halved_is : Bool) (w_last_n : Int) (w_last_is : Bool) (w_runs : Bool) (w_due : Int) (w_rtt_any : Bool) (w_rtt_smooth : Int) (w_rtt_spread : Int) (w_rtt_rto : Int) : Option (List Leaf) :=
  some [.i (w_slow)]
def win_Pipe (w_cwnd : Int) (w_slow : Int) (w_pipe : Int) (w_count : Int) (w_halved_n : Int) (w_halved_is : Bool) (w_last_n : Int) (w_last_is : Bool) (w_runs : Bool) (w_due : Int) (w_rtt_any : Bool) (w_rtt_smooth : Int) (w_rtt_spread : Int) (w_rtt_rto : Int) : Option (List Leaf) :=
  some [.i (w_pipe)]
end Go.Sx.T

