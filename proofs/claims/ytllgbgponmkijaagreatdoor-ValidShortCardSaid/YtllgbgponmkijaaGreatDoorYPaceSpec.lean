import Derived.Test.YtllgbgponmkijaaGreatDoorYFixSpec
set_option linter.all false
namespace Go.Sx.T
open Go Go.Sx
def pace_New (s : Int) (tick : Int) : Option (List Leaf) :=
  br (decide (s < 1))
    (none)
    (br (decide (s > 1400))
       (none)
       (br (decide (tick < 0))
          (none)
          (br (decide (tick > 1000000))
             (none)
             (one (wrapI .u64 s) fun x96 =>
              one (wrapI .u64 tick) fun x97 =>
              some [.i (x96), .i (x97), .i (0), .i (0), .i (0)]))))
def pace_Cap (p_s : Int) (p_tick : Int) (p_has : Int) (p_rate : Int) (p_now : Int) : Option (List Leaf) :=
  one (mulI .u64 64000000 p_s) fun x98 =>
  out (fix_Mul p_rate p_tick) fun r99 =>
  un_i r99 fun x100 r101 =>
  un_nil r101 <|
  one (maxI x98 x100) fun x102 =>
  some [.i (x102)]
def pace_gets (p_s : Int) (p_tick : Int) (p_has : Int) (p_rate : Int) (p_now : Int) (now : Int) : Option (List Leaf) :=
  one (minI now 4611686018427387904) fun x103 =>
  br (decide (x103 ≤ p_now))
    (some [.i (p_s), .i (p_tick), .i (p_has), .i (p_rate), .i (p_now)])
    (one (wrapI .u64 x103) fun x104 =>
     one (wrapI .u64 p_now) fun x105 =>
     one (subI .u64 x104 x105) fun x106 =>
     out (fix_Mul p_rate x106) fun r107 =>
     un_i r107 fun x108 r109 =>
     un_nil r109 <|
     out (fix_Add p_has x108) fun r110 =>
     un_i r110 fun x111 r112 =>
     un_nil r112 <|
     out (pace_Cap p_s p_tick p_has p_rate p_now) fun r113 =>
     un_i r113 fun x114 r115 =>
     un_nil r115 <|
     one (minI x111 x114) fun x116 =>
     some [.i (p_s), .i (p_tick), .i (x116), .i (p_rate), .i (x103)])
def pace_Rate (p_s : Int) (p_tick : Int) (p_has : Int) (p_rate : Int) (p_now : Int) (now : Int) (x : Int) : Option (List Leaf) :=
  out (pace_gets p_s p_tick p_has p_rate p_now now) fun r117 =>
  un_i r117 fun x118 r119 =>
  un_i r119 fun x120 r121 =>
  un_i r121 fun x122 r123 =>
  un_i r123 fun x124 r125 =>
  un_i r125 fun x126 r127 =>
  un_nil r127 <|
  out (pace_Cap x118 x120 x122 x x126) fun r128 =>
  un_i r128 fun x129 r130 =>
  un_nil r130 <|
  one (minI x122 x129) fun x131 =>
  some [.i (x118), .i (x120), .i (x131), .i (x), .i (x126)]
def pace_May (p_s : Int) (p_tick : Int) (p_has : Int) (p_rate : Int) (p_now : Int) (now : Int) (n2 : Int) : Option (List Leaf) :=
  out (pace_gets p_s p_tick p_has p_rate p_now now) fun r132 =>
  un_i r132 fun x133 r134 =>
  un_i r134 fun x135 r136 =>
  un_i r136 fun x137 r138 =>
  un_i r138 fun x139 r140 =>
  un_i r140 fun x141 r142 =>
  un_nil r142 <|
  br (decide (n2 ≥ 0))
    (br (decide (n2 ≤ 65535))
       (one (wrapI .u64 n2) fun x143 =>
        one (mulI .u64 64000000 x143) fun x144 =>
        some [.i (x133), .i (x135), .i (x137), .i (x139), .i (x141), .b (decide (x137 ≥ x144))])
       (some [.i (x133), .i (x135), .i (x137), .i (x139), .i (x141), .b (false)]))
    (some [.i (x133), .i (x135), .i (x137), .i (x139), .i (x141), .b (false)])
def pace_Take (p_s : Int) (p_tick : Int) (p_has : Int) (p_rate : Int) (p_now : Int) (now : Int) (n2 : Int) : Option (List Leaf) :=
  out (pace_May p_s p_tick p_has p_rate p_now now n2) fun r145 =>
  un_i r145 fun x146 r147 =>
  un_i r147 fun x148 r149 =>
  un_i r149 fun x150 r151 =>
  un_i r151 fun x152 r153 =>
  un_i r153 fun x154 r155 =>
  un_b r155 fun x156 r157 =>
  un_nil r157 <|
  br (!x156)
    (some [.i (x146), .i (x148), .i (x150), .i (x152), .i (x154), .b (false)])
    (one (wrapI .u64 n2) fun x158 =>
     one (mulI .u64 64000000 x158) fun x159 =>
     one (subI .u64 x150 x159) fun x160 =>
     some [.i (x146), .i (x148), .i (x160), .i (x152), .i (x154), .b (true)])
def pace_When (p_s : Int) (p_tick : Int) (p_has : Int) (p_rate : Int) (p_now : Int) (n2 : Int) : Option (List Leaf) :=
  br (decide (n2 < 0))
    (some [.i (4611686018427387904)])
    (br (decide (n2 > 65535))
       (some [.i (4611686018427387904)])
       (one (wrapI .u64 n2) fun x161 =>
        one (mulI .u64 64000000 x161) fun x162 =>
        out (fix_Sub x162 p_has) fun r163 =>
        un_i r163 fun x164 r165 =>
        un_nil r165 <|
        br (x164 == 0)
          (one (minI p_now 4611686018427387904) fun x166 =>
           some [.i (x166)])
          (br (p_rate == 0)
             (some [.i (4611686018427387904)])
             (one (wrapI .u64 n2) fun x167 =>
              one (mulI .u64 64000000 x167) fun x168 =>
              out (pace_Cap p_s p_tick p_has p_rate p_now) fun r169 =>
              un_i r169 fun x170 r171 =>
              un_nil r171 <|
              br (decide (x168 > x170))
                (some [.i (4611686018427387904)])
                (chk (decide (p_rate ≠ 0)) <|
                 one (quoI .u64 x164 p_rate) fun x172 =>
                 chk (decide (p_rate ≠ 0)) <|
                 one (remI .u64 x164 p_rate) fun x173 =>
                 br (decide (x173 > 0))
                   (one (addI .u64 x172 1) fun x174 =>
                    one (wrapI .u64 p_now) fun x175 =>
                    out (fix_Add x175 x174) fun r176 =>
                    un_i r176 fun x177 r178 =>
                    un_nil r178 <|
                    one (minI x177 4611686018427387904) fun x179 =>
                    one (wrapI .i64 x179) fun x180 =>
                    some [.i (x180)])
                   (one (wrapI .u64 p_now) fun x181 =>
                    out (fix_Add x181 x172) fun r182 =>
                    un_i r182 fun x183 r184 =>
                    un_nil r184 <|
                    one (minI x183 4611686018427387904) fun x185 =>
                    one (wrapI .i64 x185) fun x186 =>
                    some [.i (x186)]))))))
end Go.Sx.T

