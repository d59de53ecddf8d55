/- What the functions compute, by program. -/
import Derived.Test.YtinkhffncpmnaaaGreatDoorYLowSpec
set_option linter.all false
namespace Go.Sx.T
open Go Go.Sx
def vec_state (s : Int) : Option (List Leaf) :=
  br (s == 0)
    (some [.b (true)])
    (br (s == 1)
       (some [.b (true)])
       (some [.b (s == 3)]))
def vec_Merge (a : Int) (b : Int) : Option (List Leaf) :=
  out (vec_state a) fun r23 =>
  un_b r23 fun x24 r25 =>
  un_nil r25 <|
  br (!x24)
    (some [.i (0), .b (false)])
    (out (vec_state b) fun r26 =>
     un_b r26 fun x27 r28 =>
     un_nil r28 <|
     br (!x27)
       (some [.i (0), .b (false)])
       (br (a == 3)
          (some [.i (b), .b (true)])
          (br (b == 3)
             (some [.i (a), .b (true)])
             (br (a == 1)
                (some [.i (1), .b (true)])
                (br (b == 1)
                   (some [.i (1), .b (true)])
                   (some [.i (0), .b (true)]))))))
def ref_State (s : Int) : Option (List Leaf) :=
  br (s == 0)
    (some [.b (true)])
    (br (s == 1)
       (some [.b (true)])
       (some [.b (s == 3)]))
def VecMerge (a : Int) (b : Int) : Option (List Leaf) :=
  out (vec_Merge a b) fun r29 =>
  un_i r29 fun x30 r31 =>
  un_b r31 fun x32 r33 =>
  un_nil r33 <|
  out (ref_State a) fun r34 =>
  un_b r34 fun x35 r36 =>
  un_nil r36 <|
  br (!x35)
    (br (x30 == 0)
       (some [.b (!x32)])
       (some [.b (false)]))
    (out (ref_State b) fun r37 =>
     un_b r37 fun x38 r39 =>
     un_nil r39 <|
     br (!x38)
       (br (x30 == 0)
          (some [.b (!x32)])
          (some [.b (false)]))
       (br (a == 0)
          (br (a == 1)
             (out (vec_Merge b a) fun r40 =>
              un_i r40 fun x41 r42 =>
              un_b r42 fun x43 r44 =>
              un_nil r44 <|
              br (x32)
                (br (x30 == 1)
                   (some [.b (x41 == 1)])
                   (some [.b (false)]))
                (some [.b (false)]))
             (br (b == 1)
                (out (vec_Merge b a) fun r45 =>
                 un_i r45 fun x46 r47 =>
                 un_b r47 fun x48 r49 =>
                 un_nil r49 <|
                 br (x32)
                   (br (x30 == 1)
                      (some [.b (x46 == 1)])
                      (some [.b (false)]))
                   (some [.b (false)]))
                (out (vec_Merge b a) fun r50 =>
                 un_i r50 fun x51 r52 =>
                 un_b r52 fun x53 r54 =>
                 un_nil r54 <|
                 br (x32)
                   (br (x30 == 0)
                      (some [.b (x51 == 0)])
                      (some [.b (false)]))
                   (some [.b (false)]))))
          (br (b == 0)
             (br (a == 1)
                (out (vec_Merge b a) fun r55 =>
                 un_i r55 fun x56 r57 =>
                 un_b r57 fun x58 r59 =>
                 un_nil r59 <|
                 br (x32)
                   (br (x30 == 1)
                      (some [.b (x56 == 1)])
                      (some [.b (false)]))
                   (some [.b (false)]))
                (br (b == 1)
                   (out (vec_Merge b a) fun r60 =>
                    un_i r60 fun x61 r62 =>
                    un_b r62 fun x63 r64 =>
                    un_nil r64 <|
                    br (x32)
                      (br (x30 == 1)
                         (some [.b (x61 == 1)])
                         (some [.b (false)]))
                      (some [.b (false)]))
                   (out (vec_Merge b a) fun r65 =>
                    un_i r65 fun x66 r67 =>
                    un_b r67 fun x68 r69 =>
                    un_nil r69 <|
                    br (x32)
                      (br (x30 == 0)
                         (some [.b (x66 == 0)])
                         (some [.b (false)]))
                      (some [.b (false)]))))
             (br (a == 1)
                (out (vec_Merge b a) fun r70 =>
                 un_i r70 fun x71 r72 =>
                 un_b r72 fun x73 r74 =>
                 un_nil r74 <|
                 br (x32)
                   (br (x30 == 1)
                      (some [.b (x71 == 1)])
                      (some [.b (false)]))
                   (some [.b (false)]))
                (br (b == 1)
                   (out (vec_Merge b a) fun r75 =>
                    un_i r75 fun x76 r77 =>
                    un_b r77 fun x78 r79 =>
                    un_nil r79 <|
                    br (x32)
                      (br (x30 == 1)
                         (some [.b (x76 == 1)])
                         (some [.b (false)]))
                      (some [.b (false)]))
                   (out (vec_Merge b a) fun r80 =>
                    un_i r80 fun x81 r82 =>
                    un_b r82 fun x83 r84 =>
                    un_nil r84 <|
                    br (x32)
                      (br (x30 == 3)
                         (some [.b (x81 == 3)])
                         (some [.b (false)]))
                      (some [.b (false)])))))))
end Go.Sx.T
