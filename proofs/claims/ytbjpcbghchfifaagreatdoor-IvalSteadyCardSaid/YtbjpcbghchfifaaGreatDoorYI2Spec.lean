import Derived.Test.YtbjpcbghchfifaaGreatDoorYIvalSpec
set_option linter.all false
namespace Go.Sx.T
open Go Go.Sx
def IvalSteady_8_B  {α : Type} (kx : Nat → List Leaf → Option α) (kr : List Leaf → Option α) (again : List Int → Int → Int → Int → Option α) (l : List Int) (i : Int) (n2 : Int) (k : Int) : Option α :=
  br (decide (i < k))
    (chk (decide (Int.ofNat (List.length l) = Int.ofNat (List.length l)) && true && decide ((Int.ofNat (List.length l) + ↑1) * ↑8 ≤ 140737488355328 ∧ Int.ofNat (List.length l) + ↑1 ≤ 4611686018427387904)) <|
     one (addI .i64 i 1) fun x1053 =>
     chk (decide (Int.ofNat (List.length l) + ↑1 = Int.ofNat (List.length (l ++ [n2]))) && true) <|
     again (l ++ [n2]) (x1053) (n2) (k))
    (chk (decide (Int.ofNat (List.length l) = Int.ofNat (List.length l)) && true) <|
     kx 0 [.li (l), .i (n2)])
def IvalSteady_8_L {α : Type} (kx : Nat → List Leaf → Option α) (kr : List Leaf → Option α) : Nat → List Int → Int → Int → Int → Option α
  | 0, _, _, _, _ => none
  | n + 1, l, i, n2, k => IvalSteady_8_B  kx kr (IvalSteady_8_L kx kr n) l i n2 k
def IvalSteady_8_F (L8 : ({β : Type} → (Nat → List Leaf → Option β) → (List Leaf → Option β) → Nat → List Int → Int → Int → Int → Option β)) {α : Type} (n : Nat) (ls : List Leaf) (kx : Nat → List Leaf → Option α) (kr : List Leaf → Option α) : Option α := un_li ls fun l rr => un_i rr fun i rr => un_i rr fun n2 rr => un_i rr fun k rr => un_nil rr (L8 kx kr n l i n2 k)
def IvalSteady_d (L8 : ({β : Type} → (Nat → List Leaf → Option β) → (List Leaf → Option β) → Nat → List Int → Int → Int → Int → Option β)) (n2 : Int) (k : Int) : Option (List Leaf) :=
  one (remI .u64 n2 1099511627776) fun x1054 =>
  one (addI .u64 1 x1054) fun x1055 =>
  one (remI .i64 k 10) fun x1056 =>
  one (addI .i64 x1056 10) fun x1057 =>
  one (remI .i64 x1057 10) fun x1058 =>
  one (addI .i64 1 x1058) fun x1059 =>
  chk (decide (0 = Int.ofNat 0) && true) <|
  L8
    (fun i1060 r1061 =>
     br (Nat.beq 0 i1060)
       (un_li r1061 fun x1062 r1063 =>
        un_i r1063 fun x1064 r1065 =>
        un_nil r1065 <|
        chk (decide (Int.ofNat (List.length x1062) = Int.ofNat (List.length x1062)) && true) <|
        out (ival_Mean x1062 0) fun r1066 =>
        un_i r1066 fun x1067 r1068 =>
        un_nil r1068 <|
        br (x1067 == x1064)
          (chk (decide (Int.ofNat (List.length x1062) = Int.ofNat (List.length x1062)) && true) <|
           out (ival_Mean x1062 x1064) fun r1069 =>
           un_i r1069 fun x1070 r1071 =>
           un_nil r1071 <|
           br (x1070 == x1064)
             (chk (decide (x1064 ≠ 0)) <|
              one (quoI .u64 4294967296 x1064) fun x1072 =>
              one (minI 4294967296 x1072) fun x1073 =>
              chk (decide (Int.ofNat (List.length x1062) = Int.ofNat (List.length x1062)) && true) <|
              out (ival_Rate x1062 x1064) fun r1074 =>
              un_i r1074 fun x1075 r1076 =>
              un_nil r1076 <|
              some [.b (x1075 == x1073)])
             (some [.b (false)]))
          (some [.b (false)]))
       (none))
    (fun r1077 =>
     un_nil r1077 <|
     none)
    top ([]) (0) (x1055) (x1059)
def IvalSteady (n2 : Int) (k : Int) : Option (List Leaf) := IvalSteady_d @IvalSteady_8_L n2 k
end Go.Sx.T

