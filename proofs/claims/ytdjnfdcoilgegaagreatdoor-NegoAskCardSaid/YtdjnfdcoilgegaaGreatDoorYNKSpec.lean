import Derived.Test.YtdjnfdcoilgegaaGreatDoorL6
import Derived.Test.YtdjnfdcoilgegaaGreatDoorYNegoSpec
set_option linter.all false
noncomputable section
set_option maxRecDepth 100000
namespace Go.Sx.T
open Go Go.Sx
def NegoAsk_8_B  {α : Type} (kx : Nat → List Leaf → Option α) (kr : List Leaf → Option α) (again : List Int → List Int → List Bool → List Int → List ByteArray → List Int → List ByteArray → List Int → List ByteArray → List Int → List ByteArray → List Int → List ByteArray → List Int → Bool → Int → Int → Option α) (fs : List Int) (asked_k : List Int) (asked_v : List Bool) (n_want_k : List Int) (n_want_v : List ByteArray) (n_like_k : List Int) (n_like_v : List ByteArray) (n_mine_k : List Int) (n_mine_v : List ByteArray) (n_theirs_k : List Int) (n_theirs_v : List ByteArray) (n_due0 : List Int) (n_due1 : List ByteArray) (all : List Int) (n_server : Bool) (i : Int) (times : Int) : Option α :=
  one (Int.ofNat (List.length fs)) fun x884 =>
  br (decide (i < x884))
    (br (decide (i < 6))
       (chk (decide ((0 : Int) ≤ i ∧ i < Int.ofNat (List.length fs))) <|
        chk (decide ((0 : Int) ≤ i ∧ i < Int.ofNat (List.length fs))) <|
        one (remI .i64 (List.getD fs (Int.toNat i) 0) 4) fun x885 =>
        one (addI .i64 x885 4) fun x886 =>
        one (remI .i64 x886 4) fun x887 =>
        chk (decide ((0 : Int) ≤ x887 ∧ x887 < Int.ofNat (List.length all))) <|
        chk (decide ((0 : Int) ≤ x887 ∧ x887 < Int.ofNat (List.length all))) <|
        out (feat_Default (List.getD all (Int.toNat x887) 0)) fun r888 =>
        un_s r888 fun x889 r890 =>
        un_nil r890 <|
        chk (decide (Int.ofNat (List.length n_due0) = Int.ofNat (List.length n_due0)) && true && true) <|
        out (nego_Want n_want_k n_want_v n_like_k n_like_v n_mine_k n_mine_v n_theirs_k n_theirs_v n_due0 n_due1 n_server (List.getD all (Int.toNat x887) 0) x889) fun r891 =>
        un_li r891 fun x892 r893 =>
        un_ls r893 fun x894 r895 =>
        un_li r895 fun x896 r897 =>
        un_ls r897 fun x898 r899 =>
        un_li r899 fun x900 r901 =>
        un_ls r901 fun x902 r903 =>
        un_li r903 fun x904 r905 =>
        un_ls r905 fun x906 r907 =>
        un_li r907 fun x908 r909 =>
        un_ls r909 fun x910 r911 =>
        un_b r911 fun x912 r913 =>
        un_i r913 fun x914 r915 =>
        un_nil r915 <|
        br (x914 != 0)
          (kr [.li (fs), .b (false)])
          (one (addI .i64 i 1) fun x916 =>
           chk (decide (Int.ofNat (List.length x908) = Int.ofNat (List.length x908)) && true && true) <|
           chk (decide (Int.ofNat (List.length fs) = Int.ofNat (List.length fs)) && (decide (Int.ofNat (List.length all) = Int.ofNat (List.length all)) && true)) <|
           again (fs) (mputK asked_k (List.getD all (Int.toNat x887) 0)) (mputV asked_k asked_v (List.getD all (Int.toNat x887) 0) true) (x892) (x894) (x896) (x898) (x900) (x902) (x904) (x906) (x908) (x910) (all) (x912) (x916) (times)))
       (chk (decide (Int.ofNat (List.length n_due0) = Int.ofNat (List.length n_due0)) && true && true) <|
        chk (decide (Int.ofNat (List.length all) = Int.ofNat (List.length all)) && true) <|
        kx 0 [.li (fs), .li (asked_k), .lb (asked_v), .li (n_want_k), .ls (n_want_v), .li (n_like_k), .ls (n_like_v), .li (n_mine_k), .ls (n_mine_v), .li (n_theirs_k), .ls (n_theirs_v), .li (n_due0), .ls (n_due1), .li (all), .b (n_server), .i (times)]))
    (chk (decide (Int.ofNat (List.length n_due0) = Int.ofNat (List.length n_due0)) && true && true) <|
     chk (decide (Int.ofNat (List.length all) = Int.ofNat (List.length all)) && true) <|
     kx 0 [.li (fs), .li (asked_k), .lb (asked_v), .li (n_want_k), .ls (n_want_v), .li (n_like_k), .ls (n_like_v), .li (n_mine_k), .ls (n_mine_v), .li (n_theirs_k), .ls (n_theirs_v), .li (n_due0), .ls (n_due1), .li (all), .b (n_server), .i (times)])
def NegoAsk_8_L {α : Type} (kx : Nat → List Leaf → Option α) (kr : List Leaf → Option α) : Nat → List Int → List Int → List Bool → List Int → List ByteArray → List Int → List ByteArray → List Int → List ByteArray → List Int → List ByteArray → List Int → List ByteArray → List Int → Bool → Int → Int → Option α
  | 0, _, _, _, _, _, _, _, _, _, _, _, _, _, _, _, _, _ => none
  | n + 1, fs, asked_k, asked_v, n_want_k, n_want_v, n_like_k, n_like_v, n_mine_k, n_mine_v, n_theirs_k, n_theirs_v, n_due0, n_due1, all, n_server, i, times => NegoAsk_8_B  kx kr (NegoAsk_8_L kx kr n) fs asked_k asked_v n_want_k n_want_v n_like_k n_like_v n_mine_k n_mine_v n_theirs_k n_theirs_v n_due0 n_due1 all n_server i times
def NegoAsk_8_F (L8 : ({β : Type} → (Nat → List Leaf → Option β) → (List Leaf → Option β) → Nat → List Int → List Int → List Bool → List Int → List ByteArray → List Int → List ByteArray → List Int → List ByteArray → List Int → List ByteArray → List Int → List ByteArray → List Int → Bool → Int → Int → Option β)) {α : Type} (n : Nat) (ls : List Leaf) (kx : Nat → List Leaf → Option α) (kr : List Leaf → Option α) : Option α := un_li ls fun fs rr => un_li rr fun asked_k rr => un_lb rr fun asked_v rr => un_li rr fun n_want_k rr => un_ls rr fun n_want_v rr => un_li rr fun n_like_k rr => un_ls rr fun n_like_v rr => un_li rr fun n_mine_k rr => un_ls rr fun n_mine_v rr => un_li rr fun n_theirs_k rr => un_ls rr fun n_theirs_v rr => un_li rr fun n_due0 rr => un_ls rr fun n_due1 rr => un_li rr fun all rr => un_b rr fun n_server rr => un_i rr fun i rr => un_i rr fun times rr => un_nil rr (L8 kx kr n fs asked_k asked_v n_want_k n_want_v n_like_k n_like_v n_mine_k n_mine_v n_theirs_k n_theirs_v n_due0 n_due1 all n_server i times)
def NegoAsk_20_B  {α : Type} (kx : Nat → List Leaf → Option α) (kr : List Leaf → Option α) (again : List Int → List Int → List ByteArray → List Int → List Bool → List Int → List Int → List ByteArray → List Int → List ByteArray → List Int → List ByteArray → List Int → List ByteArray → List Int → List ByteArray → Bool → Int → Int → Int → Int → Int → Option α) (fs : List Int) (l0 : List Int) (l1 : List ByteArray) (asked_k : List Int) (asked_v : List Bool) (t61 : List Int) (n_want_k : List Int) (n_want_v : List ByteArray) (n_like_k : List Int) (n_like_v : List ByteArray) (n_mine_k : List Int) (n_mine_v : List ByteArray) (n_theirs_k : List Int) (n_theirs_v : List ByteArray) (n_due0 : List Int) (n_due1 : List ByteArray) (n_server : Bool) (t63 : Int) (i : Int) (times : Int) (k : Int) (t62 : Int) : Option α :=
  br (decide (t63 < t62))
    (chk (decide ((0 : Int) ≤ t63 ∧ t63 < Int.ofNat (List.length t61))) <|
     chk (decide ((0 : Int) ≤ t63 ∧ t63 < Int.ofNat (List.length t61))) <|
     br (!mget false asked_k asked_v (List.getD t61 (Int.toNat t63) 0))
       (one (addI .i64 t63 1) fun x1028 =>
        chk (decide (Int.ofNat (List.length n_due0) = Int.ofNat (List.length n_due0)) && true && true) <|
        chk (decide (Int.ofNat (List.length l0) = Int.ofNat (List.length l0)) && (decide (Int.ofNat (List.length t61) = Int.ofNat (List.length t61)) && (decide (Int.ofNat (List.length t61) = Int.ofNat (List.length t61)) && true))) <|
        again (fs) (l0) (l1) (asked_k) (asked_v) (t61) (n_want_k) (n_want_v) (n_like_k) (n_like_v) (n_mine_k) (n_mine_v) (n_theirs_k) (n_theirs_v) (n_due0) (n_due1) (n_server) (x1028) (i) (times) (k) (t62))
       (one (Int.ofNat (List.length l0)) fun x1029 =>
        br (decide (i ≥ x1029))
          (pairK
             (pairK
                (kr [.li (fs), .b (false)])
                (kr [.li (fs), .b (false)]))
             (kr [.li (fs), .b (false)]))
          (chk (decide ((0 : Int) ≤ i ∧ i < Int.ofNat (List.length l0))) <|
           chk (decide ((0 : Int) ≤ i ∧ i < Int.ofNat (List.length l0))) <|
           one (wrapI .u8 (List.getD t61 (Int.toNat t63) 0)) fun x1030 =>
           pairK
             (pairK
                (out (feat_Default (List.getD t61 (Int.toNat t63) 0)) fun r1031 =>
                 un_s r1031 fun x1032 r1033 =>
                 un_nil r1033 <|
                 chk (Nat.ble (ByteArray.size (strOfI (partL Option.none (↑(1 : Nat) : Int) [x1030])) + ByteArray.size x1032) (9223372036854775807 : Nat)) <|
                 br (!eqP [Go.Value.int .i64 (List.getD l0 (Int.toNat (offAdd Option.none i)) (0 : Int)), Go.Value.string (List.getD l1 (Int.toNat (offAdd Option.none i)) ByteArray.empty)] [Go.Value.int .i64 (32 : Int), Go.Value.string (strOfI (partL Option.none (↑(1 : Nat) : Int) [x1030]) ++ x1032)])
                   (kr [.li (fs), .b (false)])
                   (one (addI .i64 i 1) fun x1034 =>
                    one (addI .i64 t63 1) fun x1035 =>
                    chk (decide (Int.ofNat (List.length n_due0) = Int.ofNat (List.length n_due0)) && true && true) <|
                    chk (decide (Int.ofNat (List.length l0) = Int.ofNat (List.length l0)) && (decide (Int.ofNat (List.length t61) = Int.ofNat (List.length t61)) && (decide (Int.ofNat (List.length t61) = Int.ofNat (List.length t61)) && true))) <|
                    again (fs) (l0) (l1) (asked_k) (asked_v) (t61) (n_want_k) (n_want_v) (n_like_k) (n_like_v) (n_mine_k) (n_mine_v) (n_theirs_k) (n_theirs_v) (n_due0) (n_due1) (n_server) (x1035) (x1034) (times) (k) (t62)))
                (out (feat_Default (List.getD t61 (Int.toNat t63) 0)) fun r1036 =>
                 un_s r1036 fun x1037 r1038 =>
                 un_nil r1038 <|
                 chk (Nat.ble (ByteArray.size (strOfI (partL Option.none (↑(1 : Nat) : Int) [x1030])) + ByteArray.size x1037) (9223372036854775807 : Nat)) <|
                 br (!eqP [Go.Value.int .i64 (List.getD l0 (Int.toNat (offAdd Option.none i)) (0 : Int)), Go.Value.string (List.getD l1 (Int.toNat (offAdd Option.none i)) ByteArray.empty)] [Go.Value.int .i64 (32 : Int), Go.Value.string (strOfI (partL Option.none (↑(1 : Nat) : Int) [x1030]) ++ x1037)])
                   (kr [.li (fs), .b (false)])
                   (one (addI .i64 i 1) fun x1039 =>
                    one (addI .i64 t63 1) fun x1040 =>
                    chk (decide (Int.ofNat (List.length n_due0) = Int.ofNat (List.length n_due0)) && true && true) <|
                    chk (decide (Int.ofNat (List.length l0) = Int.ofNat (List.length l0)) && (decide (Int.ofNat (List.length t61) = Int.ofNat (List.length t61)) && (decide (Int.ofNat (List.length t61) = Int.ofNat (List.length t61)) && true))) <|
                    again (fs) (l0) (l1) (asked_k) (asked_v) (t61) (n_want_k) (n_want_v) (n_like_k) (n_like_v) (n_mine_k) (n_mine_v) (n_theirs_k) (n_theirs_v) (n_due0) (n_due1) (n_server) (x1040) (x1039) (times) (k) (t62))))
             (out (feat_Default (List.getD t61 (Int.toNat t63) 0)) fun r1041 =>
              un_s r1041 fun x1042 r1043 =>
              un_nil r1043 <|
              chk (Nat.ble (ByteArray.size (strOfI (partL Option.none (↑(1 : Nat) : Int) [x1030])) + ByteArray.size x1042) (9223372036854775807 : Nat)) <|
              br (!eqP [Go.Value.int .i64 (List.getD l0 (Int.toNat (offAdd Option.none i)) (0 : Int)), Go.Value.string (List.getD l1 (Int.toNat (offAdd Option.none i)) ByteArray.empty)] [Go.Value.int .i64 (32 : Int), Go.Value.string (strOfI (partL Option.none (↑(1 : Nat) : Int) [x1030]) ++ x1042)])
                (kr [.li (fs), .b (false)])
                (one (addI .i64 i 1) fun x1044 =>
                 one (addI .i64 t63 1) fun x1045 =>
                 chk (decide (Int.ofNat (List.length n_due0) = Int.ofNat (List.length n_due0)) && true && true) <|
                 chk (decide (Int.ofNat (List.length l0) = Int.ofNat (List.length l0)) && (decide (Int.ofNat (List.length t61) = Int.ofNat (List.length t61)) && (decide (Int.ofNat (List.length t61) = Int.ofNat (List.length t61)) && true))) <|
                 again (fs) (l0) (l1) (asked_k) (asked_v) (t61) (n_want_k) (n_want_v) (n_like_k) (n_like_v) (n_mine_k) (n_mine_v) (n_theirs_k) (n_theirs_v) (n_due0) (n_due1) (n_server) (x1045) (x1044) (times) (k) (t62))))))
    (chk (decide (Int.ofNat (List.length n_due0) = Int.ofNat (List.length n_due0)) && true && true) <|
     chk (decide (Int.ofNat (List.length t61) = Int.ofNat (List.length t61)) && (decide (Int.ofNat (List.length l0) = Int.ofNat (List.length l0)) && true)) <|
     kx 4 [.li (fs), .li (asked_k), .lb (asked_v), .li (n_want_k), .ls (n_want_v), .li (n_like_k), .ls (n_like_v), .li (n_mine_k), .ls (n_mine_v), .li (n_theirs_k), .ls (n_theirs_v), .li (n_due0), .ls (n_due1), .li (t61), .li (l0), .ls (l1), .b (n_server), .i (times), .i (k), .i (i)])
def NegoAsk_20_L {α : Type} (kx : Nat → List Leaf → Option α) (kr : List Leaf → Option α) : Nat → List Int → List Int → List ByteArray → List Int → List Bool → List Int → List Int → List ByteArray → List Int → List ByteArray → List Int → List ByteArray → List Int → List ByteArray → List Int → List ByteArray → Bool → Int → Int → Int → Int → Int → Option α
  | 0, _, _, _, _, _, _, _, _, _, _, _, _, _, _, _, _, _, _, _, _, _, _ => none
  | n + 1, fs, l0, l1, asked_k, asked_v, t61, n_want_k, n_want_v, n_like_k, n_like_v, n_mine_k, n_mine_v, n_theirs_k, n_theirs_v, n_due0, n_due1, n_server, t63, i, times, k, t62 => NegoAsk_20_B  kx kr (NegoAsk_20_L kx kr n) fs l0 l1 asked_k asked_v t61 n_want_k n_want_v n_like_k n_like_v n_mine_k n_mine_v n_theirs_k n_theirs_v n_due0 n_due1 n_server t63 i times k t62
def NegoAsk_20_F (L20 : ({β : Type} → (Nat → List Leaf → Option β) → (List Leaf → Option β) → Nat → List Int → List Int → List ByteArray → List Int → List Bool → List Int → List Int → List ByteArray → List Int → List ByteArray → List Int → List ByteArray → List Int → List ByteArray → List Int → List ByteArray → Bool → Int → Int → Int → Int → Int → Option β)) {α : Type} (n : Nat) (ls : List Leaf) (kx : Nat → List Leaf → Option α) (kr : List Leaf → Option α) : Option α := un_li ls fun fs rr => un_li rr fun l0 rr => un_ls rr fun l1 rr => un_li rr fun asked_k rr => un_lb rr fun asked_v rr => un_li rr fun t61 rr => un_li rr fun n_want_k rr => un_ls rr fun n_want_v rr => un_li rr fun n_like_k rr => un_ls rr fun n_like_v rr => un_li rr fun n_mine_k rr => un_ls rr fun n_mine_v rr => un_li rr fun n_theirs_k rr => un_ls rr fun n_theirs_v rr => un_li rr fun n_due0 rr => un_ls rr fun n_due1 rr => un_b rr fun n_server rr => un_i rr fun t63 rr => un_i rr fun i rr => un_i rr fun times rr => un_i rr fun k rr => un_i rr fun t62 rr => un_nil rr (L20 kx kr n fs l0 l1 asked_k asked_v t61 n_want_k n_want_v n_like_k n_like_v n_mine_k n_mine_v n_theirs_k n_theirs_v n_due0 n_due1 n_server t63 i times k t62)
def NegoAsk_15_B (L20 : ({β : Type} → (Nat → List Leaf → Option β) → (List Leaf → Option β) → Nat → List Int → List Int → List ByteArray → List Int → List Bool → List Int → List Int → List ByteArray → List Int → List ByteArray → List Int → List ByteArray → List Int → List ByteArray → List Int → List ByteArray → Bool → Int → Int → Int → Int → Int → Option β)) {α : Type} (kx : Nat → List Leaf → Option α) (kr : List Leaf → Option α) (again : List Int → List Int → List Bool → List Int → List ByteArray → List Int → List ByteArray → List Int → List ByteArray → List Int → List ByteArray → List Int → List ByteArray → List Int → Bool → Int → Int → Option α) (fs : List Int) (asked_k : List Int) (asked_v : List Bool) (n_want_k : List Int) (n_want_v : List ByteArray) (n_like_k : List Int) (n_like_v : List ByteArray) (n_mine_k : List Int) (n_mine_v : List ByteArray) (n_theirs_k : List Int) (n_theirs_v : List ByteArray) (n_due0 : List Int) (n_due1 : List ByteArray) (all : List Int) (n_server : Bool) (k : Int) (times : Int) : Option α :=
  one (remI .i64 times 5) fun x1130 =>
  one (addI .i64 x1130 5) fun x1131 =>
  one (remI .i64 x1131 5) fun x1132 =>
  br (decide (k ≤ x1132))
    (chk (decide (Int.ofNat (List.length n_due0) = Int.ofNat (List.length n_due0)) && true && true) <|
     out (nego_Opts n_want_k n_want_v n_like_k n_like_v n_mine_k n_mine_v n_theirs_k n_theirs_v n_due0 n_due1 n_server) fun r1133 =>
     un_li r1133 fun x1134 r1135 =>
     un_ls r1135 fun x1136 r1137 =>
     un_li r1137 fun x1138 r1139 =>
     un_ls r1139 fun x1140 r1141 =>
     un_li r1141 fun x1142 r1143 =>
     un_ls r1143 fun x1144 r1145 =>
     un_li r1145 fun x1146 r1147 =>
     un_ls r1147 fun x1148 r1149 =>
     un_li r1149 fun x1150 r1151 =>
     un_ls r1151 fun x1152 r1153 =>
     un_li r1153 fun x1154 r1155 =>
     un_ls r1155 fun x1156 r1157 =>
     un_b r1157 fun x1158 r1159 =>
     un_nil r1159 <|
     one (Int.ofNat (List.length all)) fun x1160 =>
     chk (decide (Int.ofNat (List.length x1150) = Int.ofNat (List.length x1150)) && true && true) <|
     chk (decide (Int.ofNat (List.length x1154) = Int.ofNat (List.length x1154)) && (decide (Int.ofNat (List.length all) = Int.ofNat (List.length all)) && (decide (Int.ofNat (List.length all) = Int.ofNat (List.length all)) && true))) <|
     L20
       (fun i1161 r1162 =>
        br (Nat.beq 4 i1161)
          (un_li r1162 fun x1163 r1164 =>
           un_li r1164 fun x1165 r1166 =>
           un_lb r1166 fun x1167 r1168 =>
           un_li r1168 fun x1169 r1170 =>
           un_ls r1170 fun x1171 r1172 =>
           un_li r1172 fun x1173 r1174 =>
           un_ls r1174 fun x1175 r1176 =>
           un_li r1176 fun x1177 r1178 =>
           un_ls r1178 fun x1179 r1180 =>
           un_li r1180 fun x1181 r1182 =>
           un_ls r1182 fun x1183 r1184 =>
           un_li r1184 fun x1185 r1186 =>
           un_ls r1186 fun x1187 r1188 =>
           un_li r1188 fun x1189 r1190 =>
           un_li r1190 fun x1191 r1192 =>
           un_ls r1192 fun x1193 r1194 =>
           un_b r1194 fun x1195 r1196 =>
           un_i r1196 fun x1197 r1198 =>
           un_i r1198 fun x1199 r1200 =>
           un_i r1200 fun x1201 r1202 =>
           un_nil r1202 <|
           one (Int.ofNat (List.length x1191)) fun x1203 =>
           br (x1201 != x1203)
             (kr [.li (x1163), .b (false)])
             (chk (decide (Int.ofNat (List.length x1185) = Int.ofNat (List.length x1185)) && true && true) <|
              out (nego_Done x1169 x1171 x1173 x1175 x1177 x1179 x1181 x1183 x1185 x1187 x1195) fun r1204 =>
              un_b r1204 fun x1205 r1206 =>
              un_nil r1206 <|
              one ((↑(List.length x1165) : Int)) fun x1207 =>
              br (!x1205 == (x1207 == 0))
                (kr [.li (x1163), .b (false)])
                (one (addI .i64 x1199 1) fun x1208 =>
                 chk (decide (Int.ofNat (List.length x1185) = Int.ofNat (List.length x1185)) && true && true) <|
                 chk (decide (Int.ofNat (List.length x1189) = Int.ofNat (List.length x1189)) && true) <|
                 again (x1163) (x1165) (x1167) (x1169) (x1171) (x1173) (x1175) (x1177) (x1179) (x1181) (x1183) (x1185) (x1187) (x1189) (x1195) (x1208) (x1197))))
          (none))
       (fun r1209 =>
        un_li r1209 fun x1210 r1211 =>
        un_b r1211 fun x1212 r1213 =>
        un_nil r1213 <|
        kr [.li (x1210), .b (x1212)])
       top (fs) (x1154) (x1156) (asked_k) (asked_v) (all) (x1134) (x1136) (x1138) (x1140) (x1142) (x1144) (x1146) (x1148) (x1150) (x1152) (x1158) (0) (0) (times) (k) (x1160))
    (chk (decide (Int.ofNat (List.length n_due0) = Int.ofNat (List.length n_due0)) && true && true) <|
     kx 2 [.li (fs), .li (asked_k), .lb (asked_v), .li (n_want_k), .ls (n_want_v), .li (n_like_k), .ls (n_like_v), .li (n_mine_k), .ls (n_mine_v), .li (n_theirs_k), .ls (n_theirs_v), .li (n_due0), .ls (n_due1), .b (n_server)])
def NegoAsk_15_L {α : Type} (kx : Nat → List Leaf → Option α) (kr : List Leaf → Option α) : Nat → List Int → List Int → List Bool → List Int → List ByteArray → List Int → List ByteArray → List Int → List ByteArray → List Int → List ByteArray → List Int → List ByteArray → List Int → Bool → Int → Int → Option α
  | 0, _, _, _, _, _, _, _, _, _, _, _, _, _, _, _, _, _ => none
  | n + 1, fs, asked_k, asked_v, n_want_k, n_want_v, n_like_k, n_like_v, n_mine_k, n_mine_v, n_theirs_k, n_theirs_v, n_due0, n_due1, all, n_server, k, times => NegoAsk_15_B @NegoAsk_20_L kx kr (NegoAsk_15_L kx kr n) fs asked_k asked_v n_want_k n_want_v n_like_k n_like_v n_mine_k n_mine_v n_theirs_k n_theirs_v n_due0 n_due1 all n_server k times
def NegoAsk_15_F (L15 : ({β : Type} → (Nat → List Leaf → Option β) → (List Leaf → Option β) → Nat → List Int → List Int → List Bool → List Int → List ByteArray → List Int → List ByteArray → List Int → List ByteArray → List Int → List ByteArray → List Int → List ByteArray → List Int → Bool → Int → Int → Option β)) {α : Type} (n : Nat) (ls : List Leaf) (kx : Nat → List Leaf → Option α) (kr : List Leaf → Option α) : Option α := un_li ls fun fs rr => un_li rr fun asked_k rr => un_lb rr fun asked_v rr => un_li rr fun n_want_k rr => un_ls rr fun n_want_v rr => un_li rr fun n_like_k rr => un_ls rr fun n_like_v rr => un_li rr fun n_mine_k rr => un_ls rr fun n_mine_v rr => un_li rr fun n_theirs_k rr => un_ls rr fun n_theirs_v rr => un_li rr fun n_due0 rr => un_ls rr fun n_due1 rr => un_li rr fun all rr => un_b rr fun n_server rr => un_i rr fun k rr => un_i rr fun times rr => un_nil rr (L15 kx kr n fs asked_k asked_v n_want_k n_want_v n_like_k n_like_v n_mine_k n_mine_v n_theirs_k n_theirs_v n_due0 n_due1 all n_server k times)
def NegoAsk_d (L8 : ({β : Type} → (Nat → List Leaf → Option β) → (List Leaf → Option β) → Nat → List Int → List Int → List Bool → List Int → List ByteArray → List Int → List ByteArray → List Int → List ByteArray → List Int → List ByteArray → List Int → List ByteArray → List Int → Bool → Int → Int → Option β)) (L15 : ({β : Type} → (Nat → List Leaf → Option β) → (List Leaf → Option β) → Nat → List Int → List Int → List Bool → List Int → List ByteArray → List Int → List ByteArray → List Int → List ByteArray → List Int → List ByteArray → List Int → List ByteArray → List Int → Bool → Int → Int → Option β)) (fs : List Int) (times : Int) : Option (List Leaf) :=
  out (nego_New false) fun r1214 =>
  un_li r1214 fun x1215 r1216 =>
  un_ls r1216 fun x1217 r1218 =>
  un_li r1218 fun x1219 r1220 =>
  un_ls r1220 fun x1221 r1222 =>
  un_li r1222 fun x1223 r1224 =>
  un_ls r1224 fun x1225 r1226 =>
  un_li r1226 fun x1227 r1228 =>
  un_ls r1228 fun x1229 r1230 =>
  un_li r1230 fun x1231 r1232 =>
  un_ls r1232 fun x1233 r1234 =>
  un_b r1234 fun x1235 r1236 =>
  un_nil r1236 <|
  chk (decide (Int.ofNat (List.length x1231) = Int.ofNat (List.length x1231)) && true && true) <|
  chk (decide (Int.ofNat (List.length fs) = Int.ofNat (List.length fs)) && (decide ((↑(4 : Nat) : Int) = Int.ofNat (List.length [(1 : Int), (3 : Int), (6 : Int), (8 : Int)])) && true)) <|
  L8
    (fun i1237 r1238 =>
     br (Nat.beq 0 i1237)
       (un_li r1238 fun x1239 r1240 =>
        un_li r1240 fun x1241 r1242 =>
        un_lb r1242 fun x1243 r1244 =>
        un_li r1244 fun x1245 r1246 =>
        un_ls r1246 fun x1247 r1248 =>
        un_li r1248 fun x1249 r1250 =>
        un_ls r1250 fun x1251 r1252 =>
        un_li r1252 fun x1253 r1254 =>
        un_ls r1254 fun x1255 r1256 =>
        un_li r1256 fun x1257 r1258 =>
        un_ls r1258 fun x1259 r1260 =>
        un_li r1260 fun x1261 r1262 =>
        un_ls r1262 fun x1263 r1264 =>
        un_li r1264 fun x1265 r1266 =>
        un_b r1266 fun x1267 r1268 =>
        un_i r1268 fun x1269 r1270 =>
        un_nil r1270 <|
        chk (decide (Int.ofNat (List.length x1261) = Int.ofNat (List.length x1261)) && true && true) <|
        chk (decide (Int.ofNat (List.length x1265) = Int.ofNat (List.length x1265)) && true) <|
        L15
          (fun i1271 r1272 =>
           br (Nat.beq 2 i1271)
             (un_li r1272 fun x1273 r1274 =>
              un_li r1274 fun x1275 r1276 =>
              un_lb r1276 fun x1277 r1278 =>
              un_li r1278 fun x1279 r1280 =>
              un_ls r1280 fun x1281 r1282 =>
              un_li r1282 fun x1283 r1284 =>
              un_ls r1284 fun x1285 r1286 =>
              un_li r1286 fun x1287 r1288 =>
              un_ls r1288 fun x1289 r1290 =>
              un_li r1290 fun x1291 r1292 =>
              un_ls r1292 fun x1293 r1294 =>
              un_li r1294 fun x1295 r1296 =>
              un_ls r1296 fun x1297 r1298 =>
              un_b r1298 fun x1299 r1300 =>
              un_nil r1300 <|
              chk (decide (Int.ofNat (List.length x1295) = Int.ofNat (List.length x1295)) && true && true) <|
              chk (decide ((↑(1 : Nat) : Int) = Int.ofNat (List.length [(34 : Int)])) && true) <|
              out (nego_Take x1279 x1281 x1283 x1285 x1287 x1289 x1291 x1293 x1295 x1297 [(34 : Int)] [{ data := #[(8 : UInt8), (1 : UInt8)] }] x1299) fun r1301 =>
              un_li r1301 fun x1302 r1303 =>
              un_ls r1303 fun x1304 r1305 =>
              un_li r1305 fun x1306 r1307 =>
              un_ls r1307 fun x1308 r1309 =>
              un_li r1309 fun x1310 r1311 =>
              un_ls r1311 fun x1312 r1313 =>
              un_li r1313 fun x1314 r1315 =>
              un_ls r1315 fun x1316 r1317 =>
              un_li r1317 fun x1318 r1319 =>
              un_ls r1319 fun x1320 r1321 =>
              un_b r1321 fun x1322 r1323 =>
              un_b r1323 fun x1324 r1325 =>
              un_nil r1325 <|
              chk (decide (Int.ofNat (List.length x1318) = Int.ofNat (List.length x1318)) && true && true) <|
              out (nego_Opts x1302 x1304 x1306 x1308 x1310 x1312 x1314 x1316 x1318 x1320 x1322) fun r1326 =>
              un_li r1326 fun x1327 r1328 =>
              un_ls r1328 fun x1329 r1330 =>
              un_li r1330 fun x1331 r1332 =>
              un_ls r1332 fun x1333 r1334 =>
              un_li r1334 fun x1335 r1336 =>
              un_ls r1336 fun x1337 r1338 =>
              un_li r1338 fun x1339 r1340 =>
              un_ls r1340 fun x1341 r1342 =>
              un_li r1342 fun x1343 r1344 =>
              un_ls r1344 fun x1345 r1346 =>
              un_li r1346 fun x1347 r1348 =>
              un_ls r1348 fun x1349 r1350 =>
              un_b r1350 fun x1351 r1352 =>
              un_nil r1352 <|
              one (Int.ofNat (List.length x1347)) fun x1353 =>
              one ((↑(List.length x1275) : Int)) fun x1354 =>
              one (addI .i64 x1354 1) fun x1355 =>
              br (x1353 == x1355)
                (chk (decide ((0 : Int) ≤ (0 : Int) ∧ (0 : Int) < Int.ofNat (List.length x1347))) <|
                 chk (decide ((0 : Int) ≤ Int.ofNat (nat_lit 0) ∧ Int.ofNat (nat_lit 0) < Int.ofNat (List.length x1347))) <|
                 some [.b (eqP [Go.Value.int .i64 (List.getD x1347 (Int.toNat (offAdd Option.none 0)) 0), Go.Value.string (List.getD x1349 (Int.toNat (offAdd Option.none 0)) ByteArray.empty)] [Go.Value.int .i64 33, Go.Value.string { data := #[8] }])])
                (some [.b (false)]))
             (none))
          (fun r1356 =>
           un_li r1356 fun x1357 r1358 =>
           un_b r1358 fun x1359 r1360 =>
           un_nil r1360 <|
           some [.b (x1359)])
          top (x1239) (x1241) (x1243) (x1245) (x1247) (x1249) (x1251) (x1253) (x1255) (x1257) (x1259) (x1261) (x1263) (x1265) (x1267) (0) (x1269))
       (none))
    (fun r1361 =>
     un_li r1361 fun x1362 r1363 =>
     un_b r1363 fun x1364 r1365 =>
     un_nil r1365 <|
     some [.b (x1364)])
    top (fs) ([]) ([]) (x1215) (x1217) (x1219) (x1221) (x1223) (x1225) (x1227) (x1229) (x1231) (x1233) ([(1 : Int), (3 : Int), (6 : Int), (8 : Int)]) (x1235) (0) (times)
def NegoAsk (fs : List Int) (times : Int) : Option (List Leaf) := NegoAsk_d @NegoAsk_8_L @NegoAsk_15_L fs times
end Go.Sx.T

