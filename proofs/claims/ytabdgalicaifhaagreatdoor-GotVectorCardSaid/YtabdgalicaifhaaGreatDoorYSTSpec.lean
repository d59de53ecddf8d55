import Derived.Test.YtabdgalicaifhaaGreatDoorYSentSpec
import Derived.Test.YtabdgalicaifhaaGreatDoorYFixSpec
set_option linter.all false
namespace Go.Sx.T
open Go Go.Sx
def SentThree_8_B  {α : Type} (kx : Nat → List Leaf → Option α) (kr : List Leaf → Option α) (again : List Int → List Int → List Int → Int → Bool → Int → Int → Int → Int → Option α) (s_l0 : List Int) (s_l1 : List Int) (s_l2 : List Int) (s_last : Int) (s_any : Bool) (i : Int) (first : Int) (hole : Int) (n2 : Int) : Option α :=
  br (decide (i < n2))
    (out (ref_Step first i) fun r1070 =>
     un_i r1070 fun x1071 r1072 =>
     un_nil r1072 <|
     chk (decide (Int.ofNat (List.length s_l0) = Int.ofNat (List.length s_l0)) && true && true) <|
     out (sent_Put s_l0 s_l1 s_l2 s_last s_any x1071 i) fun r1073 =>
     un_li r1073 fun x1074 r1075 =>
     un_li r1075 fun x1076 r1077 =>
     un_li r1077 fun x1078 r1079 =>
     un_i r1079 fun x1080 r1081 =>
     un_b r1081 fun x1082 r1083 =>
     un_b r1083 fun x1084 r1085 =>
     un_nil r1085 <|
     br (!x1084)
       (kr [.b (false)])
       (one (addI .i64 i 1) fun x1086 =>
        chk (decide (Int.ofNat (List.length x1074) = Int.ofNat (List.length x1074)) && true && true) <|
        again (x1074) (x1076) (x1078) (x1080) (x1082) (x1086) (first) (hole) (n2)))
    (chk (decide (Int.ofNat (List.length s_l0) = Int.ofNat (List.length s_l0)) && true && true) <|
     kx 0 [.li (s_l0), .li (s_l1), .li (s_l2), .i (s_last), .b (s_any), .i (hole), .i (n2), .i (first)])
def SentThree_8_L {α : Type} (kx : Nat → List Leaf → Option α) (kr : List Leaf → Option α) : Nat → List Int → List Int → List Int → Int → Bool → Int → Int → Int → Int → Option α
  | 0, _, _, _, _, _, _, _, _, _ => none
  | n + 1, s_l0, s_l1, s_l2, s_last, s_any, i, first, hole, n2 => SentThree_8_B  kx kr (SentThree_8_L kx kr n) s_l0 s_l1 s_l2 s_last s_any i first hole n2
def SentThree_8_F (L8 : ({β : Type} → (Nat → List Leaf → Option β) → (List Leaf → Option β) → Nat → List Int → List Int → List Int → Int → Bool → Int → Int → Int → Int → Option β)) {α : Type} (n : Nat) (ls : List Leaf) (kx : Nat → List Leaf → Option α) (kr : List Leaf → Option α) : Option α := un_li ls fun s_l0 rr => un_li rr fun s_l1 rr => un_li rr fun s_l2 rr => un_i rr fun s_last rr => un_b rr fun s_any rr => un_i rr fun i rr => un_i rr fun first rr => un_i rr fun hole rr => un_i rr fun n2 rr => un_nil rr (L8 kx kr n s_l0 s_l1 s_l2 s_last s_any i first hole n2)
def SentThree_14_B  {α : Type} (kx : Nat → List Leaf → Option α) (kr : List Leaf → Option α) (again : List Int → List Int → List Int → List Int → List Int → Int → Bool → Int → Int → Int → Int → Option α) (cells0 : List Int) (cells1 : List Int) (s_l0 : List Int) (s_l1 : List Int) (s_l2 : List Int) (s_last : Int) (s_any : Bool) (i : Int) (hole : Int) (n2 : Int) (first : Int) : Option α :=
  br (decide (i ≥ 0))
    (br (i == hole)
       (chk (decide (Int.ofNat (List.length cells0) = Int.ofNat (List.length cells0)) && true && decide ((Int.ofNat (List.length cells0) + (↑(1 : Nat) : Int)) * (↑(nat_lit 16) : Int) ≤ (140737488355328 : Int) ∧ Int.ofNat (List.length cells0) + (↑(1 : Nat) : Int) ≤ (4611686018427387904 : Int))) <|
        one (subI .i64 i 1) fun x1129 =>
        chk (decide (Int.ofNat (List.length s_l0) = Int.ofNat (List.length s_l0)) && true && true) <|
        chk (decide (Int.ofNat (List.length cells0) + (↑(1 : Nat) : Int) = Int.ofNat (List.length (cells0 ++ [(3 : Int)]))) && true) <|
        again (cells0 ++ [(3 : Int)]) (cells1 ++ [(1 : Int)]) (s_l0) (s_l1) (s_l2) (s_last) (s_any) (x1129) (hole) (n2) (first))
       (chk (decide (Int.ofNat (List.length cells0) = Int.ofNat (List.length cells0)) && true && decide ((Int.ofNat (List.length cells0) + (↑(1 : Nat) : Int)) * (↑(nat_lit 16) : Int) ≤ (140737488355328 : Int) ∧ Int.ofNat (List.length cells0) + (↑(1 : Nat) : Int) ≤ (4611686018427387904 : Int))) <|
        one (subI .i64 i 1) fun x1130 =>
        chk (decide (Int.ofNat (List.length s_l0) = Int.ofNat (List.length s_l0)) && true && true) <|
        chk (decide (Int.ofNat (List.length cells0) + (↑(1 : Nat) : Int) = Int.ofNat (List.length (cells0 ++ [(0 : Int)]))) && true) <|
        again (cells0 ++ [(0 : Int)]) (cells1 ++ [(1 : Int)]) (s_l0) (s_l1) (s_l2) (s_last) (s_any) (x1130) (hole) (n2) (first)))
    (chk (decide (Int.ofNat (List.length s_l0) = Int.ofNat (List.length s_l0)) && true && true) <|
     chk (decide (Int.ofNat (List.length cells0) = Int.ofNat (List.length cells0)) && true) <|
     kx 2 [.li (s_l0), .li (s_l1), .li (s_l2), .li (cells0), .li (cells1), .i (s_last), .b (s_any), .i (hole), .i (n2), .i (first)])
def SentThree_14_L {α : Type} (kx : Nat → List Leaf → Option α) (kr : List Leaf → Option α) : Nat → List Int → List Int → List Int → List Int → List Int → Int → Bool → Int → Int → Int → Int → Option α
  | 0, _, _, _, _, _, _, _, _, _, _, _ => none
  | n + 1, cells0, cells1, s_l0, s_l1, s_l2, s_last, s_any, i, hole, n2, first => SentThree_14_B  kx kr (SentThree_14_L kx kr n) cells0 cells1 s_l0 s_l1 s_l2 s_last s_any i hole n2 first
def SentThree_14_F (L14 : ({β : Type} → (Nat → List Leaf → Option β) → (List Leaf → Option β) → Nat → List Int → List Int → List Int → List Int → List Int → Int → Bool → Int → Int → Int → Int → Option β)) {α : Type} (n : Nat) (ls : List Leaf) (kx : Nat → List Leaf → Option α) (kr : List Leaf → Option α) : Option α := un_li ls fun cells0 rr => un_li rr fun cells1 rr => un_li rr fun s_l0 rr => un_li rr fun s_l1 rr => un_li rr fun s_l2 rr => un_i rr fun s_last rr => un_b rr fun s_any rr => un_i rr fun i rr => un_i rr fun hole rr => un_i rr fun n2 rr => un_i rr fun first rr => un_nil rr (L14 kx kr n cells0 cells1 s_l0 s_l1 s_l2 s_last s_any i hole n2 first)
def SentThree_d (L8 : ({β : Type} → (Nat → List Leaf → Option β) → (List Leaf → Option β) → Nat → List Int → List Int → List Int → Int → Bool → Int → Int → Int → Int → Option β)) (L14 : ({β : Type} → (Nat → List Leaf → Option β) → (List Leaf → Option β) → Nat → List Int → List Int → List Int → List Int → List Int → Int → Bool → Int → Int → Int → Int → Option β)) (n2 : Int) (hole : Int) (first : Int) : Option (List Leaf) :=
  one (remI .i64 n2 30) fun x1131 =>
  one (addI .i64 x1131 30) fun x1132 =>
  one (remI .i64 x1132 30) fun x1133 =>
  one (addI .i64 5 x1133) fun x1134 =>
  chk (decide (x1134 ≠ 0)) <|
  one (remI .i64 hole x1134) fun x1135 =>
  one (addI .i64 x1135 x1134) fun x1136 =>
  chk (decide (x1134 ≠ 0)) <|
  one (remI .i64 x1136 x1134) fun x1137 =>
  out (sent_New) fun r1138 =>
  un_li r1138 fun x1139 r1140 =>
  un_li r1140 fun x1141 r1142 =>
  un_li r1142 fun x1143 r1144 =>
  un_i r1144 fun x1145 r1146 =>
  un_b r1146 fun x1147 r1148 =>
  un_nil r1148 <|
  chk (decide (Int.ofNat (List.length x1139) = Int.ofNat (List.length x1139)) && true && true) <|
  L8
    (fun i1149 r1150 =>
     br (Nat.beq 0 i1149)
       (un_li r1150 fun x1151 r1152 =>
        un_li r1152 fun x1153 r1154 =>
        un_li r1154 fun x1155 r1156 =>
        un_i r1156 fun x1157 r1158 =>
        un_b r1158 fun x1159 r1160 =>
        un_i r1160 fun x1161 r1162 =>
        un_i r1162 fun x1163 r1164 =>
        un_i r1164 fun x1165 r1166 =>
        un_nil r1166 <|
        one (subI .i64 x1163 1) fun x1167 =>
        chk (decide (Int.ofNat (List.length x1151) = Int.ofNat (List.length x1151)) && true && true) <|
        chk (decide ((0 : Int) = Int.ofNat (0 : Nat)) && true) <|
        L14
          (fun i1168 r1169 =>
           br (Nat.beq 2 i1168)
             (un_li r1169 fun x1170 r1171 =>
              un_li r1171 fun x1172 r1173 =>
              un_li r1173 fun x1174 r1175 =>
              un_li r1175 fun x1176 r1177 =>
              un_li r1177 fun x1178 r1179 =>
              un_i r1179 fun x1180 r1181 =>
              un_b r1181 fun x1182 r1183 =>
              un_i r1183 fun x1184 r1185 =>
              un_i r1185 fun x1186 r1187 =>
              un_i r1187 fun x1188 r1189 =>
              un_nil r1189 <|
              one (subI .i64 x1186 1) fun x1190 =>
              out (ref_Step x1188 x1190) fun r1191 =>
              un_i r1191 fun x1192 r1193 =>
              un_nil r1193 <|
              chk (decide (Int.ofNat (List.length x1170) = Int.ofNat (List.length x1170)) && true && true) <|
              chk (decide (Int.ofNat (List.length x1176) = Int.ofNat (List.length x1176)) && true) <|
              out (sent_Hear x1170 x1172 x1174 x1176 x1178 x1180 x1182 x1192 1000) fun r1194 =>
              un_li r1194 fun x1195 r1196 =>
              un_li r1196 fun x1197 r1198 =>
              un_li r1198 fun x1199 r1200 =>
              un_li r1200 fun x1201 r1202 =>
              un_li r1202 fun x1203 r1204 =>
              un_li r1204 fun x1205 r1206 =>
              un_i r1206 fun x1207 r1208 =>
              un_b r1208 fun x1209 r1210 =>
              un_i r1210 fun x1211 r1212 =>
              un_i r1212 fun x1213 r1214 =>
              un_nil r1214 <|
              one (subI .i64 x1186 1) fun x1215 =>
              one (subI .i64 x1215 x1184) fun x1216 =>
              one (Int.ofNat (List.length x1201)) fun x1217 =>
              one (subI .i64 x1186 1) fun x1218 =>
              br (x1217 != x1218)
                (some [.b (false)])
                (one (Int.ofNat (List.length x1205)) fun x1219 =>
                 br (!(x1219 == 1) == decide (x1216 ≥ 3))
                   (some [.b (false)])
                   (one (Int.ofNat (List.length x1203)) fun x1220 =>
                    br (x1220 != 0)
                      (some [.b (false)])
                      (chk (decide (Int.ofNat (List.length x1195) = Int.ofNat (List.length x1195)) && true && true) <|
                       out (sent_Out x1195 x1197 x1199 x1207 x1209) fun r1221 =>
                       un_i r1221 fun x1222 r1223 =>
                       un_nil r1223 <|
                       one (subI .i64 x1186 1) fun x1224 =>
                       one (Int.ofNat (List.length x1201)) fun x1225 =>
                       one (subI .i64 x1224 x1225) fun x1226 =>
                       one (addI .i64 x1226 1) fun x1227 =>
                       one (Int.ofNat (List.length x1205)) fun x1228 =>
                       one (subI .i64 x1227 x1228) fun x1229 =>
                       br (x1222 != x1229)
                         (some [.b (false)])
                         (one (subI .i64 x1186 1) fun x1230 =>
                          one (subI .i64 x1230 x1184) fun x1231 =>
                          chk (decide ((0 : Int) ≤ x1231 ∧ x1231 < Int.ofNat (List.length x1176))) <|
                          chk (decide ((0 : Int) ≤ x1231 ∧ x1231 < Int.ofNat (List.length x1176))) <|
                          chk (decide (Int.ofNat (List.length x1195) = Int.ofNat (List.length x1195)) && true && true) <|
                          chk (decide (Int.ofNat (List.length x1176) = Int.ofNat (List.length (List.set x1176 (Int.toNat x1231) (1 : Int)))) && true) <|
                          out (sent_Hear x1195 x1197 x1199 (List.set x1176 (Int.toNat x1231) 1) x1178 x1207 x1209 x1192 2000) fun r1232 =>
                          un_li r1232 fun x1233 r1234 =>
                          un_li r1234 fun x1235 r1236 =>
                          un_li r1236 fun x1237 r1238 =>
                          un_li r1238 fun x1239 r1240 =>
                          un_li r1240 fun x1241 r1242 =>
                          un_li r1242 fun x1243 r1244 =>
                          un_i r1244 fun x1245 r1246 =>
                          un_b r1246 fun x1247 r1248 =>
                          un_i r1248 fun x1249 r1250 =>
                          un_i r1250 fun x1251 r1252 =>
                          un_nil r1252 <|
                          chk (decide (Int.ofNat (List.length x1233) = Int.ofNat (List.length x1233)) && true && true) <|
                          chk (decide (Int.ofNat (List.length x1176) = Int.ofNat (List.length (List.set x1176 (Int.toNat x1231) (1 : Int)))) && true) <|
                          out (sent_Hear x1233 x1235 x1237 (List.set x1176 (Int.toNat x1231) 1) x1178 x1245 x1247 x1192 3000) fun r1253 =>
                          un_li r1253 fun x1254 r1255 =>
                          un_li r1255 fun x1256 r1257 =>
                          un_li r1257 fun x1258 r1259 =>
                          un_li r1259 fun x1260 r1261 =>
                          un_li r1261 fun x1262 r1263 =>
                          un_li r1263 fun x1264 r1265 =>
                          un_i r1265 fun x1266 r1267 =>
                          un_b r1267 fun x1268 r1269 =>
                          un_i r1269 fun x1270 r1271 =>
                          un_i r1271 fun x1272 r1273 =>
                          un_nil r1273 <|
                          one (Int.ofNat (List.length x1241)) fun x1274 =>
                          one (Int.ofNat (List.length x1205)) fun x1275 =>
                          br (x1274 == x1275)
                            (one (Int.ofNat (List.length x1239)) fun x1276 =>
                             one (Int.ofNat (List.length x1205)) fun x1277 =>
                             one (subI .i64 1 x1277) fun x1278 =>
                             br (x1276 == x1278)
                               (br (x1249 == 1)
                                  (br ((x1251 == -1) == decide (x1216 ≥ 3))
                                     (one (Int.ofNat (List.length x1260)) fun x1279 =>
                                      one (Int.ofNat (List.length x1262)) fun x1280 =>
                                      one (addI .i64 x1279 x1280) fun x1281 =>
                                      one (Int.ofNat (List.length x1264)) fun x1282 =>
                                      one (addI .i64 x1281 x1282) fun x1283 =>
                                      one (addI .i64 x1283 x1270) fun x1284 =>
                                      br (x1284 == 0)
                                        (chk (decide (Int.ofNat (List.length x1254) = Int.ofNat (List.length x1254)) && true && true) <|
                                         out (sent_Out x1254 x1256 x1258 x1266 x1268) fun r1285 =>
                                         un_i r1285 fun x1286 r1287 =>
                                         un_nil r1287 <|
                                         some [.b (x1286 == 0)])
                                        (some [.b (false)]))
                                     (some [.b (false)]))
                                  (some [.b (false)]))
                               (some [.b (false)]))
                            (some [.b (false)]))))))
             (none))
          (fun r1288 =>
           un_nil r1288 <|
           none)
          top ([]) ([]) (x1151) (x1153) (x1155) (x1157) (x1159) (x1167) (x1161) (x1163) (x1165))
       (none))
    (fun r1289 =>
     un_b r1289 fun x1290 r1291 =>
     un_nil r1291 <|
     some [.b (x1290)])
    top (x1139) (x1141) (x1143) (x1145) (x1147) (0) (first) (x1137) (x1134)
def SentThree (n2 : Int) (hole : Int) (first : Int) : Option (List Leaf) := SentThree_d @SentThree_8_L @SentThree_14_L n2 hole first
end Go.Sx.T

