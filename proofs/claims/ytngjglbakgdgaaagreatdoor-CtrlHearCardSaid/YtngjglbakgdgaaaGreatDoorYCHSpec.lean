import Derived.Test.YtngjglbakgdgaaaGreatDoorYhCtlSpec
set_option linter.all false
namespace Go.Sx.T
open Go Go.Sx
def CtrlHear (size : Int) (r : Int) (x : Int) (p : Int) : Option (List Leaf) :=
  one (remI .i64 size 1400) fun x1150 =>
  one (addI .i64 x1150 1400) fun x1151 =>
  one (remI .i64 x1151 1400) fun x1152 =>
  one (addI .i64 1 x1152) fun x1153 =>
  one (minI r 1073741824) fun x1154 =>
  one (maxI 0 x1154) fun x1155 =>
  one (addI .i64 1 x1155) fun x1156 =>
  out (tfrc_New x1153) fun r1157 =>
  un_li r1157 fun x1158 r1159 =>
  un_li r1159 fun x1160 r1161 =>
  un_i r1161 fun x1162 r1163 =>
  un_i r1163 fun x1164 r1165 =>
  un_i r1165 fun x1166 r1167 =>
  un_i r1167 fun x1168 r1169 =>
  un_b r1169 fun x1170 r1171 =>
  un_i r1171 fun x1172 r1173 =>
  un_b r1173 fun x1174 r1175 =>
  un_b r1175 fun x1176 r1177 =>
  un_i r1177 fun x1178 r1179 =>
  un_nil r1179 <|
  out (pace_New 1400 10000) fun r1180 =>
  un_i r1180 fun x1181 r1182 =>
  un_i r1182 fun x1183 r1184 =>
  un_i r1184 fun x1185 r1186 =>
  un_i r1186 fun x1187 r1188 =>
  un_i r1188 fun x1189 r1190 =>
  un_nil r1190 <|
  chk (decide (Int.ofNat (List.length x1158) = Int.ofNat (List.length x1158)) && true && true) <|
  out (tfrc_Rate x1158 x1160 x1162 x1164 x1166 x1168 x1170 x1172 x1174 x1176 x1178) fun r1191 =>
  un_i r1191 fun x1192 r1193 =>
  un_nil r1193 <|
  chk (decide (Int.ofNat (List.length x1158) = Int.ofNat (List.length x1158)) && true && true) <|
  chk (decide ((0 : Int) = Int.ofNat (0 : Nat)) && (decide ((↑(1 : Nat) : Int) = Int.ofNat (List.length [(4 : Int)])) && (decide ((0 : Int) = Int.ofNat (0 : Nat)) && true)) && true) <|
  out (cr_Hear x1158 x1160 [] [(4 : Int)] [] (0 : Int) x1162 x1164 x1166 x1168 x1170 x1172 x1174 x1176 x1178 x1181 x1183 x1185 x1187 x1189 (5 : Int) (0 : Int) (-1 : Int) x p) fun r1194 =>
  un_li r1194 fun x1195 r1196 =>
  un_li r1196 fun x1197 r1198 =>
  un_i r1198 fun x1199 r1200 =>
  un_i r1200 fun x1201 r1202 =>
  un_i r1202 fun x1203 r1204 =>
  un_i r1204 fun x1205 r1206 =>
  un_i r1206 fun x1207 r1208 =>
  un_b r1208 fun x1209 r1210 =>
  un_i r1210 fun x1211 r1212 =>
  un_b r1212 fun x1213 r1214 =>
  un_b r1214 fun x1215 r1216 =>
  un_i r1216 fun x1217 r1218 =>
  un_i r1218 fun x1219 r1220 =>
  un_i r1220 fun x1221 r1222 =>
  un_i r1222 fun x1223 r1224 =>
  un_i r1224 fun x1225 r1226 =>
  un_i r1226 fun x1227 r1228 =>
  un_nil r1228 <|
  chk (decide (Int.ofNat (List.length x1195) = Int.ofNat (List.length x1195)) && true && true) <|
  out (tfrc_Rate x1195 x1197 x1201 x1203 x1205 x1207 x1209 x1211 x1213 x1215 x1217) fun r1229 =>
  un_i r1229 fun x1230 r1231 =>
  un_nil r1231 <|
  br (x1230 != x1192)
    (some [.b (false)])
    (chk (decide (Int.ofNat (List.length x1195) = Int.ofNat (List.length x1195)) && true && true) <|
     out (tfrc_Rtt x1195 x1197 x1201 x1203 x1205 x1207 x1209 x1211 x1213 x1215 x1217) fun r1232 =>
     un_i r1232 fun x1233 r1234 =>
     un_nil r1234 <|
     br (x1233 != 0)
       (some [.b (false)])
       (chk (decide (Int.ofNat (List.length x1195) = Int.ofNat (List.length x1195)) && true && true) <|
        chk (decide ((↑(1 : Nat) : Int) = Int.ofNat (List.length [(5 : Int)])) && (decide ((0 : Int) = Int.ofNat (0 : Nat)) && (decide ((0 : Int) = Int.ofNat (0 : Nat)) && true)) && true) <|
        out (cr_Hear x1195 x1197 [(5 : Int)] [] [] x1199 x1201 x1203 x1205 x1207 x1209 x1211 x1213 x1215 x1217 x1219 x1221 x1223 x1225 x1227 (5 : Int) (0 : Int) x1156 x p) fun r1235 =>
        un_li r1235 fun x1236 r1237 =>
        un_li r1237 fun x1238 r1239 =>
        un_i r1239 fun x1240 r1241 =>
        un_i r1241 fun x1242 r1243 =>
        un_i r1243 fun x1244 r1245 =>
        un_i r1245 fun x1246 r1247 =>
        un_i r1247 fun x1248 r1249 =>
        un_b r1249 fun x1250 r1251 =>
        un_i r1251 fun x1252 r1253 =>
        un_b r1253 fun x1254 r1255 =>
        un_b r1255 fun x1256 r1257 =>
        un_i r1257 fun x1258 r1259 =>
        un_i r1259 fun x1260 r1261 =>
        un_i r1261 fun x1262 r1263 =>
        un_i r1263 fun x1264 r1265 =>
        un_i r1265 fun x1266 r1267 =>
        un_i r1267 fun x1268 r1269 =>
        un_nil r1269 <|
        chk (decide (Int.ofNat (List.length x1236) = Int.ofNat (List.length x1236)) && true && true) <|
        out (tfrc_Rtt x1236 x1238 x1242 x1244 x1246 x1248 x1250 x1252 x1254 x1256 x1258) fun r1270 =>
        un_i r1270 fun x1271 r1272 =>
        un_nil r1272 <|
        br (x1271 == x1156)
          (chk (decide (Int.ofNat (List.length x1236) = Int.ofNat (List.length x1236)) && true && true) <|
           out (tfrc_Loss x1236 x1238 x1242 x1244 x1246 x1248 x1250 x1252 x1254 x1256 x1258) fun r1273 =>
           un_i r1273 fun x1274 r1275 =>
           un_nil r1275 <|
           one (minI p 4294967296) fun x1276 =>
           some [.b (x1274 == x1276)])
          (some [.b (false)])))
end Go.Sx.T

