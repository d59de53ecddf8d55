import Derived.Test.YtngjglbakgdgaaaGreatDoorYnRttSpec
set_option linter.all false
namespace Go.Sx.T
open Go Go.Sx
def win_New  : Option (List Leaf) :=
  out (rtt_New) fun r1067 =>
  un_b r1067 fun x1068 r1069 =>
  un_i r1069 fun x1070 r1071 =>
  un_i r1071 fun x1072 r1073 =>
  un_i r1073 fun x1074 r1075 =>
  un_nil r1075 <|
  some [.i (3), .i (1000000), .i (0), .i (0), .i (0), .b (false), .i (0), .b (false), .b (false), .i (0), .b (x1068), .i (x1070), .i (x1072), .i (x1074)]
def win_May (w_cwnd : Int) (w_slow : Int) (w_pipe : Int) (w_count : Int) (w_halved_n : Int) (w_halved_is : Bool) (w_last_n : Int) (w_last_is : Bool) (w_runs : Bool) (w_due : Int) (w_rtt_any : Bool) (w_rtt_smooth : Int) (w_rtt_spread : Int) (w_rtt_rto : Int) : Option (List Leaf) :=
  some [.b (decide (w_pipe < w_cwnd))]
def win_runsTo (w_cwnd : Int) (w_slow : Int) (w_pipe : Int) (w_count : Int) (w_halved_n : Int) (w_halved_is : Bool) (w_last_n : Int) (w_last_is : Bool) (w_runs : Bool) (w_due : Int) (w_rtt_any : Bool) (w_rtt_smooth : Int) (w_rtt_spread : Int) (w_rtt_rto : Int) (now : Int) : Option (List Leaf) :=
  one (minI now 4611686018427387904) fun x1076 =>
  out (rtt_Rto w_rtt_any w_rtt_smooth w_rtt_spread w_rtt_rto) fun r1077 =>
  un_i r1077 fun x1078 r1079 =>
  un_nil r1079 <|
  one (addI .i64 x1076 x1078) fun x1080 =>
  some [.i (w_cwnd), .i (w_slow), .i (w_pipe), .i (w_count), .i (w_halved_n), .b (w_halved_is), .i (w_last_n), .b (w_last_is), .b (true), .i (x1080), .b (w_rtt_any), .i (w_rtt_smooth), .i (w_rtt_spread), .i (w_rtt_rto)]
def win_Sent (w_cwnd : Int) (w_slow : Int) (w_pipe : Int) (w_count : Int) (w_halved_n : Int) (w_halved_is : Bool) (w_last_n : Int) (w_last_is : Bool) (w_runs : Bool) (w_due : Int) (w_rtt_any : Bool) (w_rtt_smooth : Int) (w_rtt_spread : Int) (w_rtt_rto : Int) (n2 : Int) (now : Int) : Option (List Leaf) :=
  out (win_May w_cwnd w_slow w_pipe w_count w_halved_n w_halved_is w_last_n w_last_is w_runs w_due w_rtt_any w_rtt_smooth w_rtt_spread w_rtt_rto) fun r1081 =>
  un_b r1081 fun x1082 r1083 =>
  un_nil r1083 <|
  br (!x1082)
    (some [.i (w_cwnd), .i (w_slow), .i (w_pipe), .i (w_count), .i (w_halved_n), .b (w_halved_is), .i (w_last_n), .b (w_last_is), .b (w_runs), .i (w_due), .b (w_rtt_any), .i (w_rtt_smooth), .i (w_rtt_spread), .i (w_rtt_rto), .b (false)])
    (one (addI .i64 w_pipe 1) fun x1084 =>
     out (seq_Of n2) fun r1085 =>
     un_i r1085 fun x1086 r1087 =>
     un_nil r1087 <|
     br (!w_runs)
       (out (win_runsTo w_cwnd w_slow x1084 w_count w_halved_n w_halved_is x1086 true w_runs w_due w_rtt_any w_rtt_smooth w_rtt_spread w_rtt_rto now) fun r1088 =>
        un_i r1088 fun x1089 r1090 =>
        un_i r1090 fun x1091 r1092 =>
        un_i r1092 fun x1093 r1094 =>
        un_i r1094 fun x1095 r1096 =>
        un_i r1096 fun x1097 r1098 =>
        un_b r1098 fun x1099 r1100 =>
        un_i r1100 fun x1101 r1102 =>
        un_b r1102 fun x1103 r1104 =>
        un_b r1104 fun x1105 r1106 =>
        un_i r1106 fun x1107 r1108 =>
        un_b r1108 fun x1109 r1110 =>
        un_i r1110 fun x1111 r1112 =>
        un_i r1112 fun x1113 r1114 =>
        un_i r1114 fun x1115 r1116 =>
        un_nil r1116 <|
        some [.i (x1089), .i (x1091), .i (x1093), .i (x1095), .i (x1097), .b (x1099), .i (x1101), .b (x1103), .b (x1105), .i (x1107), .b (x1109), .i (x1111), .i (x1113), .i (x1115), .b (true)])
       (some [.i (w_cwnd), .i (w_slow), .i (x1084), .i (w_count), .i (w_halved_n), .b (w_halved_is), .i (x1086), .b (true), .b (w_runs), .i (w_due), .b (w_rtt_any), .i (w_rtt_smooth), .i (w_rtt_spread), .i (w_rtt_rto), .b (true)]))
def win_grow_5_B  {α : Type} (kx : Nat → List Leaf → Option α) (kr : List Leaf → Option α) (again : Int → Int → Int → Int → Int → Bool → Int → Bool → Bool → Int → Bool → Int → Int → Int → Option α) (w_cwnd : Int) (w_slow : Int) (w_pipe : Int) (w_count : Int) (w_halved_n : Int) (w_halved_is : Bool) (w_last_n : Int) (w_last_is : Bool) (w_runs : Bool) (w_due : Int) (w_rtt_any : Bool) (w_rtt_smooth : Int) (w_rtt_spread : Int) (w_rtt_rto : Int) : Option α :=
  br (decide (w_count ≥ w_cwnd))
    (one (subI .i64 w_count w_cwnd) fun x1125 =>
     one (addI .i64 w_cwnd 1) fun x1126 =>
     again (x1126) (w_slow) (w_pipe) (x1125) (w_halved_n) (w_halved_is) (w_last_n) (w_last_is) (w_runs) (w_due) (w_rtt_any) (w_rtt_smooth) (w_rtt_spread) (w_rtt_rto))
    (kx 0 [.i (w_cwnd), .i (w_slow), .i (w_pipe), .i (w_count), .i (w_halved_n), .b (w_halved_is), .i (w_last_n), .b (w_last_is), .b (w_runs), .i (w_due), .b (w_rtt_any), .i (w_rtt_smooth), .i (w_rtt_spread), .i (w_rtt_rto)])
def win_grow_5_L {α : Type} (kx : Nat → List Leaf → Option α) (kr : List Leaf → Option α) : Nat → Int → Int → Int → Int → Int → Bool → Int → Bool → Bool → Int → Bool → Int → Int → Int → Option α
  | 0, _, _, _, _, _, _, _, _, _, _, _, _, _, _ => none
  | n + 1, w_cwnd, w_slow, w_pipe, w_count, w_halved_n, w_halved_is, w_last_n, w_last_is, w_runs, w_due, w_rtt_any, w_rtt_smooth, w_rtt_spread, w_rtt_rto => win_grow_5_B  kx kr (win_grow_5_L kx kr n) w_cwnd w_slow w_pipe w_count w_halved_n w_halved_is w_last_n w_last_is w_runs w_due w_rtt_any w_rtt_smooth w_rtt_spread w_rtt_rto
def win_grow_5_F (L5 : ({β : Type} → (Nat → List Leaf → Option β) → (List Leaf → Option β) → Nat → Int → Int → Int → Int → Int → Bool → Int → Bool → Bool → Int → Bool → Int → Int → Int → Option β)) {α : Type} (n : Nat) (ls : List Leaf) (kx : Nat → List Leaf → Option α) (kr : List Leaf → Option α) : Option α := un_i ls fun w_cwnd rr => un_i rr fun w_slow rr => un_i rr fun w_pipe rr => un_i rr fun w_count rr => un_i rr fun w_halved_n rr => un_b rr fun w_halved_is rr => un_i rr fun w_last_n rr => un_b rr fun w_last_is rr => un_b rr fun w_runs rr => un_i rr fun w_due rr => un_b rr fun w_rtt_any rr => un_i rr fun w_rtt_smooth rr => un_i rr fun w_rtt_spread rr => un_i rr fun w_rtt_rto rr => un_nil rr (L5 kx kr n w_cwnd w_slow w_pipe w_count w_halved_n w_halved_is w_last_n w_last_is w_runs w_due w_rtt_any w_rtt_smooth w_rtt_spread w_rtt_rto)
def win_grow_d (L5 : ({β : Type} → (Nat → List Leaf → Option β) → (List Leaf → Option β) → Nat → Int → Int → Int → Int → Int → Bool → Int → Bool → Bool → Int → Bool → Int → Int → Int → Option β)) (w_cwnd : Int) (w_slow : Int) (w_pipe : Int) (w_count : Int) (w_halved_n : Int) (w_halved_is : Bool) (w_last_n : Int) (w_last_is : Bool) (w_runs : Bool) (w_due : Int) (w_rtt_any : Bool) (w_rtt_smooth : Int) (w_rtt_spread : Int) (w_rtt_rto : Int) (n2 : Int) : Option (List Leaf) :=
  br (decide (w_cwnd < w_slow))
    (one (subI .i64 w_slow w_cwnd) fun x1127 =>
     one (minI n2 x1127) fun x1128 =>
     one (addI .i64 w_cwnd x1128) fun x1129 =>
     one (subI .i64 n2 x1128) fun x1130 =>
     one (addI .i64 w_count x1130) fun x1131 =>
     L5
       (fun i1132 r1133 =>
        br (Nat.beq 0 i1132)
          (un_i r1133 fun x1134 r1135 =>
           un_i r1135 fun x1136 r1137 =>
           un_i r1137 fun x1138 r1139 =>
           un_i r1139 fun x1140 r1141 =>
           un_i r1141 fun x1142 r1143 =>
           un_b r1143 fun x1144 r1145 =>
           un_i r1145 fun x1146 r1147 =>
           un_b r1147 fun x1148 r1149 =>
           un_b r1149 fun x1150 r1151 =>
           un_i r1151 fun x1152 r1153 =>
           un_b r1153 fun x1154 r1155 =>
           un_i r1155 fun x1156 r1157 =>
           un_i r1157 fun x1158 r1159 =>
           un_i r1159 fun x1160 r1161 =>
           un_nil r1161 <|
           some [.i (x1134), .i (x1136), .i (x1138), .i (x1140), .i (x1142), .b (x1144), .i (x1146), .b (x1148), .b (x1150), .i (x1152), .b (x1154), .i (x1156), .i (x1158), .i (x1160)])
          (none))
       (fun r1162 =>
        un_nil r1162 <|
        none)
       top (x1129) (w_slow) (w_pipe) (x1131) (w_halved_n) (w_halved_is) (w_last_n) (w_last_is) (w_runs) (w_due) (w_rtt_any) (w_rtt_smooth) (w_rtt_spread) (w_rtt_rto))
    (one (addI .i64 w_count n2) fun x1163 =>
     L5
       (fun i1164 r1165 =>
        br (Nat.beq 0 i1164)
          (un_i r1165 fun x1166 r1167 =>
           un_i r1167 fun x1168 r1169 =>
           un_i r1169 fun x1170 r1171 =>
           un_i r1171 fun x1172 r1173 =>
           un_i r1173 fun x1174 r1175 =>
           un_b r1175 fun x1176 r1177 =>
           un_i r1177 fun x1178 r1179 =>
           un_b r1179 fun x1180 r1181 =>
           un_b r1181 fun x1182 r1183 =>
           un_i r1183 fun x1184 r1185 =>
           un_b r1185 fun x1186 r1187 =>
           un_i r1187 fun x1188 r1189 =>
           un_i r1189 fun x1190 r1191 =>
           un_i r1191 fun x1192 r1193 =>
           un_nil r1193 <|
           some [.i (x1166), .i (x1168), .i (x1170), .i (x1172), .i (x1174), .b (x1176), .i (x1178), .b (x1180), .b (x1182), .i (x1184), .b (x1186), .i (x1188), .i (x1190), .i (x1192)])
          (none))
       (fun r1194 =>
        un_nil r1194 <|
        none)
       top (w_cwnd) (w_slow) (w_pipe) (x1163) (w_halved_n) (w_halved_is) (w_last_n) (w_last_is) (w_runs) (w_due) (w_rtt_any) (w_rtt_smooth) (w_rtt_spread) (w_rtt_rto))
def win_grow (w_cwnd : Int) (w_slow : Int) (w_pipe : Int) (w_count : Int) (w_halved_n : Int) (w_halved_is : Bool) (w_last_n : Int) (w_last_is : Bool) (w_runs : Bool) (w_due : Int) (w_rtt_any : Bool) (w_rtt_smooth : Int) (w_rtt_spread : Int) (w_rtt_rto : Int) (n2 : Int) : Option (List Leaf) := win_grow_d @win_grow_5_L w_cwnd w_slow w_pipe w_count w_halved_n w_halved_is w_last_n w_last_is w_runs w_due w_rtt_any w_rtt_smooth w_rtt_spread w_rtt_rto n2
def win_Cwnd (w_cwnd : Int) (w_slow : Int) (w_pipe : Int) (w_count : Int) (w_halved_n : Int) (w_halved_is : Bool) (w_last_n : Int) (w_last_is : Bool) (w_runs : Bool) (w_due : Int) (w_rtt_any : Bool) (w_rtt_smooth : Int) (w_rtt_spread : Int) (w_rtt_rto : Int) : Option (List Leaf) :=
  some [.i (w_cwnd)]
end Go.Sx.T

