import Derived.Test.YtngjglbakgdgaaaGreatDoorYhTfrcSpec
import Derived.Test.YtngjglbakgdgaaaGreatDoorYPaceSpec
set_option linter.all false
namespace Go.Sx.T
open Go Go.Sx
def cr_turns (c_t_set_l0 : List Int) (c_t_set_l1 : List Int) (c_last : Int) (c_t_s : Int) (c_t_x : Int) (c_t_loss : Int) (c_t_rtt : Int) (c_t_heard : Bool) (c_t_doubled : Int) (c_t_began : Bool) (c_t_started : Bool) (c_t_due : Int) (c_p_s : Int) (c_p_tick : Int) (c_p_has : Int) (c_p_rate : Int) (c_p_now : Int) (now : Int) : Option (List Leaf) :=
  chk (decide (Int.ofNat (List.length c_t_set_l0) = Int.ofNat (List.length c_t_set_l0)) && true && true) <|
  out (tfrc_Rate c_t_set_l0 c_t_set_l1 c_t_s c_t_x c_t_loss c_t_rtt c_t_heard c_t_doubled c_t_began c_t_started c_t_due) fun r1043 =>
  un_i r1043 fun x1044 r1045 =>
  un_nil r1045 <|
  br (x1044 != c_last)
    (out (pace_Rate c_p_s c_p_tick c_p_has c_p_rate c_p_now now x1044) fun r1046 =>
     un_i r1046 fun x1047 r1048 =>
     un_i r1048 fun x1049 r1050 =>
     un_i r1050 fun x1051 r1052 =>
     un_i r1052 fun x1053 r1054 =>
     un_i r1054 fun x1055 r1056 =>
     un_nil r1056 <|
     chk (decide (Int.ofNat (List.length c_t_set_l0) = Int.ofNat (List.length c_t_set_l0)) && true && true) <|
     some [.li (c_t_set_l0), .li (c_t_set_l1), .i (x1044), .i (c_t_s), .i (c_t_x), .i (c_t_loss), .i (c_t_rtt), .b (c_t_heard), .i (c_t_doubled), .b (c_t_began), .b (c_t_started), .i (c_t_due), .i (x1047), .i (x1049), .i (x1051), .i (x1053), .i (x1055)])
    (chk (decide (Int.ofNat (List.length c_t_set_l0) = Int.ofNat (List.length c_t_set_l0)) && true && true) <|
     some [.li (c_t_set_l0), .li (c_t_set_l1), .i (c_last), .i (c_t_s), .i (c_t_x), .i (c_t_loss), .i (c_t_rtt), .b (c_t_heard), .i (c_t_doubled), .b (c_t_began), .b (c_t_started), .i (c_t_due), .i (c_p_s), .i (c_p_tick), .i (c_p_has), .i (c_p_rate), .i (c_p_now)])
def cr_Hear (c_t_set_l0 : List Int) (c_t_set_l1 : List Int) (h_Got : List Int) (h_Late : List Int) (h_Lost : List Int) (c_last : Int) (c_t_s : Int) (c_t_x : Int) (c_t_loss : Int) (c_t_rtt : Int) (c_t_heard : Bool) (c_t_doubled : Int) (c_t_began : Bool) (c_t_started : Bool) (c_t_due : Int) (c_p_s : Int) (c_p_tick : Int) (c_p_has : Int) (c_p_rate : Int) (c_p_now : Int) (now : Int) (h_Marks : Int) (h_Rtt : Int) (x : Int) (p : Int) : Option (List Leaf) :=
  chk (decide (Int.ofNat (List.length c_t_set_l0) = Int.ofNat (List.length c_t_set_l0)) && true && true) <|
  out (cr_turns c_t_set_l0 c_t_set_l1 c_last c_t_s c_t_x c_t_loss c_t_rtt c_t_heard c_t_doubled c_t_began c_t_started c_t_due c_p_s c_p_tick c_p_has c_p_rate c_p_now now) fun r1057 =>
  un_li r1057 fun x1058 r1059 =>
  un_li r1059 fun x1060 r1061 =>
  un_i r1061 fun x1062 r1063 =>
  un_i r1063 fun x1064 r1065 =>
  un_i r1065 fun x1066 r1067 =>
  un_i r1067 fun x1068 r1069 =>
  un_i r1069 fun x1070 r1071 =>
  un_b r1071 fun x1072 r1073 =>
  un_i r1073 fun x1074 r1075 =>
  un_b r1075 fun x1076 r1077 =>
  un_b r1077 fun x1078 r1079 =>
  un_i r1079 fun x1080 r1081 =>
  un_i r1081 fun x1082 r1083 =>
  un_i r1083 fun x1084 r1085 =>
  un_i r1085 fun x1086 r1087 =>
  un_i r1087 fun x1088 r1089 =>
  un_i r1089 fun x1090 r1091 =>
  un_nil r1091 <|
  br (decide (h_Rtt ≥ 0))
    (chk (decide (Int.ofNat (List.length x1058) = Int.ofNat (List.length x1058)) && true && true) <|
     out (tfrc_Hear x1058 x1060 x1064 x1066 x1068 x1070 x1072 x1074 x1076 x1078 x1080 now h_Rtt x p false) fun r1092 =>
     un_li r1092 fun x1093 r1094 =>
     un_li r1094 fun x1095 r1096 =>
     un_i r1096 fun x1097 r1098 =>
     un_i r1098 fun x1099 r1100 =>
     un_i r1100 fun x1101 r1102 =>
     un_i r1102 fun x1103 r1104 =>
     un_b r1104 fun x1105 r1106 =>
     un_i r1106 fun x1107 r1108 =>
     un_b r1108 fun x1109 r1110 =>
     un_b r1110 fun x1111 r1112 =>
     un_i r1112 fun x1113 r1114 =>
     un_nil r1114 <|
     chk (decide (Int.ofNat (List.length x1093) = Int.ofNat (List.length x1093)) && true && true) <|
     out (cr_turns x1093 x1095 x1062 x1097 x1099 x1101 x1103 x1105 x1107 x1109 x1111 x1113 x1082 x1084 x1086 x1088 x1090 now) fun r1115 =>
     un_li r1115 fun x1116 r1117 =>
     un_li r1117 fun x1118 r1119 =>
     un_i r1119 fun x1120 r1121 =>
     un_i r1121 fun x1122 r1123 =>
     un_i r1123 fun x1124 r1125 =>
     un_i r1125 fun x1126 r1127 =>
     un_i r1127 fun x1128 r1129 =>
     un_b r1129 fun x1130 r1131 =>
     un_i r1131 fun x1132 r1133 =>
     un_b r1133 fun x1134 r1135 =>
     un_b r1135 fun x1136 r1137 =>
     un_i r1137 fun x1138 r1139 =>
     un_i r1139 fun x1140 r1141 =>
     un_i r1141 fun x1142 r1143 =>
     un_i r1143 fun x1144 r1145 =>
     un_i r1145 fun x1146 r1147 =>
     un_i r1147 fun x1148 r1149 =>
     un_nil r1149 <|
     chk (decide (Int.ofNat (List.length x1116) = Int.ofNat (List.length x1116)) && true && true) <|
     some [.li (x1116), .li (x1118), .i (x1120), .i (x1122), .i (x1124), .i (x1126), .i (x1128), .b (x1130), .i (x1132), .b (x1134), .b (x1136), .i (x1138), .i (x1140), .i (x1142), .i (x1144), .i (x1146), .i (x1148)])
    (chk (decide (Int.ofNat (List.length x1058) = Int.ofNat (List.length x1058)) && true && true) <|
     some [.li (x1058), .li (x1060), .i (x1062), .i (x1064), .i (x1066), .i (x1068), .i (x1070), .b (x1072), .i (x1074), .b (x1076), .b (x1078), .i (x1080), .i (x1082), .i (x1084), .i (x1086), .i (x1088), .i (x1090)])
end Go.Sx.T

