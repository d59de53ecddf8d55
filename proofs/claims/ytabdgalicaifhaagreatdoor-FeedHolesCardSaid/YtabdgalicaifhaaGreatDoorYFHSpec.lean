import Derived.Test.YtabdgalicaifhaaGreatDoorYFPSpec
set_option linter.all false
namespace Go.Sx.T
open Go Go.Sx
def FeedHoles_15_B  {α : Type} (kx : Nat → List Leaf → Option α) (kr : List Leaf → Option α) (again : List Int → List Int → List Int → List Bool → List Int → Int → Bool → Int → Int → Int → Int → Bool → Int → Int → Int → Int → Int → Int → Int → Int → Int → Int → Int → Int → Int → Int → Int → Option α) (f_got_k : List Int) (f_got_v : List Int) (f_lost_k : List Int) (f_lost_v : List Bool) (f_closed : List Int) (f_r : Int) (f_any : Bool) (f_now : Int) (f_first : Int) (f_newest : Int) (f_count : Int) (f_event : Bool) (f_eventAt : Int) (f_eventN : Int) (f_bytes : Int) (f_since : Int) (k : Int) (n2 : Int) (first : Int) (now : Int) (r : Int) (apart : Int) (gap : Int) (holes : Int) (i : Int) (events : Int) (last : Int) : Option α :=
  br (decide (k < gap))
    (out (ref_Step first n2) fun r4863 =>
     un_i r4863 fun x4864 r4865 =>
     un_nil r4865 <|
     chk (decide (Int.ofNat (List.length f_closed) = Int.ofNat (List.length f_closed)) && true && true) <|
     out (feed_Put f_got_k f_got_v f_lost_k f_lost_v f_closed f_r f_any f_now f_first f_newest f_count f_event f_eventAt f_eventN f_bytes f_since now x4864 1) fun r4866 =>
     un_li r4866 fun x4867 r4868 =>
     un_li r4868 fun x4869 r4870 =>
     un_li r4870 fun x4871 r4872 =>
     un_lb r4872 fun x4873 r4874 =>
     un_li r4874 fun x4875 r4876 =>
     un_i r4876 fun x4877 r4878 =>
     un_b r4878 fun x4879 r4880 =>
     un_i r4880 fun x4881 r4882 =>
     un_i r4882 fun x4883 r4884 =>
     un_i r4884 fun x4885 r4886 =>
     un_i r4886 fun x4887 r4888 =>
     un_b r4888 fun x4889 r4890 =>
     un_i r4890 fun x4891 r4892 =>
     un_i r4892 fun x4893 r4894 =>
     un_i r4894 fun x4895 r4896 =>
     un_i r4896 fun x4897 r4898 =>
     un_b r4898 fun x4899 r4900 =>
     un_nil r4900 <|
     one (addI .i64 n2 1) fun x4901 =>
     one (addI .i64 k 1) fun x4902 =>
     chk (decide (Int.ofNat (List.length x4875) = Int.ofNat (List.length x4875)) && true && true) <|
     again (x4867) (x4869) (x4871) (x4873) (x4875) (x4877) (x4879) (x4881) (x4883) (x4885) (x4887) (x4889) (x4891) (x4893) (x4895) (x4897) (x4902) (x4901) (first) (now) (r) (apart) (gap) (holes) (i) (events) (last))
    (chk (decide (Int.ofNat (List.length f_closed) = Int.ofNat (List.length f_closed)) && true && true) <|
     kx 2 [.li (f_got_k), .li (f_got_v), .li (f_lost_k), .lb (f_lost_v), .li (f_closed), .i (f_r), .b (f_any), .i (f_now), .i (f_first), .i (f_newest), .i (f_count), .b (f_event), .i (f_eventAt), .i (f_eventN), .i (f_bytes), .i (f_since), .i (first), .i (r), .i (apart), .i (gap), .i (holes), .i (i), .i (events), .i (last), .i (now), .i (n2)])
def FeedHoles_15_L {α : Type} (kx : Nat → List Leaf → Option α) (kr : List Leaf → Option α) : Nat → List Int → List Int → List Int → List Bool → List Int → Int → Bool → Int → Int → Int → Int → Bool → Int → Int → Int → Int → Int → Int → Int → Int → Int → Int → Int → Int → Int → Int → Int → Option α
  | 0, _, _, _, _, _, _, _, _, _, _, _, _, _, _, _, _, _, _, _, _, _, _, _, _, _, _, _ => none
  | n + 1, f_got_k, f_got_v, f_lost_k, f_lost_v, f_closed, f_r, f_any, f_now, f_first, f_newest, f_count, f_event, f_eventAt, f_eventN, f_bytes, f_since, k, n2, first, now, r, apart, gap, holes, i, events, last => FeedHoles_15_B  kx kr (FeedHoles_15_L kx kr n) f_got_k f_got_v f_lost_k f_lost_v f_closed f_r f_any f_now f_first f_newest f_count f_event f_eventAt f_eventN f_bytes f_since k n2 first now r apart gap holes i events last
def FeedHoles_15_F (L15 : ({β : Type} → (Nat → List Leaf → Option β) → (List Leaf → Option β) → Nat → List Int → List Int → List Int → List Bool → List Int → Int → Bool → Int → Int → Int → Int → Bool → Int → Int → Int → Int → Int → Int → Int → Int → Int → Int → Int → Int → Int → Int → Int → Option β)) {α : Type} (n : Nat) (ls : List Leaf) (kx : Nat → List Leaf → Option α) (kr : List Leaf → Option α) : Option α := un_li ls fun f_got_k rr => un_li rr fun f_got_v rr => un_li rr fun f_lost_k rr => un_lb rr fun f_lost_v rr => un_li rr fun f_closed rr => un_i rr fun f_r rr => un_b rr fun f_any rr => un_i rr fun f_now rr => un_i rr fun f_first rr => un_i rr fun f_newest rr => un_i rr fun f_count rr => un_b rr fun f_event rr => un_i rr fun f_eventAt rr => un_i rr fun f_eventN rr => un_i rr fun f_bytes rr => un_i rr fun f_since rr => un_i rr fun k rr => un_i rr fun n2 rr => un_i rr fun first rr => un_i rr fun now rr => un_i rr fun r rr => un_i rr fun apart rr => un_i rr fun gap rr => un_i rr fun holes rr => un_i rr fun i rr => un_i rr fun events rr => un_i rr fun last rr => un_nil rr (L15 kx kr n f_got_k f_got_v f_lost_k f_lost_v f_closed f_r f_any f_now f_first f_newest f_count f_event f_eventAt f_eventN f_bytes f_since k n2 first now r apart gap holes i events last)
def FeedHoles_12_B (L15 : ({β : Type} → (Nat → List Leaf → Option β) → (List Leaf → Option β) → Nat → List Int → List Int → List Int → List Bool → List Int → Int → Bool → Int → Int → Int → Int → Bool → Int → Int → Int → Int → Int → Int → Int → Int → Int → Int → Int → Int → Int → Int → Int → Option β)) {α : Type} (kx : Nat → List Leaf → Option α) (kr : List Leaf → Option α) (again : List Int → List Int → List Int → List Bool → List Int → Int → Bool → Int → Int → Int → Int → Bool → Int → Int → Int → Int → Int → Int → Int → Int → Int → Int → Int → Int → Int → Int → Option α) (f_got_k : List Int) (f_got_v : List Int) (f_lost_k : List Int) (f_lost_v : List Bool) (f_closed : List Int) (f_r : Int) (f_any : Bool) (f_now : Int) (f_first : Int) (f_newest : Int) (f_count : Int) (f_event : Bool) (f_eventAt : Int) (f_eventN : Int) (f_bytes : Int) (f_since : Int) (n2 : Int) (first : Int) (now : Int) (i : Int) (events : Int) (r : Int) (last : Int) (apart : Int) (gap : Int) (holes : Int) : Option α :=
  br (decide (i < holes))
    (chk (decide (Int.ofNat (List.length f_closed) = Int.ofNat (List.length f_closed)) && true && true) <|
     L15
       (fun i4966 r4967 =>
        br (Nat.beq 2 i4966)
          (un_li r4967 fun x4968 r4969 =>
           un_li r4969 fun x4970 r4971 =>
           un_li r4971 fun x4972 r4973 =>
           un_lb r4973 fun x4974 r4975 =>
           un_li r4975 fun x4976 r4977 =>
           un_i r4977 fun x4978 r4979 =>
           un_b r4979 fun x4980 r4981 =>
           un_i r4981 fun x4982 r4983 =>
           un_i r4983 fun x4984 r4985 =>
           un_i r4985 fun x4986 r4987 =>
           un_i r4987 fun x4988 r4989 =>
           un_b r4989 fun x4990 r4991 =>
           un_i r4991 fun x4992 r4993 =>
           un_i r4993 fun x4994 r4995 =>
           un_i r4995 fun x4996 r4997 =>
           un_i r4997 fun x4998 r4999 =>
           un_i r4999 fun x5000 r5001 =>
           un_i r5001 fun x5002 r5003 =>
           un_i r5003 fun x5004 r5005 =>
           un_i r5005 fun x5006 r5007 =>
           un_i r5007 fun x5008 r5009 =>
           un_i r5009 fun x5010 r5011 =>
           un_i r5011 fun x5012 r5013 =>
           un_i r5013 fun x5014 r5015 =>
           un_i r5015 fun x5016 r5017 =>
           un_i r5017 fun x5018 r5019 =>
           un_nil r5019 <|
           one (addI .i64 x5018 1) fun x5020 =>
           one (addI .i64 x5016 x5004) fun x5021 =>
           one (addI .i64 x5014 x5002) fun x5022 =>
           br (decide (x5021 > x5022))
             (one (addI .i64 x5012 1) fun x5023 =>
              one (addI .i64 x5010 1) fun x5024 =>
              chk (decide (Int.ofNat (List.length x4976) = Int.ofNat (List.length x4976)) && true && true) <|
              again (x4968) (x4970) (x4972) (x4974) (x4976) (x4978) (x4980) (x4982) (x4984) (x4986) (x4988) (x4990) (x4992) (x4994) (x4996) (x4998) (x5020) (x5000) (x5021) (x5024) (x5023) (x5002) (x5021) (x5004) (x5006) (x5008))
             (br (x5010 == 0)
                (one (addI .i64 x5012 1) fun x5025 =>
                 one (addI .i64 x5010 1) fun x5026 =>
                 chk (decide (Int.ofNat (List.length x4976) = Int.ofNat (List.length x4976)) && true && true) <|
                 again (x4968) (x4970) (x4972) (x4974) (x4976) (x4978) (x4980) (x4982) (x4984) (x4986) (x4988) (x4990) (x4992) (x4994) (x4996) (x4998) (x5020) (x5000) (x5021) (x5026) (x5025) (x5002) (x5021) (x5004) (x5006) (x5008))
                (one (addI .i64 x5010 1) fun x5027 =>
                 chk (decide (Int.ofNat (List.length x4976) = Int.ofNat (List.length x4976)) && true && true) <|
                 again (x4968) (x4970) (x4972) (x4974) (x4976) (x4978) (x4980) (x4982) (x4984) (x4986) (x4988) (x4990) (x4992) (x4994) (x4996) (x4998) (x5020) (x5000) (x5021) (x5027) (x5012) (x5002) (x5014) (x5004) (x5006) (x5008))))
          (none))
       (fun r5028 =>
        un_nil r5028 <|
        kr [])
       top (f_got_k) (f_got_v) (f_lost_k) (f_lost_v) (f_closed) (f_r) (f_any) (f_now) (f_first) (f_newest) (f_count) (f_event) (f_eventAt) (f_eventN) (f_bytes) (f_since) (0) (n2) (first) (now) (r) (apart) (gap) (holes) (i) (events) (last))
    (chk (decide (Int.ofNat (List.length f_closed) = Int.ofNat (List.length f_closed)) && true && true) <|
     kx 0 [.li (f_got_k), .li (f_got_v), .li (f_lost_k), .lb (f_lost_v), .li (f_closed), .i (f_r), .b (f_any), .i (f_now), .i (f_first), .i (f_newest), .i (f_count), .b (f_event), .i (f_eventAt), .i (f_eventN), .i (f_bytes), .i (f_since), .i (n2), .i (first), .i (now), .i (events), .i (gap), .i (holes)])
def FeedHoles_12_L {α : Type} (kx : Nat → List Leaf → Option α) (kr : List Leaf → Option α) : Nat → List Int → List Int → List Int → List Bool → List Int → Int → Bool → Int → Int → Int → Int → Bool → Int → Int → Int → Int → Int → Int → Int → Int → Int → Int → Int → Int → Int → Int → Option α
  | 0, _, _, _, _, _, _, _, _, _, _, _, _, _, _, _, _, _, _, _, _, _, _, _, _, _, _ => none
  | n + 1, f_got_k, f_got_v, f_lost_k, f_lost_v, f_closed, f_r, f_any, f_now, f_first, f_newest, f_count, f_event, f_eventAt, f_eventN, f_bytes, f_since, n2, first, now, i, events, r, last, apart, gap, holes => FeedHoles_12_B @FeedHoles_15_L kx kr (FeedHoles_12_L kx kr n) f_got_k f_got_v f_lost_k f_lost_v f_closed f_r f_any f_now f_first f_newest f_count f_event f_eventAt f_eventN f_bytes f_since n2 first now i events r last apart gap holes
def FeedHoles_12_F (L12 : ({β : Type} → (Nat → List Leaf → Option β) → (List Leaf → Option β) → Nat → List Int → List Int → List Int → List Bool → List Int → Int → Bool → Int → Int → Int → Int → Bool → Int → Int → Int → Int → Int → Int → Int → Int → Int → Int → Int → Int → Int → Int → Option β)) {α : Type} (n : Nat) (ls : List Leaf) (kx : Nat → List Leaf → Option α) (kr : List Leaf → Option α) : Option α := un_li ls fun f_got_k rr => un_li rr fun f_got_v rr => un_li rr fun f_lost_k rr => un_lb rr fun f_lost_v rr => un_li rr fun f_closed rr => un_i rr fun f_r rr => un_b rr fun f_any rr => un_i rr fun f_now rr => un_i rr fun f_first rr => un_i rr fun f_newest rr => un_i rr fun f_count rr => un_b rr fun f_event rr => un_i rr fun f_eventAt rr => un_i rr fun f_eventN rr => un_i rr fun f_bytes rr => un_i rr fun f_since rr => un_i rr fun n2 rr => un_i rr fun first rr => un_i rr fun now rr => un_i rr fun i rr => un_i rr fun events rr => un_i rr fun r rr => un_i rr fun last rr => un_i rr fun apart rr => un_i rr fun gap rr => un_i rr fun holes rr => un_nil rr (L12 kx kr n f_got_k f_got_v f_lost_k f_lost_v f_closed f_r f_any f_now f_first f_newest f_count f_event f_eventAt f_eventN f_bytes f_since n2 first now i events r last apart gap holes)
def FeedHoles_25_B  {α : Type} (kx : Nat → List Leaf → Option α) (kr : List Leaf → Option α) (again : List Int → List Int → List Int → List Bool → List Int → Int → Bool → Int → Int → Int → Int → Bool → Int → Int → Int → Int → Int → Int → Int → Int → Int → Int → Int → Option α) (f_got_k : List Int) (f_got_v : List Int) (f_lost_k : List Int) (f_lost_v : List Bool) (f_closed : List Int) (f_r : Int) (f_any : Bool) (f_now : Int) (f_first : Int) (f_newest : Int) (f_count : Int) (f_event : Bool) (f_eventAt : Int) (f_eventN : Int) (f_bytes : Int) (f_since : Int) (k : Int) (n2 : Int) (first : Int) (now : Int) (events : Int) (gap : Int) (holes : Int) : Option α :=
  br (decide (k < 5))
    (out (ref_Step first n2) fun r5159 =>
     un_i r5159 fun x5160 r5161 =>
     un_nil r5161 <|
     chk (decide (Int.ofNat (List.length f_closed) = Int.ofNat (List.length f_closed)) && true && true) <|
     out (feed_Put f_got_k f_got_v f_lost_k f_lost_v f_closed f_r f_any f_now f_first f_newest f_count f_event f_eventAt f_eventN f_bytes f_since now x5160 1) fun r5162 =>
     un_li r5162 fun x5163 r5164 =>
     un_li r5164 fun x5165 r5166 =>
     un_li r5166 fun x5167 r5168 =>
     un_lb r5168 fun x5169 r5170 =>
     un_li r5170 fun x5171 r5172 =>
     un_i r5172 fun x5173 r5174 =>
     un_b r5174 fun x5175 r5176 =>
     un_i r5176 fun x5177 r5178 =>
     un_i r5178 fun x5179 r5180 =>
     un_i r5180 fun x5181 r5182 =>
     un_i r5182 fun x5183 r5184 =>
     un_b r5184 fun x5185 r5186 =>
     un_i r5186 fun x5187 r5188 =>
     un_i r5188 fun x5189 r5190 =>
     un_i r5190 fun x5191 r5192 =>
     un_i r5192 fun x5193 r5194 =>
     un_b r5194 fun x5195 r5196 =>
     un_nil r5196 <|
     one (addI .i64 n2 1) fun x5197 =>
     one (addI .i64 k 1) fun x5198 =>
     chk (decide (Int.ofNat (List.length x5171) = Int.ofNat (List.length x5171)) && true && true) <|
     again (x5163) (x5165) (x5167) (x5169) (x5171) (x5173) (x5175) (x5177) (x5179) (x5181) (x5183) (x5185) (x5187) (x5189) (x5191) (x5193) (x5198) (x5197) (first) (now) (events) (gap) (holes))
    (chk (decide (Int.ofNat (List.length f_closed) = Int.ofNat (List.length f_closed)) && true && true) <|
     kx 4 [.li (f_got_k), .li (f_got_v), .li (f_lost_k), .lb (f_lost_v), .li (f_closed), .i (f_r), .b (f_any), .i (f_now), .i (f_first), .i (f_newest), .i (f_count), .b (f_event), .i (f_eventAt), .i (f_eventN), .i (f_bytes), .i (f_since), .i (events), .i (gap), .i (holes)])
def FeedHoles_25_L {α : Type} (kx : Nat → List Leaf → Option α) (kr : List Leaf → Option α) : Nat → List Int → List Int → List Int → List Bool → List Int → Int → Bool → Int → Int → Int → Int → Bool → Int → Int → Int → Int → Int → Int → Int → Int → Int → Int → Int → Option α
  | 0, _, _, _, _, _, _, _, _, _, _, _, _, _, _, _, _, _, _, _, _, _, _, _ => none
  | n + 1, f_got_k, f_got_v, f_lost_k, f_lost_v, f_closed, f_r, f_any, f_now, f_first, f_newest, f_count, f_event, f_eventAt, f_eventN, f_bytes, f_since, k, n2, first, now, events, gap, holes => FeedHoles_25_B  kx kr (FeedHoles_25_L kx kr n) f_got_k f_got_v f_lost_k f_lost_v f_closed f_r f_any f_now f_first f_newest f_count f_event f_eventAt f_eventN f_bytes f_since k n2 first now events gap holes
def FeedHoles_25_F (L25 : ({β : Type} → (Nat → List Leaf → Option β) → (List Leaf → Option β) → Nat → List Int → List Int → List Int → List Bool → List Int → Int → Bool → Int → Int → Int → Int → Bool → Int → Int → Int → Int → Int → Int → Int → Int → Int → Int → Int → Option β)) {α : Type} (n : Nat) (ls : List Leaf) (kx : Nat → List Leaf → Option α) (kr : List Leaf → Option α) : Option α := un_li ls fun f_got_k rr => un_li rr fun f_got_v rr => un_li rr fun f_lost_k rr => un_lb rr fun f_lost_v rr => un_li rr fun f_closed rr => un_i rr fun f_r rr => un_b rr fun f_any rr => un_i rr fun f_now rr => un_i rr fun f_first rr => un_i rr fun f_newest rr => un_i rr fun f_count rr => un_b rr fun f_event rr => un_i rr fun f_eventAt rr => un_i rr fun f_eventN rr => un_i rr fun f_bytes rr => un_i rr fun f_since rr => un_i rr fun k rr => un_i rr fun n2 rr => un_i rr fun first rr => un_i rr fun now rr => un_i rr fun events rr => un_i rr fun gap rr => un_i rr fun holes rr => un_nil rr (L25 kx kr n f_got_k f_got_v f_lost_k f_lost_v f_closed f_r f_any f_now f_first f_newest f_count f_event f_eventAt f_eventN f_bytes f_since k n2 first now events gap holes)
def FeedHoles_d (L12 : ({β : Type} → (Nat → List Leaf → Option β) → (List Leaf → Option β) → Nat → List Int → List Int → List Int → List Bool → List Int → Int → Bool → Int → Int → Int → Int → Bool → Int → Int → Int → Int → Int → Int → Int → Int → Int → Int → Int → Int → Int → Int → Option β)) (L25 : ({β : Type} → (Nat → List Leaf → Option β) → (List Leaf → Option β) → Nat → List Int → List Int → List Int → List Bool → List Int → Int → Bool → Int → Int → Int → Int → Bool → Int → Int → Int → Int → Int → Int → Int → Int → Int → Int → Int → Option β)) (first : Int) (gap : Int) (holes : Int) (apart : Int) : Option (List Leaf) :=
  one (remI .i64 gap 20) fun x5199 =>
  one (addI .i64 x5199 20) fun x5200 =>
  one (remI .i64 x5200 20) fun x5201 =>
  one (addI .i64 4 x5201) fun x5202 =>
  one (remI .i64 holes 8) fun x5203 =>
  one (addI .i64 x5203 8) fun x5204 =>
  one (remI .i64 x5204 8) fun x5205 =>
  one (addI .i64 1 x5205) fun x5206 =>
  one (minI apart 5000) fun x5207 =>
  one (maxI 0 x5207) fun x5208 =>
  out (feed_New 1000) fun r5209 =>
  un_li r5209 fun x5210 r5211 =>
  un_li r5211 fun x5212 r5213 =>
  un_li r5213 fun x5214 r5215 =>
  un_lb r5215 fun x5216 r5217 =>
  un_li r5217 fun x5218 r5219 =>
  un_i r5219 fun x5220 r5221 =>
  un_b r5221 fun x5222 r5223 =>
  un_i r5223 fun x5224 r5225 =>
  un_i r5225 fun x5226 r5227 =>
  un_i r5227 fun x5228 r5229 =>
  un_i r5229 fun x5230 r5231 =>
  un_b r5231 fun x5232 r5233 =>
  un_i r5233 fun x5234 r5235 =>
  un_i r5235 fun x5236 r5237 =>
  un_i r5237 fun x5238 r5239 =>
  un_i r5239 fun x5240 r5241 =>
  un_nil r5241 <|
  chk (decide (Int.ofNat (List.length x5218) = Int.ofNat (List.length x5218)) && true && true) <|
  L12
    (fun i5242 r5243 =>
     br (Nat.beq 0 i5242)
       (un_li r5243 fun x5244 r5245 =>
        un_li r5245 fun x5246 r5247 =>
        un_li r5247 fun x5248 r5249 =>
        un_lb r5249 fun x5250 r5251 =>
        un_li r5251 fun x5252 r5253 =>
        un_i r5253 fun x5254 r5255 =>
        un_b r5255 fun x5256 r5257 =>
        un_i r5257 fun x5258 r5259 =>
        un_i r5259 fun x5260 r5261 =>
        un_i r5261 fun x5262 r5263 =>
        un_i r5263 fun x5264 r5265 =>
        un_b r5265 fun x5266 r5267 =>
        un_i r5267 fun x5268 r5269 =>
        un_i r5269 fun x5270 r5271 =>
        un_i r5271 fun x5272 r5273 =>
        un_i r5273 fun x5274 r5275 =>
        un_i r5275 fun x5276 r5277 =>
        un_i r5277 fun x5278 r5279 =>
        un_i r5279 fun x5280 r5281 =>
        un_i r5281 fun x5282 r5283 =>
        un_i r5283 fun x5284 r5285 =>
        un_i r5285 fun x5286 r5287 =>
        un_nil r5287 <|
        chk (decide (Int.ofNat (List.length x5252) = Int.ofNat (List.length x5252)) && true && true) <|
        L25
          (fun i5288 r5289 =>
           br (Nat.beq 4 i5288)
             (un_li r5289 fun x5290 r5291 =>
              un_li r5291 fun x5292 r5293 =>
              un_li r5293 fun x5294 r5295 =>
              un_lb r5295 fun x5296 r5297 =>
              un_li r5297 fun x5298 r5299 =>
              un_i r5299 fun x5300 r5301 =>
              un_b r5301 fun x5302 r5303 =>
              un_i r5303 fun x5304 r5305 =>
              un_i r5305 fun x5306 r5307 =>
              un_i r5307 fun x5308 r5309 =>
              un_i r5309 fun x5310 r5311 =>
              un_b r5311 fun x5312 r5313 =>
              un_i r5313 fun x5314 r5315 =>
              un_i r5315 fun x5316 r5317 =>
              un_i r5317 fun x5318 r5319 =>
              un_i r5319 fun x5320 r5321 =>
              un_i r5321 fun x5322 r5323 =>
              un_i r5323 fun x5324 r5325 =>
              un_i r5325 fun x5326 r5327 =>
              un_nil r5327 <|
              chk (decide (Int.ofNat (List.length x5298) = Int.ofNat (List.length x5298)) && true && true) <|
              out (feed_Intervals x5290 x5292 x5294 x5296 x5298 x5300 x5302 x5304 x5306 x5308 x5310 x5312 x5314 x5316 x5318 x5320) fun r5328 =>
              un_li r5328 fun x5329 r5330 =>
              un_li r5330 fun x5331 r5332 =>
              un_li r5332 fun x5333 r5334 =>
              un_lb r5334 fun x5335 r5336 =>
              un_li r5336 fun x5337 r5338 =>
              un_li r5338 fun x5339 r5340 =>
              un_i r5340 fun x5341 r5342 =>
              un_b r5342 fun x5343 r5344 =>
              un_i r5344 fun x5345 r5346 =>
              un_i r5346 fun x5347 r5348 =>
              un_i r5348 fun x5349 r5350 =>
              un_i r5350 fun x5351 r5352 =>
              un_b r5352 fun x5353 r5354 =>
              un_i r5354 fun x5355 r5356 =>
              un_i r5356 fun x5357 r5358 =>
              un_i r5358 fun x5359 r5360 =>
              un_i r5360 fun x5361 r5362 =>
              un_i r5362 fun x5363 r5364 =>
              un_nil r5364 <|
              chk (decide (Int.ofNat (List.length x5337) = Int.ofNat (List.length x5337)) && true && true) <|
              out (feed_Lost x5329 x5331 x5333 x5335 x5337 x5341 x5343 x5345 x5347 x5349 x5351 x5353 x5355 x5357 x5359 x5361) fun r5365 =>
              un_i r5365 fun x5366 r5367 =>
              un_nil r5367 <|
              br (x5366 == x5326)
                (one (Int.ofNat (List.length x5339)) fun x5368 =>
                 one (minI x5322 8) fun x5369 =>
                 br (x5368 == x5369)
                   (one (Int.ofNat (List.length x5339)) fun x5370 =>
                    one (subI .i64 x5370 1) fun x5371 =>
                    chk (decide ((0 : Int) ≤ x5371 ∧ x5371 < Int.ofNat (List.length x5339))) <|
                    chk (decide ((0 : Int) ≤ x5371 ∧ x5371 < Int.ofNat (List.length x5339))) <|
                    one (wrapI .u64 x5324) fun x5372 =>
                    br (List.getD x5339 (Int.toNat x5371) 0 == x5372)
                      (some [.b (true)])
                      (some [.b (decide (x5322 > 8))]))
                   (some [.b (false)]))
                (some [.b (false)]))
             (none))
          (fun r5373 =>
           un_nil r5373 <|
           none)
          top (x5244) (x5246) (x5248) (x5250) (x5252) (x5254) (x5256) (x5258) (x5260) (x5262) (x5264) (x5266) (x5268) (x5270) (x5272) (x5274) (0) (x5276) (x5278) (x5280) (x5282) (x5284) (x5286))
       (none))
    (fun r5374 =>
     un_nil r5374 <|
     none)
    top (x5210) (x5212) (x5214) (x5216) (x5218) (x5220) (x5222) (x5224) (x5226) (x5228) (x5230) (x5232) (x5234) (x5236) (x5238) (x5240) (0) (first) (0) (0) (0) (1000) (-1152921504606846976) (x5208) (x5202) (x5206)
def FeedHoles (first : Int) (gap : Int) (holes : Int) (apart : Int) : Option (List Leaf) := FeedHoles_d @FeedHoles_12_L @FeedHoles_25_L first gap holes apart
end Go.Sx.T

