import Derived.Test.YtabdgalicaifhaaGreatDoorYFgSpec
import Derived.Test.YtabdgalicaifhaaGreatDoorYFixSpec
set_option linter.all false
namespace Go.Sx.T
open Go Go.Sx
def GotForget_8_B  {α : Type} (kx : Nat → List Leaf → Option α) (kr : List Leaf → Option α) (again : List Int → List Int → Int → Bool → Int → Bool → Int → Int → Int → Int → Option α) (g_l_k : List Int) (g_l_v : List Int) (g_newest : Int) (g_any : Bool) (g_forgotten : Int) (g_forgot : Bool) (i : Int) (first : Int) (n2 : Int) (at2 : Int) : Option α :=
  br (decide (i < n2))
    (out (ref_Step first i) fun r2920 =>
     un_i r2920 fun x2921 r2922 =>
     un_nil r2922 <|
     one (remI .i64 i 2) fun x2923 =>
     out (got_Put g_l_k g_l_v g_newest g_any g_forgotten g_forgot x2921 (x2923 == 1)) fun r2924 =>
     un_li r2924 fun x2925 r2926 =>
     un_li r2926 fun x2927 r2928 =>
     un_i r2928 fun x2929 r2930 =>
     un_b r2930 fun x2931 r2932 =>
     un_i r2932 fun x2933 r2934 =>
     un_b r2934 fun x2935 r2936 =>
     un_b r2936 fun x2937 r2938 =>
     un_nil r2938 <|
     one (addI .i64 i 1) fun x2939 =>
     again (x2925) (x2927) (x2929) (x2931) (x2933) (x2935) (x2939) (first) (n2) (at2))
    (kx 0 [.li (g_l_k), .li (g_l_v), .i (g_newest), .b (g_any), .i (g_forgotten), .b (g_forgot), .i (first), .i (n2), .i (at2)])
def GotForget_8_L {α : Type} (kx : Nat → List Leaf → Option α) (kr : List Leaf → Option α) : Nat → List Int → List Int → Int → Bool → Int → Bool → Int → Int → Int → Int → Option α
  | 0, _, _, _, _, _, _, _, _, _, _ => none
  | n + 1, g_l_k, g_l_v, g_newest, g_any, g_forgotten, g_forgot, i, first, n2, at2 => GotForget_8_B  kx kr (GotForget_8_L kx kr n) g_l_k g_l_v g_newest g_any g_forgotten g_forgot i first n2 at2
def GotForget_8_F (L8 : ({β : Type} → (Nat → List Leaf → Option β) → (List Leaf → Option β) → Nat → List Int → List Int → Int → Bool → Int → Bool → Int → Int → Int → Int → Option β)) {α : Type} (n : Nat) (ls : List Leaf) (kx : Nat → List Leaf → Option α) (kr : List Leaf → Option α) : Option α := un_li ls fun g_l_k rr => un_li rr fun g_l_v rr => un_i rr fun g_newest rr => un_b rr fun g_any rr => un_i rr fun g_forgotten rr => un_b rr fun g_forgot rr => un_i rr fun i rr => un_i rr fun first rr => un_i rr fun n2 rr => un_i rr fun at2 rr => un_nil rr (L8 kx kr n g_l_k g_l_v g_newest g_any g_forgotten g_forgot i first n2 at2)
def GotForget_13_B  {α : Type} (kx : Nat → List Leaf → Option α) (kr : List Leaf → Option α) (again : List Int → List Int → Int → Bool → Int → Bool → Int → Int → Int → Int → Option α) (g_l_k : List Int) (g_l_v : List Int) (g_newest : Int) (g_any : Bool) (g_forgotten : Int) (g_forgot : Bool) (i : Int) (first : Int) (n2 : Int) (at2 : Int) : Option α :=
  br (decide (i < n2))
    (out (ref_Step first i) fun r3074 =>
     un_i r3074 fun x3075 r3076 =>
     un_nil r3076 <|
     out (got_Has g_l_k g_l_v g_newest g_any g_forgotten g_forgot x3075) fun r3077 =>
     un_b r3077 fun x3078 r3079 =>
     un_nil r3079 <|
     br (decide (i > at2))
       (br (!x3078 == true)
          (kr [.b (false)])
          (out (got_Put g_l_k g_l_v g_newest g_any g_forgotten g_forgot x3075 false) fun r3080 =>
           un_li r3080 fun x3081 r3082 =>
           un_li r3082 fun x3083 r3084 =>
           un_i r3084 fun x3085 r3086 =>
           un_b r3086 fun x3087 r3088 =>
           un_i r3088 fun x3089 r3090 =>
           un_b r3090 fun x3091 r3092 =>
           un_b r3092 fun x3093 r3094 =>
           un_nil r3094 <|
           br (x3093)
             (kr [.b (false)])
             (one (subI .i64 (-1) i) fun x3095 =>
              out (ref_Step first x3095) fun r3096 =>
              un_i r3096 fun x3097 r3098 =>
              un_nil r3098 <|
              out (got_Put x3081 x3083 x3085 x3087 x3089 x3091 x3097 false) fun r3099 =>
              un_li r3099 fun x3100 r3101 =>
              un_li r3101 fun x3102 r3103 =>
              un_i r3103 fun x3104 r3105 =>
              un_b r3105 fun x3106 r3107 =>
              un_i r3107 fun x3108 r3109 =>
              un_b r3109 fun x3110 r3111 =>
              un_b r3111 fun x3112 r3113 =>
              un_nil r3113 <|
              br (x3112)
                (kr [.b (false)])
                (one (addI .i64 i 1) fun x3114 =>
                 again (x3100) (x3102) (x3104) (x3106) (x3108) (x3110) (x3114) (first) (n2) (at2)))))
       (one (subI .i64 n2 1) fun x3115 =>
        br (!x3078 == (i == x3115))
          (kr [.b (false)])
          (out (got_Put g_l_k g_l_v g_newest g_any g_forgotten g_forgot x3075 false) fun r3116 =>
           un_li r3116 fun x3117 r3118 =>
           un_li r3118 fun x3119 r3120 =>
           un_i r3120 fun x3121 r3122 =>
           un_b r3122 fun x3123 r3124 =>
           un_i r3124 fun x3125 r3126 =>
           un_b r3126 fun x3127 r3128 =>
           un_b r3128 fun x3129 r3130 =>
           un_nil r3130 <|
           br (x3129)
             (kr [.b (false)])
             (one (subI .i64 (-1) i) fun x3131 =>
              out (ref_Step first x3131) fun r3132 =>
              un_i r3132 fun x3133 r3134 =>
              un_nil r3134 <|
              out (got_Put x3117 x3119 x3121 x3123 x3125 x3127 x3133 false) fun r3135 =>
              un_li r3135 fun x3136 r3137 =>
              un_li r3137 fun x3138 r3139 =>
              un_i r3139 fun x3140 r3141 =>
              un_b r3141 fun x3142 r3143 =>
              un_i r3143 fun x3144 r3145 =>
              un_b r3145 fun x3146 r3147 =>
              un_b r3147 fun x3148 r3149 =>
              un_nil r3149 <|
              br (x3148)
                (kr [.b (false)])
                (one (addI .i64 i 1) fun x3150 =>
                 again (x3136) (x3138) (x3140) (x3142) (x3144) (x3146) (x3150) (first) (n2) (at2))))))
    (kx 2 [.li (g_l_k), .li (g_l_v), .i (g_newest), .b (g_any), .i (g_forgotten), .b (g_forgot), .i (at2), .i (n2), .i (first)])
def GotForget_13_L {α : Type} (kx : Nat → List Leaf → Option α) (kr : List Leaf → Option α) : Nat → List Int → List Int → Int → Bool → Int → Bool → Int → Int → Int → Int → Option α
  | 0, _, _, _, _, _, _, _, _, _, _ => none
  | n + 1, g_l_k, g_l_v, g_newest, g_any, g_forgotten, g_forgot, i, first, n2, at2 => GotForget_13_B  kx kr (GotForget_13_L kx kr n) g_l_k g_l_v g_newest g_any g_forgotten g_forgot i first n2 at2
def GotForget_13_F (L13 : ({β : Type} → (Nat → List Leaf → Option β) → (List Leaf → Option β) → Nat → List Int → List Int → Int → Bool → Int → Bool → Int → Int → Int → Int → Option β)) {α : Type} (n : Nat) (ls : List Leaf) (kx : Nat → List Leaf → Option α) (kr : List Leaf → Option α) : Option α := un_li ls fun g_l_k rr => un_li rr fun g_l_v rr => un_i rr fun g_newest rr => un_b rr fun g_any rr => un_i rr fun g_forgotten rr => un_b rr fun g_forgot rr => un_i rr fun i rr => un_i rr fun first rr => un_i rr fun n2 rr => un_i rr fun at2 rr => un_nil rr (L13 kx kr n g_l_k g_l_v g_newest g_any g_forgotten g_forgot i first n2 at2)
def GotForget_d (L8 : ({β : Type} → (Nat → List Leaf → Option β) → (List Leaf → Option β) → Nat → List Int → List Int → Int → Bool → Int → Bool → Int → Int → Int → Int → Option β)) (L13 : ({β : Type} → (Nat → List Leaf → Option β) → (List Leaf → Option β) → Nat → List Int → List Int → Int → Bool → Int → Bool → Int → Int → Int → Int → Option β)) (first : Int) (n2 : Int) (at2 : Int) : Option (List Leaf) :=
  one (remI .i64 n2 60) fun x3151 =>
  one (addI .i64 x3151 60) fun x3152 =>
  one (remI .i64 x3152 60) fun x3153 =>
  one (addI .i64 2 x3153) fun x3154 =>
  chk (decide (x3154 ≠ 0)) <|
  one (remI .i64 at2 x3154) fun x3155 =>
  one (addI .i64 x3155 x3154) fun x3156 =>
  chk (decide (x3154 ≠ 0)) <|
  one (remI .i64 x3156 x3154) fun x3157 =>
  out (got_New) fun r3158 =>
  un_li r3158 fun x3159 r3160 =>
  un_li r3160 fun x3161 r3162 =>
  un_i r3162 fun x3163 r3164 =>
  un_b r3164 fun x3165 r3166 =>
  un_i r3166 fun x3167 r3168 =>
  un_b r3168 fun x3169 r3170 =>
  un_nil r3170 <|
  L8
    (fun i3171 r3172 =>
     br (Nat.beq 0 i3171)
       (un_li r3172 fun x3173 r3174 =>
        un_li r3174 fun x3175 r3176 =>
        un_i r3176 fun x3177 r3178 =>
        un_b r3178 fun x3179 r3180 =>
        un_i r3180 fun x3181 r3182 =>
        un_b r3182 fun x3183 r3184 =>
        un_i r3184 fun x3185 r3186 =>
        un_i r3186 fun x3187 r3188 =>
        un_i r3188 fun x3189 r3190 =>
        un_nil r3190 <|
        out (ref_Step x3185 x3189) fun r3191 =>
        un_i r3191 fun x3192 r3193 =>
        un_nil r3193 <|
        out (got_Forget x3173 x3175 x3177 x3179 x3181 x3183 x3192) fun r3194 =>
        un_li r3194 fun x3195 r3196 =>
        un_li r3196 fun x3197 r3198 =>
        un_i r3198 fun x3199 r3200 =>
        un_b r3200 fun x3201 r3202 =>
        un_i r3202 fun x3203 r3204 =>
        un_b r3204 fun x3205 r3206 =>
        un_nil r3206 <|
        L13
          (fun i3207 r3208 =>
           br (Nat.beq 2 i3207)
             (un_li r3208 fun x3209 r3210 =>
              un_li r3210 fun x3211 r3212 =>
              un_i r3212 fun x3213 r3214 =>
              un_b r3214 fun x3215 r3216 =>
              un_i r3216 fun x3217 r3218 =>
              un_b r3218 fun x3219 r3220 =>
              un_i r3220 fun x3221 r3222 =>
              un_i r3222 fun x3223 r3224 =>
              un_i r3224 fun x3225 r3226 =>
              un_nil r3226 <|
              out (got_Cells x3209 x3211 x3213 x3215 x3217 x3219) fun r3227 =>
              un_li r3227 fun x3228 r3229 =>
              un_li r3229 fun x3230 r3231 =>
              un_li r3231 fun x3232 r3233 =>
              un_li r3233 fun x3234 r3235 =>
              un_i r3235 fun x3236 r3237 =>
              un_b r3237 fun x3238 r3239 =>
              un_i r3239 fun x3240 r3241 =>
              un_b r3241 fun x3242 r3243 =>
              un_nil r3243 <|
              chk (decide (Int.ofNat (List.length x3232) = Int.ofNat (List.length x3232)) && true) <|
              out (vec_Spread x3232 x3234) fun r3244 =>
              un_li r3244 fun x3245 r3246 =>
              un_nil r3246 <|
              out (got_Newest x3228 x3230 x3236 x3238 x3240 x3242) fun r3247 =>
              un_i r3247 fun x3248 r3249 =>
              un_b r3249 fun x3250 r3251 =>
              un_nil r3251 <|
              br (x3250)
                (one (subI .i64 x3223 1) fun x3252 =>
                 out (ref_Step x3225 x3252) fun r3253 =>
                 un_i r3253 fun x3254 r3255 =>
                 un_nil r3255 <|
                 br (x3248 == x3254)
                   (one (Int.ofNat (List.length x3245)) fun x3256 =>
                    one (subI .i64 x3223 1) fun x3257 =>
                    one (subI .i64 x3257 x3221) fun x3258 =>
                    one (maxI x3258 1) fun x3259 =>
                    some [.b (x3256 == x3259)])
                   (some [.b (false)]))
                (some [.b (false)]))
             (none))
          (fun r3260 =>
           un_b r3260 fun x3261 r3262 =>
           un_nil r3262 <|
           some [.b (x3261)])
          top (x3195) (x3197) (x3199) (x3201) (x3203) (x3205) (0) (x3185) (x3187) (x3189))
       (none))
    (fun r3263 =>
     un_nil r3263 <|
     none)
    top (x3159) (x3161) (x3163) (x3165) (x3167) (x3169) (0) (first) (x3154) (x3157)
def GotForget (first : Int) (n2 : Int) (at2 : Int) : Option (List Leaf) := GotForget_d @GotForget_8_L @GotForget_13_L first n2 at2
end Go.Sx.T

