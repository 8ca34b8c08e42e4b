/- Shows a part of the walk of the law; its conditions stand ahead of each theorem. -/
import Derived.Test.YtecojilckmiobaaGreatDoorPxD
import Derived.Test.YtecojilckmiobaaGreatDoorProg
set_option maxRecDepth 100000


namespace Go.Px.Db
open Go Go.Px Go.Proofs

noncomputable section
noncomputable def tI (u t : TypeInfo) : TyI := ⟨u.desc, t.size, t.bytes, t.zero.getD undef⟩
noncomputable def tyC0 : Nat → Option TyI
  | 1 => some (tI Tryz.t1 Tryz.t1)
  | 2 => some (tI Tryz.t2 Tryz.t2)
  | 3 => some (tI Tryz.t3 Tryz.t3)
  | 4 => some (tI Tryz.t4 Tryz.t4)
  | 5 => some (tI Tryz.t5 Tryz.t5)
  | 6 => some (tI Tryz.t5 Tryz.t6)
  | 7 => some (tI Tryz.t7 Tryz.t7)
  | 8 => some (tI Tryz.t7 Tryz.t8)
  | 9 => some (tI Tryz.t9 Tryz.t9)
  | 10 => some (tI Tryz.t9 Tryz.t10)
  | 11 => some (tI Tryz.t9 Tryz.t11)
  | 12 => some (tI Tryz.t12 Tryz.t12)
  | _ => none
noncomputable def tyC1 : Nat → Option TyI
  | 13 => some (tI Tryz.t13 Tryz.t13)
  | 14 => some (tI Tryz.t13 Tryz.t14)
  | 15 => some (tI Tryz.t15 Tryz.t15)
  | 16 => some (tI Tryz.t16 Tryz.t16)
  | 17 => some (tI Tryz.t17 Tryz.t17)
  | 18 => some (tI Tryz.t18 Tryz.t18)
  | 19 => some (tI Tryz.t18 Tryz.t19)
  | 20 => some (tI Tryz.t20 Tryz.t20)
  | 21 => some (tI Tryz.t21 Tryz.t21)
  | 22 => some (tI Tryz.t22 Tryz.t22)
  | 23 => some (tI Tryz.t22 Tryz.t23)
  | 24 => some (tI Tryz.t24 Tryz.t24)
  | _ => none
noncomputable def tyC2 : Nat → Option TyI
  | 25 => some (tI Tryz.t25 Tryz.t25)
  | 26 => some (tI Tryz.t26 Tryz.t26)
  | 27 => some (tI Tryz.t26 Tryz.t27)
  | 28 => some (tI Tryz.t28 Tryz.t28)
  | 29 => some (tI Tryz.t29 Tryz.t29)
  | 30 => some (tI Tryz.t30 Tryz.t30)
  | 31 => some (tI Tryz.t30 Tryz.t31)
  | 32 => some (tI Tryz.t32 Tryz.t32)
  | 33 => some (tI Tryz.t32 Tryz.t33)
  | 34 => some (tI Tryz.t34 Tryz.t34)
  | 35 => some (tI Tryz.t34 Tryz.t35)
  | 36 => some (tI Tryz.t36 Tryz.t36)
  | _ => none
noncomputable def tyC3 : Nat → Option TyI
  | 37 => some (tI Tryz.t36 Tryz.t37)
  | 38 => some (tI Tryz.t38 Tryz.t38)
  | 39 => some (tI Tryz.t38 Tryz.t39)
  | 40 => some (tI Tryz.t40 Tryz.t40)
  | 41 => some (tI Tryz.t41 Tryz.t41)
  | 42 => some (tI Tryz.t3 Tryz.t42)
  | 43 => some (tI Tryz.t43 Tryz.t43)
  | 44 => some (tI Tryz.t44 Tryz.t44)
  | 45 => some (tI Tryz.t45 Tryz.t45)
  | 46 => some (tI Tryz.t46 Tryz.t46)
  | 47 => some (tI Tryz.t47 Tryz.t47)
  | 48 => some (tI Tryz.t48 Tryz.t48)
  | _ => none
noncomputable def tyC4 : Nat → Option TyI
  | 49 => some (tI Tryz.t48 Tryz.t49)
  | 51 => some (tI Tryz.t51 Tryz.t51)
  | 52 => some (tI Tryz.t52 Tryz.t52)
  | 53 => some (tI Tryz.t52 Tryz.t53)
  | 55 => some (tI Tryz.t55 Tryz.t55)
  | 56 => some (tI Tryz.t56 Tryz.t56)
  | 57 => some (tI Tryz.t57 Tryz.t57)
  | 58 => some (tI Tryz.t58 Tryz.t58)
  | 59 => some (tI Tryz.t59 Tryz.t59)
  | 60 => some (tI Tryz.t60 Tryz.t60)
  | 61 => some (tI Tryz.t61 Tryz.t61)
  | 62 => some (tI Tryz.t62 Tryz.t62)
  | _ => none
noncomputable def tyC5 : Nat → Option TyI
  | 63 => some (tI Tryz.t63 Tryz.t63)
  | 64 => some (tI Tryz.t64 Tryz.t64)
  | 65 => some (tI Tryz.t65 Tryz.t65)
  | 66 => some (tI Tryz.t66 Tryz.t66)
  | 67 => some (tI Tryz.t67 Tryz.t67)
  | 68 => some (tI Tryz.t68 Tryz.t68)
  | 69 => some (tI Tryz.t68 Tryz.t69)
  | 70 => some (tI Tryz.t70 Tryz.t70)
  | 71 => some (tI Tryz.t71 Tryz.t71)
  | 72 => some (tI Tryz.t72 Tryz.t72)
  | 73 => some (tI Tryz.t73 Tryz.t73)
  | 74 => some (tI Tryz.t73 Tryz.t74)
  | _ => none
noncomputable def tyC6 : Nat → Option TyI
  | 75 => some (tI Tryz.t75 Tryz.t75)
  | 76 => some (tI Tryz.t76 Tryz.t76)
  | 77 => some (tI Tryz.t77 Tryz.t77)
  | 78 => some (tI Tryz.t78 Tryz.t78)
  | 79 => some (tI Tryz.t79 Tryz.t79)
  | 80 => some (tI Tryz.t80 Tryz.t80)
  | 81 => some (tI Tryz.t81 Tryz.t81)
  | 82 => some (tI Tryz.t82 Tryz.t82)
  | 83 => some (tI Tryz.t83 Tryz.t83)
  | 84 => some (tI Tryz.t84 Tryz.t84)
  | 85 => some (tI Tryz.t85 Tryz.t85)
  | 87 => some (tI Tryz.t87 Tryz.t87)
  | _ => none
noncomputable def tyC7 : Nat → Option TyI
  | 88 => some (tI Tryz.t88 Tryz.t88)
  | 90 => some (tI Tryz.t90 Tryz.t90)
  | 92 => some (tI Tryz.t92 Tryz.t92)
  | 93 => some (tI Tryz.t93 Tryz.t93)
  | 94 => some (tI Tryz.t94 Tryz.t94)
  | 95 => some (tI Tryz.t95 Tryz.t95)
  | 96 => some (tI Tryz.t95 Tryz.t96)
  | 97 => some (tI Tryz.t97 Tryz.t97)
  | 98 => some (tI Tryz.t98 Tryz.t98)
  | 99 => some (tI Tryz.t99 Tryz.t99)
  | 100 => some (tI Tryz.t100 Tryz.t100)
  | 101 => some (tI Tryz.t101 Tryz.t101)
  | _ => none
noncomputable def tyC8 : Nat → Option TyI
  | 102 => some (tI Tryz.t102 Tryz.t102)
  | 103 => some (tI Tryz.t103 Tryz.t103)
  | 104 => some (tI Tryz.t104 Tryz.t104)
  | 105 => some (tI Tryz.t105 Tryz.t105)
  | 106 => some (tI Tryz.t106 Tryz.t106)
  | 107 => some (tI Tryz.t107 Tryz.t107)
  | 108 => some (tI Tryz.t108 Tryz.t108)
  | 109 => some (tI Tryz.t109 Tryz.t109)
  | 110 => some (tI Tryz.t109 Tryz.t110)
  | 111 => some (tI Tryz.t111 Tryz.t111)
  | 112 => some (tI Tryz.t112 Tryz.t112)
  | 113 => some (tI Tryz.t112 Tryz.t113)
  | _ => none
noncomputable def tyC9 : Nat → Option TyI
  | 114 => some (tI Tryz.t114 Tryz.t114)
  | 115 => some (tI Tryz.t115 Tryz.t115)
  | 116 => some (tI Tryz.t115 Tryz.t116)
  | 117 => some (tI Tryz.t117 Tryz.t117)
  | 118 => some (tI Tryz.t117 Tryz.t118)
  | 119 => some (tI Tryz.t119 Tryz.t119)
  | 120 => some (tI Tryz.t120 Tryz.t120)
  | 121 => some (tI Tryz.t120 Tryz.t121)
  | 122 => some (tI Tryz.t122 Tryz.t122)
  | 123 => some (tI Tryz.t123 Tryz.t123)
  | 125 => some (tI Tryz.t125 Tryz.t125)
  | 126 => some (tI Tryz.t125 Tryz.t126)
  | _ => none
noncomputable def tyC10 : Nat → Option TyI
  | 127 => some (tI Tryz.t127 Tryz.t127)
  | 128 => some (tI Tryz.t128 Tryz.t128)
  | 129 => some (tI Tryz.t129 Tryz.t129)
  | 131 => some (tI Tryz.t131 Tryz.t131)
  | 133 => some (tI Tryz.t133 Tryz.t133)
  | 134 => some (tI Tryz.t134 Tryz.t134)
  | 136 => some (tI Tryz.t136 Tryz.t136)
  | 138 => some (tI Tryz.t138 Tryz.t138)
  | 139 => some (tI Tryz.t139 Tryz.t139)
  | 141 => some (tI Tryz.t141 Tryz.t141)
  | 142 => some (tI Tryz.t142 Tryz.t142)
  | 143 => some (tI Tryz.t143 Tryz.t143)
  | _ => none
noncomputable def tyC11 : Nat → Option TyI
  | 144 => some (tI Tryz.t144 Tryz.t144)
  | 145 => some (tI Tryz.t145 Tryz.t145)
  | 146 => some (tI Tryz.t146 Tryz.t146)
  | 147 => some (tI Tryz.t147 Tryz.t147)
  | 148 => some (tI Tryz.t148 Tryz.t148)
  | 149 => some (tI Tryz.t149 Tryz.t149)
  | 150 => some (tI Tryz.t150 Tryz.t150)
  | 151 => some (tI Tryz.t151 Tryz.t151)
  | 152 => some (tI Tryz.t152 Tryz.t152)
  | 153 => some (tI Tryz.t153 Tryz.t153)
  | 154 => some (tI Tryz.t154 Tryz.t154)
  | 155 => some (tI Tryz.t155 Tryz.t155)
  | _ => none
noncomputable def tyC12 : Nat → Option TyI
  | 156 => some (tI Tryz.t156 Tryz.t156)
  | 157 => some (tI Tryz.t157 Tryz.t157)
  | 158 => some (tI Tryz.t158 Tryz.t158)
  | 159 => some (tI Tryz.t159 Tryz.t159)
  | 160 => some (tI Tryz.t160 Tryz.t160)
  | 162 => some (tI Tryz.t162 Tryz.t162)
  | 163 => some (tI Tryz.t163 Tryz.t163)
  | 165 => some (tI Tryz.t165 Tryz.t165)
  | 166 => some (tI Tryz.t166 Tryz.t166)
  | 167 => some (tI Tryz.t167 Tryz.t167)
  | 168 => some (tI Tryz.t168 Tryz.t168)
  | 169 => some (tI Tryz.t168 Tryz.t169)
  | _ => none
noncomputable def tyC13 : Nat → Option TyI
  | 170 => some (tI Tryz.t170 Tryz.t170)
  | 172 => some (tI Tryz.t172 Tryz.t172)
  | 173 => some (tI Tryz.t173 Tryz.t173)
  | 174 => some (tI Tryz.t174 Tryz.t174)
  | 175 => some (tI Tryz.t175 Tryz.t175)
  | 176 => some (tI Tryz.t176 Tryz.t176)
  | 177 => some (tI Tryz.t177 Tryz.t177)
  | 178 => some (tI Tryz.t178 Tryz.t178)
  | 179 => some (tI Tryz.t179 Tryz.t179)
  | 181 => some (tI Tryz.t181 Tryz.t181)
  | 183 => some (tI Tryz.t183 Tryz.t183)
  | 184 => some (tI Tryz.t184 Tryz.t184)
  | _ => none
noncomputable def tyC14 : Nat → Option TyI
  | 185 => some (tI Tryz.t185 Tryz.t185)
  | 187 => some (tI Tryz.t187 Tryz.t187)
  | 188 => some (tI Tryz.t188 Tryz.t188)
  | 190 => some (tI Tryz.t190 Tryz.t190)
  | 191 => some (tI Tryz.t191 Tryz.t191)
  | 192 => some (tI Tryz.t192 Tryz.t192)
  | 193 => some (tI Tryz.t193 Tryz.t193)
  | 194 => some (tI Tryz.t194 Tryz.t194)
  | 195 => some (tI Tryz.t195 Tryz.t195)
  | 196 => some (tI Tryz.t195 Tryz.t196)
  | 197 => some (tI Tryz.t197 Tryz.t197)
  | 198 => some (tI Tryz.t198 Tryz.t198)
  | _ => none
noncomputable def tyC15 : Nat → Option TyI
  | 199 => some (tI Tryz.t199 Tryz.t199)
  | 200 => some (tI Tryz.t200 Tryz.t200)
  | 201 => some (tI Tryz.t200 Tryz.t201)
  | 203 => some (tI Tryz.t203 Tryz.t203)
  | 204 => some (tI Tryz.t204 Tryz.t204)
  | 206 => some (tI Tryz.t206 Tryz.t206)
  | 207 => some (tI Tryz.t207 Tryz.t207)
  | 208 => some (tI Tryz.t208 Tryz.t208)
  | 210 => some (tI Tryz.t210 Tryz.t210)
  | 211 => some (tI Tryz.t211 Tryz.t211)
  | 212 => some (tI Tryz.t212 Tryz.t212)
  | 213 => some (tI Tryz.t213 Tryz.t213)
  | _ => none
noncomputable def tyC16 : Nat → Option TyI
  | 214 => some (tI Tryz.t214 Tryz.t214)
  | 215 => some (tI Tryz.t214 Tryz.t215)
  | 216 => some (tI Tryz.t216 Tryz.t216)
  | 217 => some (tI Tryz.t217 Tryz.t217)
  | 218 => some (tI Tryz.t218 Tryz.t218)
  | 219 => some (tI Tryz.t219 Tryz.t219)
  | 220 => some (tI Tryz.t220 Tryz.t220)
  | 221 => some (tI Tryz.t221 Tryz.t221)
  | 222 => some (tI Tryz.t222 Tryz.t222)
  | 223 => some (tI Tryz.t223 Tryz.t223)
  | 224 => some (tI Tryz.t224 Tryz.t224)
  | 225 => some (tI Tryz.t225 Tryz.t225)
  | _ => none
noncomputable def tyC17 : Nat → Option TyI
  | 226 => some (tI Tryz.t225 Tryz.t226)
  | 227 => some (tI Tryz.t227 Tryz.t227)
  | 228 => some (tI Tryz.t228 Tryz.t228)
  | 229 => some (tI Tryz.t229 Tryz.t229)
  | 230 => some (tI Tryz.t230 Tryz.t230)
  | 231 => some (tI Tryz.t231 Tryz.t231)
  | 232 => some (tI Tryz.t232 Tryz.t232)
  | 233 => some (tI Tryz.t233 Tryz.t233)
  | 235 => some (tI Tryz.t235 Tryz.t235)
  | 236 => some (tI Tryz.t236 Tryz.t236)
  | 238 => some (tI Tryz.t238 Tryz.t238)
  | 240 => some (tI Tryz.t240 Tryz.t240)
  | _ => none
noncomputable def tyC18 : Nat → Option TyI
  | 241 => some (tI Tryz.t241 Tryz.t241)
  | 242 => some (tI Tryz.t242 Tryz.t242)
  | 243 => some (tI Tryz.t243 Tryz.t243)
  | 244 => some (tI Tryz.t244 Tryz.t244)
  | 245 => some (tI Tryz.t245 Tryz.t245)
  | 246 => some (tI Tryz.t245 Tryz.t246)
  | 247 => some (tI Tryz.t247 Tryz.t247)
  | 248 => some (tI Tryz.t248 Tryz.t248)
  | 249 => some (tI Tryz.t248 Tryz.t249)
  | 250 => some (tI Tryz.t250 Tryz.t250)
  | 251 => some (tI Tryz.t251 Tryz.t251)
  | 252 => some (tI Tryz.t251 Tryz.t252)
  | _ => none
noncomputable def tyC19 : Nat → Option TyI
  | 253 => some (tI Tryz.t253 Tryz.t253)
  | 254 => some (tI Tryz.t254 Tryz.t254)
  | 255 => some (tI Tryz.t255 Tryz.t255)
  | 256 => some (tI Tryz.t256 Tryz.t256)
  | 257 => some (tI Tryz.t257 Tryz.t257)
  | 258 => some (tI Tryz.t258 Tryz.t258)
  | 259 => some (tI Tryz.t259 Tryz.t259)
  | 260 => some (tI Tryz.t260 Tryz.t260)
  | 261 => some (tI Tryz.t260 Tryz.t261)
  | 262 => some (tI Tryz.t262 Tryz.t262)
  | 263 => some (tI Tryz.t263 Tryz.t263)
  | 264 => some (tI Tryz.t264 Tryz.t264)
  | _ => none
noncomputable def tyC20 : Nat → Option TyI
  | 265 => some (tI Tryz.t265 Tryz.t265)
  | 266 => some (tI Tryz.t265 Tryz.t266)
  | 267 => some (tI Tryz.t267 Tryz.t267)
  | 268 => some (tI Tryz.t268 Tryz.t268)
  | 269 => some (tI Tryz.t269 Tryz.t269)
  | 270 => some (tI Tryz.t270 Tryz.t270)
  | 271 => some (tI Tryz.t271 Tryz.t271)
  | 272 => some (tI Tryz.t272 Tryz.t272)
  | 273 => some (tI Tryz.t273 Tryz.t273)
  | 274 => some (tI Tryz.t274 Tryz.t274)
  | 275 => some (tI Tryz.t275 Tryz.t275)
  | 276 => some (tI Tryz.t276 Tryz.t276)
  | _ => none
noncomputable def tyC21 : Nat → Option TyI
  | 277 => some (tI Tryz.t277 Tryz.t277)
  | 278 => some (tI Tryz.t278 Tryz.t278)
  | 279 => some (tI Tryz.t279 Tryz.t279)
  | 280 => some (tI Tryz.t280 Tryz.t280)
  | 281 => some (tI Tryz.t281 Tryz.t281)
  | 282 => some (tI Tryz.t282 Tryz.t282)
  | 284 => some (tI Tryz.t284 Tryz.t284)
  | 285 => some (tI Tryz.t285 Tryz.t285)
  | 286 => some (tI Tryz.t286 Tryz.t286)
  | 287 => some (tI Tryz.t287 Tryz.t287)
  | 288 => some (tI Tryz.t288 Tryz.t288)
  | 289 => some (tI Tryz.t289 Tryz.t289)
  | _ => none
noncomputable def tyC22 : Nat → Option TyI
  | 290 => some (tI Tryz.t290 Tryz.t290)
  | 291 => some (tI Tryz.t291 Tryz.t291)
  | 293 => some (tI Tryz.t293 Tryz.t293)
  | 294 => some (tI Tryz.t294 Tryz.t294)
  | 295 => some (tI Tryz.t295 Tryz.t295)
  | 296 => some (tI Tryz.t3 Tryz.t296)
  | 298 => some (tI Tryz.t298 Tryz.t298)
  | 299 => some (tI Tryz.t299 Tryz.t299)
  | 300 => some (tI Tryz.t300 Tryz.t300)
  | 301 => some (tI Tryz.t301 Tryz.t301)
  | 302 => some (tI Tryz.t302 Tryz.t302)
  | 303 => some (tI Tryz.t303 Tryz.t303)
  | _ => none
noncomputable def tyC23 : Nat → Option TyI
  | 304 => some (tI Tryz.t304 Tryz.t304)
  | 305 => some (tI Tryz.t305 Tryz.t305)
  | 306 => some (tI Tryz.t306 Tryz.t306)
  | 307 => some (tI Tryz.t307 Tryz.t307)
  | 308 => some (tI Tryz.t308 Tryz.t308)
  | 309 => some (tI Tryz.t309 Tryz.t309)
  | 310 => some (tI Tryz.t310 Tryz.t310)
  | 311 => some (tI Tryz.t311 Tryz.t311)
  | 312 => some (tI Tryz.t312 Tryz.t312)
  | 313 => some (tI Tryz.t313 Tryz.t313)
  | 314 => some (tI Tryz.t3 Tryz.t314)
  | 316 => some (tI Tryz.t316 Tryz.t316)
  | _ => none
noncomputable def tyC24 : Nat → Option TyI
  | 317 => some (tI Tryz.t317 Tryz.t317)
  | 318 => some (tI Tryz.t318 Tryz.t318)
  | 319 => some (tI Tryz.t319 Tryz.t319)
  | 320 => some (tI Tryz.t320 Tryz.t320)
  | 321 => some (tI Tryz.t321 Tryz.t321)
  | 322 => some (tI Tryz.t322 Tryz.t322)
  | 323 => some (tI Tryz.t323 Tryz.t323)
  | 324 => some (tI Tryz.t324 Tryz.t324)
  | 325 => some (tI Tryz.t325 Tryz.t325)
  | 326 => some (tI Tryz.t326 Tryz.t326)
  | 327 => some (tI Tryz.t327 Tryz.t327)
  | 328 => some (tI Tryz.t328 Tryz.t328)
  | _ => none
noncomputable def tyC25 : Nat → Option TyI
  | 329 => some (tI Tryz.t329 Tryz.t329)
  | 330 => some (tI Tryz.t330 Tryz.t330)
  | 332 => some (tI Tryz.t332 Tryz.t332)
  | 334 => some (tI Tryz.t334 Tryz.t334)
  | 335 => some (tI Tryz.t335 Tryz.t335)
  | 336 => some (tI Tryz.t335 Tryz.t336)
  | 337 => some (tI Tryz.t337 Tryz.t337)
  | 338 => some (tI Tryz.t338 Tryz.t338)
  | 339 => some (tI Tryz.t339 Tryz.t339)
  | 340 => some (tI Tryz.t340 Tryz.t340)
  | 341 => some (tI Tryz.t341 Tryz.t341)
  | 342 => some (tI Tryz.t342 Tryz.t342)
  | _ => none
noncomputable def tyC26 : Nat → Option TyI
  | 343 => some (tI Tryz.t342 Tryz.t343)
  | 345 => some (tI Tryz.t345 Tryz.t345)
  | 346 => some (tI Tryz.t346 Tryz.t346)
  | 347 => some (tI Tryz.t347 Tryz.t347)
  | 348 => some (tI Tryz.t348 Tryz.t348)
  | 349 => some (tI Tryz.t349 Tryz.t349)
  | 350 => some (tI Tryz.t350 Tryz.t350)
  | 351 => some (tI Tryz.t351 Tryz.t351)
  | 352 => some (tI Tryz.t289 Tryz.t352)
  | 353 => some (tI Tryz.t353 Tryz.t353)
  | 354 => some (tI Tryz.t354 Tryz.t354)
  | 355 => some (tI Tryz.t355 Tryz.t355)
  | _ => none
noncomputable def tyC27 : Nat → Option TyI
  | 356 => some (tI Tryz.t356 Tryz.t356)
  | 357 => some (tI Tryz.t357 Tryz.t357)
  | 358 => some (tI Tryz.t358 Tryz.t358)
  | 359 => some (tI Tryz.t359 Tryz.t359)
  | 360 => some (tI Tryz.t360 Tryz.t360)
  | 361 => some (tI Tryz.t361 Tryz.t361)
  | 362 => some (tI Tryz.t362 Tryz.t362)
  | 363 => some (tI Tryz.t362 Tryz.t363)
  | 364 => some (tI Tryz.t364 Tryz.t364)
  | 366 => some (tI Tryz.t366 Tryz.t366)
  | 367 => some (tI Tryz.t367 Tryz.t367)
  | 368 => some (tI Tryz.t368 Tryz.t368)
  | _ => none
noncomputable def tyC28 : Nat → Option TyI
  | 369 => some (tI Tryz.t369 Tryz.t369)
  | 370 => some (tI Tryz.t370 Tryz.t370)
  | 371 => some (tI Tryz.t371 Tryz.t371)
  | 372 => some (tI Tryz.t372 Tryz.t372)
  | 373 => some (tI Tryz.t373 Tryz.t373)
  | 375 => some (tI Tryz.t375 Tryz.t375)
  | 376 => some (tI Tryz.t376 Tryz.t376)
  | 377 => some (tI Tryz.t377 Tryz.t377)
  | 378 => some (tI Tryz.t378 Tryz.t378)
  | 379 => some (tI Tryz.t379 Tryz.t379)
  | 380 => some (tI Tryz.t380 Tryz.t380)
  | 381 => some (tI Tryz.t381 Tryz.t381)
  | _ => none
noncomputable def tyC29 : Nat → Option TyI
  | 382 => some (tI Tryz.t381 Tryz.t382)
  | 383 => some (tI Tryz.t383 Tryz.t383)
  | 384 => some (tI Tryz.t384 Tryz.t384)
  | 385 => some (tI Tryz.t385 Tryz.t385)
  | 386 => some (tI Tryz.t385 Tryz.t386)
  | 387 => some (tI Tryz.t387 Tryz.t387)
  | 388 => some (tI Tryz.t388 Tryz.t388)
  | 389 => some (tI Tryz.t388 Tryz.t389)
  | 390 => some (tI Tryz.t390 Tryz.t390)
  | 391 => some (tI Tryz.t5 Tryz.t391)
  | 392 => some (tI Tryz.t5 Tryz.t392)
  | 393 => some (tI Tryz.t393 Tryz.t393)
  | _ => none
noncomputable def tyC30 : Nat → Option TyI
  | 394 => some (tI Tryz.t21 Tryz.t394)
  | 395 => some (tI Tryz.t21 Tryz.t395)
  | 396 => some (tI Tryz.t396 Tryz.t396)
  | 397 => some (tI Tryz.t396 Tryz.t397)
  | _ => none
noncomputable def tyT (t : Nat) : Option TyI := (bif Nat.blt t 199 then (bif Nat.blt t 88 then (bif Nat.blt t 37 then (bif Nat.blt t 13 then tyC0 t else (bif Nat.blt t 25 then tyC1 t else tyC2 t)) else (bif Nat.blt t 63 then (bif Nat.blt t 49 then tyC3 t else tyC4 t) else (bif Nat.blt t 75 then tyC5 t else tyC6 t))) else (bif Nat.blt t 144 then (bif Nat.blt t 114 then (bif Nat.blt t 102 then tyC7 t else tyC8 t) else (bif Nat.blt t 127 then tyC9 t else tyC10 t)) else (bif Nat.blt t 170 then (bif Nat.blt t 156 then tyC11 t else tyC12 t) else (bif Nat.blt t 185 then tyC13 t else tyC14 t)))) else (bif Nat.blt t 304 then (bif Nat.blt t 253 then (bif Nat.blt t 226 then (bif Nat.blt t 214 then tyC15 t else tyC16 t) else (bif Nat.blt t 241 then tyC17 t else tyC18 t)) else (bif Nat.blt t 277 then (bif Nat.blt t 265 then tyC19 t else tyC20 t) else (bif Nat.blt t 290 then tyC21 t else tyC22 t))) else (bif Nat.blt t 356 then (bif Nat.blt t 329 then (bif Nat.blt t 317 then tyC23 t else tyC24 t) else (bif Nat.blt t 343 then tyC25 t else tyC26 t)) else (bif Nat.blt t 382 then (bif Nat.blt t 369 then tyC27 t else tyC28 t) else (bif Nat.blt t 394 then tyC29 t else tyC30 t)))))
theorem tyC0_ok (t : Nat) (i : TyI) (h : tyC0 t = some i) : tyOf Tryz.prog t = some i := by
  unfold tyC0 at h
  split at h <;> first | (injection h with h; subst h; kernel_rfl) | cases h
theorem tyC1_ok (t : Nat) (i : TyI) (h : tyC1 t = some i) : tyOf Tryz.prog t = some i := by
  unfold tyC1 at h
  split at h <;> first | (injection h with h; subst h; kernel_rfl) | cases h
theorem tyC2_ok (t : Nat) (i : TyI) (h : tyC2 t = some i) : tyOf Tryz.prog t = some i := by
  unfold tyC2 at h
  split at h <;> first | (injection h with h; subst h; kernel_rfl) | cases h
theorem tyC3_ok (t : Nat) (i : TyI) (h : tyC3 t = some i) : tyOf Tryz.prog t = some i := by
  unfold tyC3 at h
  split at h <;> first | (injection h with h; subst h; kernel_rfl) | cases h
theorem tyC4_ok (t : Nat) (i : TyI) (h : tyC4 t = some i) : tyOf Tryz.prog t = some i := by
  unfold tyC4 at h
  split at h <;> first | (injection h with h; subst h; kernel_rfl) | cases h
theorem tyC5_ok (t : Nat) (i : TyI) (h : tyC5 t = some i) : tyOf Tryz.prog t = some i := by
  unfold tyC5 at h
  split at h <;> first | (injection h with h; subst h; kernel_rfl) | cases h
theorem tyC6_ok (t : Nat) (i : TyI) (h : tyC6 t = some i) : tyOf Tryz.prog t = some i := by
  unfold tyC6 at h
  split at h <;> first | (injection h with h; subst h; kernel_rfl) | cases h
theorem tyC7_ok (t : Nat) (i : TyI) (h : tyC7 t = some i) : tyOf Tryz.prog t = some i := by
  unfold tyC7 at h
  split at h <;> first | (injection h with h; subst h; kernel_rfl) | cases h
theorem tyC8_ok (t : Nat) (i : TyI) (h : tyC8 t = some i) : tyOf Tryz.prog t = some i := by
  unfold tyC8 at h
  split at h <;> first | (injection h with h; subst h; kernel_rfl) | cases h
theorem tyC9_ok (t : Nat) (i : TyI) (h : tyC9 t = some i) : tyOf Tryz.prog t = some i := by
  unfold tyC9 at h
  split at h <;> first | (injection h with h; subst h; kernel_rfl) | cases h
theorem tyC10_ok (t : Nat) (i : TyI) (h : tyC10 t = some i) : tyOf Tryz.prog t = some i := by
  unfold tyC10 at h
  split at h <;> first | (injection h with h; subst h; kernel_rfl) | cases h
theorem tyC11_ok (t : Nat) (i : TyI) (h : tyC11 t = some i) : tyOf Tryz.prog t = some i := by
  unfold tyC11 at h
  split at h <;> first | (injection h with h; subst h; kernel_rfl) | cases h
theorem tyC12_ok (t : Nat) (i : TyI) (h : tyC12 t = some i) : tyOf Tryz.prog t = some i := by
  unfold tyC12 at h
  split at h <;> first | (injection h with h; subst h; kernel_rfl) | cases h
theorem tyC13_ok (t : Nat) (i : TyI) (h : tyC13 t = some i) : tyOf Tryz.prog t = some i := by
  unfold tyC13 at h
  split at h <;> first | (injection h with h; subst h; kernel_rfl) | cases h
theorem tyC14_ok (t : Nat) (i : TyI) (h : tyC14 t = some i) : tyOf Tryz.prog t = some i := by
  unfold tyC14 at h
  split at h <;> first | (injection h with h; subst h; kernel_rfl) | cases h
theorem tyC15_ok (t : Nat) (i : TyI) (h : tyC15 t = some i) : tyOf Tryz.prog t = some i := by
  unfold tyC15 at h
  split at h <;> first | (injection h with h; subst h; kernel_rfl) | cases h
theorem tyC16_ok (t : Nat) (i : TyI) (h : tyC16 t = some i) : tyOf Tryz.prog t = some i := by
  unfold tyC16 at h
  split at h <;> first | (injection h with h; subst h; kernel_rfl) | cases h
theorem tyC17_ok (t : Nat) (i : TyI) (h : tyC17 t = some i) : tyOf Tryz.prog t = some i := by
  unfold tyC17 at h
  split at h <;> first | (injection h with h; subst h; kernel_rfl) | cases h
theorem tyC18_ok (t : Nat) (i : TyI) (h : tyC18 t = some i) : tyOf Tryz.prog t = some i := by
  unfold tyC18 at h
  split at h <;> first | (injection h with h; subst h; kernel_rfl) | cases h
theorem tyC19_ok (t : Nat) (i : TyI) (h : tyC19 t = some i) : tyOf Tryz.prog t = some i := by
  unfold tyC19 at h
  split at h <;> first | (injection h with h; subst h; kernel_rfl) | cases h
theorem tyC20_ok (t : Nat) (i : TyI) (h : tyC20 t = some i) : tyOf Tryz.prog t = some i := by
  unfold tyC20 at h
  split at h <;> first | (injection h with h; subst h; kernel_rfl) | cases h
theorem tyC21_ok (t : Nat) (i : TyI) (h : tyC21 t = some i) : tyOf Tryz.prog t = some i := by
  unfold tyC21 at h
  split at h <;> first | (injection h with h; subst h; kernel_rfl) | cases h
theorem tyC22_ok (t : Nat) (i : TyI) (h : tyC22 t = some i) : tyOf Tryz.prog t = some i := by
  unfold tyC22 at h
  split at h <;> first | (injection h with h; subst h; kernel_rfl) | cases h
theorem tyC23_ok (t : Nat) (i : TyI) (h : tyC23 t = some i) : tyOf Tryz.prog t = some i := by
  unfold tyC23 at h
  split at h <;> first | (injection h with h; subst h; kernel_rfl) | cases h
theorem tyC24_ok (t : Nat) (i : TyI) (h : tyC24 t = some i) : tyOf Tryz.prog t = some i := by
  unfold tyC24 at h
  split at h <;> first | (injection h with h; subst h; kernel_rfl) | cases h
theorem tyC25_ok (t : Nat) (i : TyI) (h : tyC25 t = some i) : tyOf Tryz.prog t = some i := by
  unfold tyC25 at h
  split at h <;> first | (injection h with h; subst h; kernel_rfl) | cases h
theorem tyC26_ok (t : Nat) (i : TyI) (h : tyC26 t = some i) : tyOf Tryz.prog t = some i := by
  unfold tyC26 at h
  split at h <;> first | (injection h with h; subst h; kernel_rfl) | cases h
theorem tyC27_ok (t : Nat) (i : TyI) (h : tyC27 t = some i) : tyOf Tryz.prog t = some i := by
  unfold tyC27 at h
  split at h <;> first | (injection h with h; subst h; kernel_rfl) | cases h
theorem tyC28_ok (t : Nat) (i : TyI) (h : tyC28 t = some i) : tyOf Tryz.prog t = some i := by
  unfold tyC28 at h
  split at h <;> first | (injection h with h; subst h; kernel_rfl) | cases h
theorem tyC29_ok (t : Nat) (i : TyI) (h : tyC29 t = some i) : tyOf Tryz.prog t = some i := by
  unfold tyC29 at h
  split at h <;> first | (injection h with h; subst h; kernel_rfl) | cases h
theorem tyC30_ok (t : Nat) (i : TyI) (h : tyC30 t = some i) : tyOf Tryz.prog t = some i := by
  unfold tyC30 at h
  split at h <;> first | (injection h with h; subst h; kernel_rfl) | cases h
theorem tyT_ok (t : Nat) (i : TyI) (h : tyT t = some i) : tyOf Tryz.prog t = some i := by
  unfold tyT at h
  cases hb : Nat.blt t 199 <;> rw [hb] at h <;> simp only [cond_true, cond_false] at h
  · skip
    cases hb : Nat.blt t 304 <;> rw [hb] at h <;> simp only [cond_true, cond_false] at h
    · skip
      cases hb : Nat.blt t 356 <;> rw [hb] at h <;> simp only [cond_true, cond_false] at h
      · skip
        cases hb : Nat.blt t 382 <;> rw [hb] at h <;> simp only [cond_true, cond_false] at h
        · skip
          cases hb : Nat.blt t 394 <;> rw [hb] at h <;> simp only [cond_true, cond_false] at h
          · skip
            exact tyC30_ok t i h
          · skip
            exact tyC29_ok t i h
        · skip
          cases hb : Nat.blt t 369 <;> rw [hb] at h <;> simp only [cond_true, cond_false] at h
          · skip
            exact tyC28_ok t i h
          · skip
            exact tyC27_ok t i h
      · skip
        cases hb : Nat.blt t 329 <;> rw [hb] at h <;> simp only [cond_true, cond_false] at h
        · skip
          cases hb : Nat.blt t 343 <;> rw [hb] at h <;> simp only [cond_true, cond_false] at h
          · skip
            exact tyC26_ok t i h
          · skip
            exact tyC25_ok t i h
        · skip
          cases hb : Nat.blt t 317 <;> rw [hb] at h <;> simp only [cond_true, cond_false] at h
          · skip
            exact tyC24_ok t i h
          · skip
            exact tyC23_ok t i h
    · skip
      cases hb : Nat.blt t 253 <;> rw [hb] at h <;> simp only [cond_true, cond_false] at h
      · skip
        cases hb : Nat.blt t 277 <;> rw [hb] at h <;> simp only [cond_true, cond_false] at h
        · skip
          cases hb : Nat.blt t 290 <;> rw [hb] at h <;> simp only [cond_true, cond_false] at h
          · skip
            exact tyC22_ok t i h
          · skip
            exact tyC21_ok t i h
        · skip
          cases hb : Nat.blt t 265 <;> rw [hb] at h <;> simp only [cond_true, cond_false] at h
          · skip
            exact tyC20_ok t i h
          · skip
            exact tyC19_ok t i h
      · skip
        cases hb : Nat.blt t 226 <;> rw [hb] at h <;> simp only [cond_true, cond_false] at h
        · skip
          cases hb : Nat.blt t 241 <;> rw [hb] at h <;> simp only [cond_true, cond_false] at h
          · skip
            exact tyC18_ok t i h
          · skip
            exact tyC17_ok t i h
        · skip
          cases hb : Nat.blt t 214 <;> rw [hb] at h <;> simp only [cond_true, cond_false] at h
          · skip
            exact tyC16_ok t i h
          · skip
            exact tyC15_ok t i h
  · skip
    cases hb : Nat.blt t 88 <;> rw [hb] at h <;> simp only [cond_true, cond_false] at h
    · skip
      cases hb : Nat.blt t 144 <;> rw [hb] at h <;> simp only [cond_true, cond_false] at h
      · skip
        cases hb : Nat.blt t 170 <;> rw [hb] at h <;> simp only [cond_true, cond_false] at h
        · skip
          cases hb : Nat.blt t 185 <;> rw [hb] at h <;> simp only [cond_true, cond_false] at h
          · skip
            exact tyC14_ok t i h
          · skip
            exact tyC13_ok t i h
        · skip
          cases hb : Nat.blt t 156 <;> rw [hb] at h <;> simp only [cond_true, cond_false] at h
          · skip
            exact tyC12_ok t i h
          · skip
            exact tyC11_ok t i h
      · skip
        cases hb : Nat.blt t 114 <;> rw [hb] at h <;> simp only [cond_true, cond_false] at h
        · skip
          cases hb : Nat.blt t 127 <;> rw [hb] at h <;> simp only [cond_true, cond_false] at h
          · skip
            exact tyC10_ok t i h
          · skip
            exact tyC9_ok t i h
        · skip
          cases hb : Nat.blt t 102 <;> rw [hb] at h <;> simp only [cond_true, cond_false] at h
          · skip
            exact tyC8_ok t i h
          · skip
            exact tyC7_ok t i h
    · skip
      cases hb : Nat.blt t 37 <;> rw [hb] at h <;> simp only [cond_true, cond_false] at h
      · skip
        cases hb : Nat.blt t 63 <;> rw [hb] at h <;> simp only [cond_true, cond_false] at h
        · skip
          cases hb : Nat.blt t 75 <;> rw [hb] at h <;> simp only [cond_true, cond_false] at h
          · skip
            exact tyC6_ok t i h
          · skip
            exact tyC5_ok t i h
        · skip
          cases hb : Nat.blt t 49 <;> rw [hb] at h <;> simp only [cond_true, cond_false] at h
          · skip
            exact tyC4_ok t i h
          · skip
            exact tyC3_ok t i h
      · skip
        cases hb : Nat.blt t 13 <;> rw [hb] at h <;> simp only [cond_true, cond_false] at h
        · skip
          cases hb : Nat.blt t 25 <;> rw [hb] at h <;> simp only [cond_true, cond_false] at h
          · skip
            exact tyC2_ok t i h
          · skip
            exact tyC1_ok t i h
        · skip
          exact tyC0_ok t i h

def badF : List Nat := [0, 1, 2, 170, 246, 267, 299, 305, 321, 338, 359, 360, 361, 362, 363, 364, 365, 366, 367, 368, 369, 370, 371, 372, 373, 374, 375, 376, 377, 378, 379, 380, 381, 382, 383, 384, 385, 386, 387, 388, 389, 390, 391, 392]
def fokT (f : Nat) : Bool := Nat.blt f 394 && !(badF.any fun g => Nat.beq g f)
theorem fokT_all : ((List.range 394).all fun f => !(fokT f) || fokOf Tryz.prog f) = true := by kernel_rfl
theorem fokT_ok (f : Nat) (h : fokT f = true) : fokOf Tryz.prog f = true := by
  have hlt : f < 394 := by
    unfold fokT at h
    rw [Bool.and_eq_true] at h
    exact Nat.le_of_ble_eq_true h.1
  have := List.all_eq_true.1 fokT_all f (List.mem_range.2 hlt)
  rw [h] at this
  simpa using this
end

noncomputable def kpC0 (g : Nat) : Option (List (List Nat)) :=
  match g with
  | 2 => some [[]]
  | 3 => some [[1], [1, 5], [2], [2]]
  | 4 => some [[0], [0, 11], [2], [0, 3, 4, 5], [3, 4, 5, 6, 7, 8], [2]]
  | 5 => some [[0], [0, 10], [2], [0, 3, 4, 5], [0, 3, 4, 5, 20], [2], [0, 3, 4, 6], [0, 3, 4, 6, 7], [0, 3, 4, 6, 7, 44], [0, 3, 4, 6, 7], [0, 3, 4, 6, 7], [2]]
  | 6 => some [[1], [1, 9], [2], [1, 3, 4], [3, 4, 5, 6], [2]]
  | 7 => some [[1, 2], [1, 2, 23], [4], [1, 5, 6], [1, 5, 6, 7, 8], [5, 6, 7, 8, 9], [5, 6, 7, 8, 9, 10, 11, 12], [5, 6, 7, 8, 9, 11, 12, 13, 14], [5, 7, 9, 13, 80], [4], [5, 7, 9, 13, 15], [5, 7, 9, 13, 15, 84], [5, 7, 9, 13, 15], [5, 7, 9, 13, 15, 116], [4], [4]]
  | 8 => some [[1, 2], [1, 2, 7], [4], [4]]
  | 9 => some [[2, 3], [2, 3, 13], [4], [2, 3, 5], [4]]
  | 10 => some [[1, 2], [1, 2, 17], [4], [1, 2, 5, 6], [1, 2, 5, 6, 25], [4], [1, 2, 5, 42], [4], [1, 2, 5, 7], [1, 2, 5, 7, 8], [1, 2, 5, 7, 8, 46], [1, 2, 5, 7, 8], [1, 2, 5, 7, 8], [2, 7, 9, 10, 11], [2, 9, 10, 11, 12, 13, 14], [4]]
  | 11 => some [[1], [1, 11], [2], [1, 3], [1, 3, 13], [1, 3], [1, 3, 4], [1, 3, 28], [2], [1, 5], [1, 5, 30], [1, 5], [1, 5, 37], [2], [1, 6], [1, 6, 41], [1, 6], [1, 6, 48], [2], [2]]
  | 12 => some [[], [1, 2, 3], [0]]
  | 13 => some [[1], [1, 6, 7, 8], [1, 6, 7, 8, 9], [1, 4, 6, 7, 8], [1, 5, 6, 7, 8], [1, 5, 6, 7, 8, 17], [2], [1, 6, 7, 8], [2]]
  | 14 => some [[1], [1, 16], [2], [1, 3], [1, 3, 20], [1, 3], [1, 3, 4], [1, 3, 4, 27], [2], [2]]
  | 15 => some [[2, 3], [2, 3, 22], [4], [2, 3, 5], [2, 3, 5, 24], [2, 3, 5], [2, 3, 5, 34], [4], [2, 3, 6], [2, 3, 6, 36], [2, 3, 6], [2, 3, 6, 46], [4], [2, 3, 7], [2, 3, 7, 50], [2, 3, 7], [2, 3, 7, 60], [4], [4]]
  | 16 => some [[0], [0, 1], [0, 1, 4, 5, 6], [0, 1, 4, 5, 6, 7], [0, 1, 3, 4, 5, 6], [0, 1, 4, 5, 6], [0, 1, 4, 5, 6], [0]]
  | 17 => some [[0], [0, 1], [0]]
  | _ => none
noncomputable def kpC1 (g : Nat) : Option (List (List Nat)) :=
  match g with
  | 18 => some [[0], [0, 6], [2], [0, 3], [0, 3, 10], [0, 3], [0, 3, 28], [2], [2]]
  | 19 => some [[0, 2, 4], [0, 2, 4, 5], [0, 2, 4, 5, 19, 20, 21], [0, 2, 4, 5, 19, 20, 21, 22], [0, 2, 4, 5, 7, 19, 20, 21], [0, 2, 4, 5, 7, 19, 20, 21, 29], [2, 3, 4], [0, 2, 4, 5, 19, 20, 21], [2, 4, 5, 35, 36, 37], [2, 4, 5, 35, 36, 37, 38], [2, 4, 5, 9, 35, 36, 37], [2, 4, 5, 9, 11, 35, 36, 37], [2, 4, 5, 9, 35, 36, 37, 48], [2, 3, 4], [2, 4, 5, 35, 36, 37], [2, 4, 5, 35, 36, 37], [2, 4, 5, 12], [2, 4, 5, 12, 60, 61, 62], [2, 4, 5, 12, 60, 61, 62, 63], [2, 4, 5, 12, 14, 60, 61, 62], [2, 4, 5, 12, 14, 15, 16, 60, 61, 62], [2, 4, 5, 12, 14, 15, 60, 61, 62, 73], [2, 4, 5, 12, 14, 17, 60, 61, 62], [2, 4, 5, 12, 14, 17, 60, 61, 62, 81], [2, 3, 4], [2, 4, 5, 12, 60, 61, 62], [2, 3, 4]]
  | 20 => some [[0, 2, 4], [0, 2, 4, 5], [0, 2, 4, 5, 15], [0, 2, 4, 5], [0, 2, 4, 5, 24], [2, 3, 4], [0, 2, 4, 6], [0, 2, 4, 6, 35], [0, 2, 4, 6], [0, 2, 4, 6, 46], [2, 3, 4], [0, 2, 4, 7], [0, 2, 4, 7, 8], [0, 2, 4, 7, 8, 58], [0, 2, 4, 7, 8], [0, 2, 4, 7, 8, 9], [0, 2, 4, 7, 8, 9, 68], [0, 2, 4, 7, 8, 10, 11], [0, 2, 4, 7, 8, 10, 11, 82], [2, 3, 4], [0, 2, 4, 7, 8], [2, 3, 4]]
  | 21 => some [[1], [1, 4], [1, 4, 13], [2, 3], [1, 5], [1, 5, 15, 16, 17], [1, 5, 15, 16, 17, 18], [1, 5, 7, 15, 16, 17], [1, 5, 7, 8, 9, 15, 16, 17], [1, 5, 7, 8, 9, 15, 16, 17, 29], [2, 3], [1, 5, 15, 16, 17], [1, 5, 15, 16, 17], [2, 3]]
  | 22 => some [[1], [1, 4], [1, 4, 10], [2, 3], [1, 5], [1, 5, 6], [1, 5, 6, 15], [1, 5, 6], [1, 5, 6], [2, 3]]
  | 23 => some [[0, 1], [0, 1, 10], [4], [0, 1, 5], [0, 1, 5, 14], [0, 1, 5], [0, 1, 5, 25], [4], [4]]
  | 24 => some [[2, 3], [4]]
  | 25 => some [[1, 2, 4], [1, 2, 4, 11], [4], [4, 5], [4]]
  | 26 => some [[1, 2, 4], [2, 4, 5], [2, 4, 5, 6], [4], [2, 4, 5, 10], [4], [2, 4, 5, 14], [4], [2, 4, 5, 18], [4], [2, 4, 5, 22], [4], [2, 4, 5, 26], [4], [2, 4, 30], [4], [4]]
  | 27 => some [[2, 3], [2, 3, 12], [4], [2, 3, 5], [2, 3, 5, 17], [2, 3, 5], [2, 3, 5, 30], [4], [4]]
  | 28 => some [[1, 2, 4], [1, 2, 4, 10], [4], [4]]
  | 29 => some [[1, 2, 4], [2, 4, 5], [2, 4, 5, 6], [4], [2, 4, 5, 11], [4], [2, 4, 5, 16], [4], [2, 4, 5, 21], [4], [2, 4, 5, 26], [4], [2, 4, 31], [4], [4]]
  | 30 => some [[0, 1], [0, 1, 10], [4], [0, 1, 5], [0, 1, 5, 14], [0, 1, 5], [0, 1, 5, 25], [4], [4]]
  | 31 => some [[], [0]]
  | 32 => some [[], [0]]
  | 33 => some [[2, 3], [4]]
  | _ => none
noncomputable def kpC2 (g : Nat) : Option (List (List Nat)) :=
  match g with
  | 34 => some [[1], [2]]
  | 35 => some [[0], [0, 3], [0, 3, 11], [0, 3], [0, 3, 29], [2], [2]]
  | 36 => some [[1, 2], [2, 8], [2, 8, 9], [4], [2, 8, 14], [4], [2, 8, 19], [4], [2, 8, 24], [4], [2, 29], [4], [4]]
  | 37 => some [[0, 1, 4], [0, 1, 4, 5], [0, 1, 4, 6], [0, 1, 4, 6, 7, 8], [0, 1, 4, 6, 7, 8, 23], [4, 9], [4], [0, 1, 4, 6, 7, 8, 37], [4, 10], [4], [0, 1, 4, 8, 55], [4, 11], [4], [0, 1, 4, 8, 12], [0, 1, 4, 8, 13, 14], [0, 1, 4, 8, 13, 101], [4, 15], [4], [0, 4, 8, 111], [4, 8], [0, 4, 8, 111, 117], [4, 8], [0, 4, 8, 111, 124], [4, 8], [0, 4, 8, 111, 131], [4, 8], [0, 4, 8, 111, 138], [4, 8], [0, 4, 8, 145], [4, 8], [4]]
  | 38 => some [[0], [2]]
  | 39 => some [[1, 2], [1, 2, 5], [1, 2, 5], [4], [1, 2, 5, 15], [4], [1, 2, 5, 18], [6], [1, 2, 5, 26], [6], [1, 2, 5, 33], [6], [43], [4], [4]]
  | 40 => some [[0, 1], [0, 1, 10], [4], [0, 1, 5], [0, 1, 5, 14], [0, 1, 5], [0, 1, 5, 25], [4], [4]]
  | 41 => some [[0, 1], [0, 1, 11], [4], [0, 1, 5], [0, 1, 5, 15], [0, 1, 5], [0, 1, 5, 56], [4], [0, 1, 5, 6], [0, 1, 5, 6, 64], [0, 1, 5, 6], [0, 1, 5, 6, 83], [4], [4]]
  | 42 => some [[0], [2]]
  | 43 => some [[0, 1], [4]]
  | 44 => some [[0], [0, 3], [0, 3, 7], [0, 3], [0, 3, 15], [2], [2]]
  | 45 => some [[0, 1], [0, 1, 5], [0, 1, 5, 9], [0, 1, 5], [0, 1, 5, 18], [4], [4]]
  | 46 => some [[1, 2, 3, 6, 7], [1, 2, 3, 6, 7, 8], [1, 2, 3, 6, 7, 8, 23], [3, 6, 7, 9, 10], [3, 6, 7, 10], [6, 7], [1, 2, 3, 6, 7, 8, 35], [1, 3, 6, 7, 11, 12], [6, 7], [2, 3, 6, 7, 8, 49], [3, 6, 7, 13, 14], [3, 6, 7, 14], [6, 7], [2, 3, 6, 7, 8, 62], [3, 6, 7, 8, 15, 16], [6, 7], [3, 6, 7, 8, 17, 18], [6, 7]]
  | 47 => some [[1, 2], [1, 2, 5], [1, 2, 5, 14], [4], [1, 2, 5, 27], [6], [4], [1, 2, 5, 39], [4], [1, 2, 5, 46], [4], [8], [4]]
  | 48 => some [[0], [0, 4], [2], [2]]
  | 49 => some [[0], [0, 4], [2], [2]]
  | _ => none
noncomputable def kpC3 (g : Nat) : Option (List (List Nat)) :=
  match g with
  | 50 => some [[1, 2], [2]]
  | 51 => some [[0], [2]]
  | 52 => some [[0], [0, 3], [0, 3, 4], [0, 3, 4, 5], [0, 3, 4, 5, 6], [0, 3, 4, 5, 6, 16], [0, 3, 4, 5, 6], [0, 3, 4, 5, 6, 7], [0, 3, 4, 5, 6, 7], [0, 3, 4, 5, 6, 8], [0, 3, 5, 6, 8], [0, 3, 4, 5, 6], [0, 3, 37], [2], [0, 9], [0, 9, 10], [0, 9, 10], [0, 9, 10, 12], [0, 9, 10, 12, 53], [0, 9, 10, 12], [0, 9, 10, 11, 12], [0, 9, 10, 11, 12, 60], [0, 9, 10, 11, 12, 66], [0, 9, 10, 11, 12], [0, 9, 10, 12], [0, 9, 10, 12], [0, 9, 10, 12], [0, 9, 10, 12, 91], [0, 9, 10, 12], [0, 9, 10, 11, 12], [0, 9, 10, 11, 98], [9], [2]]
  | 53 => some [[0, 1], [4]]
  | 54 => some [[0, 1, 5], [6]]
  | 55 => some [[0], [2]]
  | 56 => some [[0, 1], [4]]
  | 57 => some [[0, 1, 5], [6]]
  | 58 => some [[2, 3], [4]]
  | 59 => some [[0, 1], [4]]
  | 60 => some [[0, 1, 5], [6]]
  | 61 => some [[2, 3], [4]]
  | 62 => some [[0, 1], [4]]
  | 63 => some [[0, 1], [0, 1, 7, 8], [0, 1, 7, 8, 9], [0, 1, 5, 7, 8], [0, 1, 5, 7, 8, 16], [4], [0, 1, 7, 8], [4]]
  | 64 => some [[1], [32], [2], [2]]
  | 65 => some [[1], [2, 3]]
  | _ => none
noncomputable def kpC4 (g : Nat) : Option (List (List Nat)) :=
  match g with
  | 66 => some [[1, 2, 4], [2, 4, 5, 6, 7], [2, 4, 6, 7, 8, 9], [2, 4, 7, 8, 9, 10, 11], [2, 4, 8, 10, 38], [4], [4], [4]]
  | 67 => some [[1], [2]]
  | 68 => some [[1], [2, 3]]
  | 69 => some [[1, 2, 4], [4], [4]]
  | 70 => some [[1], [2]]
  | 71 => some [[1], [1, 4], [4, 10, 11, 12], [4, 10, 11, 12, 13], [4, 6, 10, 11, 12], [4, 10, 11, 12], [4, 10, 11, 12], [2, 3]]
  | 72 => some [[1, 2, 4], [2, 4, 5, 6], [2, 4, 5, 6, 25], [4], [2, 4, 5, 7], [2, 4, 7, 27, 28, 29], [2, 4, 7, 27, 28, 29, 30], [2, 4, 7, 9, 27, 28, 29], [2, 4, 7, 9, 10, 27, 28, 29], [2, 4, 7, 9, 10, 12, 27, 28, 29], [2, 4, 7, 9, 10, 12, 27, 28, 29, 76], [4], [2, 4, 7, 27, 28, 29], [2, 4, 7, 27, 28, 29], [2, 4, 7, 14], [2, 4, 14, 91, 92, 93], [2, 4, 14, 91, 92, 93, 94], [2, 4, 14, 16, 91, 92, 93], [2, 4, 14, 16, 17, 91, 92, 93], [2, 4, 14, 16, 17, 91, 92, 93, 123], [2, 4, 14, 91, 92, 93], [2, 4, 14, 91, 92, 93], [2, 4, 14, 91, 92, 93], [4], [4]]
  | 73 => some [[1], [2]]
  | 74 => some [[1], [2, 3]]
  | 75 => some [[1, 2, 4], [4], [4]]
  | 76 => some [[1], [2]]
  | 77 => some [[1], [1, 4], [4, 11, 12, 13], [4, 11, 12, 13, 14], [4, 6, 11, 12, 13], [4, 11, 12, 13], [4, 11, 12, 13], [2, 3]]
  | 78 => some [[1, 2, 4], [2, 4, 5, 6], [2, 4, 5, 6, 17], [4], [2, 4, 5, 7], [2, 4, 7, 19, 20, 21], [2, 4, 7, 19, 20, 21, 22], [2, 4, 7, 9, 19, 20, 21], [2, 4, 7, 19, 20, 21], [2, 4, 7, 19, 20, 21], [4], [4]]
  | 79 => some [[1], [1, 8], [2], [1, 3], [1, 3, 13], [1, 3], [1, 3, 4], [1, 3, 4, 48], [2], [1, 3, 87], [2], [2]]
  | 80 => some [[0], [0, 3], [0, 3, 8], [0, 3], [0, 3, 4], [0, 3, 4, 39], [2], [0, 3, 75], [2], [2]]
  | 81 => some [[0], [3], [3, 4], [2], [3, 6], [2], [3, 8], [2], [3, 10], [2], [3, 12], [2], [14], [2], [2]]
  | _ => none
noncomputable def kpC5 (g : Nat) : Option (List (List Nat)) :=
  match g with
  | 82 => some [[1], [2]]
  | 83 => some [[0], [0, 3], [0, 3, 8], [2], [0, 4], [0, 4, 13], [0, 4], [0, 4, 26], [2], [2]]
  | 84 => some [[0, 2, 3], [0, 2, 3, 14], [0, 2, 3], [2, 3, 4], [2, 3, 4, 38], [2, 3], [2, 3]]
  | 85 => some [[0, 2, 3], [0, 2, 3, 21], [2, 3], [2, 3, 4, 5, 6], [2, 3, 4, 6, 7, 8], [2, 3, 4, 6, 7, 36], [2, 3], [2, 3, 4, 6, 7, 43], [2, 3], [2, 3, 4, 7, 9, 10], [2, 3, 4, 7, 9, 10, 54], [2, 3], [2, 3, 4, 7, 9, 11], [2, 3, 4, 7, 9, 11, 66], [2, 3, 4, 7, 9, 11], [2, 3, 4, 7, 9, 11, 75], [2, 3], [2, 3, 4, 7, 9, 12], [2, 3, 4, 7, 9, 12, 13], [2, 3, 4, 7, 9, 12, 13, 88], [2, 3, 4, 7, 9, 12, 13], [2, 3, 4, 7, 9, 12, 13, 14], [2, 3, 4, 7, 9, 12, 13, 14, 101], [2, 3], [2, 3, 4, 7, 9, 12, 13], [2, 3, 4, 7, 9, 12, 15], [2, 3, 4, 7, 9, 12, 15, 129], [2, 3, 4, 7, 9, 12, 15], [2, 3, 4, 7, 9, 12, 15, 16], [2, 3, 4, 7, 9, 12, 15, 16, 134], [2, 3, 4, 7, 9, 12, 15, 16], [2, 3, 4, 7, 9, 12, 15, 16, 145], [2, 3], [2, 3, 17], [2, 3]]
  | 86 => some [[1, 3, 5, 6], [3, 5, 6, 7], [3, 5, 6, 7, 8], [3, 6], [3, 5, 6, 7, 12], [3, 6], [3, 5, 6, 7, 16], [3, 6], [3, 5, 6, 7, 20], [3, 6], [3, 5, 6, 7, 24], [3, 6], [3, 5, 6, 7, 28], [3, 6], [3, 5, 6, 32], [3, 6], [6]]
  | 87 => some [[0, 3], [3, 4, 5], [3, 4, 5, 17], [2, 3], [3, 4, 6], [3, 4, 6, 22], [3, 4, 6], [3, 4, 6, 42], [2, 3], [3, 4, 7], [3, 4, 7, 8], [3, 4, 7, 8, 52], [3, 4, 7, 8], [3, 4, 7, 8, 9], [3, 4, 7, 8, 9, 57], [3, 4, 7, 8, 9], [3, 4, 7, 8, 9, 83], [2, 3], [3, 4, 7, 8], [2, 3]]
  | 88 => some [[0, 2, 3], [2, 3, 4, 5], [2, 3, 4, 5, 15], [2, 3], [2, 3, 4, 6], [2, 3, 4, 6, 7], [2, 3, 4, 6, 7, 21], [2, 3, 4, 6, 7], [2, 3, 4, 6, 7, 30], [2, 3], [2, 3, 4, 6, 7], [2, 3]]
  | 89 => some [[1, 3, 5, 6], [3, 5, 6, 7], [3, 5, 6, 7, 8], [3, 6], [3, 5, 6, 7, 13], [3, 6], [3, 5, 6, 7, 18], [3, 6], [3, 5, 6, 7, 23], [3, 6], [3, 5, 6, 7, 28], [3, 6], [3, 5, 6, 33], [3, 6], [6]]
  | 90 => some [[0, 3], [3, 4, 5], [3, 4, 5, 22], [2, 3], [3, 4, 6], [3, 4, 6, 7], [3, 4, 6, 7, 8], [3, 4, 6, 7, 8, 27], [3, 4, 6, 7, 8], [3, 4, 6, 7, 8, 36], [2, 3], [3, 4, 6, 7, 8, 9, 10], [3, 4, 6, 7, 8, 9, 55], [2, 3], [3, 4, 6, 7, 8, 9], [3, 4, 6, 7, 8], [3, 4, 6, 7, 11], [3, 4, 6, 7, 11, 74], [3, 4, 6, 7, 11], [3, 4, 6, 7, 11, 97], [2, 3], [3, 4, 6, 7, 12], [3, 4, 6, 7, 12, 13], [3, 4, 6, 7, 12, 13, 107], [3, 4, 6, 7, 12, 13], [3, 4, 6, 7, 12, 13, 113], [2, 3], [3, 4, 6, 7, 12, 13, 14], [3, 4, 6, 7, 12, 13, 14, 131], [3, 4, 6, 7, 12, 13, 14], [3, 4, 6, 7, 12, 13, 14], [2, 3]]
  | 91 => some [[1, 2, 3, 6], [2, 3, 6, 7], [2, 3, 6, 7, 8], [3, 6], [2, 3, 6, 7, 13], [3, 6], [2, 3, 6, 7, 18], [3, 6], [2, 3, 6, 7, 23], [3, 6], [2, 3, 6, 7, 28], [3, 6], [2, 3, 6, 33], [3, 6], [6]]
  | 92 => some [[0], [0, 4], [2], [2]]
  | 93 => some [[1], [1, 10], [2, 3], [1, 4], [1, 4, 5], [1, 4, 5, 15], [1, 4, 5], [1, 4, 5], [1, 4], [1, 4, 6], [1, 4, 6, 32], [1, 4, 6], [1, 4, 6, 7], [1, 4, 6, 7], [1, 4, 6, 7, 49], [1, 4, 6, 7], [1, 4, 6], [2, 3]]
  | 94 => some [[0], [0, 3], [0, 3, 4], [0, 3, 4, 10], [0, 3, 4], [0, 3, 4], [5], [2]]
  | 95 => some [[1], [1, 3], [1, 3, 4], [1, 3, 4, 11], [1, 3, 4], [1, 3, 4], [5], [2]]
  | 96 => some [[0], [0, 4], [0, 4, 10], [2, 3], [0, 5], [0, 5, 6], [0, 5, 6, 15], [0, 5, 6], [0, 5, 6], [2, 3]]
  | 97 => some [[0], [0, 4], [2], [2]]
  | _ => none
noncomputable def kpC6 (g : Nat) : Option (List (List Nat)) :=
  match g with
  | 98 => some [[0, 1], [0, 1, 5], [0, 1, 5, 6], [0, 1, 5, 6, 14], [0, 1, 5, 6, 14, 15, 16], [0, 1, 5, 6, 7, 8, 14], [0, 1, 5, 6, 7, 14, 21], [0, 1, 5, 6, 7, 14, 23], [0, 1, 5, 6, 14], [0, 1, 5, 6, 14], [0, 1, 5, 6, 7, 14, 33], [0, 1, 5, 6, 14], [0, 5, 6, 36], [0, 5], [0, 5, 9], [0, 9, 47, 48, 49], [0, 9, 47, 48, 49, 50], [0, 9, 10, 11, 47, 48, 49], [0, 9, 47, 48, 49], [0, 9, 47, 48, 49], [4]]
  | 99 => some [[0], [0, 5], [6], [6, 7], [6, 7], [6, 7], [6, 7], [6, 7], [6, 7], [6, 7], [7], [2], [2], [2]]
  | 100 => some [[0, 1], [0, 1, 10], [4], [0, 1, 12, 13], [0, 1, 12, 13, 14], [0, 1, 5, 12, 13], [0, 1, 12, 13, 24], [4], [0, 1, 12, 13], [4]]
  | 101 => some [[0, 1, 2], [0, 1, 2, 14], [6], [1, 2, 15, 16, 17], [1, 2, 15, 16, 17, 18], [1, 2, 7, 8, 15, 16, 17], [1, 2, 8, 9, 15, 16, 17], [1, 2, 15, 16, 17, 30], [6], [1, 2, 15, 16, 17], [6]]
  | 102 => some [[0, 1, 2], [5]]
  | 103 => some [[0, 1, 2], [0, 1, 2, 14], [6], [1, 2, 15, 16, 17], [1, 2, 15, 16, 17, 18], [1, 2, 7, 8, 15, 16, 17], [1, 2, 8, 9, 15, 16, 17], [1, 2, 15, 16, 17, 30], [6], [1, 2, 15, 16, 17], [6]]
  | 104 => some [[2, 3], [4]]
  | 105 => some [[0, 1], [4]]
  | 106 => some [[0, 1, 2], [0, 1, 2, 14], [6], [1, 2, 15, 16, 17], [1, 2, 15, 16, 17, 18], [1, 2, 7, 8, 15, 16, 17], [1, 2, 8, 9, 15, 16, 17], [1, 2, 15, 16, 17, 30], [6], [1, 2, 15, 16, 17], [6]]
  | 107 => some [[0, 1, 2], [5]]
  | 108 => some [[0, 1], [0, 1, 10], [4], [0, 1, 12, 13], [0, 1, 12, 13, 14], [0, 1, 5, 12, 13], [0, 1, 12, 13, 24], [4], [0, 1, 12, 13], [4]]
  | 109 => some [[0, 1, 2], [0, 1, 2, 14], [6], [1, 2, 15, 16, 17], [1, 2, 15, 16, 17, 18], [1, 2, 7, 8, 15, 16, 17], [1, 2, 8, 9, 15, 16, 17], [1, 2, 15, 16, 17, 30], [6], [1, 2, 15, 16, 17], [6]]
  | 110 => some [[0, 1, 2], [5]]
  | 111 => some [[0, 1], [0, 1, 10], [4], [0, 1, 12, 13], [0, 1, 12, 13, 14], [0, 1, 5, 12, 13], [0, 1, 12, 13, 24], [4], [0, 1, 12, 13], [4]]
  | 112 => some [[0], [2]]
  | 113 => some [[0, 1], [4, 5, 6]]
  | _ => none
noncomputable def kpC7 (g : Nat) : Option (List (List Nat)) :=
  match g with
  | 114 => some [[0, 1], [4]]
  | 115 => some [[0, 1], [0, 1, 6, 7], [4, 5]]
  | 116 => some [[0], [3], [2], [2]]
  | 117 => some [[1], [1, 4], [1, 15], [2], [1, 17, 18, 19], [1, 17, 18, 19, 20], [1, 5, 6, 17, 18, 19], [1, 5, 6, 17, 18, 19, 39], [2], [1, 5, 6, 17, 18, 19, 41], [1, 6, 7, 17, 18, 19], [1, 17, 18, 19, 67], [2], [1, 17, 18, 19], [2]]
  | 118 => some [[1], [1, 11], [2, 3], [1, 4], [1, 4, 17, 18, 19], [1, 4, 17, 18, 19, 20], [1, 4, 6, 17, 18, 19], [1, 4, 17, 18, 19], [1, 4, 17, 18, 19], [1, 7, 8], [1, 7, 8, 45], [2, 3], [2, 3]]
  | 119 => some [[0, 2, 3], [0, 2, 3, 16], [2, 3], [2, 3, 4, 5, 6, 7], [2, 3, 4, 5, 6, 27], [2, 3], [2, 3, 4, 5, 6, 7, 8], [2, 3, 4, 5, 6, 8, 37], [2, 3], [2, 3, 4, 5, 8, 9, 10], [2, 3, 4, 5, 8, 9, 10, 48], [2, 3, 10], [2, 3], [2, 3, 4, 10, 11], [2, 3, 4, 10, 11, 65], [2, 3], [2, 3, 12, 13], [2, 3]]
  | 120 => some [[0], [0, 5, 6, 7], [0, 5, 6, 7, 8], [0, 3, 4, 5, 6, 7], [0, 3, 4, 5, 6, 7, 36], [2], [0, 5, 6, 7, 72], [2], [0, 5, 6, 7], [2]]
  | 121 => some [[0], [0, 4], [4, 10, 11, 12], [4, 10, 11, 12, 13], [4, 6, 10, 11, 12], [4, 6, 7, 10, 11, 12], [4, 6, 7, 10, 11, 12, 19], [2, 3], [4, 6, 10, 11, 12], [4, 6, 10, 11, 12, 29], [4, 6, 10, 11, 12], [4, 6, 10, 11, 12, 36, 37, 38], [4, 6, 10, 11, 12, 36, 37, 38, 39], [4, 6, 9, 10, 11, 12, 36, 37, 38], [4, 6, 10, 11, 12, 36, 37, 38], [4, 6, 10, 11, 12, 36, 37, 38], [4, 6, 10, 11, 12, 48], [4, 10, 11, 12], [4, 10, 11, 12], [4, 10, 11, 12], [2, 3]]
  | 122 => some [[0, 1, 5], [1, 5, 6, 7], [1, 5, 6, 7, 19], [4, 5], [1, 5, 6, 21, 22, 23], [1, 5, 6, 21, 22, 23, 24], [1, 5, 6, 9, 21, 22, 23], [1, 5, 6, 9, 21, 22, 23, 31], [4, 5], [1, 5, 6, 9, 21, 22, 23, 36], [1, 5, 6, 9, 10, 11, 21, 22, 23], [1, 5, 6, 9, 21, 22, 23, 50], [4, 5], [1, 5, 6, 21, 22, 23], [4, 5]]
  | 123 => some [[0, 1, 2], [0, 1, 2, 8], [0, 1, 2, 8, 9, 10], [0, 1, 2, 8, 9, 10, 17], [0, 1, 2, 8, 9, 10, 11], [0, 1, 2, 8, 9, 10, 11, 31], [0, 1, 2, 8, 9, 10], [0, 1, 2, 8, 9, 10], [6, 7]]
  | 124 => some [[1, 2], [4]]
  | 125 => some [[0, 1, 2], [0, 1, 2], [0, 1, 2, 7], [0, 1, 2, 7, 16], [6], [0, 1, 2, 7, 8], [0, 1, 2, 7, 8, 22], [6], [0, 1, 2, 7, 8, 31], [0, 1, 2, 7, 9], [0, 1, 7, 9], [9], [6], [0, 1, 2, 7, 8], [0, 1, 2, 7, 8, 68], [0, 1, 2], [0], [6], [0, 1, 7], [0], [6]]
  | 126 => some [[0], [0, 3], [0, 3, 7], [2], [11], [2], [2]]
  | 127 => some [[0], [0, 4], [0, 4, 11], [2, 3], [0, 5], [5, 13, 14, 15], [5, 13, 14, 15, 16], [5, 7, 13, 14, 15], [5, 13, 14, 15], [5, 13, 14, 15], [2, 3]]
  | 128 => some [[0, 3], [3, 4, 5], [3, 4, 5, 28], [2, 3], [3, 4, 6], [3, 4, 6, 30, 31, 32], [3, 4, 6, 30, 31, 32, 33], [3, 4, 6, 8, 30, 31, 32], [3, 4, 6, 8, 9, 10, 30, 31, 32], [3, 4, 6, 8, 9, 10, 30, 31, 32, 41], [3, 4, 6, 8, 9, 10, 30, 31, 32], [3, 4, 6, 8, 9, 30, 31, 32, 51], [2, 3], [3, 4, 6, 30, 31, 32], [3, 4, 6, 30, 31, 32], [3, 4, 6, 60, 61, 62], [3, 4, 6, 60, 61, 62, 63], [3, 4, 6, 11, 12, 60, 61, 62], [3, 4, 6, 12, 60, 61, 62, 81], [2, 3], [3, 4, 6, 60, 61, 62], [3, 4, 6, 13], [3, 4, 6, 13, 14], [3, 6, 13, 14, 87, 88, 89], [3, 6, 13, 14, 87, 88, 89, 90], [3, 6, 13, 14, 15, 16, 87, 88, 89], [3, 6, 13, 14, 15, 16, 17, 87, 88, 89], [3, 6, 13, 14, 15, 16, 17, 87, 88, 89, 99], [3, 6, 13, 14, 15, 16, 17, 87, 88, 89], [3, 6, 13, 14, 15, 16, 17, 18, 87, 88, 89], [3, 6, 13, 14, 15, 16, 17, 18, 87, 88, 89], [3, 6, 13, 14, 15, 16, 17, 18, 19, 87, 88, 89], [3, 6, 13, 14, 15, 16, 17, 18, 87, 88, 89, 115], [2, 3], [3, 6, 13, 14, 15, 16, 17, 87, 88, 89], [3, 6, 13, 14, 15, 16, 20, 87, 88, 89], [3, 6, 13, 14, 15, 16, 20, 87, 88, 89, 128], [3, 6, 13, 14, 15, 16, 20, 87, 88, 89], [3, 6, 13, 14, 15, 16, 20, 87, 88, 89], [3, 6, 13, 14, 87, 88, 89], [3, 13], [2, 3]]
  | 129 => some [[1], [1, 3], [1, 3, 15], [2], [1, 16, 17, 18], [1, 16, 17, 18, 19], [1, 4, 5, 16, 17, 18], [1, 16, 17, 18, 29], [2], [1, 16, 17, 18], [2]]
  | _ => none
noncomputable def kpC8 (g : Nat) : Option (List (List Nat)) :=
  match g with
  | 130 => some [[0, 2], [0, 2, 3], [2, 3, 10, 11, 12], [2, 3, 10, 11, 12, 13], [2, 3, 5, 10, 11, 12], [2, 3, 5, 10, 11, 12], [2, 3, 5, 10, 11, 12, 28], [2, 3, 10, 11, 12], [2, 3, 10, 11, 12], [2, 3], [2, 3, 6], [2, 6, 36, 37, 38], [2, 6, 36, 37, 38, 39], [2, 6, 8, 36, 37, 38], [2, 6, 8, 9, 36, 37, 38], [2, 6, 8, 9, 36, 37, 38, 57], [2, 6, 36, 37, 38], [2, 6, 36, 37, 38], [2, 6, 36, 37, 38], [2]]
  | 131 => some [[0], [0, 12], [2], [0, 3], [0, 3, 16], [0, 3], [0, 3, 24], [2], [0, 3, 4], [0, 3, 4, 27], [0, 3, 4], [0, 3, 4, 38], [2], [2]]
  | 132 => some [[2, 3], [2, 3, 12], [4], [2, 3, 5], [2, 3, 5, 17], [2, 3, 5], [2, 3, 5, 30], [4], [4]]
  | 133 => some [[0, 2], [2]]
  | 134 => some [[0], [0, 3], [0, 3, 9], [0, 3], [0, 3, 17], [2], [0, 4], [0, 4, 21], [0, 4], [0, 4, 30], [2], [0, 5], [0, 5, 34], [0, 5], [0, 5, 51], [2], [53], [2], [2]]
  | 135 => some [[2, 3], [4]]
  | 136 => some [[0, 1], [0, 1, 5], [0, 1, 5, 6], [0, 1, 5, 6, 7], [0, 1, 5, 6, 7, 11], [0, 1, 5, 6, 7], [0, 1, 5, 6, 7, 18], [0, 1, 5, 7], [0, 1, 5, 6, 7], [4]]
  | 137 => some [[0, 1], [0, 1, 23], [4], [0, 1, 5], [0, 1, 5, 6], [0, 1, 5, 6, 27], [0, 1, 5, 6], [0, 1, 5, 6, 39], [4], [0, 1, 5, 6], [5, 50], [4], [4]]
  | 138 => some [[0], [0, 5, 6], [0, 5, 6, 11], [0, 5, 6, 7], [0, 5, 6, 7, 22], [0, 5, 6, 7], [0, 5, 6, 7], [0, 5, 6, 7, 29], [2, 3, 4], [0, 5, 6], [2, 3, 4]]
  | 139 => some [[0], [4], [4, 16], [2, 3], [4, 5], [4, 5, 20], [4, 5], [4, 5, 27], [2, 3], [2, 3]]
  | 140 => some [[0, 3], [0, 3, 17], [2, 3], [0, 3, 4], [3, 4, 5], [3, 4, 5, 6], [3, 4, 5, 6, 24], [3, 4, 5, 6], [3, 4, 5, 6, 7, 8], [3, 4, 5, 6, 7, 8, 37], [3, 4, 5, 6, 8, 9], [3, 4, 5, 6, 8, 9, 10, 11, 12], [3, 4, 5, 6, 8, 9, 10, 11, 50], [2, 3], [3, 4, 5, 6, 9, 13], [3, 4, 5, 6, 9, 13, 14], [3, 4, 5, 6, 9, 13, 14, 63], [3, 4, 5, 6, 9, 13, 14], [3, 4, 5, 6, 9, 13, 14], [3, 4, 5, 6], [2, 3]]
  | 141 => some [[0, 1], [0, 1, 5], [0, 1, 5, 9], [0, 1, 5], [0, 1, 5, 17], [4], [4]]
  | 142 => some [[2, 3], [4]]
  | 143 => some [[0, 1, 4], [0, 1, 4, 15], [4, 5], [0, 1, 4, 6], [0, 1, 4, 6, 20], [0, 1, 4, 6], [0, 1, 4, 6, 67], [4, 5], [0, 1, 4, 7], [0, 1, 4, 7, 72], [0, 1, 4, 7], [0, 1, 4, 7, 8], [0, 1, 4, 7, 8, 77], [0, 1, 4, 7, 8], [0, 1, 4, 7, 8, 88], [4, 5], [1, 4, 9], [4, 9, 10], [4, 9, 10, 11], [4, 9, 10, 11, 99], [4, 9, 10, 11], [4, 9, 10, 11, 12], [4, 9, 10, 11, 12, 110], [4, 9, 10, 11, 12, 143], [4, 9, 10, 11], [4, 9, 10, 11], [4, 5]]
  | 144 => some [[0, 3], [0, 3, 5], [0, 3, 5, 6], [0, 3, 5, 6, 7], [0, 3, 5, 6, 7, 11], [0, 3, 5, 6, 7], [0, 3, 5, 6, 7, 25], [0, 3, 5, 7], [0, 3, 5, 6, 7], [0, 3, 5, 6, 7], [3, 5, 38], [5], [4]]
  | 145 => some [[0], [0, 3], [0, 3, 4], [0, 3, 4, 9], [0, 3, 4], [0, 3, 4, 5], [0, 3, 4, 5, 44], [0, 3, 4], [0, 3, 4], [2]]
  | _ => none
noncomputable def kpC9 (g : Nat) : Option (List (List Nat)) :=
  match g with
  | 146 => some [[0, 2], [0, 2, 4], [0, 2, 4, 5], [0, 2, 4, 5, 17], [0, 2, 4, 6], [0, 2, 4, 6, 27], [0, 2, 4, 6], [0, 2, 4, 6, 40], [2, 3], [0, 2, 4, 6], [0, 2, 4, 5], [0, 2, 4, 5, 57], [0, 2, 4, 5], [0, 2, 4, 7, 8], [0, 2, 4, 8], [2, 3]]
  | 147 => some [[0, 1, 2], [0, 1, 2, 7], [0, 1, 2, 7, 10], [0, 1, 2, 7], [0, 1, 2, 7, 47], [6], [6]]
  | 148 => some [[0, 3], [0, 3], [0, 3, 5], [0, 3, 5, 23], [0, 3, 5], [0, 3, 5], [0, 3, 5], [4]]
  | 149 => some [[0], [0, 6], [2], [0, 3], [0, 3, 13], [0, 3], [0, 3], [2]]
  | 150 => some [[0], [0, 4], [0, 4, 11], [0, 4], [0, 4, 5], [0, 4, 5, 20], [2, 3], [0, 6], [0, 6, 7], [0, 6, 7, 25], [0, 6, 7], [0, 6, 7], [2, 3]]
  | 151 => some [[1], [1, 3], [1, 3, 13], [2], [1, 3, 16], [1, 3], [2]]
  | 152 => some [[0, 1], [0, 1, 5], [0, 1, 5, 6], [0, 1, 5, 6, 32], [4], [1, 7], [1, 7, 54], [4], [4]]
  | 153 => some [[0, 1], [0, 1, 10], [4], [0, 1, 12, 13], [0, 1, 12, 13, 14], [0, 1, 5, 12, 13], [0, 1, 12, 13, 24], [4], [0, 1, 12, 13], [4]]
  | 154 => some [[0], [2]]
  | 155 => some [[0, 1], [0, 1, 7], [0, 1, 7, 12], [4, 5, 6], [4, 5, 6]]
  | 156 => some [[0, 1], [0, 1, 7], [4], [4]]
  | 157 => some [[0], [0, 4, 5], [0, 4, 5, 12], [2, 3], [2, 3]]
  | 158 => some [[0], [0, 4], [0, 4, 12, 13, 14], [0, 4, 12, 13, 14, 15], [0, 4, 5, 6, 12, 13, 14], [0, 4, 5, 6, 8, 12, 13, 14], [0, 4, 5, 6, 12, 13, 14, 30], [2, 3], [0, 4, 12, 13, 14], [0, 4, 12, 13, 14], [2, 3]]
  | 159 => some [[1], [2]]
  | 160 => some [[0, 1], [0, 1, 12], [0, 1, 12, 13], [4], [0, 1, 15], [4], [0, 1, 5], [0, 1, 5, 22], [0, 1, 5, 29], [0, 1, 5], [0, 1, 5], [0, 1, 5, 39, 40, 41], [0, 1, 5, 39, 40, 41, 42], [0, 1, 5, 7, 39, 40, 41], [0, 1, 5, 7, 39, 40, 41, 49], [0, 1, 5, 7, 39, 40, 41], [0, 1, 5, 39, 40, 41], [0, 1, 5, 39, 40, 41], [0, 1, 5, 8], [0, 1, 8], [0, 1, 8], [1, 8, 63, 64, 65], [1, 8, 63, 64, 65, 66], [1, 8, 10, 63, 64, 65], [1, 8, 10, 63, 64, 65], [1, 8, 63, 64, 65], [1, 8, 63, 64, 65], [4]]
  | 161 => some [[0], [0, 6], [0, 6, 12], [6, 7, 8], [6, 7, 8, 20], [6, 8, 10], [2, 3, 4, 5], [0, 6], [0, 6], [2, 3, 4, 5]]
  | _ => none
noncomputable def kpC10 (g : Nat) : Option (List (List Nat)) :=
  match g with
  | 162 => some [[0, 2, 3], [0, 2, 3, 16], [2, 3], [0, 2, 3, 4], [2, 3, 4, 19], [2, 3, 4, 5, 21], [2, 3, 4, 5, 6], [2, 3, 4, 5, 7, 8], [2, 3, 4, 5, 7, 8, 30], [2, 3, 4, 5, 7, 10], [2, 3, 4, 5, 10, 36, 37, 38], [2, 3, 4, 5, 10, 36, 37, 38, 39], [2, 3, 4, 5, 10, 11, 12, 36, 37, 38], [2, 3, 4, 5, 10, 11, 12, 36, 37, 38], [2, 3, 4, 5, 10, 12, 36, 37, 38, 46], [2, 3, 4, 5, 10, 36, 37, 38], [2, 3, 4, 5, 10, 12, 36, 37, 38], [2, 3, 4, 5, 10, 13, 36, 37, 38], [2, 3, 4, 5, 10, 36, 37, 38, 62], [], [2, 3, 4, 5, 10, 36, 37, 38], [], [2, 3]]
  | 163 => some [[0, 1, 2, 7], [0, 1, 2, 7, 17, 18, 19], [0, 1, 2, 7, 17, 18, 19, 20], [0, 1, 2, 7, 9, 17, 18, 19], [0, 1, 2, 7, 9, 17, 18, 19, 26], [6, 7], [0, 1, 2, 7, 17, 18, 19], [0, 1, 2, 7, 10], [0, 1, 2, 7, 10, 36, 37, 38], [0, 1, 2, 7, 10, 36, 37, 38, 39], [0, 1, 2, 7, 10, 12, 36, 37, 38], [0, 1, 2, 7, 10, 12, 13, 14, 36, 37, 38], [0, 1, 2, 7, 10, 12, 13, 36, 37, 38, 52], [6, 7], [0, 1, 2, 7, 10, 36, 37, 38], [0, 1, 2, 7, 10, 36, 37, 38], [0, 2, 7, 10, 68, 69, 70], [0, 2, 7, 10, 68, 69, 70, 71], [0, 2, 7, 10, 15, 16, 68, 69, 70], [0, 2, 7, 10, 15, 68, 69, 70, 79], [6, 7], [0, 2, 7, 10, 68, 69, 70], [6, 7]]
  | 164 => some [[1, 2, 4], [1, 2, 4, 7], [1, 2, 4, 15], [4, 5], [1, 2, 4, 19], [4, 5], [1, 2, 4], [1, 2, 4, 8], [1, 2, 4, 8, 27], [1, 2, 4, 8], [1, 2, 4, 8, 41], [4, 5], [4, 5]]
  | 165 => some [[1], [1, 21], [2], [1, 23, 24, 25], [1, 23, 24, 25, 26], [1, 4, 23, 24, 25], [1, 23, 24, 25, 36], [2], [1, 23, 24, 25], [48], [2], [2]]
  | 166 => some [[0, 1], [0, 1], [1], [4, 5]]
  | 167 => some [[0], [0, 8], [2], [0, 3], [0, 3, 4], [0, 3, 4, 5], [0, 3, 4, 5, 15], [0, 3, 4, 5], [0, 3, 4, 5], [0, 3, 4, 5], [2]]
  | 168 => some [[0, 1], [0, 1], [], [4]]
  | 169 => some [[0], [2]]
  | 171 => some [[]]
  | 172 => some [[0], [0, 13, 14, 15], [0, 13, 14, 15, 16], [0, 4, 13, 14, 15], [0, 13, 14, 15, 29], [2], [0, 13, 14, 15], [0, 31, 32, 33], [0, 31, 32, 33, 34], [0, 6, 31, 32, 33], [0, 31, 32, 33, 40], [2], [0, 31, 32, 33], [0, 42, 43, 44], [0, 42, 43, 44, 45], [0, 8, 42, 43, 44], [0, 42, 43, 44, 56], [2], [0, 42, 43, 44], [0, 9], [9, 59, 60, 61], [9, 59, 60, 61, 62], [9, 11, 59, 60, 61], [9, 12, 59, 60, 61], [9, 12, 59, 60, 61, 72], [2], [9, 59, 60, 61], [9, 59, 60, 61], [2]]
  | 173 => some [[0, 1], [0, 1, 5], [0, 1, 5, 10], [0, 1, 5], [0, 1, 5, 24], [4], [4]]
  | 174 => some [[2, 3], [4]]
  | 175 => some [[1], [1, 3], [1, 3, 11], [2], [1, 3, 16], [2], [2]]
  | 176 => some [[0, 2], [0, 2, 4], [0, 2, 4, 5, 6], [0, 2, 4, 5, 17], [2, 4, 7, 8, 9], [2, 4, 7, 8, 30], [2, 3], [2, 4, 8], [2, 4, 8, 35], [2, 3], [0, 2, 4, 6], [0, 2, 4, 47], [2, 3], [2, 4, 10, 11], [2, 4, 11], [2, 3]]
  | 177 => some [[1, 2], [1, 2], [2]]
  | 178 => some [[0, 1, 4], []]
  | _ => none
noncomputable def kpC11 (g : Nat) : Option (List (List Nat)) :=
  match g with
  | 179 => some [[0, 1, 4], []]
  | 180 => some [[2, 3], [4]]
  | 181 => some [[0, 1], [0, 1, 5], [0, 1, 5, 6], [0, 1, 6, 11], [12], [4], [4], [0, 1, 13], [4], [0, 1, 16], [4], [19], [4], [4]]
  | 182 => some [[0], [0, 12], [2], [0, 3], [0, 3, 16], [0, 3], [0, 3, 4], [0, 3, 48], [2], [2]]
  | 183 => some [[2, 3, 4, 6], [2, 3, 4, 6, 7], [2, 3, 4, 6, 7, 8], [2, 3, 4, 6, 7, 8, 9], [2, 3, 4, 6, 7, 8, 9, 10], [2, 3, 4, 6, 7, 8, 9, 10, 20], [2, 3, 4, 6, 7, 8, 9, 10], [2, 3, 4, 6, 7, 8, 9, 10, 11], [2, 3, 4, 6, 7, 8, 9, 10, 11, 27], [2, 3, 4, 6, 7, 8, 9, 10, 11], [2, 3, 4, 6, 7, 8, 9, 10, 11, 12], [2, 3, 4, 6, 7, 8, 9, 10, 11, 12, 51], [2, 3, 4, 6, 7, 8, 9, 10, 11, 12], [2, 3, 4, 6, 7, 8, 10, 11, 12, 65], [2, 3, 4, 6, 7, 8, 10, 12], [2, 3, 4, 6, 7, 8, 9, 10], [6]]
  | 184 => some [[1], [1, 3], [1, 3, 8], [1, 3], [1, 3, 17], [2], [2]]
  | 185 => some [[0], [0, 3], [0, 3, 8], [0, 3], [0, 3, 4], [0, 3, 40], [2], [2]]
  | 186 => some [[0], [0, 3], [0, 3, 8], [0, 3], [0, 3, 4], [0, 3, 4, 13], [0, 3, 4], [0, 3, 4, 39], [2], [2]]
  | 187 => some [[0], [0, 4], [0, 4, 8], [0, 4], [0, 4, 14], [2, 3], [2, 3]]
  | 188 => some [[0], [0, 10], [0], [0, 23], [0], [2]]
  | 189 => some [[0], [0, 5], [0, 5, 16], [0, 5], [0, 5, 29], [0, 5, 6, 7], [6, 7, 8, 9], [2, 3, 4], [10, 11], [2, 3, 4]]
  | 190 => some [[0], [0, 3], [0, 3, 4], [0, 3, 4, 10], [0, 3, 4], [0, 3, 4, 5], [0, 3, 4, 5, 30], [0, 3, 4, 5], [0, 3, 4, 5, 6], [0, 3, 4, 5, 6], [0, 3, 4, 5, 6], [0, 4, 6], [0, 3, 4], [2]]
  | 191 => some [[0], [0, 4], [0, 4, 5], [0, 4, 5, 6], [0, 4, 5, 6, 18], [0, 4, 5, 6], [0, 4, 5, 6, 7, 8], [0, 4, 5, 6, 7, 30], [2, 3], [0, 4, 5, 6], [2, 3]]
  | 192 => some [[0], [2]]
  | 193 => some [[1], [1, 21], [2], [1, 25], [2], [1, 3], [1, 3, 30], [1, 3], [1, 3, 4], [1, 3, 48], [2], [2]]
  | 194 => some [[1], [1, 3], [1, 3, 12], [1, 3], [1, 3, 4], [1, 3, 4, 23], [1, 3, 4], [1, 3, 4], [1, 3, 36], [3], [2]]
  | _ => none
noncomputable def kpC12 (g : Nat) : Option (List (List Nat)) :=
  match g with
  | 195 => some [[0], [0, 4], [0, 4, 5], [0, 4, 5, 9], [0, 4, 5], [0, 4, 5, 17], [2, 3], [0, 4, 5, 19], [0, 4, 5], [0, 4, 5], [2, 3]]
  | 196 => some [[0, 1], [0, 1, 17], [0, 1, 19, 20], [0, 1, 19, 20, 21], [0, 1, 5, 19, 20], [0, 1, 6, 19, 20], [0, 1, 6, 19, 20, 31], [4], [0, 1, 6, 19, 20, 37], [4], [0, 1, 19, 20], [4], [0, 1, 7], [0, 1, 7, 8], [0, 1, 7, 8, 62], [0, 1, 7, 8, 9], [0, 1, 7, 8, 9, 10], [0, 1, 7, 8, 9, 10, 85], [4], [0, 1, 7, 8, 9, 110], [0, 1, 7, 8], [0, 1, 7, 8], [4]]
  | 197 => some [[0, 1], [0, 1, 13], [0, 1, 15, 16], [0, 1, 15, 16, 17], [0, 1, 5, 15, 16], [0, 1, 6, 15, 16], [0, 1, 6, 15, 16, 27], [4], [0, 1, 6, 15, 16, 33], [4], [0, 1, 15, 16], [4], [0, 1, 7], [0, 1, 7, 8], [0, 1, 7, 8, 58], [0, 1, 7, 8, 9], [0, 1, 7, 8, 9, 10], [0, 1, 7, 8, 9, 10, 78], [4], [0, 1, 7, 8, 9, 95], [0, 1, 7, 8], [0, 1, 7, 8], [4]]
  | 198 => some [[0, 1], [0, 1, 11], [0, 17], [4], [0, 5], [0, 5, 6], [0, 5, 6, 23], [0, 5, 6], [0, 5, 6, 7], [0, 5, 7], [5, 7, 34], [5, 7], [4], [4], [9], [4]]
  | 199 => some [[0, 1], [0, 1, 5], [0, 1, 5, 16], [4], [0, 1, 5, 24], [4], [0, 1, 5, 31], [4], [0, 1, 5, 36], [4], [0, 1, 5, 6], [0, 1, 5, 6, 7], [0, 1, 5, 6, 7, 8], [0, 1, 5, 6, 7, 8, 9], [0, 1, 5, 6, 7, 8, 9, 10], [0, 1, 5, 6, 7, 8, 9, 10, 59], [0, 1, 5, 6, 7, 8, 9, 10, 64], [0, 1, 5, 6, 7, 8, 9, 10, 11], [0, 1, 5, 6, 7, 8, 9, 10, 11, 73], [4], [0, 1, 5, 6, 7, 8, 9, 10], [0, 1, 5, 6, 7, 8, 9, 10, 93], [4], [0, 1, 5, 6, 7, 8, 9, 10], [0, 1, 5, 6, 7, 8, 9, 10], [0, 1, 5, 6, 7, 8, 9, 10, 107], [8, 12], [8, 12, 114], [4], [4], [0, 1, 5, 6, 7, 8, 9, 10, 132], [8, 13], [8, 13, 139], [4], [4], [4]]
  | 200 => some [[0, 1], [4]]
  | 201 => some [[0], [0, 4], [0, 30], [0, 5], [0, 5, 39], [0, 5], [0, 5, 44], [2, 3], [0, 5, 6], [5, 6, 47, 48, 49], [5, 6, 47, 48, 49, 50], [5, 6, 8, 47, 48, 49], [5, 6, 8, 47, 48, 49], [5, 6, 8, 47, 48, 49, 56], [2, 3], [5, 6, 47, 48, 49], [5, 6, 47, 48, 49], [6, 66], [6], [2, 3], [9, 10], [2, 3]]
  | 202 => some [[0, 1, 2, 3, 4], [0, 1, 2, 3, 4, 11], [0, 1, 2, 3, 4, 11, 12], [10], [0, 1, 2, 3, 4, 11, 19], [10], [0, 1, 2, 3, 4, 11, 26], [10], [0, 1, 3, 4, 34], [10], [10]]
  | 203 => some [[0], [2]]
  | 204 => some [[0], [2]]
  | 205 => some [[0, 1], [0, 1, 7], [0, 1], [0, 1, 21], []]
  | 206 => some [[0, 1], [4]]
  | 207 => some [[1], [2]]
  | 208 => some [[0], [2]]
  | 209 => some [[0], [5, 6, 7], [6, 7, 8, 9], [6, 7, 8, 9, 10], [6, 8, 9, 10, 24], [6, 8, 9], [8, 9, 10, 11], [8, 9, 10, 31], [2, 3, 4], [2, 3, 4]]
  | 210 => some [[0, 1], [4]]
  | _ => none
noncomputable def kpC13 (g : Nat) : Option (List (List Nat)) :=
  match g with
  | 211 => some [[1, 2], [3]]
  | 212 => some [[1, 2], [3]]
  | 213 => some [[0, 1], [1, 5], [5], [4]]
  | 214 => some [[1], [2]]
  | 215 => some [[2, 3], [4]]
  | 216 => some [[0], [0, 3], [3, 7, 8, 9], [3, 7, 8, 9, 10], [3, 5, 7, 8, 9], [3, 5, 7, 8, 9, 15], [3, 5, 6, 7, 8, 9], [3, 5, 6, 7, 8, 9, 42], [3, 7, 8, 9], [3, 7, 8, 9], [3, 7, 8, 9], [2]]
  | 217 => some [[0, 1], [4]]
  | 218 => some [[0, 1], [4]]
  | 219 => some [[0, 6], [], [19]]
  | 220 => some [[0, 1], [0], []]
  | 221 => some [[0], [2]]
  | 222 => some [[0], [0, 9], [2], [2]]
  | 223 => some [[0], [0, 3], [3, 6, 7, 8], [3, 6, 7, 8, 9], [3, 5, 6, 7, 8], [3, 5, 6, 7, 8, 14], [2], [3, 6, 7, 8], [2]]
  | 224 => some [[0, 1], [4]]
  | 225 => some [[0], [0, 9], [2, 3], [0, 4], [4, 10, 11, 12], [4, 10, 11, 12, 13], [4, 6, 10, 11, 12], [4, 10, 11, 12], [4, 10, 11, 12], [2, 3]]
  | 226 => some [[0, 1], [4, 5]]
  | _ => none
noncomputable def kpC14 (g : Nat) : Option (List (List Nat)) :=
  match g with
  | 227 => some [[0], [0, 10], [2, 3], [0, 4], [4, 12, 13, 14], [4, 12, 13, 14, 15], [4, 6, 12, 13, 14], [4, 7, 8, 12, 13, 14], [4, 7, 12, 13, 14, 24], [2, 3], [4, 12, 13, 14], [4, 12, 13, 14], [2, 3]]
  | 228 => some [[0], [0, 4], [2], [2]]
  | 229 => some [[0, 1, 2, 3, 4, 10], [0, 1, 2, 3, 4, 10, 11], [0, 1, 2, 3, 4, 10, 11, 12], [0, 1, 2, 3, 4, 10, 11, 12, 25], [], [0, 1, 2, 3, 4, 10, 11, 12, 32], [], [0, 1, 2, 3, 4, 10, 11, 12, 39], [0, 1, 2, 3, 4, 10, 11, 12], [0, 1, 2, 3, 4, 10, 11, 12], [0, 1, 2, 3, 4, 10, 11, 12, 13, 14], [0, 1, 2, 3, 4, 10, 11, 12, 13, 14, 56], [0, 1, 2, 3, 4, 10, 11, 12, 13], [0, 1, 2, 3, 4, 10, 11, 12, 13], [0, 1, 2, 3, 4, 10, 11, 12, 13, 14], [0, 1, 2, 3, 4, 10, 11, 12, 13, 75], [0, 1, 2, 3, 4, 10, 11, 12, 13, 80], [0, 1, 2, 3, 4, 10, 11, 12, 13, 97], [0, 2, 3, 4, 10, 11, 15], [0, 1, 2, 3, 4, 10, 11], [0, 1, 2, 3, 4, 12, 16, 17], [0, 1, 2, 3, 4, 11, 12, 16], [0, 1, 2, 3, 4, 11, 12, 16, 18, 19], [0, 1, 2, 3, 4, 11, 16, 18, 19, 20], [0, 1, 2, 3, 4, 11, 16, 18, 19, 20, 125], [0, 1, 2, 3, 4, 10, 11, 16], [0, 2, 3, 4, 10, 11, 16], [0, 1, 2, 3, 4, 10, 11], [0, 1, 2, 3, 4, 10, 11, 16], [0, 1, 3, 4, 10, 11, 16], [0, 1, 2, 3, 4, 10, 11]]
  | 230 => some [[0], [2], [2]]
  | 231 => some [[0, 1, 2, 3, 4, 10], [0, 1, 2, 3, 4, 10, 11], [0, 1, 2, 3, 4, 10, 11, 12], [0, 1, 2, 3, 4, 10, 11, 12, 25], [], [0, 1, 2, 3, 4, 10, 11, 12, 32], [], [0, 1, 2, 3, 4, 10, 11, 12, 39], [0, 1, 2, 3, 4, 10, 11, 12], [0, 1, 2, 3, 4, 10, 11, 12], [0, 1, 2, 3, 4, 10, 11, 12, 13, 14], [0, 1, 2, 3, 4, 10, 11, 12, 13, 14, 56], [0, 1, 2, 3, 4, 10, 11, 12, 13], [0, 1, 2, 3, 4, 10, 11, 12, 13], [0, 1, 2, 3, 4, 10, 11, 12, 13, 14], [0, 1, 2, 3, 4, 10, 11, 12, 13, 75], [0, 1, 2, 3, 4, 10, 11, 12, 13, 80], [0, 1, 2, 3, 4, 10, 11, 12, 13, 97], [0, 2, 3, 4, 10, 11, 15], [0, 1, 2, 3, 4, 10, 11], [0, 1, 2, 3, 4, 12, 16, 17], [0, 1, 2, 3, 4, 11, 12, 16], [0, 1, 2, 3, 4, 11, 12, 16, 18, 19], [0, 1, 2, 3, 4, 11, 16, 18, 19, 20], [0, 1, 2, 3, 4, 11, 16, 18, 19, 20, 125], [0, 1, 2, 3, 4, 10, 11, 16], [0, 2, 3, 4, 10, 11, 16], [0, 1, 2, 3, 4, 10, 11], [0, 1, 2, 3, 4, 10, 11, 16], [0, 1, 3, 4, 10, 11, 16], [0, 1, 2, 3, 4, 10, 11]]
  | 232 => some [[0], [2]]
  | 233 => some [[0, 3], [0, 3, 5], [0, 3, 5, 12], [0, 3, 5], [0, 3, 5, 6, 7], [0, 3, 5, 6, 7, 28], [0, 3, 5, 7], [0, 3, 5, 7, 37], [0, 3, 5], [4]]
  | 234 => some [[0, 1, 2], [1, 2, 7], [1, 2, 7, 8], [6], [1, 2, 14], [6], [6]]
  | 235 => some [[1, 2], [1, 2, 5], [1, 2, 5, 10], [1, 2, 5], [1, 2, 5, 34], [4], [4]]
  | 236 => some [[0], [2]]
  | 237 => some [[0], [0, 4], [0, 4, 13], [2, 3], [0, 4, 5], [0, 4, 5, 17], [0, 4, 5], [0, 4, 5, 24], [2, 3], [0, 4, 5], [4, 35], [2, 3], [2, 3]]
  | 238 => some [[0, 1], [0, 1, 5], [0, 1, 5, 6], [0, 1, 5, 6, 7], [0, 1, 5, 6, 7, 11], [0, 1, 5, 6, 7], [0, 1, 5, 6, 7, 18], [0, 1, 5, 7], [0, 1, 5, 6, 7], [4]]
  | 239 => some [[0], [2]]
  | 240 => some [[0, 1], [0, 1, 5], [0, 1, 5, 9], [0, 1, 5], [0, 1, 5, 16], [4], [4]]
  | 241 => some [[0], [0, 4], [2], [2]]
  | 242 => some [[0], [0, 3], [2]]
  | _ => none
noncomputable def kpC15 (g : Nat) : Option (List (List Nat)) :=
  match g with
  | 243 => some [[0, 1, 4], [0, 1, 4, 20], [0, 1, 4, 5], [0, 1, 4, 5], [0, 1, 4, 6, 7], [0, 1, 4, 6, 8, 9], [0, 1, 4, 8, 9, 10, 11], [0, 1, 4, 8, 10, 11], [0, 1, 4, 10, 11], [0, 1, 4, 10], [0, 1, 4], [0, 1, 4], [0, 4, 12], [0, 4, 12, 99], [0, 4, 12, 13], [0, 4, 12, 13], [0, 4, 12, 14, 15], [0, 4, 12, 14], [0, 4, 12], [0, 4, 12], [0, 4, 12, 139], [0, 4, 12, 16], [0, 4, 12, 16], [0, 4, 12], [0, 4, 12], [0, 12, 161], []]
  | 244 => some [[0, 1, 2, 3, 4, 10, 11], [0, 1, 2, 3, 4, 10, 11, 28], [0, 1, 2, 3, 4, 10, 11], [0, 1, 2, 3, 4, 10, 11, 12], [0, 1, 2, 3, 4, 10, 11, 12, 13], [0, 1, 2, 3, 4, 10, 11, 12, 13, 30], [0, 1, 2, 3, 4, 10, 11, 12, 13], [0, 1, 2, 3, 4, 10, 11, 12, 13, 34], [0, 1, 2, 3, 4, 10, 11, 12, 13, 14], [0, 1, 2, 3, 4, 10, 11, 12, 13, 14, 15], [0, 1, 3, 4, 10, 11, 12, 13, 14, 15, 16], [0, 1, 3, 4, 10, 11, 12, 13, 14, 15, 16, 46], [0, 1, 3, 4, 10, 11, 12, 13, 14, 15, 16], [0, 1, 3, 4, 10, 11, 12, 13, 14, 15, 16], [0, 1, 3, 4, 10, 11, 12, 13, 14, 15, 16], [0, 1, 3, 4, 10, 11, 12, 13], [0, 3, 4, 10, 11, 12, 13], [0, 1, 3, 4, 10, 11, 12, 13, 17], [0, 1, 3, 4, 10, 11, 12, 13, 17, 68], [0, 1, 3, 4, 10, 11, 12, 13, 17], [0, 1, 3, 4, 10, 11, 12, 13, 17, 18], [0, 3, 4, 10, 11, 12, 13, 17, 18], [0, 1, 3, 4, 10, 11, 12, 13, 17], [0, 1, 3, 4, 10, 11, 12, 13], [0, 3, 4, 10, 11, 12, 13], [0, 4, 10, 11, 12, 13, 89], [0, 4, 10, 11, 12, 13], [0, 4, 10, 11, 12, 13], [0, 10, 11, 12, 13, 94], [10, 11], [10, 11]]
  | 245 => some [[0, 1], [4]]
  | 247 => some [[0], [2]]
  | 248 => some [[0, 1], [0, 1, 5, 6], [0, 1, 5, 6, 7], [0, 1, 5, 6, 7, 8], [0, 1, 5, 6, 7, 8, 9], [0, 1, 5, 6, 7, 8, 9, 20], [0, 1, 5, 6, 7, 8, 9], [0, 1, 5, 6, 7, 8, 9], [0, 1, 5, 6, 7, 8, 39], [4], [0, 1, 5, 6, 7, 8, 10], [0, 1, 5, 6, 7, 8, 10, 44], [0, 1, 5, 6, 7, 8, 10], [0, 1, 5, 6, 7, 8, 10], [0, 1, 5, 6, 7, 8, 10], [0, 1, 5, 6, 7, 8, 10], [0, 1, 5, 6, 7, 8, 10, 77], [4], [4]]
  | 249 => some [[0, 1, 2], [0, 1, 2, 13], [6, 7], [0, 1, 2, 8], [0, 1, 2, 8, 16], [0, 1, 2, 8, 16, 17], [0, 1, 2, 8], [0, 1, 2, 8, 21], [0, 1, 2], [0, 1, 2, 8], [0, 1, 2, 8], [2, 7, 8, 9], [2, 7, 8, 9, 38], [6, 7], [2, 8, 9, 41], [2, 8, 9], [8, 9, 10], [8, 9, 10, 52], [6, 7], [8, 9, 10, 62], [6, 7], [8, 11], [11, 69], [11], [6, 7]]
  | 250 => some [[0, 1], [4]]
  | 251 => some [[0, 1], [4]]
  | 252 => some [[0, 1, 2], [6]]
  | 253 => some [[0, 1, 2], [6]]
  | 254 => some [[0, 1], [4]]
  | 255 => some [[0], [2]]
  | 256 => some [[0, 4], [0, 4], []]
  | 257 => some [[0, 1, 2, 3], [0, 1, 2, 3, 13], [8], [0, 1, 2, 3, 15], [8], [0, 1, 2, 3, 20], [0, 1, 2, 3], [0, 1, 2, 3], [0, 1, 2, 3, 9], [0, 1, 2, 3, 9], [0, 1, 2, 3, 9, 10], [0, 1, 2, 3, 9, 10, 36], [0, 1, 2, 3, 9, 10, 11], [0, 1, 2, 3, 9, 10, 11, 41], [0, 1, 2, 3, 9, 10, 11], [0, 1, 2, 3, 9, 10], [0, 1, 2, 3, 9, 10], [9, 10], [8]]
  | 258 => some [[0, 1, 3], [0, 1, 3], [0, 1, 3, 4, 5, 6], [0, 1, 3, 5, 23], [0, 1, 3]]
  | 259 => some [[0, 1], [0, 1, 12], [4], [0, 1, 21], [4], [0, 1, 5, 6], [0, 1, 5, 34], [4], [4]]
  | _ => none
noncomputable def kpC16 (g : Nat) : Option (List (List Nat)) :=
  match g with
  | 260 => some [[0], [0, 9], [2, 3], [0, 4], [0, 4, 11, 12], [0, 4, 11, 12, 13], [0, 4, 5, 11, 12], [0, 4, 6, 11, 12], [2, 3], [0, 4, 6, 11, 12, 18], [0, 4, 11, 12], [0, 4, 6, 11, 12, 31], [0, 4, 11, 12], [0, 4, 11, 12], [4, 53], [2, 3], [2, 3]]
  | 261 => some [[0, 1], [0, 1, 7, 8], [0, 1, 7, 8, 9], [0, 1, 5, 7, 8], [0, 1, 5, 7, 8, 16], [4], [0, 1, 7, 8], [4]]
  | 262 => some [[0], [2]]
  | 263 => some [[0, 1, 4], []]
  | 264 => some [[0, 5, 6, 7], [0, 5, 6, 7, 8], [0, 4, 5, 6, 7], [0, 5, 6, 7, 14], [0, 5, 6, 7]]
  | 265 => some [[0, 1], [0, 1, 12], [4], [0, 1, 15], [0, 5], [0, 5, 20], [0, 5], [4], [0, 1, 26], [0, 1, 6, 7], [0, 1, 6, 32], [0, 6, 8], [0, 6, 8, 36], [0, 6, 8], [0, 6, 8, 42], [4], [4], [1, 45], [1, 45, 46, 47], [1, 9, 10, 45], [1, 9, 45, 53], [4], [4]]
  | 266 => some [[0, 1], [4]]
  | 268 => some [[0, 2, 3], [0, 2, 3, 9], [0, 2, 3], [0, 2, 3]]
  | 269 => some [[0, 1], [4]]
  | 270 => some [[0], [2]]
  | 271 => some [[0], [2]]
  | 272 => some [[0, 1], [4]]
  | 273 => some [[0], [5, 6, 7], [5, 6, 7, 8], [4, 5, 6, 7], [5, 6, 7, 13], [2], [5, 6, 7], [2]]
  | 274 => some [[0, 1], [0, 1, 9], [4, 5], [4, 5]]
  | 275 => some [[0, 1, 2, 3, 8], [0, 1, 2, 3, 8, 14], [0, 1, 2, 3, 8], [0, 1, 2, 3, 8, 9], [0, 1, 2, 3, 8, 9, 34], [0, 1, 2, 3, 8, 9], [0, 1, 2, 3, 8, 9]]
  | 276 => some [[0, 1, 2, 3, 8], [0, 1, 2, 3, 8, 9], [0, 3, 8, 9, 10], [0, 3, 8, 9, 10, 11], [0, 3, 8, 9, 10, 11, 21], [0, 3, 8, 9, 10, 11], [0, 3, 8, 9, 10, 11], [0, 3, 8, 9, 12], [0, 3, 8, 9, 12, 33], [0, 3, 8, 9, 12], [0, 3, 8, 9, 12], [0, 3, 8, 9, 12]]
  | _ => none
noncomputable def kpC17 (g : Nat) : Option (List (List Nat)) :=
  match g with
  | 277 => some [[0, 1, 8], [0, 1, 8, 17], [0, 1, 8, 9], [0, 1, 8, 9, 10], [0, 1, 8, 9, 10, 11], [0, 1, 8, 9, 10, 11, 35], [0, 1, 8, 9, 10, 11], [0, 1, 8, 9, 10, 11, 12], [0, 1, 8, 9, 10, 11, 12, 45], [0, 1, 8, 9, 10, 11, 12], [0, 1, 8, 9, 10, 11]]
  | 278 => some [[0, 1, 2, 3], [0, 1, 3, 10], [0, 1, 3, 10, 11], [0, 1, 3, 10, 11, 12], [0, 1, 3, 10, 11, 12, 13], [0, 3, 10, 11, 12, 13, 14], [0, 3, 10, 11, 12, 13, 14, 34], [0, 3, 11, 12, 13, 14, 36], [0, 3, 11, 12, 13, 14], [0, 3, 11, 12, 13, 14], [0, 3, 11, 12, 13, 14], [11, 13], [13, 55], [8, 9], [13, 55, 57], [8, 9], [13, 60], [8, 9]]
  | 279 => some [[0, 2, 8], [0, 8, 9], [0, 8, 9, 15], [0, 8, 9], [0, 8, 9], [0, 8, 9]]
  | 280 => some [[0, 1, 2, 3], [0, 1, 2, 3, 9], [0, 1, 2, 3, 9, 10], [0, 1, 2, 3, 9, 10, 16], [0, 1, 2, 3, 9, 10], [0, 1, 2, 3, 9, 10, 36], [0, 1, 2, 3, 9, 10], [0, 1, 2, 3, 9, 10, 41], [8], [0, 1, 2, 3, 9, 10, 45], [8], [0, 1, 2, 3, 9, 10], [0, 1, 2, 3, 9, 10, 65], [0, 1, 2, 3, 9, 10, 11], [0, 1, 2, 3, 9, 10, 11, 69], [0, 1, 2, 3, 9, 10, 11], [0, 1, 2, 3, 9, 10, 11, 84], [0, 1, 2, 3, 9, 10, 11], [0, 1, 2, 3, 9, 10, 104], [0, 1, 2, 3, 9, 10, 12], [0, 1, 2, 3, 9, 10, 12, 109], [0, 1, 2, 3, 9, 10, 12], [0, 1, 2, 3, 9, 10, 12, 124], [0, 1, 2, 3, 9, 10, 12], [8]]
  | 281 => some [[0, 1, 2, 3, 4], [0, 1, 2, 4], [0, 1, 4, 11, 12], [0, 1, 4, 11, 12, 47], [0, 1, 4, 11, 12], [0, 1, 4, 11, 12, 65], [0, 1, 4, 11, 12], [0, 1, 4, 11, 12, 70], [0, 1, 4, 11, 12], [0, 1, 4, 11, 12], [0, 1, 4, 11, 12], [10]]
  | 282 => some [[0, 1, 2, 3, 4], [0, 1, 2, 4], [0, 1, 4, 12, 13], [0, 1, 4, 12, 13, 47], [0, 1, 4, 12, 13], [0, 1, 4, 12, 13, 66], [0, 1, 4, 12, 13], [0, 1, 4, 12, 13, 71], [13], [10, 11], [0, 1, 4, 12, 13], [0, 1, 4, 12, 13], [0, 1, 4, 12, 13], [0, 1, 4, 12, 13, 120], [0, 1, 4, 12, 13], [0, 1, 4, 12, 13, 139], [0, 1, 4, 12, 13], [0, 1, 4, 12, 13, 144], [0, 1, 4, 12, 13], [0, 1, 4, 12, 13], [0, 1, 4, 12, 13], [13], [10, 11]]
  | 283 => some [[0, 2], [0, 2, 4], [0], [0, 2], [0, 2, 8], [0, 2], [0, 2], [2]]
  | 284 => some [[0, 2], [0, 2, 4], [0], [0, 2], [0, 2, 8], [0, 2], [0, 2], [0, 2, 14], [0, 2], [0, 2], [2]]
  | 285 => some [[0, 1, 2, 3, 8], [0, 1, 2, 3, 8, 14], [0, 1, 2, 3, 8], [0, 1, 2, 3, 8, 9], [0, 1, 2, 3, 8, 9, 34], [0, 1, 2, 3, 8, 9], [0, 1, 2, 3, 8, 9]]
  | 286 => some [[0, 1, 2, 3, 8], [0, 1, 2, 3, 8, 9], [0, 3, 8, 9, 10], [0, 3, 8, 9, 10, 11], [0, 3, 8, 9, 10, 11, 21], [0, 3, 8, 9, 10, 11], [0, 3, 8, 9, 10, 11], [0, 3, 8, 9, 12], [0, 3, 8, 9, 12, 33], [0, 3, 8, 9, 12], [0, 3, 8, 9, 12], [0, 3, 8, 9, 12]]
  | 287 => some [[0, 1, 8], [0, 1, 8, 17], [0, 1, 8, 9], [0, 1, 8, 9, 10], [0, 1, 8, 9, 10, 11], [0, 1, 8, 9, 10, 11, 35], [0, 1, 8, 9, 10, 11], [0, 1, 8, 9, 10, 11, 12], [0, 1, 8, 9, 10, 11, 12, 45], [0, 1, 8, 9, 10, 11, 12], [0, 1, 8, 9, 10, 11]]
  | 288 => some [[0, 1, 2, 3], [0, 1, 3, 10], [0, 1, 3, 10, 11], [0, 1, 3, 10, 11, 12], [0, 1, 3, 10, 11, 12, 13], [0, 3, 10, 11, 12, 13, 14], [0, 3, 10, 11, 12, 13, 14, 34], [0, 3, 11, 12, 13, 14, 36], [0, 3, 11, 12, 13, 14], [0, 3, 11, 12, 13, 14], [0, 3, 11, 12, 13, 14], [11, 13], [13, 55], [8, 9], [13, 55, 57], [8, 9], [13, 60], [8, 9]]
  | 289 => some [[0, 2, 8], [0, 8, 9], [0, 8, 9, 15], [0, 8, 9], [0, 8, 9], [0, 8, 9]]
  | 290 => some [[0, 1, 2, 3], [0, 1, 2, 3, 9], [0, 1, 2, 3, 9, 10], [0, 1, 2, 3, 9, 10, 16], [0, 1, 2, 3, 9, 10], [0, 1, 2, 3, 9, 10, 36], [0, 1, 2, 3, 9, 10], [0, 1, 2, 3, 9, 10, 41], [8], [0, 1, 2, 3, 9, 10, 45], [8], [0, 1, 2, 3, 9, 10], [0, 1, 2, 3, 9, 10, 65], [0, 1, 2, 3, 9, 10, 11], [0, 1, 2, 3, 9, 10, 11, 69], [0, 1, 2, 3, 9, 10, 11], [0, 1, 2, 3, 9, 10, 11, 84], [0, 1, 2, 3, 9, 10, 11], [0, 1, 2, 3, 9, 10, 104], [0, 1, 2, 3, 9, 10, 12], [0, 1, 2, 3, 9, 10, 12, 109], [0, 1, 2, 3, 9, 10, 12], [0, 1, 2, 3, 9, 10, 12, 124], [0, 1, 2, 3, 9, 10, 12], [8]]
  | 291 => some [[0, 1, 2, 3, 4], [0, 1, 2, 4], [0, 1, 4, 11, 12], [0, 1, 4, 11, 12, 47], [0, 1, 4, 11, 12], [0, 1, 4, 11, 12, 65], [0, 1, 4, 11, 12], [0, 1, 4, 11, 12, 70], [0, 1, 4, 11, 12], [0, 1, 4, 11, 12], [0, 1, 4, 11, 12], [10]]
  | 292 => some [[0, 1, 2, 3, 4], [0, 1, 2, 4], [0, 1, 4, 12, 13], [0, 1, 4, 12, 13, 47], [0, 1, 4, 12, 13], [0, 1, 4, 12, 13, 66], [0, 1, 4, 12, 13], [0, 1, 4, 12, 13, 71], [13], [10, 11], [0, 1, 4, 12, 13], [0, 1, 4, 12, 13], [0, 1, 4, 12, 13], [0, 1, 4, 12, 13, 120], [0, 1, 4, 12, 13], [0, 1, 4, 12, 13, 139], [0, 1, 4, 12, 13], [0, 1, 4, 12, 13, 144], [0, 1, 4, 12, 13], [0, 1, 4, 12, 13], [0, 1, 4, 12, 13], [13], [10, 11]]
  | _ => none
noncomputable def kpC18 (g : Nat) : Option (List (List Nat)) :=
  match g with
  | 293 => some [[0, 1], [0, 1, 5], [0, 1, 5, 6], [0, 1, 5, 6, 7], [0, 1, 5, 6, 7, 11], [0, 1, 5, 6, 7], [0, 1, 5, 6, 7, 23], [0, 1, 5, 6, 7], [0, 1, 5, 6, 7, 29], [0, 1, 5, 6, 7], [0, 1, 5, 6, 7], [1, 5, 42], [5], [4]]
  | 294 => some [[0], [0, 3], [0, 3, 5], [0, 3], [0, 3, 11], [2], [2]]
  | 295 => some [[0], [2]]
  | 296 => some [[0], [3], [2], [2]]
  | 297 => some [[0], [2]]
  | 298 => some [[0], [2], [2]]
  | 300 => some [[0], [0, 4], [0, 4, 5], [0, 4, 5, 12], [0, 4, 5], [0, 4, 5], [0, 4, 6, 7], [4, 6, 7, 8], [4, 6, 7, 8, 25], [4, 6, 7, 8], [4, 6, 7, 8, 30], [4, 6, 7, 8], [4, 6, 7, 8], [2, 3]]
  | 301 => some [[0, 1, 2], [0, 1, 2, 19], [6, 7], [0, 1, 2, 8], [0, 1, 2, 8, 9], [6, 7], [0, 1, 2, 8, 9, 25], [0, 2, 8, 9, 32], [0, 1, 2, 8, 9], [0, 1, 2, 8, 9, 37], [0, 1, 2, 8, 9], [0, 1, 2, 8, 9], [0, 2, 8, 9, 40], [0, 1, 2, 8, 9], [0, 1, 2, 8, 9], [0, 2, 8, 9, 52], [0, 1, 2, 8, 9], [0, 1, 2, 8, 9], [0, 2, 8, 9, 64], [0, 1, 2, 8, 9], [0, 1, 2, 8, 9], [0, 1, 2, 8, 9, 77], [0, 1, 2, 8, 9], [0, 1, 2, 8, 9, 83], [6, 7], [0, 1, 2, 8, 9], [0, 1, 2, 8, 9, 85], [0, 1, 2, 8, 9, 10], [0, 1, 2, 8, 9, 85, 90], [0, 1, 2, 8, 9, 10], [0, 1, 2, 8, 9, 92], [0, 1, 2, 8, 9, 10], [0, 1, 8, 9, 10, 11], [0, 1, 8, 9, 10, 11, 12], [0, 1, 8, 9, 10, 11, 12, 13], [1, 8, 9, 10, 11, 12, 13, 99, 100, 101], [1, 8, 9, 10, 11, 12, 13, 99, 100, 101, 102], [1, 8, 9, 10, 11, 12, 13, 15, 99, 100, 101], [1, 8, 9, 10, 11, 12, 13, 15, 99, 100, 101], [6, 7], [1, 8, 9, 10, 11, 12, 13, 15, 99, 100, 101, 106], [1, 8, 9, 10, 11, 12, 13, 99, 100, 101], [1, 8, 9, 10, 11, 12, 13, 15, 99, 100, 101, 112], [1, 8, 9, 10, 11, 12, 13, 16, 99, 100, 101], [1, 8, 9, 10, 11, 12, 13, 15, 99, 100, 101, 121], [1, 8, 9, 10, 11, 12, 13, 16, 99, 100, 101], [1, 8, 9, 10, 11, 12, 13, 16, 99, 100, 101, 137], [6, 7], [1, 8, 9, 10, 11, 12, 13, 16, 99, 100, 101, 141], [6, 7], [1, 8, 9, 10, 11, 12, 13, 16, 99, 100, 101], [1, 8, 9, 10, 11, 12, 13, 17, 99, 100, 101], [1, 8, 9, 10, 11, 12, 17, 99, 100, 101, 159], [6, 7], [1, 8, 9, 10, 11, 12, 13, 99, 100, 101], [1, 8, 9, 10, 11, 12, 13, 99, 100, 101], [13, 169], [6, 7], [6, 7]]
  | 302 => some [[0], [0, 6], [2], [0, 3], [3], [2]]
  | 303 => some [[0], [2]]
  | 304 => some [[0, 1], [4]]
  | 306 => some [[0, 1], [0, 1, 5], [0, 1, 5, 18], [0, 1], [0, 1, 6], [0, 1, 6, 7], [0, 1, 6, 7, 25], [0, 1, 6, 7], [0, 1, 6, 7, 9], [0, 1, 6, 7, 9], [0, 1, 6, 7], [0, 1, 6, 43], [6], [4]]
  | 307 => some [[0, 1], [0, 1, 9], [4], [0, 1, 15], [4], [0, 1, 5], [0, 1, 5, 6], [0, 1, 5, 6, 24], [4], [0, 1, 5, 6], [0, 1, 5]]
  | 308 => some [[0, 1], [0, 1, 13], [0, 1], [4]]
  | 309 => some [[0, 1], [0, 1, 16], [0, 1], [4]]
  | 310 => some [[0, 2], [0, 2, 4], [0, 2, 4, 9], [0, 2, 4], [0, 2, 4, 5], [0, 2, 4, 5, 16], [2, 3], [0, 2, 4], [2, 3]]
  | _ => none
noncomputable def kpC19 (g : Nat) : Option (List (List Nat)) :=
  match g with
  | 311 => some [[0, 1], [0, 1, 7], [0, 1, 12], [0, 1], [4]]
  | 312 => some [[0, 1], [0, 1, 7], [0, 1, 15], [0, 1], [4]]
  | 313 => some [[0, 1], [0, 1, 9], [0, 1, 5, 6], [0, 1, 6, 18], [0, 1], [4]]
  | 314 => some [[0, 1], [0, 1, 9], [0, 1, 5, 6], [0, 1, 5, 6, 17], [0, 1, 5, 6], [0, 1, 6, 26], [0, 1], [4]]
  | 315 => some [[1, 2, 4], [2, 4, 6], [2, 5], [], [4]]
  | 316 => some [[0, 1, 2, 3, 4, 10], [0, 1, 2, 3, 4, 10, 11], [0, 1, 2, 3, 4, 10, 11, 12], [0, 1, 2, 3, 4, 10, 11, 12, 25], [], [0, 1, 2, 3, 4, 10, 11, 12, 32], [], [0, 1, 2, 3, 4, 10, 11, 12, 39], [0, 1, 2, 3, 4, 10, 11, 12], [0, 1, 2, 3, 4, 10, 11, 12], [0, 1, 2, 3, 4, 10, 11, 12, 13, 14], [0, 1, 2, 3, 4, 10, 11, 12, 13, 14, 56], [0, 1, 2, 3, 4, 10, 11, 12, 13], [0, 1, 2, 3, 4, 10, 11, 12, 13], [0, 1, 2, 3, 4, 10, 11, 12, 13, 14], [0, 1, 2, 3, 4, 10, 11, 12, 13, 75], [0, 1, 2, 3, 4, 10, 11, 12, 13, 80], [0, 1, 2, 3, 4, 10, 11, 12, 13, 97], [0, 2, 3, 4, 10, 11, 15], [0, 1, 2, 3, 4, 10, 11], [0, 1, 2, 3, 4, 12, 16, 17], [0, 1, 2, 3, 4, 11, 12, 16], [0, 1, 2, 3, 4, 11, 12, 16, 18, 19], [0, 1, 2, 3, 4, 11, 16, 18, 19, 20], [0, 1, 2, 3, 4, 11, 16, 18, 19, 20, 125], [0, 1, 2, 3, 4, 10, 11, 16], [0, 2, 3, 4, 10, 11, 16], [0, 1, 2, 3, 4, 10, 11], [0, 1, 2, 3, 4, 10, 11, 16], [0, 1, 3, 4, 10, 11, 16], [0, 1, 2, 3, 4, 10, 11]]
  | 317 => some [[0, 1], [0, 7], [0, 7, 8], [0, 7, 8, 9], [0, 7, 8, 9], [0, 7, 8, 9, 26], [0, 7, 8, 9, 33], [0, 7, 8, 9, 11], [0, 7, 8, 9, 11, 43], [4], [0, 7, 8, 9], [0, 7, 8, 9, 12], [0, 7, 8, 9, 12, 51], [0, 7, 8, 9, 12], [0, 7, 8, 9, 12, 64], [4], [0, 7, 8, 9, 10], [0, 7, 8, 9, 10], [0, 7, 8, 9, 98], [4], [8, 9, 13], [8, 9, 13, 108], [4], [0, 7, 8, 9, 14], [0, 7, 8, 9, 14, 15], [0, 7, 8, 9, 14, 15, 124], [0, 7, 8, 9, 14, 15], [0, 7, 8, 9, 14, 15, 139], [0, 7, 8, 9, 14, 15, 16], [0, 7, 8, 9, 14, 15, 16, 143], [0, 7, 8, 9, 14, 15, 16], [0, 7, 8, 9, 14, 15, 16, 156], [4], [4], [0, 1, 160], [4], [0, 1, 171], [175], [175, 176, 177], [5, 6, 175], [5, 175, 181], [4], [4], [0, 1, 183], [4]]
  | 318 => some [[0], [2]]
  | 319 => some [[0, 1], [4]]
  | 320 => some [[0, 1], [0, 1, 7, 8], [0, 1, 7, 8, 9], [0, 1, 5, 7, 8], [0, 1, 5, 7, 8, 16], [4], [0, 1, 7, 8], [4]]
  | 322 => some [[0, 1], [4]]
  | 323 => some [[0, 2, 3, 4, 10], [0, 2, 3, 4, 10, 11], [0, 2, 3, 4, 10, 11, 18], [0, 2, 3, 4, 10, 11, 40], [0, 2, 3, 4, 10, 11], [0, 2, 3, 4, 10, 11, 58], [0, 2, 3, 4, 11], [0, 2, 3, 4, 10]]
  | 324 => some [[0], [2]]
  | 325 => some [[0], [0], [0], [0], [2]]
  | 326 => some [[0, 1, 2, 3], [8]]
  | 327 => some [[0, 1, 2, 3, 4, 5], [0, 1, 2, 3, 4, 5], [0, 1, 2, 4, 5], [2], [12]]
  | _ => none
noncomputable def kpC20 (g : Nat) : Option (List (List Nat)) :=
  match g with
  | 328 => some [[0, 2, 3, 4, 10], [0, 2, 3, 4, 10, 11], [0, 2, 3, 4, 10, 11, 18], [0, 2, 3, 4, 10, 11, 40], [0, 2, 3, 4, 10, 11], [0, 2, 3, 4, 10, 11, 58], [0, 2, 3, 4, 11], [0, 2, 3, 4, 10]]
  | 329 => some [[0, 1, 2, 3], [8]]
  | 330 => some [[0, 1, 2, 3, 4, 5], [0, 1, 2, 3, 4, 5], [0, 1, 2, 4, 5], [2], [12]]
  | 331 => some [[0], [0, 4], [2], [2]]
  | 332 => some [[0], [0, 4], [2], [2]]
  | 333 => some [[0], [2]]
  | 334 => some [[0], [0, 3], [0, 3, 4], [0, 3, 4, 18], [0, 3, 4], [0, 3, 4, 5], [0, 3, 4, 5, 46], [0, 4], [0, 3, 4], [0, 3, 4, 5], [0, 3, 4, 5, 54], [0, 3, 4, 5], [0, 3, 4, 5, 83], [0, 3, 4, 5], [0, 3, 4, 5, 87], [0, 4, 5, 89], [2], [0, 3, 4, 5], [0, 4, 5, 91], [2], [0, 3, 4, 5], [2]]
  | 335 => some [[0, 1, 2], [1, 2, 10], [1, 2, 10, 11, 12], [1, 2, 7, 8, 10], [1, 2, 7, 10, 19], [6], [6]]
  | 336 => some [[0, 2], [2, 4], [2, 4, 6], [2, 4], [2]]
  | 337 => some [[0], [0, 10], [2, 3], [2, 3]]
  | 339 => some [[0, 1], [4]]
  | 340 => some [[0], [0, 4], [0, 4, 10], [2, 3], [0, 4, 5], [0, 2, 4, 5], [0, 2, 4, 5, 18], [2, 3], [0, 4, 5, 6], [0, 4, 5, 6], [0, 4, 5, 6, 27], [0, 4, 5, 6], [0, 4, 5, 6, 33], [0, 4, 5, 35], [0, 4, 5], [2, 3, 4, 5], [2, 3, 48], [2, 3], [2, 3]]
  | 341 => some [[0, 1, 2, 3, 8], [0, 1, 2, 3, 8, 14], [0, 1, 2, 3, 8], [0, 1, 2, 3, 8, 9], [0, 1, 2, 3, 8, 9, 34], [0, 1, 2, 3, 8, 9], [0, 1, 2, 3, 8, 9]]
  | 342 => some [[0, 1, 2, 3, 8], [0, 1, 2, 3, 8, 9], [0, 3, 8, 9, 10], [0, 3, 8, 9, 10, 11], [0, 3, 8, 9, 10, 11, 21], [0, 3, 8, 9, 10, 11], [0, 3, 8, 9, 10, 11], [0, 3, 8, 9, 12], [0, 3, 8, 9, 12, 33], [0, 3, 8, 9, 12], [0, 3, 8, 9, 12], [0, 3, 8, 9, 12]]
  | 343 => some [[0, 1, 8], [0, 1, 8, 17], [0, 1, 8, 9], [0, 1, 8, 9, 10], [0, 1, 8, 9, 10, 11], [0, 1, 8, 9, 10, 11, 35], [0, 1, 8, 9, 10, 11], [0, 1, 8, 9, 10, 11, 12], [0, 1, 8, 9, 10, 11, 12, 45], [0, 1, 8, 9, 10, 11, 12], [0, 1, 8, 9, 10, 11]]
  | 344 => some [[0, 1, 2, 3], [0, 1, 3, 10], [0, 1, 3, 10, 11], [0, 1, 3, 10, 11, 12], [0, 1, 3, 10, 11, 12, 13], [0, 3, 10, 11, 12, 13, 14], [0, 3, 10, 11, 12, 13, 14, 34], [0, 3, 11, 12, 13, 14, 36], [0, 3, 11, 12, 13, 14], [0, 3, 11, 12, 13, 14], [0, 3, 11, 12, 13, 14], [11, 13], [13, 55], [8, 9], [13, 55, 57], [8, 9], [13, 60], [8, 9]]
  | _ => none
noncomputable def kpC21 (g : Nat) : Option (List (List Nat)) :=
  match g with
  | 345 => some [[0, 2, 8], [0, 8, 9], [0, 8, 9, 15], [0, 8, 9], [0, 8, 9], [0, 8, 9]]
  | 346 => some [[0, 1, 2, 3], [0, 1, 2, 3, 9], [0, 1, 2, 3, 9, 10], [0, 1, 2, 3, 9, 10, 16], [0, 1, 2, 3, 9, 10], [0, 1, 2, 3, 9, 10, 36], [0, 1, 2, 3, 9, 10], [0, 1, 2, 3, 9, 10, 41], [8], [0, 1, 2, 3, 9, 10, 45], [8], [0, 1, 2, 3, 9, 10], [0, 1, 2, 3, 9, 10, 65], [0, 1, 2, 3, 9, 10, 11], [0, 1, 2, 3, 9, 10, 11, 69], [0, 1, 2, 3, 9, 10, 11], [0, 1, 2, 3, 9, 10, 11, 84], [0, 1, 2, 3, 9, 10, 11], [0, 1, 2, 3, 9, 10, 104], [0, 1, 2, 3, 9, 10, 12], [0, 1, 2, 3, 9, 10, 12, 109], [0, 1, 2, 3, 9, 10, 12], [0, 1, 2, 3, 9, 10, 12, 124], [0, 1, 2, 3, 9, 10, 12], [8]]
  | 347 => some [[0, 1, 2, 3, 4], [0, 1, 2, 4], [0, 1, 4, 11, 12], [0, 1, 4, 11, 12, 47], [0, 1, 4, 11, 12], [0, 1, 4, 11, 12, 65], [0, 1, 4, 11, 12], [0, 1, 4, 11, 12, 70], [0, 1, 4, 11, 12], [0, 1, 4, 11, 12], [0, 1, 4, 11, 12], [10]]
  | 348 => some [[0, 1, 2, 3, 4], [0, 1, 2, 4], [0, 1, 4, 12, 13], [0, 1, 4, 12, 13, 47], [0, 1, 4, 12, 13], [0, 1, 4, 12, 13, 66], [0, 1, 4, 12, 13], [0, 1, 4, 12, 13, 71], [13], [10, 11], [0, 1, 4, 12, 13], [0, 1, 4, 12, 13], [0, 1, 4, 12, 13], [0, 1, 4, 12, 13, 120], [0, 1, 4, 12, 13], [0, 1, 4, 12, 13, 139], [0, 1, 4, 12, 13], [0, 1, 4, 12, 13, 144], [0, 1, 4, 12, 13], [0, 1, 4, 12, 13], [0, 1, 4, 12, 13], [13], [10, 11]]
  | 349 => some [[0, 1], [4]]
  | 350 => some [[0], [0, 3], [2], [10], [2], [2]]
  | 351 => some [[0, 1, 2, 3, 4], [1, 2, 3, 22], [1, 2], [10, 11], [10, 11]]
  | 352 => some [[0, 1, 2, 3, 4], [1, 2, 3, 22], [1, 2], [10, 11], [10, 11]]
  | 353 => some [[0], [0, 4], [0, 4, 16], [2, 3], [0, 4, 5], [0, 4, 5, 6], [0, 4, 5, 6, 23], [0, 7], [2, 3], [0, 4, 5, 6, 8], [0, 4, 5, 8, 9], [0, 5, 8, 9, 45], [2, 3], [0, 5, 8, 9, 10], [0, 5, 8, 10, 57], [2, 3], [0, 5, 8, 10, 59], [2, 3], [0, 5, 8, 10, 11], [0, 5, 8, 10, 11, 75], [2, 3], [0, 5, 10, 11, 77], [2, 3], [5, 10, 11, 12], [5, 10, 11, 12, 98], [2, 3], [2, 3]]
  | 354 => some [[0], [2]]
  | 355 => some [[0, 2, 3, 4, 10], [0, 2, 3, 4, 10, 11], [0, 2, 3, 4, 10, 11, 18], [0, 2, 3, 4, 10, 11, 40], [0, 2, 3, 4, 10, 11], [0, 2, 3, 4, 10, 11, 58], [0, 2, 3, 4, 11], [0, 2, 3, 4, 10]]
  | 356 => some [[0, 1, 2, 3], [8]]
  | 357 => some [[0, 1, 2, 3, 4, 5], [0, 1, 2, 3, 4, 5], [0, 1, 2, 4, 5], [2], [12]]
  | 358 => some [[0, 1, 2, 3, 4], [1, 2, 3, 22], [1, 2], [10, 11], [10, 11]]
  | 393 => some [[], [], [], [], [], [], [], [], []]
  | _ => none
noncomputable def keepT (g : Nat) : Option (List (List Nat)) := (bif Nat.blt g 179 then (bif Nat.blt g 82 then (bif Nat.blt g 34 then (bif Nat.blt g 18 then kpC0 g else kpC1 g) else (bif Nat.blt g 50 then kpC2 g else (bif Nat.blt g 66 then kpC3 g else kpC4 g))) else (bif Nat.blt g 130 then (bif Nat.blt g 98 then kpC5 g else (bif Nat.blt g 114 then kpC6 g else kpC7 g)) else (bif Nat.blt g 146 then kpC8 g else (bif Nat.blt g 162 then kpC9 g else kpC10 g)))) else (bif Nat.blt g 260 then (bif Nat.blt g 211 then (bif Nat.blt g 195 then kpC11 g else kpC12 g) else (bif Nat.blt g 227 then kpC13 g else (bif Nat.blt g 243 then kpC14 g else kpC15 g))) else (bif Nat.blt g 311 then (bif Nat.blt g 277 then kpC16 g else (bif Nat.blt g 293 then kpC17 g else kpC18 g)) else (bif Nat.blt g 328 then kpC19 g else (bif Nat.blt g 345 then kpC20 g else kpC21 g)))))

def glT (m : Int) (g : Nat) : Option (List PV) :=
  match g with
  | 0 => some ([0, 0, 0, 0, 0, 0, 0, 0, 0, 1, 1, 1, 1, 1, 0, 0, 0, 0, 0, 0, 0, 0, 0, 0, 0, 0, 0, 0, 0, 0, 0, 0, 1, 0, 0, 0, 0, 0, 0, 0, 0, 0, 0, 0, 0, 0, 0, 0, 0, 0, 0, 0, 0, 0, 0, 0, 0, 0, 0, 0, 0, 0, 0, 0, 0, 0, 0, 0, 0, 0, 0, 0, 0, 0, 0, 0, 0, 0, 0, 0, 0, 0, 0, 0, 0, 0, 0, 0, 0, 0, 0, 0, 0, 0, 0, 0, 0, 0, 0, 0, 0, 0, 0, 0, 0, 0, 0, 0, 0, 0, 0, 0, 0, 0, 0, 0, 0, 0, 0, 0, 0, 0, 0, 0, 0, 0, 0, 0, 0, 0, 0, 0, 0, 0, 0, 0, 0, 0, 0, 0, 0, 0, 0, 0, 0, 0, 0, 0, 0, 0, 0, 0, 0, 0, 0, 0, 0, 0, 0, 0, 0, 0, 0, 0, 0, 0, 0, 0, 0, 0, 0, 0, 0, 0, 0, 0, 0, 0, 0, 0, 0, 0, 0, 0, 0, 0, 0, 0, 0, 0, 0, 0, 0, 0, 0, 0, 0, 0, 0, 0, 0, 0, 0, 0, 0, 0, 0, 0, 0, 0, 0, 0, 0, 0, 0, 0, 0, 0, 0, 0, 0, 0, 0, 0, 0, 0, 0, 0, 0, 0, 0, 0, 0, 0, 0, 0, 0, 0, 0, 0, 0, 0, 0, 0, 0, 0, 0, 0, 0, 0, 0, 0, 0, 0, 0, 0].map fun n => PV.int .u8 n)
  | 2 => some [.int .i64 m]
  | 3 => some ([1, 10, 100, 1000, 10000, 100000, 1000000, 10000000, 100000000, 1000000000, 10000000000, 100000000000, 1000000000000, 10000000000000, 100000000000000, 1000000000000000, 10000000000000000, 100000000000000000, 1000000000000000000, 10000000000000000000].map fun n => PV.int .u64 n)
  | 4 => some [.err]
  | 5 => some [.err]
  | 6 => some ([0, 1, 28, 2, 29, 14, 24, 3, 30, 22, 20, 15, 25, 17, 4, 8, 31, 27, 13, 23, 21, 19, 16, 7, 26, 12, 18, 6, 11, 5, 10, 9].map fun n => PV.int .u8 n)
  | 7 => some ([0, 1, 56, 2, 57, 49, 28, 3, 61, 58, 42, 50, 38, 29, 17, 4, 62, 47, 59, 36, 45, 43, 51, 22, 53, 39, 33, 30, 24, 18, 12, 5, 63, 55, 48, 27, 60, 41, 37, 16, 46, 35, 44, 21, 52, 32, 23, 11, 54, 26, 40, 15, 34, 20, 31, 10, 25, 14, 19, 9, 13, 8, 7, 6].map fun n => PV.int .u8 n)
  | 9 => some ([128, 191, 160, 191, 128, 159, 144, 191, 128, 143, 0, 0, 0, 0, 0, 0, 0, 0, 0, 0, 0, 0, 0, 0, 0, 0, 0, 0, 0, 0, 0, 0].map fun n => PV.int .u8 n)
  | _ => none
def eqT (t : Nat) (ks : List Nat) : Bool :=
  match t, ks with
  | 23, [0, 0] => true
  | 49, [0, 0] => true
  | 69, [0, 0, 0] => true
  | 96, [0, 0] => true
  | 53, [2, 2] => true
  | _, _ => false
theorem eqT_all : (eqtOf Tryz.prog 23 [0, 0] && (eqtOf Tryz.prog 49 [0, 0] && (eqtOf Tryz.prog 69 [0, 0, 0] && (eqtOf Tryz.prog 96 [0, 0] && eqtOf Tryz.prog 53 [2, 2])))) = true := by kernel_rfl
theorem eqT_ok {t : Nat} {ks : List Nat} (h : eqT t ks = true) : eqtOf Tryz.prog t ks = true := by
  have hall := eqT_all
  simp only [Bool.and_eq_true] at hall
  unfold eqT at h
  split at h
  · exact hall.1
  · exact hall.2.1
  · exact hall.2.2.1
  · exact hall.2.2.2.1
  · exact hall.2.2.2.2
  · cases h
theorem eqT_ty : ([23, 49, 69, 96, 53].all fun t => (tyT t).isSome) = true := by kernel_rfl
theorem tyT_some {t : Nat} {i : TyI} (ht : (tyT t).isSome = true) (hi : tyOf Tryz.prog t = some i) : tyT t = some i := by
  cases h : tyT t with
  | none => rw [h] at ht; cases ht
  | some j =>
    have := tyT_ok t j h
    rw [hi] at this
    exact this.symm ▸ rfl
noncomputable def tab (m : Int) : Tab := fun _ => ⟨tyT, glT m, fokT, eqT⟩
/-- The table of the powers of ten, cell by cell. -/
def powX (hp : Nat → Option Obj) : Prop := ∃ e q, hp 3 = some (.cells ((List.range 20).map fun i => Value.int .u64 ((10 ^ i : Nat) : Int)).toArray e q)
noncomputable def env (m : Int) : Env (tab m) := mkEnv Tryz.prog (by kernel_rfl) 11 powX (tab m) tyT_ok fokT_ok (fun {t ks} h => by
  obtain ⟨i, h1, h2, h3⟩ := eqtOf_ok (eqT_ok h)
  refine ⟨i, tyT_some ?_ h1, h2, h3⟩
  have hall := List.all_eq_true.1 eqT_ty
  change eqT t ks = true at h
  unfold eqT at h
  split at h <;> first | exact absurd h (by decide) | exact hall _ (by simp))
end Go.Px.Db
