/- The library's contracts, laid at the program by the kit's tool, in plain words: those that are used. -/
import Derived.Shelf.Strings.Split
import Derived.Shelf.Strconv.Atoi
import Derived.Shelf.Strings.Trim
import Derived.Shelf.Strings.Count
import Derived.Test.YtefjaihaocdpcaaGreatDoorProg
import Derived.KernelRfl
import Derived.Lib.SlTrimSet
import Derived.Lib.Atoi
import Derived.Shelf.Strings.SlTrimAscii
import Derived.Test.YtefjaihaocdpcaaGreatDoorLhclobejdah
namespace Go.Proofs
open Go.Shelf
def Tryz.lays143_ren : Go.Shelf.Ren := ⟨fun | 143 => 182 | 219 => 235 | 217 => 279 | 225 => 280 | 224 => 281 | 267 => 282 | 266 => 325 | 314 => 326 | n => n, fun | 9 => 9 | 3 => 3 | 4 => 4 | 5 => 5 | 46 => 261 | 146 => 340 | 51 => 296 | n => n, fun | 1 => 1 | n => n⟩
theorem Tryz.lays143 : Go.Proofs.Lays.n143 Tryz.prog Tryz.lays143_ren := {
  mixed := by kernel_rfl
  f143 := Tryz.func182.trans (congrArg some (by kernel_rfl))
  f217 := Tryz.func279.trans (congrArg some (by kernel_rfl))
  f219 := Tryz.func235.trans (congrArg some (by kernel_rfl))
  f224 := Tryz.func281.trans (congrArg some (by kernel_rfl))
  f225 := Tryz.func280.trans (congrArg some (by kernel_rfl))
  f266 := Tryz.func325.trans (congrArg some (by kernel_rfl))
  f267 := Tryz.func282.trans (congrArg some (by kernel_rfl))
  f314 := Tryz.func326.trans (congrArg some (by kernel_rfl))
  t3 := Tryz.underlying3
  a3 := Tryz.isAgg3
  z3 := Tryz.sizeOf3
  v3 := Tryz.zeroValue3
  t4 := Tryz.underlying4
  a4 := Tryz.isAgg4
  z4 := Tryz.sizeOf4
  v4 := Tryz.zeroValue4
  t5 := Tryz.underlying5
  a5 := Tryz.isAgg5
  z5 := Tryz.sizeOf5
  v5 := Tryz.zeroValue5
  t9 := Tryz.underlying9
  a9 := Tryz.isAgg9
  z9 := Tryz.sizeOf9
  v9 := Tryz.zeroValue9
  t46 := Tryz.underlying261
  a46 := Tryz.isAgg261
  z46 := Tryz.sizeOf261
  v46 := Tryz.zeroValue261
  t51 := Tryz.underlying296
  a51 := Tryz.isAgg296
  z51 := Tryz.sizeOf296
  v51 := Tryz.zeroValue296
  t146 := Tryz.underlying340
  a146 := Tryz.isAgg340
  z146 := Tryz.sizeOf340
  v146 := Tryz.zeroValue340
  g1 := by kernel_rfl }
def Tryz.lays138_ren : Go.Shelf.Ren := ⟨fun | 138 => 238 | 195 => 287 | 218 => 289 | 143 => 182 | 219 => 235 | 217 => 279 | 225 => 280 | 224 => 281 | 267 => 282 | 266 => 325 | 314 => 326 | n => n, fun | 9 => 9 | 3 => 3 | 4 => 4 | 5 => 5 | 0 => 0 | 46 => 261 | 146 => 340 | 51 => 296 | n => n, fun | 1 => 1 | n => n⟩
theorem Tryz.lays138 : Go.Proofs.Lays.n138 Tryz.prog Tryz.lays138_ren := {
  mixed := by kernel_rfl
  f138 := Tryz.func238.trans (congrArg some (by kernel_rfl))
  f143 := Tryz.func182.trans (congrArg some (by kernel_rfl))
  f195 := Tryz.func287.trans (congrArg some (by kernel_rfl))
  f217 := Tryz.func279.trans (congrArg some (by kernel_rfl))
  f218 := Tryz.func289.trans (congrArg some (by kernel_rfl))
  f219 := Tryz.func235.trans (congrArg some (by kernel_rfl))
  f224 := Tryz.func281.trans (congrArg some (by kernel_rfl))
  f225 := Tryz.func280.trans (congrArg some (by kernel_rfl))
  f266 := Tryz.func325.trans (congrArg some (by kernel_rfl))
  f267 := Tryz.func282.trans (congrArg some (by kernel_rfl))
  f314 := Tryz.func326.trans (congrArg some (by kernel_rfl))
  t0 := Tryz.underlying0
  a0 := Tryz.isAgg0
  z0 := Tryz.sizeOf0
  v0 := Tryz.zeroValue0
  t3 := Tryz.underlying3
  a3 := Tryz.isAgg3
  z3 := Tryz.sizeOf3
  v3 := Tryz.zeroValue3
  t4 := Tryz.underlying4
  a4 := Tryz.isAgg4
  z4 := Tryz.sizeOf4
  v4 := Tryz.zeroValue4
  t5 := Tryz.underlying5
  a5 := Tryz.isAgg5
  z5 := Tryz.sizeOf5
  v5 := Tryz.zeroValue5
  t9 := Tryz.underlying9
  a9 := Tryz.isAgg9
  z9 := Tryz.sizeOf9
  v9 := Tryz.zeroValue9
  t46 := Tryz.underlying261
  a46 := Tryz.isAgg261
  z46 := Tryz.sizeOf261
  v46 := Tryz.zeroValue261
  t51 := Tryz.underlying296
  a51 := Tryz.isAgg296
  z51 := Tryz.sizeOf296
  v51 := Tryz.zeroValue296
  t146 := Tryz.underlying340
  a146 := Tryz.isAgg340
  z146 := Tryz.sizeOf340
  v146 := Tryz.zeroValue340
  g1 := by kernel_rfl }
def Tryz.lays221_ren : Go.Shelf.Ren := ⟨fun | 221 => 184 | 268 => 237 | 138 => 238 | 143 => 182 | 195 => 287 | 197 => 288 | 218 => 289 | 219 => 235 | 260 => 331 | 217 => 279 | 225 => 280 | 224 => 281 | 267 => 282 | 266 => 325 | 314 => 326 | n => n, fun | 9 => 9 | 3 => 3 | 31 => 41 | 4 => 4 | 0 => 0 | 105 => 309 | 21 => 21 | 5 => 5 | 46 => 261 | 119 => 360 | 139 => 363 | 138 => 362 | 146 => 340 | 51 => 296 | n => n, fun | 1 => 1 | 3 => 5 | 4 => 6 | n => n⟩
theorem Tryz.lays221 : Go.Proofs.Lays.n221 Tryz.prog Tryz.lays221_ren := {
  mixed := by kernel_rfl
  f138 := Tryz.func238.trans (congrArg some (by kernel_rfl))
  f143 := Tryz.func182.trans (congrArg some (by kernel_rfl))
  f195 := Tryz.func287.trans (congrArg some (by kernel_rfl))
  f197 := Tryz.func288.trans (congrArg some (by kernel_rfl))
  f217 := Tryz.func279.trans (congrArg some (by kernel_rfl))
  f218 := Tryz.func289.trans (congrArg some (by kernel_rfl))
  f219 := Tryz.func235.trans (congrArg some (by kernel_rfl))
  f221 := Tryz.func184.trans (congrArg some (by kernel_rfl))
  f224 := Tryz.func281.trans (congrArg some (by kernel_rfl))
  f225 := Tryz.func280.trans (congrArg some (by kernel_rfl))
  f260 := Tryz.func331.trans (congrArg some (by kernel_rfl))
  f266 := Tryz.func325.trans (congrArg some (by kernel_rfl))
  f267 := Tryz.func282.trans (congrArg some (by kernel_rfl))
  f268 := Tryz.func237.trans (congrArg some (by kernel_rfl))
  f314 := Tryz.func326.trans (congrArg some (by kernel_rfl))
  t0 := Tryz.underlying0
  a0 := Tryz.isAgg0
  z0 := Tryz.sizeOf0
  v0 := Tryz.zeroValue0
  t3 := Tryz.underlying3
  a3 := Tryz.isAgg3
  z3 := Tryz.sizeOf3
  v3 := Tryz.zeroValue3
  t4 := Tryz.underlying4
  a4 := Tryz.isAgg4
  z4 := Tryz.sizeOf4
  v4 := Tryz.zeroValue4
  t5 := Tryz.underlying5
  a5 := Tryz.isAgg5
  z5 := Tryz.sizeOf5
  v5 := Tryz.zeroValue5
  t9 := Tryz.underlying9
  a9 := Tryz.isAgg9
  z9 := Tryz.sizeOf9
  v9 := Tryz.zeroValue9
  t21 := Tryz.underlying21
  a21 := Tryz.isAgg21
  z21 := Tryz.sizeOf21
  v21 := Tryz.zeroValue21
  t31 := Tryz.underlying41
  a31 := Tryz.isAgg41
  z31 := Tryz.sizeOf41
  v31 := Tryz.zeroValue41
  t46 := Tryz.underlying261
  a46 := Tryz.isAgg261
  z46 := Tryz.sizeOf261
  v46 := Tryz.zeroValue261
  t51 := Tryz.underlying296
  a51 := Tryz.isAgg296
  z51 := Tryz.sizeOf296
  v51 := Tryz.zeroValue296
  t105 := Tryz.underlying309
  a105 := Tryz.isAgg309
  z105 := Tryz.sizeOf309
  v105 := Tryz.zeroValue309
  t119 := Tryz.underlying360
  a119 := Tryz.isAgg360
  z119 := Tryz.sizeOf360
  t138 := Tryz.underlying362
  a138 := Tryz.isAgg362
  z138 := Tryz.sizeOf362
  v138 := Tryz.zeroValue362
  t139 := Tryz.underlying363
  a139 := Tryz.isAgg363
  z139 := Tryz.sizeOf363
  v139 := Tryz.zeroValue363
  t146 := Tryz.underlying340
  a146 := Tryz.isAgg340
  z146 := Tryz.sizeOf340
  v146 := Tryz.zeroValue340
  g1 := by kernel_rfl
  g3 := by kernel_rfl
  g4 := by kernel_rfl }
def Tryz.lays160_ren : Go.Shelf.Ren := ⟨fun | 160 => 185 | 232 => 240 | 231 => 239 | 227 => 241 | 234 => 243 | 233 => 242 | 236 => 245 | 235 => 244 | 228 => 290 | 271 => 292 | 151 => 291 | 197 => 288 | 120 => 333 | 152 => 332 | 260 => 331 | 137 => 346 | 119 => 347 | 224 => 281 | 225 => 280 | 217 => 279 | 266 => 325 | n => n, fun | 9 => 9 | 4 => 4 | 3 => 3 | 5 => 5 | 117 => 268 | 116 => 267 | 0 => 0 | 124 => 271 | 21 => 21 | 105 => 309 | 46 => 261 | 119 => 360 | 139 => 363 | 138 => 362 | n => n, fun | 3 => 5 | 4 => 6 | n => n⟩
theorem Tryz.lays160 : Go.Proofs.Lays.n160 Tryz.prog Tryz.lays160_ren := {
  mixed := by kernel_rfl
  f119 := Tryz.func347.trans (congrArg some (by kernel_rfl))
  f120 := Tryz.func333.trans (congrArg some (by kernel_rfl))
  f137 := Tryz.func346.trans (congrArg some (by kernel_rfl))
  f151 := Tryz.func291.trans (congrArg some (by kernel_rfl))
  f152 := Tryz.func332.trans (congrArg some (by kernel_rfl))
  f160 := Tryz.func185.trans (congrArg some (by kernel_rfl))
  f197 := Tryz.func288.trans (congrArg some (by kernel_rfl))
  f217 := Tryz.func279.trans (congrArg some (by kernel_rfl))
  f224 := Tryz.func281.trans (congrArg some (by kernel_rfl))
  f225 := Tryz.func280.trans (congrArg some (by kernel_rfl))
  f227 := Tryz.func241.trans (congrArg some (by kernel_rfl))
  f228 := Tryz.func290.trans (congrArg some (by kernel_rfl))
  f231 := Tryz.func239.trans (congrArg some (by kernel_rfl))
  f232 := Tryz.func240.trans (congrArg some (by kernel_rfl))
  f233 := Tryz.func242.trans (congrArg some (by kernel_rfl))
  f234 := Tryz.func243.trans (congrArg some (by kernel_rfl))
  f235 := Tryz.func244.trans (congrArg some (by kernel_rfl))
  f236 := Tryz.func245.trans (congrArg some (by kernel_rfl))
  f260 := Tryz.func331.trans (congrArg some (by kernel_rfl))
  f266 := Tryz.func325.trans (congrArg some (by kernel_rfl))
  f271 := Tryz.func292.trans (congrArg some (by kernel_rfl))
  t0 := Tryz.underlying0
  a0 := Tryz.isAgg0
  z0 := Tryz.sizeOf0
  v0 := Tryz.zeroValue0
  t3 := Tryz.underlying3
  a3 := Tryz.isAgg3
  z3 := Tryz.sizeOf3
  v3 := Tryz.zeroValue3
  t4 := Tryz.underlying4
  a4 := Tryz.isAgg4
  z4 := Tryz.sizeOf4
  v4 := Tryz.zeroValue4
  t5 := Tryz.underlying5
  a5 := Tryz.isAgg5
  z5 := Tryz.sizeOf5
  v5 := Tryz.zeroValue5
  t9 := Tryz.underlying9
  a9 := Tryz.isAgg9
  z9 := Tryz.sizeOf9
  v9 := Tryz.zeroValue9
  t21 := Tryz.underlying21
  a21 := Tryz.isAgg21
  z21 := Tryz.sizeOf21
  v21 := Tryz.zeroValue21
  t46 := Tryz.underlying261
  a46 := Tryz.isAgg261
  z46 := Tryz.sizeOf261
  v46 := Tryz.zeroValue261
  t105 := Tryz.underlying309
  a105 := Tryz.isAgg309
  z105 := Tryz.sizeOf309
  v105 := Tryz.zeroValue309
  t116 := Tryz.underlying267
  a116 := Tryz.isAgg267
  z116 := Tryz.sizeOf267
  t117 := Tryz.underlying268
  a117 := Tryz.isAgg268
  z117 := Tryz.sizeOf268
  v117 := Tryz.zeroValue268
  t119 := Tryz.underlying360
  a119 := Tryz.isAgg360
  z119 := Tryz.sizeOf360
  t124 := Tryz.underlying271
  a124 := Tryz.isAgg271
  z124 := Tryz.sizeOf271
  v124 := Tryz.zeroValue271
  t138 := Tryz.underlying362
  a138 := Tryz.isAgg362
  z138 := Tryz.sizeOf362
  v138 := Tryz.zeroValue362
  t139 := Tryz.underlying363
  a139 := Tryz.isAgg363
  z139 := Tryz.sizeOf363
  v139 := Tryz.zeroValue363
  g3 := by kernel_rfl
  g4 := by kernel_rfl }
def Tryz.lays172_ren : Go.Shelf.Ren := ⟨fun | 172 => 186 | 244 => 246 | 245 => 247 | 247 => 293 | 279 => 294 | 280 => 295 | 281 => 296 | 282 => 297 | 287 => 334 | 316 => 187 | 171 => 102 | 205 => 335 | 321 => 348 | 322 => 349 | 243 => 183 | 246 => 236 | 283 => 283 | 284 => 284 | 285 => 285 | 286 => 286 | 129 => 269 | 317 => 327 | 318 => 328 | 319 => 329 | 320 => 330 | 337 => 344 | 338 => 345 | n => n, fun | 9 => 9 | 3 => 3 | 75 => 198 | 76 => 199 | 4 => 4 | 5 => 5 | 167 => 313 | 37 => 22 | 0 => 0 | 85 => 314 | 2 => 2 | 168 => 316 | 53 => 298 | 175 => 347 | 46 => 261 | 210 => 350 | 127 => 250 | 145 => 368 | 143 => 366 | 21 => 21 | 171 => 305 | 173 => 307 | 212 => 343 | 51 => 296 | 20 => 20 | 213 => 344 | 232 => 371 | 233 => 372 | 80 => 201 | n => n, fun | 15 => 3 | 16 => 4 | 17 => 2 | 18 => 7 | 19 => 8 | n => n⟩
theorem Tryz.lays172 : Go.Proofs.Lays.n172 Tryz.prog Tryz.lays172_ren := {
  mixed := by kernel_rfl
  f129 := Tryz.func269.trans (congrArg some (by kernel_rfl))
  f171 := Tryz.func102.trans (congrArg some (by kernel_rfl))
  f172 := Tryz.func186.trans (congrArg some (by kernel_rfl))
  f205 := Tryz.func335.trans (congrArg some (by kernel_rfl))
  f243 := Tryz.func183.trans (congrArg some (by kernel_rfl))
  f244 := Tryz.func246.trans (congrArg some (by kernel_rfl))
  f245 := Tryz.func247.trans (congrArg some (by kernel_rfl))
  f246 := Tryz.func236.trans (congrArg some (by kernel_rfl))
  f247 := Tryz.func293.trans (congrArg some (by kernel_rfl))
  f279 := Tryz.func294.trans (congrArg some (by kernel_rfl))
  f280 := Tryz.func295.trans (congrArg some (by kernel_rfl))
  f281 := Tryz.func296.trans (congrArg some (by kernel_rfl))
  f282 := Tryz.func297.trans (congrArg some (by kernel_rfl))
  f283 := Tryz.func283.trans (congrArg some (by kernel_rfl))
  f284 := Tryz.func284.trans (congrArg some (by kernel_rfl))
  f285 := Tryz.func285.trans (congrArg some (by kernel_rfl))
  f286 := Tryz.func286.trans (congrArg some (by kernel_rfl))
  f287 := Tryz.func334.trans (congrArg some (by kernel_rfl))
  f316 := Tryz.func187.trans (congrArg some (by kernel_rfl))
  f317 := Tryz.func327.trans (congrArg some (by kernel_rfl))
  f318 := Tryz.func328.trans (congrArg some (by kernel_rfl))
  f319 := Tryz.func329.trans (congrArg some (by kernel_rfl))
  f320 := Tryz.func330.trans (congrArg some (by kernel_rfl))
  f321 := Tryz.func348.trans (congrArg some (by kernel_rfl))
  f322 := Tryz.func349.trans (congrArg some (by kernel_rfl))
  f337 := Tryz.func344.trans (congrArg some (by kernel_rfl))
  f338 := Tryz.func345.trans (congrArg some (by kernel_rfl))
  t0 := Tryz.underlying0
  a0 := Tryz.isAgg0
  z0 := Tryz.sizeOf0
  v0 := Tryz.zeroValue0
  t2 := Tryz.underlying2
  a2 := Tryz.isAgg2
  z2 := Tryz.sizeOf2
  v2 := Tryz.zeroValue2
  t3 := Tryz.underlying3
  a3 := Tryz.isAgg3
  z3 := Tryz.sizeOf3
  v3 := Tryz.zeroValue3
  t4 := Tryz.underlying4
  a4 := Tryz.isAgg4
  z4 := Tryz.sizeOf4
  v4 := Tryz.zeroValue4
  t5 := Tryz.underlying5
  a5 := Tryz.isAgg5
  z5 := Tryz.sizeOf5
  v5 := Tryz.zeroValue5
  t9 := Tryz.underlying9
  a9 := Tryz.isAgg9
  z9 := Tryz.sizeOf9
  v9 := Tryz.zeroValue9
  t20 := Tryz.underlying20
  a20 := Tryz.isAgg20
  z20 := Tryz.sizeOf20
  v20 := Tryz.zeroValue20
  t21 := Tryz.underlying21
  a21 := Tryz.isAgg21
  z21 := Tryz.sizeOf21
  v21 := Tryz.zeroValue21
  t37 := Tryz.underlying22
  a37 := Tryz.isAgg22
  z37 := Tryz.sizeOf22
  v37 := Tryz.zeroValue22
  t46 := Tryz.underlying261
  a46 := Tryz.isAgg261
  z46 := Tryz.sizeOf261
  v46 := Tryz.zeroValue261
  t51 := Tryz.underlying296
  a51 := Tryz.isAgg296
  z51 := Tryz.sizeOf296
  v51 := Tryz.zeroValue296
  t53 := Tryz.underlying298
  a53 := Tryz.isAgg298
  z53 := Tryz.sizeOf298
  v53 := Tryz.zeroValue298
  t75 := Tryz.underlying198
  a75 := Tryz.isAgg198
  z75 := Tryz.sizeOf198
  v75 := Tryz.zeroValue198
  t76 := Tryz.underlying199
  a76 := Tryz.isAgg199
  z76 := Tryz.sizeOf199
  v76 := Tryz.zeroValue199
  t85 := Tryz.underlying314
  a85 := Tryz.isAgg314
  z85 := Tryz.sizeOf314
  v85 := Tryz.zeroValue314
  t127 := Tryz.underlying250
  a127 := Tryz.isAgg250
  z127 := Tryz.sizeOf250
  v127 := Tryz.zeroValue250
  t143 := Tryz.underlying366
  a143 := Tryz.isAgg366
  z143 := Tryz.sizeOf366
  v143 := Tryz.zeroValue366
  t145 := Tryz.underlying368
  a145 := Tryz.isAgg368
  z145 := Tryz.sizeOf368
  v145 := Tryz.zeroValue368
  t167 := Tryz.underlying313
  a167 := Tryz.isAgg313
  z167 := Tryz.sizeOf313
  v167 := Tryz.zeroValue313
  t168 := Tryz.underlying316
  a168 := Tryz.isAgg316
  z168 := Tryz.sizeOf316
  v168 := Tryz.zeroValue316
  t171 := Tryz.underlying305
  a171 := Tryz.isAgg305
  z171 := Tryz.sizeOf305
  v171 := Tryz.zeroValue305
  t173 := Tryz.underlying307
  a173 := Tryz.isAgg307
  z173 := Tryz.sizeOf307
  v173 := Tryz.zeroValue307
  t175 := Tryz.underlying347
  a175 := Tryz.isAgg347
  z175 := Tryz.sizeOf347
  v175 := Tryz.zeroValue347
  t210 := Tryz.underlying350
  a210 := Tryz.isAgg350
  z210 := Tryz.sizeOf350
  v210 := Tryz.zeroValue350
  t212 := Tryz.underlying343
  a212 := Tryz.isAgg343
  z212 := Tryz.sizeOf343
  v212 := Tryz.zeroValue343
  t213 := Tryz.underlying344
  a213 := Tryz.isAgg344
  z213 := Tryz.sizeOf344
  t232 := Tryz.underlying371
  a232 := Tryz.isAgg371
  z232 := Tryz.sizeOf371
  v232 := Tryz.zeroValue371
  t233 := Tryz.underlying372
  a233 := Tryz.isAgg372
  z233 := Tryz.sizeOf372
  v233 := Tryz.zeroValue372
  g15 := by kernel_rfl
  g16 := by kernel_rfl
  g17 := by kernel_rfl
  g18 := by kernel_rfl
  g19 := by kernel_rfl }
open Go.RowKit in
theorem Tryz.strconv_Atoi (s : ByteArray) (n : Int) (hl : s.size ≤ 18) (h : Lib.atoi s.data.toList = some n) (w : World) :
    Calls Tryz.prog 186 #[.string s] w fun e w' => e = .returned (.tuple #[.int .i64 n, .nilIface]) ∧ ∃ t, w' = Lib.bytesWorld w 5 t := Any.strconv_Atoi Tryz.lays172 s n hl h w
end Go.Proofs
/- The library's cutting of strings: its meaning, its contract. -/
set_option linter.unusedVariables false
set_option linter.unusedSimpArgs false
namespace Lx
open Go Go.Proofs

theorem splitK_eq (c : UInt8) (k : Nat) (s : Str) : Lib.splitK [c] 0 (k + 1) (c :: s) = [] :: Lib.splitK [c] 0 k s := by
  have h : Lib.index (c :: s) [c] = 0 := by rw [Lib.index]; simp [List.isPrefixOf]
  rw [Lib.splitK, h]
  simp
theorem splitK_ne {c b : UInt8} (h : b ≠ c) (k : Nat) (s : Str) : ∃ w ws, Lib.splitK [c] 0 k s = w :: ws ∧ Lib.splitK [c] 0 k (b :: s) = (b :: w) :: ws := by
  cases k with
  | zero => exact ⟨s, [], rfl, rfl⟩
  | succ k =>
    have hp : ([c] : List UInt8).isPrefixOf (b :: s) = false := by simp [List.isPrefixOf, Ne.symm h]
    have hix : Lib.index (b :: s) [c] = if Lib.index s [c] == -1 then -1 else Lib.index s [c] + 1 := by rw [Lib.index, hp]; simp
    by_cases hm : Lib.index s [c] = -1
    · refine ⟨s, [], ?_, ?_⟩
      · rw [Lib.splitK, if_pos (beq_iff_eq.2 hm)]
      · rw [Lib.splitK, if_pos (beq_iff_eq.2 (by rw [hix, if_pos (beq_iff_eq.2 hm)]))]
    · have hge := Lib.index_ge s [c]
      obtain ⟨j, hj⟩ : ∃ j : Nat, Lib.index s [c] = j := ⟨(Lib.index s [c]).toNat, by omega⟩
      have hix' : Lib.index (b :: s) [c] = ((j + 1 : Nat) : Int) := by rw [hix, if_neg (fun e => hm (beq_iff_eq.1 e)), hj]; omega
      refine ⟨s.take j, Lib.splitK [c] 0 k (s.drop (j + 1)), ?_, ?_⟩
      · rw [Lib.splitK, if_neg (fun e => hm (beq_iff_eq.1 e)), hj]; simp
      · rw [Lib.splitK, if_neg (fun e => by have := beq_iff_eq.1 e; omega), hix']
        have e : ((j + 1 : Nat) : Int).toNat = j + 1 := by omega
        rw [e]
        simp
theorem splitK_all (c : UInt8) : ∀ (s : Str), Lib.splitK [c] 0 (s.count c) s = cutS (c.toNat : Int) s
  | [] => rfl
  | b :: s => by
    by_cases h : b = c
    · subst h
      rw [List.count_cons_self, splitK_eq, splitK_all b s]
      simp [cutS]
    · obtain ⟨w, ws, h1, h2⟩ := splitK_ne h (s.count c) s
      rw [List.count_cons_of_ne (by simpa using h), h2]
      have : ¬ ((b.toNat : Int) == (c.toNat : Int)) = true := fun e => h (UInt8.toNat_inj.1 (by have := eq_of_beq e; omega))
      rw [cutS, if_neg this, ← splitK_all c s, h1]

def szS (s : Str) : Bool := decide (s.length ≤ 1000000000)
/-- How many pieces at most, behind the first cut. -/
def cutsOf (s : Str) (c : UInt8) (n : Int) : Nat := if n < 0 then s.count c else min n.toNat (s.length + 1) - 1
def E_strings_genSplit : Ent Ty El := ⟨[.ro, .ro, .ro, .ro], 0, fun a h => match a, h with
  | [.str s, .str [c], .int .i64 0, .int .i64 n], [] => some (szS s && (!decide (n = 0) && decide (n ≤ 1000000000)), .sl .str (Lib.splitK [c] 0 (cutsOf s c n) s), [])
  | _, _ => none⟩
def E_strings_Split : Ent Ty El := ⟨[.ro, .ro], 0, fun a h => match a, h with
  | [.str s, .str [c]], [] => some (szS s, .sl .str (cutS (c.toNat : Int) s), [])
  | _, _ => none⟩
def E_strings_SplitN : Ent Ty El := ⟨[.ro, .ro, .ro], 0, fun a h => match a, h with
  | [.str s, .str [c], .int .i64 n], [] => some (szS s && (!decide (n = 0) && decide (n ≤ 1000000000)), .sl .str (Lib.splitK [c] 0 (cutsOf s c n) s), [])
  | _, _ => none⟩

theorem cutB (s : ByteArray) (c : UInt8) (k : Nat) : (Lib.splitB ⟨#[c]⟩ 0 k s).map (fun x => x.data.toList) = Lib.splitK [c] 0 k s.data.toList := Lib.splitB_data ⟨#[c]⟩ 0 k s

theorem c_strings_genSplit (s : Str) (c : UInt8) (n : Int) (hg : (szS s && (!decide (n = 0) && decide (n ≤ 1000000000))) = true) : CallOK Tryz.prog CP g_strings_genSplit [.str s, .str [c], .int .i64 0, .int .i64 n] [] (.sl .str (Lib.splitK [c] 0 (cutsOf s c n) s)) [] := by
  simp only [szS, Bool.and_eq_true, decide_eq_true_eq, Bool.not_eq_true', decide_eq_false_iff_not] at hg
  obtain ⟨hs, hn0, hn⟩ := hg
  refine CallOK.quiet CP_ok fun w N vs hsz hrep => ?_
  obtain ⟨sb, h0, hsb⟩ := arg_str hrep hsz (j := 0) rfl
  obtain ⟨cb, h1, hcb⟩ := arg_str hrep hsz (j := 1) rfl
  have h2 := arg_int hrep hsz (j := 2) rfl
  have h3 := arg_int hrep hsz (j := 3) rfl
  obtain rfl : cb = ⟨#[c]⟩ := ba_ext hcb
  rw [arr4 hsz h0 h1 h2 h3]
  have hsize : sb.size = s.length := by rw [Lib.size_eq, hsb]
  have hcnt : Lib.countB sb ⟨#[c]⟩ = s.count c := by
    show Lib.count sb.data.toList [c] = _
    rw [Lib.count_one, hsb]
  have hle : s.count c ≤ s.length := List.count_le_length
  have hN : ((cutsOf s c n + 1 : Nat) : Int) = min (if n < 0 then (Lib.countB sb ⟨#[c]⟩ : Int) + 1 else n) ((sb.size : Int) + 1) := by
    rw [hcnt, hsize]
    unfold cutsOf
    by_cases h : n < 0
    · rw [if_pos h, if_pos h]; omega
    · rw [if_neg h, if_neg h]; omega
  have hc := Any.strings_genSplit_core Tryz.lays221 (by kernel_rfl) sb ⟨#[c]⟩ 0 n (cutsOf s c n + 1) w (by omega) (Nat.le_refl 1) (Nat.zero_le _)
    (fun x cc hx => by
      have := Any.strings_Index_one Tryz.lays143 x c (w.alloc (.cells cc 9))
      refine Calls.mono this ?_
      rintro e w' ⟨rfl, rfl⟩
      refine ⟨?_, rfl⟩
      rw [← Lib.index_one])
    (by
      refine Calls.mono (Any.strings_Count_one Tryz.lays138 sb c w) ?_
      rintro e w' ⟨rfl, rfl⟩
      refine ⟨?_, rfl⟩
      rw [hcnt, ← hsb]; rfl) hn0 (by omega) hN
  refine Calls.mono hc ?_
  rintro e w' ⟨rfl, rfl⟩
  refine ⟨_, rfl, Fr.alloc w _, fun N' hro hN' => ?_⟩
  have hlen := Lib.splitB_length_le ⟨#[c]⟩ 0 (cutsOf s c n) sb
  have := RepA.newStrs (El := El) CP_ok (T := .str) (f := fun x => x) (g := fun x => x) (fun x => rfl) (fun _ => rfl) (N := N') (w := w) (t := 9) (ss := Lib.splitB ⟨#[c]⟩ 0 (cutsOf s c n) sb) (n := (Lib.splitB ⟨#[c]⟩ 0 (cutsOf s c n) sb).length) (cap := cutsOf s c n + 1)
    (arr := Lib.cellsOf (Lib.splitB ⟨#[c]⟩ 0 (cutsOf s c n) sb) (cutsOf s c n + 1)) rfl (by omega) (hN' _ (Nat.le_refl _) (by rw [alloc_size]; omega)) (fun i x hx => by
      unfold Lib.cellsOf
      have hi := (List.getElem?_eq_some_iff.1 hx).1
      rw [List.getElem?_toArray, List.getElem?_append_left (by simpa using hi), List.getElem?_map, hx]; rfl)
  rw [cutB, hsb] at this
  exact this
theorem E_strings_genSplit_ok : EntOK Tryz.prog CP g_strings_genSplit E_strings_genSplit := by
  refine ⟨⟨Tryz.f184, by kernel_rfl, by kernel_rfl, by kernel_rfl⟩, fun args H res H' h => ?_⟩
  simp only [E_strings_genSplit] at h
  split at h
  · simp only [Option.some.injEq, Prod.mk.injEq] at h
    obtain ⟨hg, rfl, rfl⟩ := h
    exact c_strings_genSplit _ _ _ hg
  · cases h
end Lx
/- Strings cut by the library. -/
set_option linter.unusedVariables false
set_option linter.unusedSimpArgs false
set_option maxRecDepth 4000
namespace Lx
open Go Go.Proofs
/-- strings.Split -/
noncomputable def R_strings_Split : RE Ty El := ⟨Tryz.prog, CP, [(g_strings_genSplit, E_strings_genSplit)], Tryz.f168, 0, [], []⟩
theorem R_strings_Split_ok : REOK R_strings_Split g_strings_Split := ⟨CP_ok, (TabOK.cons E_strings_genSplit_ok EOKnil), by kernel_rfl, by kernel_rfl⟩
theorem t_strings_Split (s : Str) (c : UInt8) : aRun R_strings_Split 600 false (body0 R_strings_Split.fn) (initSt R_strings_Split.fn [.str s, .str [c]] []) =
  ifb (szS s && (!decide ((-1 : Int) = (0 : Int)) && decide ((-1 : Int) ≤ (1000000000 : Int)))) (some (.ret (.sl .str (Lib.splitK [c] (0 : Nat) (cutsOf s c (-1 : Int)) s)) [])) (none) := by kernel_rfl
theorem c_strings_Split (s : Str) (c : UInt8) (hg : szS s = true) : CallOK Tryz.prog CP g_strings_Split [.str s, .str [c]] [] (.sl .str (cutS (c.toNat : Int) s)) [] := by
  refine CallOK.of R_strings_Split_ok (by kernel_rfl) (t_strings_Split s c) ?_
  refine Sat.ifb (fun _ => ?_) (fun h => ?_)
  · refine Sat.ret ?_ rfl
    rw [← splitK_all]; rfl
  · refine Sat.no ?_
    simp [hg] at h
theorem E_strings_Split_ok : EntOK Tryz.prog CP g_strings_Split E_strings_Split := by
  refine ⟨⟨Tryz.f168, by kernel_rfl, by kernel_rfl, by kernel_rfl⟩, fun args H res H' h => ?_⟩
  simp only [E_strings_Split] at h
  split at h
  · simp only [Option.some.injEq, Prod.mk.injEq] at h
    obtain ⟨hg, rfl, rfl⟩ := h
    exact c_strings_Split _ _ hg
  · cases h

/-- strings.SplitN -/
noncomputable def R_strings_SplitN : RE Ty El := ⟨Tryz.prog, CP, [(g_strings_genSplit, E_strings_genSplit)], Tryz.f103, 0, [], []⟩
end Lx
/- Maps: what is put is found; the base, as the program asks it. -/
set_option linter.unusedVariables false
set_option linter.unusedSimpArgs false
namespace Lx
open Go Go.Proofs
theorem getK_putK {K V : Ty} (hk : ∀ a b : El K, CP.keq K a b = true ↔ a = b) (c c' : El K) (y : El V) : ∀ m : List (El K × El V), getK CP K V c' (putK CP K V c y m) = if CP.keq K c' c = true then y else getK CP K V c' m
  | [] => by simp only [putK, getK]
  | p :: m => by
    simp only [putK]
    by_cases h : CP.keq K c p.1 = true
    · rw [if_pos h]
      simp only [getK]
      by_cases h2 : CP.keq K c' c = true
      · rw [if_pos h2, if_pos h2]
      · rw [if_neg h2, if_neg h2]
        have : ¬ CP.keq K c' p.1 = true := fun e => h2 ((hk _ _).2 (((hk _ _).1 e).trans ((hk _ _).1 h).symm))
        rw [if_neg this]
    · rw [if_neg h]
      simp only [getK]
      rw [getK_putK hk c c' y m]
      by_cases h2 : CP.keq K c' p.1 = true
      · have : ¬ CP.keq K c' c = true := fun e => h ((hk _ _).2 (((hk _ _).1 e).symm.trans ((hk _ _).1 h2)))
        rw [if_pos h2, if_neg this, if_pos h2]
      · rw [if_neg h2, if_neg h2]
theorem pair_eq (a b : Cell) : CP.keq .pair a b = true ↔ a = b := by
  obtain ⟨ax, ay⟩ := a
  obtain ⟨bx, b_y⟩ := b
  show ((ax == bx && ay == b_y) = true) ↔ _
  simp
/-- The map knows the points that were seen. -/
def knows (m : List (El .pair × El .bool)) (seen : List Point) : Prop := ∀ p : Point, getK CP .pair .bool (⟨p.x, p.y⟩ : Cell) m = !freeOf seen p
theorem knows_nil : knows [] [] := fun p => rfl
theorem knows_put {m : List (El .pair × El .bool)} {seen : List Point} (h : knows m seen) (q : Point) : knows (putK CP .pair .bool (⟨q.x, q.y⟩ : Cell) true m) (seen ++ [q]) := fun p => by
  rw [getK_putK pair_eq, h p]
  have e : CP.keq .pair (⟨p.x, p.y⟩ : Cell) (⟨q.x, q.y⟩ : Cell) = (q.x == p.x && q.y == p.y) := by
    show (p.x == q.x && p.y == q.y) = _
    rw [Bool.beq_comm (a := p.x), Bool.beq_comm (a := p.y)]
  rw [e]
  simp only [freeOf, List.all_append, List.all_cons, List.all_nil, Bool.and_true]
  by_cases hc : (q.x == p.x && q.y == p.y) = true
  · rw [if_pos hc, hc]; simp
  · rw [if_neg hc]
    have : (q.x == p.x && q.y == p.y) = false := by simpa using hc
    rw [this]; simp
def E_impl_PlanBaseOk : Ent Ty El := E_spec_PlanBaseOk
theorem le_lt (a b : Str) : (bytesLt a b || a == b) = !bytesLt b a := by
  have tot : ∀ a b : Str, (bytesLt a b || a == b) = !bytesLt b a := by
    intro a
    induction a with
    | nil => intro b; cases b <;> rfl
    | cons x a ih =>
      intro b
      cases b with
      | nil => rfl
      | cons y b =>
        simp only [bytesLt]
        have hne : ((x :: a) == (y :: b)) = (x == y && a == b) := rfl
        rw [hne]
        by_cases h1 : x < y
        · have h2 : ¬ y < x := fun h => by exact absurd (UInt8.lt_trans h1 h) (UInt8.lt_irrefl _)
          have h3 : (x == y) = false := by simp; intro e; subst e; exact absurd h1 (UInt8.lt_irrefl _)
          have h4 : ¬ y = x := fun e => by subst e; exact absurd h1 (UInt8.lt_irrefl _)
          simp [h1, h2, h3, h4]
        · by_cases h2 : y < x
          · have h3 : (x == y) = false := by simp; intro e; subst e; exact absurd h2 (UInt8.lt_irrefl _)
            simp [h1, h2, h3]
          · have h3 : x = y := by
              have a1 := UInt8.not_lt.1 h1
              have a2 := UInt8.not_lt.1 h2
              exact UInt8.le_antisymm a2 a1
            subst h3
            simp [h1, ih b]
  exact tot a b
end Lx
/- The base, as the program asks it. -/
set_option linter.unusedVariables false
set_option linter.unusedSimpArgs false
set_option maxRecDepth 4000
namespace Lx
open Go Go.Proofs
/-- impl.PlanBaseOk -/
noncomputable def R_impl_PlanBaseOk : RE Ty El := ⟨Tryz.prog, CP, [(g_impl_kindOk, E_impl_kindOk), (g_impl_pointOk, E_impl_pointOk)], Tryz.f92, 0, [], [(4, [(1, .any), (20, .any), (21, .any), (22, .any)]), (11, [(1, .any), (5, .any), (49, .any), (50, .any), (51, .any)])]⟩
theorem R_impl_PlanBaseOk_ok : REOK R_impl_PlanBaseOk g_impl_PlanBaseOk := ⟨CP_ok, (TabOK.cons E_impl_kindOk_ok (TabOK.cons E_impl_pointOk_ok EOKnil)), by kernel_rfl, by kernel_rfl⟩
theorem t_impl_PlanBaseOk (ks : List Kind) (ps : List Point) : aRun R_impl_PlanBaseOk 600 false (body0 R_impl_PlanBaseOk.fn) (initSt R_impl_PlanBaseOk.fn [.agg [.sl .kind ks, .sl .point ps]] []) =
  ifb (decide ((↑ks.length : Int) > (6 : Int))) (some (.ret (.bool false) [])) (ifb (decide ((↑ps.length : Int) > (16 : Int))) (some (.ret (.bool false) [])) (some (.go (todoAt R_impl_PlanBaseOk.fn 4) [.ptr 0 0, .sl .kind ks, .int .i64 (↑ks.length : Int), .int .i64 (0 : Int)] [.box [.sl .kind ks, .sl .point ps]]))) := by kernel_rfl
theorem t_impl_PlanBaseOk_4 (x0 : List (El .kind)) (x1 : Int) (x2 : Int) (x3 : List (El .kind)) (x4 : List (El .point)) : aRun R_impl_PlanBaseOk 600 true (todoAt R_impl_PlanBaseOk.fn 4) (cutSt R_impl_PlanBaseOk.fn (liveOf R_impl_PlanBaseOk (todoAt R_impl_PlanBaseOk.fn 4)) [.ptr 0 0, .sl .kind x0, .int .i64 x1, .int .i64 x2] [.box [.sl .kind x3, .sl .point x4]]) =
  ifb (decide (x2 < x1)) (ifb (inb x2 x0.length) (ifb (!Kind.ok (x0.getD x2.toNat (R_impl_PlanBaseOk.C.dflt Ty.kind))) (some (.ret (.bool false) [])) (ifb (decide (x2 > (0 : Int))) (ifb (inb (IntKind.i64.wrap (x2 - (1 : Int))) x3.length) (ifb (bytesLt (x0.getD x2.toNat (R_impl_PlanBaseOk.C.dflt Ty.kind)).name (x3.getD (IntKind.i64.wrap (x2 - (1 : Int))).toNat (R_impl_PlanBaseOk.C.dflt Ty.kind)).name || (x0.getD x2.toNat (R_impl_PlanBaseOk.C.dflt Ty.kind)).name == (x3.getD (IntKind.i64.wrap (x2 - (1 : Int))).toNat (R_impl_PlanBaseOk.C.dflt Ty.kind)).name) (some (.ret (.bool false) [])) (some (.go (todoAt R_impl_PlanBaseOk.fn 4) [.ptr 0 0, .sl .kind x0, .int .i64 x1, .int .i64 (IntKind.i64.wrap (x2 + (1 : Int)))] [.box [.sl .kind x3, .sl .point x4]]))) (none)) (some (.go (todoAt R_impl_PlanBaseOk.fn 4) [.ptr 0 0, .sl .kind x0, .int .i64 x1, .int .i64 (IntKind.i64.wrap (x2 + (1 : Int)))] [.box [.sl .kind x3, .sl .point x4]])))) (none)) (some (.go (todoAt R_impl_PlanBaseOk.fn 11) [.ptr 0 0, .mapr 1, .sl .point x4, .int .i64 (↑x4.length : Int), .int .i64 (0 : Int)] [.box [.sl .kind x3, .sl .point x4], .mp .pair .bool []])) := by kernel_rfl
theorem t_impl_PlanBaseOk_11 (x0 : List (El .point)) (x1 : Int) (x2 : Int) (x3 : List (El .kind)) (x4 : List (El .point)) (x5 : List (El .pair × El .bool)) : aRun R_impl_PlanBaseOk 600 true (todoAt R_impl_PlanBaseOk.fn 11) (cutSt R_impl_PlanBaseOk.fn (liveOf R_impl_PlanBaseOk (todoAt R_impl_PlanBaseOk.fn 11)) [.ptr 0 0, .mapr 1, .sl .point x0, .int .i64 x1, .int .i64 x2] [.box [.sl .kind x3, .sl .point x4], .mp .pair .bool x5]) =
  ifb (decide (x2 < x1)) (ifb (inb x2 x0.length) (ifb (!Point.ok (x0.getD x2.toNat (R_impl_PlanBaseOk.C.dflt Ty.point))) (some (.ret (.bool false) [])) (ifb (getK R_impl_PlanBaseOk.C Ty.pair Ty.bool { x := (x0.getD x2.toNat (R_impl_PlanBaseOk.C.dflt Ty.point)).x, y := (x0.getD x2.toNat (R_impl_PlanBaseOk.C.dflt Ty.point)).y } x5) (some (.ret (.bool false) [])) (ifb (decide (x2 > (0 : Int))) (ifb (inb (IntKind.i64.wrap (x2 - (1 : Int))) x4.length) (ifb (bytesLt (x0.getD x2.toNat (R_impl_PlanBaseOk.C.dflt Ty.point)).name (x4.getD (IntKind.i64.wrap (x2 - (1 : Int))).toNat (R_impl_PlanBaseOk.C.dflt Ty.point)).name || (x0.getD x2.toNat (R_impl_PlanBaseOk.C.dflt Ty.point)).name == (x4.getD (IntKind.i64.wrap (x2 - (1 : Int))).toNat (R_impl_PlanBaseOk.C.dflt Ty.point)).name) (some (.ret (.bool false) [])) (some (.go (todoAt R_impl_PlanBaseOk.fn 11) [.ptr 0 0, .mapr 1, .sl .point x0, .int .i64 x1, .int .i64 (IntKind.i64.wrap (x2 + (1 : Int)))] [.box [.sl .kind x3, .sl .point x4], .mp .pair .bool (putK R_impl_PlanBaseOk.C Ty.pair Ty.bool { x := (x0.getD x2.toNat (R_impl_PlanBaseOk.C.dflt Ty.point)).x, y := (x0.getD x2.toNat (R_impl_PlanBaseOk.C.dflt Ty.point)).y } true x5)]))) (none)) (some (.go (todoAt R_impl_PlanBaseOk.fn 11) [.ptr 0 0, .mapr 1, .sl .point x0, .int .i64 x1, .int .i64 (IntKind.i64.wrap (x2 + (1 : Int)))] [.box [.sl .kind x3, .sl .point x4], .mp .pair .bool (putK R_impl_PlanBaseOk.C Ty.pair Ty.bool { x := (x0.getD x2.toNat (R_impl_PlanBaseOk.C.dflt Ty.point)).x, y := (x0.getD x2.toNat (R_impl_PlanBaseOk.C.dflt Ty.point)).y } true x5)]))))) (none)) (some (.ret (.bool true) [])) := by kernel_rfl
theorem lp_impl_PlanBaseOk (ks : List Kind) (ps : List Point) (hp : ps.length ≤ 16) : ∀ (d i : Nat) (m : List (El .pair × El .bool)), i + d = ps.length → knows m (ps.take i) →
    Cut R_impl_PlanBaseOk g_impl_PlanBaseOk 11 [.ptr 0 0, .mapr 1, .sl .point ps, .int .i64 (ps.length : Int), .int .i64 (i : Int)] [.box [.sl .kind ks, .sl .point ps], .mp .pair .bool m] (.bool (pointsGo (ps.take i) ((ps.take i).getLast?.map (·.name)) (ps.drop i))) [] := by
  intro d
  induction d with
  | zero =>
    intro i m hi hm
    refine Cut.of R_impl_PlanBaseOk_ok rfl (t_impl_PlanBaseOk_11 ps ps.length i ks ps m) ?_
    rw [decide_eq_false (by omega), List.drop_of_length_le (by omega)]
    exact Sat.retB rfl rfl
  | succ d ih =>
    intro i m hi hm
    refine Cut.of R_impl_PlanBaseOk_ok rfl (t_impl_PlanBaseOk_11 ps ps.length i ks ps m) ?_
    have hlt : i < ps.length := by omega
    have hw : IntKind.wrap .i64 ((i : Int) + 1) = ((i + 1 : Nat) : Int) := by rw [wrap_ok] <;> omega
    have hw1 : IntKind.wrap .i64 ((i : Int) - 1) = (i : Int) - 1 := by rw [wrap_ok] <;> omega
    have hd : ps.drop i = ps[i] :: ps.drop (i + 1) := List.drop_eq_getElem_cons hlt
    have hx : ps.getD (i : Int).toNat (R_impl_PlanBaseOk.C.dflt .point) = ps[i] := by simp [hlt]
    have hin : inb (i : Int) ps.length = true := by simp only [inb, Bool.and_eq_true, decide_eq_true_eq]; omega
    have hlo : decide ((i : Int) < (ps.length : Int)) = true := decide_eq_true (by omega)
    have hl : (ps.take (i + 1)).getLast? = some ps[i] := by rw [List.take_succ_eq_append_getElem hlt, List.getLast?_concat]
    have ih' := ih (i + 1) (putK CP .pair .bool (⟨ps[i].x, ps[i].y⟩ : Cell) true m) (by omega) (by rw [List.take_succ_eq_append_getElem hlt]; exact knows_put hm ps[i])
    rw [hl, Option.map_some] at ih'
    rw [hw, hw1, hx, hd, hin, hlo, pointsGo, ← List.take_succ_eq_append_getElem hlt]
    simp only [ifb_true]
    cases hk : ps[i].ok with
    | false => exact Sat.retB rfl rfl
    | true =>
      have hkn : getK R_impl_PlanBaseOk.C .pair .bool ⟨ps[i].x, ps[i].y⟩ m = !freeOf (ps.take i) ps[i] := hm ps[i]
      rw [hkn]
      simp only [Bool.not_true, ifb_false, Bool.true_and]
      cases hf : freeOf (ps.take i) ps[i] with
      | false =>
        refine Sat.retB ?_ rfl
        simp
      | true =>
      simp only [Bool.not_true, ifb_false, Bool.true_and]
      by_cases h0 : (i : Int) > 0
      · have hi1 : i - 1 < ps.length := by omega
        have hx1 : ps.getD ((i : Int) - 1).toNat (R_impl_PlanBaseOk.C.dflt .point) = ps[i - 1] := by
          rw [show ((i : Int) - 1).toNat = i - 1 by omega]; simp [hi1]
        have hl1 : (ps.take i).getLast? = some ps[i - 1] := by
          have := List.take_succ_eq_append_getElem hi1
          rw [show i - 1 + 1 = i by omega] at this
          rw [this, List.getLast?_concat]
        have hin1 : inb ((i : Int) - 1) ps.length = true := by simp only [inb, Bool.and_eq_true, decide_eq_true_eq]; omega
        rw [decide_eq_true h0, hx1, hl1, hin1, le_lt]
        simp only [ifb_true, Option.map_some, afterB]
        cases hb : bytesLt ps[i - 1].name ps[i].name with
        | false => exact Sat.retB rfl rfl
        | true =>
          simp only [Bool.not_true, ifb_false, Bool.true_and]
          exact Sat.cut ih'
      · rw [decide_eq_false h0]
        have : i = 0 := by omega
        subst this
        exact Sat.cut ih'
theorem lk_impl_PlanBaseOk (ks : List Kind) (ps : List Point) (hk6 : ks.length ≤ 6) (hp : ps.length ≤ 16) : ∀ (d i : Nat), i + d = ks.length →
    Cut R_impl_PlanBaseOk g_impl_PlanBaseOk 4 [.ptr 0 0, .sl .kind ks, .int .i64 (ks.length : Int), .int .i64 (i : Int)] [.box [.sl .kind ks, .sl .point ps]] (.bool (kindsGo ((ks.take i).getLast?.map (·.name)) (ks.drop i) && pointsGo [] none ps)) [] := by
  intro d
  induction d with
  | zero =>
    intro i hi
    refine Cut.of R_impl_PlanBaseOk_ok rfl (t_impl_PlanBaseOk_4 ks ks.length i ks ps) ?_
    rw [decide_eq_false (by omega), List.drop_of_length_le (by omega)]
    have := lp_impl_PlanBaseOk ks ps hp ps.length 0 [] (by omega) knows_nil
    exact Sat.cut this
  | succ d ih =>
    intro i hi
    refine Cut.of R_impl_PlanBaseOk_ok rfl (t_impl_PlanBaseOk_4 ks ks.length i ks ps) ?_
    have hlt : i < ks.length := by omega
    have hw : IntKind.wrap .i64 ((i : Int) + 1) = ((i + 1 : Nat) : Int) := by rw [wrap_ok] <;> omega
    have hw1 : IntKind.wrap .i64 ((i : Int) - 1) = (i : Int) - 1 := by rw [wrap_ok] <;> omega
    have hd : ks.drop i = ks[i] :: ks.drop (i + 1) := List.drop_eq_getElem_cons hlt
    have hx : ks.getD (i : Int).toNat (R_impl_PlanBaseOk.C.dflt .kind) = ks[i] := by simp [hlt]
    have hin : inb (i : Int) ks.length = true := by simp only [inb, Bool.and_eq_true, decide_eq_true_eq]; omega
    have hlo : decide ((i : Int) < (ks.length : Int)) = true := decide_eq_true (by omega)
    have hl : (ks.take (i + 1)).getLast? = some ks[i] := by rw [List.take_succ_eq_append_getElem hlt, List.getLast?_concat]
    have ih' := ih (i + 1) (by omega)
    rw [hl, Option.map_some] at ih'
    rw [hw, hw1, hx, hd, hin, hlo, kindsGo]
    simp only [ifb_true]
    cases hk : ks[i].ok with
    | false => exact Sat.retB rfl rfl
    | true =>
      simp only [Bool.not_true, ifb_false, Bool.true_and]
      by_cases h0 : (i : Int) > 0
      · have hi1 : i - 1 < ks.length := by omega
        have hx1 : ks.getD ((i : Int) - 1).toNat (R_impl_PlanBaseOk.C.dflt .kind) = ks[i - 1] := by
          rw [show ((i : Int) - 1).toNat = i - 1 by omega]; simp [hi1]
        have hl1 : (ks.take i).getLast? = some ks[i - 1] := by
          have := List.take_succ_eq_append_getElem hi1
          rw [show i - 1 + 1 = i by omega] at this
          rw [this, List.getLast?_concat]
        have hin1 : inb ((i : Int) - 1) ks.length = true := by simp only [inb, Bool.and_eq_true, decide_eq_true_eq]; omega
        rw [decide_eq_true h0, hx1, hl1, hin1, le_lt]
        simp only [ifb_true, Option.map_some, afterB]
        cases hb : bytesLt ks[i - 1].name ks[i].name with
        | false => exact Sat.retB rfl rfl
        | true =>
          simp only [Bool.not_true, ifb_false, Bool.true_and]
          exact Sat.cut ih'
      · rw [decide_eq_false h0]
        have : i = 0 := by omega
        subst this
        exact Sat.cut ih'
theorem c_impl_PlanBaseOk (ks : List Kind) (ps : List Point) : CallOK Tryz.prog CP g_impl_PlanBaseOk [.agg [.sl .kind ks, .sl .point ps]] [] (.bool (baseOk ks ps)) [] := by
  refine CallOK.of R_impl_PlanBaseOk_ok (by kernel_rfl) (t_impl_PlanBaseOk ks ps) ?_
  by_cases h6 : ks.length ≤ 6
  · rw [decide_eq_false (by omega)]
    by_cases h16 : ps.length ≤ 16
    · rw [decide_eq_false (by omega)]
      have := lk_impl_PlanBaseOk ks ps h6 h16 ks.length 0 (by omega)
      rw [show baseOk ks ps = (kindsGo ((ks.take 0).getLast?.map (·.name)) (ks.drop 0) && pointsGo [] none ps) by simp [baseOk, h6, h16]]
      exact Sat.cut this
    · rw [decide_eq_true (by omega)]
      refine Sat.retB ?_ rfl
      simp [baseOk, h16]
  · rw [decide_eq_true (by omega)]
    refine Sat.retB ?_ rfl
    simp [baseOk, h6]
theorem E_impl_PlanBaseOk_ok : EntOK Tryz.prog CP g_impl_PlanBaseOk E_impl_PlanBaseOk := by
  refine ⟨⟨Tryz.f92, by kernel_rfl, by kernel_rfl, by kernel_rfl⟩, fun args H res H' h => ?_⟩
  simp only [E_impl_PlanBaseOk, E_spec_PlanBaseOk] at h
  split at h
  · simp only [Option.some.injEq, Prod.mk.injEq] at h
    obtain ⟨hg, rfl, rfl⟩ := h
    exact c_impl_PlanBaseOk _ _
  · cases h
end Lx
/- Numbers read by the library: meanings. -/
set_option linter.unusedVariables false
set_option linter.unusedSimpArgs false
namespace Lx
open Go Go.Proofs
def digitsS : Str := [48, 49, 50, 51, 52, 53, 54, 55, 56, 57]
def isDig (b : UInt8) : Bool := decide (48 ≤ b.toNat) && decide (b.toNat ≤ 57)
theorem digits_contains (b : UInt8) : digitsS.contains b = isDig b := by
  have h : ∀ k : UInt8, (b == k) = decide (b.toNat = k.toNat) := fun k => by
    by_cases e : b = k
    · subst e; simp
    · rw [beq_eq_false_iff_ne.2 e, decide_eq_false (fun h => e (UInt8.toNat_inj.1 h))]
  simp only [digitsS, List.contains_cons, List.contains_nil, Bool.or_false, h, isDig]
  simp only [show (48 : UInt8).toNat = 48 from rfl, show (49 : UInt8).toNat = 49 from rfl, show (50 : UInt8).toNat = 50 from rfl, show (51 : UInt8).toNat = 51 from rfl, show (52 : UInt8).toNat = 52 from rfl,
    show (53 : UInt8).toNat = 53 from rfl, show (54 : UInt8).toNat = 54 from rfl, show (55 : UInt8).toNat = 55 from rfl, show (56 : UInt8).toNat = 56 from rfl, show (57 : UInt8).toNat = 57 from rfl]
  apply Bool.eq_iff_iff.2
  simp only [Bool.or_eq_true, Bool.and_eq_true, decide_eq_true_eq]
  omega
theorem dropWhile_all {p : UInt8 → Bool} : ∀ {l : List UInt8}, (∀ x ∈ l.dropWhile p, p x = true) → ∀ x ∈ l, p x = true
  | [], _, x, h => by simp at h
  | a :: l, h, x, hx => by
    by_cases ha : p a = true
    · rw [List.dropWhile_cons_of_pos ha] at h
      simp only [List.mem_cons] at hx
      rcases hx with rfl | hx
      · exact ha
      · exact dropWhile_all h x hx
    · rw [List.dropWhile_cons_of_neg ha] at h
      exact h x hx
theorem dropWhile_nil {p : UInt8 → Bool} : ∀ {l : List UInt8}, l.dropWhile p = [] ↔ ∀ x ∈ l, p x = true
  | [] => by simp
  | a :: l => by
    by_cases ha : p a = true
    · rw [List.dropWhile_cons_of_pos ha, dropWhile_nil (l := l)]
      simp [ha]
    · rw [List.dropWhile_cons_of_neg ha]
      simp [ha]
theorem trim_nil (s : Str) : (Lib.trimS s digitsS == []) = s.all isDig := by
  have e : (fun b => digitsS.contains b) = isDig := funext digits_contains
  apply Bool.eq_iff_iff.2
  unfold Lib.trimS Lib.trimLeftS Lib.trimRightS
  rw [e, beq_iff_eq, dropWhile_nil, List.all_eq_true]
  constructor
  · intro h x hx
    exact dropWhile_all (l := s.reverse) (fun y hy => h y (by simpa using hy)) x (by simpa using hx)
  · intro h x hx
    have : s.reverse.dropWhile isDig = [] := dropWhile_nil.2 (fun y hy => h y (by simpa using hy))
    rw [this] at hx; simp at hx
def optI : Option Nat → Int
  | some k => (k : Int)
  | none => -1
theorem numGo_eq : ∀ (s : Str) (acc : Nat), numGo (acc : Int) s = optI (Lib.decFrom acc s)
  | [], acc => rfl
  | b :: s, acc => by
    simp only [numGo, Lib.decFrom, Lib.digitVal]
    by_cases h : 48 ≤ b.toNat ∧ b.toNat ≤ 57
    · rw [if_neg (by omega), if_pos h]
      have : (acc : Int) * 10 + ((b.toNat : Int) - 48) = ((acc * 10 + (b.toNat - 48) : Nat) : Int) := by omega
      rw [this]
      exact numGo_eq s _
    · rw [if_pos (by omega), if_neg h]
      rfl
theorem decFrom_all : ∀ (s : Str) (acc : Nat), s.all isDig = (Lib.decFrom acc s).isSome
  | [], acc => rfl
  | b :: s, acc => by
    simp only [List.all_cons, Lib.decFrom, Lib.digitVal, isDig]
    by_cases h : 48 ≤ b.toNat ∧ b.toNat ≤ 57
    · rw [if_pos h, decide_eq_true h.1, decide_eq_true h.2]
      simp only [Bool.and_self, Bool.true_and]
      exact decFrom_all s _
    · rw [if_neg h]
      have : (decide (48 ≤ b.toNat) && decide (b.toNat ≤ 57)) = false := by
        apply Bool.eq_false_iff.2
        intro e
        simp only [Bool.and_eq_true, decide_eq_true_eq] at e
        exact h e
      rw [this]; rfl
theorem numGo_dig {s : Str} (h : s.all isDig = true) : 0 ≤ numGo 0 s := by
  have := numGo_eq s 0
  rw [decFrom_all s 0] at h
  obtain ⟨k, hk⟩ := Option.isSome_iff_exists.1 h
  rw [hk] at this
  have e : ((0 : Nat) : Int) = 0 := rfl
  rw [e] at this
  rw [this]; exact Int.natCast_nonneg k
theorem numGo_nodig {s : Str} (h : s.all isDig = false) : numGo 0 s = -1 := by
  have := numGo_eq s 0
  rw [decFrom_all s 0] at h
  have hn : Lib.decFrom 0 s = none := by cases hd : Lib.decFrom 0 s with | none => rfl | some k => rw [hd] at h; cases h
  rw [hn] at this
  exact this
theorem atoi_dig {s : Str} (h0 : 0 < s.length) (h : s.all isDig = true) : Lib.atoi s = some (numGo 0 s) := by
  cases s with
  | nil => simp at h0
  | cons b s =>
    have hb : isDig b = true := by simp only [List.all_cons, Bool.and_eq_true] at h; exact h.1
    simp only [isDig, Bool.and_eq_true, decide_eq_true_eq] at hb
    have n1 : ¬ (b == 45) = true := fun e => by have := congrArg UInt8.toNat (eq_of_beq e); simp at this; omega
    have n2 : ¬ (b == 43) = true := fun e => by have := congrArg UInt8.toNat (eq_of_beq e); simp at this; omega
    have hs := decFrom_all (b :: s) 0
    rw [h] at hs
    obtain ⟨k, hk⟩ := Option.isSome_iff_exists.1 hs.symm
    have hn := numGo_eq (b :: s) 0
    rw [hk] at hn
    have e : ((0 : Nat) : Int) = 0 := rfl
    rw [e] at hn
    rw [hn]
    unfold Lib.atoi
    simp only
    rw [if_neg n1, if_neg n2]
    simp [Lib.decNat, hk, optI]

def E_strings_Trim : Ent Ty El := ⟨[.ro, .ro], 0, fun a h => match a, h with
  | [.str s, .str d], [] => some (decide (d = digitsS) && (decide (0 < s.length) && szS s), .str (Lib.trimS s digitsS), [])
  | _, _ => none⟩
def E_strconv_Atoi : Ent Ty El := ⟨[.ro], 0, fun a h => match a, h with
  | [.str s], [] => some (decide (s.length ≤ 18) && (Lib.atoi s).isSome, .tup [.int .i64 ((Lib.atoi s).getD 0), .dead], [])
  | _, _ => none⟩
def decV (s : Str) : Int := max 0 (numF s)
def decB (s : Str) : Bool := decide (0 ≤ numF s)
def E_impl_decimal : Ent Ty El := ⟨[.ro, .ro], 0, fun a h => match a, h with
  | [.str s, .int .i64 m], [] => some (decide (m = 7), .tup [.int .i64 (decV s), .bool (decB s)], [])
  | _, _ => none⟩
def decsV (w : List Str) : List Int := if w.all decB then w.map decV else []
def E_impl_decimals : Ent Ty El := ⟨[.ro, .ro], 0, fun a h => match a, h with
  | [.sl .str w, .int .i64 m], [] => some (decide (m = 7) && decide (w.length ≤ 2000000000), .tup [.sl .int (decsV w), .bool (w.all decB)], [])
  | _, _ => none⟩

theorem Fr.below {w w' : World} (h : RowKit.Below w.heap.size w w') : Fr w w' (fun _ => False) := ⟨h.os, h.tape, h.output, h.size, fun b hb _ => h.block b hb⟩
theorem bytesWorld_fr (w : World) (e : TypeId) (s : ByteArray) : Fr w (Lib.bytesWorld w e s) (fun _ => False) := by
  refine ⟨?_, ?_, ?_, by rw [Lib.bytesWorld_size]; omega, fun b hb _ => Lib.bytesWorld_at_old w e s b hb⟩ <;> (unfold Lib.bytesWorld World.freeze; split <;> rfl)

theorem c_strconv_Atoi (s : Str) (hg : (decide (s.length ≤ 18) && (Lib.atoi s).isSome) = true) : CallOK Tryz.prog CP g_strconv_Atoi [.str s] [] (.tup [.int .i64 ((Lib.atoi s).getD 0), .dead]) [] := by
  simp only [Bool.and_eq_true, decide_eq_true_eq] at hg
  obtain ⟨hl, hs⟩ := hg
  obtain ⟨n, hn⟩ := Option.isSome_iff_exists.1 hs
  refine CallOK.quiet CP_ok fun w N vs hsz hrep => ?_
  obtain ⟨sb, h0, hsb⟩ := arg_str hrep hsz (j := 0) rfl
  rw [arr1 hsz h0]
  refine Calls.mono (Tryz.strconv_Atoi sb n (by rw [Lib.size_eq, hsb]; exact hl) (by rw [hsb]; exact hn) w) ?_
  rintro e w' ⟨rfl, t, rfl⟩
  refine ⟨_, rfl, bytesWorld_fr w _ _, fun N' _ _ => ?_⟩
  rw [hn]
  refine .tup _ _ rfl fun j v c hv hc => ?_
  match j with
  | 0 => simp at hv hc; subst hv; subst hc; exact .int _ _
  | 1 => simp at hv hc; subst hc; exact .dead _
  | j + 2 => simp at hv
theorem E_strconv_Atoi_ok : EntOK Tryz.prog CP g_strconv_Atoi E_strconv_Atoi := by
  refine ⟨⟨Tryz.f186, by kernel_rfl, by kernel_rfl, by kernel_rfl⟩, fun args H res H' h => ?_⟩
  simp only [E_strconv_Atoi] at h
  split at h
  · simp only [Option.some.injEq, Prod.mk.injEq] at h
    obtain ⟨hg, rfl, rfl⟩ := h
    exact c_strconv_Atoi _ hg
  · cases h
end Lx
/- strings.Trim at the digits, by the library's contract. -/
set_option linter.unusedVariables false
set_option linter.unusedSimpArgs false
namespace Lx
open Go Go.Proofs
theorem zero_set (w : World) : (zeroValue 267).run Tryz.prog w = .ok (.agg (Array.replicate 256 (.bool false))) w := by
  have h : (Tryz.prog.info? 267).bind (·.zero) = some (.agg (Array.replicate 256 (.bool false))) := by kernel_rfl
  cases hi : Tryz.prog.info? 267 with
  | none => rw [hi] at h; cases h
  | some i => rw [hi] at h; exact run_zero hi h w
theorem c_strings_Trim (s d : Str) (hg : (decide (d = digitsS) && (decide (0 < s.length) && szS s)) = true) : CallOK Tryz.prog CP g_strings_Trim [.str s, .str d] [] (.str (Lib.trimS s digitsS)) [] := by
  simp only [Bool.and_eq_true, decide_eq_true_eq, szS] at hg
  obtain ⟨rfl, hl, hs⟩ := hg
  refine CallOK.quiet CP_ok fun w N vs hsz hrep => ?_
  obtain ⟨sb, h0, hsb⟩ := arg_str hrep hsz (j := 0) rfl
  obtain ⟨cb, h1, hcb⟩ := arg_str hrep hsz (j := 1) rfl
  rw [arr2 hsz h0 h1]
  have hz : sb.size = s.length := by rw [Lib.size_eq, hsb]
  have hc : cb.size = 10 := by rw [Lib.size_eq, hcb]; rfl
  refine Calls.mono (Any.strings_Trim_set Tryz.lays160 zero_set (by kernel_rfl) sb cb w (by omega) (by omega) (by omega) (by omega) (fun j b hb => by
    rw [hcb] at hb
    have hm : digitsS.contains b = true := by simpa using List.mem_of_getElem? hb
    rw [digits_contains] at hm
    simp only [isDig, Bool.and_eq_true, decide_eq_true_eq] at hm
    omega)) ?_
  rintro e w' ⟨rfl, q, rfl⟩
  have f1 := Fr.alloc w (.cells (Lib.setCells cb.data.toList) 267)
  have f2 := Fr.alloc (w.alloc (.cells (Lib.setCells cb.data.toList) 267)) (.cells (Lib.setCells cb.data.toList) 267)
  have f3 := f1.trans' f2
  refine ⟨_, rfl, ⟨f3.os, f3.tape, f3.output, f3.size, f3.block⟩, fun N' _ _ => .str _ _ (by rw [hsb, hcb])⟩
theorem E_strings_Trim_ok : EntOK Tryz.prog CP g_strings_Trim E_strings_Trim := by
  refine ⟨⟨Tryz.f185, by kernel_rfl, by kernel_rfl, by kernel_rfl⟩, fun args H res H' h => ?_⟩
  simp only [E_strings_Trim] at h
  split at h
  · simp only [Option.some.injEq, Prod.mk.injEq] at h
    obtain ⟨hg, rfl, rfl⟩ := h
    exact c_strings_Trim _ _ hg
  · cases h
end Lx
/- Numbers read; lists of numbers. -/
set_option linter.unusedVariables false
set_option linter.unusedSimpArgs false
set_option maxRecDepth 4000
namespace Lx
open Go Go.Proofs
/-- impl.decimal -/
noncomputable def R_impl_decimal : RE Ty El := ⟨Tryz.prog, CP, [(g_strings_Trim, E_strings_Trim), (g_strconv_Atoi, E_strconv_Atoi)], Tryz.f104, 0, [], []⟩
theorem R_impl_decimal_ok : REOK R_impl_decimal g_impl_decimal := ⟨CP_ok, (TabOK.cons E_strings_Trim_ok (TabOK.cons E_strconv_Atoi_ok EOKnil)), by kernel_rfl, by kernel_rfl⟩
theorem t_impl_decimal (s : Str) (m : Int) : aRun R_impl_decimal 600 false (body0 R_impl_decimal.fn) (initSt R_impl_decimal.fn [.str s, .int .i64 m] []) =
  ifb (s == #[].toList) (some (.ret (.tup [.int .i64 (0 : Int), .bool false]) [])) (ifb (decide ((↑(List.length s) : Int) > m)) (some (.ret (.tup [.int .i64 (0 : Int), .bool false]) [])) (ifb (decide (#[(48 : UInt8), (49 : UInt8), (50 : UInt8), (51 : UInt8), (52 : UInt8), (53 : UInt8), (54 : UInt8), (55 : UInt8), (56 : UInt8), (57 : UInt8)].toList = digitsS) && (decide ((0 : Nat) < List.length s) && szS s)) (ifb (!Lib.trimS s digitsS == #[].toList) (some (.ret (.tup [.int .i64 (0 : Int), .bool false]) [])) (ifb (inb (0 : Int) (List.length s)) (ifb ((↑(List.getD s (Int.toNat (0 : Int)) (0 : UInt8)).toNat : Int) == (48 : Int)) (ifb (!s == #[(48 : UInt8)].toList) (some (.ret (.tup [.int .i64 (0 : Int), .bool false]) [])) (ifb (decide (List.length s ≤ (18 : Nat)) && (Lib.atoi s).isSome) (some (.ret (.tup [.int .i64 ((Lib.atoi s).getD (0 : Int)), .bool true]) [])) (none))) (ifb (decide (List.length s ≤ (18 : Nat)) && (Lib.atoi s).isSome) (some (.ret (.tup [.int .i64 ((Lib.atoi s).getD (0 : Int)), .bool true]) [])) (none))) (none))) (none))) := by kernel_rfl
theorem c_impl_decimal (s : Str) (m : Int) (hg : decide (m = 7) = true) : CallOK Tryz.prog CP g_impl_decimal [.str s, .int .i64 m] [] (.tup [.int .i64 (decV s), .bool (decB s)]) [] := by
  refine CallOK.of R_impl_decimal_ok (by kernel_rfl) (t_impl_decimal s m) ?_
  have hm : m = 7 := of_decide_eq_true hg
  subst hm
  have no : numF s = -1 → Sat R_impl_decimal g_impl_decimal (.tup [.int .i64 (decV s), .bool (decB s)]) [] (some (.ret (.tup [.int .i64 (0 : Int), .bool false]) [])) := fun h => by
    refine Sat.ret ?_ rfl
    simp [decV, decB, h]
    decide
  have hdig : decide (#[(48 : UInt8), 49, 50, 51, 52, 53, 54, 55, 56, 57].toList = digitsS) = true := rfl
  rw [hdig]
  by_cases h0 : s = []
  · subst h0
    exact no rfl
  · have hl0 : 0 < s.length := List.length_pos_iff.2 h0
    have e0 : (s == #[].toList) = false := by simpa using h0
    rw [e0]
    simp only [ifb_false]
    by_cases h7 : s.length ≤ 7
    · have hz : szS s = true := decide_eq_true (by omega)
      rw [decide_eq_false (by omega), decide_eq_true hl0, hz, trim_nil]
      simp only [ifb_false, Bool.and_self, ifb_true]
      cases hd : s.all isDig with
      | false =>
        refine no ?_
        unfold numF
        by_cases hc : 1 ≤ s.length ∧ s.length ≤ 7 ∧ ¬ (1 < s.length ∧ ((s.getD 0 0).toNat : Int) = 48)
        · rw [if_pos hc, numGo_nodig hd]
        · rw [if_neg hc]
      | true =>
        have hat := atoi_dig hl0 hd
        have hg0 := numGo_dig hd
        have hin : inb (0 : Int) s.length = true := by simp only [inb, Bool.and_eq_true, decide_eq_true_eq]; omega
        have h18 : (decide (s.length ≤ 18) && (Lib.atoi s).isSome) = true := by rw [hat, decide_eq_true (by omega)]; rfl
        have yes : ¬ (1 < s.length ∧ ((s.getD 0 0).toNat : Int) = 48) → Sat R_impl_decimal g_impl_decimal (.tup [.int .i64 (decV s), .bool (decB s)]) [] (some (.ret (.tup [.int .i64 ((Lib.atoi s).getD (0 : Int)), .bool true]) [])) := fun h => by
          have hn : numF s = numGo 0 s := by unfold numF; rw [if_pos ⟨hl0, h7, h⟩]
          refine Sat.ret ?_ rfl
          rw [hat]
          have e1 : decV s = numGo 0 s := by unfold decV; rw [hn]; omega
          have e2 : decB s = true := by unfold decB; rw [hn]; exact decide_eq_true hg0
          rw [e1, e2]; rfl
        rw [hin, h18]
        simp only [Bool.not_true, ifb_false, ifb_true]
        have ez : s.getD (Int.toNat 0) 0 = s.getD 0 0 := rfl
        rw [ez]
        by_cases hz0 : ((s.getD 0 0).toNat : Int) = 48
        · rw [hz0]
          simp only [beq_self_eq_true, ifb_true]
          by_cases h1 : 1 < s.length
          · have hne : (s == #[(48 : UInt8)].toList) = false := by
              apply beq_eq_false_iff_ne.2
              intro e
              rw [e] at h1; simp at h1
            rw [hne]
            refine no ?_
            unfold numF
            rw [if_neg (fun hc => hc.2.2 ⟨h1, hz0⟩)]
          · have hne : (s == #[(48 : UInt8)].toList) = true := by
              cases s with
              | nil => simp at hl0
              | cons b t =>
                have ht : t = [] := List.eq_nil_of_length_eq_zero (by simp only [List.length_cons] at h1; omega)
                subst ht
                have : b = 48 := UInt8.toNat_inj.1 (by have : ((b.toNat : Nat) : Int) = 48 := hz0; show b.toNat = 48; omega)
                subst this; rfl
            rw [hne]
            exact yes (fun hc => h1 hc.1)
        · rw [beq_eq_false_iff_ne.2 hz0]
          exact yes (fun hc => hz0 hc.2)
    · rw [decide_eq_true (by omega)]
      refine no ?_
      unfold numF
      rw [if_neg (by omega)]
theorem E_impl_decimal_ok : EntOK Tryz.prog CP g_impl_decimal E_impl_decimal := by
  refine ⟨⟨Tryz.f104, by kernel_rfl, by kernel_rfl, by kernel_rfl⟩, fun args H res H' h => ?_⟩
  simp only [E_impl_decimal] at h
  split at h
  · simp only [Option.some.injEq, Prod.mk.injEq] at h
    obtain ⟨hg, rfl, rfl⟩ := h
    exact c_impl_decimal _ _ hg
  · cases h

/-- impl.decimals -/
noncomputable def R_impl_decimals : RE Ty El := ⟨Tryz.prog, CP, [(g_impl_decimal, E_impl_decimal)], Tryz.f167, 0, [.ro .int, .any], [(3, [(1, .any), (6, .any), (11, .any), (12, .any), (13, .any)])]⟩
theorem R_impl_decimals_ok : REOK R_impl_decimals g_impl_decimals := ⟨CP_ok, (TabOK.cons E_impl_decimal_ok EOKnil), by kernel_rfl, by kernel_rfl⟩
theorem t_impl_decimals (w : List Str) (m : Int) : aRun R_impl_decimals 600 false (body0 R_impl_decimals.fn) (initSt R_impl_decimals.fn [.sl .str w, .int .i64 m] []) =
  some (.go (todoAt R_impl_decimals.fn 3) [.int .i64 m, .own 0 [] 0, .sl .str w, .int .i64 (↑w.length : Int), .int .i64 (0 : Int)] [.row .int [] 0 0 0 .no]) := by kernel_rfl
theorem t_impl_decimals_3 (x0 : Int) (x1 : List (El .str)) (x2 : Int) (x3 : Int) (x4 : List (El .int)) : aRun R_impl_decimals 600 true (todoAt R_impl_decimals.fn 3) (cutSt R_impl_decimals.fn (liveOf R_impl_decimals (todoAt R_impl_decimals.fn 3)) [.int .i64 x0, .own 0 [] 0, .sl .str x1, .int .i64 x2, .int .i64 x3] [.row .int x4 0 0 0 .no]) =
  ifb (decide (x3 < x2)) (ifb (inb x3 x1.length) (ifb (decide (x0 = (7 : Int))) (ifb (!decB (x1.getD x3.toNat (R_impl_decimals.C.dflt Ty.str))) (some (.ret (.tup [.sl .int [], .bool false]) [])) (ifb (decide ((x4.length + [decV (x1.getD x3.toNat (R_impl_decimals.C.dflt Ty.str))].length) * bytesOf' R_impl_decimals.P (3 : Nat) ≤ (140737488355328 : Nat))) (some (.go (todoAt R_impl_decimals.fn 3) [.int .i64 x0, .own 0 [] 0, .sl .str x1, .int .i64 x2, .int .i64 (IntKind.i64.wrap (x3 + (1 : Int)))] [.row .int (x4 ++ [decV (x1.getD x3.toNat (R_impl_decimals.C.dflt Ty.str))]) 0 0 0 .no])) (none))) (none)) (none)) (some (.ret (.tup [.sl .int x4, .bool true]) [])) := by kernel_rfl
theorem l_impl_decimals (w : List Str) (hw : w.length ≤ 2000000000) : ∀ (d i : Nat), i + d = w.length → (w.take i).all decB = true → Cut R_impl_decimals g_impl_decimals 3 [.int .i64 7, .own 0 [] 0, .sl .str w, .int .i64 (w.length : Int), .int .i64 (i : Int)] [.row .int ((w.take i).map decV) 0 0 0 .no] (.tup [.sl .int (decsV w), .bool (w.all decB)]) [] := by
  intro d
  have hb : bytesOf' R_impl_decimals.P 3 = 8 := by kernel_rfl
  induction d with
  | zero =>
    intro i hi ha
    refine Cut.of R_impl_decimals_ok rfl (t_impl_decimals_3 7 w w.length i _) ?_
    rw [decide_eq_false (by omega)]
    have : w.take i = w := List.take_of_length_le (by omega)
    rw [this] at ha ⊢
    refine Sat.ret ?_ rfl
    unfold decsV
    rw [if_pos ha, ha]
  | succ d ih =>
    intro i hi ha
    refine Cut.of R_impl_decimals_ok rfl (t_impl_decimals_3 7 w w.length i _) ?_
    have hlt : i < w.length := by omega
    have hwr : IntKind.wrap .i64 ((i : Int) + 1) = ((i + 1 : Nat) : Int) := by rw [wrap_ok] <;> omega
    have hx : w.getD (i : Int).toNat (R_impl_decimals.C.dflt .str) = w[i] := by simp [hlt]
    have hin : inb (i : Int) w.length = true := by simp only [inb, Bool.and_eq_true, decide_eq_true_eq]; omega
    have htk := List.take_succ_eq_append_getElem hlt
    have hroom : decide ((((w.take i).map decV).length + [decV w[i]].length) * 8 ≤ 140737488355328) = true := decide_eq_true (by simp; omega)
    rw [decide_eq_true (by omega), hin, hx, hwr, hb, hroom, show decide ((7 : Int) = 7) = true from rfl]
    simp only [ifb_true]
    cases hd : decB w[i] with
    | false =>
      have : w.all decB = false := by
        apply Bool.eq_false_iff.2
        intro h
        have := List.all_eq_true.1 h w[i] (List.getElem_mem hlt)
        rw [hd] at this; cases this
      refine Sat.ret ?_ rfl
      unfold decsV
      rw [this]; rfl
    | true =>
      have := ih (i + 1) (by omega) (by rw [htk, List.all_append, ha]; simp [hd])
      rw [htk, List.map_append] at this
      exact Sat.cut this
theorem c_impl_decimals (w : List Str) (m : Int) (hg : (decide (m = 7) && decide (w.length ≤ 2000000000)) = true) : CallOK Tryz.prog CP g_impl_decimals [.sl .str w, .int .i64 m] [] (.tup [.sl .int (decsV w), .bool (w.all decB)]) [] := by
  refine CallOK.of R_impl_decimals_ok (by kernel_rfl) (t_impl_decimals w m) ?_
  simp only [Bool.and_eq_true, decide_eq_true_eq] at hg
  obtain ⟨rfl, hw⟩ := hg
  exact Sat.cut (l_impl_decimals w hw w.length 0 (by omega) rfl)
theorem E_impl_decimals_ok : EntOK Tryz.prog CP g_impl_decimals E_impl_decimals := by
  refine ⟨⟨Tryz.f167, by kernel_rfl, by kernel_rfl, by kernel_rfl⟩, fun args H res H' h => ?_⟩
  simp only [E_impl_decimals] at h
  split at h
  · simp only [Option.some.injEq, Prod.mk.injEq] at h
    obtain ⟨hg, rfl, rfl⟩ := h
    exact c_impl_decimals _ _ hg
  · cases h
end Lx
/- Meanings: routes and what fits, as the program asks it. -/
set_option linter.unusedVariables false
namespace Lx
open Go Go.Proofs
def ptOf (ps : List Point) (n : Str) : Point := ps.getD (pointIx ps n).toNat (dfltP .point)
def routeP (ps : List Point) (w : List Str) : List Point := if routeOk ps w then w.map (ptOf ps) else []
def E_impl_PlanBase_route : Ent Ty El := ⟨[.ro, .ro], 0, fun a h => match a, h with
  | [.agg [.sl .kind ks, .sl .point ps], .sl .str w], [] => some (decide (ps.length < 1000000000), .tup [.sl .point (routeP ps w), .bool (routeOk ps w)], [])
  | _, _ => none⟩
def E_impl_PlanBase_fits : Ent Ty El := ⟨[.ro, .ro, .ro], 0, fun a h => match a, h with
  | [.agg [.sl .kind ks, .sl .point ps], .int .i64 what, .str v], [] => some (szV v && (decide (ks.length < 1000000000) && decide (ps.length < 1000000000)), .bool (fitsV ks ps what v), [])
  | _, _ => none⟩
def E_impl_PlanBase_change : Ent Ty El := ⟨[.ro, .ro], 0, fun a h => match a, h with
  | [.agg [.sl .kind ks, .sl .point ps], .agg [.str fl, .int .i64 what, .int .i64 num, .str v]], [] => some (szV v && (decide (ks.length < 1000000000) && decide (ps.length < 1000000000)), .bool (changeV ks ps fl what num v), [])
  | _, _ => none⟩
def E_impl_PlanChangeOk : Ent Ty El := E_spec_PlanChangeOk
def E_impl_PlanBookOk : Ent Ty El := E_spec_PlanBookOk
theorem cutS_len (c : Int) : ∀ s : Str, (cutS c s).length ≤ s.length + 1
  | [] => by simp [cutS]
  | b :: s => by
    have := cutS_len c s
    simp only [cutS]
    split
    · simp; omega
    · split
      · simp
      · rename_i w ws h
        rw [h] at this
        simp at this ⊢; omega
theorem baseOk_len {ks : List Kind} {ps : List Point} (h : baseOk ks ps = true) : ks.length ≤ 6 ∧ ps.length ≤ 16 := by
  simp only [baseOk, Bool.and_eq_true, decide_eq_true_eq] at h
  exact ⟨h.1, h.2.1⟩
theorem fieldsGo_cons {ks : List Kind} {ps : List Point} {n : Str} {prev : Option Int} {f : Fld} {fs : List Fld} : fieldsGo ks ps n prev (f :: fs) = (changeV ks ps n f.what f.number f.value && ((match prev with | none => true | some q => decide (q < f.what)) && fieldsGo ks ps n (some f.what) fs)) := by cases prev <;> rfl
theorem entryOk_ne {ks : List Kind} {ps : List Point} {e : Entry} (h : ¬ e.fields.length = 0) : entryOk ks ps e = fieldsGo ks ps e.name none e.fields := by
  unfold entryOk
  rw [decide_eq_false h]
  cases hf : e.fields with
  | nil => rw [hf] at h; simp at h
  | cons f fs =>
    simp only [fieldsGo, changeV, Bool.not_false, Bool.true_and]
    cases nameOk e.name <;> simp
end Lx
/- Routes; what fits; books, as the program asks them. -/
set_option linter.unusedVariables false
set_option linter.unusedSimpArgs false
set_option maxRecDepth 4000
namespace Lx
open Go Go.Proofs
/-- (impl.PlanBase).route -/
noncomputable def R_impl_PlanBase_route : RE Ty El := ⟨Tryz.prog, CP, [(g_impl_within, E_impl_within), (g_impl_PlanBase_point, E_impl_PlanBase_point)], Tryz.f121, 0, [.ro .point, .any], [(5, [(1, .any), (2, .any), (6, .any), (14, .any), (15, .any), (16, .any)])]⟩
theorem R_impl_PlanBase_route_ok : REOK R_impl_PlanBase_route g_impl_PlanBase_route := ⟨CP_ok, (TabOK.cons E_impl_within_ok (TabOK.cons E_impl_PlanBase_point_ok EOKnil)), by kernel_rfl, by kernel_rfl⟩
theorem t_impl_PlanBase_route (ks : List Kind) (ps : List Point) (w : List Str) : aRun R_impl_PlanBase_route 600 false (body0 R_impl_PlanBase_route.fn) (initSt R_impl_PlanBase_route.fn [.agg [.sl .kind ks, .sl .point ps], .sl .str w] []) =
  ifb (!inR (↑w.length : Int) (2 : Int) (8 : Int)) (some (.ret (.tup [.sl .point [], .bool false]) [])) (some (.go (todoAt R_impl_PlanBase_route.fn 5) [.sl .str w, .ptr 0 0, .own 1 [] 0, .sl .str w, .int .i64 (↑w.length : Int), .int .i64 (0 : Int)] [.box [.sl .kind ks, .sl .point ps], .row .point [] 0 0 0 .no])) := by kernel_rfl
theorem t_impl_PlanBase_route_5 (x0 : List (El .str)) (x1 : List (El .str)) (x2 : Int) (x3 : Int) (x4 : List (El .kind)) (x5 : List (El .point)) (x6 : List (El .point)) : aRun R_impl_PlanBase_route 600 true (todoAt R_impl_PlanBase_route.fn 5) (cutSt R_impl_PlanBase_route.fn (liveOf R_impl_PlanBase_route (todoAt R_impl_PlanBase_route.fn 5)) [.sl .str x0, .ptr 0 0, .own 1 [] 0, .sl .str x1, .int .i64 x2, .int .i64 x3] [.box [.sl .kind x4, .sl .point x5], .row .point x6 0 0 0 .no]) =
  ifb (decide (x3 < x2)) (ifb (inb x3 x1.length) (ifb (decide (x5.length < (1000000000 : Nat))) (ifb (decide (idxF (fun p => p.name == x1.getD x3.toNat (R_impl_PlanBase_route.C.dflt Ty.str)) x5 < (0 : Int))) (some (.ret (.tup [.sl .point [], .bool false]) [])) (ifb (decide (x3 > (0 : Int))) (ifb (inb (IntKind.i64.wrap (x3 - (1 : Int))) x0.length) (ifb (x1.getD x3.toNat (R_impl_PlanBase_route.C.dflt Ty.str) == x0.getD (IntKind.i64.wrap (x3 - (1 : Int))).toNat (R_impl_PlanBase_route.C.dflt Ty.str)) (some (.ret (.tup [.sl .point [], .bool false]) [])) (ifb (inb (idxF (fun p => p.name == x1.getD x3.toNat (R_impl_PlanBase_route.C.dflt Ty.str)) x5) x5.length) (ifb (decide ((x6.length + [x5.getD (idxF (fun p => p.name == x1.getD x3.toNat (R_impl_PlanBase_route.C.dflt Ty.str)) x5).toNat (R_impl_PlanBase_route.C.dflt Ty.point)].length) * bytesOf' R_impl_PlanBase_route.P (160 : Nat) ≤ (140737488355328 : Nat))) (some (.go (todoAt R_impl_PlanBase_route.fn 5) [.sl .str x0, .ptr 0 0, .own 1 [] 0, .sl .str x1, .int .i64 x2, .int .i64 (IntKind.i64.wrap (x3 + (1 : Int)))] [.box [.sl .kind x4, .sl .point x5], .row .point (x6 ++ [x5.getD (idxF (fun p => p.name == x1.getD x3.toNat (R_impl_PlanBase_route.C.dflt Ty.str)) x5).toNat (R_impl_PlanBase_route.C.dflt Ty.point)]) 0 0 0 .no])) (none)) (none))) (none)) (ifb (inb (idxF (fun p => p.name == x1.getD x3.toNat (R_impl_PlanBase_route.C.dflt Ty.str)) x5) x5.length) (ifb (decide ((x6.length + [x5.getD (idxF (fun p => p.name == x1.getD x3.toNat (R_impl_PlanBase_route.C.dflt Ty.str)) x5).toNat (R_impl_PlanBase_route.C.dflt Ty.point)].length) * bytesOf' R_impl_PlanBase_route.P (160 : Nat) ≤ (140737488355328 : Nat))) (some (.go (todoAt R_impl_PlanBase_route.fn 5) [.sl .str x0, .ptr 0 0, .own 1 [] 0, .sl .str x1, .int .i64 x2, .int .i64 (IntKind.i64.wrap (x3 + (1 : Int)))] [.box [.sl .kind x4, .sl .point x5], .row .point (x6 ++ [x5.getD (idxF (fun p => p.name == x1.getD x3.toNat (R_impl_PlanBase_route.C.dflt Ty.str)) x5).toNat (R_impl_PlanBase_route.C.dflt Ty.point)]) 0 0 0 .no])) (none)) (none)))) (none)) (none)) (some (.ret (.tup [.sl .point x6, .bool true]) [])) := by kernel_rfl
theorem l_impl_PlanBase_route (ks : List Kind) (ps : List Point) (w : List Str) (hps : ps.length < 1000000000) (hw8 : inR w.length 2 8 = true) : ∀ (d i : Nat), i + d = w.length → routeOk ps w = routeGo ps (w.take i).getLast? (w.drop i) →
    Cut R_impl_PlanBase_route g_impl_PlanBase_route 5 [.sl .str w, .ptr 0 0, .own 1 [] 0, .sl .str w, .int .i64 (w.length : Int), .int .i64 (i : Int)] [.box [.sl .kind ks, .sl .point ps], .row .point ((w.take i).map (ptOf ps)) 0 0 0 .no] (.tup [.sl .point (routeP ps w), .bool (routeOk ps w)]) [] := by
  intro d
  have hb : bytesOf' R_impl_PlanBase_route.P 160 = 32 := by kernel_rfl
  have hw9 : w.length ≤ 8 := by simp only [inR, Bool.and_eq_true, decide_eq_true_eq] at hw8; omega
  induction d with
  | zero =>
    intro i hi hr
    refine Cut.of R_impl_PlanBase_route_ok rfl (t_impl_PlanBase_route_5 w w w.length i ks ps _) ?_
    rw [decide_eq_false (by omega)]
    have e : w.take i = w := List.take_of_length_le (by omega)
    rw [List.drop_of_length_le (by omega)] at hr
    have hr' : routeOk ps w = true := hr
    refine Sat.ret ?_ rfl
    rw [e, routeP, if_pos hr', hr']
  | succ d ih =>
    intro i hi hr
    refine Cut.of R_impl_PlanBase_route_ok rfl (t_impl_PlanBase_route_5 w w w.length i ks ps _) ?_
    have hlt : i < w.length := by omega
    have hw : IntKind.wrap .i64 ((i : Int) + 1) = ((i + 1 : Nat) : Int) := by rw [wrap_ok] <;> omega
    have hw1 : IntKind.wrap .i64 ((i : Int) - 1) = (i : Int) - 1 := by rw [wrap_ok] <;> omega
    have hd : w.drop i = w[i] :: w.drop (i + 1) := List.drop_eq_getElem_cons hlt
    have hx : w.getD (i : Int).toNat (R_impl_PlanBase_route.C.dflt .str) = w[i] := by simp [hlt]
    have hin : inb (i : Int) w.length = true := by simp only [inb, Bool.and_eq_true, decide_eq_true_eq]; omega
    have hlo : decide ((i : Int) < (w.length : Int)) = true := decide_eq_true (by omega)
    have htk := List.take_succ_eq_append_getElem hlt
    have hl : (w.take (i + 1)).getLast? = some w[i] := by rw [List.take_succ_eq_append_getElem hlt, List.getLast?_concat]
    have no : routeOk ps w = false → Sat R_impl_PlanBase_route g_impl_PlanBase_route (.tup [.sl .point (routeP ps w), .bool (routeOk ps w)]) [] (some (.ret (.tup [.sl .point [], .bool false]) [])) := fun h => by
      refine Sat.ret ?_ rfl
      rw [routeP, h]; rfl
    have hroom : decide ((((w.take i).map (ptOf ps)).length + [ps.getD (idxF (fun p => p.name == w[i]) ps).toNat (R_impl_PlanBase_route.C.dflt .point)].length) * 32 ≤ 140737488355328) = true := decide_eq_true (by simp; omega)
    rw [hlo, hin, hx, hw, hw1, hb, hroom, decide_eq_true hps]
    simp only [ifb_true]
    rw [hd, routeGo] at hr
    have hpi : idxF (fun p => p.name == w[i]) ps = pointIx ps w[i] := rfl
    rw [hpi]
    by_cases hp0 : pointIx ps w[i] < 0
    · rw [decide_eq_true hp0]
      rw [decide_eq_true hp0] at hr
      exact no (by rw [hr]; rfl)
    · rw [decide_eq_false hp0]
      rw [decide_eq_false hp0] at hr
      have hlt2 := idxF_lt (p := fun q : Point => q.name == w[i]) (l := ps)
      have hinp : inb (pointIx ps w[i]) ps.length = true := by
        simp only [inb, Bool.and_eq_true, decide_eq_true_eq]
        have : pointIx ps w[i] = idxF (fun q : Point => q.name == w[i]) ps := rfl
        omega
      rw [hinp]
      simp only [ifb_false, ifb_true]
      simp only [Bool.not_false, Bool.true_and] at hr
      have go : (w.take i).getLast? ≠ some w[i] → Sat R_impl_PlanBase_route g_impl_PlanBase_route (.tup [.sl .point (routeP ps w), .bool (routeOk ps w)]) [] (some (.go (todoAt R_impl_PlanBase_route.fn 5) [.sl .str w, .ptr 0 0, .own 1 [] 0, .sl .str w, .int .i64 (w.length : Int), .int .i64 ((i + 1 : Nat) : Int)] [.box [.sl .kind ks, .sl .point ps], .row .point ((w.take i).map (ptOf ps) ++ [ps.getD (pointIx ps w[i]).toNat (R_impl_PlanBase_route.C.dflt .point)]) 0 0 0 .no])) := fun h => by
        have hne : ((w.take i).getLast? == some w[i]) = false := beq_eq_false_iff_ne.2 h
        rw [hne] at hr
        have := ih (i + 1) (by omega) (by rw [hl]; exact hr)
        rw [htk, List.map_append] at this
        exact Sat.cut this
      by_cases h0 : (i : Int) > 0
      · rw [decide_eq_true h0]
        have hi1 : i - 1 < w.length := by omega
        have hx1 : w.getD ((i : Int) - 1).toNat (R_impl_PlanBase_route.C.dflt .str) = w[i - 1] := by
          rw [show ((i : Int) - 1).toNat = i - 1 by omega]; simp [hi1]
        have hl1 : (w.take i).getLast? = some w[i - 1] := by
          have := List.take_succ_eq_append_getElem hi1
          rw [show i - 1 + 1 = i by omega] at this
          rw [this, List.getLast?_concat]
        have hin1 : inb ((i : Int) - 1) w.length = true := by simp only [inb, Bool.and_eq_true, decide_eq_true_eq]; omega
        rw [hin1, hx1]
        simp only [ifb_true]
        rw [hl1] at hr go
        by_cases he : w[i] = w[i - 1]
        · rw [beq_iff_eq.2 he]
          have : ((some w[i - 1] : Option Str) == some w[i]) = true := by rw [he]; simp
          rw [this] at hr
          exact no (by rw [hr]; rfl)
        · rw [beq_eq_false_iff_ne.2 he]
          exact go (fun e => he (Option.some.inj e).symm)
      · rw [decide_eq_false h0]
        have : i = 0 := by omega
        subst this
        exact go (by simp)
theorem c_impl_PlanBase_route (ks : List Kind) (ps : List Point) (w : List Str) (hg : decide (ps.length < 1000000000) = true) : CallOK Tryz.prog CP g_impl_PlanBase_route [.agg [.sl .kind ks, .sl .point ps], .sl .str w] [] (.tup [.sl .point (routeP ps w), .bool (routeOk ps w)]) [] := by
  refine CallOK.of R_impl_PlanBase_route_ok (by kernel_rfl) (t_impl_PlanBase_route ks ps w) ?_
  cases h8 : inR (w.length : Int) 2 8 with
  | false =>
    refine Sat.ret ?_ rfl
    rw [routeP, routeOk, h8]; rfl
  | true =>
    have := l_impl_PlanBase_route ks ps w (of_decide_eq_true hg) h8 w.length 0 (by omega) (by rw [routeOk, h8]; rfl)
    exact Sat.cut this
theorem E_impl_PlanBase_route_ok : EntOK Tryz.prog CP g_impl_PlanBase_route E_impl_PlanBase_route := by
  refine ⟨⟨Tryz.f121, by kernel_rfl, by kernel_rfl, by kernel_rfl⟩, fun args H res H' h => ?_⟩
  simp only [E_impl_PlanBase_route] at h
  split at h
  · simp only [Option.some.injEq, Prod.mk.injEq] at h
    obtain ⟨hg, rfl, rfl⟩ := h
    exact c_impl_PlanBase_route _ _ _ hg
  · cases h

/-- (impl.PlanBase).fits -/
noncomputable def R_impl_PlanBase_fits : RE Ty El := ⟨Tryz.prog, CP, [(g_strings_Split, E_strings_Split), (g_impl_PlanBase_kind, E_impl_PlanBase_kind), (g_impl_decimals, E_impl_decimals), (g_impl_decimal, E_impl_decimal), (g_impl_within, E_impl_within), (g_impl_PlanBase_route, E_impl_PlanBase_route)], Tryz.f172, 0, [], []⟩
theorem R_impl_PlanBase_fits_ok : REOK R_impl_PlanBase_fits g_impl_PlanBase_fits := ⟨CP_ok, (TabOK.cons E_strings_Split_ok (TabOK.cons E_impl_PlanBase_kind_ok (TabOK.cons E_impl_decimals_ok (TabOK.cons E_impl_decimal_ok (TabOK.cons E_impl_within_ok (TabOK.cons E_impl_PlanBase_route_ok EOKnil)))))), by kernel_rfl, by kernel_rfl⟩
theorem t_impl_PlanBase_fits (ks : List Kind) (ps : List Point) (what : Int) (v : Str) : aRun R_impl_PlanBase_fits 600 false (body0 R_impl_PlanBase_fits.fn) (initSt R_impl_PlanBase_fits.fn [.agg [.sl .kind ks, .sl .point ps], .int .i64 what, .str v] []) =
  ifb (szS v) (ifb (what == (1 : Int)) (ifb (decide (ks.length < (1000000000 : Nat))) (some (.ret (.bool (decide (idxF (fun p => p.name == v) ks ≥ (0 : Int)))) [])) (none)) (ifb (what == (2 : Int)) (ifb (decide ((7 : Int) = (7 : Int)) && decide ((cutS (↑(UInt8.toNat (32 : UInt8)) : Int) v).length ≤ (2000000000 : Nat))) (ifb ((cutS (↑(UInt8.toNat (32 : UInt8)) : Int) v).all decB) (ifb ((↑(decsV (cutS (↑(UInt8.toNat (32 : UInt8)) : Int) v)).length : Int) == (2 : Int)) (ifb (inb (0 : Int) (decsV (cutS (↑(UInt8.toNat (32 : UInt8)) : Int) v)).length) (ifb (inb (1 : Int) (decsV (cutS (↑(UInt8.toNat (32 : UInt8)) : Int) v)).length) (ifb (decide ((decsV (cutS (↑(UInt8.toNat (32 : UInt8)) : Int) v)).getD (Int.toNat (0 : Int)) (R_impl_PlanBase_fits.C.dflt Ty.int) ≤ (decsV (cutS (↑(UInt8.toNat (32 : UInt8)) : Int) v)).getD (Int.toNat (1 : Int)) (R_impl_PlanBase_fits.C.dflt Ty.int))) (ifb (inb (1 : Int) (decsV (cutS (↑(UInt8.toNat (32 : UInt8)) : Int) v)).length) (some (.ret (.bool (decide ((decsV (cutS (↑(UInt8.toNat (32 : UInt8)) : Int) v)).getD (Int.toNat (1 : Int)) (R_impl_PlanBase_fits.C.dflt Ty.int) ≤ (10000 : Int)))) [])) (none)) (some (.ret (.bool false) []))) (none)) (none)) (some (.ret (.bool false) []))) (some (.ret (.bool false) []))) (none)) (ifb (what == (3 : Int)) (ifb (decB v) (some (.ret (.bool (inR (decV v) (1 : Int) (6 : Int))) [])) (some (.ret (.bool false) []))) (ifb (what == (4 : Int)) (ifb (decide (ps.length < (1000000000 : Nat))) (some (.ret (.bool (routeOk ps (cutS (↑(UInt8.toNat (32 : UInt8)) : Int) v))) [])) (none)) (ifb (what == (5 : Int)) (ifb (v == #[(111 : UInt8), (112 : UInt8), (101 : UInt8), (110 : UInt8)].toList) (some (.ret (.bool true) [])) (some (.ret (.bool (v == #[(99 : UInt8), (108 : UInt8), (111 : UInt8), (115 : UInt8), (101 : UInt8), (100 : UInt8)].toList)) []))) (some (.ret (.bool false) []))))))) (none) := by kernel_rfl
theorem timeLaw {R : RE Ty El} {f : FuncId} (w : List Str) : Sat R f (.bool (timeOk w)) [] (ifb ((decide ((7 : Int) = (7 : Int)) && true)) (ifb (w.all decB) (ifb ((↑(decsV w).length : Int) == (2 : Int)) (ifb (inb (0 : Int) (decsV w).length) (ifb (inb (1 : Int) (decsV w).length) (ifb (decide ((decsV w).getD (Int.toNat (0 : Int)) (CP.dflt Ty.int) ≤ (decsV w).getD (Int.toNat (1 : Int)) (CP.dflt Ty.int))) (ifb (inb (1 : Int) (decsV w).length) (some (.ret (.bool (decide ((decsV w).getD (Int.toNat (1 : Int)) (CP.dflt Ty.int) ≤ (10000 : Int)))) [])) (none)) (some (.ret (.bool false) []))) (none)) (none)) (some (.ret (.bool false) []))) (some (.ret (.bool false) []))) (none)) := by
  rw [show decide ((7 : Int) = 7) = true from rfl]
  simp only [Bool.and_self, ifb_true]
  cases ha : w.all decB with
  | false =>
    refine Sat.retB ?_ rfl
    match w with
    | [] => rfl
    | [a] => rfl
    | [a, b] =>
      simp only [timeOk]
      simp only [List.all_cons, List.all_nil, Bool.and_true, decB] at ha
      by_cases h1 : 0 ≤ numF a
      · rw [decide_eq_true h1] at ha ⊢
        have h2 : ¬ 0 ≤ numF b := of_decide_eq_false (by simpa using ha)
        have : inR (numF b) (numF a) 10000 = false := by unfold inR; rw [decide_eq_false (by omega)]; rfl
        rw [this]; rfl
      · rw [decide_eq_false h1]; rfl
    | a :: b :: c :: t => rfl
  | true =>
    have hd : decsV w = w.map decV := by unfold decsV; rw [if_pos ha]
    rw [hd]
    match w with
    | [] => exact Sat.retB rfl rfl
    | [a] => exact Sat.retB rfl rfl
    | [a, b] =>
      simp only [List.all_cons, List.all_nil, Bool.and_true, Bool.and_eq_true, decB, decide_eq_true_eq] at ha
      have e1 : decV a = numF a := by unfold decV; omega
      have e2 : decV b = numF b := by unfold decV; omega
      show Sat R f _ _ (ifb (decide (decV a ≤ decV b)) (some (.ret (.bool (decide (decV b ≤ 10000))) [])) (some (.ret (.bool false) [])))
      rw [e1, e2]
      simp only [timeOk, inR]
      rw [decide_eq_true ha.1]
      by_cases h : numF a ≤ numF b
      · rw [decide_eq_true h]
        exact Sat.retB rfl rfl
      · rw [decide_eq_false h]
        exact Sat.retB rfl rfl
    | a :: b :: c :: t =>
      have : (((List.map decV (a :: b :: c :: t)).length : Int) == 2) = false := by
        apply beq_eq_false_iff_ne.2
        simp; omega
      rw [this]
      exact Sat.retB rfl rfl
theorem c_impl_PlanBase_fits (ks : List Kind) (ps : List Point) (what : Int) (v : Str) (hg : (szV v && (decide (ks.length < 1000000000) && decide (ps.length < 1000000000))) = true) : CallOK Tryz.prog CP g_impl_PlanBase_fits [.agg [.sl .kind ks, .sl .point ps], .int .i64 what, .str v] [] (.bool (fitsV ks ps what v)) [] := by
  refine CallOK.of R_impl_PlanBase_fits_ok (by kernel_rfl) (t_impl_PlanBase_fits ks ps what v) ?_
  simp only [Bool.and_eq_true, decide_eq_true_eq] at hg
  obtain ⟨hv, hks, hps⟩ := hg
  have hs : szS v = true := hv
  have hcl : (cutS ((UInt8.toNat 32 : Nat) : Int) v).length ≤ 2000000000 := by
    have := cutS_len ((UInt8.toNat 32 : Nat) : Int) v
    have hv' : v.length ≤ 1000000000 := of_decide_eq_true hv
    omega
  rw [hs, decide_eq_true hks, decide_eq_true hps, ifb_true]
  unfold fitsV
  by_cases h1 : what = 1
  · subst h1; exact Sat.retB rfl rfl
  rw [beq_eq_false_iff_ne.2 h1, if_neg h1, ifb_false]
  by_cases h2 : what = 2
  · subst h2
    rw [if_pos rfl, decide_eq_true hcl, show ((2 : Int) == 2) = true from rfl, ifb_true]
    exact timeLaw (cutS 32 v)
  rw [beq_eq_false_iff_ne.2 h2, if_neg h2, ifb_false]
  by_cases h3 : what = 3
  · subst h3
    rw [if_pos rfl, show ((3 : Int) == 3) = true from rfl, ifb_true]
    by_cases hn : 0 ≤ numF v
    · have e1 : decB v = true := decide_eq_true hn
      have e2 : decV v = numF v := by unfold decV; omega
      rw [e1, e2]; exact Sat.retB rfl rfl
    · have e1 : decB v = false := decide_eq_false hn
      rw [e1]
      refine Sat.retB ?_ rfl
      have : inR (numF v) 1 6 = false := by unfold inR; rw [decide_eq_false (by omega)]; rfl
      rw [this]
  rw [beq_eq_false_iff_ne.2 h3, if_neg h3, ifb_false]
  by_cases h4 : what = 4
  · subst h4; exact Sat.retB rfl rfl
  rw [beq_eq_false_iff_ne.2 h4, if_neg h4, ifb_false]
  by_cases h5 : what = 5
  · subst h5
    rw [if_pos rfl, show ((5 : Int) == 5) = true from rfl, ifb_true]
    have eo : (#[(111 : UInt8), 112, 101, 110].toList) = wOpen := rfl
    have ec : (#[(99 : UInt8), 108, 111, 115, 101, 100].toList) = wClosed := rfl
    rw [eo, ec]
    cases ho : (v == wOpen) with
    | true => exact Sat.retB rfl rfl
    | false => exact Sat.retB rfl rfl
  rw [beq_eq_false_iff_ne.2 h5, if_neg h5]
  exact Sat.retB rfl rfl
theorem E_impl_PlanBase_fits_ok : EntOK Tryz.prog CP g_impl_PlanBase_fits E_impl_PlanBase_fits := by
  refine ⟨⟨Tryz.f172, by kernel_rfl, by kernel_rfl, by kernel_rfl⟩, fun args H res H' h => ?_⟩
  simp only [E_impl_PlanBase_fits] at h
  split at h
  · simp only [Option.some.injEq, Prod.mk.injEq] at h
    obtain ⟨hg, rfl, rfl⟩ := h
    exact c_impl_PlanBase_fits _ _ _ _ hg
  · cases h

/-- (impl.PlanBase).change -/
noncomputable def R_impl_PlanBase_change : RE Ty El := ⟨Tryz.prog, CP, [(g_impl_isName, E_impl_isName), (g_impl_within, E_impl_within), (g_impl_PlanBase_fits, E_impl_PlanBase_fits)], Tryz.f93, 0, [], []⟩
theorem R_impl_PlanBase_change_ok : REOK R_impl_PlanBase_change g_impl_PlanBase_change := ⟨CP_ok, (TabOK.cons E_impl_isName_ok (TabOK.cons E_impl_within_ok (TabOK.cons E_impl_PlanBase_fits_ok EOKnil))), by kernel_rfl, by kernel_rfl⟩
theorem t_impl_PlanBase_change (ks : List Kind) (ps : List Point) (fl : Str) (what num : Int) (v : Str) : aRun R_impl_PlanBase_change 600 false (body0 R_impl_PlanBase_change.fn) (initSt R_impl_PlanBase_change.fn [.agg [.sl .kind ks, .sl .point ps], .agg [.str fl, .int .i64 what, .int .i64 num, .str v]] []) =
  ifb (nameOk fl) (ifb (inR num (1 : Int) (1000000 : Int)) (ifb (szV v && (decide (ks.length < (1000000000 : Nat)) && decide (ps.length < (1000000000 : Nat)))) (some (.ret (.bool (fitsV ks ps what v)) [])) (none)) (some (.ret (.bool false) []))) (some (.ret (.bool false) [])) := by kernel_rfl
theorem c_impl_PlanBase_change (ks : List Kind) (ps : List Point) (fl : Str) (what num : Int) (v : Str) (hg : (szV v && (decide (ks.length < 1000000000) && decide (ps.length < 1000000000))) = true) : CallOK Tryz.prog CP g_impl_PlanBase_change [.agg [.sl .kind ks, .sl .point ps], .agg [.str fl, .int .i64 what, .int .i64 num, .str v]] [] (.bool (changeV ks ps fl what num v)) [] := by
  refine CallOK.of R_impl_PlanBase_change_ok (by kernel_rfl) (t_impl_PlanBase_change ks ps fl what num v) ?_
  rw [hg]
  unfold changeV
  cases nameOk fl with
  | false => exact Sat.retB rfl rfl
  | true =>
    cases inR num 1 1000000 with
    | false => exact Sat.retB rfl rfl
    | true => exact Sat.retB rfl rfl
theorem E_impl_PlanBase_change_ok : EntOK Tryz.prog CP g_impl_PlanBase_change E_impl_PlanBase_change := by
  refine ⟨⟨Tryz.f93, by kernel_rfl, by kernel_rfl, by kernel_rfl⟩, fun args H res H' h => ?_⟩
  simp only [E_impl_PlanBase_change] at h
  split at h
  · simp only [Option.some.injEq, Prod.mk.injEq] at h
    obtain ⟨hg, rfl, rfl⟩ := h
    exact c_impl_PlanBase_change _ _ _ _ _ _ hg
  · cases h

/-- impl.PlanChangeOk -/
noncomputable def R_impl_PlanChangeOk : RE Ty El := ⟨Tryz.prog, CP, [(g_impl_PlanBaseOk, E_impl_PlanBaseOk), (g_impl_PlanBase_change, E_impl_PlanBase_change)], Tryz.f23, 0, [], []⟩
/-- impl.PlanBookOk -/
noncomputable def R_impl_PlanBookOk : RE Ty El := ⟨Tryz.prog, CP, [(g_impl_PlanBaseOk, E_impl_PlanBaseOk), (g_impl_PlanBase_change, E_impl_PlanBase_change)], Tryz.f48, 0, [], [(4, [(1, .any), (18, .any), (19, .any), (20, .any)]), (9, [(1, .any), (4, .any), (18, .any), (19, .any), (20, .any), (46, .any), (47, .any), (48, .any)])]⟩
theorem R_impl_PlanBookOk_ok : REOK R_impl_PlanBookOk g_impl_PlanBookOk := ⟨CP_ok, (TabOK.cons E_impl_PlanBaseOk_ok (TabOK.cons E_impl_PlanBase_change_ok EOKnil)), by kernel_rfl, by kernel_rfl⟩
theorem t_impl_PlanBookOk (ks : List Kind) (ps : List Point) (es : List Entry) : aRun R_impl_PlanBookOk 600 false (body0 R_impl_PlanBookOk.fn) (initSt R_impl_PlanBookOk.fn [.agg [.sl .kind ks, .sl .point ps, .sl .entry es]] []) =
  ifb (!baseOk ks ps) (some (.ret (.bool false) [])) (ifb (decide ((↑es.length : Int) > (12 : Int))) (some (.ret (.bool false) [])) (some (.go (todoAt R_impl_PlanBookOk.fn 4) [.ptr 0 0, .sl .entry es, .int .i64 (↑es.length : Int), .int .i64 (0 : Int)] [.box [.sl .kind ks, .sl .point ps, .sl .entry es]]))) := by kernel_rfl
theorem t_impl_PlanBookOk_4 (x0 : List (El .entry)) (x1 : Int) (x2 : Int) (x3 : List (El .kind)) (x4 : List (El .point)) (x5 : List (El .entry)) : aRun R_impl_PlanBookOk 600 true (todoAt R_impl_PlanBookOk.fn 4) (cutSt R_impl_PlanBookOk.fn (liveOf R_impl_PlanBookOk (todoAt R_impl_PlanBookOk.fn 4)) [.ptr 0 0, .sl .entry x0, .int .i64 x1, .int .i64 x2] [.box [.sl .kind x3, .sl .point x4, .sl .entry x5]]) =
  ifb (decide (x2 < x1)) (ifb (inb x2 x0.length) (ifb ((↑(x0.getD x2.toNat (R_impl_PlanBookOk.C.dflt Ty.entry)).fields.length : Int) == (0 : Int)) (some (.ret (.bool false) [])) (ifb (decide (x2 > (0 : Int))) (ifb (inb (IntKind.i64.wrap (x2 - (1 : Int))) x5.length) (ifb (bytesLt (x0.getD x2.toNat (R_impl_PlanBookOk.C.dflt Ty.entry)).name (x5.getD (IntKind.i64.wrap (x2 - (1 : Int))).toNat (R_impl_PlanBookOk.C.dflt Ty.entry)).name || (x0.getD x2.toNat (R_impl_PlanBookOk.C.dflt Ty.entry)).name == (x5.getD (IntKind.i64.wrap (x2 - (1 : Int))).toNat (R_impl_PlanBookOk.C.dflt Ty.entry)).name) (some (.ret (.bool false) [])) (some (.go (todoAt R_impl_PlanBookOk.fn 9) [.ptr 0 0, .ptr 1 0, .sl .entry x0, .int .i64 x1, .int .i64 x2, .sl .fld ((x0.getD x2.toNat (R_impl_PlanBookOk.C.dflt Ty.entry)).fields), .int .i64 ((↑(x0.getD x2.toNat (R_impl_PlanBookOk.C.dflt Ty.entry)).fields.length : Int)), .int .i64 (0 : Int)] [.box [.sl .kind x3, .sl .point x4, .sl .entry x5], .box [.str ((x0.getD x2.toNat (R_impl_PlanBookOk.C.dflt Ty.entry)).name), .sl .fld ((x0.getD x2.toNat (R_impl_PlanBookOk.C.dflt Ty.entry)).fields)]]))) (none)) (some (.go (todoAt R_impl_PlanBookOk.fn 9) [.ptr 0 0, .ptr 1 0, .sl .entry x0, .int .i64 x1, .int .i64 x2, .sl .fld ((x0.getD x2.toNat (R_impl_PlanBookOk.C.dflt Ty.entry)).fields), .int .i64 ((↑(x0.getD x2.toNat (R_impl_PlanBookOk.C.dflt Ty.entry)).fields.length : Int)), .int .i64 (0 : Int)] [.box [.sl .kind x3, .sl .point x4, .sl .entry x5], .box [.str ((x0.getD x2.toNat (R_impl_PlanBookOk.C.dflt Ty.entry)).name), .sl .fld ((x0.getD x2.toNat (R_impl_PlanBookOk.C.dflt Ty.entry)).fields)]])))) (none)) (some (.ret (.bool true) [])) := by kernel_rfl
theorem t_impl_PlanBookOk_9 (x0 : List (El .entry)) (x1 : Int) (x2 : Int) (x3 : List (El .fld)) (x4 : Int) (x5 : Int) (x6 : List (El .kind)) (x7 : List (El .point)) (x8 : List (El .entry)) (x9 : Str) (x10 : List (El .fld)) : aRun R_impl_PlanBookOk 600 true (todoAt R_impl_PlanBookOk.fn 9) (cutSt R_impl_PlanBookOk.fn (liveOf R_impl_PlanBookOk (todoAt R_impl_PlanBookOk.fn 9)) [.ptr 0 0, .ptr 1 0, .sl .entry x0, .int .i64 x1, .int .i64 x2, .sl .fld x3, .int .i64 x4, .int .i64 x5] [.box [.sl .kind x6, .sl .point x7, .sl .entry x8], .box [.str x9, .sl .fld x10]]) =
  ifb (decide (x5 < x4)) (ifb (inb x5 x3.length) (ifb (szV (x3.getD x5.toNat (R_impl_PlanBookOk.C.dflt Ty.fld)).value && (decide (x6.length < (1000000000 : Nat)) && decide (x7.length < (1000000000 : Nat)))) (ifb (!changeV x6 x7 x9 (x3.getD x5.toNat (R_impl_PlanBookOk.C.dflt Ty.fld)).what (x3.getD x5.toNat (R_impl_PlanBookOk.C.dflt Ty.fld)).number (x3.getD x5.toNat (R_impl_PlanBookOk.C.dflt Ty.fld)).value) (some (.ret (.bool false) [])) (ifb (decide (x5 > (0 : Int))) (ifb (inb (IntKind.i64.wrap (x5 - (1 : Int))) x10.length) (ifb (decide ((x3.getD x5.toNat (R_impl_PlanBookOk.C.dflt Ty.fld)).what ≤ (x10.getD (IntKind.i64.wrap (x5 - (1 : Int))).toNat (R_impl_PlanBookOk.C.dflt Ty.fld)).what)) (some (.ret (.bool false) [])) (some (.go (todoAt R_impl_PlanBookOk.fn 9) [.ptr 0 0, .ptr 1 0, .sl .entry x0, .int .i64 x1, .int .i64 x2, .sl .fld x3, .int .i64 x4, .int .i64 (IntKind.i64.wrap (x5 + (1 : Int)))] [.box [.sl .kind x6, .sl .point x7, .sl .entry x8], .box [.str x9, .sl .fld x10]]))) (none)) (some (.go (todoAt R_impl_PlanBookOk.fn 9) [.ptr 0 0, .ptr 1 0, .sl .entry x0, .int .i64 x1, .int .i64 x2, .sl .fld x3, .int .i64 x4, .int .i64 (IntKind.i64.wrap (x5 + (1 : Int)))] [.box [.sl .kind x6, .sl .point x7, .sl .entry x8], .box [.str x9, .sl .fld x10]])))) (none)) (none)) (some (.go (todoAt R_impl_PlanBookOk.fn 4) [.ptr 0 0, .sl .entry x0, .int .i64 x1, .int .i64 (IntKind.i64.wrap (x2 + (1 : Int)))] [.box [.sl .kind x6, .sl .point x7, .sl .entry x8]])) := by kernel_rfl
theorem lf_impl_PlanBookOk (ks : List Kind) (ps : List Point) (es : List Entry) (hb : baseOk ks ps = true) (n : Str) (fs : List Fld) (hfs : fs.length ≤ 1000000000) (hsz : fs.all (fun f => szV f.value) = true) (i : Nat) (hi : i < 1000) (nx : Bool) (h4 : Cut R_impl_PlanBookOk g_impl_PlanBookOk 4 [.ptr 0 0, .sl .entry es, .int .i64 (es.length : Int), .int .i64 ((i + 1 : Nat) : Int)] [.box [.sl .kind ks, .sl .point ps, .sl .entry es]] (.bool nx) []) : ∀ (d k : Nat), k + d = fs.length →
    Cut R_impl_PlanBookOk g_impl_PlanBookOk 9 [.ptr 0 0, .ptr 1 0, .sl .entry es, .int .i64 (es.length : Int), .int .i64 (i : Int), .sl .fld fs, .int .i64 (fs.length : Int), .int .i64 (k : Int)] [.box [.sl .kind ks, .sl .point ps, .sl .entry es], .box [.str n, .sl .fld fs]] (.bool (fieldsGo ks ps n ((fs.take k).getLast?.map (·.what)) (fs.drop k) && nx)) [] := by
  have hwi : IntKind.wrap .i64 ((i : Int) + 1) = ((i + 1 : Nat) : Int) := by rw [wrap_ok] <;> omega
  obtain ⟨hkl, hpl⟩ := baseOk_len hb
  intro d
  induction d with
  | zero =>
    intro k hk
    refine Cut.of R_impl_PlanBookOk_ok rfl (t_impl_PlanBookOk_9 es es.length i fs fs.length k ks ps es n fs) ?_
    rw [decide_eq_false (by omega), List.drop_of_length_le (by omega), hwi]
    exact Sat.cut h4
  | succ d ih =>
    intro k hk
    refine Cut.of R_impl_PlanBookOk_ok rfl (t_impl_PlanBookOk_9 es es.length i fs fs.length k ks ps es n fs) ?_
    have hlt : k < fs.length := by omega
    have hw : IntKind.wrap .i64 ((k : Int) + 1) = ((k + 1 : Nat) : Int) := by rw [wrap_ok] <;> omega
    have hw1 : IntKind.wrap .i64 ((k : Int) - 1) = (k : Int) - 1 := by rw [wrap_ok] <;> omega
    have hd : fs.drop k = fs[k] :: fs.drop (k + 1) := List.drop_eq_getElem_cons hlt
    have hx : fs.getD (k : Int).toNat (R_impl_PlanBookOk.C.dflt .fld) = fs[k] := by simp [hlt]
    have hin : inb (k : Int) fs.length = true := by simp only [inb, Bool.and_eq_true, decide_eq_true_eq]; omega
    have hlo : decide ((k : Int) < (fs.length : Int)) = true := decide_eq_true (by omega)
    have htk := List.take_succ_eq_append_getElem hlt
    have hl : (fs.take (k + 1)).getLast? = some fs[k] := by rw [List.take_succ_eq_append_getElem hlt, List.getLast?_concat]
    have hv : szV fs[k].value = true := List.all_eq_true.1 hsz _ (List.getElem_mem hlt)
    have ih' := ih (k + 1) (by omega)
    rw [hl, Option.map_some] at ih'
    rw [hlo, hin, hx, hv, hw, hw1, hd, fieldsGo_cons, decide_eq_true (by omega : ks.length < 1000000000), decide_eq_true (by omega : ps.length < 1000000000)]
    simp only [ifb_true, Bool.and_self]
    cases hc : changeV ks ps n fs[k].what fs[k].number fs[k].value with
    | false => exact Sat.retB rfl rfl
    | true =>
      simp only [Bool.not_true, ifb_false, Bool.true_and]
      by_cases h0 : (k : Int) > 0
      · rw [decide_eq_true h0]
        have hi1 : k - 1 < fs.length := by omega
        have hx1 : fs.getD ((k : Int) - 1).toNat (R_impl_PlanBookOk.C.dflt .fld) = fs[k - 1] := by
          rw [show ((k : Int) - 1).toNat = k - 1 by omega]; simp [hi1]
        have hl1 : (fs.take k).getLast? = some fs[k - 1] := by
          have := List.take_succ_eq_append_getElem hi1
          rw [show k - 1 + 1 = k by omega] at this
          rw [this, List.getLast?_concat]
        have hin1 : inb ((k : Int) - 1) fs.length = true := by simp only [inb, Bool.and_eq_true, decide_eq_true_eq]; omega
        rw [hin1, hx1, hl1]
        simp only [ifb_true, Option.map_some]
        by_cases hq : fs[k - 1].what < fs[k].what
        · rw [decide_eq_true hq, decide_eq_false (by omega)]
          exact Sat.cut ih'
        · rw [decide_eq_false hq, decide_eq_true (by omega)]
          exact Sat.retB rfl rfl
      · rw [decide_eq_false h0]
        have : k = 0 := by omega
        subst this
        exact Sat.cut ih'
theorem le_impl_PlanBookOk (ks : List Kind) (ps : List Point) (es : List Entry) (hb : baseOk ks ps = true) (h12 : es.length ≤ 12) (hsz : es.all szE = true) : ∀ (d i : Nat), i + d = es.length →
    Cut R_impl_PlanBookOk g_impl_PlanBookOk 4 [.ptr 0 0, .sl .entry es, .int .i64 (es.length : Int), .int .i64 (i : Int)] [.box [.sl .kind ks, .sl .point ps, .sl .entry es]] (.bool (entriesGo ks ps ((es.take i).getLast?.map (·.name)) (es.drop i))) [] := by
  intro d
  induction d with
  | zero =>
    intro i hi
    refine Cut.of R_impl_PlanBookOk_ok rfl (t_impl_PlanBookOk_4 es es.length i ks ps es) ?_
    rw [decide_eq_false (by omega), List.drop_of_length_le (by omega)]
    exact Sat.retB rfl rfl
  | succ d ih =>
    intro i hi
    refine Cut.of R_impl_PlanBookOk_ok rfl (t_impl_PlanBookOk_4 es es.length i ks ps es) ?_
    have hlt : i < es.length := by omega
    have hw : IntKind.wrap .i64 ((i : Int) + 1) = ((i + 1 : Nat) : Int) := by rw [wrap_ok] <;> omega
    have hw1 : IntKind.wrap .i64 ((i : Int) - 1) = (i : Int) - 1 := by rw [wrap_ok] <;> omega
    have hd : es.drop i = es[i] :: es.drop (i + 1) := List.drop_eq_getElem_cons hlt
    have hx : es.getD (i : Int).toNat (R_impl_PlanBookOk.C.dflt .entry) = es[i] := by simp [hlt]
    have hin : inb (i : Int) es.length = true := by simp only [inb, Bool.and_eq_true, decide_eq_true_eq]; omega
    have hlo : decide ((i : Int) < (es.length : Int)) = true := decide_eq_true (by omega)
    have htk := List.take_succ_eq_append_getElem hlt
    have hl : (es.take (i + 1)).getLast? = some es[i] := by rw [List.take_succ_eq_append_getElem hlt, List.getLast?_concat]
    have hz := List.all_eq_true.1 hsz _ (List.getElem_mem hlt)
    simp only [szE, Bool.and_eq_true, decide_eq_true_eq] at hz
    have ih' := ih (i + 1) (by omega)
    rw [hl, Option.map_some] at ih'
    have inner := lf_impl_PlanBookOk ks ps es hb es[i].name es[i].fields hz.1 hz.2 i (by omega) _ ih' es[i].fields.length 0 (by omega)
    rw [List.drop_zero] at inner
    rw [hlo, hin, hx, hw1, hd, entriesGo]
    simp only [ifb_true]
    by_cases hf0 : es[i].fields.length = 0
    · have e1 : ((es[i].fields.length : Int) == 0) = true := by simp [hf0]
      rw [e1]
      refine Sat.retB ?_ rfl
      simp [entryOk, hf0]
    · have e1 : ((es[i].fields.length : Int) == 0) = false := by simp; intro e; exact hf0 (by rw [e]; rfl)
      rw [e1, entryOk_ne hf0]
      simp only [ifb_false]
      by_cases h0 : (i : Int) > 0
      · rw [decide_eq_true h0]
        have hi1 : i - 1 < es.length := by omega
        have hx1 : es.getD ((i : Int) - 1).toNat (R_impl_PlanBookOk.C.dflt .entry) = es[i - 1] := by
          rw [show ((i : Int) - 1).toNat = i - 1 by omega]; simp [hi1]
        have hl1 : (es.take i).getLast? = some es[i - 1] := by
          have := List.take_succ_eq_append_getElem hi1
          rw [show i - 1 + 1 = i by omega] at this
          rw [this, List.getLast?_concat]
        have hin1 : inb ((i : Int) - 1) es.length = true := by simp only [inb, Bool.and_eq_true, decide_eq_true_eq]; omega
        rw [hin1, hx1, hl1, le_lt]
        simp only [ifb_true, Option.map_some, afterB]
        cases hq : bytesLt es[i - 1].name es[i].name with
        | false =>
          refine Sat.retB ?_ rfl
          simp
        | true =>
          simp only [Bool.not_true, ifb_false, Bool.true_and]
          exact Sat.cut inner
      · rw [decide_eq_false h0]
        have : i = 0 := by omega
        subst this
        exact Sat.cut inner
theorem c_impl_PlanBookOk (ks : List Kind) (ps : List Point) (es : List Entry) (hg : szB es = true) : CallOK Tryz.prog CP g_impl_PlanBookOk [.agg [.sl .kind ks, .sl .point ps, .sl .entry es]] [] (.bool (bookOk ks ps es)) [] := by
  refine CallOK.of R_impl_PlanBookOk_ok (by kernel_rfl) (t_impl_PlanBookOk ks ps es) ?_
  simp only [szB, Bool.and_eq_true, decide_eq_true_eq] at hg
  cases hb : baseOk ks ps with
  | false =>
    refine Sat.retB ?_ rfl
    simp [bookOk, hb]
  | true =>
    simp only [Bool.not_true, ifb_false]
    by_cases h12 : es.length ≤ 12
    · rw [decide_eq_false (by omega)]
      have := le_impl_PlanBookOk ks ps es hb h12 hg.2 es.length 0 (by omega)
      rw [show bookOk ks ps es = entriesGo ks ps ((es.take 0).getLast?.map (·.name)) (es.drop 0) by simp [bookOk, hb, h12]]
      exact Sat.cut this
    · rw [decide_eq_true (by omega)]
      refine Sat.retB ?_ rfl
      simp [bookOk, h12]
theorem E_impl_PlanBookOk_ok : EntOK Tryz.prog CP g_impl_PlanBookOk E_impl_PlanBookOk := by
  refine ⟨⟨Tryz.f48, by kernel_rfl, by kernel_rfl, by kernel_rfl⟩, fun args H res H' h => ?_⟩
  simp only [E_impl_PlanBookOk, E_spec_PlanBookOk] at h
  split at h
  · simp only [Option.some.injEq, Prod.mk.injEq] at h
    obtain ⟨hg, rfl, rfl⟩ := h
    exact c_impl_PlanBookOk _ _ _ hg
  · cases h
end Lx
/- Meanings: who stands. -/
set_option linter.unusedVariables false
set_option linter.unusedSimpArgs false
namespace Lx
open Go Go.Proofs
def stE (ks : List Kind) (e : Entry) : Option Flight :=
  if valF e.fields 1 = [] ∨ valF e.fields 2 = [] ∨ valF e.fields 3 = [] ∨ valF e.fields 4 = [] then none
  else if valF e.fields 5 = wClosed then none
  else some ⟨e.name, ks.getD (kindIx ks (valF e.fields 1)).toNat (dfltP .kind), numF ((cutS 32 (valF e.fields 2)).getD 0 []), numF ((cutS 32 (valF e.fields 2)).getD 1 []), numF (valF e.fields 3), cutS 32 (valF e.fields 4)⟩
def fl0 : Flight := ⟨[], ⟨[], 0, 0⟩, 0, 0, 0, []⟩
def flV (o : Option Flight) : V := .tup [.agg (rowP .flight (o.getD fl0)), .bool o.isSome]
def entIx (es : List Entry) (n : Str) : Int := idxF (fun e => e.name == n) es
def stB (ks : List Kind) (ps : List Point) (es : List Entry) (n : Str) : Option Flight := if bookOk ks ps es = true ∧ 0 ≤ entIx es n then stE ks (es.getD (entIx es n).toNat (dfltP .entry)) else none
theorem fits_all {ks : List Kind} {ps : List Point} {n : Str} : ∀ {fs : List Fld} {prev : Option Int}, fieldsGo ks ps n prev fs = true → ∀ f ∈ fs, fitsV ks ps f.what f.value = true
  | [], _, _, f, hf => by simp at hf
  | g :: fs, prev, h, f, hf => by
    rw [fieldsGo_cons] at h
    simp only [Bool.and_eq_true, changeV] at h
    simp only [List.mem_cons] at hf
    rcases hf with rfl | hf
    · exact h.1.2.2
    · exact fits_all h.2.2 f hf
theorem val_cases (fs : List Fld) (w : Int) : valF fs w = [] ∨ ∃ f ∈ fs, f.what = w ∧ valF fs w = f.value := by
  unfold valF
  cases h : fs.find? (fun f => f.what == w) with
  | none => exact .inl rfl
  | some f => exact .inr ⟨f, List.mem_of_find?_eq_some h, by simpa using List.find?_some h, rfl⟩
theorem val_fits {ks : List Kind} {ps : List Point} {e : Entry} (h : entryOk ks ps e = true) {w : Int} (hv : valF e.fields w ≠ []) : fitsV ks ps w (valF e.fields w) = true := by
  rcases val_cases e.fields w with h1 | ⟨f, hf, hw, h1⟩
  · exact absurd h1 hv
  · simp only [entryOk, Bool.and_eq_true] at h
    have := fits_all h.2.2 f hf
    rw [h1, ← hw]; exact this
theorem val_sz {e : Entry} (h : szE e = true) (w : Int) : (valF e.fields w).length ≤ 1000000000 := by
  rcases val_cases e.fields w with h1 | ⟨f, hf, hw, h1⟩
  · rw [h1]; simp
  · simp only [szE, Bool.and_eq_true] at h
    have := List.all_eq_true.1 h.2 f hf
    rw [h1]; exact of_decide_eq_true this
theorem fits1 {ks : List Kind} {ps : List Point} {v : Str} (h : fitsV ks ps 1 v = true) : 0 ≤ kindIx ks v := by
  simp only [fitsV, if_true] at h; exact of_decide_eq_true h
theorem time_len {w : List Str} (h : timeOk w = true) : w.length = 2 := by
  match w with
  | [] => cases h
  | [a] => cases h
  | [a, b] => rfl
  | a :: b :: c :: t => cases h
theorem fits2 {ks : List Kind} {ps : List Point} {v : Str} (h : fitsV ks ps 2 v = true) : timeOk (cutS 32 v) = true := by
  simpa [fitsV] using h
theorem kind_in {ks : List Kind} {v : Str} (h : 0 ≤ kindIx ks v) : inb (kindIx ks v) ks.length = true := by
  have h2 := idxF_lt (p := fun k : Kind => k.name == v) (l := ks)
  have h3 : kindIx ks v = idxF (fun k : Kind => k.name == v) ks := rfl
  simp only [inb, Bool.and_eq_true, decide_eq_true_eq]; omega
theorem ent_in {es : List Entry} {n : Str} (h : 0 ≤ entIx es n) : inb (entIx es n) es.length = true := by
  have h2 := idxF_lt (p := fun k : Entry => k.name == n) (l := es)
  have h3 : entIx es n = idxF (fun k : Entry => k.name == n) es := rfl
  simp only [inb, Bool.and_eq_true, decide_eq_true_eq]; omega
theorem ents_all {ks : List Kind} {ps : List Point} : ∀ {es : List Entry} {prev : Option Str}, entriesGo ks ps prev es = true → ∀ e ∈ es, entryOk ks ps e = true
  | [], _, _, e, he => by simp at he
  | a :: es, prev, h, e, he => by
    rw [entriesGo] at h
    simp only [Bool.and_eq_true] at h
    simp only [List.mem_cons] at he
    rcases he with rfl | he
    · exact h.1
    · exact ents_all h.2.2 e he
theorem book_ents {ks : List Kind} {ps : List Point} {es : List Entry} (h : bookOk ks ps es = true) : baseOk ks ps = true ∧ es.length ≤ 12 ∧ ∀ e ∈ es, entryOk ks ps e = true := by
  simp only [bookOk, Bool.and_eq_true, decide_eq_true_eq] at h
  exact ⟨h.1, h.2.1, ents_all h.2.2⟩
theorem ent_mem {es : List Entry} {n : Str} (h : 0 ≤ entIx es n) : es.getD (entIx es n).toNat (dfltP .entry) ∈ es := by
  have h2 := idxF_lt (p := fun k : Entry => k.name == n) (l := es)
  have h3 : entIx es n = idxF (fun k : Entry => k.name == n) es := rfl
  have hlt : (entIx es n).toNat < es.length := by omega
  rw [List.getD_eq_getElem?_getD, List.getElem?_eq_getElem hlt]
  exact List.getElem_mem hlt
theorem idx_find {α : Type} (p : α → Bool) (d : α) : ∀ (l : List α), (idxF p l < 0 ∧ l.find? p = none) ∨ (0 ≤ idxF p l ∧ l.find? p = some (l.getD (idxF p l).toNat d))
  | [] => .inl ⟨by show (-1 : Int) < 0; decide, rfl⟩
  | a :: l => by
    by_cases ha : p a = true
    · have : idxF p (a :: l) = 0 := idxF_at (i := 0) rfl ha (fun k hk => by omega)
      rw [this, List.find?_cons_of_pos ha]
      exact .inr ⟨by omega, rfl⟩
    · rw [List.find?_cons_of_neg ha]
      have hs : idxF p (a :: l) = if idxF p l < 0 then -1 else idxF p l + 1 := by
        have hf : p a = false := by simpa using ha
        unfold idxF
        rw [List.findIdx?_cons, hf]
        cases l.findIdx? p with
        | none => rfl
        | some i =>
          have : ¬ ((i : Int) < 0) := by omega
          simp [this]
      rcases idx_find p d l with ⟨h1, h2⟩ | ⟨h1, h2⟩
      · rw [hs, if_pos h1]; exact .inl ⟨by decide, h2⟩
      · rw [hs, if_neg (by omega)]
        refine .inr ⟨by omega, ?_⟩
        rw [h2]
        have : (idxF p l + 1).toNat = (idxF p l).toNat + 1 := by omega
        rw [this]; rfl

def E_spec_l16Stands : Ent Ty El := ⟨[.ro, .ro], 0, fun a h => match a, h with
  | [.agg [.sl .kind ks, .sl .point ps, .sl .entry es], .agg [.str n, .sl .fld fs]], [] => some (baseOk ks ps && (szE ⟨n, fs⟩ && entryOk ks ps ⟨n, fs⟩), flV (stE ks ⟨n, fs⟩), [])
  | _, _ => none⟩
def E_spec_PlanStands : Ent Ty El := ⟨[.ro, .ro], 0, fun a h => match a, h with
  | [.agg [.sl .kind ks, .sl .point ps, .sl .entry es], .str n], [] => some (szB es && decide (es.length < 1000000000), flV (stB ks ps es n), [])
  | _, _ => none⟩
def E_impl_PlanStands : Ent Ty El := E_spec_PlanStands
def fldF (es : List Entry) (n : Str) (w : Int) : Option Fld := (es.find? fun e => e.name == n).bind fun e => e.fields.find? fun f => f.what == w
def fld0 : Fld := ⟨0, 0, []⟩
def E_impl_PlanBook_field : Ent Ty El := ⟨[.ro, .ro, .ro], 0, fun a h => match a, h with
  | [.agg [.sl .kind ks, .sl .point ps, .sl .entry es], .str n, .int .i64 w], [] => some (decide (es.length < 1000000000) && es.all szE, .tup [.agg (rowP .fld ((fldF es n w).getD fld0)), .bool (fldF es n w).isSome], [])
  | _, _ => none⟩
end Lx
/- Who stands. -/
set_option linter.unusedVariables false
set_option linter.unusedSimpArgs false
set_option maxRecDepth 4000
namespace Lx
open Go Go.Proofs
/-- spec.l16Stands -/
noncomputable def R_spec_l16Stands : RE Ty El := ⟨Tryz.prog, CP, [(g_spec_l16Value, E_spec_l16Value), (g_spec_l12Cut, E_spec_l12Cut), (g_spec_l11Kind, E_spec_l11Kind), (g_spec_l12Number, E_spec_l12Number)], Tryz.f117, 0, [.agg [.any, .any, .any, .any, .any, .any, .any, .ro .str], .any], [(2, [(2, .any), (3, .any), (4, .any), (6, .any)])]⟩
theorem R_spec_l16Stands_ok : REOK R_spec_l16Stands g_spec_l16Stands := ⟨CP_ok, (TabOK.cons E_spec_l16Value_ok (TabOK.cons E_spec_l12Cut_ok (TabOK.cons E_spec_l11Kind_ok (TabOK.cons E_spec_l12Number_ok EOKnil)))), by kernel_rfl, by kernel_rfl⟩
theorem t_spec_l16Stands (ks : List Kind) (ps : List Point) (es : List Entry) (n : Str) (fs : List Fld) : aRun R_spec_l16Stands 600 false (body0 R_spec_l16Stands.fn) (initSt R_spec_l16Stands.fn [.agg [.sl .kind ks, .sl .point ps, .sl .entry es], .agg [.str n, .sl .fld fs]] []) =
  some (.go (todoAt R_spec_l16Stands.fn 2) [.ptr 0 0, .ptr 1 0, .ptr 2 0, .int .i64 (1 : Int)] [.box [.sl .kind ks, .sl .point ps, .sl .entry es], .box [.str n, .sl .fld fs], .box [.str #[].toList, .str #[].toList, .int .i64 (0 : Int), .int .i64 (0 : Int), .int .i64 (0 : Int), .int .i64 (0 : Int), .int .i64 (0 : Int), .nils]]) := by kernel_rfl
theorem t_spec_l16Stands_2 (x0 : Int) (x1 : List (El .kind)) (x2 : List (El .point)) (x3 : List (El .entry)) (x4 : Str) (x5 : List (El .fld)) (x6 : Str) (x7 : Str) (x8 : Int) (x9 : Int) (x10 : Int) (x11 : Int) (x12 : Int) : aRun R_spec_l16Stands 600 true (todoAt R_spec_l16Stands.fn 2) (cutSt R_spec_l16Stands.fn (liveOf R_spec_l16Stands (todoAt R_spec_l16Stands.fn 2)) [.ptr 0 0, .ptr 1 0, .ptr 2 0, .int .i64 x0] [.box [.sl .kind x1, .sl .point x2, .sl .entry x3], .box [.str x4, .sl .fld x5], .box [.str x6, .str x7, .int .i64 x8, .int .i64 x9, .int .i64 x10, .int .i64 x11, .int .i64 x12, .nils]]) =
  ifb (decide (x0 ≤ (4 : Int))) (ifb (decide (x5.length ≤ (1000000000 : Nat))) (ifb (valF x5 x0 == #[].toList) (some (.ret (.tup [.agg [.str #[].toList, .str #[].toList, .int .i64 (0 : Int), .int .i64 (0 : Int), .int .i64 (0 : Int), .int .i64 (0 : Int), .int .i64 (0 : Int), .sl .str []], .bool false]) [])) (some (.go (todoAt R_spec_l16Stands.fn 2) [.ptr 0 0, .ptr 1 0, .ptr 2 0, .int .i64 (IntKind.i64.wrap (x0 + (1 : Int)))] [.box [.sl .kind x1, .sl .point x2, .sl .entry x3], .box [.str x4, .sl .fld x5], .box [.str x6, .str x7, .int .i64 x8, .int .i64 x9, .int .i64 x10, .int .i64 x11, .int .i64 x12, .nils]]))) (none)) (ifb (decide (x5.length ≤ (1000000000 : Nat))) (ifb (valF x5 (5 : Int) == #[(99 : UInt8), (108 : UInt8), (111 : UInt8), (115 : UInt8), (101 : UInt8), (100 : UInt8)].toList) (some (.ret (.tup [.agg [.str #[].toList, .str #[].toList, .int .i64 (0 : Int), .int .i64 (0 : Int), .int .i64 (0 : Int), .int .i64 (0 : Int), .int .i64 (0 : Int), .sl .str []], .bool false]) [])) (ifb (decide (x5.length ≤ (1000000000 : Nat))) (ifb (decide (List.length (valF x5 (2 : Int)) ≤ (1000000000 : Nat))) (ifb (decide (x5.length ≤ (1000000000 : Nat))) (ifb (decide (x1.length < (1000000000 : Nat))) (ifb (inb (idxF (fun p => p.name == valF x5 (1 : Int)) x1) x1.length) (ifb (inb (0 : Int) (cutS (32 : Int) (valF x5 (2 : Int))).length) (ifb (inb (1 : Int) (cutS (32 : Int) (valF x5 (2 : Int))).length) (ifb (decide (x5.length ≤ (1000000000 : Nat))) (ifb (decide (x5.length ≤ (1000000000 : Nat))) (ifb (decide (List.length (valF x5 (4 : Int)) ≤ (1000000000 : Nat))) (some (.ret (.tup [.agg [.str x4, .str ((x1.getD (idxF (fun p => p.name == valF x5 (1 : Int)) x1).toNat (R_spec_l16Stands.C.dflt Ty.kind)).name), .int .i64 ((x1.getD (idxF (fun p => p.name == valF x5 (1 : Int)) x1).toNat (R_spec_l16Stands.C.dflt Ty.kind)).quick), .int .i64 ((x1.getD (idxF (fun p => p.name == valF x5 (1 : Int)) x1).toNat (R_spec_l16Stands.C.dflt Ty.kind)).slow), .int .i64 (numF ((cutS (32 : Int) (valF x5 (2 : Int))).getD (Int.toNat (0 : Int)) (R_spec_l16Stands.C.dflt Ty.str))), .int .i64 (numF ((cutS (32 : Int) (valF x5 (2 : Int))).getD (Int.toNat (1 : Int)) (R_spec_l16Stands.C.dflt Ty.str))), .int .i64 (numF (valF x5 (3 : Int))), .sl .str (cutS (32 : Int) (valF x5 (4 : Int)))], .bool true]) [])) (none)) (none)) (none)) (none)) (none)) (none)) (none)) (none)) (none)) (none))) (none)) := by kernel_rfl
theorem l4_spec_l16Stands (ks : List Kind) (ps : List Point) (es : List Entry) (n : Str) (fs : List Fld) (hf : fs.length ≤ 1000000000) (h : valF fs 4 ≠ [] → Cut R_spec_l16Stands g_spec_l16Stands 2 [.ptr 0 0, .ptr 1 0, .ptr 2 0, .int .i64 5] [.box [.sl .kind ks, .sl .point ps, .sl .entry es], .box [.str n, .sl .fld fs], .box [.str [], .str [], .int .i64 0, .int .i64 0, .int .i64 0, .int .i64 0, .int .i64 0, .nils]] (flV (stE ks ⟨n, fs⟩)) []) :
    Cut R_spec_l16Stands g_spec_l16Stands 2 [.ptr 0 0, .ptr 1 0, .ptr 2 0, .int .i64 4] [.box [.sl .kind ks, .sl .point ps, .sl .entry es], .box [.str n, .sl .fld fs], .box [.str [], .str [], .int .i64 0, .int .i64 0, .int .i64 0, .int .i64 0, .int .i64 0, .nils]] (flV (stE ks ⟨n, fs⟩)) [] := by
  refine Cut.of R_spec_l16Stands_ok rfl (t_spec_l16Stands_2 4 ks ps es n fs [] [] 0 0 0 0 0) ?_
  rw [decide_eq_true (by omega), decide_eq_true hf]
  simp only [ifb_true]
  by_cases hv : valF fs 4 = []
  · rw [hv]
    refine Sat.ret ?_ rfl
    rw [stE, if_pos (by simp [hv])]; rfl
  · have : (valF fs 4 == #[].toList) = false := by simpa using hv
    rw [this]
    exact Sat.cut (h hv)
theorem l3_spec_l16Stands (ks : List Kind) (ps : List Point) (es : List Entry) (n : Str) (fs : List Fld) (hf : fs.length ≤ 1000000000) (h : valF fs 3 ≠ [] → Cut R_spec_l16Stands g_spec_l16Stands 2 [.ptr 0 0, .ptr 1 0, .ptr 2 0, .int .i64 4] [.box [.sl .kind ks, .sl .point ps, .sl .entry es], .box [.str n, .sl .fld fs], .box [.str [], .str [], .int .i64 0, .int .i64 0, .int .i64 0, .int .i64 0, .int .i64 0, .nils]] (flV (stE ks ⟨n, fs⟩)) []) :
    Cut R_spec_l16Stands g_spec_l16Stands 2 [.ptr 0 0, .ptr 1 0, .ptr 2 0, .int .i64 3] [.box [.sl .kind ks, .sl .point ps, .sl .entry es], .box [.str n, .sl .fld fs], .box [.str [], .str [], .int .i64 0, .int .i64 0, .int .i64 0, .int .i64 0, .int .i64 0, .nils]] (flV (stE ks ⟨n, fs⟩)) [] := by
  refine Cut.of R_spec_l16Stands_ok rfl (t_spec_l16Stands_2 3 ks ps es n fs [] [] 0 0 0 0 0) ?_
  rw [decide_eq_true (by omega), decide_eq_true hf]
  simp only [ifb_true]
  by_cases hv : valF fs 3 = []
  · rw [hv]
    refine Sat.ret ?_ rfl
    rw [stE, if_pos (by simp [hv])]; rfl
  · have : (valF fs 3 == #[].toList) = false := by simpa using hv
    rw [this]
    exact Sat.cut (h hv)
theorem l2_spec_l16Stands (ks : List Kind) (ps : List Point) (es : List Entry) (n : Str) (fs : List Fld) (hf : fs.length ≤ 1000000000) (h : valF fs 2 ≠ [] → Cut R_spec_l16Stands g_spec_l16Stands 2 [.ptr 0 0, .ptr 1 0, .ptr 2 0, .int .i64 3] [.box [.sl .kind ks, .sl .point ps, .sl .entry es], .box [.str n, .sl .fld fs], .box [.str [], .str [], .int .i64 0, .int .i64 0, .int .i64 0, .int .i64 0, .int .i64 0, .nils]] (flV (stE ks ⟨n, fs⟩)) []) :
    Cut R_spec_l16Stands g_spec_l16Stands 2 [.ptr 0 0, .ptr 1 0, .ptr 2 0, .int .i64 2] [.box [.sl .kind ks, .sl .point ps, .sl .entry es], .box [.str n, .sl .fld fs], .box [.str [], .str [], .int .i64 0, .int .i64 0, .int .i64 0, .int .i64 0, .int .i64 0, .nils]] (flV (stE ks ⟨n, fs⟩)) [] := by
  refine Cut.of R_spec_l16Stands_ok rfl (t_spec_l16Stands_2 2 ks ps es n fs [] [] 0 0 0 0 0) ?_
  rw [decide_eq_true (by omega), decide_eq_true hf]
  simp only [ifb_true]
  by_cases hv : valF fs 2 = []
  · rw [hv]
    refine Sat.ret ?_ rfl
    rw [stE, if_pos (by simp [hv])]; rfl
  · have : (valF fs 2 == #[].toList) = false := by simpa using hv
    rw [this]
    exact Sat.cut (h hv)
theorem l1_spec_l16Stands (ks : List Kind) (ps : List Point) (es : List Entry) (n : Str) (fs : List Fld) (hf : fs.length ≤ 1000000000) (h : valF fs 1 ≠ [] → Cut R_spec_l16Stands g_spec_l16Stands 2 [.ptr 0 0, .ptr 1 0, .ptr 2 0, .int .i64 2] [.box [.sl .kind ks, .sl .point ps, .sl .entry es], .box [.str n, .sl .fld fs], .box [.str [], .str [], .int .i64 0, .int .i64 0, .int .i64 0, .int .i64 0, .int .i64 0, .nils]] (flV (stE ks ⟨n, fs⟩)) []) :
    Cut R_spec_l16Stands g_spec_l16Stands 2 [.ptr 0 0, .ptr 1 0, .ptr 2 0, .int .i64 1] [.box [.sl .kind ks, .sl .point ps, .sl .entry es], .box [.str n, .sl .fld fs], .box [.str [], .str [], .int .i64 0, .int .i64 0, .int .i64 0, .int .i64 0, .int .i64 0, .nils]] (flV (stE ks ⟨n, fs⟩)) [] := by
  refine Cut.of R_spec_l16Stands_ok rfl (t_spec_l16Stands_2 1 ks ps es n fs [] [] 0 0 0 0 0) ?_
  rw [decide_eq_true (by omega), decide_eq_true hf]
  simp only [ifb_true]
  by_cases hv : valF fs 1 = []
  · rw [hv]
    refine Sat.ret ?_ rfl
    rw [stE, if_pos (by simp [hv])]; rfl
  · have : (valF fs 1 == #[].toList) = false := by simpa using hv
    rw [this]
    exact Sat.cut (h hv)
theorem l5_spec_l16Stands (ks : List Kind) (ps : List Point) (es : List Entry) (n : Str) (fs : List Fld) (hk : ks.length ≤ 6) (hz : szE ⟨n, fs⟩ = true) (he : entryOk ks ps ⟨n, fs⟩ = true) (h1 : valF fs 1 ≠ []) (h2 : valF fs 2 ≠ []) (h3 : valF fs 3 ≠ []) (h4 : valF fs 4 ≠ []) :
    Cut R_spec_l16Stands g_spec_l16Stands 2 [.ptr 0 0, .ptr 1 0, .ptr 2 0, .int .i64 5] [.box [.sl .kind ks, .sl .point ps, .sl .entry es], .box [.str n, .sl .fld fs], .box [.str [], .str [], .int .i64 0, .int .i64 0, .int .i64 0, .int .i64 0, .int .i64 0, .nils]] (flV (stE ks ⟨n, fs⟩)) [] := by
  refine Cut.of R_spec_l16Stands_ok rfl (t_spec_l16Stands_2 5 ks ps es n fs [] [] 0 0 0 0 0) ?_
  have hf : fs.length ≤ 1000000000 := by simp only [szE, Bool.and_eq_true, decide_eq_true_eq] at hz; exact hz.1
  have hst : stE ks ⟨n, fs⟩ = if valF fs 5 = wClosed then none else some ⟨n, ks.getD (kindIx ks (valF fs 1)).toNat (dfltP .kind), numF ((cutS 32 (valF fs 2)).getD 0 []), numF ((cutS 32 (valF fs 2)).getD 1 []), numF (valF fs 3), cutS 32 (valF fs 4)⟩ := by
    rw [stE, if_neg (by simp [h1, h2, h3, h4])]
  have k1 := kind_in (fits1 (val_fits he h1))
  have t2 := time_len (fits2 (val_fits he h2))
  have hp : idxF (fun p => p.name == valF fs 1) ks = kindIx ks (valF fs 1) := rfl
  have z2 := val_sz hz 2
  have z4 := val_sz hz 4
  have i0 : inb (0 : Int) (cutS 32 (valF fs 2)).length = true := by simp only at t2; rw [t2]; rfl
  have i1 : inb (1 : Int) (cutS 32 (valF fs 2)).length = true := by simp only at t2; rw [t2]; rfl
  simp only at k1 z2 z4
  rw [decide_eq_false (by omega), decide_eq_true hf, hp, k1, i0, i1, decide_eq_true z2, decide_eq_true z4, decide_eq_true (by omega : ks.length < 1000000000)]
  simp only [ifb_true, ifb_false]
  rw [hst]
  by_cases hc : valF fs 5 = wClosed
  · rw [if_pos hc, hc]
    exact Sat.ret rfl rfl
  · rw [if_neg hc]
    have : (valF fs 5 == [(99 : UInt8), 108, 111, 115, 101, 100]) = false := beq_eq_false_iff_ne.2 hc
    rw [this]
    exact Sat.ret rfl rfl
theorem c_spec_l16Stands (ks : List Kind) (ps : List Point) (es : List Entry) (n : Str) (fs : List Fld) (hg : (baseOk ks ps && (szE ⟨n, fs⟩ && entryOk ks ps ⟨n, fs⟩)) = true) : CallOK Tryz.prog CP g_spec_l16Stands [.agg [.sl .kind ks, .sl .point ps, .sl .entry es], .agg [.str n, .sl .fld fs]] [] (flV (stE ks ⟨n, fs⟩)) [] := by
  refine CallOK.of R_spec_l16Stands_ok (by kernel_rfl) (t_spec_l16Stands ks ps es n fs) ?_
  simp only [Bool.and_eq_true] at hg
  obtain ⟨hb, hz, he⟩ := hg
  have hk := (baseOk_len hb).1
  have hf : fs.length ≤ 1000000000 := by simp only [szE, Bool.and_eq_true, decide_eq_true_eq] at hz; exact hz.1
  exact Sat.cut (l1_spec_l16Stands ks ps es n fs hf fun h1 => l2_spec_l16Stands ks ps es n fs hf fun h2 => l3_spec_l16Stands ks ps es n fs hf fun h3 => l4_spec_l16Stands ks ps es n fs hf fun h4 => l5_spec_l16Stands ks ps es n fs hk hz he h1 h2 h3 h4)
theorem E_spec_l16Stands_ok : EntOK Tryz.prog CP g_spec_l16Stands E_spec_l16Stands := by
  refine ⟨⟨Tryz.f117, by kernel_rfl, by kernel_rfl, by kernel_rfl⟩, fun args H res H' h => ?_⟩
  simp only [E_spec_l16Stands] at h
  split at h
  · simp only [Option.some.injEq, Prod.mk.injEq] at h
    obtain ⟨hg, rfl, rfl⟩ := h
    exact c_spec_l16Stands _ _ _ _ _ hg
  · cases h

/-- spec.PlanStands -/
noncomputable def R_spec_PlanStands : RE Ty El := ⟨Tryz.prog, CP, [(g_spec_l13At, E_spec_l13At), (g_spec_PlanBookOk, E_spec_PlanBookOk), (g_spec_l16Stands, E_spec_l16Stands)], Tryz.f34, 0, [.agg [.any, .any, .any, .any, .any, .any, .any, .ro .str], .any], []⟩
theorem R_spec_PlanStands_ok : REOK R_spec_PlanStands g_spec_PlanStands := ⟨CP_ok, (TabOK.cons E_spec_l13At_ok (TabOK.cons E_spec_PlanBookOk_ok (TabOK.cons E_spec_l16Stands_ok EOKnil))), by kernel_rfl, by kernel_rfl⟩
theorem t_spec_PlanStands (ks : List Kind) (ps : List Point) (es : List Entry) (n : Str) : aRun R_spec_PlanStands 600 false (body0 R_spec_PlanStands.fn) (initSt R_spec_PlanStands.fn [.agg [.sl .kind ks, .sl .point ps, .sl .entry es], .str n] []) =
  ifb (decide (es.length < (1000000000 : Nat))) (ifb (szB es) (ifb (!bookOk ks ps es) (some (.ret (.tup [.agg [.str #[].toList, .str #[].toList, .int .i64 (0 : Int), .int .i64 (0 : Int), .int .i64 (0 : Int), .int .i64 (0 : Int), .int .i64 (0 : Int), .sl .str []], .bool false]) [])) (ifb (decide (idxF (fun p => p.name == n) es < (0 : Int))) (some (.ret (.tup [.agg [.str #[].toList, .str #[].toList, .int .i64 (0 : Int), .int .i64 (0 : Int), .int .i64 (0 : Int), .int .i64 (0 : Int), .int .i64 (0 : Int), .sl .str []], .bool false]) [])) (ifb (inb (idxF (fun p => p.name == n) es) es.length) (ifb (baseOk ks ps && (szE (es.getD (idxF (fun p => p.name == n) es).toNat (R_spec_PlanStands.C.dflt Ty.entry)) && entryOk ks ps (es.getD (idxF (fun p => p.name == n) es).toNat (R_spec_PlanStands.C.dflt Ty.entry)))) (some (.ret (.tup [.agg [.str (((stE ks (es.getD (idxF (fun p => p.name == n) es).toNat (R_spec_PlanStands.C.dflt Ty.entry))).getD fl0).name), .str (((stE ks (es.getD (idxF (fun p => p.name == n) es).toNat (R_spec_PlanStands.C.dflt Ty.entry))).getD fl0).kind.name), .int .i64 (((stE ks (es.getD (idxF (fun p => p.name == n) es).toNat (R_spec_PlanStands.C.dflt Ty.entry))).getD fl0).kind.quick), .int .i64 (((stE ks (es.getD (idxF (fun p => p.name == n) es).toNat (R_spec_PlanStands.C.dflt Ty.entry))).getD fl0).kind.slow), .int .i64 (((stE ks (es.getD (idxF (fun p => p.name == n) es).toNat (R_spec_PlanStands.C.dflt Ty.entry))).getD fl0).frm), .int .i64 (((stE ks (es.getD (idxF (fun p => p.name == n) es).toNat (R_spec_PlanStands.C.dflt Ty.entry))).getD fl0).by_), .int .i64 (((stE ks (es.getD (idxF (fun p => p.name == n) es).toNat (R_spec_PlanStands.C.dflt Ty.entry))).getD fl0).level), .sl .str (((stE ks (es.getD (idxF (fun p => p.name == n) es).toNat (R_spec_PlanStands.C.dflt Ty.entry))).getD fl0).route)], .bool ((stE ks (es.getD (idxF (fun p => p.name == n) es).toNat (R_spec_PlanStands.C.dflt Ty.entry))).isSome)]) [])) (none)) (none)))) (none)) (none) := by kernel_rfl
theorem c_spec_PlanStands (ks : List Kind) (ps : List Point) (es : List Entry) (n : Str) (hg : (szB es && decide (es.length < 1000000000)) = true) : CallOK Tryz.prog CP g_spec_PlanStands [.agg [.sl .kind ks, .sl .point ps, .sl .entry es], .str n] [] (flV (stB ks ps es n)) [] := by
  refine CallOK.of R_spec_PlanStands_ok (by kernel_rfl) (t_spec_PlanStands ks ps es n) ?_
  simp only [Bool.and_eq_true, decide_eq_true_eq] at hg
  obtain ⟨hg, hlt⟩ := hg
  have hes : es.length ≤ 1000000000 ∧ es.all szE = true := by simpa only [szB, Bool.and_eq_true, decide_eq_true_eq] using hg
  have no : stB ks ps es n = none → Sat R_spec_PlanStands g_spec_PlanStands (flV (stB ks ps es n)) [] (some (.ret (.tup [.agg [.str #[].toList, .str #[].toList, .int .i64 (0 : Int), .int .i64 (0 : Int), .int .i64 (0 : Int), .int .i64 (0 : Int), .int .i64 (0 : Int), .sl .str []], .bool false]) [])) := fun h => by
    rw [h]; exact Sat.ret rfl rfl
  have hp : idxF (fun p => p.name == n) es = entIx es n := rfl
  have hdf : R_spec_PlanStands.C.dflt Ty.entry = dfltP .entry := rfl
  rw [hdf]
  rw [decide_eq_true hlt, hg, hp]
  simp only [ifb_true]
  cases hb : bookOk ks ps es with
  | false => exact no (by rw [stB, hb]; simp)
  | true =>
    obtain ⟨hbase, h12, hall⟩ := book_ents hb
    simp only [Bool.not_true, ifb_false]
    by_cases h0 : entIx es n < 0
    · rw [decide_eq_true h0]
      exact no (by rw [stB, if_neg (by omega)])
    · have hm := ent_mem (es := es) (n := n) (by omega)
      rw [decide_eq_false h0, ent_in (by omega), hbase, List.all_eq_true.1 hes.2 _ hm, hall _ hm]
      simp only [ifb_false, ifb_true, Bool.and_self]
      refine Sat.ret ?_ rfl
      rw [stB, if_pos ⟨hb, by omega⟩]; rfl
theorem E_spec_PlanStands_ok : EntOK Tryz.prog CP g_spec_PlanStands E_spec_PlanStands := by
  refine ⟨⟨Tryz.f34, by kernel_rfl, by kernel_rfl, by kernel_rfl⟩, fun args H res H' h => ?_⟩
  simp only [E_spec_PlanStands] at h
  split at h
  · simp only [Option.some.injEq, Prod.mk.injEq] at h
    obtain ⟨hg, rfl, rfl⟩ := h
    exact c_spec_PlanStands _ _ _ _ hg
  · cases h

/-- (impl.PlanBook).field -/
noncomputable def R_impl_PlanBook_field : RE Ty El := ⟨Tryz.prog, CP, [(g_impl_PlanBook_entry, E_impl_PlanBook_entry)], Tryz.f147, 0, [], [(4, [(2, .any), (6, .any), (21, .any), (22, .any), (23, .any)])]⟩
theorem R_impl_PlanBook_field_ok : REOK R_impl_PlanBook_field g_impl_PlanBook_field := ⟨CP_ok, (TabOK.cons E_impl_PlanBook_entry_ok EOKnil), by kernel_rfl, by kernel_rfl⟩
theorem t_impl_PlanBook_field (ks : List Kind) (ps : List Point) (es : List Entry) (n : Str) (w : Int) : aRun R_impl_PlanBook_field 600 false (body0 R_impl_PlanBook_field.fn) (initSt R_impl_PlanBook_field.fn [.agg [.sl .kind ks, .sl .point ps, .sl .entry es], .str n, .int .i64 w] []) =
  ifb (decide (es.length < (1000000000 : Nat))) (ifb (decide (idxF (fun p => p.name == n) es ≥ (0 : Int))) (ifb (inb (idxF (fun p => p.name == n) es) es.length) (some (.go (todoAt R_impl_PlanBook_field.fn 4) [.int .i64 w, .ptr 0 0, .sl .fld ((es.getD (idxF (fun p => p.name == n) es).toNat (R_impl_PlanBook_field.C.dflt Ty.entry)).fields), .int .i64 ((↑(es.getD (idxF (fun p => p.name == n) es).toNat (R_impl_PlanBook_field.C.dflt Ty.entry)).fields.length : Int)), .int .i64 (0 : Int)] [.box [.int .i64 (0 : Int), .int .i64 (0 : Int), .str #[].toList]])) (none)) (some (.ret (.tup [.agg [.int .i64 (0 : Int), .int .i64 (0 : Int), .str #[].toList], .bool false]) []))) (none) := by kernel_rfl
theorem t_impl_PlanBook_field_4 (x0 : Int) (x1 : List (El .fld)) (x2 : Int) (x3 : Int) (x4 : Int) (x5 : Int) (x6 : Str) : aRun R_impl_PlanBook_field 600 true (todoAt R_impl_PlanBook_field.fn 4) (cutSt R_impl_PlanBook_field.fn (liveOf R_impl_PlanBook_field (todoAt R_impl_PlanBook_field.fn 4)) [.int .i64 x0, .ptr 0 0, .sl .fld x1, .int .i64 x2, .int .i64 x3] [.box [.int .i64 x4, .int .i64 x5, .str x6]]) =
  ifb (decide (x3 < x2)) (ifb (inb x3 x1.length) (ifb ((x1.getD x3.toNat (R_impl_PlanBook_field.C.dflt Ty.fld)).what == x0) (some (.ret (.tup [.agg [.int .i64 ((x1.getD x3.toNat (R_impl_PlanBook_field.C.dflt Ty.fld)).what), .int .i64 ((x1.getD x3.toNat (R_impl_PlanBook_field.C.dflt Ty.fld)).number), .str ((x1.getD x3.toNat (R_impl_PlanBook_field.C.dflt Ty.fld)).value)], .bool true]) [])) (some (.go (todoAt R_impl_PlanBook_field.fn 4) [.int .i64 x0, .ptr 0 0, .sl .fld x1, .int .i64 x2, .int .i64 (IntKind.i64.wrap (x3 + (1 : Int)))] [.box [.int .i64 x4, .int .i64 x5, .str x6]]))) (none)) (some (.ret (.tup [.agg [.int .i64 (0 : Int), .int .i64 (0 : Int), .str #[].toList], .bool false]) [])) := by kernel_rfl
theorem l_impl_PlanBook_field (w : Int) (fs : List Fld) (hf : fs.length ≤ 1000000000) : ∀ (d i : Nat), i + d = fs.length →
    Cut R_impl_PlanBook_field g_impl_PlanBook_field 4 [.int .i64 w, .ptr 0 0, .sl .fld fs, .int .i64 (fs.length : Int), .int .i64 (i : Int)] [.box [.int .i64 0, .int .i64 0, .str []]] (.tup [.agg (rowP .fld (((fs.drop i).find? fun f => f.what == w).getD fld0)), .bool ((fs.drop i).find? fun f => f.what == w).isSome]) [] := by
  intro d
  induction d with
  | zero =>
    intro i hi
    refine Cut.of R_impl_PlanBook_field_ok rfl (t_impl_PlanBook_field_4 w fs fs.length i 0 0 []) ?_
    rw [decide_eq_false (by omega), List.drop_of_length_le (by omega)]
    exact Sat.ret rfl rfl
  | succ d ih =>
    intro i hi
    refine Cut.of R_impl_PlanBook_field_ok rfl (t_impl_PlanBook_field_4 w fs fs.length i 0 0 []) ?_
    have hlt : i < fs.length := by omega
    have hw : IntKind.wrap .i64 ((i : Int) + 1) = ((i + 1 : Nat) : Int) := by rw [wrap_ok] <;> omega
    have hw1 : IntKind.wrap .i64 ((i : Int) - 1) = (i : Int) - 1 := by rw [wrap_ok] <;> omega
    have hd : fs.drop i = fs[i] :: fs.drop (i + 1) := List.drop_eq_getElem_cons hlt
    have hx : fs.getD (i : Int).toNat (R_impl_PlanBook_field.C.dflt .fld) = fs[i] := by simp [hlt]
    have hin : inb (i : Int) fs.length = true := by simp only [inb, Bool.and_eq_true, decide_eq_true_eq]; omega
    have hlo : decide ((i : Int) < (fs.length : Int)) = true := decide_eq_true (by omega)
    have htk := List.take_succ_eq_append_getElem hlt
    have hl : (fs.take (i + 1)).getLast? = some fs[i] := by rw [List.take_succ_eq_append_getElem hlt, List.getLast?_concat]
    rw [hlo, hin, hx, hw, hd, List.find?_cons]
    simp only [ifb_true]
    cases hq : (fs[i].what == w) with
    | true => exact Sat.ret rfl rfl
    | false => exact Sat.cut (ih (i + 1) (by omega))
theorem c_impl_PlanBook_field (ks : List Kind) (ps : List Point) (es : List Entry) (n : Str) (w : Int) (hg : (decide (es.length < 1000000000) && es.all szE) = true) : CallOK Tryz.prog CP g_impl_PlanBook_field [.agg [.sl .kind ks, .sl .point ps, .sl .entry es], .str n, .int .i64 w] [] (.tup [.agg (rowP .fld ((fldF es n w).getD fld0)), .bool (fldF es n w).isSome]) [] := by
  refine CallOK.of R_impl_PlanBook_field_ok (by kernel_rfl) (t_impl_PlanBook_field ks ps es n w) ?_
  simp only [Bool.and_eq_true, decide_eq_true_eq] at hg
  obtain ⟨hlt, hz⟩ := hg
  have hp : idxF (fun p => p.name == n) es = entIx es n := rfl
  have hdf : R_impl_PlanBook_field.C.dflt Ty.entry = dfltP .entry := rfl
  rw [hdf, decide_eq_true hlt]
  simp only [ifb_true]
  rcases idx_find (fun e : Entry => e.name == n) (dfltP .entry) es with ⟨h1, h2⟩ | ⟨h1, h2⟩
  · rw [decide_eq_false (by omega)]
    refine Sat.ret ?_ rfl
    rw [fldF, h2]; rfl
  · rw [decide_eq_true h1, hp, ent_in h1]
    simp only [ifb_true]
    have hm := List.all_eq_true.1 hz _ (ent_mem (n := n) h1)
    simp only [szE, Bool.and_eq_true, decide_eq_true_eq] at hm
    have := l_impl_PlanBook_field w (es.getD (entIx es n).toNat (dfltP .entry)).fields hm.1 _ 0 (Nat.zero_add _)
    rw [fldF, h2]
    exact Sat.cut this
theorem E_impl_PlanBook_field_ok : EntOK Tryz.prog CP g_impl_PlanBook_field E_impl_PlanBook_field := by
  refine ⟨⟨Tryz.f147, by kernel_rfl, by kernel_rfl, by kernel_rfl⟩, fun args H res H' h => ?_⟩
  simp only [E_impl_PlanBook_field] at h
  split at h
  · simp only [Option.some.injEq, Prod.mk.injEq] at h
    obtain ⟨hg, rfl, rfl⟩ := h
    exact c_impl_PlanBook_field _ _ _ _ _ hg
  · cases h
end Lx
/- Meanings: who stands, as the program asks it. -/
set_option linter.unusedVariables false
set_option linter.unusedSimpArgs false
namespace Lx
open Go Go.Proofs
theorem kinds_ok : ∀ {ks : List Kind} {prev : Option Str}, kindsGo prev ks = true → ∀ k ∈ ks, k.ok = true
  | [], _, _, k, hk => by simp at hk
  | a :: ks, prev, h, k, hk => by
    rw [kindsGo] at h
    simp only [Bool.and_eq_true] at h
    simp only [List.mem_cons] at hk
    rcases hk with rfl | hk
    · exact h.1
    · exact kinds_ok h.2.2 k hk
theorem kind_none {ks : List Kind} {ps : List Point} (h : baseOk ks ps = true) : ¬ 0 ≤ kindIx ks [] := by
  intro h0
  rcases idx_find (fun k : Kind => k.name == ([] : Str)) (dfltP .kind) ks with ⟨h1, _⟩ | ⟨_, h2⟩
  · have : kindIx ks [] = idxF (fun k : Kind => k.name == ([] : Str)) ks := rfl
    omega
  · have hm := List.mem_of_find?_eq_some h2
    have hn := List.find?_some h2
    simp only [baseOk, Bool.and_eq_true] at h
    have hk := kinds_ok h.2.2.1 _ hm
    simp only [Kind.ok, nameOk, Bool.and_eq_true, decide_eq_true_eq] at hk
    have := eq_of_beq hn
    rw [this] at hk
    simp at hk
theorem fits_ne {ks : List Kind} {ps : List Point} (hb : baseOk ks ps = true) {w : Int} (hw : w = 1 ∨ w = 2 ∨ w = 3 ∨ w = 4) : fitsV ks ps w [] = false := by
  rcases hw with rfl | rfl | rfl | rfl
  · show decide (0 ≤ kindIx ks []) = false
    exact decide_eq_false (kind_none hb)
  · rfl
  · rfl
  · rfl
/-- A book's flight, found. -/
theorem fld_at {ks : List Kind} {ps : List Point} {es : List Entry} {n : Str} (hb : bookOk ks ps es = true) (h0 : 0 ≤ entIx es n) : ∃ e, e = es.getD (entIx es n).toNat (dfltP .entry) ∧ e ∈ es ∧ entryOk ks ps e = true ∧ e.name = n ∧
    (∀ w, ((fldF es n w).getD fld0).value = valF e.fields w) ∧ ∀ w, w = 1 ∨ w = 2 ∨ w = 3 ∨ w = 4 → (fldF es n w).isSome = !decide (valF e.fields w = []) := by
  obtain ⟨hbase, _, hall⟩ := book_ents hb
  have hm := ent_mem h0
  rcases idx_find (fun e : Entry => e.name == n) (dfltP .entry) es with ⟨h1, _⟩ | ⟨_, h2⟩
  · have : entIx es n = idxF (fun k : Entry => k.name == n) es := rfl
    omega
  · have hfl : ∀ w, fldF es n w = (es.getD (entIx es n).toNat (dfltP .entry)).fields.find? (fun f => f.what == w) := fun w => by rw [fldF, h2]; rfl
    have hnm := List.find?_some h2
    have hnm' : ((es.getD (entIx es n).toNat (dfltP .entry)).name == n) = true := hnm
    refine ⟨_, rfl, hm, hall _ hm, eq_of_beq hnm', fun w => ?_, fun w hw => ?_⟩
    · rw [hfl, valF]
      cases (es.getD (entIx es n).toNat (dfltP .entry)).fields.find? (fun f => f.what == w) <;> rfl
    · rw [hfl]
      cases hf : (es.getD (entIx es n).toNat (dfltP .entry)).fields.find? (fun f => f.what == w) with
      | none =>
        have : valF (es.getD (entIx es n).toNat (dfltP .entry)).fields w = [] := by unfold valF; rw [hf]
        rw [decide_eq_true this]; rfl
      | some f =>
        have hv : valF (es.getD (entIx es n).toNat (dfltP .entry)).fields w = f.value := by unfold valF; rw [hf]
        have hok := hall _ hm
        simp only [entryOk, Bool.and_eq_true] at hok
        have hfit := fits_all hok.2.2 f (List.mem_of_find?_eq_some hf)
        have hwf : f.what = w := by simpa using List.find?_some hf
        have : ¬ valF (es.getD (entIx es n).toNat (dfltP .entry)).fields w = [] := fun e => by
          rw [hv] at e
          rw [hwf, e, fits_ne hbase hw] at hfit
          cases hfit
        rw [decide_eq_false this]; rfl
theorem fld_none {es : List Entry} {n : Str} (h0 : ¬ 0 ≤ entIx es n) (w : Int) : fldF es n w = none := by
  rcases idx_find (fun e : Entry => e.name == n) (dfltP .entry) es with ⟨_, h2⟩ | ⟨h1, _⟩
  · rw [fldF, h2]; rfl
  · exact absurd h1 h0
theorem time_decs {w : List Str} (h : timeOk w = true) : w.all decB = true ∧ decsV w = [numF (w.getD 0 []), numF (w.getD 1 [])] := by
  match w with
  | [] => cases h
  | [a] => cases h
  | [a, b] =>
    simp only [timeOk, inR, Bool.and_eq_true, decide_eq_true_eq] at h
    have ha : decB a = true := decide_eq_true h.1
    have hb : decB b = true := decide_eq_true (by omega)
    have hall : [a, b].all decB = true := by simp [ha, hb]
    refine ⟨hall, ?_⟩
    unfold decsV
    rw [if_pos hall]
    have e1 : decV a = numF a := by unfold decV; omega
    have e2 : decV b = numF b := by unfold decV; omega
    show [decV a, decV b] = [numF a, numF b]
    rw [e1, e2]
  | a :: b :: c :: t => cases h

def getV (es : List Entry) (n : Str) (w : Int) : V := .tup [.str ((fldF es n w).getD fld0).value, .bool (fldF es n w).isSome]
def E_impl_PlanBook_stands_1 : Ent Ty El := ⟨[.ro, .ro, .ro], 0, fun a h => match a, h with
  | [.int .i64 w, .rop [.sl .kind ks, .sl .point ps, .sl .entry es] 0, .rop [.str n] 0], [] => some (decide (es.length < 1000000000) && es.all szE, getV es n w, [])
  | _, _ => none⟩
def E_impl_PlanBook_stands : Ent Ty El := ⟨[.ro, .ro], 0, fun a h => match a, h with
  | [.agg [.sl .kind ks, .sl .point ps, .sl .entry es], .str n], [] => some (szB es && bookOk ks ps es, flV (stB ks ps es n), [])
  | _, _ => none⟩
end Lx
/- Who stands, as the program asks it. -/
set_option linter.unusedVariables false
set_option linter.unusedSimpArgs false
set_option maxRecDepth 4000
namespace Lx
open Go Go.Proofs
/-- (impl.PlanBook).stands$1 -/
noncomputable def R_impl_PlanBook_stands_1 : RE Ty El := ⟨Tryz.prog, CP, [(g_impl_PlanBook_field, E_impl_PlanBook_field)], Tryz.f166, 0, [], []⟩
theorem R_impl_PlanBook_stands_1_ok : REOK R_impl_PlanBook_stands_1 g_impl_PlanBook_stands_1 := ⟨CP_ok, (TabOK.cons E_impl_PlanBook_field_ok EOKnil), by kernel_rfl, by kernel_rfl⟩
theorem t_impl_PlanBook_stands_1 (ks : List Kind) (ps : List Point) (es : List Entry) (n : Str) (w : Int) : aRun R_impl_PlanBook_stands_1 600 false (body0 R_impl_PlanBook_stands_1.fn) (initSt R_impl_PlanBook_stands_1.fn [.int .i64 w, .rop [.sl .kind ks, .sl .point ps, .sl .entry es] 0, .rop [.str n] 0] []) =
  ifb (decide (es.length < (1000000000 : Nat)) && es.all szE) (some (.ret (.tup [.str (((fldF es n w).getD fld0).value), .bool ((fldF es n w).isSome)]) [])) (none) := by kernel_rfl
theorem c_impl_PlanBook_stands_1 (ks : List Kind) (ps : List Point) (es : List Entry) (n : Str) (w : Int) (hg : (decide (es.length < 1000000000) && es.all szE) = true) : CallOK Tryz.prog CP g_impl_PlanBook_stands_1 [.int .i64 w, .rop [.sl .kind ks, .sl .point ps, .sl .entry es] 0, .rop [.str n] 0] [] (getV es n w) [] := by
  refine CallOK.of R_impl_PlanBook_stands_1_ok (by kernel_rfl) (t_impl_PlanBook_stands_1 ks ps es n w) ?_
  rw [hg]
  exact Sat.ret rfl rfl
theorem E_impl_PlanBook_stands_1_ok : EntOK Tryz.prog CP g_impl_PlanBook_stands_1 E_impl_PlanBook_stands_1 := by
  refine ⟨⟨Tryz.f166, by kernel_rfl, by kernel_rfl, by kernel_rfl⟩, fun args H res H' h => ?_⟩
  simp only [E_impl_PlanBook_stands_1] at h
  split at h
  · simp only [Option.some.injEq, Prod.mk.injEq] at h
    obtain ⟨hg, rfl, rfl⟩ := h
    exact c_impl_PlanBook_stands_1 _ _ _ _ _ hg
  · cases h

/-- (impl.PlanBook).stands -/
noncomputable def R_impl_PlanBook_stands : RE Ty El := ⟨Tryz.prog, CP, [(g_impl_PlanBook_stands_1, E_impl_PlanBook_stands_1), (g_strings_Split, E_strings_Split), (g_impl_decimals, E_impl_decimals), (g_impl_decimal, E_impl_decimal), (g_impl_PlanBase_kind, E_impl_PlanBase_kind)], Tryz.f84, 0, [.agg [.any, .any, .any, .any, .any, .any, .any, .ro .str], .any], []⟩
theorem R_impl_PlanBook_stands_ok : REOK R_impl_PlanBook_stands g_impl_PlanBook_stands := ⟨CP_ok, (TabOK.cons E_impl_PlanBook_stands_1_ok (TabOK.cons E_strings_Split_ok (TabOK.cons E_impl_decimals_ok (TabOK.cons E_impl_decimal_ok (TabOK.cons E_impl_PlanBase_kind_ok EOKnil))))), by kernel_rfl, by kernel_rfl⟩
theorem t_impl_PlanBook_stands (ks : List Kind) (ps : List Point) (es : List Entry) (n : Str) : aRun R_impl_PlanBook_stands 600 false (body0 R_impl_PlanBook_stands.fn) (initSt R_impl_PlanBook_stands.fn [.agg [.sl .kind ks, .sl .point ps, .sl .entry es], .str n] []) =
  ifb (decide (es.length < (1000000000 : Nat)) && es.all szE) (ifb (decide (es.length < (1000000000 : Nat)) && es.all szE) (ifb (decide (es.length < (1000000000 : Nat)) && es.all szE) (ifb (decide (es.length < (1000000000 : Nat)) && es.all szE) (ifb (decide (es.length < (1000000000 : Nat)) && es.all szE) (ifb (!(fldF es n (1 : Int)).isSome) (some (.ret (.tup [.agg [.str #[].toList, .str #[].toList, .int .i64 (0 : Int), .int .i64 (0 : Int), .int .i64 (0 : Int), .int .i64 (0 : Int), .int .i64 (0 : Int), .sl .str []], .bool false]) [])) (ifb (!(fldF es n (2 : Int)).isSome) (some (.ret (.tup [.agg [.str #[].toList, .str #[].toList, .int .i64 (0 : Int), .int .i64 (0 : Int), .int .i64 (0 : Int), .int .i64 (0 : Int), .int .i64 (0 : Int), .sl .str []], .bool false]) [])) (ifb (!(fldF es n (3 : Int)).isSome) (some (.ret (.tup [.agg [.str #[].toList, .str #[].toList, .int .i64 (0 : Int), .int .i64 (0 : Int), .int .i64 (0 : Int), .int .i64 (0 : Int), .int .i64 (0 : Int), .sl .str []], .bool false]) [])) (ifb (!(fldF es n (4 : Int)).isSome) (some (.ret (.tup [.agg [.str #[].toList, .str #[].toList, .int .i64 (0 : Int), .int .i64 (0 : Int), .int .i64 (0 : Int), .int .i64 (0 : Int), .int .i64 (0 : Int), .sl .str []], .bool false]) [])) (ifb (((fldF es n (5 : Int)).getD fld0).value == #[(99 : UInt8), (108 : UInt8), (111 : UInt8), (115 : UInt8), (101 : UInt8), (100 : UInt8)].toList) (some (.ret (.tup [.agg [.str #[].toList, .str #[].toList, .int .i64 (0 : Int), .int .i64 (0 : Int), .int .i64 (0 : Int), .int .i64 (0 : Int), .int .i64 (0 : Int), .sl .str []], .bool false]) [])) (ifb (szS ((fldF es n (2 : Int)).getD fld0).value) (ifb (decide ((7 : Int) = (7 : Int)) && decide ((cutS (↑(UInt8.toNat (32 : UInt8)) : Int) ((fldF es n (2 : Int)).getD fld0).value).length ≤ (2000000000 : Nat))) (ifb (decide (ks.length < (1000000000 : Nat))) (ifb (inb (idxF (fun p => p.name == ((fldF es n (1 : Int)).getD fld0).value) ks) ks.length) (ifb (inb (0 : Int) (decsV (cutS (↑(UInt8.toNat (32 : UInt8)) : Int) ((fldF es n (2 : Int)).getD fld0).value)).length) (ifb (inb (1 : Int) (decsV (cutS (↑(UInt8.toNat (32 : UInt8)) : Int) ((fldF es n (2 : Int)).getD fld0).value)).length) (ifb (szS ((fldF es n (4 : Int)).getD fld0).value) (some (.ret (.tup [.agg [.str n, .str ((ks.getD (idxF (fun p => p.name == ((fldF es n (1 : Int)).getD fld0).value) ks).toNat (R_impl_PlanBook_stands.C.dflt Ty.kind)).name), .int .i64 ((ks.getD (idxF (fun p => p.name == ((fldF es n (1 : Int)).getD fld0).value) ks).toNat (R_impl_PlanBook_stands.C.dflt Ty.kind)).quick), .int .i64 ((ks.getD (idxF (fun p => p.name == ((fldF es n (1 : Int)).getD fld0).value) ks).toNat (R_impl_PlanBook_stands.C.dflt Ty.kind)).slow), .int .i64 ((decsV (cutS (↑(UInt8.toNat (32 : UInt8)) : Int) ((fldF es n (2 : Int)).getD fld0).value)).getD (Int.toNat (0 : Int)) (R_impl_PlanBook_stands.C.dflt Ty.int)), .int .i64 ((decsV (cutS (↑(UInt8.toNat (32 : UInt8)) : Int) ((fldF es n (2 : Int)).getD fld0).value)).getD (Int.toNat (1 : Int)) (R_impl_PlanBook_stands.C.dflt Ty.int)), .int .i64 (decV ((fldF es n (3 : Int)).getD fld0).value), .sl .str (cutS (↑(UInt8.toNat (32 : UInt8)) : Int) ((fldF es n (4 : Int)).getD fld0).value)], .bool true]) [])) (none)) (none)) (none)) (none)) (none)) (none)) (none))))))) (none)) (none)) (none)) (none)) (none) := by kernel_rfl
theorem c_impl_PlanBook_stands (ks : List Kind) (ps : List Point) (es : List Entry) (n : Str) (hg : (szB es && bookOk ks ps es) = true) : CallOK Tryz.prog CP g_impl_PlanBook_stands [.agg [.sl .kind ks, .sl .point ps, .sl .entry es], .str n] [] (flV (stB ks ps es n)) [] := by
  refine CallOK.of R_impl_PlanBook_stands_ok (by kernel_rfl) (t_impl_PlanBook_stands ks ps es n) ?_
  simp only [Bool.and_eq_true] at hg
  obtain ⟨hz, hb⟩ := hg
  have hz' : es.length ≤ 1000000000 ∧ es.all szE = true := by simpa only [szB, Bool.and_eq_true, decide_eq_true_eq] using hz
  obtain ⟨hbase, h12, hall⟩ := book_ents hb
  have hg1 : (decide (es.length < 1000000000) && es.all szE) = true := by rw [decide_eq_true (by omega), hz'.2]; rfl
  have no : stB ks ps es n = none → Sat R_impl_PlanBook_stands g_impl_PlanBook_stands (flV (stB ks ps es n)) [] (some (.ret (.tup [.agg [.str #[].toList, .str #[].toList, .int .i64 (0 : Int), .int .i64 (0 : Int), .int .i64 (0 : Int), .int .i64 (0 : Int), .int .i64 (0 : Int), .sl .str []], .bool false]) [])) := fun h => by
    rw [h]; exact Sat.ret rfl rfl
  rw [hg1]
  simp only [ifb_true]
  by_cases h0 : 0 ≤ entIx es n
  · obtain ⟨e, he, hm, hok, hn, hv, hs⟩ := fld_at hb h0
    have hst : stB ks ps es n = stE ks e := by rw [stB, if_pos ⟨hb, h0⟩, he]
    have s1 := hs 1 (by omega)
    by_cases n1 : valF e.fields 1 = []
    · rw [s1, decide_eq_true n1]
      exact no (by rw [hst, stE, if_pos (by simp [n1])])
    rw [s1, decide_eq_false n1, Bool.not_false, Bool.not_true, ifb_false]
    have s2 := hs 2 (by omega)
    by_cases n2 : valF e.fields 2 = []
    · rw [s2, decide_eq_true n2]
      exact no (by rw [hst, stE, if_pos (by simp [n2])])
    rw [s2, decide_eq_false n2, Bool.not_false, Bool.not_true, ifb_false]
    have s3 := hs 3 (by omega)
    by_cases n3 : valF e.fields 3 = []
    · rw [s3, decide_eq_true n3]
      exact no (by rw [hst, stE, if_pos (by simp [n3])])
    rw [s3, decide_eq_false n3, Bool.not_false, Bool.not_true, ifb_false]
    have s4 := hs 4 (by omega)
    by_cases n4 : valF e.fields 4 = []
    · rw [s4, decide_eq_true n4]
      exact no (by rw [hst, stE, if_pos (by simp [n4])])
    rw [s4, decide_eq_false n4, Bool.not_false, Bool.not_true, ifb_false]
    rw [hv, hv, hv, hv, hv]
    have hst2 : stE ks e = if valF e.fields 5 = wClosed then none else some ⟨e.name, ks.getD (kindIx ks (valF e.fields 1)).toNat (dfltP .kind), numF ((cutS 32 (valF e.fields 2)).getD 0 []), numF ((cutS 32 (valF e.fields 2)).getD 1 []), numF (valF e.fields 3), cutS 32 (valF e.fields 4)⟩ := by
      rw [stE, if_neg (by simp [n1, n2, n3, n4])]
    by_cases hc : valF e.fields 5 = wClosed
    · have : (valF e.fields 5 == wClosed) = true := by rw [hc]; simp
      have e5 : (valF e.fields 5 == [(99 : UInt8), 108, 111, 115, 101, 100]) = true := this
      rw [e5]
      exact no (by rw [hst, hst2, if_pos hc])
    · have e5 : (valF e.fields 5 == [(99 : UInt8), 108, 111, 115, 101, 100]) = false := beq_eq_false_iff_ne.2 hc
      have hze := List.all_eq_true.1 hz'.2 e hm
      have z2 : szS (valF e.fields 2) = true := decide_eq_true (val_sz hze 2)
      have z4 : szS (valF e.fields 4) = true := decide_eq_true (val_sz hze 4)
      have k1 := kind_in (fits1 (val_fits hok n1))
      have ht := fits2 (val_fits hok n2)
      obtain ⟨hall2, hdec⟩ := time_decs ht
      have hlen := cutS_len 32 (valF e.fields 2)
      have hl2 := val_sz hze 2
      have hlev : decV (valF e.fields 3) = numF (valF e.fields 3) := by
        have h3 := val_fits hok n3
        have h3' : inR (numF (valF e.fields 3)) 1 6 = true := by simpa [fitsV] using h3
        simp only [inR, Bool.and_eq_true, decide_eq_true_eq] at h3'
        unfold decV; omega
      have hkx : idxF (fun p => p.name == valF e.fields 1) ks = kindIx ks (valF e.fields 1) := rfl
      have e32 : ((UInt8.toNat 32 : Nat) : Int) = 32 := rfl
      have hk6 := (baseOk_len hbase).1
      rw [e5, z2, z4, e32, hdec, hkx, k1, hlev, decide_eq_true (by omega : ks.length < 1000000000), decide_eq_true (by omega : (cutS 32 (valF e.fields 2)).length ≤ 2000000000)]
      refine Sat.ret ?_ rfl
      rw [hst, hst2, if_neg hc, hn]
      rfl
  · rw [fld_none h0]
    exact no (by rw [stB, if_neg (fun h => h0 h.2)])
theorem E_impl_PlanBook_stands_ok : EntOK Tryz.prog CP g_impl_PlanBook_stands E_impl_PlanBook_stands := by
  refine ⟨⟨Tryz.f84, by kernel_rfl, by kernel_rfl, by kernel_rfl⟩, fun args H res H' h => ?_⟩
  simp only [E_impl_PlanBook_stands] at h
  split at h
  · simp only [Option.some.injEq, Prod.mk.injEq] at h
    obtain ⟨hg, rfl, rfl⟩ := h
    exact c_impl_PlanBook_stands _ _ _ _ hg
  · cases h

/-- impl.PlanStands -/
noncomputable def R_impl_PlanStands : RE Ty El := ⟨Tryz.prog, CP, [(g_impl_PlanBookOk, E_impl_PlanBookOk), (g_impl_PlanBook_stands, E_impl_PlanBook_stands)], Tryz.f20, 0, [.agg [.any, .any, .any, .any, .any, .any, .any, .ro .str], .any], []⟩
end Lx
/- Meanings: legs. -/
set_option linter.unusedVariables false
set_option linter.unusedSimpArgs false
namespace Lx
open Go Go.Proofs
def smallC (c : Cell) : Bool := (decide (0 ≤ c.x) && decide (c.x ≤ 100)) && (decide (0 ≤ c.y) && decide (c.y ≤ 100))
def legN (a b : Cell) : Nat := max (a.x - b.x).natAbs (a.y - b.y).natAbs
def legAt (a b : Cell) (k : Nat) : Cell := if legN a b = 0 then a else ⟨a.x + partF (b.x - a.x) k (legN a b), a.y + partF (b.y - a.y) k (legN a b)⟩
def legF (a b : Cell) : List Cell := (List.range (legN a b + 1)).map (legAt a b)
def turnedB (a b : Cell) : Bool := decide (b.x < a.x) || (b.x == a.x && decide (b.y < a.y))
def legAll (a b : Cell) : List Cell := if turnedB a b then (legF b a).reverse else legF a b
def E_spec_l17Leg0 : Ent Ty El := ⟨[.ro, .ro], 0, fun a h => match a, h with
  | [.agg [.int .i64 ax, .int .i64 ay], .agg [.int .i64 bx, .int .i64 b_y]], [] => some ((smallC ⟨ax, ay⟩ && smallC ⟨bx, b_y⟩) && !turnedB ⟨ax, ay⟩ ⟨bx, b_y⟩, .sl .cell (legF ⟨ax, ay⟩ ⟨bx, b_y⟩), [])
  | _, _ => none⟩
def E_spec_l17Leg : Ent Ty El := ⟨[.ro, .ro], 0, fun a h => match a, h with
  | [.agg [.int .i64 ax, .int .i64 ay], .agg [.int .i64 bx, .int .i64 b_y]], [] => some (smallC ⟨ax, ay⟩ && smallC ⟨bx, b_y⟩, .sl .cell (legAll ⟨ax, ay⟩ ⟨bx, b_y⟩), [])
  | _, _ => none⟩
end Lx
/- Legs (spec). -/
set_option linter.unusedVariables false
set_option linter.unusedSimpArgs false
set_option maxRecDepth 4000
namespace Lx
open Go Go.Proofs
/-- spec.l17Part -/
noncomputable def R_spec_l17Part : RE Ty El := ⟨Tryz.prog, CP, [], Tryz.f198, 0, [], []⟩
theorem R_spec_l17Part_ok : REOK R_spec_l17Part g_spec_l17Part := ⟨CP_ok, EOKnil, by kernel_rfl, by kernel_rfl⟩
theorem t_spec_l17Part (d k n : Int) : aRun R_spec_l17Part 600 false (body0 R_spec_l17Part.fn) (initSt R_spec_l17Part.fn [.int .i64 d, .int .i64 k, .int .i64 n] []) =
  ifb (!IntKind.i64.wrap ((2 : Int) * n) == (0 : Int)) (ifb (decide (IntKind.i64.wrap (IntKind.i64.wrap (IntKind.i64.wrap ((2 : Int) * k) * d) + n) < (0 : Int))) (ifb (IntKind.i64.wrap (IntKind.i64.wrap (IntKind.i64.wrap ((IntKind.i64.wrap (IntKind.i64.wrap (IntKind.i64.wrap ((2 : Int) * k) * d) + n)).tdiv (IntKind.i64.wrap ((2 : Int) * n))) * (2 : Int)) * n) != IntKind.i64.wrap (IntKind.i64.wrap (IntKind.i64.wrap ((2 : Int) * k) * d) + n)) (some (.ret (.int .i64 (IntKind.i64.wrap (IntKind.i64.wrap ((IntKind.i64.wrap (IntKind.i64.wrap (IntKind.i64.wrap ((2 : Int) * k) * d) + n)).tdiv (IntKind.i64.wrap ((2 : Int) * n))) - (1 : Int)))) [])) (some (.ret (.int .i64 (IntKind.i64.wrap ((IntKind.i64.wrap (IntKind.i64.wrap (IntKind.i64.wrap ((2 : Int) * k) * d) + n)).tdiv (IntKind.i64.wrap ((2 : Int) * n))))) []))) (some (.ret (.int .i64 (IntKind.i64.wrap ((IntKind.i64.wrap (IntKind.i64.wrap (IntKind.i64.wrap ((2 : Int) * k) * d) + n)).tdiv (IntKind.i64.wrap ((2 : Int) * n))))) []))) (none) := by kernel_rfl
theorem c_spec_l17Part (d k n : Int) (hg : partOk d k n = true) : CallOK Tryz.prog CP g_spec_l17Part [.int .i64 d, .int .i64 k, .int .i64 n] [] (.int .i64 (partF d k n)) [] := by
  refine CallOK.of R_spec_l17Part_ok (by kernel_rfl) (t_spec_l17Part d k n) ?_
  simp only [partOk, Bool.and_eq_true, decide_eq_true_eq] at hg
  obtain ⟨⟨d1, d2⟩, ⟨k1, k2⟩, n1, n2⟩ := hg
  have hkd : (2 * k * d).natAbs ≤ 2000 * 1000 := by
    rw [Int.natAbs_mul]
    exact Nat.mul_le_mul (by omega) (by omega)
  have w1 : IntKind.wrap .i64 (2 * k) = 2 * k := wrap_ok (by omega) (by omega)
  have w2 : IntKind.wrap .i64 (2 * k * d) = 2 * k * d := wrap_ok (by omega) (by omega)
  have w3 : IntKind.wrap .i64 (2 * k * d + n) = 2 * k * d + n := wrap_ok (by omega) (by omega)
  have w4 : IntKind.wrap .i64 (2 * n) = 2 * n := wrap_ok (by omega) (by omega)
  rw [w1, w2, w3, w4]
  have hfl := tdiv_floor (x := 2 * k * d + n) (y := 2 * n) (by omega)
  have hpf : partF d k n = (2 * k * d + n) / (2 * n) := rfl
  rw [← hpf] at hfl
  have hv : (2 * k * d + n).natAbs ≤ 2001000 := by omega
  generalize 2 * k * d + n = v at *
  have q1 : (v.tdiv (2 * n)).natAbs ≤ v.natAbs := Int.natAbs_tdiv_le_natAbs _ _
  have q2 := Int.mul_tdiv_add_tmod v (2 * n)
  have q3 := Int.tmod_lt_of_pos v (show (0 : Int) < 2 * n by omega)
  have q4 := Int.lt_tmod_of_pos v (show (0 : Int) < 2 * n by omega)
  have q5 : v.tdiv (2 * n) * 2 * n = 2 * n * v.tdiv (2 * n) := by rw [Int.mul_assoc, Int.mul_comm]
  have q6 : v.tdiv (2 * n) * (2 * n) = 2 * n * v.tdiv (2 * n) := Int.mul_comm _ _
  rw [q6] at hfl
  generalize hp : 2 * n * v.tdiv (2 * n) = p at *
  generalize hq : v.tdiv (2 * n) = q at *
  have w5 : IntKind.wrap .i64 q = q := wrap_ok (by omega) (by omega)
  have w6 : IntKind.wrap .i64 (q * 2) = q * 2 := wrap_ok (by omega) (by omega)
  have w7 : IntKind.wrap .i64 p = p := wrap_ok (by omega) (by omega)
  have w8 : IntKind.wrap .i64 (q - 1) = q - 1 := wrap_ok (by omega) (by omega)
  rw [w5, w6, q5, w7, w8]
  have hn0 : (!(2 * n == (0 : Int))) = true := by
    have : (2 * n == (0 : Int)) = false := beq_eq_false_iff_ne.2 (by omega)
    rw [this]; rfl
  rw [hn0]
  simp only [ifb_true]
  by_cases h0 : v < 0
  · rw [decide_eq_true h0]
    by_cases h1 : p = v
    · rw [show (p != v) = false by simp [h1]]
      refine Sat.retI ?_ rfl
      rw [hfl, if_neg (fun h => h.2 h1)]
    · rw [show (p != v) = true by simp [h1]]
      refine Sat.retI ?_ rfl
      rw [hfl, if_pos ⟨h0, h1⟩]
  · rw [decide_eq_false h0]
    refine Sat.retI ?_ rfl
    rw [hfl, if_neg (fun h => h0 h.1)]
theorem E_spec_l17Part_ok : EntOK Tryz.prog CP g_spec_l17Part E_spec_l17Part := by
  refine ⟨⟨Tryz.f198, by kernel_rfl, by kernel_rfl, by kernel_rfl⟩, fun args H res H' h => ?_⟩
  simp only [E_spec_l17Part] at h
  split at h
  · simp only [Option.some.injEq, Prod.mk.injEq] at h
    obtain ⟨hg, rfl, rfl⟩ := h
    exact c_spec_l17Part _ _ _ hg
  · cases h
end Lx
/- Legs: plain facts. -/
set_option linter.unusedVariables false
set_option linter.unusedSimpArgs false
namespace Lx
open Go Go.Proofs
theorem part_small {d k n : Int} (hn : 0 < n) {M : Nat} (h : (2 * k * d + n).natAbs ≤ M) : (partF d k n).natAbs ≤ M + 1 := by
  have hfl := tdiv_floor (x := 2 * k * d + n) (y := 2 * n) (by omega)
  have hpf : partF d k n = (2 * k * d + n) / (2 * n) := rfl
  rw [← hpf] at hfl
  have q1 : ((2 * k * d + n).tdiv (2 * n)).natAbs ≤ (2 * k * d + n).natAbs := Int.natAbs_tdiv_le_natAbs _ _
  rw [hfl]
  split <;> omega
theorem part_zero {d n : Int} (hn : 0 < n) : partF d 0 n = 0 := by
  have : partF d 0 n = n / (2 * n) := by simp [partF]
  rw [this]
  exact Int.ediv_eq_zero_of_lt (by omega) (by omega)
theorem legAt_zero (a b : Cell) : legAt a b 0 = a := by
  unfold legAt
  split
  · rfl
  · rename_i h
    have hn : (0 : Int) < (legN a b : Int) := by omega
    have e1 := part_zero (d := b.x - a.x) hn
    have e2 := part_zero (d := b.y - a.y) hn
    have : ((0 : Nat) : Int) = 0 := rfl
    rw [this, e1, e2]
    simp
theorem legN_le {a b : Cell} (ha : smallC a = true) (hb : smallC b = true) : legN a b ≤ 100 := by
  simp only [smallC, Bool.and_eq_true, decide_eq_true_eq] at ha hb
  unfold legN
  omega
end Lx
/- Legs (spec). -/
set_option linter.unusedVariables false
set_option linter.unusedSimpArgs false
set_option maxRecDepth 4000
namespace Lx
open Go Go.Proofs
/-- spec.l17Leg -/
noncomputable def R_spec_l17Leg0 : RE Ty El := ⟨Tryz.prog, CP, [(g_spec_l17Abs, E_spec_l17Abs), (g_spec_l17Max, E_spec_l17Max), (g_spec_l17Part, E_spec_l17Part)], Tryz.f126, 0, [.ro .cell], [(5, [(5, .any), (6, .any), (7, .any)]), (12, [(2, .any), (3, .any), (5, .any), (8, .any), (9, .any)])]⟩
theorem R_spec_l17Leg0_ok : REOK R_spec_l17Leg0 g_spec_l17Leg := ⟨CP_ok, (TabOK.cons E_spec_l17Abs_ok (TabOK.cons E_spec_l17Max_ok (TabOK.cons E_spec_l17Part_ok EOKnil))), by kernel_rfl, by kernel_rfl⟩
theorem t_spec_l17Leg0 (ax ay bx b_y : Int) : aRun R_spec_l17Leg0 600 false (body0 R_spec_l17Leg0.fn) (initSt R_spec_l17Leg0.fn [.agg [.int .i64 ax, .int .i64 ay], .agg [.int .i64 bx, .int .i64 b_y]] []) =
  ifb (decide (bx < ax)) (none) (ifb (bx == ax) (ifb (decide (b_y < ay)) (none) (ifb (smallI (IntKind.i64.wrap (ax - bx))) (ifb (smallI (IntKind.i64.wrap (ay - b_y))) (some (.go (todoAt R_spec_l17Leg0.fn 12) [.ptr 0 0, .ptr 1 0, .own 2 [] 0, .int .i64 (max (↑(IntKind.i64.wrap (ax - bx)).natAbs : Int) (↑(IntKind.i64.wrap (ay - b_y)).natAbs : Int)), .int .i64 (1 : Int)] [.box [.int .i64 ax, .int .i64 ay], .box [.int .i64 bx, .int .i64 b_y], .row .cell ([] ++ [Cell.mk ax ay]) 0 0 0 .no])) (none)) (none))) (ifb (smallI (IntKind.i64.wrap (ax - bx))) (ifb (smallI (IntKind.i64.wrap (ay - b_y))) (some (.go (todoAt R_spec_l17Leg0.fn 12) [.ptr 0 0, .ptr 1 0, .own 2 [] 0, .int .i64 (max (↑(IntKind.i64.wrap (ax - bx)).natAbs : Int) (↑(IntKind.i64.wrap (ay - b_y)).natAbs : Int)), .int .i64 (1 : Int)] [.box [.int .i64 ax, .int .i64 ay], .box [.int .i64 bx, .int .i64 b_y], .row .cell ([] ++ [Cell.mk ax ay]) 0 0 0 .no])) (none)) (none))) := by kernel_rfl
theorem t_spec_l17Leg0_12 (x0 : Int) (x1 : Int) (x2 : Int) (x3 : Int) (x4 : Int) (x5 : Int) (x6 : List (El .cell)) : aRun R_spec_l17Leg0 600 true (todoAt R_spec_l17Leg0.fn 12) (cutSt R_spec_l17Leg0.fn (liveOf R_spec_l17Leg0 (todoAt R_spec_l17Leg0.fn 12)) [.ptr 0 0, .ptr 1 0, .own 2 [] 0, .int .i64 x0, .int .i64 x1] [.box [.int .i64 x2, .int .i64 x3], .box [.int .i64 x4, .int .i64 x5], .row .cell x6 0 0 0 .no]) =
  ifb (decide (x1 ≤ x0)) (ifb (partOk (IntKind.i64.wrap (x4 - x2)) x1 x0) (ifb (partOk (IntKind.i64.wrap (x5 - x3)) x1 x0) (ifb (decide ((x6.length + [Cell.mk (IntKind.i64.wrap (x2 + partF (IntKind.i64.wrap (x4 - x2)) x1 x0)) (IntKind.i64.wrap (x3 + partF (IntKind.i64.wrap (x5 - x3)) x1 x0))].length) * bytesOf' R_spec_l17Leg0.P (72 : Nat) ≤ (140737488355328 : Nat))) (some (.go (todoAt R_spec_l17Leg0.fn 12) [.ptr 0 0, .ptr 1 0, .own 2 [] 0, .int .i64 x0, .int .i64 (IntKind.i64.wrap (x1 + (1 : Int)))] [.box [.int .i64 x2, .int .i64 x3], .box [.int .i64 x4, .int .i64 x5], .row .cell (x6 ++ [Cell.mk (IntKind.i64.wrap (x2 + partF (IntKind.i64.wrap (x4 - x2)) x1 x0)) (IntKind.i64.wrap (x3 + partF (IntKind.i64.wrap (x5 - x3)) x1 x0))]) 0 0 0 .no])) (none)) (none)) (none)) (some (.ret (.sl .cell x6) [])) := by kernel_rfl
theorem l_spec_l17Leg0 (a b : Cell) (ha : smallC a = true) (hb : smallC b = true) : ∀ (d k : Nat), k + d = legN a b + 1 → 1 ≤ k →
    Cut R_spec_l17Leg0 g_spec_l17Leg 12 [.ptr 0 0, .ptr 1 0, .own 2 [] 0, .int .i64 (legN a b : Int), .int .i64 (k : Int)] [.box [.int .i64 a.x, .int .i64 a.y], .box [.int .i64 b.x, .int .i64 b.y], .row .cell ((List.range k).map (legAt a b)) 0 0 0 .no] (.sl .cell (legF a b)) [] := by
  have hn := legN_le ha hb
  have hbs : bytesOf' R_spec_l17Leg0.P 72 = 16 := by kernel_rfl
  simp only [smallC, Bool.and_eq_true, decide_eq_true_eq] at ha hb
  intro d
  induction d with
  | zero =>
    intro k hk h1
    refine Cut.of R_spec_l17Leg0_ok rfl (t_spec_l17Leg0_12 (legN a b) k a.x a.y b.x b.y _) ?_
    rw [decide_eq_false (by omega)]
    refine Sat.ret ?_ rfl
    have : k = legN a b + 1 := by omega
    rw [this]; rfl
  | succ d ih =>
    intro k hk h1
    refine Cut.of R_spec_l17Leg0_ok rfl (t_spec_l17Leg0_12 (legN a b) k a.x a.y b.x b.y _) ?_
    have hw : IntKind.wrap .i64 ((k : Int) + 1) = ((k + 1 : Nat) : Int) := by rw [wrap_ok] <;> omega
    have wx : IntKind.wrap .i64 (b.x - a.x) = b.x - a.x := wrap_ok (by omega) (by omega)
    have wy : IntKind.wrap .i64 (b.y - a.y) = b.y - a.y := wrap_ok (by omega) (by omega)
    have hN : ¬ legN a b = 0 := by omega
    have px : partOk (b.x - a.x) k (legN a b) = true := by simp only [partOk, Bool.and_eq_true, decide_eq_true_eq]; omega
    have py : partOk (b.y - a.y) k (legN a b) = true := by simp only [partOk, Bool.and_eq_true, decide_eq_true_eq]; omega
    have bnd : ∀ e : Int, e.natAbs ≤ 100 → (partF e k (legN a b)).natAbs ≤ 30001 := fun e he => part_small (by omega) (M := 30000) (by
      have : (2 * (k : Int) * e).natAbs ≤ 202 * 100 := by
        rw [Int.natAbs_mul]
        exact Nat.mul_le_mul (by omega) he
      omega)
    have bx := bnd (b.x - a.x) (by omega)
    have by' := bnd (b.y - a.y) (by omega)
    have w1 : IntKind.wrap .i64 (a.x + partF (b.x - a.x) k (legN a b)) = a.x + partF (b.x - a.x) k (legN a b) := wrap_ok (by omega) (by omega)
    have w2 : IntKind.wrap .i64 (a.y + partF (b.y - a.y) k (legN a b)) = a.y + partF (b.y - a.y) k (legN a b) := wrap_ok (by omega) (by omega)
    rw [wx, wy, px, py, w1, w2, hw, hbs, decide_eq_true (by omega : (k : Int) ≤ (legN a b : Int))]
    simp only [ifb_true]
    have hroom : ∀ x : Cell, decide ((((List.range k).map (legAt a b)).length + [x].length) * 16 ≤ 140737488355328) = true := fun x => decide_eq_true (by simp; omega)
    rw [hroom]
    have := ih (k + 1) (by omega) (by omega)
    rw [List.range_succ, List.map_append] at this
    have e : legAt a b k = ⟨a.x + partF (b.x - a.x) k (legN a b), a.y + partF (b.y - a.y) k (legN a b)⟩ := by unfold legAt; rw [if_neg hN]
    rw [List.map_cons, List.map_nil, e] at this
    exact Sat.cut this
theorem c_spec_l17Leg0 (ax ay bx b_y : Int) (hg : ((smallC ⟨ax, ay⟩ && smallC ⟨bx, b_y⟩) && !turnedB ⟨ax, ay⟩ ⟨bx, b_y⟩) = true) : CallOK Tryz.prog CP g_spec_l17Leg [.agg [.int .i64 ax, .int .i64 ay], .agg [.int .i64 bx, .int .i64 b_y]] [] (.sl .cell (legF ⟨ax, ay⟩ ⟨bx, b_y⟩)) [] := by
  refine CallOK.of R_spec_l17Leg0_ok (by kernel_rfl) (t_spec_l17Leg0 ax ay bx b_y) ?_
  simp only [Bool.and_eq_true, Bool.not_eq_true'] at hg
  obtain ⟨⟨ha, hb⟩, ht⟩ := hg
  have hs := l_spec_l17Leg0 ⟨ax, ay⟩ ⟨bx, b_y⟩ ha hb (legN ⟨ax, ay⟩ ⟨bx, b_y⟩) 1 (by omega) (Nat.le_refl _)
  have e1 : (List.range 1).map (legAt ⟨ax, ay⟩ ⟨bx, b_y⟩) = [] ++ [(⟨ax, ay⟩ : Cell)] := by
    show [legAt _ _ 0] = _
    rw [legAt_zero]; rfl
  rw [e1] at hs
  simp only [smallC, Bool.and_eq_true, decide_eq_true_eq] at ha hb
  have wx : IntKind.wrap .i64 (ax - bx) = ax - bx := wrap_ok (by omega) (by omega)
  have wy : IntKind.wrap .i64 (ay - b_y) = ay - b_y := wrap_ok (by omega) (by omega)
  have sx : smallI (ax - bx) = true := by simp only [smallI, Bool.and_eq_true, decide_eq_true_eq]; omega
  have sy : smallI (ay - b_y) = true := by simp only [smallI, Bool.and_eq_true, decide_eq_true_eq]; omega
  have hmax : max ((ax - bx).natAbs : Int) ((ay - b_y).natAbs : Int) = (legN ⟨ax, ay⟩ ⟨bx, b_y⟩ : Int) := by
    unfold legN
    simp only
    omega
  simp only [turnedB, Bool.or_eq_false_iff] at ht
  rw [wx, wy, sx, sy, hmax, ht.1]
  simp only [ifb_false, ifb_true]
  cases hq : (bx == ax) with
  | false => exact Sat.cut hs
  | true =>
    have := ht.2
    rw [hq, Bool.true_and] at this
    rw [this]
    exact Sat.cut hs
theorem E_spec_l17Leg0_ok : EntOK Tryz.prog CP g_spec_l17Leg E_spec_l17Leg0 := by
  refine ⟨⟨Tryz.f126, by kernel_rfl, by kernel_rfl, by kernel_rfl⟩, fun args H res H' h => ?_⟩
  simp only [E_spec_l17Leg0] at h
  split at h
  · simp only [Option.some.injEq, Prod.mk.injEq] at h
    obtain ⟨hg, rfl, rfl⟩ := h
    exact c_spec_l17Leg0 _ _ _ _ hg
  · cases h
end Lx
/- Legs (spec), both ways. -/
set_option linter.unusedVariables false
set_option linter.unusedSimpArgs false
set_option maxRecDepth 4000
namespace Lx
open Go Go.Proofs
/-- spec.l17Leg -/
noncomputable def R_spec_l17Leg : RE Ty El := ⟨Tryz.prog, CP, [(g_spec_l17Abs, E_spec_l17Abs), (g_spec_l17Max, E_spec_l17Max), (g_spec_l17Part, E_spec_l17Part), (g_spec_l17Leg, E_spec_l17Leg0)], Tryz.f126, 0, [.ro .cell], [(5, [(5, .any), (6, .any), (7, .any)]), (12, [(2, .any), (3, .any), (5, .any), (8, .any), (9, .any)])]⟩
theorem R_spec_l17Leg_ok : REOK R_spec_l17Leg g_spec_l17Leg := ⟨CP_ok, (TabOK.cons E_spec_l17Abs_ok (TabOK.cons E_spec_l17Max_ok (TabOK.cons E_spec_l17Part_ok (TabOK.cons E_spec_l17Leg0_ok EOKnil)))), by kernel_rfl, by kernel_rfl⟩
theorem t_spec_l17Leg (ax ay bx b_y : Int) : aRun R_spec_l17Leg 600 false (body0 R_spec_l17Leg.fn) (initSt R_spec_l17Leg.fn [.agg [.int .i64 ax, .int .i64 ay], .agg [.int .i64 bx, .int .i64 b_y]] []) =
  ifb (decide (bx < ax)) (ifb (smallC (Cell.mk bx b_y) && smallC (Cell.mk ax ay) && !turnedB (Cell.mk bx b_y) (Cell.mk ax ay)) (some (.go (todoAt R_spec_l17Leg.fn 5) [.own 0 [] 0, .sl .cell (legF (Cell.mk bx b_y) (Cell.mk ax ay)), .int .i64 (IntKind.i64.wrap ((↑(legF (Cell.mk bx b_y) (Cell.mk ax ay)).length : Int) - (1 : Int)))] [.row .cell [] 0 0 0 .no])) (none)) (ifb (bx == ax) (ifb (decide (b_y < ay)) (ifb (smallC (Cell.mk bx b_y) && smallC (Cell.mk ax ay) && !turnedB (Cell.mk bx b_y) (Cell.mk ax ay)) (some (.go (todoAt R_spec_l17Leg.fn 5) [.own 0 [] 0, .sl .cell (legF (Cell.mk bx b_y) (Cell.mk ax ay)), .int .i64 (IntKind.i64.wrap ((↑(legF (Cell.mk bx b_y) (Cell.mk ax ay)).length : Int) - (1 : Int)))] [.row .cell [] 0 0 0 .no])) (none)) (ifb (smallI (IntKind.i64.wrap (ax - bx))) (ifb (smallI (IntKind.i64.wrap (ay - b_y))) (some (.go (todoAt R_spec_l17Leg.fn 12) [.ptr 0 0, .ptr 1 0, .own 2 [] 0, .int .i64 (max (↑(IntKind.i64.wrap (ax - bx)).natAbs : Int) (↑(IntKind.i64.wrap (ay - b_y)).natAbs : Int)), .int .i64 (1 : Int)] [.box [.int .i64 ax, .int .i64 ay], .box [.int .i64 bx, .int .i64 b_y], .row .cell ([] ++ [Cell.mk ax ay]) 0 0 0 .no])) (none)) (none))) (ifb (smallI (IntKind.i64.wrap (ax - bx))) (ifb (smallI (IntKind.i64.wrap (ay - b_y))) (some (.go (todoAt R_spec_l17Leg.fn 12) [.ptr 0 0, .ptr 1 0, .own 2 [] 0, .int .i64 (max (↑(IntKind.i64.wrap (ax - bx)).natAbs : Int) (↑(IntKind.i64.wrap (ay - b_y)).natAbs : Int)), .int .i64 (1 : Int)] [.box [.int .i64 ax, .int .i64 ay], .box [.int .i64 bx, .int .i64 b_y], .row .cell ([] ++ [Cell.mk ax ay]) 0 0 0 .no])) (none)) (none))) := by kernel_rfl
theorem t_spec_l17Leg_5 (x0 : List (El .cell)) (x1 : Int) (x2 : List (El .cell)) : aRun R_spec_l17Leg 600 true (todoAt R_spec_l17Leg.fn 5) (cutSt R_spec_l17Leg.fn (liveOf R_spec_l17Leg (todoAt R_spec_l17Leg.fn 5)) [.own 0 [] 0, .sl .cell x0, .int .i64 x1] [.row .cell x2 0 0 0 .no]) =
  ifb (decide (x1 ≥ (0 : Int))) (ifb (inb x1 x0.length) (ifb (decide ((x2.length + [x0.getD x1.toNat (R_spec_l17Leg.C.dflt Ty.cell)].length) * bytesOf' R_spec_l17Leg.P (72 : Nat) ≤ (140737488355328 : Nat))) (some (.go (todoAt R_spec_l17Leg.fn 5) [.own 0 [] 0, .sl .cell x0, .int .i64 (IntKind.i64.wrap (x1 - (1 : Int)))] [.row .cell (x2 ++ [x0.getD x1.toNat (R_spec_l17Leg.C.dflt Ty.cell)]) 0 0 0 .no])) (none)) (none)) (some (.ret (.sl .cell x2) [])) := by kernel_rfl
theorem l_spec_l17Leg (xs : List Cell) (hx : xs.length ≤ 1000) : ∀ (j : Nat), j ≤ xs.length →
    Cut R_spec_l17Leg g_spec_l17Leg 5 [.own 0 [] 0, .sl .cell xs, .int .i64 ((j : Int) - 1)] [.row .cell ((xs.drop j).reverse) 0 0 0 .no] (.sl .cell xs.reverse) [] := by
  have hbs : bytesOf' R_spec_l17Leg.P 72 = 16 := by kernel_rfl
  intro j
  induction j with
  | zero =>
    intro hj
    refine Cut.of R_spec_l17Leg_ok rfl (t_spec_l17Leg_5 xs _ _) ?_
    rw [decide_eq_false (by omega)]
    exact Sat.ret (by rw [List.drop_zero]) rfl
  | succ j ih =>
    intro hj
    refine Cut.of R_spec_l17Leg_ok rfl (t_spec_l17Leg_5 xs _ _) ?_
    have hlt : j < xs.length := by omega
    have ej : ((j + 1 : Nat) : Int) - 1 = (j : Int) := by omega
    have hw : IntKind.wrap .i64 ((j : Int) - 1) = (j : Int) - 1 := wrap_ok (by omega) (by omega)
    have hxj : xs.getD (j : Int).toNat (R_spec_l17Leg.C.dflt .cell) = xs[j] := by simp [hlt]
    have hin : inb (j : Int) xs.length = true := by simp only [inb, Bool.and_eq_true, decide_eq_true_eq]; omega
    have hroom : decide ((((xs.drop (j + 1)).reverse).length + [xs[j]].length) * 16 ≤ 140737488355328) = true := decide_eq_true (by simp; omega)
    have hd : (xs.drop j).reverse = (xs.drop (j + 1)).reverse ++ [xs[j]] := by rw [List.drop_eq_getElem_cons hlt, List.reverse_cons]
    rw [ej, hw, hxj, hin, hbs, hroom, decide_eq_true (by omega : (j : Int) ≥ 0)]
    have := ih (by omega)
    rw [hd] at this
    exact Sat.cut this
theorem c_spec_l17Leg (ax ay bx b_y : Int) (hg : (smallC ⟨ax, ay⟩ && smallC ⟨bx, b_y⟩) = true) : CallOK Tryz.prog CP g_spec_l17Leg [.agg [.int .i64 ax, .int .i64 ay], .agg [.int .i64 bx, .int .i64 b_y]] [] (.sl .cell (legAll ⟨ax, ay⟩ ⟨bx, b_y⟩)) [] := by
  simp only [Bool.and_eq_true] at hg
  cases ht : turnedB ⟨ax, ay⟩ ⟨bx, b_y⟩ with
  | false =>
    have := c_spec_l17Leg0 ax ay bx b_y (by rw [hg.1, hg.2, ht]; rfl)
    rw [show legAll ⟨ax, ay⟩ ⟨bx, b_y⟩ = legF ⟨ax, ay⟩ ⟨bx, b_y⟩ by rw [legAll, ht]; rfl]
    exact this
  | true =>
    refine CallOK.of R_spec_l17Leg_ok (by kernel_rfl) (t_spec_l17Leg ax ay bx b_y) ?_
    have hn := legN_le hg.2 hg.1
    have hlen : (legF ⟨bx, b_y⟩ ⟨ax, ay⟩).length ≤ 1000 := by simp [legF]; omega
    have ht2 : turnedB ⟨bx, b_y⟩ ⟨ax, ay⟩ = false := by
      simp only [turnedB, Bool.or_eq_true, Bool.and_eq_true, decide_eq_true_eq, beq_iff_eq] at ht
      simp only [turnedB, Bool.or_eq_false_iff, Bool.and_eq_false_iff, decide_eq_false_iff_not, beq_eq_false_iff_ne]
      omega
    have hs := l_spec_l17Leg (legF ⟨bx, b_y⟩ ⟨ax, ay⟩) hlen _ (Nat.le_refl _)
    rw [List.drop_length] at hs
    rw [show legAll ⟨ax, ay⟩ ⟨bx, b_y⟩ = (legF ⟨bx, b_y⟩ ⟨ax, ay⟩).reverse by rw [legAll, ht]; rfl]
    have hwl : IntKind.wrap .i64 (((legF ⟨bx, b_y⟩ ⟨ax, ay⟩).length : Int) - 1) = ((legF ⟨bx, b_y⟩ ⟨ax, ay⟩).length : Int) - 1 := wrap_ok (by omega) (by omega)
    rw [hg.1, hg.2, ht2, hwl]
    simp only [turnedB, Bool.or_eq_true, Bool.and_eq_true, decide_eq_true_eq, beq_iff_eq] at ht
    by_cases h1 : bx < ax
    · rw [decide_eq_true h1]
      exact Sat.cut hs
    · rw [decide_eq_false h1]
      have h2 : bx = ax ∧ b_y < ay := ht.resolve_left h1
      rw [beq_iff_eq.2 h2.1, decide_eq_true h2.2]
      exact Sat.cut hs
theorem E_spec_l17Leg_ok : EntOK Tryz.prog CP g_spec_l17Leg E_spec_l17Leg := by
  refine ⟨⟨Tryz.f126, by kernel_rfl, by kernel_rfl, by kernel_rfl⟩, fun args H res H' h => ?_⟩
  simp only [E_spec_l17Leg] at h
  split at h
  · simp only [Option.some.injEq, Prod.mk.injEq] at h
    obtain ⟨hg, rfl, rfl⟩ := h
    exact c_spec_l17Leg _ _ _ _ hg
  · cases h
end Lx
/- Meanings: cells of a route. -/
set_option linter.unusedVariables false
set_option linter.unusedSimpArgs false
namespace Lx
open Go Go.Proofs
def cellOf (ps : List Point) (n : Str) : Cell := ⟨(ptOf ps n).x, (ptOf ps n).y⟩
def tailC (ps : List Point) (w : List Str) (i : Nat) : List Cell := (legAll (cellOf ps (w.getD i [])) (cellOf ps (w.getD (i + 1) []))).drop 1
def cellsAll (ps : List Point) (w : List Str) (m : Nat) : List Cell := cellOf ps (w.getD 0 []) :: (List.range m).flatMap (tailC ps w)
def cellsF (ks : List Kind) (ps : List Point) (w : List Str) : Option (List Cell) :=
  if baseOk ks ps = true ∧ routeOk ps w = true ∧ (cellsAll ps w (w.length - 1)).length ≤ 40 then some (cellsAll ps w (w.length - 1)) else none
def cellsV (o : Option (List Cell)) : V := .tup [.sl .cell (o.getD []), .bool o.isSome]
theorem route_all {ps : List Point} : ∀ {w : List Str} {prev : Option Str}, routeGo ps prev w = true → ∀ n ∈ w, 0 ≤ pointIx ps n
  | [], _, _, n, hn => by simp at hn
  | a :: w, prev, h, n, hn => by
    rw [routeGo] at h
    simp only [Bool.and_eq_true, Bool.not_eq_true', decide_eq_false_iff_not] at h
    simp only [List.mem_cons] at hn
    rcases hn with rfl | hn
    · omega
    · exact route_all h.2.2 n hn
theorem routeOk_inv {ps : List Point} {w : List Str} (h : routeOk ps w = true) : 2 ≤ w.length ∧ w.length ≤ 8 ∧ ∀ n ∈ w, 0 ≤ pointIx ps n := by
  simp only [routeOk, inR, Bool.and_eq_true, decide_eq_true_eq] at h
  exact ⟨by omega, by omega, route_all h.2⟩
theorem points_ok : ∀ {ps seen : List Point} {prev : Option Str}, pointsGo seen prev ps = true → ∀ p ∈ ps, p.ok = true
  | [], _, _, _, p, hp => by simp at hp
  | a :: ps, seen, prev, h, p, hp => by
    rw [pointsGo] at h
    simp only [Bool.and_eq_true] at h
    simp only [List.mem_cons] at hp
    rcases hp with rfl | hp
    · exact h.1
    · exact points_ok h.2.2.2 p hp
theorem cell_small {ks : List Kind} {ps : List Point} (hb : baseOk ks ps = true) {n : Str} (h0 : 0 ≤ pointIx ps n) : smallC (cellOf ps n) = true := by
  have h2 := idxF_lt (p := fun q : Point => q.name == n) (l := ps)
  have h3 : pointIx ps n = idxF (fun q : Point => q.name == n) ps := rfl
  have hlt : (pointIx ps n).toNat < ps.length := by omega
  have hm : ptOf ps n ∈ ps := by
    unfold ptOf
    rw [List.getD_eq_getElem?_getD, List.getElem?_eq_getElem hlt]
    exact List.getElem_mem hlt
  simp only [baseOk, Bool.and_eq_true] at hb
  have := points_ok hb.2.2.2 _ hm
  simp only [Point.ok, inR, Bool.and_eq_true, decide_eq_true_eq] at this
  have hx : (cellOf ps n).x = (ptOf ps n).x := rfl
  have hy : (cellOf ps n).y = (ptOf ps n).y := rfl
  simp only [smallC, hx, hy, Bool.and_eq_true, decide_eq_true_eq]
  obtain ⟨_, ⟨h5, h6⟩, h7, h8⟩ := this
  exact ⟨⟨h5, by omega⟩, h7, by omega⟩
theorem legAll_len {a b : Cell} : (legAll a b).length = legN a b + 1 := by
  unfold legAll
  split
  · rw [List.length_reverse, legF, List.length_map, List.length_range]
    unfold legN; omega
  · rw [legF, List.length_map, List.length_range]
theorem cellsAll_succ (ps : List Point) (w : List Str) (m : Nat) : cellsAll ps w (m + 1) = cellsAll ps w m ++ tailC ps w m := by
  simp [cellsAll, List.range_succ]
def E_spec_PlanCells : Ent Ty El := ⟨[.ro, .ro], 0, fun a h => match a, h with
  | [.agg [.sl .kind ks, .sl .point ps], .sl .str w], [] => some (decide (ps.length < 1000000000), cellsV (cellsF ks ps w), [])
  | _, _ => none⟩
def E_impl_PlanCells : Ent Ty El := E_spec_PlanCells
end Lx
/- Cells of a route (spec). -/
set_option linter.unusedVariables false
set_option linter.unusedSimpArgs false
set_option maxRecDepth 4000
namespace Lx
open Go Go.Proofs
/-- spec.PlanCells -/
noncomputable def R_spec_PlanCells : RE Ty El := ⟨Tryz.prog, CP, [(g_spec_PlanBaseOk, E_spec_PlanBaseOk), (g_spec_l12RouteOk, E_spec_l12RouteOk), (g_spec_l17At, E_spec_l17At), (g_spec_l17Leg, E_spec_l17Leg)], Tryz.f37, 0, [.ro .cell, .any], [(6, [(1, .any), (2, .any), (6, .any), (7, .any)])]⟩
theorem R_spec_PlanCells_ok : REOK R_spec_PlanCells g_spec_PlanCells := ⟨CP_ok, (TabOK.cons E_spec_PlanBaseOk_ok (TabOK.cons E_spec_l12RouteOk_ok (TabOK.cons E_spec_l17At_ok (TabOK.cons E_spec_l17Leg_ok EOKnil)))), by kernel_rfl, by kernel_rfl⟩
theorem t_spec_PlanCells (ks : List Kind) (ps : List Point) (w : List Str) : aRun R_spec_PlanCells 600 false (body0 R_spec_PlanCells.fn) (initSt R_spec_PlanCells.fn [.agg [.sl .kind ks, .sl .point ps], .sl .str w] []) =
  ifb (!baseOk ks ps) (some (.ret (.tup [.sl .cell [], .bool false]) [])) (ifb (decide (ps.length < (1000000000 : Nat))) (ifb (!routeOk ps w) (some (.ret (.tup [.sl .cell [], .bool false]) [])) (ifb (inb (0 : Int) w.length) (ifb (decide (ps.length < (1000000000 : Nat)) && decide ((0 : Int) ≤ pointIx ps (w.getD (Int.toNat (0 : Int)) (R_spec_PlanCells.C.dflt Ty.str)))) (some (.go (todoAt R_spec_PlanCells.fn 6) [.sl .str w, .ptr 0 0, .own 1 [] 0, .int .i64 (1 : Int)] [.box [.sl .kind ks, .sl .point ps], .row .cell ([] ++ [Cell.mk (ps.getD (pointIx ps (w.getD (Int.toNat (0 : Int)) (R_spec_PlanCells.C.dflt Ty.str))).toNat default).x (ps.getD (pointIx ps (w.getD (Int.toNat (0 : Int)) (R_spec_PlanCells.C.dflt Ty.str))).toNat default).y]) 0 0 0 .no])) (none)) (none))) (none)) := by kernel_rfl
theorem t_spec_PlanCells_6 (x0 : List (El .str)) (x1 : Int) (x2 : List (El .kind)) (x3 : List (El .point)) (x4 : List (El .cell)) : aRun R_spec_PlanCells 600 true (todoAt R_spec_PlanCells.fn 6) (cutSt R_spec_PlanCells.fn (liveOf R_spec_PlanCells (todoAt R_spec_PlanCells.fn 6)) [.sl .str x0, .ptr 0 0, .own 1 [] 0, .int .i64 x1] [.box [.sl .kind x2, .sl .point x3], .row .cell x4 0 0 0 .no]) =
  ifb (decide (x1 < (↑x0.length : Int))) (ifb (inb (IntKind.i64.wrap (x1 - (1 : Int))) x0.length) (ifb (decide (x3.length < (1000000000 : Nat)) && decide ((0 : Int) ≤ pointIx x3 (x0.getD (IntKind.i64.wrap (x1 - (1 : Int))).toNat (R_spec_PlanCells.C.dflt Ty.str)))) (ifb (inb x1 x0.length) (ifb (decide (x3.length < (1000000000 : Nat)) && decide ((0 : Int) ≤ pointIx x3 (x0.getD x1.toNat (R_spec_PlanCells.C.dflt Ty.str)))) (ifb (smallC (Cell.mk (x3.getD (pointIx x3 (x0.getD (IntKind.i64.wrap (x1 - (1 : Int))).toNat (R_spec_PlanCells.C.dflt Ty.str))).toNat default).x (x3.getD (pointIx x3 (x0.getD (IntKind.i64.wrap (x1 - (1 : Int))).toNat (R_spec_PlanCells.C.dflt Ty.str))).toNat default).y) && smallC (Cell.mk (x3.getD (pointIx x3 (x0.getD x1.toNat (R_spec_PlanCells.C.dflt Ty.str))).toNat default).x (x3.getD (pointIx x3 (x0.getD x1.toNat (R_spec_PlanCells.C.dflt Ty.str))).toNat default).y)) (ifb (decide ((0 : Int) ≤ (1 : Int)) && (decide ((1 : Int) ≤ (↑(legAll (Cell.mk (x3.getD (pointIx x3 (x0.getD (IntKind.i64.wrap (x1 - (1 : Int))).toNat (R_spec_PlanCells.C.dflt Ty.str))).toNat default).x (x3.getD (pointIx x3 (x0.getD (IntKind.i64.wrap (x1 - (1 : Int))).toNat (R_spec_PlanCells.C.dflt Ty.str))).toNat default).y) (Cell.mk (x3.getD (pointIx x3 (x0.getD x1.toNat (R_spec_PlanCells.C.dflt Ty.str))).toNat default).x (x3.getD (pointIx x3 (x0.getD x1.toNat (R_spec_PlanCells.C.dflt Ty.str))).toNat default).y)).length : Int)) && decide ((↑(legAll (Cell.mk (x3.getD (pointIx x3 (x0.getD (IntKind.i64.wrap (x1 - (1 : Int))).toNat (R_spec_PlanCells.C.dflt Ty.str))).toNat default).x (x3.getD (pointIx x3 (x0.getD (IntKind.i64.wrap (x1 - (1 : Int))).toNat (R_spec_PlanCells.C.dflt Ty.str))).toNat default).y) (Cell.mk (x3.getD (pointIx x3 (x0.getD x1.toNat (R_spec_PlanCells.C.dflt Ty.str))).toNat default).x (x3.getD (pointIx x3 (x0.getD x1.toNat (R_spec_PlanCells.C.dflt Ty.str))).toNat default).y)).length : Int) ≤ (↑(legAll (Cell.mk (x3.getD (pointIx x3 (x0.getD (IntKind.i64.wrap (x1 - (1 : Int))).toNat (R_spec_PlanCells.C.dflt Ty.str))).toNat default).x (x3.getD (pointIx x3 (x0.getD (IntKind.i64.wrap (x1 - (1 : Int))).toNat (R_spec_PlanCells.C.dflt Ty.str))).toNat default).y) (Cell.mk (x3.getD (pointIx x3 (x0.getD x1.toNat (R_spec_PlanCells.C.dflt Ty.str))).toNat default).x (x3.getD (pointIx x3 (x0.getD x1.toNat (R_spec_PlanCells.C.dflt Ty.str))).toNat default).y)).length : Int)))) (ifb (decide ((x4.length + (List.take ((↑(legAll (Cell.mk (x3.getD (pointIx x3 (x0.getD (IntKind.i64.wrap (x1 - (1 : Int))).toNat (R_spec_PlanCells.C.dflt Ty.str))).toNat default).x (x3.getD (pointIx x3 (x0.getD (IntKind.i64.wrap (x1 - (1 : Int))).toNat (R_spec_PlanCells.C.dflt Ty.str))).toNat default).y) (Cell.mk (x3.getD (pointIx x3 (x0.getD x1.toNat (R_spec_PlanCells.C.dflt Ty.str))).toNat default).x (x3.getD (pointIx x3 (x0.getD x1.toNat (R_spec_PlanCells.C.dflt Ty.str))).toNat default).y)).length : Int).toNat - Int.toNat (1 : Int)) (List.drop (Int.toNat (1 : Int)) (legAll (Cell.mk (x3.getD (pointIx x3 (x0.getD (IntKind.i64.wrap (x1 - (1 : Int))).toNat (R_spec_PlanCells.C.dflt Ty.str))).toNat default).x (x3.getD (pointIx x3 (x0.getD (IntKind.i64.wrap (x1 - (1 : Int))).toNat (R_spec_PlanCells.C.dflt Ty.str))).toNat default).y) (Cell.mk (x3.getD (pointIx x3 (x0.getD x1.toNat (R_spec_PlanCells.C.dflt Ty.str))).toNat default).x (x3.getD (pointIx x3 (x0.getD x1.toNat (R_spec_PlanCells.C.dflt Ty.str))).toNat default).y)))).length) * bytesOf' R_spec_PlanCells.P (72 : Nat) ≤ (140737488355328 : Nat))) (some (.go (todoAt R_spec_PlanCells.fn 6) [.sl .str x0, .ptr 0 0, .own 1 [] 0, .int .i64 (IntKind.i64.wrap (x1 + (1 : Int)))] [.box [.sl .kind x2, .sl .point x3], .row .cell (x4 ++ List.take ((↑(legAll (Cell.mk (x3.getD (pointIx x3 (x0.getD (IntKind.i64.wrap (x1 - (1 : Int))).toNat (R_spec_PlanCells.C.dflt Ty.str))).toNat default).x (x3.getD (pointIx x3 (x0.getD (IntKind.i64.wrap (x1 - (1 : Int))).toNat (R_spec_PlanCells.C.dflt Ty.str))).toNat default).y) (Cell.mk (x3.getD (pointIx x3 (x0.getD x1.toNat (R_spec_PlanCells.C.dflt Ty.str))).toNat default).x (x3.getD (pointIx x3 (x0.getD x1.toNat (R_spec_PlanCells.C.dflt Ty.str))).toNat default).y)).length : Int).toNat - Int.toNat (1 : Int)) (List.drop (Int.toNat (1 : Int)) (legAll (Cell.mk (x3.getD (pointIx x3 (x0.getD (IntKind.i64.wrap (x1 - (1 : Int))).toNat (R_spec_PlanCells.C.dflt Ty.str))).toNat default).x (x3.getD (pointIx x3 (x0.getD (IntKind.i64.wrap (x1 - (1 : Int))).toNat (R_spec_PlanCells.C.dflt Ty.str))).toNat default).y) (Cell.mk (x3.getD (pointIx x3 (x0.getD x1.toNat (R_spec_PlanCells.C.dflt Ty.str))).toNat default).x (x3.getD (pointIx x3 (x0.getD x1.toNat (R_spec_PlanCells.C.dflt Ty.str))).toNat default).y)))) 0 0 0 .no])) (none)) (none)) (none)) (none)) (none)) (none)) (none)) (ifb (decide ((↑x4.length : Int) > (40 : Int))) (some (.ret (.tup [.sl .cell [], .bool false]) [])) (some (.ret (.tup [.sl .cell x4, .bool true]) []))) := by kernel_rfl
theorem l_spec_PlanCells (ks : List Kind) (ps : List Point) (w : List Str) (hb : baseOk ks ps = true) (hr : routeOk ps w = true) : ∀ (d i : Nat), i + d = w.length → 1 ≤ i → (cellsAll ps w (i - 1)).length ≤ 1 + 200 * i →
    Cut R_spec_PlanCells g_spec_PlanCells 6 [.sl .str w, .ptr 0 0, .own 1 [] 0, .int .i64 (i : Int)] [.box [.sl .kind ks, .sl .point ps], .row .cell (cellsAll ps w (i - 1)) 0 0 0 .no] (cellsV (cellsF ks ps w)) [] := by
  have hbs : bytesOf' R_spec_PlanCells.P 72 = 16 := by kernel_rfl
  obtain ⟨hw2, hw8, hall⟩ := routeOk_inv hr
  have hp16 := (baseOk_len hb).2
  intro d
  induction d with
  | zero =>
    intro i hi h1 hlen
    refine Cut.of R_spec_PlanCells_ok rfl (t_spec_PlanCells_6 w i ks ps _) ?_
    rw [decide_eq_false (by omega), ifb_false]
    have e : w.length - 1 = i - 1 := by omega
    by_cases h40 : (cellsAll ps w (i - 1)).length ≤ 40
    · rw [decide_eq_false (by omega)]
      refine Sat.ret ?_ rfl
      rw [cellsF, if_pos ⟨hb, hr, by rw [e]; exact h40⟩, e]; rfl
    · rw [decide_eq_true (by omega)]
      refine Sat.ret ?_ rfl
      rw [cellsF, if_neg (fun h => h40 (by rw [← e]; exact h.2.2))]; rfl
  | succ d ih =>
    intro i hi h1 hlen
    refine Cut.of R_spec_PlanCells_ok rfl (t_spec_PlanCells_6 w i ks ps _) ?_
    have hlt : i < w.length := by omega
    have hlt1 : i - 1 < w.length := by omega
    have hw : IntKind.wrap .i64 ((i : Int) + 1) = ((i + 1 : Nat) : Int) := by rw [wrap_ok] <;> omega
    have hw1 : IntKind.wrap .i64 ((i : Int) - 1) = (i : Int) - 1 := by rw [wrap_ok] <;> omega
    have hdf : R_spec_PlanCells.C.dflt Ty.str = ([] : Str) := rfl
    have e1 : ((i : Int) - 1).toNat = i - 1 := by omega
    have e2 : (i : Int).toNat = i := by omega
    have i0 : inb ((i : Int) - 1) w.length = true := by simp only [inb, Bool.and_eq_true, decide_eq_true_eq]; omega
    have i1 : inb (i : Int) w.length = true := by simp only [inb, Bool.and_eq_true, decide_eq_true_eq]; omega
    have m0 : w.getD (i - 1) [] ∈ w := by rw [List.getD_eq_getElem?_getD, List.getElem?_eq_getElem hlt1]; exact List.getElem_mem hlt1
    have m1 : w.getD i [] ∈ w := by rw [List.getD_eq_getElem?_getD, List.getElem?_eq_getElem hlt]; exact List.getElem_mem hlt
    have hc : ∀ n, Cell.mk (ps.getD (pointIx ps n).toNat default).x (ps.getD (pointIx ps n).toNat default).y = cellOf ps n := fun n => rfl
    have hl := legAll_len (a := cellOf ps (w.getD (i - 1) [])) (b := cellOf ps (w.getD i []))
    have hln := legN_le (cell_small hb (hall _ m0)) (cell_small hb (hall _ m1))
    have ht : (legAll (cellOf ps (w.getD (i - 1) [])) (cellOf ps (w.getD i []))).drop 1 = tailC ps w (i - 1) := by
      unfold tailC
      rw [show i - 1 + 1 = i by omega]
    have htl : (tailC ps w (i - 1)).length ≤ 100 := by rw [← ht, List.length_drop]; omega
    have e3 : ∀ l : List Cell, l.take ((l.length : Int).toNat - Int.toNat 1) = l.take (l.length - 1) := fun l => by rfl
    rw [hw, hw1, hdf, e1, e2, i0, i1, hc, hc, cell_small hb (hall _ m0), cell_small hb (hall _ m1), hbs, decide_eq_true (hall _ m0), decide_eq_true (hall _ m1), decide_eq_true (by omega : (i : Int) < (w.length : Int)), decide_eq_true (by omega : ps.length < 1000000000)]
    have e4 : (((legAll (cellOf ps (w.getD (i - 1) [])) (cellOf ps (w.getD i []))).drop (Int.toNat 1)).take (((legAll (cellOf ps (w.getD (i - 1) [])) (cellOf ps (w.getD i []))).length : Int).toNat - Int.toNat 1)) = tailC ps w (i - 1) := by
      rw [show (Int.toNat 1) = 1 from rfl, ht]
      exact List.take_of_length_le (by rw [← ht, List.length_drop]; omega)
    rw [e4]
    have hroom : decide (((cellsAll ps w (i - 1)).length + (tailC ps w (i - 1)).length) * 16 ≤ 140737488355328) = true := decide_eq_true (by omega)
    rw [hroom, decide_eq_true (by omega : (1 : Int) ≤ ((legAll (cellOf ps (w.getD (i - 1) [])) (cellOf ps (w.getD i []))).length : Int)), decide_eq_true (Int.le_refl ((legAll (cellOf ps (w.getD (i - 1) [])) (cellOf ps (w.getD i []))).length : Int))]
    have := ih (i + 1) (by omega) (by omega) (by
      rw [show i + 1 - 1 = (i - 1) + 1 by omega, cellsAll_succ, List.length_append]; omega)
    rw [show i + 1 - 1 = (i - 1) + 1 by omega, cellsAll_succ] at this
    exact Sat.cut this
theorem c_spec_PlanCells (ks : List Kind) (ps : List Point) (w : List Str) (hg : decide (ps.length < 1000000000) = true) : CallOK Tryz.prog CP g_spec_PlanCells [.agg [.sl .kind ks, .sl .point ps], .sl .str w] [] (cellsV (cellsF ks ps w)) [] := by
  refine CallOK.of R_spec_PlanCells_ok (by kernel_rfl) (t_spec_PlanCells ks ps w) ?_
  have no : cellsF ks ps w = none → Sat R_spec_PlanCells g_spec_PlanCells (cellsV (cellsF ks ps w)) [] (some (.ret (.tup [.sl .cell [], .bool false]) [])) := fun h => by
    rw [h]; exact Sat.ret rfl rfl
  rw [hg]
  cases hb : baseOk ks ps with
  | false => exact no (by rw [cellsF, hb]; simp)
  | true =>
    cases hr : routeOk ps w with
    | false => exact no (by rw [cellsF, hr]; simp)
    | true =>
      obtain ⟨hw2, hw8, hall⟩ := routeOk_inv hr
      have hlt : 0 < w.length := by omega
      have m0 : w.getD 0 [] ∈ w := by rw [List.getD_eq_getElem?_getD, List.getElem?_eq_getElem hlt]; exact List.getElem_mem hlt
      have hdf : R_spec_PlanCells.C.dflt Ty.str = ([] : Str) := rfl
      have i0 : inb (0 : Int) w.length = true := by simp only [inb, Bool.and_eq_true, decide_eq_true_eq]; omega
      have := l_spec_PlanCells ks ps w hb hr (w.length - 1) 1 (by omega) (Nat.le_refl _) (by simp [cellsAll])
      rw [hdf, i0, show Int.toNat 0 = 0 from rfl, decide_eq_true (hall _ m0)]
      exact Sat.cut this
theorem E_spec_PlanCells_ok : EntOK Tryz.prog CP g_spec_PlanCells E_spec_PlanCells := by
  refine ⟨⟨Tryz.f37, by kernel_rfl, by kernel_rfl, by kernel_rfl⟩, fun args H res H' h => ?_⟩
  simp only [E_spec_PlanCells] at h
  split at h
  · simp only [Option.some.injEq, Prod.mk.injEq] at h
    obtain ⟨hg, rfl, rfl⟩ := h
    exact c_spec_PlanCells _ _ _ hg
  · cases h
end Lx
/- Meanings: legs as the program makes them. -/
set_option linter.unusedVariables false
set_option linter.unusedSimpArgs false
namespace Lx
open Go Go.Proofs
def E_slices_Reverse_2_int_2_int : Ent Ty El := ⟨[.io], 0, fun a h => match a, h with
  | [.own 0 [] 0], [.row .pair xs 0 0 0 .no] => some (decide (xs.length ≤ 1000000), .tup [], [.row .pair xs.reverse 0 0 0 .no])
  | _, _ => none⟩
def E_impl_leg : Ent Ty El := ⟨[.ro, .ro, .ro, .ro], 0, fun a h => match a, h with
  | [.int .i64 ax, .int .i64 ay, .int .i64 bx, .int .i64 b_y], [] => some (smallC ⟨ax, ay⟩ && smallC ⟨bx, b_y⟩, .sl .pair (legAll ⟨ax, ay⟩ ⟨bx, b_y⟩), [])
  | _, _ => none⟩
end Lx
/- Rows turned round. -/
set_option linter.unusedVariables false
set_option linter.unusedSimpArgs false
set_option maxRecDepth 4000
namespace Lx
open Go Go.Proofs
/-- slices.Reverse[[][2]int,[2]int] -/
noncomputable def R_slices_Reverse_2_int_2_int : RE Ty El := ⟨Tryz.prog, CP, [], Tryz.f194, 1, [], [(1, [(0, .any), (2, .any), (3, .any)])]⟩
theorem R_slices_Reverse_2_int_2_int_ok : REOK R_slices_Reverse_2_int_2_int g_slices_Reverse_2_int_2_int := ⟨CP_ok, EOKnil, by kernel_rfl, by kernel_rfl⟩
theorem t_slices_Reverse_2_int_2_int (xs : List Cell) : aRun R_slices_Reverse_2_int_2_int 600 false (body0 R_slices_Reverse_2_int_2_int.fn) (initSt R_slices_Reverse_2_int_2_int.fn [.own 0 [] 0] [.row .pair xs 0 0 0 .no]) =
  some (.go (todoAt R_slices_Reverse_2_int_2_int.fn 1) [.own 0 [] 0, .int .i64 (0 : Int), .int .i64 (IntKind.i64.wrap ((↑xs.length : Int) - (1 : Int)))] [.row .pair xs 0 0 0 .no]) := by kernel_rfl
theorem t_slices_Reverse_2_int_2_int_1 (x0 : Int) (x1 : Int) (x2 : List (El .pair)) : aRun R_slices_Reverse_2_int_2_int 600 true (todoAt R_slices_Reverse_2_int_2_int.fn 1) (cutSt R_slices_Reverse_2_int_2_int.fn (liveOf R_slices_Reverse_2_int_2_int (todoAt R_slices_Reverse_2_int_2_int.fn 1)) [.own 0 [] 0, .int .i64 x0, .int .i64 x1] [.row .pair x2 0 0 0 .no]) =
  ifb (decide (x0 < x1)) (ifb (inb x1 x2.length) (ifb (inb x0 x2.length) (ifb (inb x0 x2.length) (ifb (inb x1 (x2.set x0.toNat (x2.getD x1.toNat (R_slices_Reverse_2_int_2_int.C.dflt Ty.pair))).length) (some (.go (todoAt R_slices_Reverse_2_int_2_int.fn 1) [.own 0 [] 0, .int .i64 (IntKind.i64.wrap (x0 + (1 : Int))), .int .i64 (IntKind.i64.wrap (x1 - (1 : Int)))] [.row .pair ((x2.set x0.toNat (x2.getD x1.toNat (R_slices_Reverse_2_int_2_int.C.dflt Ty.pair))).set x1.toNat (x2.getD x0.toNat (R_slices_Reverse_2_int_2_int.C.dflt Ty.pair))) 0 0 0 .no])) (none)) (none)) (none)) (none)) (some (.ret (.tup []) [.row .pair x2 0 0 0 .no])) := by kernel_rfl
theorem l_slices_Reverse_2_int_2_int (xs : List Cell) (hn : xs.length ≤ 1000000) : ∀ (d i : Nat) (ys : List Cell), 2 * (i + d) = xs.length ∨ 2 * (i + d) + 1 = xs.length → ys.length = xs.length →
    (∀ j, j < xs.length → ys[j]? = if j < i ∨ xs.length - i ≤ j then xs[xs.length - 1 - j]? else xs[j]?) →
    Cut R_slices_Reverse_2_int_2_int g_slices_Reverse_2_int_2_int 1 [.own 0 [] 0, .int .i64 (i : Int), .int .i64 ((xs.length : Int) - 1 - i)] [.row .pair ys 0 0 0 .no] (.tup []) [.row .pair xs.reverse 0 0 0 .no] := by
  intro d
  induction d with
  | zero =>
    intro i ys hi hl hinv
    refine Cut.of R_slices_Reverse_2_int_2_int_ok rfl (t_slices_Reverse_2_int_2_int_1 i _ ys) ?_
    rw [decide_eq_false (by omega)]
    have : ys = xs.reverse := by
      apply List.ext_getElem?
      intro j
      by_cases hj : j < xs.length
      · rw [hinv j hj, List.getElem?_reverse hj]
        split
        · rfl
        · have : j = xs.length - 1 - j := by omega
          rw [← this]
      · rw [List.getElem?_eq_none (by omega), List.getElem?_eq_none (by simp; omega)]
    rw [this]
    exact Sat.ret rfl rfl
  | succ d ih =>
    intro i ys hi hl hinv
    refine Cut.of R_slices_Reverse_2_int_2_int_ok rfl (t_slices_Reverse_2_int_2_int_1 i _ ys) ?_
    have hk : ((xs.length : Int) - 1 - i) = ((xs.length - 1 - i : Nat) : Int) := by omega
    rw [hk]
    have hi1 : i < ys.length := by omega
    have hi2 : xs.length - 1 - i < ys.length := by omega
    have w1 : IntKind.wrap .i64 ((i : Int) + 1) = ((i + 1 : Nat) : Int) := by rw [wrap_ok] <;> omega
    have w2 : IntKind.wrap .i64 (((xs.length - 1 - i : Nat) : Int) - 1) = (xs.length : Int) - 1 - ((i + 1 : Nat) : Int) := by rw [wrap_ok] <;> omega
    have i1 : inb (i : Int) ys.length = true := by simp only [inb, Bool.and_eq_true, decide_eq_true_eq]; omega
    have i2 : inb ((xs.length - 1 - i : Nat) : Int) ys.length = true := by simp only [inb, Bool.and_eq_true, decide_eq_true_eq]; omega
    rw [w1, w2, Int.toNat_natCast, Int.toNat_natCast, List.length_set, i1, i2, decide_eq_true (by omega : (i : Int) < ((xs.length - 1 - i : Nat) : Int))]
    simp only [ifb_true]
    refine Sat.cut (ih (i + 1) _ (by omega) (by simp [hl]) fun j hj => ?_)
    have e1 := hinv i (by omega)
    have e2 := hinv (xs.length - 1 - i) (by omega)
    rw [if_neg (by omega)] at e1 e2
    have g1 : ys.getD i (R_slices_Reverse_2_int_2_int.C.dflt .pair) = xs[i] := by
      rw [List.getD_eq_getElem?_getD, e1, List.getElem?_eq_getElem (by omega)]; rfl
    have g2 : ys.getD (xs.length - 1 - i) (R_slices_Reverse_2_int_2_int.C.dflt .pair) = xs[xs.length - 1 - i] := by
      rw [List.getD_eq_getElem?_getD, e2, List.getElem?_eq_getElem (by omega)]; rfl
    rw [g1, g2, List.getElem?_set, List.length_set]
    by_cases h1 : xs.length - 1 - i = j
    · rw [if_pos h1, if_pos (by omega), if_pos (by omega)]
      have : xs.length - 1 - j = i := by omega
      rw [this, List.getElem?_eq_getElem (by omega)]
    · rw [if_neg h1, List.getElem?_set]
      by_cases h2 : i = j
      · rw [if_pos h2, if_pos (by omega), if_pos (by omega)]
        subst h2
        rw [List.getElem?_eq_getElem (by omega)]
      · rw [if_neg h2, hinv j hj]
        by_cases h3 : j < i ∨ xs.length - i ≤ j
        · rw [if_pos h3, if_pos (by omega)]
        · rw [if_neg h3, if_neg (by omega)]
theorem c_slices_Reverse_2_int_2_int (xs : List Cell) (hg : decide (xs.length ≤ 1000000) = true) : CallOK Tryz.prog CP g_slices_Reverse_2_int_2_int [.own 0 [] 0] [.row .pair xs 0 0 0 .no] (.tup []) [.row .pair xs.reverse 0 0 0 .no] := by
  refine CallOK.of R_slices_Reverse_2_int_2_int_ok (by kernel_rfl) (t_slices_Reverse_2_int_2_int xs) ?_
  have hn := of_decide_eq_true hg
  have hw : IntKind.wrap .i64 ((xs.length : Int) - 1) = (xs.length : Int) - 1 - ((0 : Nat) : Int) := by rw [wrap_ok] <;> omega
  rw [hw]
  exact Sat.cut (l_slices_Reverse_2_int_2_int xs hn (xs.length / 2) 0 xs (by omega) rfl fun j hj => by rw [if_neg (by omega)])
theorem E_slices_Reverse_2_int_2_int_ok : EntOK Tryz.prog CP g_slices_Reverse_2_int_2_int E_slices_Reverse_2_int_2_int := by
  refine ⟨⟨Tryz.f194, by kernel_rfl, by kernel_rfl, by kernel_rfl⟩, fun args H res H' h => ?_⟩
  simp only [E_slices_Reverse_2_int_2_int] at h
  split at h
  · simp only [Option.some.injEq, Prod.mk.injEq] at h
    obtain ⟨hg, rfl, rfl⟩ := h
    exact c_slices_Reverse_2_int_2_int _ hg
  · cases h
end Lx
/- Legs, as the program makes them. -/
set_option linter.unusedVariables false
set_option linter.unusedSimpArgs false
set_option maxRecDepth 4000
namespace Lx
open Go Go.Proofs
/-- impl.leg -/
noncomputable def R_impl_leg : RE Ty El := ⟨Tryz.prog, CP, [(g_impl_dist, E_impl_dist), (g_impl_floorDiv, E_impl_floorDiv), (g_slices_Reverse_2_int_2_int, E_slices_Reverse_2_int_2_int)], Tryz.f122, 0, [.ro .pair], [(7, [(0, .any), (1, .any), (2, .any), (3, .any), (9, .any), (10, .any), (11, .any), (12, .any)])]⟩
theorem R_impl_leg_ok : REOK R_impl_leg g_impl_leg := ⟨CP_ok, (TabOK.cons E_impl_dist_ok (TabOK.cons E_impl_floorDiv_ok (TabOK.cons E_slices_Reverse_2_int_2_int_ok EOKnil))), by kernel_rfl, by kernel_rfl⟩
theorem t_impl_leg (ax ay bx b_y : Int) : aRun R_impl_leg 600 false (body0 R_impl_leg.fn) (initSt R_impl_leg.fn [.int .i64 ax, .int .i64 ay, .int .i64 bx, .int .i64 b_y] []) =
  ifb (decide (ax > bx)) (ifb (smallI bx && smallI ax) (ifb (smallI b_y && smallI ay) (some (.go (todoAt R_impl_leg.fn 7) [.int .i64 bx, .int .i64 b_y, .int .i64 ax, .int .i64 ay, .bool true, .int .i64 (max2A (↑(bx - ax).natAbs : Int) (↑(b_y - ay).natAbs : Int)), .own 0 [] 0, .int .i64 (0 : Int)] [.row .pair [] 0 0 0 .no])) (none)) (none)) (ifb (ax == bx) (ifb (decide (ay > b_y)) (ifb (smallI bx && smallI ax) (ifb (smallI b_y && smallI ay) (some (.go (todoAt R_impl_leg.fn 7) [.int .i64 bx, .int .i64 b_y, .int .i64 ax, .int .i64 ay, .bool (decide (ay > b_y)), .int .i64 (max2A (↑(bx - ax).natAbs : Int) (↑(b_y - ay).natAbs : Int)), .own 0 [] 0, .int .i64 (0 : Int)] [.row .pair [] 0 0 0 .no])) (none)) (none)) (ifb (smallI ax && smallI bx) (ifb (smallI ay && smallI b_y) (some (.go (todoAt R_impl_leg.fn 7) [.int .i64 ax, .int .i64 ay, .int .i64 bx, .int .i64 b_y, .bool (decide (ay > b_y)), .int .i64 (max2A (↑(ax - bx).natAbs : Int) (↑(ay - b_y).natAbs : Int)), .own 0 [] 0, .int .i64 (0 : Int)] [.row .pair [] 0 0 0 .no])) (none)) (none))) (ifb (smallI ax && smallI bx) (ifb (smallI ay && smallI b_y) (some (.go (todoAt R_impl_leg.fn 7) [.int .i64 ax, .int .i64 ay, .int .i64 bx, .int .i64 b_y, .bool false, .int .i64 (max2A (↑(ax - bx).natAbs : Int) (↑(ay - b_y).natAbs : Int)), .own 0 [] 0, .int .i64 (0 : Int)] [.row .pair [] 0 0 0 .no])) (none)) (none))) := by kernel_rfl
theorem t_impl_leg_7 (x0 : Int) (x1 : Int) (x2 : Int) (x3 : Int) (x4 : Bool) (x5 : Int) (x6 : Int) (x7 : List (El .pair)) : aRun R_impl_leg 600 true (todoAt R_impl_leg.fn 7) (cutSt R_impl_leg.fn (liveOf R_impl_leg (todoAt R_impl_leg.fn 7)) [.int .i64 x0, .int .i64 x1, .int .i64 x2, .int .i64 x3, .bool x4, .int .i64 x5, .own 0 [] 0, .int .i64 x6] [.row .pair x7 0 0 0 .no]) =
  ifb (decide (x6 ≤ x5)) (ifb (x5 == (0 : Int)) (ifb (decide ((x7.length + [Cell.mk x0 x1].length) * bytesOf' R_impl_leg.P (170 : Nat) ≤ (140737488355328 : Nat))) (ifb x4 (ifb (decide ((x7 ++ [Cell.mk x0 x1]).length ≤ (1000000 : Nat))) (some (.ret (.sl .pair ((x7 ++ [Cell.mk x0 x1]).reverse)) [])) (none)) (some (.ret (.sl .pair (x7 ++ [Cell.mk x0 x1])) []))) (none)) (ifb (smallI (IntKind.i64.wrap (IntKind.i64.wrap (IntKind.i64.wrap ((2 : Int) * x6) * IntKind.i64.wrap (x2 - x0)) + x5)) && (smallI (IntKind.i64.wrap ((2 : Int) * x5)) && decide ((0 : Int) < IntKind.i64.wrap ((2 : Int) * x5)))) (ifb (smallI (IntKind.i64.wrap (IntKind.i64.wrap (IntKind.i64.wrap ((2 : Int) * x6) * IntKind.i64.wrap (x3 - x1)) + x5)) && (smallI (IntKind.i64.wrap ((2 : Int) * x5)) && decide ((0 : Int) < IntKind.i64.wrap ((2 : Int) * x5)))) (ifb (decide ((x7.length + [Cell.mk (IntKind.i64.wrap (x0 + IntKind.i64.wrap (IntKind.i64.wrap (IntKind.i64.wrap ((2 : Int) * x6) * IntKind.i64.wrap (x2 - x0)) + x5) / IntKind.i64.wrap ((2 : Int) * x5))) (IntKind.i64.wrap (x1 + IntKind.i64.wrap (IntKind.i64.wrap (IntKind.i64.wrap ((2 : Int) * x6) * IntKind.i64.wrap (x3 - x1)) + x5) / IntKind.i64.wrap ((2 : Int) * x5)))].length) * bytesOf' R_impl_leg.P (170 : Nat) ≤ (140737488355328 : Nat))) (some (.go (todoAt R_impl_leg.fn 7) [.int .i64 x0, .int .i64 x1, .int .i64 x2, .int .i64 x3, .bool x4, .int .i64 x5, .own 0 [] 0, .int .i64 (IntKind.i64.wrap (x6 + (1 : Int)))] [.row .pair (x7 ++ [Cell.mk (IntKind.i64.wrap (x0 + IntKind.i64.wrap (IntKind.i64.wrap (IntKind.i64.wrap ((2 : Int) * x6) * IntKind.i64.wrap (x2 - x0)) + x5) / IntKind.i64.wrap ((2 : Int) * x5))) (IntKind.i64.wrap (x1 + IntKind.i64.wrap (IntKind.i64.wrap (IntKind.i64.wrap ((2 : Int) * x6) * IntKind.i64.wrap (x3 - x1)) + x5) / IntKind.i64.wrap ((2 : Int) * x5)))]) 0 0 0 .no])) (none)) (none)) (none))) (ifb x4 (ifb (decide (x7.length ≤ (1000000 : Nat))) (some (.ret (.sl .pair x7.reverse) [])) (none)) (some (.ret (.sl .pair x7) []))) := by kernel_rfl
theorem l_impl_leg (a b : Cell) (t : Bool) (ha : smallC a = true) (hb : smallC b = true) : ∀ (d k : Nat), k + d = legN a b + 1 →
    Cut R_impl_leg g_impl_leg 7 [.int .i64 a.x, .int .i64 a.y, .int .i64 b.x, .int .i64 b.y, .bool t, .int .i64 (legN a b : Int), .own 0 [] 0, .int .i64 (k : Int)] [.row .pair ((List.range k).map (legAt a b)) 0 0 0 .no] (.sl .pair (if t then (legF a b).reverse else legF a b)) [] := by
  have hn := legN_le ha hb
  have hbs : bytesOf' R_impl_leg.P 170 = 16 := by kernel_rfl
  simp only [smallC, Bool.and_eq_true, decide_eq_true_eq] at ha hb
  have fin : ∀ zs : List Cell, zs = legF a b → Sat R_impl_leg g_impl_leg (.sl .pair (if t then (legF a b).reverse else legF a b)) [] (ifb t (ifb (decide (zs.length ≤ (1000000 : Nat))) (some (.ret (.sl .pair zs.reverse) [])) (none)) (some (.ret (.sl .pair zs) []))) := fun zs hz => by
    subst hz
    cases t with
    | true =>
      rw [decide_eq_true (by rw [legF, List.length_map, List.length_range]; omega)]
      exact Sat.ret rfl rfl
    | false => exact Sat.ret rfl rfl
  intro d
  induction d with
  | zero =>
    intro k hk
    refine Cut.of R_impl_leg_ok rfl (t_impl_leg_7 a.x a.y b.x b.y t (legN a b) k _) ?_
    rw [decide_eq_false (by omega), ifb_false]
    refine fin _ ?_
    rw [show k = legN a b + 1 by omega]; rfl
  | succ d ih =>
    intro k hk
    refine Cut.of R_impl_leg_ok rfl (t_impl_leg_7 a.x a.y b.x b.y t (legN a b) k _) ?_
    rw [decide_eq_true (by omega : (k : Int) ≤ (legN a b : Int)), ifb_true, hbs]
    have hroom : ∀ x : Cell, decide ((((List.range k).map (legAt a b)).length + [x].length) * 16 ≤ 140737488355328) = true := fun x => decide_eq_true (by simp; omega)
    rw [hroom, hroom]
    by_cases hN : legN a b = 0
    · have hk0 : k = 0 := by omega
      subst hk0
      rw [hN]
      refine fin _ ?_
      rw [legF, hN]
      show [(⟨a.x, a.y⟩ : Cell)] = [legAt a b 0]
      rw [legAt_zero]
    · have e0 : (((legN a b : Nat) : Int) == 0) = false := beq_eq_false_iff_ne.2 (by omega)
      have hw : IntKind.wrap .i64 ((k : Int) + 1) = ((k + 1 : Nat) : Int) := by rw [wrap_ok] <;> omega
      have wx : IntKind.wrap .i64 (b.x - a.x) = b.x - a.x := wrap_ok (by omega) (by omega)
      have wy : IntKind.wrap .i64 (b.y - a.y) = b.y - a.y := wrap_ok (by omega) (by omega)
      have w2 : IntKind.wrap .i64 (2 * (k : Int)) = 2 * (k : Int) := wrap_ok (by omega) (by omega)
      have w3 : IntKind.wrap .i64 (2 * (legN a b : Int)) = 2 * (legN a b : Int) := wrap_ok (by omega) (by omega)
      have prod : ∀ e : Int, e.natAbs ≤ 100 → (2 * (k : Int) * e).natAbs ≤ 202 * 100 := fun e he => by
        rw [Int.natAbs_mul]
        exact Nat.mul_le_mul (by omega) he
      have px := prod (b.x - a.x) (by omega)
      have py := prod (b.y - a.y) (by omega)
      have bx := part_small (d := b.x - a.x) (k := k) (n := (legN a b : Int)) (by omega) (M := 30000) (by omega)
      have by' := part_small (d := b.y - a.y) (k := k) (n := (legN a b : Int)) (by omega) (M := 30000) (by omega)
      have w4 : IntKind.wrap .i64 (2 * (k : Int) * (b.x - a.x)) = 2 * (k : Int) * (b.x - a.x) := wrap_ok (by omega) (by omega)
      have w5 : IntKind.wrap .i64 (2 * (k : Int) * (b.y - a.y)) = 2 * (k : Int) * (b.y - a.y) := wrap_ok (by omega) (by omega)
      have w6 : IntKind.wrap .i64 (2 * (k : Int) * (b.x - a.x) + (legN a b : Int)) = 2 * (k : Int) * (b.x - a.x) + (legN a b : Int) := wrap_ok (by omega) (by omega)
      have w7 : IntKind.wrap .i64 (2 * (k : Int) * (b.y - a.y) + (legN a b : Int)) = 2 * (k : Int) * (b.y - a.y) + (legN a b : Int) := wrap_ok (by omega) (by omega)
      have f1 : (2 * (k : Int) * (b.x - a.x) + (legN a b : Int)) / (2 * (legN a b : Int)) = partF (b.x - a.x) k (legN a b) := rfl
      have f2 : (2 * (k : Int) * (b.y - a.y) + (legN a b : Int)) / (2 * (legN a b : Int)) = partF (b.y - a.y) k (legN a b) := rfl
      have w8 : IntKind.wrap .i64 (a.x + partF (b.x - a.x) k (legN a b)) = a.x + partF (b.x - a.x) k (legN a b) := wrap_ok (by omega) (by omega)
      have w9 : IntKind.wrap .i64 (a.y + partF (b.y - a.y) k (legN a b)) = a.y + partF (b.y - a.y) k (legN a b) := wrap_ok (by omega) (by omega)
      have s1 : smallI (2 * (k : Int) * (b.x - a.x) + (legN a b : Int)) = true := by simp only [smallI, Bool.and_eq_true, decide_eq_true_eq]; omega
      have s2 : smallI (2 * (k : Int) * (b.y - a.y) + (legN a b : Int)) = true := by simp only [smallI, Bool.and_eq_true, decide_eq_true_eq]; omega
      have s3 : smallI (2 * (legN a b : Int)) = true := by simp only [smallI, Bool.and_eq_true, decide_eq_true_eq]; omega
      rw [e0, ifb_false, wx, wy, w2, w3, w4, w5, w6, w7, s1, s2, s3, f1, f2, w8, w9, hw, decide_eq_true (by omega : (0 : Int) < 2 * (legN a b : Int))]
      simp only [ifb_true, Bool.and_self]
      have := ih (k + 1) (by omega)
      rw [List.range_succ, List.map_append] at this
      have e : legAt a b k = ⟨a.x + partF (b.x - a.x) k (legN a b), a.y + partF (b.y - a.y) k (legN a b)⟩ := by unfold legAt; rw [if_neg hN]
      rw [List.map_cons, List.map_nil, e] at this
      exact Sat.cut this
theorem c_impl_leg (ax ay bx b_y : Int) (hg : (smallC ⟨ax, ay⟩ && smallC ⟨bx, b_y⟩) = true) : CallOK Tryz.prog CP g_impl_leg [.int .i64 ax, .int .i64 ay, .int .i64 bx, .int .i64 b_y] [] (.sl .pair (legAll ⟨ax, ay⟩ ⟨bx, b_y⟩)) [] := by
  refine CallOK.of R_impl_leg_ok (by kernel_rfl) (t_impl_leg ax ay bx b_y) ?_
  simp only [Bool.and_eq_true] at hg
  obtain ⟨ha, hb⟩ := hg
  have h1 := l_impl_leg ⟨ax, ay⟩ ⟨bx, b_y⟩ false ha hb _ 0 (Nat.zero_add _)
  have h2 := l_impl_leg ⟨bx, b_y⟩ ⟨ax, ay⟩ true hb ha _ 0 (Nat.zero_add _)
  simp only [smallC, Bool.and_eq_true, decide_eq_true_eq] at ha hb
  have m : ∀ x y : Int, 0 ≤ x → x ≤ 100 → 0 ≤ y → y ≤ 100 → (smallI x && smallI y) = true := fun x y _ _ _ _ => by simp only [smallI, Bool.and_eq_true, decide_eq_true_eq]; omega
  have n1 : max2A ((ax - bx).natAbs : Int) ((ay - b_y).natAbs : Int) = (legN ⟨ax, ay⟩ ⟨bx, b_y⟩ : Int) := by
    unfold max2A legN
    simp only
    split <;> omega
  have n2 : max2A ((bx - ax).natAbs : Int) ((b_y - ay).natAbs : Int) = (legN ⟨bx, b_y⟩ ⟨ax, ay⟩ : Int) := by
    unfold max2A legN
    simp only
    split <;> omega
  rw [m ax bx (by omega) (by omega) (by omega) (by omega), m ay b_y (by omega) (by omega) (by omega) (by omega), m bx ax (by omega) (by omega) (by omega) (by omega), m b_y ay (by omega) (by omega) (by omega) (by omega), n1, n2]
  simp only [ifb_true]
  by_cases c1 : ax > bx
  · rw [decide_eq_true c1]
    rw [show legAll ⟨ax, ay⟩ ⟨bx, b_y⟩ = (legF ⟨bx, b_y⟩ ⟨ax, ay⟩).reverse by rw [legAll, if_pos (by simp [turnedB]; omega)]]
    exact Sat.cut h2
  · rw [decide_eq_false c1]
    by_cases c2 : ax = bx
    · rw [beq_iff_eq.2 c2]
      by_cases c3 : ay > b_y
      · rw [decide_eq_true c3]
        rw [show legAll ⟨ax, ay⟩ ⟨bx, b_y⟩ = (legF ⟨bx, b_y⟩ ⟨ax, ay⟩).reverse by rw [legAll, if_pos (by simp [turnedB]; omega)]]
        exact Sat.cut h2
      · rw [decide_eq_false c3]
        rw [show legAll ⟨ax, ay⟩ ⟨bx, b_y⟩ = legF ⟨ax, ay⟩ ⟨bx, b_y⟩ by rw [legAll, if_neg (by simp [turnedB]; omega)]]
        exact Sat.cut h1
    · rw [beq_eq_false_iff_ne.2 c2]
      rw [show legAll ⟨ax, ay⟩ ⟨bx, b_y⟩ = legF ⟨ax, ay⟩ ⟨bx, b_y⟩ by rw [legAll, if_neg (by simp [turnedB]; omega)]]
      exact Sat.cut h1
theorem E_impl_leg_ok : EntOK Tryz.prog CP g_impl_leg E_impl_leg := by
  refine ⟨⟨Tryz.f122, by kernel_rfl, by kernel_rfl, by kernel_rfl⟩, fun args H res H' h => ?_⟩
  simp only [E_impl_leg] at h
  split at h
  · simp only [Option.some.injEq, Prod.mk.injEq] at h
    obtain ⟨hg, rfl, rfl⟩ := h
    exact c_impl_leg _ _ _ _ hg
  · cases h
end Lx
/- Cells of a route, as the program makes them. -/
set_option linter.unusedVariables false
set_option linter.unusedSimpArgs false
set_option maxRecDepth 4000
namespace Lx
open Go Go.Proofs
/-- impl.PlanCells -/
noncomputable def R_impl_PlanCells : RE Ty El := ⟨Tryz.prog, CP, [(g_impl_PlanBaseOk, E_impl_PlanBaseOk), (g_impl_PlanBase_route, E_impl_PlanBase_route), (g_impl_leg, E_impl_leg)], Tryz.f36, 0, [.ro .cell, .any], [(8, [(6, .any), (8, .any), (9, .any)]), (11, [(6, .any), (8, .any), (9, .any), (62, .any), (63, .any), (64, .any)])]⟩
theorem R_impl_PlanCells_ok : REOK R_impl_PlanCells g_impl_PlanCells := ⟨CP_ok, (TabOK.cons E_impl_PlanBaseOk_ok (TabOK.cons E_impl_PlanBase_route_ok (TabOK.cons E_impl_leg_ok EOKnil))), by kernel_rfl, by kernel_rfl⟩
theorem t_impl_PlanCells (ks : List Kind) (ps : List Point) (w : List Str) : aRun R_impl_PlanCells 600 false (body0 R_impl_PlanCells.fn) (initSt R_impl_PlanCells.fn [.agg [.sl .kind ks, .sl .point ps], .sl .str w] []) =
  ifb (!baseOk ks ps) (some (.ret (.tup [.sl .cell [], .bool false]) [])) (ifb (decide (ps.length < (1000000000 : Nat))) (ifb (!routeOk ps w) (some (.ret (.tup [.sl .cell [], .bool false]) [])) (ifb (inb (0 : Int) (routeP ps w).length) (ifb (inb (0 : Int) (routeP ps w).length) (some (.go (todoAt R_impl_PlanCells.fn 8) [.sl .point (routeP ps w), .own 0 [] 0, .int .i64 (1 : Int)] [.row .cell [Cell.mk ((routeP ps w).getD (Int.toNat (0 : Int)) (R_impl_PlanCells.C.dflt Ty.point)).x ((routeP ps w).getD (Int.toNat (0 : Int)) (R_impl_PlanCells.C.dflt Ty.point)).y] 0 0 0 .no])) (none)) (none))) (none)) := by kernel_rfl
theorem t_impl_PlanCells_8 (x0 : List (El .point)) (x1 : Int) (x2 : List (El .cell)) : aRun R_impl_PlanCells 600 true (todoAt R_impl_PlanCells.fn 8) (cutSt R_impl_PlanCells.fn (liveOf R_impl_PlanCells (todoAt R_impl_PlanCells.fn 8)) [.sl .point x0, .own 0 [] 0, .int .i64 x1] [.row .cell x2 0 0 0 .no]) =
  ifb (decide (x1 < (↑x0.length : Int))) (ifb (inb (IntKind.i64.wrap (x1 - (1 : Int))) x0.length) (ifb (inb (IntKind.i64.wrap (x1 - (1 : Int))) x0.length) (ifb (inb x1 x0.length) (ifb (inb x1 x0.length) (ifb (smallC (Cell.mk (x0.getD (IntKind.i64.wrap (x1 - (1 : Int))).toNat (R_impl_PlanCells.C.dflt Ty.point)).x (x0.getD (IntKind.i64.wrap (x1 - (1 : Int))).toNat (R_impl_PlanCells.C.dflt Ty.point)).y) && smallC (Cell.mk (x0.getD x1.toNat (R_impl_PlanCells.C.dflt Ty.point)).x (x0.getD x1.toNat (R_impl_PlanCells.C.dflt Ty.point)).y)) (ifb (decide ((0 : Int) ≤ (1 : Int)) && (decide ((1 : Int) ≤ (↑(legAll (Cell.mk (x0.getD (IntKind.i64.wrap (x1 - (1 : Int))).toNat (R_impl_PlanCells.C.dflt Ty.point)).x (x0.getD (IntKind.i64.wrap (x1 - (1 : Int))).toNat (R_impl_PlanCells.C.dflt Ty.point)).y) (Cell.mk (x0.getD x1.toNat (R_impl_PlanCells.C.dflt Ty.point)).x (x0.getD x1.toNat (R_impl_PlanCells.C.dflt Ty.point)).y)).length : Int)) && decide ((↑(legAll (Cell.mk (x0.getD (IntKind.i64.wrap (x1 - (1 : Int))).toNat (R_impl_PlanCells.C.dflt Ty.point)).x (x0.getD (IntKind.i64.wrap (x1 - (1 : Int))).toNat (R_impl_PlanCells.C.dflt Ty.point)).y) (Cell.mk (x0.getD x1.toNat (R_impl_PlanCells.C.dflt Ty.point)).x (x0.getD x1.toNat (R_impl_PlanCells.C.dflt Ty.point)).y)).length : Int) ≤ (↑(legAll (Cell.mk (x0.getD (IntKind.i64.wrap (x1 - (1 : Int))).toNat (R_impl_PlanCells.C.dflt Ty.point)).x (x0.getD (IntKind.i64.wrap (x1 - (1 : Int))).toNat (R_impl_PlanCells.C.dflt Ty.point)).y) (Cell.mk (x0.getD x1.toNat (R_impl_PlanCells.C.dflt Ty.point)).x (x0.getD x1.toNat (R_impl_PlanCells.C.dflt Ty.point)).y)).length : Int)))) (some (.go (todoAt R_impl_PlanCells.fn 11) [.sl .point x0, .own 0 [] 0, .int .i64 x1, .sl .pair (List.take ((↑(legAll (Cell.mk (x0.getD (IntKind.i64.wrap (x1 - (1 : Int))).toNat (R_impl_PlanCells.C.dflt Ty.point)).x (x0.getD (IntKind.i64.wrap (x1 - (1 : Int))).toNat (R_impl_PlanCells.C.dflt Ty.point)).y) (Cell.mk (x0.getD x1.toNat (R_impl_PlanCells.C.dflt Ty.point)).x (x0.getD x1.toNat (R_impl_PlanCells.C.dflt Ty.point)).y)).length : Int).toNat - Int.toNat (1 : Int)) (List.drop (Int.toNat (1 : Int)) (legAll (Cell.mk (x0.getD (IntKind.i64.wrap (x1 - (1 : Int))).toNat (R_impl_PlanCells.C.dflt Ty.point)).x (x0.getD (IntKind.i64.wrap (x1 - (1 : Int))).toNat (R_impl_PlanCells.C.dflt Ty.point)).y) (Cell.mk (x0.getD x1.toNat (R_impl_PlanCells.C.dflt Ty.point)).x (x0.getD x1.toNat (R_impl_PlanCells.C.dflt Ty.point)).y)))), .int .i64 ((↑(List.take ((↑(legAll (Cell.mk (x0.getD (IntKind.i64.wrap (x1 - (1 : Int))).toNat (R_impl_PlanCells.C.dflt Ty.point)).x (x0.getD (IntKind.i64.wrap (x1 - (1 : Int))).toNat (R_impl_PlanCells.C.dflt Ty.point)).y) (Cell.mk (x0.getD x1.toNat (R_impl_PlanCells.C.dflt Ty.point)).x (x0.getD x1.toNat (R_impl_PlanCells.C.dflt Ty.point)).y)).length : Int).toNat - Int.toNat (1 : Int)) (List.drop (Int.toNat (1 : Int)) (legAll (Cell.mk (x0.getD (IntKind.i64.wrap (x1 - (1 : Int))).toNat (R_impl_PlanCells.C.dflt Ty.point)).x (x0.getD (IntKind.i64.wrap (x1 - (1 : Int))).toNat (R_impl_PlanCells.C.dflt Ty.point)).y) (Cell.mk (x0.getD x1.toNat (R_impl_PlanCells.C.dflt Ty.point)).x (x0.getD x1.toNat (R_impl_PlanCells.C.dflt Ty.point)).y)))).length : Int)), .int .i64 (0 : Int)] [.row .cell x2 0 0 0 .no])) (none)) (none)) (none)) (none)) (none)) (none)) (ifb (decide ((↑x2.length : Int) > (40 : Int))) (some (.ret (.tup [.sl .cell [], .bool false]) [])) (some (.ret (.tup [.sl .cell x2, .bool true]) []))) := by kernel_rfl
theorem t_impl_PlanCells_11 (x0 : List (El .point)) (x1 : Int) (x2 : List (El .pair)) (x3 : Int) (x4 : Int) (x5 : List (El .cell)) : aRun R_impl_PlanCells 600 true (todoAt R_impl_PlanCells.fn 11) (cutSt R_impl_PlanCells.fn (liveOf R_impl_PlanCells (todoAt R_impl_PlanCells.fn 11)) [.sl .point x0, .own 0 [] 0, .int .i64 x1, .sl .pair x2, .int .i64 x3, .int .i64 x4] [.row .cell x5 0 0 0 .no]) =
  ifb (decide (x4 < x3)) (ifb (inb x4 x2.length) (ifb (decide ((x5.length + [x2.getD x4.toNat (R_impl_PlanCells.C.dflt Ty.pair)].length) * bytesOf' R_impl_PlanCells.P (72 : Nat) ≤ (140737488355328 : Nat))) (some (.go (todoAt R_impl_PlanCells.fn 11) [.sl .point x0, .own 0 [] 0, .int .i64 x1, .sl .pair x2, .int .i64 x3, .int .i64 (IntKind.i64.wrap (x4 + (1 : Int)))] [.row .cell (x5 ++ [x2.getD x4.toNat (R_impl_PlanCells.C.dflt Ty.pair)]) 0 0 0 .no])) (none)) (none)) (some (.go (todoAt R_impl_PlanCells.fn 8) [.sl .point x0, .own 0 [] 0, .int .i64 (IntKind.i64.wrap (x1 + (1 : Int)))] [.row .cell x5 0 0 0 .no])) := by kernel_rfl
theorem li_impl_PlanCells (pts : List Point) (i : Nat) (hi : i < 1000) (cs : List Cell) (hcs : cs.length ≤ 100) (acc : List Cell) (hacc : acc.length ≤ 10000) (res : V) (h8 : Cut R_impl_PlanCells g_impl_PlanCells 8 [.sl .point pts, .own 0 [] 0, .int .i64 ((i + 1 : Nat) : Int)] [.row .cell (acc ++ cs) 0 0 0 .no] res []) : ∀ (d k : Nat), k + d = cs.length →
    Cut R_impl_PlanCells g_impl_PlanCells 11 [.sl .point pts, .own 0 [] 0, .int .i64 (i : Int), .sl .pair cs, .int .i64 (cs.length : Int), .int .i64 (k : Int)] [.row .cell (acc ++ cs.take k) 0 0 0 .no] res [] := by
  have hbs : bytesOf' R_impl_PlanCells.P 72 = 16 := by kernel_rfl
  have hwi : IntKind.wrap .i64 ((i : Int) + 1) = ((i + 1 : Nat) : Int) := by rw [wrap_ok] <;> omega
  intro d
  induction d with
  | zero =>
    intro k hk
    refine Cut.of R_impl_PlanCells_ok rfl (t_impl_PlanCells_11 pts i cs cs.length k _) ?_
    rw [decide_eq_false (by omega), hwi, List.take_of_length_le (by omega)]
    exact Sat.cut h8
  | succ d ih =>
    intro k hk
    refine Cut.of R_impl_PlanCells_ok rfl (t_impl_PlanCells_11 pts i cs cs.length k _) ?_
    have hlt : k < cs.length := by omega
    have hw : IntKind.wrap .i64 ((k : Int) + 1) = ((k + 1 : Nat) : Int) := by rw [wrap_ok] <;> omega
    have hw1 : IntKind.wrap .i64 ((k : Int) - 1) = (k : Int) - 1 := by rw [wrap_ok] <;> omega
    have hd : cs.drop k = cs[k] :: cs.drop (k + 1) := List.drop_eq_getElem_cons hlt
    have hx : cs.getD (k : Int).toNat (R_impl_PlanCells.C.dflt .pair) = cs[k] := by simp [hlt]
    have hin : inb (k : Int) cs.length = true := by simp only [inb, Bool.and_eq_true, decide_eq_true_eq]; omega
    have hlo : decide ((k : Int) < (cs.length : Int)) = true := decide_eq_true (by omega)
    have htk := List.take_succ_eq_append_getElem hlt
    have hl : (cs.take (k + 1)).getLast? = some cs[k] := by rw [List.take_succ_eq_append_getElem hlt, List.getLast?_concat]
    have hroom : decide (((acc ++ cs.take k).length + [cs[k]].length) * 16 ≤ 140737488355328) = true := decide_eq_true (by simp; omega)
    rw [hlo, hin, hx, hw, hbs, hroom]
    have := ih (k + 1) (by omega)
    rw [htk, ← List.append_assoc] at this
    exact Sat.cut this
theorem l_impl_PlanCells (ks : List Kind) (ps : List Point) (w : List Str) (hb : baseOk ks ps = true) (hr : routeOk ps w = true) : ∀ (d i : Nat), i + d = w.length → 1 ≤ i → (cellsAll ps w (i - 1)).length ≤ 1 + 200 * i →
    Cut R_impl_PlanCells g_impl_PlanCells 8 [.sl .point (w.map (ptOf ps)), .own 0 [] 0, .int .i64 (i : Int)] [.row .cell (cellsAll ps w (i - 1)) 0 0 0 .no] (cellsV (cellsF ks ps w)) [] := by
  obtain ⟨hw2, hw8, hall⟩ := routeOk_inv hr
  intro d
  induction d with
  | zero =>
    intro i hi h1 hlen
    refine Cut.of R_impl_PlanCells_ok rfl (t_impl_PlanCells_8 (w.map (ptOf ps)) i _) ?_
    rw [List.length_map, decide_eq_false (by omega), ifb_false]
    have e : w.length - 1 = i - 1 := by omega
    by_cases h40 : (cellsAll ps w (i - 1)).length ≤ 40
    · rw [decide_eq_false (by omega)]
      refine Sat.ret ?_ rfl
      rw [cellsF, if_pos ⟨hb, hr, by rw [e]; exact h40⟩, e]; rfl
    · rw [decide_eq_true (by omega)]
      refine Sat.ret ?_ rfl
      rw [cellsF, if_neg (fun h => h40 (by rw [← e]; exact h.2.2))]; rfl
  | succ d ih =>
    intro i hi h1 hlen
    refine Cut.of R_impl_PlanCells_ok rfl (t_impl_PlanCells_8 (w.map (ptOf ps)) i _) ?_
    have hlt : i < w.length := by omega
    have hlt1 : i - 1 < w.length := by omega
    have hw1 : IntKind.wrap .i64 ((i : Int) - 1) = (i : Int) - 1 := by rw [wrap_ok] <;> omega
    have e1 : ((i : Int) - 1).toNat = i - 1 := by omega
    have e2 : (i : Int).toNat = i := by omega
    have i0 : inb ((i : Int) - 1) w.length = true := by simp only [inb, Bool.and_eq_true, decide_eq_true_eq]; omega
    have i1 : inb (i : Int) w.length = true := by simp only [inb, Bool.and_eq_true, decide_eq_true_eq]; omega
    have m0 : w.getD (i - 1) [] ∈ w := by rw [List.getD_eq_getElem?_getD, List.getElem?_eq_getElem hlt1]; exact List.getElem_mem hlt1
    have m1 : w.getD i [] ∈ w := by rw [List.getD_eq_getElem?_getD, List.getElem?_eq_getElem hlt]; exact List.getElem_mem hlt
    have hp : ∀ j, j < w.length → (w.map (ptOf ps)).getD j (R_impl_PlanCells.C.dflt Ty.point) = ptOf ps (w.getD j []) := fun j hj => by simp [hj]
    have hc : ∀ n, Cell.mk (ptOf ps n).x (ptOf ps n).y = cellOf ps n := fun n => rfl
    have hl := legAll_len (a := cellOf ps (w.getD (i - 1) [])) (b := cellOf ps (w.getD i []))
    have hln := legN_le (cell_small hb (hall _ m0)) (cell_small hb (hall _ m1))
    have ht : (legAll (cellOf ps (w.getD (i - 1) [])) (cellOf ps (w.getD i []))).drop 1 = tailC ps w (i - 1) := by
      unfold tailC
      rw [show i - 1 + 1 = i by omega]
    have htl : (tailC ps w (i - 1)).length ≤ 100 := by rw [← ht, List.length_drop]; omega
    have e4 : (((legAll (cellOf ps (w.getD (i - 1) [])) (cellOf ps (w.getD i []))).drop (Int.toNat 1)).take (((legAll (cellOf ps (w.getD (i - 1) [])) (cellOf ps (w.getD i []))).length : Int).toNat - Int.toNat 1)) = tailC ps w (i - 1) := by
      rw [show (Int.toNat 1) = 1 from rfl, ht]
      exact List.take_of_length_le (by rw [← ht, List.length_drop]; omega)
    rw [List.length_map, hw1, e1, e2, i0, i1, hp _ hlt1, hp _ hlt, hc, hc, cell_small hb (hall _ m0), cell_small hb (hall _ m1), decide_eq_true (by omega : (i : Int) < (w.length : Int)), e4, decide_eq_true (by omega : (1 : Int) ≤ ((legAll (cellOf ps (w.getD (i - 1) [])) (cellOf ps (w.getD i []))).length : Int)), decide_eq_true (Int.le_refl ((legAll (cellOf ps (w.getD (i - 1) [])) (cellOf ps (w.getD i []))).length : Int))]
    have h8 := ih (i + 1) (by omega) (by omega) (by
      rw [show i + 1 - 1 = (i - 1) + 1 by omega, cellsAll_succ, List.length_append]; omega)
    rw [show i + 1 - 1 = (i - 1) + 1 by omega, cellsAll_succ] at h8
    have := li_impl_PlanCells (w.map (ptOf ps)) i (by omega) (tailC ps w (i - 1)) htl (cellsAll ps w (i - 1)) (by omega) _ h8 _ 0 (Nat.zero_add _)
    rw [List.take_zero, List.append_nil] at this
    exact Sat.cut this
theorem c_impl_PlanCells (ks : List Kind) (ps : List Point) (w : List Str) (hg : decide (ps.length < 1000000000) = true) : CallOK Tryz.prog CP g_impl_PlanCells [.agg [.sl .kind ks, .sl .point ps], .sl .str w] [] (cellsV (cellsF ks ps w)) [] := by
  refine CallOK.of R_impl_PlanCells_ok (by kernel_rfl) (t_impl_PlanCells ks ps w) ?_
  have no : cellsF ks ps w = none → Sat R_impl_PlanCells g_impl_PlanCells (cellsV (cellsF ks ps w)) [] (some (.ret (.tup [.sl .cell [], .bool false]) [])) := fun h => by
    rw [h]; exact Sat.ret rfl rfl
  rw [hg]
  cases hb : baseOk ks ps with
  | false => exact no (by rw [cellsF, hb]; simp)
  | true =>
    cases hr : routeOk ps w with
    | false => exact no (by rw [cellsF, hr]; simp)
    | true =>
      obtain ⟨hw2, hw8, hall⟩ := routeOk_inv hr
      have hrp : routeP ps w = w.map (ptOf ps) := by rw [routeP, if_pos hr]
      have i0 : inb (0 : Int) w.length = true := by simp only [inb, Bool.and_eq_true, decide_eq_true_eq]; omega
      have hlt : 0 < w.length := by omega
      have hp : (w.map (ptOf ps)).getD (Int.toNat 0) (R_impl_PlanCells.C.dflt Ty.point) = ptOf ps (w.getD 0 []) := by
        show (w.map (ptOf ps)).getD 0 _ = _
        simp [hlt]
      have := l_impl_PlanCells ks ps w hb hr (w.length - 1) 1 (by omega) (Nat.le_refl _) (by simp [cellsAll])
      rw [hrp, List.length_map, i0, hp]
      exact Sat.cut this
theorem E_impl_PlanCells_ok : EntOK Tryz.prog CP g_impl_PlanCells E_impl_PlanCells := by
  refine ⟨⟨Tryz.f36, by kernel_rfl, by kernel_rfl, by kernel_rfl⟩, fun args H res H' h => ?_⟩
  simp only [E_impl_PlanCells, E_spec_PlanCells] at h
  split at h
  · simp only [Option.some.injEq, Prod.mk.injEq] at h
    obtain ⟨hg, rfl, rfl⟩ := h
    exact c_impl_PlanCells _ _ _ hg
  · cases h
end Lx
/- Meanings: paths. -/
set_option linter.unusedVariables false
set_option linter.unusedSimpArgs false
namespace Lx
open Go Go.Proofs
def lvl (f : Flight) (n : Nat) (k : Nat) : Int := (levelsF n f.level).getD k 0
def stepAt (f : Flight) (cs : List Cell) (k : Nat) : Stp :=
  ⟨(cs.getD k ⟨0, 0⟩).x, (cs.getD k ⟨0, 0⟩).y, min (lvl f cs.length (k - 1)) (lvl f cs.length k), max (lvl f cs.length (k - 1)) (lvl f cs.length k), f.frm + k * f.kind.quick, f.by_ + k * f.kind.slow⟩
theorem levels_len {n : Nat} {l : Int} (h1 : 1 ≤ n) (h40 : n ≤ 40) (h : inR l 1 6 = true) : (levelsF n l).length = n := by
  have hn : inR (n : Int) 1 40 = true := by simp only [inR, Bool.and_eq_true, decide_eq_true_eq]; omega
  unfold levelsF
  rw [if_pos ⟨hn, h⟩]
  simp
theorem fl_ok {ks : List Kind} {ps : List Point} {es : List Entry} {n : Str} {f : Flight} (h : stB ks ps es n = some f) : 0 ≤ f.frm ∧ f.frm ≤ f.by_ ∧ f.by_ ≤ 10000 ∧ 1 ≤ f.kind.quick ∧ f.kind.quick ≤ f.kind.slow ∧ f.kind.slow ≤ 50 ∧ inR f.level 1 6 = true := by
  unfold stB at h
  split at h
  · rename_i hc
    obtain ⟨hb, h0⟩ := hc
    obtain ⟨hbase, _, hall⟩ := book_ents hb
    have hok := hall _ (ent_mem h0)
    generalize es.getD (entIx es n).toNat (dfltP .entry) = e at *
    unfold stE at h
    split at h
    · cases h
    · rename_i hv
      split at h
      · cases h
      · simp only [Option.some.injEq] at h
        subst h
        have h1 := val_fits hok (w := 1) (fun e => hv (.inl e))
        have h2 := val_fits hok (w := 2) (fun e => hv (.inr (.inl e)))
        have h3 := val_fits hok (w := 3) (fun e => hv (.inr (.inr (.inl e))))
        have ht := fits2 h2
        have hk := fits1 h1
        have hlev : inR (numF (valF e.fields 3)) 1 6 = true := by simpa [fitsV] using h3
        have hin := kind_in hk
        simp only [inb, Bool.and_eq_true, decide_eq_true_eq] at hin
        have hlt : (kindIx ks (valF e.fields 1)).toNat < ks.length := by omega
        have hm : ks.getD (kindIx ks (valF e.fields 1)).toNat (dfltP .kind) ∈ ks := by
          rw [List.getD_eq_getElem?_getD, List.getElem?_eq_getElem hlt]; exact List.getElem_mem hlt
        simp only [baseOk, Bool.and_eq_true] at hbase
        have hko := kinds_ok hbase.2.2.1 _ hm
        simp only [Kind.ok, Bool.and_eq_true, decide_eq_true_eq] at hko
        have htm : 0 ≤ numF ((cutS 32 (valF e.fields 2)).getD 0 []) ∧ numF ((cutS 32 (valF e.fields 2)).getD 0 []) ≤ numF ((cutS 32 (valF e.fields 2)).getD 1 []) ∧ numF ((cutS 32 (valF e.fields 2)).getD 1 []) ≤ 10000 := by
          match hw : cutS 32 (valF e.fields 2), ht with
          | [a, b], ht =>
            simp only [timeOk, inR, Bool.and_eq_true, decide_eq_true_eq] at ht
            exact ⟨ht.1, ht.2.1, ht.2.2⟩
        exact ⟨htm.1, htm.2.1, htm.2.2, hko.2.1, hko.2.2.1, hko.2.2.2, hlev⟩
  · cases h
structure PathR where
  steps : List Stp
  frm : Int
  by_ : Int
  code : Int
def pathF (ks : List Kind) (ps : List Point) (es : List Entry) (n : Str) : PathR :=
  if bookOk ks ps es = true then match stB ks ps es n with
    | none => ⟨[], 0, 0, 2⟩
    | some f => match cellsF ks ps f.route with
      | none => ⟨[], 0, 0, 3⟩
      | some cs => if f.by_ + cs.length * f.kind.slow > 10000 then ⟨[], 0, 0, 4⟩ else ⟨(List.range cs.length).map (stepAt f cs), f.frm + cs.length * f.kind.quick, f.by_ + cs.length * f.kind.slow, 0⟩
  else ⟨[], 0, 0, 1⟩
def pathV (r : PathR) : V := .tup [.agg [.sl .step r.steps, .int .i64 r.frm, .int .i64 r.by_], .int .i64 r.code]
def E_spec_PlanPathOf : Ent Ty El := ⟨[.ro, .ro], 0, fun a h => match a, h with
  | [.agg [.sl .kind ks, .sl .point ps, .sl .entry es], .str n], [] => some (szB es && decide (es.length < 1000000000), pathV (pathF ks ps es n), [])
  | _, _ => none⟩
def E_impl_PlanPathOf : Ent Ty El := E_spec_PlanPathOf
end Lx
/- Meanings: a path in its own memory; marks. -/
set_option linter.unusedVariables false
set_option linter.unusedSimpArgs false
namespace Lx
open Go Go.Proofs
theorem steps_len2 {ks : List Kind} {ps : List Point} {es : List Entry} {n : Str} : (pathF ks ps es n).steps.length ≤ 40 := by
  unfold pathF
  split
  · split
    · simp
    · rename_i f hf
      split
      · simp
      · rename_i cs hc
        split
        · simp
        · unfold cellsF at hc
          split at hc
          · rename_i hx
            simp only [Option.some.injEq] at hc
            subst hc
            simpa using hx.2.2
          · cases hc
  · simp
def pathVo (r : PathR) : V := .tup [.agg [.own 0 [] 0, .int .i64 r.frm, .int .i64 r.by_], .int .i64 r.code]
def pathHo (r : PathR) : List O := [.row .step r.steps 0 0 0 .no]
def E_spec_PlanPathOfo : Ent Ty El := ⟨[.ro, .ro], 1, fun a h => match a, h with
  | [.agg [.sl .kind ks, .sl .point ps, .sl .entry es], .str n], [] => some (szB es && decide (es.length < 1000000000), pathVo (pathF ks ps es n), pathHo (pathF ks ps es n))
  | _, _ => none⟩
def E_impl_PlanPathOfo : Ent Ty El := E_spec_PlanPathOfo
end Lx
/- Paths, each in memory of its own. -/
set_option linter.unusedVariables false
set_option linter.unusedSimpArgs false
set_option maxRecDepth 4000
namespace Lx
open Go Go.Proofs
/-- impl.PlanPathOf -/
noncomputable def R_impl_PlanPathOfo : RE Ty El := ⟨Tryz.prog, CP, [(g_impl_PlanBookOk, E_impl_PlanBookOk), (g_impl_PlanBook_stands, E_impl_PlanBook_stands), (g_impl_PlanCells, E_impl_PlanCells), (g_impl_PlanLevels, E_impl_PlanLevels)], Tryz.f17, 0, [.agg [.own .step, .any, .any], .any], [(15, [(4, .box [.own .step]), (6, .box [.own .step]), (11, .box [.own .step]), (12, .box [.own .step]), (67, .box [.own .step]), (68, .box [.own .step]), (69, .box [.own .step])])]⟩
theorem R_impl_PlanPathOfo_ok : REOK R_impl_PlanPathOfo g_impl_PlanPathOf := ⟨CP_ok, (TabOK.cons E_impl_PlanBookOk_ok (TabOK.cons E_impl_PlanBook_stands_ok (TabOK.cons E_impl_PlanCells_ok (TabOK.cons E_impl_PlanLevels_ok EOKnil)))), by kernel_rfl, by kernel_rfl⟩
theorem t_impl_PlanPathOfo (ks : List Kind) (ps : List Point) (es : List Entry) (n : Str) : aRun R_impl_PlanPathOfo 600 false (body0 R_impl_PlanPathOfo.fn) (initSt R_impl_PlanPathOfo.fn [.agg [.sl .kind ks, .sl .point ps, .sl .entry es], .str n] []) =
  ifb (szB es) (ifb (!bookOk ks ps es) (some (.ret (.tup [.agg [.own 0 [] 0, .int .i64 (0 : Int), .int .i64 (0 : Int)], .int .i64 (1 : Int)]) [.row .step [] 0 0 0 .no])) (ifb (szB es && bookOk ks ps es) (ifb (!(stB ks ps es n).isSome) (some (.ret (.tup [.agg [.own 0 [] 0, .int .i64 (0 : Int), .int .i64 (0 : Int)], .int .i64 (2 : Int)]) [.row .step [] 0 0 0 .no])) (ifb (decide (ps.length < (1000000000 : Nat))) (ifb (!(cellsF ks ps ((stB ks ps es n).getD fl0).route).isSome) (some (.ret (.tup [.agg [.own 0 [] 0, .int .i64 (0 : Int), .int .i64 (0 : Int)], .int .i64 (3 : Int)]) [.row .step [] 0 0 0 .no])) (ifb (decide (IntKind.i64.wrap (((stB ks ps es n).getD fl0).by_ + IntKind.i64.wrap ((↑((cellsF ks ps ((stB ks ps es n).getD fl0).route).getD []).length : Int) * ((stB ks ps es n).getD fl0).kind.slow)) > (10000 : Int))) (some (.ret (.tup [.agg [.own 0 [] 0, .int .i64 (0 : Int), .int .i64 (0 : Int)], .int .i64 (4 : Int)]) [.row .step [] 0 0 0 .no])) (some (.go (todoAt R_impl_PlanPathOfo.fn 15) [.ptr 0 0, .ptr 2 0, .ptr 3 0, .sl .int (levelsF (↑((cellsF ks ps ((stB ks ps es n).getD fl0).route).getD []).length : Int) ((stB ks ps es n).getD fl0).level), .sl .cell ((cellsF ks ps ((stB ks ps es n).getD fl0).route).getD []), .int .i64 ((↑((cellsF ks ps ((stB ks ps es n).getD fl0).route).getD []).length : Int)), .int .i64 (0 : Int)] [.box [.own 1 [] 0, .int .i64 (0 : Int), .int .i64 (0 : Int)], .row .step [] 0 0 0 .no, .box [.str (((stB ks ps es n).getD fl0).name), .str (((stB ks ps es n).getD fl0).kind.name), .int .i64 (((stB ks ps es n).getD fl0).kind.quick), .int .i64 (((stB ks ps es n).getD fl0).kind.slow), .int .i64 (((stB ks ps es n).getD fl0).frm), .int .i64 (((stB ks ps es n).getD fl0).by_), .int .i64 (((stB ks ps es n).getD fl0).level), .sl .str (((stB ks ps es n).getD fl0).route)], .box [.own 4 [] 0, .int .i64 (IntKind.i64.wrap (((stB ks ps es n).getD fl0).frm + IntKind.i64.wrap ((↑((cellsF ks ps ((stB ks ps es n).getD fl0).route).getD []).length : Int) * ((stB ks ps es n).getD fl0).kind.quick))), .int .i64 (IntKind.i64.wrap (((stB ks ps es n).getD fl0).by_ + IntKind.i64.wrap ((↑((cellsF ks ps ((stB ks ps es n).getD fl0).route).getD []).length : Int) * ((stB ks ps es n).getD fl0).kind.slow)))], .row .step [] 0 0 0 .no])))) (none))) (none))) (none) := by kernel_rfl
theorem t_impl_PlanPathOfo_15 (x0 : List (El .int)) (x1 : List (El .cell)) (x2 : Int) (x3 : Int) (x4 : Int) (x5 : Int) (x6 : List (El .step)) (x7 : Str) (x8 : Str) (x9 : Int) (x10 : Int) (x11 : Int) (x12 : Int) (x13 : Int) (x14 : List (El .str)) (x15 : Int) (x16 : Int) (x17 : List (El .step)) : aRun R_impl_PlanPathOfo 600 true (todoAt R_impl_PlanPathOfo.fn 15) (cutSt R_impl_PlanPathOfo.fn (liveOf R_impl_PlanPathOfo (todoAt R_impl_PlanPathOfo.fn 15)) [.ptr 0 0, .ptr 2 0, .ptr 3 0, .sl .int x0, .sl .cell x1, .int .i64 x2, .int .i64 x3] [.box [.own 1 [] 0, .int .i64 x4, .int .i64 x5], .row .step x6 0 0 0 .no, .box [.str x7, .str x8, .int .i64 x9, .int .i64 x10, .int .i64 x11, .int .i64 x12, .int .i64 x13, .sl .str x14], .box [.own 4 [] 0, .int .i64 x15, .int .i64 x16], .row .step x17 0 0 0 .no]) =
  ifb (decide (x3 < x2)) (ifb (inb x3 x1.length) (ifb (inb (max2A (IntKind.i64.wrap (x3 - (1 : Int))) (0 : Int)) x0.length) (ifb (inb x3 x0.length) (ifb (inb x3 x0.length) (ifb (decide ((x17.length + [Stp.mk (x1.getD x3.toNat (R_impl_PlanPathOfo.C.dflt Ty.cell)).x (x1.getD x3.toNat (R_impl_PlanPathOfo.C.dflt Ty.cell)).y (min2A (x0.getD (max2A (IntKind.i64.wrap (x3 - (1 : Int))) (0 : Int)).toNat (R_impl_PlanPathOfo.C.dflt Ty.int)) (x0.getD x3.toNat (R_impl_PlanPathOfo.C.dflt Ty.int))) (max2A (x0.getD (max2A (IntKind.i64.wrap (x3 - (1 : Int))) (0 : Int)).toNat (R_impl_PlanPathOfo.C.dflt Ty.int)) (x0.getD x3.toNat (R_impl_PlanPathOfo.C.dflt Ty.int))) (IntKind.i64.wrap (x11 + IntKind.i64.wrap (x3 * x9))) (IntKind.i64.wrap (x12 + IntKind.i64.wrap (x3 * x10)))].length) * bytesOf' R_impl_PlanPathOfo.P (47 : Nat) ≤ (140737488355328 : Nat))) (some (.go (todoAt R_impl_PlanPathOfo.fn 15) [.ptr 0 0, .ptr 2 0, .ptr 3 0, .sl .int x0, .sl .cell x1, .int .i64 x2, .int .i64 (IntKind.i64.wrap (x3 + (1 : Int)))] [.box [.own 1 [] 0, .int .i64 x4, .int .i64 x5], .row .step x6 0 0 0 .no, .box [.str x7, .str x8, .int .i64 x9, .int .i64 x10, .int .i64 x11, .int .i64 x12, .int .i64 x13, .sl .str x14], .box [.own 4 [] 0, .int .i64 x15, .int .i64 x16], .row .step (x17 ++ [Stp.mk (x1.getD x3.toNat (R_impl_PlanPathOfo.C.dflt Ty.cell)).x (x1.getD x3.toNat (R_impl_PlanPathOfo.C.dflt Ty.cell)).y (min2A (x0.getD (max2A (IntKind.i64.wrap (x3 - (1 : Int))) (0 : Int)).toNat (R_impl_PlanPathOfo.C.dflt Ty.int)) (x0.getD x3.toNat (R_impl_PlanPathOfo.C.dflt Ty.int))) (max2A (x0.getD (max2A (IntKind.i64.wrap (x3 - (1 : Int))) (0 : Int)).toNat (R_impl_PlanPathOfo.C.dflt Ty.int)) (x0.getD x3.toNat (R_impl_PlanPathOfo.C.dflt Ty.int))) (IntKind.i64.wrap (x11 + IntKind.i64.wrap (x3 * x9))) (IntKind.i64.wrap (x12 + IntKind.i64.wrap (x3 * x10)))]) 0 0 0 .no])) (none)) (none)) (none)) (none)) (none)) (some (.ret (.tup [.agg [.own 0 [] 0, .int .i64 x15, .int .i64 x16], .int .i64 (0 : Int)]) [.row .step x17 0 0 0 .no])) := by kernel_rfl
theorem l_impl_PlanPathOfo (f : Flight) (cs : List Cell) (F B : Int) (h40 : cs.length ≤ 40) (h0 : 0 ≤ f.frm) (h1 : f.frm ≤ f.by_) (h2 : f.by_ ≤ 10000) (h3 : 1 ≤ f.kind.quick) (h4 : f.kind.quick ≤ f.kind.slow) (h5 : f.kind.slow ≤ 50) (h6 : inR f.level 1 6 = true) : ∀ (d k : Nat), k + d = cs.length →
    Cut R_impl_PlanPathOfo g_impl_PlanPathOf 15 [.ptr 0 0, .ptr 2 0, .ptr 3 0, .sl .int (levelsF cs.length f.level), .sl .cell cs, .int .i64 (cs.length : Int), .int .i64 (k : Int)] [.box [.own 1 [] 0, .int .i64 0, .int .i64 0], .row .step [] 0 0 0 .no, .box [.str f.name, .str f.kind.name, .int .i64 f.kind.quick, .int .i64 f.kind.slow, .int .i64 f.frm, .int .i64 f.by_, .int .i64 f.level, .sl .str f.route], .box [.own 4 [] 0, .int .i64 F, .int .i64 B], .row .step ((List.range k).map (stepAt f cs)) 0 0 0 .no] (.tup [.agg [.own 0 [] 0, .int .i64 F, .int .i64 B], .int .i64 0]) [.row .step ((List.range cs.length).map (stepAt f cs)) 0 0 0 .no] := by
  have hbs : bytesOf' R_impl_PlanPathOfo.P 47 = 48 := by kernel_rfl
  intro d
  induction d with
  | zero =>
    intro k hk
    refine Cut.of R_impl_PlanPathOfo_ok rfl (t_impl_PlanPathOfo_15 _ cs cs.length k 0 0 [] f.name f.kind.name f.kind.quick f.kind.slow f.frm f.by_ f.level f.route F B _) ?_
    rw [decide_eq_false (by omega), ifb_false]
    refine Sat.ret rfl ?_
    rw [show k = cs.length by omega]
  | succ d ih =>
    intro k hk
    refine Cut.of R_impl_PlanPathOfo_ok rfl (t_impl_PlanPathOfo_15 _ cs cs.length k 0 0 [] f.name f.kind.name f.kind.quick f.kind.slow f.frm f.by_ f.level f.route F B _) ?_
    have hlt : k < cs.length := by omega
    have hL : (levelsF cs.length f.level).length = cs.length := levels_len (by omega) h40 h6
    have hw : IntKind.wrap .i64 ((k : Int) + 1) = ((k + 1 : Nat) : Int) := by rw [wrap_ok] <;> omega
    have hw1 : IntKind.wrap .i64 ((k : Int) - 1) = (k : Int) - 1 := by rw [wrap_ok] <;> omega
    have hx : cs.getD (k : Int).toNat (R_impl_PlanPathOfo.C.dflt .cell) = cs.getD k ⟨0, 0⟩ := by simp [hlt]
    have hdi : R_impl_PlanPathOfo.C.dflt Ty.int = (0 : Int) := rfl
    have ek : (k : Int).toNat = k := by omega
    have i1 : inb (k : Int) cs.length = true := by simp only [inb, Bool.and_eq_true, decide_eq_true_eq]; omega
    have pq : (k : Int) * f.kind.quick ≤ 40 * 50 ∧ 0 ≤ (k : Int) * f.kind.quick := ⟨Int.mul_le_mul (by omega) (by omega) (by omega) (by omega), Int.mul_nonneg (by omega) (by omega)⟩
    have ps : (k : Int) * f.kind.slow ≤ 40 * 50 ∧ 0 ≤ (k : Int) * f.kind.slow := ⟨Int.mul_le_mul (by omega) (by omega) (by omega) (by omega), Int.mul_nonneg (by omega) (by omega)⟩
    have w1 : IntKind.wrap .i64 ((k : Int) * f.kind.quick) = (k : Int) * f.kind.quick := wrap_ok (by omega) (by omega)
    have w2 : IntKind.wrap .i64 ((k : Int) * f.kind.slow) = (k : Int) * f.kind.slow := wrap_ok (by omega) (by omega)
    have w3 : IntKind.wrap .i64 (f.frm + (k : Int) * f.kind.quick) = f.frm + (k : Int) * f.kind.quick := wrap_ok (by omega) (by omega)
    have w4 : IntKind.wrap .i64 (f.by_ + (k : Int) * f.kind.slow) = f.by_ + (k : Int) * f.kind.slow := wrap_ok (by omega) (by omega)
    have hroom : ∀ z : Stp, decide ((((List.range k).map (stepAt f cs)).length + [z].length) * 48 ≤ 140737488355328) = true := fun z => decide_eq_true (by simp; omega)
    have nxt := ih (k + 1) (by omega)
    rw [List.range_succ, List.map_append, List.map_cons, List.map_nil] at nxt
    have hm : max2A ((k : Int) - 1) 0 = ((k - 1 : Nat) : Int) := by unfold max2A; split <;> omega
    have i2 : inb ((k - 1 : Nat) : Int) cs.length = true := by simp only [inb, Bool.and_eq_true, decide_eq_true_eq]; omega
    have mn : ∀ x y : Int, min2A x y = min x y := fun x y => by unfold min2A; split <;> omega
    have mx : ∀ x y : Int, max2A x y = max x y := fun x y => by unfold max2A; split <;> omega
    rw [hx, hdi, ek, hw, hw1, hm, hL, i1, i2, Int.toNat_natCast, mn, mx, w1, w2, w3, w4, hbs, hroom, decide_eq_true (by omega : (k : Int) < (cs.length : Int))]
    exact Sat.cut nxt
theorem c_impl_PlanPathOfo (ks : List Kind) (ps : List Point) (es : List Entry) (n : Str) (hg : (szB es && decide (es.length < 1000000000)) = true) : CallOK Tryz.prog CP g_impl_PlanPathOf [.agg [.sl .kind ks, .sl .point ps, .sl .entry es], .str n] [] (pathVo (pathF ks ps es n)) (pathHo (pathF ks ps es n)) := by
  refine CallOK.of R_impl_PlanPathOfo_ok (by kernel_rfl) (t_impl_PlanPathOfo ks ps es n) ?_
  have hg2 := hg
  simp only [Bool.and_eq_true, decide_eq_true_eq] at hg
  have hz := hg.1
  have no : ∀ c : Int, pathF ks ps es n = ⟨[], 0, 0, c⟩ → Sat R_impl_PlanPathOfo g_impl_PlanPathOf (pathVo (pathF ks ps es n)) (pathHo (pathF ks ps es n)) (some (.ret (.tup [.agg [.own 0 [] 0, .int .i64 (0 : Int), .int .i64 (0 : Int)], .int .i64 c]) [.row .step [] 0 0 0 .no])) := fun c h => by
    rw [h]; exact Sat.ret rfl rfl
  rw [hz]
  cases hb : bookOk ks ps es with
  | false => exact no 1 (by simp [pathF, hb])
  | true =>
    cases hst : stB ks ps es n with
    | none => exact no 2 (by simp [pathF, hb, hst])
    | some f =>
      obtain ⟨h0, h1, h2, h3, h4, h5, h6⟩ := fl_ok hst
      have hp16 := (baseOk_len (book_ents hb).1).2
      simp only [Option.getD_some, Option.isSome_some]
      rw [decide_eq_true (by omega : ps.length < 1000000000)]
      have hcase : cellsF ks ps f.route = none ∨ ∃ cs, cellsF ks ps f.route = some cs := by cases cellsF ks ps f.route <;> simp
      rcases hcase with hc | ⟨cs, hc⟩
      · simp only [hc, Option.isSome_none]
        exact no 3 (by simp [pathF, hb, hst, hc])
      · simp only [hc]
        have h40 : cs.length ≤ 40 := by
          unfold cellsF at hc
          split at hc
          · rename_i hx
            simp only [Option.some.injEq] at hc
            subst hc; exact hx.2.2
          · cases hc
        simp only [Option.getD_some, Option.isSome_some]
        have pq : (cs.length : Int) * f.kind.quick ≤ 40 * 50 ∧ 0 ≤ (cs.length : Int) * f.kind.quick := ⟨Int.mul_le_mul (by omega) (by omega) (by omega) (by omega), Int.mul_nonneg (by omega) (by omega)⟩
        have ps2 : (cs.length : Int) * f.kind.slow ≤ 40 * 50 ∧ 0 ≤ (cs.length : Int) * f.kind.slow := ⟨Int.mul_le_mul (by omega) (by omega) (by omega) (by omega), Int.mul_nonneg (by omega) (by omega)⟩
        have w1 : IntKind.wrap .i64 ((cs.length : Int) * f.kind.quick) = (cs.length : Int) * f.kind.quick := wrap_ok (by omega) (by omega)
        have w2 : IntKind.wrap .i64 ((cs.length : Int) * f.kind.slow) = (cs.length : Int) * f.kind.slow := wrap_ok (by omega) (by omega)
        have w3 : IntKind.wrap .i64 (f.frm + (cs.length : Int) * f.kind.quick) = f.frm + (cs.length : Int) * f.kind.quick := wrap_ok (by omega) (by omega)
        have w4 : IntKind.wrap .i64 (f.by_ + (cs.length : Int) * f.kind.slow) = f.by_ + (cs.length : Int) * f.kind.slow := wrap_ok (by omega) (by omega)
        simp only [w1, w2, w3, w4]
        by_cases hl : f.by_ + (cs.length : Int) * f.kind.slow > 10000
        · rw [decide_eq_true hl]
          exact no 4 (by simp only [pathF, hb, hst, hc, if_true]; rw [if_pos hl])
        · rw [decide_eq_false hl]
          rw [show pathF ks ps es n = ⟨(List.range cs.length).map (stepAt f cs), f.frm + cs.length * f.kind.quick, f.by_ + cs.length * f.kind.slow, 0⟩ by simp only [pathF, hb, hst, hc, if_true]; rw [if_neg hl]]
          exact Sat.cut (l_impl_PlanPathOfo f cs _ _ h40 h0 h1 h2 h3 h4 h5 h6 cs.length 0 (Nat.zero_add _))
theorem E_impl_PlanPathOfo_ok : EntOK Tryz.prog CP g_impl_PlanPathOf E_impl_PlanPathOfo := by
  refine ⟨⟨Tryz.f17, by kernel_rfl, by kernel_rfl, by kernel_rfl⟩, fun args H res H' h => ?_⟩
  simp only [E_impl_PlanPathOfo, E_spec_PlanPathOfo] at h
  split at h
  · simp only [Option.some.injEq, Prod.mk.injEq] at h
    obtain ⟨hg, rfl, rfl⟩ := h
    exact c_impl_PlanPathOfo _ _ _ _ hg
  · cases h

/-- spec.PlanPathOf -/
noncomputable def R_spec_PlanPathOfo : RE Ty El := ⟨Tryz.prog, CP, [(g_spec_PlanBookOk, E_spec_PlanBookOk), (g_spec_PlanStands, E_spec_PlanStands), (g_spec_PlanCells, E_spec_PlanCells), (g_spec_PlanLevels, E_spec_PlanLevels), (g_spec_l17Min, E_spec_l17Min), (g_spec_l17Max, E_spec_l17Max)], Tryz.f18, 0, [.agg [.own .step, .any, .any], .any], [(15, [(4, .box [.own .step]), (6, .box [.own .step]), (8, .box [.own .step]), (10, .box [.own .step]), (11, .box [.own .step]), (12, .box [.own .step]), (13, .box [.own .step])])]⟩
theorem R_spec_PlanPathOfo_ok : REOK R_spec_PlanPathOfo g_spec_PlanPathOf := ⟨CP_ok, (TabOK.cons E_spec_PlanBookOk_ok (TabOK.cons E_spec_PlanStands_ok (TabOK.cons E_spec_PlanCells_ok (TabOK.cons E_spec_PlanLevels_ok (TabOK.cons E_spec_l17Min_ok (TabOK.cons E_spec_l17Max_ok EOKnil)))))), by kernel_rfl, by kernel_rfl⟩
theorem t_spec_PlanPathOfo (ks : List Kind) (ps : List Point) (es : List Entry) (n : Str) : aRun R_spec_PlanPathOfo 600 false (body0 R_spec_PlanPathOfo.fn) (initSt R_spec_PlanPathOfo.fn [.agg [.sl .kind ks, .sl .point ps, .sl .entry es], .str n] []) =
  ifb (szB es) (ifb (!bookOk ks ps es) (some (.ret (.tup [.agg [.own 0 [] 0, .int .i64 (0 : Int), .int .i64 (0 : Int)], .int .i64 (1 : Int)]) [.row .step [] 0 0 0 .no])) (ifb (szB es && decide (es.length < (1000000000 : Nat))) (ifb (!(stB ks ps es n).isSome) (some (.ret (.tup [.agg [.own 0 [] 0, .int .i64 (0 : Int), .int .i64 (0 : Int)], .int .i64 (2 : Int)]) [.row .step [] 0 0 0 .no])) (ifb (decide (ps.length < (1000000000 : Nat))) (ifb (!(cellsF ks ps ((stB ks ps es n).getD fl0).route).isSome) (some (.ret (.tup [.agg [.own 0 [] 0, .int .i64 (0 : Int), .int .i64 (0 : Int)], .int .i64 (3 : Int)]) [.row .step [] 0 0 0 .no])) (ifb (decide (IntKind.i64.wrap (((stB ks ps es n).getD fl0).by_ + IntKind.i64.wrap ((↑((cellsF ks ps ((stB ks ps es n).getD fl0).route).getD []).length : Int) * ((stB ks ps es n).getD fl0).kind.slow)) > (10000 : Int))) (some (.ret (.tup [.agg [.own 0 [] 0, .int .i64 (0 : Int), .int .i64 (0 : Int)], .int .i64 (4 : Int)]) [.row .step [] 0 0 0 .no])) (some (.go (todoAt R_spec_PlanPathOfo.fn 15) [.ptr 0 0, .ptr 2 0, .sl .cell ((cellsF ks ps ((stB ks ps es n).getD fl0).route).getD []), .int .i64 ((↑((cellsF ks ps ((stB ks ps es n).getD fl0).route).getD []).length : Int)), .sl .int (levelsF (↑((cellsF ks ps ((stB ks ps es n).getD fl0).route).getD []).length : Int) ((stB ks ps es n).getD fl0).level), .ptr 3 0, .int .i64 (0 : Int)] [.box [.own 1 [] 0, .int .i64 (0 : Int), .int .i64 (0 : Int)], .row .step [] 0 0 0 .no, .box [.str (((stB ks ps es n).getD fl0).name), .str (((stB ks ps es n).getD fl0).kind.name), .int .i64 (((stB ks ps es n).getD fl0).kind.quick), .int .i64 (((stB ks ps es n).getD fl0).kind.slow), .int .i64 (((stB ks ps es n).getD fl0).frm), .int .i64 (((stB ks ps es n).getD fl0).by_), .int .i64 (((stB ks ps es n).getD fl0).level), .sl .str (((stB ks ps es n).getD fl0).route)], .box [.own 4 [] 0, .int .i64 (IntKind.i64.wrap (((stB ks ps es n).getD fl0).frm + IntKind.i64.wrap ((↑((cellsF ks ps ((stB ks ps es n).getD fl0).route).getD []).length : Int) * ((stB ks ps es n).getD fl0).kind.quick))), .int .i64 (IntKind.i64.wrap (((stB ks ps es n).getD fl0).by_ + IntKind.i64.wrap ((↑((cellsF ks ps ((stB ks ps es n).getD fl0).route).getD []).length : Int) * ((stB ks ps es n).getD fl0).kind.slow)))], .row .step [] 0 0 0 .no])))) (none))) (none))) (none) := by kernel_rfl
theorem t_spec_PlanPathOfo_15 (x0 : List (El .cell)) (x1 : Int) (x2 : List (El .int)) (x3 : Int) (x4 : Int) (x5 : Int) (x6 : List (El .step)) (x7 : Str) (x8 : Str) (x9 : Int) (x10 : Int) (x11 : Int) (x12 : Int) (x13 : Int) (x14 : List (El .str)) (x15 : Int) (x16 : Int) (x17 : List (El .step)) : aRun R_spec_PlanPathOfo 600 true (todoAt R_spec_PlanPathOfo.fn 15) (cutSt R_spec_PlanPathOfo.fn (liveOf R_spec_PlanPathOfo (todoAt R_spec_PlanPathOfo.fn 15)) [.ptr 0 0, .ptr 2 0, .sl .cell x0, .int .i64 x1, .sl .int x2, .ptr 3 0, .int .i64 x3] [.box [.own 1 [] 0, .int .i64 x4, .int .i64 x5], .row .step x6 0 0 0 .no, .box [.str x7, .str x8, .int .i64 x9, .int .i64 x10, .int .i64 x11, .int .i64 x12, .int .i64 x13, .sl .str x14], .box [.own 4 [] 0, .int .i64 x15, .int .i64 x16], .row .step x17 0 0 0 .no]) =
  ifb (decide (x3 < x1)) (ifb (inb x3 x0.length) (ifb (inb x3 x0.length) (ifb (inb x3 x2.length) (ifb (inb x3 x2.length) (ifb (decide (x3 > (0 : Int))) (ifb (inb (IntKind.i64.wrap (x3 - (1 : Int))) x2.length) (ifb (inb x3 x2.length) (ifb (inb (IntKind.i64.wrap (x3 - (1 : Int))) x2.length) (ifb (inb x3 x2.length) (ifb (decide ((x17.length + [Stp.mk (x0.getD x3.toNat (R_spec_PlanPathOfo.C.dflt Ty.cell)).x (x0.getD x3.toNat (R_spec_PlanPathOfo.C.dflt Ty.cell)).y (min (x2.getD (IntKind.i64.wrap (x3 - (1 : Int))).toNat (R_spec_PlanPathOfo.C.dflt Ty.int)) (x2.getD x3.toNat (R_spec_PlanPathOfo.C.dflt Ty.int))) (max (x2.getD (IntKind.i64.wrap (x3 - (1 : Int))).toNat (R_spec_PlanPathOfo.C.dflt Ty.int)) (x2.getD x3.toNat (R_spec_PlanPathOfo.C.dflt Ty.int))) (IntKind.i64.wrap (x11 + IntKind.i64.wrap (x3 * x9))) (IntKind.i64.wrap (x12 + IntKind.i64.wrap (x3 * x10)))].length) * bytesOf' R_spec_PlanPathOfo.P (47 : Nat) ≤ (140737488355328 : Nat))) (some (.go (todoAt R_spec_PlanPathOfo.fn 15) [.ptr 0 0, .ptr 2 0, .sl .cell x0, .int .i64 x1, .sl .int x2, .ptr 3 0, .int .i64 (IntKind.i64.wrap (x3 + (1 : Int)))] [.box [.own 1 [] 0, .int .i64 x4, .int .i64 x5], .row .step x6 0 0 0 .no, .box [.str x7, .str x8, .int .i64 x9, .int .i64 x10, .int .i64 x11, .int .i64 x12, .int .i64 x13, .sl .str x14], .box [.own 4 [] 0, .int .i64 x15, .int .i64 x16], .row .step (x17 ++ [Stp.mk (x0.getD x3.toNat (R_spec_PlanPathOfo.C.dflt Ty.cell)).x (x0.getD x3.toNat (R_spec_PlanPathOfo.C.dflt Ty.cell)).y (min (x2.getD (IntKind.i64.wrap (x3 - (1 : Int))).toNat (R_spec_PlanPathOfo.C.dflt Ty.int)) (x2.getD x3.toNat (R_spec_PlanPathOfo.C.dflt Ty.int))) (max (x2.getD (IntKind.i64.wrap (x3 - (1 : Int))).toNat (R_spec_PlanPathOfo.C.dflt Ty.int)) (x2.getD x3.toNat (R_spec_PlanPathOfo.C.dflt Ty.int))) (IntKind.i64.wrap (x11 + IntKind.i64.wrap (x3 * x9))) (IntKind.i64.wrap (x12 + IntKind.i64.wrap (x3 * x10)))]) 0 0 0 .no])) (none)) (none)) (none)) (none)) (none)) (ifb (decide ((x17.length + [Stp.mk (x0.getD x3.toNat (R_spec_PlanPathOfo.C.dflt Ty.cell)).x (x0.getD x3.toNat (R_spec_PlanPathOfo.C.dflt Ty.cell)).y (x2.getD x3.toNat (R_spec_PlanPathOfo.C.dflt Ty.int)) (x2.getD x3.toNat (R_spec_PlanPathOfo.C.dflt Ty.int)) (IntKind.i64.wrap (x11 + IntKind.i64.wrap (x3 * x9))) (IntKind.i64.wrap (x12 + IntKind.i64.wrap (x3 * x10)))].length) * bytesOf' R_spec_PlanPathOfo.P (47 : Nat) ≤ (140737488355328 : Nat))) (some (.go (todoAt R_spec_PlanPathOfo.fn 15) [.ptr 0 0, .ptr 2 0, .sl .cell x0, .int .i64 x1, .sl .int x2, .ptr 3 0, .int .i64 (IntKind.i64.wrap (x3 + (1 : Int)))] [.box [.own 1 [] 0, .int .i64 x4, .int .i64 x5], .row .step x6 0 0 0 .no, .box [.str x7, .str x8, .int .i64 x9, .int .i64 x10, .int .i64 x11, .int .i64 x12, .int .i64 x13, .sl .str x14], .box [.own 4 [] 0, .int .i64 x15, .int .i64 x16], .row .step (x17 ++ [Stp.mk (x0.getD x3.toNat (R_spec_PlanPathOfo.C.dflt Ty.cell)).x (x0.getD x3.toNat (R_spec_PlanPathOfo.C.dflt Ty.cell)).y (x2.getD x3.toNat (R_spec_PlanPathOfo.C.dflt Ty.int)) (x2.getD x3.toNat (R_spec_PlanPathOfo.C.dflt Ty.int)) (IntKind.i64.wrap (x11 + IntKind.i64.wrap (x3 * x9))) (IntKind.i64.wrap (x12 + IntKind.i64.wrap (x3 * x10)))]) 0 0 0 .no])) (none))) (none)) (none)) (none)) (none)) (some (.ret (.tup [.agg [.own 0 [] 0, .int .i64 x15, .int .i64 x16], .int .i64 (0 : Int)]) [.row .step x17 0 0 0 .no])) := by kernel_rfl
theorem l_spec_PlanPathOfo (f : Flight) (cs : List Cell) (F B : Int) (h40 : cs.length ≤ 40) (h0 : 0 ≤ f.frm) (h1 : f.frm ≤ f.by_) (h2 : f.by_ ≤ 10000) (h3 : 1 ≤ f.kind.quick) (h4 : f.kind.quick ≤ f.kind.slow) (h5 : f.kind.slow ≤ 50) (h6 : inR f.level 1 6 = true) : ∀ (d k : Nat), k + d = cs.length →
    Cut R_spec_PlanPathOfo g_spec_PlanPathOf 15 [.ptr 0 0, .ptr 2 0, .sl .cell cs, .int .i64 (cs.length : Int), .sl .int (levelsF cs.length f.level), .ptr 3 0, .int .i64 (k : Int)] [.box [.own 1 [] 0, .int .i64 0, .int .i64 0], .row .step [] 0 0 0 .no, .box [.str f.name, .str f.kind.name, .int .i64 f.kind.quick, .int .i64 f.kind.slow, .int .i64 f.frm, .int .i64 f.by_, .int .i64 f.level, .sl .str f.route], .box [.own 4 [] 0, .int .i64 F, .int .i64 B], .row .step ((List.range k).map (stepAt f cs)) 0 0 0 .no] (.tup [.agg [.own 0 [] 0, .int .i64 F, .int .i64 B], .int .i64 0]) [.row .step ((List.range cs.length).map (stepAt f cs)) 0 0 0 .no] := by
  have hbs : bytesOf' R_spec_PlanPathOfo.P 47 = 48 := by kernel_rfl
  intro d
  induction d with
  | zero =>
    intro k hk
    refine Cut.of R_spec_PlanPathOfo_ok rfl (t_spec_PlanPathOfo_15 cs cs.length _ k 0 0 [] f.name f.kind.name f.kind.quick f.kind.slow f.frm f.by_ f.level f.route F B _) ?_
    rw [decide_eq_false (by omega), ifb_false]
    refine Sat.ret rfl ?_
    rw [show k = cs.length by omega]
  | succ d ih =>
    intro k hk
    refine Cut.of R_spec_PlanPathOfo_ok rfl (t_spec_PlanPathOfo_15 cs cs.length _ k 0 0 [] f.name f.kind.name f.kind.quick f.kind.slow f.frm f.by_ f.level f.route F B _) ?_
    have hlt : k < cs.length := by omega
    have hL : (levelsF cs.length f.level).length = cs.length := levels_len (by omega) h40 h6
    have hw : IntKind.wrap .i64 ((k : Int) + 1) = ((k + 1 : Nat) : Int) := by rw [wrap_ok] <;> omega
    have hw1 : IntKind.wrap .i64 ((k : Int) - 1) = (k : Int) - 1 := by rw [wrap_ok] <;> omega
    have hx : cs.getD (k : Int).toNat (R_spec_PlanPathOfo.C.dflt .cell) = cs.getD k ⟨0, 0⟩ := by simp [hlt]
    have hdi : R_spec_PlanPathOfo.C.dflt Ty.int = (0 : Int) := rfl
    have ek : (k : Int).toNat = k := by omega
    have i1 : inb (k : Int) cs.length = true := by simp only [inb, Bool.and_eq_true, decide_eq_true_eq]; omega
    have pq : (k : Int) * f.kind.quick ≤ 40 * 50 ∧ 0 ≤ (k : Int) * f.kind.quick := ⟨Int.mul_le_mul (by omega) (by omega) (by omega) (by omega), Int.mul_nonneg (by omega) (by omega)⟩
    have ps : (k : Int) * f.kind.slow ≤ 40 * 50 ∧ 0 ≤ (k : Int) * f.kind.slow := ⟨Int.mul_le_mul (by omega) (by omega) (by omega) (by omega), Int.mul_nonneg (by omega) (by omega)⟩
    have w1 : IntKind.wrap .i64 ((k : Int) * f.kind.quick) = (k : Int) * f.kind.quick := wrap_ok (by omega) (by omega)
    have w2 : IntKind.wrap .i64 ((k : Int) * f.kind.slow) = (k : Int) * f.kind.slow := wrap_ok (by omega) (by omega)
    have w3 : IntKind.wrap .i64 (f.frm + (k : Int) * f.kind.quick) = f.frm + (k : Int) * f.kind.quick := wrap_ok (by omega) (by omega)
    have w4 : IntKind.wrap .i64 (f.by_ + (k : Int) * f.kind.slow) = f.by_ + (k : Int) * f.kind.slow := wrap_ok (by omega) (by omega)
    have hroom : ∀ z : Stp, decide ((((List.range k).map (stepAt f cs)).length + [z].length) * 48 ≤ 140737488355328) = true := fun z => decide_eq_true (by simp; omega)
    have nxt := ih (k + 1) (by omega)
    rw [List.range_succ, List.map_append, List.map_cons, List.map_nil] at nxt
    rw [hx, hdi, ek, hw, hw1, hL, i1, w1, w2, w3, w4, hbs, decide_eq_true (by omega : (k : Int) < (cs.length : Int))]
    simp only [ifb_true, hroom]
    by_cases hk0 : (k : Int) > 0
    · have i2 : inb ((k : Int) - 1) cs.length = true := by simp only [inb, Bool.and_eq_true, decide_eq_true_eq]; omega
      rw [decide_eq_true hk0, i2, show ((k : Int) - 1).toNat = k - 1 by omega]
      exact Sat.cut nxt
    · rw [decide_eq_false hk0]
      have : k = 0 := by omega
      subst this
      have e : stepAt f cs 0 = ⟨(cs.getD 0 ⟨0, 0⟩).x, (cs.getD 0 ⟨0, 0⟩).y, lvl f cs.length 0, lvl f cs.length 0, f.frm + (0 : Nat) * f.kind.quick, f.by_ + (0 : Nat) * f.kind.slow⟩ := by simp [stepAt]
      rw [e] at nxt
      exact Sat.cut nxt
theorem c_spec_PlanPathOfo (ks : List Kind) (ps : List Point) (es : List Entry) (n : Str) (hg : (szB es && decide (es.length < 1000000000)) = true) : CallOK Tryz.prog CP g_spec_PlanPathOf [.agg [.sl .kind ks, .sl .point ps, .sl .entry es], .str n] [] (pathVo (pathF ks ps es n)) (pathHo (pathF ks ps es n)) := by
  refine CallOK.of R_spec_PlanPathOfo_ok (by kernel_rfl) (t_spec_PlanPathOfo ks ps es n) ?_
  have hg2 := hg
  simp only [Bool.and_eq_true, decide_eq_true_eq] at hg
  have hz := hg.1
  have no : ∀ c : Int, pathF ks ps es n = ⟨[], 0, 0, c⟩ → Sat R_spec_PlanPathOfo g_spec_PlanPathOf (pathVo (pathF ks ps es n)) (pathHo (pathF ks ps es n)) (some (.ret (.tup [.agg [.own 0 [] 0, .int .i64 (0 : Int), .int .i64 (0 : Int)], .int .i64 c]) [.row .step [] 0 0 0 .no])) := fun c h => by
    rw [h]; exact Sat.ret rfl rfl
  rw [hg2, hz]
  cases hb : bookOk ks ps es with
  | false => exact no 1 (by simp [pathF, hb])
  | true =>
    cases hst : stB ks ps es n with
    | none => exact no 2 (by simp [pathF, hb, hst])
    | some f =>
      obtain ⟨h0, h1, h2, h3, h4, h5, h6⟩ := fl_ok hst
      have hp16 := (baseOk_len (book_ents hb).1).2
      simp only [Option.getD_some, Option.isSome_some]
      rw [decide_eq_true (by omega : ps.length < 1000000000)]
      have hcase : cellsF ks ps f.route = none ∨ ∃ cs, cellsF ks ps f.route = some cs := by cases cellsF ks ps f.route <;> simp
      rcases hcase with hc | ⟨cs, hc⟩
      · simp only [hc, Option.isSome_none]
        exact no 3 (by simp [pathF, hb, hst, hc])
      · simp only [hc]
        have h40 : cs.length ≤ 40 := by
          unfold cellsF at hc
          split at hc
          · rename_i hx
            simp only [Option.some.injEq] at hc
            subst hc; exact hx.2.2
          · cases hc
        simp only [Option.getD_some, Option.isSome_some]
        have pq : (cs.length : Int) * f.kind.quick ≤ 40 * 50 ∧ 0 ≤ (cs.length : Int) * f.kind.quick := ⟨Int.mul_le_mul (by omega) (by omega) (by omega) (by omega), Int.mul_nonneg (by omega) (by omega)⟩
        have ps2 : (cs.length : Int) * f.kind.slow ≤ 40 * 50 ∧ 0 ≤ (cs.length : Int) * f.kind.slow := ⟨Int.mul_le_mul (by omega) (by omega) (by omega) (by omega), Int.mul_nonneg (by omega) (by omega)⟩
        have w1 : IntKind.wrap .i64 ((cs.length : Int) * f.kind.quick) = (cs.length : Int) * f.kind.quick := wrap_ok (by omega) (by omega)
        have w2 : IntKind.wrap .i64 ((cs.length : Int) * f.kind.slow) = (cs.length : Int) * f.kind.slow := wrap_ok (by omega) (by omega)
        have w3 : IntKind.wrap .i64 (f.frm + (cs.length : Int) * f.kind.quick) = f.frm + (cs.length : Int) * f.kind.quick := wrap_ok (by omega) (by omega)
        have w4 : IntKind.wrap .i64 (f.by_ + (cs.length : Int) * f.kind.slow) = f.by_ + (cs.length : Int) * f.kind.slow := wrap_ok (by omega) (by omega)
        simp only [w1, w2, w3, w4]
        by_cases hl : f.by_ + (cs.length : Int) * f.kind.slow > 10000
        · rw [decide_eq_true hl]
          exact no 4 (by simp only [pathF, hb, hst, hc, if_true]; rw [if_pos hl])
        · rw [decide_eq_false hl]
          rw [show pathF ks ps es n = ⟨(List.range cs.length).map (stepAt f cs), f.frm + cs.length * f.kind.quick, f.by_ + cs.length * f.kind.slow, 0⟩ by simp only [pathF, hb, hst, hc, if_true]; rw [if_neg hl]]
          exact Sat.cut (l_spec_PlanPathOfo f cs _ _ h40 h0 h1 h2 h3 h4 h5 h6 cs.length 0 (Nat.zero_add _))
theorem E_spec_PlanPathOfo_ok : EntOK Tryz.prog CP g_spec_PlanPathOf E_spec_PlanPathOfo := by
  refine ⟨⟨Tryz.f18, by kernel_rfl, by kernel_rfl, by kernel_rfl⟩, fun args H res H' h => ?_⟩
  simp only [E_spec_PlanPathOfo] at h
  split at h
  · simp only [Option.some.injEq, Prod.mk.injEq] at h
    obtain ⟨hg, rfl, rfl⟩ := h
    exact c_spec_PlanPathOfo _ _ _ _ hg
  · cases h
end Lx
/- Meanings: marks, and what is held. -/
set_option linter.unusedVariables false
set_option linter.unusedSimpArgs false
namespace Lx
open Go Go.Proofs
theorem sumN_le16 {α : Type} {f w : α → Nat} (h : ∀ z, f z ≤ 16 * (1 + w z)) : ∀ l : List α, sumN f l ≤ 16 * (l.length + sumN w l)
  | [] => by simp [sumN]
  | a :: l => by
    have h1 := h a
    have h2 := sumN_le16 h l
    simp only [sumN, List.length_cons]
    omega
theorem getD_mid {α : Type} {dn r : List α} {z d : α} : (dn ++ z :: r).getD ((dn.length : Int)).toNat d = z := by simp
theorem set_mid {α : Type} {dn r : List α} {z z' : α} : (dn ++ z :: r).set ((dn.length : Int)).toNat z' = dn ++ z' :: r := by simp
theorem inb_mid {α : Type} {dn r : List α} {z : α} : inb (dn.length : Int) (dn ++ z :: r).length = true := by simp only [inb, Bool.and_eq_true, decide_eq_true_eq, List.length_append, List.length_cons]; omega
def digT (k : Int) : UInt8 := UInt8.ofNat (IntKind.wrap .u8 (IntKind.wrap .i64 ((48 : Int) + Int.tmod k 10))).toNat
def decGo : Nat → Int → Str → Str
  | 0, _, o => o
  | f + 1, k, o => if k > 0 then decGo f (IntKind.wrap .i64 (k.tdiv 10)) (digT k :: o) else o
def markT (k : Int) : Str := if k ≤ 0 then [109, 48] else 109 :: decGo 20 k []
theorem wrap_lt (n : Int) : IntKind.wrap .i64 n < 9223372036854775808 := by
  unfold IntKind.wrap
  simp only [IntKind.bits, IntKind.signed, Bool.true_and, decide_eq_true_eq, show (2 : Int) ^ 64 = 18446744073709551616 from by decide, show (2 : Int) ^ (64 - 1) = 9223372036854775808 from by decide]
  by_cases h : n % 18446744073709551616 ≥ 9223372036854775808
  · rw [if_pos h]; omega
  · rw [if_neg h]; omega
def E_laws_markText : Ent Ty El := ⟨[.ro], 0, fun a h => match a, h with
  | [.int .i64 k], [] => some (true, .str (markT k), [])
  | _, _ => none⟩
def mk_PlanKind (z : Kind) (k : Int) : Kind × Int := (⟨markT (k), (IntKind.wrap .i64 (k + 1)), (IntKind.wrap .i64 (IntKind.wrap .i64 (k + 1) + 1))⟩, IntKind.wrap .i64 (IntKind.wrap .i64 (IntKind.wrap .i64 (k + 1) + 1) + 1))
def mkS_PlanKind : List Kind → Int → List Kind × Int
  | [], k => ([], k)
  | z :: l, k => ((mk_PlanKind z k).1 :: (mkS_PlanKind l (mk_PlanKind z k).2).1, (mkS_PlanKind l (mk_PlanKind z k).2).2)
def E_laws_markPlanKindS : Ent Ty El := ⟨[.io, .ro], 0, fun a h => match a, h with
  | [.own 0 [] 0, .int .i64 k], [.row .kind l 0 0 0 .no] => some (tS_PlanKind l, .int .i64 (mkS_PlanKind l k).2, [.row .kind (mkS_PlanKind l k).1 0 0 0 .no])
  | _, _ => none⟩
def mk_PlanPoint (z : Point) (k : Int) : Point × Int := (⟨markT (k), (IntKind.wrap .i64 (k + 1)), (IntKind.wrap .i64 (IntKind.wrap .i64 (k + 1) + 1))⟩, IntKind.wrap .i64 (IntKind.wrap .i64 (IntKind.wrap .i64 (k + 1) + 1) + 1))
def mkS_PlanPoint : List Point → Int → List Point × Int
  | [], k => ([], k)
  | z :: l, k => ((mk_PlanPoint z k).1 :: (mkS_PlanPoint l (mk_PlanPoint z k).2).1, (mkS_PlanPoint l (mk_PlanPoint z k).2).2)
def E_laws_markPlanPointS : Ent Ty El := ⟨[.io, .ro], 0, fun a h => match a, h with
  | [.own 0 [] 0, .int .i64 k], [.row .point l 0 0 0 .no] => some (tS_PlanPoint l, .int .i64 (mkS_PlanPoint l k).2, [.row .point (mkS_PlanPoint l k).1 0 0 0 .no])
  | _, _ => none⟩
def E_laws_markPlanBase : Ent Ty El := ⟨[.io, .ro], 0, fun a h => match a, h with
  | [.agg [.own 0 [] 0, .own 1 [] 0], .int .i64 k], [.row .kind ks 0 0 0 .no, .row .point ps 0 0 0 .no] => some (t_PlanBase ks ps, .int .i64 (mkS_PlanPoint ps ((mkS_PlanKind ks (k)).2)).2, [.row .kind ((mkS_PlanKind ks (k)).1) 0 0 0 .no, .row .point ((mkS_PlanPoint ps ((mkS_PlanKind ks (k)).2)).1) 0 0 0 .no])
  | _, _ => none⟩
def mk_PlanField (z : Fld) (k : Int) : Fld × Int := (⟨k, (IntKind.wrap .i64 (k + 1)), markT (IntKind.wrap .i64 (IntKind.wrap .i64 (k + 1) + 1))⟩, IntKind.wrap .i64 (IntKind.wrap .i64 (IntKind.wrap .i64 (k + 1) + 1) + 1))
def mkS_PlanField : List Fld → Int → List Fld × Int
  | [], k => ([], k)
  | z :: l, k => ((mk_PlanField z k).1 :: (mkS_PlanField l (mk_PlanField z k).2).1, (mkS_PlanField l (mk_PlanField z k).2).2)
def E_laws_markPlanFieldS : Ent Ty El := ⟨[.io, .ro], 0, fun a h => match a, h with
  | [.own 0 [] 0, .int .i64 k], [.row .fld l 0 0 0 .no] => some (tS_PlanField l, .int .i64 (mkS_PlanField l k).2, [.row .fld (mkS_PlanField l k).1 0 0 0 .no])
  | _, _ => none⟩
def mk_PlanEntry (z : Entry) (k : Int) : Entry × Int := (⟨markT (k), (mkS_PlanField z.fields (IntKind.wrap .i64 (k + 1))).1⟩, (mkS_PlanField z.fields (IntKind.wrap .i64 (k + 1))).2)
def mkS_PlanEntry : List Entry → Int → List Entry × Int
  | [], k => ([], k)
  | z :: l, k => ((mk_PlanEntry z k).1 :: (mkS_PlanEntry l (mk_PlanEntry z k).2).1, (mkS_PlanEntry l (mk_PlanEntry z k).2).2)
def E_laws_markPlanEntryS : Ent Ty El := ⟨[.io, .ro], 0, fun a h => match a, h with
  | [.own 0 [] 0, .int .i64 k], [.row .entry l 1 0 0 .no] => some (tS_PlanEntry l, .int .i64 (mkS_PlanEntry l k).2, [.row .entry (mkS_PlanEntry l k).1 1 0 0 .no])
  | _, _ => none⟩
def E_laws_markPlanBook : Ent Ty El := ⟨[.io, .ro], 0, fun a h => match a, h with
  | [.agg [.own 0 [] 0, .own 1 [] 0, .own 2 [] 0], .int .i64 k], [.row .kind ks 0 0 0 .no, .row .point ps 0 0 0 .no, .row .entry es 1 0 0 .no] => some (t_PlanBook ks ps es, .int .i64 (mkS_PlanEntry es ((mkS_PlanPoint ps ((mkS_PlanKind ks (k)).2)).2)).2, [.row .kind ((mkS_PlanKind ks (k)).1) 0 0 0 .no, .row .point ((mkS_PlanPoint ps ((mkS_PlanKind ks (k)).2)).1) 0 0 0 .no, .row .entry ((mkS_PlanEntry es ((mkS_PlanPoint ps ((mkS_PlanKind ks (k)).2)).2)).1) 1 0 0 .no])
  | _, _ => none⟩
def tS_PlanStep (l : List Stp) : Bool := decide (l.length ≤ 1000000000) && true
def mk_PlanStep (z : Stp) (k : Int) : Stp × Int := (⟨k, (IntKind.wrap .i64 (k + 1)), (IntKind.wrap .i64 (IntKind.wrap .i64 (k + 1) + 1)), (IntKind.wrap .i64 (IntKind.wrap .i64 (IntKind.wrap .i64 (k + 1) + 1) + 1)), (IntKind.wrap .i64 (IntKind.wrap .i64 (IntKind.wrap .i64 (IntKind.wrap .i64 (k + 1) + 1) + 1) + 1)), (IntKind.wrap .i64 (IntKind.wrap .i64 (IntKind.wrap .i64 (IntKind.wrap .i64 (IntKind.wrap .i64 (k + 1) + 1) + 1) + 1) + 1))⟩, IntKind.wrap .i64 (IntKind.wrap .i64 (IntKind.wrap .i64 (IntKind.wrap .i64 (IntKind.wrap .i64 (IntKind.wrap .i64 (k + 1) + 1) + 1) + 1) + 1) + 1))
def mkS_PlanStep : List Stp → Int → List Stp × Int
  | [], k => ([], k)
  | z :: l, k => ((mk_PlanStep z k).1 :: (mkS_PlanStep l (mk_PlanStep z k).2).1, (mkS_PlanStep l (mk_PlanStep z k).2).2)
def E_laws_markPlanStepS : Ent Ty El := ⟨[.io, .ro], 0, fun a h => match a, h with
  | [.own 0 [] 0, .int .i64 k], [.row .step l 0 0 0 .no] => some (tS_PlanStep l, .int .i64 (mkS_PlanStep l k).2, [.row .step (mkS_PlanStep l k).1 0 0 0 .no])
  | _, _ => none⟩
def t_PlanPath (ss : List Stp) (frm : Int) (by_ : Int) : Bool := tS_PlanStep ss && (true)
def E_laws_markPlanPath : Ent Ty El := ⟨[.io, .ro], 0, fun a h => match a, h with
  | [.agg [.own 0 [] 0, .int .i64 frm, .int .i64 by_], .int .i64 k], [.row .step ss 0 0 0 .no] => some (t_PlanPath ss frm by_, .int .i64 (mkS_PlanStep ss (k)).2, [.row .step ((mkS_PlanStep ss (k)).1) 0 0 0 .no])
  | _, _ => none⟩
def E_laws_eqPlanStep : Ent Ty El := ⟨[.ro, .ro], 0, fun a h => match a, h with
  | [.agg [.int .i64 x, .int .i64 y, .int .i64 low, .int .i64 high, .int .i64 frm, .int .i64 by_], .agg [.int .i64 x', .int .i64 y', .int .i64 low', .int .i64 high', .int .i64 frm', .int .i64 by_']], [] => some (true, .bool (decide ((⟨x, y, low, high, frm, by_⟩ : Stp) = ⟨x', y', low', high', frm', by_'⟩)), [])
  | _, _ => none⟩
def E_laws_eqPlanStepS : Ent Ty El := ⟨[.ro, .ro], 0, fun a h => match a, h with
  | [.sl .step l, .sl .step l'], [] => some (tS_PlanStep l, .bool (decide (l = l')), [])
  | _, _ => none⟩
def E_laws_eqPlanPath : Ent Ty El := ⟨[.ro, .ro], 0, fun a h => match a, h with
  | [.agg [.sl .step ss, .int .i64 frm, .int .i64 by_], .agg [.sl .step ss', .int .i64 frm', .int .i64 by_']], [] => some (t_PlanPath ss frm by_, .bool ((decide (ss = ss') && (decide (frm = frm') && (decide (by_ = by_') && true)))), [])
  | _, _ => none⟩
def hd_PlanStep (z : Stp) (k : Int) : Option Int := if z.x = k then (if z.y = (IntKind.wrap .i64 (k + 1)) then (if z.low = (IntKind.wrap .i64 (IntKind.wrap .i64 (k + 1) + 1)) then (if z.high = (IntKind.wrap .i64 (IntKind.wrap .i64 (IntKind.wrap .i64 (k + 1) + 1) + 1)) then (if z.frm = (IntKind.wrap .i64 (IntKind.wrap .i64 (IntKind.wrap .i64 (IntKind.wrap .i64 (k + 1) + 1) + 1) + 1)) then (if z.by_ = (IntKind.wrap .i64 (IntKind.wrap .i64 (IntKind.wrap .i64 (IntKind.wrap .i64 (IntKind.wrap .i64 (k + 1) + 1) + 1) + 1) + 1)) then (some (IntKind.wrap .i64 (IntKind.wrap .i64 (IntKind.wrap .i64 (IntKind.wrap .i64 (IntKind.wrap .i64 (IntKind.wrap .i64 (k + 1) + 1) + 1) + 1) + 1) + 1))) else none) else none) else none) else none) else none) else none
def hdS_PlanStep : List Stp → Int → Option Int
  | [], k => some k
  | z :: l, k => match hd_PlanStep z k with
    | none => none
    | some k1 => hdS_PlanStep l k1
def E_laws_heldPlanStepS : Ent Ty El := ⟨[.ro, .ro], 0, fun a h => match a, h with
  | [.sl .step l, .int .i64 k], [] => some (tS_PlanStep l, .int .i64 ((hdS_PlanStep l k).getD (-1)), [])
  | _, _ => none⟩
def hd_PlanPath (ss : List Stp) (frm : Int) (by_ : Int) (k : Int) : Option Int := match hdS_PlanStep ss (k) with
    | none => none
    | some k0 => if k0 < 0 then none else (some (k0))
def E_laws_heldPlanPath : Ent Ty El := ⟨[.ro, .ro], 0, fun a h => match a, h with
  | [.agg [.sl .step ss, .int .i64 frm, .int .i64 by_], .int .i64 k], [] => some (t_PlanPath ss frm by_, .int .i64 ((hd_PlanPath ss frm by_ k).getD (-1)), [])
  | _, _ => none⟩
def hd_PlanKind (z : Kind) (k : Int) : Option Int := if z.name = markT (k) then (if z.quick = (IntKind.wrap .i64 (k + 1)) then (if z.slow = (IntKind.wrap .i64 (IntKind.wrap .i64 (k + 1) + 1)) then (some (IntKind.wrap .i64 (IntKind.wrap .i64 (IntKind.wrap .i64 (k + 1) + 1) + 1))) else none) else none) else none
def hdS_PlanKind : List Kind → Int → Option Int
  | [], k => some k
  | z :: l, k => match hd_PlanKind z k with
    | none => none
    | some k1 => hdS_PlanKind l k1
def hd_PlanPoint (z : Point) (k : Int) : Option Int := if z.name = markT (k) then (if z.x = (IntKind.wrap .i64 (k + 1)) then (if z.y = (IntKind.wrap .i64 (IntKind.wrap .i64 (k + 1) + 1)) then (some (IntKind.wrap .i64 (IntKind.wrap .i64 (IntKind.wrap .i64 (k + 1) + 1) + 1))) else none) else none) else none
def hdS_PlanPoint : List Point → Int → Option Int
  | [], k => some k
  | z :: l, k => match hd_PlanPoint z k with
    | none => none
    | some k1 => hdS_PlanPoint l k1
def hd_PlanField (z : Fld) (k : Int) : Option Int := if z.what = k then (if z.number = (IntKind.wrap .i64 (k + 1)) then (if z.value = markT (IntKind.wrap .i64 (IntKind.wrap .i64 (k + 1) + 1)) then (some (IntKind.wrap .i64 (IntKind.wrap .i64 (IntKind.wrap .i64 (k + 1) + 1) + 1))) else none) else none) else none
def hdS_PlanField : List Fld → Int → Option Int
  | [], k => some k
  | z :: l, k => match hd_PlanField z k with
    | none => none
    | some k1 => hdS_PlanField l k1
def hd_PlanEntry (z : Entry) (k : Int) : Option Int := if z.name = markT (k) then (match hdS_PlanField z.fields (IntKind.wrap .i64 (k + 1)) with
    | none => none
    | some k0 => if k0 < 0 then none else (some (k0))) else none
def hdS_PlanEntry : List Entry → Int → Option Int
  | [], k => some k
  | z :: l, k => match hd_PlanEntry z k with
    | none => none
    | some k1 => hdS_PlanEntry l k1
def n_PlanKind (z : Kind) : Nat := 3
def nS_PlanKind (l : List Kind) : Nat := sumN n_PlanKind l
theorem hm_PlanKind (z : Kind) (k : Int) (h0 : 0 ≤ k) (hb : k + (n_PlanKind z : Nat) ≤ 4611686018427387904) : hd_PlanKind (mk_PlanKind z k).1 k = some (mk_PlanKind z k).2 ∧ (mk_PlanKind z k).2 = k + (n_PlanKind z : Nat) := by
  unfold n_PlanKind at hb ⊢
  have w0 : IntKind.wrap .i64 k = k := by rw [wrap_ok] <;> omega
  have w1 : IntKind.wrap .i64 (k + 1) = k + 1 := by rw [wrap_ok] <;> omega
  have w2 : IntKind.wrap .i64 (k + 1 + 1) = k + 1 + 1 := by rw [wrap_ok] <;> omega
  have w3 : IntKind.wrap .i64 (k + 1 + 1 + 1) = k + 1 + 1 + 1 := by rw [wrap_ok] <;> omega
  refine ⟨?_, ?_⟩
  · simp only [mk_PlanKind, hd_PlanKind, w0, w1, w2, w3, if_true]
  · simp only [mk_PlanKind, w0, w1, w2, w3]
    omega
theorem hmS_PlanKind : ∀ (l : List Kind) (k : Int), 0 ≤ k → k + (nS_PlanKind l : Nat) ≤ 4611686018427387904 → hdS_PlanKind (mkS_PlanKind l k).1 k = some (mkS_PlanKind l k).2 ∧ (mkS_PlanKind l k).2 = k + (nS_PlanKind l : Nat)
  | [], k, _, _ => ⟨rfl, by simp [mkS_PlanKind, nS_PlanKind, sumN]⟩
  | z :: l, k, h0, hb => by
    have e : nS_PlanKind (z :: l) = n_PlanKind z + nS_PlanKind l := rfl
    obtain ⟨a, b⟩ := hm_PlanKind z k h0 (by omega)
    obtain ⟨c, d⟩ := hmS_PlanKind l (mk_PlanKind z k).2 (by omega) (by omega)
    refine ⟨?_, ?_⟩
    · simp only [mkS_PlanKind, hdS_PlanKind, a]; exact c
    · simp only [mkS_PlanKind]; omega
theorem nle_PlanKind (l : List Kind) : nS_PlanKind l ≤ 16 * wS_PlanKind l := by
  unfold nS_PlanKind wS_PlanKind
  exact sumN_le16 (fun z => by simp only [n_PlanKind] ; omega) l
def n_PlanPoint (z : Point) : Nat := 3
def nS_PlanPoint (l : List Point) : Nat := sumN n_PlanPoint l
theorem hm_PlanPoint (z : Point) (k : Int) (h0 : 0 ≤ k) (hb : k + (n_PlanPoint z : Nat) ≤ 4611686018427387904) : hd_PlanPoint (mk_PlanPoint z k).1 k = some (mk_PlanPoint z k).2 ∧ (mk_PlanPoint z k).2 = k + (n_PlanPoint z : Nat) := by
  unfold n_PlanPoint at hb ⊢
  have w0 : IntKind.wrap .i64 k = k := by rw [wrap_ok] <;> omega
  have w1 : IntKind.wrap .i64 (k + 1) = k + 1 := by rw [wrap_ok] <;> omega
  have w2 : IntKind.wrap .i64 (k + 1 + 1) = k + 1 + 1 := by rw [wrap_ok] <;> omega
  have w3 : IntKind.wrap .i64 (k + 1 + 1 + 1) = k + 1 + 1 + 1 := by rw [wrap_ok] <;> omega
  refine ⟨?_, ?_⟩
  · simp only [mk_PlanPoint, hd_PlanPoint, w0, w1, w2, w3, if_true]
  · simp only [mk_PlanPoint, w0, w1, w2, w3]
    omega
theorem hmS_PlanPoint : ∀ (l : List Point) (k : Int), 0 ≤ k → k + (nS_PlanPoint l : Nat) ≤ 4611686018427387904 → hdS_PlanPoint (mkS_PlanPoint l k).1 k = some (mkS_PlanPoint l k).2 ∧ (mkS_PlanPoint l k).2 = k + (nS_PlanPoint l : Nat)
  | [], k, _, _ => ⟨rfl, by simp [mkS_PlanPoint, nS_PlanPoint, sumN]⟩
  | z :: l, k, h0, hb => by
    have e : nS_PlanPoint (z :: l) = n_PlanPoint z + nS_PlanPoint l := rfl
    obtain ⟨a, b⟩ := hm_PlanPoint z k h0 (by omega)
    obtain ⟨c, d⟩ := hmS_PlanPoint l (mk_PlanPoint z k).2 (by omega) (by omega)
    refine ⟨?_, ?_⟩
    · simp only [mkS_PlanPoint, hdS_PlanPoint, a]; exact c
    · simp only [mkS_PlanPoint]; omega
theorem nle_PlanPoint (l : List Point) : nS_PlanPoint l ≤ 16 * wS_PlanPoint l := by
  unfold nS_PlanPoint wS_PlanPoint
  exact sumN_le16 (fun z => by simp only [n_PlanPoint] ; omega) l
def n_PlanField (z : Fld) : Nat := 3
def nS_PlanField (l : List Fld) : Nat := sumN n_PlanField l
theorem hm_PlanField (z : Fld) (k : Int) (h0 : 0 ≤ k) (hb : k + (n_PlanField z : Nat) ≤ 4611686018427387904) : hd_PlanField (mk_PlanField z k).1 k = some (mk_PlanField z k).2 ∧ (mk_PlanField z k).2 = k + (n_PlanField z : Nat) := by
  unfold n_PlanField at hb ⊢
  have w0 : IntKind.wrap .i64 k = k := by rw [wrap_ok] <;> omega
  have w1 : IntKind.wrap .i64 (k + 1) = k + 1 := by rw [wrap_ok] <;> omega
  have w2 : IntKind.wrap .i64 (k + 1 + 1) = k + 1 + 1 := by rw [wrap_ok] <;> omega
  have w3 : IntKind.wrap .i64 (k + 1 + 1 + 1) = k + 1 + 1 + 1 := by rw [wrap_ok] <;> omega
  refine ⟨?_, ?_⟩
  · simp only [mk_PlanField, hd_PlanField, w0, w1, w2, w3, if_true]
  · simp only [mk_PlanField, w0, w1, w2, w3]
    omega
theorem hmS_PlanField : ∀ (l : List Fld) (k : Int), 0 ≤ k → k + (nS_PlanField l : Nat) ≤ 4611686018427387904 → hdS_PlanField (mkS_PlanField l k).1 k = some (mkS_PlanField l k).2 ∧ (mkS_PlanField l k).2 = k + (nS_PlanField l : Nat)
  | [], k, _, _ => ⟨rfl, by simp [mkS_PlanField, nS_PlanField, sumN]⟩
  | z :: l, k, h0, hb => by
    have e : nS_PlanField (z :: l) = n_PlanField z + nS_PlanField l := rfl
    obtain ⟨a, b⟩ := hm_PlanField z k h0 (by omega)
    obtain ⟨c, d⟩ := hmS_PlanField l (mk_PlanField z k).2 (by omega) (by omega)
    refine ⟨?_, ?_⟩
    · simp only [mkS_PlanField, hdS_PlanField, a]; exact c
    · simp only [mkS_PlanField]; omega
theorem nle_PlanField (l : List Fld) : nS_PlanField l ≤ 16 * wS_PlanField l := by
  unfold nS_PlanField wS_PlanField
  exact sumN_le16 (fun z => by simp only [n_PlanField] ; omega) l
def n_PlanEntry (z : Entry) : Nat := 1 + nS_PlanField z.fields
def nS_PlanEntry (l : List Entry) : Nat := sumN n_PlanEntry l
theorem hm_PlanEntry (z : Entry) (k : Int) (h0 : 0 ≤ k) (hb : k + (n_PlanEntry z : Nat) ≤ 4611686018427387904) : hd_PlanEntry (mk_PlanEntry z k).1 k = some (mk_PlanEntry z k).2 ∧ (mk_PlanEntry z k).2 = k + (n_PlanEntry z : Nat) := by
  unfold n_PlanEntry at hb ⊢
  have w0 : IntKind.wrap .i64 k = k := by rw [wrap_ok] <;> omega
  have w1 : IntKind.wrap .i64 (k + 1) = k + 1 := by rw [wrap_ok] <;> omega
  obtain ⟨a0, b0⟩ := hmS_PlanField z.fields (k + 1) (by omega) (by omega)
  have m1 : ¬ (k + 1 + (nS_PlanField z.fields : Nat) < 0) := by omega
  refine ⟨?_, ?_⟩
  · simp only [mk_PlanEntry, hd_PlanEntry, w0, w1, a0, b0, if_neg m1, if_true]
  · simp only [mk_PlanEntry, w0, w1, a0, b0]
    omega
theorem hmS_PlanEntry : ∀ (l : List Entry) (k : Int), 0 ≤ k → k + (nS_PlanEntry l : Nat) ≤ 4611686018427387904 → hdS_PlanEntry (mkS_PlanEntry l k).1 k = some (mkS_PlanEntry l k).2 ∧ (mkS_PlanEntry l k).2 = k + (nS_PlanEntry l : Nat)
  | [], k, _, _ => ⟨rfl, by simp [mkS_PlanEntry, nS_PlanEntry, sumN]⟩
  | z :: l, k, h0, hb => by
    have e : nS_PlanEntry (z :: l) = n_PlanEntry z + nS_PlanEntry l := rfl
    obtain ⟨a, b⟩ := hm_PlanEntry z k h0 (by omega)
    obtain ⟨c, d⟩ := hmS_PlanEntry l (mk_PlanEntry z k).2 (by omega) (by omega)
    refine ⟨?_, ?_⟩
    · simp only [mkS_PlanEntry, hdS_PlanEntry, a]; exact c
    · simp only [mkS_PlanEntry]; omega
theorem nle_PlanEntry (l : List Entry) : nS_PlanEntry l ≤ 16 * wS_PlanEntry l := by
  unfold nS_PlanEntry wS_PlanEntry
  exact sumN_le16 (fun z => by have := nle_PlanField z.fields; simp only [n_PlanEntry, w_PlanEntry]; omega) l
def n_PlanStep (z : Stp) : Nat := 6
def nS_PlanStep (l : List Stp) : Nat := sumN n_PlanStep l
theorem hm_PlanStep (z : Stp) (k : Int) (h0 : 0 ≤ k) (hb : k + (n_PlanStep z : Nat) ≤ 4611686018427387904) : hd_PlanStep (mk_PlanStep z k).1 k = some (mk_PlanStep z k).2 ∧ (mk_PlanStep z k).2 = k + (n_PlanStep z : Nat) := by
  unfold n_PlanStep at hb ⊢
  have w0 : IntKind.wrap .i64 k = k := by rw [wrap_ok] <;> omega
  have w1 : IntKind.wrap .i64 (k + 1) = k + 1 := by rw [wrap_ok] <;> omega
  have w2 : IntKind.wrap .i64 (k + 1 + 1) = k + 1 + 1 := by rw [wrap_ok] <;> omega
  have w3 : IntKind.wrap .i64 (k + 1 + 1 + 1) = k + 1 + 1 + 1 := by rw [wrap_ok] <;> omega
  have w4 : IntKind.wrap .i64 (k + 1 + 1 + 1 + 1) = k + 1 + 1 + 1 + 1 := by rw [wrap_ok] <;> omega
  have w5 : IntKind.wrap .i64 (k + 1 + 1 + 1 + 1 + 1) = k + 1 + 1 + 1 + 1 + 1 := by rw [wrap_ok] <;> omega
  have w6 : IntKind.wrap .i64 (k + 1 + 1 + 1 + 1 + 1 + 1) = k + 1 + 1 + 1 + 1 + 1 + 1 := by rw [wrap_ok] <;> omega
  refine ⟨?_, ?_⟩
  · simp only [mk_PlanStep, hd_PlanStep, w0, w1, w2, w3, w4, w5, w6, if_true]
  · simp only [mk_PlanStep, w0, w1, w2, w3, w4, w5, w6]
    omega
theorem hmS_PlanStep : ∀ (l : List Stp) (k : Int), 0 ≤ k → k + (nS_PlanStep l : Nat) ≤ 4611686018427387904 → hdS_PlanStep (mkS_PlanStep l k).1 k = some (mkS_PlanStep l k).2 ∧ (mkS_PlanStep l k).2 = k + (nS_PlanStep l : Nat)
  | [], k, _, _ => ⟨rfl, by simp [mkS_PlanStep, nS_PlanStep, sumN]⟩
  | z :: l, k, h0, hb => by
    have e : nS_PlanStep (z :: l) = n_PlanStep z + nS_PlanStep l := rfl
    obtain ⟨a, b⟩ := hm_PlanStep z k h0 (by omega)
    obtain ⟨c, d⟩ := hmS_PlanStep l (mk_PlanStep z k).2 (by omega) (by omega)
    refine ⟨?_, ?_⟩
    · simp only [mkS_PlanStep, hdS_PlanStep, a]; exact c
    · simp only [mkS_PlanStep]; omega
theorem nle_PlanStep (l : List Stp) : nS_PlanStep l ≤ 16 * l.length := by
  unfold nS_PlanStep
  have := sumN_le16 (f := n_PlanStep) (w := fun _ => 0) (fun z => by simp only [n_PlanStep]; omega) l
  have z : ∀ l : List Stp, sumN (fun _ : Stp => 0) l = 0 := fun l => by induction l with
    | nil => rfl
    | cons a l ih => simpa [sumN] using ih
  have := z l
  omega
end Lx
