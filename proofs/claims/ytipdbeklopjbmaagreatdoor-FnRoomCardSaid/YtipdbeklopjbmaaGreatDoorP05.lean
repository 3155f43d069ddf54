/-
  Texts laid together: Facts, Dat, Dat7.
-/
import Derived.Test.YtipdbeklopjbmaaGreatDoorP04
set_option linter.unusedVariables false
set_option linter.unusedSimpArgs false
namespace Go.Proofs.YtipdbeklopjbmaaGreatDoor
open Go.ChangeShapes Go.WideShapes Go.ChangeAt Go.RowKit Go.Proofs.Tryz
abbrev bC (b:Nat) (a:Option Addr) (n c i:Nat) (h:Int) : Atom:=bx b [.slice a n c,nV i,iV h] 164
abbrev qS (a:Option Addr) (n c:Nat) : List ByteArray→Atom:=ow 9 1 J3 okS (.slice a n c)
abbrev qC (a:Option Addr) (n c:Nat) : List CellD→Atom:=ow 91 2 J6 okC (.slice a n c)
abbrev qI (a:Option Addr) (n c:Nat) : List Int→Atom:=ow 3 1 J0w okI (.slice a n c)
abbrev qR (a:Option Addr) (n c:Nat) : List AnsD→Atom:=ow 155 3 J0x okR (.slice a n c)
abbrev qK (a:Option Addr) (n c:Nat) : List CallD→Atom:=ow 153 6 J16 okK (.slice a n c)
abbrev qB (a:Option Addr) (n c:Nat) : List Nat→Atom:=ow 5 1 J7 okB (.slice a n c)
theorem JaI:BI prog 164 [(0,1),(1,1),(2,1)] [sN,iV 0,iV 0]:=J2N underlying164 (zv:=.agg #[sN,iV 0,iV 0]) zK rfl zK
theorem JaK:BI prog 210 [(0,1),(1,2)] [sN,sN,sN]:=J2N underlying210 (zv:=.agg #[sN,sN,sN]) zK rfl zK
theorem J4L:BI prog 56 [(0,1),(1,1)] [sN,sN]:=J2N underlying56 (zv:=.agg #[sN,sN]) zK rfl zK
theorem J2u:BI prog 91 [(0,1),(1,1)] [.string (bA []),.string (bA [])]:=J2N underlying91 (zv:=.agg #[.string (bA []),.string (bA [])]) zK rfl zK
instance : CFc prog 102:=cfc func102
instance : CFc prog 154:=cfc func154
instance : CFc prog 172:=cfc func172
instance : CFc prog 174:=cfc func174
instance : CFc prog 175:=cfc func175
instance : CFc prog 181:=cfc func181
instance : CFc prog 182:=cfc func182
instance : CFc prog 359:=cfc func359
instance : CFc prog 46:=cfc func46
theorem ET_28:ElemT prog 28 91 (.agg #[.string ⟨#[]⟩,.string ⟨#[]⟩]) 2 32 J6:={ ht:=underlying28,hT:={ info:=by kernel_rfl,zs:=rfl,pos:=by decide },hk:=fun _=>rfl,h1:=by intro x u hu;simp [J6] at hu;rcases hu with rfl|rfl <;> rfl,by0:=by decide }
theorem ET_44:ElemT prog 44 9 (.string ⟨#[]⟩) 1 16 J3:={ ht:=underlying44,hT:={ info:=by kernel_rfl,zs:=rfl,pos:=by decide },hk:=fun _=>rfl,h1:=by intro x u hu;simp [J3] at hu;subst hu;rfl,by0:=by decide }
theorem ET_47:ElemT prog 47 3 (iV 0) 1 8 J0w:={ ht:=underlying47,hT:={ info:=by kernel_rfl,zs:=rfl,pos:=by decide },hk:=fun _=>rfl,h1:=by intro x u hu;simp [J0w] at hu;subst hu;rfl,by0:=by decide }
theorem ET_54:ElemT prog 54 153 (.agg #[iV 0,.string ⟨#[]⟩,.string ⟨#[]⟩,iV 0,iV 0,.string ⟨#[]⟩]) 6 72 J16:={ ht:=underlying54,hT:={ info:=by kernel_rfl,zs:=rfl,pos:=by decide },hk:=fun _=>rfl,h1:=by intro x u hu;simp [J16] at hu;rcases hu with rfl|rfl|rfl|rfl|rfl|rfl <;> rfl,by0:=by decide }
theorem ET_55:ElemT prog 55 155 (.agg #[iV 0,iV 0,.string ⟨#[]⟩]) 3 32 J0x:={ ht:=underlying55,hT:={ info:=by kernel_rfl,zs:=rfl,pos:=by decide },hk:=fun _=>rfl,h1:=by intro x u hu;simp [J0x] at hu;rcases hu with rfl|rfl|rfl <;> rfl,by0:=by decide }
theorem ET_62:ElemT prog 62 5 (.int .u8 0) 1 1 J7:={ ht:=underlying62,hT:={ info:=by kernel_rfl,zs:=rfl,pos:=by decide },hk:=fun _=>rfl,h1:=by intro x u hu;simp [J7] at hu;subst hu;rfl,by0:=by decide }
theorem ET_64:ElemT prog 64 58 (.agg #[iV 0,iV 0,iV 0,iV 0,sN,sN,sN,sN,sN,iV 0]) 10 160 J1h:={ ht:=underlying64,hT:={ info:=by kernel_rfl,zs:=rfl,pos:=by decide },hk:=fun _=>rfl,h1:=by intro x u hu;unfold J1h at hu;simp only [List.mem_cons,List.not_mem_nil,or_false] at hu;rcases hu with rfl|rfl|rfl|rfl|rfl|rfl|rfl|rfl|rfl|rfl <;> rfl,by0:=by decide }
instance : FIc prog 126 0 0:=⟨Jo underlying126 rfl rfl (k:=0) zK⟩
instance : FIc prog 126 1 1:=⟨Jo underlying126 rfl rfl (k:=0) zK⟩
instance : FIc prog 126 2 2:=⟨Jo underlying126 rfl rfl (k:=0) zK⟩
instance : FIc prog 141 0 0:=⟨Jo underlying141 rfl rfl (k:=0) zK⟩
instance : FIc prog 141 1 1:=⟨Jo underlying141 rfl rfl (k:=0) zK⟩
instance : FIc prog 141 2 2:=⟨Jo underlying141 rfl rfl (k:=0) zK⟩
instance : FIc prog 141 3 3:=⟨Jo underlying141 rfl rfl (k:=0) zK⟩
instance : FIc prog 141 4 4:=⟨Jo underlying141 rfl rfl (k:=0) zK⟩
instance : FIc prog 141 5 5:=⟨Jo underlying141 rfl rfl (k:=0) zK⟩
instance : FIc prog 144 0 0:=⟨Jo underlying144 rfl rfl (k:=0) zK⟩
instance : FIc prog 144 1 1:=⟨Jo underlying144 rfl rfl (k:=0) zK⟩
instance : FIc prog 144 2 2:=⟨Jo underlying144 rfl rfl (k:=0) zK⟩
instance : FIc prog 153 0 0:=⟨Jo underlying153 rfl rfl (k:=0) zK⟩
instance : FIc prog 153 1 1:=⟨Jo underlying153 rfl rfl (k:=0) zK⟩
instance : FIc prog 153 2 2:=⟨Jo underlying153 rfl rfl (k:=0) zK⟩
instance : FIc prog 153 3 3:=⟨Jo underlying153 rfl rfl (k:=0) zK⟩
instance : FIc prog 153 4 4:=⟨Jo underlying153 rfl rfl (k:=0) zK⟩
instance : FIc prog 153 5 5:=⟨Jo underlying153 rfl rfl (k:=0) zK⟩
instance : FIc prog 155 0 0:=⟨Jo underlying155 rfl rfl (k:=0) zK⟩
instance : FIc prog 155 1 1:=⟨Jo underlying155 rfl rfl (k:=0) zK⟩
instance : FIc prog 155 2 2:=⟨Jo underlying155 rfl rfl (k:=0) zK⟩
instance : FIc prog 164 0 0:=⟨Jo underlying164 rfl rfl (k:=0) zK⟩
instance : FIc prog 164 1 1:=⟨Jo underlying164 rfl rfl (k:=0) zK⟩
instance : FIc prog 164 2 2:=⟨Jo underlying164 rfl rfl (k:=0) zK⟩
instance : FIc prog 195 1 1:=⟨Jo underlying195 rfl rfl (k:=0) zK⟩
instance : FIc prog 210 0 0:=⟨Jo underlying210 rfl rfl (k:=0) zK⟩
instance : FIc prog 210 1 1:=⟨Jo underlying210 rfl rfl (k:=1) zK⟩
instance : FIc prog 24 0 0:=⟨Jo underlying24 rfl rfl (k:=0) zK⟩
instance : FIc prog 24 1 1:=⟨Jo underlying24 rfl rfl (k:=0) zK⟩
instance : FIc prog 26 0 0:=⟨Jo underlying26 rfl rfl (k:=0) zK⟩
instance : FIc prog 26 1 1:=⟨Jo underlying26 rfl rfl (k:=1) zK⟩
instance : FIc prog 32 0 0:=⟨Jo underlying32 rfl rfl (k:=0) zK⟩
instance : FIc prog 32 1 1:=⟨Jo underlying32 rfl rfl (k:=0) zK⟩
instance : FIc prog 34 0 0:=⟨Jo underlying34 rfl rfl (k:=0) zK⟩
instance : FIc prog 34 1 1:=⟨Jo underlying34 rfl rfl (k:=1) zK⟩
instance : FIc prog 46 0 0:=⟨Jo underlying46 rfl rfl (k:=0) zK⟩
instance : FIc prog 46 1 1:=⟨Jo underlying46 rfl rfl (k:=0) zK⟩
instance : FIc prog 49 0 0:=⟨Jo underlying49 rfl rfl (k:=0) zK⟩
instance : FIc prog 49 1 1:=⟨Jo underlying49 rfl rfl (k:=0) zK⟩
instance : FIc prog 49 2 2:=⟨Jo underlying49 rfl rfl (k:=0) zK⟩
instance : FIc prog 49 3 3:=⟨Jo underlying49 rfl rfl (k:=0) zK⟩
instance : FIc prog 49 4 4:=⟨Jo underlying49 rfl rfl (k:=0) zK⟩
instance : FIc prog 49 5 5:=⟨Jo underlying49 rfl rfl (k:=0) zK⟩
instance : FIc prog 49 6 6:=⟨Jo underlying49 rfl rfl (k:=1) zK⟩
instance : FIc prog 49 7 8:=⟨Jo underlying49 rfl rfl (k:=0) zK⟩
instance : FIc prog 49 8 9:=⟨Jo underlying49 rfl rfl (k:=0) zK⟩
instance : FIc prog 56 0 0:=⟨Jo underlying56 rfl rfl (k:=0) zK⟩
instance : FIc prog 56 1 1:=⟨Jo underlying56 rfl rfl (k:=0) zK⟩
instance : FIc prog 58 0 0:=⟨Jo underlying58 rfl rfl (k:=0) zK⟩
instance : FIc prog 58 1 1:=⟨Jo underlying58 rfl rfl (k:=0) zK⟩
instance : FIc prog 58 2 2:=⟨Jo underlying58 rfl rfl (k:=0) zK⟩
instance : FIc prog 58 3 3:=⟨Jo underlying58 rfl rfl (k:=0) zK⟩
instance : FIc prog 58 4 4:=⟨Jo underlying58 rfl rfl (k:=0) zK⟩
instance : FIc prog 58 5 5:=⟨Jo underlying58 rfl rfl (k:=0) zK⟩
instance : FIc prog 58 6 6:=⟨Jo underlying58 rfl rfl (k:=1) zK⟩
instance : FIc prog 58 7 8:=⟨Jo underlying58 rfl rfl (k:=0) zK⟩
instance : FIc prog 58 8 9:=⟨Jo underlying58 rfl rfl (k:=0) zK⟩
instance : FIc prog 81 0 0:=⟨Jo underlying81 rfl rfl (k:=0) zK⟩
instance : FIc prog 81 1 1:=⟨Jo underlying81 rfl rfl (k:=0) zK⟩
instance : FIc prog 81 2 2:=⟨Jo underlying81 rfl rfl (k:=0) zK⟩
instance : FIc prog 91 0 0:=⟨Jo underlying91 rfl rfl (k:=0) zK⟩
instance : FIc prog 91 1 1:=⟨Jo underlying91 rfl rfl (k:=0) zK⟩
theorem mixed:prog.follows .mixedOrders=true:=by kernel_rfl
instance : RTc prog 100 f100 19:=rtc func100 ntmps100
instance : RTc prog 101 f101 8:=rtc func101 ntmps101
instance : RTc prog 107 f107 85:=rtc func107 ntmps107
instance : RTc prog 108 f108 46:=rtc func108 ntmps108
instance : RTc prog 109 f109 24:=rtc func109 ntmps109
instance : RTc prog 115 f115 57:=rtc func115 ntmps115
instance : RTc prog 117 f117 16:=rtc func117 ntmps117
instance : RTc prog 124 f124 58:=rtc func124 ntmps124
instance : RTc prog 129 f129 20:=rtc func129 ntmps129
instance : RTc prog 130 f130 24:=rtc func130 ntmps130
instance : RTc prog 131 f131 6:=rtc func131 ntmps131
instance : RTc prog 132 f132 25:=rtc func132 ntmps132
instance : RTc prog 134 f134 42:=rtc func134 ntmps134
instance : RTc prog 135 f135 49:=rtc func135 ntmps135
instance : RTc prog 139 f139 25:=rtc func139 ntmps139
instance : RTc prog 141 f141 26:=rtc func141 ntmps141
instance : RTc prog 144 f144 30:=rtc func144 ntmps144
instance : RTc prog 145 f145 33:=rtc func145 ntmps145
instance : RTc prog 146 f146 20:=rtc func146 ntmps146
instance : RTc prog 147 f147 47:=rtc func147 ntmps147
instance : RTc prog 149 f149 50:=rtc func149 ntmps149
instance : RTc prog 150 f150 19:=rtc func150 ntmps150
instance : RTc prog 151 f151 5:=rtc func151 ntmps151
instance : RTc prog 152 f152 8:=rtc func152 ntmps152
instance : RTc prog 153 f153 11:=rtc func153 ntmps153
instance : RTc prog 155 f155 20:=rtc func155 ntmps155
instance : RTc prog 159 f159 8:=rtc func159 ntmps159
instance : RTc prog 160 f160 6:=rtc func160 ntmps160
instance : RTc prog 162 f162 21:=rtc func162 ntmps162
instance : RTc prog 166 f166 12:=rtc func166 ntmps166
instance : RTc prog 168 f168 22:=rtc func168 ntmps168
instance : RTc prog 170 f170 21:=rtc func170 ntmps170
instance : RTc prog 177 f177 12:=rtc func177 ntmps177
instance : RTc prog 179 f179 7:=rtc func179 ntmps179
instance : RTc prog 180 f180 10:=rtc func180 ntmps180
instance : RTc prog 183 f183 10:=rtc func183 ntmps183
instance : RTc prog 187 f187 8:=rtc func187 ntmps187
instance : RTc prog 189 f189 17:=rtc func189 ntmps189
instance : RTc prog 190 f190 6:=rtc func190 ntmps190
instance : RTc prog 191 f191 32:=rtc func191 ntmps191
instance : RTc prog 192 f192 23:=rtc func192 ntmps192
instance : RTc prog 196 f196 28:=rtc func196 ntmps196
instance : RTc prog 213 f213 12:=rtc func213 ntmps213
instance : RTc prog 22 f22 6:=rtc func22 ntmps22
instance : RTc prog 229 f229 39:=rtc func229 ntmps229
instance : RTc prog 237 f237 9:=rtc func237 ntmps237
instance : RTc prog 239 f239 32:=rtc func239 ntmps239
instance : RTc prog 243 f243 20:=rtc func243 ntmps243
instance : RTc prog 245 f245 15:=rtc func245 ntmps245
instance : RTc prog 246 f246 48:=rtc func246 ntmps246
instance : RTc prog 247 f247 41:=rtc func247 ntmps247
instance : RTc prog 248 f248 22:=rtc func248 ntmps248
instance : RTc prog 249 f249 31:=rtc func249 ntmps249
instance : RTc prog 250 f250 26:=rtc func250 ntmps250
instance : RTc prog 251 f251 8:=rtc func251 ntmps251
instance : RTc prog 252 f252 38:=rtc func252 ntmps252
instance : RTc prog 253 f253 43:=rtc func253 ntmps253
instance : RTc prog 254 f254 46:=rtc func254 ntmps254
instance : RTc prog 255 f255 37:=rtc func255 ntmps255
instance : RTc prog 256 f256 15:=rtc func256 ntmps256
instance : RTc prog 257 f257 48:=rtc func257 ntmps257
instance : RTc prog 258 f258 30:=rtc func258 ntmps258
instance : RTc prog 259 f259 17:=rtc func259 ntmps259
instance : RTc prog 260 f260 26:=rtc func260 ntmps260
instance : RTc prog 261 f261 6:=rtc func261 ntmps261
instance : RTc prog 262 f262 16:=rtc func262 ntmps262
instance : RTc prog 263 f263 26:=rtc func263 ntmps263
instance : RTc prog 264 f264 18:=rtc func264 ntmps264
instance : RTc prog 265 f265 8:=rtc func265 ntmps265
instance : RTc prog 266 f266 31:=rtc func266 ntmps266
instance : RTc prog 267 f267 12:=rtc func267 ntmps267
instance : RTc prog 268 f268 13:=rtc func268 ntmps268
instance : RTc prog 27 f27 7:=rtc func27 ntmps27
instance : RTc prog 28 f28 7:=rtc func28 ntmps28
instance : RTc prog 281 f281 35:=rtc func281 ntmps281
instance : RTc prog 282 f282 16:=rtc func282 ntmps282
instance : RTc prog 283 f283 13:=rtc func283 ntmps283
instance : RTc prog 284 f284 21:=rtc func284 ntmps284
instance : RTc prog 286 f286 29:=rtc func286 ntmps286
instance : RTc prog 29 f29 7:=rtc func29 ntmps29
instance : RTc prog 290 f290 8:=rtc func290 ntmps290
instance : RTc prog 291 f291 17:=rtc func291 ntmps291
instance : RTc prog 293 f293 18:=rtc func293 ntmps293
instance : RTc prog 296 f296 19:=rtc func296 ntmps296
instance : RTc prog 297 f297 17:=rtc func297 ntmps297
instance : RTc prog 298 f298 5:=rtc func298 ntmps298
instance : RTc prog 30 f30 27:=rtc func30 ntmps30
instance : RTc prog 301 f301 9:=rtc func301 ntmps301
instance : RTc prog 31 f31 19:=rtc func31 ntmps31
instance : RTc prog 316 f316 9:=rtc func316 ntmps316
instance : RTc prog 317 f317 8:=rtc func317 ntmps317
instance : RTc prog 318 f318 41:=rtc func318 ntmps318
instance : RTc prog 319 f319 12:=rtc func319 ntmps319
instance : RTc prog 32 f32 19:=rtc func32 ntmps32
instance : RTc prog 320 f320 17:=rtc func320 ntmps320
instance : RTc prog 321 f321 15:=rtc func321 ntmps321
instance : RTc prog 322 f322 5:=rtc func322 ntmps322
instance : RTc prog 323 f323 5:=rtc func323 ntmps323
instance : RTc prog 324 f324 27:=rtc func324 ntmps324
instance : RTc prog 325 f325 18:=rtc func325 ntmps325
instance : RTc prog 326 f326 13:=rtc func326 ntmps326
instance : RTc prog 327 f327 23:=rtc func327 ntmps327
instance : RTc prog 33 f33 14:=rtc func33 ntmps33
instance : RTc prog 331 f331 8:=rtc func331 ntmps331
instance : RTc prog 332 f332 10:=rtc func332 ntmps332
instance : RTc prog 333 f333 9:=rtc func333 ntmps333
instance : RTc prog 334 f334 5:=rtc func334 ntmps334
instance : RTc prog 335 f335 22:=rtc func335 ntmps335
instance : RTc prog 336 f336 11:=rtc func336 ntmps336
instance : RTc prog 337 f337 13:=rtc func337 ntmps337
instance : RTc prog 338 f338 8:=rtc func338 ntmps338
instance : RTc prog 34 f34 14:=rtc func34 ntmps34
instance : RTc prog 344 f344 12:=rtc func344 ntmps344
instance : RTc prog 345 f345 29:=rtc func345 ntmps345
instance : RTc prog 347 f347 9:=rtc func347 ntmps347
instance : RTc prog 348 f348 30:=rtc func348 ntmps348
instance : RTc prog 360 f360 25:=rtc func360 ntmps360
instance : RTc prog 361 f361 5:=rtc func361 ntmps361
instance : RTc prog 362 f362 19:=rtc func362 ntmps362
instance : RTc prog 363 f363 9:=rtc func363 ntmps363
instance : RTc prog 364 f364 20:=rtc func364 ntmps364
instance : RTc prog 365 f365 18:=rtc func365 ntmps365
instance : RTc prog 368 f368 18:=rtc func368 ntmps368
instance : RTc prog 377 f377 8:=rtc func377 ntmps377
instance : RTc prog 378 f378 11:=rtc func378 ntmps378
instance : RTc prog 383 f383 18:=rtc func383 ntmps383
instance : RTc prog 384 f384 15:=rtc func384 ntmps384
instance : RTc prog 47 f47 37:=rtc func47 ntmps47
instance : RTc prog 73 f73 32:=rtc func73 ntmps73
instance : RTc prog 75 f75 9:=rtc func75 ntmps75
instance : RTc prog 76 f76 37:=rtc func76 ntmps76
instance : RTc prog 80 f80 5:=rtc func80 ntmps80
instance : RTc prog 81 f81 15:=rtc func81 ntmps81
instance : RTc prog 82 f82 15:=rtc func82 ntmps82
instance : RTc prog 83 f83 12:=rtc func83 ntmps83
instance : RTc prog 84 f84 21:=rtc func84 ntmps84
instance : RTc prog 85 f85 7:=rtc func85 ntmps85
instance : RTc prog 87 f87 15:=rtc func87 ntmps87
instance : RTc prog 91 f91 70:=rtc func91 ntmps91
instance : RTc prog 93 f93 15:=rtc func93 ntmps93
instance : RTc prog 97 f97 29:=rtc func97 ntmps97
instance : RTc prog 98 f98 42:=rtc func98 ntmps98
instance : RTc prog 99 f99 8:=rtc func99 ntmps99
theorem JgZ:TI prog 126 true 3:=J07 underlying126 rfl zK
instance : TIc prog 126 true 3:=⟨JgZ⟩
theorem Jh0:TI prog 141 true 6:=J07 underlying141 rfl zK
instance : TIc prog 141 true 6:=⟨Jh0⟩
theorem Jh1:TI prog 144 true 3:=J07 underlying144 rfl zK
instance : TIc prog 144 true 3:=⟨Jh1⟩
theorem J5w:TI prog 153 true 6:=J07 underlying153 rfl zK
instance : TIc prog 153 true 6:=⟨J5w⟩
theorem Jh2:TI prog 155 true 3:=J07 underlying155 rfl zK
instance : TIc prog 155 true 3:=⟨Jh2⟩
theorem J7e:TI prog 210 true 3:=J07 underlying210 rfl zK
instance : TIc prog 210 true 3:=⟨J7e⟩
theorem Jia:TI prog 22 false 1:=J07 underlying22 rfl zK
instance : TIc prog 22 false 1:=⟨Jia⟩
theorem Jib:TI prog 24 true 2:=J07 underlying24 rfl zK
instance : TIc prog 24 true 2:=⟨Jib⟩
theorem Jic:TI prog 26 true 3:=J07 underlying26 rfl zK
instance : TIc prog 26 true 3:=⟨Jic⟩
theorem Jid:TI prog 28 false 1:=J07 underlying28 rfl zK
instance : TIc prog 28 false 1:=⟨Jid⟩
theorem J3b:TI prog 3 false 1:=J07 underlying3 rfl zK
instance : TIc prog 3 false 1:=⟨J3b⟩
theorem Jie:TI prog 31 false 1:=J07 underlying31 rfl zK
instance : TIc prog 31 false 1:=⟨Jie⟩
theorem J1Q:TI prog 32 true 2:=J07 underlying32 rfl zK
instance : TIc prog 32 true 2:=⟨J1Q⟩
theorem Jif:TI prog 34 true 3:=J07 underlying34 rfl zK
instance : TIc prog 34 true 3:=⟨Jif⟩
theorem TI_4:TI prog 4 false 1:=J07 underlying4 rfl zK
instance : TIc prog 4 false 1:=⟨TI_4⟩
theorem Jig:TI prog 41 false 1:=J07 underlying41 rfl zK
instance : TIc prog 41 false 1:=⟨Jig⟩
theorem Jih:TI prog 42 false 1:=J07 underlying42 rfl zK
instance : TIc prog 42 false 1:=⟨Jih⟩
theorem Jii:TI prog 43 false 1:=J07 underlying43 rfl zK
instance : TIc prog 43 false 1:=⟨Jii⟩
theorem J0b:TI prog 44 false 1:=J07 underlying44 rfl zK
instance : TIc prog 44 false 1:=⟨J0b⟩
theorem Jij:TI prog 46 true 2:=J07 underlying46 rfl zK
instance : TIc prog 46 true 2:=⟨Jij⟩
theorem J3G:TI prog 47 false 1:=J07 underlying47 rfl zK
instance : TIc prog 47 false 1:=⟨J3G⟩
theorem J5M:TI prog 5 false 1:=J07 underlying5 rfl zK
instance : TIc prog 5 false 1:=⟨J5M⟩
theorem Jil:TI prog 54 false 1:=J07 underlying54 rfl zK
instance : TIc prog 54 false 1:=⟨Jil⟩
theorem Jim:TI prog 55 false 1:=J07 underlying55 rfl zK
instance : TIc prog 55 false 1:=⟨Jim⟩
theorem J7C:TI prog 56 true 2:=J07 underlying56 rfl zK
instance : TIc prog 56 true 2:=⟨J7C⟩
theorem J2P:TI prog 58 true 10:=J07 underlying58 rfl zK
instance : TIc prog 58 true 10:=⟨J2P⟩
theorem Jin:TI prog 62 false 1:=J07 underlying62 rfl zK
instance : TIc prog 62 false 1:=⟨Jin⟩
theorem Jio:TI prog 81 true 3:=J07 underlying81 rfl zK
instance : TIc prog 81 true 3:=⟨Jio⟩
theorem J0j:TI prog 9 false 1:=J07 underlying9 rfl zK
instance : TIc prog 9 false 1:=⟨J0j⟩
theorem J1W:TI prog 91 true 2:=J07 underlying91 rfl zK
instance : TIc prog 91 true 2:=⟨J1W⟩
instance : UTc prog 22 (.slice 126):=⟨underlying22⟩
instance : UTc prog 28 (.slice 91):=⟨underlying28⟩
instance : UTc prog 31 (.slice 81):=⟨underlying31⟩
instance : UTc prog 42 (.slice 141):=⟨underlying42⟩
instance : UTc prog 43 (.slice 144):=⟨underlying43⟩
instance : UTc prog 44 (.slice 9):=⟨underlying44⟩
instance : UTc prog 47 (.slice 3):=⟨underlying47⟩
instance : UTc prog 54 (.slice 153):=⟨underlying54⟩
instance : UTc prog 55 (.slice 155):=⟨underlying55⟩
instance : UTc prog 62 (.slice 5):=⟨underlying62⟩
instance : UTc prog 64 (.slice 58):=⟨underlying64⟩
instance : UTc prog 83 (.slice 28):=⟨underlying83⟩
instance : UTc prog 9 .string:=⟨underlying9⟩
theorem J4D:ZI prog 153 (.agg #[iV 0,.string (bA []),.string (bA []),iV 0,iV 0,.string (bA [])]):=J2R zK
theorem J00:ZI prog 155 (.agg #[iV 0,iV 0,.string (bA [])]):=J2R zK
theorem Jh3:ZI prog 195 (.agg #[.pointer none,sN]):=J2R zK
theorem JA:ZI prog 210 (.agg #[sN,sN,sN]):=J2R zK
theorem J2d:ZI prog 32 (.agg #[.string (bA []),iV 0]):=J2R zK
theorem J0i:ZI prog 56 (.agg #[sN,sN]):=J2R zK
theorem J1t:ZI prog 58 (.agg #[iV 0,iV 0,iV 0,iV 0,sN,sN,sN,sN,sN,iV 0]):=J2R zK
theorem J5E:ZI prog 91 (.agg #[.string (bA []),.string (bA [])]):=J2R zK
set_option maxRecDepth 100000
set_option maxHeartbeats 1000000
def inB (x a b:Int):Bool:=decide (a≤x∧x≤b)
def J0h (s p:ByteArray):Bool:=decide (p.size≤s.size∧s.extract 0 p.size=p)
theorem J0F {k:Nat} {p:Nat→Prop} (h:∀ j,j < k→p j) (hk:p k):∀ j,j < k+1→p j:=fun j hj=>(Nat.lt_succ_iff_lt_or_eq.1 hj).elim (h j) (fun e=>e ▸ hk)
theorem J2m {p:Nat→Prop} : ∀ j,j < 0→p j:=fun j hj=>absurd hj (Nat.not_lt_zero j)
def Jl (l:List CellD) (key:ByteArray):ByteArray:=match l.find? (fun c:CellD=>decide (c.key=key)) with
 | some c=>c.val
 | none=>⟨#[]⟩
theorem J50 {l:List CellD} {key:ByteArray} {k:Nat} {x:CellD} (hx:nth l k=some x) (hp:x.key=key) (hno:∀ j,j < k→∀ y,nth l j=some y→y.key≠key):Jl l key=x.val:=by
 have:l.find? (fun c:CellD=>decide (c.key=key))=some x:=by
  rw [List.find?_eq_some_iff_getElem]
  rw [JO] at hx
  obtain ⟨h1,h2⟩:=List.getElem?_eq_some_iff.1 hx
  refine ⟨by simpa using hp,k,h1,h2,fun j hj=>?_⟩
  have:=hno j hj l[j] (by rw [JO];simp)
  simpa using this
 simp [Jl,this]
theorem J55 {l:List CellD} {key:ByteArray} {k:Nat} (hk:l.length≤k) (hno:∀ j,j < k→∀ y,nth l j=some y→y.key≠key):Jl l key=⟨#[]⟩:=by
 have:l.find? (fun c:CellD=>decide (c.key=key))=none:=by
  rw [List.find?_eq_none]
  intro x hx
  obtain ⟨j,hj,rfl⟩:=List.mem_iff_getElem.1 hx
  have:=hno j zO l[j] (by rw [JO];simp [hj])
  simpa using this
 simp [Jl,this]
def Jt (l:List CellD) (p:ByteArray):List ByteArray:=(l.filter fun c=>J0h c.key p).map (·.key)
theorem J4U {l:List CellD} {p:ByteArray} {k:Nat} {x:CellD} (hx:nth l k=some x):Jt (l.take (k+1)) p=Jt (l.take k) p++if J0h x.key p then [x.key] else []:=by
 rw [JO] at hx
 obtain ⟨h1,h2⟩:=List.getElem?_eq_some_iff.1 hx
 rw [List.take_succ_eq_append_getElem h1,h2]
 unfold Jt
 rw [List.filter_append,List.map_append]
 by_cases h:J0h x.key p <;> simp [h]
theorem J4i (l:List CellD) (p:ByteArray):(Jt l p).length≤l.length:=by unfold Jt;rw [List.length_map];exact List.length_filter_le _ _
theorem J8a (l:List CellD) (p:ByteArray) (k:Nat):(Jt (l.take k) p).length≤k:=by
 have:=J4i (l.take k) p
 rw [List.length_take] at this;omega
structure MachD where
 store:List CellD
 touch:TouchD
deriving DecidableEq
theorem J9W {l:List ByteArray} {x:ByteArray} {k:Nat} (hk:k≤l.length) (hlt:∀ j,j < k→∀ y,nth l j=some y→ltS y x=true) (hend:∀ y,nth l k=some y→ltS y x=false∧y≠x):JI l x=l.take k++x::l.drop k:=by
 have h:=Jaw l x k hk (fun q hq y hy=>by rw [← JO] at hy;simp [geS,hlt q hq y hy]) (fun y hy=>by rw [← JO] at hy;simp [geS,(hend y hy).1])
 unfold JI
 rw [h,if_neg (fun e=>by rw [← JO] at e;exact (hend x e).2 rfl)]
 rfl
theorem Jf4 {l:List ByteArray} {x:ByteArray} {k:Nat} (hx:nth l k=some x) (hlt:∀ j,j < k→∀ y,nth l j=some y→ltS y x=true) (hend:ltS x x=false):JI l x=l:=by
 have hk:=J4H hx
 have h:=Jaw l x k zO (fun q hq y hy=>by rw [← JO] at hy;simp [geS,hlt q hq y hy]) (fun y hy=>by rw [← JO,hx] at hy;cases hy;simp [geS,hend])
 unfold JI
 rw [h,if_pos (by rw [← JO];exact hx)]
def J15 (m:MachD) (key:ByteArray):MachD:=⟨m.store,⟨JI m.touch.reads key,m.touch.writes⟩⟩
theorem J8R {l m:List ByteArray} {i:Nat} {x:ByteArray} (h:nth m i=some x):J0p l (m.take (i+1))=JI (J0p l (m.take i)) x:=by
 rw [JO] at h
 obtain ⟨hi,hx⟩:=List.getElem?_eq_some_iff.1 h
 rw [List.take_succ_eq_append_getElem hi,hx]
 simp [J0p]
theorem J51 (l m:List ByteArray):(J0p l m).length≤l.length+m.length:=by
 induction m generalizing l with
 | nil=>simp [J0p]
 | cons x m ih=>
  have h1:=ih (JI l x)
  have h2:=J3q l x
  simp only [J0p,List.foldl_cons,List.length_cons] at *
  omega
def J1D (s:List CellD) (key:ByteArray):Int:=JW (fun c=>decide (c.key=key)) s
theorem J9a (s:List CellD) (key:ByteArray) : -1≤J1D s key∧J1D s key < s.length:=by
 unfold J1D JW;split <;> omega
theorem J45 {α:Type} (p:α→Bool) (l:List α) (h:l.length≤9223372036854775807):J1 (JW p l):=by
 unfold JW J1;split <;> omega
theorem J2L {α:Type} (p:α→Bool) (l:List α) : -1≤JW p l∧JW p l < l.length:=by
 unfold JW;split <;> omega
theorem J6Y {α:Type} {p:α→Bool} {l:List α} {k:Nat} {x:α} (h:JW p l=k) (hx:nth l k=some x):p x=true∧∀ j,j < k→∀ y,nth l j=some y→p y=false:=by
 unfold JW at h
 split at h
 ·rename_i hlt
  have hk:l.findIdx p=k:=by omega
  subst hk
  rw [JO] at hx
  obtain ⟨h1,h2⟩:=List.getElem?_eq_some_iff.1 hx
  refine ⟨?_,fun j hj y hy=>?_⟩
  ·have:=List.findIdx_getElem (p:=p) (w:=hlt)
   rw [h2] at this;exact this
  rw [JO] at hy
  obtain ⟨h3,h4⟩:=List.getElem?_eq_some_iff.1 hy
  have:=List.not_of_lt_findIdx hj
  rw [h4] at this
  simpa using this
 omega
theorem J6Z {α:Type} {p:α→Bool} {l:List α} (h:¬ 0≤JW p l):∀ j,j < l.length→∀ y,nth l j=some y→p y=false:=by
 intro j hj y hy
 unfold JW at h
 split at h
 ·omega
 rename_i hlt
 rw [JO] at hy
 obtain ⟨h3,h4⟩:=List.getElem?_eq_some_iff.1 hy
 have:j < l.findIdx p:=by omega
 have:=List.not_of_lt_findIdx this
 rw [h4] at this
 simpa using this
def kb (n:Nat):Bool:=decide (33≤n∧n≤126∧n≠42)
def J0L (key:ByteArray):Bool:=(List.range key.size).all (fun j=>kb (J5 key j)) && inB key.size 1 40
theorem J9e {key:ByteArray} {j:Nat} (hj:j < key.size) (h:kb (J5 key j)=false):J0L key=false:=by
 have:(List.range key.size).all (fun j=>kb (J5 key j))=false:=by
  rw [List.all_eq_false]
  exact ⟨j,List.mem_range.2 hj,by simp [h]⟩
 simp [J0L,this]
theorem J9d {key:ByteArray} (h:∀ j,j < key.size→kb (J5 key j)=true):J0L key=inB key.size 1 40:=by
 have:(List.range key.size).all (fun j=>kb (J5 key j))=true:=by
  rw [List.all_eq_true]
  exact fun j hj=>h j (List.mem_range.1 hj)
 simp [J0L,this]
theorem Jbi (n:Nat):kb n=(inB n 33 126 && decide (n≠42)):=by
 unfold kb inB
 by_cases h:n=42 <;> simp [h]
 by_cases h1:33≤n <;> by_cases h2:n≤126 <;> simp [h1,h2] <;> omega
def Jx (s:List CellD) (key:ByteArray):List CellD:=s.filter fun c=>decide (c.key≠key)
theorem J2X (s:List CellD) (key:ByteArray):(Jx s key).length≤s.length:=List.length_filter_le _ _
theorem J1l {α:Type} {l:List α} {k:Nat} {x:α} (hx:nth l k=some x):l.take (k+1)=l.take k++[x]:=by
 rw [JO] at hx
 obtain ⟨h1,h2⟩:=List.getElem?_eq_some_iff.1 hx
 rw [List.take_succ_eq_append_getElem h1,h2]
theorem J6n (s:List CellD) (key:ByteArray) (x:CellD):Jx (s++[x]) key=Jx s key++if x.key=key then [] else [x]:=by
 unfold Jx
 rw [List.filter_append]
 by_cases h:x.key=key <;> simp [h]
theorem J8M {s:List CellD} {key:ByteArray} (h:∀ c ∈ s,c.key≠key):Jx s key=s:=by
 unfold Jx
 rw [List.filter_eq_self]
 exact fun c hc=>decide_eq_true (h c hc)
theorem JdO {s:List CellD} {key:ByteArray} (h:JW (fun c:CellD=>decide (c.key=key)) s=-1):s=Jx s key:=by
 refine (J8M fun c hc=>?_).symm
 obtain ⟨j,hj,rfl⟩:=List.mem_iff_getElem.1 hc
 have:=J6Z (p:=fun c:CellD=>decide (c.key=key)) (l:=s) zO j hj s[j] (by rw [JO];simp [hj])
 simpa using this
def delInv (s:List CellD) (key:ByteArray) (j ii:Nat) (D:List CellD):Prop:=D.length=s.length∧j≤s.length∧ii < j∧ii=(Jx (s.take j) key).length∧D.take ii=Jx (s.take j) key∧D.drop j=s.drop j
theorem Jfq {s:List CellD} {key:ByteArray} (h:¬ JW (fun c:CellD=>decide (c.key=key)) s=-1):∃ k0:Nat,JW (fun c:CellD=>decide (c.key=key)) s=(k0:Int)∧k0 < s.length∧delInv s key (k0+1) k0 s:=by
 have hb:=J2L (fun c:CellD=>decide (c.key=key)) s
 obtain ⟨k0,hk0⟩:∃ k0:Nat,JW (fun c:CellD=>decide (c.key=key)) s=(k0:Int):=⟨(JW (fun c:CellD=>decide (c.key=key)) s).toNat,zO⟩
 have hlt:k0 < s.length:=by omega
 have hx:nth s k0=some s[k0]:=by rw [JO];simp [hlt]
 obtain ⟨h1,h2⟩:=J6Y hk0 hx
 have e1:Jx (s.take k0) key=s.take k0:=J8M fun c hc=>by
  obtain ⟨j,hj,rfl⟩:=List.mem_iff_getElem.1 hc
  rw [List.length_take] at hj
  have:=h2 j zO _ (show nth s j=some s[j] by rw [JO];simp [show j < s.length by omega])
  simpa using this
 have e2:Jx (s.take (k0+1)) key=s.take k0:=by
  rw [J1l hx,J6n,e1,if_pos (by simpa using h1),List.append_nil]
 exact ⟨k0,hk0,hlt,rfl,hlt,zO,by rw [e2,List.length_take];omega,e2.symm,rfl⟩
theorem delInv.nthE {s D:List CellD} {key:ByteArray} {j ii:Nat} {x:CellD} (h:delInv s key j ii D) (hx:nth D j=some x):nth s j=some x:=by
 obtain ⟨_,_,_,_,_,h6⟩:=h
 rw [JO] at hx ⊢
 have:=congrArg (fun l=>l[0]?) h6
 simp only [List.getElem?_drop,Nat.add_zero] at this
 rw [← this];exact hx
theorem J96 {α:Type} {D s:List α} {j:Nat} (h:D.drop j=s.drop j):D.drop (j+1)=s.drop (j+1):=by
 rw [← List.drop_drop,← List.drop_drop,h]
theorem delInv.skip {s D:List CellD} {key:ByteArray} {j ii:Nat} {x:CellD} (h:delInv s key j ii D) (hx:nth D j=some x) (hk:x.key=key):delInv s key (j+1) ii D:=by
 have hs:=h.nthE hx
 obtain ⟨h1,h2,h3,h4,h5,h6⟩:=h
 have e:Jx (s.take (j+1)) key=Jx (s.take j) key:=by rw [J1l hs,J6n,if_pos hk,List.append_nil]
 exact ⟨h1,J4H hs,zO,by rw [e];exact h4,by rw [e];exact h5,J96 h6⟩
theorem delInv.keep {s D:List CellD} {key:ByteArray} {j ii:Nat} {x:CellD} (h:delInv s key j ii D) (hx:nth D j=some x) (hk:¬ x.key=key):delInv s key (j+1) (ii+1) (D.set ii x):=by
 have hs:=h.nthE hx
 obtain ⟨h1,h2,h3,h4,h5,h6⟩:=h
 have e:Jx (s.take (j+1)) key=Jx (s.take j) key++[x]:=by rw [J1l hs,J6n,if_neg hk]
 have hlt:=J4H hs
 refine ⟨by rw [List.length_set];exact h1,hlt,zO,by rw [e,List.length_append,← h4];rfl,?_,?_⟩
 ·rw [e,← h5]
  have hx2:nth (D.set ii x) ii=some x:=by rw [JO,List.getElem?_set_self zO]
  rw [J1l hx2,List.take_set,List.set_eq_of_length_le (by rw [List.length_take];omega)]
 rw [List.drop_set_of_lt zO]
 exact J96 h6
theorem delInv.bd {s D:List CellD} {key:ByteArray} {j ii:Nat} (h:delInv s key j ii D):ii < j∧j≤s.length∧D.length=s.length:=⟨h.2.2.1,h.2.1,h.1⟩
theorem delInv.done {s D:List CellD} {key:ByteArray} {j ii:Nat} (h:delInv s key j ii D) (hj:s.length≤j) (r:List CellD):(D.take ii++r).take ii=Jx s key:=by
 obtain ⟨h1,h2,h3,h4,h5,h6⟩:=h
 rw [List.take_left' (by rw [List.length_take];omega),h5,List.take_of_length_le hj]
def J1k (r:List CellD) (key val:ByteArray):List CellD:=JL r (r.findIdx fun c=>!leS c.key key) ⟨key,val⟩
def Jp (s:List CellD) (key val:ByteArray):List CellD:=if J0L key=true∧val.size≤60 then (if val=⟨#[]⟩ then Jx s key else J1k (Jx s key) key val) else s
theorem J4m (s:List CellD) (key val:ByteArray):(Jp s key val).length≤s.length+1:=by
 have:=J2X s key
 unfold Jp
 split
 ·split
  ·omega
  unfold J1k;rw [J6g _ _ _ List.findIdx_le_length];omega
 omega
theorem J5h {s:List CellD} {key val:ByteArray} (h:J0L key=false∨60 < val.size):Jp s key val=s:=by
 unfold Jp
 rw [if_neg (fun e=>by rcases h with h|h;(rw [h] at e;exact absurd e.1 (by decide));omega)]
theorem J5b {s:List CellD} {key val:ByteArray} (h1:J0L key=true) (h3:val=⟨#[]⟩):Jp s key val=Jx s key:=by
 subst h3
 unfold Jp
 rw [if_pos ⟨h1,by decide⟩,if_pos rfl]
theorem J6z {s:List CellD} {key val:ByteArray} (h1:J0L key=true) (h2:val.size≤60) (h3:¬ val=⟨#[]⟩):Jp s key val=J1k (Jx s key) key val:=by
 unfold Jp
 rw [if_pos ⟨h1,h2⟩,if_neg h3]
theorem Jgm {r:List CellD} {key val:ByteArray} {z:Int} (h:z=JW (fun c:CellD=>!leS c.key key) r) (h0:0≤z):JL r z.toNat ⟨key,val⟩=J1k r key val:=by
 subst h
 unfold J1k JW at *
 split at h0
 ·rename_i hlt;rw [if_pos hlt];rfl
 omega
theorem Jfy {r:List CellD} {key val:ByteArray} {n:Nat} (hn:n=r.length) (h:JW (fun c:CellD=>!leS c.key key) r < 0):JL r ((n:Nat):Int).toNat ⟨key,val⟩=J1k r key val:=by
 subst hn
 unfold J1k
 have:r.findIdx (fun c:CellD=>!leS c.key key)=r.length:=by
  have h1:r.findIdx (fun c:CellD=>!leS c.key key)≤r.length:=List.findIdx_le_length
  unfold JW at h
  split at h <;> omega
 rw [this];rfl
def J0l (s:List CellD) (key val:ByteArray) (p:List CellD × Bool):List CellD × Bool:=s.foldl (fun p c=>
 let q:=if p.2=false∧(!leS c.key key)=true then (p.1++[⟨key,val⟩],true) else p
 if c.key=key then q else (q.1++[c],q.2)) p
theorem J5g {s:List CellD} {key val:ByteArray} {p q:List CellD × Bool} {k:Nat} {x:CellD} (h:J0l (s.take k) key val p=q) (hx:nth s k=some x) :
 J0l (s.take (k+1)) key val p=(let r:=if q.2=false∧(!leS x.key key)=true then (q.1++[⟨key,val⟩],true) else q
  if x.key=key then r else (r.1++[x],r.2)):=by
 subst h
 rw [J1l hx]
 unfold J0l
 rw [List.foldl_append]
 rfl
theorem J4t (k:ByteArray):leS k k=true:=by simp [leS]
theorem nt {b:Bool} (h:(!b)=true):b=false:=by simpa using h
theorem nf {b:Bool} (h:(!b)=false):b=true:=by simpa using h
theorem JhA {s:List CellD} {key val:ByteArray} {p:List CellD × Bool} {O:List CellD} {dd:Bool} {k:Nat} {x:CellD} (h:J0l (s.take k) key val p=(O,dd)) (hx:nth s k=some x) (h1:(!dd)=true) (h2:(!leS x.key key)=true) (h3:x.key≠key):J0l (s.take (k+1)) key val p=(O++[⟨key,val⟩]++[x],true):=by
 rw [J5g h hx];simp [nt h1,h2,h3]
theorem Jb0 {s:List CellD} {key val:ByteArray} {p:List CellD × Bool} {O:List CellD} {dd:Bool} {k:Nat} {x:CellD} (h:J0l (s.take k) key val p=(O,dd)) (hx:nth s k=some x) (h1:(!dd)=false∨(!leS x.key key)=false) (h3:x.key≠key):J0l (s.take (k+1)) key val p=(O++[x],dd):=by
 rw [J5g h hx]
 rcases h1 with h1|h1
 ·simp [nf h1,h3]
 simp [nf h1,h3]
theorem Jb1 {s:List CellD} {key val:ByteArray} {p:List CellD × Bool} {O:List CellD} {dd:Bool} {k:Nat} {x:CellD} (h:J0l (s.take k) key val p=(O,dd)) (hx:nth s k=some x) (h1:(!dd)=false∨(!leS x.key key)=false) (h3:¬ x.key≠key):J0l (s.take (k+1)) key val p=(O,dd):=by
 rw [J5g h hx]
 rcases h1 with h1|h1
 ·simp [Decidable.not_not.1 h3,J4t]
 simp [Decidable.not_not.1 h3,J4t]
theorem JhB {s:List CellD} {key val:ByteArray} {p:List CellD × Bool} {O:List CellD} {dd:Bool} {k:Nat} {x:CellD} (h:J0l (s.take k) key val p=(O,dd)) (hx:nth s k=some x) (_h1:(!dd)=true) (h2:(!leS x.key key)=true) (h3:¬ x.key≠key):J0l (s.take (k+1)) key val p=(O++[⟨key,val⟩],true):=by
 rw [J5g h hx]
 have h4:=Decidable.not_not.1 h3
 rw [h4,J4t] at h2
 exact absurd h2 (by decide)
theorem J9m (s:List CellD) (key val:ByteArray) (o:List CellD):J0l s key val (o,true)=(o++Jx s key,true):=by
 induction s generalizing o with
 | nil=>simp [J0l,Jx]
 | cons c s ih=>
  have e:J0l (c::s) key val (o,true)=J0l s key val (if c.key=key then (o,true) else (o++[c],true)):=by
   show J0l s key val _=_
   by_cases h:c.key=key <;> simp [h]
  rw [e]
  by_cases h:c.key=key
  ·rw [if_pos h,ih];simp [Jx,h]
  rw [if_neg h,ih];simp [Jx,h]
theorem Jee {α:Type} (l:List α) (a:α) (i:Nat) (x:α):JL (a::l) (i+1) x=a::JL l i x:=by simp [JL]
theorem Jep (s:List CellD) (key val:ByteArray) (o:List CellD):(J0l s key val (o,false)).1++(if (J0l s key val (o,false)).2=false then [⟨key,val⟩] else [])=o++J1k (Jx s key) key val:=by
 induction s generalizing o with
 | nil=>simp [J0l,Jx,J1k,JL]
 | cons c s ih=>
  by_cases hg:(!leS c.key key)=true
  ·have hne:c.key≠key:=fun e=>by rw [e,J4t] at hg;exact absurd hg (by decide)
   have e:J0l (c::s) key val (o,false)=J0l s key val (o++[⟨key,val⟩]++[c],true):=by
    show J0l s key val _=_
    simp [hg,hne]
   rw [e,J9m]
   have:Jx (c::s) key=c::Jx s key:=by simp [Jx,hne]
   rw [this]
   simp [J1k,JL,List.findIdx_cons,hg]
  have e:J0l (c::s) key val (o,false)=J0l s key val (if c.key=key then (o,false) else (o++[c],false)):=by
   show J0l s key val _=_
   by_cases h:c.key=key <;> simp [h,hg,J4t]
  rw [e]
  by_cases h:c.key=key
  ·rw [if_pos h,ih];simp [Jx,h]
  rw [if_neg h,ih]
  have:Jx (c::s) key=c::Jx s key:=by simp [Jx,h]
  rw [this]
  simp [J1k,List.findIdx_cons,hg,Jee]
theorem JfL {s:List CellD} {key val:ByteArray} {k:Nat} {O:List CellD} {dd:Bool} (h:J0l (s.take k) key val ([],decide (val=⟨#[]⟩))=(O,dd)) (hk:s.length≤k) (h1:J0L key=true) (h2:val.size≤60):O++(if dd=false then [⟨key,val⟩] else [])=Jp s key val:=by
 rw [List.take_of_length_le hk] at h
 by_cases h3:val=⟨#[]⟩
 ·rw [J5b h1 h3]
  rw [decide_eq_true h3,J9m] at h
  obtain ⟨rfl,rfl⟩:=Prod.mk.inj h
  simp
 rw [J6z h1 h2 h3]
 rw [decide_eq_false h3] at h
 have:=Jep s key val []
 rw [h] at this
 simpa using this
def J1M (m:MachD) (key val:ByteArray):MachD:=⟨Jp m.store key val,⟨m.touch.reads,JI m.touch.writes key⟩⟩
def J1w (m:MachD) (ks:List ByteArray):MachD:=ks.foldl (fun m k=>J1M m k ⟨#[]⟩) m
def J2x (m:MachD) (pfx:ByteArray):MachD:=J1w (J15 m (pfx++⟨#[42]⟩)) (Jt m.store pfx)
theorem JeD {m:MachD} {ks:List ByteArray} {k:Nat} {x:ByteArray} (hx:nth ks k=some x):J1w m (ks.take (k+1))=J1M (J1w m (ks.take k)) x ⟨#[]⟩:=by
 rw [J1l hx];unfold J1w;rw [List.foldl_append];rfl
theorem Jg6 (m:MachD) (ks:List ByteArray):(J1w m ks).store.length≤m.store.length+ks.length∧(J1w m ks).touch.reads.length=m.touch.reads.length∧(J1w m ks).touch.writes.length≤m.touch.writes.length+ks.length:=by
 induction ks generalizing m with
 | nil=>simp [J1w]
 | cons x ks ih=>
  have h1:=ih (J1M m x ⟨#[]⟩)
  have h2:=J4m m.store x ⟨#[]⟩
  have h3:=J3q m.touch.writes x
  simp only [J1w,List.foldl_cons,List.length_cons] at h1 ⊢
  simp only [J1M] at h1
  simp only [J1M]
  omega
theorem JaY {α:Type} {l:List α} {k:Nat} {x:α} (h:nth l k=some x):x ∈ l:=List.mem_of_getElem? (by rw [← JO];exact h)
structure CurD where
 code:List Nat
 pos:Nat
 h:Int
def J2s (s p:ByteArray):Bool:=decide (p.size≤s.size∧s.extract (s.size - p.size) s.size=p)
def J1C (s p:ByteArray):ByteArray:=if J2s s p then s.extract 0 (s.size - p.size) else s
theorem JeU {s p:ByteArray} (h:J2s s p=true):p.size≤s.size:=(of_decide_eq_true h).1
theorem Je7 {s p:ByteArray} (h:J2s s p=true):J1C s p=s.extract 0 (s.size - p.size):=if_pos h
theorem JeL {s p:ByteArray} (h:J2s s p=false):J1C s p=s:=if_neg (by rw [h];decide)
end Go.Proofs.YtipdbeklopjbmaaGreatDoor
