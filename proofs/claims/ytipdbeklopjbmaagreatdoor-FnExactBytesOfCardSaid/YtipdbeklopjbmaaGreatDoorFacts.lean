/-
  What the walks ask of the program: its types' shapes, its functions' bodies.
-/
import Derived.Test.YtipdbeklopjbmaaGreatDoorP02
import Derived.Test.YtipdbeklopjbmaaGreatDoorP03
set_option linter.unusedVariables false
set_option linter.unusedSimpArgs false
namespace Go.Proofs.YtipdbeklopjbmaaGreatDoor
open Go.ChangeShapes Go.WideShapes Go.ChangeAt Go.RowKit
theorem BI_210:BI Tryz.prog 210 [(0,1),(1,2)] [.slice none 0 0,.slice none 0 0,.slice none 0 0]:=bi_mk2 Tryz.underlying210 (zv:=.agg #[.slice none 0 0,.slice none 0 0,.slice none 0 0]) (by kernel_rfl) rfl (by kernel_rfl)
theorem BI_56:BI Tryz.prog 56 [(0,1),(1,1)] [.slice none 0 0,.slice none 0 0]:=bi_mk2 Tryz.underlying56 (zv:=.agg #[.slice none 0 0,.slice none 0 0]) (by kernel_rfl) rfl (by kernel_rfl)
theorem BI_91:BI Tryz.prog 91 [(0,1),(1,1)] [.string (⟨#[]⟩:ByteArray),.string (⟨#[]⟩:ByteArray)]:=bi_mk2 Tryz.underlying91 (zv:=.agg #[.string (⟨#[]⟩:ByteArray),.string (⟨#[]⟩:ByteArray)]) (by kernel_rfl) rfl (by kernel_rfl)
theorem CF_10:CF Tryz.prog 10:=⟨⟨_,_,Tryz.func10,rfl,by kernel_rfl⟩⟩
instance : CFc Tryz.prog 10:=⟨CF_10⟩
theorem CF_100:CF Tryz.prog 100:=⟨⟨_,_,Tryz.func100,rfl,by kernel_rfl⟩⟩
instance : CFc Tryz.prog 100:=⟨CF_100⟩
theorem CF_101:CF Tryz.prog 101:=⟨⟨_,_,Tryz.func101,rfl,by kernel_rfl⟩⟩
instance : CFc Tryz.prog 101:=⟨CF_101⟩
theorem CF_102:CF Tryz.prog 102:=⟨⟨_,_,Tryz.func102,rfl,by kernel_rfl⟩⟩
instance : CFc Tryz.prog 102:=⟨CF_102⟩
theorem CF_103:CF Tryz.prog 103:=⟨⟨_,_,Tryz.func103,rfl,by kernel_rfl⟩⟩
instance : CFc Tryz.prog 103:=⟨CF_103⟩
theorem CF_104:CF Tryz.prog 104:=⟨⟨_,_,Tryz.func104,rfl,by kernel_rfl⟩⟩
instance : CFc Tryz.prog 104:=⟨CF_104⟩
theorem CF_105:CF Tryz.prog 105:=⟨⟨_,_,Tryz.func105,rfl,by kernel_rfl⟩⟩
instance : CFc Tryz.prog 105:=⟨CF_105⟩
theorem CF_106:CF Tryz.prog 106:=⟨⟨_,_,Tryz.func106,rfl,by kernel_rfl⟩⟩
instance : CFc Tryz.prog 106:=⟨CF_106⟩
theorem CF_107:CF Tryz.prog 107:=⟨⟨_,_,Tryz.func107,rfl,by kernel_rfl⟩⟩
instance : CFc Tryz.prog 107:=⟨CF_107⟩
theorem CF_109:CF Tryz.prog 109:=⟨⟨_,_,Tryz.func109,rfl,by kernel_rfl⟩⟩
instance : CFc Tryz.prog 109:=⟨CF_109⟩
theorem CF_11:CF Tryz.prog 11:=⟨⟨_,_,Tryz.func11,rfl,by kernel_rfl⟩⟩
instance : CFc Tryz.prog 11:=⟨CF_11⟩
theorem CF_112:CF Tryz.prog 112:=⟨⟨_,_,Tryz.func112,rfl,by kernel_rfl⟩⟩
instance : CFc Tryz.prog 112:=⟨CF_112⟩
theorem CF_113:CF Tryz.prog 113:=⟨⟨_,_,Tryz.func113,rfl,by kernel_rfl⟩⟩
instance : CFc Tryz.prog 113:=⟨CF_113⟩
theorem CF_114:CF Tryz.prog 114:=⟨⟨_,_,Tryz.func114,rfl,by kernel_rfl⟩⟩
instance : CFc Tryz.prog 114:=⟨CF_114⟩
theorem CF_115:CF Tryz.prog 115:=⟨⟨_,_,Tryz.func115,rfl,by kernel_rfl⟩⟩
instance : CFc Tryz.prog 115:=⟨CF_115⟩
theorem CF_117:CF Tryz.prog 117:=⟨⟨_,_,Tryz.func117,rfl,by kernel_rfl⟩⟩
instance : CFc Tryz.prog 117:=⟨CF_117⟩
theorem CF_12:CF Tryz.prog 12:=⟨⟨_,_,Tryz.func12,rfl,by kernel_rfl⟩⟩
instance : CFc Tryz.prog 12:=⟨CF_12⟩
theorem CF_120:CF Tryz.prog 120:=⟨⟨_,_,Tryz.func120,rfl,by kernel_rfl⟩⟩
instance : CFc Tryz.prog 120:=⟨CF_120⟩
theorem CF_121:CF Tryz.prog 121:=⟨⟨_,_,Tryz.func121,rfl,by kernel_rfl⟩⟩
instance : CFc Tryz.prog 121:=⟨CF_121⟩
theorem CF_122:CF Tryz.prog 122:=⟨⟨_,_,Tryz.func122,rfl,by kernel_rfl⟩⟩
instance : CFc Tryz.prog 122:=⟨CF_122⟩
theorem CF_124:CF Tryz.prog 124:=⟨⟨_,_,Tryz.func124,rfl,by kernel_rfl⟩⟩
instance : CFc Tryz.prog 124:=⟨CF_124⟩
theorem CF_129:CF Tryz.prog 129:=⟨⟨_,_,Tryz.func129,rfl,by kernel_rfl⟩⟩
instance : CFc Tryz.prog 129:=⟨CF_129⟩
theorem CF_13:CF Tryz.prog 13:=⟨⟨_,_,Tryz.func13,rfl,by kernel_rfl⟩⟩
instance : CFc Tryz.prog 13:=⟨CF_13⟩
theorem CF_130:CF Tryz.prog 130:=⟨⟨_,_,Tryz.func130,rfl,by kernel_rfl⟩⟩
instance : CFc Tryz.prog 130:=⟨CF_130⟩
theorem CF_131:CF Tryz.prog 131:=⟨⟨_,_,Tryz.func131,rfl,by kernel_rfl⟩⟩
instance : CFc Tryz.prog 131:=⟨CF_131⟩
theorem CF_132:CF Tryz.prog 132:=⟨⟨_,_,Tryz.func132,rfl,by kernel_rfl⟩⟩
instance : CFc Tryz.prog 132:=⟨CF_132⟩
theorem CF_133:CF Tryz.prog 133:=⟨⟨_,_,Tryz.func133,rfl,by kernel_rfl⟩⟩
instance : CFc Tryz.prog 133:=⟨CF_133⟩
theorem CF_134:CF Tryz.prog 134:=⟨⟨_,_,Tryz.func134,rfl,by kernel_rfl⟩⟩
instance : CFc Tryz.prog 134:=⟨CF_134⟩
theorem CF_135:CF Tryz.prog 135:=⟨⟨_,_,Tryz.func135,rfl,by kernel_rfl⟩⟩
instance : CFc Tryz.prog 135:=⟨CF_135⟩
theorem CF_138:CF Tryz.prog 138:=⟨⟨_,_,Tryz.func138,rfl,by kernel_rfl⟩⟩
instance : CFc Tryz.prog 138:=⟨CF_138⟩
theorem CF_139:CF Tryz.prog 139:=⟨⟨_,_,Tryz.func139,rfl,by kernel_rfl⟩⟩
instance : CFc Tryz.prog 139:=⟨CF_139⟩
theorem CF_14:CF Tryz.prog 14:=⟨⟨_,_,Tryz.func14,rfl,by kernel_rfl⟩⟩
instance : CFc Tryz.prog 14:=⟨CF_14⟩
theorem CF_140:CF Tryz.prog 140:=⟨⟨_,_,Tryz.func140,rfl,by kernel_rfl⟩⟩
instance : CFc Tryz.prog 140:=⟨CF_140⟩
theorem CF_141:CF Tryz.prog 141:=⟨⟨_,_,Tryz.func141,rfl,by kernel_rfl⟩⟩
instance : CFc Tryz.prog 141:=⟨CF_141⟩
theorem CF_144:CF Tryz.prog 144:=⟨⟨_,_,Tryz.func144,rfl,by kernel_rfl⟩⟩
instance : CFc Tryz.prog 144:=⟨CF_144⟩
theorem CF_145:CF Tryz.prog 145:=⟨⟨_,_,Tryz.func145,rfl,by kernel_rfl⟩⟩
instance : CFc Tryz.prog 145:=⟨CF_145⟩
theorem CF_146:CF Tryz.prog 146:=⟨⟨_,_,Tryz.func146,rfl,by kernel_rfl⟩⟩
instance : CFc Tryz.prog 146:=⟨CF_146⟩
theorem CF_147:CF Tryz.prog 147:=⟨⟨_,_,Tryz.func147,rfl,by kernel_rfl⟩⟩
instance : CFc Tryz.prog 147:=⟨CF_147⟩
theorem CF_15:CF Tryz.prog 15:=⟨⟨_,_,Tryz.func15,rfl,by kernel_rfl⟩⟩
instance : CFc Tryz.prog 15:=⟨CF_15⟩
theorem CF_150:CF Tryz.prog 150:=⟨⟨_,_,Tryz.func150,rfl,by kernel_rfl⟩⟩
instance : CFc Tryz.prog 150:=⟨CF_150⟩
theorem CF_151:CF Tryz.prog 151:=⟨⟨_,_,Tryz.func151,rfl,by kernel_rfl⟩⟩
instance : CFc Tryz.prog 151:=⟨CF_151⟩
theorem CF_152:CF Tryz.prog 152:=⟨⟨_,_,Tryz.func152,rfl,by kernel_rfl⟩⟩
instance : CFc Tryz.prog 152:=⟨CF_152⟩
theorem CF_153:CF Tryz.prog 153:=⟨⟨_,_,Tryz.func153,rfl,by kernel_rfl⟩⟩
instance : CFc Tryz.prog 153:=⟨CF_153⟩
theorem CF_154:CF Tryz.prog 154:=⟨⟨_,_,Tryz.func154,rfl,by kernel_rfl⟩⟩
instance : CFc Tryz.prog 154:=⟨CF_154⟩
theorem CF_155:CF Tryz.prog 155:=⟨⟨_,_,Tryz.func155,rfl,by kernel_rfl⟩⟩
instance : CFc Tryz.prog 155:=⟨CF_155⟩
theorem CF_159:CF Tryz.prog 159:=⟨⟨_,_,Tryz.func159,rfl,by kernel_rfl⟩⟩
instance : CFc Tryz.prog 159:=⟨CF_159⟩
theorem CF_166:CF Tryz.prog 166:=⟨⟨_,_,Tryz.func166,rfl,by kernel_rfl⟩⟩
instance : CFc Tryz.prog 166:=⟨CF_166⟩
theorem CF_168:CF Tryz.prog 168:=⟨⟨_,_,Tryz.func168,rfl,by kernel_rfl⟩⟩
instance : CFc Tryz.prog 168:=⟨CF_168⟩
theorem CF_170:CF Tryz.prog 170:=⟨⟨_,_,Tryz.func170,rfl,by kernel_rfl⟩⟩
instance : CFc Tryz.prog 170:=⟨CF_170⟩
theorem CF_172:CF Tryz.prog 172:=⟨⟨_,_,Tryz.func172,rfl,by kernel_rfl⟩⟩
instance : CFc Tryz.prog 172:=⟨CF_172⟩
theorem CF_174:CF Tryz.prog 174:=⟨⟨_,_,Tryz.func174,rfl,by kernel_rfl⟩⟩
instance : CFc Tryz.prog 174:=⟨CF_174⟩
theorem CF_175:CF Tryz.prog 175:=⟨⟨_,_,Tryz.func175,rfl,by kernel_rfl⟩⟩
instance : CFc Tryz.prog 175:=⟨CF_175⟩
theorem CF_177:CF Tryz.prog 177:=⟨⟨_,_,Tryz.func177,rfl,by kernel_rfl⟩⟩
instance : CFc Tryz.prog 177:=⟨CF_177⟩
theorem CF_18:CF Tryz.prog 18:=⟨⟨_,_,Tryz.func18,rfl,by kernel_rfl⟩⟩
instance : CFc Tryz.prog 18:=⟨CF_18⟩
theorem CF_180:CF Tryz.prog 180:=⟨⟨_,_,Tryz.func180,rfl,by kernel_rfl⟩⟩
instance : CFc Tryz.prog 180:=⟨CF_180⟩
theorem CF_181:CF Tryz.prog 181:=⟨⟨_,_,Tryz.func181,rfl,by kernel_rfl⟩⟩
instance : CFc Tryz.prog 181:=⟨CF_181⟩
theorem CF_182:CF Tryz.prog 182:=⟨⟨_,_,Tryz.func182,rfl,by kernel_rfl⟩⟩
instance : CFc Tryz.prog 182:=⟨CF_182⟩
theorem CF_183:CF Tryz.prog 183:=⟨⟨_,_,Tryz.func183,rfl,by kernel_rfl⟩⟩
instance : CFc Tryz.prog 183:=⟨CF_183⟩
theorem CF_187:CF Tryz.prog 187:=⟨⟨_,_,Tryz.func187,rfl,by kernel_rfl⟩⟩
instance : CFc Tryz.prog 187:=⟨CF_187⟩
theorem CF_189:CF Tryz.prog 189:=⟨⟨_,_,Tryz.func189,rfl,by kernel_rfl⟩⟩
instance : CFc Tryz.prog 189:=⟨CF_189⟩
theorem CF_190:CF Tryz.prog 190:=⟨⟨_,_,Tryz.func190,rfl,by kernel_rfl⟩⟩
instance : CFc Tryz.prog 190:=⟨CF_190⟩
theorem CF_192:CF Tryz.prog 192:=⟨⟨_,_,Tryz.func192,rfl,by kernel_rfl⟩⟩
instance : CFc Tryz.prog 192:=⟨CF_192⟩
theorem CF_237:CF Tryz.prog 237:=⟨⟨_,_,Tryz.func237,rfl,by kernel_rfl⟩⟩
instance : CFc Tryz.prog 237:=⟨CF_237⟩
theorem CF_261:CF Tryz.prog 261:=⟨⟨_,_,Tryz.func261,rfl,by kernel_rfl⟩⟩
instance : CFc Tryz.prog 261:=⟨CF_261⟩
theorem CF_262:CF Tryz.prog 262:=⟨⟨_,_,Tryz.func262,rfl,by kernel_rfl⟩⟩
instance : CFc Tryz.prog 262:=⟨CF_262⟩
theorem CF_263:CF Tryz.prog 263:=⟨⟨_,_,Tryz.func263,rfl,by kernel_rfl⟩⟩
instance : CFc Tryz.prog 263:=⟨CF_263⟩
theorem CF_264:CF Tryz.prog 264:=⟨⟨_,_,Tryz.func264,rfl,by kernel_rfl⟩⟩
instance : CFc Tryz.prog 264:=⟨CF_264⟩
theorem CF_265:CF Tryz.prog 265:=⟨⟨_,_,Tryz.func265,rfl,by kernel_rfl⟩⟩
instance : CFc Tryz.prog 265:=⟨CF_265⟩
theorem CF_266:CF Tryz.prog 266:=⟨⟨_,_,Tryz.func266,rfl,by kernel_rfl⟩⟩
instance : CFc Tryz.prog 266:=⟨CF_266⟩
theorem CF_281:CF Tryz.prog 281:=⟨⟨_,_,Tryz.func281,rfl,by kernel_rfl⟩⟩
instance : CFc Tryz.prog 281:=⟨CF_281⟩
theorem CF_283:CF Tryz.prog 283:=⟨⟨_,_,Tryz.func283,rfl,by kernel_rfl⟩⟩
instance : CFc Tryz.prog 283:=⟨CF_283⟩
theorem CF_284:CF Tryz.prog 284:=⟨⟨_,_,Tryz.func284,rfl,by kernel_rfl⟩⟩
instance : CFc Tryz.prog 284:=⟨CF_284⟩
theorem CF_285:CF Tryz.prog 285:=⟨⟨_,_,Tryz.func285,rfl,by kernel_rfl⟩⟩
instance : CFc Tryz.prog 285:=⟨CF_285⟩
theorem CF_29:CF Tryz.prog 29:=⟨⟨_,_,Tryz.func29,rfl,by kernel_rfl⟩⟩
instance : CFc Tryz.prog 29:=⟨CF_29⟩
theorem CF_290:CF Tryz.prog 290:=⟨⟨_,_,Tryz.func290,rfl,by kernel_rfl⟩⟩
instance : CFc Tryz.prog 290:=⟨CF_290⟩
theorem CF_293:CF Tryz.prog 293:=⟨⟨_,_,Tryz.func293,rfl,by kernel_rfl⟩⟩
instance : CFc Tryz.prog 293:=⟨CF_293⟩
theorem CF_296:CF Tryz.prog 296:=⟨⟨_,_,Tryz.func296,rfl,by kernel_rfl⟩⟩
instance : CFc Tryz.prog 296:=⟨CF_296⟩
theorem CF_297:CF Tryz.prog 297:=⟨⟨_,_,Tryz.func297,rfl,by kernel_rfl⟩⟩
instance : CFc Tryz.prog 297:=⟨CF_297⟩
theorem CF_298:CF Tryz.prog 298:=⟨⟨_,_,Tryz.func298,rfl,by kernel_rfl⟩⟩
instance : CFc Tryz.prog 298:=⟨CF_298⟩
theorem CF_30:CF Tryz.prog 30:=⟨⟨_,_,Tryz.func30,rfl,by kernel_rfl⟩⟩
instance : CFc Tryz.prog 30:=⟨CF_30⟩
theorem CF_31:CF Tryz.prog 31:=⟨⟨_,_,Tryz.func31,rfl,by kernel_rfl⟩⟩
instance : CFc Tryz.prog 31:=⟨CF_31⟩
theorem CF_316:CF Tryz.prog 316:=⟨⟨_,_,Tryz.func316,rfl,by kernel_rfl⟩⟩
instance : CFc Tryz.prog 316:=⟨CF_316⟩
theorem CF_317:CF Tryz.prog 317:=⟨⟨_,_,Tryz.func317,rfl,by kernel_rfl⟩⟩
instance : CFc Tryz.prog 317:=⟨CF_317⟩
theorem CF_318:CF Tryz.prog 318:=⟨⟨_,_,Tryz.func318,rfl,by kernel_rfl⟩⟩
instance : CFc Tryz.prog 318:=⟨CF_318⟩
theorem CF_319:CF Tryz.prog 319:=⟨⟨_,_,Tryz.func319,rfl,by kernel_rfl⟩⟩
instance : CFc Tryz.prog 319:=⟨CF_319⟩
theorem CF_32:CF Tryz.prog 32:=⟨⟨_,_,Tryz.func32,rfl,by kernel_rfl⟩⟩
instance : CFc Tryz.prog 32:=⟨CF_32⟩
theorem CF_320:CF Tryz.prog 320:=⟨⟨_,_,Tryz.func320,rfl,by kernel_rfl⟩⟩
instance : CFc Tryz.prog 320:=⟨CF_320⟩
theorem CF_321:CF Tryz.prog 321:=⟨⟨_,_,Tryz.func321,rfl,by kernel_rfl⟩⟩
instance : CFc Tryz.prog 321:=⟨CF_321⟩
theorem CF_322:CF Tryz.prog 322:=⟨⟨_,_,Tryz.func322,rfl,by kernel_rfl⟩⟩
instance : CFc Tryz.prog 322:=⟨CF_322⟩
theorem CF_323:CF Tryz.prog 323:=⟨⟨_,_,Tryz.func323,rfl,by kernel_rfl⟩⟩
instance : CFc Tryz.prog 323:=⟨CF_323⟩
theorem CF_324:CF Tryz.prog 324:=⟨⟨_,_,Tryz.func324,rfl,by kernel_rfl⟩⟩
instance : CFc Tryz.prog 324:=⟨CF_324⟩
theorem CF_325:CF Tryz.prog 325:=⟨⟨_,_,Tryz.func325,rfl,by kernel_rfl⟩⟩
instance : CFc Tryz.prog 325:=⟨CF_325⟩
theorem CF_326:CF Tryz.prog 326:=⟨⟨_,_,Tryz.func326,rfl,by kernel_rfl⟩⟩
instance : CFc Tryz.prog 326:=⟨CF_326⟩
theorem CF_327:CF Tryz.prog 327:=⟨⟨_,_,Tryz.func327,rfl,by kernel_rfl⟩⟩
instance : CFc Tryz.prog 327:=⟨CF_327⟩
theorem CF_331:CF Tryz.prog 331:=⟨⟨_,_,Tryz.func331,rfl,by kernel_rfl⟩⟩
instance : CFc Tryz.prog 331:=⟨CF_331⟩
theorem CF_332:CF Tryz.prog 332:=⟨⟨_,_,Tryz.func332,rfl,by kernel_rfl⟩⟩
instance : CFc Tryz.prog 332:=⟨CF_332⟩
theorem CF_333:CF Tryz.prog 333:=⟨⟨_,_,Tryz.func333,rfl,by kernel_rfl⟩⟩
instance : CFc Tryz.prog 333:=⟨CF_333⟩
theorem CF_334:CF Tryz.prog 334:=⟨⟨_,_,Tryz.func334,rfl,by kernel_rfl⟩⟩
instance : CFc Tryz.prog 334:=⟨CF_334⟩
theorem CF_335:CF Tryz.prog 335:=⟨⟨_,_,Tryz.func335,rfl,by kernel_rfl⟩⟩
instance : CFc Tryz.prog 335:=⟨CF_335⟩
theorem CF_336:CF Tryz.prog 336:=⟨⟨_,_,Tryz.func336,rfl,by kernel_rfl⟩⟩
instance : CFc Tryz.prog 336:=⟨CF_336⟩
theorem CF_337:CF Tryz.prog 337:=⟨⟨_,_,Tryz.func337,rfl,by kernel_rfl⟩⟩
instance : CFc Tryz.prog 337:=⟨CF_337⟩
theorem CF_338:CF Tryz.prog 338:=⟨⟨_,_,Tryz.func338,rfl,by kernel_rfl⟩⟩
instance : CFc Tryz.prog 338:=⟨CF_338⟩
theorem CF_347:CF Tryz.prog 347:=⟨⟨_,_,Tryz.func347,rfl,by kernel_rfl⟩⟩
instance : CFc Tryz.prog 347:=⟨CF_347⟩
theorem CF_348:CF Tryz.prog 348:=⟨⟨_,_,Tryz.func348,rfl,by kernel_rfl⟩⟩
instance : CFc Tryz.prog 348:=⟨CF_348⟩
theorem CF_35:CF Tryz.prog 35:=⟨⟨_,_,Tryz.func35,rfl,by kernel_rfl⟩⟩
instance : CFc Tryz.prog 35:=⟨CF_35⟩
theorem CF_359:CF Tryz.prog 359:=⟨⟨_,_,Tryz.func359,rfl,by kernel_rfl⟩⟩
instance : CFc Tryz.prog 359:=⟨CF_359⟩
theorem CF_36:CF Tryz.prog 36:=⟨⟨_,_,Tryz.func36,rfl,by kernel_rfl⟩⟩
instance : CFc Tryz.prog 36:=⟨CF_36⟩
theorem CF_360:CF Tryz.prog 360:=⟨⟨_,_,Tryz.func360,rfl,by kernel_rfl⟩⟩
instance : CFc Tryz.prog 360:=⟨CF_360⟩
theorem CF_363:CF Tryz.prog 363:=⟨⟨_,_,Tryz.func363,rfl,by kernel_rfl⟩⟩
instance : CFc Tryz.prog 363:=⟨CF_363⟩
theorem CF_364:CF Tryz.prog 364:=⟨⟨_,_,Tryz.func364,rfl,by kernel_rfl⟩⟩
instance : CFc Tryz.prog 364:=⟨CF_364⟩
theorem CF_365:CF Tryz.prog 365:=⟨⟨_,_,Tryz.func365,rfl,by kernel_rfl⟩⟩
instance : CFc Tryz.prog 365:=⟨CF_365⟩
theorem CF_368:CF Tryz.prog 368:=⟨⟨_,_,Tryz.func368,rfl,by kernel_rfl⟩⟩
instance : CFc Tryz.prog 368:=⟨CF_368⟩
theorem CF_37:CF Tryz.prog 37:=⟨⟨_,_,Tryz.func37,rfl,by kernel_rfl⟩⟩
instance : CFc Tryz.prog 37:=⟨CF_37⟩
theorem CF_377:CF Tryz.prog 377:=⟨⟨_,_,Tryz.func377,rfl,by kernel_rfl⟩⟩
instance : CFc Tryz.prog 377:=⟨CF_377⟩
theorem CF_378:CF Tryz.prog 378:=⟨⟨_,_,Tryz.func378,rfl,by kernel_rfl⟩⟩
instance : CFc Tryz.prog 378:=⟨CF_378⟩
theorem CF_38:CF Tryz.prog 38:=⟨⟨_,_,Tryz.func38,rfl,by kernel_rfl⟩⟩
instance : CFc Tryz.prog 38:=⟨CF_38⟩
theorem CF_383:CF Tryz.prog 383:=⟨⟨_,_,Tryz.func383,rfl,by kernel_rfl⟩⟩
instance : CFc Tryz.prog 383:=⟨CF_383⟩
theorem CF_384:CF Tryz.prog 384:=⟨⟨_,_,Tryz.func384,rfl,by kernel_rfl⟩⟩
instance : CFc Tryz.prog 384:=⟨CF_384⟩
theorem CF_39:CF Tryz.prog 39:=⟨⟨_,_,Tryz.func39,rfl,by kernel_rfl⟩⟩
instance : CFc Tryz.prog 39:=⟨CF_39⟩
theorem CF_40:CF Tryz.prog 40:=⟨⟨_,_,Tryz.func40,rfl,by kernel_rfl⟩⟩
instance : CFc Tryz.prog 40:=⟨CF_40⟩
theorem CF_41:CF Tryz.prog 41:=⟨⟨_,_,Tryz.func41,rfl,by kernel_rfl⟩⟩
instance : CFc Tryz.prog 41:=⟨CF_41⟩
theorem CF_42:CF Tryz.prog 42:=⟨⟨_,_,Tryz.func42,rfl,by kernel_rfl⟩⟩
instance : CFc Tryz.prog 42:=⟨CF_42⟩
theorem CF_43:CF Tryz.prog 43:=⟨⟨_,_,Tryz.func43,rfl,by kernel_rfl⟩⟩
instance : CFc Tryz.prog 43:=⟨CF_43⟩
theorem CF_44:CF Tryz.prog 44:=⟨⟨_,_,Tryz.func44,rfl,by kernel_rfl⟩⟩
instance : CFc Tryz.prog 44:=⟨CF_44⟩
theorem CF_45:CF Tryz.prog 45:=⟨⟨_,_,Tryz.func45,rfl,by kernel_rfl⟩⟩
instance : CFc Tryz.prog 45:=⟨CF_45⟩
theorem CF_46:CF Tryz.prog 46:=⟨⟨_,_,Tryz.func46,rfl,by kernel_rfl⟩⟩
instance : CFc Tryz.prog 46:=⟨CF_46⟩
theorem CF_47:CF Tryz.prog 47:=⟨⟨_,_,Tryz.func47,rfl,by kernel_rfl⟩⟩
instance : CFc Tryz.prog 47:=⟨CF_47⟩
theorem CF_49:CF Tryz.prog 49:=⟨⟨_,_,Tryz.func49,rfl,by kernel_rfl⟩⟩
instance : CFc Tryz.prog 49:=⟨CF_49⟩
theorem CF_50:CF Tryz.prog 50:=⟨⟨_,_,Tryz.func50,rfl,by kernel_rfl⟩⟩
instance : CFc Tryz.prog 50:=⟨CF_50⟩
theorem CF_51:CF Tryz.prog 51:=⟨⟨_,_,Tryz.func51,rfl,by kernel_rfl⟩⟩
instance : CFc Tryz.prog 51:=⟨CF_51⟩
theorem CF_54:CF Tryz.prog 54:=⟨⟨_,_,Tryz.func54,rfl,by kernel_rfl⟩⟩
instance : CFc Tryz.prog 54:=⟨CF_54⟩
theorem CF_55:CF Tryz.prog 55:=⟨⟨_,_,Tryz.func55,rfl,by kernel_rfl⟩⟩
instance : CFc Tryz.prog 55:=⟨CF_55⟩
theorem CF_56:CF Tryz.prog 56:=⟨⟨_,_,Tryz.func56,rfl,by kernel_rfl⟩⟩
instance : CFc Tryz.prog 56:=⟨CF_56⟩
theorem CF_57:CF Tryz.prog 57:=⟨⟨_,_,Tryz.func57,rfl,by kernel_rfl⟩⟩
instance : CFc Tryz.prog 57:=⟨CF_57⟩
theorem CF_6:CF Tryz.prog 6:=⟨⟨_,_,Tryz.func6,rfl,by kernel_rfl⟩⟩
instance : CFc Tryz.prog 6:=⟨CF_6⟩
theorem CF_62:CF Tryz.prog 62:=⟨⟨_,_,Tryz.func62,rfl,by kernel_rfl⟩⟩
instance : CFc Tryz.prog 62:=⟨CF_62⟩
theorem CF_63:CF Tryz.prog 63:=⟨⟨_,_,Tryz.func63,rfl,by kernel_rfl⟩⟩
instance : CFc Tryz.prog 63:=⟨CF_63⟩
theorem CF_64:CF Tryz.prog 64:=⟨⟨_,_,Tryz.func64,rfl,by kernel_rfl⟩⟩
instance : CFc Tryz.prog 64:=⟨CF_64⟩
theorem CF_65:CF Tryz.prog 65:=⟨⟨_,_,Tryz.func65,rfl,by kernel_rfl⟩⟩
instance : CFc Tryz.prog 65:=⟨CF_65⟩
theorem CF_69:CF Tryz.prog 69:=⟨⟨_,_,Tryz.func69,rfl,by kernel_rfl⟩⟩
instance : CFc Tryz.prog 69:=⟨CF_69⟩
theorem CF_7:CF Tryz.prog 7:=⟨⟨_,_,Tryz.func7,rfl,by kernel_rfl⟩⟩
instance : CFc Tryz.prog 7:=⟨CF_7⟩
theorem CF_70:CF Tryz.prog 70:=⟨⟨_,_,Tryz.func70,rfl,by kernel_rfl⟩⟩
instance : CFc Tryz.prog 70:=⟨CF_70⟩
theorem CF_71:CF Tryz.prog 71:=⟨⟨_,_,Tryz.func71,rfl,by kernel_rfl⟩⟩
instance : CFc Tryz.prog 71:=⟨CF_71⟩
theorem CF_72:CF Tryz.prog 72:=⟨⟨_,_,Tryz.func72,rfl,by kernel_rfl⟩⟩
instance : CFc Tryz.prog 72:=⟨CF_72⟩
theorem CF_75:CF Tryz.prog 75:=⟨⟨_,_,Tryz.func75,rfl,by kernel_rfl⟩⟩
instance : CFc Tryz.prog 75:=⟨CF_75⟩
theorem CF_76:CF Tryz.prog 76:=⟨⟨_,_,Tryz.func76,rfl,by kernel_rfl⟩⟩
instance : CFc Tryz.prog 76:=⟨CF_76⟩
theorem CF_8:CF Tryz.prog 8:=⟨⟨_,_,Tryz.func8,rfl,by kernel_rfl⟩⟩
instance : CFc Tryz.prog 8:=⟨CF_8⟩
theorem CF_80:CF Tryz.prog 80:=⟨⟨_,_,Tryz.func80,rfl,by kernel_rfl⟩⟩
instance : CFc Tryz.prog 80:=⟨CF_80⟩
theorem CF_81:CF Tryz.prog 81:=⟨⟨_,_,Tryz.func81,rfl,by kernel_rfl⟩⟩
instance : CFc Tryz.prog 81:=⟨CF_81⟩
theorem CF_82:CF Tryz.prog 82:=⟨⟨_,_,Tryz.func82,rfl,by kernel_rfl⟩⟩
instance : CFc Tryz.prog 82:=⟨CF_82⟩
theorem CF_83:CF Tryz.prog 83:=⟨⟨_,_,Tryz.func83,rfl,by kernel_rfl⟩⟩
instance : CFc Tryz.prog 83:=⟨CF_83⟩
theorem CF_84:CF Tryz.prog 84:=⟨⟨_,_,Tryz.func84,rfl,by kernel_rfl⟩⟩
instance : CFc Tryz.prog 84:=⟨CF_84⟩
theorem CF_85:CF Tryz.prog 85:=⟨⟨_,_,Tryz.func85,rfl,by kernel_rfl⟩⟩
instance : CFc Tryz.prog 85:=⟨CF_85⟩
theorem CF_86:CF Tryz.prog 86:=⟨⟨_,_,Tryz.func86,rfl,by kernel_rfl⟩⟩
instance : CFc Tryz.prog 86:=⟨CF_86⟩
theorem CF_87:CF Tryz.prog 87:=⟨⟨_,_,Tryz.func87,rfl,by kernel_rfl⟩⟩
instance : CFc Tryz.prog 87:=⟨CF_87⟩
theorem CF_88:CF Tryz.prog 88:=⟨⟨_,_,Tryz.func88,rfl,by kernel_rfl⟩⟩
instance : CFc Tryz.prog 88:=⟨CF_88⟩
theorem CF_89:CF Tryz.prog 89:=⟨⟨_,_,Tryz.func89,rfl,by kernel_rfl⟩⟩
instance : CFc Tryz.prog 89:=⟨CF_89⟩
theorem CF_9:CF Tryz.prog 9:=⟨⟨_,_,Tryz.func9,rfl,by kernel_rfl⟩⟩
instance : CFc Tryz.prog 9:=⟨CF_9⟩
theorem CF_90:CF Tryz.prog 90:=⟨⟨_,_,Tryz.func90,rfl,by kernel_rfl⟩⟩
instance : CFc Tryz.prog 90:=⟨CF_90⟩
theorem CF_91:CF Tryz.prog 91:=⟨⟨_,_,Tryz.func91,rfl,by kernel_rfl⟩⟩
instance : CFc Tryz.prog 91:=⟨CF_91⟩
theorem CF_92:CF Tryz.prog 92:=⟨⟨_,_,Tryz.func92,rfl,by kernel_rfl⟩⟩
instance : CFc Tryz.prog 92:=⟨CF_92⟩
theorem CF_93:CF Tryz.prog 93:=⟨⟨_,_,Tryz.func93,rfl,by kernel_rfl⟩⟩
instance : CFc Tryz.prog 93:=⟨CF_93⟩
theorem CF_94:CF Tryz.prog 94:=⟨⟨_,_,Tryz.func94,rfl,by kernel_rfl⟩⟩
instance : CFc Tryz.prog 94:=⟨CF_94⟩
theorem CF_95:CF Tryz.prog 95:=⟨⟨_,_,Tryz.func95,rfl,by kernel_rfl⟩⟩
instance : CFc Tryz.prog 95:=⟨CF_95⟩
theorem CF_96:CF Tryz.prog 96:=⟨⟨_,_,Tryz.func96,rfl,by kernel_rfl⟩⟩
instance : CFc Tryz.prog 96:=⟨CF_96⟩
theorem CF_97:CF Tryz.prog 97:=⟨⟨_,_,Tryz.func97,rfl,by kernel_rfl⟩⟩
instance : CFc Tryz.prog 97:=⟨CF_97⟩
theorem CF_98:CF Tryz.prog 98:=⟨⟨_,_,Tryz.func98,rfl,by kernel_rfl⟩⟩
instance : CFc Tryz.prog 98:=⟨CF_98⟩
theorem CF_99:CF Tryz.prog 99:=⟨⟨_,_,Tryz.func99,rfl,by kernel_rfl⟩⟩
instance : CFc Tryz.prog 99:=⟨CF_99⟩
theorem ET_28:ElemT Tryz.prog 28 91 (.agg #[.string ⟨#[]⟩,.string ⟨#[]⟩]) 2 32 encC:={ ht:=Tryz.underlying28,hT:={ info:=by kernel_rfl,zs:=rfl,pos:=by decide },hk:=fun _=>rfl,h1:=by intro x u hu;simp [encC] at hu;rcases hu with rfl|rfl <;> rfl,by0:=by decide }
theorem ET_42:ElemT Tryz.prog 42 141 (.agg #[.int .i64 0,.string ⟨#[]⟩,.string ⟨#[]⟩,.int .i64 0,.int .i64 0,.string ⟨#[]⟩]) 6 72 encK:={ ht:=Tryz.underlying42,hT:={ info:=by kernel_rfl,zs:=rfl,pos:=by decide },hk:=fun _=>rfl,h1:=by intro x u hu;simp [encK] at hu;rcases hu with rfl|rfl|rfl|rfl|rfl|rfl <;> rfl,by0:=by decide }
theorem ET_43:ElemT Tryz.prog 43 144 (.agg #[.int .i64 0,.int .i64 0,.string ⟨#[]⟩]) 3 32 encR:={ ht:=Tryz.underlying43,hT:={ info:=by kernel_rfl,zs:=rfl,pos:=by decide },hk:=fun _=>rfl,h1:=by intro x u hu;simp [encR] at hu;rcases hu with rfl|rfl|rfl <;> rfl,by0:=by decide }
theorem ET_44:ElemT Tryz.prog 44 9 (.string ⟨#[]⟩) 1 16 encS:={ ht:=Tryz.underlying44,hT:={ info:=by kernel_rfl,zs:=rfl,pos:=by decide },hk:=fun _=>rfl,h1:=by intro x u hu;simp [encS] at hu;subst hu;rfl,by0:=by decide }
theorem ET_47:ElemT Tryz.prog 47 3 (.int .i64 0) 1 8 encI:={ ht:=Tryz.underlying47,hT:={ info:=by kernel_rfl,zs:=rfl,pos:=by decide },hk:=fun _=>rfl,h1:=by intro x u hu;simp [encI] at hu;subst hu;rfl,by0:=by decide }
theorem ET_54:ElemT Tryz.prog 54 153 (.agg #[.int .i64 0,.string ⟨#[]⟩,.string ⟨#[]⟩,.int .i64 0,.int .i64 0,.string ⟨#[]⟩]) 6 72 encK:={ ht:=Tryz.underlying54,hT:={ info:=by kernel_rfl,zs:=rfl,pos:=by decide },hk:=fun _=>rfl,h1:=by intro x u hu;simp [encK] at hu;rcases hu with rfl|rfl|rfl|rfl|rfl|rfl <;> rfl,by0:=by decide }
theorem ET_55:ElemT Tryz.prog 55 155 (.agg #[.int .i64 0,.int .i64 0,.string ⟨#[]⟩]) 3 32 encR:={ ht:=Tryz.underlying55,hT:={ info:=by kernel_rfl,zs:=rfl,pos:=by decide },hk:=fun _=>rfl,h1:=by intro x u hu;simp [encR] at hu;rcases hu with rfl|rfl|rfl <;> rfl,by0:=by decide }
theorem ET_62:ElemT Tryz.prog 62 5 (.int .u8 0) 1 1 encB:={ ht:=Tryz.underlying62,hT:={ info:=by kernel_rfl,zs:=rfl,pos:=by decide },hk:=fun _=>rfl,h1:=by intro x u hu;simp [encB] at hu;subst hu;rfl,by0:=by decide }
theorem FI_126_0:FI Tryz.prog 126 0 0:=fi_mk Tryz.underlying126 rfl rfl (k:=0) (by kernel_rfl)
instance : FIc Tryz.prog 126 0 0:=⟨FI_126_0⟩
theorem FI_126_1:FI Tryz.prog 126 1 1:=fi_mk Tryz.underlying126 rfl rfl (k:=0) (by kernel_rfl)
instance : FIc Tryz.prog 126 1 1:=⟨FI_126_1⟩
theorem FI_126_2:FI Tryz.prog 126 2 2:=fi_mk Tryz.underlying126 rfl rfl (k:=0) (by kernel_rfl)
instance : FIc Tryz.prog 126 2 2:=⟨FI_126_2⟩
theorem FI_141_0:FI Tryz.prog 141 0 0:=fi_mk Tryz.underlying141 rfl rfl (k:=0) (by kernel_rfl)
instance : FIc Tryz.prog 141 0 0:=⟨FI_141_0⟩
theorem FI_141_1:FI Tryz.prog 141 1 1:=fi_mk Tryz.underlying141 rfl rfl (k:=0) (by kernel_rfl)
instance : FIc Tryz.prog 141 1 1:=⟨FI_141_1⟩
theorem FI_141_2:FI Tryz.prog 141 2 2:=fi_mk Tryz.underlying141 rfl rfl (k:=0) (by kernel_rfl)
instance : FIc Tryz.prog 141 2 2:=⟨FI_141_2⟩
theorem FI_141_3:FI Tryz.prog 141 3 3:=fi_mk Tryz.underlying141 rfl rfl (k:=0) (by kernel_rfl)
instance : FIc Tryz.prog 141 3 3:=⟨FI_141_3⟩
theorem FI_141_4:FI Tryz.prog 141 4 4:=fi_mk Tryz.underlying141 rfl rfl (k:=0) (by kernel_rfl)
instance : FIc Tryz.prog 141 4 4:=⟨FI_141_4⟩
theorem FI_141_5:FI Tryz.prog 141 5 5:=fi_mk Tryz.underlying141 rfl rfl (k:=0) (by kernel_rfl)
instance : FIc Tryz.prog 141 5 5:=⟨FI_141_5⟩
theorem FI_144_0:FI Tryz.prog 144 0 0:=fi_mk Tryz.underlying144 rfl rfl (k:=0) (by kernel_rfl)
instance : FIc Tryz.prog 144 0 0:=⟨FI_144_0⟩
theorem FI_144_1:FI Tryz.prog 144 1 1:=fi_mk Tryz.underlying144 rfl rfl (k:=0) (by kernel_rfl)
instance : FIc Tryz.prog 144 1 1:=⟨FI_144_1⟩
theorem FI_144_2:FI Tryz.prog 144 2 2:=fi_mk Tryz.underlying144 rfl rfl (k:=0) (by kernel_rfl)
instance : FIc Tryz.prog 144 2 2:=⟨FI_144_2⟩
theorem FI_153_0:FI Tryz.prog 153 0 0:=fi_mk Tryz.underlying153 rfl rfl (k:=0) (by kernel_rfl)
instance : FIc Tryz.prog 153 0 0:=⟨FI_153_0⟩
theorem FI_153_1:FI Tryz.prog 153 1 1:=fi_mk Tryz.underlying153 rfl rfl (k:=0) (by kernel_rfl)
instance : FIc Tryz.prog 153 1 1:=⟨FI_153_1⟩
theorem FI_153_2:FI Tryz.prog 153 2 2:=fi_mk Tryz.underlying153 rfl rfl (k:=0) (by kernel_rfl)
instance : FIc Tryz.prog 153 2 2:=⟨FI_153_2⟩
theorem FI_153_3:FI Tryz.prog 153 3 3:=fi_mk Tryz.underlying153 rfl rfl (k:=0) (by kernel_rfl)
instance : FIc Tryz.prog 153 3 3:=⟨FI_153_3⟩
theorem FI_153_4:FI Tryz.prog 153 4 4:=fi_mk Tryz.underlying153 rfl rfl (k:=0) (by kernel_rfl)
instance : FIc Tryz.prog 153 4 4:=⟨FI_153_4⟩
theorem FI_153_5:FI Tryz.prog 153 5 5:=fi_mk Tryz.underlying153 rfl rfl (k:=0) (by kernel_rfl)
instance : FIc Tryz.prog 153 5 5:=⟨FI_153_5⟩
theorem FI_155_0:FI Tryz.prog 155 0 0:=fi_mk Tryz.underlying155 rfl rfl (k:=0) (by kernel_rfl)
instance : FIc Tryz.prog 155 0 0:=⟨FI_155_0⟩
theorem FI_155_1:FI Tryz.prog 155 1 1:=fi_mk Tryz.underlying155 rfl rfl (k:=0) (by kernel_rfl)
instance : FIc Tryz.prog 155 1 1:=⟨FI_155_1⟩
theorem FI_155_2:FI Tryz.prog 155 2 2:=fi_mk Tryz.underlying155 rfl rfl (k:=0) (by kernel_rfl)
instance : FIc Tryz.prog 155 2 2:=⟨FI_155_2⟩
theorem FI_164_0:FI Tryz.prog 164 0 0:=fi_mk Tryz.underlying164 rfl rfl (k:=0) (by kernel_rfl)
instance : FIc Tryz.prog 164 0 0:=⟨FI_164_0⟩
theorem FI_164_1:FI Tryz.prog 164 1 1:=fi_mk Tryz.underlying164 rfl rfl (k:=0) (by kernel_rfl)
instance : FIc Tryz.prog 164 1 1:=⟨FI_164_1⟩
theorem FI_164_2:FI Tryz.prog 164 2 2:=fi_mk Tryz.underlying164 rfl rfl (k:=0) (by kernel_rfl)
instance : FIc Tryz.prog 164 2 2:=⟨FI_164_2⟩
theorem FI_195_1:FI Tryz.prog 195 1 1:=fi_mk Tryz.underlying195 rfl rfl (k:=0) (by kernel_rfl)
instance : FIc Tryz.prog 195 1 1:=⟨FI_195_1⟩
theorem FI_210_0:FI Tryz.prog 210 0 0:=fi_mk Tryz.underlying210 rfl rfl (k:=0) (by kernel_rfl)
instance : FIc Tryz.prog 210 0 0:=⟨FI_210_0⟩
theorem FI_210_1:FI Tryz.prog 210 1 1:=fi_mk Tryz.underlying210 rfl rfl (k:=1) (by kernel_rfl)
instance : FIc Tryz.prog 210 1 1:=⟨FI_210_1⟩
theorem FI_24_0:FI Tryz.prog 24 0 0:=fi_mk Tryz.underlying24 rfl rfl (k:=0) (by kernel_rfl)
instance : FIc Tryz.prog 24 0 0:=⟨FI_24_0⟩
theorem FI_24_1:FI Tryz.prog 24 1 1:=fi_mk Tryz.underlying24 rfl rfl (k:=0) (by kernel_rfl)
instance : FIc Tryz.prog 24 1 1:=⟨FI_24_1⟩
theorem FI_26_0:FI Tryz.prog 26 0 0:=fi_mk Tryz.underlying26 rfl rfl (k:=0) (by kernel_rfl)
instance : FIc Tryz.prog 26 0 0:=⟨FI_26_0⟩
theorem FI_26_1:FI Tryz.prog 26 1 1:=fi_mk Tryz.underlying26 rfl rfl (k:=1) (by kernel_rfl)
instance : FIc Tryz.prog 26 1 1:=⟨FI_26_1⟩
theorem FI_32_0:FI Tryz.prog 32 0 0:=fi_mk Tryz.underlying32 rfl rfl (k:=0) (by kernel_rfl)
instance : FIc Tryz.prog 32 0 0:=⟨FI_32_0⟩
theorem FI_32_1:FI Tryz.prog 32 1 1:=fi_mk Tryz.underlying32 rfl rfl (k:=0) (by kernel_rfl)
instance : FIc Tryz.prog 32 1 1:=⟨FI_32_1⟩
theorem FI_34_0:FI Tryz.prog 34 0 0:=fi_mk Tryz.underlying34 rfl rfl (k:=0) (by kernel_rfl)
instance : FIc Tryz.prog 34 0 0:=⟨FI_34_0⟩
theorem FI_34_1:FI Tryz.prog 34 1 1:=fi_mk Tryz.underlying34 rfl rfl (k:=1) (by kernel_rfl)
instance : FIc Tryz.prog 34 1 1:=⟨FI_34_1⟩
theorem FI_46_0:FI Tryz.prog 46 0 0:=fi_mk Tryz.underlying46 rfl rfl (k:=0) (by kernel_rfl)
instance : FIc Tryz.prog 46 0 0:=⟨FI_46_0⟩
theorem FI_46_1:FI Tryz.prog 46 1 1:=fi_mk Tryz.underlying46 rfl rfl (k:=0) (by kernel_rfl)
instance : FIc Tryz.prog 46 1 1:=⟨FI_46_1⟩
theorem FI_49_0:FI Tryz.prog 49 0 0:=fi_mk Tryz.underlying49 rfl rfl (k:=0) (by kernel_rfl)
instance : FIc Tryz.prog 49 0 0:=⟨FI_49_0⟩
theorem FI_49_1:FI Tryz.prog 49 1 1:=fi_mk Tryz.underlying49 rfl rfl (k:=0) (by kernel_rfl)
instance : FIc Tryz.prog 49 1 1:=⟨FI_49_1⟩
theorem FI_49_2:FI Tryz.prog 49 2 2:=fi_mk Tryz.underlying49 rfl rfl (k:=0) (by kernel_rfl)
instance : FIc Tryz.prog 49 2 2:=⟨FI_49_2⟩
theorem FI_49_3:FI Tryz.prog 49 3 3:=fi_mk Tryz.underlying49 rfl rfl (k:=0) (by kernel_rfl)
instance : FIc Tryz.prog 49 3 3:=⟨FI_49_3⟩
theorem FI_49_4:FI Tryz.prog 49 4 4:=fi_mk Tryz.underlying49 rfl rfl (k:=0) (by kernel_rfl)
instance : FIc Tryz.prog 49 4 4:=⟨FI_49_4⟩
theorem FI_49_5:FI Tryz.prog 49 5 5:=fi_mk Tryz.underlying49 rfl rfl (k:=0) (by kernel_rfl)
instance : FIc Tryz.prog 49 5 5:=⟨FI_49_5⟩
theorem FI_49_6:FI Tryz.prog 49 6 6:=fi_mk Tryz.underlying49 rfl rfl (k:=1) (by kernel_rfl)
instance : FIc Tryz.prog 49 6 6:=⟨FI_49_6⟩
theorem FI_49_7:FI Tryz.prog 49 7 8:=fi_mk Tryz.underlying49 rfl rfl (k:=0) (by kernel_rfl)
instance : FIc Tryz.prog 49 7 8:=⟨FI_49_7⟩
theorem FI_49_8:FI Tryz.prog 49 8 9:=fi_mk Tryz.underlying49 rfl rfl (k:=0) (by kernel_rfl)
instance : FIc Tryz.prog 49 8 9:=⟨FI_49_8⟩
theorem FI_56_0:FI Tryz.prog 56 0 0:=fi_mk Tryz.underlying56 rfl rfl (k:=0) (by kernel_rfl)
instance : FIc Tryz.prog 56 0 0:=⟨FI_56_0⟩
theorem FI_56_1:FI Tryz.prog 56 1 1:=fi_mk Tryz.underlying56 rfl rfl (k:=0) (by kernel_rfl)
instance : FIc Tryz.prog 56 1 1:=⟨FI_56_1⟩
theorem FI_58_0:FI Tryz.prog 58 0 0:=fi_mk Tryz.underlying58 rfl rfl (k:=0) (by kernel_rfl)
instance : FIc Tryz.prog 58 0 0:=⟨FI_58_0⟩
theorem FI_58_1:FI Tryz.prog 58 1 1:=fi_mk Tryz.underlying58 rfl rfl (k:=0) (by kernel_rfl)
instance : FIc Tryz.prog 58 1 1:=⟨FI_58_1⟩
theorem FI_58_2:FI Tryz.prog 58 2 2:=fi_mk Tryz.underlying58 rfl rfl (k:=0) (by kernel_rfl)
instance : FIc Tryz.prog 58 2 2:=⟨FI_58_2⟩
theorem FI_58_3:FI Tryz.prog 58 3 3:=fi_mk Tryz.underlying58 rfl rfl (k:=0) (by kernel_rfl)
instance : FIc Tryz.prog 58 3 3:=⟨FI_58_3⟩
theorem FI_58_4:FI Tryz.prog 58 4 4:=fi_mk Tryz.underlying58 rfl rfl (k:=0) (by kernel_rfl)
instance : FIc Tryz.prog 58 4 4:=⟨FI_58_4⟩
theorem FI_58_5:FI Tryz.prog 58 5 5:=fi_mk Tryz.underlying58 rfl rfl (k:=0) (by kernel_rfl)
instance : FIc Tryz.prog 58 5 5:=⟨FI_58_5⟩
theorem FI_58_6:FI Tryz.prog 58 6 6:=fi_mk Tryz.underlying58 rfl rfl (k:=1) (by kernel_rfl)
instance : FIc Tryz.prog 58 6 6:=⟨FI_58_6⟩
theorem FI_58_7:FI Tryz.prog 58 7 8:=fi_mk Tryz.underlying58 rfl rfl (k:=0) (by kernel_rfl)
instance : FIc Tryz.prog 58 7 8:=⟨FI_58_7⟩
theorem FI_58_8:FI Tryz.prog 58 8 9:=fi_mk Tryz.underlying58 rfl rfl (k:=0) (by kernel_rfl)
instance : FIc Tryz.prog 58 8 9:=⟨FI_58_8⟩
theorem FI_81_0:FI Tryz.prog 81 0 0:=fi_mk Tryz.underlying81 rfl rfl (k:=0) (by kernel_rfl)
instance : FIc Tryz.prog 81 0 0:=⟨FI_81_0⟩
theorem FI_81_1:FI Tryz.prog 81 1 1:=fi_mk Tryz.underlying81 rfl rfl (k:=0) (by kernel_rfl)
instance : FIc Tryz.prog 81 1 1:=⟨FI_81_1⟩
theorem FI_81_2:FI Tryz.prog 81 2 2:=fi_mk Tryz.underlying81 rfl rfl (k:=0) (by kernel_rfl)
instance : FIc Tryz.prog 81 2 2:=⟨FI_81_2⟩
theorem FI_91_0:FI Tryz.prog 91 0 0:=fi_mk Tryz.underlying91 rfl rfl (k:=0) (by kernel_rfl)
instance : FIc Tryz.prog 91 0 0:=⟨FI_91_0⟩
theorem FI_91_1:FI Tryz.prog 91 1 1:=fi_mk Tryz.underlying91 rfl rfl (k:=0) (by kernel_rfl)
instance : FIc Tryz.prog 91 1 1:=⟨FI_91_1⟩
theorem mixed:Tryz.prog.follows .mixedOrders=true:=by kernel_rfl
instance : RTc Tryz.prog 100 Tryz.f100 19:=⟨Tryz.func100,Tryz.ntmps100⟩
instance : RTc Tryz.prog 101 Tryz.f101 8:=⟨Tryz.func101,Tryz.ntmps101⟩
instance : RTc Tryz.prog 103 Tryz.f103 21:=⟨Tryz.func103,Tryz.ntmps103⟩
instance : RTc Tryz.prog 104 Tryz.f104 27:=⟨Tryz.func104,Tryz.ntmps104⟩
instance : RTc Tryz.prog 105 Tryz.f105 13:=⟨Tryz.func105,Tryz.ntmps105⟩
instance : RTc Tryz.prog 107 Tryz.f107 85:=⟨Tryz.func107,Tryz.ntmps107⟩
instance : RTc Tryz.prog 108 Tryz.f108 46:=⟨Tryz.func108,Tryz.ntmps108⟩
instance : RTc Tryz.prog 109 Tryz.f109 24:=⟨Tryz.func109,Tryz.ntmps109⟩
instance : RTc Tryz.prog 11 Tryz.f11 17:=⟨Tryz.func11,Tryz.ntmps11⟩
instance : RTc Tryz.prog 112 Tryz.f112 23:=⟨Tryz.func112,Tryz.ntmps112⟩
instance : RTc Tryz.prog 113 Tryz.f113 14:=⟨Tryz.func113,Tryz.ntmps113⟩
instance : RTc Tryz.prog 115 Tryz.f115 57:=⟨Tryz.func115,Tryz.ntmps115⟩
instance : RTc Tryz.prog 117 Tryz.f117 16:=⟨Tryz.func117,Tryz.ntmps117⟩
instance : RTc Tryz.prog 12 Tryz.f12 10:=⟨Tryz.func12,Tryz.ntmps12⟩
instance : RTc Tryz.prog 120 Tryz.f120 35:=⟨Tryz.func120,Tryz.ntmps120⟩
instance : RTc Tryz.prog 121 Tryz.f121 20:=⟨Tryz.func121,Tryz.ntmps121⟩
instance : RTc Tryz.prog 124 Tryz.f124 58:=⟨Tryz.func124,Tryz.ntmps124⟩
instance : RTc Tryz.prog 129 Tryz.f129 20:=⟨Tryz.func129,Tryz.ntmps129⟩
instance : RTc Tryz.prog 130 Tryz.f130 24:=⟨Tryz.func130,Tryz.ntmps130⟩
instance : RTc Tryz.prog 131 Tryz.f131 6:=⟨Tryz.func131,Tryz.ntmps131⟩
instance : RTc Tryz.prog 132 Tryz.f132 25:=⟨Tryz.func132,Tryz.ntmps132⟩
instance : RTc Tryz.prog 133 Tryz.f133 36:=⟨Tryz.func133,Tryz.ntmps133⟩
instance : RTc Tryz.prog 134 Tryz.f134 42:=⟨Tryz.func134,Tryz.ntmps134⟩
instance : RTc Tryz.prog 135 Tryz.f135 49:=⟨Tryz.func135,Tryz.ntmps135⟩
instance : RTc Tryz.prog 137 Tryz.f137 8:=⟨Tryz.func137,Tryz.ntmps137⟩
instance : RTc Tryz.prog 139 Tryz.f139 25:=⟨Tryz.func139,Tryz.ntmps139⟩
instance : RTc Tryz.prog 141 Tryz.f141 26:=⟨Tryz.func141,Tryz.ntmps141⟩
instance : RTc Tryz.prog 144 Tryz.f144 30:=⟨Tryz.func144,Tryz.ntmps144⟩
instance : RTc Tryz.prog 145 Tryz.f145 33:=⟨Tryz.func145,Tryz.ntmps145⟩
instance : RTc Tryz.prog 146 Tryz.f146 20:=⟨Tryz.func146,Tryz.ntmps146⟩
instance : RTc Tryz.prog 147 Tryz.f147 47:=⟨Tryz.func147,Tryz.ntmps147⟩
instance : RTc Tryz.prog 149 Tryz.f149 50:=⟨Tryz.func149,Tryz.ntmps149⟩
instance : RTc Tryz.prog 150 Tryz.f150 19:=⟨Tryz.func150,Tryz.ntmps150⟩
instance : RTc Tryz.prog 151 Tryz.f151 5:=⟨Tryz.func151,Tryz.ntmps151⟩
instance : RTc Tryz.prog 152 Tryz.f152 8:=⟨Tryz.func152,Tryz.ntmps152⟩
instance : RTc Tryz.prog 153 Tryz.f153 11:=⟨Tryz.func153,Tryz.ntmps153⟩
instance : RTc Tryz.prog 155 Tryz.f155 20:=⟨Tryz.func155,Tryz.ntmps155⟩
instance : RTc Tryz.prog 159 Tryz.f159 8:=⟨Tryz.func159,Tryz.ntmps159⟩
instance : RTc Tryz.prog 16 Tryz.f16 30:=⟨Tryz.func16,Tryz.ntmps16⟩
instance : RTc Tryz.prog 160 Tryz.f160 6:=⟨Tryz.func160,Tryz.ntmps160⟩
instance : RTc Tryz.prog 162 Tryz.f162 21:=⟨Tryz.func162,Tryz.ntmps162⟩
instance : RTc Tryz.prog 166 Tryz.f166 12:=⟨Tryz.func166,Tryz.ntmps166⟩
instance : RTc Tryz.prog 168 Tryz.f168 22:=⟨Tryz.func168,Tryz.ntmps168⟩
instance : RTc Tryz.prog 170 Tryz.f170 21:=⟨Tryz.func170,Tryz.ntmps170⟩
instance : RTc Tryz.prog 177 Tryz.f177 12:=⟨Tryz.func177,Tryz.ntmps177⟩
instance : RTc Tryz.prog 179 Tryz.f179 7:=⟨Tryz.func179,Tryz.ntmps179⟩
instance : RTc Tryz.prog 180 Tryz.f180 10:=⟨Tryz.func180,Tryz.ntmps180⟩
instance : RTc Tryz.prog 183 Tryz.f183 10:=⟨Tryz.func183,Tryz.ntmps183⟩
instance : RTc Tryz.prog 187 Tryz.f187 8:=⟨Tryz.func187,Tryz.ntmps187⟩
instance : RTc Tryz.prog 189 Tryz.f189 17:=⟨Tryz.func189,Tryz.ntmps189⟩
instance : RTc Tryz.prog 19 Tryz.f19 36:=⟨Tryz.func19,Tryz.ntmps19⟩
instance : RTc Tryz.prog 190 Tryz.f190 6:=⟨Tryz.func190,Tryz.ntmps190⟩
instance : RTc Tryz.prog 191 Tryz.f191 32:=⟨Tryz.func191,Tryz.ntmps191⟩
instance : RTc Tryz.prog 192 Tryz.f192 23:=⟨Tryz.func192,Tryz.ntmps192⟩
instance : RTc Tryz.prog 196 Tryz.f196 28:=⟨Tryz.func196,Tryz.ntmps196⟩
instance : RTc Tryz.prog 21 Tryz.f21 54:=⟨Tryz.func21,Tryz.ntmps21⟩
instance : RTc Tryz.prog 213 Tryz.f213 12:=⟨Tryz.func213,Tryz.ntmps213⟩
instance : RTc Tryz.prog 22 Tryz.f22 6:=⟨Tryz.func22,Tryz.ntmps22⟩
instance : RTc Tryz.prog 226 Tryz.f226 17:=⟨Tryz.func226,Tryz.ntmps226⟩
instance : RTc Tryz.prog 228 Tryz.f228 42:=⟨Tryz.func228,Tryz.ntmps228⟩
instance : RTc Tryz.prog 229 Tryz.f229 39:=⟨Tryz.func229,Tryz.ntmps229⟩
instance : RTc Tryz.prog 237 Tryz.f237 9:=⟨Tryz.func237,Tryz.ntmps237⟩
instance : RTc Tryz.prog 239 Tryz.f239 32:=⟨Tryz.func239,Tryz.ntmps239⟩
instance : RTc Tryz.prog 243 Tryz.f243 20:=⟨Tryz.func243,Tryz.ntmps243⟩
instance : RTc Tryz.prog 245 Tryz.f245 15:=⟨Tryz.func245,Tryz.ntmps245⟩
instance : RTc Tryz.prog 246 Tryz.f246 48:=⟨Tryz.func246,Tryz.ntmps246⟩
instance : RTc Tryz.prog 247 Tryz.f247 41:=⟨Tryz.func247,Tryz.ntmps247⟩
instance : RTc Tryz.prog 248 Tryz.f248 22:=⟨Tryz.func248,Tryz.ntmps248⟩
instance : RTc Tryz.prog 249 Tryz.f249 31:=⟨Tryz.func249,Tryz.ntmps249⟩
instance : RTc Tryz.prog 250 Tryz.f250 26:=⟨Tryz.func250,Tryz.ntmps250⟩
instance : RTc Tryz.prog 251 Tryz.f251 8:=⟨Tryz.func251,Tryz.ntmps251⟩
instance : RTc Tryz.prog 252 Tryz.f252 38:=⟨Tryz.func252,Tryz.ntmps252⟩
instance : RTc Tryz.prog 253 Tryz.f253 43:=⟨Tryz.func253,Tryz.ntmps253⟩
instance : RTc Tryz.prog 254 Tryz.f254 46:=⟨Tryz.func254,Tryz.ntmps254⟩
instance : RTc Tryz.prog 255 Tryz.f255 37:=⟨Tryz.func255,Tryz.ntmps255⟩
instance : RTc Tryz.prog 256 Tryz.f256 15:=⟨Tryz.func256,Tryz.ntmps256⟩
instance : RTc Tryz.prog 257 Tryz.f257 48:=⟨Tryz.func257,Tryz.ntmps257⟩
instance : RTc Tryz.prog 258 Tryz.f258 30:=⟨Tryz.func258,Tryz.ntmps258⟩
instance : RTc Tryz.prog 259 Tryz.f259 17:=⟨Tryz.func259,Tryz.ntmps259⟩
instance : RTc Tryz.prog 260 Tryz.f260 26:=⟨Tryz.func260,Tryz.ntmps260⟩
instance : RTc Tryz.prog 261 Tryz.f261 6:=⟨Tryz.func261,Tryz.ntmps261⟩
instance : RTc Tryz.prog 262 Tryz.f262 16:=⟨Tryz.func262,Tryz.ntmps262⟩
instance : RTc Tryz.prog 263 Tryz.f263 26:=⟨Tryz.func263,Tryz.ntmps263⟩
instance : RTc Tryz.prog 264 Tryz.f264 18:=⟨Tryz.func264,Tryz.ntmps264⟩
instance : RTc Tryz.prog 265 Tryz.f265 8:=⟨Tryz.func265,Tryz.ntmps265⟩
instance : RTc Tryz.prog 266 Tryz.f266 31:=⟨Tryz.func266,Tryz.ntmps266⟩
instance : RTc Tryz.prog 267 Tryz.f267 12:=⟨Tryz.func267,Tryz.ntmps267⟩
instance : RTc Tryz.prog 268 Tryz.f268 13:=⟨Tryz.func268,Tryz.ntmps268⟩
instance : RTc Tryz.prog 27 Tryz.f27 7:=⟨Tryz.func27,Tryz.ntmps27⟩
instance : RTc Tryz.prog 28 Tryz.f28 7:=⟨Tryz.func28,Tryz.ntmps28⟩
instance : RTc Tryz.prog 281 Tryz.f281 35:=⟨Tryz.func281,Tryz.ntmps281⟩
instance : RTc Tryz.prog 282 Tryz.f282 16:=⟨Tryz.func282,Tryz.ntmps282⟩
instance : RTc Tryz.prog 283 Tryz.f283 13:=⟨Tryz.func283,Tryz.ntmps283⟩
instance : RTc Tryz.prog 284 Tryz.f284 21:=⟨Tryz.func284,Tryz.ntmps284⟩
instance : RTc Tryz.prog 286 Tryz.f286 29:=⟨Tryz.func286,Tryz.ntmps286⟩
instance : RTc Tryz.prog 29 Tryz.f29 7:=⟨Tryz.func29,Tryz.ntmps29⟩
instance : RTc Tryz.prog 290 Tryz.f290 8:=⟨Tryz.func290,Tryz.ntmps290⟩
instance : RTc Tryz.prog 291 Tryz.f291 17:=⟨Tryz.func291,Tryz.ntmps291⟩
instance : RTc Tryz.prog 293 Tryz.f293 18:=⟨Tryz.func293,Tryz.ntmps293⟩
instance : RTc Tryz.prog 296 Tryz.f296 19:=⟨Tryz.func296,Tryz.ntmps296⟩
instance : RTc Tryz.prog 297 Tryz.f297 17:=⟨Tryz.func297,Tryz.ntmps297⟩
instance : RTc Tryz.prog 298 Tryz.f298 5:=⟨Tryz.func298,Tryz.ntmps298⟩
instance : RTc Tryz.prog 3 Tryz.f3 96:=⟨Tryz.func3,Tryz.ntmps3⟩
instance : RTc Tryz.prog 30 Tryz.f30 27:=⟨Tryz.func30,Tryz.ntmps30⟩
instance : RTc Tryz.prog 301 Tryz.f301 9:=⟨Tryz.func301,Tryz.ntmps301⟩
instance : RTc Tryz.prog 31 Tryz.f31 19:=⟨Tryz.func31,Tryz.ntmps31⟩
instance : RTc Tryz.prog 316 Tryz.f316 9:=⟨Tryz.func316,Tryz.ntmps316⟩
instance : RTc Tryz.prog 317 Tryz.f317 8:=⟨Tryz.func317,Tryz.ntmps317⟩
instance : RTc Tryz.prog 318 Tryz.f318 41:=⟨Tryz.func318,Tryz.ntmps318⟩
instance : RTc Tryz.prog 319 Tryz.f319 12:=⟨Tryz.func319,Tryz.ntmps319⟩
instance : RTc Tryz.prog 32 Tryz.f32 19:=⟨Tryz.func32,Tryz.ntmps32⟩
instance : RTc Tryz.prog 320 Tryz.f320 17:=⟨Tryz.func320,Tryz.ntmps320⟩
instance : RTc Tryz.prog 321 Tryz.f321 15:=⟨Tryz.func321,Tryz.ntmps321⟩
instance : RTc Tryz.prog 322 Tryz.f322 5:=⟨Tryz.func322,Tryz.ntmps322⟩
instance : RTc Tryz.prog 323 Tryz.f323 5:=⟨Tryz.func323,Tryz.ntmps323⟩
instance : RTc Tryz.prog 324 Tryz.f324 27:=⟨Tryz.func324,Tryz.ntmps324⟩
instance : RTc Tryz.prog 325 Tryz.f325 18:=⟨Tryz.func325,Tryz.ntmps325⟩
instance : RTc Tryz.prog 326 Tryz.f326 13:=⟨Tryz.func326,Tryz.ntmps326⟩
instance : RTc Tryz.prog 327 Tryz.f327 23:=⟨Tryz.func327,Tryz.ntmps327⟩
instance : RTc Tryz.prog 33 Tryz.f33 14:=⟨Tryz.func33,Tryz.ntmps33⟩
instance : RTc Tryz.prog 331 Tryz.f331 8:=⟨Tryz.func331,Tryz.ntmps331⟩
instance : RTc Tryz.prog 332 Tryz.f332 10:=⟨Tryz.func332,Tryz.ntmps332⟩
instance : RTc Tryz.prog 333 Tryz.f333 9:=⟨Tryz.func333,Tryz.ntmps333⟩
instance : RTc Tryz.prog 334 Tryz.f334 5:=⟨Tryz.func334,Tryz.ntmps334⟩
instance : RTc Tryz.prog 335 Tryz.f335 22:=⟨Tryz.func335,Tryz.ntmps335⟩
instance : RTc Tryz.prog 336 Tryz.f336 11:=⟨Tryz.func336,Tryz.ntmps336⟩
instance : RTc Tryz.prog 337 Tryz.f337 13:=⟨Tryz.func337,Tryz.ntmps337⟩
instance : RTc Tryz.prog 338 Tryz.f338 8:=⟨Tryz.func338,Tryz.ntmps338⟩
instance : RTc Tryz.prog 34 Tryz.f34 14:=⟨Tryz.func34,Tryz.ntmps34⟩
instance : RTc Tryz.prog 344 Tryz.f344 12:=⟨Tryz.func344,Tryz.ntmps344⟩
instance : RTc Tryz.prog 345 Tryz.f345 29:=⟨Tryz.func345,Tryz.ntmps345⟩
instance : RTc Tryz.prog 347 Tryz.f347 9:=⟨Tryz.func347,Tryz.ntmps347⟩
instance : RTc Tryz.prog 348 Tryz.f348 30:=⟨Tryz.func348,Tryz.ntmps348⟩
instance : RTc Tryz.prog 35 Tryz.f35 27:=⟨Tryz.func35,Tryz.ntmps35⟩
instance : RTc Tryz.prog 36 Tryz.f36 13:=⟨Tryz.func36,Tryz.ntmps36⟩
instance : RTc Tryz.prog 360 Tryz.f360 25:=⟨Tryz.func360,Tryz.ntmps360⟩
instance : RTc Tryz.prog 361 Tryz.f361 5:=⟨Tryz.func361,Tryz.ntmps361⟩
instance : RTc Tryz.prog 362 Tryz.f362 19:=⟨Tryz.func362,Tryz.ntmps362⟩
instance : RTc Tryz.prog 363 Tryz.f363 9:=⟨Tryz.func363,Tryz.ntmps363⟩
instance : RTc Tryz.prog 364 Tryz.f364 20:=⟨Tryz.func364,Tryz.ntmps364⟩
instance : RTc Tryz.prog 365 Tryz.f365 18:=⟨Tryz.func365,Tryz.ntmps365⟩
instance : RTc Tryz.prog 368 Tryz.f368 18:=⟨Tryz.func368,Tryz.ntmps368⟩
instance : RTc Tryz.prog 37 Tryz.f37 45:=⟨Tryz.func37,Tryz.ntmps37⟩
instance : RTc Tryz.prog 377 Tryz.f377 8:=⟨Tryz.func377,Tryz.ntmps377⟩
instance : RTc Tryz.prog 378 Tryz.f378 11:=⟨Tryz.func378,Tryz.ntmps378⟩
instance : RTc Tryz.prog 38 Tryz.f38 39:=⟨Tryz.func38,Tryz.ntmps38⟩
instance : RTc Tryz.prog 383 Tryz.f383 18:=⟨Tryz.func383,Tryz.ntmps383⟩
instance : RTc Tryz.prog 384 Tryz.f384 15:=⟨Tryz.func384,Tryz.ntmps384⟩
instance : RTc Tryz.prog 39 Tryz.f39 74:=⟨Tryz.func39,Tryz.ntmps39⟩
instance : RTc Tryz.prog 40 Tryz.f40 28:=⟨Tryz.func40,Tryz.ntmps40⟩
instance : RTc Tryz.prog 41 Tryz.f41 23:=⟨Tryz.func41,Tryz.ntmps41⟩
instance : RTc Tryz.prog 42 Tryz.f42 11:=⟨Tryz.func42,Tryz.ntmps42⟩
instance : RTc Tryz.prog 43 Tryz.f43 50:=⟨Tryz.func43,Tryz.ntmps43⟩
instance : RTc Tryz.prog 44 Tryz.f44 34:=⟨Tryz.func44,Tryz.ntmps44⟩
instance : RTc Tryz.prog 45 Tryz.f45 65:=⟨Tryz.func45,Tryz.ntmps45⟩
instance : RTc Tryz.prog 47 Tryz.f47 37:=⟨Tryz.func47,Tryz.ntmps47⟩
instance : RTc Tryz.prog 49 Tryz.f49 27:=⟨Tryz.func49,Tryz.ntmps49⟩
instance : RTc Tryz.prog 50 Tryz.f50 15:=⟨Tryz.func50,Tryz.ntmps50⟩
instance : RTc Tryz.prog 51 Tryz.f51 36:=⟨Tryz.func51,Tryz.ntmps51⟩
instance : RTc Tryz.prog 54 Tryz.f54 27:=⟨Tryz.func54,Tryz.ntmps54⟩
instance : RTc Tryz.prog 55 Tryz.f55 27:=⟨Tryz.func55,Tryz.ntmps55⟩
instance : RTc Tryz.prog 56 Tryz.f56 18:=⟨Tryz.func56,Tryz.ntmps56⟩
instance : RTc Tryz.prog 57 Tryz.f57 12:=⟨Tryz.func57,Tryz.ntmps57⟩
instance : RTc Tryz.prog 6 Tryz.f6 18:=⟨Tryz.func6,Tryz.ntmps6⟩
instance : RTc Tryz.prog 62 Tryz.f62 23:=⟨Tryz.func62,Tryz.ntmps62⟩
instance : RTc Tryz.prog 63 Tryz.f63 23:=⟨Tryz.func63,Tryz.ntmps63⟩
instance : RTc Tryz.prog 64 Tryz.f64 13:=⟨Tryz.func64,Tryz.ntmps64⟩
instance : RTc Tryz.prog 65 Tryz.f65 22:=⟨Tryz.func65,Tryz.ntmps65⟩
instance : RTc Tryz.prog 69 Tryz.f69 27:=⟨Tryz.func69,Tryz.ntmps69⟩
instance : RTc Tryz.prog 7 Tryz.f7 51:=⟨Tryz.func7,Tryz.ntmps7⟩
instance : RTc Tryz.prog 70 Tryz.f70 27:=⟨Tryz.func70,Tryz.ntmps70⟩
instance : RTc Tryz.prog 71 Tryz.f71 17:=⟨Tryz.func71,Tryz.ntmps71⟩
instance : RTc Tryz.prog 72 Tryz.f72 26:=⟨Tryz.func72,Tryz.ntmps72⟩
instance : RTc Tryz.prog 73 Tryz.f73 32:=⟨Tryz.func73,Tryz.ntmps73⟩
instance : RTc Tryz.prog 75 Tryz.f75 9:=⟨Tryz.func75,Tryz.ntmps75⟩
instance : RTc Tryz.prog 76 Tryz.f76 37:=⟨Tryz.func76,Tryz.ntmps76⟩
instance : RTc Tryz.prog 8 Tryz.f8 13:=⟨Tryz.func8,Tryz.ntmps8⟩
instance : RTc Tryz.prog 80 Tryz.f80 5:=⟨Tryz.func80,Tryz.ntmps80⟩
instance : RTc Tryz.prog 81 Tryz.f81 15:=⟨Tryz.func81,Tryz.ntmps81⟩
instance : RTc Tryz.prog 82 Tryz.f82 15:=⟨Tryz.func82,Tryz.ntmps82⟩
instance : RTc Tryz.prog 83 Tryz.f83 12:=⟨Tryz.func83,Tryz.ntmps83⟩
instance : RTc Tryz.prog 84 Tryz.f84 21:=⟨Tryz.func84,Tryz.ntmps84⟩
instance : RTc Tryz.prog 85 Tryz.f85 7:=⟨Tryz.func85,Tryz.ntmps85⟩
instance : RTc Tryz.prog 86 Tryz.f86 12:=⟨Tryz.func86,Tryz.ntmps86⟩
instance : RTc Tryz.prog 87 Tryz.f87 15:=⟨Tryz.func87,Tryz.ntmps87⟩
instance : RTc Tryz.prog 88 Tryz.f88 48:=⟨Tryz.func88,Tryz.ntmps88⟩
instance : RTc Tryz.prog 89 Tryz.f89 28:=⟨Tryz.func89,Tryz.ntmps89⟩
instance : RTc Tryz.prog 9 Tryz.f9 60:=⟨Tryz.func9,Tryz.ntmps9⟩
instance : RTc Tryz.prog 90 Tryz.f90 85:=⟨Tryz.func90,Tryz.ntmps90⟩
instance : RTc Tryz.prog 91 Tryz.f91 70:=⟨Tryz.func91,Tryz.ntmps91⟩
instance : RTc Tryz.prog 92 Tryz.f92 15:=⟨Tryz.func92,Tryz.ntmps92⟩
instance : RTc Tryz.prog 93 Tryz.f93 15:=⟨Tryz.func93,Tryz.ntmps93⟩
instance : RTc Tryz.prog 94 Tryz.f94 42:=⟨Tryz.func94,Tryz.ntmps94⟩
instance : RTc Tryz.prog 96 Tryz.f96 75:=⟨Tryz.func96,Tryz.ntmps96⟩
instance : RTc Tryz.prog 97 Tryz.f97 29:=⟨Tryz.func97,Tryz.ntmps97⟩
instance : RTc Tryz.prog 98 Tryz.f98 42:=⟨Tryz.func98,Tryz.ntmps98⟩
instance : RTc Tryz.prog 99 Tryz.f99 8:=⟨Tryz.func99,Tryz.ntmps99⟩
theorem TI_126:TI Tryz.prog 126 true 3:=ti_mk Tryz.underlying126 rfl (by kernel_rfl)
instance : TIc Tryz.prog 126 true 3:=⟨TI_126⟩
theorem TI_141:TI Tryz.prog 141 true 6:=ti_mk Tryz.underlying141 rfl (by kernel_rfl)
instance : TIc Tryz.prog 141 true 6:=⟨TI_141⟩
theorem TI_144:TI Tryz.prog 144 true 3:=ti_mk Tryz.underlying144 rfl (by kernel_rfl)
instance : TIc Tryz.prog 144 true 3:=⟨TI_144⟩
theorem TI_153:TI Tryz.prog 153 true 6:=ti_mk Tryz.underlying153 rfl (by kernel_rfl)
instance : TIc Tryz.prog 153 true 6:=⟨TI_153⟩
theorem TI_155:TI Tryz.prog 155 true 3:=ti_mk Tryz.underlying155 rfl (by kernel_rfl)
instance : TIc Tryz.prog 155 true 3:=⟨TI_155⟩
theorem TI_210:TI Tryz.prog 210 true 3:=ti_mk Tryz.underlying210 rfl (by kernel_rfl)
instance : TIc Tryz.prog 210 true 3:=⟨TI_210⟩
theorem TI_22:TI Tryz.prog 22 false 1:=ti_mk Tryz.underlying22 rfl (by kernel_rfl)
instance : TIc Tryz.prog 22 false 1:=⟨TI_22⟩
theorem TI_24:TI Tryz.prog 24 true 2:=ti_mk Tryz.underlying24 rfl (by kernel_rfl)
instance : TIc Tryz.prog 24 true 2:=⟨TI_24⟩
theorem TI_26:TI Tryz.prog 26 true 3:=ti_mk Tryz.underlying26 rfl (by kernel_rfl)
instance : TIc Tryz.prog 26 true 3:=⟨TI_26⟩
theorem TI_28:TI Tryz.prog 28 false 1:=ti_mk Tryz.underlying28 rfl (by kernel_rfl)
instance : TIc Tryz.prog 28 false 1:=⟨TI_28⟩
theorem TI_3:TI Tryz.prog 3 false 1:=ti_mk Tryz.underlying3 rfl (by kernel_rfl)
instance : TIc Tryz.prog 3 false 1:=⟨TI_3⟩
theorem TI_31:TI Tryz.prog 31 false 1:=ti_mk Tryz.underlying31 rfl (by kernel_rfl)
instance : TIc Tryz.prog 31 false 1:=⟨TI_31⟩
theorem TI_32:TI Tryz.prog 32 true 2:=ti_mk Tryz.underlying32 rfl (by kernel_rfl)
instance : TIc Tryz.prog 32 true 2:=⟨TI_32⟩
theorem TI_34:TI Tryz.prog 34 true 3:=ti_mk Tryz.underlying34 rfl (by kernel_rfl)
instance : TIc Tryz.prog 34 true 3:=⟨TI_34⟩
theorem TI_4:TI Tryz.prog 4 false 1:=ti_mk Tryz.underlying4 rfl (by kernel_rfl)
instance : TIc Tryz.prog 4 false 1:=⟨TI_4⟩
theorem TI_41:TI Tryz.prog 41 false 1:=ti_mk Tryz.underlying41 rfl (by kernel_rfl)
instance : TIc Tryz.prog 41 false 1:=⟨TI_41⟩
theorem TI_42:TI Tryz.prog 42 false 1:=ti_mk Tryz.underlying42 rfl (by kernel_rfl)
instance : TIc Tryz.prog 42 false 1:=⟨TI_42⟩
theorem TI_43:TI Tryz.prog 43 false 1:=ti_mk Tryz.underlying43 rfl (by kernel_rfl)
instance : TIc Tryz.prog 43 false 1:=⟨TI_43⟩
theorem TI_44:TI Tryz.prog 44 false 1:=ti_mk Tryz.underlying44 rfl (by kernel_rfl)
instance : TIc Tryz.prog 44 false 1:=⟨TI_44⟩
theorem TI_46:TI Tryz.prog 46 true 2:=ti_mk Tryz.underlying46 rfl (by kernel_rfl)
instance : TIc Tryz.prog 46 true 2:=⟨TI_46⟩
theorem TI_47:TI Tryz.prog 47 false 1:=ti_mk Tryz.underlying47 rfl (by kernel_rfl)
instance : TIc Tryz.prog 47 false 1:=⟨TI_47⟩
theorem TI_5:TI Tryz.prog 5 false 1:=ti_mk Tryz.underlying5 rfl (by kernel_rfl)
instance : TIc Tryz.prog 5 false 1:=⟨TI_5⟩
theorem TI_54:TI Tryz.prog 54 false 1:=ti_mk Tryz.underlying54 rfl (by kernel_rfl)
instance : TIc Tryz.prog 54 false 1:=⟨TI_54⟩
theorem TI_55:TI Tryz.prog 55 false 1:=ti_mk Tryz.underlying55 rfl (by kernel_rfl)
instance : TIc Tryz.prog 55 false 1:=⟨TI_55⟩
theorem TI_56:TI Tryz.prog 56 true 2:=ti_mk Tryz.underlying56 rfl (by kernel_rfl)
instance : TIc Tryz.prog 56 true 2:=⟨TI_56⟩
theorem TI_58:TI Tryz.prog 58 true 10:=ti_mk Tryz.underlying58 rfl (by kernel_rfl)
instance : TIc Tryz.prog 58 true 10:=⟨TI_58⟩
theorem TI_62:TI Tryz.prog 62 false 1:=ti_mk Tryz.underlying62 rfl (by kernel_rfl)
instance : TIc Tryz.prog 62 false 1:=⟨TI_62⟩
theorem TI_81:TI Tryz.prog 81 true 3:=ti_mk Tryz.underlying81 rfl (by kernel_rfl)
instance : TIc Tryz.prog 81 true 3:=⟨TI_81⟩
theorem TI_9:TI Tryz.prog 9 false 1:=ti_mk Tryz.underlying9 rfl (by kernel_rfl)
instance : TIc Tryz.prog 9 false 1:=⟨TI_9⟩
theorem TI_91:TI Tryz.prog 91 true 2:=ti_mk Tryz.underlying91 rfl (by kernel_rfl)
instance : TIc Tryz.prog 91 true 2:=⟨TI_91⟩
instance : UTc Tryz.prog 22 (.slice 126):=⟨Tryz.underlying22⟩
instance : UTc Tryz.prog 28 (.slice 91):=⟨Tryz.underlying28⟩
instance : UTc Tryz.prog 31 (.slice 81):=⟨Tryz.underlying31⟩
instance : UTc Tryz.prog 42 (.slice 141):=⟨Tryz.underlying42⟩
instance : UTc Tryz.prog 43 (.slice 144):=⟨Tryz.underlying43⟩
instance : UTc Tryz.prog 44 (.slice 9):=⟨Tryz.underlying44⟩
instance : UTc Tryz.prog 47 (.slice 3):=⟨Tryz.underlying47⟩
instance : UTc Tryz.prog 54 (.slice 153):=⟨Tryz.underlying54⟩
instance : UTc Tryz.prog 55 (.slice 155):=⟨Tryz.underlying55⟩
instance : UTc Tryz.prog 62 (.slice 5):=⟨Tryz.underlying62⟩
instance : UTc Tryz.prog 64 (.slice 58):=⟨Tryz.underlying64⟩
instance : UTc Tryz.prog 83 (.slice 28):=⟨Tryz.underlying83⟩
instance : UTc Tryz.prog 9 .string:=⟨Tryz.underlying9⟩
theorem ZI_153:ZI Tryz.prog 153 (.agg #[.int .i64 0,.string (⟨#[]⟩:ByteArray),.string (⟨#[]⟩:ByteArray),.int .i64 0,.int .i64 0,.string (⟨#[]⟩:ByteArray)]):=zi_mk (by kernel_rfl)
theorem ZI_155:ZI Tryz.prog 155 (.agg #[.int .i64 0,.int .i64 0,.string (⟨#[]⟩:ByteArray)]):=zi_mk (by kernel_rfl)
theorem ZI_195:ZI Tryz.prog 195 (.agg #[.pointer none,.slice none 0 0]):=zi_mk (by kernel_rfl)
theorem ZI_210:ZI Tryz.prog 210 (.agg #[.slice none 0 0,.slice none 0 0,.slice none 0 0]):=zi_mk (by kernel_rfl)
theorem ZI_56:ZI Tryz.prog 56 (.agg #[.slice none 0 0,.slice none 0 0]):=zi_mk (by kernel_rfl)
theorem ZI_58:ZI Tryz.prog 58 (.agg #[.int .i64 0,.int .i64 0,.int .i64 0,.int .i64 0,.slice none 0 0,.slice none 0 0,.slice none 0 0,.slice none 0 0,.slice none 0 0,.int .i64 0]):=zi_mk (by kernel_rfl)
theorem ZI_91:ZI Tryz.prog 91 (.agg #[.string (⟨#[]⟩:ByteArray),.string (⟨#[]⟩:ByteArray)]):=zi_mk (by kernel_rfl)
end Go.Proofs.YtipdbeklopjbmaaGreatDoor
