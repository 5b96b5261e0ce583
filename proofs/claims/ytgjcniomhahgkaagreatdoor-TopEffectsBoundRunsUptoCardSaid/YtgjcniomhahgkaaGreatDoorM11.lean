/-
  Texts that stand side by side: TeShelf, TeCm, TeAw, TeRul.
-/
import Derived.Shelf.Small.Strs
import Derived.Shelf.LaysM
import Derived.Shelf.LaysC
import Derived.Shelf.Strconv.AtoiAll
import Derived.Shelf.Strings.Search1
import Derived.Shelf.Strings.Fields
import Derived.Shelf.Unicode.Latin
import Derived.Shelf.Strconv.AtoiInnerAll
import Derived.Test.YtgjcniomhahgkaaGreatDoorProg
import Derived.Test.YtgjcniomhahgkaaGreatDoorM10
import Derived.Test.YtgjcniomhahgkaaGreatDoorM1
import Derived.Test.YtgjcniomhahgkaaGreatDoorM9
set_option linter.unusedSimpArgs false
set_option linter.unusedVariables false
namespace Go.Proofs
open Go.Shelf
def Tryz.lays106_ren:Go.Shelf.Ren:=⟨fun | 106=>237 | 213=>257 | 265=>278 | n=>n,fun | 9=>9 | 3=>3 | n=>n,fun | n=>n⟩
theorem Tryz.lays106:Go.Proofs.Lays.n106 Tryz.prog Tryz.lays106_ren:={
 mixed:=by kernel_rfl
 f106:=Tryz.func237.trans (congrArg some (by kernel_rfl))
 f213:=Tryz.func257.trans (congrArg some (by kernel_rfl))
 f265:=Tryz.func278.trans (congrArg some (by kernel_rfl))
 t3:=Tryz.underlying3
 a3:=Tryz.isAgg3
 z3:=Tryz.sizeOf3
 v3:=Tryz.zeroValue3
 t9:=Tryz.underlying9
 a9:=Tryz.isAgg9
 z9:=Tryz.sizeOf9
 v9:=Tryz.zeroValue9 }
open Go.RowKit in
theorem Tryz.strings_Compare (a b:ByteArray) (w:World) :
 Calls Tryz.prog 237 #[.string a,.string b] w fun e w'=>e = .returned (.int .i64 (Lib.compareBytes a.data.toList b.data.toList))∧w'=w:=Any.strings_Compare Tryz.lays106 a b w
def Tryz.lays137_ren:Go.Shelf.Ren:=⟨fun | 137=>242 | 217=>259 | 266=>279 | n=>n,fun | 9=>9 | 5=>5 | 3=>3 | n=>n,fun | n=>n⟩
theorem Tryz.lays137:Go.Proofs.Lays.n137 Tryz.prog Tryz.lays137_ren:={
 mixed:=by kernel_rfl
 f137:=Tryz.func242.trans (congrArg some (by kernel_rfl))
 f217:=Tryz.func259.trans (congrArg some (by kernel_rfl))
 f266:=Tryz.func279.trans (congrArg some (by kernel_rfl))
 t3:=Tryz.underlying3
 a3:=Tryz.isAgg3
 z3:=Tryz.sizeOf3
 v3:=Tryz.zeroValue3
 t5:=Tryz.underlying5
 a5:=Tryz.isAgg5
 z5:=Tryz.sizeOf5
 v5:=Tryz.zeroValue5
 t9:=Tryz.underlying9
 a9:=Tryz.isAgg9
 z9:=Tryz.sizeOf9
 v9:=Tryz.zeroValue9 }
open Go.RowKit in
theorem Tryz.strings_IndexByte (s:ByteArray) (c:Int) (w:World) :
 Calls Tryz.prog 242 #[.string s,.int .u8 c] w fun e w'=>e = .returned (.int .i64 (Lib.indexByte s.data.toList c.toNat.toUInt8))∧w'=w:=Any.strings_IndexByte Tryz.lays137 s c w
def Tryz.laysC172_ren:Go.Shelf.Ren:=⟨fun | 172=>264 | 244=>283 | 245=>284 | 247=>292 | 279=>293 | 280=>294 | 281=>295 | 282=>296 | 287=>308 | 316=>309 | 171=>311 | 205=>310 | 321=>317 | 322=>318 | 243=>319 | 246=>322 | 283=>324 | 284=>325 | 285=>326 | 286=>327 | 129=>169 | 317=>329 | 318=>330 | 319=>331 | 320=>332 | 337=>333 | 338=>334 | n=>n,fun | 9=>9 | 3=>3 | 75=>359 | 76=>360 | 4=>4 | 5=>5 | 167=>390 | 37=>42 | 0=>0 | 85=>391 | 2=>2 | 168=>393 | 53=>192 | 175=>405 | 46=>193 | 210=>409 | 127=>414 | 145=>417 | 143=>415 | 21=>21 | 171=>420 | 173=>422 | 212=>425 | 51=>262 | 20=>20 | 213=>426 | 232=>427 | 233=>428 | 80=>316 | n=>n,fun | 15=>3 | 16=>4 | 17=>5 | 18=>6 | 19=>7 | n=>n⟩
theorem Tryz.laysC172:Go.Proofs.LaysC.n172 Tryz.prog Tryz.laysC172_ren:={
 mixed:=by kernel_rfl
 f129:=Tryz.func169.trans (congrArg some (by kernel_rfl))
 f171:=Tryz.func311.trans (congrArg some (by kernel_rfl))
 f172:=Tryz.func264.trans (congrArg some (by kernel_rfl))
 f205:=Tryz.func310.trans (congrArg some (by kernel_rfl))
 f243:=Tryz.func319.trans (congrArg some (by kernel_rfl))
 f244:=Tryz.func283.trans (congrArg some (by kernel_rfl))
 f245:=Tryz.func284.trans (congrArg some (by kernel_rfl))
 f246:=Tryz.func322.trans (congrArg some (by kernel_rfl))
 f247:=Tryz.func292.trans (congrArg some (by kernel_rfl))
 f279:=Tryz.func293.trans (congrArg some (by kernel_rfl))
 f280:=Tryz.func294.trans (congrArg some (by kernel_rfl))
 f281:=Tryz.func295.trans (congrArg some (by kernel_rfl))
 f282:=Tryz.func296.trans (congrArg some (by kernel_rfl))
 f283:=Tryz.func324.trans (congrArg some (by kernel_rfl))
 f284:=Tryz.func325.trans (congrArg some (by kernel_rfl))
 f285:=Tryz.func326.trans (congrArg some (by kernel_rfl))
 f286:=Tryz.func327.trans (congrArg some (by kernel_rfl))
 f287:=Tryz.func308.trans (congrArg some (by kernel_rfl))
 f316:=Tryz.func309.trans (congrArg some (by kernel_rfl))
 f317:=Tryz.func329.trans (congrArg some (by kernel_rfl))
 f318:=Tryz.func330.trans (congrArg some (by kernel_rfl))
 f319:=Tryz.func331.trans (congrArg some (by kernel_rfl))
 f320:=Tryz.func332.trans (congrArg some (by kernel_rfl))
 f321:=Tryz.func317.trans (congrArg some (by kernel_rfl))
 f322:=Tryz.func318.trans (congrArg some (by kernel_rfl))
 f337:=Tryz.func333.trans (congrArg some (by kernel_rfl))
 f338:=Tryz.func334.trans (congrArg some (by kernel_rfl))
 t0:=Tryz.underlying0
 a0:=Tryz.isAgg0
 z0:=Tryz.sizeOf0
 v0:=Tryz.zeroValue0
 t2:=Tryz.underlying2
 a2:=Tryz.isAgg2
 z2:=Tryz.sizeOf2
 v2:=Tryz.zeroValue2
 t3:=Tryz.underlying3
 a3:=Tryz.isAgg3
 z3:=Tryz.sizeOf3
 v3:=Tryz.zeroValue3
 t4:=Tryz.underlying4
 a4:=Tryz.isAgg4
 z4:=Tryz.sizeOf4
 v4:=Tryz.zeroValue4
 t5:=Tryz.underlying5
 a5:=Tryz.isAgg5
 z5:=Tryz.sizeOf5
 v5:=Tryz.zeroValue5
 t9:=Tryz.underlying9
 a9:=Tryz.isAgg9
 z9:=Tryz.sizeOf9
 v9:=Tryz.zeroValue9
 t20:=Tryz.underlying20
 a20:=Tryz.isAgg20
 z20:=Tryz.sizeOf20
 v20:=Tryz.zeroValue20
 t21:=Tryz.underlying21
 a21:=Tryz.isAgg21
 z21:=Tryz.sizeOf21
 v21:=Tryz.zeroValue21
 t37:=Tryz.underlying42
 a37:=Tryz.isAgg42
 z37:=Tryz.sizeOf42
 v37:=Tryz.zeroValue42
 t46:=Tryz.underlying193
 a46:=Tryz.isAgg193
 z46:=Tryz.sizeOf193
 v46:=Tryz.zeroValue193
 t51:=Tryz.underlying262
 a51:=Tryz.isAgg262
 z51:=Tryz.sizeOf262
 v51:=Tryz.zeroValue262
 t53:=Tryz.underlying192
 a53:=Tryz.isAgg192
 z53:=Tryz.sizeOf192
 v53:=Tryz.zeroValue192
 t75:=Tryz.underlying359
 a75:=Tryz.isAgg359
 z75:=Tryz.sizeOf359
 v75:=Tryz.zeroValue359
 t76:=Tryz.underlying360
 a76:=Tryz.isAgg360
 z76:=Tryz.sizeOf360
 v76:=Tryz.zeroValue360
 t85:=Tryz.underlying391
 a85:=Tryz.isAgg391
 z85:=Tryz.sizeOf391
 v85:=Tryz.zeroValue391
 t127:=Tryz.underlying414
 a127:=Tryz.isAgg414
 z127:=Tryz.sizeOf414
 v127:=Tryz.zeroValue414
 t143:=Tryz.underlying415
 a143:=Tryz.isAgg415
 z143:=Tryz.sizeOf415
 v143:=Tryz.zeroValue415
 t145:=Tryz.underlying417
 a145:=Tryz.isAgg417
 z145:=Tryz.sizeOf417
 v145:=Tryz.zeroValue417
 t167:=Tryz.underlying390
 a167:=Tryz.isAgg390
 z167:=Tryz.sizeOf390
 v167:=Tryz.zeroValue390
 t168:=Tryz.underlying393
 a168:=Tryz.isAgg393
 z168:=Tryz.sizeOf393
 v168:=Tryz.zeroValue393
 t171:=Tryz.underlying420
 a171:=Tryz.isAgg420
 z171:=Tryz.sizeOf420
 v171:=Tryz.zeroValue420
 t173:=Tryz.underlying422
 a173:=Tryz.isAgg422
 z173:=Tryz.sizeOf422
 v173:=Tryz.zeroValue422
 t175:=Tryz.underlying405
 a175:=Tryz.isAgg405
 z175:=Tryz.sizeOf405
 v175:=Tryz.zeroValue405
 t210:=Tryz.underlying409
 a210:=Tryz.isAgg409
 z210:=Tryz.sizeOf409
 v210:=Tryz.zeroValue409
 t212:=Tryz.underlying425
 a212:=Tryz.isAgg425
 z212:=Tryz.sizeOf425
 v212:=Tryz.zeroValue425
 t213:=Tryz.underlying426
 a213:=Tryz.isAgg426
 z213:=Tryz.sizeOf426
 t232:=Tryz.underlying427
 a232:=Tryz.isAgg427
 z232:=Tryz.sizeOf427
 v232:=Tryz.zeroValue427
 t233:=Tryz.underlying428
 a233:=Tryz.isAgg428
 z233:=Tryz.sizeOf428
 v233:=Tryz.zeroValue428
 g15:=by kernel_rfl
 g16:=by kernel_rfl
 g17:=by kernel_rfl
 g18:=by kernel_rfl
 g19:=by kernel_rfl
 t80:=Tryz.underlying316
 a80:=Tryz.isAgg316
 z80:=Tryz.sizeOf316
 v80:=Tryz.zeroValue316
 i0:=by kernel_rfl
 i2:=by kernel_rfl
 i3:=by kernel_rfl
 i4:=by kernel_rfl
 i5:=by kernel_rfl
 i9:=by kernel_rfl
 i20:=by kernel_rfl
 i21:=by kernel_rfl
 i37:=by kernel_rfl
 i46:=by kernel_rfl
 i51:=by kernel_rfl
 i53:=by kernel_rfl
 i75:=by kernel_rfl
 i76:=by kernel_rfl
 i80:=by kernel_rfl
 i85:=by kernel_rfl
 i127:=by kernel_rfl
 i143:=by kernel_rfl
 i145:=by kernel_rfl
 i167:=by kernel_rfl
 i168:=by kernel_rfl
 i171:=by kernel_rfl
 i173:=by kernel_rfl
 i175:=by kernel_rfl
 i210:=by kernel_rfl
 i212:=by kernel_rfl
 i232:=by kernel_rfl
 i233:=by kernel_rfl
 m15:=by kernel_rfl
 m16:=by kernel_rfl
 m17:=by kernel_rfl
 m18:=by kernel_rfl
 m19:=by kernel_rfl
 c0:=by kernel_rfl
 c2:=by kernel_rfl
 c3:=by kernel_rfl
 c4:=by kernel_rfl
 c5:=by kernel_rfl
 c9:=by kernel_rfl
 c20:=by kernel_rfl
 c21:=by kernel_rfl
 c37:=by kernel_rfl
 c46:=by kernel_rfl
 c51:=by kernel_rfl
 c53:=by kernel_rfl
 c75:=by kernel_rfl
 c76:=by kernel_rfl
 c80:=by kernel_rfl
 c85:=by kernel_rfl
 c127:=by kernel_rfl
 c143:=by kernel_rfl
 c145:=by kernel_rfl
 c167:=by kernel_rfl
 c168:=by kernel_rfl
 c171:=by kernel_rfl
 c173:=by kernel_rfl
 c175:=by kernel_rfl
 c210:=by kernel_rfl
 c212:=by kernel_rfl
 c213:=by kernel_rfl
 c232:=by kernel_rfl
 c233:=by kernel_rfl }
open Go.RowKit in
theorem Tryz.strconv_Atoi_ok (s:ByteArray) (hmax:s.size≤9223372036854775806) (v:Int) (h:Lib.atoiAll s.data.toList = .ok v) (w:World) :
 Calls Tryz.prog 264 #[.string s] w fun e w'=>e = .returned (.tuple #[.int .i64 v,.nilIface])∧(w'=w∨∃ t,w'=Lib.bytesWorld w 5 t):=Any.strconv_Atoi_ok Tryz.laysC172 s hmax v h w
open Go.RowKit in
def Tryz.lays157_ren:Go.Shelf.Ren:=⟨fun | 157=>244 | 229=>260 | 199=>261 | 261=>280 | 311=>287 | 312=>288 | n=>n,fun | 9=>9 | 31=>45 | 3=>3 | 5=>5 | 4=>4 | 119=>354 | 0=>0 | 40=>356 | 152=>369 | 21=>21 | 154=>371 | 51=>262 | 141=>373 | 196=>380 | 193=>377 | 198=>383 | 49=>381 | 194=>378 | 201=>386 | 226=>402 | 46=>193 | 227=>403 | n=>n,fun | 0=>0 | 6=>2 | n=>n⟩
theorem Tryz.lays157:Go.Proofs.Lays.n157 Tryz.prog Tryz.lays157_ren:={
 mixed:=by kernel_rfl
 f157:=Tryz.func244.trans (congrArg some (by kernel_rfl))
 f199:=Tryz.func261.trans (congrArg some (by kernel_rfl))
 f229:=Tryz.func260.trans (congrArg some (by kernel_rfl))
 f261:=Tryz.func280.trans (congrArg some (by kernel_rfl))
 f311:=Tryz.func287.trans (congrArg some (by kernel_rfl))
 f312:=Tryz.func288.trans (congrArg some (by kernel_rfl))
 t0:=Tryz.underlying0
 a0:=Tryz.isAgg0
 z0:=Tryz.sizeOf0
 v0:=Tryz.zeroValue0
 t3:=Tryz.underlying3
 a3:=Tryz.isAgg3
 z3:=Tryz.sizeOf3
 v3:=Tryz.zeroValue3
 t4:=Tryz.underlying4
 a4:=Tryz.isAgg4
 z4:=Tryz.sizeOf4
 v4:=Tryz.zeroValue4
 t5:=Tryz.underlying5
 a5:=Tryz.isAgg5
 z5:=Tryz.sizeOf5
 v5:=Tryz.zeroValue5
 t9:=Tryz.underlying9
 a9:=Tryz.isAgg9
 z9:=Tryz.sizeOf9
 v9:=Tryz.zeroValue9
 t21:=Tryz.underlying21
 a21:=Tryz.isAgg21
 z21:=Tryz.sizeOf21
 v21:=Tryz.zeroValue21
 t31:=Tryz.underlying45
 a31:=Tryz.isAgg45
 z31:=Tryz.sizeOf45
 v31:=Tryz.zeroValue45
 t40:=Tryz.underlying356
 a40:=Tryz.isAgg356
 z40:=Tryz.sizeOf356
 v40:=Tryz.zeroValue356
 t46:=Tryz.underlying193
 a46:=Tryz.isAgg193
 z46:=Tryz.sizeOf193
 v46:=Tryz.zeroValue193
 t49:=Tryz.underlying381
 a49:=Tryz.isAgg381
 z49:=Tryz.sizeOf381
 v49:=Tryz.zeroValue381
 t51:=Tryz.underlying262
 a51:=Tryz.isAgg262
 z51:=Tryz.sizeOf262
 v51:=Tryz.zeroValue262
 t119:=Tryz.underlying354
 a119:=Tryz.isAgg354
 z119:=Tryz.sizeOf354
 t141:=Tryz.underlying373
 a141:=Tryz.isAgg373
 z141:=Tryz.sizeOf373
 v141:=Tryz.zeroValue373
 t152:=Tryz.underlying369
 a152:=Tryz.isAgg369
 z152:=Tryz.sizeOf369
 v152:=Tryz.zeroValue369
 t154:=Tryz.underlying371
 a154:=Tryz.isAgg371
 z154:=Tryz.sizeOf371
 v154:=Tryz.zeroValue371
 t193:=Tryz.underlying377
 a193:=Tryz.isAgg377
 z193:=Tryz.sizeOf377
 v193:=Tryz.zeroValue377
 t194:=Tryz.underlying378
 a194:=Tryz.isAgg378
 z194:=Tryz.sizeOf378
 v194:=Tryz.zeroValue378
 t196:=Tryz.underlying380
 a196:=Tryz.isAgg380
 z196:=Tryz.sizeOf380
 v196:=Tryz.zeroValue380
 t198:=Tryz.underlying383
 a198:=Tryz.isAgg383
 z198:=Tryz.sizeOf383
 v198:=Tryz.zeroValue383
 t201:=Tryz.underlying386
 a201:=Tryz.isAgg386
 z201:=Tryz.sizeOf386
 v201:=Tryz.zeroValue386
 t226:=Tryz.underlying402
 a226:=Tryz.isAgg402
 z226:=Tryz.sizeOf402
 v226:=Tryz.zeroValue402
 t227:=Tryz.underlying403
 a227:=Tryz.isAgg403
 z227:=Tryz.sizeOf403
 v227:=Tryz.zeroValue403
 g0:=by kernel_rfl
 g6:=by kernel_rfl }
open Go.RowKit Go.Lib in
theorem Tryz.strings_Fields (s:ByteArray) (w:World) (hs:s.size<4294967281) (hascii:∀ (j:Nat) b,s.data.toList[j]? = some b→b.toNat<128) (htab:Lib.TabIs Tryz.prog w "strings.asciiSpace" .u8 Lib.asciiSpaceTab) :
 Calls Tryz.prog 244 #[.string s] w fun e w'=>
  e = .returned (.slice (some ⟨w.heap.size,0,none⟩) (Lib.fields s.data.toList).length (Lib.fields s.data.toList).length)∧w'=w.alloc (.cells ((Lib.fields s.data.toList).map fun l=>Value.string ⟨l.toArray⟩).toArray 9):=Any.strings_Fields Tryz.lays157 (by kernel_rfl) (by kernel_rfl) s w hs hascii htab
end Go.Proofs
namespace Go.Proofs.YtgjcniomhahgkaaGreatDoor
open Go.Abs Go.RowKit
theorem zjy:∀ a b:List UInt8,Lib.compareBytes a b=if a=b then 0 else if a<b then -1 else 1
  | [],[]=>rfl
  | [], y :: b => by
    have:([]:List UInt8)<y::b:=by simp
    simp [Lib.compareBytes]
  | x::a,[]=>by simp [Lib.compareBytes]
  | x :: a, y :: b => by
    have ih:=zjy a b
    rw [Lib.compareBytes]
    by_cases h1:x<y
    · have h2:x≠y:=by rintro rfl; exact absurd h1 (by simp)
      simp [h1,h2,List.cons_lt_cons_iff]
    · by_cases h2:y<x
      · have h3:x≠y:=by rintro rfl; exact absurd h2 (by simp)
        simp [h1,h2,h3,List.cons_lt_cons_iff]
      · have h3:x=y:=by
          exact UInt8.le_antisymm (UInt8.not_lt.1 h2) (UInt8.not_lt.1 h1)
        subst h3
        simp only [UInt8.lt_irrefl,if_false,ih,List.cons.injEq,true_and,List.cons_lt_cons_iff,false_or]
instance cmpH_k:Con Tryz.prog 237 0 (∀ {a b:List UInt8} {r:Int},cmpH a b=some r→Meets Tryz.prog 237 [.string (bs a),.string (bs b)] [] (fun v G=>v = .int .i64 r∧G=[])):=⟨Tryz.call237,fun {a b r} h=>by
 obtain rfl:=Option.some.inj h
 intro w o hb hs
 refine (Tryz.strings_Compare (bs a) (bs b) w).mono ?_
 rintro e w' ⟨rfl,rfl⟩
 exact z9A hb (Below.refl _ _) ⟨by rw [← zjy]; simp [bs],rfl⟩ zeI⟩
end Go.Proofs.YtgjcniomhahgkaaGreatDoor
namespace Go.Proofs.YtgjcniomhahgkaaGreatDoor
open Go.Abs Go.RowKit
set_option maxRecDepth 20000
set_option maxHeartbeats 2000000
structure GlobL (w:World):Prop where
 space:∃ g,Tryz.prog.globalNamed "strings.asciiSpace" = some g∧g<1∧Lib.TabIs Tryz.prog w "strings.asciiSpace" .u8 Lib.asciiSpaceTab
def globA:HA:=
 ⟨fun w o _=>1≤w.heap.size∧(∀ b,b<1→o b = .no)∧GlobL w,fun {w w' o o' k k'} hs _ h2 h=>by
  obtain ⟨a1,a2,a3⟩:=h
  have hb:∀ b,b<1→w'.heap[b]? = w.heap[b]?:=fun b hb=>(h2 b (by omega) (a2 b hb)).2
  refine ⟨by omega,fun b hb=>(h2 b (by omega) (a2 b hb)).1,?_⟩
  obtain ⟨⟨g4,e4,l4,f4⟩⟩:=a3
  refine ⟨⟨g4,e4,l4,?_⟩⟩
  unfold Lib.TabIs World.var? at f4 ⊢
  rw [e4] at f4 ⊢
  simp only [Option.bind_some] at f4 ⊢
  rw [hb g4 l4]; exact f4⟩
theorem zba:Free globA:=fun _ _ _ _ _ ho h=>⟨h.1,fun b hb=>ho b (Nat.lt_of_lt_of_le hb h.1) (h.2.1 b hb),h.2.2⟩
theorem z8z:Free globA:=zba
theorem z8M:Views globA globA false:=z9V zba
theorem gSpc:Tryz.prog.globalNamed "strings.asciiSpace" = some 0:=by kernel_rfl
instance idxH_k:Con Tryz.prog 242 0 (∀ {s:List UInt8} {c:Int} {r:Int},idxH s c=some r→Meets Tryz.prog 242 [.string (bs s),.int .u8 c] [] (fun v G=>v = .int .i64 r∧G=[])):=⟨Tryz.call242,by
 intro s c r h
 obtain rfl:=Option.some.inj h
 intro w o hb hs
 refine (Tryz.strings_IndexByte (bs s) c w).mono ?_
 rintro e w' ⟨rfl,rfl⟩
 exact z9A hb (Below.refl _ _) ⟨by rw [← ze3]; rfl,rfl⟩ zeI⟩
instance atoiH_k:Con Tryz.prog 264 0 (∀ {s:List UInt8} {r:Int×Bool},atoiH s=some r→Meets Tryz.prog 264 [.string (bs s)] [globA] (fun v G=>∃ v0,v = .tuple #[.int .i64 r.1,v0]∧G=[oif v0 r.2])):=⟨Tryz.call264,by
  intro s r h
  obtain ⟨⟨hl,hp⟩,h⟩:=z39 h
  obtain rfl:=Option.some.inj h
  intro w o hb hs
  have hsz:(bs s).size=s.length:=by simp [bs,ByteArray.size]
  have hd:(bs s).data.toList=s:=by simp [bs]
  unfold atoiP at hp ⊢
  cases ha:Lib.atoiAll s with
  | ok v =>
    refine (Tryz.strconv_Atoi_ok (bs s) (by omega) v (by rw [hd]; exact ha) w).mono ?_
    rintro e w' ⟨rfl,hw⟩
    have hbl:Below w.heap.size w w':=by
      rcases hw with rfl | ⟨t,rfl⟩
      · exact Below.refl _ _
      · exact Lib.bytesWorld_below _ _ _
    exact z9A hb hbl ⟨_,rfl,rfl⟩ fun j g hj=>by
      cases j with
      | zero=>obtain rfl:=Option.some.inj hj; exact .inl ⟨rfl,rfl⟩
      | succ j=>simp at hj
  | range=>rw [ha] at hp; simp at hp
  | _=>rw [ha] at hp; simp at hp⟩
theorem zgA:∀ (l:List UInt8) (b:Bool),Lib.cntF b l≤l.length
  | [],_=>Nat.le_refl _
  | c :: l, b => by
    have:=zgA l (Lib.isSp c)
    unfold Lib.cntF
    split <;> simp <;> omega
theorem zdI (s:List UInt8) {r:List (List UInt8)} (h:zc5 s=some r):Meets Tryz.prog 244 [.string (bs s)] [globA] (fun v G=>∃ v0,v=v0∧G=[row v0 1 (r.map eStr)]):=by
  obtain ⟨⟨hl,ha⟩,h⟩:=z39 h
  obtain rfl:=Option.some.inj h
  intro w o hb hs
  have hg:GlobL w:=(hs 0 _ rfl).2.2
  obtain ⟨g,e1,_,e2⟩:=hg.space
  have hsz:(bs s).size=s.length:=by simp [bs,ByteArray.size]
  have hd:(bs s).data.toList=s:=by simp [bs]
  refine (Tryz.strings_Fields (bs s) w (by omega) (fun j b hj=>ha b (by rw [hd] at hj; exact List.mem_of_getElem? hj)) e2).mono ?_
  rintro e w' ⟨rfl,rfl⟩
  rw [hd]
  have hlen:(Lib.fields s).length≤s.length:=by
    unfold Lib.fields
    rw [Lib.fieldsGo_length]
    have:=zgA s true
    simpa using this
  refine ⟨_,_,fun b=>if b=w.heap.size then .mine 0 else o b,rfl,⟨_,rfl,rfl⟩,?_,?_,?_⟩
  · intro b hb'
    simp [World.alloc,-World.alloc_eq] at hb'
    simp only [show ¬ b=w.heap.size by omega,if_false]
    exact hb b (by omega)
  · refine ⟨rfl,rfl,rfl,by simp [World.alloc,-World.alloc_eq],fun b hlt ho=>⟨by simp only [show ¬ b=w.heap.size by omega,if_false]; exact ho,Below.heap_alloc _ _ _ hlt⟩,fun b hlt ho=>⟨by simp only [show ¬ b=w.heap.size by omega,if_false]; exact ho,Below.heap_alloc _ _ _ hlt⟩⟩
  · intro j g hj
    cases j with
    | succ j=>simp at hj
    | zero =>
      obtain rfl:=Option.some.inj hj
      refine .inr ⟨w.heap.size,0,(Lib.fields s).length,((Lib.fields s).map fun l=>Value.string ⟨l.toArray⟩).toArray,9,(0,0),by simp,by simp,by simp [World.alloc,-World.alloc_eq],by simp [World.alloc,-World.alloc_eq],.inl (Nat.le_refl _),by simp,by simp,?_,?_,?_⟩
      · have:(4294967296:Nat)≤maxLen:=by decide
        omega
      · intro c' hc'
        obtain ⟨x,_,rfl⟩:=List.mem_map.1 hc'
        rfl
      · intro i c' hi j x hj
        simp only [List.getElem?_map,Option.map_eq_some_iff] at hi
        obtain ⟨y,hy,rfl⟩:=hi
        cases j with
        | succ j=>simp [eStr] at hj
        | zero =>
          obtain rfl:Value.string (bs y)=x:=by simpa [eStr] using hj
          simp [hy,bs]
instance fieldsH_k:Con Tryz.prog 244 0 (∀ {s:List UInt8} {r:List (List UInt8)},zc5 s=some r→Meets Tryz.prog 244 [.string (bs s)] [globA] (fun v G=>∃ v0,v=v0∧G=[row v0 1 (r.map eStr)])):=⟨Tryz.call244,fun {s} {r} h=>zdI s h⟩
theorem zlz {a b c:Nat} {H:List HA}:RecD Tryz.prog 170 [boxP a 0,boxP b 0,boxP c 0] .returning .returning H H:=by
 refine zbk Tryz.func170 rfl Tryz.ntmps170 rfl (fun w0 o0 c0 cf hu=>?_)
 refine z8p (z6a [0,1] rfl ?_)
 refine z6N (v:=.nilIface) (cs':=c0::cf) rfl rfl (by simp [recoverD,hu]) ?_
 refine zcW rfl rfl rfl (z9Y rfl) ?_
 refine z8m (z7s ?_)
 refine z8p (z6a [0,1] rfl ?_)
 refine zcW rfl rfl rfl (zgv rfl) ?_
 refine zcW rfl rfl rfl (zlL (v:=.nilIface) (b:=true) Tryz.runUnderlying20 rfl (.inl ⟨rfl,rfl⟩)) ?_
 refine z8m (z7s ?_)
 refine zao rfl ?_
 exact zcw (leafS Tryz.results170 (congrArg (·::cf) (z9o hu)))
instance:RecK Tryz.prog 170 0 (∀ {a b c:Nat} {H:List HA},RecD Tryz.prog 170 [boxP a 0,boxP b 0,boxP c 0] .returning .returning H H):=⟨Tryz.call170,zlz⟩
theorem zlb {a b:Nat} {H:List HA}:RecD Tryz.prog 129 [boxP a 0,boxP b 0] .returning .returning H H:=by
 refine zbk Tryz.func129 rfl Tryz.ntmps129 rfl (fun w0 o0 c0 cf hu=>?_)
 refine z8p (z6a [0,1] rfl ?_)
 refine z6N (v:=.nilIface) (cs':=c0::cf) rfl rfl (by simp [recoverD,hu]) ?_
 refine zcW rfl rfl rfl (z9Y rfl) ?_
 refine z8m (z7s ?_)
 refine z8p (z6a [0,1] rfl ?_)
 refine zcW rfl rfl rfl (zgv rfl) ?_
 refine zcW rfl rfl rfl (zlL (v:=.nilIface) (b:=true) Tryz.runUnderlying20 rfl (.inl ⟨rfl,rfl⟩)) ?_
 refine z8m (z7s ?_)
 refine zao rfl ?_
 exact zcw (leafS Tryz.results129 (congrArg (·::cf) (z9o hu)))
instance:RecK Tryz.prog 129 0 (∀ {a b:Nat} {H:List HA},RecD Tryz.prog 129 [boxP a 0,boxP b 0] .returning .returning H H):=⟨Tryz.call129,zlb⟩
theorem zjx {a b:Nat} {H:List HA}:RecD Tryz.prog 100 [boxP a 0,boxP b 0] .returning .returning H H:=by
 refine zbk Tryz.func100 rfl Tryz.ntmps100 rfl (fun w0 o0 c0 cf hu=>?_)
 refine z8p (z6a [0] rfl ?_)
 refine z6N (v:=.nilIface) (cs':=c0::cf) rfl rfl (by simp [recoverD,hu]) ?_
 refine z8m (z7s ?_)
 refine zeC (fun L hL=>?_)
 refine z7v (z7F (z3L ?_))
 refine ops_y (wn rfl) rfl (zgq (v:=.nilIface) (b:=true) Tryz.runUnderlying20 rfl (.inl ⟨rfl,rfl⟩)) ?_
 refine z6Z (z4F ?_)
 refine z7f rfl (z3L ?_)
 refine ops_y (wn rfl) rfl (z9Y rfl) ?_
 refine z6Z ?_
 refine z9E ?_
 exact fun a w r=>hL _ _ (leafS Tryz.results100 (congrArg (·::cf) (z9o hu))) a w r
instance:RecK Tryz.prog 100 0 (∀ {a b:Nat} {H:List HA},RecD Tryz.prog 100 [boxP a 0,boxP b 0] .returning .returning H H):=⟨Tryz.call100,zjx⟩
end Go.Proofs.YtgjcniomhahgkaaGreatDoor
namespace Go.Proofs.YtgjcniomhahgkaaGreatDoor
open Go.Abs
set_option maxRecDepth 20000
abbrev tabB (q:Nat×Nat×Nat×Nat×Nat×Nat):List HA:=[box q.1 [.int .i64 1],box q.2.1 [.int .i64 1],box q.2.2.1 [.func (.func 275) #[] #[]],box q.2.2.2.1 [.int .i64 3],box q.2.2.2.2.1 [.int .i64 3],mapis q.2.2.2.2.2 (mcells (fun n:Int=>Value.int .i64 n) (fun v:Value=>v) ([(8,.func (.func 273) #[] #[boxP q.1 0,boxP q.2.1 0]),(11,.func (.func 273) #[] #[boxP q.1 0,boxP q.2.1 0]),(12,.func (.func 273) #[] #[boxP q.1 0,boxP q.2.1 0]),(13,.func (.func 273) #[] #[boxP q.1 0,boxP q.2.1 0]),(14,.func (.func 273) #[] #[boxP q.1 0,boxP q.2.1 0]),(10,.func (.func 275) #[] #[]),(15,.func (.func 276) #[] #[boxP q.2.2.1 0]),(16,.func (.func 276) #[] #[boxP q.2.2.1 0]),(17,.func (.func 276) #[] #[boxP q.2.2.1 0]),(18,.func (.func 276) #[] #[boxP q.2.2.1 0]),(19,.func (.func 277) #[] #[]),(20,.func (.func 277) #[] #[]),(23,.func (.func 277) #[] #[]),(9,.func (.func 273) #[] #[boxP q.2.2.2.1 0,boxP q.2.2.2.2.1 0]),(21,.func (.func 273) #[] #[boxP q.2.2.2.1 0,boxP q.2.2.2.2.1 0]),(22,.func (.func 273) #[] #[boxP q.2.2.2.1 0,boxP q.2.2.2.2.1 0])]:List (Int×Value)))]
def rulF (v:Value):Option (Nat×Nat×Nat×Nat×Nat×Nat)→HA
 | none=>HA.andp (v = .map none) HA.emp
 | some q=>HA.andp (v = .map (some q.2.2.2.2.2)) (big (tabB q))
def rulA (v:Value):HA:=HA.ex (rulF v)
instance:Elt Rul:=⟨fun v _=>rulA v,fun v _=>rulA v⟩
theorem zlj {H:List HA}:Turn H (H++[rulA (.map none)]):=fun w o hb hs=>⟨o,hb,Tr.refl w o,fun j x hj=>by
 rw [List.getElem?_append] at hj
 split at hj
 ·exact hs j x hj
 ·cases hm:j - H.length with
  | zero=>rw [hm] at hj; simp at hj; subst hj; exact ⟨none,rfl,trivial⟩
  | succ m=>rw [hm] at hj; simp at hj⟩
instance:Fre rulA (.map none):=⟨fun _=>zlj⟩
instance {v:Value}:Sct (rulA v):=⟨zge fun m=>by
 cases m with
 | none=>exact zas zeW
 | some q=>exact zas zeU⟩
theorem zaQ {H:List HA} (q:Nat×Nat×Nat×Nat×Nat×Nat):Turn (H++tabB q) (H++[rulA (.map (some q.2.2.2.2.2))]):=(ziM H (tabB q) sgx).trans (zgl fun w o k h=>⟨some q,rfl,h⟩)
theorem zfU (n:Nat) (x:zw) (op:Int) (l:List Int):z2k n x.typer_.vars_ x.kinds_ op l=z1b n x.typer_.vars_ 1 1 3 3 x.kinds_ op l:=by
 unfold z2k z1b
 rw [show z6d=some () from rfl]
 rfl
end Go.Proofs.YtgjcniomhahgkaaGreatDoor
