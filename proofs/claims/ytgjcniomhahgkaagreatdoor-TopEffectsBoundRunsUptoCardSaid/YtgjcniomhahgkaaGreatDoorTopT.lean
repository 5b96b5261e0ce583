/-
  The driver, at this seat.
-/
import Derived.Test.YtgjcniomhahgkaaGreatDoorM4
import Derived.Test.YtgjcniomhahgkaaGreatDoorAbsZ
import Derived.Test.YtgjcniomhahgkaaGreatDoorChecked
set_option linter.unusedSimpArgs false
set_option linter.unusedVariables false
namespace Go.Proofs.YtgjcniomhahgkaaGreatDoor
open Go.Abs Tryz
set_option maxRecDepth 20000
instance:Et 3 Int (eInt .i64):=⟨trivial⟩
instance:Et 5 UInt8 eB8:=⟨trivial⟩
instance:Et 9 (List UInt8) eStr:=⟨trivial⟩
instance:Mt 3 4 Int Bool (.int .i64) (fun n:Int=>Value.int .i64 n) (fun b:Bool=>Value.bool b) false:=⟨trivial⟩
instance:Mt 9 4 (List UInt8) Bool .string (fun l:List UInt8=>Value.string (bs l)) (fun b:Bool=>Value.bool b) false:=⟨trivial⟩
instance:Mt 3 3 Int Int (.int .i64) (fun n:Int=>Value.int .i64 n) (fun n:Int=>Value.int .i64 n) 0:=⟨trivial⟩
instance:Mt 9 3 (List UInt8) Int .string (fun l:List UInt8=>Value.string (bs l)) (fun n:Int=>Value.int .i64 n) 0:=⟨trivial⟩
instance:Mt 3 156 Int Value (.int .i64) (fun n:Int=>Value.int .i64 n) (fun v:Value=>v) .nilFunc:=⟨trivial⟩
instance:Mt 3 130 Int Value (.int .i64) (fun n:Int=>Value.int .i64 n) (fun v:Value=>v) .nilFunc:=⟨trivial⟩
instance:Mt 3 343 Int Value (.int .i64) (fun n:Int=>Value.int .i64 n) (fun v:Value=>v) .nilFunc:=⟨trivial⟩
instance:Mt 3 22 Int Value (.int .i64) (fun n:Int=>Value.int .i64 n) (fun v:Value=>v) (.slice none 0 0):=⟨trivial⟩
instance:Mt 9 320 (List UInt8) Value .string (fun l:List UInt8=>Value.string (bs l)) (fun v:Value=>v) .nilFunc:=⟨trivial⟩
class Ty (T:TypeId) (n:outParam Nat) (b:outParam Bool) (d:outParam TypeDesc) (i:outParam TypeInfo) (z:outParam Value):Prop where
 n:∀ w,(sizeOf T).run Tryz.prog w = .ok n w
 b:∀ w,(isAgg T).run Tryz.prog w = .ok b w
 d:∀ w,(underlying T).run Tryz.prog w = .ok d w
 i:∀ w,(typeInfo T).run Tryz.prog w = .ok i w
 z:∀ w,(zeroValue T).run Tryz.prog w = .ok z w
def zv (i:TypeInfo):Value:=i.zero.getD undef
instance:Ty 0 1 false t0.desc t0 (zv t0):=⟨sizeOf0,isAgg0,runUnderlying0,typeInfo0,zeroValue0⟩
instance:Ty 1 1 false t1.desc t1 (zv t1):=⟨sizeOf1,isAgg1,runUnderlying1,typeInfo1,zeroValue1⟩
instance:Ty 2 1 false t2.desc t2 (zv t2):=⟨sizeOf2,isAgg2,runUnderlying2,typeInfo2,zeroValue2⟩
instance:Ty 3 1 false t3.desc t3 (zv t3):=⟨sizeOf3,isAgg3,runUnderlying3,typeInfo3,zeroValue3⟩
instance:Ty 4 1 false t4.desc t4 (zv t4):=⟨sizeOf4,isAgg4,runUnderlying4,typeInfo4,zeroValue4⟩
instance:Ty 5 1 false t5.desc t5 (zv t5):=⟨sizeOf5,isAgg5,runUnderlying5,typeInfo5,zeroValue5⟩
instance:Ty 6 1 false t5.desc t6 (zv t6):=⟨sizeOf6,isAgg6,runUnderlying6,typeInfo6,zeroValue6⟩
instance:Ty 7 4 true t7.desc t7 (zv t7):=⟨sizeOf7,isAgg7,runUnderlying7,typeInfo7,zeroValue7⟩
instance:Ty 8 4 true t7.desc t8 (zv t8):=⟨sizeOf8,isAgg8,runUnderlying8,typeInfo8,zeroValue8⟩
instance:Ty 9 1 false t9.desc t9 (zv t9):=⟨sizeOf9,isAgg9,runUnderlying9,typeInfo9,zeroValue9⟩
instance:Ty 10 1 false t9.desc t10 (zv t10):=⟨sizeOf10,isAgg10,runUnderlying10,typeInfo10,zeroValue10⟩
instance:Ty 11 1 false t9.desc t11 (zv t11):=⟨sizeOf11,isAgg11,runUnderlying11,typeInfo11,zeroValue11⟩
instance:Ty 12 1 false t12.desc t12 (zv t12):=⟨sizeOf12,isAgg12,runUnderlying12,typeInfo12,zeroValue12⟩
instance:Ty 13 2 true t13.desc t13 (zv t13):=⟨sizeOf13,isAgg13,runUnderlying13,typeInfo13,zeroValue13⟩
instance:Ty 14 2 true t13.desc t14 (zv t14):=⟨sizeOf14,isAgg14,runUnderlying14,typeInfo14,zeroValue14⟩
instance:Ty 15 1 false t15.desc t15 (zv t15):=⟨sizeOf15,isAgg15,runUnderlying15,typeInfo15,zeroValue15⟩
instance:Ty 16 1 false t16.desc t16 (zv t16):=⟨sizeOf16,isAgg16,runUnderlying16,typeInfo16,zeroValue16⟩
instance:Ty 17 1 false t17.desc t17 (zv t17):=⟨sizeOf17,isAgg17,runUnderlying17,typeInfo17,zeroValue17⟩
instance:Ty 18 1 true t18.desc t18 (zv t18):=⟨sizeOf18,isAgg18,runUnderlying18,typeInfo18,zeroValue18⟩
instance:Ty 19 1 true t18.desc t19 (zv t19):=⟨sizeOf19,isAgg19,runUnderlying19,typeInfo19,zeroValue19⟩
instance:Ty 20 1 false t20.desc t20 (zv t20):=⟨sizeOf20,isAgg20,runUnderlying20,typeInfo20,zeroValue20⟩
instance:Ty 21 1 false t21.desc t21 (zv t21):=⟨sizeOf21,isAgg21,runUnderlying21,typeInfo21,zeroValue21⟩
instance:Ty 22 1 false t22.desc t22 (zv t22):=⟨sizeOf22,isAgg22,runUnderlying22,typeInfo22,zeroValue22⟩
instance:Ty 23 1 false t23.desc t23 (zv t23):=⟨sizeOf23,isAgg23,runUnderlying23,typeInfo23,zeroValue23⟩
instance:Ty 24 3 true t24.desc t24 (zv t24):=⟨sizeOf24,isAgg24,runUnderlying24,typeInfo24,zeroValue24⟩
instance:Ty 25 3 true t24.desc t25 (zv t25):=⟨sizeOf25,isAgg25,runUnderlying25,typeInfo25,zeroValue25⟩
instance:Ty 26 1 false t26.desc t26 (zv t26):=⟨sizeOf26,isAgg26,runUnderlying26,typeInfo26,zeroValue26⟩
instance:Ty 27 2 true t27.desc t27 (zv t27):=⟨sizeOf27,isAgg27,runUnderlying27,typeInfo27,zeroValue27⟩
instance:Ty 28 2 true t27.desc t28 (zv t28):=⟨sizeOf28,isAgg28,runUnderlying28,typeInfo28,zeroValue28⟩
instance:Ty 29 1 false t29.desc t29 (zv t29):=⟨sizeOf29,isAgg29,runUnderlying29,typeInfo29,zeroValue29⟩
instance:Ty 30 1 false t30.desc t30 (zv t30):=⟨sizeOf30,isAgg30,runUnderlying30,typeInfo30,zeroValue30⟩
instance:Ty 31 1 false t31.desc t31 (zv t31):=⟨sizeOf31,isAgg31,runUnderlying31,typeInfo31,zeroValue31⟩
instance:Ty 32 1 false t32.desc t32 (zv t32):=⟨sizeOf32,isAgg32,runUnderlying32,typeInfo32,zeroValue32⟩
instance:Ty 33 1 false t3.desc t33 (zv t33):=⟨sizeOf33,isAgg33,runUnderlying33,typeInfo33,zeroValue33⟩
instance:Ty 34 1 false t34.desc t34 (zv t34):=⟨sizeOf34,isAgg34,runUnderlying34,typeInfo34,zeroValue34⟩
instance:Ty 35 1 false t35.desc t35 (zv t35):=⟨sizeOf35,isAgg35,runUnderlying35,typeInfo35,zeroValue35⟩
instance:Ty 36 1 false t36.desc t36 (zv t36):=⟨sizeOf36,isAgg36,runUnderlying36,typeInfo36,zeroValue36⟩
instance:Ty 37 3 true t37.desc t37 (zv t37):=⟨sizeOf37,isAgg37,runUnderlying37,typeInfo37,zeroValue37⟩
instance:Ty 38 3 true t37.desc t38 (zv t38):=⟨sizeOf38,isAgg38,runUnderlying38,typeInfo38,zeroValue38⟩
instance:Ty 39 1 false t39.desc t39 (zv t39):=⟨sizeOf39,isAgg39,runUnderlying39,typeInfo39,zeroValue39⟩
instance:Ty 40 1 false t40.desc t40 (zv t40):=⟨sizeOf40,isAgg40,runUnderlying40,typeInfo40,zeroValue40⟩
instance:Ty 41 1 false t41.desc t41 (zv t41):=⟨sizeOf41,isAgg41,runUnderlying41,typeInfo41,zeroValue41⟩
instance:Ty 42 1 false t42.desc t42 (zv t42):=⟨sizeOf42,isAgg42,runUnderlying42,typeInfo42,zeroValue42⟩
instance:Ty 43 1 false t43.desc t43 (zv t43):=⟨sizeOf43,isAgg43,runUnderlying43,typeInfo43,zeroValue43⟩
instance:Ty 44 1 false t44.desc t44 (zv t44):=⟨sizeOf44,isAgg44,runUnderlying44,typeInfo44,zeroValue44⟩
instance:Ty 45 1 false t45.desc t45 (zv t45):=⟨sizeOf45,isAgg45,runUnderlying45,typeInfo45,zeroValue45⟩
instance:Ty 46 5 true t46.desc t46 (zv t46):=⟨sizeOf46,isAgg46,runUnderlying46,typeInfo46,zeroValue46⟩
instance:Ty 47 5 true t46.desc t47 (zv t47):=⟨sizeOf47,isAgg47,runUnderlying47,typeInfo47,zeroValue47⟩
instance:Ty 48 12 true t48.desc t48 (zv t48):=⟨sizeOf48,isAgg48,runUnderlying48,typeInfo48,zeroValue48⟩
instance:Ty 49 12 true t48.desc t49 (zv t49):=⟨sizeOf49,isAgg49,runUnderlying49,typeInfo49,zeroValue49⟩
instance:Ty 50 1 false t50.desc t50 (zv t50):=⟨sizeOf50,isAgg50,runUnderlying50,typeInfo50,zeroValue50⟩
instance:Ty 51 1 false t51.desc t51 (zv t51):=⟨sizeOf51,isAgg51,runUnderlying51,typeInfo51,zeroValue51⟩
instance:Ty 52 1 false t52.desc t52 (zv t52):=⟨sizeOf52,isAgg52,runUnderlying52,typeInfo52,zeroValue52⟩
instance:Ty 53 1 false t53.desc t53 (zv t53):=⟨sizeOf53,isAgg53,runUnderlying53,typeInfo53,zeroValue53⟩
instance:Ty 54 1 false t54.desc t54 (zv t54):=⟨sizeOf54,isAgg54,runUnderlying54,typeInfo54,zeroValue54⟩
instance:Ty 55 1 false t55.desc t55 (zv t55):=⟨sizeOf55,isAgg55,runUnderlying55,typeInfo55,zeroValue55⟩
instance:Ty 56 1 false t56.desc t56 (zv t56):=⟨sizeOf56,isAgg56,runUnderlying56,typeInfo56,zeroValue56⟩
instance:Ty 57 2 true t57.desc t57 (zv t57):=⟨sizeOf57,isAgg57,runUnderlying57,typeInfo57,zeroValue57⟩
instance:Ty 58 2 true t57.desc t58 (zv t58):=⟨sizeOf58,isAgg58,runUnderlying58,typeInfo58,zeroValue58⟩
instance:Ty 59 1 false t59.desc t59 (zv t59):=⟨sizeOf59,isAgg59,runUnderlying59,typeInfo59,zeroValue59⟩
instance:Ty 60 1 false t60.desc t60 (zv t60):=⟨sizeOf60,isAgg60,runUnderlying60,typeInfo60,zeroValue60⟩
instance:Ty 61 1 false t61.desc t61 (zv t61):=⟨sizeOf61,isAgg61,runUnderlying61,typeInfo61,zeroValue61⟩
instance:Ty 62 6 true t62.desc t62 (zv t62):=⟨sizeOf62,isAgg62,runUnderlying62,typeInfo62,zeroValue62⟩
instance:Ty 63 6 true t62.desc t63 (zv t63):=⟨sizeOf63,isAgg63,runUnderlying63,typeInfo63,zeroValue63⟩
instance:Ty 64 12 true t64.desc t64 (zv t64):=⟨sizeOf64,isAgg64,runUnderlying64,typeInfo64,zeroValue64⟩
instance:Ty 65 12 true t64.desc t65 (zv t65):=⟨sizeOf65,isAgg65,runUnderlying65,typeInfo65,zeroValue65⟩
instance:Ty 66 1 false t66.desc t66 (zv t66):=⟨sizeOf66,isAgg66,runUnderlying66,typeInfo66,zeroValue66⟩
instance:Ty 67 1 false t67.desc t67 (zv t67):=⟨sizeOf67,isAgg67,runUnderlying67,typeInfo67,zeroValue67⟩
instance:Ty 68 1 false t68.desc t68 (zv t68):=⟨sizeOf68,isAgg68,runUnderlying68,typeInfo68,zeroValue68⟩
instance:Ty 69 1 false t69.desc t69 (zv t69):=⟨sizeOf69,isAgg69,runUnderlying69,typeInfo69,zeroValue69⟩
instance:Ty 70 3 true t70.desc t70 (zv t70):=⟨sizeOf70,isAgg70,runUnderlying70,typeInfo70,zeroValue70⟩
instance:Ty 71 3 true t70.desc t71 (zv t71):=⟨sizeOf71,isAgg71,runUnderlying71,typeInfo71,zeroValue71⟩
instance:Ty 72 1 false t72.desc t72 (zv t72):=⟨sizeOf72,isAgg72,runUnderlying72,typeInfo72,zeroValue72⟩
instance:Ty 73 1 false t73.desc t73 (zv t73):=⟨sizeOf73,isAgg73,runUnderlying73,typeInfo73,zeroValue73⟩
instance:Ty 74 1 true t74.desc t74 (zv t74):=⟨sizeOf74,isAgg74,runUnderlying74,typeInfo74,zeroValue74⟩
instance:Ty 75 1 true t74.desc t75 (zv t75):=⟨sizeOf75,isAgg75,runUnderlying75,typeInfo75,zeroValue75⟩
instance:Ty 76 1 false t76.desc t76 (zv t76):=⟨sizeOf76,isAgg76,runUnderlying76,typeInfo76,zeroValue76⟩
instance:Ty 77 1 false t77.desc t77 (zv t77):=⟨sizeOf77,isAgg77,runUnderlying77,typeInfo77,zeroValue77⟩
instance:Ty 78 1 false t78.desc t78 (zv t78):=⟨sizeOf78,isAgg78,runUnderlying78,typeInfo78,zeroValue78⟩
instance:Ty 79 1 false t79.desc t79 (zv t79):=⟨sizeOf79,isAgg79,runUnderlying79,typeInfo79,zeroValue79⟩
instance:Ty 80 1 false t80.desc t80 (zv t80):=⟨sizeOf80,isAgg80,runUnderlying80,typeInfo80,zeroValue80⟩
instance:Ty 81 3 true t81.desc t81 (zv t81):=⟨sizeOf81,isAgg81,runUnderlying81,typeInfo81,zeroValue81⟩
instance:Ty 82 3 true t81.desc t82 (zv t82):=⟨sizeOf82,isAgg82,runUnderlying82,typeInfo82,zeroValue82⟩
instance:Ty 83 1 false t83.desc t83 (zv t83):=⟨sizeOf83,isAgg83,runUnderlying83,typeInfo83,zeroValue83⟩
instance:Ty 84 1 false t84.desc t84 (zv t84):=⟨sizeOf84,isAgg84,runUnderlying84,typeInfo84,zeroValue84⟩
instance:Ty 85 1 false t85.desc t85 (zv t85):=⟨sizeOf85,isAgg85,runUnderlying85,typeInfo85,zeroValue85⟩
instance:Ty 86 1 false t86.desc t86 (zv t86):=⟨sizeOf86,isAgg86,runUnderlying86,typeInfo86,zeroValue86⟩
instance:Ty 87 1 false t87.desc t87 (zv t87):=⟨sizeOf87,isAgg87,runUnderlying87,typeInfo87,zeroValue87⟩
instance:Ty 88 1 false t88.desc t88 (zv t88):=⟨sizeOf88,isAgg88,runUnderlying88,typeInfo88,zeroValue88⟩
instance:Ty 89 1 false t89.desc t89 (zv t89):=⟨sizeOf89,isAgg89,runUnderlying89,typeInfo89,zeroValue89⟩
instance:Ty 90 1 false t90.desc t90 (zv t90):=⟨sizeOf90,isAgg90,runUnderlying90,typeInfo90,zeroValue90⟩
instance:Ty 91 13 true t91.desc t91 (zv t91):=⟨sizeOf91,isAgg91,runUnderlying91,typeInfo91,zeroValue91⟩
instance:Ty 92 13 true t91.desc t92 (zv t92):=⟨sizeOf92,isAgg92,runUnderlying92,typeInfo92,zeroValue92⟩
instance:Ty 93 1 false t93.desc t93 (zv t93):=⟨sizeOf93,isAgg93,runUnderlying93,typeInfo93,zeroValue93⟩
instance:Ty 94 1 false t94.desc t94 (zv t94):=⟨sizeOf94,isAgg94,runUnderlying94,typeInfo94,zeroValue94⟩
instance:Ty 95 1 false t95.desc t95 (zv t95):=⟨sizeOf95,isAgg95,runUnderlying95,typeInfo95,zeroValue95⟩
instance:Ty 96 1 false t96.desc t96 (zv t96):=⟨sizeOf96,isAgg96,runUnderlying96,typeInfo96,zeroValue96⟩
instance:Ty 97 1 false t97.desc t97 (zv t97):=⟨sizeOf97,isAgg97,runUnderlying97,typeInfo97,zeroValue97⟩
instance:Ty 98 1 false t98.desc t98 (zv t98):=⟨sizeOf98,isAgg98,runUnderlying98,typeInfo98,zeroValue98⟩
instance:Ty 99 1 false t99.desc t99 (zv t99):=⟨sizeOf99,isAgg99,runUnderlying99,typeInfo99,zeroValue99⟩
instance:Ty 100 1 false t99.desc t100 (zv t100):=⟨sizeOf100,isAgg100,runUnderlying100,typeInfo100,zeroValue100⟩
instance:Ty 101 1 false t101.desc t101 (zv t101):=⟨sizeOf101,isAgg101,runUnderlying101,typeInfo101,zeroValue101⟩
instance:Ty 102 1 false t102.desc t102 (zv t102):=⟨sizeOf102,isAgg102,runUnderlying102,typeInfo102,zeroValue102⟩
instance:Ty 103 1 false t103.desc t103 (zv t103):=⟨sizeOf103,isAgg103,runUnderlying103,typeInfo103,zeroValue103⟩
instance:Ty 104 4 true t104.desc t104 (zv t104):=⟨sizeOf104,isAgg104,runUnderlying104,typeInfo104,zeroValue104⟩
instance:Ty 105 4 true t104.desc t105 (zv t105):=⟨sizeOf105,isAgg105,runUnderlying105,typeInfo105,zeroValue105⟩
instance:Ty 106 1 false t106.desc t106 (zv t106):=⟨sizeOf106,isAgg106,runUnderlying106,typeInfo106,zeroValue106⟩
instance:Ty 107 1 false t107.desc t107 (zv t107):=⟨sizeOf107,isAgg107,runUnderlying107,typeInfo107,zeroValue107⟩
instance:Ty 108 1 false t108.desc t108 (zv t108):=⟨sizeOf108,isAgg108,runUnderlying108,typeInfo108,zeroValue108⟩
instance:Ty 109 1 false t109.desc t109 (zv t109):=⟨sizeOf109,isAgg109,runUnderlying109,typeInfo109,zeroValue109⟩
instance:Ty 110 1 false t110.desc t110 (zv t110):=⟨sizeOf110,isAgg110,runUnderlying110,typeInfo110,zeroValue110⟩
instance:Ty 111 1 false t111.desc t111 (zv t111):=⟨sizeOf111,isAgg111,runUnderlying111,typeInfo111,zeroValue111⟩
instance:Ty 112 2 true t112.desc t112 (zv t112):=⟨sizeOf112,isAgg112,runUnderlying112,typeInfo112,zeroValue112⟩
instance:Ty 113 2 true t112.desc t113 (zv t113):=⟨sizeOf113,isAgg113,runUnderlying113,typeInfo113,zeroValue113⟩
instance:Ty 114 2 true t114.desc t114 (zv t114):=⟨sizeOf114,isAgg114,runUnderlying114,typeInfo114,zeroValue114⟩
instance:Ty 115 2 true t114.desc t115 (zv t115):=⟨sizeOf115,isAgg115,runUnderlying115,typeInfo115,zeroValue115⟩
instance:Ty 116 1 false t116.desc t116 (zv t116):=⟨sizeOf116,isAgg116,runUnderlying116,typeInfo116,zeroValue116⟩
instance:Ty 117 1 false t117.desc t117 (zv t117):=⟨sizeOf117,isAgg117,runUnderlying117,typeInfo117,zeroValue117⟩
instance:Ty 118 1 false t118.desc t118 (zv t118):=⟨sizeOf118,isAgg118,runUnderlying118,typeInfo118,zeroValue118⟩
instance:Ty 119 2 true t119.desc t119 (zv t119):=⟨sizeOf119,isAgg119,runUnderlying119,typeInfo119,zeroValue119⟩
instance:Ty 120 2 true t119.desc t120 (zv t120):=⟨sizeOf120,isAgg120,runUnderlying120,typeInfo120,zeroValue120⟩
instance:Ty 121 1 false t121.desc t121 (zv t121):=⟨sizeOf121,isAgg121,runUnderlying121,typeInfo121,zeroValue121⟩
instance:Ty 122 1 false t122.desc t122 (zv t122):=⟨sizeOf122,isAgg122,runUnderlying122,typeInfo122,zeroValue122⟩
instance:Ty 123 1 false t123.desc t123 (zv t123):=⟨sizeOf123,isAgg123,runUnderlying123,typeInfo123,zeroValue123⟩
instance:Ty 124 1 false t124.desc t124 (zv t124):=⟨sizeOf124,isAgg124,runUnderlying124,typeInfo124,zeroValue124⟩
instance:Ty 125 6 true t125.desc t125 (zv t125):=⟨sizeOf125,isAgg125,runUnderlying125,typeInfo125,zeroValue125⟩
instance:Ty 126 6 true t125.desc t126 (zv t126):=⟨sizeOf126,isAgg126,runUnderlying126,typeInfo126,zeroValue126⟩
instance:Ty 127 1 false t127.desc t127 (zv t127):=⟨sizeOf127,isAgg127,runUnderlying127,typeInfo127,zeroValue127⟩
instance:Ty 128 1 false t128.desc t128 (zv t128):=⟨sizeOf128,isAgg128,runUnderlying128,typeInfo128,zeroValue128⟩
instance:Ty 129 1 false t129.desc t129 (zv t129):=⟨sizeOf129,isAgg129,runUnderlying129,typeInfo129,zeroValue129⟩
instance:Ty 130 1 false t130.desc t130 (zv t130):=⟨sizeOf130,isAgg130,runUnderlying130,typeInfo130,zeroValue130⟩
instance:Ty 131 1 false t131.desc t131 (zv t131):=⟨sizeOf131,isAgg131,runUnderlying131,typeInfo131,zeroValue131⟩
instance:Ty 132 1 false t132.desc t132 (zv t132):=⟨sizeOf132,isAgg132,runUnderlying132,typeInfo132,zeroValue132⟩
instance:Ty 133 1 false t133.desc t133 (zv t133):=⟨sizeOf133,isAgg133,runUnderlying133,typeInfo133,zeroValue133⟩
instance:Ty 134 1 false t134.desc t134 (zv t134):=⟨sizeOf134,isAgg134,runUnderlying134,typeInfo134,zeroValue134⟩
instance:Ty 135 1 false t135.desc t135 (zv t135):=⟨sizeOf135,isAgg135,runUnderlying135,typeInfo135,zeroValue135⟩
instance:Ty 136 1 false t136.desc t136 (zv t136):=⟨sizeOf136,isAgg136,runUnderlying136,typeInfo136,zeroValue136⟩
instance:Ty 137 1 false t137.desc t137 (zv t137):=⟨sizeOf137,isAgg137,runUnderlying137,typeInfo137,zeroValue137⟩
instance:Ty 138 3 true t138.desc t138 (zv t138):=⟨sizeOf138,isAgg138,runUnderlying138,typeInfo138,zeroValue138⟩
instance:Ty 139 3 true t138.desc t139 (zv t139):=⟨sizeOf139,isAgg139,runUnderlying139,typeInfo139,zeroValue139⟩
instance:Ty 140 1 false t140.desc t140 (zv t140):=⟨sizeOf140,isAgg140,runUnderlying140,typeInfo140,zeroValue140⟩
instance:Ty 141 1 false t141.desc t141 (zv t141):=⟨sizeOf141,isAgg141,runUnderlying141,typeInfo141,zeroValue141⟩
instance:Ty 142 1 false t142.desc t142 (zv t142):=⟨sizeOf142,isAgg142,runUnderlying142,typeInfo142,zeroValue142⟩
instance:Ty 143 1 false t143.desc t143 (zv t143):=⟨sizeOf143,isAgg143,runUnderlying143,typeInfo143,zeroValue143⟩
instance:Ty 144 1 false t144.desc t144 (zv t144):=⟨sizeOf144,isAgg144,runUnderlying144,typeInfo144,zeroValue144⟩
instance:Ty 145 1 false t145.desc t145 (zv t145):=⟨sizeOf145,isAgg145,runUnderlying145,typeInfo145,zeroValue145⟩
instance:Ty 146 1 false t146.desc t146 (zv t146):=⟨sizeOf146,isAgg146,runUnderlying146,typeInfo146,zeroValue146⟩
instance:Ty 147 1 false t147.desc t147 (zv t147):=⟨sizeOf147,isAgg147,runUnderlying147,typeInfo147,zeroValue147⟩
instance:Ty 148 1 false t148.desc t148 (zv t148):=⟨sizeOf148,isAgg148,runUnderlying148,typeInfo148,zeroValue148⟩
instance:Ty 149 1 false t149.desc t149 (zv t149):=⟨sizeOf149,isAgg149,runUnderlying149,typeInfo149,zeroValue149⟩
instance:Ty 150 1 false t150.desc t150 (zv t150):=⟨sizeOf150,isAgg150,runUnderlying150,typeInfo150,zeroValue150⟩
instance:Ty 151 1 false t151.desc t151 (zv t151):=⟨sizeOf151,isAgg151,runUnderlying151,typeInfo151,zeroValue151⟩
instance:Ty 152 3 true t152.desc t152 (zv t152):=⟨sizeOf152,isAgg152,runUnderlying152,typeInfo152,zeroValue152⟩
instance:Ty 153 3 true t152.desc t153 (zv t153):=⟨sizeOf153,isAgg153,runUnderlying153,typeInfo153,zeroValue153⟩
instance:Ty 154 1 false t154.desc t154 (zv t154):=⟨sizeOf154,isAgg154,runUnderlying154,typeInfo154,zeroValue154⟩
instance:Ty 155 1 false t155.desc t155 (zv t155):=⟨sizeOf155,isAgg155,runUnderlying155,typeInfo155,zeroValue155⟩
instance:Ty 156 1 false t156.desc t156 (zv t156):=⟨sizeOf156,isAgg156,runUnderlying156,typeInfo156,zeroValue156⟩
instance:Ty 157 1 true t157.desc t157 (zv t157):=⟨sizeOf157,isAgg157,runUnderlying157,typeInfo157,zeroValue157⟩
instance:Ty 158 1 true t157.desc t158 (zv t158):=⟨sizeOf158,isAgg158,runUnderlying158,typeInfo158,zeroValue158⟩
instance:Ty 159 1 false t159.desc t159 (zv t159):=⟨sizeOf159,isAgg159,runUnderlying159,typeInfo159,zeroValue159⟩
instance:Ty 160 1 false t160.desc t160 (zv t160):=⟨sizeOf160,isAgg160,runUnderlying160,typeInfo160,zeroValue160⟩
instance:Ty 161 1 false t160.desc t161 (zv t161):=⟨sizeOf161,isAgg161,runUnderlying161,typeInfo161,zeroValue161⟩
instance:Ty 162 1 false t162.desc t162 (zv t162):=⟨sizeOf162,isAgg162,runUnderlying162,typeInfo162,zeroValue162⟩
instance:Ty 163 1 false t163.desc t163 (zv t163):=⟨sizeOf163,isAgg163,runUnderlying163,typeInfo163,zeroValue163⟩
instance:Ty 164 1 false t163.desc t164 (zv t164):=⟨sizeOf164,isAgg164,runUnderlying164,typeInfo164,zeroValue164⟩
instance:Ty 165 1 false t165.desc t165 (zv t165):=⟨sizeOf165,isAgg165,runUnderlying165,typeInfo165,zeroValue165⟩
instance:Ty 166 1 false t166.desc t166 (zv t166):=⟨sizeOf166,isAgg166,runUnderlying166,typeInfo166,zeroValue166⟩
instance:Ty 167 1 false t167.desc t167 (zv t167):=⟨sizeOf167,isAgg167,runUnderlying167,typeInfo167,zeroValue167⟩
instance:Ty 168 1 false t168.desc t168 (zv t168):=⟨sizeOf168,isAgg168,runUnderlying168,typeInfo168,zeroValue168⟩
instance:Ty 169 1 false t169.desc t169 (zv t169):=⟨sizeOf169,isAgg169,runUnderlying169,typeInfo169,zeroValue169⟩
instance:Ty 170 1 false t170.desc t170 (zv t170):=⟨sizeOf170,isAgg170,runUnderlying170,typeInfo170,zeroValue170⟩
instance:Ty 171 1 false t171.desc t171 (zv t171):=⟨sizeOf171,isAgg171,runUnderlying171,typeInfo171,zeroValue171⟩
instance:Ty 172 2 true t172.desc t172 (zv t172):=⟨sizeOf172,isAgg172,runUnderlying172,typeInfo172,zeroValue172⟩
instance:Ty 173 2 true t172.desc t173 (zv t173):=⟨sizeOf173,isAgg173,runUnderlying173,typeInfo173,zeroValue173⟩
instance:Ty 174 1 false t174.desc t174 (zv t174):=⟨sizeOf174,isAgg174,runUnderlying174,typeInfo174,zeroValue174⟩
instance:Ty 175 1 false t175.desc t175 (zv t175):=⟨sizeOf175,isAgg175,runUnderlying175,typeInfo175,zeroValue175⟩
instance:Ty 176 1 false t176.desc t176 (zv t176):=⟨sizeOf176,isAgg176,runUnderlying176,typeInfo176,zeroValue176⟩
instance:Ty 177 1 false t177.desc t177 (zv t177):=⟨sizeOf177,isAgg177,runUnderlying177,typeInfo177,zeroValue177⟩
instance:Ty 178 2 true t178.desc t178 (zv t178):=⟨sizeOf178,isAgg178,runUnderlying178,typeInfo178,zeroValue178⟩
instance:Ty 179 2 true t178.desc t179 (zv t179):=⟨sizeOf179,isAgg179,runUnderlying179,typeInfo179,zeroValue179⟩
instance:Ty 180 3 true t180.desc t180 (zv t180):=⟨sizeOf180,isAgg180,runUnderlying180,typeInfo180,zeroValue180⟩
instance:Ty 181 3 true t180.desc t181 (zv t181):=⟨sizeOf181,isAgg181,runUnderlying181,typeInfo181,zeroValue181⟩
instance:Ty 182 1 false t182.desc t182 (zv t182):=⟨sizeOf182,isAgg182,runUnderlying182,typeInfo182,zeroValue182⟩
instance:Ty 183 1 false t183.desc t183 (zv t183):=⟨sizeOf183,isAgg183,runUnderlying183,typeInfo183,zeroValue183⟩
instance:Ty 184 1 false t184.desc t184 (zv t184):=⟨sizeOf184,isAgg184,runUnderlying184,typeInfo184,zeroValue184⟩
instance:Ty 185 1 false t185.desc t185 (zv t185):=⟨sizeOf185,isAgg185,runUnderlying185,typeInfo185,zeroValue185⟩
instance:Ty 186 1 false t186.desc t186 (zv t186):=⟨sizeOf186,isAgg186,runUnderlying186,typeInfo186,zeroValue186⟩
instance:Ty 187 1 false t187.desc t187 (zv t187):=⟨sizeOf187,isAgg187,runUnderlying187,typeInfo187,zeroValue187⟩
instance:Ty 188 1 false t188.desc t188 (zv t188):=⟨sizeOf188,isAgg188,runUnderlying188,typeInfo188,zeroValue188⟩
instance:Ty 189 1 false t189.desc t189 (zv t189):=⟨sizeOf189,isAgg189,runUnderlying189,typeInfo189,zeroValue189⟩
instance:Ty 190 1 false t190.desc t190 (zv t190):=⟨sizeOf190,isAgg190,runUnderlying190,typeInfo190,zeroValue190⟩
instance:Ty 191 1 false t191.desc t191 (zv t191):=⟨sizeOf191,isAgg191,runUnderlying191,typeInfo191,zeroValue191⟩
instance:Ty 192 1 false t192.desc t192 (zv t192):=⟨sizeOf192,isAgg192,runUnderlying192,typeInfo192,zeroValue192⟩
instance:Ty 193 1 false t193.desc t193 (zv t193):=⟨sizeOf193,isAgg193,runUnderlying193,typeInfo193,zeroValue193⟩
instance:Ty 194 1 false t194.desc t194 (zv t194):=⟨sizeOf194,isAgg194,runUnderlying194,typeInfo194,zeroValue194⟩
instance:Ty 195 1 false t195.desc t195 (zv t195):=⟨sizeOf195,isAgg195,runUnderlying195,typeInfo195,zeroValue195⟩
instance:Ty 196 1 false t196.desc t196 (zv t196):=⟨sizeOf196,isAgg196,runUnderlying196,typeInfo196,zeroValue196⟩
instance:Ty 197 1 false t197.desc t197 (zv t197):=⟨sizeOf197,isAgg197,runUnderlying197,typeInfo197,zeroValue197⟩
instance:Ty 198 1 false t198.desc t198 (zv t198):=⟨sizeOf198,isAgg198,runUnderlying198,typeInfo198,zeroValue198⟩
instance:Ty 199 1 false t199.desc t199 (zv t199):=⟨sizeOf199,isAgg199,runUnderlying199,typeInfo199,zeroValue199⟩
instance:Ty 200 1 false t200.desc t200 (zv t200):=⟨sizeOf200,isAgg200,runUnderlying200,typeInfo200,zeroValue200⟩
instance:Ty 201 1 false t201.desc t201 (zv t201):=⟨sizeOf201,isAgg201,runUnderlying201,typeInfo201,zeroValue201⟩
instance:Ty 202 1 false t202.desc t202 (zv t202):=⟨sizeOf202,isAgg202,runUnderlying202,typeInfo202,zeroValue202⟩
instance:Ty 203 1 false t203.desc t203 (zv t203):=⟨sizeOf203,isAgg203,runUnderlying203,typeInfo203,zeroValue203⟩
instance:Ty 204 1 false t204.desc t204 (zv t204):=⟨sizeOf204,isAgg204,runUnderlying204,typeInfo204,zeroValue204⟩
instance:Ty 205 1 false t205.desc t205 (zv t205):=⟨sizeOf205,isAgg205,runUnderlying205,typeInfo205,zeroValue205⟩
instance:Ty 206 1 false t206.desc t206 (zv t206):=⟨sizeOf206,isAgg206,runUnderlying206,typeInfo206,zeroValue206⟩
instance:Ty 207 1 false t207.desc t207 (zv t207):=⟨sizeOf207,isAgg207,runUnderlying207,typeInfo207,zeroValue207⟩
instance:Ty 208 1 false t208.desc t208 (zv t208):=⟨sizeOf208,isAgg208,runUnderlying208,typeInfo208,zeroValue208⟩
instance:Ty 209 1 false t209.desc t209 (zv t209):=⟨sizeOf209,isAgg209,runUnderlying209,typeInfo209,zeroValue209⟩
instance:Ty 210 1 false t210.desc t210 (zv t210):=⟨sizeOf210,isAgg210,runUnderlying210,typeInfo210,zeroValue210⟩
instance:Ty 211 1 false t211.desc t211 (zv t211):=⟨sizeOf211,isAgg211,runUnderlying211,typeInfo211,zeroValue211⟩
instance:Ty 212 1 false t212.desc t212 (zv t212):=⟨sizeOf212,isAgg212,runUnderlying212,typeInfo212,zeroValue212⟩
instance:Ty 213 1 false t213.desc t213 (zv t213):=⟨sizeOf213,isAgg213,runUnderlying213,typeInfo213,zeroValue213⟩
instance:Ty 214 3 true t214.desc t214 (zv t214):=⟨sizeOf214,isAgg214,runUnderlying214,typeInfo214,zeroValue214⟩
instance:Ty 215 3 true t214.desc t215 (zv t215):=⟨sizeOf215,isAgg215,runUnderlying215,typeInfo215,zeroValue215⟩
instance:Ty 216 3 true t216.desc t216 (zv t216):=⟨sizeOf216,isAgg216,runUnderlying216,typeInfo216,zeroValue216⟩
instance:Ty 217 3 true t216.desc t217 (zv t217):=⟨sizeOf217,isAgg217,runUnderlying217,typeInfo217,zeroValue217⟩
instance:Ty 218 1 false t218.desc t218 (zv t218):=⟨sizeOf218,isAgg218,runUnderlying218,typeInfo218,zeroValue218⟩
instance:Ty 219 1 false t219.desc t219 (zv t219):=⟨sizeOf219,isAgg219,runUnderlying219,typeInfo219,zeroValue219⟩
instance:Ty 220 1 false t220.desc t220 (zv t220):=⟨sizeOf220,isAgg220,runUnderlying220,typeInfo220,zeroValue220⟩
instance:Ty 221 1 false t221.desc t221 (zv t221):=⟨sizeOf221,isAgg221,runUnderlying221,typeInfo221,zeroValue221⟩
instance:Ty 222 3 true t222.desc t222 (zv t222):=⟨sizeOf222,isAgg222,runUnderlying222,typeInfo222,zeroValue222⟩
instance:Ty 223 3 true t222.desc t223 (zv t223):=⟨sizeOf223,isAgg223,runUnderlying223,typeInfo223,zeroValue223⟩
instance:Ty 224 1 false t224.desc t224 (zv t224):=⟨sizeOf224,isAgg224,runUnderlying224,typeInfo224,zeroValue224⟩
instance:Ty 225 1 false t225.desc t225 (zv t225):=⟨sizeOf225,isAgg225,runUnderlying225,typeInfo225,zeroValue225⟩
instance:Ty 226 1 false t226.desc t226 (zv t226):=⟨sizeOf226,isAgg226,runUnderlying226,typeInfo226,zeroValue226⟩
instance:Ty 227 3 true t227.desc t227 (zv t227):=⟨sizeOf227,isAgg227,runUnderlying227,typeInfo227,zeroValue227⟩
instance:Ty 228 3 true t227.desc t228 (zv t228):=⟨sizeOf228,isAgg228,runUnderlying228,typeInfo228,zeroValue228⟩
instance:Ty 229 1 false t229.desc t229 (zv t229):=⟨sizeOf229,isAgg229,runUnderlying229,typeInfo229,zeroValue229⟩
instance:Ty 230 4 true t230.desc t230 (zv t230):=⟨sizeOf230,isAgg230,runUnderlying230,typeInfo230,zeroValue230⟩
instance:Ty 231 4 true t230.desc t231 (zv t231):=⟨sizeOf231,isAgg231,runUnderlying231,typeInfo231,zeroValue231⟩
instance:Ty 232 1 false t232.desc t232 (zv t232):=⟨sizeOf232,isAgg232,runUnderlying232,typeInfo232,zeroValue232⟩
instance:Ty 233 1 false t233.desc t233 (zv t233):=⟨sizeOf233,isAgg233,runUnderlying233,typeInfo233,zeroValue233⟩
instance:Ty 234 1 false t234.desc t234 (zv t234):=⟨sizeOf234,isAgg234,runUnderlying234,typeInfo234,zeroValue234⟩
instance:Ty 235 1 false t235.desc t235 (zv t235):=⟨sizeOf235,isAgg235,runUnderlying235,typeInfo235,zeroValue235⟩
instance:Ty 236 1 false t236.desc t236 (zv t236):=⟨sizeOf236,isAgg236,runUnderlying236,typeInfo236,zeroValue236⟩
instance:Ty 237 1 false t237.desc t237 (zv t237):=⟨sizeOf237,isAgg237,runUnderlying237,typeInfo237,zeroValue237⟩
instance:Ty 238 3 true t238.desc t238 (zv t238):=⟨sizeOf238,isAgg238,runUnderlying238,typeInfo238,zeroValue238⟩
instance:Ty 239 3 true t238.desc t239 (zv t239):=⟨sizeOf239,isAgg239,runUnderlying239,typeInfo239,zeroValue239⟩
instance:Ty 240 1 false t240.desc t240 (zv t240):=⟨sizeOf240,isAgg240,runUnderlying240,typeInfo240,zeroValue240⟩
instance:Ty 241 1 false t241.desc t241 (zv t241):=⟨sizeOf241,isAgg241,runUnderlying241,typeInfo241,zeroValue241⟩
instance:Ty 242 1 false t242.desc t242 (zv t242):=⟨sizeOf242,isAgg242,runUnderlying242,typeInfo242,zeroValue242⟩
instance:Ty 243 1 false t243.desc t243 (zv t243):=⟨sizeOf243,isAgg243,runUnderlying243,typeInfo243,zeroValue243⟩
instance:Ty 244 1 false t244.desc t244 (zv t244):=⟨sizeOf244,isAgg244,runUnderlying244,typeInfo244,zeroValue244⟩
instance:Ty 245 1 false t245.desc t245 (zv t245):=⟨sizeOf245,isAgg245,runUnderlying245,typeInfo245,zeroValue245⟩
instance:Ty 246 1 false t246.desc t246 (zv t246):=⟨sizeOf246,isAgg246,runUnderlying246,typeInfo246,zeroValue246⟩
instance:Ty 247 1 false t247.desc t247 (zv t247):=⟨sizeOf247,isAgg247,runUnderlying247,typeInfo247,zeroValue247⟩
instance:Ty 248 1 false t248.desc t248 (zv t248):=⟨sizeOf248,isAgg248,runUnderlying248,typeInfo248,zeroValue248⟩
instance:Ty 249 1 false t249.desc t249 (zv t249):=⟨sizeOf249,isAgg249,runUnderlying249,typeInfo249,zeroValue249⟩
instance:Ty 250 1 false t250.desc t250 (zv t250):=⟨sizeOf250,isAgg250,runUnderlying250,typeInfo250,zeroValue250⟩
instance:Ty 251 1 false t251.desc t251 (zv t251):=⟨sizeOf251,isAgg251,runUnderlying251,typeInfo251,zeroValue251⟩
instance:Ty 252 1 false t252.desc t252 (zv t252):=⟨sizeOf252,isAgg252,runUnderlying252,typeInfo252,zeroValue252⟩
instance:Ty 253 1 false t3.desc t253 (zv t253):=⟨sizeOf253,isAgg253,runUnderlying253,typeInfo253,zeroValue253⟩
instance:Ty 254 1 false t254.desc t254 (zv t254):=⟨sizeOf254,isAgg254,runUnderlying254,typeInfo254,zeroValue254⟩
instance:Ty 255 1 false t255.desc t255 (zv t255):=⟨sizeOf255,isAgg255,runUnderlying255,typeInfo255,zeroValue255⟩
instance:Ty 256 1 false t256.desc t256 (zv t256):=⟨sizeOf256,isAgg256,runUnderlying256,typeInfo256,zeroValue256⟩
instance:Ty 257 1 false t257.desc t257 (zv t257):=⟨sizeOf257,isAgg257,runUnderlying257,typeInfo257,zeroValue257⟩
instance:Ty 258 1 false t258.desc t258 (zv t258):=⟨sizeOf258,isAgg258,runUnderlying258,typeInfo258,zeroValue258⟩
instance:Ty 259 1 false t259.desc t259 (zv t259):=⟨sizeOf259,isAgg259,runUnderlying259,typeInfo259,zeroValue259⟩
instance:Ty 260 1 false t260.desc t260 (zv t260):=⟨sizeOf260,isAgg260,runUnderlying260,typeInfo260,zeroValue260⟩
instance:Ty 261 1 false t261.desc t261 (zv t261):=⟨sizeOf261,isAgg261,runUnderlying261,typeInfo261,zeroValue261⟩
instance:Ty 262 1 false t262.desc t262 (zv t262):=⟨sizeOf262,isAgg262,runUnderlying262,typeInfo262,zeroValue262⟩
instance:Ty 263 1 false t263.desc t263 (zv t263):=⟨sizeOf263,isAgg263,runUnderlying263,typeInfo263,zeroValue263⟩
instance:Ty 264 1 false t264.desc t264 (zv t264):=⟨sizeOf264,isAgg264,runUnderlying264,typeInfo264,zeroValue264⟩
instance:Ty 265 2 true t265.desc t265 (zv t265):=⟨sizeOf265,isAgg265,runUnderlying265,typeInfo265,zeroValue265⟩
instance:Ty 266 2 true t265.desc t266 (zv t266):=⟨sizeOf266,isAgg266,runUnderlying266,typeInfo266,zeroValue266⟩
instance:Ty 267 1 false t267.desc t267 (zv t267):=⟨sizeOf267,isAgg267,runUnderlying267,typeInfo267,zeroValue267⟩
instance:Ty 268 1 false t268.desc t268 (zv t268):=⟨sizeOf268,isAgg268,runUnderlying268,typeInfo268,zeroValue268⟩
instance:Ty 269 1 false t269.desc t269 (zv t269):=⟨sizeOf269,isAgg269,runUnderlying269,typeInfo269,zeroValue269⟩
instance:Ty 270 1 false t270.desc t270 (zv t270):=⟨sizeOf270,isAgg270,runUnderlying270,typeInfo270,zeroValue270⟩
instance:Ty 271 1 false t271.desc t271 (zv t271):=⟨sizeOf271,isAgg271,runUnderlying271,typeInfo271,zeroValue271⟩
instance:Ty 272 2 true t272.desc t272 (zv t272):=⟨sizeOf272,isAgg272,runUnderlying272,typeInfo272,zeroValue272⟩
instance:Ty 273 1 false t273.desc t273 (zv t273):=⟨sizeOf273,isAgg273,runUnderlying273,typeInfo273,zeroValue273⟩
instance:Ty 274 1 false t274.desc t274 (zv t274):=⟨sizeOf274,isAgg274,runUnderlying274,typeInfo274,zeroValue274⟩
instance:Ty 275 3 true t275.desc t275 (zv t275):=⟨sizeOf275,isAgg275,runUnderlying275,typeInfo275,zeroValue275⟩
instance:Ty 276 3 true t275.desc t276 (zv t276):=⟨sizeOf276,isAgg276,runUnderlying276,typeInfo276,zeroValue276⟩
instance:Ty 277 10 true t277.desc t277 (zv t277):=⟨sizeOf277,isAgg277,runUnderlying277,typeInfo277,zeroValue277⟩
instance:Ty 278 10 true t277.desc t278 (zv t278):=⟨sizeOf278,isAgg278,runUnderlying278,typeInfo278,zeroValue278⟩
instance:Ty 279 1 false t279.desc t279 (zv t279):=⟨sizeOf279,isAgg279,runUnderlying279,typeInfo279,zeroValue279⟩
instance:Ty 280 1 false t280.desc t280 (zv t280):=⟨sizeOf280,isAgg280,runUnderlying280,typeInfo280,zeroValue280⟩
instance:Ty 281 1 false t281.desc t281 (zv t281):=⟨sizeOf281,isAgg281,runUnderlying281,typeInfo281,zeroValue281⟩
instance:Ty 282 1 false t282.desc t282 (zv t282):=⟨sizeOf282,isAgg282,runUnderlying282,typeInfo282,zeroValue282⟩
instance:Ty 283 4 true t283.desc t283 (zv t283):=⟨sizeOf283,isAgg283,runUnderlying283,typeInfo283,zeroValue283⟩
instance:Ty 284 4 true t283.desc t284 (zv t284):=⟨sizeOf284,isAgg284,runUnderlying284,typeInfo284,zeroValue284⟩
instance:Ty 285 9 true t285.desc t285 (zv t285):=⟨sizeOf285,isAgg285,runUnderlying285,typeInfo285,zeroValue285⟩
instance:Ty 286 9 true t285.desc t286 (zv t286):=⟨sizeOf286,isAgg286,runUnderlying286,typeInfo286,zeroValue286⟩
instance:Ty 287 1 false t287.desc t287 (zv t287):=⟨sizeOf287,isAgg287,runUnderlying287,typeInfo287,zeroValue287⟩
instance:Ty 288 1 false t288.desc t288 (zv t288):=⟨sizeOf288,isAgg288,runUnderlying288,typeInfo288,zeroValue288⟩
instance:Ty 289 1 false t289.desc t289 (zv t289):=⟨sizeOf289,isAgg289,runUnderlying289,typeInfo289,zeroValue289⟩
instance:Ty 290 1 false t290.desc t290 (zv t290):=⟨sizeOf290,isAgg290,runUnderlying290,typeInfo290,zeroValue290⟩
instance:Ty 291 1 false t291.desc t291 (zv t291):=⟨sizeOf291,isAgg291,runUnderlying291,typeInfo291,zeroValue291⟩
instance:Ty 292 7 true t292.desc t292 (zv t292):=⟨sizeOf292,isAgg292,runUnderlying292,typeInfo292,zeroValue292⟩
instance:Ty 293 7 true t292.desc t293 (zv t293):=⟨sizeOf293,isAgg293,runUnderlying293,typeInfo293,zeroValue293⟩
instance:Ty 294 18 true t294.desc t294 (zv t294):=⟨sizeOf294,isAgg294,runUnderlying294,typeInfo294,zeroValue294⟩
instance:Ty 295 18 true t294.desc t295 (zv t295):=⟨sizeOf295,isAgg295,runUnderlying295,typeInfo295,zeroValue295⟩
instance:Ty 296 1 false t296.desc t296 (zv t296):=⟨sizeOf296,isAgg296,runUnderlying296,typeInfo296,zeroValue296⟩
instance:Ty 297 1 false t297.desc t297 (zv t297):=⟨sizeOf297,isAgg297,runUnderlying297,typeInfo297,zeroValue297⟩
instance:Ty 298 1 false t298.desc t298 (zv t298):=⟨sizeOf298,isAgg298,runUnderlying298,typeInfo298,zeroValue298⟩
instance:Ty 299 1 false t299.desc t299 (zv t299):=⟨sizeOf299,isAgg299,runUnderlying299,typeInfo299,zeroValue299⟩
instance:Ty 300 1 false t300.desc t300 (zv t300):=⟨sizeOf300,isAgg300,runUnderlying300,typeInfo300,zeroValue300⟩
instance:Ty 301 1 false t301.desc t301 (zv t301):=⟨sizeOf301,isAgg301,runUnderlying301,typeInfo301,zeroValue301⟩
instance:Ty 302 1 false t302.desc t302 (zv t302):=⟨sizeOf302,isAgg302,runUnderlying302,typeInfo302,zeroValue302⟩
instance:Ty 303 1 false t303.desc t303 (zv t303):=⟨sizeOf303,isAgg303,runUnderlying303,typeInfo303,zeroValue303⟩
instance:Ty 304 1 false t304.desc t304 (zv t304):=⟨sizeOf304,isAgg304,runUnderlying304,typeInfo304,zeroValue304⟩
instance:Ty 305 1 false t305.desc t305 (zv t305):=⟨sizeOf305,isAgg305,runUnderlying305,typeInfo305,zeroValue305⟩
instance:Ty 306 1 false t306.desc t306 (zv t306):=⟨sizeOf306,isAgg306,runUnderlying306,typeInfo306,zeroValue306⟩
instance:Ty 307 1 false t307.desc t307 (zv t307):=⟨sizeOf307,isAgg307,runUnderlying307,typeInfo307,zeroValue307⟩
instance:Ty 308 1 false t308.desc t308 (zv t308):=⟨sizeOf308,isAgg308,runUnderlying308,typeInfo308,zeroValue308⟩
instance:Ty 309 1 false t192.desc t309 (zv t309):=⟨sizeOf309,isAgg309,runUnderlying309,typeInfo309,zeroValue309⟩
instance:Ty 310 1 false t310.desc t310 (zv t310):=⟨sizeOf310,isAgg310,runUnderlying310,typeInfo310,zeroValue310⟩
instance:Ty 311 1 false t311.desc t311 (zv t311):=⟨sizeOf311,isAgg311,runUnderlying311,typeInfo311,zeroValue311⟩
instance:Ty 312 1 false t312.desc t312 (zv t312):=⟨sizeOf312,isAgg312,runUnderlying312,typeInfo312,zeroValue312⟩
instance:Ty 313 1 false t313.desc t313 (zv t313):=⟨sizeOf313,isAgg313,runUnderlying313,typeInfo313,zeroValue313⟩
instance:Ty 314 1 false t314.desc t314 (zv t314):=⟨sizeOf314,isAgg314,runUnderlying314,typeInfo314,zeroValue314⟩
instance:Ty 315 1 false t315.desc t315 (zv t315):=⟨sizeOf315,isAgg315,runUnderlying315,typeInfo315,zeroValue315⟩
instance:Ty 316 1 false t316.desc t316 (zv t316):=⟨sizeOf316,isAgg316,runUnderlying316,typeInfo316,zeroValue316⟩
instance:Ty 317 1 false t317.desc t317 (zv t317):=⟨sizeOf317,isAgg317,runUnderlying317,typeInfo317,zeroValue317⟩
instance:Ty 318 1 false t318.desc t318 (zv t318):=⟨sizeOf318,isAgg318,runUnderlying318,typeInfo318,zeroValue318⟩
instance:Ty 319 1 false t319.desc t319 (zv t319):=⟨sizeOf319,isAgg319,runUnderlying319,typeInfo319,zeroValue319⟩
instance:Ty 320 1 false t320.desc t320 (zv t320):=⟨sizeOf320,isAgg320,runUnderlying320,typeInfo320,zeroValue320⟩
instance:Ty 321 1 false t321.desc t321 (zv t321):=⟨sizeOf321,isAgg321,runUnderlying321,typeInfo321,zeroValue321⟩
instance:Ty 322 1 false t322.desc t322 (zv t322):=⟨sizeOf322,isAgg322,runUnderlying322,typeInfo322,zeroValue322⟩
instance:Ty 323 1 false t323.desc t323 (zv t323):=⟨sizeOf323,isAgg323,runUnderlying323,typeInfo323,zeroValue323⟩
instance:Ty 324 1 false t324.desc t324 (zv t324):=⟨sizeOf324,isAgg324,runUnderlying324,typeInfo324,zeroValue324⟩
instance:Ty 325 1 false t325.desc t325 (zv t325):=⟨sizeOf325,isAgg325,runUnderlying325,typeInfo325,zeroValue325⟩
instance:Ty 326 1 false t326.desc t326 (zv t326):=⟨sizeOf326,isAgg326,runUnderlying326,typeInfo326,zeroValue326⟩
instance:Ty 327 1 false t327.desc t327 (zv t327):=⟨sizeOf327,isAgg327,runUnderlying327,typeInfo327,zeroValue327⟩
instance:Ty 328 3 true t328.desc t328 (zv t328):=⟨sizeOf328,isAgg328,runUnderlying328,typeInfo328,zeroValue328⟩
instance:Ty 329 3 true t328.desc t329 (zv t329):=⟨sizeOf329,isAgg329,runUnderlying329,typeInfo329,zeroValue329⟩
instance:Ty 330 1 false t330.desc t330 (zv t330):=⟨sizeOf330,isAgg330,runUnderlying330,typeInfo330,zeroValue330⟩
instance:Ty 331 1 false t331.desc t331 (zv t331):=⟨sizeOf331,isAgg331,runUnderlying331,typeInfo331,zeroValue331⟩
instance:Ty 332 1 false t332.desc t332 (zv t332):=⟨sizeOf332,isAgg332,runUnderlying332,typeInfo332,zeroValue332⟩
instance:Ty 333 1 false t333.desc t333 (zv t333):=⟨sizeOf333,isAgg333,runUnderlying333,typeInfo333,zeroValue333⟩
instance:Ty 334 1 false t334.desc t334 (zv t334):=⟨sizeOf334,isAgg334,runUnderlying334,typeInfo334,zeroValue334⟩
instance:Ty 335 1 false t335.desc t335 (zv t335):=⟨sizeOf335,isAgg335,runUnderlying335,typeInfo335,zeroValue335⟩
instance:Ty 336 1 false t336.desc t336 (zv t336):=⟨sizeOf336,isAgg336,runUnderlying336,typeInfo336,zeroValue336⟩
instance:Ty 337 1 false t337.desc t337 (zv t337):=⟨sizeOf337,isAgg337,runUnderlying337,typeInfo337,zeroValue337⟩
instance:Ty 338 1 false t338.desc t338 (zv t338):=⟨sizeOf338,isAgg338,runUnderlying338,typeInfo338,zeroValue338⟩
instance:Ty 339 1 false t339.desc t339 (zv t339):=⟨sizeOf339,isAgg339,runUnderlying339,typeInfo339,zeroValue339⟩
instance:Ty 340 1 false t340.desc t340 (zv t340):=⟨sizeOf340,isAgg340,runUnderlying340,typeInfo340,zeroValue340⟩
instance:Ty 341 1 false t341.desc t341 (zv t341):=⟨sizeOf341,isAgg341,runUnderlying341,typeInfo341,zeroValue341⟩
instance:Ty 342 1 false t342.desc t342 (zv t342):=⟨sizeOf342,isAgg342,runUnderlying342,typeInfo342,zeroValue342⟩
instance:Ty 343 1 false t343.desc t343 (zv t343):=⟨sizeOf343,isAgg343,runUnderlying343,typeInfo343,zeroValue343⟩
instance:Ty 344 1 false t344.desc t344 (zv t344):=⟨sizeOf344,isAgg344,runUnderlying344,typeInfo344,zeroValue344⟩
instance:Ty 345 1 false t345.desc t345 (zv t345):=⟨sizeOf345,isAgg345,runUnderlying345,typeInfo345,zeroValue345⟩
instance:Ty 346 1 false t346.desc t346 (zv t346):=⟨sizeOf346,isAgg346,runUnderlying346,typeInfo346,zeroValue346⟩
instance:Ty 347 1 false t347.desc t347 (zv t347):=⟨sizeOf347,isAgg347,runUnderlying347,typeInfo347,zeroValue347⟩
instance:Ty 348 1 false t348.desc t348 (zv t348):=⟨sizeOf348,isAgg348,runUnderlying348,typeInfo348,zeroValue348⟩
instance:Ty 349 1 false t349.desc t349 (zv t349):=⟨sizeOf349,isAgg349,runUnderlying349,typeInfo349,zeroValue349⟩
instance:Ty 350 2 true t350.desc t350 (zv t350):=⟨sizeOf350,isAgg350,runUnderlying350,typeInfo350,zeroValue350⟩
instance:Ty 351 2 true t350.desc t351 (zv t351):=⟨sizeOf351,isAgg351,runUnderlying351,typeInfo351,zeroValue351⟩
instance:Ty 352 1 false t352.desc t352 (zv t352):=⟨sizeOf352,isAgg352,runUnderlying352,typeInfo352,zeroValue352⟩
instance:Ty 353 1 false t353.desc t353 (zv t353):=⟨sizeOf353,isAgg353,runUnderlying353,typeInfo353,zeroValue353⟩
instance:Ty 354 256 true t354.desc t354 (zv t354):=⟨sizeOf354,isAgg354,runUnderlying354,typeInfo354,zeroValue354⟩
instance:Ty 355 1 false t355.desc t355 (zv t355):=⟨sizeOf355,isAgg355,runUnderlying355,typeInfo355,zeroValue355⟩
instance:Ty 356 1 false t356.desc t356 (zv t356):=⟨sizeOf356,isAgg356,runUnderlying356,typeInfo356,zeroValue356⟩
instance:Ty 357 1 false t357.desc t357 (zv t357):=⟨sizeOf357,isAgg357,runUnderlying357,typeInfo357,zeroValue357⟩
instance:Ty 358 1 false t358.desc t358 (zv t358):=⟨sizeOf358,isAgg358,runUnderlying358,typeInfo358,zeroValue358⟩
instance:Ty 359 1 false t358.desc t359 (zv t359):=⟨sizeOf359,isAgg359,runUnderlying359,typeInfo359,zeroValue359⟩
instance:Ty 360 1 false t360.desc t360 (zv t360):=⟨sizeOf360,isAgg360,runUnderlying360,typeInfo360,zeroValue360⟩
instance:Ty 361 1 false t361.desc t361 (zv t361):=⟨sizeOf361,isAgg361,runUnderlying361,typeInfo361,zeroValue361⟩
instance:Ty 362 1 false t362.desc t362 (zv t362):=⟨sizeOf362,isAgg362,runUnderlying362,typeInfo362,zeroValue362⟩
instance:Ty 363 1 false t363.desc t363 (zv t363):=⟨sizeOf363,isAgg363,runUnderlying363,typeInfo363,zeroValue363⟩
instance:Ty 364 1 false t364.desc t364 (zv t364):=⟨sizeOf364,isAgg364,runUnderlying364,typeInfo364,zeroValue364⟩
instance:Ty 365 1 false t365.desc t365 (zv t365):=⟨sizeOf365,isAgg365,runUnderlying365,typeInfo365,zeroValue365⟩
instance:Ty 366 1 false t366.desc t366 (zv t366):=⟨sizeOf366,isAgg366,runUnderlying366,typeInfo366,zeroValue366⟩
instance:Ty 367 1 false t367.desc t367 (zv t367):=⟨sizeOf367,isAgg367,runUnderlying367,typeInfo367,zeroValue367⟩
instance:Ty 368 1 false t368.desc t368 (zv t368):=⟨sizeOf368,isAgg368,runUnderlying368,typeInfo368,zeroValue368⟩
instance:Ty 369 1 false t369.desc t369 (zv t369):=⟨sizeOf369,isAgg369,runUnderlying369,typeInfo369,zeroValue369⟩
instance:Ty 370 2 true t370.desc t370 (zv t370):=⟨sizeOf370,isAgg370,runUnderlying370,typeInfo370,zeroValue370⟩
instance:Ty 371 2 true t370.desc t371 (zv t371):=⟨sizeOf371,isAgg371,runUnderlying371,typeInfo371,zeroValue371⟩
instance:Ty 372 1 false t372.desc t372 (zv t372):=⟨sizeOf372,isAgg372,runUnderlying372,typeInfo372,zeroValue372⟩
instance:Ty 373 1 false t373.desc t373 (zv t373):=⟨sizeOf373,isAgg373,runUnderlying373,typeInfo373,zeroValue373⟩
instance:Ty 374 1 false t374.desc t374 (zv t374):=⟨sizeOf374,isAgg374,runUnderlying374,typeInfo374,zeroValue374⟩
instance:Ty 375 1 false t375.desc t375 (zv t375):=⟨sizeOf375,isAgg375,runUnderlying375,typeInfo375,zeroValue375⟩
instance:Ty 376 1 false t376.desc t376 (zv t376):=⟨sizeOf376,isAgg376,runUnderlying376,typeInfo376,zeroValue376⟩
instance:Ty 377 1 false t377.desc t377 (zv t377):=⟨sizeOf377,isAgg377,runUnderlying377,typeInfo377,zeroValue377⟩
instance:Ty 378 1 false t378.desc t378 (zv t378):=⟨sizeOf378,isAgg378,runUnderlying378,typeInfo378,zeroValue378⟩
instance:Ty 379 3 true t379.desc t379 (zv t379):=⟨sizeOf379,isAgg379,runUnderlying379,typeInfo379,zeroValue379⟩
instance:Ty 380 3 true t379.desc t380 (zv t380):=⟨sizeOf380,isAgg380,runUnderlying380,typeInfo380,zeroValue380⟩
instance:Ty 381 1 false t381.desc t381 (zv t381):=⟨sizeOf381,isAgg381,runUnderlying381,typeInfo381,zeroValue381⟩
instance:Ty 382 3 true t382.desc t382 (zv t382):=⟨sizeOf382,isAgg382,runUnderlying382,typeInfo382,zeroValue382⟩
instance:Ty 383 3 true t382.desc t383 (zv t383):=⟨sizeOf383,isAgg383,runUnderlying383,typeInfo383,zeroValue383⟩
instance:Ty 384 1 false t384.desc t384 (zv t384):=⟨sizeOf384,isAgg384,runUnderlying384,typeInfo384,zeroValue384⟩
instance:Ty 385 3 true t385.desc t385 (zv t385):=⟨sizeOf385,isAgg385,runUnderlying385,typeInfo385,zeroValue385⟩
instance:Ty 386 3 true t385.desc t386 (zv t386):=⟨sizeOf386,isAgg386,runUnderlying386,typeInfo386,zeroValue386⟩
instance:Ty 387 1 false t387.desc t387 (zv t387):=⟨sizeOf387,isAgg387,runUnderlying387,typeInfo387,zeroValue387⟩
instance:Ty 388 1 false t388.desc t388 (zv t388):=⟨sizeOf388,isAgg388,runUnderlying388,typeInfo388,zeroValue388⟩
instance:Ty 389 1 false t389.desc t389 (zv t389):=⟨sizeOf389,isAgg389,runUnderlying389,typeInfo389,zeroValue389⟩
instance:Ty 390 1 false t3.desc t390 (zv t390):=⟨sizeOf390,isAgg390,runUnderlying390,typeInfo390,zeroValue390⟩
instance:Ty 391 1 false t391.desc t391 (zv t391):=⟨sizeOf391,isAgg391,runUnderlying391,typeInfo391,zeroValue391⟩
instance:Ty 392 1 false t392.desc t392 (zv t392):=⟨sizeOf392,isAgg392,runUnderlying392,typeInfo392,zeroValue392⟩
instance:Ty 393 1 false t393.desc t393 (zv t393):=⟨sizeOf393,isAgg393,runUnderlying393,typeInfo393,zeroValue393⟩
instance:Ty 394 1 false t394.desc t394 (zv t394):=⟨sizeOf394,isAgg394,runUnderlying394,typeInfo394,zeroValue394⟩
instance:Ty 395 1 false t395.desc t395 (zv t395):=⟨sizeOf395,isAgg395,runUnderlying395,typeInfo395,zeroValue395⟩
instance:Ty 396 1 false t396.desc t396 (zv t396):=⟨sizeOf396,isAgg396,runUnderlying396,typeInfo396,zeroValue396⟩
instance:Ty 397 1 false t397.desc t397 (zv t397):=⟨sizeOf397,isAgg397,runUnderlying397,typeInfo397,zeroValue397⟩
instance:Ty 398 1 false t398.desc t398 (zv t398):=⟨sizeOf398,isAgg398,runUnderlying398,typeInfo398,zeroValue398⟩
instance:Ty 399 1 false t399.desc t399 (zv t399):=⟨sizeOf399,isAgg399,runUnderlying399,typeInfo399,zeroValue399⟩
instance:Ty 400 1 false t400.desc t400 (zv t400):=⟨sizeOf400,isAgg400,runUnderlying400,typeInfo400,zeroValue400⟩
instance:Ty 401 1 false t401.desc t401 (zv t401):=⟨sizeOf401,isAgg401,runUnderlying401,typeInfo401,zeroValue401⟩
instance:Ty 402 1 false t402.desc t402 (zv t402):=⟨sizeOf402,isAgg402,runUnderlying402,typeInfo402,zeroValue402⟩
instance:Ty 403 1 false t403.desc t403 (zv t403):=⟨sizeOf403,isAgg403,runUnderlying403,typeInfo403,zeroValue403⟩
instance:Ty 404 1 false t404.desc t404 (zv t404):=⟨sizeOf404,isAgg404,runUnderlying404,typeInfo404,zeroValue404⟩
instance:Ty 405 1 false t405.desc t405 (zv t405):=⟨sizeOf405,isAgg405,runUnderlying405,typeInfo405,zeroValue405⟩
instance:Ty 406 1 false t406.desc t406 (zv t406):=⟨sizeOf406,isAgg406,runUnderlying406,typeInfo406,zeroValue406⟩
instance:Ty 407 1 false t407.desc t407 (zv t407):=⟨sizeOf407,isAgg407,runUnderlying407,typeInfo407,zeroValue407⟩
instance:Ty 408 3 true t408.desc t408 (zv t408):=⟨sizeOf408,isAgg408,runUnderlying408,typeInfo408,zeroValue408⟩
instance:Ty 409 3 true t408.desc t409 (zv t409):=⟨sizeOf409,isAgg409,runUnderlying409,typeInfo409,zeroValue409⟩
instance:Ty 410 1 false t410.desc t410 (zv t410):=⟨sizeOf410,isAgg410,runUnderlying410,typeInfo410,zeroValue410⟩
instance:Ty 411 1 false t411.desc t411 (zv t411):=⟨sizeOf411,isAgg411,runUnderlying411,typeInfo411,zeroValue411⟩
instance:Ty 412 1 false t412.desc t412 (zv t412):=⟨sizeOf412,isAgg412,runUnderlying412,typeInfo412,zeroValue412⟩
instance:Ty 413 1 false t413.desc t413 (zv t413):=⟨sizeOf413,isAgg413,runUnderlying413,typeInfo413,zeroValue413⟩
instance:Ty 414 1 false t414.desc t414 (zv t414):=⟨sizeOf414,isAgg414,runUnderlying414,typeInfo414,zeroValue414⟩
instance:Ty 415 1 false t415.desc t415 (zv t415):=⟨sizeOf415,isAgg415,runUnderlying415,typeInfo415,zeroValue415⟩
instance:Ty 416 1 true t416.desc t416 (zv t416):=⟨sizeOf416,isAgg416,runUnderlying416,typeInfo416,zeroValue416⟩
instance:Ty 417 1 true t416.desc t417 (zv t417):=⟨sizeOf417,isAgg417,runUnderlying417,typeInfo417,zeroValue417⟩
instance:Ty 418 1 false t418.desc t418 (zv t418):=⟨sizeOf418,isAgg418,runUnderlying418,typeInfo418,zeroValue418⟩
instance:Ty 419 1 false t419.desc t419 (zv t419):=⟨sizeOf419,isAgg419,runUnderlying419,typeInfo419,zeroValue419⟩
instance:Ty 420 24 true t420.desc t420 (zv t420):=⟨sizeOf420,isAgg420,runUnderlying420,typeInfo420,zeroValue420⟩
instance:Ty 421 1 false t421.desc t421 (zv t421):=⟨sizeOf421,isAgg421,runUnderlying421,typeInfo421,zeroValue421⟩
instance:Ty 422 1 false t422.desc t422 (zv t422):=⟨sizeOf422,isAgg422,runUnderlying422,typeInfo422,zeroValue422⟩
instance:Ty 423 1 false t423.desc t423 (zv t423):=⟨sizeOf423,isAgg423,runUnderlying423,typeInfo423,zeroValue423⟩
instance:Ty 424 1 false t424.desc t424 (zv t424):=⟨sizeOf424,isAgg424,runUnderlying424,typeInfo424,zeroValue424⟩
instance:Ty 425 20 true t425.desc t425 (zv t425):=⟨sizeOf425,isAgg425,runUnderlying425,typeInfo425,zeroValue425⟩
instance:Ty 426 65 true t426.desc t426 (zv t426):=⟨sizeOf426,isAgg426,runUnderlying426,typeInfo426,zeroValue426⟩
instance:Ty 427 32 true t427.desc t427 (zv t427):=⟨sizeOf427,isAgg427,runUnderlying427,typeInfo427,zeroValue427⟩
instance:Ty 428 64 true t428.desc t428 (zv t428):=⟨sizeOf428,isAgg428,runUnderlying428,typeInfo428,zeroValue428⟩
instance:Ty 429 4 true t429.desc t429 (zv t429):=⟨sizeOf429,isAgg429,runUnderlying429,typeInfo429,zeroValue429⟩
instance:Ty 430 4 true t429.desc t430 (zv t430):=⟨sizeOf430,isAgg430,runUnderlying430,typeInfo430,zeroValue430⟩
instance:Ty 431 0 true t431.desc t431 (zv t431):=⟨sizeOf431,isAgg431,runUnderlying431,typeInfo431,zeroValue431⟩
instance:Ty 432 0 true t432.desc t432 (zv t432):=⟨sizeOf432,isAgg432,runUnderlying432,typeInfo432,zeroValue432⟩
instance:Ty 433 0 true t432.desc t433 (zv t433):=⟨sizeOf433,isAgg433,runUnderlying433,typeInfo433,zeroValue433⟩
instance:Ty 434 1 false t5.desc t434 (zv t434):=⟨sizeOf434,isAgg434,runUnderlying434,typeInfo434,zeroValue434⟩
instance:Ty 435 1 false t5.desc t435 (zv t435):=⟨sizeOf435,isAgg435,runUnderlying435,typeInfo435,zeroValue435⟩
instance:Ty 436 1 false t436.desc t436 (zv t436):=⟨sizeOf436,isAgg436,runUnderlying436,typeInfo436,zeroValue436⟩
instance:Ty 437 1 false t21.desc t437 (zv t437):=⟨sizeOf437,isAgg437,runUnderlying437,typeInfo437,zeroValue437⟩
instance:Ty 438 1 false t21.desc t438 (zv t438):=⟨sizeOf438,isAgg438,runUnderlying438,typeInfo438,zeroValue438⟩
instance:Ty 439 11 true t439.desc t439 (zv t439):=⟨sizeOf439,isAgg439,runUnderlying439,typeInfo439,zeroValue439⟩
instance:Ty 440 11 true t439.desc t440 (zv t440):=⟨sizeOf440,isAgg440,runUnderlying440,typeInfo440,zeroValue440⟩
instance:Ty 441 1 false t441.desc t441 (zv t441):=⟨sizeOf441,isAgg441,runUnderlying441,typeInfo441,zeroValue441⟩
theorem fz {T:TypeId} {n:Nat} {b:Bool} {d:TypeDesc} {i:TypeInfo} {z:Value} [c:Ty T n b d i z]:∀ w,(sizeOf T).run Tryz.prog w = .ok n w:=c.n
theorem fa {T:TypeId} {n:Nat} {b:Bool} {d:TypeDesc} {i:TypeInfo} {z:Value} [c:Ty T n b d i z]:∀ w,(isAgg T).run Tryz.prog w = .ok b w:=c.b
theorem fu {T:TypeId} {n:Nat} {b:Bool} {d:TypeDesc} {i:TypeInfo} {z:Value} [c:Ty T n b d i z]:∀ w,(underlying T).run Tryz.prog w = .ok d w:=c.d
theorem fv {T:TypeId} {n:Nat} {b:Bool} {d:TypeDesc} {i:TypeInfo} {z:Value} [c:Ty T n b d i z]:∀ w,(zeroValue T).run Tryz.prog w = .ok z w:=c.z
theorem fi {T:TypeId} {n:Nat} {b:Bool} {d:TypeDesc} {i:TypeInfo} {z:Value} [c:Ty T n b d i z]:∀ w,(typeInfo T).run Tryz.prog w = .ok i w:=c.i
theorem yr {op:Oper} {V:VF} {H:List HA} {v:Value} (h:OpY Tryz.prog op V H v:=by
 first
  | ((with_reducible apply zgv); exact rfl)
  | ((with_reducible apply z9Y); exact rfl)
  | ((with_reducible apply y_lb); (case hx=>exact rfl); (case ha=>exact fa); (case hm=>((repeat (first | with_reducible exact At.z | with_reducible apply At.s | exact At.z | apply At.s)); (first | done | fail))); (case hc=>exact rfl))
  | ((with_reducible apply y_fae); (case hx=>exact rfl); (case hu=>exact fu); (case hf'=>exact fxx); (case hz=>exact fz); (case hn=>exact rfl))
  | ((with_reducible apply y_fab); (case hx=>exact rfl); (case hu=>exact fu); (case hf'=>exact fxx); (case hz=>exact fz); (case hn=>exact rfl))
  | ((with_reducible apply y_at0); (case hx=>exact rfl); (case ha=>exact fa); (case hm=>((repeat (first | ((with_reducible apply Ac.z); exact rfl) | with_reducible apply Ac.s | apply Ac.s)); (first | done | fail))); (case hc=>exact rfl))
  | ((with_reducible apply y_at); (case hx=>exact rfl); (case ha=>exact fa); (case hm=>((repeat (first | ((with_reducible apply Ac.z); exact rfl) | with_reducible apply Ac.s | apply Ac.s)); (first | done | fail))); (case hc=>exact rfl))
  | ((with_reducible apply y_le); (case hx=>exact rfl); (case ha=>exact fa); (case hr=>((repeat (first | with_reducible exact Rd.b | with_reducible exact Rd.a | with_reducible apply Rd.s | apply Rd.s)); (first | done | fail))); (case hl=>assumption); (case hF=>exact rfl))
  | ((with_reducible apply y_lf); (case hx=>exact rfl); (case ha=>exact fa); (case hr=>((repeat (first | with_reducible exact Rd.b | with_reducible exact Rd.a | with_reducible apply Rd.s | apply Rd.s)); (first | done | fail))); (case hl=>assumption); (case hF=>exact rfl))
  | ((with_reducible apply y_la); (case hx=>exact rfl); (case ha=>exact fa); (case hz=>exact fz); (case hm=>((repeat (first | with_reducible exact At.z | with_reducible apply At.s | exact At.z | apply At.s)); (first | done | fail))); (case hc=>((repeat (first | exact Tk.z | apply Tk.t | apply Tk.s)); (first | done | fail))))
  | ((with_reducible apply zog); (case hx=>exact rfl); (case ha=>exact fa); (case hz=>exact fz); (case hm=>((repeat (first | ((with_reducible apply Ac.z); exact rfl) | with_reducible apply Ac.s | apply Ac.s)); (first | done | fail))); (case hc=>((repeat (first | exact Tk.z | apply Tk.t | apply Tk.s)); (first | done | fail))))
  | ((with_reducible apply y_ata); (case hx=>exact rfl); (case ha=>exact fa); (case hz=>exact fz); (case hm=>((repeat (first | ((with_reducible apply Ac.z); exact rfl) | with_reducible apply Ac.s | apply Ac.s)); (first | done | fail))); (case hc=>((repeat (first | exact Tk.z | apply Tk.t | apply Tk.s)); (first | done | fail))))
  | ((with_reducible apply y_lg); (case hx=>exact rfl); (case ha=>exact fa); (case hz=>exact fz); (case hr=>((repeat (first | with_reducible exact Rd.b | with_reducible exact Rd.a | with_reducible apply Rd.s | apply Rd.s)); (first | done | fail))); (case hl=>assumption); (case hF=>((repeat (first | exact Nl.z rfl | apply Nl.s rfl)); (first | done | fail))))
  | ((with_reducible apply y_lh); (case hx=>exact rfl); (case ha=>exact fa); (case hz=>exact fz); (case hr=>((repeat (first | with_reducible exact Rd.b | with_reducible exact Rd.a | with_reducible apply Rd.s | apply Rd.s)); (first | done | fail))); (case hl=>exact rfl); (case hF=>((repeat (first | exact Nl.z rfl | apply Nl.s rfl)); (first | done | fail))))
  | ((with_reducible apply y_pt); (case hc=>exact rfl); (case hb=>with_reducible exact Isb.t); (case hv=>exact rfl))
  | ((with_reducible apply y_pf); (case hc=>exact rfl); (case hb=>with_reducible exact Isb.f); (case hv=>exact rfl))
  | ((with_reducible apply zon); (case hx=>exact rfl); (case hb=>with_reducible exact Isb.t))
  | ((with_reducible apply zom); (case hx=>exact rfl); (case hb=>with_reducible exact Isb.f))
  | ((with_reducible apply y_not); exact rfl)
  | ((with_reducible apply y_ex); (case hx=>exact rfl); (case hv=>exact rfl))
  | ((with_reducible apply y_eql) <;> exact rfl)
  | ((with_reducible apply y_neq) <;> exact rfl)
  | ((with_reducible apply y_add) <;> exact rfl)
  | ((with_reducible apply y_lss) <;> exact rfl)
  | ((with_reducible apply y_leq) <;> exact rfl)
  | ((with_reducible apply y_gtr) <;> exact rfl)
  | ((with_reducible apply y_geq) <;> exact rfl)
  | ((with_reducible apply y_sub) <;> exact rfl)
  | ((with_reducible apply zop) <;> exact rfl)
  | ((with_reducible apply zou) <;> exact rfl)
  | ((with_reducible apply y_mul) <;> exact rfl)
  | ((with_reducible apply y_neg) <;> exact rfl)
  | ((with_reducible apply y_and) <;> exact rfl)
  | ((with_reducible apply y_or) <;> exact rfl)
  | ((with_reducible apply y_xor) <;> exact rfl)
  | ((with_reducible apply zot) <;> exact rfl)
  | ((with_reducible apply zos) <;> exact rfl)
  | ((with_reducible apply zor) <;> exact rfl)
  | ((with_reducible apply zoq) <;> exact rfl)
  | ((with_reducible apply y_min) <;> exact rfl)
  | ((with_reducible apply y_max) <;> exact rfl)
  | ((with_reducible apply zj1) <;> exact rfl)
  | ((with_reducible apply zlN) <;> exact rfl)
  | ((with_reducible apply zfd) <;> exact rfl)
  | ((with_reducible apply zol) <;> exact rfl)
  | ((with_reducible apply zoh); (case hu=>exact fu); (case hx=>exact rfl); (case hy=>exact rfl))
  | ((with_reducible apply zoi); (case hu=>exact fu); (case hx=>exact rfl); (case hy=>exact rfl))
  | ((with_reducible apply zbu); exact rfl)
  | ((with_reducible apply zav); exact rfl)
  | ((with_reducible apply y_eqS); (case hx=>exact rfl); (case hy=>exact rfl); (case hu=>exact fu); (case hg=>kernel_rfl); (case hst=>kernel_rfl); (case h=>((repeat (first | exact EqFs.nil | ((apply EqFs.cons); (first | ((apply zgG); (case hn=>decide); (case hx=>exact rfl); (case hy=>exact rfl); (case ha=>exact fa); (case hu=>exact fu)) | ((apply zgH); (case hn=>decide); (case hx=>exact rfl); (case hy=>exact rfl); (case ha=>exact fa); (case hu=>exact fu)) | ((apply zdG); (case hn=>decide); (case hx=>exact rfl); (case hy=>exact rfl); (case ha=>exact fa); (case hu=>exact fu)))))); (first | done | fail))))
  | ((with_reducible apply y_neS); (case hx=>exact rfl); (case hy=>exact rfl); (case hu=>exact fu); (case hg=>kernel_rfl); (case hst=>kernel_rfl); (case h=>((repeat (first | exact EqFs.nil | ((apply EqFs.cons); (first | ((apply zgG); (case hn=>decide); (case hx=>exact rfl); (case hy=>exact rfl); (case ha=>exact fa); (case hu=>exact fu)) | ((apply zgH); (case hn=>decide); (case hx=>exact rfl); (case hy=>exact rfl); (case ha=>exact fa); (case hu=>exact fu)) | ((apply zdG); (case hn=>decide); (case hx=>exact rfl); (case hy=>exact rfl); (case ha=>exact fa); (case hu=>exact fu)))))); (first | done | fail))))
  | ((with_reducible apply y_bts); (case hx=>exact rfl); (case hS=>exact fu); (case he=>exact fu); (case hT=>exact fu); (case hr=>((repeat (first | with_reducible exact Rd.b | with_reducible exact Rd.a | with_reducible apply Rd.s | apply Rd.s)); (first | done | fail))); (case hl=>exact rfl))
  | ((with_reducible apply y_lk); (case hx=>exact rfl); (case hm=>((repeat (first | with_reducible exact At.z | with_reducible apply At.s | exact At.z | apply At.s)); (first | done | fail))); (case hy=>exact rfl); (case hK=>infer_instance); (case hT=>exact fu); (case hkt=>exact fu); (case hKd=>(first | exact z88 _ | exact z89)); (case ht=>infer_instance); (case h0=>exact fv))
  | ((with_reducible apply ziZ); (case hx=>exact rfl); (case hu=>exact fu))
  | ((with_reducible apply zj0); (case hx=>exact rfl); (case hu=>exact fu))
  | ((with_reducible apply zgu); (case hx=>exact rfl); (case hu=>exact fu); (case hni=>exact rfl))
  | ((with_reducible apply zoc); (case hx=>exact rfl); (case hu=>exact fu))
  | ((with_reducible apply zdb); (case hu=>exact fu); (case hz=>exact fz); (case hx=>exact rfl); (case hl=>(first | exact bi0 | exact bi1 rfl)); (case hr=>(first | exact bi0 | exact bi1 rfl)))
  | ((with_reducible apply y_fnf); (case hx=>exact rfl); (case hu=>exact fu))
  | ((with_reducible apply y_fnn); (case hx=>exact rfl); (case hu=>exact fu))
  | ((with_reducible apply zoj); (case hS=>exact fu); (case hT=>exact fu); (case hx=>exact rfl))
  | ((with_reducible apply y_quo); (case hx=>exact rfl); (case hy=>exact rfl); (case h0=>first | decide | assumption))
  | ((with_reducible apply y_rem); (case hx=>exact rfl); (case hy=>exact rfl); (case h0=>first | decide | assumption))
  | ((with_reducible apply y_shl); (case hx=>exact rfl); (case hy=>exact rfl); (case h0=>first | decide | assumption))
  | ((with_reducible apply y_shr); (case hx=>exact rfl); (case hy=>exact rfl); (case h0=>first | decide | assumption))
  | ((with_reducible apply zoe); (case hx=>exact rfl); (case hu=>exact fu))
  | ((with_reducible apply zod); (case hx=>exact rfl); (case hu=>exact fu))
  | ((with_reducible apply y_fl); (case hx=>exact rfl); (case hu=>exact fu); (case hf'=>exact fxx); (case ha=>exact fa); (case hr=>exact rfl))
  | ((with_reducible apply y_fla); (case hx=>exact rfl); (case hu=>exact fu); (case hf'=>exact fxx); (case ha=>exact fa); (case hz=>exact fz); (case hc=>((repeat (first | exact Tk.z | apply Tk.t | apply Tk.s)); (first | done | fail))))
  | ((with_reducible apply y_bs2); (case h0=>exact fv); (case hu=>exact fu); (case hF=>(repeat (first | exact znb | (apply zkt; (case hz=>exact fz))))); (case hp=>((repeat (first | exact Pc.z | (apply Pc.s; (case h=>exact rfl); (case c=>(first | with_reducible exact Cel.a | exact Cel.r rfl | exact Cel.a | (apply Cel.s; ((repeat (first | with_reducible exact Sl.d | with_reducible exact Sl.c | with_reducible exact Sl.b | with_reducible exact Sl.a | with_reducible apply Sl.s | apply Sl.s)); (first | done | fail)); (first | done | fail))))))); (first | done | fail))); (case hc=>(first | kernel_rfl | rfl)); (case hl=>((repeat (first | exact Nl.z rfl | apply Nl.s rfl)); (first | done | fail))))
  | ((with_reducible apply y_mb); (repeat (first | exact Ko.z | apply Ko.s rfl)))
  | ((with_reducible apply y_mf); (repeat (first | exact Ko.z | apply Ko.s rfl)))
  | ((with_reducible apply y1_ln); (case hx=>exact rfl); (case hu=>exact fu); (case hr=>((repeat (first | with_reducible exact Rn.b rfl | with_reducible exact Rn.a rfl | ((with_reducible apply Rn.b); exact rfl) | ((with_reducible apply Rn.a); exact rfl) | with_reducible apply Rn.s | apply Rn.s)); (first | done | fail))))
  | ((with_reducible apply y1_lm); (case hx=>exact rfl); (case hu=>exact fu); (case hr=>((repeat (first | with_reducible exact Rd.b | with_reducible exact Rd.a | with_reducible apply Rd.s | apply Rd.s)); (first | done | fail))))
  | ((with_reducible apply y1_ll); (case hx=>exact rfl); (case hu=>exact fu); (case hr=>((repeat (first | with_reducible exact Rd.b | with_reducible exact Rd.a | with_reducible apply Rd.s | apply Rd.s)); (first | done | fail))))
  | ((with_reducible apply y_ixn); (case hx=>exact rfl); (case hy=>exact rfl); (case hu=>exact fu); (case hz=>exact fz); (case hr=>((repeat (first | with_reducible exact Rn.b rfl | with_reducible exact Rn.a rfl | ((with_reducible apply Rn.b); exact rfl) | ((with_reducible apply Rn.a); exact rfl) | with_reducible apply Rn.s | apply Rn.s)); (first | done | fail))); (case h0=>assumption); (case hn=>assumption))
  | ((with_reducible apply y_ixm); (case hx=>exact rfl); (case hy=>exact rfl); (case hu=>exact fu); (case hz=>exact fz); (case hr=>((repeat (first | with_reducible exact Rd.b | with_reducible exact Rd.a | with_reducible apply Rd.s | apply Rd.s)); (first | done | fail))); (case h0=>assumption); (case hn=>assumption))
  | ((with_reducible apply y_ixl); (case hx=>exact rfl); (case hy=>exact rfl); (case hu=>exact fu); (case hz=>exact fz); (case hr=>((repeat (first | with_reducible exact Rd.b | with_reducible exact Rd.a | with_reducible apply Rd.s | apply Rd.s)); (first | done | fail))); (case h0=>first | assumption | decide); (case hn=>first | assumption | decide))
  | ((with_reducible apply za0); (case hx=>exact rfl); (case hy=>exact rfl); (case hu=>exact fu); (case h0=>assumption); (case hb=>assumption))):OpY Tryz.prog op V H v:=h
theorem pjx {n:Nat} {S T:Type} {p:S→T} (h:Pj n S T p:=by ((repeat (first | apply Pj.z | apply Pj.f | apply Pj.s)); (first | done | fail))):Pj n S T p:=h
theorem vwx {S G:Type} {L:List (Nat×Value)} {ss:List (Nat×Cc)} {ts:List Nat} {F:S→G→List (Nat×Value)} (h:Vw S G L ss ts F:=by ((repeat (first | (apply Vw.z; exact kq) | (apply Vw.s; (case h=>(apply Cv.t; (case h=>exact pjx); (case e=>infer_instance)))) | (apply Vw.s; (case h=>(apply Cv.i; exact pjx))) | (apply Vw.s; (case h=>(apply Cv.g; exact pjx))))); (first | done | fail))):Vw S G L ss ts F:=h
theorem cwx {S G:Type} {cs:List Cc} {vs:List Value} {f:S→G→List Value} (h:Cw S G cs vs f:=by ((repeat (first | apply Cw.z | apply Cw.k | (apply Cw.s; (case h=>(apply Cv.t; (case h=>exact pjx); (case e=>infer_instance)))) | (apply Cw.s; (case h=>(apply Cv.i; exact pjx))) | (apply Cw.s; (case h=>(apply Cv.g; exact pjx))))); (first | done | fail))):Cw S G cs vs f:=h
theorem hwx {S G:Type} {H:List HA} {cs:List Hc} {f:S→G→List HA} (h:Hw S G H cs f:=by ((repeat (first | apply Hw.z | (apply Hw.s; (case h=>(apply Hh.k; exact rfl))) | (apply Hw.s; (case h=>(apply Hh.b; (case h=>exact rfl); (case r=>exact cwx)))) | (apply Hw.s; (case h=>(apply Hh.w; (case hp=>exact pjx); (case hu=>exact pjx); (case e=>infer_instance)))) | (apply Hw.s; (case h=>(apply Hh.o; (case hp=>exact pjx); (case hu=>exact pjx); (case e=>infer_instance)))) | (apply Hw.s; (case h=>(apply Hh.wn; (case hp=>exact pjx); (case hu=>exact pjx); (case e=>infer_instance)))) | (apply Hw.s; (case h=>(apply Hh.on; (case hp=>exact pjx); (case hu=>exact pjx); (case e=>infer_instance)))) | (apply Hw.s; (case h=>(apply Hh.p; (case h=>exact rfl); (case hp=>exact pjx)))) | (apply Hw.s; (case h=>(apply Hh.pn; (case h=>exact rfl); (case hp=>exact pjx)))) | (apply Hw.s; (case h=>(apply Hh.pm; (case h=>exact rfl); (case hp=>exact pjx)))) | (apply Hw.s; (case h=>(apply Hh.pk; (case h=>exact rfl); (case hp=>exact pjx)))) | (apply Hw.s; (case h=>(apply Hh.z; exact rfl))) | (apply Hw.s; (case h=>(apply Hh.zn; exact rfl))))); (first | done | fail))):Hw S G H cs f:=h
theorem hyx {S G:Type} {H:List HA} {cs:List Hc} {f:S→G→List HA} (h:Hy S G H cs f:=by ((repeat (first | apply Hy.z | ((apply Hy.y); (case h=>exact atx); (case hp=>exact pjx)) | (apply Hy.s; (case h=>(apply Hh.k; exact rfl))) | (apply Hy.s; (case h=>(apply Hh.b; (case h=>exact rfl); (case r=>exact cwx)))) | (apply Hy.s; (case h=>(apply Hh.w; (case hp=>exact pjx); (case hu=>exact pjx); (case e=>infer_instance)))) | (apply Hy.s; (case h=>(apply Hh.o; (case hp=>exact pjx); (case hu=>exact pjx); (case e=>infer_instance)))) | (apply Hy.s; (case h=>(apply Hh.wn; (case hp=>exact pjx); (case hu=>exact pjx); (case e=>infer_instance)))) | (apply Hy.s; (case h=>(apply Hh.on; (case hp=>exact pjx); (case hu=>exact pjx); (case e=>infer_instance)))) | (apply Hy.s; (case h=>(apply Hh.p; (case h=>exact rfl); (case hp=>exact pjx)))) | (apply Hy.s; (case h=>(apply Hh.pn; (case h=>exact rfl); (case hp=>exact pjx)))) | (apply Hy.s; (case h=>(apply Hh.pm; (case h=>exact rfl); (case hp=>exact pjx)))) | (apply Hy.s; (case h=>(apply Hh.pk; (case h=>exact rfl); (case hp=>exact pjx)))) | (apply Hy.s; (case h=>(apply Hh.z; exact rfl))) | (apply Hy.s; (case h=>(apply Hh.zn; exact rfl))))); (first | done | fail))):Hy S G H cs f:=h
theorem kdx {i:Nat} {Kl Kl' : List (List Nat)} {Hs Hs' : List HA} (h:Kd i Kl Hs Kl' Hs':=by ((repeat (first | exact Kd.z | apply Kd.k rfl | apply Kd.d rfl)); (first | done | fail))):Kd i Kl Hs Kl' Hs':=h
theorem nyx {m m' : Md} {H G:List HA} (h:Ny m m' H G:=by ((first | exact Ny.o | exact Ny.s | exact Ny.t | exact Ny.n | (apply Ny.f; exact kdx) | exact Ny.ut | (apply Ny.uf; exact kdx)); (first | done | fail))):Ny m m' H G:=h
theorem ntx {m m' : Md} (h:Nt m m':=by ((first | exact Nt.o | (apply Nt.a; exact kdx) | (apply Nt.u; exact kdx)); (first | done | fail))):Nt m m':=h
theorem nnx {m:Md} (h:Nn m:=by ((first | exact Nn.o | exact Nn.s | exact Nn.a); (first | done | fail))):Nn m:=h
theorem nzx {m m' : Md} (h:Nz m m':=by ((first | exact Nz.o | exact Nz.s | exact Nz.t | exact Nz.n | (apply Nz.f; exact kdx)); (first | done | fail))):Nz m m':=h
theorem omx {m:Md} (h:Om m:=by ((exact Om.a); (first | done | fail))):Om m:=h
theorem gcx {R:Type} {X X1 X2:Option R} {c:Bool} (h:Gc X c X1 X2:=by ((repeat (first | with_reducible exact gc_z | with_reducible apply gc_s)); (first | done | fail))):Gc X c X1 X2:=h
theorem pux {R:Type} {X Y:Option R} (h:Pu X Y:=by ((repeat (first | with_reducible exact pu_ob | with_reducible exact pu_ix | with_reducible exact pu_nd | with_reducible exact pu_go | with_reducible exact pu_no | with_reducible apply pu_in)); (first | done | fail))):Pu X Y:=h
theorem ozx {m:Md} (h:Oz m:=by ((first | exact Oz.o | exact Oz.s); (first | done | fail))):Oz m:=h
theorem sbx {m:Md} {H:List HA} (h:Sb m H:=by ((first | exact Sb.o | exact Sb.s | (apply Sb.a; (repeat (first | exact z5Z | apply z4O | apply z7R))) | (apply Sb.t; (repeat (first | exact z5Z | apply z4O | apply z7R))) | (apply Sb.u; (repeat (first | exact z5Z | apply z4O | apply z7R)))); (first | done | fail))):Sb m H:=h
theorem nthx {l:List Oper} {i:Nat} {op:Oper} (h:Nth l i op:=by ((repeat (first | exact Nth.z | apply Nth.s)); (first | done | fail))):Nth l i op:=h
theorem pbx {H Hs H' : List HA} (h:Pbk H Hs H':=by ((repeat (first | exact Pbk.z | with_reducible apply Pbk.k | with_reducible apply Pbk.e | ((with_reducible apply Pbk.m); (case h=>exact atx); (case s=>exact stx)))); (first | done | fail))):Pbk H Hs H':=h
theorem gwx {H Hs Hs' : List HA} (h:Gw H Hs Hs':=by ((repeat (first | exact Gw.z | with_reducible apply Gw.s | with_reducible apply Gw.ro | with_reducible apply Gw.nro | with_reducible apply Gw.atc | with_reducible apply Gw.e)); (first | done | fail))):Gw H Hs Hs':=h
theorem subx {H Hs:List HA} (h:Sub H Hs:=by ((repeat (first | exact z5Z | apply z4O | apply z7R)); (first | done | fail))):Sub H Hs:=h
theorem pkx {L:List Oper} {is:List Nat} {l:List Oper} (h:Pq L is l:=by ((repeat (first | exact Pq.z | (apply Pq.s; (case h=>exact nthx)))); (first | done | fail))):Pq L is l:=h
theorem emx {H G:List HA} {ts:List Nat} {n:Nat} (h:Em H ts n G:=by ((repeat (first | exact Em.z | apply Em.e | apply Em.k)); (first | done | fail))):Em H ts n G:=h
theorem nvx {L L' : List (Nat×Value)} (h:Nv L L':=by ((repeat (first | exact Nv.z rfl | (apply Nv.s rfl; (case e'=>(first | (dsimp only [EncT.v]; done) | (dsimp only [EncT.v]; exact rfl) | exact rfl))))); (first | done | fail))):Nv L L':=h
theorem ndx {H H' : List HA} (h:Nd H H':=by ((repeat (first | exact Nd.z rfl | (apply Nd.s rfl; (case e'=>(first | (dsimp only [EncT.v,Elt.w,Elt.o,Eltn.c]; done) | (dsimp only [EncT.v,Elt.w,Elt.o,Eltn.c]; exact rfl) | exact rfl))))); (first | done | fail))):Nd H H':=h
theorem nmx {H H' : List HA} (h:Nd H H':=by ((repeat (first | exact Nd.z rfl | (apply Nd.s rfl; (case e'=>(first | (dsimp only []; done) | (dsimp only []; exact rfl) | exact rfl))))); (first | done | fail))):Nd H H':=h
theorem bpx {c t f e:Bool} (h:Bp c t f e):Bp c t f e:=h
theorem prx {H G:List HA} (h:Pr H G:=by ((repeat (first | exact Pr.z | apply Pr.s)); (first | done | fail))):Pr H G:=h
theorem tux {H G:List HA} (h:Turn H G:=by ((first | exact zls prx | exact sup); (first | done | fail))):Turn H G:=h
theorem sgx2 {gs d:Nat} {l a b:List Oper} (h:Gs gs l a b d:=by ((repeat (first | exact Gs.z | apply Gs.s)); (first | done | fail))):Gs gs l a b d:=h
theorem flx {ds:List Nat} {L L' : List (Nat×Value)} (h:Fl ds L L':=by ((repeat (first | exact Fl.z | apply Fl.k rfl | apply Fl.d)); (first | done | fail))):Fl ds L L':=h
theorem atz {H:List HA} {i:Nat} {g:HA} (h:At H i g:=by (((repeat (first | with_reducible exact At.z | with_reducible apply At.s | exact At.z | apply At.s)); (first | done | fail)); (first | done | fail))):At H i g:=h
theorem nlx {l l' : List Value} (h:Nl l l':=by (((repeat (first | exact Nl.z rfl | apply Nl.s rfl)); (first | done | fail)); (first | done | fail))):Nl l l':=h
theorem celx {H:List HA} {u:Value} {l:List Value} (h:Cel H u l:=by ((first | with_reducible exact Cel.a | exact Cel.r rfl | exact Cel.a | (apply Cel.s; ((repeat (first | with_reducible exact Sl.d | with_reducible exact Sl.c | with_reducible exact Sl.b | with_reducible exact Sl.a | with_reducible apply Sl.s | apply Sl.s)); (first | done | fail)); (first | done | fail))); (first | done | fail))):Cel H u l:=h
theorem onx {H:List HA} {l:List Value} (h:Ones H l:=by (((repeat (first | exact Ones.z | apply Ones.r rfl | (apply Ones.s; (case h=>((repeat (first | with_reducible exact Sl.d | with_reducible exact Sl.c | with_reducible exact Sl.b | with_reducible exact Sl.a | with_reducible apply Sl.s | apply Sl.s)); (first | done | fail)))))); (first | done | fail)); (first | done | fail))):Ones H l:=h
theorem wlx {cs vs ds:List Value} {n:Nat} (h:Wl cs n vs ds:=by (((repeat (first | exact Wl.z | apply Wl.p | apply Wl.s)); (first | done | fail)); (first | done | fail))):Wl cs n vs ds:=h
theorem rdx' {H:List HA} {v:Value} {es:Nat} {c:List (List Value)} (h:Rd H v es c:=by (((repeat (first | with_reducible exact Rd.b | with_reducible exact Rd.a | with_reducible apply Rd.s | apply Rd.s)); (first | done | fail)); (first | done | fail))):Rd H v es c:=h
theorem rzx {V:VF} {H:List HA} {rs:List ResultVar} {vs:List Value} (h:Rz Tryz.prog V H rs vs:=by ((repeat (first | exact Rz.z | apply Rz.t rfl | (apply Rz.b; (case h=>exact rfl); (case ha=>exact fa); (case hz=>exact fz); (case hm=>((repeat (first | with_reducible exact At.z | with_reducible apply At.s | exact At.z | apply At.s)); (first | done | fail))); (case hn=>exact rfl)) | (apply Rz.s; (case h=>exact rfl); (case ha=>exact fa); (case hm=>((repeat (first | with_reducible exact At.z | with_reducible apply At.s | exact At.z | apply At.s)); (first | done | fail)))))); (first | done | fail))):Rz Tryz.prog V H rs vs:=h
theorem sgz {B:Type} {post:B→Post} {sh:List (Nat×Nat)} (h:(sh.all fun s=>s.2 != 1)=true∨SgP post:=by ((first | exact .inl rfl | (refine .inr ?_; intro q v G hp; obtain ⟨_,rfl⟩:=hp; exact sgx) | (refine .inr ?_; intro q v G hp; obtain ⟨_,_,rfl⟩:=hp; exact sgx) | (refine .inr ?_; intro q v G hp; obtain ⟨_,_,_,rfl⟩:=hp; exact sgx) | (refine .inr ?_; intro q v G hp; obtain ⟨_,_,_,_,rfl⟩:=hp; exact sgx) | (refine .inr ?_; intro q v G hp; obtain ⟨_,_,_,_,_,rfl⟩:=hp; exact sgx) | (refine .inr ?_; intro q v G hp; obtain ⟨_,_,_,_,_,_,rfl⟩:=hp; exact sgx) | (refine .inr ?_; intro q v G hp; obtain ⟨_,_,_,_,_,_,_,rfl⟩:=hp; exact sgx) | (refine .inr ?_; intro q v G hp; obtain ⟨_,_,_,_,_,_,_,_,rfl⟩:=hp; exact sgx) | fail); (first | done | fail))):(sh.all fun s=>s.2 != 1)=true∨SgP post:=h
theorem fpx {post:Post} {v:Value} {H:List HA} (h:Fp post v H:=by ((repeat (first | ((with_reducible apply fp_eq); (case h=>exact rfl); (case ht=>(first | exact sup | exact sup2))) | ((with_reducible apply zkr); (case h=>exact rfl); (case ht=>(first | exact sup | exact sup2))) | with_reducible apply zna | with_reducible apply zks | with_reducible apply zkq | with_reducible apply fp_ex)); (first | done | fail))):Fp post v H:=h
theorem avx {V:VF} {xs:List Operand} {vs:List Value} (h:Av V xs vs:=by ((repeat (first | exact Av.z | apply Av.s rfl)); (first | done | fail))):Av V xs vs:=h
theorem csx {V:VF} {op:Oper} {d:Option Nat} {f:FuncId} {av:List Value} (h:Cs V op d f av:=by ((first | ((apply cs_p); (case hfx=>exact rfl); (case h=>exact avx)) | ((apply cs_c); (case hfx=>exact rfl); (case h=>exact avx); (case he=>exact rfl))); (first | done | fail))):Cs V op d f av:=h
theorem svx {H:List HA} {n:Nat} {f:Value→HA} {K:Value→List HA} (h:Sv H n f K:=by ((repeat (first | exact Sv.z | apply Sv.s)); (first | done | fail))):Sv H n f K:=h
theorem sax {α:Type} {H:List HA} {F:α→List Value} {es:Nat} {v:Value} {l2:List α} (h:Sa H F es v l2:=by ((first | with_reducible exact Sa.n | ((with_reducible apply Sa.s); (case h=>exact rfl); (case e=>exact rfl)) | (apply Sa.r; exact rdx')); (first | done | fail))):Sa H F es v l2:=h
theorem pzx {V:VF} {ps:List (Nat×Operand)} {n:Nat} {vs:List Value} (h:Pz V ps n vs:=by ((repeat (first | exact Pz.z | apply Pz.s rfl)); (first | done | fail))):Pz V ps n vs:=h
theorem mlx {κ:Type} [DecidableEq κ] {kk:κ} {vv:Value} {l l' : List (κ×Value)} (h:Mnk kk vv l l':=by ((repeat (first | exact Mnk.z | (apply Mnk.s; (case h=>exact rfl)))); (first | done | fail))):Mnk kk vv l l':=h
theorem dlx {α:Type} {F:α→List Value} {vs:List Value} {xs:List α} (h:Dl F vs xs:=by ((repeat (first | exact Dl.z | (apply Dl.s; (case h=>(first | infer_instance | exact de_b ‹_› | exact de_b (by decide)))))); (first | done | fail))):Dl F vs xs:=h
theorem lvx {es:Nat} {vs:List Value} {cs:List (List Value)} (h:Lvl es vs cs:=by ((repeat (first | exact Lvl.z | (apply Lvl.s; (case hl=>exact rfl)))); (first | done | fail))):Lvl es vs cs:=h
theorem sux {α:Type} {V:VF} {src nl:List α} {lo hi:Option Operand} {l r:Int} (h:Su V src lo hi l r nl:=by ((first | (apply Su.b <;> exact rfl) | (apply Su.l; exact rfl) | (apply Su.h; exact rfl)); (first | done | fail))):Su V src lo hi l r nl:=h
theorem bsx {d:Nat} {l:List Oper} (h:Bs d l:=by ((repeat (first | exact Bs.z | apply Bs.s)); (first | done | fail))):Bs d l:=h
theorem bvx {d:Nat} {l:List Oper} (h:Bv d l:=by ((repeat (first | exact Bv.z | exact Bv.a | exact Bv.c | apply Bv.s)); (first | done | fail))):Bv d l:=h
theorem sggz {A S:Type} {post:A→Post} {ppost:Int→S→Post} {sh:List (Nat×Nat)} (h:(sh.all fun s=>s.2 != 1)=true∨(SgP post∧∀ e,SgP (ppost e)):=by ((first | exact .inl rfl | (refine .inr ⟨?_,?_⟩; (intro q v G hp; (first | (obtain ⟨_,rfl⟩:=hp; exact sgx) | (obtain ⟨_,_,rfl⟩:=hp; exact sgx) | (obtain ⟨_,_,_,rfl⟩:=hp; exact sgx) | (obtain ⟨_,_,_,_,rfl⟩:=hp; exact sgx) | (obtain ⟨_,_,_,_,_,rfl⟩:=hp; exact sgx) | (obtain ⟨_,_,_,_,_,_,rfl⟩:=hp; exact sgx) | (obtain ⟨_,_,_,_,_,_,_,rfl⟩:=hp; exact sgx) | (obtain ⟨_,_,_,_,_,_,_,_,rfl⟩:=hp; exact sgx) | fail)); (intro e q v G hp; (first | (obtain ⟨_,rfl⟩:=hp; exact sgx) | (obtain ⟨_,_,rfl⟩:=hp; exact sgx) | (obtain ⟨_,_,_,rfl⟩:=hp; exact sgx) | (obtain ⟨_,_,_,_,rfl⟩:=hp; exact sgx) | (obtain ⟨_,_,_,_,_,rfl⟩:=hp; exact sgx) | (obtain ⟨_,_,_,_,_,_,rfl⟩:=hp; exact sgx) | (obtain ⟨_,_,_,_,_,_,_,rfl⟩:=hp; exact sgx) | (obtain ⟨_,_,_,_,_,_,_,_,rfl⟩:=hp; exact sgx) | fail))) | fail); (first | done | fail))):(sh.all fun s=>s.2 != 1)=true∨(SgP post∧∀ e,SgP (ppost e)):=h
theorem go {Q:Prop} (h:Q:=by
 repeat' (first
  | with_reducible exact zkh
  | with_reducible exact zjX
  | with_reducible exact zjI
  | ((with_reducible apply zft); (case hfx=>exact rfl); (case hy=>assumption); (case hx=>exact rfl); (case he=>exact rfl); (case hs=>exact sxl); (case hz=>exact rfl); (case hm=>exact atx); (case hw=>exact wx); (case hd=>exact rfl))
  | ((with_reducible apply zdC); (case hfx=>exact rfl); (case hy=>assumption); (case hx=>exact rfl); (case he=>exact rfl); (case hs=>exact sxl); (case hz=>exact rfl); (case hm=>exact atx); (case hw=>exact wx); (case hd=>exact rfl))
  | ((with_reducible apply zbC); (case hfx=>exact rfl); (case hy=>assumption); (case hx=>exact rfl); (case he=>exact rfl); (case hs=>exact sxl); (case hz=>exact rfl); (case hm=>exact atx); (case hw=>exact wx); (case hd=>exact rfl))
  | ((with_reducible apply zc3); (case hfx=>exact rfl); (case hy=>assumption); (case hx=>exact rfl); (case he=>exact rfl); (case hs=>exact sxl); (case hz=>exact rfl); (case hm=>exact atx); (case hw=>exact wx); (case hd=>exact rfl))
  | ((with_reducible apply zhy); (case hr=>with_reducible assumption); (case' h=>intro _ _ _))
  | with_reducible apply dg_bf
  | with_reducible apply dg_cf
  | with_reducible apply dg_ct
  | with_reducible apply dr_c1
  | with_reducible apply dr_c2
  | ((with_reducible apply zkf); (case hm=>exact atz); (case' h=>intro _))
  | ((with_reducible apply zhx); (first | exact tux | (dsimp only [Elt.w,Elt.o,EncT.v,Eltn.c]; exact tux)))
  | ((with_reducible apply zfp); (case h=>(rintro rfl; exact tux)))
  | ((with_reducible apply dgn); (case hV=>exact nvx); (case hH=>exact ndx))
  | ((with_reducible apply do_gs); (case ho=>exact omx); (case hg=>exact rfl); (case hj=>exact rfl); (case hv=>exact rfl); (case hn=>(fail_if_success (with_reducible exact .inl Ltb.t)); (fail_if_success (with_reducible exact .inl Ltb.f)); exact .inr trivial); (case hc=>exact gcx); intro _)
  | ((with_reducible apply do_jg); (case hV=>exact vwx); (case hH=>exact hwx); (case hg=>exact rfl); (case hj=>exact rfl); (case hv=>exact rfl); (case hs'=>exact sgx2))
  | ((with_reducible apply zhB); (case hn=>exact ntx); (case h0=>exact fv); (case hz=>exact nlx); (case hw=>exact wx); (case hd=>exact rfl); intro _)
  | ((with_reducible apply zmG); (case hn=>exact ntx); (case hx=>exact rfl); (case hc=>exact celx); (case hw=>exact wx); (case hd=>exact rfl); intro _)
  | ((with_reducible apply zhK); (case hn=>exact ntx); (case hx=>exact rfl); (case hy=>exact rfl); (case hm=>exact atz); (case hc=>exact celx); (case hww=>exact wlx); (case hS=>exact stx); (case h1=>exact onx); (case hz=>exact fz); (case hl=>exact rfl); (case hb=>exact sbx); (case hw=>exact wx))
  | ((with_reducible apply zmI); (case hx=>exact rfl); (case hm=>exact atz); (case hn=>exact fun h=>absurd h (by decide)); (case hS=>exact stx))
  | ((with_reducible apply do_ix); (case hn=>exact nyx); (case hx=>exact rfl); (case hy=>exact rfl); (case hu=>exact fu); (case hz=>exact fz); (case hr=>exact rdx'); (case hw=>exact wx); (case hd=>exact rfl); intro _ _ _ _)
  | ((with_reducible apply zmN); (case hn=>exact nyx); (case hx=>exact rfl); (case hy=>exact rfl); (case hu=>exact fu); (case hz=>exact fz); (case hm=>exact atz); (case hg=>exact atz); (case he=>exact rfl); (case hw=>exact wx); (case hd=>exact rfl); intro _ _ _ _)
  | ((with_reducible apply zmL); (case hn=>exact nyx); (case hx=>exact rfl); (case hy=>exact rfl); (case hu=>exact fu); (case hz=>exact fz); (case hm=>exact atz); (case hg=>exact atz); (case he=>exact rfl); (case hw=>exact wx); (case hd=>exact rfl); intro _ _ _ _)
  | ((with_reducible apply zmO); (case hn=>exact nyx); (case hx=>exact rfl); (case hy=>exact rfl); (case hu=>exact fu); (case hz=>exact fz); (case hm=>exact atz); (case he=>exact rfl); (case hw=>exact wx); (case hd=>exact rfl); intro _ _ _ _)
  | ((with_reducible apply zmJ); (case hn=>exact nyx); (case hx=>exact rfl); (case hy=>exact rfl); (case hu=>exact fu); (case hz=>exact fz); (case hs=>(repeat (first | with_reducible assumption | with_reducible apply zia))); (case hw=>exact wx); (case hd=>exact rfl); intro _ _ _ _)
  | ((with_reducible apply zmM); (case hn=>exact nyx); (case hx=>exact rfl); (case hy=>exact rfl); (case hu=>exact fu); (case hw=>exact wx); (case hd=>exact rfl); intro _ _ _ _)
  | ((with_reducible apply zk2); (case hn2=>exact nyx); (case hx=>exact rfl); (case hs=>exact sux); (case hu=>exact fu); (case hw=>exact wx); (case hd=>exact rfl); intro _)
  | ((with_reducible apply zk4); (case hx=>exact rfl); (case hB=>exact bsx); (case hm=>exact atz); (case hs=>exact sux); (case hf=>exact stx); (case hn2=>exact nyx); (case hg=>exact atz); (case hb=>exact sbx); (case hu=>exact fu); (case hz=>exact fz); (case hw=>exact wx); (case hd=>exact rfl); intro _)
  | ((with_reducible apply zk3); (case hx=>exact rfl); (case hB=>exact bvx); (case hm=>exact atz); (case hs=>exact sux); (case hn2=>exact nyx); (case hg=>exact atz); (case hu=>exact fu); (case hz=>exact fz); (case hw=>exact wx); (case hd=>exact rfl); intro _)
  | ((with_reducible apply zk1); (case hx=>exact rfl); (case hm=>exact atz); (case hs=>exact sux); (case hf=>exact stx); (case hn2=>exact nyx); (case hg=>exact atz); (case hb=>exact sbx); (case hu=>exact fu); (case hz=>exact fz); (case hw=>exact wx); (case hd=>exact rfl); intro _)
  | ((with_reducible apply zmW); (case hx=>exact rfl); (case hm=>exact atz); (case hs=>exact sux); (case hn2=>exact nyx); (case hg=>exact atz); (case hu=>exact fu); (case hz=>exact fz); (case hw=>exact wx); (case hd=>exact rfl); intro _)
  | ((with_reducible apply zk5); (case hx=>exact rfl); (case hm=>exact atz); (case hs=>exact sux); (case hf=>exact stx); (case hn2=>exact nyx); (case hg=>exact atz); (case hb=>exact sbx); (case hu=>exact fu); (case hz=>exact fz); (case hw=>exact wx); (case hd=>exact rfl); intro _)
  | ((with_reducible apply zk0); (case hx=>exact rfl); (case hm=>exact atz); (case hs=>exact sux); (case hn2=>exact nyx); (case hg=>exact atz); (case hu=>exact fu); (case hz=>exact fz); (case he=>exact rfl); (case hn=>exact rfl); (case hw=>exact wx); (case hd=>exact rfl); intro _)
  | ((with_reducible apply zhJ); (case hn=>exact ntx); (case hx=>exact rfl); (case hy=>exact rfl); (case hm=>exact atz); (case ha=>assumption); (case hc=>exact celx); (case hW=>exact wlx); (case he=>infer_instance); (case hD=>infer_instance); (case hS=>exact stx); (case h1=>exact onx); (case hz=>exact fz); (case hl=>exact rfl); (case hb=>exact sbx); (case hw=>exact wx); intro _ _)
  | ((with_reducible apply zgE); (case hn=>exact ntx); (case hx=>exact rfl); (case hy=>exact rfl); (case hm=>exact atz); (case ha=>assumption); (case hc=>exact celx); (case hW=>exact wlx); (case he=>infer_instance); (case hD=>infer_instance); (case hS=>exact stx); (case h1=>exact onx); (case hz=>exact fz); (case hl=>exact rfl); (case hb=>exact sbx); (case hw=>exact wx); intro _ _)
  | ((with_reducible apply zdy); (case hn2=>exact ntx); (case hx=>exact rfl); (case hm=>exact atz); (case hy=>exact rfl); (case hg=>exact atz); (case hS=>exact svx); (case hne=>exact rfl); (case hu=>exact fu); (case hu2=>exact fu); (case hti=>exact fi); (case hes=>exact rfl); (case hby=>exact rfl); (case h0=>exact fv); (case hzs=>exact rfl); (case hw=>exact wx); (case hd=>exact rfl); intro _ _)
  | ((with_reducible apply zfq); (case hn2=>exact ntx); (case hx=>exact rfl); (case hm=>exact atz); (case hS=>exact svx); (case hu=>exact fu); (case he=>infer_instance); (case hy=>exact rfl); (case hs=>exact sax); (case hu2=>exact fu); (case hni=>(first | exact .inl rfl | exact .inr ⟨_,rfl⟩)); (case hti=>exact fi); (case hes=>exact rfl); (case hby=>exact rfl); (case h0=>exact fv); (case hzs=>exact rfl); (case hw=>exact wx); (case hd=>exact rfl); intro _ _)
  | ((with_reducible apply zdz); (case hn2=>exact ntx); (case hx=>exact rfl); (case hm=>exact atz); (case hf=>assumption); (case hnl=>exact rfl); (case hSt=>exact stx); (case hS=>exact svx); (case hu=>exact fu); (case he=>infer_instance); (case hy=>exact rfl); (case hs=>exact sax); (case hu2=>exact fu); (case hni=>(first | exact .inl rfl | exact .inr ⟨_,rfl⟩)); (case hti=>exact fi); (case hes=>exact rfl); (case hby=>exact rfl); (case h0=>exact fv); (case hzs=>exact rfl); (case hw=>exact wx); (case hd=>exact rfl); intro _ _)
  | ((with_reducible apply zdA); (case hn2=>exact ntx); (case hx=>exact rfl); (case hu=>exact fu); (case ht=>infer_instance); (case he=>infer_instance); (case hy=>exact rfl); (case hs=>exact sax); (case hu2=>exact fu); (case hni=>(first | exact .inl rfl | exact .inr ⟨_,rfl⟩)); (case hti=>exact fi); (case hes=>exact rfl); (case hby=>exact rfl); (case h0=>exact fv); (case hzs=>exact rfl); (case hw=>exact wx); (case hd=>exact rfl); (case hb0=>exact sbx); intro _ _)
  | ((with_reducible apply zmQ); (case hn2=>exact ntx); (case hu=>exact fu); (case ht=>infer_instance); (case he=>infer_instance); (case hz=>exact fz); (case h0=>exact fv); (case hp=>exact pzx); (case hD=>exact dlx); (case hn=>exact rfl); (case hb=>exact rfl); (case hw=>exact wx); (case hd=>exact rfl); intro _)
  | ((with_reducible apply zmT); (case hn2=>exact ntx); (case hx=>exact rfl); (case hm=>exact atz); (case hy=>exact rfl); (case hz=>exact rfl); (case hK=>infer_instance); (case hl=>exact mlx); (case hS=>exact stx); (case hT=>exact fu); (case hkt=>exact fu); (case hKd=>(first | exact z88 _ | exact z89)); (case hb=>exact sbx); (case hw=>exact wx))
  | ((with_reducible apply zdB); (case hn2=>exact ntx); (case hT=>exact fu); (case ht=>infer_instance); (case hw=>exact wx); (case hd=>exact rfl); intro _)
  | ((with_reducible apply zjT); (case hn2=>exact ntx); (case hx=>exact rfl); (case hm=>exact atz); (case hy=>exact rfl); (case hz=>exact rfl); (case hK=>infer_instance); (case hG=>infer_instance); (case hS=>exact stx); (case hT=>exact fu); (case hkt=>exact fu); (case hKd=>(first | exact z88 _ | exact z89)); (case hb=>exact sbx); (case hw=>exact wx))
  | ((with_reducible apply zjS); (case hn2=>exact ntx); (case hx=>exact rfl); (case hm=>exact atz); (case hy=>exact rfl); (case hz=>exact rfl); (case hK=>infer_instance); (case hG=>infer_instance); (case hS=>exact stx); (case hT=>exact fu); (case hkt=>exact fu); (case hKd=>(first | exact z88 _ | exact z89)); (case hb=>exact sbx); (case hw=>exact wx))
  | ((with_reducible apply zmR); (case hx=>exact rfl); (case hm=>exact atz); (case hy=>exact rfl); (case hK=>infer_instance); (case hT=>exact fu); (case hkt=>exact fu); (case hKd=>(first | exact z88 _ | exact z89)); (case h0=>exact fv); (case hn=>exact nyx); (case hw=>exact wx); (case hd=>exact rfl))
  | ((with_reducible apply zmS); (case hx=>exact rfl); (case hm=>exact atz); (case hy=>exact rfl); (case hK=>infer_instance); (case hT=>exact fu); (case hkt=>exact fu); (case hKd=>(first | exact z88 _ | exact z89)); (case h0=>exact fv); (case hn=>exact nyx); (case hw=>exact wx); (case hd=>exact rfl))
  | ((with_reducible apply zcQ); (case hT=>exact fu); (case ht=>infer_instance); (case dk=>infer_instance); (case hw=>exact wx); (case hd=>exact rfl); intro _)
  | ((with_reducible apply zjY); (case hx=>exact rfl); (case hm=>exact atz); (case hy=>exact rfl); (case hz=>exact rfl); (case hK=>infer_instance); (case hT=>exact fu); (case hkt=>exact fu); (case hKd=>(first | exact z88 _ | exact z89)); (case hG=>infer_instance); (case hS=>exact stx); (case hb=>exact sbx); (case hw=>exact wx))
  | ((with_reducible apply zjV); (case hx=>exact rfl); (case hm=>exact atz); (case hy=>exact rfl); (case hz=>exact rfl); (case hK=>infer_instance); (case hT=>exact fu); (case hkt=>exact fu); (case hKd=>(first | exact z88 _ | exact z89)); (case hG=>infer_instance); (case hS=>exact stx); (case hb=>exact sbx); (case hw=>exact wx))
  | ((with_reducible apply zjW); (case hx=>exact rfl); (case hm=>exact atz); (case hy=>exact rfl); (case hK=>infer_instance); (case hT=>exact fu); (case hkt=>exact fu); (case hKd=>(first | exact z88 _ | exact z89)); (case hz=>infer_instance); (case h0=>exact fv); (case hzv=>exact rfl); (case hw=>exact wx); (case hd=>exact rfl))
  | ((with_reducible apply zmV); (case hx=>exact rfl); (case hm=>exact atz); (case hy=>exact rfl); (case hK=>infer_instance); (case hT=>exact fu); (case hkt=>exact fu); (case hKd=>(first | exact z88 _ | exact z89)); (case hz=>infer_instance); (case h0=>exact fv); (case hzv=>exact rfl); (case hw=>exact wx); (case hd=>exact rfl))
  | ((with_reducible apply zhH); (case hn=>exact ntx); (case hx=>exact rfl); (case hu=>exact fu); (case hr=>exact rdx'); (case hb=>exact sbx); (case hw=>exact wx); (case hd=>exact rfl); (case' h1=>intro q; subst q; simp only [List.append_nil]))
  | ((with_reducible apply zjN); (case hn2=>exact ntx); (case hx=>exact rfl); (case hy=>exact rfl); (case hu=>exact fu); (case hu2=>exact fu); (case hti=>exact fi); (case hes=>exact rfl); (case hby=>exact rfl); (case h0=>exact fv); (case hz=>exact nlx); (case ht=>infer_instance); (case hD=>exact dc_b0 rfl); (case hw=>exact wx); (case hd=>exact rfl); intro _ _)
  | ((with_reducible apply zhI); (case hx=>exact rfl); (case hw=>exact wx))
  | ((with_reducible apply zhF); (case hn2=>exact ntx); (case hx=>exact rfl); (case hm=>exact atz); (case hf=>assumption); (case hu=>exact fu); (case h0=>exact fv); (case hz=>exact nlx); (case hD=>infer_instance); (case he=>infer_instance); (case hS=>exact stx); (case hb=>exact sbx); (case hw=>exact wx))
  | ((with_reducible apply zjQ); (case hn2=>exact ntx); (case hu=>exact fu); (case ht=>infer_instance); (case hz=>exact fz); (case h0=>exact fv); (case hp=>exact pzx); (case' hL=>(first | ((apply Lw.s); (case hR=>exact Lw.z); (case' hD=>(first | apply zhv | apply zhw | apply dg_63 | apply dg_65 | apply df_25 | apply zht | apply zhu | apply zhs | apply df_63 | apply df_65)); (case hA=>(repeat (first | exact Apd.z | apply Apd.s)))) | ((apply Lw.s); (case' hR=>((apply Lw.s); (case hR=>exact Lw.z); (case' hD=>(first | apply zhv | apply zhw | apply dg_63 | apply dg_65 | apply df_25 | apply zht | apply zhu | apply zhs | apply df_63 | apply df_65)); (case hA=>(repeat (first | exact Apd.z | apply Apd.s))))); (case' hD=>(first | apply zhv | apply zhw | apply dg_63 | apply dg_65 | apply df_25 | apply zht | apply zhu | apply zhs | apply df_63 | apply df_65)); (case hA=>(repeat (first | exact Apd.z | apply Apd.s)))))); (case hS=>exact sxf); (case hsh=>exact rfl); (case he=>exact rfl); (case hn=>exact rfl); (case hb=>exact rfl); (case hw=>exact wx); (case hd=>exact rfl); intro _)
  | ((with_reducible apply zjP); (case hn2=>exact ntx); (case hu=>exact fu); (case ht=>infer_instance); (case hz=>exact fz); (case h0=>exact fv); (case hp=>exact pzx); (case' hL=>(repeat (first | exact Ll.z | ((apply Ll.s); (case hF=>exact rfl); (case hS=>exact rfl))))); (case hS=>exact sxf); (case hsh=>exact rfl); (case he=>exact rfl); (case hn=>exact rfl); (case hb=>exact rfl); (case hne=>exact rfl); (case hw=>exact wx); (case hd=>exact rfl); (case' hk=>intro _))
  | (with_reducible apply dkf_s <;> intro _)
  | (with_reducible apply dkt_s <;> intro _)
  | with_reducible apply dkf_z
  | with_reducible apply dkt_z
  | ((with_reducible apply zjZ); (case hn2=>exact nyx); (case hx=>exact rfl); (case hy=>exact rfl); (case hw=>exact wx); (case hd=>exact rfl); intro _)
  | ((with_reducible apply zjM); (case c=>exact csx); (case' hc=>(first | ((apply ct (P:=Tryz.prog) 0); (case c=>infer_instance); (case' h=>intro c q hq; apply c hq)) | ((apply ct (P:=Tryz.prog) 1); (case c=>infer_instance); (case' h=>intro c q hq; apply c hq)) | ((apply ct (P:=Tryz.prog) 2); (case c=>infer_instance); (case' h=>intro c q hq; apply c hq)) | ((apply ct (P:=Tryz.prog) 3); (case c=>infer_instance); (case' h=>intro c q hq; apply c hq)) | ((apply ct (P:=Tryz.prog) 9); (case c=>infer_instance); (case' h=>intro c q hq; apply c hq)))); (case hw=>exact wx); (case hd=>exact rfl); (case hn=>exact ntx); (first | ((case hs=>exact sxl); (case hsh=>exact sx); (case hok=>exact rfl); (case hst=>exact sgz)) | ((case hs=>exact sxf); (case hsh=>exact sx); (case hok=>exact rfl); (case hst=>exact sgz)) | ((case hs=>exact sxz); (case hsh=>exact sx); (case hok=>exact rfl); (case hst=>exact sgz))); (case hb=>exact sbx); intro _)
  | (((with_reducible apply zhE); (case c=>exact csx); (case' hc=>(first | ((apply ctp (P:=Tryz.prog) 0); (case c=>infer_instance); (case' h=>intro c q hq; apply c hq)) | ((apply ctp (P:=Tryz.prog) 1); (case c=>infer_instance); (case' h=>intro c q hq; apply c hq)) | ((apply ctp (P:=Tryz.prog) 2); (case c=>infer_instance); (case' h=>intro c q hq; apply c hq)) | ((apply ctp (P:=Tryz.prog) 3); (case c=>infer_instance); (case' h=>intro c q hq; apply c hq)) | ((apply ctp (P:=Tryz.prog) 9); (case c=>infer_instance); (case' h=>intro c q hq; apply c hq)))); (case hw=>exact wx); (case hd=>exact rfl); (first | ((case hs=>exact sxl); (case hsh=>exact sx); (case hok=>exact rfl); (case hst=>exact sgz)) | ((case hs=>exact sxf); (case hsh=>exact sx); (case hok=>exact rfl); (case hst=>exact sgz)) | ((case hs=>exact sxz); (case hsh=>exact sx); (case hok=>exact rfl); (case hst=>exact sgz)))) <;> intro _)
  | ((with_reducible apply zhC); (case c=>exact csx); (case' hc=>(first | ((apply ct (P:=Tryz.prog) 0); (case c=>infer_instance); (case' h=>intro c q hq; apply c hq)) | ((apply ct (P:=Tryz.prog) 1); (case c=>infer_instance); (case' h=>intro c q hq; apply c hq)) | ((apply ct (P:=Tryz.prog) 2); (case c=>infer_instance); (case' h=>intro c q hq; apply c hq)) | ((apply ct (P:=Tryz.prog) 3); (case c=>infer_instance); (case' h=>intro c q hq; apply c hq)) | ((apply ct (P:=Tryz.prog) 9); (case c=>infer_instance); (case' h=>intro c q hq; apply c hq)))); (case hw=>exact wx); (case hn=>exact ntx); (first | ((case hs=>exact sxl); (case hsh=>exact sx); (case hok=>exact rfl); (case hst=>exact sgz)) | ((case hs=>exact sxf); (case hsh=>exact sx); (case hok=>exact rfl); (case hst=>exact sgz)) | ((case hs=>exact sxz); (case hsh=>exact sx); (case hok=>exact rfl); (case hst=>exact sgz))); (case hb=>exact sbx); intro _)
  | (((with_reducible apply zfs); (case c=>exact csx); (case' hc=>(first | ((apply ctp (P:=Tryz.prog) 0); (case c=>infer_instance); (case' h=>intro c q hq; apply c hq)) | ((apply ctp (P:=Tryz.prog) 1); (case c=>infer_instance); (case' h=>intro c q hq; apply c hq)) | ((apply ctp (P:=Tryz.prog) 2); (case c=>infer_instance); (case' h=>intro c q hq; apply c hq)) | ((apply ctp (P:=Tryz.prog) 3); (case c=>infer_instance); (case' h=>intro c q hq; apply c hq)) | ((apply ctp (P:=Tryz.prog) 9); (case c=>infer_instance); (case' h=>intro c q hq; apply c hq)))); (case hw=>exact wx); (first | ((case hs=>exact sxl); (case hsh=>exact sx); (case hok=>exact rfl); (case hst=>exact sgz)) | ((case hs=>exact sxf); (case hsh=>exact sx); (case hok=>exact rfl); (case hst=>exact sgz)) | ((case hs=>exact sxz); (case hsh=>exact sx); (case hok=>exact rfl); (case hst=>exact sgz)))) <;> intro _)
  | (((with_reducible apply zhD); (case c=>exact csx); (case' hc=>(first | ((apply ctg (P:=Tryz.prog) 0); (case c=>infer_instance); (case' h=>intro c q hq; apply c hq)) | ((apply ctg (P:=Tryz.prog) 1); (case c=>infer_instance); (case' h=>intro c q hq; apply c hq)) | ((apply ctg (P:=Tryz.prog) 2); (case c=>infer_instance); (case' h=>intro c q hq; apply c hq)) | ((apply ctg (P:=Tryz.prog) 3); (case c=>infer_instance); (case' h=>intro c q hq; apply c hq)) | ((apply ctg (P:=Tryz.prog) 9); (case c=>infer_instance); (case' h=>intro c q hq; apply c hq)))); (case hw=>exact wx); (case hd=>exact rfl); (case hn=>exact ntx); (first | ((case hs=>exact sxl); (case hsh=>exact sx); (case hok=>exact rfl); (case hst=>exact sggz)) | ((case hs=>exact sxf); (case hsh=>exact sx); (case hok=>exact rfl); (case hst=>exact sggz)) | ((case hs=>exact sxz); (case hsh=>exact sx); (case hok=>exact rfl); (case hst=>exact sggz))); (case hb=>exact sbx)) <;> (intro _ <;> try intro _))
  | (((with_reducible apply zfr); (case c=>exact csx); (case' hc=>(first | ((apply ctg (P:=Tryz.prog) 0); (case c=>infer_instance); (case' h=>intro c q hq; apply c hq)) | ((apply ctg (P:=Tryz.prog) 1); (case c=>infer_instance); (case' h=>intro c q hq; apply c hq)) | ((apply ctg (P:=Tryz.prog) 2); (case c=>infer_instance); (case' h=>intro c q hq; apply c hq)) | ((apply ctg (P:=Tryz.prog) 3); (case c=>infer_instance); (case' h=>intro c q hq; apply c hq)) | ((apply ctg (P:=Tryz.prog) 9); (case c=>infer_instance); (case' h=>intro c q hq; apply c hq)))); (case hw=>exact wx); (case hn=>exact ntx); (first | ((case hs=>exact sxl); (case hsh=>exact sx); (case hok=>exact rfl); (case hst=>exact sggz)) | ((case hs=>exact sxf); (case hsh=>exact sx); (case hok=>exact rfl); (case hst=>exact sggz)) | ((case hs=>exact sxz); (case hsh=>exact sx); (case hok=>exact rfl); (case hst=>exact sggz))); (case hb=>exact sbx)) <;> (intro _ <;> try intro _))
  | ((with_reducible apply zhG); (case hx=>exact rfl); (case h0=>exact rfl); (case hr=>exact rfl); (case hr0=>exact rfl))
  | ((with_reducible apply zjO); (case hoz=>exact ozx); (case hg=>exact rfl); (case hj=>exact rfl); (case hv=>exact rfl); (case hn=>(fail_if_success (with_reducible exact .inl Ltb.t)); (fail_if_success (with_reducible exact .inl Ltb.f)); exact .inr trivial); (case hs=>exact sgx2); (case hF=>exact flx))
  | ((with_reducible apply do_y); (case hn=>exact nyx); (case h=>exact yr); (case hw=>exact wx); (case hd=>exact rfl))
  | ((with_reducible apply do_no); (case hz=>exact nzx); (case hj=>exact rfl); (case hv=>exact rfl); (case hn=>(first | exact Nb.t | exact Nb.f)); (case hb=>(first | with_reducible exact Isb.t | with_reducible exact Isb.f)); (case ht=>exact rfl); (case hd=>exact rfl))
  | ((with_reducible apply do_un); (case hz=>exact nzx); (case hj=>exact rfl); (case hv=>exact rfl); (case ht=>exact rfl); (case hd=>exact rfl))
  | ((with_reducible apply zmH); (case hoz=>exact ozx); (case hg=>exact rfl); (case hj=>exact rfl); (case hv=>exact rfl); (case hn=>(fail_if_success (with_reducible exact .inl Ltb.t)); (fail_if_success (with_reducible exact .inl Ltb.f)); exact .inr trivial); (case hs=>exact sgx2); (case hF=>exact flx))
  | ((with_reducible apply dma); (case hH=>exact nmx); (case hs=>exact subx); (case hg=>exact gwx); (case hl=>exact rfl))
  | ((with_reducible apply dm); (case hH=>exact nmx); (case hb=>exact sbx))
  | ((with_reducible apply dmb); (case hm=>(first | exact Mh.a | exact Mh.t)); (case hH=>exact nmx); (case hP=>exact pbx))
  | with_reducible apply ep_eq
  | ((with_reducible apply ep_ex); intro _)
  | with_reducible apply dt_z
  | ((with_reducible apply dt_f); (case hi=>exact nthx))
  | ((with_reducible apply dt_o); (case hi=>exact nthx))
  | ((with_reducible apply dt_b); (case hi=>exact nthx))
  | ((with_reducible apply zmU); (case hm=>exact nnx))
  | ((with_reducible apply zjU); intro _)
  | ((with_reducible apply do_pu); (case ho=>exact omx); (case h=>exact pux))
  | with_reducible apply zk8
  | with_reducible exact zjE
  | ((with_reducible apply zk7); intro _)
  | with_reducible apply dr_sr
  | with_reducible apply zfu
  | with_reducible apply dr_p
  | ((with_reducible apply dr_jb); (case hV=>exact vwx); (case hH=>exact hwx); (case' h2=>(intro _ _ _ _ _ _ _; dsimp only [NewB.c,NewB.r,List.cons_append,List.nil_append])); rotate_left; rotate_right; skip)
  | ((with_reducible apply zke); (case hV=>exact vwx); (case hH=>exact hwx); rotate_left; rotate_right; skip)
  | ((with_reducible apply dr_jy); (case hV=>exact vwx); (case hH=>exact hyx); rotate_left; rotate_right; skip)
  | with_reducible apply zn2
  | ((with_reducible apply dr_t); (case hc=>exact rfl); (case hb=>with_reducible exact Isb.t))
  | ((with_reducible apply dr_f); (case hc=>exact rfl); (case hb=>with_reducible exact Isb.f))
  | (((with_reducible apply zhO); (case hc=>exact rfl)) <;> intro _)
  | (((with_reducible apply zkb); (case hc=>exact rfl)) <;> intro _)
  | with_reducible apply zhL
  | ((with_reducible apply dr_l0); (case hV=>exact vwx); (case hH=>exact hwx); (case hT=>(first | exact tux | (dsimp only [Elt.w,Elt.o,EncT.v,Eltn.c]; exact tux))); (case hl=>exact vq))
  | ((with_reducible apply dr_l1); (case hV=>exact vwx); (case hH=>exact hwx); (case hT=>(first | exact tux | (dsimp only [Elt.w,Elt.o,EncT.v,Eltn.c]; exact tux))); (case hl=>exact vq))
  | ((with_reducible apply dr_l2); (case hV=>exact vwx); (case hH=>exact hwx); (case hT=>(first | exact tux | (dsimp only [Elt.w,Elt.o,EncT.v,Eltn.c]; exact tux))); (case hl=>exact vq))
  | ((with_reducible apply dr_l3); (case hV=>exact vwx); (case hH=>exact hwx); (case hT=>(first | exact tux | (dsimp only [Elt.w,Elt.o,EncT.v,Eltn.c]; exact tux))); (case hl=>exact vq))
  | ((with_reducible apply dr_l4); (case hV=>exact vwx); (case hH=>exact hwx); (case hT=>(first | exact tux | (dsimp only [Elt.w,Elt.o,EncT.v,Eltn.c]; exact tux))); (case hl=>exact vq))
  | ((with_reducible apply dr_l5); (case hV=>exact vwx); (case hH=>exact hwx); (case hT=>(first | exact tux | (dsimp only [Elt.w,Elt.o,EncT.v,Eltn.c]; exact tux))); (case hl=>exact vq))
  | ((with_reducible apply dr_l6); (case hV=>exact vwx); (case hH=>exact hwx); (case hT=>(first | exact tux | (dsimp only [Elt.w,Elt.o,EncT.v,Eltn.c]; exact tux))); (case hl=>exact vq))
  | ((with_reducible apply dr_l7); (case hV=>exact vwx); (case hH=>exact hwx); (case hT=>(first | exact tux | (dsimp only [Elt.w,Elt.o,EncT.v,Eltn.c]; exact tux))); (case hl=>exact vq))
  | ((with_reducible apply zkd); (case hk=>exact rfl))
  | with_reducible apply zn1
  | with_reducible apply zki
  | with_reducible apply zhQ
  | ((with_reducible apply zka); (case hm=>kernel_rfl); (case hnd=>exact rfl); (case hbl=>exact rfl); (case hn=>exact rfl); (case ho=>kernel_rfl); (case hE=>exact emx))
  | ((with_reducible apply zmZ); (case hm=>kernel_rfl); (case hnd=>exact rfl); (case hbl=>exact rfl); (case hp=>exact pkx); (case hn=>exact rfl); (case ho=>kernel_rfl); (case hE=>exact emx))
  | ((with_reducible apply zhM); (case hb=>exact rfl); (case' h=>intro _ _))
  | ((with_reducible apply zhN); (case hb=>exact rfl); (case' h=>intro _ _))
  | ((with_reducible apply zkc); (case hB=>kernel_rfl); (case hm=>kernel_rfl); (case hnd=>exact rfl))
  | with_reducible apply zhP
  | with_reducible apply zn0
  | ((with_reducible apply zkg); intro _)
  | ((with_reducible apply zjG); (case hc=>with_reducible assumption))
  | with_reducible apply zjH
  | with_reducible apply zmC
  | with_reducible apply zhz
  | ((with_reducible apply zjJ); (case hs=>with_reducible assumption))
  | ((with_reducible apply dg_gb); (case hb=>with_reducible assumption); (case hT=>(first | exact tux | (dsimp only [NewB.c,NewB.r,List.cons_append,List.nil_append]; exact tux))); (case hl=>exact vq))
  | ((with_reducible apply dg_g0); (case hb=>with_reducible assumption); (case hT=>(first | exact tux | (dsimp only [Elt.w,Elt.o,EncT.v,Eltn.c]; exact tux))); (case hl=>exact vq))
  | ((with_reducible apply dg_g1); (case hb=>with_reducible assumption); (case hT=>(first | exact tux | (dsimp only [Elt.w,Elt.o,EncT.v,Eltn.c]; exact tux))); (case hl=>exact vq))
  | ((with_reducible apply dg_g2); (case hb=>with_reducible assumption); (case hT=>(first | exact tux | (dsimp only [Elt.w,Elt.o,EncT.v,Eltn.c]; exact tux))); (case hl=>exact vq))
  | ((with_reducible apply dg_g3); (case hb=>with_reducible assumption); (case hT=>(first | exact tux | (dsimp only [Elt.w,Elt.o,EncT.v,Eltn.c]; exact tux))); (case hl=>exact vq))
  | ((with_reducible apply dg_g4); (case hb=>with_reducible assumption); (case hT=>(first | exact tux | (dsimp only [Elt.w,Elt.o,EncT.v,Eltn.c]; exact tux))); (case hl=>exact vq))
  | ((with_reducible apply dg_g5); (case hb=>with_reducible assumption); (case hT=>(first | exact tux | (dsimp only [Elt.w,Elt.o,EncT.v,Eltn.c]; exact tux))); (case hl=>exact vq))
  | ((with_reducible apply dg_g6); (case hb=>with_reducible assumption); (case hT=>(first | exact tux | (dsimp only [Elt.w,Elt.o,EncT.v,Eltn.c]; exact tux))); (case hl=>exact vq))
  | ((with_reducible apply dg_g7); (case hb=>with_reducible assumption); (case hT=>(first | exact tux | (dsimp only [Elt.w,Elt.o,EncT.v,Eltn.c]; exact tux))); (case hl=>exact vq))
  | ((with_reducible apply zmD); (case hB=>exact fun _ _ h=>h))
  | ((with_reducible apply zjF); (case hs=>with_reducible assumption))
  | ((apply zmB (P:=Tryz.prog)); (case c=>infer_instance); (case hc=>intro c; apply c))
  | ((apply zmY (P:=Tryz.prog)); (case c=>infer_instance); (case hc=>(intro c; apply c <;> (first | exact atz | exact stx | exact rfl | assumption))))
  | ((apply zmA); (case hr=>assumption); (case hv=>exact rzx); rintro rfl; exact fpx)
  | ((apply zjB); (case hr=>assumption); (case hv=>exact rzx); rintro rfl; exact fpx)
  | ((apply zjC); (case hr=>assumption); (case hv=>exact rzx); rintro rfl; exact fpx)
  | ((with_reducible apply zjD); intro _)
  | ((with_reducible apply zk9); (case hs=>with_reducible assumption))
  | ((apply zmX); rintro rfl; exact ⟨_,rfl,rfl⟩)
  | ((apply zk6); rintro rfl; exact fpx)
  | ((with_reducible apply bpx); infer_instance)
  | with_reducible apply zjo
  | with_reducible apply zjp
  | ((with_reducible apply zml); intro _)
  | ((with_reducible apply dn); (case hV=>exact nvx); (case hH=>exact ndx))
  | ((with_reducible apply dq); (case hV=>exact nvx); (case hH=>exact ndx))
  | ((with_reducible apply dr_ly); (case hV=>exact vwx); (case hH=>exact hyx); (case hT=>(first | exact tux | (dsimp only [Elt.w,Elt.o,EncT.v,Eltn.c]; exact tux))); (case hl=>exact vq))
  | ((with_reducible apply dr_rf); (case hg=>exact rfl); (case hH=>exact hyx); (case' hit=>intro l A hy r hr; (first | ((apply cit (P:=Tryz.prog) 0); (case c=>infer_instance); (case' h=>intro c; apply c hr hy)) | ((apply cit (P:=Tryz.prog) 9); (case c=>infer_instance); (case' h=>intro c; apply c hr hy)))); (case hF=>(intro _ _; (repeat (first | exact zdR | (apply zi7; (first | exact z47 | exact z5u)))))); (case hcall=>first | ((apply cic (P:=Tryz.prog) 0); infer_instance) | ((apply cic (P:=Tryz.prog) 9); infer_instance)); (case hE=>first | exact ein_n rfl | (apply ein_s rfl; assumption)); (case hnd=>first | exact fun _=>rfl | exact fun h=>nomatch h); (case hpn=>exact rfl); (case hp1=>first | exact spx | (dsimp only [Elt.w,Elt.o,EncT.v,Eltn.c]; exact spx)); (case hp2=>exact rfl); (case hn=>decide); (case hN=>exact nmx); (case hsx=>exact sxl); (case hsh=>exact sx); (case hok=>exact rfl); (case hst=>exact rfl))
  | exact ()
  | intro _
  | ((with_reducible apply zmK); (case hn=>exact nyx); (case hx=>exact rfl); (case hm=>exact atz); (case hy=>exact rfl); (case hi=>exact rfl); (case hq=>exact rfl); (case hu=>exact fu); (case hz=>exact fz); (case hw=>exact wx); (case hd=>exact rfl))
  | ((with_reducible apply zmP); (case hn=>exact nyx); (case hx=>exact rfl); (case hm=>exact atz); (case hc=>exact rfl); (case ha=>exact fa); (case hz=>exact fz); (case hw=>exact wx); (case hd=>exact rfl))
  | ((with_reducible apply zjR); (case hn2=>exact ntx); (case hu=>exact fu); (case hz=>exact fz); (case h0=>exact fv); (case hp=>exact pzx); (case hD=>exact lvx); (case hn=>exact rfl); (case hb=>exact rfl); (case hw=>exact wx); (case hd=>exact rfl); intro _)
  | ((with_reducible apply zhA))
  | ((with_reducible apply zhR))
  | ((with_reducible apply dr_tk); (case hc=>exact rfl); (case hb=>decide))
  | ((with_reducible apply dr_fk); (case hc=>exact rfl); (case hb=>decide)))):Q:=h
theorem kax {av:List Value} {ts:List Nat} {L:List (Nat×Value)} (h:Kp (VF.args av 0) ts L:=by first | exact (.s (t:=0) rfl (.s (t:=1) rfl (.s (t:=2) rfl (.s (t:=3) rfl (.s (t:=4) rfl (.s (t:=5) rfl (.s (t:=6) rfl (.s (t:=7) rfl (.s (t:=8) rfl .z))))))))) | exact (.s (t:=0) rfl (.s (t:=1) rfl (.s (t:=2) rfl (.s (t:=3) rfl (.s (t:=4) rfl (.s (t:=5) rfl (.s (t:=6) rfl (.s (t:=7) rfl .z)))))))) | exact (.s (t:=0) rfl (.s (t:=1) rfl (.s (t:=2) rfl (.s (t:=3) rfl (.s (t:=4) rfl (.s (t:=5) rfl (.s (t:=6) rfl .z))))))) | exact (.s (t:=0) rfl (.s (t:=1) rfl (.s (t:=2) rfl (.s (t:=3) rfl (.s (t:=4) rfl (.s (t:=5) rfl .z)))))) | exact (.s (t:=0) rfl (.s (t:=1) rfl (.s (t:=2) rfl (.s (t:=3) rfl (.s (t:=4) rfl .z))))) | exact (.s (t:=0) rfl (.s (t:=1) rfl (.s (t:=2) rfl (.s (t:=3) rfl .z)))) | exact (.s (t:=0) rfl (.s (t:=1) rfl (.s (t:=2) rfl .z))) | exact (.s (t:=0) rfl (.s (t:=1) rfl .z)) | exact (.s (t:=0) rfl .z) | exact .z):Kp (VF.args av 0) ts L:=h
theorem dfn {f:FuncId} {fn:Func} {c:Code} {args:List Value} {H:List HA} {post:Post} {n:Nat} {R:Type} {X:Option R} {r:R} {rs:List ResultVar} {L:List (Nat×Value)} {ts:List Nat} (g:Hn) (hf:Tryz.prog.funcs[f]? = some fn) (hm:fn.ntmps=n) (hr:fn.results=rs.toArray) (hX:X=some r) (hb:fn.body=some c:=by exact rfl) (hn:Nat.ble args.length n=true:=by exact rfl) (hL:Kp (VF.args args 0) ts L:=by exact kax)
  (h:∀ w0 o0,fn.results=rs.toArray→DR c X g r (EnvF Tryz.prog n w0 o0 fn post) [] L H:=by intro _ _ _; exact go):Meets Tryz.prog f args H post:=
 z9l hf hb hm hn fun w0 o0=>z6Q L (List.range H.length) H hL.all List.nodup_range (z7N H) ((h w0 o0 hr).out hX)
theorem dfp {f:FuncId} {fn:Func} {c:Code} {args:List Value} {H:List HA} {post:Post} {pan:Value→Prop} {n:Nat} {R:Type} {X:Option R} {r:R} {rs:List ResultVar} {L:List (Nat×Value)} {ts:List Nat} (g:Hn) (hf:Tryz.prog.funcs[f]? = some fn) (hm:fn.ntmps=n) (hr:fn.results=rs.toArray) (hX:X=some r) (hb:fn.body=some c:=by exact rfl) (hn:Nat.ble args.length n=true:=by exact rfl) (hL:Kp (VF.args args 0) ts L:=by exact kax)
  (h:∀ w0 o0,fn.results=rs.toArray→DR c X g r (EnvP Tryz.prog n w0 o0 fn post pan) [] L H:=by intro _ _ _; exact go):z60 Tryz.prog f args H post pan:=
 zb8 hf hb hm hn fun w0 o0=>z6Q L (List.range H.length) H hL.all List.nodup_range (z7N H) ((h w0 o0 hr).out hX)
theorem dfg {f:FuncId} {fn:Func} {c:Code} {args:List Value} {H:List HA} {post:Post} {pan:Value→List HA→Prop} {n:Nat} {R:Type} {X:Option R} {r:R} {rs:List ResultVar} {L:List (Nat×Value)} {ts:List Nat} (g:Hn) (hf:Tryz.prog.funcs[f]? = some fn) (hm:fn.ntmps=n) (hr:fn.results=rs.toArray) (hX:X=some r) (hb:fn.body=some c:=by exact rfl) (hn:Nat.ble args.length n=true:=by exact rfl) (hL:Kp (VF.args args 0) ts L:=by exact kax)
  (h:∀ w0 o0,fn.results=rs.toArray→DR c X g r (EnvG Tryz.prog n w0 o0 fn post pan) [] L H:=by intro _ _ _; exact go):z9d Tryz.prog f args H post pan:=
 zdM hf hb hm hn fun w0 o0=>z6Q L (List.range H.length) H hL.all List.nodup_range (z7N H) ((h w0 o0 hr).out hX)
theorem dfq {f:FuncId} {fn:Func} {c:Code} {args:List Value} {H:List HA} {post:Post} {n:Nat} {R:Type} {X:Option R} {r:R} {rs:List ResultVar} {L:List (Nat×Value)} {ts:List Nat} (g:Hn) (hf:Tryz.prog.funcs[f]? = some fn) (hm:fn.ntmps=n) (hr:fn.results=rs.toArray) (hX:X=some r) (hb:fn.body=some c:=by exact rfl) (hn:Nat.ble args.length n=true:=by exact rfl) (hL:Kp (VF.args args 0) ts L:=by exact kax)
  (h:∀ w0 o0,fn.results=rs.toArray→DR c X g r (EnvQ Tryz.prog n w0 o0 fn post) [] L H:=by intro _ _ _; exact go):Meets Tryz.prog f args H post:=
 zdN hf hb hm hn fun w0 o0=>z6Q L (List.range H.length) H hL.all List.nodup_range (z7N H) ((h w0 o0 hr).out hX)
end Go.Proofs.YtgjcniomhahgkaaGreatDoor
