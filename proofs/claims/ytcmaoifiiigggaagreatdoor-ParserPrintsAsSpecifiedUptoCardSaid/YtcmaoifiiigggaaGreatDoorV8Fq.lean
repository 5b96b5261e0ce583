/-
  Functions of the program, lifted: part 17.
-/
import Derived.Test.YtcmaoifiiigggaaGreatDoorV8Fp
set_option linter.unusedSimpArgs false
set_option linter.unusedVariables false
namespace Go.Proofs.YtcmaoifiiigggaaGreatDoor
open Go.Abs Tryz
set_option maxRecDepth 20000
set_option maxHeartbeats 4000000
def z1X (n:Nat):Option (Bool):=
 obind (z39 n [112,111,108,105,99,121,32,97,99,109,101,32,123,32,114,117,108,101,32,114,32,123,32,112,97,116,116,101,114,110,32,34,97,99,109,101,47,42,42,34,59,32,102,114,101,115,104,32,53,32,109,105,110,59,32,115,105,103,110,101,100,59,32,125,32,125]) fun r1=>
 obind (z39 n [112,114,111,103,114,97,109,32,112,32,101,102,102,101,99,116,115,32,114,101,97,100,115,44,32,108,111,103,32,123,32,105,102,32,104,101,97,100,101,114,32,34,120,34,32,61,61,32,34,49,34,32,123,32,108,111,103,32,49,32,43,32,50,32,42,32,51,59,32,125,32,101,108,115,101,32,105,102,32,116,114,117,101,32,123,32,125,32,125]) fun r9=>
 bindJ (S:=Bool)
  (cond ((decide (r1.2.E ≠ 0) || decide (r9.2.E ≠ 0)) || decide ((r1.1.Policies.length : Int) ≠ 1))
   (some (.go true))
   (idx r1.1.Policies 0 fun x29=>
   some (.go (decide ((x29.Rules.length:Int)≠1)))))
 (fun b23 =>
  bindJ (S:=Bool)
   (cond b23
    (some (.go true))
    (idx r1.1.Policies 0 fun x37=>
    idx x37.Rules 0 fun x39=>
    some (.go (decide ((x39.Clauses.length:Int)≠3)))))
  (fun b31 =>
   bindJ (S:=Bool)
    (cond (b31 || decide ((r9.1.Programs.length : Int) ≠ 1))
     (some (.go true))
     (idx r9.1.Programs 0 fun x50=>
     some (.go (decide ((x50.Code.length:Int)≠1)))))
   (fun b44 =>
    cond b44
     (some false)
     (idx r1.1.Policies 0 fun x54=>
     idx x54.Rules 0 fun x56=>
     idx r9.1.Programs 0 fun x58=>
     idx x58.Code 0 fun x61=>
     idx x56.Clauses 1 fun x69=>
     bindJ (S:=Bool)
      (cond (decide (x69.Kind = 3) && (decide (x69.Amount.Number = [53]) && (decide (x69.Amount.Unit = [109, 105, 110]) && (decide (x69.Amount.At = 48)))))
       (idx x56.Clauses 2 fun x81=>
       some (.go (decide (x81.Kind=10))))
       (some (.go false)))
     (fun b75 =>
      bindJ (S:=Bool)
       (cond ((decide (x61.Kind = 5) && decide (x61.X.Op = 19)) && decide ((x61.Else.length : Int) = 1))
        (idx x61.Else 0 fun x96=>
        some (.go (decide (x96.Kind=5))))
        (some (.go false)))
      (fun b90 =>
       obind (zbD [50]) fun r103=>
       obind (zbD [51]) fun r106=>
       obind (zbD [49]) fun r115=>
       obind (z5C n (zi.mk 10 0 [] ([r115,(zi.mk 12 0 [] ([r103,r106]:List zi))]:List zi))) fun r122=>
       obind (zaz n [112,111,108,105,99,121,32,97,99,109,101,32,123,32,114,117,108,101,32,114,32,123,32,102,114,101,115,104,59,32,125,32,125] 28 180) fun r124=>
       bindJ (S:=Bool)
        (cond r124
         (obind (zaz n [112,114,111,103,114,97,109,32,112,32,123,32,108,101,116,32,120,32,61,32,49,32,125] 22 180) fun r132=>
         some (.go r132))
         (some (.go false)))
       (fun b126 =>
        bindJ (S:=Bool)
         (cond b126
          (obind (zaz n [112,114,111,103,114,97,109,32,112,32,123,32,100,101,110,121,32,49,32,60,32,50,32,60,32,51,59,32,125] 23 180) fun r140=>
          some (.go r140))
          (some (.go false)))
        (fun b134 =>
         some ((((b75 && (b90 && decide ((x61.Body.length:Int)=1))) && b134) && decide (r122.2=0)) && decide (r122.1=[49,32,43,32,40,32,50,32,42,32,51,32,41]))))))))))
theorem z1P {n:Nat} {r:Bool} (h:z1X n=some r) :
  Meets Tryz.prog 11 [] [globA] (fun v G=>v = .bool r∧G=[]):=by
 refine zN func11 rfl ntmps11 rfl (fun w0 o0=>?_)
 refine yn 3 ?_
 refine cl2 [(0,0)] call12 (fun h=>z3m h) h (fun r1 v3 v4 h=>?_)
 refine ys ?_
 refine al fun b5=>?_
 refine al fun b6=>?_
 refine ys ?_
 refine zc (rj [1,2] [0,1,2,3,4] ?_)
 refine z8 (cl2 [(0,0)] call12 (fun h=>z3m h) h (fun r9 v11 v12 h=>?_))
 refine ys ?_
 refine al fun b13=>?_
 refine al fun b14=>?_
 refine yn 2 ?_
 refine zH (rj [1,2,3,4] [0,1,2,3,4,5,6,7,8] ?_)
 refine yn 2 ?_
 refine oq 4 24 28 [1,3] [0,1,2,3,5,6,7] (decide (r1.2.E≠0) || decide (r9.2.E≠0)) ?_
 refine ys ?_
 refine oq 5 29 34 [1,3] [0,1,2,3,4,5,6] ((decide (r1.2.E≠0) || decide (r9.2.E≠0)) || decide ((r1.1.Policies.length:Int)≠1)) ?_
 refine ys ?_
 refine ob h 8 [1,3] [1,2,3,4,5,6,7] (fun s=>[(43,.bool s)]) (fun s=>[]) (fun _ h _ _ je=>?_) ?_
 ·refine z1c 35 ((decide (r1.2.E≠0) || decide (r9.2.E≠0)) || decide ((r1.1.Policies.length:Int)≠1)) rfl (fun j8=>?_) (fun j8=>?_)
  ·replace h:=z2F h j8
   refine yn 2 ?_
   exact gb je [0,1,2,3,4,5,6] h
  ·replace h:=z2E h j8
   refine ys ?_
   obtain ⟨x29,jx,jy,jf,h⟩:=zP h
   refine ys ?_
   refine z4a (exAt (C:=zz) (i:=(0:Int).toNat) 1 rfl jf) ?_
   rintro (g30:Value)
   refine yn 2 ?_
   exact gb je [0,1,2,3,4,5,6] h
 rintro b23 h
 refine os ?_
 refine ys ?_
 refine ob h 11 [1,3] [1,2,3,4,5,6,7] (fun s=>[(55,.bool s)]) (fun s=>[]) (fun _ h _ _ jg=>?_) ?_
 ·refine z1c 44 b23 rfl (fun j9=>?_) (fun j9=>?_)
  ·replace h:=z2F h j9
   refine yn 2 ?_
   exact gb jg [0,1,2,3,4,5,6] h
  ·replace h:=z2E h j9
   refine ys ?_
   obtain ⟨x37,jz,jA,jh,h⟩:=zP h
   refine ys ?_
   refine z4a (exAt (C:=zz) (i:=(0:Int).toNat) 1 rfl jh) ?_
   rintro (g38:Value)
   refine ys ?_
   obtain ⟨x39,jB,jC,ji,h⟩:=zP h
   refine ys ?_
   refine z4a (exAt (C:=zY) (i:=(0:Int).toNat) 8 rfl ji) ?_
   rintro (g40:Value)
   refine yn 2 ?_
   exact gb jg [0,1,2,3,4,5,6] h
 rintro b31 h
 refine os ?_
 refine ys ?_
 refine oq 5 56 61 [1,3] [0,1,2,3,4,5,6] (b31 || decide ((r9.1.Programs.length:Int)≠1)) ?_
 refine ys ?_
 refine ob h 8 [1,3] [1,2,3,4,5,6,7] (fun s=>[(70,.bool s)]) (fun s=>[]) (fun _ h _ _ jj=>?_) ?_
 ·refine z1c 62 (b31 || decide ((r9.1.Programs.length:Int)≠1)) rfl (fun ja=>?_) (fun ja=>?_)
  ·replace h:=z2F h ja
   refine yn 2 ?_
   exact gb jj [0,1,2,3,4,5,6] h
  ·replace h:=z2E h ja
   refine ys ?_
   obtain ⟨x50,jD,jE,jk,h⟩:=zP h
   refine ys ?_
   refine z4a (exAt (C:=zw) (i:=(0:Int).toNat) 5 rfl jk) ?_
   rintro ⟨g51,g52⟩
   refine yn 2 ?_
   exact gb jj [0,1,2,3,4,5,6] h
 rintro b44 h
 refine os ?_
 refine yc 1 h (fun _ h=>?_) fun _ h=>?_
 ·refine yn 4 ?_
  exact fs [0] [] results11 h
 ·refine yn 2 ?_
  refine rf [1,1,1,1,1,1,1] fun hS=>?_
  refine aq [0,1] ?_
  obtain ⟨x54,jF,jG,jl,h⟩:=zP h
  refine aq [2] ?_
  refine z9T (exAt (C:=zz) (i:=(0:Int).toNat) 1 rfl jl) ?_
  rintro (g55:Value)
  refine ag [1,1,1,1,1,1,1,1] ?_
  refine ag [1,1,1,1,1,1,1,1,1] ?_
  refine aq [3,4] ?_
  obtain ⟨x56,jH,jI,jm,h⟩:=zP h
  refine aq [5] ?_
  refine z9T (exAt (C:=zY) (i:=(0:Int).toNat) 8 rfl jm) ?_
  rintro (g57:Value)
  refine ag [1,1,1,1,1,1,1,1,1,1] ?_
  refine ag [1,1,1,1,1,1,1,1,1,1,1] ?_
  refine aq [6,7,8,9] ?_
  obtain ⟨x58,jJ,jK,jo,h⟩:=zP h
  refine aq [10] ?_
  refine z9T (exAt (C:=zw) (i:=(0:Int).toNat) 5 rfl jo) ?_
  rintro ⟨g59,g60⟩
  refine ag [1,1,1,1,1,1,1,1,1,1,1,1] ?_
  refine ag [1,1,1,1,1,1,1,1,1,1,1,1,1] ?_
  refine ag [1,1,1,1,1,1,1,1,1,1,1,1,1,1] ?_
  refine aq [11,12] ?_
  obtain ⟨x61,jL,jM,jp,h⟩:=zP h
  refine aq [13] ?_
  refine z9T (exAtT (T:=z1S) (i:=(0:Int).toNat) 13 rfl jp) ?_
  rintro ⟨g62,g63,g64⟩
  refine ag [1,1,1,1,1,1,1,1,1,1,1,1,1,1,1] ?_
  refine ag [1,1,1,1,1,1,1,1,1,1,1,1,1,1,1,1] ?_
  refine ag [1,1,1,1,1,1,1,1,1,1,1,1,1,1,1,1,1] ?_
  refine ag [1,1,1,1,1,1,1,1,1,1,1,1,1,1,1,1,1,1] ?_
  refine aq [14] ?_
  refine ao 15 ?_
  refine at' rfl (zaL zeroValue84) ?_
  rintro _ _ ⟨b65,rfl,rfl⟩
  refine sb ?_
  refine aq [16] ?_
  refine ast 17 ?_
  refine z1K (by kernel_rfl) ?_
  refine zg (rj [6,5] [0,10,15,16,17,18] ?_)
  refine yn 2 ?_
  obtain ⟨x69,jN,jO,jq,h⟩:=zP h
  refine ys ?_
  refine z4a (exAtT (T:=z1W) (i:=(1:Int).toNat) 1 rfl jq) ?_
  rintro ⟨g70,g71⟩
  refine ys ?_
  refine oe 7 [6,5] [1,2,3,4,5,6] (fun s=>[(98,.bool s)]) (decide (x69.Kind=3) && (decide (x69.Amount.Number=[53]) && (decide (x69.Amount.Unit=[109,105,110]) && (decide (x69.Amount.At=48))))) (fun _ js=>?_) ?_
  ·refine z1c 91 (decide (x69.Kind=3)) rfl (fun jb=>?_) (fun jb=>?_)
   ·skip
    refine ys ?_
    refine zq (y_eqS (by kernel_rfl) (by kernel_rfl) runUnderlying86 rfl rfl (.cons (zgk (by decide) runUnderlying9 isAgg9 rfl rfl) (.cons (zgk (by decide) runUnderlying9 isAgg9 rfl rfl) (.cons (z7k (by decide) runUnderlying3 isAgg3 rfl rfl) EqFs.nil)))) ?_
    refine yn 2 ?_
    exact gc js (decide (x69.Amount.Number=[53]) && (decide (x69.Amount.Unit=[109,105,110]) && (decide (x69.Amount.At=48)))) [0,1,2,3,4,5] (hi:=by rw [jb]; simp)
   ·skip
    refine yn 2 ?_
    exact gc js false [0,1,2,3,4,5] (hi:=by rw [jb]; simp)
  refine os ?_
  refine ys ?_
  refine ob h 6 [6] [1,3,4,5,6] (fun s=>[(105,.bool s)]) (fun s=>[]) (fun _ h _ _ jt=>?_) ?_
  ·refine z1c 99 (decide (x69.Kind=3) && (decide (x69.Amount.Number=[53]) && (decide (x69.Amount.Unit=[109,105,110]) && (decide (x69.Amount.At=48))))) rfl (fun jc=>?_) (fun jc=>?_)
   ·replace h:=z2F h jc
    refine ys ?_
    obtain ⟨x81,jP,jQ,ju,h⟩:=zP h
    refine ys ?_
    refine z4a (exAtT (T:=z1W) (i:=(2:Int).toNat) 1 rfl ju) ?_
    rintro ⟨g82,g83⟩
    refine yn 2 ?_
    exact gb jt [0,2,3,4,5] h
   ·replace h:=z2E h jc
    refine yn 2 ?_
    exact gb jt [0,2,3,4,5] h
  rintro b75 h
  refine os ?_
  refine yn 3 ?_
  refine oq 5 109 114 [6,7] [0,1,2,3,4] (decide (x61.Kind=5) && decide (x61.X.Op=19)) ?_
  refine ys ?_
  refine oq 5 115 120 [6,7] [0,1,2,3,4] ((decide (x61.Kind=5) && decide (x61.X.Op=19)) && decide ((x61.Else.length:Int)=1)) ?_
  refine ys ?_
  refine ob h 7 [6,7] [1,2,3,4,5] (fun s=>[(128,.bool s)]) (fun s=>[]) (fun _ h _ _ jv=>?_) ?_
  ·refine z1c 121 ((decide (x61.Kind=5) && decide (x61.X.Op=19)) && decide ((x61.Else.length:Int)=1)) rfl (fun jd=>?_) (fun jd=>?_)
   ·replace h:=z2F h jd
    refine ys ?_
    obtain ⟨x96,jR,jS,jw,h⟩:=zP h
    refine ys ?_
    refine z4a (exAtT (T:=z1S) (i:=(0:Int).toNat) 3 rfl jw) ?_
    rintro ⟨g97,g98,g99⟩
    refine yn 2 ?_
    exact gb jv [0,1,2,3,4] h
   ·replace h:=z2E h jd
    refine yn 2 ?_
    exact gb jv [0,1,2,3,4] h
  rintro b90 h
  refine os ?_
  refine ys ?_
  refine oq 5 129 134 [7] [0] (b90 && decide ((x61.Body.length:Int)=1)) ?_
  refine yn 2 ?_
  refine cl1 [] call30 (fun h=>zaU h) h (fun r103 v105 h=>?_)
  refine cl1 [] call30 (fun h=>zaU h) h (fun r106 v108 h=>?_)
  refine zB (z24 1 rfl) ?_
  refine zB (z24 2 rfl) ?_
  refine z2V 1 rfl z1j (fun j2 hs110o=>?_)
  refine z2V 2 rfl z1j (fun j3 hs111o=>?_)
  refine zt (t_lit [.agg #[.int .i64 r103.Op,.int .i64 r103.At,.string (bs r103.S),v105],.agg #[.int .i64 r106.Op,.int .i64 r106.At,.string (bs r106.S),v108]] runUnderlying45 sizeOf47 zeroValue47 rfl (by decide) (by decide) rfl (by intro q hq; simp only [y1,y0,or_false] at hq; rcases hq with rfl | rfl <;> first | rfl | (rw [j2]; rfl) | (rw [j3]; rfl))) ?_
  rintro v109 _ ⟨rfl,_⟩
  refine zB (z1p (C:=zj) (l:=([r103,r106]:List zi)) 3 [(r103,v105),(r106,v108)] rfl (by simp only [yI,List.map_nil,j2,j3]; rfl) rfl (z1o (z2P (T:=z1b) (z1t 1 rfl z2u)) (z1o (z2P (T:=z1b) (z1t 2 rfl z2u)) z1x))) ?_
  refine ys ?_
  refine al fun b113=>?_
  refine yn 2 ?_
  refine rf [1,1,1,0,1] fun hS=>?_
  refine aq [1] ?_
  refine al1 0 [] call30 (fun h=>zaU h) h (fun r115 v117 h=>?_)
  refine ao 2 ?_
  refine z3n (z24 5 rfl) ?_
  refine z3n (z24 3 rfl) ?_
  refine z1J 3 rfl z1j (fun j4 hs119o=>?_)
  refine z1J 5 rfl z1j (fun j5 hs120o=>?_)
  refine at' rfl (t_lit [.agg #[.int .i64 r115.Op,.int .i64 r115.At,.string (bs r115.S),v117],.agg #[.int .i64 12,.int .i64 0,.string (bs []),v109]] runUnderlying45 sizeOf47 zeroValue47 rfl (by decide) (by decide) rfl (by intro q hq; simp only [y1,y0,or_false] at hq; rcases hq with rfl | rfl <;> first | rfl | (rw [j4]; rfl) | (rw [j5]; rfl))) ?_
  rintro v118 _ ⟨rfl,_⟩
  refine sb ?_
  refine z1B (z1p (C:=zj) (l:=([r115,(zi.mk 12 0 [] ([r103,r106]:List zi))]:List zi)) 6 [(r115,v117),((zi.mk 12 0 [] ([r103,r106]:List zi)),v109)] rfl (by simp only [yI,List.map_nil,j4,j5]; rfl) rfl (z1o (z2P (T:=z1b) (z1t 5 rfl z2u)) (z1o (z2P (T:=z1b) (z1t 3 rfl z2u)) z1x))) ?_
  refine ao 3 ?_
  refine ty ?_
  refine al0 4 [(6,1),(0,0)] call20 (fun h=>z8r h) h (fun r122 h=>?_)
  refine aq [5,6,7,8,9] ?_
  refine z1K (by kernel_rfl) ?_
  refine zg (rj [7,8,10,11] [0] ?_)
  refine z8 (cl0 [(0,0)] call31 (fun h=>z9Z h) h (fun r124 h=>?_))
  refine ys ?_
  refine ob h 2 [7,8,10,11] [1] (fun s=>[(150,.bool s)]) (fun s=>[]) (fun _ h _ _ j6=>?_) ?_
  ·refine z1c 148 r124 rfl (fun j0=>?_) (fun j0=>?_)
   ·replace h:=z2F h j0
    refine cl0 [(0,0)] call31 (fun h=>z9Z h) h (fun r132 h=>?_)
    refine yn 2 ?_
    exact gb j6 [0] h
   ·replace h:=z2E h j0
    refine yn 2 ?_
    exact gb j6 [0] h
  rintro b126 h
  refine os ?_
  refine ys ?_
  refine ob h 2 [7,8,10,11] [1] (fun s=>[(153,.bool s)]) (fun s=>[]) (fun _ h _ _ j7=>?_) ?_
  ·refine z1c 151 b126 rfl (fun j1=>?_) (fun j1=>?_)
   ·replace h:=z2F h j1
    refine cl0 [(0,0)] call31 (fun h=>z9Z h) h (fun r140 h=>?_)
    refine yn 2 ?_
    exact gb j7 [0] h
   ·replace h:=z2E h j1
    refine yn 2 ?_
    exact gb j7 [0] h
  rintro b134 h
  refine os ?_
  refine yn 3 ?_
  refine oq 2 155 157 [10,11,12] [0] (b75 && (b90 && decide ((x61.Body.length:Int)=1))) ?_
  refine ys ?_
  refine oq 2 158 160 [10,11] [0] ((b75 && (b90 && decide ((x61.Body.length:Int)=1))) && b134) ?_
  refine ys ?_
  refine oq 3 161 164 [10] [0] (((b75 && (b90 && decide ((x61.Body.length:Int)=1))) && b134) && decide (r122.2=0)) ?_
  refine ys ?_
  refine oq 3 165 168 [] [0] ((((b75 && (b90 && decide ((x61.Body.length:Int)=1))) && b134) && decide (r122.2=0)) && decide (r122.1=[49,32,43,32,40,32,50,32,42,32,51,32,41])) ?_
  refine yn 3 ?_
  exact fs [0] [] results11 h
end Go.Proofs.YtcmaoifiiigggaaGreatDoor
