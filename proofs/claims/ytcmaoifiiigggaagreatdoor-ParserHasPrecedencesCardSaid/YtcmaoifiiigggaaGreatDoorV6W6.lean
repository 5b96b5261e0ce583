/-
  The law ParserHasPrecedences, lifted.
-/
import Derived.Test.YtcmaoifiiigggaaGreatDoorFq
import Derived.Test.YtcmaoifiiigggaaGreatDoorV6G5a
import Derived.Test.YtcmaoifiiigggaaGreatDoorV6G6a
set_option linter.unusedSimpArgs false
set_option linter.unusedVariables false
namespace Go.Proofs.YtcmaoifiiigggaaGreatDoor
open Go.Abs
set_option maxRecDepth 20000
set_option maxHeartbeats 4000000
def z3o (l_0:(List UInt8)):((List UInt8)×Int)→Option (Lp ((List UInt8)×Int) (Lp ((List UInt8)) (Bool))):=
 fun (text_10,s_11)=>
  cond (decide (s_11<(l_0.length:Int)))
   (idx l_0 s_11 fun x17=>
   idx ([22,21,10,11,12,13,14]:List Int) (((x17).toNat:Int).tmod 7) fun x18=>
   obind (zcr x18) fun r19=>
   need ([32].length+r19.1.length≤4294967296) (
   need (([32]++r19.1).length+[32].length≤4294967296) (
   idx ([[97],[98],[99]]:List (List UInt8)) (s_11.tmod 3) fun x24=>
   need ((([32]++r19.1)++[32]).length+x24.length≤4294967296) (
   need (text_10.length+((([32]++r19.1)++[32])++x24).length≤4294967296) (
   some (.go ((text_10++((([32]++r19.1)++[32])++x24)),(IntKind.i64.wrap (s_11+1)))))))))
   (some (.stop (.go text_10)))
def z5r (n:Nat) (l_0:(List UInt8)):Option (Bool):=
 cond (decide (40<(l_0.length:Int)))
  (obind (z1X n) fun r2=>
  some r2)
  (bindJ (S := (List UInt8))
   (iter (z3o l_0) n ([97],0))
  (fun text_5 =>
   obind (z8Z n text_5) fun r27=>
   obind (zcq n r27.1) fun r33=>
   obind (z1X n) fun r35=>
   some (((r35 && (decide (r27.2.At=0) && (decide (r27.2.E=0)))) && r33.2) && decide (r33.1=text_5))))
theorem z9J (n:Nat) (l_0:(List UInt8)) (l_0v:Value) {r:Bool} (h:z5r n l_0=some r) :
  Meets Tryz.prog 6 [l_0v] [ro l_0v 1 (l_0.map eB8),globA] (fun v G=>v = .bool r∧G=[]):=by
 refine zN Tryz.func6 rfl Tryz.ntmps6 rfl (fun w0 o0=>?_)
 refine zh ?_
 refine ys ?_
 refine zc ?_
 refine zh ?_
 refine ys ?_
 refine zd ?_
 refine rc h (fun _ h=>?_) (fun _ h=>?_)
 ·refine zh ?_
  refine cl0 [(1,0)] Tryz.call11 (fun h=>z1P h) h (fun r2 h=>?_)
  refine ys ?_
  refine zd ?_
  refine zA ?_
  exact fs [2] [] Tryz.results6 h
 ·refine run_skip ?_
  refine ze ?_
  refine zt (t_lit [.int .i64 22,.int .i64 21,.int .i64 10,.int .i64 11,.int .i64 12,.int .i64 13,.int .i64 14] Tryz.runUnderlying59 Tryz.sizeOf3 Tryz.zeroValue3 rfl (by decide) (by decide) rfl (by simp [Value.cells,boxP])) ?_
  rintro v4 _ ⟨rfl,_⟩
  refine zB (retell 2 (g:=row v4 1 (([22,21,10,11,12,13,14]:List Int).map (eInt .i64))) rfl rfl) ?_
  refine ys ?_
  refine za ?_
  refine ys ?_
  refine zd ?_
  refine jr h [] [2] (fun s (g:Unit)=>[(4,.string (bs s))]) (fun s g=>[]) (fun _ h _ _ hL8=>?_) ?_
  ·refine zh ?_
   refine ys ?_
   refine zd ?_
   refine zF ?_
   refine lo h [3,18,19] [3,1,2] (fun s (g:Unit)=>[(4,.string (bs s.1)),(20,.int .i64 s.2)]) (fun s g=>[]) () [2,0,1] ?_
   rintro ⟨_,_⟩ _ _ h _ hgo13 hstop14
   refine rs ?_
   refine zh ?_
   refine ys ?_
   refine zc ?_
   refine rc h (fun _ h=>?_) (fun _ h=>?_)
   ·refine run_skip ?_
    refine zg ?_
    refine zF ?_
    refine zh ?_
    refine ys ?_
    obtain ⟨x17,hzx17,hlx17,hxx17,h⟩:=zP h
    refine ys ?_
    refine za ?_
    refine ys ?_
    refine zq (y_rem rfl rfl (by decide)) ?_
    obtain ⟨x18,hzx18,hlx18,hxx18,h⟩:=zP h
    refine ys ?_
    refine cl0 [] Tryz.call22 (fun h=>zcs h) h (fun r19 h=>?_)
    refine ys ?_
    refine oh [0,1,2] [row v4 1 (([22,21,10,11,12,13,14]:List Int).map (eInt .i64)),ro l_0v 1 (l_0.map eB8),globA] ?_
    refine ys ?_
    refine zb ?_
    refine ys ?_
    obtain ⟨hs21,h⟩:=zX h
    refine zq (zdd rfl rfl hs21) ?_
    obtain ⟨hs22,h⟩:=zX h
    refine zq (zdd rfl rfl hs22) ?_
    refine zt (t_lit [.string (bs [97]),.string (bs [98]),.string (bs [99])] Tryz.runUnderlying62 Tryz.sizeOf9 Tryz.zeroValue9 rfl (by decide) (by decide) rfl (by simp [Value.cells,boxP])) ?_
    rintro v23 _ ⟨rfl,_⟩
    refine zB (retell 3 (g:=row v23 1 (([[97],[98],[99]]:List (List UInt8)).map eStr)) rfl rfl) ?_
    refine ys ?_
    refine zq (y_rem rfl rfl (by decide)) ?_
    obtain ⟨x24,hzx24,hlx24,hxx24,h⟩:=zP h
    refine ys ?_
    obtain ⟨hs25,h⟩:=zX h
    refine zq (zdd rfl rfl hs25) ?_
    obtain ⟨hs26,h⟩:=zX h
    refine zq (zdd rfl rfl hs26) ?_
    refine ys ?_
    refine zr ?_
    refine zS ?_
    refine zD ?_
    refine rj [4,20,3,18,19] [0,1,2] ?_
    refine z8 ?_
    refine ys ?_
    refine zr ?_
    exact gj hgo13 () [0,1,2] h
   ·refine z1h _ rfl ?_
    exact gk hL8 hstop14 () [2] h
  rintro text_5 _ h
  refine rs ?_
  refine zh ?_
  refine ys ?_
  refine cl1 [(0,0)] Tryz.call17 (fun h=>zeu h) h (fun r27 v29 h=>?_)
  refine ys ?_
  refine al fun b30=>?_
  refine al fun b31=>?_
  refine ys ?_
  refine zc ?_
  refine rj [4,9,10] [0,1,2,3] ?_
  refine z8 ?_
  refine ys ?_
  obtain ⟨r33,hr34,h⟩:=zJ h
  refine zt (tc [(1,0)] Tryz.call23 (zj0 hr34)) ?_
  rintro _ _ ⟨_,⟨rfl,rfl⟩,rfl⟩
  refine ys ?_
  refine za ?_
  refine cl0 [(0,0)] Tryz.call11 (fun h=>z1P h) h (fun r35 h=>?_)
  refine ys ?_
  refine oe 4 [4,11,12] [1] (fun s=>[(61,.bool s)]) (r35 && (decide (r27.2.At=0) && (decide (r27.2.E=0)))) (fun _ hL38=>?_) ?_
  ·refine z1c 57 r35 rfl (fun hg39=>?_) (fun hg39=>?_)
   ·skip
    refine ys ?_
    refine zq (y_eqS (by kernel_rfl) (by kernel_rfl) Tryz.runUnderlying29 rfl rfl (.cons (z7k (by decide) Tryz.runUnderlying3 Tryz.isAgg3 rfl rfl) (.cons (z7k (by decide) Tryz.runUnderlying27 Tryz.isAgg27 rfl rfl) EqFs.nil))) ?_
    refine ys ?_
    refine zr ?_
    exact gc hL38 (decide (r27.2.At=0) && (decide (r27.2.E=0))) [0] (hi:=by rw [hg39]; simp)
   ·skip
    refine ys ?_
    refine zr ?_
    exact gc hL38 false [0] (hi:=by rw [hg39]; simp)
  refine os ?_
  refine ys ?_
  refine oe 2 [4,11] [1] (fun s=>[(64,.bool s)]) ((r35 && (decide (r27.2.At=0) && (decide (r27.2.E=0)))) && r33.2) (fun _ hL41=>?_) ?_
  ·refine z1c 62 (r35 && (decide (r27.2.At=0) && (decide (r27.2.E=0)))) rfl (fun hg42=>?_) (fun hg42=>?_)
   ·skip
    refine ys ?_
    refine zr ?_
    exact gc hL41 r33.2 [0] (hi:=by rw [hg42]; simp)
   ·skip
    refine ys ?_
    refine zr ?_
    exact gc hL41 false [0] (hi:=by rw [hg42]; simp)
  refine os ?_
  refine ys ?_
  refine oe 4 [] [1] (fun s=>[(69,.bool s)]) (((r35 && (decide (r27.2.At=0) && (decide (r27.2.E=0)))) && r33.2) && decide (r33.1=text_5)) (fun _ hL44=>?_) ?_
  ·refine z1c 65 ((r35 && (decide (r27.2.At=0) && (decide (r27.2.E=0)))) && r33.2) rfl (fun hg45=>?_) (fun hg45=>?_)
   ·skip
    refine ys ?_
    refine zr ?_
    exact gc hL44 (decide (r33.1=text_5)) [0] (hi:=by rw [hg45]; simp)
   ·skip
    refine ys ?_
    refine zr ?_
    exact gc hL44 false [0] (hi:=by rw [hg45]; simp)
  refine os ?_
  refine ys ?_
  refine zd ?_
  refine zA ?_
  exact fs [2] [] Tryz.results6 h
end Go.Proofs.YtcmaoifiiigggaaGreatDoor
