/-
  Functions of the program, lifted: part 15.
-/
import Derived.Test.YtcmaoifiiigggaaGreatDoorFa
set_option linter.unusedSimpArgs false
set_option linter.unusedVariables false
namespace Go.Proofs.YtcmaoifiiigggaaGreatDoor
open Go.Abs
set_option maxRecDepth 20000
set_option maxHeartbeats 4000000
def z7N (a_0:(List Int)) (b_1:(List Int)):(Int)→Option (Lp (Int) (Lp (Unit) (Bool))):=
 fun i_6=>
  cond (decide (i_6<(a_0.length:Int)))
   (idx a_0 i_6 fun x12=>
   idx b_1 i_6 fun x13=>
   cond (decide (x12≠x13))
    (some (.stop (.stop false)))
    (some (.go (IntKind.i64.wrap (i_6+1)))))
   (some (.stop (.go ())))
def z64 (n:Nat) (a_0:(List Int)) (b_1:(List Int)):Option (Bool):=
 cond (decide ((a_0.length:Int)≠(b_1.length:Int)))
  (some false)
  (bindJ (S := Unit)
   (iter (z7N a_0 b_1) n 0)
  (fun _ =>
   some true))
theorem zak {n:Nat} {a_0:(List Int)} {b_1:(List Int)} {a_0v:Value} {b_1v:Value} {r:Bool} (h:z64 n a_0 b_1=some r) :
  Meets Tryz.prog 39 [a_0v,b_1v] [ro a_0v 1 (a_0.map (eInt .i64)),ro b_1v 1 (b_1.map (eInt .i64))] (fun v G=>v = .bool r∧G=[]):=by
 refine zN Tryz.func39 rfl Tryz.ntmps39 rfl (fun w0 o0=>?_)
 refine zh ?_
 refine ys ?_
 refine zc ?_
 refine zh ?_
 refine ys ?_
 refine zd ?_
 refine rc h (fun _ h=>?_) (fun _ h=>?_)
 ·refine zh ?_
  refine ys ?_
  refine zd ?_
  refine zA ?_
  exact fs [4] [] Tryz.results39 h
 ·refine run_skip ?_
  refine zD ?_
  refine jr h [] [] (fun s (g:Unit)=>[]) (fun s g=>[]) (fun _ h ho3 _ hL4=>?_) ?_
  ·refine zh ?_
   refine ys ?_
   refine zd ?_
   refine zF ?_
   refine lo h [0,1] [1,2] (fun s (g:Unit)=>[(5,.int .i64 s)]) (fun s g=>[]) () [0,1] ?_
   rintro _ _ _ h _ hgo8 hstop9
   refine rs ?_
   refine zH ?_
   refine zh ?_
   refine ys ?_
   refine zd ?_
   refine rc h (fun _ h=>?_) (fun _ h=>?_)
   ·refine run_skip ?_
    refine zg ?_
    refine zF ?_
    refine zH ?_
    refine z4U (by kernel_rfl) (by kernel_rfl) ?_
    refine yu ?_
    obtain ⟨x12,hzx12,hlx12,hxx12,h⟩:=zP h
    refine yu ?_
    obtain ⟨x13,hzx13,hlx13,hxx13,h⟩:=zP h
    refine yu ?_
    refine z2m ?_
    refine zD ?_
    refine rc h (fun _ h=>?_) (fun _ h=>?_)
    ·refine zH ?_
     refine rj [] [] ?_
     refine z8 ?_
     refine ys ?_
     refine zd ?_
     refine zA ?_
     obtain rfl:=zU h
     obtain rfl:=hstop9 _ rfl
     skip
     obtain rfl:=zM ho3
     exact ft [4] [] Tryz.results39
    ·refine run_skip ?_
     refine zS ?_
     refine zD ?_
     refine rj [5,0,1] [0,1] ?_
     refine z8 ?_
     refine ys ?_
     refine zr ?_
     exact gj hgo8 () [0,1] h
   ·refine z1h _ rfl ?_
    exact gk hL4 hstop9 () [] h
  rintro _ _ h
  refine rs ?_
  refine zh ?_
  refine ys ?_
  refine zd ?_
  refine zA ?_
  exact fs [4] [] Tryz.results39 h
def z95 (a_0:(List zi)) (b_1:(List zi)) (rec_ref19_SameExpr:zi→zi→Option (Bool)):(Int)→Option (Lp (Int) (Lp (Unit) (Bool))):=
 fun i_6=>
  cond (decide (i_6<(a_0.length:Int)))
   (idx a_0 i_6 fun x12=>
   idx b_1 i_6 fun x14=>
   obind (rec_ref19_SameExpr x12 x14) fun r16=>
   cond (!r16)
    (some (.stop (.stop false)))
    (some (.go (IntKind.i64.wrap (i_6+1)))))
   (some (.stop (.go ())))
def zb0 (n:Nat) (rec_ref19_SameExpr:zi→zi→Option (Bool)) (a_0:(List zi)) (b_1:(List zi)):Option (Bool):=
 cond (decide ((a_0.length:Int)≠(b_1.length:Int)))
  (some false)
  (bindJ (S := Unit)
   (iter (z95 a_0 b_1 rec_ref19_SameExpr) n 0)
  (fun _ =>
   some true))
theorem zfq {n:Nat} {rec_ref19_SameExpr:zi→zi→Option (Bool)} (hrec_ref19_SameExpr:K14 rec_ref19_SameExpr 19) {a_0:(List zi)} {b_1:(List zi)} {a_0v:Value} {b_1v:Value} {r:Bool} (h:zb0 n rec_ref19_SameExpr a_0 b_1=some r) :
  Meets Tryz.prog 50 [a_0v,b_1v] [nro a_0v zj a_0,nro b_1v zj b_1] (fun v G=>v = .bool r∧G=[]):=by
 refine zN Tryz.func50 rfl Tryz.ntmps50 rfl (fun w0 o0=>?_)
 refine zh ?_
 refine ys ?_
 refine zc ?_
 refine zh ?_
 refine ys ?_
 refine zd ?_
 refine rc h (fun _ h=>?_) (fun _ h=>?_)
 ·refine zh ?_
  refine ys ?_
  refine zd ?_
  refine zA ?_
  exact fs [4] [] Tryz.results50 h
 ·refine run_skip ?_
  refine zD ?_
  refine jr h [] [] (fun s (g:Unit)=>[]) (fun s g=>[]) (fun _ h ho3 _ hL4=>?_) ?_
  ·refine zh ?_
   refine ys ?_
   refine zd ?_
   refine zF ?_
   refine lo h [0,1] [1,2] (fun s (g:Unit)=>[(5,.int .i64 s)]) (fun s g=>[]) () [0,1] ?_
   rintro i_6 _ _ h _ hgo8 hstop9
   refine rs ?_
   refine zH ?_
   refine zh ?_
   refine ys ?_
   refine zd ?_
   refine rc h (fun _ h=>?_) (fun _ h=>?_)
   ·refine run_skip ?_
    refine zg ?_
    refine zF ?_
    refine zH ?_
    refine rf [1,1] fun hS=>?_
    refine aq [0,1] ?_
    obtain ⟨x12,hzx12,hlx12,hxx12,h⟩:=zP h
    refine aq [2] ?_
    refine z9T (exAtT (T:=z1b) (i:=i_6.toNat) 0 rfl hxx12) ?_
    rintro (g13:Value)
    refine ag [1,1,1] ?_
    refine ag [1,1,1,1] ?_
    refine aq [3,4,5] ?_
    obtain ⟨x14,hzx14,hlx14,hxx14,h⟩:=zP h
    refine aq [6] ?_
    refine z9T (exAtT (T:=z1b) (i:=i_6.toNat) 1 rfl hxx14) ?_
    rintro (g15:Value)
    refine ag [1,1,1,1,1] ?_
    refine ag [1,1,1,1,1,1] ?_
    refine aq [7] ?_
    refine al0 8 [(3,0),(5,0)] Tryz.call19 (fun h=>hrec_ref19_SameExpr h) h (fun r16 h=>?_)
    refine aq [9] ?_
    refine z1K (by kernel_rfl) ?_
    refine zg ?_
    refine rj [5,0,1,6] [0,1] ?_
    refine z8 ?_
    refine ys ?_
    refine zd ?_
    refine rc h (fun _ h=>?_) (fun _ h=>?_)
    ·refine zh ?_
     refine ys ?_
     refine zd ?_
     refine zA ?_
     obtain rfl:=zU h
     obtain rfl:=hstop9 _ rfl
     skip
     obtain rfl:=zM ho3
     exact ft [4] [] Tryz.results50
    ·refine run_skip ?_
     refine zS ?_
     refine zf ?_
     refine ys ?_
     refine zr ?_
     exact gj hgo8 () [0,1] h
   ·refine z1h _ rfl ?_
    exact gk hL4 hstop9 () [] h
  rintro _ _ h
  refine rs ?_
  refine zh ?_
  refine ys ?_
  refine zd ?_
  refine zA ?_
  exact fs [4] [] Tryz.results50 h
def z6m (n:Nat) (rec_ref19_SameExpr:zi→zi→Option (Bool)) (a_0:zi) (b_1:zi):Option (Bool):=
 bindJ (S:=Bool)
  (cond ((decide (a_0.Op = b_1.Op) && decide (a_0.At = b_1.At)) && decide (a_0.S = b_1.S))
   (obind (zb0 n rec_ref19_SameExpr a_0.Args b_1.Args) fun r15=>
   some (.go r15))
   (some (.go false)))
 (fun b9 =>
  some b9)
theorem zcI {n:Nat} {rec_ref19_SameExpr:zi→zi→Option (Bool)} (hrec_ref19_SameExpr:K14 rec_ref19_SameExpr 19):K14 (z6m n rec_ref19_SameExpr) 19:=by
 intro a_0 b_1 a_0_Argsv b_1_Argsv r h
 refine zN Tryz.func19 rfl Tryz.ntmps19 rfl (fun w0 o0=>?_)
 refine zh ?_
 refine zt (t_box rfl) ?_
 rintro _ _ ⟨b1,rfl,rfl⟩
 refine zt (t_box rfl) ?_
 rintro _ _ ⟨b2,rfl,rfl⟩
 refine ys ?_
 refine za ?_
 refine ys ?_
 refine oq 6 10 16 [2,3] [0,1,2,3] (decide (a_0.Op=b_1.Op) && decide (a_0.At=b_1.At)) ?_
 refine ys ?_
 refine oq 6 17 23 [2,3] [0,1,2,3] ((decide (a_0.Op=b_1.Op) && decide (a_0.At=b_1.At)) && decide (a_0.S=b_1.S)) ?_
 refine ys ?_
 refine ob h 6 [] [] (fun s=>[(30,.bool s)]) (fun s=>[]) (fun _ h _ _ hL13=>?_) ?_
 ·refine z1c 24 ((decide (a_0.Op=b_1.Op) && decide (a_0.At=b_1.At)) && decide (a_0.S=b_1.S)) rfl (fun hg14=>?_) (fun hg14=>?_)
  ·replace h:=z2F h hg14
   refine ys ?_
   refine cl0 [(0,0),(1,0)] Tryz.call50 (fun h=>zfq hrec_ref19_SameExpr h) h (fun r15 h=>?_)
   refine ys ?_
   refine zr ?_
   exact gb hL13 [] h
  ·replace h:=z2E h hg14
   refine ys ?_
   refine zr ?_
   exact gb hL13 [] h
 rintro b9 h
 refine os ?_
 refine ys ?_
 refine zd ?_
 refine zA ?_
 exact fs [4] [] Tryz.results19 h
def z6Q:Nat→zi→zi→Option (Bool)
 | 0=>fun _ _=>none
 | n+1=>z6m n  (z6Q n )
theorem zc8 {n:Nat}:K14 (z6Q n) 19:=by
 induction n with
 | zero=>intro _ _ _ _ _  h; cases h
 | succ n ih=>exact zcI ih
def z9w (n:Nat) (a_0:(List zm)) (b_1:(List zm)) (rec_ref19_SameCode:(List zm)→(List zm)→Option (Bool)):(Int)→Option (Lp (Int) (Lp (Unit) (Bool))):=
 fun i_6=>
  cond (decide (i_6<(a_0.length:Int)))
   (idx a_0 i_6 fun x12=>
   idx b_1 i_6 fun x16=>
   bindJ (S:=Bool)
    (cond (decide (x12.Kind ≠ x16.Kind) || decide (x12.At ≠ x16.At))
     (some (.go true))
     (idx a_0 i_6 fun x29=>
     idx b_1 i_6 fun x30=>
     some (.go (!decide (x12.Name=x16.Name)))))
   (fun b23 =>
    bindJ (S:=Bool)
     (cond b23
      (some (.go true))
      (idx a_0 i_6 fun x37=>
      idx b_1 i_6 fun x38=>
      obind (z6Q n x12.X x16.X) fun r39=>
      some (.go (!r39))))
    (fun b31 =>
     bindJ (S:=Bool)
      (cond b31
       (some (.go true))
       (idx a_0 i_6 fun x47=>
       idx b_1 i_6 fun x48=>
       obind (rec_ref19_SameCode x12.Body x16.Body) fun r49=>
       some (.go (!r49))))
     (fun b41 =>
      bindJ (S:=Bool)
       (cond b41
        (some (.go true))
        (idx a_0 i_6 fun x57=>
        idx b_1 i_6 fun x58=>
        obind (rec_ref19_SameCode x12.Else x16.Else) fun r59=>
        some (.go (!r59))))
      (fun b51 =>
       cond b51
        (some (.stop (.stop false)))
        (some (.go (IntKind.i64.wrap (i_6+1)))))))))
   (some (.stop (.go ())))
def z6l (n:Nat) (rec_ref19_SameCode:(List zm)→(List zm)→Option (Bool)) (a_0:(List zm)) (b_1:(List zm)):Option (Bool):=
 cond (decide ((a_0.length:Int)≠(b_1.length:Int)))
  (some false)
  (bindJ (S := Unit)
   (iter (z9w n a_0 b_1 rec_ref19_SameCode) n 0)
  (fun _ =>
   some true))
theorem zcH {n:Nat} {rec_ref19_SameCode:(List zm)→(List zm)→Option (Bool)} (hrec_ref19_SameCode:K15 rec_ref19_SameCode 40):K15 (z6l n rec_ref19_SameCode) 40:=by
 intro a_0 b_1 a_0v b_1v r h
 refine zN Tryz.func40 rfl Tryz.ntmps40 rfl (fun w0 o0=>?_)
 refine zh ?_
 refine ys ?_
 refine zc ?_
 refine zh ?_
 refine ys ?_
 refine zd ?_
 refine rc h (fun _ h=>?_) (fun _ h=>?_)
 ·refine zh ?_
  refine ys ?_
  refine zd ?_
  refine zA ?_
  exact fs [4] [] Tryz.results40 h
 ·refine run_skip ?_
  refine zD ?_
  refine jr h [] [] (fun s (g:Unit)=>[]) (fun s g=>[]) (fun _ h ho3 _ hL4=>?_) ?_
  ·refine zh ?_
   refine ys ?_
   refine zd ?_
   refine zF ?_
   refine lo h [0,1] [1,2] (fun s (g:Unit)=>[(5,.int .i64 s)]) (fun s g=>[]) () [0,1] ?_
   rintro i_6 _ _ h _ hgo8 hstop9
   refine rs ?_
   refine zH ?_
   refine zh ?_
   refine ys ?_
   refine zd ?_
   refine rc h (fun _ h=>?_) (fun _ h=>?_)
   ·refine run_skip ?_
    refine zg ?_
    refine zF ?_
    refine zH ?_
    refine rf [1,1] fun hS=>?_
    refine aq [0,1] ?_
    obtain ⟨x12,hzx12,hlx12,hxx12,h⟩:=zP h
    refine aq [2] ?_
    refine z9T (exAtT (T:=z1S) (i:=i_6.toNat) 0 rfl hxx12) ?_
    rintro ⟨g13,g14,g15⟩
    refine ag [1,1,1] ?_
    refine ag [1,1,1,1] ?_
    refine ag [1,1,1,1,1] ?_
    refine ag [1,1,1,1,1,1] ?_
    refine aq [3,4,5,6] ?_
    obtain ⟨x16,hzx16,hlx16,hxx16,h⟩:=zP h
    refine aq [7] ?_
    refine z9T (exAtT (T:=z1S) (i:=i_6.toNat) 1 rfl hxx16) ?_
    rintro ⟨g17,g18,g19⟩
    refine ag [1,1,1,1,1,1,1] ?_
    refine ag [1,1,1,1,1,1,1,1] ?_
    refine ag [1,1,1,1,1,1,1,1,1] ?_
    refine ag [1,1,1,1,1,1,1,1,1,1] ?_
    refine aq [8,9,10,11] ?_
    refine ae [24,55] 55 [5,0,1] [1,2,3,4,5,6,7,8,9,10] (fun s=>[(40,.bool s)]) (decide (x12.Kind≠x16.Kind) || decide (x12.At≠x16.At)) (fun hL21=>?_) ?_
    ·refine z1L 28 (decide (x12.Kind≠x16.Kind)) rfl (fun hg22=>?_) (fun hg22=>?_)
     ·skip
      refine aq [12,13,14,15,16,17,18,19,20,21,22,23] ?_
      exact aw (hL21 true (by rw [hg22]; simp)) [0,1,2,3,4,5,6,7,8,9]
     ·skip
      refine aq [12,13,14,15,16,17,18,19,20,21,22,23] ?_
      exact aw (hL21 (decide (x12.At≠x16.At)) (by rw [hg22]; simp)) [0,1,2,3,4,5,6,7,8,9]
    refine az ?_
    refine aq [24] ?_
    refine ab h [37,42] 42 [5,0,1] [1,2,3,4,5,6,7,8,9,10] (fun s=>[(53,.bool s)]) (fun s=>[]) (fun _ h _ hL27=>?_) ?_
    ·refine z1L 41 (decide (x12.Kind≠x16.Kind) || decide (x12.At≠x16.At)) rfl (fun hg28=>?_) (fun hg28=>?_)
     ·replace h:=z2F h hg28
      refine aq [25,26,27,28,29,30,31,32,33,34,35,36] ?_
      exact aw (hL27 _ (zU h).symm) [0,1,2,3,4,5,6,7,8,9]
     ·replace h:=z2E h hg28
      refine aq [25,26] ?_
      obtain ⟨x29,hzx29,hlx29,hxx29,h⟩:=zP h
      refine aq [27,28,29,30,31] ?_
      obtain ⟨x30,hzx30,hlx30,hxx30,h⟩:=zP h
      refine aq [32,33,34,35,36] ?_
      exact aw (hL27 _ (zU h).symm) [0,1,2,3,4,5,6,7,8,9]
    rintro b23 h
    refine az ?_
    refine aq [37] ?_
    refine ab h [51,28] 28 [5,0,1] [1,2,3,4,5,6,7,8,9,10] (fun s=>[(67,.bool s)]) (fun s=>[]) (fun _ h _ hL35=>?_) ?_
    ·refine z1L 54 b23 rfl (fun hg36=>?_) (fun hg36=>?_)
     ·replace h:=z2F h hg36
      refine aq [38,39,40,41,42,43,44,45,46,47,48,49,50] ?_
      exact aw (hL35 _ (zU h).symm) [0,1,2,3,4,5,6,7,8,9]
     ·replace h:=z2E h hg36
      refine aq [38,39] ?_
      obtain ⟨x37,hzx37,hlx37,hxx37,h⟩:=zP h
      refine aq [40,41,42,43,44] ?_
      obtain ⟨x38,hzx38,hlx38,hxx38,h⟩:=zP h
      refine aq [45,46,47] ?_
      refine zK [48] (by kernel_rfl) rfl (zk ?_ zC)
      obtain ⟨r39,hr40,h⟩:=zJ h
      refine at' rfl (tc [(3,0),(7,0)] Tryz.call19 (zc8 hr40)) ?_
      rintro _ _ ⟨_,⟨rfl,rfl⟩,rfl⟩
      refine sb ?_
      refine aq [49,50] ?_
      exact aw (hL35 _ (zU h).symm) [0,1,2,3,4,5,6,7,8,9]
    rintro b31 h
    refine az ?_
    refine aq [51] ?_
    refine ab h [65,14] 14 [5,0,1] [1,2,3,4,5,6,7,8,9,10] (fun s=>[(81,.bool s)]) (fun s=>[]) (fun _ h _ hL45=>?_) ?_
    ·refine z1L 68 b31 rfl (fun hg46=>?_) (fun hg46=>?_)
     ·replace h:=z2F h hg46
      refine aq [52,53,54,55,56,57,58,59,60,61,62,63,64] ?_
      exact aw (hL45 _ (zU h).symm) [0,1,2,3,4,5,6,7,8,9]
     ·replace h:=z2E h hg46
      refine aq [52,53] ?_
      obtain ⟨x47,hzx47,hlx47,hxx47,h⟩:=zP h
      refine aq [54,55,56,57,58] ?_
      obtain ⟨x48,hzx48,hlx48,hxx48,h⟩:=zP h
      refine aq [59,60,61] ?_
      refine al0 62 [(4,0),(8,0)] Tryz.call40 (fun h=>hrec_ref19_SameCode h) h (fun r49 h=>?_)
      refine aq [63,64] ?_
      exact aw (hL45 _ (zU h).symm) [0,1,2,3,4,5,6,7,8,9]
    rintro b41 h
    refine az ?_
    refine aq [65] ?_
    refine ab h [79] 0 [5,0,1] [1,2,3,4,5,6,7,8,9,10] (fun s=>[(95,.bool s)]) (fun s=>[]) (fun _ h _ hL55=>?_) ?_
    ·refine z1L 82 b41 rfl (fun hg56=>?_) (fun hg56=>?_)
     ·replace h:=z2F h hg56
      refine aq [66,67,68,69,70,71,72,73,74,75,76,77,78] ?_
      exact aw (hL55 _ (zU h).symm) [0,1,2,3,4,5,6,7,8,9]
     ·replace h:=z2E h hg56
      refine aq [66,67] ?_
      obtain ⟨x57,hzx57,hlx57,hxx57,h⟩:=zP h
      refine aq [68,69,70,71,72] ?_
      obtain ⟨x58,hzx58,hlx58,hxx58,h⟩:=zP h
      refine aq [73,74,75] ?_
      refine al0 76 [(5,0),(9,0)] Tryz.call40 (fun h=>hrec_ref19_SameCode h) h (fun r59 h=>?_)
      refine aq [77,78] ?_
      exact aw (hL55 _ (zU h).symm) [0,1,2,3,4,5,6,7,8,9]
    rintro b51 h
    refine az ?_
    refine z1K (by kernel_rfl) ?_
    refine zD ?_
    refine rc h (fun _ h=>?_) (fun _ h=>?_)
    ·refine zh ?_
     refine ys ?_
     refine zd ?_
     refine zA ?_
     obtain rfl:=zU h
     obtain rfl:=hstop9 _ rfl
     skip
     obtain rfl:=zM ho3
     exact ft [4] [] Tryz.results40
    ·refine run_skip ?_
     refine zS ?_
     refine zf ?_
     refine ys ?_
     refine zr ?_
     exact gj hgo8 () [0,1] h
   ·refine z1h _ rfl ?_
    exact gk hL4 hstop9 () [] h
  rintro _ _ h
  refine rs ?_
  refine zh ?_
  refine ys ?_
  refine zd ?_
  refine zA ?_
  exact fs [4] [] Tryz.results40 h
def z6P:Nat→(List zm)→(List zm)→Option (Bool)
 | 0=>fun _ _=>none
 | n+1=>z6l n  (z6P n )
theorem zc7 {n:Nat}:K15 (z6P n) 40:=by
 induction n with
 | zero=>intro _ _ _ _ _  h; cases h
 | succ n ih=>exact zcH ih
end Go.Proofs.YtcmaoifiiigggaaGreatDoor
