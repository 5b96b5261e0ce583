/-
  Functions of the program, lifted: part 15.
-/
import Derived.Test.YtcmaoifiiigggaaGreatDoorV8Fa
set_option linter.unusedSimpArgs false
set_option linter.unusedVariables false
namespace Go.Proofs.YtcmaoifiiigggaaGreatDoor
open Go.Abs Tryz
set_option maxRecDepth 20000
set_option maxHeartbeats 4000000
def z7N (a_0:(List Int)) (b_1:(List Int)):(Int)→Option (Lp (Int) (Lp (Unit) (Bool))):=
 fun i_6=>
  cond (decide (i_6<(a_0.length:Int)))
   (idx a_0 i_6 fun x12=>
   idx b_1 i_6 fun x13=>
   cond (decide (x12≠x13))
    (some (.stop (.stop false)))
    (some (.go (IntKind.i64.wrap (i_6+1)))))
   (some (.stop (.go ())))
def z64 (n:Nat) (a_0:(List Int)) (b_1:(List Int)):Option (Bool):=
 cond (decide ((a_0.length:Int)≠(b_1.length:Int)))
  (some false)
  (bindJ (S := Unit)
   (iter (z7N a_0 b_1) n 0)
  (fun _ =>
   some true))
theorem zak {n:Nat} {a_0:(List Int)} {b_1:(List Int)} {j2:Value} {j3:Value} {r:Bool} (h:z64 n a_0 b_1=some r) :
  Meets Tryz.prog 39 [j2,j3] [ro j2 1 (a_0.map (eInt .i64)),ro j3 1 (b_1.map (eInt .i64))] (fun v G=>v = .bool r∧G=[]):=by
 refine zN func39 rfl ntmps39 rfl (fun w0 o0=>?_)
 refine yc 6 h (fun _ h=>?_) fun _ h=>?_
 ·refine yn 4 ?_
  exact fs [4] [] results39 h
 ·refine run_skip (zD (jr h [] [] (fun s (g:Unit)=>[]) (fun s g=>[]) (fun _ h ho3 _ hL4=>?_) ?_))
  ·refine yn 4 ?_
   refine lo h [0,1] [1,2] (fun s (g:Unit)=>[(5,.int .i64 s)]) (fun s g=>[]) () [0,1] ?_
   rintro _ _ _ h _ j4 j0
   refine rs ?_
   refine yc 4 h (fun _ h=>?_) fun _ h=>?_
   ·refine yn 3 ?_
    refine zH (z4U (by kernel_rfl) (by kernel_rfl) ?_)
    refine yu ?_
    obtain ⟨x12,j5,j6,j1,h⟩:=zP h
    refine yu ?_
    obtain ⟨x13,jp,jq,js,h⟩:=zP h
    refine yu ?_
    refine z2m ?_
    refine yc 1 h (fun _ h=>?_) fun _ h=>?_
    ·refine zH (rj [] [] ?_)
     refine yn 4 ?_
     obtain rfl:=zU h
     obtain rfl:=j0 _ rfl
     skip
     obtain rfl:=zM ho3
     exact ft [4] [] results39
    ·refine yn 2 ?_
     refine zD (rj [5,0,1] [0,1] ?_)
     refine yn 3 ?_
     exact gj j4 () [0,1] h
   ·refine z1h _ rfl ?_
    exact gk hL4 j0 () [] h
  rintro _ _ h
  refine rs ?_
  refine yn 4 ?_
  exact fs [4] [] results39 h
def z95 (a_0:(List zi)) (b_1:(List zi)) (q16r:zi→zi→Option (Bool)):(Int)→Option (Lp (Int) (Lp (Unit) (Bool))):=
 fun i_6=>
  cond (decide (i_6<(a_0.length:Int)))
   (idx a_0 i_6 fun x12=>
   idx b_1 i_6 fun x14=>
   obind (q16r x12 x14) fun r16=>
   cond (!r16)
    (some (.stop (.stop false)))
    (some (.go (IntKind.i64.wrap (i_6+1)))))
   (some (.stop (.go ())))
def zb0 (n:Nat) (q16r:zi→zi→Option (Bool)) (a_0:(List zi)) (b_1:(List zi)):Option (Bool):=
 cond (decide ((a_0.length:Int)≠(b_1.length:Int)))
  (some false)
  (bindJ (S := Unit)
   (iter (z95 a_0 b_1 q16r) n 0)
  (fun _ =>
   some true))
theorem zfq {n:Nat} {q16r:zi→zi→Option (Bool)} (q17h:K14 q16r 19) {a_0:(List zi)} {b_1:(List zi)} {j2:Value} {j3:Value} {r:Bool} (h:zb0 n q16r a_0 b_1=some r) :
  Meets Tryz.prog 50 [j2,j3] [nro j2 zj a_0,nro j3 zj b_1] (fun v G=>v = .bool r∧G=[]):=by
 refine zN func50 rfl ntmps50 rfl (fun w0 o0=>?_)
 refine yc 6 h (fun _ h=>?_) fun _ h=>?_
 ·refine yn 4 ?_
  exact fs [4] [] results50 h
 ·refine run_skip (zD (jr h [] [] (fun s (g:Unit)=>[]) (fun s g=>[]) (fun _ h ho3 _ hL4=>?_) ?_))
  ·refine yn 4 ?_
   refine lo h [0,1] [1,2] (fun s (g:Unit)=>[(5,.int .i64 s)]) (fun s g=>[]) () [0,1] ?_
   rintro i_6 _ _ h _ j4 j0
   refine rs ?_
   refine yc 4 h (fun _ h=>?_) fun _ h=>?_
   ·refine yn 4 ?_
    refine rf [1,1] fun hS=>?_
    refine aq [0,1] ?_
    obtain ⟨x12,j5,j6,j1,h⟩:=zP h
    refine aq [2] ?_
    refine z9T (exAtT (T:=z1b) (i:=i_6.toNat) 0 rfl j1) ?_
    rintro (g13:Value)
    refine ag [1,1,1] ?_
    refine ag [1,1,1,1] ?_
    refine aq [3,4,5] ?_
    obtain ⟨x14,jt,ju,jf,h⟩:=zP h
    refine aq [6] ?_
    refine z9T (exAtT (T:=z1b) (i:=i_6.toNat) 1 rfl jf) ?_
    rintro (g15:Value)
    refine ag [1,1,1,1,1] ?_
    refine ag [1,1,1,1,1,1] ?_
    refine aq [7] ?_
    refine al0 8 [(3,0),(5,0)] call19 (fun h=>q17h h) h (fun r16 h=>?_)
    refine aq [9] ?_
    refine z1K (by kernel_rfl) ?_
    refine zg (rj [5,0,1,6] [0,1] ?_)
    refine yc 3 h (fun _ h=>?_) fun _ h=>?_
    ·refine yn 4 ?_
     obtain rfl:=zU h
     obtain rfl:=j0 _ rfl
     skip
     obtain rfl:=zM ho3
     exact ft [4] [] results50
    ·refine yn 5 ?_
     exact gj j4 () [0,1] h
   ·refine z1h _ rfl ?_
    exact gk hL4 j0 () [] h
  rintro _ _ h
  refine rs ?_
  refine yn 4 ?_
  exact fs [4] [] results50 h
def z6m (n:Nat) (q16r:zi→zi→Option (Bool)) (a_0:zi) (b_1:zi):Option (Bool):=
 bindJ (S:=Bool)
  (cond ((decide (a_0.Op = b_1.Op) && decide (a_0.At = b_1.At)) && decide (a_0.S = b_1.S))
   (obind (zb0 n q16r a_0.Args b_1.Args) fun r15=>
   some (.go r15))
   (some (.go false)))
 (fun b9 =>
  some b9)
theorem zcI {n:Nat} {q16r:zi→zi→Option (Bool)} (q17h:K14 q16r 19):K14 (z6m n q16r) 19:=by
 intro a_0 b_1 jd je r h
 refine zN func19 rfl ntmps19 rfl (fun w0 o0=>?_)
 refine zh (lB fun b1=>?_)
 refine lB fun b2=>?_
 refine yn 3 ?_
 refine oq 6 10 16 [2,3] [0,1,2,3] (decide (a_0.Op=b_1.Op) && decide (a_0.At=b_1.At)) ?_
 refine ys ?_
 refine oq 6 17 23 [2,3] [0,1,2,3] ((decide (a_0.Op=b_1.Op) && decide (a_0.At=b_1.At)) && decide (a_0.S=b_1.S)) ?_
 refine ys ?_
 refine ob h 6 [] [] (fun s=>[(30,.bool s)]) (fun s=>[]) (fun _ h _ _ jg=>?_) ?_
 ·refine z1c 24 ((decide (a_0.Op=b_1.Op) && decide (a_0.At=b_1.At)) && decide (a_0.S=b_1.S)) rfl (fun j7=>?_) (fun j7=>?_)
  ·replace h:=z2F h j7
   refine ys ?_
   refine cl0 [(0,0),(1,0)] call50 (fun h=>zfq q17h h) h (fun r15 h=>?_)
   refine yn 2 ?_
   exact gb jg [] h
  ·replace h:=z2E h j7
   refine yn 2 ?_
   exact gb jg [] h
 rintro b9 h
 refine os ?_
 refine yn 3 ?_
 exact fs [4] [] results19 h
def z6Q:Nat→zi→zi→Option (Bool)
 | 0=>fun _ _=>none
 | n+1=>z6m n  (z6Q n )
theorem zc8 {n:Nat}:K14 (z6Q n) 19:=by
 induction n with
 | zero=>intro _ _ _ _ _  h; cases h
 | succ n ih=>exact zcI ih
def z9w (n:Nat) (a_0:(List zm)) (b_1:(List zm)) (q18r:(List zm)→(List zm)→Option (Bool)):(Int)→Option (Lp (Int) (Lp (Unit) (Bool))):=
 fun i_6=>
  cond (decide (i_6<(a_0.length:Int)))
   (idx a_0 i_6 fun x12=>
   idx b_1 i_6 fun x16=>
   bindJ (S:=Bool)
    (cond (decide (x12.Kind ≠ x16.Kind) || decide (x12.At ≠ x16.At))
     (some (.go true))
     (idx a_0 i_6 fun x29=>
     idx b_1 i_6 fun x30=>
     some (.go (!decide (x12.Name=x16.Name)))))
   (fun b23 =>
    bindJ (S:=Bool)
     (cond b23
      (some (.go true))
      (idx a_0 i_6 fun x37=>
      idx b_1 i_6 fun x38=>
      obind (z6Q n x12.X x16.X) fun r39=>
      some (.go (!r39))))
    (fun b31 =>
     bindJ (S:=Bool)
      (cond b31
       (some (.go true))
       (idx a_0 i_6 fun x47=>
       idx b_1 i_6 fun x48=>
       obind (q18r x12.Body x16.Body) fun r49=>
       some (.go (!r49))))
     (fun b41 =>
      bindJ (S:=Bool)
       (cond b41
        (some (.go true))
        (idx a_0 i_6 fun x57=>
        idx b_1 i_6 fun x58=>
        obind (q18r x12.Else x16.Else) fun r59=>
        some (.go (!r59))))
      (fun b51 =>
       cond b51
        (some (.stop (.stop false)))
        (some (.go (IntKind.i64.wrap (i_6+1)))))))))
   (some (.stop (.go ())))
def z6l (n:Nat) (q18r:(List zm)→(List zm)→Option (Bool)) (a_0:(List zm)) (b_1:(List zm)):Option (Bool):=
 cond (decide ((a_0.length:Int)≠(b_1.length:Int)))
  (some false)
  (bindJ (S := Unit)
   (iter (z9w n a_0 b_1 q18r) n 0)
  (fun _ =>
   some true))
theorem zcH {n:Nat} {q18r:(List zm)→(List zm)→Option (Bool)} (q19h:K15 q18r 40):K15 (z6l n q18r) 40:=by
 intro a_0 b_1 j2 j3 r h
 refine zN func40 rfl ntmps40 rfl (fun w0 o0=>?_)
 refine yc 6 h (fun _ h=>?_) fun _ h=>?_
 ·refine yn 4 ?_
  exact fs [4] [] results40 h
 ·refine run_skip (zD (jr h [] [] (fun s (g:Unit)=>[]) (fun s g=>[]) (fun _ h ho3 _ hL4=>?_) ?_))
  ·refine yn 4 ?_
   refine lo h [0,1] [1,2] (fun s (g:Unit)=>[(5,.int .i64 s)]) (fun s g=>[]) () [0,1] ?_
   rintro i_6 _ _ h _ j4 j0
   refine rs ?_
   refine yc 4 h (fun _ h=>?_) fun _ h=>?_
   ·refine yn 4 ?_
    refine rf [1,1] fun hS=>?_
    refine aq [0,1] ?_
    obtain ⟨x12,j5,j6,j1,h⟩:=zP h
    refine aq [2] ?_
    refine z9T (exAtT (T:=z1S) (i:=i_6.toNat) 0 rfl j1) ?_
    rintro ⟨g13,g14,g15⟩
    refine ag [1,1,1] ?_
    refine ag [1,1,1,1] ?_
    refine ag [1,1,1,1,1] ?_
    refine ag [1,1,1,1,1,1] ?_
    refine aq [3,4,5,6] ?_
    obtain ⟨x16,jv,jw,jh,h⟩:=zP h
    refine aq [7] ?_
    refine z9T (exAtT (T:=z1S) (i:=i_6.toNat) 1 rfl jh) ?_
    rintro ⟨g17,g18,g19⟩
    refine ag [1,1,1,1,1,1,1] ?_
    refine ag [1,1,1,1,1,1,1,1] ?_
    refine ag [1,1,1,1,1,1,1,1,1] ?_
    refine ag [1,1,1,1,1,1,1,1,1,1] ?_
    refine aq [8,9,10,11] ?_
    refine ae [24,55] 55 [5,0,1] [1,2,3,4,5,6,7,8,9,10] (fun s=>[(40,.bool s)]) (decide (x12.Kind≠x16.Kind) || decide (x12.At≠x16.At)) (fun ji=>?_) ?_
    ·refine z1L 28 (decide (x12.Kind≠x16.Kind)) rfl (fun j8=>?_) (fun j8=>?_)
     ·skip
      refine aq [12,13,14,15,16,17,18,19,20,21,22,23] ?_
      exact aw (ji true (by rw [j8]; simp)) [0,1,2,3,4,5,6,7,8,9]
     ·skip
      refine aq [12,13,14,15,16,17,18,19,20,21,22,23] ?_
      exact aw (ji (decide (x12.At≠x16.At)) (by rw [j8]; simp)) [0,1,2,3,4,5,6,7,8,9]
    refine az ?_
    refine aq [24] ?_
    refine ab h [37,42] 42 [5,0,1] [1,2,3,4,5,6,7,8,9,10] (fun s=>[(53,.bool s)]) (fun s=>[]) (fun _ h _ jj=>?_) ?_
    ·refine z1L 41 (decide (x12.Kind≠x16.Kind) || decide (x12.At≠x16.At)) rfl (fun j9=>?_) (fun j9=>?_)
     ·replace h:=z2F h j9
      refine aq [25,26,27,28,29,30,31,32,33,34,35,36] ?_
      exact aw (jj _ (zU h).symm) [0,1,2,3,4,5,6,7,8,9]
     ·replace h:=z2E h j9
      refine aq [25,26] ?_
      obtain ⟨x29,jx,jy,jz,h⟩:=zP h
      refine aq [27,28,29,30,31] ?_
      obtain ⟨x30,jA,jB,jC,h⟩:=zP h
      refine aq [32,33,34,35,36] ?_
      exact aw (jj _ (zU h).symm) [0,1,2,3,4,5,6,7,8,9]
    rintro b23 h
    refine az ?_
    refine aq [37] ?_
    refine ab h [51,28] 28 [5,0,1] [1,2,3,4,5,6,7,8,9,10] (fun s=>[(67,.bool s)]) (fun s=>[]) (fun _ h _ jk=>?_) ?_
    ·refine z1L 54 b23 rfl (fun ja=>?_) (fun ja=>?_)
     ·replace h:=z2F h ja
      refine aq [38,39,40,41,42,43,44,45,46,47,48,49,50] ?_
      exact aw (jk _ (zU h).symm) [0,1,2,3,4,5,6,7,8,9]
     ·replace h:=z2E h ja
      refine aq [38,39] ?_
      obtain ⟨x37,jD,jE,jF,h⟩:=zP h
      refine aq [40,41,42,43,44] ?_
      obtain ⟨x38,jG,jH,jI,h⟩:=zP h
      refine aq [45,46,47] ?_
      refine ao 48 ?_
      obtain ⟨r39,jo,h⟩:=zJ h
      refine at' rfl (tc [(3,0),(7,0)] call19 (zc8 jo)) ?_
      rintro _ _ ⟨_,⟨rfl,rfl⟩,rfl⟩
      refine sb ?_
      refine aq [49,50] ?_
      exact aw (jk _ (zU h).symm) [0,1,2,3,4,5,6,7,8,9]
    rintro b31 h
    refine az ?_
    refine aq [51] ?_
    refine ab h [65,14] 14 [5,0,1] [1,2,3,4,5,6,7,8,9,10] (fun s=>[(81,.bool s)]) (fun s=>[]) (fun _ h _ jl=>?_) ?_
    ·refine z1L 68 b31 rfl (fun jb=>?_) (fun jb=>?_)
     ·replace h:=z2F h jb
      refine aq [52,53,54,55,56,57,58,59,60,61,62,63,64] ?_
      exact aw (jl _ (zU h).symm) [0,1,2,3,4,5,6,7,8,9]
     ·replace h:=z2E h jb
      refine aq [52,53] ?_
      obtain ⟨x47,jJ,jK,jL,h⟩:=zP h
      refine aq [54,55,56,57,58] ?_
      obtain ⟨x48,jM,jN,jO,h⟩:=zP h
      refine aq [59,60,61] ?_
      refine al0 62 [(4,0),(8,0)] call40 (fun h=>q19h h) h (fun r49 h=>?_)
      refine aq [63,64] ?_
      exact aw (jl _ (zU h).symm) [0,1,2,3,4,5,6,7,8,9]
    rintro b41 h
    refine az ?_
    refine aq [65] ?_
    refine ab h [79] 0 [5,0,1] [1,2,3,4,5,6,7,8,9,10] (fun s=>[(95,.bool s)]) (fun s=>[]) (fun _ h _ jm=>?_) ?_
    ·refine z1L 82 b41 rfl (fun jc=>?_) (fun jc=>?_)
     ·replace h:=z2F h jc
      refine aq [66,67,68,69,70,71,72,73,74,75,76,77,78] ?_
      exact aw (jm _ (zU h).symm) [0,1,2,3,4,5,6,7,8,9]
     ·replace h:=z2E h jc
      refine aq [66,67] ?_
      obtain ⟨x57,jP,jQ,jR,h⟩:=zP h
      refine aq [68,69,70,71,72] ?_
      obtain ⟨x58,jS,jT,jU,h⟩:=zP h
      refine aq [73,74,75] ?_
      refine al0 76 [(5,0),(9,0)] call40 (fun h=>q19h h) h (fun r59 h=>?_)
      refine aq [77,78] ?_
      exact aw (jm _ (zU h).symm) [0,1,2,3,4,5,6,7,8,9]
    rintro b51 h
    refine az ?_
    refine z1K (by kernel_rfl) ?_
    refine yc 1 h (fun _ h=>?_) fun _ h=>?_
    ·refine yn 4 ?_
     obtain rfl:=zU h
     obtain rfl:=j0 _ rfl
     skip
     obtain rfl:=zM ho3
     exact ft [4] [] results40
    ·refine yn 5 ?_
     exact gj j4 () [0,1] h
   ·refine z1h _ rfl ?_
    exact gk hL4 j0 () [] h
  rintro _ _ h
  refine rs ?_
  refine yn 4 ?_
  exact fs [4] [] results40 h
def z6P:Nat→(List zm)→(List zm)→Option (Bool)
 | 0=>fun _ _=>none
 | n+1=>z6l n  (z6P n )
theorem zc7 {n:Nat}:K15 (z6P n) 40:=by
 induction n with
 | zero=>intro _ _ _ _ _  h; cases h
 | succ n ih=>exact zcH ih
end Go.Proofs.YtcmaoifiiigggaaGreatDoor
