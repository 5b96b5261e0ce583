/-
  Functions of the program, lifted: part 14.
-/
import Derived.Test.YtcmaoifiiigggaaGreatDoorV8Fm
set_option linter.unusedSimpArgs false
set_option linter.unusedVariables false
namespace Go.Proofs.YtcmaoifiiigggaaGreatDoor
open Go.Abs Tryz
set_option maxRecDepth 20000
set_option maxHeartbeats 4000000
def z7L (n:Nat) (a_0:(List zl)) (b_1:(List zl)) (q14r:(List zl)→(List zl)→Option (Bool)):(Int)→Option (Lp (Int) (Lp (Unit) (Bool))):=
 fun i_6=>
  cond (decide (i_6<(a_0.length:Int)))
   (idx a_0 i_6 fun x12=>
   idx b_1 i_6 fun x15=>
   bindJ (S:=Bool)
    (cond (decide (x12.Kind ≠ x15.Kind) || decide (x12.At ≠ x15.At))
     (some (.go true))
     (idx a_0 i_6 fun x27=>
     idx b_1 i_6 fun x28=>
     some (.go (!decide (x12.Name=x15.Name)))))
   (fun b21 =>
    bindJ (S:=Bool)
     (cond b21
      (some (.go true))
      (idx a_0 i_6 fun x35=>
      idx b_1 i_6 fun x36=>
      some (.go (!(decide (x12.Amount.Number=x15.Amount.Number) && (decide (x12.Amount.Unit=x15.Amount.Unit) && (decide (x12.Amount.At=x15.Amount.At))))))))
    (fun b29 =>
     bindJ (S:=Bool)
      (cond b29
       (some (.go true))
       (idx a_0 i_6 fun x43=>
       idx b_1 i_6 fun x44=>
       some (.go (!decide (x12.Default=x15.Default)))))
     (fun b37 =>
      bindJ (S:=Bool)
       (cond b37
        (some (.go true))
        (idx a_0 i_6 fun x51=>
        idx b_1 i_6 fun x52=>
        some (.go (!(x12.HasDefault == x15.HasDefault)))))
      (fun b45 =>
       bindJ (S:=Bool)
        (cond b45
         (some (.go true))
         (idx a_0 i_6 fun x59=>
         idx b_1 i_6 fun x60=>
         obind (z9h n x12.Texts x15.Texts) fun r61=>
         some (.go (!r61))))
       (fun b53 =>
        bindJ (S:=Bool)
         (cond b53
          (some (.go true))
          (idx a_0 i_6 fun x69=>
          idx b_1 i_6 fun x70=>
          obind (q14r x12.Conds x15.Conds) fun r71=>
          some (.go (!r71))))
        (fun b63 =>
         cond b63
          (some (.stop (.stop false)))
          (some (.go (IntKind.i64.wrap (i_6+1)))))))))))
   (some (.stop (.go ())))
def z5k (n:Nat) (q14r:(List zl)→(List zl)→Option (Bool)) (a_0:(List zl)) (b_1:(List zl)):Option (Bool):=
 cond (decide ((a_0.length:Int)≠(b_1.length:Int)))
  (some false)
  (bindJ (S := Unit)
   (iter (z7L n a_0 b_1 q14r) n 0)
  (fun _ =>
   some true))
theorem zbh {n:Nat} {q14r:(List zl)→(List zl)→Option (Bool)} (q15h:K13 q14r 89):K13 (z5k n q14r) 89:=by
 intro a_0 b_1 j2 j3 r h
 refine zN func89 rfl ntmps89 rfl (fun w0 o0=>?_)
 refine yc 6 h (fun _ h=>?_) fun _ h=>?_
 ·refine yn 4 ?_
  exact fs [4] [] results89 h
 ·refine run_skip (zD (jr h [] [] (fun s (g:Unit)=>[]) (fun s g=>[]) (fun _ h ho3 _ hL4=>?_) ?_))
  ·refine yn 4 ?_
   refine lo h [0,1] [1,2] (fun s (g:Unit)=>[(5,.int .i64 s)]) (fun s g=>[]) () [0,1] ?_
   rintro i_6 _ _ h _ j4 j0
   refine rs ?_
   refine yc 4 h (fun _ h=>?_) fun _ h=>?_
   ·refine yn 4 ?_
    refine rf [1,1] fun hS=>?_
    refine aq [0,1] ?_
    obtain ⟨x12,je,jf,j1,h⟩:=zP h
    refine aq [2] ?_
    refine z9T (exAtT (T:=z1W) (i:=i_6.toNat) 0 rfl j1) ?_
    rintro ⟨g13,g14⟩
    refine ag [1,1,1] ?_
    refine ag [1,1,1,1] ?_
    refine ag [1,1,1,1,1] ?_
    refine aq [3,4,5,6] ?_
    obtain ⟨x15,ju,jv,jg,h⟩:=zP h
    refine aq [7] ?_
    refine z9T (exAtT (T:=z1W) (i:=i_6.toNat) 1 rfl jg) ?_
    rintro ⟨g16,g17⟩
    refine ag [1,1,1,1,1,1] ?_
    refine ag [1,1,1,1,1,1,1] ?_
    refine ag [1,1,1,1,1,1,1,1] ?_
    refine aq [8,9,10,11] ?_
    refine ae [24,80] 80 [5,0,1] [1,2,3,4,5,6,7,8] (fun s=>[(40,.bool s)]) (decide (x12.Kind≠x15.Kind) || decide (x12.At≠x15.At)) (fun jh=>?_) ?_
    ·refine z1L 28 (decide (x12.Kind≠x15.Kind)) rfl (fun j5=>?_) (fun j5=>?_)
     ·skip
      refine aq [12,13,14,15,16,17,18,19,20,21,22,23] ?_
      exact aw (jh true (by rw [j5]; simp)) [0,1,2,3,4,5,6,7]
     ·skip
      refine aq [12,13,14,15,16,17,18,19,20,21,22,23] ?_
      exact aw (jh (decide (x12.At≠x15.At)) (by rw [j5]; simp)) [0,1,2,3,4,5,6,7]
    refine az ?_
    refine aq [24] ?_
    refine ab h [37,67] 67 [5,0,1] [1,2,3,4,5,6,7,8] (fun s=>[(53,.bool s)]) (fun s=>[]) (fun _ h _ ji=>?_) ?_
    ·refine z1L 41 (decide (x12.Kind≠x15.Kind) || decide (x12.At≠x15.At)) rfl (fun j6=>?_) (fun j6=>?_)
     ·replace h:=z2F h j6
      refine aq [25,26,27,28,29,30,31,32,33,34,35,36] ?_
      exact aw (ji _ (zU h).symm) [0,1,2,3,4,5,6,7]
     ·replace h:=z2E h j6
      refine aq [25,26] ?_
      obtain ⟨x27,jw,jx,jy,h⟩:=zP h
      refine aq [27,28,29,30,31] ?_
      obtain ⟨x28,jz,jA,jB,h⟩:=zP h
      refine aq [32,33,34,35,36] ?_
      exact aw (ji _ (zU h).symm) [0,1,2,3,4,5,6,7]
    rintro b21 h
    refine az ?_
    refine aq [37] ?_
    refine ab h [50,54] 54 [5,0,1] [1,2,3,4,5,6,7,8] (fun s=>[(66,.bool s)]) (fun s=>[]) (fun _ h _ jj=>?_) ?_
    ·refine z1L 54 b21 rfl (fun j7=>?_) (fun j7=>?_)
     ·replace h:=z2F h j7
      refine aq [38,39,40,41,42,43,44,45,46,47,48,49] ?_
      exact aw (jj _ (zU h).symm) [0,1,2,3,4,5,6,7]
     ·replace h:=z2E h j7
      refine aq [38,39] ?_
      obtain ⟨x35,jC,jD,jE,h⟩:=zP h
      refine aq [40,41,42,43,44] ?_
      obtain ⟨x36,jF,jG,jH,h⟩:=zP h
      refine aq [45,46,47] ?_
      refine ai 48 rfl (y_neS (by kernel_rfl) (by kernel_rfl) runUnderlying86 rfl rfl (.cons (zgk (by decide) runUnderlying9 isAgg9 rfl rfl) (.cons (zgk (by decide) runUnderlying9 isAgg9 rfl rfl) (.cons (z7k (by decide) runUnderlying3 isAgg3 rfl rfl) EqFs.nil)))) ?_
      refine aq [49] ?_
      exact aw (jj _ (zU h).symm) [0,1,2,3,4,5,6,7]
    rintro b29 h
    refine az ?_
    refine aq [50] ?_
    refine ab h [63,41] 41 [5,0,1] [1,2,3,4,5,6,7,8] (fun s=>[(79,.bool s)]) (fun s=>[]) (fun _ h _ jk=>?_) ?_
    ·refine z1L 67 b29 rfl (fun j8=>?_) (fun j8=>?_)
     ·replace h:=z2F h j8
      refine aq [51,52,53,54,55,56,57,58,59,60,61,62] ?_
      exact aw (jk _ (zU h).symm) [0,1,2,3,4,5,6,7]
     ·replace h:=z2E h j8
      refine aq [51,52] ?_
      obtain ⟨x43,jI,jJ,jK,h⟩:=zP h
      refine aq [53,54,55,56,57] ?_
      obtain ⟨x44,jL,jM,jN,h⟩:=zP h
      refine aq [58,59,60,61,62] ?_
      exact aw (jk _ (zU h).symm) [0,1,2,3,4,5,6,7]
    rintro b37 h
    refine az ?_
    refine aq [63] ?_
    refine ab h [76,28] 28 [5,0,1] [1,2,3,4,5,6,7,8] (fun s=>[(92,.bool s)]) (fun s=>[]) (fun _ h _ jl=>?_) ?_
    ·refine z1L 80 b37 rfl (fun j9=>?_) (fun j9=>?_)
     ·replace h:=z2F h j9
      refine aq [64,65,66,67,68,69,70,71,72,73,74,75] ?_
      exact aw (jl _ (zU h).symm) [0,1,2,3,4,5,6,7]
     ·replace h:=z2E h j9
      refine aq [64,65] ?_
      obtain ⟨x51,jO,jP,jQ,h⟩:=zP h
      refine aq [66,67,68,69,70] ?_
      obtain ⟨x52,jR,jS,jT,h⟩:=zP h
      refine aq [71,72,73] ?_
      refine ai 74 rfl (zoo runUnderlying4 rfl rfl) ?_
      refine aq [75] ?_
      exact aw (jl _ (zU h).symm) [0,1,2,3,4,5,6,7]
    rintro b45 h
    refine az ?_
    refine aq [76] ?_
    refine ab h [90,14] 14 [5,0,1] [1,2,3,4,5,6,7,8] (fun s=>[(106,.bool s)]) (fun s=>[]) (fun _ h _ jm=>?_) ?_
    ·refine z1L 93 b45 rfl (fun ja=>?_) (fun ja=>?_)
     ·replace h:=z2F h ja
      refine aq [77,78,79,80,81,82,83,84,85,86,87,88,89] ?_
      exact aw (jm _ (zU h).symm) [0,1,2,3,4,5,6,7]
     ·replace h:=z2E h ja
      refine aq [77,78] ?_
      obtain ⟨x59,jU,jV,jW,h⟩:=zP h
      refine aq [79,80,81,82,83] ?_
      obtain ⟨x60,jX,jY,jZ,h⟩:=zP h
      refine aq [84,85,86] ?_
      refine al0 87 [(3,0),(6,0)] call158 (fun h=>zfr h) h (fun r61 h=>?_)
      refine aq [88,89] ?_
      exact aw (jm _ (zU h).symm) [0,1,2,3,4,5,6,7]
    rintro b53 h
    refine az ?_
    refine aq [90] ?_
    refine ab h [104] 0 [5,0,1] [1,2,3,4,5,6,7,8] (fun s=>[(120,.bool s)]) (fun s=>[]) (fun _ h _ jo=>?_) ?_
    ·refine z1L 107 b53 rfl (fun jb=>?_) (fun jb=>?_)
     ·replace h:=z2F h jb
      refine aq [91,92,93,94,95,96,97,98,99,100,101,102,103] ?_
      exact aw (jo _ (zU h).symm) [0,1,2,3,4,5,6,7]
     ·replace h:=z2E h jb
      refine aq [91,92] ?_
      obtain ⟨x69,j00,j01,j02,h⟩:=zP h
      refine aq [93,94,95,96,97] ?_
      obtain ⟨x70,j03,j04,j05,h⟩:=zP h
      refine aq [98,99,100] ?_
      refine al0 101 [(4,0),(7,0)] call89 (fun h=>q15h h) h (fun r71 h=>?_)
      refine aq [102,103] ?_
      exact aw (jo _ (zU h).symm) [0,1,2,3,4,5,6,7]
    rintro b63 h
    refine az ?_
    refine z1K (by kernel_rfl) ?_
    refine yc 1 h (fun _ h=>?_) fun _ h=>?_
    ·refine yn 4 ?_
     obtain rfl:=zU h
     obtain rfl:=j0 _ rfl
     skip
     obtain rfl:=zM ho3
     exact ft [4] [] results89
    ·refine yn 5 ?_
     exact gj j4 () [0,1] h
   ·refine z1h _ rfl ?_
    exact gk hL4 j0 () [] h
  rintro _ _ h
  refine rs ?_
  refine yn 4 ?_
  exact fs [4] [] results89 h
def z63:Nat→(List zl)→(List zl)→Option (Bool)
 | 0=>fun _ _=>none
 | n+1=>z5k n  (z63 n )
theorem zdX {n:Nat}:K13 (z63 n) 89:=by
 induction n with
 | zero=>intro _ _ _ _ _  h; cases h
 | succ n ih=>exact zbh ih
def z96 (n:Nat) (a_0:(List zQ)) (b_1:(List zQ)):(Int)→Option (Lp (Int) (Lp (Unit) (Bool))):=
 fun i_6=>
  cond (decide (i_6<(a_0.length:Int)))
   (idx a_0 i_6 fun x12=>
   idx b_1 i_6 fun x14=>
   bindJ (S:=Bool)
    (cond ((!decide (x12.Name = x14.Name)) || decide (x12.At ≠ x14.At))
     (some (.go true))
     (idx a_0 i_6 fun x25=>
     idx b_1 i_6 fun x26=>
     obind (z63 n x12.Clauses x14.Clauses) fun r27=>
     some (.go (!r27))))
   (fun b19 =>
    cond b19
     (some (.stop (.stop false)))
     (some (.go (IntKind.i64.wrap (i_6+1))))))
   (some (.stop (.go ())))
def z7u (n:Nat) (a_0:(List zQ)) (b_1:(List zQ)):Option (Bool):=
 cond (decide ((a_0.length:Int)≠(b_1.length:Int)))
  (some false)
  (bindJ (S := Unit)
   (iter (z96 n a_0 b_1) n 0)
  (fun _ =>
   some true))
theorem zbp {n:Nat} {a_0:(List zQ)} {b_1:(List zQ)} {j2:Value} {j3:Value} {r:Bool} (h:z7u n a_0 b_1=some r) :
  Meets Tryz.prog 38 [j2,j3] [nro j2 zY a_0,nro j3 zY b_1] (fun v G=>v = .bool r∧G=[]):=by
 refine zN func38 rfl ntmps38 rfl (fun w0 o0=>?_)
 refine yc 6 h (fun _ h=>?_) fun _ h=>?_
 ·refine yn 4 ?_
  exact fs [4] [] results38 h
 ·refine run_skip (zD (jr h [] [] (fun s (g:Unit)=>[]) (fun s g=>[]) (fun _ h ho3 _ hL4=>?_) ?_))
  ·refine yn 4 ?_
   refine lo h [0,1] [1,2] (fun s (g:Unit)=>[(5,.int .i64 s)]) (fun s g=>[]) () [0,1] ?_
   rintro i_6 _ _ h _ j4 j0
   refine rs ?_
   refine yc 4 h (fun _ h=>?_) fun _ h=>?_
   ·refine yn 4 ?_
    refine rf [1,1] fun hS=>?_
    refine aq [0,1] ?_
    obtain ⟨x12,je,jf,j1,h⟩:=zP h
    refine aq [2] ?_
    refine z9T (exAt (C:=zY) (i:=i_6.toNat) 0 rfl j1) ?_
    rintro (g13:Value)
    refine ag [1,1,1] ?_
    refine ag [1,1,1,1] ?_
    refine aq [3,4,5,6] ?_
    obtain ⟨x14,j06,j07,jp,h⟩:=zP h
    refine aq [7] ?_
    refine z9T (exAt (C:=zY) (i:=i_6.toNat) 1 rfl jp) ?_
    rintro (g15:Value)
    refine ag [1,1,1,1,1] ?_
    refine ag [1,1,1,1,1,1] ?_
    refine aq [8,9,10,11] ?_
    refine ae [24,14] 14 [5,0,1] [1,2,3,4,5,6] (fun s=>[(40,.bool s)]) ((!decide (x12.Name=x14.Name)) || decide (x12.At≠x14.At)) (fun jq=>?_) ?_
    ·refine z1L 28 (!decide (x12.Name=x14.Name)) rfl (fun jc=>?_) (fun jc=>?_)
     ·skip
      refine aq [12,13,14,15,16,17,18,19,20,21,22,23] ?_
      exact aw (jq true (by rw [jc]; simp)) [0,1,2,3,4,5]
     ·skip
      refine aq [12,13,14,15,16,17,18,19,20,21,22,23] ?_
      exact aw (jq (decide (x12.At≠x14.At)) (by rw [jc]; simp)) [0,1,2,3,4,5]
    refine az ?_
    refine aq [24] ?_
    refine ab h [38] 0 [5,0,1] [1,2,3,4,5,6] (fun s=>[(54,.bool s)]) (fun s=>[]) (fun _ h _ js=>?_) ?_
    ·refine z1L 41 ((!decide (x12.Name=x14.Name)) || decide (x12.At≠x14.At)) rfl (fun jd=>?_) (fun jd=>?_)
     ·replace h:=z2F h jd
      refine aq [25,26,27,28,29,30,31,32,33,34,35,36,37] ?_
      exact aw (js _ (zU h).symm) [0,1,2,3,4,5]
     ·replace h:=z2E h jd
      refine aq [25,26] ?_
      obtain ⟨x25,j08,j09,j0a,h⟩:=zP h
      refine aq [27,28,29,30,31] ?_
      obtain ⟨x26,j0b,j0c,j0d,h⟩:=zP h
      refine aq [32,33,34] ?_
      refine ao 35 ?_
      obtain ⟨r27,jt,h⟩:=zJ h
      refine at' rfl (tc [(3,0),(5,0)] call89 (zdX jt)) ?_
      rintro _ _ ⟨_,⟨rfl,rfl⟩,rfl⟩
      refine sb ?_
      refine aq [36,37] ?_
      exact aw (js _ (zU h).symm) [0,1,2,3,4,5]
    rintro b19 h
    refine az ?_
    refine z1K (by kernel_rfl) ?_
    refine yc 1 h (fun _ h=>?_) fun _ h=>?_
    ·refine yn 4 ?_
     obtain rfl:=zU h
     obtain rfl:=j0 _ rfl
     skip
     obtain rfl:=zM ho3
     exact ft [4] [] results38
    ·refine yn 5 ?_
     exact gj j4 () [0,1] h
   ·refine z1h _ rfl ?_
    exact gk hL4 j0 () [] h
  rintro _ _ h
  refine rs ?_
  refine yn 4 ?_
  exact fs [4] [] results38 h
end Go.Proofs.YtcmaoifiiigggaaGreatDoor
