/-
  Functions that the law ParserPrintsAsSpecified needs, lifted.
-/
import Derived.Test.YtcmaoifiiigggaaGreatDoorV9M22
import Derived.Test.YtcmaoifiiigggaaGreatDoorV9FaOwn
import Derived.Test.YtcmaoifiiigggaaGreatDoorFl
set_option linter.unusedSimpArgs false
set_option linter.unusedVariables false
namespace Go.Proofs.YtcmaoifiiigggaaGreatDoor
open Go.Abs
set_option maxRecDepth 20000
set_option maxHeartbeats 4000000
def zeH (most_1:Int) (x16:zl):(Int×Int)→Option (Lp (Int×Int) (Lp (Int) (Lp (Int×Int) (Lp (Int) (Int))))):=
 fun (n_37,k_38)=>
  cond (decide (k_38<(x16.Texts.length:Int)))
   (idx x16.Texts k_38 fun x44=>
   cond (decide (300<(x44.length:Int)))
    (some (.stop (.stop (.stop (.stop (IntKind.i64.wrap (most_1+1)))))))
    (some (.go ((IntKind.i64.wrap (n_37+1)),(IntKind.i64.wrap (k_38+1))))))
   (some (.stop (.go n_37)))
def zeG (n:Nat) (l_0:(List zl)) (most_1:Int) (q0r:(List zl)→Int→Option (Int)):(Int×Int)→Option (Lp (Int×Int) (Lp (Int) (Int))):=
 fun (n_6,i_7)=>
  cond (decide (i_7<(l_0.length:Int)) && decide (n_6≤most_1))
   (idx l_0 i_7 fun x16=>
   cond (((decide (300<(x16.Name.length:Int)) || decide (300<(x16.Default.length:Int))) || decide (300<(x16.Amount.Number.length:Int))) || decide (300<(x16.Amount.Unit.length:Int)))
    (some (.stop (.stop (IntKind.i64.wrap (most_1+1)))))
    (bindJ (S := Int)
     (iter (zeH most_1 x16) n (n_6,0))
    (fun n_32 =>
     obind (q0r x16.Conds (IntKind.i64.wrap (most_1 - n_32))) fun r46=>
     some (.go ((IntKind.i64.wrap ((IntKind.i64.wrap (n_32+1))+r46)),(IntKind.i64.wrap (i_7+1)))))))
   (some (.stop (.go n_6)))
def z9E (n:Nat) (q0r:(List zl)→Int→Option (Int)) (l_0:(List zl)) (most_1:Int):Option (Int):=
 bindJ (S:=Int)
  (iter (zeG n l_0 most_1 q0r) n (0,0))
 (fun n_1 =>
  some n_1)
theorem zbO {n:Nat} {q0r:(List zl)→Int→Option (Int)} (q1h:K25 q0r 63):K25 (z9E n q0r) 63:=by
 intro l_0 most_1 l_0v r h
 refine zN Tryz.func63 rfl Tryz.ntmps63 rfl (fun w0 o0=>?_)
 refine zh ?_
 refine ys ?_
 refine za ?_
 refine ys ?_
 refine zd ?_
 refine jr h [] [] (fun s (g:Unit)=>[(5,.int .i64 s)]) (fun s g=>[]) (fun _ h ho3 _ hL4=>?_) ?_
 ·refine zh ?_
  refine ys ?_
  refine zd ?_
  refine zF ?_
  refine lo h [0,1] [1] (fun s (g:Unit)=>[(5,.int .i64 s.1),(6,.int .i64 s.2)]) (fun s g=>[]) () [0] ?_
  rintro ⟨n_6,i_7⟩ _ _ h _ hgo9 hstop10
  refine rs ?_
  refine zH ?_
  refine zh ?_
  refine ys ?_
  refine oq 4 13 17 [5,6,0,1] [0] (decide (i_7<(l_0.length:Int)) && decide (n_6≤most_1)) ?_
  refine zd ?_
  refine rc h (fun _ h=>?_) (fun _ h=>?_)
  ·refine run_skip ?_
   refine zg ?_
   refine zF ?_
   refine zh ?_
   refine ys ?_
   obtain ⟨x16,hzx16,hlx16,hxx16,h⟩:=zP h
   refine ys ?_
   refine z4a (exAtT (T:=z1W) (i:=i_7.toNat) 0 rfl hxx16) ?_
   rintro ⟨g17,g18⟩
   refine ys ?_
   refine al fun b19=>?_
   refine ys ?_
   refine zc ?_
   refine zh ?_
   refine ys ?_
   refine oe 5 [5,6,0,1,7] [1,3,4,5] (fun s=>[(33,.bool s)]) (decide (300<(x16.Name.length:Int)) || decide (300<(x16.Default.length:Int))) (fun _ hL23=>?_) ?_
   ·refine z1c 28 (decide (300<(x16.Name.length:Int))) rfl (fun hg24=>?_) (fun hg24=>?_)
    ·skip
     refine ys ?_
     refine oh [0,2,3,4] [nro l_0v zp l_0,ro g17 1 (x16.Texts.map eStr),nro g18 zp x16.Conds,box b19 [.int .i64 x16.Kind,.int .i64 x16.At,.string (bs x16.Name),g17,.string (bs x16.Amount.Number),.string (bs x16.Amount.Unit),.int .i64 x16.Amount.At,.string (bs x16.Default),.bool x16.HasDefault,g18]] ?_
     refine ys ?_
     refine zr ?_
     exact gc hL23 true [0,1,2,3] (hi:=by rw [hg24]; simp)
    ·skip
     refine ys ?_
     refine oh [0,2,3,4] [nro l_0v zp l_0,ro g17 1 (x16.Texts.map eStr),nro g18 zp x16.Conds,box b19 [.int .i64 x16.Kind,.int .i64 x16.At,.string (bs x16.Name),g17,.string (bs x16.Amount.Number),.string (bs x16.Amount.Unit),.int .i64 x16.Amount.At,.string (bs x16.Default),.bool x16.HasDefault,g18]] ?_
     refine ys ?_
     refine zr ?_
     exact gc hL23 (decide (300<(x16.Default.length:Int))) [0,1,2,3] (hi:=by rw [hg24]; simp)
   refine os ?_
   refine ys ?_
   refine oq 6 34 40 [5,6,0,1,7] [0,1,2,3] ((decide (300<(x16.Name.length:Int)) || decide (300<(x16.Default.length:Int))) || decide (300<(x16.Amount.Number.length:Int))) ?_
   refine ys ?_
   refine oq 6 41 47 [5,6,0,1,7] [0,1,2,3] (((decide (300<(x16.Name.length:Int)) || decide (300<(x16.Default.length:Int))) || decide (300<(x16.Amount.Number.length:Int))) || decide (300<(x16.Amount.Unit.length:Int))) ?_
   refine zd ?_
   refine rc h (fun _ h=>?_) (fun _ h=>?_)
   ·refine zh ?_
    refine ys ?_
    refine zd ?_
    refine zA ?_
    obtain rfl:=zU h
    obtain rfl:=hstop10 _ rfl
    skip
    obtain rfl:=zM ho3
    exact ft [4] [] Tryz.results63
   ·refine run_skip ?_
    refine zD ?_
    refine jr h [0,1,6,7] [1,4,2,3] (fun s (g:Unit)=>[(5,.int .i64 s)]) (fun s g=>[]) (fun _ h ho34 _ hL35=>?_) ?_
    ·refine zh ?_
     refine ys ?_
     refine zd ?_
     refine zF ?_
     refine lo h [0,1,6,7] [1,4,2,3] (fun s (g:Unit)=>[(5,.int .i64 s.1),(8,.int .i64 s.2)]) (fun s g=>[]) () [0,3,1,2] ?_
     rintro ⟨_,_⟩ _ _ h _ hgo40 hstop41
     refine rs ?_
     refine zH ?_
     refine zh ?_
     refine ys ?_
     refine zd ?_
     refine rc h (fun _ h=>?_) (fun _ h=>?_)
     ·refine run_skip ?_
      refine zg ?_
      refine zF ?_
      refine zh ?_
      refine ys ?_
      refine zc ?_
      refine rj [5,8,0,1,6,7] [0,1,2,3] ?_
      refine z8 ?_
      refine ys ?_
      obtain ⟨x44,hzx44,hlx44,hxx44,h⟩:=zP h
      refine ys ?_
      refine zd ?_
      refine rc h (fun _ h=>?_) (fun _ h=>?_)
      ·refine zh ?_
       refine ys ?_
       refine zd ?_
       refine zA ?_
       obtain rfl:=zU h
       obtain rfl:=hstop41 _ rfl
       skip
       obtain rfl:=zM ho34
       skip
       obtain rfl:=hstop10 _ rfl
       skip
       obtain rfl:=zM ho3
       exact ft [4] [] Tryz.results63
      ·refine run_skip ?_
       refine zS ?_
       refine zf ?_
       refine ys ?_
       refine zr ?_
       exact gj hgo40 () [0,1,2,3] h
     ·refine z1h _ rfl ?_
      exact gk hL35 hstop41 () [0,1,2,3] h
    rintro n_32 _ h
    refine rs ?_
    refine z8 ?_
    refine ys ?_
    refine cl0 [(3,0)] Tryz.call63 (fun h=>q1h h) h (fun r46 h=>?_)
    refine ys ?_
    refine zr ?_
    refine zS ?_
    refine zD ?_
    refine rj [5,0,1,6] [0] ?_
    refine z8 ?_
    refine ys ?_
    refine zr ?_
    exact gj hgo9 () [0] h
  ·refine z1h _ rfl ?_
   exact gk hL4 hstop10 () [] h
 rintro n_1 _ h
 refine rs ?_
 refine zh ?_
 refine ys ?_
 refine zd ?_
 refine zA ?_
 exact fs [4] [] Tryz.results63 h
def zad:Nat→(List zl)→Int→Option (Int)
 | 0=>fun _ _=>none
 | n+1=>z9E n  (zad n )
theorem zeI {n:Nat}:K25 (zad n) 63:=by
 induction n with
 | zero=>intro _ _ _ _  h; cases h
 | succ n ih=>exact zbO ih
def zir (x_0:zi) (most_1:Int) (q2r:zi→Int→Option (Int)):(Int×Int)→Option (Lp (Int×Int) (Lp (Int) (Int))):=
 fun (n_8,i_9)=>
  cond (decide (i_9<(x_0.Args.length:Int)) && decide (n_8≤most_1))
   (idx x_0.Args i_9 fun x18=>
   obind (q2r x18 (IntKind.i64.wrap (most_1 - n_8))) fun r20=>
   some (.go ((IntKind.i64.wrap (n_8+r20)),(IntKind.i64.wrap (i_9+1)))))
   (some (.stop (.go n_8)))
def zcT (n:Nat) (q2r:zi→Int→Option (Int)) (x_0:zi) (most_1:Int):Option (Int):=
 cond (decide (300<(x_0.S.length:Int)))
  (some (IntKind.i64.wrap (most_1+1)))
  (bindJ (S := Int)
   (iter (zir x_0 most_1 q2r) n (1,0))
  (fun n_3 =>
   some n_3))
theorem zeO {n:Nat} {q2r:zi→Int→Option (Int)} (q3h:K26 q2r 65):K26 (zcT n q2r) 65:=by
 intro x_0 most_1 x_0_Argsv r h
 refine zN Tryz.func65 rfl Tryz.ntmps65 rfl (fun w0 o0=>?_)
 refine zh ?_
 refine zt (t_box rfl) ?_
 rintro _ _ ⟨b1,rfl,rfl⟩
 refine ys ?_
 refine zc ?_
 refine zh ?_
 refine ys ?_
 refine zd ?_
 refine rc h (fun _ h=>?_) (fun _ h=>?_)
 ·refine zh ?_
  refine ys ?_
  refine zd ?_
  refine zA ?_
  exact fs [4] [] Tryz.results65 h
 ·refine run_skip ?_
  refine ze ?_
  refine ys ?_
  refine zd ?_
  refine jr h [] [] (fun s (g:Unit)=>[(5,.int .i64 s)]) (fun s g=>[]) (fun _ h _ _ hL6=>?_) ?_
  ·refine zh ?_
   refine ys ?_
   refine zd ?_
   refine zF ?_
   refine lo h [1,2] [2,1] (fun s (g:Unit)=>[(5,.int .i64 s.1),(6,.int .i64 s.2)]) (fun s g=>[]) () [1,0] ?_
   rintro ⟨n_8,i_9⟩ _ _ h _ hgo11 hstop12
   refine rs ?_
   refine zH ?_
   refine zh ?_
   refine ys ?_
   refine oq 4 18 22 [5,6,1,2] [0,1] (decide (i_9<(x_0.Args.length:Int)) && decide (n_8≤most_1)) ?_
   refine zd ?_
   refine rc h (fun _ h=>?_) (fun _ h=>?_)
   ·refine run_skip ?_
    refine zg ?_
    refine zF ?_
    refine z8 ?_
    refine ys ?_
    obtain ⟨x18,hzx18,hlx18,hxx18,h⟩:=zP h
    refine ys ?_
    refine z4a (exAtT (T:=z1b) (i:=i_9.toNat) 1 rfl hxx18) ?_
    rintro (g19:Value)
    refine ys ?_
    refine cl0 [(3,0)] Tryz.call65 (fun h=>q3h h) h (fun r20 h=>?_)
    refine ys ?_
    refine zr ?_
    refine zS ?_
    refine zD ?_
    refine rj [5,6,1,2] [0,1] ?_
    refine z8 ?_
    refine ys ?_
    refine zr ?_
    exact gj hgo11 () [0,1] h
   ·refine z1h _ rfl ?_
    exact gk hL6 hstop12 () [] h
  rintro n_3 _ h
  refine rs ?_
  refine zh ?_
  refine ys ?_
  refine zd ?_
  refine zA ?_
  exact fs [4] [] Tryz.results65 h
def zdk:Nat→zi→Int→Option (Int)
 | 0=>fun _ _=>none
 | n+1=>zcT n  (zdk n )
theorem zeP {n:Nat}:K26 (zdk n) 65:=by
 induction n with
 | zero=>intro _ _ _ _  h; cases h
 | succ n ih=>exact zeO ih
def zfP (n:Nat) (l_0:(List zm)) (most_1:Int) (q4r:(List zm)→Int→Option (Int)):(Int×Int)→Option (Lp (Int×Int) (Lp (Int) (Int))):=
 fun (n_6,i_7)=>
  cond (decide (i_7<(l_0.length:Int)) && decide (n_6≤most_1))
   (idx l_0 i_7 fun x16=>
   cond (decide (300<(x16.Name.length:Int)))
    (some (.stop (.stop (IntKind.i64.wrap (most_1+1)))))
    (obind (zdk n x16.X (IntKind.i64.wrap (most_1 - n_6))) fun r21=>
    obind (q4r x16.Body (IntKind.i64.wrap (most_1 - (IntKind.i64.wrap ((IntKind.i64.wrap (n_6+1))+r21))))) fun r26=>
    obind (q4r x16.Else (IntKind.i64.wrap (most_1 - (IntKind.i64.wrap ((IntKind.i64.wrap ((IntKind.i64.wrap (n_6+1))+r21))+r26))))) fun r31=>
    some (.go ((IntKind.i64.wrap ((IntKind.i64.wrap ((IntKind.i64.wrap ((IntKind.i64.wrap (n_6+1))+r21))+r26))+r31)),(IntKind.i64.wrap (i_7+1))))))
   (some (.stop (.go n_6)))
def zaE (n:Nat) (q4r:(List zm)→Int→Option (Int)) (l_0:(List zm)) (most_1:Int):Option (Int):=
 bindJ (S:=Int)
  (iter (zfP n l_0 most_1 q4r) n (0,0))
 (fun n_1 =>
  some n_1)
theorem zcF {n:Nat} {q4r:(List zm)→Int→Option (Int)} (q5h:K27 q4r 64):K27 (zaE n q4r) 64:=by
 intro l_0 most_1 l_0v r h
 refine zN Tryz.func64 rfl Tryz.ntmps64 rfl (fun w0 o0=>?_)
 refine zh ?_
 refine ys ?_
 refine za ?_
 refine ys ?_
 refine zd ?_
 refine jr h [] [] (fun s (g:Unit)=>[(5,.int .i64 s)]) (fun s g=>[]) (fun _ h ho3 _ hL4=>?_) ?_
 ·refine zh ?_
  refine ys ?_
  refine zd ?_
  refine zF ?_
  refine lo h [0,1] [1] (fun s (g:Unit)=>[(5,.int .i64 s.1),(6,.int .i64 s.2)]) (fun s g=>[]) () [0] ?_
  rintro ⟨n_6,i_7⟩ _ _ h _ hgo9 hstop10
  refine rs ?_
  refine zH ?_
  refine zh ?_
  refine ys ?_
  refine oq 4 11 15 [5,6,0,1] [0] (decide (i_7<(l_0.length:Int)) && decide (n_6≤most_1)) ?_
  refine zd ?_
  refine rc h (fun _ h=>?_) (fun _ h=>?_)
  ·refine run_skip ?_
   refine zg ?_
   refine zF ?_
   refine zH ?_
   refine zh ?_
   refine ys ?_
   obtain ⟨x16,hzx16,hlx16,hxx16,h⟩:=zP h
   refine ys ?_
   refine z4a (exAtT (T:=z1S) (i:=i_7.toNat) 0 rfl hxx16) ?_
   rintro ⟨g17,g18,g19⟩
   refine ys ?_
   refine zd ?_
   refine rc h (fun _ h=>?_) (fun _ h=>?_)
   ·refine zh ?_
    refine ys ?_
    refine zd ?_
    refine zA ?_
    obtain rfl:=zU h
    obtain rfl:=hstop10 _ rfl
    skip
    obtain rfl:=zM ho3
    exact ft [4] [] Tryz.results64
   ·refine run_skip ?_
    refine ze ?_
    refine ys ?_
    refine oh [0,2] [nro l_0v zE l_0,nro g17 zj x16.X.Args] ?_
    refine ys ?_
    obtain ⟨r21,hr22,h⟩:=zJ h
    refine zt (tc [(1,0)] Tryz.call65 (zeP hr22)) ?_
    rintro _ _ ⟨_,⟨rfl,rfl⟩,rfl⟩
    refine ys ?_
    refine za ?_
    refine ys ?_
    refine z4a (exAtT (T:=z1S) (i:=i_7.toNat) 0 rfl hxx16) ?_
    rintro ⟨g23,g24,g25⟩
    refine ys ?_
    refine cl0 [(4,0)] Tryz.call64 (fun h=>q5h h) h (fun r26 h=>?_)
    refine ys ?_
    refine zd ?_
    refine rj [6,0,1,5] [0] ?_
    refine z8 ?_
    refine ys ?_
    refine z4a (exAtT (T:=z1S) (i:=i_7.toNat) 0 rfl hxx16) ?_
    rintro ⟨g28,g29,g30⟩
    refine ys ?_
    refine cl0 [(4,0)] Tryz.call64 (fun h=>q5h h) h (fun r31 h=>?_)
    refine ys ?_
    refine zr ?_
    refine zS ?_
    refine zD ?_
    refine rj [6,0,1,5] [0] ?_
    refine z8 ?_
    refine ys ?_
    refine zr ?_
    exact gj hgo9 () [0] h
  ·refine z1h _ rfl ?_
   exact gk hL4 hstop10 () [] h
 rintro n_1 _ h
 refine rs ?_
 refine zh ?_
 refine ys ?_
 refine zd ?_
 refine zA ?_
 exact fs [4] [] Tryz.results64 h
def zbL:Nat→(List zm)→Int→Option (Int)
 | 0=>fun _ _=>none
 | n+1=>zaE n  (zbL n )
theorem zfQ {n:Nat}:K27 (zbL n) 64:=by
 induction n with
 | zero=>intro _ _ _ _  h; cases h
 | succ n ih=>exact zcF ih
def zk4 (n:Nat) (x_0:zG) (most_1:Int) (i_8:Int):(Int×Int)→Option (Lp (Int×Int) (Lp (Int) (Lp (Int×Int) (Lp (Int) (Bool))))):=
 fun (n_25,k_26)=>
  idx x_0.Policies i_8 fun x31=>
  cond (decide (k_26<(x31.Rules.length:Int)) && decide (n_25≤most_1))
   (idx x31.Rules k_26 fun x38=>
   cond (decide (300<(x38.Name.length:Int)))
    (some (.stop (.stop (.stop (.stop false)))))
    (obind (zad n x38.Clauses (IntKind.i64.wrap (most_1 - n_25))) fun r43=>
    some (.go ((IntKind.i64.wrap ((IntKind.i64.wrap (n_25+1))+r43)),(IntKind.i64.wrap (k_26+1))))))
   (some (.stop (.go n_25)))
def zk3 (n:Nat) (x_0:zG) (most_1:Int):(Int×Int)→Option (Lp (Int×Int) (Lp (Int) (Bool))):=
 fun (n_7,i_8)=>
  cond (decide (i_8<(x_0.Policies.length:Int)) && decide (n_7≤most_1))
   (bindJ (S := Int)
    (idx x_0.Policies i_8 fun x22=>
    cond (decide (300<(x22.Name.length:Int)))
     (some (.stop (.stop (.stop false))))
     (iter (zk4 n x_0 most_1 i_8) n (n_7,0)))
   (fun n_17 =>
    some (.go (n_17,(IntKind.i64.wrap (i_8+1))))))
   (some (.stop (.go n_7)))
def zk5 (n:Nat) (x_0:zG) (most_1:Int):(Int×Int)→Option (Lp (Int×Int) (Lp (Int) (Bool))):=
 fun (n_50,i_51)=>
  cond (decide (i_51<(x_0.Programs.length:Int)) && decide (n_50≤most_1))
   (idx x_0.Programs i_51 fun x60=>
   cond (decide (300<(x60.Name.length:Int)))
    (some (.stop (.stop false)))
    (obind (zbL n x60.Code (IntKind.i64.wrap (most_1 - n_50))) fun r66=>
    some (.go ((IntKind.i64.wrap ((IntKind.i64.wrap (n_50+(x60.Effects.length:Int)))+r66)),(IntKind.i64.wrap (i_51+1))))))
   (some (.stop (.go n_50)))
def zii (n:Nat) (x_0:zG) (most_1:Int):Option (Bool):=
 bindJ (S:=Int)
  (iter (zk3 n x_0 most_1) n ((IntKind.i64.wrap ((x_0.Policies.length:Int)+(x_0.Programs.length:Int))),0))
 (fun n_2 =>
  bindJ (S:=Int)
   (iter (zk5 n x_0 most_1) n (n_2,0))
  (fun n_45 =>
   some (decide (n_45≤most_1))))
theorem zgB {n:Nat} {x_0:zG} {most_1:Int} {x_0_Policiesv:Value} {x_0_Programsv:Value} {r:Bool} (h:zii n x_0 most_1=some r) :
  Meets Tryz.prog 25 [.agg #[x_0_Policiesv,x_0_Programsv],.int .i64 most_1] [nro x_0_Policiesv zz x_0.Policies,nro x_0_Programsv zw x_0.Programs] (fun v G=>v = .bool r∧G=[]):=by
 refine zN Tryz.func25 rfl Tryz.ntmps25 rfl (fun w0 o0=>?_)
 refine zh ?_
 refine zt (t_box rfl) ?_
 rintro _ _ ⟨b1,rfl,rfl⟩
 refine ys ?_
 refine za ?_
 refine ys ?_
 refine zd ?_
 refine jr h [1,2] [3,1,2] (fun s (g:Unit)=>[(5,.int .i64 s)]) (fun s g=>[]) (fun _ h ho4 _ hL5=>?_) ?_
 ·refine zH ?_
  refine rj [1,2,5] [0,1,2] ?_
  refine z8 ?_
  refine ys ?_
  refine zd ?_
  refine zF ?_
  refine lo h [1,2] [3,1,2] (fun s (g:Unit)=>[(5,.int .i64 s.1),(6,.int .i64 s.2)]) (fun s g=>[]) () [2,0,1] ?_
  rintro ⟨n_7,i_8⟩ _ _ h _ hgo10 hstop11
  refine rs ?_
  refine zH ?_
  refine zh ?_
  refine ys ?_
  refine oq 4 21 25 [5,6,1,2] [0,1,2] (decide (i_8<(x_0.Policies.length:Int)) && decide (n_7≤most_1)) ?_
  refine zd ?_
  refine rc h (fun _ h=>?_) (fun _ h=>?_)
  ·refine run_skip ?_
   refine zD ?_
   refine jr h [1,2,6] [1,2,3] (fun s (g:Unit)=>[(5,.int .i64 s)]) (fun s g=>[]) (fun _ h ho19 _ hL20=>?_) ?_
   ·refine zF ?_
    refine zH ?_
    refine zh ?_
    refine ys ?_
    obtain ⟨x22,hzx22,hlx22,hxx22,h⟩:=zP h
    refine ys ?_
    refine z4a (exAt (C:=zz) (i:=i_8.toNat) 1 rfl hxx22) ?_
    rintro (g23:Value)
    refine ys ?_
    refine zd ?_
    refine rc h (fun _ h=>?_) (fun _ h=>?_)
    ·refine zH ?_
     refine rj [] [] ?_
     refine z8 ?_
     refine ys ?_
     refine zd ?_
     refine zA ?_
     obtain rfl:=zU h
     obtain rfl:=zM ho19
     skip
     obtain rfl:=hstop11 _ rfl
     skip
     obtain rfl:=zM ho4
     exact ft [4] [] Tryz.results25
    ·refine run_skip ?_
     refine zg ?_
     refine rj [5,6,1,2] [0,1,2] ?_
     refine z8 ?_
     refine ys ?_
     refine zd ?_
     refine zF ?_
     refine lo h [1,2,6] [1,2,3] (fun s (g:Unit)=>[(5,.int .i64 s.1),(7,.int .i64 s.2)]) (fun s g=>[]) () [0,1,2] ?_
     rintro ⟨n_25,k_26⟩ _ _ h _ hgo28 hstop29
     refine rs ?_
     refine zH ?_
     refine zh ?_
     refine ys ?_
     obtain ⟨x31,hzx31,hlx31,hxx31,h⟩:=zP h
     refine ys ?_
     refine z4a (exAt (C:=zz) (i:=i_8.toNat) 1 rfl hxx31) ?_
     rintro (g32:Value)
     refine ys ?_
     refine oq 4 45 49 [5,7,1,2,6] [0,1,2] (decide (k_26<(x31.Rules.length:Int)) && decide (n_25≤most_1)) ?_
     refine zd ?_
     refine rc h (fun _ h=>?_) (fun _ h=>?_)
     ·refine run_skip ?_
      refine zg ?_
      refine zF ?_
      refine zH ?_
      refine zh ?_
      refine ys ?_
      refine z4a (exAt (C:=zz) (i:=i_8.toNat) 1 rfl hxx31) ?_
      rintro (g37:Value)
      refine ys ?_
      obtain ⟨x38,hzx38,hlx38,hxx38,h⟩:=zP h
      refine ys ?_
      refine z4a (exAt (C:=zY) (i:=k_26.toNat) 4 rfl hxx38) ?_
      rintro (g39:Value)
      refine ys ?_
      refine zd ?_
      refine rc h (fun _ h=>?_) (fun _ h=>?_)
      ·refine zH ?_
       refine rj [] [] ?_
       refine z8 ?_
       refine ys ?_
       refine zd ?_
       refine zA ?_
       obtain rfl:=zU h
       obtain rfl:=hstop29 _ rfl
       skip
       obtain rfl:=zM ho19
       skip
       obtain rfl:=hstop11 _ rfl
       skip
       obtain rfl:=zM ho4
       exact ft [4] [] Tryz.results25
      ·refine run_skip ?_
       refine zD ?_
       refine rj [5,7,1,2,6] [0,1,2] ?_
       refine z8 ?_
       refine ys ?_
       refine z4a (exAt (C:=zz) (i:=i_8.toNat) 1 rfl hxx31) ?_
       rintro (g41:Value)
       refine ys ?_
       refine z4a (exAt (C:=zY) (i:=k_26.toNat) 4 rfl hxx38) ?_
       rintro (g42:Value)
       refine ys ?_
       obtain ⟨r43,hr44,h⟩:=zJ h
       refine zt (tc [(6,0)] Tryz.call63 (zeI hr44)) ?_
       rintro _ _ ⟨_,⟨rfl,rfl⟩,rfl⟩
       refine oh [0,1,2] [box b1 [x_0_Policiesv,x_0_Programsv],nro x_0_Policiesv zz x_0.Policies,nro x_0_Programsv zw x_0.Programs] ?_
       refine ys ?_
       refine zr ?_
       refine zS ?_
       refine zf ?_
       refine ys ?_
       refine zr ?_
       exact gj hgo28 () [0,1,2] h
     ·refine z1h _ rfl ?_
      refine zS ?_
      exact gk hL20 hstop29 () [0,1,2] h
   rintro n_17 _ h
   refine rs ?_
   refine z8 ?_
   refine ys ?_
   refine zr ?_
   exact gj hgo10 () [0,1,2] h
  ·refine z1h _ rfl ?_
   exact gk hL5 hstop11 () [0,1,2] h
 rintro n_2 _ h
 refine rs ?_
 refine jr h [1] [] (fun s (g:Unit)=>[(5,.int .i64 s)]) (fun s g=>[]) (fun _ h ho47 _ hL48=>?_) ?_
 ·refine zh ?_
  refine ys ?_
  refine zd ?_
  refine zF ?_
  refine lo h [1,2] [1,2,3] (fun s (g:Unit)=>[(5,.int .i64 s.1),(8,.int .i64 s.2)]) (fun s g=>[]) () [0,1,2] ?_
  rintro ⟨n_50,i_51⟩ _ _ h _ hgo53 hstop54
  refine rs ?_
  refine zH ?_
  refine zh ?_
  refine ys ?_
  refine oq 4 86 90 [5,8,1,2] [0,1,2] (decide (i_51<(x_0.Programs.length:Int)) && decide (n_50≤most_1)) ?_
  refine zd ?_
  refine rc h (fun _ h=>?_) (fun _ h=>?_)
  ·refine run_skip ?_
   refine zg ?_
   refine zF ?_
   refine zH ?_
   refine zh ?_
   refine ys ?_
   obtain ⟨x60,hzx60,hlx60,hxx60,h⟩:=zP h
   refine ys ?_
   refine z4a (exAt (C:=zw) (i:=i_51.toNat) 2 rfl hxx60) ?_
   rintro ⟨g61,g62⟩
   refine ys ?_
   refine zd ?_
   refine rc h (fun _ h=>?_) (fun _ h=>?_)
   ·refine zH ?_
    refine rj [] [] ?_
    refine z8 ?_
    refine ys ?_
    refine zd ?_
    refine zA ?_
    obtain rfl:=zU h
    obtain rfl:=hstop54 _ rfl
    skip
    obtain rfl:=zM ho47
    exact ft [4] [] Tryz.results25
   ·refine run_skip ?_
    refine zD ?_
    refine rj [5,8,1,2] [0,1,2] ?_
    refine rf [1,1,1] fun hS=>?_
    refine aq [0,1,2,3,4] ?_
    refine z9T (exAt (C:=zw) (i:=i_51.toNat) 2 rfl hxx60) ?_
    rintro ⟨g64,g65⟩
    refine ag [1,1,1,1] ?_
    refine ag [1,1,1,1,1] ?_
    refine ag [1,1,1,1,1,1] ?_
    refine aq [5,6,7,8,9,10,11,12,13,14,15,16,17] ?_
    refine zK [18] (by kernel_rfl) rfl (zk ?_ zC)
    obtain ⟨r66,hr67,h⟩:=zJ h
    refine at' rfl (tc [(5,0)] Tryz.call64 (zfQ hr67)) ?_
    rintro _ _ ⟨_,⟨rfl,rfl⟩,rfl⟩
    refine sb ?_
    refine aq [19,20] ?_
    refine z1K (by kernel_rfl) ?_
    refine zS ?_
    refine zD ?_
    refine rj [5,8,1,2] [0,1,2] ?_
    refine z8 ?_
    refine ys ?_
    refine zr ?_
    exact gj hgo53 () [0,1,2] h
  ·refine z1h _ rfl ?_
   exact gk hL48 hstop54 () [] h
 rintro n_45 _ h
 refine rs ?_
 refine zh ?_
 refine ys ?_
 refine zd ?_
 refine zA ?_
 exact fs [4] [] Tryz.results25 h
def z8h (n:Nat) (kind_1:Int) (l_2:(List (List UInt8))):(Int×(List z6))→Option (Lp (Int×(List z6)) (Pn (zo))):=
 fun (s_1,x_2)=>
  cond (decide (s_1<(l_2.length:Int)))
   (idx l_2 s_1 fun x9=>
   bindJ (S:=(List z6))
    (cond (decide (0 < s_1))
     (obind (zW n (zo.mk x_2) ([[44]]:List (List UInt8))) fun r18=>
     some (.go r18.l_))
     (some (.go x_2)))
   (fun x_10 =>
    obind (z14 (zo.mk x_10) kind_1 x9) fun r21=>
    some (.go ((IntKind.i64.wrap (s_1+1)),r21.l_))))
   (some (.stop (.ret (zo.mk x_2))))
def z30 (n:Nat) (w_0:zo) (kind_1:Int) (l_2:(List (List UInt8))):Option (Pn (zo)):=
 iter (z8h n kind_1 l_2) n (0,w_0.l_)
theorem z3k {n:Nat} {w_0:zo} {kind_1:Int} {l_2:(List (List UInt8))} {w_0b:Nat} {w_0_l_v:Value} {l_2v:Value} {r:Pn (zo)} (h:z30 n w_0 kind_1 l_2=some r) :
  z4t Tryz.prog 213 [boxP w_0b 0,.int .i64 kind_1,l_2v] [row w_0_l_v 3 (w_0.l_.map z6.enc),box w_0b [w_0_l_v],ro l_2v 1 (l_2.map eStr)] (fun v G=>∃ q,r = .ret q∧(∃ v0,v = .tuple #[]∧G=[row v0 3 (q.l_.map z6.enc),box w_0b [v0]])) (fun v=>∃ e,r = .pan e∧v = .iface 27 (.int .i64 e)):=by
 refine z1y Tryz.func213 rfl Tryz.ntmps213 rfl (fun w0 o0=>?_)
 refine zh ?_
 refine ys ?_
 refine zd ?_
 refine zF ?_
 refine lo h [0,1,8,9] [0,0,3] (fun s (g:Value)=>[(10,.int .i64 s.1)]) (fun s g=>[box w_0b [g],row g 3 (s.2.map z6.enc)]) _ [1,0,2] ?_
 rintro ⟨_,_⟩ _ _ h _ hgo5 hstop6
 refine rs ?_
 refine zh ?_
 refine ys ?_
 refine zc ?_
 refine rc h (fun _ h=>?_) (fun _ h=>?_)
 ·refine run_skip ?_
  refine zg ?_
  refine zF ?_
  refine zh ?_
  refine ys ?_
  obtain ⟨x9,hzx9,hlx9,hxx9,h⟩:=zP h
  refine ys ?_
  refine zd ?_
  refine jr h [0,1,7,8,9,10] [0,0,3] (fun s (g:Value)=>[]) (fun s g=>[box w_0b [g],row g 3 (s.map z6.enc)]) (fun _ h _ _ hL14=>?_) ?_
  ·refine zh ?_
   refine ys ?_
   refine zd ?_
   refine rc h (fun _ h=>?_) (fun _ h=>?_)
   ·refine rj [10,0,1,8,9,7] [0,1,2] ?_
    refine z8 ?_
    refine ys ?_
    refine zt (t_lit [.string (bs [44])] Tryz.runUnderlying62 Tryz.sizeOf9 Tryz.zeroValue9 rfl (by decide) (by decide) rfl (by simp [Value.cells,boxP])) ?_
    rintro v17 _ ⟨rfl,_⟩
    refine zB (retell 3 (g:=row v17 1 (([[44]]:List (List UInt8)).map eStr)) rfl rfl) ?_
    refine cl1 [(1,2),(0,2),(3,1)] Tryz.call116 (fun h=>zZ h) h (fun r18 v20 h=>?_)
    refine zr ?_
    exact gj hL14 _ [5,4,2] h
   ·refine run_skip ?_
    exact gj hL14 _ [0,1,2] h
  rintro x_10 v11 h
  refine rs ?_
  refine z8 ?_
  refine ys ?_
  refine cl1 [(1,2),(0,2)] Tryz.call113 (fun h=>z17 h) h (fun r21 v23 h=>?_)
  refine zr ?_
  refine zS ?_
  refine zf ?_
  refine ys ?_
  refine zr ?_
  exact gj hgo5 _ [4,3,2] h
 ·refine z1h _ rfl ?_
  refine z3d ?_
  obtain rfl:=zU h
  obtain rfl:=hstop6 _ rfl
  exact ft [] [1,0] Tryz.results213
end Go.Proofs.YtcmaoifiiigggaaGreatDoor
