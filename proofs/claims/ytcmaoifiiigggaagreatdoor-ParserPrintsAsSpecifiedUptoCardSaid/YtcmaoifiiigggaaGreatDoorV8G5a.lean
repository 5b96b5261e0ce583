/-
  Functions that the law ParserReadsExpressions needs, lifted.
-/
import Derived.Test.YtcmaoifiiigggaaGreatDoorV8Fa
set_option linter.unusedSimpArgs false
set_option linter.unusedVariables false
namespace Go.Proofs.YtcmaoifiiigggaaGreatDoor
open Go.Abs Tryz
set_option maxRecDepth 20000
set_option maxHeartbeats 4000000
def zdj (j0:Int):Option (Int):=
 cond (decide (j0=23))
  (some (-1))
  (cond (decide (1 ≤ j0) && decide (j0 ≤ 7))
   (some 0)
   (cond (decide (j0 = 8) || decide (j0 = 9))
    (some 1)
    (cond (decide (10 ≤ j0) && decide (j0 ≤ 22))
     (some 2)
     (some (-2)))))
theorem zim {j0:Int} {r:Int} (h:zdj j0=some r) :
  Meets Tryz.prog 119 [.int .i64 j0] [] (fun v G=>v = .int .i64 r∧G=[]):=by
 refine zN func119 rfl ntmps119 rfl (fun w0 o0=>?_)
 refine yc 6 h (fun _ h=>?_) fun _ h=>?_
 ·refine yn 4 ?_
  exact fs [2] [] results119 h
 ·refine yn 4 ?_
  refine oq 3 7 10 [0] [] (decide (1≤j0) && decide (j0≤7)) ?_
  refine yc 1 h (fun _ h=>?_) fun _ h=>?_
  ·refine yn 4 ?_
   exact fs [2] [] results119 h
  ·refine yn 4 ?_
   refine oq 3 13 16 [0] [] (decide (j0=8) || decide (j0=9)) ?_
   refine yc 1 h (fun _ h=>?_) fun _ h=>?_
   ·refine yn 4 ?_
    exact fs [2] [] results119 h
   ·refine yn 4 ?_
    refine oq 3 19 22 [] [] (decide (10≤j0) && decide (j0≤22)) ?_
    refine yc 1 h (fun _ h=>?_) fun _ h=>?_
    ·refine yn 4 ?_
     exact fs [2] [] results119 h
    ·refine yn 5 ?_
     exact fs [2] [] results119 h
def zaZ (x_0:zi) (q20r:zi→Option (Bool)):(Int)→Option (Lp (Int) (Lp (Unit) (Bool))):=
 fun j3=>
  cond (decide (j3<(x_0.Args.length:Int)))
   (idx x_0.Args j3 fun x40=>
   obind (q20r x40) fun r42=>
   cond (!r42)
    (some (.stop (.stop false)))
    (some (.go (IntKind.i64.wrap (j3+1)))))
   (some (.stop (.go ())))
def z7E (n:Nat) (q20r:zi→Option (Bool)) (x_0:zi):Option (Bool):=
 obind (zdj x_0.Op) fun r2=>
 cond (((decide (0≤r2) && decide ((x_0.Args.length:Int)≠r2)) || (decide (r2=(-1)) && decide ((x_0.Args.length:Int)<2))) || decide (r2=(-2)))
  (some false)
  (cond ((!(((decide (x_0.Op = 1) || decide (x_0.Op = 2)) || decide (x_0.Op = 3)) || decide (x_0.Op = 6))) && (!decide (x_0.S = [])))
   (some false)
   (bindJ (S := Unit)
    (iter (zaZ x_0 q20r) n 0)
   (fun _ =>
    some true)))
theorem ze2 {n:Nat} {q20r:zi→Option (Bool)} (q21h:K19 q20r 54):K19 (z7E n q20r) 54:=by
 intro x_0 j2 r h
 refine zN func54 rfl ntmps54 rfl (fun w0 o0=>?_)
 refine zh (lB fun b1=>?_)
 refine yn 3 ?_
 refine cl0 [] call119 (fun h=>zim h) h (fun r2 h=>?_)
 refine yn 4 ?_
 refine oq 6 12 18 [1,3] [0,1] (decide (0≤r2) && decide ((x_0.Args.length:Int)≠r2)) ?_
 refine ys ?_
 refine oe 9 [1,3] [1,2] (fun s=>[(28,.bool s)]) ((decide (0≤r2) && decide ((x_0.Args.length:Int)≠r2)) || (decide (r2=(-1)) && decide ((x_0.Args.length:Int)<2))) (fun _ hL8=>?_) ?_
 ·refine z1c 19 (decide (0≤r2) && decide ((x_0.Args.length:Int)≠r2)) rfl (fun hg9=>?_) (fun hg9=>?_)
  ·skip
   refine ys ?_
   refine z2p 12 true 22 rfl rfl rfl rfl rfl ?_
   refine z2p 12 true 22 rfl rfl rfl rfl rfl ?_
   refine z2p 12 true 22 rfl rfl rfl rfl rfl ?_
   refine z2p 12 true 22 rfl rfl rfl rfl rfl ?_
   refine yn 2 ?_
   exact gc hL8 true [0,1] (hi:=by rw [hg9]; simp)
  ·skip
   refine ys ?_
   refine oq 5 22 27 [1,3,19] [0,1] (decide (r2=(-1)) && decide ((x_0.Args.length:Int)<2)) ?_
   refine yn 2 ?_
   exact gc hL8 (decide (r2=(-1)) && decide ((x_0.Args.length:Int)<2)) [0,1] (hi:=by rw [hg9]; simp)
 refine os ?_
 refine ys ?_
 refine oq 3 29 32 [1] [0,1] (((decide (0≤r2) && decide ((x_0.Args.length:Int)≠r2)) || (decide (r2=(-1)) && decide ((x_0.Args.length:Int)<2))) || decide (r2=(-2))) ?_
 refine yc 1 h (fun _ h=>?_) fun _ h=>?_
 ·refine yn 4 ?_
  exact fs [2] [] results54 h
 ·refine yn 3 ?_
  refine oq 4 36 40 [1] [0,1] (decide (x_0.Op=1) || decide (x_0.Op=2)) ?_
  refine ys ?_
  refine oq 4 41 45 [1] [0,1] ((decide (x_0.Op=1) || decide (x_0.Op=2)) || decide (x_0.Op=3)) ?_
  refine ys ?_
  refine oq 4 46 50 [1] [0,1] (((decide (x_0.Op=1) || decide (x_0.Op=2)) || decide (x_0.Op=3)) || decide (x_0.Op=6)) ?_
  refine yn 4 ?_
  refine oq 4 53 57 [1] [0,1] ((!(((decide (x_0.Op=1) || decide (x_0.Op=2)) || decide (x_0.Op=3)) || decide (x_0.Op=6))) && (!decide (x_0.S=[]))) ?_
  refine yc 1 h (fun _ h=>?_) fun _ h=>?_
  ·refine yn 4 ?_
   exact fs [2] [] results54 h
  ·refine run_skip (zD (jr h [] [] (fun s (g:Unit)=>[]) (fun s g=>[]) (fun _ h j7 _ j8=>?_) ?_))
   ·refine yn 4 ?_
    refine lo h [1] [2,1] (fun s (g:Unit)=>[(5,.int .i64 s)]) (fun s g=>[]) () [1,0] ?_
    rintro j3 _ _ h _ j4 j1
    refine rs ?_
    refine yc 4 h (fun _ h=>?_) fun _ h=>?_
    ·refine yn 5 ?_
     obtain ⟨x40,jc,jd,j5,h⟩:=zP h
     refine ys ?_
     refine z4a (exAtT (T:=z1b) (i:=j3.toNat) 1 rfl j5) ?_
     rintro (g41:Value)
     refine ys ?_
     refine cl0 [(3,0)] call54 (fun h=>q21h h) h (fun r42 h=>?_)
     refine ys ?_
     refine zc (rj [5,1,6] [0,1] ?_)
     refine yc 3 h (fun _ h=>?_) fun _ h=>?_
     ·refine yn 4 ?_
      obtain rfl:=zU h
      obtain rfl:=j1 _ rfl
      skip
      obtain rfl:=zM j7
      exact ft [2] [] results54
     ·refine yn 5 ?_
      exact gj j4 () [0,1] h
    ·refine z1h _ rfl ?_
     exact gk j8 j1 () [] h
   rintro _ _ h
   refine rs ?_
   refine yn 4 ?_
   exact fs [2] [] results54 h
def z93:Nat→zi→Option (Bool)
 | 0=>fun _=>none
 | n+1=>z7E n  (z93 n )
theorem zdI {n:Nat}:K19 (z93 n) 54:=by
 induction n with
 | zero=>intro _ _ _  h; cases h
 | succ n ih=>exact ze2 ih
def zhD (s_0:(List UInt8)):Option (z6):=
 some (z6.mk 3 0 s_0)
theorem zeJ:K46 zhD 121:=by
 intro s_0 r h
 refine zN func121 rfl ntmps121 rfl (fun w0 o0=>?_)
 refine zh (al fun b1=>?_)
 refine yn 4 ?_
 exact fr [] results121 h
def zfH (s_0:(List UInt8)):Option (z6):=
 some (z6.mk 4 0 s_0)
theorem zbo:K46 zfH 122:=by
 intro s_0 r h
 refine zN func122 rfl ntmps122 rfl (fun w0 o0=>?_)
 refine zh (al fun b1=>?_)
 refine yn 4 ?_
 exact fr [] results122 h
def zdK (s_0:(List UInt8)):Option (z6):=
 some (z6.mk 1 0 s_0)
theorem z9s:K46 zdK 123:=by
 intro s_0 r h
 refine zN func123 rfl ntmps123 rfl (fun w0 o0=>?_)
 refine zh (al fun b1=>?_)
 refine yn 4 ?_
 exact fr [] results123 h
def z5b (s_0:(List UInt8)):Option (z6):=
 some (z6.mk 2 0 s_0)
theorem z2Q:K46 z5b 124:=by
 intro s_0 r h
 refine zN func124 rfl ntmps124 rfl (fun w0 o0=>?_)
 refine zh (al fun b1=>?_)
 refine yn 4 ?_
 exact fr [] results124 h
def z6n (s_0:(List UInt8)):Option (z6):=
 some (z6.mk 5 0 s_0)
theorem z4b:K46 z6n 127:=by
 intro s_0 r h
 refine zN func127 rfl ntmps127 rfl (fun w0 o0=>?_)
 refine zh (al fun b1=>?_)
 refine yn 4 ?_
 exact fr [] results127 h
def z9P (j0:Int):Option (z6):=
 cond (decide (j0=9))
  (obind (z5b [110,111,116]) fun r3=>
  some r3)
  (cond (decide (j0 = 21))
   (obind (z5b [97,110,100]) fun r6=>
   some r6)
   (cond (decide (j0 = 22))
    (obind (z5b [111,114]) fun r9=>
    some r9)
    (idx ([[45],[],[43],[45],[42],[47],[37],[60],[62],[60,61],[62,61],[61,61],[33,61]]:List (List UInt8)) (IntKind.i64.wrap (j0 - 8)) fun x12=>
    obind (z6n x12) fun r13=>
    some r13)))
theorem z9y {j0:Int} {r:z6} (h:z9P j0=some r) :
  Meets Tryz.prog 125 [.int .i64 j0] [] (fun v G=>v = .agg #[.int .i64 r.Kind,.int .i64 r.At,.string (bs r.S)]∧G=[]):=by
 refine zN func125 rfl ntmps125 rfl (fun w0 o0=>?_)
 refine zh (al fun b1=>?_)
 refine yc 4 h (fun _ h=>?_) fun _ h=>?_
 ·refine zh (cl0 [] call124 (fun h=>z2Q h) h (fun r3 h=>?_))
  refine yn 3 ?_
  exact fr [] results125 h
 ·refine yc 5 h (fun _ h=>?_) fun _ h=>?_
  ·refine zh (cl0 [] call124 (fun h=>z2Q h) h (fun r6 h=>?_))
   refine yn 3 ?_
   exact fr [] results125 h
  ·refine yc 5 h (fun _ h=>?_) fun _ h=>?_
   ·refine zh (cl0 [] call124 (fun h=>z2Q h) h (fun r9 h=>?_))
    refine yn 3 ?_
    exact fr [] results125 h
   ·refine yn 2 ?_
    refine lS [[45],[],[43],[45],[42],[47],[37],[60],[62],[60,61],[62,61],[61,61],[33,61]] fun _=>?_
    refine ys ?_
    refine zc (rj [0,2,3] [0,1] ?_)
    refine yn 2 ?_
    obtain ⟨x12,je,jf,jg,h⟩:=zP h
    refine ys ?_
    refine cl0 [] call127 (fun h=>z4b h) h (fun r13 h=>?_)
    refine yn 3 ?_
    exact fr [] results125 h
def z6A (q22r:zi→Option ((List z6))) (x_0:zi):Option ((List z6)):=
 cond (decide ((x_0.Args.length:Int)=0))
  (obind (q22r x_0) fun r3=>
  some r3)
  (obind (z6n [40]) fun r6=>
  obind (q22r x_0) fun r9=>
  need (([r6]:List z6).length+r9.length≤4294967296) (
  obind (z6n [41]) fun r14=>
  need ((([r6]:List z6)++r9).length+([r14]:List z6).length≤4294967296) (
  some ((([r6]:List z6)++r9)++([r14]:List z6)))))
theorem z7q {q22r:zi→Option ((List z6))} (q23h:K20 q22r 56):K20 (z6A q22r) 126:=by
 intro x_0 j2 r h
 refine zN func126 rfl ntmps126 rfl (fun w0 o0=>?_)
 refine zh (lB fun b1=>?_)
 refine yc 5 h (fun _ h=>?_) fun _ h=>?_
 ·refine yn 2 ?_
  obtain ⟨r3,hr4,h⟩:=zJ h
  refine zt (tc [(0,0)] call56 (q23h hr4)) ?_
  rintro v5 _ ⟨_,⟨_,rfl,rfl⟩,rfl⟩
  refine yn 3 ?_
  exact fs [2] [2] results126 h
 ·refine run_skip (zg ?_)
  obtain ⟨r6,hr7,h⟩:=zJ h
  obtain ⟨r9,j6,h⟩:=zJ h
  obtain ⟨j9,h⟩:=zX h
  obtain ⟨r14,ja,h⟩:=zJ h
  obtain ⟨jb,h⟩:=zX h
  refine rf [1,1] fun hS=>?_
  refine aq [2] ?_
  refine a2 [9] 0 [] [1,2,0,0,0] (fun (s:Value×Value×Value)=>[(2,s.1)]) (fun s=>[row s.1 3 (((([r6]:List z6)++r9)++([r14]:List z6)).map z6.enc),row s.2.1 3 (r9.map z6.enc),row s.2.2 3 (([r14]:List z6).map z6.enc)]) ?_ (fun hK25=>?_)
  ·rintro ⟨v24,v21,v23⟩
   refine az ?_
   refine z1K (by kernel_rfl) ?_
   refine yn 2 ?_
   exact fs [2] [2] results126 h
  refine a2 [7,2] 2 [2] [1,2,0,0,0] (fun (s:Value×Value×Value)=>[(13,s.1),(15,s.2.1)]) (fun s=>[row s.1 3 ((([r6]:List z6)++r9).map z6.enc),row s.2.2 3 (r9.map z6.enc),row s.2.1 3 (([r14]:List z6).map z6.enc)]) ?_ (fun hK26=>?_)
  ·rintro ⟨v22,v23,v21⟩
   refine az ?_
   refine zK [7] (by kernel_rfl) rfl ?_
   refine zk ?_ ?_
   ·refine lC z6.enc_ok 2 4 jb fun v27=>?_
    refine aq [8] ?_
    exact aw (hK25 (v27,v21,v23)) [0,1,2,3,4]
   exact zC
  refine a2 [6,3] 3 [2] [1,2,0,0] (fun (s:Value×Value)=>[(13,s.1),(14,.agg #[.int .i64 r14.Kind,.int .i64 r14.At,.string (bs r14.S)])]) (fun s=>[row s.1 3 ((([r6]:List z6)++r9).map z6.enc),row s.2 3 (r9.map z6.enc)]) ?_ (fun hK28=>?_)
  ·rintro ⟨v22,v21⟩
   refine az ?_
   refine zK [6] (by kernel_rfl) rfl ?_
   refine zk ?_ ?_
   ·refine lU z6.enc [r14] fun v29=>?_
    exact aw (hK26 (v22,v29,v21)) [0,1,2,3,4]
   exact zC
  refine a2 [5,4] 4 [2] [1,2,0,0] (fun (s:Value×Value)=>[(13,s.1)]) (fun s=>[row s.1 3 ((([r6]:List z6)++r9).map z6.enc),row s.2 3 (r9.map z6.enc)]) ?_ (fun hK30=>?_)
  ·rintro ⟨v22,v21⟩
   refine az ?_
   refine zK [5] (by kernel_rfl) rfl ?_
   refine zk ?_ ?_
   ·refine at' rfl (tc [] call127 (z4b ja)) ?_
    rintro _ _ ⟨_,⟨rfl,rfl⟩,rfl⟩
    refine sb ?_
    exact aw (hK28 (v22,v21)) [0,1,2,3]
   exact zC
  refine a2 [4,5] 5 [2] [1,2,0,0] (fun (s:Value×Value)=>[(10,s.1),(12,s.2)]) (fun s=>[row s.1 3 (([r6]:List z6).map z6.enc),row s.2 3 (r9.map z6.enc)]) ?_ (fun hK31=>?_)
  ·rintro ⟨v19,v21⟩
   refine az ?_
   refine zK [4] (by kernel_rfl) rfl ?_
   refine zk ?_ ?_
   ·refine lC z6.enc_ok 2 3 j9 fun v32=>?_
    exact aw (hK30 (v32,v21)) [0,1,2,3]
   exact zC
  refine a2 [3,6] 6 [2,11] [1,2,0] (fun (s:Value)=>[(10,s)]) (fun s=>[row s 3 (([r6]:List z6).map z6.enc)]) ?_ (fun hK33=>?_)
  ·rintro v19
   refine az ?_
   refine zK [3] (by kernel_rfl) rfl ?_
   refine zk ?_ ?_
   ·refine at' rfl (tc [(0,0)] call56 (q23h j6)) ?_
    rintro v34 _ ⟨_,⟨_,rfl,rfl⟩,rfl⟩
    refine sb ?_
    exact aw (hK31 (v19,v34)) [0,1,2,3]
   exact zC
  refine a2 [1,1,2,5] 6 [2] [1,2,0] (fun (s:Value)=>[(9,.agg #[.int .i64 r6.Kind,.int .i64 r6.At,.string (bs r6.S)]),(12,s)]) (fun s=>[row s 3 (r9.map z6.enc)]) ?_ (fun hK35=>?_)
  ·rintro v20
   refine az ?_
   refine zK [1] (by kernel_rfl) rfl ?_
   refine zk ?_ ?_
   ·refine lU z6.enc [r6] fun v36=>?_
    exact aw (hK31 (v36,v20)) [0,1,3,2]
   exact zC
  refine a2 [1,1,1,6] 7 [2,11] [1,2] (fun (s:Unit)=>[(9,.agg #[.int .i64 r6.Kind,.int .i64 r6.At,.string (bs r6.S)])]) (fun s=>[]) ?_ (fun hK37=>?_)
  ·rintro _
   refine az ?_
   refine zK [1,3] (by kernel_rfl) rfl ?_
   refine zk ?_ ?_
   ·refine lU z6.enc [r6] fun v38=>?_
    exact aw (hK33 v38) [0,1,2]
   refine zk ?_ ?_
   ·refine at' rfl (tc [(0,0)] call56 (q23h j6)) ?_
    rintro v39 _ ⟨_,⟨_,rfl,rfl⟩,rfl⟩
    refine sb ?_
    exact aw (hK35 v39) [0,1,2]
   exact zC
  refine zK [0] (by kernel_rfl) rfl ?_
  refine zk ?_ ?_
  ·refine at' rfl (tc [] call127 (z4b hr7)) ?_
   rintro _ _ ⟨_,⟨rfl,rfl⟩,rfl⟩
   refine sb ?_
   exact aw (hK37 ()) [0,1]
  exact zC
end Go.Proofs.YtcmaoifiiigggaaGreatDoor
