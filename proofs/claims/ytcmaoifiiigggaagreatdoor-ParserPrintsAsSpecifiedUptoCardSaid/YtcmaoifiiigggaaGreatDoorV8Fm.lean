/-
  Functions of the program, lifted: part 13.
-/
import Derived.Test.YtcmaoifiiigggaaGreatDoorV8Fl
set_option linter.unusedSimpArgs false
set_option linter.unusedVariables false
namespace Go.Proofs.YtcmaoifiiigggaaGreatDoor
open Go.Abs Tryz
set_option maxRecDepth 20000
set_option maxHeartbeats 4000000
def zba (t_0:z6):Option ((List UInt8)):=
 cond (decide (t_0.Kind≠4))
  (some t_0.S)
  (obind (zjW ([[34],[92,34],[92],[92,92]]:List (List UInt8))) fun r4=>
  obind (zk7 0 0 0 ([[34],[92,34],[92],[92,92]]:List (List UInt8)) t_0.S) fun r8=>
  need ([34].length+r8.length≤4294967296) (
  need (([34]++r8).length+[34].length≤4294967296) (
  some (([34]++r8)++[34]))))
theorem zer:K40 zba 45:=by
 intro t_0 r h
 refine zN func45 rfl ntmps45 rfl (fun w0 o0=>?_)
 refine zh (lB fun b1=>?_)
 refine yc 5 h (fun _ h=>?_) fun _ h=>?_
 ·refine yn 4 ?_
  exact fs [2] [] results45 h
 ·refine yn 2 ?_
  refine rf [1] fun hS=>?_
  refine aq [2,3] ?_
  refine ao 0 ?_
  refine at' rfl (t_lit [.string (bs [34]),.string (bs [92,34]),.string (bs [92]),.string (bs [92,92])] runUnderlying62 sizeOf9 zeroValue9 rfl (by decide) (by decide) rfl (by simp [Value.cells,boxP])) ?_
  rintro v3 _ ⟨rfl,_⟩
  refine sb ?_
  refine z1B (retell 1 (g:=row v3 1 (([[34],[92,34],[92],[92,92]]:List (List UInt8)).map eStr)) rfl rfl) ?_
  refine ao 1 ?_
  obtain ⟨r4,hr5,h⟩:=zJ h
  refine at' rfl (zbx (vs:=[v3]) (cs:=[]) [(1,1)] rfl call101 rfl (zlo  ([[34],[92,34],[92],[92,92]]:List (List UInt8)) v3 hr5) (z69 1 rfl z6S z3r) rfl (.inr (by rintro _ _ ⟨_,_,rfl,rfl⟩ g hg; first | (cases hg; done) | (simp only [y1,y0,or_false] at hg; first | (subst hg; first | exact z5K | exact z5J) | (rcases hg with rfl | rfl <;> first | exact z5K | exact z5J) | (rcases hg with rfl | rfl | rfl <;> first | exact z5K | exact z5J))))) ?_
  rintro _ _ ⟨_,⟨v6,v7,rfl,rfl⟩,rfl⟩
  refine sb ?_
  refine ao 4 ?_
  obtain ⟨r8,hr9,h⟩:=zJ h
  refine at' rfl (tc [(2,2),(3,2)] call102 (zls 0 0 0 ([[34],[92,34],[92],[92,92]]:List (List UInt8)) t_0.S v7 v6 hr9)) ?_
  rintro _ _ ⟨_,⟨rfl,rfl⟩,rfl⟩
  refine sb ?_
  obtain ⟨jd,h⟩:=zX h
  refine ai 5 rfl (zdd rfl rfl jd) ?_
  obtain ⟨je,h⟩:=zX h
  refine ai 6 rfl (zdd rfl rfl je) ?_
  refine aq [7] ?_
  refine z1K (by kernel_rfl) ?_
  refine yn 2 ?_
  exact fs [2] [] results45 h
def zaB (n:Nat) (t_0:z6):Option (Bool):=
 obind (zba t_0) fun r2=>
 obind (z4J n r2) fun r4=>
 bindJ (S:=Bool)
  (cond (decide (r4.2.E = 0) && decide ((r4.1.length : Int) = 1))
   (idx r4.1 0 fun x17=>
   some (.go (decide (x17.Kind=t_0.Kind) && (decide (x17.At=0) && (decide (x17.S=t_0.S))))))
   (some (.go false)))
 (fun b11 =>
  some b11)
theorem zgr {n:Nat} {t_0:z6} {r:Bool} (h:zaB n t_0=some r) :
  Meets Tryz.prog 44 [.agg #[.int .i64 t_0.Kind,.int .i64 t_0.At,.string (bs t_0.S)]] [globA] (fun v G=>v = .bool r∧G=[]):=by
 refine zN func44 rfl ntmps44 rfl (fun w0 o0=>?_)
 refine zh (lB fun b1=>?_)
 refine yn 3 ?_
 refine cl0 [] call45 (fun h=>zer h) h (fun r2 h=>?_)
 refine cl1 [(0,0)] call15 (fun h=>z66 h) h (fun r4 v6 h=>?_)
 refine ys ?_
 refine al fun b7=>?_
 refine ys ?_
 refine zc (rj [1,4,3] [0,1,2,3] ?_)
 refine z4U (by kernel_rfl) (by kernel_rfl) ?_
 refine yu ?_
 refine sq 4 14 18 [1,3] [0,1,2,3] (decide (r4.2.E=0) && decide ((r4.1.length:Int)=1)) ?_
 refine yu ?_
 refine sbj h 10 [] [1,2,3,4] (fun s=>[(29,.bool s)]) (fun s=>[]) (fun _ h _ _ j7=>?_) ?_
 ·refine z86 19 (decide (r4.2.E=0) && decide ((r4.1.length:Int)=1)) rfl (fun j5=>?_) (fun j5=>?_)
  ·replace h:=z2F h j5
   refine yu ?_
   obtain ⟨x17,ji,jj,jk,h⟩:=zP h
   refine yu ?_
   refine zu (y_eqS (by kernel_rfl) (by kernel_rfl) runUnderlying41 rfl rfl (.cons (z7k (by decide) runUnderlying3 isAgg3 rfl rfl) (.cons (z7k (by decide) runUnderlying3 isAgg3 rfl rfl) (.cons (zgk (by decide) runUnderlying9 isAgg9 rfl rfl) EqFs.nil)))) ?_
   refine yu ?_
   refine z2m ?_
   exact gb j7 [0,1,2,3] h
  ·replace h:=z2E h j5
   refine yu ?_
   refine z2m ?_
   exact gb j7 [0,1,2,3] h
 rintro b11 h
 refine ss' ?_
 refine yu ?_
 refine z2m ?_
 refine yn 2 ?_
 exact fs [2] [] results44 h
def zcv (n:Nat) (l_0:(List z6)):((List (List UInt8))×Int)→Option (Lp ((List (List UInt8))×Int) (Lp ((List (List UInt8))) ((List UInt8)×Int))):=
 fun (j1,s_8)=>
  cond (decide (s_8<(l_0.length:Int)))
   (idx l_0 s_8 fun x15=>
   obind (zaB n x15) fun r17=>
   cond (!r17)
    (some (.stop (.stop ([],1))))
    (obind (zba x15) fun r20=>
    need (j1.length+([r20]:List (List UInt8)).length≤4294967296) (
    some (.go ((j1++([r20]:List (List UInt8))),(IntKind.i64.wrap (s_8+1)))))))
   (some (.stop (.go j1)))
def z8n (n:Nat) (l_0:(List z6)):Option ((List UInt8)×Int):=
 bindJ (S:=(List (List UInt8)))
  (iter (zcv n l_0) n (([]:List (List UInt8)),0))
 (fun j3 =>
  obind (joinH j3 [32]) fun r25=>
  cond (decide (65536<(r25.length:Int)))
   (some ([],2))
   (some (r25,0)))
theorem zaA {n:Nat} {l_0:(List z6)} {j8:Value} {r:(List UInt8)×Int} (h:z8n n l_0=some r) :
  Meets Tryz.prog 16 [j8] [ro j8 3 (l_0.map z6.enc),globA] (fun v G=>v = .tuple #[.string (bs r.1),.int .i64 r.2]∧G=[]):=by
 refine zN func16 rfl ntmps16 rfl (fun w0 o0=>?_)
 refine yn 4 ?_
 refine zd (jr h [] [0,2] (fun s (g:Value)=>[(4,g)]) (fun s g=>[row g 1 (s.map eStr)]) (fun _ h ho4 _ hL5=>?_) ?_)
 ·refine yn 4 ?_
  refine z3x (nilrow 1) ?_
  refine z3x (retell 2 (g:=row (.slice none 0 0) 1 (([]:List (List UInt8)).map eStr)) rfl rfl) ?_
  refine lo h [8,9] [0,1,2] (fun s (g:Value)=>[(4,g),(10,.int .i64 s.2)]) (fun s g=>[row g 1 (s.1.map eStr)]) _ [2,0,1] ?_
  rintro ⟨j1,_⟩ _ _ h _ j9 j2
  refine rs ?_
  refine yc 3 h (fun _ h=>?_) fun _ h=>?_
  ·refine yn 4 ?_
   obtain ⟨x15,jl,jm,jo,h⟩:=zP h
   refine ys ?_
   refine al fun b16=>?_
   refine yn 4 ?_
   refine cl0 [(2,0)] call44 (fun h=>zgr h) h (fun r17 h=>?_)
   refine yc 2 h (fun _ h=>?_) fun _ h=>?_
   ·refine zH (rj [] [2] ?_)
    refine yn 4 ?_
    obtain rfl:=zU h
    obtain rfl:=j2 _ rfl
    skip
    obtain rfl:=zM ho4
    exact ft [2,3] [] results16
   ·refine run_skip (zD (rj [4,10,8,9,6] [0,1,2,3] ?_))
    refine yn 2 ?_
    refine cl0 [] call45 (fun h=>zer h) h (fun r20 h=>?_)
    refine lS [r20] fun _=>?_
    obtain ⟨jf,h⟩:=zX h
    refine lA zfB 0 4 jf fun _=>?_
    refine yn 6 ?_
    exact gj j9 _ [0,1,2] h
  ·refine z1h _ rfl ?_
   exact gk hL5 j2 _ [0,2] h
 rintro j3 v2 h
 refine rs ?_
 refine yn 2 ?_
 obtain ⟨r25,jg,h⟩:=zJ h
 refine zt (zbx (vs:=[v2,.string (bs [32])]) (cs:=[]) [(0,1)] rfl call46 rfl (zpR  j3 [32] v2 jg) (z69 0 rfl z6S z3r) rfl (.inr (by rintro _ _ ⟨rfl,rfl⟩ g hg; first | (cases hg; done) | (simp only [y1,y0,or_false] at hg; first | (subst hg; first | exact z5K | exact z5J) | (rcases hg with rfl | rfl <;> first | exact z5K | exact z5J) | (rcases hg with rfl | rfl | rfl <;> first | exact z5K | exact z5J))))) ?_
 rintro _ _ ⟨_,⟨rfl,rfl⟩,rfl⟩
 refine yc 5 h (fun _ h=>?_) fun _ h=>?_
 ·refine yn 4 ?_
  exact fs [2,3] [] results16 h
 ·refine yn 5 ?_
  exact fs [2,3] [] results16 h
def zbH (n:Nat) (all_0_0:zi):Option ((List UInt8)×Int):=
 obind (z74 n (zo.mk ([]:List z6)) all_0_0) fun r4=>
 pbind r4 (fun e7=>
  some ([],e7)) fun q6=>
 obind (z8n n q6.l_) fun r9=>
 cond (decide (r9.2=1))
  (some ([],3))
  (bindJ (S := Bool)
   (cond (decide (r9.2 ≠ 0))
    (some (.go true))
    (obind (z83 n q6.l_) fun r18=>
    some (.go (decide (0≤r18)))))
  (fun b12 =>
   cond b12
    (some ([],2))
    (some (r9.1,0))))
theorem zfN {n:Nat} {all_0_0:zi} {all_0_0b:Nat} {all_0_0_Argsv:Value} {r:(List UInt8)×Int} (h:zbH n all_0_0=some r) :
  Meets Tryz.prog 51 [.func (.func 52) #[] #[boxP all_0_0b 0]] [nro all_0_0_Argsv zj all_0_0.Args,box all_0_0b [.int .i64 all_0_0.Op,.int .i64 all_0_0.At,.string (bs all_0_0.S),all_0_0_Argsv],globA] (fun v G=>v = .tuple #[.string (bs r.1),.int .i64 r.2]∧G=[]):=by
 refine zcm func51 rfl ntmps51 rfl (fun w0 o0=>?_)
 refine zh (al fun b1=>?_)
 refine al fun b2=>?_
 refine yn 2 ?_
 refine zet (wn rfl) rfl rfl rfl rfl ?_
 refine yn 2 ?_
 refine lB fun b3=>?_
 refine yn 3 ?_
 refine zB (nilrow 3) ?_
 refine zB (retell 6 (g:=row (.slice none 0 0) 3 (([]:List z6).map z6.enc)) rfl rfl) ?_
 obtain ⟨r4,hr5,h⟩:=zJ h
 rcases r4 with q6 | e7
 rotate_left
 ·replace h:=z32 h
  refine z6M (wn rfl) rfl (zf2 (vs:=[boxP b3 0]) (cs:=[boxP all_0_0b 0]) [(6,2),(5,2),(0,0),(1,2)] rfl call52 rfl (z8q hr5) (z2f 6 rfl (z2f 5 rfl (z3U 0 rfl z60 (z2f 1 rfl z3r)))) rfl (.inl rfl)) (by rintro _ _ ⟨_,⟨_,hq,_⟩,_⟩; cases hq) ?_
  rintro _ ⟨_,he,rfl⟩
  obtain rfl:=Pn.pan.inj he
  refine zaS call111 (zf8 b1 b2 e7 3 4 rfl rfl (by decide)) ?_
  obtain rfl:=zU h
  refine z4R [.cell 2 9,.cell 3 27] [.string (bs []),.int .i64 e7] [] [] results51 rfl (rescons (z52 3 isAgg9 rfl rfl) (rescons (z52 4 isAgg27 rfl rfl) resnil)) (by decide) rfl ?_
  exact ⟨rfl,rfl⟩
 replace h:=z33 h
 refine zt (zbx (vs:=[boxP b3 0]) (cs:=[boxP all_0_0b 0]) [(6,2),(5,2),(0,0),(1,2)] rfl call52 rfl (z5a (z8q hr5)) (z2f 6 rfl (z2f 5 rfl (z3U 0 rfl z60 (z2f 1 rfl z3r)))) rfl (.inl rfl)) ?_
 rintro _ _ ⟨_,⟨v8,rfl,rfl⟩,rfl⟩
 refine zc (rj [2,3,4] [2,3,4,7,8] ?_)
 refine yn 2 ?_
 refine cl0 [(3,1),(0,0)] call16 (fun h=>zaA h) h (fun r9 h=>?_)
 refine yn 3 ?_
 refine zH (rj [2,3,4] [0,1,2,3,4] ?_)
 refine yc 3 h (fun _ h=>?_) fun _ h=>?_
 ·refine yn 4 ?_
  refine zeh call111 (z6X b1 b2 _) ?_
  obtain rfl:=zU h
  refine z4R [.cell 2 9,.cell 3 27] [.string (bs []),.int .i64 3] [] [] results51 rfl (rescons (z52 1 isAgg9 rfl rfl) (rescons (z52 2 isAgg27 rfl rfl) resnil)) (by decide) rfl ?_
  exact ⟨rfl,rfl⟩
 ·refine yn 2 ?_
  refine ob h 7 [2,3] [1,2,3] (fun s=>[(32,.bool s)]) (fun s=>[]) (fun _ h _ _ ja=>?_) ?_
  ·refine z1c 25 (decide (r9.2≠0)) rfl (fun j6=>?_) (fun j6=>?_)
   ·replace h:=z2F h j6
    refine yn 2 ?_
    exact gb ja [0,1,2] h
   ·replace h:=z2E h j6
    refine ys ?_
    refine cl0 [(3,1)] call72 (fun h=>z9M h) h (fun r18 h=>?_)
    refine yn 2 ?_
    exact gb ja [0,1,2] h
  rintro b12 h
  refine os ?_
  refine yc 2 h (fun _ h=>?_) fun _ h=>?_
  ·refine yn 4 ?_
   refine zeh call111 (z6X b1 b2 _) ?_
   obtain rfl:=zU h
   refine z4R [.cell 2 9,.cell 3 27] [.string (bs []),.int .i64 2] [] [] results51 rfl (rescons (z52 1 isAgg9 rfl rfl) (rescons (z52 2 isAgg27 rfl rfl) resnil)) (by decide) rfl ?_
   exact ⟨rfl,rfl⟩
  ·refine yn 6 ?_
   refine zeh call111 (z6X b1 b2 _) ?_
   obtain rfl:=zU h
   refine z4R [.cell 2 9,.cell 3 27] [.string (bs r9.1),.int .i64 0] [] [] results51 rfl (rescons (z52 1 isAgg9 rfl rfl) (rescons (z52 2 isAgg27 rfl rfl) resnil)) (by decide) rfl ?_
   exact ⟨rfl,rfl⟩
def z5C (n:Nat) (x_0:zi):Option ((List UInt8)×Int):=
 obind (zbH n x_0) fun r2=>
 some (r2.1,r2.2)
theorem z8r {n:Nat} {x_0:zi} {j0:Value} {r:(List UInt8)×Int} (h:z5C n x_0=some r) :
  Meets Tryz.prog 20 [.agg #[.int .i64 x_0.Op,.int .i64 x_0.At,.string (bs x_0.S),j0]] [nro j0 zj x_0.Args,globA] (fun v G=>v = .tuple #[.string (bs r.1),.int .i64 r.2]∧G=[]):=by
 refine zN func20 rfl ntmps20 rfl (fun w0 o0=>?_)
 refine zh (lB fun b1=>?_)
 refine yn 3 ?_
 refine cl0 [(0,0),(2,2),(1,0)] call51 (fun h=>zfN h) h (fun r2 h=>?_)
 refine yn 3 ?_
 exact fs [2,3] [] results20 h
def z97 (a_0:(List (List UInt8))) (b_1:(List (List UInt8))):(Int)→Option (Lp (Int) (Lp (Unit) (Bool))):=
 fun i_6=>
  cond (decide (i_6<(a_0.length:Int)))
   (idx a_0 i_6 fun x12=>
   idx b_1 i_6 fun x13=>
   cond (!decide (x12=x13))
    (some (.stop (.stop false)))
    (some (.go (IntKind.i64.wrap (i_6+1)))))
   (some (.stop (.go ())))
def z9h (n:Nat) (a_0:(List (List UInt8))) (b_1:(List (List UInt8))):Option (Bool):=
 cond (decide ((a_0.length:Int)≠(b_1.length:Int)))
  (some false)
  (bindJ (S := Unit)
   (iter (z97 a_0 b_1) n 0)
  (fun _ =>
   some true))
theorem zfr {n:Nat} {a_0:(List (List UInt8))} {b_1:(List (List UInt8))} {jb:Value} {jc:Value} {r:Bool} (h:z9h n a_0 b_1=some r) :
  Meets Tryz.prog 158 [jb,jc] [ro jb 1 (a_0.map eStr),ro jc 1 (b_1.map eStr)] (fun v G=>v = .bool r∧G=[]):=by
 refine zN func158 rfl ntmps158 rfl (fun w0 o0=>?_)
 refine yc 6 h (fun _ h=>?_) fun _ h=>?_
 ·refine yn 4 ?_
  exact fs [4] [] results158 h
 ·refine run_skip (zD (jr h [] [] (fun s (g:Unit)=>[]) (fun s g=>[]) (fun _ h ho3 _ hL4=>?_) ?_))
  ·refine yn 4 ?_
   refine lo h [0,1] [1,2] (fun s (g:Unit)=>[(5,.int .i64 s)]) (fun s g=>[]) () [0,1] ?_
   rintro _ _ _ h _ jh j4
   refine rs ?_
   refine yc 4 h (fun _ h=>?_) fun _ h=>?_
   ·refine yn 3 ?_
    refine zH (z4U (by kernel_rfl) (by kernel_rfl) ?_)
    refine yu ?_
    obtain ⟨x12,jp,jq,js,h⟩:=zP h
    refine yu ?_
    obtain ⟨x13,jt,ju,jv,h⟩:=zP h
    refine yu ?_
    refine z2m ?_
    refine yc 1 h (fun _ h=>?_) fun _ h=>?_
    ·refine zH (rj [] [] ?_)
     refine yn 4 ?_
     obtain rfl:=zU h
     obtain rfl:=j4 _ rfl
     skip
     obtain rfl:=zM ho3
     exact ft [4] [] results158
    ·refine yn 2 ?_
     refine zD (rj [5,0,1] [0,1] ?_)
     refine yn 3 ?_
     exact gj jh () [0,1] h
   ·refine z1h _ rfl ?_
    exact gk hL4 j4 () [] h
  rintro _ _ h
  refine rs ?_
  refine yn 4 ?_
  exact fs [4] [] results158 h
end Go.Proofs.YtcmaoifiiigggaaGreatDoor
