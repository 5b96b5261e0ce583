/-
  Functions of the program, lifted: part 13.
-/
import Derived.Test.YtcmaoifiiigggaaGreatDoorFl
set_option linter.unusedSimpArgs false
set_option linter.unusedVariables false
namespace Go.Proofs.YtcmaoifiiigggaaGreatDoor
open Go.Abs
set_option maxRecDepth 20000
set_option maxHeartbeats 4000000
def zba (t_0:z6):Option ((List UInt8)):=
 cond (decide (t_0.Kind≠4))
  (some t_0.S)
  (obind (zjW ([[34],[92,34],[92],[92,92]]:List (List UInt8))) fun r4=>
  obind (zk7 0 0 0 ([[34],[92,34],[92],[92,92]]:List (List UInt8)) t_0.S) fun r8=>
  need ([34].length+r8.length≤4294967296) (
  need (([34]++r8).length+[34].length≤4294967296) (
  some (([34]++r8)++[34]))))
theorem zer:K40 zba 45:=by
 intro t_0 r h
 refine zN Tryz.func45 rfl Tryz.ntmps45 rfl (fun w0 o0=>?_)
 refine zh ?_
 refine zt (t_box rfl) ?_
 rintro _ _ ⟨b1,rfl,rfl⟩
 refine ys ?_
 refine zc ?_
 refine zh ?_
 refine ys ?_
 refine zd ?_
 refine rc h (fun _ h=>?_) (fun _ h=>?_)
 ·refine zh ?_
  refine ys ?_
  refine zd ?_
  refine zA ?_
  exact fs [2] [] Tryz.results45 h
 ·refine run_skip ?_
  refine zg ?_
  refine rf [1] fun hS=>?_
  refine aq [2,3] ?_
  refine zK [0] (by kernel_rfl) rfl (zk ?_ zC)
  refine at' rfl (t_lit [.string (bs [34]),.string (bs [92,34]),.string (bs [92]),.string (bs [92,92])] Tryz.runUnderlying62 Tryz.sizeOf9 Tryz.zeroValue9 rfl (by decide) (by decide) rfl (by simp [Value.cells,boxP])) ?_
  rintro v3 _ ⟨rfl,_⟩
  refine sb ?_
  refine z1B (retell 1 (g:=row v3 1 (([[34],[92,34],[92],[92,92]]:List (List UInt8)).map eStr)) rfl rfl) ?_
  refine zK [1] (by kernel_rfl) rfl (zk ?_ zC)
  obtain ⟨r4,hr5,h⟩:=zJ h
  refine at' rfl (zbx (vs:=[v3]) (cs:=[]) [(1,1)] rfl Tryz.call101 rfl (zlo  ([[34],[92,34],[92],[92,92]]:List (List UInt8)) v3 hr5) (z69 1 rfl z6S z3r) rfl (.inr (by rintro _ _ ⟨_,_,rfl,rfl⟩ g hg; first | (cases hg; done) | (simp only [List.mem_cons,List.not_mem_nil,or_false] at hg; first | (subst hg; first | exact z5K | exact z5J) | (rcases hg with rfl | rfl <;> first | exact z5K | exact z5J) | (rcases hg with rfl | rfl | rfl <;> first | exact z5K | exact z5J))))) ?_
  rintro _ _ ⟨_,⟨v6,v7,rfl,rfl⟩,rfl⟩
  refine sb ?_
  refine zK [4] (by kernel_rfl) rfl (zk ?_ zC)
  obtain ⟨r8,hr9,h⟩:=zJ h
  refine at' rfl (tc [(2,2),(3,2)] Tryz.call102 (zls 0 0 0 ([[34],[92,34],[92],[92,92]]:List (List UInt8)) t_0.S v7 v6 hr9)) ?_
  rintro _ _ ⟨_,⟨rfl,rfl⟩,rfl⟩
  refine sb ?_
  obtain ⟨hs10,h⟩:=zX h
  refine ai 5 rfl (zdd rfl rfl hs10) ?_
  obtain ⟨hs11,h⟩:=zX h
  refine ai 6 rfl (zdd rfl rfl hs11) ?_
  refine aq [7] ?_
  refine z1K (by kernel_rfl) ?_
  refine zD ?_
  refine zA ?_
  exact fs [2] [] Tryz.results45 h
def zaB (n:Nat) (t_0:z6):Option (Bool):=
 obind (zba t_0) fun r2=>
 obind (z4J n r2) fun r4=>
 bindJ (S:=Bool)
  (cond (decide (r4.2.E = 0) && decide ((r4.1.length : Int) = 1))
   (idx r4.1 0 fun x17=>
   some (.go (decide (x17.Kind=t_0.Kind) && (decide (x17.At=0) && (decide (x17.S=t_0.S))))))
   (some (.go false)))
 (fun b11 =>
  some b11)
theorem zgr {n:Nat} {t_0:z6} {r:Bool} (h:zaB n t_0=some r) :
  Meets Tryz.prog 44 [.agg #[.int .i64 t_0.Kind,.int .i64 t_0.At,.string (bs t_0.S)]] [globA] (fun v G=>v = .bool r∧G=[]):=by
 refine zN Tryz.func44 rfl Tryz.ntmps44 rfl (fun w0 o0=>?_)
 refine zh ?_
 refine zt (t_box rfl) ?_
 rintro _ _ ⟨b1,rfl,rfl⟩
 refine ys ?_
 refine za ?_
 refine ys ?_
 refine cl0 [] Tryz.call45 (fun h=>zer h) h (fun r2 h=>?_)
 refine cl1 [(0,0)] Tryz.call15 (fun h=>z66 h) h (fun r4 v6 h=>?_)
 refine ys ?_
 refine al fun b7=>?_
 refine ys ?_
 refine zc ?_
 refine rj [1,4,3] [0,1,2,3] ?_
 refine z4U (by kernel_rfl) (by kernel_rfl) ?_
 refine yu ?_
 refine sq 4 14 18 [1,3] [0,1,2,3] (decide (r4.2.E=0) && decide ((r4.1.length:Int)=1)) ?_
 refine yu ?_
 refine sbj h 10 [] [1,2,3,4] (fun s=>[(29,.bool s)]) (fun s=>[]) (fun _ h _ _ hL15=>?_) ?_
 ·refine z86 19 (decide (r4.2.E=0) && decide ((r4.1.length:Int)=1)) rfl (fun hg16=>?_) (fun hg16=>?_)
  ·replace h:=z2F h hg16
   refine yu ?_
   obtain ⟨x17,hzx17,hlx17,hxx17,h⟩:=zP h
   refine yu ?_
   refine zu (y_eqS (by kernel_rfl) (by kernel_rfl) Tryz.runUnderlying41 rfl rfl (.cons (z7k (by decide) Tryz.runUnderlying3 Tryz.isAgg3 rfl rfl) (.cons (z7k (by decide) Tryz.runUnderlying3 Tryz.isAgg3 rfl rfl) (.cons (zgk (by decide) Tryz.runUnderlying9 Tryz.isAgg9 rfl rfl) EqFs.nil)))) ?_
   refine yu ?_
   refine z2m ?_
   exact gb hL15 [0,1,2,3] h
  ·replace h:=z2E h hg16
   refine yu ?_
   refine z2m ?_
   exact gb hL15 [0,1,2,3] h
 rintro b11 h
 refine ss' ?_
 refine yu ?_
 refine z2m ?_
 refine zD ?_
 refine zA ?_
 exact fs [2] [] Tryz.results44 h
def zcv (n:Nat) (l_0:(List z6)):((List (List UInt8))×Int)→Option (Lp ((List (List UInt8))×Int) (Lp ((List (List UInt8))) ((List UInt8)×Int))):=
 fun (out_7,s_8)=>
  cond (decide (s_8<(l_0.length:Int)))
   (idx l_0 s_8 fun x15=>
   obind (zaB n x15) fun r17=>
   cond (!r17)
    (some (.stop (.stop ([],1))))
    (obind (zba x15) fun r20=>
    need (out_7.length+([r20]:List (List UInt8)).length≤4294967296) (
    some (.go ((out_7++([r20]:List (List UInt8))),(IntKind.i64.wrap (s_8+1)))))))
   (some (.stop (.go out_7)))
def z8n (n:Nat) (l_0:(List z6)):Option ((List UInt8)×Int):=
 bindJ (S:=(List (List UInt8)))
  (iter (zcv n l_0) n (([]:List (List UInt8)),0))
 (fun out_1 =>
  obind (joinH out_1 [32]) fun r25=>
  cond (decide (65536<(r25.length:Int)))
   (some ([],2))
   (some (r25,0)))
theorem zaA {n:Nat} {l_0:(List z6)} {l_0v:Value} {r:(List UInt8)×Int} (h:z8n n l_0=some r) :
  Meets Tryz.prog 16 [l_0v] [ro l_0v 3 (l_0.map z6.enc),globA] (fun v G=>v = .tuple #[.string (bs r.1),.int .i64 r.2]∧G=[]):=by
 refine zN Tryz.func16 rfl Tryz.ntmps16 rfl (fun w0 o0=>?_)
 refine zh ?_
 refine ys ?_
 refine za ?_
 refine ys ?_
 refine zd ?_
 refine jr h [] [0,2] (fun s (g:Value)=>[(4,g)]) (fun s g=>[row g 1 (s.map eStr)]) (fun _ h ho4 _ hL5=>?_) ?_
 ·refine zh ?_
  refine ys ?_
  refine zd ?_
  refine zF ?_
  refine z3x (nilrow 1) ?_
  refine z3x (retell 2 (g:=row (.slice none 0 0) 1 (([]:List (List UInt8)).map eStr)) rfl rfl) ?_
  refine lo h [8,9] [0,1,2] (fun s (g:Value)=>[(4,g),(10,.int .i64 s.2)]) (fun s g=>[row g 1 (s.1.map eStr)]) _ [2,0,1] ?_
  rintro ⟨out_7,_⟩ _ _ h _ hgo11 hstop12
  refine rs ?_
  refine zh ?_
  refine ys ?_
  refine zc ?_
  refine rc h (fun _ h=>?_) (fun _ h=>?_)
  ·refine run_skip ?_
   refine zg ?_
   refine zF ?_
   refine zh ?_
   obtain ⟨x15,hzx15,hlx15,hxx15,h⟩:=zP h
   refine ys ?_
   refine al fun b16=>?_
   refine ys ?_
   refine zc ?_
   refine zh ?_
   refine ys ?_
   refine cl0 [(2,0)] Tryz.call44 (fun h=>zgr h) h (fun r17 h=>?_)
   refine ys ?_
   refine zd ?_
   refine rc h (fun _ h=>?_) (fun _ h=>?_)
   ·refine zH ?_
    refine rj [] [2] ?_
    refine z8 ?_
    refine ys ?_
    refine zd ?_
    refine zA ?_
    obtain rfl:=zU h
    obtain rfl:=hstop12 _ rfl
    skip
    obtain rfl:=zM ho4
    exact ft [2,3] [] Tryz.results16
   ·refine run_skip ?_
    refine zD ?_
    refine rj [4,10,8,9,6] [0,1,2,3] ?_
    refine z8 ?_
    refine ys ?_
    refine cl0 [] Tryz.call45 (fun h=>zer h) h (fun r20 h=>?_)
    refine zt (t_lit [.string (bs r20)] Tryz.runUnderlying62 Tryz.sizeOf9 Tryz.zeroValue9 rfl (by decide) (by decide) rfl (by simp [Value.cells,boxP])) ?_
    rintro v22 _ ⟨rfl,_⟩
    refine zB (retell 4 (g:=row v22 1 (([r20]:List (List UInt8)).map eStr)) rfl rfl) ?_
    obtain ⟨hr24,h⟩:=zX h
    refine zt (z1U (es:=1) 0 rfl Tryz.runUnderlying62 rfl Tryz.runUnderlying62 (.inr ⟨_,rfl⟩) Tryz.typeInfo9 rfl (by decide) Tryz.zeroValue9 rfl rfl rfl rfl (z1C 4 rfl z1d (z42 zfB _)) (z1T hr24 (by decide)) (z2H hr24)) ?_
    rintro v23 _ rfl
    refine zB (retell 0 (g:=row v23 1 ((out_7++([r20]:List (List UInt8))).map eStr)) rfl (congrArg (row _ _) List.map_append.symm)) ?_
    refine ys ?_
    refine zr ?_
    refine zS ?_
    refine zf ?_
    refine ys ?_
    refine zr ?_
    exact gj hgo11 _ [0,1,2] h
  ·refine z1h _ rfl ?_
   exact gk hL5 hstop12 _ [0,2] h
 rintro out_1 v2 h
 refine rs ?_
 refine zh ?_
 refine ys ?_
 obtain ⟨r25,hr26,h⟩:=zJ h
 refine zt (zbx (vs:=[v2,.string (bs [32])]) (cs:=[]) [(0,1)] rfl Tryz.call46 rfl (zpR  out_1 [32] v2 hr26) (z69 0 rfl z6S z3r) rfl (.inr (by rintro _ _ ⟨rfl,rfl⟩ g hg; first | (cases hg; done) | (simp only [List.mem_cons,List.not_mem_nil,or_false] at hg; first | (subst hg; first | exact z5K | exact z5J) | (rcases hg with rfl | rfl <;> first | exact z5K | exact z5J) | (rcases hg with rfl | rfl | rfl <;> first | exact z5K | exact z5J))))) ?_
 rintro _ _ ⟨_,⟨rfl,rfl⟩,rfl⟩
 refine ys ?_
 refine zc ?_
 refine zh ?_
 refine ys ?_
 refine zd ?_
 refine rc h (fun _ h=>?_) (fun _ h=>?_)
 ·refine zh ?_
  refine ys ?_
  refine zd ?_
  refine zA ?_
  exact fs [2,3] [] Tryz.results16 h
 ·refine run_skip ?_
  refine ze ?_
  refine ys ?_
  refine zd ?_
  refine zA ?_
  exact fs [2,3] [] Tryz.results16 h
def zbH (n:Nat) (all_0_0:zi):Option ((List UInt8)×Int):=
 obind (z74 n (zo.mk ([]:List z6)) all_0_0) fun r4=>
 pbind r4 (fun e7=>
  some ([],e7)) fun q6=>
 obind (z8n n q6.l_) fun r9=>
 cond (decide (r9.2=1))
  (some ([],3))
  (bindJ (S := Bool)
   (cond (decide (r9.2 ≠ 0))
    (some (.go true))
    (obind (z83 n q6.l_) fun r18=>
    some (.go (decide (0≤r18)))))
  (fun b12 =>
   cond b12
    (some ([],2))
    (some (r9.1,0))))
theorem zfN {n:Nat} {all_0_0:zi} {all_0_0b:Nat} {all_0_0_Argsv:Value} {r:(List UInt8)×Int} (h:zbH n all_0_0=some r) :
  Meets Tryz.prog 51 [.func (.func 52) #[] #[boxP all_0_0b 0]] [nro all_0_0_Argsv zj all_0_0.Args,box all_0_0b [.int .i64 all_0_0.Op,.int .i64 all_0_0.At,.string (bs all_0_0.S),all_0_0_Argsv],globA] (fun v G=>v = .tuple #[.string (bs r.1),.int .i64 r.2]∧G=[]):=by
 refine zcm Tryz.func51 rfl Tryz.ntmps51 rfl (fun w0 o0=>?_)
 refine zh ?_
 refine al fun b1=>?_
 refine al fun b2=>?_
 refine za ?_
 refine ys ?_
 refine zet (wn rfl) rfl rfl rfl rfl ?_
 refine za ?_
 refine ys ?_
 refine zt (t_box rfl) ?_
 rintro _ _ ⟨b3,rfl,rfl⟩
 refine ys ?_
 refine za ?_
 refine ys ?_
 refine zB (nilrow 3) ?_
 refine zB (retell 6 (g:=row (.slice none 0 0) 3 (([]:List z6).map z6.enc)) rfl rfl) ?_
 obtain ⟨r4,hr5,h⟩:=zJ h
 rcases r4 with q6 | e7
 rotate_left
 ·replace h:=z32 h
  refine z6M (wn rfl) rfl (zf2 (vs:=[boxP b3 0]) (cs:=[boxP all_0_0b 0]) [(6,2),(5,2),(0,0),(1,2)] rfl Tryz.call52 rfl (z8q hr5) (z2f 6 rfl (z2f 5 rfl (z3U 0 rfl z60 (z2f 1 rfl z3r)))) rfl (.inl rfl)) (by rintro _ _ ⟨_,⟨_,hq,_⟩,_⟩; cases hq) ?_
  rintro _ ⟨_,he,rfl⟩
  obtain rfl:=Pn.pan.inj he
  refine zaS Tryz.call111 (zf8 b1 b2 e7 3 4 rfl rfl (by decide)) ?_
  obtain rfl:=zU h
  refine z4R [.cell 2 9,.cell 3 27] [.string (bs []),.int .i64 e7] [] [] Tryz.results51 rfl (rescons (z52 3 Tryz.isAgg9 rfl rfl) (rescons (z52 4 Tryz.isAgg27 rfl rfl) resnil)) (by decide) rfl ?_
  exact ⟨rfl,rfl⟩
 replace h:=z33 h
 refine zt (zbx (vs:=[boxP b3 0]) (cs:=[boxP all_0_0b 0]) [(6,2),(5,2),(0,0),(1,2)] rfl Tryz.call52 rfl (z5a (z8q hr5)) (z2f 6 rfl (z2f 5 rfl (z3U 0 rfl z60 (z2f 1 rfl z3r)))) rfl (.inl rfl)) ?_
 rintro _ _ ⟨_,⟨v8,rfl,rfl⟩,rfl⟩
 refine zc ?_
 refine rj [2,3,4] [2,3,4,7,8] ?_
 refine z8 ?_
 refine ys ?_
 refine cl0 [(3,1),(0,0)] Tryz.call16 (fun h=>zaA h) h (fun r9 h=>?_)
 refine ys ?_
 refine zc ?_
 refine zF ?_
 refine zH ?_
 refine rj [2,3,4] [0,1,2,3,4] ?_
 refine z8 ?_
 refine ys ?_
 refine zd ?_
 refine rc h (fun _ h=>?_) (fun _ h=>?_)
 ·refine zh ?_
  refine ys ?_
  refine zd ?_
  refine zA ?_
  refine zeh Tryz.call111 (z6X b1 b2 _) ?_
  obtain rfl:=zU h
  refine z4R [.cell 2 9,.cell 3 27] [.string (bs []),.int .i64 3] [] [] Tryz.results51 rfl (rescons (z52 1 Tryz.isAgg9 rfl rfl) (rescons (z52 2 Tryz.isAgg27 rfl rfl) resnil)) (by decide) rfl ?_
  exact ⟨rfl,rfl⟩
 ·refine zh ?_
  refine ys ?_
  refine ob h 7 [2,3] [1,2,3] (fun s=>[(32,.bool s)]) (fun s=>[]) (fun _ h _ _ hL16=>?_) ?_
  ·refine z1c 25 (decide (r9.2≠0)) rfl (fun hg17=>?_) (fun hg17=>?_)
   ·replace h:=z2F h hg17
    refine ys ?_
    refine zr ?_
    exact gb hL16 [0,1,2] h
   ·replace h:=z2E h hg17
    refine ys ?_
    refine cl0 [(3,1)] Tryz.call72 (fun h=>z9M h) h (fun r18 h=>?_)
    refine ys ?_
    refine zr ?_
    exact gb hL16 [0,1,2] h
  rintro b12 h
  refine os ?_
  refine ys ?_
  refine zd ?_
  refine rc h (fun _ h=>?_) (fun _ h=>?_)
  ·refine zh ?_
   refine ys ?_
   refine zd ?_
   refine zA ?_
   refine zeh Tryz.call111 (z6X b1 b2 _) ?_
   obtain rfl:=zU h
   refine z4R [.cell 2 9,.cell 3 27] [.string (bs []),.int .i64 2] [] [] Tryz.results51 rfl (rescons (z52 1 Tryz.isAgg9 rfl rfl) (rescons (z52 2 Tryz.isAgg27 rfl rfl) resnil)) (by decide) rfl ?_
   exact ⟨rfl,rfl⟩
  ·refine run_skip ?_
   refine zS ?_
   refine ze ?_
   refine ys ?_
   refine zd ?_
   refine zA ?_
   refine zeh Tryz.call111 (z6X b1 b2 _) ?_
   obtain rfl:=zU h
   refine z4R [.cell 2 9,.cell 3 27] [.string (bs r9.1),.int .i64 0] [] [] Tryz.results51 rfl (rescons (z52 1 Tryz.isAgg9 rfl rfl) (rescons (z52 2 Tryz.isAgg27 rfl rfl) resnil)) (by decide) rfl ?_
   exact ⟨rfl,rfl⟩
def z5C (n:Nat) (x_0:zi):Option ((List UInt8)×Int):=
 obind (zbH n x_0) fun r2=>
 some (r2.1,r2.2)
theorem z8r {n:Nat} {x_0:zi} {x_0_Argsv:Value} {r:(List UInt8)×Int} (h:z5C n x_0=some r) :
  Meets Tryz.prog 20 [.agg #[.int .i64 x_0.Op,.int .i64 x_0.At,.string (bs x_0.S),x_0_Argsv]] [nro x_0_Argsv zj x_0.Args,globA] (fun v G=>v = .tuple #[.string (bs r.1),.int .i64 r.2]∧G=[]):=by
 refine zN Tryz.func20 rfl Tryz.ntmps20 rfl (fun w0 o0=>?_)
 refine zh ?_
 refine zt (t_box rfl) ?_
 rintro _ _ ⟨b1,rfl,rfl⟩
 refine ys ?_
 refine za ?_
 refine ys ?_
 refine cl0 [(0,0),(2,2),(1,0)] Tryz.call51 (fun h=>zfN h) h (fun r2 h=>?_)
 refine ys ?_
 refine zd ?_
 refine zA ?_
 exact fs [2,3] [] Tryz.results20 h
def z97 (a_0:(List (List UInt8))) (b_1:(List (List UInt8))):(Int)→Option (Lp (Int) (Lp (Unit) (Bool))):=
 fun i_6=>
  cond (decide (i_6<(a_0.length:Int)))
   (idx a_0 i_6 fun x12=>
   idx b_1 i_6 fun x13=>
   cond (!decide (x12=x13))
    (some (.stop (.stop false)))
    (some (.go (IntKind.i64.wrap (i_6+1)))))
   (some (.stop (.go ())))
def z9h (n:Nat) (a_0:(List (List UInt8))) (b_1:(List (List UInt8))):Option (Bool):=
 cond (decide ((a_0.length:Int)≠(b_1.length:Int)))
  (some false)
  (bindJ (S := Unit)
   (iter (z97 a_0 b_1) n 0)
  (fun _ =>
   some true))
theorem zfr {n:Nat} {a_0:(List (List UInt8))} {b_1:(List (List UInt8))} {a_0v:Value} {b_1v:Value} {r:Bool} (h:z9h n a_0 b_1=some r) :
  Meets Tryz.prog 158 [a_0v,b_1v] [ro a_0v 1 (a_0.map eStr),ro b_1v 1 (b_1.map eStr)] (fun v G=>v = .bool r∧G=[]):=by
 refine zN Tryz.func158 rfl Tryz.ntmps158 rfl (fun w0 o0=>?_)
 refine zh ?_
 refine ys ?_
 refine zc ?_
 refine zh ?_
 refine ys ?_
 refine zd ?_
 refine rc h (fun _ h=>?_) (fun _ h=>?_)
 ·refine zh ?_
  refine ys ?_
  refine zd ?_
  refine zA ?_
  exact fs [4] [] Tryz.results158 h
 ·refine run_skip ?_
  refine zD ?_
  refine jr h [] [] (fun s (g:Unit)=>[]) (fun s g=>[]) (fun _ h ho3 _ hL4=>?_) ?_
  ·refine zh ?_
   refine ys ?_
   refine zd ?_
   refine zF ?_
   refine lo h [0,1] [1,2] (fun s (g:Unit)=>[(5,.int .i64 s)]) (fun s g=>[]) () [0,1] ?_
   rintro _ _ _ h _ hgo8 hstop9
   refine rs ?_
   refine zH ?_
   refine zh ?_
   refine ys ?_
   refine zd ?_
   refine rc h (fun _ h=>?_) (fun _ h=>?_)
   ·refine run_skip ?_
    refine zg ?_
    refine zF ?_
    refine zH ?_
    refine z4U (by kernel_rfl) (by kernel_rfl) ?_
    refine yu ?_
    obtain ⟨x12,hzx12,hlx12,hxx12,h⟩:=zP h
    refine yu ?_
    obtain ⟨x13,hzx13,hlx13,hxx13,h⟩:=zP h
    refine yu ?_
    refine z2m ?_
    refine zD ?_
    refine rc h (fun _ h=>?_) (fun _ h=>?_)
    ·refine zH ?_
     refine rj [] [] ?_
     refine z8 ?_
     refine ys ?_
     refine zd ?_
     refine zA ?_
     obtain rfl:=zU h
     obtain rfl:=hstop9 _ rfl
     skip
     obtain rfl:=zM ho3
     exact ft [4] [] Tryz.results158
    ·refine run_skip ?_
     refine zS ?_
     refine zD ?_
     refine rj [5,0,1] [0,1] ?_
     refine z8 ?_
     refine ys ?_
     refine zr ?_
     exact gj hgo8 () [0,1] h
   ·refine z1h _ rfl ?_
    exact gk hL4 hstop9 () [] h
  rintro _ _ h
  refine rs ?_
  refine zh ?_
  refine ys ?_
  refine zd ?_
  refine zA ?_
  exact fs [4] [] Tryz.results158 h
end Go.Proofs.YtcmaoifiiigggaaGreatDoor
