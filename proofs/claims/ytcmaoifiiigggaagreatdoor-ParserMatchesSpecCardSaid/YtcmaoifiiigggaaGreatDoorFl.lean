/-
  Functions of the program, lifted: part 12.
-/
import Derived.Test.YtcmaoifiiigggaaGreatDoorFk
set_option linter.unusedSimpArgs false
set_option linter.unusedVariables false
namespace Go.Proofs.YtcmaoifiiigggaaGreatDoor
open Go.Abs
set_option maxRecDepth 20000
set_option maxHeartbeats 4000000
def z14 (w_0:zo) (kind_1:Int) (s_2:(List UInt8)):Option (zo):=
 need (w_0.l_.length+([(z6.mk kind_1 0 s_2)]:List z6).length≤4294967296) (
 some (zo.mk (w_0.l_++([(z6.mk kind_1 0 s_2)]:List z6))))
theorem z17 {w_0:zo} {kind_1:Int} {s_2:(List UInt8)} {w_0b:Nat} {w_0_l_v:Value} {r:zo} (h:z14 w_0 kind_1 s_2=some r) :
  Meets Tryz.prog 113 [boxP w_0b 0,.int .i64 kind_1,.string (bs s_2)] [row w_0_l_v 3 (w_0.l_.map z6.enc),box w_0b [w_0_l_v]] (fun v G=>∃ v0,v = .tuple #[]∧G=[row v0 3 (r.l_.map z6.enc),box w_0b [v0]]):=by
 refine zN Tryz.func113 rfl Tryz.ntmps113 rfl (fun w0 o0=>?_)
 refine z8 ?_
 refine ys ?_
 refine zt (t_lit [.agg #[.int .i64 kind_1,.int .i64 0,.string (bs s_2)]] Tryz.runUnderlying37 Tryz.sizeOf41 Tryz.zeroValue41 rfl (by decide) (by decide) rfl (by simp [Value.cells,boxP])) ?_
 rintro v1 _ ⟨rfl,_⟩
 refine zB (retell 2 (g:=row v1 3 (([(z6.mk kind_1 0 s_2)]:List z6).map z6.enc)) rfl rfl) ?_
 obtain ⟨hr3,h⟩:=zX h
 refine zt (z1U (es:=3) 0 rfl Tryz.runUnderlying37 rfl Tryz.runUnderlying37 (.inr ⟨_,rfl⟩) Tryz.typeInfo41 rfl (by decide) Tryz.zeroValue41 rfl rfl rfl rfl (z1C 2 rfl z1d (z42 z6.enc_ok _)) (z1T hr3 (by decide)) (z2H hr3)) ?_
 rintro v2 _ rfl
 refine zB (retell 0 (g:=row v2 3 ((w_0.l_++([(z6.mk kind_1 0 s_2)]:List z6)).map z6.enc)) rfl (congrArg (row _ _) List.map_append.symm)) ?_
 refine ys ?_
 refine zr ?_
 refine z3d ?_
 exact fs [] [0,1] Tryz.results113 h
def z5j (l_1:(List (List UInt8))):(Int×(List z6))→Option (Lp (Int×(List z6)) zo):=
 fun (s_1,x_2)=>
  cond (decide (s_1<(l_1.length:Int)))
   (idx l_1 s_1 fun x9=>
   obind (z14 (zo.mk x_2) 2 x9) fun r10=>
   some (.go ((IntKind.i64.wrap (s_1+1)),r10.l_)))
   (some (.stop (zo.mk x_2)))
def zO (n:Nat) (w_0:zo) (l_1:(List (List UInt8))):Option (zo):=
 iter (z5j l_1) n (0,w_0.l_)
theorem zT {n:Nat}:K39 (zO n) 114:=by
 intro w_0 l_1 w_0b w_0_l_v l_1v r h
 refine zN Tryz.func114 rfl Tryz.ntmps114 rfl (fun w0 o0=>?_)
 refine zh ?_
 refine ys ?_
 refine zd ?_
 refine zF ?_
 refine lo h [0,6,7] [0,0,3] (fun s (g:Value)=>[(8,.int .i64 s.1)]) (fun s g=>[box w_0b [g],row g 3 (s.2.map z6.enc)]) _ [1,0,2] ?_
 rintro ⟨_,_⟩ _ _ h _ hgo5 hstop6
 refine rs ?_
 refine zh ?_
 refine ys ?_
 refine zc ?_
 refine rc h (fun _ h=>?_) (fun _ h=>?_)
 ·refine run_skip ?_
  refine zg ?_
  refine zF ?_
  refine zh ?_
  obtain ⟨x9,hzx9,hlx9,hxx9,h⟩:=zP h
  refine ys ?_
  refine zb ?_
  refine ys ?_
  refine cl1 [(1,2),(0,2)] Tryz.call113 (fun h=>z17 h) h (fun r10 v12 h=>?_)
  refine zr ?_
  refine zS ?_
  refine zf ?_
  refine ys ?_
  refine zr ?_
  exact gj hgo5 _ [4,3,2] h
 ·refine z1h _ rfl ?_
  refine z3d ?_
  obtain rfl:=zU h
  obtain rfl:=hstop6 _ rfl
  exact ft [] [1,0] Tryz.results114
def z5i (l_1:(List (List UInt8))):(Int×(List z6))→Option (Lp (Int×(List z6)) zo):=
 fun (s_1,x_2)=>
  cond (decide (s_1<(l_1.length:Int)))
   (idx l_1 s_1 fun x9=>
   obind (z14 (zo.mk x_2) 5 x9) fun r10=>
   some (.go ((IntKind.i64.wrap (s_1+1)),r10.l_)))
   (some (.stop (zo.mk x_2)))
def zW (n:Nat) (w_0:zo) (l_1:(List (List UInt8))):Option (zo):=
 iter (z5i l_1) n (0,w_0.l_)
theorem zZ {n:Nat}:K39 (zW n) 116:=by
 intro w_0 l_1 w_0b w_0_l_v l_1v r h
 refine zN Tryz.func116 rfl Tryz.ntmps116 rfl (fun w0 o0=>?_)
 refine zh ?_
 refine ys ?_
 refine zd ?_
 refine zF ?_
 refine lo h [0,6,7] [0,0,3] (fun s (g:Value)=>[(8,.int .i64 s.1)]) (fun s g=>[box w_0b [g],row g 3 (s.2.map z6.enc)]) _ [1,0,2] ?_
 rintro ⟨_,_⟩ _ _ h _ hgo5 hstop6
 refine rs ?_
 refine zh ?_
 refine ys ?_
 refine zc ?_
 refine rc h (fun _ h=>?_) (fun _ h=>?_)
 ·refine run_skip ?_
  refine zg ?_
  refine zF ?_
  refine zh ?_
  obtain ⟨x9,hzx9,hlx9,hxx9,h⟩:=zP h
  refine ys ?_
  refine zb ?_
  refine ys ?_
  refine cl1 [(1,2),(0,2)] Tryz.call113 (fun h=>z17 h) h (fun r10 v12 h=>?_)
  refine zr ?_
  refine zS ?_
  refine zf ?_
  refine ys ?_
  refine zr ?_
  exact gj hgo5 _ [4,3,2] h
 ·refine z1h _ rfl ?_
  refine z3d ?_
  obtain rfl:=zU h
  obtain rfl:=hstop6 _ rfl
  exact ft [] [1,0] Tryz.results116
def z1E (n:Nat) (rec_weirgate_parser_writer_expr_53:zo→zi→Option (Pn (zo))) (w_0:zo) (x_1:zi):Option (Pn (zo)):=
 cond (decide ((x_1.Args.length:Int)=0))
  (obind (rec_weirgate_parser_writer_expr_53 w_0 x_1) fun r3=>
  pbind r3 (fun e6=>
   some (.pan e6)) fun q5=>
  some (.ret q5))
  (obind (zW n w_0 ([[40]]:List (List UInt8))) fun r9=>
  obind (rec_weirgate_parser_writer_expr_53 r9 x_1) fun r12=>
  pbind r12 (fun e15=>
   some (.pan e15)) fun q14=>
  obind (zW n q14 ([[41]]:List (List UInt8))) fun r18=>
  some (.ret r18))
theorem z2r {n:Nat} {rec_weirgate_parser_writer_expr_53:zo→zi→Option (Pn (zo))} (hrec_weirgate_parser_writer_expr_53:K12 rec_weirgate_parser_writer_expr_53 53):K12 (z1E n rec_weirgate_parser_writer_expr_53) 117:=by
 intro w_0 x_1 w_0b w_0_l_v x_1_Argsv r h
 refine z1y Tryz.func117 rfl Tryz.ntmps117 rfl (fun w0 o0=>?_)
 refine zh ?_
 refine zt (t_box rfl) ?_
 rintro _ _ ⟨b1,rfl,rfl⟩
 refine zc ?_
 refine zh ?_
 refine ys ?_
 refine zd ?_
 refine rc h (fun _ h=>?_) (fun _ h=>?_)
 ·refine zh ?_
  refine ys ?_
  refine cp1 [(0,2),(1,2),(2,0)] Tryz.call53 (fun h=>hrec_weirgate_parser_writer_expr_53 h) h (fun q5 v7 h=>?_)
  refine zd ?_
  refine zA ?_
  exact fs [] [4,5] Tryz.results117 h
 ·refine run_skip ?_
  refine ze ?_
  refine ys ?_
  refine zt (t_lit [.string (bs [40])] Tryz.runUnderlying62 Tryz.sizeOf9 Tryz.zeroValue9 rfl (by decide) (by decide) rfl (by simp [Value.cells,boxP])) ?_
  rintro v8 _ ⟨rfl,_⟩
  refine zB (retell 4 (g:=row v8 1 (([[40]]:List (List UInt8)).map eStr)) rfl rfl) ?_
  refine cl1 [(0,2),(1,2),(4,1)] Tryz.call116 (fun h=>zZ h) h (fun r9 v11 h=>?_)
  refine zc ?_
  refine rj [0,3] [2,3,5,6] ?_
  refine z8 ?_
  refine ys ?_
  refine cp1 [(2,2),(3,2),(0,0)] Tryz.call53 (fun h=>hrec_weirgate_parser_writer_expr_53 h) h (fun q14 v16 h=>?_)
  refine zb ?_
  refine ys ?_
  refine zt (t_lit [.string (bs [41])] Tryz.runUnderlying62 Tryz.sizeOf9 Tryz.zeroValue9 rfl (by decide) (by decide) rfl (by simp [Value.cells,boxP])) ?_
  rintro v17 _ ⟨rfl,_⟩
  refine zB (retell 6 (g:=row v17 1 (([[41]]:List (List UInt8)).map eStr)) rfl rfl) ?_
  refine cl1 [(4,2),(5,2),(6,1)] Tryz.call116 (fun h=>zZ h) h (fun r18 v20 h=>?_)
  refine zr ?_
  refine z3d ?_
  exact fs [] [7,8] Tryz.results117 h
def z27 (n:Nat) (x_1:zi) (rec_weirgate_parser_writer_expr_53:zo→zi→Option (Pn (zo))):(Int×(List z6))→Option (Lp (Int×(List z6)) (Lp ((List z6)) (Pn (zo)))):=
 fun (s_134,x_135)=>
  cond (decide (s_134<((x_1.Args.drop ((1:Int).toNat)).length:Int)))
   (idx (x_1.Args.drop ((1:Int).toNat)) s_134 fun x142=>
   idx ([[40],[44]]:List (List UInt8)) (min s_134 1) fun x147=>
   obind (zW n (zo.mk x_135) ([x147]:List (List UInt8))) fun r149=>
   obind (rec_weirgate_parser_writer_expr_53 r149 x142) fun r152=>
   pbind r152 (fun e155=>
    some (.stop (.stop (.pan e155)))) fun q154=>
   some (.go ((IntKind.i64.wrap (s_134+1)),q154.l_)))
   (some (.stop (.go x_135)))
def z3j (n:Nat) (rec_weirgate_parser_writer_expr_53:zo→zi→Option (Pn (zo))) (w_0:zo) (x_1:zi):Option (Pn (zo)):=
 bindJ (S:=Unit)
  (bindJ (S := Bool)
   (cond (decide (x_1.Op = 1))
    (some (.go (decide (x_1.Op=1))))
    (cond (decide (x_1.Op = 2))
     (some (.go (decide (x_1.Op=2))))
     (cond (decide (x_1.Op = 3))
      (some (.go (decide (x_1.Op=3))))
      (some (.go (decide (x_1.Op=6)))))))
  (fun s_6 =>
   cond s_6
    (obind (z2I (decide ((x_1.Args.length:Int)=0))) fun r15=>
    pbind r15 (fun e18=>
     some (.stop (.pan e18))) fun q17=>
    some (.go ()))
    (obind (z2I (decide (x_1.S=[]))) fun r19=>
    pbind r19 (fun e22=>
     some (.stop (.pan e22))) fun q21=>
    some (.go ()))))
 (fun _ =>
  cond (decide (x_1.Op=1))
   (obind (z14 w_0 3 x_1.S) fun r24=>
   some (.ret r24))
   (cond (decide (x_1.Op = 2))
    (obind (z14 w_0 4 x_1.S) fun r28=>
    some (.ret r28))
    (cond (decide (x_1.Op = 3))
     (obind (z14 w_0 1 x_1.S) fun r32=>
     some (.ret r32))
     (cond (decide (x_1.Op = 6))
      (obind (zO n w_0 ([[104,101,97,100,101,114]]:List (List UInt8))) fun r37=>
      obind (z14 r37 4 x_1.S) fun r40=>
      some (.ret r40))
      (bindJ (S := Bool)
       (cond (decide (x_1.Op = 4))
        (some (.go (decide (x_1.Op=4))))
        (cond (decide (x_1.Op = 5))
         (some (.go (decide (x_1.Op=5))))
         (some (.go (decide (x_1.Op=7))))))
      (fun s_43 =>
       cond s_43
        (obind (z2I (decide ((x_1.Args.length:Int)=0))) fun r51=>
        pbind r51 (fun e54=>
         some (.pan e54)) fun q53=>
        obind (z84) fun r55=>
        obind (mfold (fun p:((List UInt8)×Int)=>decide (p.2=x_1.Op)) (fun p x_61=>
         obind (zO n (zo.mk x_61) ([p.1]:List (List UInt8))) fun r76=>
         some r76.l_) r55 w_0.l_) fun x_59=>
        some (.ret (zo.mk x_59)))
        (cond (decide (x_1.Op = 8))
         (obind (z2I (decide ((x_1.Args.length:Int)=1))) fun r80=>
         pbind r80 (fun e83=>
          some (.pan e83)) fun q82=>
         obind (zW n w_0 ([[45]]:List (List UInt8))) fun r85=>
         idx x_1.Args 0 fun x88=>
         obind (z1E n rec_weirgate_parser_writer_expr_53 r85 x88) fun r90=>
         pbind r90 (fun e93=>
          some (.pan e93)) fun q92=>
         some (.ret q92))
         (cond (decide (x_1.Op = 9))
          (obind (z2I (decide ((x_1.Args.length:Int)=1))) fun r96=>
          pbind r96 (fun e99=>
           some (.pan e99)) fun q98=>
          obind (zO n w_0 ([[110,111,116]]:List (List UInt8))) fun r101=>
          idx x_1.Args 0 fun x104=>
          obind (z1E n rec_weirgate_parser_writer_expr_53 r101 x104) fun r106=>
          pbind r106 (fun e109=>
           some (.pan e109)) fun q108=>
          some (.ret q108))
          (cond (decide (x_1.Op = 23))
           (obind (z2I (decide (2≤(x_1.Args.length:Int)))) fun r112=>
           pbind r112 (fun e115=>
            some (.pan e115)) fun q114=>
           idx x_1.Args 0 fun x116=>
           obind (z1E n rec_weirgate_parser_writer_expr_53 w_0 x116) fun r118=>
           pbind r118 (fun e121=>
            some (.pan e121)) fun q120=>
           obind (zO n q120 ([[105,110]]:List (List UInt8))) fun r124=>
           bindJ (S:=(List z6))
            (need (0≤(1:Int)∧1≤(x_1.Args.length:Int)∧(x_1.Args.length:Int)≤(x_1.Args.length:Int)) (
            iter (z27 n x_1 rec_weirgate_parser_writer_expr_53) n (0,r124.l_)))
           (fun x_127 =>
            obind (zW n (zo.mk x_127) ([[41]]:List (List UInt8))) fun r158=>
            some (.ret r158)))
           (obind (z2I ((decide (10≤x_1.Op) && decide (x_1.Op≤22)) && decide ((x_1.Args.length:Int)=2))) fun r167=>
           pbind r167 (fun e170=>
            some (.pan e170)) fun q169=>
           idx x_1.Args 0 fun x171=>
           obind (z1E n rec_weirgate_parser_writer_expr_53 w_0 x171) fun r173=>
           pbind r173 (fun e176=>
            some (.pan e176)) fun q175=>
           bindJ (S:=(List z6))
            (obind (z92) fun r184=>
            obind (mfold (fun p:((List UInt8)×Int)=>decide (p.2=x_1.Op)) (fun p x_190=>
             cond (decide (21≤p.2))
              (obind (zO n (zo.mk x_190) ([p.1]:List (List UInt8))) fun r206=>
              some r206.l_)
              (obind (zW n (zo.mk x_190) ([p.1]:List (List UInt8))) fun r210=>
              some r210.l_)) r184 q175.l_) fun x_188=>
            some (.go x_188))
           (fun x_178 =>
            idx x_1.Args 1 fun x213=>
            obind (z1E n rec_weirgate_parser_writer_expr_53 (zo.mk x_178) x213) fun r215=>
            pbind r215 (fun e218=>
             some (.pan e218)) fun q217=>
            some (.ret q217))))))))))))
theorem z7i {n:Nat} {rec_weirgate_parser_writer_expr_53:zo→zi→Option (Pn (zo))} (hrec_weirgate_parser_writer_expr_53:K12 rec_weirgate_parser_writer_expr_53 53):K12 (z3j n rec_weirgate_parser_writer_expr_53) 53:=by
 intro w_0 x_1 w_0b w_0_l_v x_1_Argsv r h
 refine z1y Tryz.func53 rfl Tryz.ntmps53 rfl (fun w0 o0=>?_)
 refine zh ?_
 refine zt (t_box rfl) ?_
 rintro _ _ ⟨b1,rfl,rfl⟩
 refine zd ?_
 refine jr h [0,3] [2,1,4,3] (fun s (g:Unit)=>[]) (fun s g=>[]) (fun _ h ho3 _ hL4=>?_) ?_
 ·refine zh ?_
  refine ys ?_
  refine zd ?_
  refine zF ?_
  refine jr h [0,3] [2,1,4,3] (fun s (g:Unit)=>[(16,.bool s)]) (fun s g=>[]) (fun _ h _ _ hL9=>?_) ?_
  ·refine zh ?_
   refine ys ?_
   refine zd ?_
   refine rc h (fun _ h=>?_) (fun _ h=>?_)
   ·refine run_skip ?_
    exact gj hL9 () [1,0,3,2] h
   ·refine zh ?_
    refine ys ?_
    refine zd ?_
    refine rc h (fun _ h=>?_) (fun _ h=>?_)
    ·refine run_skip ?_
     exact gj hL9 () [1,0,3,2] h
    ·refine zh ?_
     refine ys ?_
     refine zd ?_
     refine rc h (fun _ h=>?_) (fun _ h=>?_)
     ·refine run_skip ?_
      exact gj hL9 () [1,0,3,2] h
     ·refine rj [0,3,11] [0,1,2,3] ?_
      refine z8 ?_
      refine ys ?_
      refine zr ?_
      exact gj hL9 () [1,0,3,2] h
  rintro s_6 _ h
  refine rs ?_
  refine rc h (fun _ h=>?_) (fun _ h=>?_)
  ·refine z8 ?_
   refine ys ?_
   refine cp0 [] Tryz.call112 (fun h=>z2a h) h (fun _ h=>?_) (hp:=fun e h=>by obtain rfl:=zU h; obtain rfl:=zM ho3; exact finP ⟨_,rfl,rfl⟩)
   refine zr ?_
   refine zS ?_
   exact gj hL4 () [0,1,2,3] h
  ·refine z8 ?_
   refine ys ?_
   refine cp0 [] Tryz.call112 (fun h=>z2a h) h (fun _ h=>?_) (hp:=fun e h=>by obtain rfl:=zU h; obtain rfl:=zM ho3; exact finP ⟨_,rfl,rfl⟩)
   refine zr ?_
   refine zS ?_
   exact gj hL4 () [0,1,2,3] h
 rintro _ _ h
 refine rs ?_
 refine zh ?_
 refine ys ?_
 refine zd ?_
 refine zF ?_
 refine zh ?_
 refine ys ?_
 refine zd ?_
 refine rc h (fun _ h=>?_) (fun _ h=>?_)
 ·refine z8 ?_
  refine ys ?_
  refine cl1 [(1,2),(0,2)] Tryz.call113 (fun h=>z17 h) h (fun r24 v26 h=>?_)
  refine zr ?_
  refine zS ?_
  refine z3d ?_
  exact fs [] [4,5] Tryz.results53 h
 ·refine zh ?_
  refine ys ?_
  refine zd ?_
  refine rc h (fun _ h=>?_) (fun _ h=>?_)
  ·refine z8 ?_
   refine ys ?_
   refine cl1 [(1,2),(0,2)] Tryz.call113 (fun h=>z17 h) h (fun r28 v30 h=>?_)
   refine zr ?_
   refine zS ?_
   refine z3d ?_
   exact fs [] [4,5] Tryz.results53 h
  ·refine zh ?_
   refine ys ?_
   refine zd ?_
   refine rc h (fun _ h=>?_) (fun _ h=>?_)
   ·refine rj [0,3] [0,1,2,3] ?_
    refine z8 ?_
    refine ys ?_
    refine cl1 [(1,2),(0,2)] Tryz.call113 (fun h=>z17 h) h (fun r32 v34 h=>?_)
    refine zr ?_
    refine zS ?_
    refine z3d ?_
    exact fs [] [4,5] Tryz.results53 h
   ·refine zH ?_
    refine rj [0,3,27] [0,1,2,3] ?_
    refine z8 ?_
    refine ys ?_
    refine zd ?_
    refine rc h (fun _ h=>?_) (fun _ h=>?_)
    ·refine zh ?_
     refine ys ?_
     refine zt (t_lit [.string (bs [104,101,97,100,101,114])] Tryz.runUnderlying62 Tryz.sizeOf9 Tryz.zeroValue9 rfl (by decide) (by decide) rfl (by simp [Value.cells,boxP])) ?_
     rintro v36 _ ⟨rfl,_⟩
     refine zB (retell 4 (g:=row v36 1 (([[104,101,97,100,101,114]]:List (List UInt8)).map eStr)) rfl rfl) ?_
     refine cl1 [(1,2),(0,2),(4,1)] Tryz.call114 (fun h=>zT h) h (fun r37 v39 h=>?_)
     refine zb ?_
     refine ys ?_
     refine cl1 [(5,2),(6,2)] Tryz.call113 (fun h=>z17 h) h (fun r40 v42 h=>?_)
     refine zr ?_
     refine zS ?_
     refine z3d ?_
     exact fs [] [7,8] Tryz.results53 h
    ·refine jr h [0,3,27] [1,2,3,4] (fun s (g:Unit)=>[(111,.bool s)]) (fun s g=>[]) (fun _ h _ _ hL46=>?_) ?_
     ·refine zh ?_
      refine ys ?_
      refine zd ?_
      refine rc h (fun _ h=>?_) (fun _ h=>?_)
      ·refine run_skip ?_
       exact gj hL46 () [0,1,2,3] h
      ·refine zh ?_
       refine ys ?_
       refine zd ?_
       refine rc h (fun _ h=>?_) (fun _ h=>?_)
       ·refine run_skip ?_
        exact gj hL46 () [0,1,2,3] h
       ·refine z8 ?_
        refine ys ?_
        refine zr ?_
        exact gj hL46 () [0,1,2,3] h
     rintro s_43 _ h
     refine rs ?_
     refine rc h (fun _ h=>?_) (fun _ h=>?_)
     ·refine zh ?_
      refine ys ?_
      refine cp0 [] Tryz.call112 (fun h=>z2a h) h (fun _ h=>?_)
      refine za ?_
      refine cl1 [] Tryz.call115 (fun h=>zcy h) h (fun _ v57 h=>?_)
      refine zt (zpg 4 Tryz.underlying179 rfl rfl) ?_
      rintro _ _ ⟨b58,rfl,rfl⟩
      refine zd ?_
      refine zF ?_
      obtain ⟨x_59,hm67,h⟩:=zJ h
      refine zn0 (S:=(List z6)) (γ:=Value) hm67 w_0_l_v (fun σ γ=>[(0,boxP w_0b 0),(3,boxP b1 0),(121,boxP b58 0)]) (fun σ γ ℓ=>[box w_0b [γ],row γ 3 (σ.map z6.enc),box b1 [.int .i64 x_1.Op,.int .i64 x_1.At,.string (bs x_1.S),x_1_Argsv],nro x_1_Argsv zj x_1.Args,mapit (fun l:List UInt8=>Value.string (bs l)) (fun n:Int=>Value.int .i64 n) b58 v57 none ℓ]) [0,1,2,3,4] (qv3 rfl rfl rfl) (by decide) rfl ?_
      rintro x_61 v62 ll63 hm64 L65 hL66
      refine rs ?_
      refine zh ?_
      refine zt (zsD 4 rfl rfl) ?_
      rintro _ _ (⟨hl72,rfl,rfl⟩ | ⟨⟨k68,w69⟩,l70,l71,hl72,rfl,rfl⟩)
      ·subst hl72
       have he:x_61=x_59:=zkK hm64
       subst x_61
       refine ys ?_
       refine zc ?_
       refine z53 rfl ?_
       refine z1h _ rfl ?_
       refine zS ?_
       refine z3d ?_
       exact fs [] [1,0] Tryz.results53 h
      rcases zj3 hm64 hl72 with ⟨ha73,hm64⟩ | ⟨ha73,h,hz74⟩
      ·skip
       refine ys ?_
       refine zc ?_
       refine z3M rfl ?_
       refine run_skip ?_
       refine zD ?_
       refine zF ?_
       refine zh ?_
       refine zq (zlb 4 rfl rfl) ?_
       refine ys ?_
       refine za ?_
       refine yw ?_
       refine zq ((y_eql rfl rfl).to (v':=.bool false) (congrArg Value.bool ha73)) ?_
       refine zd ?_
       refine z53 rfl ?_
       refine run_skip ?_
       refine zS ?_
       refine z2G (uncur 4 rfl) ?_
       exact zej hL66 hl72 x_61 v62 [0,1,2,3,4] hm64 (qv3 rfl rfl rfl) (by decide) rfl
      skip
      refine ys ?_
      refine zc ?_
      refine z3M rfl ?_
      refine run_skip ?_
      refine zD ?_
      refine zF ?_
      refine zh ?_
      refine zq (zlb 4 rfl rfl) ?_
      refine ys ?_
      refine za ?_
      refine yw ?_
      refine zq ((y_eql rfl rfl).to (v':=.bool true) (congrArg Value.bool ha73)) ?_
      refine zd ?_
      refine z3M rfl ?_
      refine rj [0,3,121,4] [0,1,2,3,4] ?_
      refine z8 ?_
      refine ys ?_
      refine zt (t_lit [.string (bs k68)] Tryz.runUnderlying62 Tryz.sizeOf9 Tryz.zeroValue9 rfl (by decide) (by decide) rfl (by simp [Value.cells,boxP])) ?_
      rintro v75 _ ⟨rfl,_⟩
      refine zB (retell 5 (g:=row v75 1 (([k68]:List (List UInt8)).map eStr)) rfl rfl) ?_
      refine cl1 [(1,2),(0,2),(5,1)] Tryz.call114 (fun h=>zT h) h (fun r76 v78 h=>?_)
      refine zr ?_
      refine zS ?_
      refine z2G (uncur 4 rfl) ?_
      obtain rfl:=Option.some.inj h
      exact zej hL66 hl72 r76.l_ v78 [7,6,2,3,4] (hz74 _) (qv3 rfl rfl rfl) (by decide) rfl
     ·refine zh ?_
      refine ys ?_
      refine zd ?_
      refine rc h (fun _ h=>?_) (fun _ h=>?_)
      ·refine zh ?_
       refine ys ?_
       refine cp0 [] Tryz.call112 (fun h=>z2a h) h (fun _ h=>?_)
       refine za ?_
       refine ys ?_
       refine zt (t_lit [.string (bs [45])] Tryz.runUnderlying62 Tryz.sizeOf9 Tryz.zeroValue9 rfl (by decide) (by decide) rfl (by simp [Value.cells,boxP])) ?_
       rintro v84 _ ⟨rfl,_⟩
       refine zB (retell 4 (g:=row v84 1 (([[45]]:List (List UInt8)).map eStr)) rfl rfl) ?_
       refine cl1 [(1,2),(0,2),(4,1)] Tryz.call116 (fun h=>zZ h) h (fun r85 v87 h=>?_)
       refine zd ?_
       refine rj [0,3] [2,3,5,6] ?_
       refine z8 ?_
       refine ys ?_
       obtain ⟨x88,hzx88,hlx88,hxx88,h⟩:=zP h
       refine ys ?_
       refine z4a (exAtT (T:=z1b) (i:=(0:Int).toNat) 1 rfl hxx88) ?_
       rintro (g89:Value)
       refine ys ?_
       refine cp1 [(2,2),(3,2),(5,0)] Tryz.call117 (fun h=>z2r hrec_weirgate_parser_writer_expr_53 h) h (fun q92 v94 h=>?_)
       refine zr ?_
       refine zS ?_
       refine z3d ?_
       exact fs [] [6,7] Tryz.results53 h
      ·refine zh ?_
       refine ys ?_
       refine zd ?_
       refine rc h (fun _ h=>?_) (fun _ h=>?_)
       ·refine zh ?_
        refine ys ?_
        refine cp0 [] Tryz.call112 (fun h=>z2a h) h (fun _ h=>?_)
        refine zc ?_
        refine rj [0,3] [0,1,2,3] ?_
        refine z8 ?_
        refine ys ?_
        refine zt (t_lit [.string (bs [110,111,116])] Tryz.runUnderlying62 Tryz.sizeOf9 Tryz.zeroValue9 rfl (by decide) (by decide) rfl (by simp [Value.cells,boxP])) ?_
        rintro v100 _ ⟨rfl,_⟩
        refine zB (retell 4 (g:=row v100 1 (([[110,111,116]]:List (List UInt8)).map eStr)) rfl rfl) ?_
        refine cl1 [(1,2),(0,2),(4,1)] Tryz.call114 (fun h=>zT h) h (fun r101 v103 h=>?_)
        refine zb ?_
        refine ys ?_
        obtain ⟨x104,hzx104,hlx104,hxx104,h⟩:=zP h
        refine ys ?_
        refine z4a (exAtT (T:=z1b) (i:=(0:Int).toNat) 3 rfl hxx104) ?_
        rintro (g105:Value)
        refine ys ?_
        refine cp1 [(5,2),(6,2),(8,0)] Tryz.call117 (fun h=>z2r hrec_weirgate_parser_writer_expr_53 h) h (fun q108 v110 h=>?_)
        refine zr ?_
        refine zS ?_
        refine z3d ?_
        exact fs [] [9,10] Tryz.results53 h
       ·refine zh ?_
        refine ys ?_
        refine zd ?_
        refine rc h (fun _ h=>?_) (fun _ h=>?_)
        ·refine zh ?_
         refine ys ?_
         refine cp0 [] Tryz.call112 (fun h=>z2a h) h (fun _ h=>?_)
         refine zc ?_
         refine rj [0,3] [0,1,2,3] ?_
         refine z8 ?_
         refine ys ?_
         obtain ⟨x116,hzx116,hlx116,hxx116,h⟩:=zP h
         refine ys ?_
         refine z4a (exAtT (T:=z1b) (i:=(0:Int).toNat) 3 rfl hxx116) ?_
         rintro (g117:Value)
         refine ys ?_
         refine cp1 [(1,2),(0,2),(5,0)] Tryz.call117 (fun h=>z2r hrec_weirgate_parser_writer_expr_53 h) h (fun q120 v122 h=>?_)
         refine za ?_
         refine ys ?_
         refine zt (t_lit [.string (bs [105,110])] Tryz.runUnderlying62 Tryz.sizeOf9 Tryz.zeroValue9 rfl (by decide) (by decide) rfl (by simp [Value.cells,boxP])) ?_
         rintro v123 _ ⟨rfl,_⟩
         refine zB (retell 8 (g:=row v123 1 (([[105,110]]:List (List UInt8)).map eStr)) rfl rfl) ?_
         refine cl1 [(6,2),(7,2),(8,1)] Tryz.call114 (fun h=>zT h) h (fun r124 v126 h=>?_)
         refine zd ?_
         refine jr h [0] [0,0] (fun s (g:Value)=>[]) (fun s g=>[box w_0b [g],row g 3 (s.map z6.enc)]) (fun _ h ho130 _ hL131=>?_) ?_
         ·refine zH ?_
          refine rj [0,3] [2,3,9,10] ?_
          refine z8 ?_
          refine ys ?_
          obtain ⟨hb133,h⟩:=zX h
          refine zq (zqU (l:=1) (r:=(x_1.Args.length:Int)) 1 Tryz.runUnderlying45 Tryz.sizeOf47 rfl rfl z1j (bi1 (kd:=.i64) rfl) bi0 hb133.1 hb133.2.1 hb133.2.2) ?_
          refine zB (zok (C:=zj) (a:=(1:Int).toNat) (b:=((x_1.Args.length:Int)).toNat) 1 rfl (by omega) (by omega)) ?_
          refine zB (retell 4 (g:=nro (subS x_1_Argsv 4 ((1:Int).toNat) (((x_1.Args.length:Int)).toNat)) zj (x_1.Args.drop ((1:Int).toNat))) rfl (by first | (simp; done) | (simp; rfl))) ?_
          refine ys ?_
          refine zd ?_
          refine zF ?_
          refine lo h [0,185,186] [0,0,5] (fun s (g:Value)=>[(187,.int .i64 s.1)]) (fun s g=>[box w_0b [g],row g 3 (s.2.map z6.enc)]) _ [3,2,4] ?_
          rintro ⟨s_134,_⟩ _ _ h _ hgo138 hstop139
          refine rs ?_
          refine zh ?_
          refine ys ?_
          refine zc ?_
          refine rc h (fun _ h=>?_) (fun _ h=>?_)
          ·refine run_skip ?_
           refine zg ?_
           refine zF ?_
           refine zh ?_
           refine ys ?_
           obtain ⟨x142,hzx142,hlx142,hxx142,h⟩:=zP h
           refine ys ?_
           refine z4a (exAtT (T:=z1b) (i:=s_134.toNat) 2 rfl hxx142) ?_
           rintro (g143:Value)
           refine ys ?_
           refine al fun b144=>?_
           refine ys ?_
           refine za ?_
           refine ys ?_
           refine zt (t_lit [.string (bs [40]),.string (bs [44])] Tryz.runUnderlying62 Tryz.sizeOf9 Tryz.zeroValue9 rfl (by decide) (by decide) rfl (by simp [Value.cells,boxP])) ?_
           rintro v146 _ ⟨rfl,_⟩
           refine zB (retell 6 (g:=row v146 1 (([[40],[44]]:List (List UInt8)).map eStr)) rfl rfl) ?_
           refine ys ?_
           refine zq (y_min rfl rfl) ?_
           obtain ⟨x147,hzx147,hlx147,hxx147,h⟩:=zP h
           refine ys ?_
           refine zt (t_lit [.string (bs x147)] Tryz.runUnderlying62 Tryz.sizeOf9 Tryz.zeroValue9 rfl (by decide) (by decide) rfl (by simp [Value.cells,boxP])) ?_
           rintro v148 _ ⟨rfl,_⟩
           refine zB (retell 7 (g:=row v148 1 (([x147]:List (List UInt8)).map eStr)) rfl rfl) ?_
           refine cl1 [(1,2),(0,2),(7,1)] Tryz.call116 (fun h=>zZ h) h (fun r149 v151 h=>?_)
           refine zd ?_
           refine rj [187,0,185,186,7] [2,4,5,8,9] ?_
           refine z8 ?_
           refine ys ?_
           refine cp1 [(3,2),(4,2),(1,0)] Tryz.call53 (fun h=>hrec_weirgate_parser_writer_expr_53 h) h (fun q154 v156 h=>?_) (hp:=fun e h=>by obtain rfl:=zU h; obtain rfl:=hstop139 _ rfl; obtain rfl:=zM ho130; exact finP ⟨_,rfl,rfl⟩)
           refine zr ?_
           refine zS ?_
           refine zf ?_
           refine ys ?_
           refine zr ?_
           exact gj hgo138 _ [6,5,0] h
          ·refine z1h _ rfl ?_
           exact gk hL131 hstop139 _ [0,1] h
         rintro x_127 v128 h
         refine rs ?_
         refine z8 ?_
         refine ys ?_
         refine zt (t_lit [.string (bs [41])] Tryz.runUnderlying62 Tryz.sizeOf9 Tryz.zeroValue9 rfl (by decide) (by decide) rfl (by simp [Value.cells,boxP])) ?_
         rintro v157 _ ⟨rfl,_⟩
         refine zB (retell 2 (g:=row v157 1 (([[41]]:List (List UInt8)).map eStr)) rfl rfl) ?_
         refine cl1 [(1,2),(0,2),(2,1)] Tryz.call116 (fun h=>zZ h) h (fun r158 v160 h=>?_)
         refine zr ?_
         refine zS ?_
         refine z3d ?_
         exact fs [] [3,4] Tryz.results53 h
        ·refine zh ?_
         refine ys ?_
         refine oq 4 31 35 [0,3] [0,1,2,3] (decide (10≤x_1.Op) && decide (x_1.Op≤22)) ?_
         refine ys ?_
         refine oq 5 36 41 [0,3] [0,1,2,3] ((decide (10≤x_1.Op) && decide (x_1.Op≤22)) && decide ((x_1.Args.length:Int)=2)) ?_
         refine cp0 [] Tryz.call112 (fun h=>z2a h) h (fun _ h=>?_)
         refine za ?_
         refine ys ?_
         obtain ⟨x171,hzx171,hlx171,hxx171,h⟩:=zP h
         refine ys ?_
         refine z4a (exAtT (T:=z1b) (i:=(0:Int).toNat) 3 rfl hxx171) ?_
         rintro (g172:Value)
         refine ys ?_
         refine cp1 [(1,2),(0,2),(5,0)] Tryz.call117 (fun h=>z2r hrec_weirgate_parser_writer_expr_53 h) h (fun q175 v177 h=>?_)
         refine zd ?_
         refine jr h [0,3] [0,0,3,4] (fun s (g:Value)=>[]) (fun s g=>[box w_0b [g],row g 3 (s.map z6.enc)]) (fun _ h _ _ hL182=>?_) ?_
         ·refine zh ?_
          refine cl1 [] Tryz.call118 (fun h=>zdH h) h (fun _ v186 h=>?_)
          refine zt (zpg 8 Tryz.underlying179 rfl rfl) ?_
          rintro _ _ ⟨b187,rfl,rfl⟩
          refine zd ?_
          refine zF ?_
          obtain ⟨x_188,hm196,h⟩:=zJ h
          refine zn0 (S:=(List z6)) (γ:=Value) hm196 v177 (fun σ γ=>[(0,boxP w_0b 0),(3,boxP b1 0),(50,boxP b187 0)]) (fun σ γ ℓ=>[box w_0b [γ],row γ 3 (σ.map z6.enc),box b1 [.int .i64 x_1.Op,.int .i64 x_1.At,.string (bs x_1.S),x_1_Argsv],nro x_1_Argsv zj x_1.Args,mapit (fun l:List UInt8=>Value.string (bs l)) (fun n:Int=>Value.int .i64 n) b187 v186 none ℓ]) [7,6,2,3,8] (qv3 rfl rfl rfl) (by decide) rfl ?_
          rintro x_190 v191 ll192 hm193 L194 hL195
          refine rs ?_
          refine zh ?_
          refine zt (zsD 4 rfl rfl) ?_
          rintro _ _ (⟨hl201,rfl,rfl⟩ | ⟨⟨k197,w198⟩,l199,l200,hl201,rfl,rfl⟩)
          ·subst hl201
           have he:x_190=x_188:=zkK hm193
           subst x_190
           refine ys ?_
           refine zc ?_
           refine z53 rfl ?_
           refine z1h _ rfl ?_
           exact gj hL182 _ [0,1,2,3] h
          rcases zj3 hm193 hl201 with ⟨ha202,hm193⟩ | ⟨ha202,h,hz203⟩
          ·skip
           refine ys ?_
           refine zc ?_
           refine z3M rfl ?_
           refine run_skip ?_
           refine zD ?_
           refine zF ?_
           refine zh ?_
           refine zq (zlb 4 rfl rfl) ?_
           refine ys ?_
           refine zd ?_
           refine zF ?_
           refine zh ?_
           refine yw ?_
           refine zq ((y_eql rfl rfl).to (v':=.bool false) (congrArg Value.bool ha202)) ?_
           refine ys ?_
           refine zd ?_
           refine z53 rfl ?_
           refine zH ?_
           refine rj [0,3,50,8,9] [0,1,2,3,4] ?_
           refine z8 ?_
           refine yw ?_
           refine zq ((y_eql rfl rfl).to (v':=.bool false) (congrArg Value.bool ha202)) ?_
           refine ys ?_
           refine zd ?_
           refine z53 rfl ?_
           refine run_skip ?_
           refine zS ?_
           refine zS ?_
           refine z2G (uncur 4 rfl) ?_
           exact zej hL195 hl201 x_190 v191 [0,1,2,3,4] hm193 (qv3 rfl rfl rfl) (by decide) rfl
          skip
          refine ys ?_
          refine zc ?_
          refine z3M rfl ?_
          refine run_skip ?_
          refine zD ?_
          refine zF ?_
          refine zh ?_
          refine zq (zlb 4 rfl rfl) ?_
          refine ys ?_
          refine zd ?_
          refine zF ?_
          refine zh ?_
          refine yw ?_
          refine zq ((y_eql rfl rfl).to (v':=.bool true) (congrArg Value.bool ha202)) ?_
          refine ys ?_
          refine zd ?_
          refine rc h (fun _ h=>?_) (fun _ h=>?_)
          ·refine rj [0,3,50,8] [0,1,2,3,4] ?_
           refine z8 ?_
           refine ys ?_
           refine zt (t_lit [.string (bs k197)] Tryz.runUnderlying62 Tryz.sizeOf9 Tryz.zeroValue9 rfl (by decide) (by decide) rfl (by simp [Value.cells,boxP])) ?_
           rintro v205 _ ⟨rfl,_⟩
           refine zB (retell 5 (g:=row v205 1 (([k197]:List (List UInt8)).map eStr)) rfl rfl) ?_
           refine cl1 [(1,2),(0,2),(5,1)] Tryz.call114 (fun h=>zT h) h (fun r206 v208 h=>?_)
           refine zr ?_
           refine zS ?_
           refine zS ?_
           refine z2G (uncur 4 rfl) ?_
           obtain rfl:=Option.some.inj h
           exact zej hL195 hl201 r206.l_ v208 [7,6,2,3,4] (hz203 _) (qv3 rfl rfl rfl) (by decide) rfl
          ·refine zH ?_
           refine rj [0,3,50,8,9] [0,1,2,3,4] ?_
           refine z8 ?_
           refine yw ?_
           refine zq ((y_eql rfl rfl).to (v':=.bool true) (congrArg Value.bool ha202)) ?_
           refine ys ?_
           refine zd ?_
           refine z3M rfl ?_
           refine z8 ?_
           refine ys ?_
           refine zt (t_lit [.string (bs k197)] Tryz.runUnderlying62 Tryz.sizeOf9 Tryz.zeroValue9 rfl (by decide) (by decide) rfl (by simp [Value.cells,boxP])) ?_
           rintro v209 _ ⟨rfl,_⟩
           refine zB (retell 5 (g:=row v209 1 (([k197]:List (List UInt8)).map eStr)) rfl rfl) ?_
           refine cl1 [(1,2),(0,2),(5,1)] Tryz.call116 (fun h=>zZ h) h (fun r210 v212 h=>?_)
           refine zr ?_
           refine zS ?_
           refine zS ?_
           refine z2G (uncur 4 rfl) ?_
           obtain rfl:=Option.some.inj h
           exact zej hL195 hl201 r210.l_ v212 [7,6,2,3,4] (hz203 _) (qv3 rfl rfl rfl) (by decide) rfl
         rintro x_178 v179 h
         refine rs ?_
         refine z8 ?_
         refine ys ?_
         obtain ⟨x213,hzx213,hlx213,hxx213,h⟩:=zP h
         refine ys ?_
         refine z4a (exAtT (T:=z1b) (i:=(1:Int).toNat) 3 rfl hxx213) ?_
         rintro (g214:Value)
         refine ys ?_
         refine cp1 [(1,2),(0,2),(5,0)] Tryz.call117 (fun h=>z2r hrec_weirgate_parser_writer_expr_53 h) h (fun q217 v219 h=>?_)
         refine zr ?_
         refine zS ?_
         refine z3d ?_
         exact fs [] [6,7] Tryz.results53 h
def z1D:Nat→zo→zi→Option (Pn (zo))
 | 0=>fun _ _=>none
 | n+1=>z3j n  (z1D n )
theorem z1Q {n:Nat}:K12 (z1D n) 53:=by
 induction n with
 | zero=>intro _ _ _ _ _ _  h; cases h
 | succ n ih=>exact z7i ih
def z74 (n:Nat) (w_0:zo) (a_1:zi):Option (Pn (zo)):=
 obind (z1D n w_0 a_1) fun r1=>
 pbind r1 (fun e4=>
  some (.pan e4)) fun q3=>
 some (.ret q3)
theorem z8q {n:Nat} {w_0:zo} {a_1:zi} {w_0b:Nat} {w_0_l_v:Value} {a_1b:Nat} {a_1_Argsv:Value} {r:Pn (zo)} (h:z74 n w_0 a_1=some r) :
  z4t Tryz.prog 52 [boxP w_0b 0,boxP a_1b 0] [row w_0_l_v 3 (w_0.l_.map z6.enc),box w_0b [w_0_l_v],nro a_1_Argsv zj a_1.Args,box a_1b [.int .i64 a_1.Op,.int .i64 a_1.At,.string (bs a_1.S),a_1_Argsv]] (fun v G=>∃ q,r = .ret q∧(∃ v0,v = .tuple #[]∧G=[row v0 3 (q.l_.map z6.enc),box w_0b [v0],box a_1b [.int .i64 a_1.Op,.int .i64 a_1.At,.string (bs a_1.S),a_1_Argsv]])) (fun v=>∃ e,r = .pan e∧v = .iface 27 (.int .i64 e)):=by
 refine z1y Tryz.func52 rfl Tryz.ntmps52 rfl (fun w0 o0=>?_)
 refine z8 ?_
 refine ys ?_
 obtain ⟨r1,hr2,h⟩:=zJ h
 rcases r1 with q3 | e4
 rotate_left
 ·replace h:=z32 h
  refine z6M (wn rfl) rfl (tp [(0,2),(1,2),(2,0)] Tryz.call53 (z1Q hr2)) (by rintro _ _ ⟨_,⟨_,hq,_⟩,_⟩; cases hq) ?_
  rintro _ ⟨_,he,rfl⟩
  obtain rfl:=Pn.pan.inj he
  obtain rfl:=zU h
  exact finP ⟨_,rfl,rfl⟩
 replace h:=z33 h
 refine zt (tc [(0,2),(1,2),(2,0)] Tryz.call53 (z5a (z1Q hr2))) ?_
 rintro _ _ ⟨_,⟨v5,rfl,rfl⟩,rfl⟩
 refine zr ?_
 refine z3d ?_
 exact fs [] [4,5,3] Tryz.results52 h
end Go.Proofs.YtcmaoifiiigggaaGreatDoor
