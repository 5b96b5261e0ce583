/-
  Functions that the law ParserPrintsAsSpecified needs, lifted.
-/
import Derived.Test.YtcmaoifiiigggaaGreatDoorV9G8a
set_option linter.unusedSimpArgs false
set_option linter.unusedVariables false
namespace Go.Proofs.YtcmaoifiiigggaaGreatDoor
open Go.Abs
set_option maxRecDepth 20000
set_option maxHeartbeats 4000000
def z5w (n:Nat) (q6r:zo→(List zl)→Bool→Option (Pn (zo))) (w_0:zo) (c_1:zl) (inner_2:Bool):Option (Pn (zo)):=
 obind (z2I ((decide (1≤c_1.Kind) && decide (c_1.Kind≤17)) && (decide (c_1.Kind=1) || (inner_2 == (decide (12≤c_1.Kind)))))) fun r11=>
 pbind r11 (fun e14=>
  some (.pan e14)) fun q13=>
 obind (z6N) fun r15=>
 idx r15 (IntKind.i64.wrap (c_1.Kind - 1)) fun x18=>
 obind (zO n w_0 ([x18]:List (List UInt8))) fun r20=>
 bindJ (S:=(List z6)×(List UInt8)×(List (List UInt8))×(List UInt8)×(List UInt8)×(List UInt8)×Bool×(List zl))
  (cond (decide (c_1.Kind = 1))
   (obind (z2I (decide ((c_1.Texts.length:Int)=1))) fun r42=>
   pbind r42 (fun e45=>
    some (.stop (.pan e45))) fun q44=>
   obind (z30 n r20 4 c_1.Texts) fun r46=>
   pbind r46 (fun e49=>
    some (.stop (.pan e49))) fun q48=>
   some (.go (q48.l_,c_1.Name,([]:List (List UInt8)),c_1.Amount.Number,c_1.Amount.Unit,c_1.Default,c_1.HasDefault,c_1.Conds)))
   (bindJ (S := Bool)
    (cond (decide (c_1.Kind = 2))
     (some (.go (decide (c_1.Kind=2))))
     (cond (decide (c_1.Kind = 14))
      (some (.go (decide (c_1.Kind=14))))
      (some (.go (decide (c_1.Kind=15))))))
   (fun s_51 =>
    cond s_51
     (obind (z2I (decide (0<(c_1.Texts.length:Int)))) fun r59=>
     pbind r59 (fun e62=>
      some (.stop (.pan e62))) fun q61=>
     obind (z30 n r20 4 c_1.Texts) fun r63=>
     pbind r63 (fun e66=>
      some (.stop (.pan e66))) fun q65=>
     some (.go (q65.l_,c_1.Name,([]:List (List UInt8)),c_1.Amount.Number,c_1.Amount.Unit,c_1.Default,c_1.HasDefault,c_1.Conds)))
     (cond (decide (c_1.Kind = 16))
      (obind (z2I (decide (0<(c_1.Texts.length:Int)))) fun r69=>
      pbind r69 (fun e72=>
       some (.stop (.pan e72))) fun q71=>
      obind (z30 n r20 3 c_1.Texts) fun r73=>
      pbind r73 (fun e76=>
       some (.stop (.pan e76))) fun q75=>
      some (.go (q75.l_,c_1.Name,([]:List (List UInt8)),c_1.Amount.Number,c_1.Amount.Unit,c_1.Default,c_1.HasDefault,c_1.Conds)))
      (cond (decide (c_1.Kind = 8))
       (obind (z2I (decide (0<(c_1.Texts.length:Int)))) fun r79=>
       pbind r79 (fun e82=>
        some (.stop (.pan e82))) fun q81=>
       obind (z14 r20 4 c_1.Name) fun r83=>
       obind (zO n r83 ([[105,110]]:List (List UInt8))) fun r87=>
       obind (z30 n r87 4 c_1.Texts) fun r90=>
       pbind r90 (fun e93=>
        some (.stop (.pan e93))) fun q92=>
       bindJ (S:=(List z6)×(List UInt8)×Bool)
        (cond c_1.HasDefault
         (obind (zO n q92 ([[100,101,102,97,117,108,116]]:List (List UInt8))) fun r105=>
         obind (z14 r105 4 c_1.Default) fun r108=>
         some (.go (r108.l_,[],false)))
         (some (.go (q92.l_,c_1.Default,c_1.HasDefault))))
       (fun (x_95, x_96, x_97) =>
        some (.go (x_95,[],([]:List (List UInt8)),c_1.Amount.Number,c_1.Amount.Unit,x_96,x_97,c_1.Conds))))
       (cond (decide (c_1.Kind = 11))
        (obind (z14 r20 1 c_1.Name) fun r112=>
        some (.go (r112.l_,[],c_1.Texts,c_1.Amount.Number,c_1.Amount.Unit,c_1.Default,c_1.HasDefault,c_1.Conds)))
        (cond (decide (c_1.Kind = 9))
         (obind (q6r r20 c_1.Conds true) fun r116=>
         pbind r116 (fun e119=>
          some (.stop (.pan e119))) fun q118=>
         some (.go (q118.l_,c_1.Name,c_1.Texts,c_1.Amount.Number,c_1.Amount.Unit,c_1.Default,c_1.HasDefault,([]:List zl))))
         (cond (decide (c_1.Kind = 10))
          (some (.go (r20.l_,c_1.Name,c_1.Texts,c_1.Amount.Number,c_1.Amount.Unit,c_1.Default,c_1.HasDefault,c_1.Conds)))
          (obind (z14 r20 3 c_1.Amount.Number) fun r122=>
          bindJ (S:=(List z6))
           (cond (!decide (c_1.Amount.Unit = []))
            (obind (z2I (decide (c_1.Kind≠17))) fun r132=>
            pbind r132 (fun e135=>
             some (.stop (.stop (.pan e135)))) fun q134=>
            obind (z14 r122 1 c_1.Amount.Unit) fun r136=>
            some (.go r136.l_))
            (some (.go r122.l_)))
          (fun x_125 =>
           some (.go (x_125,c_1.Name,c_1.Texts,[],[],c_1.Default,c_1.HasDefault,c_1.Conds))))))))))))
 (fun (x_26, x_27, x_28, x_29, x_30, x_31, x_32, x_33) =>
  obind (z2I ((((decide (x_27=[]) && decide ((IntKind.i64.wrap ((x_28.length:Int)+(x_33.length:Int)))=0)) && (decide (x_29=[]) && (decide (x_30=[]) && (decide ((0:Int)=0))))) && decide (x_31=[])) && (!x_32))) fun r151=>
  pbind r151 (fun e154=>
   some (.pan e154)) fun q153=>
  cond (decide (c_1.Kind≠9))
   (obind (zW n (zo.mk x_26) ([[59]]:List (List UInt8))) fun r157=>
   some (.ret r157))
   (some (.ret (zo.mk x_26))))
theorem z7Z {n:Nat} {q6r:zo→(List zl)→Bool→Option (Pn (zo))} (q7h:K28 q6r 131) {w_0:zo} {c_1:zl} {inner_2:Bool} {w_0b:Nat} {w_0_l_v:Value} {c_1_Textsv:Value} {c_1_Condsv:Value} {r:Pn (zo)} (h:z5w n q6r w_0 c_1 inner_2=some r) :
  z4t Tryz.prog 175 [boxP w_0b 0,.agg #[.int .i64 c_1.Kind,.int .i64 c_1.At,.string (bs c_1.Name),c_1_Textsv,.string (bs c_1.Amount.Number),.string (bs c_1.Amount.Unit),.int .i64 c_1.Amount.At,.string (bs c_1.Default),.bool c_1.HasDefault,c_1_Condsv],.bool inner_2] [row w_0_l_v 3 (w_0.l_.map z6.enc),box w_0b [w_0_l_v],ro c_1_Textsv 1 (c_1.Texts.map eStr),nro c_1_Condsv zp c_1.Conds] (fun v G=>∃ q,r = .ret q∧(∃ v0,v = .tuple #[]∧G=[row v0 3 (q.l_.map z6.enc),box w_0b [v0]])) (fun v=>∃ e,r = .pan e∧v = .iface 27 (.int .i64 e)):=by
 refine z1y Tryz.func175 rfl Tryz.ntmps175 rfl (fun w0 o0=>?_)
 refine zh ?_
 refine zt (t_box rfl) ?_
 rintro _ _ ⟨b1,rfl,rfl⟩
 refine za ?_
 refine ys ?_
 refine oq 4 10 14 [0,2,4] [0,1,2,3,4] (decide (1≤c_1.Kind) && decide (c_1.Kind≤17)) ?_
 refine ys ?_
 refine oe 11 [0,4] [1,2,3,4,5] (fun s=>[(26,.bool s)]) ((decide (1≤c_1.Kind) && decide (c_1.Kind≤17)) && (decide (c_1.Kind=1) || (inner_2 == (decide (12≤c_1.Kind))))) (fun _ hL6=>?_) ?_
 ·refine z1c 15 (decide (1≤c_1.Kind) && decide (c_1.Kind≤17)) rfl (fun hg7=>?_) (fun hg7=>?_)
  ·skip
   refine ys ?_
   refine oe 6 [0,4,15] [1,2,3,4,5] (fun s=>[(25,.bool s)]) (decide (c_1.Kind=1) || (inner_2 == (decide (12≤c_1.Kind)))) (fun _ hL9=>?_) ?_
   ·refine z1c 19 (decide (c_1.Kind=1)) rfl (fun hg10=>?_) (fun hg10=>?_)
    ·skip
     refine ys ?_
     refine zr ?_
     exact gc hL9 true [0,1,2,3,4] (hi:=by rw [hg10]; simp)
    ·skip
     refine ys ?_
     refine zq (zt1 Tryz.runUnderlying4 rfl rfl) ?_
     refine ys ?_
     refine zr ?_
     exact gc hL9 (inner_2 == (decide (12≤c_1.Kind))) [0,1,2,3,4] (hi:=by rw [hg10]; simp)
   refine os ?_
   refine ys ?_
   refine zr ?_
   exact gc hL6 (decide (c_1.Kind=1) || (inner_2 == (decide (12≤c_1.Kind)))) [0,1,2,3,4] (hi:=by rw [hg7]; simp)
  ·skip
   refine ys ?_
   refine z2p 12 false 19 rfl rfl rfl rfl rfl ?_
   refine z2p 12 false 19 rfl rfl rfl rfl rfl ?_
   refine z2p 12 false 19 rfl rfl rfl rfl rfl ?_
   refine z2p 12 false 19 rfl rfl rfl rfl rfl ?_
   refine z2p 12 false 19 rfl rfl rfl rfl rfl ?_
   refine ys ?_
   refine zr ?_
   exact gc hL6 false [0,1,2,3,4] (hi:=by rw [hg7]; simp)
 refine os ?_
 refine cp0 [] Tryz.call112 (fun h=>z2a h) h (fun _ h=>?_)
 refine zc ?_
 refine rf [0,0,1,1,1] fun hS=>?_
 refine aq [0,2,3,4] ?_
 refine zK [1] (by kernel_rfl) rfl (zk ?_ zC)
 obtain ⟨r15,hr16,h⟩:=zJ h
 refine at' rfl (tc [] Tryz.call181 (z78 hr16)) ?_
 rintro v17 _ ⟨_,⟨_,rfl,rfl⟩,rfl⟩
 refine sb ?_
 refine zK [5] (by kernel_rfl) rfl (zk ?_ zC)
 obtain ⟨x18,hzx18,hlx18,hxx18,h⟩:=zP h
 refine ty ?_
 refine zK [6] (by kernel_rfl) rfl (zk ?_ zC)
 refine ty ?_
 refine zK [7] (by kernel_rfl) rfl (zk ?_ zC)
 refine at' rfl (t_lit [.string (bs x18)] Tryz.runUnderlying62 Tryz.sizeOf9 Tryz.zeroValue9 rfl (by decide) (by decide) rfl (by simp [Value.cells,boxP])) ?_
 rintro v19 _ ⟨rfl,_⟩
 refine sb ?_
 refine z1B (retell 6 (g:=row v19 1 (([x18]:List (List UInt8)).map eStr)) rfl rfl) ?_
 refine al1 8 [(0,2),(1,2),(6,1)] Tryz.call114 (fun h=>zT h) h (fun r20 v22 h=>?_)
 refine z1K (by kernel_rfl) ?_
 refine zg ?_
 refine rj [0,4] [2,3,4,7,8] ?_
 refine z8 ?_
 refine ys ?_
 refine al fun b23=>?_
 refine ys ?_
 refine za ?_
 refine ys ?_
 refine zd ?_
 refine jr h [0,4,6] [0,0,3,1,2,0,0,0] (fun s (g:V3)=>[]) (fun s g=>[box w_0b [g.1],row g.1 3 (s.1.map z6.enc),box b23 [.int .i64 0,.int .i64 0,.string (bs s.2.1),g.2.1,.string (bs s.2.2.2.1),.string (bs s.2.2.2.2.1),.int .i64 0,.string (bs s.2.2.2.2.2.1),.bool s.2.2.2.2.2.2.1,g.2.2],ro g.2.1 1 (s.2.2.1.map eStr),nro g.2.2 zp s.2.2.2.2.2.2.2]) (fun _ h ho38 _ hL39=>?_) ?_
 ·refine zH ?_
  refine rj [0,4,6] [0,1,2,3,4,5] ?_
  refine z8 ?_
  refine ys ?_
  refine zd ?_
  refine zF ?_
  refine zh ?_
  refine ys ?_
  refine zd ?_
  refine rc h (fun _ h=>?_) (fun _ h=>?_)
  ·refine zh ?_
   refine ys ?_
   refine cp0 [] Tryz.call112 (fun h=>z2a h) h (fun _ h=>?_) (hp:=fun e h=>by obtain rfl:=zU h; obtain rfl:=zM ho38; exact finP ⟨_,rfl,rfl⟩)
   refine zc ?_
   refine rj [0,4,6] [0,1,2,3,4,5] ?_
   refine z8 ?_
   refine ys ?_
   refine cp1 [(3,2),(4,2),(0,0)] Tryz.call213 (fun h=>z3k h) h (fun q48 v50 h=>?_) (hp:=fun e h=>by obtain rfl:=zU h; obtain rfl:=zM ho38; exact finP ⟨_,rfl,rfl⟩)
   refine zb ?_
   refine ys ?_
   refine zr ?_
   refine zS ?_
   refine z2G (nilro 1) ?_
   refine z2G (retell 8 (g:=ro (.slice none 0 0) 1 (([]:List (List UInt8)).map eStr)) rfl rfl) ?_
   refine z2G (zao 1 z6r rfl) ?_
   exact gj hL39 (_,_,_) [7,6,2,0,1,5,8,9] h
  ·refine jr h [0,4,6,43] [5,4,3,1,2,6] (fun s (g:Unit)=>[(76,.bool s)]) (fun s g=>[]) (fun _ h _ _ hL54=>?_) ?_
   ·refine zh ?_
    refine ys ?_
    refine zd ?_
    refine rc h (fun _ h=>?_) (fun _ h=>?_)
    ·refine run_skip ?_
     exact gj hL54 () [4,3,2,0,1,5] h
    ·refine zh ?_
     refine ys ?_
     refine zd ?_
     refine rc h (fun _ h=>?_) (fun _ h=>?_)
     ·refine run_skip ?_
      exact gj hL54 () [4,3,2,0,1,5] h
     ·refine rj [0,4,6,43] [0,1,2,3,4,5] ?_
      refine z8 ?_
      refine ys ?_
      refine zr ?_
      exact gj hL54 () [4,3,2,0,1,5] h
   rintro s_51 _ h
   refine rs ?_
   refine rc h (fun _ h=>?_) (fun _ h=>?_)
   ·refine zh ?_
    refine ys ?_
    refine cp0 [] Tryz.call112 (fun h=>z2a h) h (fun _ h=>?_) (hp:=fun e h=>by obtain rfl:=zU h; obtain rfl:=zM ho38; exact finP ⟨_,rfl,rfl⟩)
    refine za ?_
    refine ys ?_
    refine cp1 [(1,2),(0,2),(3,0)] Tryz.call213 (fun h=>z3k h) h (fun q65 v67 h=>?_) (hp:=fun e h=>by obtain rfl:=zU h; obtain rfl:=zM ho38; exact finP ⟨_,rfl,rfl⟩)
    refine zd ?_
    refine rj [0,4,6] [2,3,4,5,6,7] ?_
    refine z8 ?_
    refine ys ?_
    refine zr ?_
    refine zS ?_
    refine z2G (nilro 1) ?_
    refine z2G (retell 6 (g:=ro (.slice none 0 0) 1 (([]:List (List UInt8)).map eStr)) rfl rfl) ?_
    refine z2G (zao 2 z6r rfl) ?_
    exact gj hL39 (_,_,_) [5,4,0,1,2,3,6,7] h
   ·refine zh ?_
    refine ys ?_
    refine zd ?_
    refine rc h (fun _ h=>?_) (fun _ h=>?_)
    ·refine zh ?_
     refine ys ?_
     refine cp0 [] Tryz.call112 (fun h=>z2a h) h (fun _ h=>?_) (hp:=fun e h=>by obtain rfl:=zU h; obtain rfl:=zM ho38; exact finP ⟨_,rfl,rfl⟩)
     refine za ?_
     refine ys ?_
     refine cp1 [(1,2),(0,2),(3,0)] Tryz.call213 (fun h=>z3k h) h (fun q75 v77 h=>?_) (hp:=fun e h=>by obtain rfl:=zU h; obtain rfl:=zM ho38; exact finP ⟨_,rfl,rfl⟩)
     refine zd ?_
     refine rj [0,4,6] [2,3,4,5,6,7] ?_
     refine z8 ?_
     refine ys ?_
     refine zr ?_
     refine zS ?_
     refine z2G (nilro 1) ?_
     refine z2G (retell 6 (g:=ro (.slice none 0 0) 1 (([]:List (List UInt8)).map eStr)) rfl rfl) ?_
     refine z2G (zao 2 z6r rfl) ?_
     exact gj hL39 (_,_,_) [5,4,0,1,2,3,6,7] h
    ·refine zh ?_
     refine ys ?_
     refine zd ?_
     refine rc h (fun _ h=>?_) (fun _ h=>?_)
     ·refine zh ?_
      refine ys ?_
      refine cp0 [] Tryz.call112 (fun h=>z2a h) h (fun _ h=>?_) (hp:=fun e h=>by obtain rfl:=zU h; obtain rfl:=zM ho38; exact finP ⟨_,rfl,rfl⟩)
      refine zc ?_
      refine rj [0,4,6] [0,1,2,3,4,5] ?_
      refine z8 ?_
      refine ys ?_
      refine cl1 [(1,2),(0,2)] Tryz.call113 (fun h=>z17 h) h (fun r83 v85 h=>?_)
      refine za ?_
      refine ys ?_
      refine zt (t_lit [.string (bs [105,110])] Tryz.runUnderlying62 Tryz.sizeOf9 Tryz.zeroValue9 rfl (by decide) (by decide) rfl (by simp [Value.cells,boxP])) ?_
      rintro v86 _ ⟨rfl,_⟩
      refine zB (retell 8 (g:=row v86 1 (([[105,110]]:List (List UInt8)).map eStr)) rfl rfl) ?_
      refine cl1 [(6,2),(7,2),(8,1)] Tryz.call114 (fun h=>zT h) h (fun r87 v89 h=>?_)
      refine za ?_
      refine ys ?_
      refine cp1 [(9,2),(10,2),(3,0)] Tryz.call213 (fun h=>z3k h) h (fun q92 v94 h=>?_) (hp:=fun e h=>by obtain rfl:=zU h; obtain rfl:=zM ho38; exact finP ⟨_,rfl,rfl⟩)
      refine zd ?_
      refine jr h [0,4,6] [0,0,3,4,5,0] (fun s (g:Value)=>[]) (fun s g=>[box w_0b [g],row g 3 (s.1.map z6.enc),box b23 [.int .i64 0,.int .i64 0,.string (bs c_1.Name),c_1_Textsv,.string (bs c_1.Amount.Number),.string (bs c_1.Amount.Unit),.int .i64 0,.string (bs s.2.1),.bool s.2.2,c_1_Condsv]]) (fun _ h _ _ hL101=>?_) ?_
      ·refine zH ?_
       refine rj [0,4,6] [2,3,4,5,11,12] ?_
       refine z8 ?_
       refine ys ?_
       refine zd ?_
       refine rc h (fun _ h=>?_) (fun _ h=>?_)
       ·refine zh ?_
        refine ys ?_
        refine zt (t_lit [.string (bs [100,101,102,97,117,108,116])] Tryz.runUnderlying62 Tryz.sizeOf9 Tryz.zeroValue9 rfl (by decide) (by decide) rfl (by simp [Value.cells,boxP])) ?_
        rintro v104 _ ⟨rfl,_⟩
        refine zB (retell 6 (g:=row v104 1 (([[100,101,102,97,117,108,116]]:List (List UInt8)).map eStr)) rfl rfl) ?_
        refine cl1 [(4,2),(5,2),(6,1)] Tryz.call114 (fun h=>zT h) h (fun r105 v107 h=>?_)
        refine za ?_
        refine ys ?_
        refine cl1 [(7,2),(8,2)] Tryz.call113 (fun h=>z17 h) h (fun r108 v110 h=>?_)
        refine zd ?_
        refine rj [0,4,6] [0,1,2,3,9,10] ?_
        refine z8 ?_
        refine ys ?_
        refine zr ?_
        exact gj hL101 _ [5,4,0,1,2,3] h
       ·refine run_skip ?_
        exact gj hL101 _ [5,4,0,1,2,3] h
      rintro ⟨x_95,x_96,x_97⟩ v98 h
      refine rs ?_
      refine z8 ?_
      refine ys ?_
      refine zr ?_
      refine zS ?_
      refine z2G (nilro 1) ?_
      refine z2G (retell 6 (g:=ro (.slice none 0 0) 1 (([]:List (List UInt8)).map eStr)) rfl rfl) ?_
      refine z2G (zao 4 z6r rfl) ?_
      exact gj hL39 (_,_,_) [0,1,2,3,4,5,6,7] h
     ·refine zh ?_
      refine ys ?_
      refine zd ?_
      refine rc h (fun _ h=>?_) (fun _ h=>?_)
      ·refine zh ?_
       refine ys ?_
       refine cl1 [(1,2),(0,2)] Tryz.call113 (fun h=>z17 h) h (fun r112 v114 h=>?_)
       refine zd ?_
       refine rj [0,4,6] [2,3,4,5,6,7] ?_
       refine z8 ?_
       refine ys ?_
       refine zr ?_
       refine zS ?_
       refine z2G (zao 1 zb8 rfl) ?_
       refine z2G (zao 2 z6r rfl) ?_
       exact gj hL39 (_,_,_) [5,4,0,1,2,3,6,7] h
      ·refine zh ?_
       refine ys ?_
       refine zd ?_
       refine rc h (fun _ h=>?_) (fun _ h=>?_)
       ·refine zH ?_
        refine rj [0,4,6] [0,1,2,3,4,5] ?_
        refine z8 ?_
        refine ys ?_
        refine cp1 [(1,2),(0,2),(4,0)] Tryz.call131 (fun h=>q7h h) h (fun q118 v120 h=>?_) (hp:=fun e h=>by obtain rfl:=zU h; obtain rfl:=zM ho38; exact finP ⟨_,rfl,rfl⟩)
        refine zb ?_
        refine ys ?_
        refine zr ?_
        refine zS ?_
        refine z2G (zas zp) ?_
        refine z2G (zao 3 zb8 rfl) ?_
        exact gj hL39 (_,_,_) [7,6,2,3,4,5,9,8] h
       ·refine zH ?_
        refine rj [0,4,6,43] [0,1,2,3,4,5] ?_
        refine z8 ?_
        refine ys ?_
        refine zd ?_
        refine rc h (fun _ h=>?_) (fun _ h=>?_)
        ·refine run_skip ?_
         refine zS ?_
         refine z2G (zao 3 zb8 rfl) ?_
         refine z2G (zao 4 z6r rfl) ?_
         exact gj hL39 (_,_,_) [0,1,2,3,4,5,6,7] h
        ·refine zh ?_
         refine ys ?_
         refine cl1 [(1,2),(0,2)] Tryz.call113 (fun h=>z17 h) h (fun r122 v124 h=>?_)
         refine zd ?_
         refine jr h [0,4,6] [0,0,3,4,5,6] (fun s (g:Value)=>[]) (fun s g=>[box w_0b [g],row g 3 (s.map z6.enc)]) (fun _ h ho128 _ hL129=>?_) ?_
         ·refine zh ?_
          refine ys ?_
          refine zd ?_
          refine rc h (fun _ h=>?_) (fun _ h=>?_)
          ·refine zH ?_
           refine rj [0,4,6] [2,3,4,5,6,7] ?_
           refine z8 ?_
           refine ys ?_
           refine cp0 [] Tryz.call112 (fun h=>z2a h) h (fun _ h=>?_) (hp:=fun e h=>by obtain rfl:=zU h; obtain rfl:=zM ho128; obtain rfl:=zM ho38; exact finP ⟨_,rfl,rfl⟩)
           refine zb ?_
           refine ys ?_
           refine cl1 [(4,2),(5,2)] Tryz.call113 (fun h=>z17 h) h (fun r136 v138 h=>?_)
           refine zr ?_
           exact gj hL129 _ [7,6,0,1,2,3] h
          ·refine run_skip ?_
           exact gj hL129 _ [7,6,2,3,4,5] h
         rintro x_125 v126 h
         refine rs ?_
         refine z8 ?_
         refine ys ?_
         refine zr ?_
         refine zS ?_
         refine z2G (zao 3 zb8 rfl) ?_
         refine z2G (zao 4 z6r rfl) ?_
         exact gj hL39 (_,_,_) [0,1,2,3,4,5,6,7] h
 rintro ⟨x_26,x_27,x_28,x_29,x_30,x_31,x_32,x_33⟩ ⟨v34,v35,v36⟩ h
 refine rs ?_
 refine zh ?_
 refine ys ?_
 refine oq 9 152 161 [0,4,6] [0,1,2,3,4,5,6,7] (decide (x_27=[]) && decide ((IntKind.i64.wrap ((x_28.length:Int)+(x_33.length:Int)))=0)) ?_
 refine ys ?_
 refine oe 5 [0,4,6] [1,2,3,4,5,6,7,8] (fun s=>[(167,.bool s)]) ((decide (x_27=[]) && decide ((IntKind.i64.wrap ((x_28.length:Int)+(x_33.length:Int)))=0)) && (decide (x_29=[]) && (decide (x_30=[]) && (decide ((0:Int)=0))))) (fun _ hL143=>?_) ?_
 ·refine z1c 162 (decide (x_27=[]) && decide ((IntKind.i64.wrap ((x_28.length:Int)+(x_33.length:Int)))=0)) rfl (fun hg144=>?_) (fun hg144=>?_)
  ·skip
   refine ys ?_
   refine zq (y_eqS (by kernel_rfl) (by kernel_rfl) Tryz.runUnderlying86 rfl rfl (.cons (zgk (by decide) Tryz.runUnderlying9 Tryz.isAgg9 rfl rfl) (.cons (zgk (by decide) Tryz.runUnderlying9 Tryz.isAgg9 rfl rfl) (.cons (z7k (by decide) Tryz.runUnderlying3 Tryz.isAgg3 rfl rfl) EqFs.nil)))) ?_
   refine ys ?_
   refine zr ?_
   exact gc hL143 (decide (x_29=[]) && (decide (x_30=[]) && (decide ((0:Int)=0)))) [0,1,2,3,4,5,6,7] (hi:=by rw [hg144]; simp)
  ·skip
   refine ys ?_
   refine zr ?_
   exact gc hL143 false [0,1,2,3,4,5,6,7] (hi:=by rw [hg144]; simp)
 refine os ?_
 refine ys ?_
 refine oe 4 [0,4,6] [1,2,3,4,5,6,7,8] (fun s=>[(172,.bool s)]) (((decide (x_27=[]) && decide ((IntKind.i64.wrap ((x_28.length:Int)+(x_33.length:Int)))=0)) && (decide (x_29=[]) && (decide (x_30=[]) && (decide ((0:Int)=0))))) && decide (x_31=[])) (fun _ hL146=>?_) ?_
 ·refine z1c 168 ((decide (x_27=[]) && decide ((IntKind.i64.wrap ((x_28.length:Int)+(x_33.length:Int)))=0)) && (decide (x_29=[]) && (decide (x_30=[]) && (decide ((0:Int)=0))))) rfl (fun hg147=>?_) (fun hg147=>?_)
  ·skip
   refine ys ?_
   refine zr ?_
   exact gc hL146 (decide (x_31=[])) [0,1,2,3,4,5,6,7] (hi:=by rw [hg147]; simp)
  ·skip
   refine ys ?_
   refine zr ?_
   exact gc hL146 false [0,1,2,3,4,5,6,7] (hi:=by rw [hg147]; simp)
 refine os ?_
 refine ys ?_
 refine oe 4 [0,4] [1,2,3,4,5] (fun s=>[(177,.bool s)]) ((((decide (x_27=[]) && decide ((IntKind.i64.wrap ((x_28.length:Int)+(x_33.length:Int)))=0)) && (decide (x_29=[]) && (decide (x_30=[]) && (decide ((0:Int)=0))))) && decide (x_31=[])) && (!x_32)) (fun _ hL149=>?_) ?_
 ·refine z1c 173 (((decide (x_27=[]) && decide ((IntKind.i64.wrap ((x_28.length:Int)+(x_33.length:Int)))=0)) && (decide (x_29=[]) && (decide (x_30=[]) && (decide ((0:Int)=0))))) && decide (x_31=[])) rfl (fun hg150=>?_) (fun hg150=>?_)
  ·skip
   refine ys ?_
   refine zr ?_
   exact gc hL149 (!x_32) [0,1,2,3,4] (hi:=by rw [hg150]; simp)
  ·skip
   refine ys ?_
   refine zr ?_
   exact gc hL149 false [0,1,2,3,4] (hi:=by rw [hg150]; simp)
 refine os ?_
 refine cp0 [] Tryz.call112 (fun h=>z2a h) h (fun _ h=>?_)
 refine za ?_
 refine ys ?_
 refine zd ?_
 refine rc h (fun _ h=>?_) (fun _ h=>?_)
 ·refine z8 ?_
  refine ys ?_
  refine zt (t_lit [.string (bs [59])] Tryz.runUnderlying62 Tryz.sizeOf9 Tryz.zeroValue9 rfl (by decide) (by decide) rfl (by simp [Value.cells,boxP])) ?_
  rintro v156 _ ⟨rfl,_⟩
  refine zB (retell 5 (g:=row v156 1 (([[59]]:List (List UInt8)).map eStr)) rfl rfl) ?_
  refine cl1 [(1,2),(0,2),(5,1)] Tryz.call116 (fun h=>zZ h) h (fun r157 v159 h=>?_)
  refine zr ?_
  refine z3d ?_
  exact fs [] [6,7] Tryz.results175 h
 ·refine run_skip ?_
  refine z3d ?_
  exact fs [] [1,0] Tryz.results175 h
def z7y (n:Nat) (l_1:(List zl)) (inner_2:Bool) (q6r:zo→(List zl)→Bool→Option (Pn (zo))):(Int×(List z6))→Option (Lp (Int×(List z6)) (Lp ((List z6)) (Pn (zo)))):=
 fun (s_11,x_12)=>
  cond (decide (s_11<(l_1.length:Int)))
   (idx l_1 s_11 fun x19=>
   obind (z5w n q6r (zo.mk x_12) x19 inner_2) fun r25=>
   pbind r25 (fun e28=>
    some (.stop (.stop (.pan e28)))) fun q27=>
   some (.go ((IntKind.i64.wrap (s_11+1)),q27.l_)))
   (some (.stop (.go x_12)))
def z4G (n:Nat) (q6r:zo→(List zl)→Bool→Option (Pn (zo))) (w_0:zo) (l_1:(List zl)) (inner_2:Bool):Option (Pn (zo)):=
 obind (zW n w_0 ([[123]]:List (List UInt8))) fun r2=>
 bindJ (S:=(List z6))
  (iter (z7y n l_1 inner_2 q6r) n (0,r2.l_))
 (fun x_5 =>
  obind (zW n (zo.mk x_5) ([[125]]:List (List UInt8))) fun r31=>
  some (.ret r31))
theorem z6i {n:Nat} {q6r:zo→(List zl)→Bool→Option (Pn (zo))} (q7h:K28 q6r 131):K28 (z4G n q6r) 131:=by
 intro w_0 l_1 inner_2 w_0b w_0_l_v l_1v r h
 refine z1y Tryz.func131 rfl Tryz.ntmps131 rfl (fun w0 o0=>?_)
 refine zh ?_
 refine ys ?_
 refine zt (t_lit [.string (bs [123])] Tryz.runUnderlying62 Tryz.sizeOf9 Tryz.zeroValue9 rfl (by decide) (by decide) rfl (by simp [Value.cells,boxP])) ?_
 rintro v1 _ ⟨rfl,_⟩
 refine zB (retell 3 (g:=row v1 1 (([[123]]:List (List UInt8)).map eStr)) rfl rfl) ?_
 refine cl1 [(0,2),(1,2),(3,1)] Tryz.call116 (fun h=>zZ h) h (fun r2 v4 h=>?_)
 refine zd ?_
 refine jr h [0] [0,0] (fun s (g:Value)=>[]) (fun s g=>[box w_0b [g],row g 3 (s.map z6.enc)]) (fun _ h ho8 _ hL9=>?_) ?_
 ·refine zh ?_
  refine ys ?_
  refine zd ?_
  refine zF ?_
  refine lo h [0,2,11,12] [0,0,3] (fun s (g:Value)=>[(13,.int .i64 s.1)]) (fun s g=>[box w_0b [g],row g 3 (s.2.map z6.enc)]) _ [5,4,2] ?_
  rintro ⟨s_11,_⟩ _ _ h _ hgo15 hstop16
  refine rs ?_
  refine zh ?_
  refine ys ?_
  refine zc ?_
  refine rc h (fun _ h=>?_) (fun _ h=>?_)
  ·refine run_skip ?_
   refine zg ?_
   refine zF ?_
   refine zh ?_
   obtain ⟨x19,hzx19,hlx19,hxx19,h⟩:=zP h
   refine ys ?_
   refine z4a (exAtT (T:=z1W) (i:=s_11.toNat) 2 rfl hxx19) ?_
   rintro ⟨g20,g21⟩
   refine ys ?_
   refine al fun b22=>?_
   refine ys ?_
   refine zb ?_
   refine ys ?_
   refine cp1 [(1,2),(0,2),(4,0),(5,0)] Tryz.call175 (fun h=>z7Z q7h h) h (fun q27 v29 h=>?_) (hp:=fun e h=>by obtain rfl:=zU h; obtain rfl:=hstop16 _ rfl; obtain rfl:=zM ho8; exact finP ⟨_,rfl,rfl⟩)
   refine zr ?_
   refine zS ?_
   refine zD ?_
   refine rj [13,0,2,11,12] [2,7,8] ?_
   refine z8 ?_
   refine ys ?_
   refine zr ?_
   exact gj hgo15 _ [2,1,0] h
  ·refine z1h _ rfl ?_
   exact gk hL9 hstop16 _ [0,1] h
 rintro x_5 v6 h
 refine rs ?_
 refine z8 ?_
 refine ys ?_
 refine zt (t_lit [.string (bs [125])] Tryz.runUnderlying62 Tryz.sizeOf9 Tryz.zeroValue9 rfl (by decide) (by decide) rfl (by simp [Value.cells,boxP])) ?_
 rintro v30 _ ⟨rfl,_⟩
 refine zB (retell 2 (g:=row v30 1 (([[125]]:List (List UInt8)).map eStr)) rfl rfl) ?_
 refine cl1 [(1,2),(0,2),(2,1)] Tryz.call116 (fun h=>zZ h) h (fun r31 v33 h=>?_)
 refine zr ?_
 refine z3d ?_
 exact fs [] [3,4] Tryz.results131 h
def z4h:Nat→zo→(List zl)→Bool→Option (Pn (zo))
 | 0=>fun _ _ _=>none
 | n+1=>z4G n  (z4h n )
theorem z4Y {n:Nat}:K28 (z4h n) 131:=by
 induction n with
 | zero=>intro _ _ _ _ _ _ _  h; cases h
 | succ n ih=>exact z6i ih
end Go.Proofs.YtcmaoifiiigggaaGreatDoor
