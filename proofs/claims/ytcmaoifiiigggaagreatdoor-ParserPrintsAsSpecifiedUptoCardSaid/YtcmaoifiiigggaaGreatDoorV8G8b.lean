/-
  Functions that the law ParserPrintsAsSpecified needs, lifted.
-/
import Derived.Test.YtcmaoifiiigggaaGreatDoorV8G8a
set_option linter.unusedSimpArgs false
set_option linter.unusedVariables false
namespace Go.Proofs.YtcmaoifiiigggaaGreatDoor
open Go.Abs Tryz
set_option maxRecDepth 20000
set_option maxHeartbeats 4000000
def z5w (n:Nat) (q30r:zo→(List zl)→Bool→Option (Pn (zo))) (w_0:zo) (c_1:zl) (j0:Bool):Option (Pn (zo)):=
 obind (z2I ((decide (1≤c_1.Kind) && decide (c_1.Kind≤17)) && (decide (c_1.Kind=1) || (j0 == (decide (12≤c_1.Kind)))))) fun r11=>
 pbind r11 (fun e14=>
  some (.pan e14)) fun q13=>
 obind (z6N) fun r15=>
 idx r15 (IntKind.i64.wrap (c_1.Kind - 1)) fun x18=>
 obind (zO n w_0 ([x18]:List (List UInt8))) fun r20=>
 bindJ (S:=(List z6)×(List UInt8)×(List (List UInt8))×(List UInt8)×(List UInt8)×(List UInt8)×Bool×(List zl))
  (cond (decide (c_1.Kind = 1))
   (obind (z2I (decide ((c_1.Texts.length:Int)=1))) fun r42=>
   pbind r42 (fun e45=>
    some (.stop (.pan e45))) fun q44=>
   obind (z30 n r20 4 c_1.Texts) fun r46=>
   pbind r46 (fun e49=>
    some (.stop (.pan e49))) fun q48=>
   some (.go (q48.l_,c_1.Name,([]:List (List UInt8)),c_1.Amount.Number,c_1.Amount.Unit,c_1.Default,c_1.HasDefault,c_1.Conds)))
   (bindJ (S := Bool)
    (cond (decide (c_1.Kind = 2))
     (some (.go (decide (c_1.Kind=2))))
     (cond (decide (c_1.Kind = 14))
      (some (.go (decide (c_1.Kind=14))))
      (some (.go (decide (c_1.Kind=15))))))
   (fun ju =>
    cond ju
     (obind (z2I (decide (0<(c_1.Texts.length:Int)))) fun r59=>
     pbind r59 (fun e62=>
      some (.stop (.pan e62))) fun q61=>
     obind (z30 n r20 4 c_1.Texts) fun r63=>
     pbind r63 (fun e66=>
      some (.stop (.pan e66))) fun q65=>
     some (.go (q65.l_,c_1.Name,([]:List (List UInt8)),c_1.Amount.Number,c_1.Amount.Unit,c_1.Default,c_1.HasDefault,c_1.Conds)))
     (cond (decide (c_1.Kind = 16))
      (obind (z2I (decide (0<(c_1.Texts.length:Int)))) fun r69=>
      pbind r69 (fun e72=>
       some (.stop (.pan e72))) fun q71=>
      obind (z30 n r20 3 c_1.Texts) fun r73=>
      pbind r73 (fun e76=>
       some (.stop (.pan e76))) fun q75=>
      some (.go (q75.l_,c_1.Name,([]:List (List UInt8)),c_1.Amount.Number,c_1.Amount.Unit,c_1.Default,c_1.HasDefault,c_1.Conds)))
      (cond (decide (c_1.Kind = 8))
       (obind (z2I (decide (0<(c_1.Texts.length:Int)))) fun r79=>
       pbind r79 (fun e82=>
        some (.stop (.pan e82))) fun q81=>
       obind (z14 r20 4 c_1.Name) fun r83=>
       obind (zO n r83 ([[105,110]]:List (List UInt8))) fun r87=>
       obind (z30 n r87 4 c_1.Texts) fun r90=>
       pbind r90 (fun e93=>
        some (.stop (.pan e93))) fun q92=>
       bindJ (S:=(List z6)×(List UInt8)×Bool)
        (cond c_1.HasDefault
         (obind (zO n q92 ([[100,101,102,97,117,108,116]]:List (List UInt8))) fun r105=>
         obind (z14 r105 4 c_1.Default) fun r108=>
         some (.go (r108.l_,[],false)))
         (some (.go (q92.l_,c_1.Default,c_1.HasDefault))))
       (fun (jv, jw, jx) =>
        some (.go (jv,[],([]:List (List UInt8)),c_1.Amount.Number,c_1.Amount.Unit,jw,jx,c_1.Conds))))
       (cond (decide (c_1.Kind = 11))
        (obind (z14 r20 1 c_1.Name) fun r112=>
        some (.go (r112.l_,[],c_1.Texts,c_1.Amount.Number,c_1.Amount.Unit,c_1.Default,c_1.HasDefault,c_1.Conds)))
        (cond (decide (c_1.Kind = 9))
         (obind (q30r r20 c_1.Conds true) fun r116=>
         pbind r116 (fun e119=>
          some (.stop (.pan e119))) fun q118=>
         some (.go (q118.l_,c_1.Name,c_1.Texts,c_1.Amount.Number,c_1.Amount.Unit,c_1.Default,c_1.HasDefault,([]:List zl))))
         (cond (decide (c_1.Kind = 10))
          (some (.go (r20.l_,c_1.Name,c_1.Texts,c_1.Amount.Number,c_1.Amount.Unit,c_1.Default,c_1.HasDefault,c_1.Conds)))
          (obind (z14 r20 3 c_1.Amount.Number) fun r122=>
          bindJ (S:=(List z6))
           (cond (!decide (c_1.Amount.Unit = []))
            (obind (z2I (decide (c_1.Kind≠17))) fun r132=>
            pbind r132 (fun e135=>
             some (.stop (.stop (.pan e135)))) fun q134=>
            obind (z14 r122 1 c_1.Amount.Unit) fun r136=>
            some (.go r136.l_))
            (some (.go r122.l_)))
          (fun jj =>
           some (.go (jj,c_1.Name,c_1.Texts,[],[],c_1.Default,c_1.HasDefault,c_1.Conds))))))))))))
 (fun (jq, j4, j5, j9, ja, jd, ji, j6) =>
  obind (z2I ((((decide (j4=[]) && decide ((IntKind.i64.wrap ((j5.length:Int)+(j6.length:Int)))=0)) && (decide (j9=[]) && (decide (ja=[]) && (decide ((0:Int)=0))))) && decide (jd=[])) && (!ji))) fun r151=>
  pbind r151 (fun e154=>
   some (.pan e154)) fun q153=>
  cond (decide (c_1.Kind≠9))
   (obind (zW n (zo.mk jq) ([[59]]:List (List UInt8))) fun r157=>
   some (.ret r157))
   (some (.ret (zo.mk jq))))
theorem z7Z {n:Nat} {q30r:zo→(List zl)→Bool→Option (Pn (zo))} (q31h:K28 q30r 131) {w_0:zo} {c_1:zl} {j0:Bool} {j7:Nat} {j8:Value} {j1:Value} {j2:Value} {r:Pn (zo)} (h:z5w n q30r w_0 c_1 j0=some r) :
  z4t Tryz.prog 175 [boxP j7 0,.agg #[.int .i64 c_1.Kind,.int .i64 c_1.At,.string (bs c_1.Name),j1,.string (bs c_1.Amount.Number),.string (bs c_1.Amount.Unit),.int .i64 c_1.Amount.At,.string (bs c_1.Default),.bool c_1.HasDefault,j2],.bool j0] [row j8 3 (w_0.l_.map z6.enc),box j7 [j8],ro j1 1 (c_1.Texts.map eStr),nro j2 zp c_1.Conds] (fun v G=>∃ q,r = .ret q∧(∃ v0,v = .tuple #[]∧G=[row v0 3 (q.l_.map z6.enc),box j7 [v0]])) (fun v=>∃ e,r = .pan e∧v = .iface 27 (.int .i64 e)):=by
 refine z1y func175 rfl ntmps175 rfl (fun w0 o0=>?_)
 refine zh (lB fun b1=>?_)
 refine yn 2 ?_
 refine oq 4 10 14 [0,2,4] [0,1,2,3,4] (decide (1≤c_1.Kind) && decide (c_1.Kind≤17)) ?_
 refine ys ?_
 refine oe 11 [0,4] [1,2,3,4,5] (fun s=>[(26,.bool s)]) ((decide (1≤c_1.Kind) && decide (c_1.Kind≤17)) && (decide (c_1.Kind=1) || (j0 == (decide (12≤c_1.Kind))))) (fun _ hL6=>?_) ?_
 ·refine z1c 15 (decide (1≤c_1.Kind) && decide (c_1.Kind≤17)) rfl (fun hg7=>?_) (fun hg7=>?_)
  ·skip
   refine ys ?_
   refine oe 6 [0,4,15] [1,2,3,4,5] (fun s=>[(25,.bool s)]) (decide (c_1.Kind=1) || (j0 == (decide (12≤c_1.Kind)))) (fun _ hL9=>?_) ?_
   ·refine z1c 19 (decide (c_1.Kind=1)) rfl (fun js=>?_) (fun js=>?_)
    ·skip
     refine yn 2 ?_
     exact gc hL9 true [0,1,2,3,4] (hi:=by rw [js]; simp)
    ·skip
     refine ys ?_
     refine zq (zt1 runUnderlying4 rfl rfl) ?_
     refine yn 2 ?_
     exact gc hL9 (j0 == (decide (12≤c_1.Kind))) [0,1,2,3,4] (hi:=by rw [js]; simp)
   refine os ?_
   refine yn 2 ?_
   exact gc hL6 (decide (c_1.Kind=1) || (j0 == (decide (12≤c_1.Kind)))) [0,1,2,3,4] (hi:=by rw [hg7]; simp)
  ·skip
   refine ys ?_
   refine z2p 12 false 19 rfl rfl rfl rfl rfl ?_
   refine z2p 12 false 19 rfl rfl rfl rfl rfl ?_
   refine z2p 12 false 19 rfl rfl rfl rfl rfl ?_
   refine z2p 12 false 19 rfl rfl rfl rfl rfl ?_
   refine z2p 12 false 19 rfl rfl rfl rfl rfl ?_
   refine yn 2 ?_
   exact gc hL6 false [0,1,2,3,4] (hi:=by rw [hg7]; simp)
 refine os ?_
 refine cp0 [] call112 (fun h=>z2a h) h (fun _ h=>?_)
 refine zc (rf [0,0,1,1,1] fun hS=>?_)
 refine aq [0,2,3,4] ?_
 refine ao 1 ?_
 obtain ⟨r15,jC,h⟩:=zJ h
 refine at' rfl (tc [] call181 (z78 jC)) ?_
 rintro v17 _ ⟨_,⟨_,rfl,rfl⟩,rfl⟩
 refine sb ?_
 refine ao 5 ?_
 obtain ⟨x18,jD,jE,jF,h⟩:=zP h
 refine ty ?_
 refine ao 6 ?_
 refine ty ?_
 refine ao 7 ?_
 refine at' rfl (t_lit [.string (bs x18)] runUnderlying62 sizeOf9 zeroValue9 rfl (by decide) (by decide) rfl (by simp [Value.cells,boxP])) ?_
 rintro v19 _ ⟨rfl,_⟩
 refine sb ?_
 refine z1B (retell 6 (g:=row v19 1 (([x18]:List (List UInt8)).map eStr)) rfl rfl) ?_
 refine al1 8 [(0,2),(1,2),(6,1)] call114 (fun h=>zT h) h (fun r20 v22 h=>?_)
 refine z1K (by kernel_rfl) ?_
 refine zg (rj [0,4] [2,3,4,7,8] ?_)
 refine yn 2 ?_
 refine al fun b23=>?_
 refine yn 3 ?_
 refine zd (jr h [0,4,6] [0,0,3,1,2,0,0,0] (fun s (g:V3)=>[]) (fun s g=>[box j7 [g.1],row g.1 3 (s.1.map z6.enc),box b23 [.int .i64 0,.int .i64 0,.string (bs s.2.1),g.2.1,.string (bs s.2.2.2.1),.string (bs s.2.2.2.2.1),.int .i64 0,.string (bs s.2.2.2.2.2.1),.bool s.2.2.2.2.2.2.1,g.2.2],ro g.2.1 1 (s.2.2.1.map eStr),nro g.2.2 zp s.2.2.2.2.2.2.2]) (fun _ h j3 _ jb=>?_) ?_)
 ·refine zH (rj [0,4,6] [0,1,2,3,4,5] ?_)
  refine yc 7 h (fun _ h=>?_) fun _ h=>?_
  ·refine yn 2 ?_
   refine cp0 [] call112 (fun h=>z2a h) h (fun _ h=>?_) (hp:=fun e h=>by obtain rfl:=zU h; obtain rfl:=zM j3; exact finP ⟨_,rfl,rfl⟩)
   refine zc (rj [0,4,6] [0,1,2,3,4,5] ?_)
   refine yn 2 ?_
   refine cp1 [(3,2),(4,2),(0,0)] call213 (fun h=>z3k h) h (fun q48 v50 h=>?_) (hp:=fun e h=>by obtain rfl:=zU h; obtain rfl:=zM j3; exact finP ⟨_,rfl,rfl⟩)
   refine yn 4 ?_
   refine z2G (nilro 1) ?_
   refine z2G (retell 8 (g:=ro (.slice none 0 0) 1 (([]:List (List UInt8)).map eStr)) rfl rfl) ?_
   refine z2G (zao 1 z6r rfl) ?_
   exact gj jb (_,_,_) [7,6,2,0,1,5,8,9] h
  ·refine jr h [0,4,6,43] [5,4,3,1,2,6] (fun s (g:Unit)=>[(76,.bool s)]) (fun s g=>[]) (fun _ h _ _ jt=>?_) ?_
   ·refine yc 3 h (fun _ h=>?_) fun _ h=>?_
    ·exact run_skip (gj jt () [4,3,2,0,1,5] h)
    ·refine yc 3 h (fun _ h=>?_) fun _ h=>?_
     ·exact run_skip (gj jt () [4,3,2,0,1,5] h)
     ·refine rj [0,4,6,43] [0,1,2,3,4,5] ?_
      refine yn 3 ?_
      exact gj jt () [4,3,2,0,1,5] h
   rintro ju _ h
   refine rs ?_
   refine rc h (fun _ h=>?_) (fun _ h=>?_)
   ·refine yn 2 ?_
    refine cp0 [] call112 (fun h=>z2a h) h (fun _ h=>?_) (hp:=fun e h=>by obtain rfl:=zU h; obtain rfl:=zM j3; exact finP ⟨_,rfl,rfl⟩)
    refine yn 2 ?_
    refine cp1 [(1,2),(0,2),(3,0)] call213 (fun h=>z3k h) h (fun q65 v67 h=>?_) (hp:=fun e h=>by obtain rfl:=zU h; obtain rfl:=zM j3; exact finP ⟨_,rfl,rfl⟩)
    refine zd (rj [0,4,6] [2,3,4,5,6,7] ?_)
    refine yn 4 ?_
    refine z2G (nilro 1) ?_
    refine z2G (retell 6 (g:=ro (.slice none 0 0) 1 (([]:List (List UInt8)).map eStr)) rfl rfl) ?_
    refine z2G (zao 2 z6r rfl) ?_
    exact gj jb (_,_,_) [5,4,0,1,2,3,6,7] h
   ·refine yc 3 h (fun _ h=>?_) fun _ h=>?_
    ·refine yn 2 ?_
     refine cp0 [] call112 (fun h=>z2a h) h (fun _ h=>?_) (hp:=fun e h=>by obtain rfl:=zU h; obtain rfl:=zM j3; exact finP ⟨_,rfl,rfl⟩)
     refine yn 2 ?_
     refine cp1 [(1,2),(0,2),(3,0)] call213 (fun h=>z3k h) h (fun q75 v77 h=>?_) (hp:=fun e h=>by obtain rfl:=zU h; obtain rfl:=zM j3; exact finP ⟨_,rfl,rfl⟩)
     refine zd (rj [0,4,6] [2,3,4,5,6,7] ?_)
     refine yn 4 ?_
     refine z2G (nilro 1) ?_
     refine z2G (retell 6 (g:=ro (.slice none 0 0) 1 (([]:List (List UInt8)).map eStr)) rfl rfl) ?_
     refine z2G (zao 2 z6r rfl) ?_
     exact gj jb (_,_,_) [5,4,0,1,2,3,6,7] h
    ·refine yc 3 h (fun _ h=>?_) fun _ h=>?_
     ·refine yn 2 ?_
      refine cp0 [] call112 (fun h=>z2a h) h (fun _ h=>?_) (hp:=fun e h=>by obtain rfl:=zU h; obtain rfl:=zM j3; exact finP ⟨_,rfl,rfl⟩)
      refine zc (rj [0,4,6] [0,1,2,3,4,5] ?_)
      refine yn 2 ?_
      refine cl1 [(1,2),(0,2)] call113 (fun h=>z17 h) h (fun r83 v85 h=>?_)
      refine yn 2 ?_
      refine lS [[105,110]] fun _=>?_
      refine cl1 [(6,2),(7,2),(8,1)] call114 (fun h=>zT h) h (fun r87 v89 h=>?_)
      refine yn 2 ?_
      refine cp1 [(9,2),(10,2),(3,0)] call213 (fun h=>z3k h) h (fun q92 v94 h=>?_) (hp:=fun e h=>by obtain rfl:=zU h; obtain rfl:=zM j3; exact finP ⟨_,rfl,rfl⟩)
      refine zd (jr h [0,4,6] [0,0,3,4,5,0] (fun s (g:Value)=>[]) (fun s g=>[box j7 [g],row g 3 (s.1.map z6.enc),box b23 [.int .i64 0,.int .i64 0,.string (bs c_1.Name),j1,.string (bs c_1.Amount.Number),.string (bs c_1.Amount.Unit),.int .i64 0,.string (bs s.2.1),.bool s.2.2,j2]]) (fun _ h _ _ jk=>?_) ?_)
      ·refine zH (rj [0,4,6] [2,3,4,5,11,12] ?_)
       refine yc 3 h (fun _ h=>?_) fun _ h=>?_
       ·refine yn 2 ?_
        refine lS [[100,101,102,97,117,108,116]] fun _=>?_
        refine cl1 [(4,2),(5,2),(6,1)] call114 (fun h=>zT h) h (fun r105 v107 h=>?_)
        refine yn 2 ?_
        refine cl1 [(7,2),(8,2)] call113 (fun h=>z17 h) h (fun r108 v110 h=>?_)
        refine zd (rj [0,4,6] [0,1,2,3,9,10] ?_)
        refine yn 3 ?_
        exact gj jk _ [5,4,0,1,2,3] h
       ·exact run_skip (gj jk _ [5,4,0,1,2,3] h)
      rintro ⟨jv,jw,jx⟩ v98 h
      refine rs ?_
      refine yn 4 ?_
      refine z2G (nilro 1) ?_
      refine z2G (retell 6 (g:=ro (.slice none 0 0) 1 (([]:List (List UInt8)).map eStr)) rfl rfl) ?_
      refine z2G (zao 4 z6r rfl) ?_
      exact gj jb (_,_,_) [0,1,2,3,4,5,6,7] h
     ·refine yc 3 h (fun _ h=>?_) fun _ h=>?_
      ·refine yn 2 ?_
       refine cl1 [(1,2),(0,2)] call113 (fun h=>z17 h) h (fun r112 v114 h=>?_)
       refine zd (rj [0,4,6] [2,3,4,5,6,7] ?_)
       refine yn 4 ?_
       refine z2G (zao 1 zb8 rfl) ?_
       refine z2G (zao 2 z6r rfl) ?_
       exact gj jb (_,_,_) [5,4,0,1,2,3,6,7] h
      ·refine yc 3 h (fun _ h=>?_) fun _ h=>?_
       ·refine zH (rj [0,4,6] [0,1,2,3,4,5] ?_)
        refine yn 2 ?_
        refine cp1 [(1,2),(0,2),(4,0)] call131 (fun h=>q31h h) h (fun q118 v120 h=>?_) (hp:=fun e h=>by obtain rfl:=zU h; obtain rfl:=zM j3; exact finP ⟨_,rfl,rfl⟩)
        refine yn 4 ?_
        refine z2G (zas zp) ?_
        refine z2G (zao 3 zb8 rfl) ?_
        exact gj jb (_,_,_) [7,6,2,3,4,5,9,8] h
       ·refine zH (rj [0,4,6,43] [0,1,2,3,4,5] ?_)
        refine yc 3 h (fun _ h=>?_) fun _ h=>?_
        ·refine yn 2 ?_
         refine z2G (zao 3 zb8 rfl) ?_
         refine z2G (zao 4 z6r rfl) ?_
         exact gj jb (_,_,_) [0,1,2,3,4,5,6,7] h
        ·refine yn 2 ?_
         refine cl1 [(1,2),(0,2)] call113 (fun h=>z17 h) h (fun r122 v124 h=>?_)
         refine zd (jr h [0,4,6] [0,0,3,4,5,6] (fun s (g:Value)=>[]) (fun s g=>[box j7 [g],row g 3 (s.map z6.enc)]) (fun _ h jy _ jl=>?_) ?_)
         ·refine yc 3 h (fun _ h=>?_) fun _ h=>?_
          ·refine zH (rj [0,4,6] [2,3,4,5,6,7] ?_)
           refine yn 2 ?_
           refine cp0 [] call112 (fun h=>z2a h) h (fun _ h=>?_) (hp:=fun e h=>by obtain rfl:=zU h; obtain rfl:=zM jy; obtain rfl:=zM j3; exact finP ⟨_,rfl,rfl⟩)
           refine yn 2 ?_
           refine cl1 [(4,2),(5,2)] call113 (fun h=>z17 h) h (fun r136 v138 h=>?_)
           exact zr (gj jl _ [7,6,0,1,2,3] h)
          ·exact run_skip (gj jl _ [7,6,2,3,4,5] h)
         rintro jj v126 h
         refine rs ?_
         refine yn 4 ?_
         refine z2G (zao 3 zb8 rfl) ?_
         refine z2G (zao 4 z6r rfl) ?_
         exact gj jb (_,_,_) [0,1,2,3,4,5,6,7] h
 rintro ⟨jq,j4,j5,j9,ja,jd,ji,j6⟩ ⟨v34,v35,v36⟩ h
 refine rs ?_
 refine yn 2 ?_
 refine oq 9 152 161 [0,4,6] [0,1,2,3,4,5,6,7] (decide (j4=[]) && decide ((IntKind.i64.wrap ((j5.length:Int)+(j6.length:Int)))=0)) ?_
 refine ys ?_
 refine oe 5 [0,4,6] [1,2,3,4,5,6,7,8] (fun s=>[(167,.bool s)]) ((decide (j4=[]) && decide ((IntKind.i64.wrap ((j5.length:Int)+(j6.length:Int)))=0)) && (decide (j9=[]) && (decide (ja=[]) && (decide ((0:Int)=0))))) (fun _ jm=>?_) ?_
 ·refine z1c 162 (decide (j4=[]) && decide ((IntKind.i64.wrap ((j5.length:Int)+(j6.length:Int)))=0)) rfl (fun je=>?_) (fun je=>?_)
  ·skip
   refine ys ?_
   refine zq (y_eqS (by kernel_rfl) (by kernel_rfl) runUnderlying86 rfl rfl (.cons (zgk (by decide) runUnderlying9 isAgg9 rfl rfl) (.cons (zgk (by decide) runUnderlying9 isAgg9 rfl rfl) (.cons (z7k (by decide) runUnderlying3 isAgg3 rfl rfl) EqFs.nil)))) ?_
   refine yn 2 ?_
   exact gc jm (decide (j9=[]) && (decide (ja=[]) && (decide ((0:Int)=0)))) [0,1,2,3,4,5,6,7] (hi:=by rw [je]; simp)
  ·skip
   refine yn 2 ?_
   exact gc jm false [0,1,2,3,4,5,6,7] (hi:=by rw [je]; simp)
 refine os ?_
 refine ys ?_
 refine oe 4 [0,4,6] [1,2,3,4,5,6,7,8] (fun s=>[(172,.bool s)]) (((decide (j4=[]) && decide ((IntKind.i64.wrap ((j5.length:Int)+(j6.length:Int)))=0)) && (decide (j9=[]) && (decide (ja=[]) && (decide ((0:Int)=0))))) && decide (jd=[])) (fun _ jo=>?_) ?_
 ·refine z1c 168 ((decide (j4=[]) && decide ((IntKind.i64.wrap ((j5.length:Int)+(j6.length:Int)))=0)) && (decide (j9=[]) && (decide (ja=[]) && (decide ((0:Int)=0))))) rfl (fun jf=>?_) (fun jf=>?_)
  ·skip
   refine yn 2 ?_
   exact gc jo (decide (jd=[])) [0,1,2,3,4,5,6,7] (hi:=by rw [jf]; simp)
  ·skip
   refine yn 2 ?_
   exact gc jo false [0,1,2,3,4,5,6,7] (hi:=by rw [jf]; simp)
 refine os ?_
 refine ys ?_
 refine oe 4 [0,4] [1,2,3,4,5] (fun s=>[(177,.bool s)]) ((((decide (j4=[]) && decide ((IntKind.i64.wrap ((j5.length:Int)+(j6.length:Int)))=0)) && (decide (j9=[]) && (decide (ja=[]) && (decide ((0:Int)=0))))) && decide (jd=[])) && (!ji)) (fun _ jp=>?_) ?_
 ·refine z1c 173 (((decide (j4=[]) && decide ((IntKind.i64.wrap ((j5.length:Int)+(j6.length:Int)))=0)) && (decide (j9=[]) && (decide (ja=[]) && (decide ((0:Int)=0))))) && decide (jd=[])) rfl (fun jg=>?_) (fun jg=>?_)
  ·skip
   refine yn 2 ?_
   exact gc jp (!ji) [0,1,2,3,4] (hi:=by rw [jg]; simp)
  ·skip
   refine yn 2 ?_
   exact gc jp false [0,1,2,3,4] (hi:=by rw [jg]; simp)
 refine os ?_
 refine cp0 [] call112 (fun h=>z2a h) h (fun _ h=>?_)
 refine yc 3 h (fun _ h=>?_) fun _ h=>?_
 ·refine yn 2 ?_
  refine lS [[59]] fun _=>?_
  refine cl1 [(1,2),(0,2),(5,1)] call116 (fun h=>zZ h) h (fun r157 v159 h=>?_)
  refine yn 2 ?_
  exact fs [] [6,7] results175 h
 ·refine yn 2 ?_
  exact fs [] [1,0] results175 h
def z7y (n:Nat) (l_1:(List zl)) (j0:Bool) (q30r:zo→(List zl)→Bool→Option (Pn (zo))):(Int×(List z6))→Option (Lp (Int×(List z6)) (Lp ((List z6)) (Pn (zo)))):=
 fun (jh,jz)=>
  cond (decide (jh<(l_1.length:Int)))
   (idx l_1 jh fun x19=>
   obind (z5w n q30r (zo.mk jz) x19 j0) fun r25=>
   pbind r25 (fun e28=>
    some (.stop (.stop (.pan e28)))) fun q27=>
   some (.go ((IntKind.i64.wrap (jh+1)),q27.l_)))
   (some (.stop (.go jz)))
def z4G (n:Nat) (q30r:zo→(List zl)→Bool→Option (Pn (zo))) (w_0:zo) (l_1:(List zl)) (j0:Bool):Option (Pn (zo)):=
 obind (zW n w_0 ([[123]]:List (List UInt8))) fun r2=>
 bindJ (S:=(List z6))
  (iter (z7y n l_1 j0 q30r) n (0,r2.l_))
 (fun x_5 =>
  obind (zW n (zo.mk x_5) ([[125]]:List (List UInt8))) fun r31=>
  some (.ret r31))
theorem z6i {n:Nat} {q30r:zo→(List zl)→Bool→Option (Pn (zo))} (q31h:K28 q30r 131):K28 (z4G n q30r) 131:=by
 intro w_0 l_1 j0 j7 j8 jI r h
 refine z1y func131 rfl ntmps131 rfl (fun w0 o0=>?_)
 refine yn 2 ?_
 refine lS [[123]] fun _=>?_
 refine cl1 [(0,2),(1,2),(3,1)] call116 (fun h=>zZ h) h (fun r2 v4 h=>?_)
 refine zd (jr h [0] [0,0] (fun s (g:Value)=>[]) (fun s g=>[box j7 [g],row g 3 (s.map z6.enc)]) (fun _ h ho8 _ hL9=>?_) ?_)
 ·refine yn 4 ?_
  refine lo h [0,2,11,12] [0,0,3] (fun s (g:Value)=>[(13,.int .i64 s.1)]) (fun s g=>[box j7 [g],row g 3 (s.2.map z6.enc)]) _ [5,4,2] ?_
  rintro ⟨jh,_⟩ _ _ h _ jA jc
  refine rs ?_
  refine yc 3 h (fun _ h=>?_) fun _ h=>?_
  ·refine yn 4 ?_
   obtain ⟨x19,jG,jH,jB,h⟩:=zP h
   refine ys ?_
   refine z4a (exAtT (T:=z1W) (i:=jh.toNat) 2 rfl jB) ?_
   rintro ⟨g20,g21⟩
   refine ys ?_
   refine al fun b22=>?_
   refine yn 3 ?_
   refine cp1 [(1,2),(0,2),(4,0),(5,0)] call175 (fun h=>z7Z q31h h) h (fun q27 v29 h=>?_) (hp:=fun e h=>by obtain rfl:=zU h; obtain rfl:=jc _ rfl; obtain rfl:=zM ho8; exact finP ⟨_,rfl,rfl⟩)
   refine yn 2 ?_
   refine zD (rj [13,0,2,11,12] [2,7,8] ?_)
   refine yn 3 ?_
   exact gj jA _ [2,1,0] h
  ·refine z1h _ rfl ?_
   exact gk hL9 jc _ [0,1] h
 rintro x_5 v6 h
 refine rs ?_
 refine yn 2 ?_
 refine lS [[125]] fun _=>?_
 refine cl1 [(1,2),(0,2),(2,1)] call116 (fun h=>zZ h) h (fun r31 v33 h=>?_)
 refine yn 2 ?_
 exact fs [] [3,4] results131 h
def z4h:Nat→zo→(List zl)→Bool→Option (Pn (zo))
 | 0=>fun _ _ _=>none
 | n+1=>z4G n  (z4h n )
theorem z4Y {n:Nat}:K28 (z4h n) 131:=by
 induction n with
 | zero=>intro _ _ _ _ _ _ _  h; cases h
 | succ n ih=>exact z6i ih
end Go.Proofs.YtcmaoifiiigggaaGreatDoor
