/-
  Functions that the law ParserPrintsAsSpecified needs, lifted.
-/
import Derived.Test.YtcmaoifiiigggaaGreatDoorV8G8d
set_option linter.unusedSimpArgs false
set_option linter.unusedVariables false
namespace Go.Proofs.YtcmaoifiiigggaaGreatDoor
open Go.Abs Tryz
set_option maxRecDepth 20000
set_option maxHeartbeats 4000000
def zcR (l_0:(List zl)) (j0:Bool) (q42r:(List zl)→Bool→Option (Bool)):(Int)→Option (Lp (Int) (Lp (Unit) (Bool))):=
 fun i_5=>
  cond (decide (i_5<(l_0.length:Int)))
   (idx l_0 i_5 fun x11=>
   cond ((decide (x11.Kind<1) || decide (17<x11.Kind)) || (decide (x11.Kind≠1) && (!(j0 == (decide (12≤x11.Kind))))))
    (some (.stop (.stop false)))
    (obind (zfG x11.Kind) fun r27=>
    bindJ (S:=Bool)
     (cond ((!(r27 == (decide (0 < (x11.Texts.length : Int))))) || (decide (x11.Kind = 1) && decide ((x11.Texts.length : Int) ≠ 1)))
      (some (.go true))
      (obind (zbP x11.Kind) fun r41=>
      some (.go ((!r41) && ((!decide (x11.Amount.Number=[])) || (!decide (x11.Amount.Unit=[])))))))
    (fun b35 =>
     cond (b35 || (decide (x11.Kind=17) && (!decide (x11.Amount.Unit=[]))))
      (some (.stop (.stop false)))
      (cond (((decide (x11.Kind ≠ 8) && (x11.HasDefault || (decide (x11.Kind ≠ 11) && (!decide (x11.Name = []))))) || ((!x11.HasDefault) && (!decide (x11.Default = [])))) || (decide (x11.Kind ≠ 9) && decide (0 < (x11.Conds.length : Int))))
       (some (.stop (.stop false)))
       (obind (q42r x11.Conds true) fun r78=>
       cond (!r78)
        (some (.stop (.stop false)))
        (some (.go (IntKind.i64.wrap (i_5+1)))))))))
   (some (.stop (.go ())))
def z8A (n:Nat) (q42r:(List zl)→Bool→Option (Bool)) (l_0:(List zl)) (j0:Bool):Option (Bool):=
 bindJ (S:=Unit)
  (iter (zcR l_0 j0 q42r) n 0)
 (fun _ =>
  some true)
theorem zau {n:Nat} {q42r:(List zl)→Bool→Option (Bool)} (q43h:K31 q42r 134):K31 (z8A n q42r) 134:=by
 intro l_0 j0 j2 r h
 refine zN func134 rfl ntmps134 rfl (fun w0 o0=>?_)
 refine yn 2 ?_
 refine zd (jr h [] [] (fun s (g:Unit)=>[]) (fun s g=>[]) (fun _ h ho2 _ hL3=>?_) ?_)
 ·refine yn 4 ?_
  refine lo h [0,1] [1] (fun s (g:Unit)=>[(5,.int .i64 s)]) (fun s g=>[]) () [0] ?_
  rintro i_5 _ _ h _ jy j1
  refine rs ?_
  refine yc 4 h (fun _ h=>?_) fun _ h=>?_
  ·refine yn 5 ?_
   obtain ⟨x11,jz,jA,jh,h⟩:=zP h
   refine ys ?_
   refine z4a (exAtT (T:=z1W) (i:=i_5.toNat) 0 rfl jh) ?_
   rintro ⟨g12,g13⟩
   refine ys ?_
   refine al fun b14=>?_
   refine yn 2 ?_
   refine zH (rj [5,0,1,6] [0,2,3,4] ?_)
   refine yn 2 ?_
   refine oq 4 20 24 [5,0,1,6] [0,1,2,3] (decide (x11.Kind<1) || decide (17<x11.Kind)) ?_
   refine ys ?_
   refine oe 11 [5,0,1,6] [1,2,3,4] (fun s=>[(36,.bool s)]) ((decide (x11.Kind<1) || decide (17<x11.Kind)) || (decide (x11.Kind≠1) && (!(j0 == (decide (12≤x11.Kind)))))) (fun _ ji=>?_) ?_
   ·refine z1c 25 (decide (x11.Kind<1) || decide (17<x11.Kind)) rfl (fun j3=>?_) (fun j3=>?_)
    ·skip
     refine ys ?_
     refine z2p 12 true 29 rfl rfl rfl rfl rfl ?_
     refine z2p 12 true 29 rfl rfl rfl rfl rfl ?_
     refine z2p 12 true 29 rfl rfl rfl rfl rfl ?_
     refine z2p 12 true 29 rfl rfl rfl rfl rfl ?_
     refine z2p 12 true 29 rfl rfl rfl rfl rfl ?_
     refine yn 2 ?_
     exact gc ji true [0,1,2,3] (hi:=by rw [j3]; simp)
    ·skip
     refine ys ?_
     refine oe 6 [5,0,1,6,25] [1,2,3,4] (fun s=>[(35,.bool s)]) (decide (x11.Kind≠1) && (!(j0 == (decide (12≤x11.Kind))))) (fun _ jj=>?_) ?_
     ·refine z1c 29 (decide (x11.Kind≠1)) rfl (fun j4=>?_) (fun j4=>?_)
      ·skip
       refine ys ?_
       refine zq (zoo runUnderlying4 rfl rfl) ?_
       refine yn 2 ?_
       exact gc jj (!(j0 == (decide (12≤x11.Kind)))) [0,1,2,3] (hi:=by rw [j4]; simp)
      ·skip
       refine yn 2 ?_
       exact gc jj false [0,1,2,3] (hi:=by rw [j4]; simp)
     refine os ?_
     refine yn 2 ?_
     exact gc ji (decide (x11.Kind≠1) && (!(j0 == (decide (12≤x11.Kind))))) [0,1,2,3] (hi:=by rw [j3]; simp)
   refine os ?_
   refine yc 1 h (fun _ h=>?_) fun _ h=>?_
   ·refine yn 4 ?_
    obtain rfl:=zU h
    obtain rfl:=j1 _ rfl
    skip
    obtain rfl:=zM ho2
    exact ft [4] [] results134
   ·refine yn 3 ?_
    refine rf [1,1,1,1] fun hS=>?_
    refine aq [0,1,3,4,5,6] ?_
    refine al0 2 [] call177 (fun h=>zgF h) h (fun r27 h=>?_)
    refine ai 7 rfl (zoo runUnderlying4 rfl rfl) ?_
    refine aq [8] ?_
    refine ae [19,29] 29 [5,0,1,6] [1,2,3,4] (fun s=>[(55,.bool s)]) ((!(r27 == (decide (0<(x11.Texts.length:Int))))) || (decide (x11.Kind=1) && decide ((x11.Texts.length:Int)≠1))) (fun jk=>?_) ?_
    ·refine z1L 45 (!(r27 == (decide (0<(x11.Texts.length:Int))))) rfl (fun j5=>?_) (fun j5=>?_)
     ·skip
      refine aq [9,10,11,12] ?_
      refine z8X 13 rfl (by kernel_rfl) (by kernel_rfl) (by kernel_rfl) (ss (ss (ss (ss (sn))))) 12 true 49 rfl rfl rfl rfl rfl ?_
      refine z8X 14 rfl (by kernel_rfl) (by kernel_rfl) (by kernel_rfl) (ss (ss (ss (ss (sn))))) 12 true 49 rfl rfl rfl rfl rfl ?_
      refine z8X 15 rfl (by kernel_rfl) (by kernel_rfl) (by kernel_rfl) (ss (ss (ss (ss (sn))))) 12 true 49 rfl rfl rfl rfl rfl ?_
      refine z8X 16 rfl (by kernel_rfl) (by kernel_rfl) (by kernel_rfl) (ss (ss (ss (ss (sn))))) 12 true 49 rfl rfl rfl rfl rfl ?_
      refine aq [17,18] ?_
      exact aw (jk true (by rw [j5]; simp)) [0,1,2,3]
     ·skip
      refine aq [9,10,11,12] ?_
      refine ae [18,30] 30 [5,0,1,6,45] [1,2,3,4] (fun s=>[(54,.bool s)]) (decide (x11.Kind=1) && decide ((x11.Texts.length:Int)≠1)) (fun jl=>?_) ?_
      ·refine z1L 49 (decide (x11.Kind=1)) rfl (fun j6=>?_) (fun j6=>?_)
       ·skip
        refine aq [13,14,15,16,17] ?_
        exact aw (jl (decide ((x11.Texts.length:Int)≠1)) (by rw [j6]; simp)) [0,1,2,3]
       ·skip
        refine aq [13,14,15,16,17] ?_
        exact aw (jl false (by rw [j6]; simp)) [0,1,2,3]
      refine az ?_
      refine aq [18] ?_
      exact aw (jk (decide (x11.Kind=1) && decide ((x11.Texts.length:Int)≠1)) (by rw [j5]; simp)) [0,1,2,3]
    refine az ?_
    refine aq [19] ?_
    refine ab h [37,11] 11 [5,0,1,6] [1,2,3,4] (fun s=>[(73,.bool s)]) (fun s=>[]) (fun _ h _ jm=>?_) ?_
    ·refine z1L 56 ((!(r27 == (decide (0<(x11.Texts.length:Int))))) || (decide (x11.Kind=1) && decide ((x11.Texts.length:Int)≠1))) rfl (fun j7=>?_) (fun j7=>?_)
     ·replace h:=z2F h j7
      refine aq [20,21,22,23,24] ?_
      refine z8X 25 rfl (by kernel_rfl) (by kernel_rfl) (by kernel_rfl) (ss (ss (ss (ss (sn))))) 24 true 61 rfl rfl rfl rfl rfl ?_
      refine z8X 26 rfl (by kernel_rfl) (by kernel_rfl) (by kernel_rfl) (ss (ss (ss (ss (sn))))) 24 true 61 rfl rfl rfl rfl rfl ?_
      refine z8X 27 rfl (by kernel_rfl) (by kernel_rfl) (by kernel_rfl) (ss (ss (ss (ss (sn))))) 24 true 61 rfl rfl rfl rfl rfl ?_
      refine z8X 28 rfl (by kernel_rfl) (by kernel_rfl) (by kernel_rfl) (ss (ss (ss (ss (sn))))) 24 true 61 rfl rfl rfl rfl rfl ?_
      refine z8X 29 rfl (by kernel_rfl) (by kernel_rfl) (by kernel_rfl) (ss (ss (ss (ss (sn))))) 24 true 61 rfl rfl rfl rfl rfl ?_
      refine z8X 30 rfl (by kernel_rfl) (by kernel_rfl) (by kernel_rfl) (ss (ss (ss (ss (sn))))) 29 false 66 rfl rfl rfl rfl rfl ?_
      refine z8X 31 rfl (by kernel_rfl) (by kernel_rfl) (by kernel_rfl) (ss (ss (ss (ss (sn))))) 29 false 66 rfl rfl rfl rfl rfl ?_
      refine z8X 32 rfl (by kernel_rfl) (by kernel_rfl) (by kernel_rfl) (ss (ss (ss (ss (sn))))) 29 false 66 rfl rfl rfl rfl rfl ?_
      refine z8X 33 rfl (by kernel_rfl) (by kernel_rfl) (by kernel_rfl) (ss (ss (ss (ss (sn))))) 29 false 66 rfl rfl rfl rfl rfl ?_
      refine z8X 34 rfl (by kernel_rfl) (by kernel_rfl) (by kernel_rfl) (ss (ss (ss (ss (sn))))) 24 true 61 rfl rfl rfl rfl rfl ?_
      refine aq [35,36] ?_
      exact aw (jm _ (zU h).symm) [0,1,2,3]
     ·replace h:=z2E h j7
      refine aq [20,21] ?_
      refine al0 22 [] call178 (fun h=>zcb h) h (fun r41 h=>?_)
      refine aq [23,24] ?_
      refine ae [36,12] 12 [5,0,1,6,56] [1,2,3,4] (fun s=>[(72,.bool s)]) ((!r41) && ((!decide (x11.Amount.Number=[])) || (!decide (x11.Amount.Unit=[])))) (fun jo=>?_) ?_
      ·refine z1L 61 (!r41) rfl (fun j8=>?_) (fun j8=>?_)
       ·skip
        refine aq [25,26,27,28,29] ?_
        refine ae [35,13] 13 [5,0,1,6,56,61] [1,2,3,4] (fun s=>[(71,.bool s)]) ((!decide (x11.Amount.Number=[])) || (!decide (x11.Amount.Unit=[]))) (fun jp=>?_) ?_
        ·refine z1L 66 (!decide (x11.Amount.Number=[])) rfl (fun j9=>?_) (fun j9=>?_)
         ·skip
          refine aq [30,31,32,33,34] ?_
          exact aw (jp true (by rw [j9]; simp)) [0,1,2,3]
         ·skip
          refine aq [30,31,32,33,34] ?_
          exact aw (jp (!decide (x11.Amount.Unit=[])) (by rw [j9]; simp)) [0,1,2,3]
        refine az ?_
        refine aq [35] ?_
        exact aw (jo ((!decide (x11.Amount.Number=[])) || (!decide (x11.Amount.Unit=[]))) (by rw [j8]; simp)) [0,1,2,3]
       ·skip
        refine aq [25,26,27,28,29] ?_
        refine z8X 30 rfl (by kernel_rfl) (by kernel_rfl) (by kernel_rfl) (ss (ss (ss (ss (sn))))) 29 false 66 rfl rfl rfl rfl rfl ?_
        refine z8X 31 rfl (by kernel_rfl) (by kernel_rfl) (by kernel_rfl) (ss (ss (ss (ss (sn))))) 29 false 66 rfl rfl rfl rfl rfl ?_
        refine z8X 32 rfl (by kernel_rfl) (by kernel_rfl) (by kernel_rfl) (ss (ss (ss (ss (sn))))) 29 false 66 rfl rfl rfl rfl rfl ?_
        refine z8X 33 rfl (by kernel_rfl) (by kernel_rfl) (by kernel_rfl) (ss (ss (ss (ss (sn))))) 29 false 66 rfl rfl rfl rfl rfl ?_
        refine aq [34,35] ?_
        exact aw (jo false (by rw [j8]; simp)) [0,1,2,3]
      refine az ?_
      refine aq [36] ?_
      exact aw (jm _ (zU h).symm) [0,1,2,3]
    rintro b35 h
    refine az ?_
    refine aq [37] ?_
    refine ae [48] 0 [5,0,1,6] [1,2,3,4] (fun s=>[(84,.bool s)]) (b35 || (decide (x11.Kind=17) && (!decide (x11.Amount.Unit=[])))) (fun jq=>?_) ?_
    ·refine z1L 74 b35 rfl (fun ja=>?_) (fun ja=>?_)
     ·skip
      refine aq [38,39,40,41] ?_
      refine z8X 42 rfl (by kernel_rfl) (by kernel_rfl) (by kernel_rfl) (ss (ss (ss (ss (sn))))) 41 true 78 rfl rfl rfl rfl rfl ?_
      refine z8X 43 rfl (by kernel_rfl) (by kernel_rfl) (by kernel_rfl) (ss (ss (ss (ss (sn))))) 41 true 78 rfl rfl rfl rfl rfl ?_
      refine z8X 44 rfl (by kernel_rfl) (by kernel_rfl) (by kernel_rfl) (ss (ss (ss (ss (sn))))) 41 true 78 rfl rfl rfl rfl rfl ?_
      refine z8X 45 rfl (by kernel_rfl) (by kernel_rfl) (by kernel_rfl) (ss (ss (ss (ss (sn))))) 41 true 78 rfl rfl rfl rfl rfl ?_
      refine aq [46,47] ?_
      exact aw (jq true (by rw [ja]; simp)) [0,1,2,3]
     ·skip
      refine aq [38,39,40,41] ?_
      refine ae [47,1] 1 [5,0,1,6,74] [1,2,3,4] (fun s=>[(83,.bool s)]) (decide (x11.Kind=17) && (!decide (x11.Amount.Unit=[]))) (fun js=>?_) ?_
      ·refine z1L 78 (decide (x11.Kind=17)) rfl (fun jb=>?_) (fun jb=>?_)
       ·skip
        refine aq [42,43,44,45,46] ?_
        exact aw (js (!decide (x11.Amount.Unit=[])) (by rw [jb]; simp)) [0,1,2,3]
       ·skip
        refine aq [42,43,44,45,46] ?_
        exact aw (js false (by rw [jb]; simp)) [0,1,2,3]
      refine az ?_
      refine aq [47] ?_
      exact aw (jq (decide (x11.Kind=17) && (!decide (x11.Amount.Unit=[]))) (by rw [ja]; simp)) [0,1,2,3]
    refine az ?_
    refine z1K (by kernel_rfl) ?_
    refine yc 1 h (fun _ h=>?_) fun _ h=>?_
    ·refine yn 4 ?_
     obtain rfl:=zU h
     obtain rfl:=j1 _ rfl
     skip
     obtain rfl:=zM ho2
     exact ft [4] [] results134
    ·refine yn 4 ?_
     refine oe 13 [5,0,1,6] [1,2,3,4] (fun s=>[(101,.bool s)]) (decide (x11.Kind≠8) && (x11.HasDefault || (decide (x11.Kind≠11) && (!decide (x11.Name=[]))))) (fun _ jt=>?_) ?_
     ·refine z1c 88 (decide (x11.Kind≠8)) rfl (fun jc=>?_) (fun jc=>?_)
      ·skip
       refine ys ?_
       refine oe 9 [5,0,1,6,88] [1,2,3,4] (fun s=>[(100,.bool s)]) (x11.HasDefault || (decide (x11.Kind≠11) && (!decide (x11.Name=[])))) (fun _ ju=>?_) ?_
       ·refine z1c 91 x11.HasDefault rfl (fun jd=>?_) (fun jd=>?_)
        ·skip
         refine ys ?_
         refine z2p 10 true 95 rfl rfl rfl rfl rfl ?_
         refine z2p 10 true 95 rfl rfl rfl rfl rfl ?_
         refine z2p 10 true 95 rfl rfl rfl rfl rfl ?_
         refine oh [0,1,2,3] [nro j2 zp l_0,ro g12 1 (x11.Texts.map eStr),nro g13 zp x11.Conds,box b14 [.int .i64 x11.Kind,.int .i64 x11.At,.string (bs x11.Name),g12,.string (bs x11.Amount.Number),.string (bs x11.Amount.Unit),.int .i64 x11.Amount.At,.string (bs x11.Default),.bool x11.HasDefault,g13]] ?_
         refine yn 2 ?_
         exact gc ju true [0,1,2,3] (hi:=by rw [jd]; simp)
        ·skip
         refine ys ?_
         refine oe 4 [5,0,1,6,88,91] [1,2,3,4] (fun s=>[(99,.bool s)]) (decide (x11.Kind≠11) && (!decide (x11.Name=[]))) (fun _ jv=>?_) ?_
         ·refine z1c 95 (decide (x11.Kind≠11)) rfl (fun je=>?_) (fun je=>?_)
          ·skip
           refine ys ?_
           refine oh [0,1,2,3] [nro j2 zp l_0,ro g12 1 (x11.Texts.map eStr),nro g13 zp x11.Conds,box b14 [.int .i64 x11.Kind,.int .i64 x11.At,.string (bs x11.Name),g12,.string (bs x11.Amount.Number),.string (bs x11.Amount.Unit),.int .i64 x11.Amount.At,.string (bs x11.Default),.bool x11.HasDefault,g13]] ?_
           refine yn 2 ?_
           exact gc jv (!decide (x11.Name=[])) [0,1,2,3] (hi:=by rw [je]; simp)
          ·skip
           refine ys ?_
           refine oh [0,1,2,3] [nro j2 zp l_0,ro g12 1 (x11.Texts.map eStr),nro g13 zp x11.Conds,box b14 [.int .i64 x11.Kind,.int .i64 x11.At,.string (bs x11.Name),g12,.string (bs x11.Amount.Number),.string (bs x11.Amount.Unit),.int .i64 x11.Amount.At,.string (bs x11.Default),.bool x11.HasDefault,g13]] ?_
           refine yn 2 ?_
           exact gc jv false [0,1,2,3] (hi:=by rw [je]; simp)
         refine os ?_
         refine yn 2 ?_
         exact gc ju (decide (x11.Kind≠11) && (!decide (x11.Name=[]))) [0,1,2,3] (hi:=by rw [jd]; simp)
       refine os ?_
       refine yn 2 ?_
       exact gc jt (x11.HasDefault || (decide (x11.Kind≠11) && (!decide (x11.Name=[])))) [0,1,2,3] (hi:=by rw [jc]; simp)
      ·skip
       refine ys ?_
       refine z2p 6 false 91 rfl rfl rfl rfl rfl ?_
       refine z2p 6 false 91 rfl rfl rfl rfl rfl ?_
       refine z2p 6 false 91 rfl rfl rfl rfl rfl ?_
       refine z2p 6 false 91 rfl rfl rfl rfl rfl ?_
       refine z2p 10 true 95 rfl rfl rfl rfl rfl ?_
       refine z2p 10 true 95 rfl rfl rfl rfl rfl ?_
       refine z2p 10 true 95 rfl rfl rfl rfl rfl ?_
       refine z2p 6 false 91 rfl rfl rfl rfl rfl ?_
       refine oh [0,1,2,3] [nro j2 zp l_0,ro g12 1 (x11.Texts.map eStr),nro g13 zp x11.Conds,box b14 [.int .i64 x11.Kind,.int .i64 x11.At,.string (bs x11.Name),g12,.string (bs x11.Amount.Number),.string (bs x11.Amount.Unit),.int .i64 x11.Amount.At,.string (bs x11.Default),.bool x11.HasDefault,g13]] ?_
       refine yn 2 ?_
       exact gc jt false [0,1,2,3] (hi:=by rw [jc]; simp)
     refine os ?_
     refine ys ?_
     refine oe 9 [5,0,1,6] [1,2,3,4] (fun s=>[(111,.bool s)]) ((decide (x11.Kind≠8) && (x11.HasDefault || (decide (x11.Kind≠11) && (!decide (x11.Name=[]))))) || ((!x11.HasDefault) && (!decide (x11.Default=[])))) (fun _ jw=>?_) ?_
     ·refine z1c 102 (decide (x11.Kind≠8) && (x11.HasDefault || (decide (x11.Kind≠11) && (!decide (x11.Name=[]))))) rfl (fun jf=>?_) (fun jf=>?_)
      ·skip
       refine ys ?_
       refine z2p 21 true 106 rfl rfl rfl rfl rfl ?_
       refine z2p 21 true 106 rfl rfl rfl rfl rfl ?_
       refine z2p 21 true 106 rfl rfl rfl rfl rfl ?_
       refine yn 2 ?_
       exact gc jw true [0,1,2,3] (hi:=by rw [jf]; simp)
      ·skip
       refine ys ?_
       refine oq 4 106 110 [5,0,1,6,102] [0,1,2,3] ((!x11.HasDefault) && (!decide (x11.Default=[]))) ?_
       refine yn 2 ?_
       exact gc jw ((!x11.HasDefault) && (!decide (x11.Default=[]))) [0,1,2,3] (hi:=by rw [jf]; simp)
     refine os ?_
     refine ys ?_
     refine oe 10 [5,0,1,6] [1,2,3,4] (fun s=>[(122,.bool s)]) (((decide (x11.Kind≠8) && (x11.HasDefault || (decide (x11.Kind≠11) && (!decide (x11.Name=[]))))) || ((!x11.HasDefault) && (!decide (x11.Default=[])))) || (decide (x11.Kind≠9) && decide (0<(x11.Conds.length:Int)))) (fun _ jx=>?_) ?_
     ·refine z1c 112 ((decide (x11.Kind≠8) && (x11.HasDefault || (decide (x11.Kind≠11) && (!decide (x11.Name=[]))))) || ((!x11.HasDefault) && (!decide (x11.Default=[])))) rfl (fun jg=>?_) (fun jg=>?_)
      ·skip
       refine ys ?_
       refine z2p 31 true 116 rfl rfl rfl rfl rfl ?_
       refine z2p 31 true 116 rfl rfl rfl rfl rfl ?_
       refine z2p 31 true 116 rfl rfl rfl rfl rfl ?_
       refine z2p 31 true 116 rfl rfl rfl rfl rfl ?_
       refine yn 2 ?_
       exact gc jx true [0,1,2,3] (hi:=by rw [jg]; simp)
      ·skip
       refine ys ?_
       refine oq 5 116 121 [5,0,1,6,112] [0,1,2,3] (decide (x11.Kind≠9) && decide (0<(x11.Conds.length:Int))) ?_
       refine yn 2 ?_
       exact gc jx (decide (x11.Kind≠9) && decide (0<(x11.Conds.length:Int))) [0,1,2,3] (hi:=by rw [jg]; simp)
     refine os ?_
     refine yc 1 h (fun _ h=>?_) fun _ h=>?_
     ·refine yn 4 ?_
      obtain rfl:=zU h
      obtain rfl:=j1 _ rfl
      skip
      obtain rfl:=zM ho2
      exact ft [4] [] results134
     ·refine yn 3 ?_
      refine cl0 [(2,0)] call134 (fun h=>q43h h) h (fun r78 h=>?_)
      refine yc 2 h (fun _ h=>?_) fun _ h=>?_
      ·refine yn 4 ?_
       obtain rfl:=zU h
       obtain rfl:=j1 _ rfl
       skip
       obtain rfl:=zM ho2
       exact ft [4] [] results134
      ·refine yn 5 ?_
       exact gj jy () [0] h
  ·refine z1h _ rfl ?_
   exact gk hL3 j1 () [] h
 rintro _ _ h
 refine rs ?_
 refine yn 4 ?_
 exact fs [4] [] results134 h
def z8z:Nat→(List zl)→Bool→Option (Bool)
 | 0=>fun _ _=>none
 | n+1=>z8A n  (z8z n )
theorem zcS {n:Nat}:K31 (z8z n) 134:=by
 induction n with
 | zero=>intro _ _ _ _  h; cases h
 | succ n ih=>exact zau ih
end Go.Proofs.YtcmaoifiiigggaaGreatDoor
