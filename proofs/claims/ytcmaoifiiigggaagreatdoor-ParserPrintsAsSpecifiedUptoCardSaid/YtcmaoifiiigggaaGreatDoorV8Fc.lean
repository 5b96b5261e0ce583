/-
  Functions of the program, lifted: part 3.
-/
import Derived.Test.YtcmaoifiiigggaaGreatDoorV8Fb
set_option linter.unusedSimpArgs false
set_option linter.unusedVariables false
namespace Go.Proofs.YtcmaoifiiigggaaGreatDoor
open Go.Abs Tryz
set_option maxRecDepth 20000
set_option maxHeartbeats 4000000
def z9b (n:Nat) (s_0:(List UInt8)):((List z6)×(List UInt8)×Int×Int)→Option (Lp ((List z6)×(List UInt8)×Int×Int) (Lp ((List z6)) ((List z6)×z11))):=
 fun (j5,j7,j2,jQ)=>
  cond (decide (j2<(s_0.length:Int)))
   (bindJ (S := (List z6) × (List UInt8) × Int)
    (idx s_0 j2 fun c38=>
    obind (z82 (c38.toNat:Int)) fun r39=>
    cond r39
     (obind (z3s n (zV.mk j7 j2)) fun r42=>
     pbind r42 (fun e45=>
      some (.stop (.stop (.stop (([]:List z6),(z11.mk j2 e45)))))) fun q44=>
     need (j5.length+([(z6.mk q44.1.Kind j2 q44.1.S)]:List z6).length≤4294967296) (
     some (.go ((j5++([(z6.mk q44.1.Kind j2 q44.1.S)]:List z6)),q44.2.s_,q44.2.at_))))
     (idx s_0 j2 fun c54=>
     obind (z6s (c54.toNat:Int)) fun r55=>
     cond r55
      (obind (z36 n (zV.mk j7 j2)) fun r58=>
      pbind r58 (fun e61=>
       some (.stop (.stop (.stop (([]:List z6),(z11.mk j2 e61)))))) fun q60=>
      need (j5.length+([(z6.mk q60.1.Kind j2 q60.1.S)]:List z6).length≤4294967296) (
      some (.go ((j5++([(z6.mk q60.1.Kind j2 q60.1.S)]:List z6)),q60.2.s_,q60.2.at_))))
      (idx s_0 j2 fun c70=>
      obind (z8o (c70.toNat:Int)) fun r71=>
      cond r71
       (obind (z3u n (zV.mk j7 j2)) fun r74=>
       pbind r74 (fun e77=>
        some (.stop (.stop (.stop (([]:List z6),(z11.mk j2 e77)))))) fun q76=>
       need (j5.length+([(z6.mk q76.1.Kind j2 q76.1.S)]:List z6).length≤4294967296) (
       some (.go ((j5++([(z6.mk q76.1.Kind j2 q76.1.S)]:List z6)),q76.2.s_,q76.2.at_))))
       (idx s_0 j2 fun c86=>
       obind (z8p (c86.toNat:Int)) fun r87=>
       cond r87
        (obind (z3t n (zV.mk j7 j2)) fun r90=>
        pbind r90 (fun e93=>
         some (.stop (.stop (.stop (([]:List z6),(z11.mk j2 e93)))))) fun q92=>
        need (j5.length+([(z6.mk q92.1.Kind j2 q92.1.S)]:List z6).length≤4294967296) (
        some (.go ((j5++([(z6.mk q92.1.Kind j2 q92.1.S)]:List z6)),q92.2.s_,q92.2.at_))))
        (some (.go (j5,j7,j2)))))))
   (fun (jc, jd, je) =>
    obind (z2M n (zV.mk jd je)) fun r99=>
    some (.go (jc,r99.s_,r99.at_,j2))))
   (some (.stop (.go j5)))
def z4J (n:Nat) (s_0:(List UInt8)):Option ((List z6)×z11):=
 cond (decide (65536<(s_0.length:Int)))
  (some (([]:List z6),(z11.mk 0 2)))
  (obind (zff) fun r6=>
  bindJ (S:=(List z6))
   (obind (z2M n (zV.mk s_0 0)) fun r15=>
   iter (z9b n s_0) n (([]:List z6),r15.s_,r15.at_,0))
  (fun x_9 =>
   some (x_9,(z11.mk 0 0))))
theorem z66 {n:Nat} {s_0:(List UInt8)} {r:(List z6)×z11} (h:z4J n s_0=some r) :
  Meets Tryz.prog 15 [.string (bs s_0)] [globA] (fun v G=>∃ v0,v = .tuple #[v0,.agg #[.int .i64 r.2.At,.int .i64 r.2.E]]∧G=[row v0 3 (r.1.map z6.enc)]):=by
 refine zcm func15 rfl ntmps15 rfl (fun w0 o0=>?_)
 refine zh (al fun b1=>?_)
 refine al fun b2=>?_
 refine yc 4 h (fun _ h=>?_) fun _ h=>?_
 ·refine yn 4 ?_
  refine z1k (nilrow 3) ?_
  refine z1k (retell 3 (g:=row (.slice none 0 0) 3 (([]:List z6).map z6.enc)) rfl rfl) ?_
  obtain rfl:=zU h
  refine z4R [.cell 2 37,.cell 3 29] [(.slice none 0 0),.agg #[.int .i64 0,.int .i64 2]] [3] [row (.slice none 0 0) 3 (([]:List z6).map z6.enc)] results15 rfl (rescons (z52 1 isAgg37 rfl rfl) (rescons (z5H 2 isAgg29 sizeOf29 rfl rfl rfl) resnil)) (by decide) rfl ?_
  exact ⟨_,rfl,rfl⟩
 ·refine yn 3 ?_
  refine lB fun b4=>?_
  refine ys ?_
  refine zc (rj [0,2,3,4] [0,1,2,3] ?_)
  refine z8 (al fun b5=>?_)
  refine yn 3 ?_
  refine zet (wn rfl) rfl rfl rfl rfl ?_
  refine za ?_
  obtain ⟨r6,hr7,h⟩:=zJ h
  refine zt (tc [(0,0)] call42 (zi9 hr7)) ?_
  rintro v8 _ ⟨_,⟨_,rfl,rfl⟩,rfl⟩
  refine ys ?_
  refine zd (jr h [2,3] [0,0,3,1] (fun s (g:Value)=>[]) (fun s g=>[box b1 [g],row g 3 (s.map z6.enc)]) (fun _ h j9 _ jq=>?_) ?_)
  ·refine yn 2 ?_
   refine cl0 [(3,2)] call43 (fun h=>z5u h) h (fun r15 h=>?_)
   refine yn 2 ?_
   refine z3x (nilrow 3) ?_
   refine z3x (retell 7 (g:=row (.slice none 0 0) 3 (([]:List z6).map z6.enc)) rfl rfl) ?_
   refine lo h [0,2,3,4,5,6] [0,0,3,0,0,6,1] (fun s (g:Value)=>[]) (fun s g=>[box b1 [g],row g 3 (s.1.map z6.enc),box b4 [.string (bs s.2.1),.int .i64 s.2.2.1],box b5 [.int .i64 s.2.2.2]]) _ [1,7,2,6,4,5,0] ?_
   rintro ⟨j5,j7,j2,_⟩ _ _ h _ jf j4
   refine rs ?_
   refine yc 4 h (fun _ h=>?_) fun _ h=>?_
   ·refine run_skip (zD (jr h [0,2,3,4,5,6] [0,0,3,0,0,6,7] (fun s (g:Value)=>[]) (fun s g=>[box b1 [g],row g 3 (s.1.map z6.enc),box b4 [.string (bs s.2.1),.int .i64 s.2.2],box b5 [.int .i64 j2]]) (fun _ h ja _ j8=>?_) ?_))
    ·refine yn 3 ?_
     refine zc (rj [0,2,3,4,5,6] [0,1,2,3,4,5,6] ?_)
     refine yn 4 ?_
     refine ziu 60 ?_
     refine yn 2 ?_
     refine zc (z3M rfl ?_)
     refine yn 5 ?_
     refine al fun b35=>?_
     refine ys ?_
     refine zc (rj [0,2,3,4,5,6,34,35,36,8] [0,1,2,3,4,5,6,7] ?_)
     refine zcY (fun L36 js=>?_)
     refine rf [1,1,1,1,1,1,1,1] fun hS=>?_
     refine aq [0,1,2,3] ?_
     obtain ⟨c38,jB,jC,jD,h⟩:=zP h
     refine aq [4] ?_
     refine al0 5 [] call90 (fun h=>zcw h) h (fun r39 h=>?_)
     refine z1K (by kernel_rfl) ?_
     refine zay js ?_
     refine yc 1 h (fun _ h=>?_) fun _ h=>?_
     ·refine yn 2 ?_
      obtain ⟨r42,jg,h⟩:=zJ h
      rcases r42 with q44 | e45
      rotate_left
      ·replace h:=z32 h
       refine z6M (wn rfl) rfl (tp [(3,2),(6,0)] call91 (z5L jg)) (by rintro _ _ ⟨_,⟨_,hq,_⟩,_⟩; cases hq) ?_
       rintro _ ⟨_,he,rfl⟩
       obtain rfl:=Pn.pan.inj he
       refine zaS call41 (zf3 b5 b1 b2 e45 j2 4 0 2 rfl rfl rfl (by decide)) ?_
       refine z1k (nilrow 3) ?_
       refine z1k (retell 8 (g:=row (.slice none 0 0) 3 (([]:List z6).map z6.enc)) rfl rfl) ?_
       obtain rfl:=zU h
       obtain rfl:=zM ja
       skip
       obtain rfl:=j4 _ rfl
       skip
       obtain rfl:=zM j9
       refine z4R [.cell 2 37,.cell 3 29] [(.slice none 0 0),.agg #[.int .i64 j2,.int .i64 e45]] [8] [row (.slice none 0 0) 3 (([]:List z6).map z6.enc)] results15 rfl (rescons (z52 0 isAgg37 rfl rfl) (rescons (z5H 2 isAgg29 sizeOf29 rfl rfl rfl) resnil)) (by decide) rfl ?_
       exact ⟨_,rfl,rfl⟩
      replace h:=z33 h
      refine zt (tc [(3,2),(6,0)] call91 (z5a (z5L jg))) ?_
      rintro _ _ ⟨_,⟨rfl,rfl⟩,rfl⟩
      refine al fun b46=>?_
      refine ys ?_
      refine zc (rj [0,2,3,4,5,6,9] [0,1,2,4,5,6,8,9] ?_)
      refine yn 4 ?_
      refine lT z6.enc [(z6.mk q44.1.Kind j2 q44.1.S)] fun _=>?_
      obtain ⟨jt,h⟩:=zX h
      refine lA z6.enc_ok 1 8 jt fun _=>?_
      refine ys ?_
      refine zd (z1h _ rfl ?_)
      exact zS (gj j8 _ [0,1,2,6,3,4,5] h)
     ·refine yn 4 ?_
      refine zr (z9k ?_)
      refine zH (rj [0,2,3,4,5,6,34,35,36] [0,1,2,3,4,5,6] ?_)
      refine yn 2 ?_
      refine zc (z3M rfl ?_)
      refine yn 5 ?_
      refine al fun b51=>?_
      refine ys ?_
      refine zc (zcY (fun L52 ju=>?_))
      refine rf [1,1,1,1,1,1,1,1] fun hS=>?_
      refine aq [0,1,2,3] ?_
      obtain ⟨c54,jE,jF,jG,h⟩:=zP h
      refine aq [4] ?_
      refine al0 5 [] call92 (fun h=>za0 h) h (fun r55 h=>?_)
      refine z1K (by kernel_rfl) ?_
      refine zay ju ?_
      refine yc 1 h (fun _ h=>?_) fun _ h=>?_
      ·refine zH (rj [0,2,3,4,5,6,8] [0,1,2,3,4,5,6,7] ?_)
       refine yn 2 ?_
       obtain ⟨r58,jh,h⟩:=zJ h
       rcases r58 with q60 | e61
       rotate_left
       ·replace h:=z32 h
        refine z6M (wn rfl) rfl (tp [(3,2)] call93 (z5n jh)) (by rintro _ _ ⟨_,⟨_,hq,_⟩,_⟩; cases hq) ?_
        rintro _ ⟨_,he,rfl⟩
        obtain rfl:=Pn.pan.inj he
        refine zaS call41 (zf3 b5 b1 b2 e61 j2 4 0 2 rfl rfl rfl (by decide)) ?_
        refine z1k (nilrow 3) ?_
        refine z1k (retell 8 (g:=row (.slice none 0 0) 3 (([]:List z6).map z6.enc)) rfl rfl) ?_
        obtain rfl:=zU h
        obtain rfl:=zM ja
        skip
        obtain rfl:=j4 _ rfl
        skip
        obtain rfl:=zM j9
        refine z4R [.cell 2 37,.cell 3 29] [(.slice none 0 0),.agg #[.int .i64 j2,.int .i64 e61]] [8] [row (.slice none 0 0) 3 (([]:List z6).map z6.enc)] results15 rfl (rescons (z52 0 isAgg37 rfl rfl) (rescons (z5H 2 isAgg29 sizeOf29 rfl rfl rfl) resnil)) (by decide) rfl ?_
        exact ⟨_,rfl,rfl⟩
       replace h:=z33 h
       refine zt (tc [(3,2)] call93 (z5a (z5n jh))) ?_
       rintro _ _ ⟨_,⟨rfl,rfl⟩,rfl⟩
       refine al fun b62=>?_
       refine yn 3 ?_
       refine zc (rj [0,2,3,4,5,6,9] [0,1,2,4,5,6,8,9] ?_)
       refine yn 2 ?_
       refine lT z6.enc [(z6.mk q60.1.Kind j2 q60.1.S)] fun _=>?_
       obtain ⟨jv,h⟩:=zX h
       refine lA z6.enc_ok 1 8 jv fun _=>?_
       refine ys ?_
       refine zd (z1h _ rfl ?_)
       exact zS (gj j8 _ [0,1,2,6,3,4,5] h)
      ·refine yn 2 ?_
       refine zD (rj [0,2,3,4,5,6,34,35,36] [0,1,2,3,4,5,6] ?_)
       refine yn 2 ?_
       refine zr (z9k ?_)
       refine yn 2 ?_
       refine zc (z3M rfl ?_)
       refine yn 5 ?_
       refine al fun b67=>?_
       refine ys ?_
       refine zc (zcY (fun L68 jw=>?_))
       refine rf [1,1,1,1,1,1,1,1] fun hS=>?_
       refine aq [0,1,2,3] ?_
       obtain ⟨c70,jH,jI,jJ,h⟩:=zP h
       refine aq [4] ?_
       refine al0 5 [] call94 (fun h=>zep h) h (fun r71 h=>?_)
       refine z1K (by kernel_rfl) ?_
       refine zay jw ?_
       refine yc 1 h (fun _ h=>?_) fun _ h=>?_
       ·refine zH (rj [0,2,3,4,5,6,8] [0,1,2,3,4,5,6,7] ?_)
        refine yn 2 ?_
        obtain ⟨r74,ji,h⟩:=zJ h
        rcases r74 with q76 | e77
        rotate_left
        ·replace h:=z32 h
         refine z6M (wn rfl) rfl (tp [(3,2)] call95 (z5N ji)) (by rintro _ _ ⟨_,⟨_,hq,_⟩,_⟩; cases hq) ?_
         rintro _ ⟨_,he,rfl⟩
         obtain rfl:=Pn.pan.inj he
         refine zaS call41 (zf3 b5 b1 b2 e77 j2 4 0 2 rfl rfl rfl (by decide)) ?_
         refine z1k (nilrow 3) ?_
         refine z1k (retell 8 (g:=row (.slice none 0 0) 3 (([]:List z6).map z6.enc)) rfl rfl) ?_
         obtain rfl:=zU h
         obtain rfl:=zM ja
         skip
         obtain rfl:=j4 _ rfl
         skip
         obtain rfl:=zM j9
         refine z4R [.cell 2 37,.cell 3 29] [(.slice none 0 0),.agg #[.int .i64 j2,.int .i64 e77]] [8] [row (.slice none 0 0) 3 (([]:List z6).map z6.enc)] results15 rfl (rescons (z52 0 isAgg37 rfl rfl) (rescons (z5H 2 isAgg29 sizeOf29 rfl rfl rfl) resnil)) (by decide) rfl ?_
         exact ⟨_,rfl,rfl⟩
        replace h:=z33 h
        refine zt (tc [(3,2)] call95 (z5a (z5N ji))) ?_
        rintro _ _ ⟨_,⟨rfl,rfl⟩,rfl⟩
        refine al fun b78=>?_
        refine yn 3 ?_
        refine zc (rj [0,2,3,4,5,6,9] [0,1,2,4,5,6,8,9] ?_)
        refine yn 2 ?_
        refine lT z6.enc [(z6.mk q76.1.Kind j2 q76.1.S)] fun _=>?_
        obtain ⟨jx,h⟩:=zX h
        refine lA z6.enc_ok 1 8 jx fun _=>?_
        refine ys ?_
        refine zd (z1h _ rfl ?_)
        exact zS (gj j8 _ [0,1,2,6,3,4,5] h)
       ·refine yn 2 ?_
        refine zD (rj [0,2,3,4,5,6,34,35,36] [0,1,2,3,4,5,6] ?_)
        refine yn 2 ?_
        refine zr (z9k ?_)
        refine yn 2 ?_
        refine zc (z3M rfl ?_)
        refine yn 5 ?_
        refine al fun b83=>?_
        refine ys ?_
        refine zc (zcY (fun L84 jy=>?_))
        refine rf [1,1,1,1,1,1,1,1] fun hS=>?_
        refine aq [0,1,2,3] ?_
        obtain ⟨c86,jK,jL,jM,h⟩:=zP h
        refine aq [4] ?_
        refine al0 5 [] call96 (fun h=>zeq h) h (fun r87 h=>?_)
        refine z1K (by kernel_rfl) ?_
        refine zay jy ?_
        refine yc 1 h (fun _ h=>?_) fun _ h=>?_
        ·refine zH (rj [0,2,3,4,5,6,8] [0,1,2,3,4,5,6,7] ?_)
         refine yn 2 ?_
         obtain ⟨r90,jj,h⟩:=zJ h
         rcases r90 with q92 | e93
         rotate_left
         ·replace h:=z32 h
          refine z6M (wn rfl) rfl (tp [(3,2),(6,0)] call97 (z5M jj)) (by rintro _ _ ⟨_,⟨_,hq,_⟩,_⟩; cases hq) ?_
          rintro _ ⟨_,he,rfl⟩
          obtain rfl:=Pn.pan.inj he
          refine zaS call41 (zf3 b5 b1 b2 e93 j2 4 0 2 rfl rfl rfl (by decide)) ?_
          refine z1k (nilrow 3) ?_
          refine z1k (retell 8 (g:=row (.slice none 0 0) 3 (([]:List z6).map z6.enc)) rfl rfl) ?_
          obtain rfl:=zU h
          obtain rfl:=zM ja
          skip
          obtain rfl:=j4 _ rfl
          skip
          obtain rfl:=zM j9
          refine z4R [.cell 2 37,.cell 3 29] [(.slice none 0 0),.agg #[.int .i64 j2,.int .i64 e93]] [8] [row (.slice none 0 0) 3 (([]:List z6).map z6.enc)] results15 rfl (rescons (z52 0 isAgg37 rfl rfl) (rescons (z5H 2 isAgg29 sizeOf29 rfl rfl rfl) resnil)) (by decide) rfl ?_
          exact ⟨_,rfl,rfl⟩
         replace h:=z33 h
         refine zt (tc [(3,2),(6,0)] call97 (z5a (z5M jj))) ?_
         rintro _ _ ⟨_,⟨rfl,rfl⟩,rfl⟩
         refine al fun b94=>?_
         refine yn 3 ?_
         refine zc (rj [0,2,3,4,5,6,9] [0,1,2,4,5,6,8,9] ?_)
         refine yn 2 ?_
         refine lT z6.enc [(z6.mk q92.1.Kind j2 q92.1.S)] fun _=>?_
         obtain ⟨jz,h⟩:=zX h
         refine lA z6.enc_ok 1 8 jz fun _=>?_
         refine ys ?_
         refine zd (z1h _ rfl ?_)
         exact zS (gj j8 _ [0,1,2,6,3,4,5] h)
        ·refine yn 2 ?_
         refine zD (rj [0,2,3,4,5,6,34,35,36] [0,1,2,3,4,5,6] ?_)
         refine yn 2 ?_
         refine zr (z9k ?_)
         refine yn 2 ?_
         refine zc (z53 rfl ?_)
         refine z1h _ rfl ?_
         exact zS (gj j8 _ [0,1,2,3,4,5,6] h)
    rintro ⟨jc,jd,je⟩ v30 h
    refine rs ?_
    refine yn 2 ?_
    refine cl0 [(3,2)] call43 (fun h=>z5u h) h (fun r99 h=>?_)
    exact zr (gj jf _ [0,1,2,7,4,5,6] h)
   ·refine z1h _ rfl ?_
    exact gk jq j4 _ [0,1,2,6] h
  rintro x_9 v10 h
  refine rs ?_
  refine yn 4 ?_
  refine zeh call41 (znn b5 b1 b2 _) ?_
  obtain rfl:=zU h
  refine z4R [.cell 2 37,.cell 3 29] [v10,.agg #[.int .i64 0,.int .i64 0]] [1] [row v10 3 (x_9.map z6.enc)] results15 rfl (rescons (z52 0 isAgg37 rfl rfl) (rescons (z5H 2 isAgg29 sizeOf29 rfl rfl rfl) resnil)) (by decide) rfl ?_
  exact ⟨_,rfl,rfl⟩
def z7A (t_0:z6) (a_1:Int):Option (Bool×Int):=
 cond (decide (40<a_1))
  (some (true,a_1))
  (bindJ (S := Int)
   (cond (decide (t_0.Kind = 5))
    (bindJ (S := Bool)
     (cond (decide (t_0.S = [40]))
      (some (.go (decide (t_0.S=[40]))))
      (some (.go (decide (t_0.S=[123])))))
    (fun s_9 =>
     cond s_9
      (some (.go (IntKind.i64.wrap (a_1+1))))
      (bindJ (S := Bool)
       (cond (decide (t_0.S = [41]))
        (some (.go (decide (t_0.S=[41]))))
        (some (.go (decide (t_0.S=[125])))))
      (fun jk =>
       cond jk
        (some (.go (IntKind.i64.wrap (a_1 - 1))))
        (some (.go a_1))))))
    (some (.go a_1)))
  (fun x_3 =>
   some (false,x_3)))
theorem zdV {t_0:z6} {a_1:Int} {jb:Nat} {r:Bool×Int} (h:z7A t_0 a_1=some r) :
  Meets Tryz.prog 141 [.agg #[.int .i64 t_0.Kind,.int .i64 t_0.At,.string (bs t_0.S)],boxP jb 0] [box jb [.int .i64 a_1]] (fun v G=>v = .bool r.1∧G=[box jb [.int .i64 r.2]]):=by
 refine zN func141 rfl ntmps141 rfl (fun w0 o0=>?_)
 refine zh (lB fun b1=>?_)
 refine yc 5 h (fun _ h=>?_) fun _ h=>?_
 ·refine yn 4 ?_
  exact fs [3] [0] results141 h
 ·refine run_skip (zD (jr h [] [0] (fun s (g:Unit)=>[]) (fun s g=>[box jb [.int .i64 s]]) (fun _ h _ _ hL6=>?_) ?_))
  ·refine yc 3 h (fun _ h=>?_) fun _ h=>?_
   ·refine yn 4 ?_
    refine jr h [1,10] [1] (fun s (g:Unit)=>[(11,.bool s)]) (fun s g=>[]) (fun _ h _ _ jl=>?_) ?_
    ·refine zH (rj [1,10] [0] ?_)
     refine yc 3 h (fun _ h=>?_) fun _ h=>?_
     ·exact run_skip (gj jl () [0] h)
     ·refine yn 3 ?_
      exact gj jl () [0] h
    rintro s_9 _ h
    refine rs ?_
    refine rc h (fun _ h=>?_) (fun _ h=>?_)
    ·refine yn 4 ?_
     exact gj hL6 () [0] h
    ·refine jr h [1] [1] (fun s (g:Unit)=>[(16,.bool s)]) (fun s g=>[]) (fun _ h _ _ jm=>?_) ?_
     ·refine yc 3 h (fun _ h=>?_) fun _ h=>?_
      ·exact run_skip (gj jm () [0] h)
      ·refine yn 3 ?_
       exact gj jm () [0] h
     rintro jk _ h
     refine rs ?_
     refine rc h (fun _ h=>?_) (fun _ h=>?_)
     ·refine yn 4 ?_
      exact gj hL6 () [0] h
     ·refine yn 2 ?_
      exact gj hL6 () [0] h
   ·exact run_skip (gj hL6 () [0] h)
  rintro x_3 _ h
  refine rs ?_
  refine yn 4 ?_
  exact fs [3] [0] results141 h
def z1m (s_0:(List z6)):(Int×Int)→Option (Lp (Int×Int) (Lp (Int) (Int×Int))):=
 fun (s_6,x_7)=>
  cond (decide (s_6<(s_0.length:Int)))
   (idx s_0 s_6 fun x13=>
   obind (z7A x13 x_7) fun r14=>
   cond r14.1
    (some (.stop (.stop (s_6,r14.2))))
    (some (.go ((IntKind.i64.wrap (s_6+1)),r14.2))))
   (some (.stop (.go x_7)))
def z2c (n:Nat) (s_0:(List z6)) (f_1_0:Int):Option (Int×Int):=
 bindJ (S:=Int)
  (iter (z1m s_0) n (0,f_1_0))
 (fun x_1 =>
  some ((-1),x_1))
theorem z4j {n:Nat} {s_0:(List z6)} {f_1_0:Int} {jo:Value} {f_1_0b:Nat} {r:Int×Int} (h:z2c n s_0 f_1_0=some r) :
  Meets Tryz.prog 140 [jo,.func (.func 141) #[] #[boxP f_1_0b 0]] [ro jo 3 (s_0.map z6.enc),box f_1_0b [.int .i64 f_1_0]] (fun v G=>v = .int .i64 r.1∧G=[box f_1_0b [.int .i64 r.2]]):=by
 refine zN func140 rfl ntmps140 rfl (fun w0 o0=>?_)
 refine yn 2 ?_
 refine zd (jr h [] [0] (fun s (g:Unit)=>[]) (fun s g=>[box f_1_0b [.int .i64 s]]) (fun _ h ho3 _ hL4=>?_) ?_)
 ·refine yn 4 ?_
  refine lo h [0,1,7] [1,0] (fun s (g:Unit)=>[(8,.int .i64 s.1)]) (fun s g=>[box f_1_0b [.int .i64 s.2]]) () [0,1] ?_
  rintro ⟨_,_⟩ _ _ h _ jA j6
  refine rs ?_
  refine yc 3 h (fun _ h=>?_) fun _ h=>?_
  ·refine yn 7 ?_
   obtain ⟨x13,jN,jO,jP,h⟩:=zP h
   refine ys ?_
   refine cl0 [(1,2)] call141 (fun h=>zdV h) h (fun r14 h=>?_)
   refine yc 1 h (fun _ h=>?_) fun _ h=>?_
   ·refine zH (rj [5] [2] ?_)
    refine yn 4 ?_
    obtain rfl:=zU h
    obtain rfl:=j6 _ rfl
    skip
    obtain rfl:=zM ho3
    exact ft [4] [0] results140
   ·refine yn 2 ?_
    refine zD (rj [8,0,1,7] [0,2] ?_)
    refine yn 3 ?_
    exact gj jA () [0,1] h
  ·refine z1h _ rfl ?_
   exact gk hL4 j6 () [1] h
 rintro x_1 _ h
 refine rs ?_
 refine yn 4 ?_
 exact fs [4] [0] results140 h
def z83 (n:Nat) (l_0:(List z6)):Option (Int):=
 obind (z2c n l_0 0) fun r2=>
 some r2.1
theorem z9M {n:Nat}:K4 (z83 n) 72:=by
 intro l_0 jR r h
 refine zN func72 rfl ntmps72 rfl (fun w0 o0=>?_)
 refine yn 3 ?_
 refine al fun b1=>?_
 refine yn 3 ?_
 refine cl0 [(0,0),(1,2)] call140 (fun h=>z4j h) h (fun r2 h=>?_)
 refine yn 3 ?_
 exact fs [2] [] results72 h
def z1a (r_0:z7):Option (z6):=
 cond (decide (r_0.i_<(r_0.l_.length:Int)))
  (idx r_0.l_ r_0.i_ fun x3=>
  some x3)
  (some (z6.mk 0 0 []))
theorem z1e {r_0:z7} {j3:Nat} {j0:Value} {r:z6} (h:z1a r_0=some r) :
  Meets Tryz.prog 75 [boxP j3 0] [ro j0 3 (r_0.l_.map z6.enc),box j3 [j0,.int .i64 r_0.i_,.int .i64 r_0.at_]] (fun v G=>v = .agg #[.int .i64 r.Kind,.int .i64 r.At,.string (bs r.S)]∧G=[box j3 [j0,.int .i64 r_0.i_,.int .i64 r_0.at_]]):=by
 refine zN func75 rfl ntmps75 rfl (fun w0 o0=>?_)
 refine zh (al fun b1=>?_)
 refine zc (zH (z4U (by kernel_rfl) (by kernel_rfl) ?_))
 refine yu ?_
 refine z2m ?_
 refine yc 1 h (fun _ h=>?_) fun _ h=>?_
 ·refine zH (rj [0,2] [0,1,2] ?_)
  refine rf [1,1] fun hS=>?_
  refine aq [0,1,2,3,4,5,6,7] ?_
  obtain ⟨x3,jS,jT,jU,h⟩:=zP h
  refine aq [8,9] ?_
  refine ast 10 ?_
  refine z1K (by kernel_rfl) ?_
  refine yn 2 ?_
  exact fr [1] results75 h
 ·refine run_skip (zg (rj [2] [0,1,2] ?_))
  refine yn 4 ?_
  exact fr [1] results75 h
def z3v (r_0:z7) (j1:Int) (s_2:(List UInt8)):Option (Bool):=
 obind (z1a r_0) fun r1=>
 some (decide (r1.Kind=j1) && decide (r1.S=s_2))
theorem z5P {r_0:z7} {j1:Int} {s_2:(List UInt8)} {j3:Nat} {j0:Value} {r:Bool} (h:z3v r_0 j1 s_2=some r) :
  Meets Tryz.prog 142 [boxP j3 0,.int .i64 j1,.string (bs s_2)] [ro j0 3 (r_0.l_.map z6.enc),box j3 [j0,.int .i64 r_0.i_,.int .i64 r_0.at_]] (fun v G=>v = .bool r∧G=[box j3 [j0,.int .i64 r_0.i_,.int .i64 r_0.at_]]):=by
 refine zN func142 rfl ntmps142 rfl (fun w0 o0=>?_)
 refine yn 4 ?_
 refine cl0 [(0,0),(1,2)] call75 (fun h=>z1e h) h (fun r1 h=>?_)
 refine al fun b3=>?_
 refine yn 3 ?_
 refine oq 5 14 19 [] [0,2] (decide (r1.Kind=j1) && decide (r1.S=s_2)) ?_
 refine yn 3 ?_
 exact fs [6] [1] results142 h
def z10 (r_0:z7) (j1:Int) (s_2:(List UInt8)):Option (Bool×z7):=
 obind (z3v r_0 j1 s_2) fun r1=>
 bindJ (S:=Int)
  (cond r1
   (some (.go (IntKind.i64.wrap (r_0.i_+1))))
   (some (.go r_0.i_)))
 (fun x_3 =>
  some (r1,(z7.mk r_0.l_ x_3 r_0.at_)))
theorem z13 {r_0:z7} {j1:Int} {s_2:(List UInt8)} {j3:Nat} {j0:Value} {r:Bool×z7} (h:z10 r_0 j1 s_2=some r) :
  Meets Tryz.prog 76 [boxP j3 0,.int .i64 j1,.string (bs s_2)] [ro j0 3 (r_0.l_.map z6.enc),box j3 [j0,.int .i64 r_0.i_,.int .i64 r_0.at_]] (fun v G=>∃ v0,v = .bool r.1∧G=[ro v0 3 (r.2.l_.map z6.enc),box j3 [v0,.int .i64 r.2.i_,.int .i64 r.2.at_]]):=by
 refine zN func76 rfl ntmps76 rfl (fun w0 o0=>?_)
 refine yn 4 ?_
 refine cl0 [(0,0),(1,2)] call142 (fun h=>z5P h) h (fun r1 h=>?_)
 refine ys ?_
 refine zd (jr h [7] [0,1] (fun s (g:Unit)=>[]) (fun s g=>[box j3 [j0,.int .i64 s,.int .i64 r_0.at_]]) (fun _ h _ _ hL6=>?_) ?_)
 ·refine yc 3 h (fun _ h=>?_) fun _ h=>?_
  ·refine yn 3 ?_
   exact gj hL6 () [2,0] h
  ·exact run_skip (gj hL6 () [2,0] h)
 rintro x_3 _ h
 refine rs ?_
 refine yn 4 ?_
 exact fs [6] [1,0] results76 h
def z16 (r_0:z7):Option (Pn (Unit)):=
 bindJ (S:=Int)
  (cond (decide (r_0.i_ < (r_0.l_.length : Int)))
   (idx r_0.l_ r_0.i_ fun x7=>
   some (.go x7.At))
   (some (.go r_0.at_)))
 (fun jp =>
  some (.pan jp))
theorem z15 {r_0:z7} {j3:Nat} {j0:Value} {r:Pn (Unit)} (h:z16 r_0=some r) :
  z4t Tryz.prog 74 [boxP j3 0] [ro j0 3 (r_0.l_.map z6.enc),box j3 [j0,.int .i64 r_0.i_,.int .i64 r_0.at_]] (fun v G=>∃ q,r = .ret q∧(v = .tuple #[]∧G=[box j3 [j0,.int .i64 r_0.i_,.int .i64 r_0.at_]])) (fun v=>∃ e,r = .pan e∧v = .iface 29 (.agg #[.int .i64 e,.int .i64 180])):=by
 refine z1y func74 rfl ntmps74 rfl (fun w0 o0=>?_)
 refine yn 2 ?_
 refine zd (jr h [] [2,1] (fun s (g:Unit)=>[(2,.int .i64 s)]) (fun s g=>[]) (fun _ h _ _ hL4=>?_) ?_)
 ·refine zH (z4U (by kernel_rfl) (by kernel_rfl) ?_)
  refine yu ?_
  refine z2m ?_
  refine yc 1 h (fun _ h=>?_) fun _ h=>?_
  ·refine rj [0] [0,1] ?_
   refine z4U (by kernel_rfl) (by kernel_rfl) ?_
   refine yu ?_
   obtain ⟨x7,jV,jW,jX,h⟩:=zP h
   refine yu ?_
   refine z2m ?_
   exact gj hL4 () [1,0] h
  ·exact run_skip (gj hL4 () [1,0] h)
 rintro jp _ h
 refine rs ?_
 refine yn 2 ?_
 refine zq (zgc runUnderlying29 rfl rfl) ?_
 refine zic _ (wn rfl) (zjX rfl) ?_
 obtain rfl:=zU h
 exact finP ⟨_,rfl,rfl⟩
def z1l (r_0:z7) (j1:Int):Option (Pn ((List UInt8)×z7)):=
 obind (z1a r_0) fun r1=>
 bindJ (S:=Unit)
  (cond (decide (r1.Kind ≠ j1))
   (obind (z16 r_0) fun r9=>
   pbind r9 (fun e12=>
    some (.stop (.pan e12))) fun q11=>
   some (.go ()))
   (some (.go ())))
 (fun _ =>
  some (.ret (r1.S,(z7.mk r_0.l_ (IntKind.i64.wrap (r_0.i_+1)) r_0.at_))))
theorem z1v {r_0:z7} {j1:Int} {j3:Nat} {j0:Value} {r:Pn ((List UInt8)×z7)} (h:z1l r_0 j1=some r) :
  z4t Tryz.prog 77 [boxP j3 0,.int .i64 j1] [ro j0 3 (r_0.l_.map z6.enc),box j3 [j0,.int .i64 r_0.i_,.int .i64 r_0.at_]] (fun v G=>∃ q,r = .ret q∧(∃ v0,v = .string (bs q.1)∧G=[ro v0 3 (q.2.l_.map z6.enc),box j3 [v0,.int .i64 q.2.i_,.int .i64 q.2.at_]])) (fun v=>∃ e,r = .pan e∧v = .iface 29 (.agg #[.int .i64 e,.int .i64 180])):=by
 refine z1y func77 rfl ntmps77 rfl (fun w0 o0=>?_)
 refine yn 4 ?_
 refine cl0 [(0,0),(1,2)] call75 (fun h=>z1e h) h (fun r1 h=>?_)
 refine al fun b3=>?_
 refine ys ?_
 refine zd (jr h [0,5] [3,1,4] (fun s (g:Unit)=>[]) (fun s g=>[]) (fun _ h ho5 _ hL6=>?_) ?_)
 ·refine yc 3 h (fun _ h=>?_) fun _ h=>?_
  ·refine rj [0,5] [0,2,3] ?_
   refine yn 2 ?_
   refine cp0 [(0,0),(1,2)] call74 (fun h=>z15 h) h (fun _ h=>?_) (hp:=fun e h=>by obtain rfl:=zU h; obtain rfl:=zM ho5; exact finP ⟨_,rfl,rfl⟩)
   exact zr (gj hL6 () [3,0,2] h)
  ·exact run_skip (gj hL6 () [2,0,3] h)
 rintro _ _ h
 refine rs ?_
 refine yn 2 ?_
 refine zc (rj [5] [0,1,2] ?_)
 refine yn 4 ?_
 exact fs [4] [1,0] results77 h
def z19 (r_0:z7) (j1:Int) (s_2:(List UInt8)):Option (Pn (z7)):=
 obind (z10 r_0 j1 s_2) fun r1=>
 cond (!r1.1)
  (obind (z16 r1.2) fun r5=>
  pbind r5 (fun e8=>
   some (.pan e8)) fun q7=>
  some (.ret r1.2))
  (some (.ret r1.2))
theorem z1u {r_0:z7} {j1:Int} {s_2:(List UInt8)} {j3:Nat} {j0:Value} {r:Pn (z7)} (h:z19 r_0 j1 s_2=some r) :
  z4t Tryz.prog 78 [boxP j3 0,.int .i64 j1,.string (bs s_2)] [ro j0 3 (r_0.l_.map z6.enc),box j3 [j0,.int .i64 r_0.i_,.int .i64 r_0.at_]] (fun v G=>∃ q,r = .ret q∧(∃ v0,v = .tuple #[]∧G=[ro v0 3 (q.l_.map z6.enc),box j3 [v0,.int .i64 q.i_,.int .i64 q.at_]])) (fun v=>∃ e,r = .pan e∧v = .iface 29 (.agg #[.int .i64 e,.int .i64 180])):=by
 refine z1y func78 rfl ntmps78 rfl (fun w0 o0=>?_)
 refine yn 2 ?_
 refine cl1 [(0,0),(1,2)] call76 (fun h=>z13 h) h (fun r1 v3 h=>?_)
 refine yc 2 h (fun _ h=>?_) fun _ h=>?_
 ·refine yn 2 ?_
  refine cp0 [(2,0),(3,2)] call74 (fun h=>z15 h) h (fun _ h=>?_)
  refine yn 2 ?_
  exact fs [] [2,4] results78 h
 ·refine yn 2 ?_
  exact fs [] [2,3] results78 h
def z6N  : Option ((List (List UInt8))):=
 some ([[112,97,116,116,101,114,110],[116,97,103,115],[102,114,101,115,104],[115,116,97,108,101],[100,111,119,110],[110,101,103,97,116,105,118,101],[99,111,115,116],[118,97,114,121],[97,108,108,111,119],[115,105,103,110,101,100],[112,114,111,103,114,97,109],[102,114,111,109],[116,111],[99,108,105,101,110,116,115],[99,111,117,110,116,114,105,101,115],[115,105,116,101,115],[117,115,101,115]]:List (List UInt8))
theorem z78:K5 z6N 181:=by
 intro  r h
 refine zN func181 rfl ntmps181 rfl (fun w0 o0=>?_)
 refine yn 3 ?_
 refine lS [[112,97,116,116,101,114,110],[116,97,103,115],[102,114,101,115,104],[115,116,97,108,101],[100,111,119,110],[110,101,103,97,116,105,118,101],[99,111,115,116],[118,97,114,121],[97,108,108,111,119],[115,105,103,110,101,100],[112,114,111,103,114,97,109],[102,114,111,109],[116,111],[99,108,105,101,110,116,115],[99,111,117,110,116,114,105,101,115],[115,105,116,101,115],[117,115,101,115]] fun _=>?_
 refine yn 3 ?_
 exact fs [0] [0] results181 h
end Go.Proofs.YtcmaoifiiigggaaGreatDoor
