/-
  Functions of the program, lifted: part 3.
-/
import Derived.Test.YtcmaoifiiigggaaGreatDoorFb
set_option linter.unusedSimpArgs false
set_option linter.unusedVariables false
namespace Go.Proofs.YtcmaoifiiigggaaGreatDoor
open Go.Abs
set_option maxRecDepth 20000
set_option maxHeartbeats 4000000
def z9b (n:Nat) (s_0:(List UInt8)):((List z6)×(List UInt8)×Int×Int)→Option (Lp ((List z6)×(List UInt8)×Int×Int) (Lp ((List z6)) ((List z6)×z11))):=
 fun (x_17,x_18,x_19,x_20)=>
  cond (decide (x_19<(s_0.length:Int)))
   (bindJ (S := (List z6) × (List UInt8) × Int)
    (idx s_0 x_19 fun c38=>
    obind (z82 (c38.toNat:Int)) fun r39=>
    cond r39
     (obind (z3s n (zV.mk x_18 x_19)) fun r42=>
     pbind r42 (fun e45=>
      some (.stop (.stop (.stop (([]:List z6),(z11.mk x_19 e45)))))) fun q44=>
     need (x_17.length+([(z6.mk q44.1.Kind x_19 q44.1.S)]:List z6).length≤4294967296) (
     some (.go ((x_17++([(z6.mk q44.1.Kind x_19 q44.1.S)]:List z6)),q44.2.s_,q44.2.at_))))
     (idx s_0 x_19 fun c54=>
     obind (z6s (c54.toNat:Int)) fun r55=>
     cond r55
      (obind (z36 n (zV.mk x_18 x_19)) fun r58=>
      pbind r58 (fun e61=>
       some (.stop (.stop (.stop (([]:List z6),(z11.mk x_19 e61)))))) fun q60=>
      need (x_17.length+([(z6.mk q60.1.Kind x_19 q60.1.S)]:List z6).length≤4294967296) (
      some (.go ((x_17++([(z6.mk q60.1.Kind x_19 q60.1.S)]:List z6)),q60.2.s_,q60.2.at_))))
      (idx s_0 x_19 fun c70=>
      obind (z8o (c70.toNat:Int)) fun r71=>
      cond r71
       (obind (z3u n (zV.mk x_18 x_19)) fun r74=>
       pbind r74 (fun e77=>
        some (.stop (.stop (.stop (([]:List z6),(z11.mk x_19 e77)))))) fun q76=>
       need (x_17.length+([(z6.mk q76.1.Kind x_19 q76.1.S)]:List z6).length≤4294967296) (
       some (.go ((x_17++([(z6.mk q76.1.Kind x_19 q76.1.S)]:List z6)),q76.2.s_,q76.2.at_))))
       (idx s_0 x_19 fun c86=>
       obind (z8p (c86.toNat:Int)) fun r87=>
       cond r87
        (obind (z3t n (zV.mk x_18 x_19)) fun r90=>
        pbind r90 (fun e93=>
         some (.stop (.stop (.stop (([]:List z6),(z11.mk x_19 e93)))))) fun q92=>
        need (x_17.length+([(z6.mk q92.1.Kind x_19 q92.1.S)]:List z6).length≤4294967296) (
        some (.go ((x_17++([(z6.mk q92.1.Kind x_19 q92.1.S)]:List z6)),q92.2.s_,q92.2.at_))))
        (some (.go (x_17,x_18,x_19)))))))
   (fun (x_27, x_28, x_29) =>
    obind (z2M n (zV.mk x_28 x_29)) fun r99=>
    some (.go (x_27,r99.s_,r99.at_,x_19))))
   (some (.stop (.go x_17)))
def z4J (n:Nat) (s_0:(List UInt8)):Option ((List z6)×z11):=
 cond (decide (65536<(s_0.length:Int)))
  (some (([]:List z6),(z11.mk 0 2)))
  (obind (zff) fun r6=>
  bindJ (S:=(List z6))
   (obind (z2M n (zV.mk s_0 0)) fun r15=>
   iter (z9b n s_0) n (([]:List z6),r15.s_,r15.at_,0))
  (fun x_9 =>
   some (x_9,(z11.mk 0 0))))
theorem z66 {n:Nat} {s_0:(List UInt8)} {r:(List z6)×z11} (h:z4J n s_0=some r) :
  Meets Tryz.prog 15 [.string (bs s_0)] [globA] (fun v G=>∃ v0,v = .tuple #[v0,.agg #[.int .i64 r.2.At,.int .i64 r.2.E]]∧G=[row v0 3 (r.1.map z6.enc)]):=by
 refine zcm Tryz.func15 rfl Tryz.ntmps15 rfl (fun w0 o0=>?_)
 refine zh ?_
 refine al fun b1=>?_
 refine al fun b2=>?_
 refine zc ?_
 refine zh ?_
 refine ys ?_
 refine zd ?_
 refine rc h (fun _ h=>?_) (fun _ h=>?_)
 ·refine zh ?_
  refine ys ?_
  refine zd ?_
  refine zA ?_
  refine z1k (nilrow 3) ?_
  refine z1k (retell 3 (g:=row (.slice none 0 0) 3 (([]:List z6).map z6.enc)) rfl rfl) ?_
  obtain rfl:=zU h
  refine z4R [.cell 2 37,.cell 3 29] [(.slice none 0 0),.agg #[.int .i64 0,.int .i64 2]] [3] [row (.slice none 0 0) 3 (([]:List z6).map z6.enc)] Tryz.results15 rfl (rescons (z52 1 Tryz.isAgg37 rfl rfl) (rescons (z5H 2 Tryz.isAgg29 Tryz.sizeOf29 rfl rfl rfl) resnil)) (by decide) rfl ?_
  exact ⟨_,rfl,rfl⟩
 ·refine run_skip ?_
  refine ze ?_
  refine ys ?_
  refine zt (t_box rfl) ?_
  rintro _ _ ⟨b4,rfl,rfl⟩
  refine ys ?_
  refine zc ?_
  refine rj [0,2,3,4] [0,1,2,3] ?_
  refine z8 ?_
  refine al fun b5=>?_
  refine ys ?_
  refine za ?_
  refine ys ?_
  refine zet (wn rfl) rfl rfl rfl rfl ?_
  refine za ?_
  obtain ⟨r6,hr7,h⟩:=zJ h
  refine zt (tc [(0,0)] Tryz.call42 (zi9 hr7)) ?_
  rintro v8 _ ⟨_,⟨_,rfl,rfl⟩,rfl⟩
  refine ys ?_
  refine zd ?_
  refine jr h [2,3] [0,0,3,1] (fun s (g:Value)=>[]) (fun s g=>[box b1 [g],row g 3 (s.map z6.enc)]) (fun _ h ho12 _ hL13=>?_) ?_
  ·refine zh ?_
   refine ys ?_
   refine cl0 [(3,2)] Tryz.call43 (fun h=>z5u h) h (fun r15 h=>?_)
   refine zd ?_
   refine zF ?_
   refine z3x (nilrow 3) ?_
   refine z3x (retell 7 (g:=row (.slice none 0 0) 3 (([]:List z6).map z6.enc)) rfl rfl) ?_
   refine lo h [0,2,3,4,5,6] [0,0,3,0,0,6,1] (fun s (g:Value)=>[]) (fun s g=>[box b1 [g],row g 3 (s.1.map z6.enc),box b4 [.string (bs s.2.1),.int .i64 s.2.2.1],box b5 [.int .i64 s.2.2.2]]) _ [1,7,2,6,4,5,0] ?_
   rintro ⟨x_17,x_18,x_19,_⟩ _ _ h _ hgo23 hstop24
   refine rs ?_
   refine zH ?_
   refine zh ?_
   refine ys ?_
   refine zd ?_
   refine rc h (fun _ h=>?_) (fun _ h=>?_)
   ·refine run_skip ?_
    refine zD ?_
    refine jr h [0,2,3,4,5,6] [0,0,3,0,0,6,7] (fun s (g:Value)=>[]) (fun s g=>[box b1 [g],row g 3 (s.1.map z6.enc),box b4 [.string (bs s.2.1),.int .i64 s.2.2],box b5 [.int .i64 x_19]]) (fun _ h ho32 _ hL33=>?_) ?_
    ·refine zF ?_
     refine zh ?_
     refine ys ?_
     refine zc ?_
     refine rj [0,2,3,4,5,6] [0,1,2,3,4,5,6] ?_
     refine z8 ?_
     refine ys ?_
     refine zd ?_
     refine zF ?_
     refine ziu 60 ?_
     refine zh ?_
     refine ys ?_
     refine zc ?_
     refine z3M rfl ?_
     refine run_skip ?_
     refine zg ?_
     refine zF ?_
     refine zh ?_
     refine ys ?_
     refine al fun b35=>?_
     refine ys ?_
     refine zc ?_
     refine rj [0,2,3,4,5,6,34,35,36,8] [0,1,2,3,4,5,6,7] ?_
     refine zcY (fun L36 hL37=>?_)
     refine rf [1,1,1,1,1,1,1,1] fun hS=>?_
     refine aq [0,1,2,3] ?_
     obtain ⟨c38,hzc38,hlc38,hxc38,h⟩:=zP h
     refine aq [4] ?_
     refine al0 5 [] Tryz.call90 (fun h=>zcw h) h (fun r39 h=>?_)
     refine z1K (by kernel_rfl) ?_
     refine zay hL37 ?_
     refine zD ?_
     refine rc h (fun _ h=>?_) (fun _ h=>?_)
     ·refine zh ?_
      refine ys ?_
      obtain ⟨r42,hr43,h⟩:=zJ h
      rcases r42 with q44 | e45
      rotate_left
      ·replace h:=z32 h
       refine z6M (wn rfl) rfl (tp [(3,2),(6,0)] Tryz.call91 (z5L hr43)) (by rintro _ _ ⟨_,⟨_,hq,_⟩,_⟩; cases hq) ?_
       rintro _ ⟨_,he,rfl⟩
       obtain rfl:=Pn.pan.inj he
       refine zaS Tryz.call41 (zf3 b5 b1 b2 e45 x_19 4 0 2 rfl rfl rfl (by decide)) ?_
       refine z1k (nilrow 3) ?_
       refine z1k (retell 8 (g:=row (.slice none 0 0) 3 (([]:List z6).map z6.enc)) rfl rfl) ?_
       obtain rfl:=zU h
       obtain rfl:=zM ho32
       skip
       obtain rfl:=hstop24 _ rfl
       skip
       obtain rfl:=zM ho12
       refine z4R [.cell 2 37,.cell 3 29] [(.slice none 0 0),.agg #[.int .i64 x_19,.int .i64 e45]] [8] [row (.slice none 0 0) 3 (([]:List z6).map z6.enc)] Tryz.results15 rfl (rescons (z52 0 Tryz.isAgg37 rfl rfl) (rescons (z5H 2 Tryz.isAgg29 Tryz.sizeOf29 rfl rfl rfl) resnil)) (by decide) rfl ?_
       exact ⟨_,rfl,rfl⟩
      replace h:=z33 h
      refine zt (tc [(3,2),(6,0)] Tryz.call91 (z5a (z5L hr43))) ?_
      rintro _ _ ⟨_,⟨rfl,rfl⟩,rfl⟩
      refine al fun b46=>?_
      refine ys ?_
      refine zc ?_
      refine rj [0,2,3,4,5,6,9] [0,1,2,4,5,6,8,9] ?_
      refine z8 ?_
      refine ys ?_
      refine za ?_
      refine ys ?_
      refine zt (t_lit [.agg #[.int .i64 q44.1.Kind,.int .i64 x_19,.string (bs q44.1.S)]] Tryz.runUnderlying37 Tryz.sizeOf41 Tryz.zeroValue41 rfl (by decide) (by decide) rfl (by simp [Value.cells,boxP])) ?_
      rintro v47 _ ⟨rfl,_⟩
      refine zB (retell 8 (g:=row v47 3 (([(z6.mk q44.1.Kind x_19 q44.1.S)]:List z6).map z6.enc)) rfl rfl) ?_
      obtain ⟨hr49,h⟩:=zX h
      refine zt (z1U (es:=3) 1 rfl Tryz.runUnderlying37 rfl Tryz.runUnderlying37 (.inr ⟨_,rfl⟩) Tryz.typeInfo41 rfl (by decide) Tryz.zeroValue41 rfl rfl rfl rfl (z1C 8 rfl z1d (z42 z6.enc_ok _)) (z1T hr49 (by decide)) (z2H hr49)) ?_
      rintro v48 _ rfl
      refine zB (retell 1 (g:=row v48 3 ((x_17++([(z6.mk q44.1.Kind x_19 q44.1.S)]:List z6)).map z6.enc)) rfl (congrArg (row _ _) List.map_append.symm)) ?_
      refine ys ?_
      refine zd ?_
      refine z1h _ rfl ?_
      refine zS ?_
      exact gj hL33 _ [0,1,2,6,3,4,5] h
     ·refine run_skip ?_
      refine zS ?_
      refine zf ?_
      refine ys ?_
      refine zr ?_
      refine z9k ?_
      refine zH ?_
      refine rj [0,2,3,4,5,6,34,35,36] [0,1,2,3,4,5,6] ?_
      refine z8 ?_
      refine ys ?_
      refine zc ?_
      refine z3M rfl ?_
      refine run_skip ?_
      refine zg ?_
      refine zF ?_
      refine zh ?_
      refine ys ?_
      refine al fun b51=>?_
      refine ys ?_
      refine zc ?_
      refine zcY (fun L52 hL53=>?_)
      refine rf [1,1,1,1,1,1,1,1] fun hS=>?_
      refine aq [0,1,2,3] ?_
      obtain ⟨c54,hzc54,hlc54,hxc54,h⟩:=zP h
      refine aq [4] ?_
      refine al0 5 [] Tryz.call92 (fun h=>za0 h) h (fun r55 h=>?_)
      refine z1K (by kernel_rfl) ?_
      refine zay hL53 ?_
      refine zD ?_
      refine rc h (fun _ h=>?_) (fun _ h=>?_)
      ·refine zH ?_
       refine rj [0,2,3,4,5,6,8] [0,1,2,3,4,5,6,7] ?_
       refine z8 ?_
       refine ys ?_
       obtain ⟨r58,hr59,h⟩:=zJ h
       rcases r58 with q60 | e61
       rotate_left
       ·replace h:=z32 h
        refine z6M (wn rfl) rfl (tp [(3,2)] Tryz.call93 (z5n hr59)) (by rintro _ _ ⟨_,⟨_,hq,_⟩,_⟩; cases hq) ?_
        rintro _ ⟨_,he,rfl⟩
        obtain rfl:=Pn.pan.inj he
        refine zaS Tryz.call41 (zf3 b5 b1 b2 e61 x_19 4 0 2 rfl rfl rfl (by decide)) ?_
        refine z1k (nilrow 3) ?_
        refine z1k (retell 8 (g:=row (.slice none 0 0) 3 (([]:List z6).map z6.enc)) rfl rfl) ?_
        obtain rfl:=zU h
        obtain rfl:=zM ho32
        skip
        obtain rfl:=hstop24 _ rfl
        skip
        obtain rfl:=zM ho12
        refine z4R [.cell 2 37,.cell 3 29] [(.slice none 0 0),.agg #[.int .i64 x_19,.int .i64 e61]] [8] [row (.slice none 0 0) 3 (([]:List z6).map z6.enc)] Tryz.results15 rfl (rescons (z52 0 Tryz.isAgg37 rfl rfl) (rescons (z5H 2 Tryz.isAgg29 Tryz.sizeOf29 rfl rfl rfl) resnil)) (by decide) rfl ?_
        exact ⟨_,rfl,rfl⟩
       replace h:=z33 h
       refine zt (tc [(3,2)] Tryz.call93 (z5a (z5n hr59))) ?_
       rintro _ _ ⟨_,⟨rfl,rfl⟩,rfl⟩
       refine al fun b62=>?_
       refine ys ?_
       refine za ?_
       refine ys ?_
       refine zc ?_
       refine rj [0,2,3,4,5,6,9] [0,1,2,4,5,6,8,9] ?_
       refine z8 ?_
       refine ys ?_
       refine zt (t_lit [.agg #[.int .i64 q60.1.Kind,.int .i64 x_19,.string (bs q60.1.S)]] Tryz.runUnderlying37 Tryz.sizeOf41 Tryz.zeroValue41 rfl (by decide) (by decide) rfl (by simp [Value.cells,boxP])) ?_
       rintro v63 _ ⟨rfl,_⟩
       refine zB (retell 8 (g:=row v63 3 (([(z6.mk q60.1.Kind x_19 q60.1.S)]:List z6).map z6.enc)) rfl rfl) ?_
       obtain ⟨hr65,h⟩:=zX h
       refine zt (z1U (es:=3) 1 rfl Tryz.runUnderlying37 rfl Tryz.runUnderlying37 (.inr ⟨_,rfl⟩) Tryz.typeInfo41 rfl (by decide) Tryz.zeroValue41 rfl rfl rfl rfl (z1C 8 rfl z1d (z42 z6.enc_ok _)) (z1T hr65 (by decide)) (z2H hr65)) ?_
       rintro v64 _ rfl
       refine zB (retell 1 (g:=row v64 3 ((x_17++([(z6.mk q60.1.Kind x_19 q60.1.S)]:List z6)).map z6.enc)) rfl (congrArg (row _ _) List.map_append.symm)) ?_
       refine ys ?_
       refine zd ?_
       refine z1h _ rfl ?_
       refine zS ?_
       exact gj hL33 _ [0,1,2,6,3,4,5] h
      ·refine run_skip ?_
       refine zS ?_
       refine zD ?_
       refine rj [0,2,3,4,5,6,34,35,36] [0,1,2,3,4,5,6] ?_
       refine z8 ?_
       refine ys ?_
       refine zr ?_
       refine z9k ?_
       refine zh ?_
       refine ys ?_
       refine zc ?_
       refine z3M rfl ?_
       refine run_skip ?_
       refine zg ?_
       refine zF ?_
       refine zh ?_
       refine ys ?_
       refine al fun b67=>?_
       refine ys ?_
       refine zc ?_
       refine zcY (fun L68 hL69=>?_)
       refine rf [1,1,1,1,1,1,1,1] fun hS=>?_
       refine aq [0,1,2,3] ?_
       obtain ⟨c70,hzc70,hlc70,hxc70,h⟩:=zP h
       refine aq [4] ?_
       refine al0 5 [] Tryz.call94 (fun h=>zep h) h (fun r71 h=>?_)
       refine z1K (by kernel_rfl) ?_
       refine zay hL69 ?_
       refine zD ?_
       refine rc h (fun _ h=>?_) (fun _ h=>?_)
       ·refine zH ?_
        refine rj [0,2,3,4,5,6,8] [0,1,2,3,4,5,6,7] ?_
        refine z8 ?_
        refine ys ?_
        obtain ⟨r74,hr75,h⟩:=zJ h
        rcases r74 with q76 | e77
        rotate_left
        ·replace h:=z32 h
         refine z6M (wn rfl) rfl (tp [(3,2)] Tryz.call95 (z5N hr75)) (by rintro _ _ ⟨_,⟨_,hq,_⟩,_⟩; cases hq) ?_
         rintro _ ⟨_,he,rfl⟩
         obtain rfl:=Pn.pan.inj he
         refine zaS Tryz.call41 (zf3 b5 b1 b2 e77 x_19 4 0 2 rfl rfl rfl (by decide)) ?_
         refine z1k (nilrow 3) ?_
         refine z1k (retell 8 (g:=row (.slice none 0 0) 3 (([]:List z6).map z6.enc)) rfl rfl) ?_
         obtain rfl:=zU h
         obtain rfl:=zM ho32
         skip
         obtain rfl:=hstop24 _ rfl
         skip
         obtain rfl:=zM ho12
         refine z4R [.cell 2 37,.cell 3 29] [(.slice none 0 0),.agg #[.int .i64 x_19,.int .i64 e77]] [8] [row (.slice none 0 0) 3 (([]:List z6).map z6.enc)] Tryz.results15 rfl (rescons (z52 0 Tryz.isAgg37 rfl rfl) (rescons (z5H 2 Tryz.isAgg29 Tryz.sizeOf29 rfl rfl rfl) resnil)) (by decide) rfl ?_
         exact ⟨_,rfl,rfl⟩
        replace h:=z33 h
        refine zt (tc [(3,2)] Tryz.call95 (z5a (z5N hr75))) ?_
        rintro _ _ ⟨_,⟨rfl,rfl⟩,rfl⟩
        refine al fun b78=>?_
        refine ys ?_
        refine za ?_
        refine ys ?_
        refine zc ?_
        refine rj [0,2,3,4,5,6,9] [0,1,2,4,5,6,8,9] ?_
        refine z8 ?_
        refine ys ?_
        refine zt (t_lit [.agg #[.int .i64 q76.1.Kind,.int .i64 x_19,.string (bs q76.1.S)]] Tryz.runUnderlying37 Tryz.sizeOf41 Tryz.zeroValue41 rfl (by decide) (by decide) rfl (by simp [Value.cells,boxP])) ?_
        rintro v79 _ ⟨rfl,_⟩
        refine zB (retell 8 (g:=row v79 3 (([(z6.mk q76.1.Kind x_19 q76.1.S)]:List z6).map z6.enc)) rfl rfl) ?_
        obtain ⟨hr81,h⟩:=zX h
        refine zt (z1U (es:=3) 1 rfl Tryz.runUnderlying37 rfl Tryz.runUnderlying37 (.inr ⟨_,rfl⟩) Tryz.typeInfo41 rfl (by decide) Tryz.zeroValue41 rfl rfl rfl rfl (z1C 8 rfl z1d (z42 z6.enc_ok _)) (z1T hr81 (by decide)) (z2H hr81)) ?_
        rintro v80 _ rfl
        refine zB (retell 1 (g:=row v80 3 ((x_17++([(z6.mk q76.1.Kind x_19 q76.1.S)]:List z6)).map z6.enc)) rfl (congrArg (row _ _) List.map_append.symm)) ?_
        refine ys ?_
        refine zd ?_
        refine z1h _ rfl ?_
        refine zS ?_
        exact gj hL33 _ [0,1,2,6,3,4,5] h
       ·refine run_skip ?_
        refine zS ?_
        refine zD ?_
        refine rj [0,2,3,4,5,6,34,35,36] [0,1,2,3,4,5,6] ?_
        refine z8 ?_
        refine ys ?_
        refine zr ?_
        refine z9k ?_
        refine zh ?_
        refine ys ?_
        refine zc ?_
        refine z3M rfl ?_
        refine run_skip ?_
        refine zg ?_
        refine zF ?_
        refine zh ?_
        refine ys ?_
        refine al fun b83=>?_
        refine ys ?_
        refine zc ?_
        refine zcY (fun L84 hL85=>?_)
        refine rf [1,1,1,1,1,1,1,1] fun hS=>?_
        refine aq [0,1,2,3] ?_
        obtain ⟨c86,hzc86,hlc86,hxc86,h⟩:=zP h
        refine aq [4] ?_
        refine al0 5 [] Tryz.call96 (fun h=>zeq h) h (fun r87 h=>?_)
        refine z1K (by kernel_rfl) ?_
        refine zay hL85 ?_
        refine zD ?_
        refine rc h (fun _ h=>?_) (fun _ h=>?_)
        ·refine zH ?_
         refine rj [0,2,3,4,5,6,8] [0,1,2,3,4,5,6,7] ?_
         refine z8 ?_
         refine ys ?_
         obtain ⟨r90,hr91,h⟩:=zJ h
         rcases r90 with q92 | e93
         rotate_left
         ·replace h:=z32 h
          refine z6M (wn rfl) rfl (tp [(3,2),(6,0)] Tryz.call97 (z5M hr91)) (by rintro _ _ ⟨_,⟨_,hq,_⟩,_⟩; cases hq) ?_
          rintro _ ⟨_,he,rfl⟩
          obtain rfl:=Pn.pan.inj he
          refine zaS Tryz.call41 (zf3 b5 b1 b2 e93 x_19 4 0 2 rfl rfl rfl (by decide)) ?_
          refine z1k (nilrow 3) ?_
          refine z1k (retell 8 (g:=row (.slice none 0 0) 3 (([]:List z6).map z6.enc)) rfl rfl) ?_
          obtain rfl:=zU h
          obtain rfl:=zM ho32
          skip
          obtain rfl:=hstop24 _ rfl
          skip
          obtain rfl:=zM ho12
          refine z4R [.cell 2 37,.cell 3 29] [(.slice none 0 0),.agg #[.int .i64 x_19,.int .i64 e93]] [8] [row (.slice none 0 0) 3 (([]:List z6).map z6.enc)] Tryz.results15 rfl (rescons (z52 0 Tryz.isAgg37 rfl rfl) (rescons (z5H 2 Tryz.isAgg29 Tryz.sizeOf29 rfl rfl rfl) resnil)) (by decide) rfl ?_
          exact ⟨_,rfl,rfl⟩
         replace h:=z33 h
         refine zt (tc [(3,2),(6,0)] Tryz.call97 (z5a (z5M hr91))) ?_
         rintro _ _ ⟨_,⟨rfl,rfl⟩,rfl⟩
         refine al fun b94=>?_
         refine ys ?_
         refine za ?_
         refine ys ?_
         refine zc ?_
         refine rj [0,2,3,4,5,6,9] [0,1,2,4,5,6,8,9] ?_
         refine z8 ?_
         refine ys ?_
         refine zt (t_lit [.agg #[.int .i64 q92.1.Kind,.int .i64 x_19,.string (bs q92.1.S)]] Tryz.runUnderlying37 Tryz.sizeOf41 Tryz.zeroValue41 rfl (by decide) (by decide) rfl (by simp [Value.cells,boxP])) ?_
         rintro v95 _ ⟨rfl,_⟩
         refine zB (retell 8 (g:=row v95 3 (([(z6.mk q92.1.Kind x_19 q92.1.S)]:List z6).map z6.enc)) rfl rfl) ?_
         obtain ⟨hr97,h⟩:=zX h
         refine zt (z1U (es:=3) 1 rfl Tryz.runUnderlying37 rfl Tryz.runUnderlying37 (.inr ⟨_,rfl⟩) Tryz.typeInfo41 rfl (by decide) Tryz.zeroValue41 rfl rfl rfl rfl (z1C 8 rfl z1d (z42 z6.enc_ok _)) (z1T hr97 (by decide)) (z2H hr97)) ?_
         rintro v96 _ rfl
         refine zB (retell 1 (g:=row v96 3 ((x_17++([(z6.mk q92.1.Kind x_19 q92.1.S)]:List z6)).map z6.enc)) rfl (congrArg (row _ _) List.map_append.symm)) ?_
         refine ys ?_
         refine zd ?_
         refine z1h _ rfl ?_
         refine zS ?_
         exact gj hL33 _ [0,1,2,6,3,4,5] h
        ·refine run_skip ?_
         refine zS ?_
         refine zD ?_
         refine rj [0,2,3,4,5,6,34,35,36] [0,1,2,3,4,5,6] ?_
         refine z8 ?_
         refine ys ?_
         refine zr ?_
         refine z9k ?_
         refine zh ?_
         refine ys ?_
         refine zc ?_
         refine z53 rfl ?_
         refine z1h _ rfl ?_
         refine zS ?_
         exact gj hL33 _ [0,1,2,3,4,5,6] h
    rintro ⟨x_27,x_28,x_29⟩ v30 h
    refine rs ?_
    refine z8 ?_
    refine ys ?_
    refine cl0 [(3,2)] Tryz.call43 (fun h=>z5u h) h (fun r99 h=>?_)
    refine zr ?_
    exact gj hgo23 _ [0,1,2,7,4,5,6] h
   ·refine z1h _ rfl ?_
    exact gk hL13 hstop24 _ [0,1,2,6] h
  rintro x_9 v10 h
  refine rs ?_
  refine zh ?_
  refine ys ?_
  refine zd ?_
  refine zA ?_
  refine zeh Tryz.call41 (znn b5 b1 b2 _) ?_
  obtain rfl:=zU h
  refine z4R [.cell 2 37,.cell 3 29] [v10,.agg #[.int .i64 0,.int .i64 0]] [1] [row v10 3 (x_9.map z6.enc)] Tryz.results15 rfl (rescons (z52 0 Tryz.isAgg37 rfl rfl) (rescons (z5H 2 Tryz.isAgg29 Tryz.sizeOf29 rfl rfl rfl) resnil)) (by decide) rfl ?_
  exact ⟨_,rfl,rfl⟩
def z7A (t_0:z6) (a_1:Int):Option (Bool×Int):=
 cond (decide (40<a_1))
  (some (true,a_1))
  (bindJ (S := Int)
   (cond (decide (t_0.Kind = 5))
    (bindJ (S := Bool)
     (cond (decide (t_0.S = [40]))
      (some (.go (decide (t_0.S=[40]))))
      (some (.go (decide (t_0.S=[123])))))
    (fun s_9 =>
     cond s_9
      (some (.go (IntKind.i64.wrap (a_1+1))))
      (bindJ (S := Bool)
       (cond (decide (t_0.S = [41]))
        (some (.go (decide (t_0.S=[41]))))
        (some (.go (decide (t_0.S=[125])))))
      (fun s_16 =>
       cond s_16
        (some (.go (IntKind.i64.wrap (a_1 - 1))))
        (some (.go a_1))))))
    (some (.go a_1)))
  (fun x_3 =>
   some (false,x_3)))
theorem zdV {t_0:z6} {a_1:Int} {a_1b:Nat} {r:Bool×Int} (h:z7A t_0 a_1=some r) :
  Meets Tryz.prog 141 [.agg #[.int .i64 t_0.Kind,.int .i64 t_0.At,.string (bs t_0.S)],boxP a_1b 0] [box a_1b [.int .i64 a_1]] (fun v G=>v = .bool r.1∧G=[box a_1b [.int .i64 r.2]]):=by
 refine zN Tryz.func141 rfl Tryz.ntmps141 rfl (fun w0 o0=>?_)
 refine zh ?_
 refine zt (t_box rfl) ?_
 rintro _ _ ⟨b1,rfl,rfl⟩
 refine ys ?_
 refine zc ?_
 refine zh ?_
 refine ys ?_
 refine zd ?_
 refine rc h (fun _ h=>?_) (fun _ h=>?_)
 ·refine zh ?_
  refine ys ?_
  refine zd ?_
  refine zA ?_
  exact fs [3] [0] Tryz.results141 h
 ·refine run_skip ?_
  refine zD ?_
  refine jr h [] [0] (fun s (g:Unit)=>[]) (fun s g=>[box a_1b [.int .i64 s]]) (fun _ h _ _ hL6=>?_) ?_
  ·refine zh ?_
   refine ys ?_
   refine zd ?_
   refine rc h (fun _ h=>?_) (fun _ h=>?_)
   ·refine zh ?_
    refine ys ?_
    refine zd ?_
    refine zF ?_
    refine jr h [1,10] [1] (fun s (g:Unit)=>[(11,.bool s)]) (fun s g=>[]) (fun _ h _ _ hL12=>?_) ?_
    ·refine zH ?_
     refine rj [1,10] [0] ?_
     refine z8 ?_
     refine ys ?_
     refine zd ?_
     refine rc h (fun _ h=>?_) (fun _ h=>?_)
     ·refine run_skip ?_
      exact gj hL12 () [0] h
     ·refine z8 ?_
      refine ys ?_
      refine zr ?_
      exact gj hL12 () [0] h
    rintro s_9 _ h
    refine rs ?_
    refine rc h (fun _ h=>?_) (fun _ h=>?_)
    ·refine z8 ?_
     refine ys ?_
     refine zr ?_
     refine zS ?_
     exact gj hL6 () [0] h
    ·refine jr h [1] [1] (fun s (g:Unit)=>[(16,.bool s)]) (fun s g=>[]) (fun _ h _ _ hL19=>?_) ?_
     ·refine zh ?_
      refine ys ?_
      refine zd ?_
      refine rc h (fun _ h=>?_) (fun _ h=>?_)
      ·refine run_skip ?_
       exact gj hL19 () [0] h
      ·refine z8 ?_
       refine ys ?_
       refine zr ?_
       exact gj hL19 () [0] h
     rintro s_16 _ h
     refine rs ?_
     refine rc h (fun _ h=>?_) (fun _ h=>?_)
     ·refine z8 ?_
      refine ys ?_
      refine zr ?_
      refine zS ?_
      exact gj hL6 () [0] h
     ·refine run_skip ?_
      refine zS ?_
      exact gj hL6 () [0] h
   ·refine run_skip ?_
    exact gj hL6 () [0] h
  rintro x_3 _ h
  refine rs ?_
  refine zh ?_
  refine ys ?_
  refine zd ?_
  refine zA ?_
  exact fs [3] [0] Tryz.results141 h
def z1m (s_0:(List z6)):(Int×Int)→Option (Lp (Int×Int) (Lp (Int) (Int×Int))):=
 fun (s_6,x_7)=>
  cond (decide (s_6<(s_0.length:Int)))
   (idx s_0 s_6 fun x13=>
   obind (z7A x13 x_7) fun r14=>
   cond r14.1
    (some (.stop (.stop (s_6,r14.2))))
    (some (.go ((IntKind.i64.wrap (s_6+1)),r14.2))))
   (some (.stop (.go x_7)))
def z2c (n:Nat) (s_0:(List z6)) (f_1_0:Int):Option (Int×Int):=
 bindJ (S:=Int)
  (iter (z1m s_0) n (0,f_1_0))
 (fun x_1 =>
  some ((-1),x_1))
theorem z4j {n:Nat} {s_0:(List z6)} {f_1_0:Int} {s_0v:Value} {f_1_0b:Nat} {r:Int×Int} (h:z2c n s_0 f_1_0=some r) :
  Meets Tryz.prog 140 [s_0v,.func (.func 141) #[] #[boxP f_1_0b 0]] [ro s_0v 3 (s_0.map z6.enc),box f_1_0b [.int .i64 f_1_0]] (fun v G=>v = .int .i64 r.1∧G=[box f_1_0b [.int .i64 r.2]]):=by
 refine zN Tryz.func140 rfl Tryz.ntmps140 rfl (fun w0 o0=>?_)
 refine zh ?_
 refine ys ?_
 refine zd ?_
 refine jr h [] [0] (fun s (g:Unit)=>[]) (fun s g=>[box f_1_0b [.int .i64 s]]) (fun _ h ho3 _ hL4=>?_) ?_
 ·refine zh ?_
  refine ys ?_
  refine zd ?_
  refine zF ?_
  refine lo h [0,1,7] [1,0] (fun s (g:Unit)=>[(8,.int .i64 s.1)]) (fun s g=>[box f_1_0b [.int .i64 s.2]]) () [0,1] ?_
  rintro ⟨_,_⟩ _ _ h _ hgo9 hstop10
  refine rs ?_
  refine zh ?_
  refine ys ?_
  refine zc ?_
  refine rc h (fun _ h=>?_) (fun _ h=>?_)
  ·refine run_skip ?_
   refine zg ?_
   refine zF ?_
   refine zh ?_
   refine ys ?_
   refine za ?_
   refine ys ?_
   obtain ⟨x13,hzx13,hlx13,hxx13,h⟩:=zP h
   refine ys ?_
   refine cl0 [(1,2)] Tryz.call141 (fun h=>zdV h) h (fun r14 h=>?_)
   refine zd ?_
   refine rc h (fun _ h=>?_) (fun _ h=>?_)
   ·refine zH ?_
    refine rj [5] [2] ?_
    refine z8 ?_
    refine ys ?_
    refine zd ?_
    refine zA ?_
    obtain rfl:=zU h
    obtain rfl:=hstop10 _ rfl
    skip
    obtain rfl:=zM ho3
    exact ft [4] [0] Tryz.results140
   ·refine run_skip ?_
    refine zS ?_
    refine zD ?_
    refine rj [8,0,1,7] [0,2] ?_
    refine z8 ?_
    refine ys ?_
    refine zr ?_
    exact gj hgo9 () [0,1] h
  ·refine z1h _ rfl ?_
   exact gk hL4 hstop10 () [1] h
 rintro x_1 _ h
 refine rs ?_
 refine zh ?_
 refine ys ?_
 refine zd ?_
 refine zA ?_
 exact fs [4] [0] Tryz.results140 h
def z83 (n:Nat) (l_0:(List z6)):Option (Int):=
 obind (z2c n l_0 0) fun r2=>
 some r2.1
theorem z9M {n:Nat}:K4 (z83 n) 72:=by
 intro l_0 l_0v r h
 refine zN Tryz.func72 rfl Tryz.ntmps72 rfl (fun w0 o0=>?_)
 refine zh ?_
 refine ys ?_
 refine za ?_
 refine al fun b1=>?_
 refine ys ?_
 refine za ?_
 refine ys ?_
 refine cl0 [(0,0),(1,2)] Tryz.call140 (fun h=>z4j h) h (fun r2 h=>?_)
 refine ys ?_
 refine zd ?_
 refine zA ?_
 exact fs [2] [] Tryz.results72 h
def z1a (r_0:z7):Option (z6):=
 cond (decide (r_0.i_<(r_0.l_.length:Int)))
  (idx r_0.l_ r_0.i_ fun x3=>
  some x3)
  (some (z6.mk 0 0 []))
theorem z1e {r_0:z7} {r_0b:Nat} {r_0_l_v:Value} {r:z6} (h:z1a r_0=some r) :
  Meets Tryz.prog 75 [boxP r_0b 0] [ro r_0_l_v 3 (r_0.l_.map z6.enc),box r_0b [r_0_l_v,.int .i64 r_0.i_,.int .i64 r_0.at_]] (fun v G=>v = .agg #[.int .i64 r.Kind,.int .i64 r.At,.string (bs r.S)]∧G=[box r_0b [r_0_l_v,.int .i64 r_0.i_,.int .i64 r_0.at_]]):=by
 refine zN Tryz.func75 rfl Tryz.ntmps75 rfl (fun w0 o0=>?_)
 refine zh ?_
 refine al fun b1=>?_
 refine zc ?_
 refine zH ?_
 refine z4U (by kernel_rfl) (by kernel_rfl) ?_
 refine yu ?_
 refine z2m ?_
 refine zD ?_
 refine rc h (fun _ h=>?_) (fun _ h=>?_)
 ·refine zH ?_
  refine rj [0,2] [0,1,2] ?_
  refine rf [1,1] fun hS=>?_
  refine aq [0,1,2,3,4,5,6,7] ?_
  obtain ⟨x3,hzx3,hlx3,hxx3,h⟩:=zP h
  refine aq [8,9] ?_
  refine ast 10 ?_
  refine z1K (by kernel_rfl) ?_
  refine zD ?_
  refine zA ?_
  exact fr [1] Tryz.results75 h
 ·refine run_skip ?_
  refine zg ?_
  refine rj [2] [0,1,2] ?_
  refine z8 ?_
  refine ys ?_
  refine zd ?_
  refine zA ?_
  exact fr [1] Tryz.results75 h
def z3v (r_0:z7) (kind_1:Int) (s_2:(List UInt8)):Option (Bool):=
 obind (z1a r_0) fun r1=>
 some (decide (r1.Kind=kind_1) && decide (r1.S=s_2))
theorem z5P {r_0:z7} {kind_1:Int} {s_2:(List UInt8)} {r_0b:Nat} {r_0_l_v:Value} {r:Bool} (h:z3v r_0 kind_1 s_2=some r) :
  Meets Tryz.prog 142 [boxP r_0b 0,.int .i64 kind_1,.string (bs s_2)] [ro r_0_l_v 3 (r_0.l_.map z6.enc),box r_0b [r_0_l_v,.int .i64 r_0.i_,.int .i64 r_0.at_]] (fun v G=>v = .bool r∧G=[box r_0b [r_0_l_v,.int .i64 r_0.i_,.int .i64 r_0.at_]]):=by
 refine zN Tryz.func142 rfl Tryz.ntmps142 rfl (fun w0 o0=>?_)
 refine zh ?_
 refine ys ?_
 refine za ?_
 refine ys ?_
 refine cl0 [(0,0),(1,2)] Tryz.call75 (fun h=>z1e h) h (fun r1 h=>?_)
 refine al fun b3=>?_
 refine ys ?_
 refine za ?_
 refine ys ?_
 refine oq 5 14 19 [] [0,2] (decide (r1.Kind=kind_1) && decide (r1.S=s_2)) ?_
 refine ys ?_
 refine zd ?_
 refine zA ?_
 exact fs [6] [1] Tryz.results142 h
def z10 (r_0:z7) (kind_1:Int) (s_2:(List UInt8)):Option (Bool×z7):=
 obind (z3v r_0 kind_1 s_2) fun r1=>
 bindJ (S:=Int)
  (cond r1
   (some (.go (IntKind.i64.wrap (r_0.i_+1))))
   (some (.go r_0.i_)))
 (fun x_3 =>
  some (r1,(z7.mk r_0.l_ x_3 r_0.at_)))
theorem z13 {r_0:z7} {kind_1:Int} {s_2:(List UInt8)} {r_0b:Nat} {r_0_l_v:Value} {r:Bool×z7} (h:z10 r_0 kind_1 s_2=some r) :
  Meets Tryz.prog 76 [boxP r_0b 0,.int .i64 kind_1,.string (bs s_2)] [ro r_0_l_v 3 (r_0.l_.map z6.enc),box r_0b [r_0_l_v,.int .i64 r_0.i_,.int .i64 r_0.at_]] (fun v G=>∃ v0,v = .bool r.1∧G=[ro v0 3 (r.2.l_.map z6.enc),box r_0b [v0,.int .i64 r.2.i_,.int .i64 r.2.at_]]):=by
 refine zN Tryz.func76 rfl Tryz.ntmps76 rfl (fun w0 o0=>?_)
 refine zh ?_
 refine ys ?_
 refine za ?_
 refine ys ?_
 refine cl0 [(0,0),(1,2)] Tryz.call142 (fun h=>z5P h) h (fun r1 h=>?_)
 refine ys ?_
 refine zd ?_
 refine jr h [7] [0,1] (fun s (g:Unit)=>[]) (fun s g=>[box r_0b [r_0_l_v,.int .i64 s,.int .i64 r_0.at_]]) (fun _ h _ _ hL6=>?_) ?_
 ·refine zh ?_
  refine ys ?_
  refine zd ?_
  refine rc h (fun _ h=>?_) (fun _ h=>?_)
  ·refine z8 ?_
   refine ys ?_
   refine zr ?_
   exact gj hL6 () [2,0] h
  ·refine run_skip ?_
   exact gj hL6 () [2,0] h
 rintro x_3 _ h
 refine rs ?_
 refine zh ?_
 refine ys ?_
 refine zd ?_
 refine zA ?_
 exact fs [6] [1,0] Tryz.results76 h
def z16 (r_0:z7):Option (Pn (Unit)):=
 bindJ (S:=Int)
  (cond (decide (r_0.i_ < (r_0.l_.length : Int)))
   (idx r_0.l_ r_0.i_ fun x7=>
   some (.go x7.At))
   (some (.go r_0.at_)))
 (fun at_1 =>
  some (.pan at_1))
theorem z15 {r_0:z7} {r_0b:Nat} {r_0_l_v:Value} {r:Pn (Unit)} (h:z16 r_0=some r) :
  z4t Tryz.prog 74 [boxP r_0b 0] [ro r_0_l_v 3 (r_0.l_.map z6.enc),box r_0b [r_0_l_v,.int .i64 r_0.i_,.int .i64 r_0.at_]] (fun v G=>∃ q,r = .ret q∧(v = .tuple #[]∧G=[box r_0b [r_0_l_v,.int .i64 r_0.i_,.int .i64 r_0.at_]])) (fun v=>∃ e,r = .pan e∧v = .iface 29 (.agg #[.int .i64 e,.int .i64 180])):=by
 refine z1y Tryz.func74 rfl Tryz.ntmps74 rfl (fun w0 o0=>?_)
 refine zh ?_
 refine ys ?_
 refine zd ?_
 refine jr h [] [2,1] (fun s (g:Unit)=>[(2,.int .i64 s)]) (fun s g=>[]) (fun _ h _ _ hL4=>?_) ?_
 ·refine zH ?_
  refine z4U (by kernel_rfl) (by kernel_rfl) ?_
  refine yu ?_
  refine z2m ?_
  refine zD ?_
  refine rc h (fun _ h=>?_) (fun _ h=>?_)
  ·refine rj [0] [0,1] ?_
   refine z4U (by kernel_rfl) (by kernel_rfl) ?_
   refine yu ?_
   obtain ⟨x7,hzx7,hlx7,hxx7,h⟩:=zP h
   refine yu ?_
   refine z2m ?_
   exact gj hL4 () [1,0] h
  ·refine run_skip ?_
   exact gj hL4 () [1,0] h
 rintro at_1 _ h
 refine rs ?_
 refine z8 ?_
 refine ys ?_
 refine zq (zgc Tryz.runUnderlying29 rfl rfl) ?_
 refine zic _ (wn rfl) (zjX rfl) ?_
 obtain rfl:=zU h
 exact finP ⟨_,rfl,rfl⟩
def z1l (r_0:z7) (kind_1:Int):Option (Pn ((List UInt8)×z7)):=
 obind (z1a r_0) fun r1=>
 bindJ (S:=Unit)
  (cond (decide (r1.Kind ≠ kind_1))
   (obind (z16 r_0) fun r9=>
   pbind r9 (fun e12=>
    some (.stop (.pan e12))) fun q11=>
   some (.go ()))
   (some (.go ())))
 (fun _ =>
  some (.ret (r1.S,(z7.mk r_0.l_ (IntKind.i64.wrap (r_0.i_+1)) r_0.at_))))
theorem z1v {r_0:z7} {kind_1:Int} {r_0b:Nat} {r_0_l_v:Value} {r:Pn ((List UInt8)×z7)} (h:z1l r_0 kind_1=some r) :
  z4t Tryz.prog 77 [boxP r_0b 0,.int .i64 kind_1] [ro r_0_l_v 3 (r_0.l_.map z6.enc),box r_0b [r_0_l_v,.int .i64 r_0.i_,.int .i64 r_0.at_]] (fun v G=>∃ q,r = .ret q∧(∃ v0,v = .string (bs q.1)∧G=[ro v0 3 (q.2.l_.map z6.enc),box r_0b [v0,.int .i64 q.2.i_,.int .i64 q.2.at_]])) (fun v=>∃ e,r = .pan e∧v = .iface 29 (.agg #[.int .i64 e,.int .i64 180])):=by
 refine z1y Tryz.func77 rfl Tryz.ntmps77 rfl (fun w0 o0=>?_)
 refine zh ?_
 refine ys ?_
 refine za ?_
 refine ys ?_
 refine cl0 [(0,0),(1,2)] Tryz.call75 (fun h=>z1e h) h (fun r1 h=>?_)
 refine al fun b3=>?_
 refine ys ?_
 refine zd ?_
 refine jr h [0,5] [3,1,4] (fun s (g:Unit)=>[]) (fun s g=>[]) (fun _ h ho5 _ hL6=>?_) ?_
 ·refine zh ?_
  refine ys ?_
  refine zd ?_
  refine rc h (fun _ h=>?_) (fun _ h=>?_)
  ·refine rj [0,5] [0,2,3] ?_
   refine z8 ?_
   refine ys ?_
   refine cp0 [(0,0),(1,2)] Tryz.call74 (fun h=>z15 h) h (fun _ h=>?_) (hp:=fun e h=>by obtain rfl:=zU h; obtain rfl:=zM ho5; exact finP ⟨_,rfl,rfl⟩)
   refine zr ?_
   exact gj hL6 () [3,0,2] h
  ·refine run_skip ?_
   exact gj hL6 () [2,0,3] h
 rintro _ _ h
 refine rs ?_
 refine zh ?_
 refine ys ?_
 refine zc ?_
 refine rj [5] [0,1,2] ?_
 refine z8 ?_
 refine ys ?_
 refine zd ?_
 refine zA ?_
 exact fs [4] [1,0] Tryz.results77 h
def z19 (r_0:z7) (kind_1:Int) (s_2:(List UInt8)):Option (Pn (z7)):=
 obind (z10 r_0 kind_1 s_2) fun r1=>
 cond (!r1.1)
  (obind (z16 r1.2) fun r5=>
  pbind r5 (fun e8=>
   some (.pan e8)) fun q7=>
  some (.ret r1.2))
  (some (.ret r1.2))
theorem z1u {r_0:z7} {kind_1:Int} {s_2:(List UInt8)} {r_0b:Nat} {r_0_l_v:Value} {r:Pn (z7)} (h:z19 r_0 kind_1 s_2=some r) :
  z4t Tryz.prog 78 [boxP r_0b 0,.int .i64 kind_1,.string (bs s_2)] [ro r_0_l_v 3 (r_0.l_.map z6.enc),box r_0b [r_0_l_v,.int .i64 r_0.i_,.int .i64 r_0.at_]] (fun v G=>∃ q,r = .ret q∧(∃ v0,v = .tuple #[]∧G=[ro v0 3 (q.l_.map z6.enc),box r_0b [v0,.int .i64 q.i_,.int .i64 q.at_]])) (fun v=>∃ e,r = .pan e∧v = .iface 29 (.agg #[.int .i64 e,.int .i64 180])):=by
 refine z1y Tryz.func78 rfl Tryz.ntmps78 rfl (fun w0 o0=>?_)
 refine zh ?_
 refine ys ?_
 refine cl1 [(0,0),(1,2)] Tryz.call76 (fun h=>z13 h) h (fun r1 v3 h=>?_)
 refine ys ?_
 refine zd ?_
 refine rc h (fun _ h=>?_) (fun _ h=>?_)
 ·refine z8 ?_
  refine ys ?_
  refine cp0 [(2,0),(3,2)] Tryz.call74 (fun h=>z15 h) h (fun _ h=>?_)
  refine zr ?_
  refine z3d ?_
  exact fs [] [2,4] Tryz.results78 h
 ·refine run_skip ?_
  refine z3d ?_
  exact fs [] [2,3] Tryz.results78 h
def z6N  : Option ((List (List UInt8))):=
 some ([[112,97,116,116,101,114,110],[116,97,103,115],[102,114,101,115,104],[115,116,97,108,101],[100,111,119,110],[110,101,103,97,116,105,118,101],[99,111,115,116],[118,97,114,121],[97,108,108,111,119],[115,105,103,110,101,100],[112,114,111,103,114,97,109],[102,114,111,109],[116,111],[99,108,105,101,110,116,115],[99,111,117,110,116,114,105,101,115],[115,105,116,101,115],[117,115,101,115]]:List (List UInt8))
theorem z78:K5 z6N 181:=by
 intro  r h
 refine zN Tryz.func181 rfl Tryz.ntmps181 rfl (fun w0 o0=>?_)
 refine zh ?_
 refine ys ?_
 refine za ?_
 refine zt (t_lit [.string (bs [112,97,116,116,101,114,110]),.string (bs [116,97,103,115]),.string (bs [102,114,101,115,104]),.string (bs [115,116,97,108,101]),.string (bs [100,111,119,110]),.string (bs [110,101,103,97,116,105,118,101]),.string (bs [99,111,115,116]),.string (bs [118,97,114,121]),.string (bs [97,108,108,111,119]),.string (bs [115,105,103,110,101,100]),.string (bs [112,114,111,103,114,97,109]),.string (bs [102,114,111,109]),.string (bs [116,111]),.string (bs [99,108,105,101,110,116,115]),.string (bs [99,111,117,110,116,114,105,101,115]),.string (bs [115,105,116,101,115]),.string (bs [117,115,101,115])] Tryz.runUnderlying62 Tryz.sizeOf9 Tryz.zeroValue9 rfl (by decide) (by decide) rfl (by simp [Value.cells,boxP])) ?_
 rintro v1 _ ⟨rfl,_⟩
 refine zB (retell 0 (g:=row v1 1 (([[112,97,116,116,101,114,110],[116,97,103,115],[102,114,101,115,104],[115,116,97,108,101],[100,111,119,110],[110,101,103,97,116,105,118,101],[99,111,115,116],[118,97,114,121],[97,108,108,111,119],[115,105,103,110,101,100],[112,114,111,103,114,97,109],[102,114,111,109],[116,111],[99,108,105,101,110,116,115],[99,111,117,110,116,114,105,101,115],[115,105,116,101,115],[117,115,101,115]]:List (List UInt8)).map eStr)) rfl rfl) ?_
 refine ys ?_
 refine zd ?_
 refine zA ?_
 exact fs [0] [0] Tryz.results181 h
end Go.Proofs.YtcmaoifiiigggaaGreatDoor
