/-
  Functions of the program, lifted: part 2.
-/
import Derived.Test.YtcmaoifiiigggaaGreatDoorFa
set_option linter.unusedSimpArgs false
set_option linter.unusedVariables false
namespace Go.Proofs.YtcmaoifiiigggaaGreatDoor
open Go.Abs
set_option maxRecDepth 20000
set_option maxHeartbeats 4000000
def z2D (r_0:zV):((List UInt8)×Int)→Option (Lp ((List UInt8)×Int) (Lp ((List UInt8)×Int) (Pn (z6×zV)))):=
 fun (out_9,x_10)=>
  bindJ (S:=Bool)
   (cond (decide (x_10 < (r_0.s_.length : Int)))
    (idx r_0.s_ x_10 fun c22=>
    some (.go (decide ((c22.toNat:Int)≠34))))
    (some (.go false)))
  (fun b16 =>
   cond b16
    (idx r_0.s_ x_10 fun c24=>
    bindJ (S:=Int×Int)
     (cond (decide ((c24.toNat : Int) = 92))
      (bindJ (S := Bool)
       (cond (decide ((IntKind.i64.wrap (x_10 + 1)) < (r_0.s_.length : Int)))
        (idx r_0.s_ (IntKind.i64.wrap (x_10+1)) fun c38=>
        obind (idxH [34,92] (c38.toNat:Int)) fun r39=>
        some (.go (decide (0≤r39))))
        (some (.go false)))
      (fun b32 =>
       cond b32
        (idx r_0.s_ (IntKind.i64.wrap (x_10+1)) fun c42=>
        some (.go ((c42.toNat:Int),(IntKind.i64.wrap (x_10+1)))))
        (some (.go (0,(IntKind.i64.wrap (x_10+1)))))))
      (some (.go ((c24.toNat:Int),x_10))))
    (fun (b_25, x_26) =>
     obind (z9m (decide (b_25<32) || decide (126<b_25)) 182) fun r46=>
     pbind r46 (fun e49=>
      some (.stop (.stop (.pan e49)))) fun q48=>
     need (0≤b_25∧b_25≤255) (
     need (out_9.length+([(b_25).toNat.toUInt8]:List UInt8).length≤4294967296) (
     some (.go ((out_9++([(b_25).toNat.toUInt8]:List UInt8)),(IntKind.i64.wrap (x_26+1))))))))
    (some (.stop (.go (out_9,x_10)))))
def z3u (n:Nat) (r_0:zV):Option (Pn (z6×zV)):=
 bindJ (S:=(List UInt8)×Int)
  (iter (z2D r_0) n (([]:List UInt8),(IntKind.i64.wrap (r_0.at_+1))))
 (fun (out_2, x_3) =>
  obind (z9m (decide ((r_0.s_.length:Int)≤x_3) || decide (200<(out_2.length:Int))) 182) fun r57=>
  pbind r57 (fun e60=>
   some (.pan e60)) fun q59=>
  some (.ret ((z6.mk 4 0 out_2),(zV.mk r_0.s_ (IntKind.i64.wrap (x_3+1))))))
theorem z5N {n:Nat}:K3 (z3u n) 95:=by
 intro r_0 r_0b r h
 refine z1y Tryz.func95 rfl Tryz.ntmps95 rfl (fun w0 o0=>?_)
 refine zh ?_
 refine al fun b1=>?_
 refine za ?_
 refine ys ?_
 refine za ?_
 refine ys ?_
 refine zd ?_
 refine jr h [0,2] [0,0,2] (fun s (g:Value)=>[(3,g)]) (fun s g=>[row g 1 (s.1.map eB8),box r_0b [.string (bs r_0.s_),.int .i64 s.2]]) (fun _ h ho6 _ hL7=>?_) ?_
 ·refine zF ?_
  refine z3x (nilrow 1) ?_
  refine z3x (retell 2 (g:=row (.slice none 0 0) 1 (([]:List UInt8).map eB8)) rfl rfl) ?_
  refine lo h [0,2] [0,0,2] (fun s (g:Value)=>[(3,g)]) (fun s g=>[row g 1 (s.1.map eB8),box r_0b [.string (bs r_0.s_),.int .i64 s.2]]) _ [2,0,1] ?_
  rintro ⟨out_9,x_10⟩ _ _ h _ hgo13 hstop14
  refine rs ?_
  refine zH ?_
  refine zH ?_
  refine z4U (by kernel_rfl) (by kernel_rfl) ?_
  refine yu ?_
  refine sbj h 11 [3,0,2] [1,2,3] (fun s=>[(33,.bool s)]) (fun s=>[]) (fun _ h _ _ hL20=>?_) ?_
  ·refine z86 22 (decide (x_10<(r_0.s_.length:Int))) rfl (fun hg21=>?_) (fun hg21=>?_)
   ·replace h:=z2F h hg21
    refine yu ?_
    obtain ⟨c22,hzc22,hlc22,hxc22,h⟩:=zP h
    refine yu ?_
    refine z2m ?_
    exact gb hL20 [0,1,2] h
   ·replace h:=z2E h hg21
    refine yu ?_
    refine z2m ?_
    exact gb hL20 [0,1,2] h
  rintro b16 h
  refine ss' ?_
  refine z2m ?_
  refine zD ?_
  refine rc h (fun _ h=>?_) (fun _ h=>?_)
  ·refine run_skip ?_
   refine zD ?_
   refine zF ?_
   refine zH ?_
   refine z4U (by kernel_rfl) (by kernel_rfl) ?_
   refine yu ?_
   obtain ⟨c24,hzc24,hlc24,hxc24,h⟩:=zP h
   refine yu ?_
   refine z2m ?_
   refine zD ?_
   refine jr h [0,2,3] [0,3,1] (fun s (g:Unit)=>[(4,.int .u8 s.1)]) (fun s g=>[box r_0b [.string (bs r_0.s_),.int .i64 s.2]]) (fun _ h _ _ hL29=>?_) ?_
   ·refine zH ?_
    refine rj [3,0,2,4] [0,1,2] ?_
    refine z8 ?_
    refine ys ?_
    refine zd ?_
    refine rc h (fun _ h=>?_) (fun _ h=>?_)
    ·refine zh ?_
     refine ys ?_
     refine zc ?_
     refine rj [3,0,2] [0,1,2] ?_
     refine z8 ?_
     refine ys ?_
     refine zc ?_
     refine rf [1,1,1] fun hS=>?_
     refine aq [0,1,2,3,4,5,6,7,8,9,10] ?_
     refine ab h [23] 0 [3,0,2,4] [1,2,3] (fun s=>[(74,.bool s)]) (fun s=>[]) (fun _ h _ hL36=>?_) ?_
     ·refine z1L 62 (decide ((IntKind.i64.wrap (x_10+1))<(r_0.s_.length:Int))) rfl (fun hg37=>?_) (fun hg37=>?_)
      ·replace h:=z2F h hg37
       refine aq [11,12,13,14,15,16,17,18] ?_
       obtain ⟨c38,hzc38,hlc38,hxc38,h⟩:=zP h
       refine aq [19] ?_
       refine zK [20] (by kernel_rfl) rfl (zk ?_ zC)
       obtain ⟨r39,hr40,h⟩:=zJ h
       refine at' rfl (tc [] Tryz.call162 (zoH [34,92] (c38.toNat:Int) hr40)) ?_
       rintro _ _ ⟨_,⟨rfl,rfl⟩,rfl⟩
       refine sb ?_
       refine aq [21,22] ?_
       exact aw (hL36 _ (zU h).symm) [0,1,2]
      ·replace h:=z2E h hg37
       refine aq [11,12,13,14,15,16,17,18,19,20,21,22] ?_
       exact aw (hL36 _ (zU h).symm) [0,1,2]
     rintro b32 h
     refine az ?_
     refine z1K (by kernel_rfl) ?_
     refine zD ?_
     refine rc h (fun _ h=>?_) (fun _ h=>?_)
     ·refine z4U (by kernel_rfl) (by kernel_rfl) ?_
      refine yu ?_
      obtain ⟨c42,hzc42,hlc42,hxc42,h⟩:=zP h
      refine yu ?_
      refine z2m ?_
      exact gj hL29 () [1,2,0] h
     ·refine run_skip ?_
      exact gj hL29 () [1,2,0] h
    ·refine run_skip ?_
     exact gj hL29 () [1,2,0] h
   rintro ⟨b_25,x_26⟩ _ h
   refine rs ?_
   refine zh ?_
   refine ys ?_
   refine oq 3 86 89 [4,0,2,3] [0,1,2] (decide (b_25<32) || decide (126<b_25)) ?_
   refine cp0 [] Tryz.call161 (fun h=>z9n h) h (fun _ h=>?_) (hp:=fun e h=>by obtain rfl:=zU h; obtain rfl:=hstop14 _ rfl; obtain rfl:=zM ho6; exact finP ⟨_,rfl,rfl⟩)
   refine za ?_
   refine ys ?_
   obtain ⟨hi51,h⟩:=zX h
   refine zt (t_lit [.int .u8 b_25] Tryz.runUnderlying58 Tryz.sizeOf5 Tryz.zeroValue5 rfl (by decide) (by decide) rfl (by simp [Value.cells,boxP])) ?_
   rintro v50 _ ⟨rfl,_⟩
   refine zB (retell 3 (g:=row v50 1 (([(b_25).toNat.toUInt8]:List UInt8).map eB8)) rfl (congrArg (row _ _) (by simp only [List.map_cons,List.map_nil,zpG hi51]; rfl))) ?_
   obtain ⟨hr53,h⟩:=zX h
   refine zt (z1U (es:=1) 2 rfl Tryz.runUnderlying58 rfl Tryz.runUnderlying58 (.inr ⟨_,rfl⟩) Tryz.typeInfo5 rfl (by decide) Tryz.zeroValue5 rfl rfl rfl rfl (z1C 3 rfl z1d (z42 zhZ _)) (z1T hr53 (by decide)) (z2H hr53)) ?_
   rintro v52 _ rfl
   refine zB (retell 2 (g:=row v52 1 ((out_9++([(b_25).toNat.toUInt8]:List UInt8)).map eB8)) rfl (congrArg (row _ _) List.map_append.symm)) ?_
   refine ys ?_
   refine zb ?_
   refine ys ?_
   refine zr ?_
   refine zS ?_
   exact gj hgo13 _ [2,0,1] h
  ·refine z1h _ rfl ?_
   exact gk hL7 hstop14 _ [0,1,2] h
 rintro ⟨out_2,x_3⟩ v4 h
 refine rs ?_
 refine zH ?_
 refine rf [1,1,1] fun hS=>?_
 refine aq [0,1,2,3,4,5,6,7,8,9,10] ?_
 refine ae [15,1] 1 [3,0,2] [1,2,3] (fun s=>[(116,.bool s)]) (decide ((r_0.s_.length:Int)≤x_3) || decide (200<(out_2.length:Int))) (fun hL55=>?_) ?_
 ·refine z1L 112 (decide ((r_0.s_.length:Int)≤x_3)) rfl (fun hg56=>?_) (fun hg56=>?_)
  ·skip
   refine aq [11,12,13,14] ?_
   exact aw (hL55 true (by rw [hg56]; simp)) [0,1,2]
  ·skip
   refine aq [11,12,13,14] ?_
   exact aw (hL55 (decide (200<(out_2.length:Int))) (by rw [hg56]; simp)) [0,1,2]
 refine az ?_
 refine ap0 15 [] Tryz.call161 (fun h=>z9n h) h (fun _ h=>?_)
 refine z1K (by kernel_rfl) ?_
 refine ze ?_
 refine ys ?_
 refine zc ?_
 refine rj [3,2] [0,1,2] ?_
 refine z8 ?_
 refine ys ?_
 refine zq (y_b2s (l:=out_2) 0 Tryz.runUnderlying58 Tryz.runUnderlying5 Tryz.runUnderlying9 rfl rfl z1d) ?_
 refine ys ?_
 refine zd ?_
 refine zA ?_
 exact fr [1] Tryz.results95 h
def z8p (a_0:Int):Option (Bool):=
 some true
theorem zeq:K1 z8p 96:=by
 intro a_0 r h
 refine zN Tryz.func96 rfl Tryz.ntmps96 rfl (fun w0 o0=>?_)
 refine zh ?_
 refine ys ?_
 refine za ?_
 refine ys ?_
 refine zd ?_
 refine zA ?_
 exact fs [2] [] Tryz.results96 h
def z3t (n:Nat) (r_0:zV):Option (Pn (z6×zV)):=
 bindJ (S:=Int)
  (need (0≤r_0.at_∧r_0.at_≤(min (IntKind.i64.wrap (r_0.at_+2)) (r_0.s_.length:Int))∧(min (IntKind.i64.wrap (r_0.at_+2)) (r_0.s_.length:Int))≤(r_0.s_.length:Int)) (
  bindJ (S:=Bool)
   (cond (decide ((((r_0.s_.take (((min (IntKind.i64.wrap (r_0.at_ + 2)) (r_0.s_.length : Int))).toNat)).drop ((r_0.at_).toNat)).length : Int) = 2))
    (obind (zht [61,61,32,33,61,32,60,61,32,62,61,32,46,46]) fun r14=>
    obind (z2T n r14 ((r_0.s_.take (((min (IntKind.i64.wrap (r_0.at_+2)) (r_0.s_.length:Int))).toNat)).drop ((r_0.at_).toNat))) fun r17=>
    some (.go r17))
    (some (.go false)))
  (fun b8 =>
   cond b8
    (some (.go 2))
    (some (.go 1)))))
 (fun n_2 =>
  need (0≤r_0.at_∧r_0.at_≤(IntKind.i64.wrap (r_0.at_+n_2))∧(IntKind.i64.wrap (r_0.at_+n_2))≤(r_0.s_.length:Int)) (
  bindJ (S:=Bool)
   (cond (decide (n_2 = 1))
    (idx ((r_0.s_.take (((IntKind.i64.wrap (r_0.at_+n_2))).toNat)).drop ((r_0.at_).toNat)) 0 fun c27=>
    obind (idxH [123,125,40,41,91,93,44,59,58,61,60,62,43,45,42,47,37] (c27.toNat:Int)) fun r28=>
    some (.go (decide (r28<0))))
    (some (.go false)))
  (fun b21 =>
   obind (z9m b21 180) fun r30=>
   pbind r30 (fun e33=>
    some (.pan e33)) fun q32=>
   some (.ret ((z6.mk 5 0 ((r_0.s_.take (((IntKind.i64.wrap (r_0.at_+n_2))).toNat)).drop ((r_0.at_).toNat))),(zV.mk r_0.s_ (IntKind.i64.wrap (r_0.at_+n_2))))))))
theorem z5M {n:Nat}:K2 (z3t n) 97:=by
 intro r_0 r_0b r h
 refine z1y Tryz.func97 rfl Tryz.ntmps97 rfl (fun w0 o0=>?_)
 refine zh ?_
 refine al fun b1=>?_
 refine za ?_
 refine ys ?_
 refine zd ?_
 refine jr h [0,2] [1,3,2] (fun s (g:Unit)=>[(3,.int .i64 s)]) (fun s g=>[]) (fun _ h _ _ hL5=>?_) ?_
 ·refine zH ?_
  refine z4U (by kernel_rfl) (by kernel_rfl) ?_
  refine yu ?_
  refine zu (y_min rfl rfl) ?_
  obtain ⟨hb7,h⟩:=zX h
  refine zu (z5R (l:=r_0.at_) (r:=(min (IntKind.i64.wrap (r_0.at_+2)) (r_0.s_.length:Int))) Tryz.runUnderlying9 rfl (bi1 (kd:=.i64) rfl) (bi1 (kd:=.i64) rfl) hb7.1 hb7.2.1 hb7.2.2) ?_
  refine yu ?_
  refine z2m ?_
  refine zg ?_
  refine rj [0,2,3,4] [0,1,2] ?_
  refine z8 ?_
  refine ys ?_
  refine ob h 4 [0,2,3] [1,2,3] (fun s=>[(33,.bool s)]) (fun s=>[]) (fun _ h _ _ hL12=>?_) ?_
  ·refine z1c 29 (decide ((((r_0.s_.take (((min (IntKind.i64.wrap (r_0.at_+2)) (r_0.s_.length:Int))).toNat)).drop ((r_0.at_).toNat)).length:Int)=2)) rfl (fun hg13=>?_) (fun hg13=>?_)
   ·replace h:=z2F h hg13
    obtain ⟨r14,hr15,h⟩:=zJ h
    refine zt (tc [(1,0)] Tryz.call164 (ziU [61,61,32,33,61,32,60,61,32,62,61,32,46,46] hr15)) ?_
    rintro v16 _ ⟨_,⟨_,rfl,rfl⟩,rfl⟩
    refine ys ?_
    refine cl0 [(3,1)] Tryz.call163 (fun h=>z54 h) h (fun r17 h=>?_)
    refine ys ?_
    refine zr ?_
    exact gb hL12 [0,1,2] h
   ·replace h:=z2E h hg13
    refine ys ?_
    refine zr ?_
    exact gb hL12 [0,1,2] h
  rintro b8 h
  refine os ?_
  refine zd ?_
  refine rc h (fun _ h=>?_) (fun _ h=>?_)
  ·refine z8 ?_
   refine ys ?_
   refine zr ?_
   exact gj hL5 () [0,2,1] h
  ·refine run_skip ?_
   exact gj hL5 () [0,2,1] h
 rintro n_2 _ h
 refine rs ?_
 refine zH ?_
 refine z4U (by kernel_rfl) (by kernel_rfl) ?_
 refine yu ?_
 obtain ⟨hb20,h⟩:=zX h
 refine zu (z5R (l:=r_0.at_) (r:=(IntKind.i64.wrap (r_0.at_+n_2))) Tryz.runUnderlying9 rfl (bi1 (kd:=.i64) rfl) (bi1 (kd:=.i64) rfl) hb20.1 hb20.2.1 hb20.2.2) ?_
 refine yu ?_
 refine z2m ?_
 refine zg ?_
 refine rj [3,0,2,5] [0,1,2] ?_
 refine z8 ?_
 refine ys ?_
 refine ob h 5 [3,0,2,5] [1,2,3] (fun s=>[(56,.bool s)]) (fun s=>[]) (fun _ h _ _ hL25=>?_) ?_
 ·refine z1c 51 (decide (n_2=1)) rfl (fun hg26=>?_) (fun hg26=>?_)
  ·replace h:=z2F h hg26
   refine ys ?_
   obtain ⟨c27,hzc27,hlc27,hxc27,h⟩:=zP h
   refine ys ?_
   obtain ⟨r28,hr29,h⟩:=zJ h
   refine zt (tc [] Tryz.call162 (zoH [123,125,40,41,91,93,44,59,58,61,60,62,43,45,42,47,37] (c27.toNat:Int) hr29)) ?_
   rintro _ _ ⟨_,⟨rfl,rfl⟩,rfl⟩
   refine ys ?_
   refine zr ?_
   exact gb hL25 [0,1,2] h
  ·replace h:=z2E h hg26
   refine ys ?_
   refine zr ?_
   exact gb hL25 [0,1,2] h
 rintro b21 h
 refine os ?_
 refine cp0 [] Tryz.call161 (fun h=>z9n h) h (fun _ h=>?_)
 refine za ?_
 refine ys ?_
 refine zc ?_
 refine rj [2,5] [0,1,2] ?_
 refine z8 ?_
 refine ys ?_
 refine zd ?_
 refine zA ?_
 exact fr [0] Tryz.results97 h
end Go.Proofs.YtcmaoifiiigggaaGreatDoor
