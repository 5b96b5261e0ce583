/-
  Functions of the program, lifted: part 2.
-/
import Derived.Test.YtcmaoifiiigggaaGreatDoorV8Fa
set_option linter.unusedSimpArgs false
set_option linter.unusedVariables false
namespace Go.Proofs.YtcmaoifiiigggaaGreatDoor
open Go.Abs Tryz
set_option maxRecDepth 20000
set_option maxHeartbeats 4000000
def z2D (r_0:zV):((List UInt8)×Int)→Option (Lp ((List UInt8)×Int) (Lp ((List UInt8)×Int) (Pn (z6×zV)))):=
 fun (j3,j0)=>
  bindJ (S:=Bool)
   (cond (decide (j0 < (r_0.s_.length : Int)))
    (idx r_0.s_ j0 fun c22=>
    some (.go (decide ((c22.toNat:Int)≠34))))
    (some (.go false)))
  (fun b16 =>
   cond b16
    (idx r_0.s_ j0 fun c24=>
    bindJ (S:=Int×Int)
     (cond (decide ((c24.toNat : Int) = 92))
      (bindJ (S := Bool)
       (cond (decide ((IntKind.i64.wrap (j0 + 1)) < (r_0.s_.length : Int)))
        (idx r_0.s_ (IntKind.i64.wrap (j0+1)) fun c38=>
        obind (idxH [34,92] (c38.toNat:Int)) fun r39=>
        some (.go (decide (0≤r39))))
        (some (.go false)))
      (fun b32 =>
       cond b32
        (idx r_0.s_ (IntKind.i64.wrap (j0+1)) fun c42=>
        some (.go ((c42.toNat:Int),(IntKind.i64.wrap (j0+1)))))
        (some (.go (0,(IntKind.i64.wrap (j0+1)))))))
      (some (.go ((c24.toNat:Int),j0))))
    (fun (j1, jc) =>
     obind (z9m (decide (j1<32) || decide (126<j1)) 182) fun r46=>
     pbind r46 (fun e49=>
      some (.stop (.stop (.pan e49)))) fun q48=>
     need (0≤j1∧j1≤255) (
     need (j3.length+([(j1).toNat.toUInt8]:List UInt8).length≤4294967296) (
     some (.go ((j3++([(j1).toNat.toUInt8]:List UInt8)),(IntKind.i64.wrap (jc+1))))))))
    (some (.stop (.go (j3,j0)))))
def z3u (n:Nat) (r_0:zV):Option (Pn (z6×zV)):=
 bindJ (S:=(List UInt8)×Int)
  (iter (z2D r_0) n (([]:List UInt8),(IntKind.i64.wrap (r_0.at_+1))))
 (fun (j2, x_3) =>
  obind (z9m (decide ((r_0.s_.length:Int)≤x_3) || decide (200<(j2.length:Int))) 182) fun r57=>
  pbind r57 (fun e60=>
   some (.pan e60)) fun q59=>
  some (.ret ((z6.mk 4 0 j2),(zV.mk r_0.s_ (IntKind.i64.wrap (x_3+1))))))
theorem z5N {n:Nat}:K3 (z3u n) 95:=by
 intro r_0 j5 r h
 refine z1y func95 rfl ntmps95 rfl (fun w0 o0=>?_)
 refine zh (al fun b1=>?_)
 refine yn 4 ?_
 refine zd (jr h [0,2] [0,0,2] (fun s (g:Value)=>[(3,g)]) (fun s g=>[row g 1 (s.1.map eB8),box j5 [.string (bs r_0.s_),.int .i64 s.2]]) (fun _ h ho6 _ hL7=>?_) ?_)
 ·refine zF (z3x (nilrow 1) ?_)
  refine z3x (retell 2 (g:=row (.slice none 0 0) 1 (([]:List UInt8).map eB8)) rfl rfl) ?_
  refine lo h [0,2] [0,0,2] (fun s (g:Value)=>[(3,g)]) (fun s g=>[row g 1 (s.1.map eB8),box j5 [.string (bs r_0.s_),.int .i64 s.2]]) _ [2,0,1] ?_
  rintro ⟨j3,j0⟩ _ _ h _ jd j4
  refine rs ?_
  refine zH (zH (z4U (by kernel_rfl) (by kernel_rfl) ?_))
  refine yu ?_
  refine sbj h 11 [3,0,2] [1,2,3] (fun s=>[(33,.bool s)]) (fun s=>[]) (fun _ h _ _ je=>?_) ?_
  ·refine z86 22 (decide (j0<(r_0.s_.length:Int))) rfl (fun j6=>?_) (fun j6=>?_)
   ·replace h:=z2F h j6
    refine yu ?_
    obtain ⟨c22,jo,jp,jq,h⟩:=zP h
    refine yu ?_
    refine z2m ?_
    exact gb je [0,1,2] h
   ·replace h:=z2E h j6
    refine yu ?_
    refine z2m ?_
    exact gb je [0,1,2] h
  rintro b16 h
  refine ss' ?_
  refine z2m ?_
  refine yc 1 h (fun _ h=>?_) fun _ h=>?_
  ·refine yn 3 ?_
   refine zH (z4U (by kernel_rfl) (by kernel_rfl) ?_)
   refine yu ?_
   obtain ⟨c24,js,jt,ju,h⟩:=zP h
   refine yu ?_
   refine z2m ?_
   refine zD (jr h [0,2,3] [0,3,1] (fun s (g:Unit)=>[(4,.int .u8 s.1)]) (fun s g=>[box j5 [.string (bs r_0.s_),.int .i64 s.2]]) (fun _ h _ _ j7=>?_) ?_)
   ·refine zH (rj [3,0,2,4] [0,1,2] ?_)
    refine yc 3 h (fun _ h=>?_) fun _ h=>?_
    ·refine yn 2 ?_
     refine zc (rj [3,0,2] [0,1,2] ?_)
     refine yn 3 ?_
     refine rf [1,1,1] fun hS=>?_
     refine aq [0,1,2,3,4,5,6,7,8,9,10] ?_
     refine ab h [23] 0 [3,0,2,4] [1,2,3] (fun s=>[(74,.bool s)]) (fun s=>[]) (fun _ h _ jf=>?_) ?_
     ·refine z1L 62 (decide ((IntKind.i64.wrap (j0+1))<(r_0.s_.length:Int))) rfl (fun j8=>?_) (fun j8=>?_)
      ·replace h:=z2F h j8
       refine aq [11,12,13,14,15,16,17,18] ?_
       obtain ⟨c38,jv,jw,jx,h⟩:=zP h
       refine aq [19] ?_
       refine ao 20 ?_
       obtain ⟨r39,jj,h⟩:=zJ h
       refine at' rfl (tc [] call162 (zoH [34,92] (c38.toNat:Int) jj)) ?_
       rintro _ _ ⟨_,⟨rfl,rfl⟩,rfl⟩
       refine sb ?_
       refine aq [21,22] ?_
       exact aw (jf _ (zU h).symm) [0,1,2]
      ·replace h:=z2E h j8
       refine aq [11,12,13,14,15,16,17,18,19,20,21,22] ?_
       exact aw (jf _ (zU h).symm) [0,1,2]
     rintro b32 h
     refine az ?_
     refine z1K (by kernel_rfl) ?_
     refine yc 1 h (fun _ h=>?_) fun _ h=>?_
     ·refine z4U (by kernel_rfl) (by kernel_rfl) ?_
      refine yu ?_
      obtain ⟨c42,jy,jz,jA,h⟩:=zP h
      refine yu ?_
      refine z2m ?_
      exact gj j7 () [1,2,0] h
     ·exact run_skip (gj j7 () [1,2,0] h)
    ·exact run_skip (gj j7 () [1,2,0] h)
   rintro ⟨j1,jc⟩ _ h
   refine rs ?_
   refine yn 2 ?_
   refine oq 3 86 89 [4,0,2,3] [0,1,2] (decide (j1<32) || decide (126<j1)) ?_
   refine cp0 [] call161 (fun h=>z9n h) h (fun _ h=>?_) (hp:=fun e h=>by obtain rfl:=zU h; obtain rfl:=j4 _ rfl; obtain rfl:=zM ho6; exact finP ⟨_,rfl,rfl⟩)
   refine yn 2 ?_
   obtain ⟨hi51,h⟩:=zX h
   refine zt (t_lit [.int .u8 j1] runUnderlying58 sizeOf5 zeroValue5 rfl (by decide) (by decide) rfl (by simp [Value.cells,boxP])) ?_
   rintro v50 _ ⟨rfl,_⟩
   refine zB (retell 3 (g:=row v50 1 (([(j1).toNat.toUInt8]:List UInt8).map eB8)) rfl (congrArg (row _ _) (by simp only [yI,List.map_nil,zpG hi51]; rfl))) ?_
   obtain ⟨jk,h⟩:=zX h
   refine lA zhZ 2 3 jk fun _=>?_
   refine yn 5 ?_
   exact gj jd _ [2,0,1] h
  ·refine z1h _ rfl ?_
   exact gk hL7 j4 _ [0,1,2] h
 rintro ⟨j2,x_3⟩ v4 h
 refine rs ?_
 refine zH (rf [1,1,1] fun hS=>?_)
 refine aq [0,1,2,3,4,5,6,7,8,9,10] ?_
 refine ae [15,1] 1 [3,0,2] [1,2,3] (fun s=>[(116,.bool s)]) (decide ((r_0.s_.length:Int)≤x_3) || decide (200<(j2.length:Int))) (fun jg=>?_) ?_
 ·refine z1L 112 (decide ((r_0.s_.length:Int)≤x_3)) rfl (fun j9=>?_) (fun j9=>?_)
  ·skip
   refine aq [11,12,13,14] ?_
   exact aw (jg true (by rw [j9]; simp)) [0,1,2]
  ·skip
   refine aq [11,12,13,14] ?_
   exact aw (jg (decide (200<(j2.length:Int))) (by rw [j9]; simp)) [0,1,2]
 refine az ?_
 refine ap0 15 [] call161 (fun h=>z9n h) h (fun _ h=>?_)
 refine z1K (by kernel_rfl) ?_
 refine yn 2 ?_
 refine zc (rj [3,2] [0,1,2] ?_)
 refine yn 2 ?_
 refine zq (y_b2s (l:=j2) 0 runUnderlying58 runUnderlying5 runUnderlying9 rfl rfl z1d) ?_
 refine yn 3 ?_
 exact fr [1] results95 h
def z8p (a_0:Int):Option (Bool):=
 some true
theorem zeq:K1 z8p 96:=by
 intro a_0 r h
 refine zN func96 rfl ntmps96 rfl (fun w0 o0=>?_)
 refine yn 6 ?_
 exact fs [2] [] results96 h
def z3t (n:Nat) (r_0:zV):Option (Pn (z6×zV)):=
 bindJ (S:=Int)
  (need (0≤r_0.at_∧r_0.at_≤(min (IntKind.i64.wrap (r_0.at_+2)) (r_0.s_.length:Int))∧(min (IntKind.i64.wrap (r_0.at_+2)) (r_0.s_.length:Int))≤(r_0.s_.length:Int)) (
  bindJ (S:=Bool)
   (cond (decide ((((r_0.s_.take (((min (IntKind.i64.wrap (r_0.at_ + 2)) (r_0.s_.length : Int))).toNat)).drop ((r_0.at_).toNat)).length : Int) = 2))
    (obind (zht [61,61,32,33,61,32,60,61,32,62,61,32,46,46]) fun r14=>
    obind (z2T n r14 ((r_0.s_.take (((min (IntKind.i64.wrap (r_0.at_+2)) (r_0.s_.length:Int))).toNat)).drop ((r_0.at_).toNat))) fun r17=>
    some (.go r17))
    (some (.go false)))
  (fun b8 =>
   cond b8
    (some (.go 2))
    (some (.go 1)))))
 (fun n_2 =>
  need (0≤r_0.at_∧r_0.at_≤(IntKind.i64.wrap (r_0.at_+n_2))∧(IntKind.i64.wrap (r_0.at_+n_2))≤(r_0.s_.length:Int)) (
  bindJ (S:=Bool)
   (cond (decide (n_2 = 1))
    (idx ((r_0.s_.take (((IntKind.i64.wrap (r_0.at_+n_2))).toNat)).drop ((r_0.at_).toNat)) 0 fun c27=>
    obind (idxH [123,125,40,41,91,93,44,59,58,61,60,62,43,45,42,47,37] (c27.toNat:Int)) fun r28=>
    some (.go (decide (r28<0))))
    (some (.go false)))
  (fun b21 =>
   obind (z9m b21 180) fun r30=>
   pbind r30 (fun e33=>
    some (.pan e33)) fun q32=>
   some (.ret ((z6.mk 5 0 ((r_0.s_.take (((IntKind.i64.wrap (r_0.at_+n_2))).toNat)).drop ((r_0.at_).toNat))),(zV.mk r_0.s_ (IntKind.i64.wrap (r_0.at_+n_2))))))))
theorem z5M {n:Nat}:K2 (z3t n) 97:=by
 intro r_0 j5 r h
 refine z1y func97 rfl ntmps97 rfl (fun w0 o0=>?_)
 refine zh (al fun b1=>?_)
 refine yn 2 ?_
 refine zd (jr h [0,2] [1,3,2] (fun s (g:Unit)=>[(3,.int .i64 s)]) (fun s g=>[]) (fun _ h _ _ hL5=>?_) ?_)
 ·refine zH (z4U (by kernel_rfl) (by kernel_rfl) ?_)
  refine yu ?_
  refine zu (y_min rfl rfl) ?_
  obtain ⟨hb7,h⟩:=zX h
  refine zu (z5R (l:=r_0.at_) (r:=(min (IntKind.i64.wrap (r_0.at_+2)) (r_0.s_.length:Int))) runUnderlying9 rfl (bi1 (kd:=.i64) rfl) (bi1 (kd:=.i64) rfl) hb7.1 hb7.2.1 hb7.2.2) ?_
  refine yu ?_
  refine z2m ?_
  refine zg (rj [0,2,3,4] [0,1,2] ?_)
  refine yn 2 ?_
  refine ob h 4 [0,2,3] [1,2,3] (fun s=>[(33,.bool s)]) (fun s=>[]) (fun _ h _ _ jh=>?_) ?_
  ·refine z1c 29 (decide ((((r_0.s_.take (((min (IntKind.i64.wrap (r_0.at_+2)) (r_0.s_.length:Int))).toNat)).drop ((r_0.at_).toNat)).length:Int)=2)) rfl (fun ja=>?_) (fun ja=>?_)
   ·replace h:=z2F h ja
    obtain ⟨r14,jl,h⟩:=zJ h
    refine zt (tc [(1,0)] call164 (ziU [61,61,32,33,61,32,60,61,32,62,61,32,46,46] jl)) ?_
    rintro v16 _ ⟨_,⟨_,rfl,rfl⟩,rfl⟩
    refine ys ?_
    refine cl0 [(3,1)] call163 (fun h=>z54 h) h (fun r17 h=>?_)
    refine yn 2 ?_
    exact gb jh [0,1,2] h
   ·replace h:=z2E h ja
    refine yn 2 ?_
    exact gb jh [0,1,2] h
  rintro b8 h
  refine os ?_
  refine yc 1 h (fun _ h=>?_) fun _ h=>?_
  ·refine yn 3 ?_
   exact gj hL5 () [0,2,1] h
  ·exact run_skip (gj hL5 () [0,2,1] h)
 rintro n_2 _ h
 refine rs ?_
 refine zH (z4U (by kernel_rfl) (by kernel_rfl) ?_)
 refine yu ?_
 obtain ⟨hb20,h⟩:=zX h
 refine zu (z5R (l:=r_0.at_) (r:=(IntKind.i64.wrap (r_0.at_+n_2))) runUnderlying9 rfl (bi1 (kd:=.i64) rfl) (bi1 (kd:=.i64) rfl) hb20.1 hb20.2.1 hb20.2.2) ?_
 refine yu ?_
 refine z2m ?_
 refine zg (rj [3,0,2,5] [0,1,2] ?_)
 refine yn 2 ?_
 refine ob h 5 [3,0,2,5] [1,2,3] (fun s=>[(56,.bool s)]) (fun s=>[]) (fun _ h _ _ ji=>?_) ?_
 ·refine z1c 51 (decide (n_2=1)) rfl (fun jb=>?_) (fun jb=>?_)
  ·replace h:=z2F h jb
   refine ys ?_
   obtain ⟨c27,jB,jC,jD,h⟩:=zP h
   refine ys ?_
   obtain ⟨r28,jm,h⟩:=zJ h
   refine zt (tc [] call162 (zoH [123,125,40,41,91,93,44,59,58,61,60,62,43,45,42,47,37] (c27.toNat:Int) jm)) ?_
   rintro _ _ ⟨_,⟨rfl,rfl⟩,rfl⟩
   refine yn 2 ?_
   exact gb ji [0,1,2] h
  ·replace h:=z2E h jb
   refine yn 2 ?_
   exact gb ji [0,1,2] h
 rintro b21 h
 refine os ?_
 refine cp0 [] call161 (fun h=>z9n h) h (fun _ h=>?_)
 refine yn 2 ?_
 refine zc (rj [2,5] [0,1,2] ?_)
 refine yn 4 ?_
 exact fr [0] results97 h
end Go.Proofs.YtcmaoifiiigggaaGreatDoor
