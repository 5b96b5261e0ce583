/-
  Functions of the program, lifted: part 10.
-/
import Derived.Test.YtcmaoifiiigggaaGreatDoorV8Fi
set_option linter.unusedSimpArgs false
set_option linter.unusedVariables false
namespace Go.Proofs.YtcmaoifiiigggaaGreatDoor
open Go.Abs Tryz
set_option maxRecDepth 20000
set_option maxHeartbeats 4000000
def z3c (n:Nat) (q8r:z7→Option (Pn ((List zm)×z7))) (q9r:z7→Option (Pn (zm×z7))) (r_0:z7):Option (Pn (zm×z7)):=
 obind (z1a r_0) fun r3=>
 cond (decide (r3.S=[108,101,116]))
  (bindJ (S := Unit)
   (cond (decide (r3.Kind ≠ 2) || false)
    (obind (z16 r_0) fun r15=>
    pbind r15 (fun e18=>
     some (.stop (.pan e18))) fun q17=>
    some (.go ()))
    (some (.go ())))
  (fun _ =>
   obind (z3Y n (z7.mk r_0.l_ (IntKind.i64.wrap (r_0.i_+1)) r_0.at_) (zm.mk 0 r3.At [] (zi.mk 0 0 [] ([]:List zi)) ([]:List zm) ([]:List zm))) fun r20=>
   pbind r20 (fun e23=>
    some (.pan e23)) fun q22=>
   some (.ret (q22.2,q22.1))))
  (cond (decide (r3.S = [115, 101, 116]))
   (bindJ (S := Unit)
    (cond (decide (r3.Kind ≠ 2) || false)
     (obind (z16 r_0) fun r40=>
     pbind r40 (fun e43=>
      some (.stop (.pan e43))) fun q42=>
     some (.go ()))
     (some (.go ())))
   (fun _ =>
    obind (z41 n (z7.mk r_0.l_ (IntKind.i64.wrap (r_0.i_+1)) r_0.at_) (zm.mk 0 r3.At [] (zi.mk 0 0 [] ([]:List zi)) ([]:List zm) ([]:List zm))) fun r45=>
    pbind r45 (fun e48=>
     some (.pan e48)) fun q47=>
    some (.ret (q47.2,q47.1))))
   (cond (decide (r3.S = [105, 102]))
    (bindJ (S := Unit)
     (cond (decide (r3.Kind ≠ 2) || false)
      (obind (z16 r_0) fun r65=>
      pbind r65 (fun e68=>
       some (.stop (.pan e68))) fun q67=>
      some (.go ()))
      (some (.go ())))
    (fun _ =>
     obind (z3E n q8r q9r (z7.mk r_0.l_ (IntKind.i64.wrap (r_0.i_+1)) r_0.at_) (zm.mk 0 r3.At [] (zi.mk 0 0 [] ([]:List zi)) ([]:List zm) ([]:List zm))) fun r70=>
     pbind r70 (fun e73=>
      some (.pan e73)) fun q72=>
     some (.ret (q72.2,q72.1))))
    (cond (decide (r3.S = [114, 101, 112, 101, 97, 116]))
     (bindJ (S := Unit)
      (cond (decide (r3.Kind ≠ 2) || false)
       (obind (z16 r_0) fun r90=>
       pbind r90 (fun e93=>
        some (.stop (.pan e93))) fun q92=>
       some (.go ()))
       (some (.go ())))
     (fun _ =>
      obind (z3G q8r (z7.mk r_0.l_ (IntKind.i64.wrap (r_0.i_+1)) r_0.at_) (zm.mk 0 r3.At [] (zi.mk 0 0 [] ([]:List zi)) ([]:List zm) ([]:List zm))) fun r95=>
      pbind r95 (fun e98=>
       some (.pan e98)) fun q97=>
      some (.ret (q97.2,q97.1))))
     (cond (decide (r3.S = [108, 111, 103]))
      (bindJ (S := Unit)
       (cond (decide (r3.Kind ≠ 2) || false)
        (obind (z16 r_0) fun r115=>
        pbind r115 (fun e118=>
         some (.stop (.pan e118))) fun q117=>
        some (.go ()))
        (some (.go ())))
      (fun _ =>
       obind (z3Z n (z7.mk r_0.l_ (IntKind.i64.wrap (r_0.i_+1)) r_0.at_) (zm.mk 0 r3.At [] (zi.mk 0 0 [] ([]:List zi)) ([]:List zm) ([]:List zm))) fun r120=>
       pbind r120 (fun e123=>
        some (.pan e123)) fun q122=>
       some (.ret (q122.2,q122.1))))
      (cond (decide (r3.S = [100, 101, 110, 121]))
       (bindJ (S := Unit)
        (cond (decide (r3.Kind ≠ 2) || false)
         (obind (z16 r_0) fun r140=>
         pbind r140 (fun e143=>
          some (.stop (.pan e143))) fun q142=>
         some (.go ()))
         (some (.go ())))
       (fun _ =>
        obind (z3R n (z7.mk r_0.l_ (IntKind.i64.wrap (r_0.i_+1)) r_0.at_) (zm.mk 0 r3.At [] (zi.mk 0 0 [] ([]:List zi)) ([]:List zm) ([]:List zm))) fun r145=>
        pbind r145 (fun e148=>
         some (.pan e148)) fun q147=>
        some (.ret (q147.2,q147.1))))
       (cond (decide (r3.S = [114, 101, 112, 108, 121]))
        (bindJ (S := Unit)
         (cond (decide (r3.Kind ≠ 2) || false)
          (obind (z16 r_0) fun r165=>
          pbind r165 (fun e168=>
           some (.stop (.pan e168))) fun q167=>
          some (.go ()))
          (some (.go ())))
        (fun _ =>
         obind (z3L n (z7.mk r_0.l_ (IntKind.i64.wrap (r_0.i_+1)) r_0.at_) (zm.mk 0 r3.At [] (zi.mk 0 0 [] ([]:List zi)) ([]:List zm) ([]:List zm))) fun r170=>
         pbind r170 (fun e173=>
          some (.pan e173)) fun q172=>
         some (.ret (q172.2,q172.1))))
        (bindJ (S := Unit)
         (cond (decide (r3.Kind ≠ 2) || true)
          (obind (z16 r_0) fun r189=>
          pbind r189 (fun e192=>
           some (.stop (.pan e192))) fun q191=>
          some (.go ()))
          (some (.go ())))
        (fun _ =>
         none))))))))
theorem z6V {n:Nat} {q8r:z7→Option (Pn ((List zm)×z7))} (q10h:K10 q8r 82) {q9r:z7→Option (Pn (zm×z7))} (q11h:K11 q9r 145):K11 (z3c n q8r q9r) 145:=by
 intro r_0 j0 j1 r h
 refine z1y func145 rfl ntmps145 rfl (fun w0 o0=>?_)
 refine zh (al fun b1=>?_)
 refine za (zt (ziC) ?_)
 rintro _ _ ⟨b2,rfl,rfl⟩
 refine zB (retell 3 (g:=mapis b2 (mcells (fun l:List UInt8=>Value.string (bs l)) (fun v:Value=>v) ([]:List (List UInt8×Value)))) rfl rfl) ?_
 refine ys ?_
 refine zt (z2L (κ:=List UInt8) (G:=fun v:Value=>v) (k:=[108,101,116]) (v:=.func (.func 187) #[boxP j0 0] #[]) 3 z4A runUnderlying240 runUnderlying9 rfl rfl rfl rfl true) ?_
 rintro _ _ ⟨rfl,rfl⟩
 refine zB (retell 3 (g:=mapis b2 (mcells (fun l:List UInt8=>Value.string (bs l)) (fun v:Value=>v) ([([108,101,116],.func (.func 187) #[boxP j0 0] #[])]:List (List UInt8×Value)))) rfl (by kernel_rfl)) ?_
 refine ys ?_
 refine zt (z2L (κ:=List UInt8) (G:=fun v:Value=>v) (k:=[115,101,116]) (v:=.func (.func 188) #[boxP j0 0] #[]) 3 z4A runUnderlying240 runUnderlying9 rfl rfl rfl rfl true) ?_
 rintro _ _ ⟨rfl,rfl⟩
 refine zB (retell 3 (g:=mapis b2 (mcells (fun l:List UInt8=>Value.string (bs l)) (fun v:Value=>v) ([([108,101,116],.func (.func 187) #[boxP j0 0] #[]),([115,101,116],.func (.func 188) #[boxP j0 0] #[])]:List (List UInt8×Value)))) rfl (by kernel_rfl)) ?_
 refine ys ?_
 refine zt (z2L (κ:=List UInt8) (G:=fun v:Value=>v) (k:=[105,102]) (v:=.func (.func 189) #[boxP j0 0] #[]) 3 z4A runUnderlying240 runUnderlying9 rfl rfl rfl rfl true) ?_
 rintro _ _ ⟨rfl,rfl⟩
 refine zB (retell 3 (g:=mapis b2 (mcells (fun l:List UInt8=>Value.string (bs l)) (fun v:Value=>v) ([([108,101,116],.func (.func 187) #[boxP j0 0] #[]),([115,101,116],.func (.func 188) #[boxP j0 0] #[]),([105,102],.func (.func 189) #[boxP j0 0] #[])]:List (List UInt8×Value)))) rfl (by kernel_rfl)) ?_
 refine ys ?_
 refine zt (z2L (κ:=List UInt8) (G:=fun v:Value=>v) (k:=[114,101,112,101,97,116]) (v:=.func (.func 190) #[boxP j0 0] #[]) 3 z4A runUnderlying240 runUnderlying9 rfl rfl rfl rfl true) ?_
 rintro _ _ ⟨rfl,rfl⟩
 refine zB (retell 3 (g:=mapis b2 (mcells (fun l:List UInt8=>Value.string (bs l)) (fun v:Value=>v) ([([108,101,116],.func (.func 187) #[boxP j0 0] #[]),([115,101,116],.func (.func 188) #[boxP j0 0] #[]),([105,102],.func (.func 189) #[boxP j0 0] #[]),([114,101,112,101,97,116],.func (.func 190) #[boxP j0 0] #[])]:List (List UInt8×Value)))) rfl (by kernel_rfl)) ?_
 refine ys ?_
 refine oh [0,1,2,3] [ro j1 3 (r_0.l_.map z6.enc),box j0 [j1,.int .i64 r_0.i_,.int .i64 r_0.at_],box b1 [.int .i64 0,.int .i64 0,.string (bs []),.int .i64 0,.int .i64 0,.string (bs []),.slice none 0 0,.slice none 0 0,.slice none 0 0],mapis b2 (mcells (fun l:List UInt8=>Value.string (bs l)) (fun v:Value=>v) ([([108,101,116],.func (.func 187) #[boxP j0 0] #[]),([115,101,116],.func (.func 188) #[boxP j0 0] #[]),([105,102],.func (.func 189) #[boxP j0 0] #[]),([114,101,112,101,97,116],.func (.func 190) #[boxP j0 0] #[])]:List (List UInt8×Value)))] ?_
 refine zt (z2L (κ:=List UInt8) (G:=fun v:Value=>v) (k:=[108,111,103]) (v:=.func (.func 191) #[boxP j0 0] #[]) 3 z4A runUnderlying240 runUnderlying9 rfl rfl rfl rfl true) ?_
 rintro _ _ ⟨rfl,rfl⟩
 refine zB (retell 3 (g:=mapis b2 (mcells (fun l:List UInt8=>Value.string (bs l)) (fun v:Value=>v) ([([108,101,116],.func (.func 187) #[boxP j0 0] #[]),([115,101,116],.func (.func 188) #[boxP j0 0] #[]),([105,102],.func (.func 189) #[boxP j0 0] #[]),([114,101,112,101,97,116],.func (.func 190) #[boxP j0 0] #[]),([108,111,103],.func (.func 191) #[boxP j0 0] #[])]:List (List UInt8×Value)))) rfl (by kernel_rfl)) ?_
 refine ys ?_
 refine zt (z2L (κ:=List UInt8) (G:=fun v:Value=>v) (k:=[100,101,110,121]) (v:=.func (.func 192) #[boxP j0 0] #[]) 3 z4A runUnderlying240 runUnderlying9 rfl rfl rfl rfl true) ?_
 rintro _ _ ⟨rfl,rfl⟩
 refine zB (retell 3 (g:=mapis b2 (mcells (fun l:List UInt8=>Value.string (bs l)) (fun v:Value=>v) ([([108,101,116],.func (.func 187) #[boxP j0 0] #[]),([115,101,116],.func (.func 188) #[boxP j0 0] #[]),([105,102],.func (.func 189) #[boxP j0 0] #[]),([114,101,112,101,97,116],.func (.func 190) #[boxP j0 0] #[]),([108,111,103],.func (.func 191) #[boxP j0 0] #[]),([100,101,110,121],.func (.func 192) #[boxP j0 0] #[])]:List (List UInt8×Value)))) rfl (by kernel_rfl)) ?_
 refine ys ?_
 refine zt (z2L (κ:=List UInt8) (G:=fun v:Value=>v) (k:=[114,101,112,108,121]) (v:=.func (.func 193) #[boxP j0 0] #[]) 3 z4A runUnderlying240 runUnderlying9 rfl rfl rfl rfl true) ?_
 rintro _ _ ⟨rfl,rfl⟩
 refine zB (retell 3 (g:=mapis b2 (mcells (fun l:List UInt8=>Value.string (bs l)) (fun v:Value=>v) ([([108,101,116],.func (.func 187) #[boxP j0 0] #[]),([115,101,116],.func (.func 188) #[boxP j0 0] #[]),([105,102],.func (.func 189) #[boxP j0 0] #[]),([114,101,112,101,97,116],.func (.func 190) #[boxP j0 0] #[]),([108,111,103],.func (.func 191) #[boxP j0 0] #[]),([100,101,110,121],.func (.func 192) #[boxP j0 0] #[]),([114,101,112,108,121],.func (.func 193) #[boxP j0 0] #[])]:List (List UInt8×Value)))) rfl (by kernel_rfl)) ?_
 refine ys ?_
 refine zc (rj [0,2,3] [0,1,2,3] ?_)
 refine yn 2 ?_
 refine cl0 [(0,0),(1,2)] call75 (fun h=>z1e h) h (fun r3 h=>?_)
 refine al fun b5=>?_
 refine yn 3 ?_
 rcases cond2 h with ⟨he6,h⟩ | ⟨he6,h⟩
 ·skip
  refine zq ((zaq (κ:=List UInt8) (G:=fun v:Value=>v) (k:=r3.S) (d0:=.nilFunc) 3 z4A runUnderlying240 runUnderlying9 zeroValue239 rfl rfl rfl).to (v':=.func (.func 187) #[boxP j0 0] #[]) (zgt he6 (by kernel_rfl))) ?_
  refine oh [0,2,4,5] [ro j1 3 (r_0.l_.map z6.enc),box b1 [.int .i64 0,.int .i64 0,.string (bs []),.int .i64 0,.int .i64 0,.string (bs []),.slice none 0 0,.slice none 0 0,.slice none 0 0],box j0 [j1,.int .i64 r_0.i_,.int .i64 r_0.at_],box b5 [.int .i64 r3.Kind,.int .i64 r3.At,.string (bs r3.S)]] ?_
  refine ys ?_
  refine zd (jr h [0,2,4,5] [3,1,2,4] (fun s (g:Unit)=>[]) (fun s g=>[]) (fun _ h ho8 _ hL9=>?_) ?_)
  ·refine yn 2 ?_
   refine oe 3 [0,2,4,5] [1,2,3,4] (fun s=>[(35,.bool s)]) (decide (r3.Kind≠2) || false) (fun _ ji=>?_) ?_
   ·refine z1c 32 (decide (r3.Kind≠2)) rfl (fun je=>?_) (fun je=>?_)
    ·skip
     refine yn 2 ?_
     exact gc ji true [0,1,2,3] (hi:=by rw [je]; simp)
    ·skip
     refine ys ?_
     refine zq (zjG false runUnderlying239 rfl (.inr ⟨⟨_,_,_,rfl⟩,rfl⟩)) ?_
     refine yn 2 ?_
     exact gc ji false [0,1,2,3] (hi:=by rw [je]; simp)
   refine os ?_
   refine yc 1 h (fun _ h=>?_) fun _ h=>?_
   ·refine yn 2 ?_
    refine cp0 [(0,0),(2,2)] call74 (fun h=>z15 h) h (fun _ h=>?_) (hp:=fun e h=>by obtain rfl:=zU h; obtain rfl:=zM ho8; exact finP ⟨_,rfl,rfl⟩)
    exact zr (gj hL9 () [4,0,1,3] h)
   ·exact run_skip (gj hL9 () [2,0,1,3] h)
  rintro _ _ h
  refine rs ?_
  refine yn 2 ?_
  refine zc (rj [2,4,5] [0,1,2,3] ?_)
  refine yn 2 ?_
  refine al fun b19=>?_
  refine yn 3 ?_
  refine zB (z1q zj) ?_
  refine zB (z1q zE) ?_
  refine zB (z1q zE) ?_
  refine cp4 [(1,0),(0,2),(5,2),(6,2),(7,2),(4,2)] call187 (fun h=>z8R h) h (fun q22 v24 v25 v26 v27 h=>?_)
  refine zc (rj [2,6] [2,8,9,10,11,12,13] ?_)
  refine yn 2 ?_
  refine zd (rj [2] [0,1,2,3,4,5] ?_)
  refine zA ?_
  exact fr [3,4,5,1,2] results145 h
 rcases cond2 h with ⟨he31,h⟩ | ⟨he31,h⟩
 ·skip
  refine zq ((zaq (κ:=List UInt8) (G:=fun v:Value=>v) (k:=r3.S) (d0:=.nilFunc) 3 z4A runUnderlying240 runUnderlying9 zeroValue239 rfl rfl rfl).to (v':=.func (.func 188) #[boxP j0 0] #[]) (zgt he31 (by kernel_rfl))) ?_
  refine oh [0,2,4,5] [ro j1 3 (r_0.l_.map z6.enc),box b1 [.int .i64 0,.int .i64 0,.string (bs []),.int .i64 0,.int .i64 0,.string (bs []),.slice none 0 0,.slice none 0 0,.slice none 0 0],box j0 [j1,.int .i64 r_0.i_,.int .i64 r_0.at_],box b5 [.int .i64 r3.Kind,.int .i64 r3.At,.string (bs r3.S)]] ?_
  refine ys ?_
  refine zd (jr h [0,2,4,5] [3,1,2,4] (fun s (g:Unit)=>[]) (fun s g=>[]) (fun _ h jv _ jj=>?_) ?_)
  ·refine yn 2 ?_
   refine oe 3 [0,2,4,5] [1,2,3,4] (fun s=>[(35,.bool s)]) (decide (r3.Kind≠2) || false) (fun _ jk=>?_) ?_
   ·refine z1c 32 (decide (r3.Kind≠2)) rfl (fun jf=>?_) (fun jf=>?_)
    ·skip
     refine yn 2 ?_
     exact gc jk true [0,1,2,3] (hi:=by rw [jf]; simp)
    ·skip
     refine ys ?_
     refine zq (zjG false runUnderlying239 rfl (.inr ⟨⟨_,_,_,rfl⟩,rfl⟩)) ?_
     refine yn 2 ?_
     exact gc jk false [0,1,2,3] (hi:=by rw [jf]; simp)
   refine os ?_
   refine yc 1 h (fun _ h=>?_) fun _ h=>?_
   ·refine yn 2 ?_
    refine cp0 [(0,0),(2,2)] call74 (fun h=>z15 h) h (fun _ h=>?_) (hp:=fun e h=>by obtain rfl:=zU h; obtain rfl:=zM jv; exact finP ⟨_,rfl,rfl⟩)
    exact zr (gj jj () [4,0,1,3] h)
   ·exact run_skip (gj jj () [2,0,1,3] h)
  rintro _ _ h
  refine rs ?_
  refine yn 2 ?_
  refine zc (rj [2,4,5] [0,1,2,3] ?_)
  refine yn 2 ?_
  refine al fun b44=>?_
  refine yn 3 ?_
  refine zB (z1q zj) ?_
  refine zB (z1q zE) ?_
  refine zB (z1q zE) ?_
  refine cp4 [(1,0),(0,2),(5,2),(6,2),(7,2),(4,2)] call188 (fun h=>z8U h) h (fun q47 v49 v50 v51 v52 h=>?_)
  refine zc (rj [2,6] [2,8,9,10,11,12,13] ?_)
  refine yn 2 ?_
  refine zd (rj [2] [0,1,2,3,4,5] ?_)
  refine zA ?_
  exact fr [3,4,5,1,2] results145 h
 rcases cond2 h with ⟨he56,h⟩ | ⟨he56,h⟩
 ·skip
  refine zq ((zaq (κ:=List UInt8) (G:=fun v:Value=>v) (k:=r3.S) (d0:=.nilFunc) 3 z4A runUnderlying240 runUnderlying9 zeroValue239 rfl rfl rfl).to (v':=.func (.func 189) #[boxP j0 0] #[]) (zgt he56 (by kernel_rfl))) ?_
  refine oh [0,2,4,5] [ro j1 3 (r_0.l_.map z6.enc),box b1 [.int .i64 0,.int .i64 0,.string (bs []),.int .i64 0,.int .i64 0,.string (bs []),.slice none 0 0,.slice none 0 0,.slice none 0 0],box j0 [j1,.int .i64 r_0.i_,.int .i64 r_0.at_],box b5 [.int .i64 r3.Kind,.int .i64 r3.At,.string (bs r3.S)]] ?_
  refine ys ?_
  refine zd (jr h [0,2,4,5] [3,1,2,4] (fun s (g:Unit)=>[]) (fun s g=>[]) (fun _ h jw _ jl=>?_) ?_)
  ·refine yn 2 ?_
   refine oe 3 [0,2,4,5] [1,2,3,4] (fun s=>[(35,.bool s)]) (decide (r3.Kind≠2) || false) (fun _ jm=>?_) ?_
   ·refine z1c 32 (decide (r3.Kind≠2)) rfl (fun jg=>?_) (fun jg=>?_)
    ·skip
     refine yn 2 ?_
     exact gc jm true [0,1,2,3] (hi:=by rw [jg]; simp)
    ·skip
     refine ys ?_
     refine zq (zjG false runUnderlying239 rfl (.inr ⟨⟨_,_,_,rfl⟩,rfl⟩)) ?_
     refine yn 2 ?_
     exact gc jm false [0,1,2,3] (hi:=by rw [jg]; simp)
   refine os ?_
   refine yc 1 h (fun _ h=>?_) fun _ h=>?_
   ·refine yn 2 ?_
    refine cp0 [(0,0),(2,2)] call74 (fun h=>z15 h) h (fun _ h=>?_) (hp:=fun e h=>by obtain rfl:=zU h; obtain rfl:=zM jw; exact finP ⟨_,rfl,rfl⟩)
    exact zr (gj jl () [4,0,1,3] h)
   ·exact run_skip (gj jl () [2,0,1,3] h)
  rintro _ _ h
  refine rs ?_
  refine yn 2 ?_
  refine zc (rj [2,4,5] [0,1,2,3] ?_)
  refine yn 2 ?_
  refine al fun b69=>?_
  refine yn 3 ?_
  refine zB (z1q zj) ?_
  refine zB (z1q zE) ?_
  refine zB (z1q zE) ?_
  refine cp4 [(1,0),(0,2),(5,2),(6,2),(7,2),(4,2)] call189 (fun h=>z7U q10h q11h h) h (fun q72 v74 v75 v76 v77 h=>?_)
  refine zc (rj [2,6] [2,8,9,10,11,12,13] ?_)
  refine yn 2 ?_
  refine zd (rj [2] [0,1,2,3,4,5] ?_)
  refine zA ?_
  exact fr [3,4,5,1,2] results145 h
 rcases cond2 h with ⟨he81,h⟩ | ⟨he81,h⟩
 ·skip
  refine zq ((zaq (κ:=List UInt8) (G:=fun v:Value=>v) (k:=r3.S) (d0:=.nilFunc) 3 z4A runUnderlying240 runUnderlying9 zeroValue239 rfl rfl rfl).to (v':=.func (.func 190) #[boxP j0 0] #[]) (zgt he81 (by kernel_rfl))) ?_
  refine oh [0,2,4,5] [ro j1 3 (r_0.l_.map z6.enc),box b1 [.int .i64 0,.int .i64 0,.string (bs []),.int .i64 0,.int .i64 0,.string (bs []),.slice none 0 0,.slice none 0 0,.slice none 0 0],box j0 [j1,.int .i64 r_0.i_,.int .i64 r_0.at_],box b5 [.int .i64 r3.Kind,.int .i64 r3.At,.string (bs r3.S)]] ?_
  refine ys ?_
  refine zd (jr h [0,2,4,5] [3,1,2,4] (fun s (g:Unit)=>[]) (fun s g=>[]) (fun _ h jx _ jo=>?_) ?_)
  ·refine yn 2 ?_
   refine oe 3 [0,2,4,5] [1,2,3,4] (fun s=>[(35,.bool s)]) (decide (r3.Kind≠2) || false) (fun _ jp=>?_) ?_
   ·refine z1c 32 (decide (r3.Kind≠2)) rfl (fun jh=>?_) (fun jh=>?_)
    ·skip
     refine yn 2 ?_
     exact gc jp true [0,1,2,3] (hi:=by rw [jh]; simp)
    ·skip
     refine ys ?_
     refine zq (zjG false runUnderlying239 rfl (.inr ⟨⟨_,_,_,rfl⟩,rfl⟩)) ?_
     refine yn 2 ?_
     exact gc jp false [0,1,2,3] (hi:=by rw [jh]; simp)
   refine os ?_
   refine yc 1 h (fun _ h=>?_) fun _ h=>?_
   ·refine yn 2 ?_
    refine cp0 [(0,0),(2,2)] call74 (fun h=>z15 h) h (fun _ h=>?_) (hp:=fun e h=>by obtain rfl:=zU h; obtain rfl:=zM jx; exact finP ⟨_,rfl,rfl⟩)
    exact zr (gj jo () [4,0,1,3] h)
   ·exact run_skip (gj jo () [2,0,1,3] h)
  rintro _ _ h
  refine rs ?_
  refine yn 2 ?_
  refine zc (rj [2,4,5] [0,1,2,3] ?_)
  refine yn 2 ?_
  refine al fun b94=>?_
  refine yn 3 ?_
  refine zB (z1q zj) ?_
  refine zB (z1q zE) ?_
  refine zB (z1q zE) ?_
  refine cp4 [(1,0),(0,2),(5,2),(6,2),(7,2),(4,2)] call190 (fun h=>z7Y q10h h) h (fun q97 v99 v100 v101 v102 h=>?_)
  refine zc (rj [2,6] [2,8,9,10,11,12,13] ?_)
  refine yn 2 ?_
  refine zd (rj [2] [0,1,2,3,4,5] ?_)
  refine zA ?_
  exact fr [3,4,5,1,2] results145 h
 rcases cond2 h with ⟨he106,h⟩ | ⟨he106,h⟩
 ·skip
  refine zq ((zaq (κ:=List UInt8) (G:=fun v:Value=>v) (k:=r3.S) (d0:=.nilFunc) 3 z4A runUnderlying240 runUnderlying9 zeroValue239 rfl rfl rfl).to (v':=.func (.func 191) #[boxP j0 0] #[]) (zgt he106 (by kernel_rfl))) ?_
  refine oh [0,2,4,5] [ro j1 3 (r_0.l_.map z6.enc),box b1 [.int .i64 0,.int .i64 0,.string (bs []),.int .i64 0,.int .i64 0,.string (bs []),.slice none 0 0,.slice none 0 0,.slice none 0 0],box j0 [j1,.int .i64 r_0.i_,.int .i64 r_0.at_],box b5 [.int .i64 r3.Kind,.int .i64 r3.At,.string (bs r3.S)]] ?_
  refine ys ?_
  refine zd (jr h [0,2,4,5] [3,1,2,4] (fun s (g:Unit)=>[]) (fun s g=>[]) (fun _ h jq _ j6=>?_) ?_)
  ·refine yn 2 ?_
   refine oe 3 [0,2,4,5] [1,2,3,4] (fun s=>[(35,.bool s)]) (decide (r3.Kind≠2) || false) (fun _ j7=>?_) ?_
   ·refine z1c 32 (decide (r3.Kind≠2)) rfl (fun j2=>?_) (fun j2=>?_)
    ·skip
     refine yn 2 ?_
     exact gc j7 true [0,1,2,3] (hi:=by rw [j2]; simp)
    ·skip
     refine ys ?_
     refine zq (zjG false runUnderlying239 rfl (.inr ⟨⟨_,_,_,rfl⟩,rfl⟩)) ?_
     refine yn 2 ?_
     exact gc j7 false [0,1,2,3] (hi:=by rw [j2]; simp)
   refine os ?_
   refine yc 1 h (fun _ h=>?_) fun _ h=>?_
   ·refine yn 2 ?_
    refine cp0 [(0,0),(2,2)] call74 (fun h=>z15 h) h (fun _ h=>?_) (hp:=fun e h=>by obtain rfl:=zU h; obtain rfl:=zM jq; exact finP ⟨_,rfl,rfl⟩)
    exact zr (gj j6 () [4,0,1,3] h)
   ·exact run_skip (gj j6 () [2,0,1,3] h)
  rintro _ _ h
  refine rs ?_
  refine yn 2 ?_
  refine zc (rj [2,4,5] [0,1,2,3] ?_)
  refine yn 2 ?_
  refine al fun b119=>?_
  refine yn 3 ?_
  refine zB (z1q zj) ?_
  refine zB (z1q zE) ?_
  refine zB (z1q zE) ?_
  refine cp4 [(1,0),(0,2),(5,2),(6,2),(7,2),(4,2)] call191 (fun h=>z8S h) h (fun q122 v124 v125 v126 v127 h=>?_)
  refine zc (rj [2,6] [2,8,9,10,11,12,13] ?_)
  refine yn 2 ?_
  refine zd (rj [2] [0,1,2,3,4,5] ?_)
  refine zA ?_
  exact fr [3,4,5,1,2] results145 h
 rcases cond2 h with ⟨he131,h⟩ | ⟨he131,h⟩
 ·skip
  refine zq ((zaq (κ:=List UInt8) (G:=fun v:Value=>v) (k:=r3.S) (d0:=.nilFunc) 3 z4A runUnderlying240 runUnderlying9 zeroValue239 rfl rfl rfl).to (v':=.func (.func 192) #[boxP j0 0] #[]) (zgt he131 (by kernel_rfl))) ?_
  refine oh [0,2,4,5] [ro j1 3 (r_0.l_.map z6.enc),box b1 [.int .i64 0,.int .i64 0,.string (bs []),.int .i64 0,.int .i64 0,.string (bs []),.slice none 0 0,.slice none 0 0,.slice none 0 0],box j0 [j1,.int .i64 r_0.i_,.int .i64 r_0.at_],box b5 [.int .i64 r3.Kind,.int .i64 r3.At,.string (bs r3.S)]] ?_
  refine ys ?_
  refine zd (jr h [0,2,4,5] [3,1,2,4] (fun s (g:Unit)=>[]) (fun s g=>[]) (fun _ h js _ j8=>?_) ?_)
  ·refine yn 2 ?_
   refine oe 3 [0,2,4,5] [1,2,3,4] (fun s=>[(35,.bool s)]) (decide (r3.Kind≠2) || false) (fun _ j9=>?_) ?_
   ·refine z1c 32 (decide (r3.Kind≠2)) rfl (fun j3=>?_) (fun j3=>?_)
    ·skip
     refine yn 2 ?_
     exact gc j9 true [0,1,2,3] (hi:=by rw [j3]; simp)
    ·skip
     refine ys ?_
     refine zq (zjG false runUnderlying239 rfl (.inr ⟨⟨_,_,_,rfl⟩,rfl⟩)) ?_
     refine yn 2 ?_
     exact gc j9 false [0,1,2,3] (hi:=by rw [j3]; simp)
   refine os ?_
   refine yc 1 h (fun _ h=>?_) fun _ h=>?_
   ·refine yn 2 ?_
    refine cp0 [(0,0),(2,2)] call74 (fun h=>z15 h) h (fun _ h=>?_) (hp:=fun e h=>by obtain rfl:=zU h; obtain rfl:=zM js; exact finP ⟨_,rfl,rfl⟩)
    exact zr (gj j8 () [4,0,1,3] h)
   ·exact run_skip (gj j8 () [2,0,1,3] h)
  rintro _ _ h
  refine rs ?_
  refine yn 2 ?_
  refine zc (rj [2,4,5] [0,1,2,3] ?_)
  refine yn 2 ?_
  refine al fun b144=>?_
  refine yn 3 ?_
  refine zB (z1q zj) ?_
  refine zB (z1q zE) ?_
  refine zB (z1q zE) ?_
  refine cp4 [(1,0),(0,2),(5,2),(6,2),(7,2),(4,2)] call192 (fun h=>z8J h) h (fun q147 v149 v150 v151 v152 h=>?_)
  refine zc (rj [2,6] [2,8,9,10,11,12,13] ?_)
  refine yn 2 ?_
  refine zd (rj [2] [0,1,2,3,4,5] ?_)
  refine zA ?_
  exact fr [3,4,5,1,2] results145 h
 rcases cond2 h with ⟨he156,h⟩ | ⟨he156,h⟩
 ·skip
  refine zq ((zaq (κ:=List UInt8) (G:=fun v:Value=>v) (k:=r3.S) (d0:=.nilFunc) 3 z4A runUnderlying240 runUnderlying9 zeroValue239 rfl rfl rfl).to (v':=.func (.func 193) #[boxP j0 0] #[]) (zgt he156 (by kernel_rfl))) ?_
  refine oh [0,2,4,5] [ro j1 3 (r_0.l_.map z6.enc),box b1 [.int .i64 0,.int .i64 0,.string (bs []),.int .i64 0,.int .i64 0,.string (bs []),.slice none 0 0,.slice none 0 0,.slice none 0 0],box j0 [j1,.int .i64 r_0.i_,.int .i64 r_0.at_],box b5 [.int .i64 r3.Kind,.int .i64 r3.At,.string (bs r3.S)]] ?_
  refine ys ?_
  refine zd (jr h [0,2,4,5] [3,1,2,4] (fun s (g:Unit)=>[]) (fun s g=>[]) (fun _ h jt _ ja=>?_) ?_)
  ·refine yn 2 ?_
   refine oe 3 [0,2,4,5] [1,2,3,4] (fun s=>[(35,.bool s)]) (decide (r3.Kind≠2) || false) (fun _ jb=>?_) ?_
   ·refine z1c 32 (decide (r3.Kind≠2)) rfl (fun j4=>?_) (fun j4=>?_)
    ·skip
     refine yn 2 ?_
     exact gc jb true [0,1,2,3] (hi:=by rw [j4]; simp)
    ·skip
     refine ys ?_
     refine zq (zjG false runUnderlying239 rfl (.inr ⟨⟨_,_,_,rfl⟩,rfl⟩)) ?_
     refine yn 2 ?_
     exact gc jb false [0,1,2,3] (hi:=by rw [j4]; simp)
   refine os ?_
   refine yc 1 h (fun _ h=>?_) fun _ h=>?_
   ·refine yn 2 ?_
    refine cp0 [(0,0),(2,2)] call74 (fun h=>z15 h) h (fun _ h=>?_) (hp:=fun e h=>by obtain rfl:=zU h; obtain rfl:=zM jt; exact finP ⟨_,rfl,rfl⟩)
    exact zr (gj ja () [4,0,1,3] h)
   ·exact run_skip (gj ja () [2,0,1,3] h)
  rintro _ _ h
  refine rs ?_
  refine yn 2 ?_
  refine zc (rj [2,4,5] [0,1,2,3] ?_)
  refine yn 2 ?_
  refine al fun b169=>?_
  refine yn 3 ?_
  refine zB (z1q zj) ?_
  refine zB (z1q zE) ?_
  refine zB (z1q zE) ?_
  refine cp4 [(1,0),(0,2),(5,2),(6,2),(7,2),(4,2)] call193 (fun h=>z8a h) h (fun q172 v174 v175 v176 v177 h=>?_)
  refine zc (rj [2,6] [2,8,9,10,11,12,13] ?_)
  refine yn 2 ?_
  refine zd (rj [2] [0,1,2,3,4,5] ?_)
  refine zA ?_
  exact fr [3,4,5,1,2] results145 h
 refine zq ((zaq (κ:=List UInt8) (G:=fun v:Value=>v) (k:=r3.S) (d0:=.nilFunc) 3 z4A runUnderlying240 runUnderlying9 zeroValue239 rfl rfl rfl).to (v':=.nilFunc) (zoR (by intro p hp; simp only [y1,y0,or_false] at hp; rcases hp with rfl | rfl | rfl | rfl | rfl | rfl | rfl <;> assumption))) ?_
 refine oh [0,2,4,5] [ro j1 3 (r_0.l_.map z6.enc),box b1 [.int .i64 0,.int .i64 0,.string (bs []),.int .i64 0,.int .i64 0,.string (bs []),.slice none 0 0,.slice none 0 0,.slice none 0 0],box j0 [j1,.int .i64 r_0.i_,.int .i64 r_0.at_],box b5 [.int .i64 r3.Kind,.int .i64 r3.At,.string (bs r3.S)]] ?_
 refine ys ?_
 refine zd (jr h [0,2,4,5] [3,1,2,4] (fun s (g:Unit)=>[]) (fun s g=>[]) (fun _ h ju _ jc=>?_) ?_)
 ·refine yn 2 ?_
  refine oe 3 [0,2,4,5] [1,2,3,4] (fun s=>[(35,.bool s)]) (decide (r3.Kind≠2) || true) (fun _ jd=>?_) ?_
  ·refine z1c 32 (decide (r3.Kind≠2)) rfl (fun j5=>?_) (fun j5=>?_)
   ·skip
    refine yn 2 ?_
    exact gc jd true [0,1,2,3] (hi:=by rw [j5]; simp)
   ·skip
    refine ys ?_
    refine zq (zjG true runUnderlying239 rfl (.inl ⟨rfl,rfl⟩)) ?_
    refine yn 2 ?_
    exact gc jd true [0,1,2,3] (hi:=by rw [j5]; simp)
  refine os ?_
  refine yc 1 h (fun _ h=>?_) fun _ h=>?_
  ·refine yn 2 ?_
   refine cp0 [(0,0),(2,2)] call74 (fun h=>z15 h) h (fun _ h=>?_) (hp:=fun e h=>by obtain rfl:=zU h; obtain rfl:=zM ju; exact finP ⟨_,rfl,rfl⟩)
   exact zr (gj jc () [4,0,1,3] h)
  ·exact run_skip (gj jc () [2,0,1,3] h)
 rintro _ _ h
 refine rs ?_
 refine yn 2 ?_
 refine zc (rj [2,4,5] [0,1,2,3] ?_)
 refine yn 2 ?_
 refine al fun b193=>?_
 refine yn 3 ?_
 cases h
def z2j:Nat→(z7→Option (Pn ((List zm)×z7)))→z7→Option (Pn (zm×z7))
 | 0,_=>fun _=>none
 | n+1,q8r=>z3c n q8r (z2j n q8r)
theorem z5p {n:Nat} {q8r:z7→Option (Pn ((List zm)×z7))} (q10h:K10 q8r 82):K11 (z2j n q8r) 145:=by
 induction n with
 | zero=>intro _ _ _ _  h; cases h
 | succ n ih=>exact z6V q10h ih
end Go.Proofs.YtcmaoifiiigggaaGreatDoor
