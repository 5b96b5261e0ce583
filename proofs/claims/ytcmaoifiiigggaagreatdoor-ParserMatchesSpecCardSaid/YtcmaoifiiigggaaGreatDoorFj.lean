/-
  Functions of the program, lifted: part 10.
-/
import Derived.Test.YtcmaoifiiigggaaGreatDoorFi
set_option linter.unusedSimpArgs false
set_option linter.unusedVariables false
namespace Go.Proofs.YtcmaoifiiigggaaGreatDoor
open Go.Abs
set_option maxRecDepth 20000
set_option maxHeartbeats 4000000
def z3c (n:Nat) (rec_weirgate_parser_reader_block_82:z7→Option (Pn ((List zm)×z7))) (rec_weirgate_parser_reader_stmt_145:z7→Option (Pn (zm×z7))) (r_0:z7):Option (Pn (zm×z7)):=
 obind (z1a r_0) fun r3=>
 cond (decide (r3.S=[108,101,116]))
  (bindJ (S := Unit)
   (cond (decide (r3.Kind ≠ 2) || false)
    (obind (z16 r_0) fun r15=>
    pbind r15 (fun e18=>
     some (.stop (.pan e18))) fun q17=>
    some (.go ()))
    (some (.go ())))
  (fun _ =>
   obind (z3Y n (z7.mk r_0.l_ (IntKind.i64.wrap (r_0.i_+1)) r_0.at_) (zm.mk 0 r3.At [] (zi.mk 0 0 [] ([]:List zi)) ([]:List zm) ([]:List zm))) fun r20=>
   pbind r20 (fun e23=>
    some (.pan e23)) fun q22=>
   some (.ret (q22.2,q22.1))))
  (cond (decide (r3.S = [115, 101, 116]))
   (bindJ (S := Unit)
    (cond (decide (r3.Kind ≠ 2) || false)
     (obind (z16 r_0) fun r40=>
     pbind r40 (fun e43=>
      some (.stop (.pan e43))) fun q42=>
     some (.go ()))
     (some (.go ())))
   (fun _ =>
    obind (z41 n (z7.mk r_0.l_ (IntKind.i64.wrap (r_0.i_+1)) r_0.at_) (zm.mk 0 r3.At [] (zi.mk 0 0 [] ([]:List zi)) ([]:List zm) ([]:List zm))) fun r45=>
    pbind r45 (fun e48=>
     some (.pan e48)) fun q47=>
    some (.ret (q47.2,q47.1))))
   (cond (decide (r3.S = [105, 102]))
    (bindJ (S := Unit)
     (cond (decide (r3.Kind ≠ 2) || false)
      (obind (z16 r_0) fun r65=>
      pbind r65 (fun e68=>
       some (.stop (.pan e68))) fun q67=>
      some (.go ()))
      (some (.go ())))
    (fun _ =>
     obind (z3E n rec_weirgate_parser_reader_block_82 rec_weirgate_parser_reader_stmt_145 (z7.mk r_0.l_ (IntKind.i64.wrap (r_0.i_+1)) r_0.at_) (zm.mk 0 r3.At [] (zi.mk 0 0 [] ([]:List zi)) ([]:List zm) ([]:List zm))) fun r70=>
     pbind r70 (fun e73=>
      some (.pan e73)) fun q72=>
     some (.ret (q72.2,q72.1))))
    (cond (decide (r3.S = [114, 101, 112, 101, 97, 116]))
     (bindJ (S := Unit)
      (cond (decide (r3.Kind ≠ 2) || false)
       (obind (z16 r_0) fun r90=>
       pbind r90 (fun e93=>
        some (.stop (.pan e93))) fun q92=>
       some (.go ()))
       (some (.go ())))
     (fun _ =>
      obind (z3G rec_weirgate_parser_reader_block_82 (z7.mk r_0.l_ (IntKind.i64.wrap (r_0.i_+1)) r_0.at_) (zm.mk 0 r3.At [] (zi.mk 0 0 [] ([]:List zi)) ([]:List zm) ([]:List zm))) fun r95=>
      pbind r95 (fun e98=>
       some (.pan e98)) fun q97=>
      some (.ret (q97.2,q97.1))))
     (cond (decide (r3.S = [108, 111, 103]))
      (bindJ (S := Unit)
       (cond (decide (r3.Kind ≠ 2) || false)
        (obind (z16 r_0) fun r115=>
        pbind r115 (fun e118=>
         some (.stop (.pan e118))) fun q117=>
        some (.go ()))
        (some (.go ())))
      (fun _ =>
       obind (z3Z n (z7.mk r_0.l_ (IntKind.i64.wrap (r_0.i_+1)) r_0.at_) (zm.mk 0 r3.At [] (zi.mk 0 0 [] ([]:List zi)) ([]:List zm) ([]:List zm))) fun r120=>
       pbind r120 (fun e123=>
        some (.pan e123)) fun q122=>
       some (.ret (q122.2,q122.1))))
      (cond (decide (r3.S = [100, 101, 110, 121]))
       (bindJ (S := Unit)
        (cond (decide (r3.Kind ≠ 2) || false)
         (obind (z16 r_0) fun r140=>
         pbind r140 (fun e143=>
          some (.stop (.pan e143))) fun q142=>
         some (.go ()))
         (some (.go ())))
       (fun _ =>
        obind (z3R n (z7.mk r_0.l_ (IntKind.i64.wrap (r_0.i_+1)) r_0.at_) (zm.mk 0 r3.At [] (zi.mk 0 0 [] ([]:List zi)) ([]:List zm) ([]:List zm))) fun r145=>
        pbind r145 (fun e148=>
         some (.pan e148)) fun q147=>
        some (.ret (q147.2,q147.1))))
       (cond (decide (r3.S = [114, 101, 112, 108, 121]))
        (bindJ (S := Unit)
         (cond (decide (r3.Kind ≠ 2) || false)
          (obind (z16 r_0) fun r165=>
          pbind r165 (fun e168=>
           some (.stop (.pan e168))) fun q167=>
          some (.go ()))
          (some (.go ())))
        (fun _ =>
         obind (z3L n (z7.mk r_0.l_ (IntKind.i64.wrap (r_0.i_+1)) r_0.at_) (zm.mk 0 r3.At [] (zi.mk 0 0 [] ([]:List zi)) ([]:List zm) ([]:List zm))) fun r170=>
         pbind r170 (fun e173=>
          some (.pan e173)) fun q172=>
         some (.ret (q172.2,q172.1))))
        (bindJ (S := Unit)
         (cond (decide (r3.Kind ≠ 2) || true)
          (obind (z16 r_0) fun r189=>
          pbind r189 (fun e192=>
           some (.stop (.pan e192))) fun q191=>
          some (.go ()))
          (some (.go ())))
        (fun _ =>
         none))))))))
theorem z6V {n:Nat} {rec_weirgate_parser_reader_block_82:z7→Option (Pn ((List zm)×z7))} (hrec_weirgate_parser_reader_block_82:K10 rec_weirgate_parser_reader_block_82 82) {rec_weirgate_parser_reader_stmt_145:z7→Option (Pn (zm×z7))} (hrec_weirgate_parser_reader_stmt_145:K11 rec_weirgate_parser_reader_stmt_145 145):K11 (z3c n rec_weirgate_parser_reader_block_82 rec_weirgate_parser_reader_stmt_145) 145:=by
 intro r_0 r_0b r_0_l_v r h
 refine z1y Tryz.func145 rfl Tryz.ntmps145 rfl (fun w0 o0=>?_)
 refine zh ?_
 refine al fun b1=>?_
 refine za ?_
 refine zt (ziC) ?_
 rintro _ _ ⟨b2,rfl,rfl⟩
 refine zB (retell 3 (g:=mapis b2 (mcells (fun l:List UInt8=>Value.string (bs l)) (fun v:Value=>v) ([]:List (List UInt8×Value)))) rfl rfl) ?_
 refine ys ?_
 refine zt (z2L (κ:=List UInt8) (G:=fun v:Value=>v) (k:=[108,101,116]) (v:=.func (.func 187) #[boxP r_0b 0] #[]) 3 z4A Tryz.runUnderlying240 Tryz.runUnderlying9 rfl rfl rfl rfl true) ?_
 rintro _ _ ⟨rfl,rfl⟩
 refine zB (retell 3 (g:=mapis b2 (mcells (fun l:List UInt8=>Value.string (bs l)) (fun v:Value=>v) ([([108,101,116],.func (.func 187) #[boxP r_0b 0] #[])]:List (List UInt8×Value)))) rfl (by kernel_rfl)) ?_
 refine ys ?_
 refine zt (z2L (κ:=List UInt8) (G:=fun v:Value=>v) (k:=[115,101,116]) (v:=.func (.func 188) #[boxP r_0b 0] #[]) 3 z4A Tryz.runUnderlying240 Tryz.runUnderlying9 rfl rfl rfl rfl true) ?_
 rintro _ _ ⟨rfl,rfl⟩
 refine zB (retell 3 (g:=mapis b2 (mcells (fun l:List UInt8=>Value.string (bs l)) (fun v:Value=>v) ([([108,101,116],.func (.func 187) #[boxP r_0b 0] #[]),([115,101,116],.func (.func 188) #[boxP r_0b 0] #[])]:List (List UInt8×Value)))) rfl (by kernel_rfl)) ?_
 refine ys ?_
 refine zt (z2L (κ:=List UInt8) (G:=fun v:Value=>v) (k:=[105,102]) (v:=.func (.func 189) #[boxP r_0b 0] #[]) 3 z4A Tryz.runUnderlying240 Tryz.runUnderlying9 rfl rfl rfl rfl true) ?_
 rintro _ _ ⟨rfl,rfl⟩
 refine zB (retell 3 (g:=mapis b2 (mcells (fun l:List UInt8=>Value.string (bs l)) (fun v:Value=>v) ([([108,101,116],.func (.func 187) #[boxP r_0b 0] #[]),([115,101,116],.func (.func 188) #[boxP r_0b 0] #[]),([105,102],.func (.func 189) #[boxP r_0b 0] #[])]:List (List UInt8×Value)))) rfl (by kernel_rfl)) ?_
 refine ys ?_
 refine zt (z2L (κ:=List UInt8) (G:=fun v:Value=>v) (k:=[114,101,112,101,97,116]) (v:=.func (.func 190) #[boxP r_0b 0] #[]) 3 z4A Tryz.runUnderlying240 Tryz.runUnderlying9 rfl rfl rfl rfl true) ?_
 rintro _ _ ⟨rfl,rfl⟩
 refine zB (retell 3 (g:=mapis b2 (mcells (fun l:List UInt8=>Value.string (bs l)) (fun v:Value=>v) ([([108,101,116],.func (.func 187) #[boxP r_0b 0] #[]),([115,101,116],.func (.func 188) #[boxP r_0b 0] #[]),([105,102],.func (.func 189) #[boxP r_0b 0] #[]),([114,101,112,101,97,116],.func (.func 190) #[boxP r_0b 0] #[])]:List (List UInt8×Value)))) rfl (by kernel_rfl)) ?_
 refine ys ?_
 refine oh [0,1,2,3] [ro r_0_l_v 3 (r_0.l_.map z6.enc),box r_0b [r_0_l_v,.int .i64 r_0.i_,.int .i64 r_0.at_],box b1 [.int .i64 0,.int .i64 0,.string (bs []),.int .i64 0,.int .i64 0,.string (bs []),.slice none 0 0,.slice none 0 0,.slice none 0 0],mapis b2 (mcells (fun l:List UInt8=>Value.string (bs l)) (fun v:Value=>v) ([([108,101,116],.func (.func 187) #[boxP r_0b 0] #[]),([115,101,116],.func (.func 188) #[boxP r_0b 0] #[]),([105,102],.func (.func 189) #[boxP r_0b 0] #[]),([114,101,112,101,97,116],.func (.func 190) #[boxP r_0b 0] #[])]:List (List UInt8×Value)))] ?_
 refine zt (z2L (κ:=List UInt8) (G:=fun v:Value=>v) (k:=[108,111,103]) (v:=.func (.func 191) #[boxP r_0b 0] #[]) 3 z4A Tryz.runUnderlying240 Tryz.runUnderlying9 rfl rfl rfl rfl true) ?_
 rintro _ _ ⟨rfl,rfl⟩
 refine zB (retell 3 (g:=mapis b2 (mcells (fun l:List UInt8=>Value.string (bs l)) (fun v:Value=>v) ([([108,101,116],.func (.func 187) #[boxP r_0b 0] #[]),([115,101,116],.func (.func 188) #[boxP r_0b 0] #[]),([105,102],.func (.func 189) #[boxP r_0b 0] #[]),([114,101,112,101,97,116],.func (.func 190) #[boxP r_0b 0] #[]),([108,111,103],.func (.func 191) #[boxP r_0b 0] #[])]:List (List UInt8×Value)))) rfl (by kernel_rfl)) ?_
 refine ys ?_
 refine zt (z2L (κ:=List UInt8) (G:=fun v:Value=>v) (k:=[100,101,110,121]) (v:=.func (.func 192) #[boxP r_0b 0] #[]) 3 z4A Tryz.runUnderlying240 Tryz.runUnderlying9 rfl rfl rfl rfl true) ?_
 rintro _ _ ⟨rfl,rfl⟩
 refine zB (retell 3 (g:=mapis b2 (mcells (fun l:List UInt8=>Value.string (bs l)) (fun v:Value=>v) ([([108,101,116],.func (.func 187) #[boxP r_0b 0] #[]),([115,101,116],.func (.func 188) #[boxP r_0b 0] #[]),([105,102],.func (.func 189) #[boxP r_0b 0] #[]),([114,101,112,101,97,116],.func (.func 190) #[boxP r_0b 0] #[]),([108,111,103],.func (.func 191) #[boxP r_0b 0] #[]),([100,101,110,121],.func (.func 192) #[boxP r_0b 0] #[])]:List (List UInt8×Value)))) rfl (by kernel_rfl)) ?_
 refine ys ?_
 refine zt (z2L (κ:=List UInt8) (G:=fun v:Value=>v) (k:=[114,101,112,108,121]) (v:=.func (.func 193) #[boxP r_0b 0] #[]) 3 z4A Tryz.runUnderlying240 Tryz.runUnderlying9 rfl rfl rfl rfl true) ?_
 rintro _ _ ⟨rfl,rfl⟩
 refine zB (retell 3 (g:=mapis b2 (mcells (fun l:List UInt8=>Value.string (bs l)) (fun v:Value=>v) ([([108,101,116],.func (.func 187) #[boxP r_0b 0] #[]),([115,101,116],.func (.func 188) #[boxP r_0b 0] #[]),([105,102],.func (.func 189) #[boxP r_0b 0] #[]),([114,101,112,101,97,116],.func (.func 190) #[boxP r_0b 0] #[]),([108,111,103],.func (.func 191) #[boxP r_0b 0] #[]),([100,101,110,121],.func (.func 192) #[boxP r_0b 0] #[]),([114,101,112,108,121],.func (.func 193) #[boxP r_0b 0] #[])]:List (List UInt8×Value)))) rfl (by kernel_rfl)) ?_
 refine ys ?_
 refine zc ?_
 refine rj [0,2,3] [0,1,2,3] ?_
 refine z8 ?_
 refine ys ?_
 refine cl0 [(0,0),(1,2)] Tryz.call75 (fun h=>z1e h) h (fun r3 h=>?_)
 refine al fun b5=>?_
 refine ys ?_
 refine za ?_
 refine ys ?_
 rcases cond2 h with ⟨he6,h⟩ | ⟨he6,h⟩
 ·skip
  refine zq ((zaq (κ:=List UInt8) (G:=fun v:Value=>v) (k:=r3.S) (d0:=.nilFunc) 3 z4A Tryz.runUnderlying240 Tryz.runUnderlying9 Tryz.zeroValue239 rfl rfl rfl).to (v':=.func (.func 187) #[boxP r_0b 0] #[]) (zgt he6 (by kernel_rfl))) ?_
  refine oh [0,2,4,5] [ro r_0_l_v 3 (r_0.l_.map z6.enc),box b1 [.int .i64 0,.int .i64 0,.string (bs []),.int .i64 0,.int .i64 0,.string (bs []),.slice none 0 0,.slice none 0 0,.slice none 0 0],box r_0b [r_0_l_v,.int .i64 r_0.i_,.int .i64 r_0.at_],box b5 [.int .i64 r3.Kind,.int .i64 r3.At,.string (bs r3.S)]] ?_
  refine ys ?_
  refine zd ?_
  refine jr h [0,2,4,5] [3,1,2,4] (fun s (g:Unit)=>[]) (fun s g=>[]) (fun _ h ho8 _ hL9=>?_) ?_
  ·refine zh ?_
   refine ys ?_
   refine oe 3 [0,2,4,5] [1,2,3,4] (fun s=>[(35,.bool s)]) (decide (r3.Kind≠2) || false) (fun _ hL12=>?_) ?_
   ·refine z1c 32 (decide (r3.Kind≠2)) rfl (fun hg13=>?_) (fun hg13=>?_)
    ·skip
     refine ys ?_
     refine zr ?_
     exact gc hL12 true [0,1,2,3] (hi:=by rw [hg13]; simp)
    ·skip
     refine ys ?_
     refine zq (zjG false Tryz.runUnderlying239 rfl (.inr ⟨⟨_,_,_,rfl⟩,rfl⟩)) ?_
     refine ys ?_
     refine zr ?_
     exact gc hL12 false [0,1,2,3] (hi:=by rw [hg13]; simp)
   refine os ?_
   refine zd ?_
   refine rc h (fun _ h=>?_) (fun _ h=>?_)
   ·refine z8 ?_
    refine ys ?_
    refine cp0 [(0,0),(2,2)] Tryz.call74 (fun h=>z15 h) h (fun _ h=>?_) (hp:=fun e h=>by obtain rfl:=zU h; obtain rfl:=zM ho8; exact finP ⟨_,rfl,rfl⟩)
    refine zr ?_
    exact gj hL9 () [4,0,1,3] h
   ·refine run_skip ?_
    exact gj hL9 () [2,0,1,3] h
  rintro _ _ h
  refine rs ?_
  refine zh ?_
  refine ys ?_
  refine zc ?_
  refine rj [2,4,5] [0,1,2,3] ?_
  refine z8 ?_
  refine ys ?_
  refine al fun b19=>?_
  refine ys ?_
  refine za ?_
  refine ys ?_
  refine zB (z1q zj) ?_
  refine zB (z1q zE) ?_
  refine zB (z1q zE) ?_
  refine cp4 [(1,0),(0,2),(5,2),(6,2),(7,2),(4,2)] Tryz.call187 (fun h=>z8R h) h (fun q22 v24 v25 v26 v27 h=>?_)
  refine zc ?_
  refine rj [2,6] [2,8,9,10,11,12,13] ?_
  refine z8 ?_
  refine ys ?_
  refine zd ?_
  refine rj [2] [0,1,2,3,4,5] ?_
  refine zA ?_
  exact fr [3,4,5,1,2] Tryz.results145 h
 rcases cond2 h with ⟨he31,h⟩ | ⟨he31,h⟩
 ·skip
  refine zq ((zaq (κ:=List UInt8) (G:=fun v:Value=>v) (k:=r3.S) (d0:=.nilFunc) 3 z4A Tryz.runUnderlying240 Tryz.runUnderlying9 Tryz.zeroValue239 rfl rfl rfl).to (v':=.func (.func 188) #[boxP r_0b 0] #[]) (zgt he31 (by kernel_rfl))) ?_
  refine oh [0,2,4,5] [ro r_0_l_v 3 (r_0.l_.map z6.enc),box b1 [.int .i64 0,.int .i64 0,.string (bs []),.int .i64 0,.int .i64 0,.string (bs []),.slice none 0 0,.slice none 0 0,.slice none 0 0],box r_0b [r_0_l_v,.int .i64 r_0.i_,.int .i64 r_0.at_],box b5 [.int .i64 r3.Kind,.int .i64 r3.At,.string (bs r3.S)]] ?_
  refine ys ?_
  refine zd ?_
  refine jr h [0,2,4,5] [3,1,2,4] (fun s (g:Unit)=>[]) (fun s g=>[]) (fun _ h ho33 _ hL34=>?_) ?_
  ·refine zh ?_
   refine ys ?_
   refine oe 3 [0,2,4,5] [1,2,3,4] (fun s=>[(35,.bool s)]) (decide (r3.Kind≠2) || false) (fun _ hL37=>?_) ?_
   ·refine z1c 32 (decide (r3.Kind≠2)) rfl (fun hg38=>?_) (fun hg38=>?_)
    ·skip
     refine ys ?_
     refine zr ?_
     exact gc hL37 true [0,1,2,3] (hi:=by rw [hg38]; simp)
    ·skip
     refine ys ?_
     refine zq (zjG false Tryz.runUnderlying239 rfl (.inr ⟨⟨_,_,_,rfl⟩,rfl⟩)) ?_
     refine ys ?_
     refine zr ?_
     exact gc hL37 false [0,1,2,3] (hi:=by rw [hg38]; simp)
   refine os ?_
   refine zd ?_
   refine rc h (fun _ h=>?_) (fun _ h=>?_)
   ·refine z8 ?_
    refine ys ?_
    refine cp0 [(0,0),(2,2)] Tryz.call74 (fun h=>z15 h) h (fun _ h=>?_) (hp:=fun e h=>by obtain rfl:=zU h; obtain rfl:=zM ho33; exact finP ⟨_,rfl,rfl⟩)
    refine zr ?_
    exact gj hL34 () [4,0,1,3] h
   ·refine run_skip ?_
    exact gj hL34 () [2,0,1,3] h
  rintro _ _ h
  refine rs ?_
  refine zh ?_
  refine ys ?_
  refine zc ?_
  refine rj [2,4,5] [0,1,2,3] ?_
  refine z8 ?_
  refine ys ?_
  refine al fun b44=>?_
  refine ys ?_
  refine za ?_
  refine ys ?_
  refine zB (z1q zj) ?_
  refine zB (z1q zE) ?_
  refine zB (z1q zE) ?_
  refine cp4 [(1,0),(0,2),(5,2),(6,2),(7,2),(4,2)] Tryz.call188 (fun h=>z8U h) h (fun q47 v49 v50 v51 v52 h=>?_)
  refine zc ?_
  refine rj [2,6] [2,8,9,10,11,12,13] ?_
  refine z8 ?_
  refine ys ?_
  refine zd ?_
  refine rj [2] [0,1,2,3,4,5] ?_
  refine zA ?_
  exact fr [3,4,5,1,2] Tryz.results145 h
 rcases cond2 h with ⟨he56,h⟩ | ⟨he56,h⟩
 ·skip
  refine zq ((zaq (κ:=List UInt8) (G:=fun v:Value=>v) (k:=r3.S) (d0:=.nilFunc) 3 z4A Tryz.runUnderlying240 Tryz.runUnderlying9 Tryz.zeroValue239 rfl rfl rfl).to (v':=.func (.func 189) #[boxP r_0b 0] #[]) (zgt he56 (by kernel_rfl))) ?_
  refine oh [0,2,4,5] [ro r_0_l_v 3 (r_0.l_.map z6.enc),box b1 [.int .i64 0,.int .i64 0,.string (bs []),.int .i64 0,.int .i64 0,.string (bs []),.slice none 0 0,.slice none 0 0,.slice none 0 0],box r_0b [r_0_l_v,.int .i64 r_0.i_,.int .i64 r_0.at_],box b5 [.int .i64 r3.Kind,.int .i64 r3.At,.string (bs r3.S)]] ?_
  refine ys ?_
  refine zd ?_
  refine jr h [0,2,4,5] [3,1,2,4] (fun s (g:Unit)=>[]) (fun s g=>[]) (fun _ h ho58 _ hL59=>?_) ?_
  ·refine zh ?_
   refine ys ?_
   refine oe 3 [0,2,4,5] [1,2,3,4] (fun s=>[(35,.bool s)]) (decide (r3.Kind≠2) || false) (fun _ hL62=>?_) ?_
   ·refine z1c 32 (decide (r3.Kind≠2)) rfl (fun hg63=>?_) (fun hg63=>?_)
    ·skip
     refine ys ?_
     refine zr ?_
     exact gc hL62 true [0,1,2,3] (hi:=by rw [hg63]; simp)
    ·skip
     refine ys ?_
     refine zq (zjG false Tryz.runUnderlying239 rfl (.inr ⟨⟨_,_,_,rfl⟩,rfl⟩)) ?_
     refine ys ?_
     refine zr ?_
     exact gc hL62 false [0,1,2,3] (hi:=by rw [hg63]; simp)
   refine os ?_
   refine zd ?_
   refine rc h (fun _ h=>?_) (fun _ h=>?_)
   ·refine z8 ?_
    refine ys ?_
    refine cp0 [(0,0),(2,2)] Tryz.call74 (fun h=>z15 h) h (fun _ h=>?_) (hp:=fun e h=>by obtain rfl:=zU h; obtain rfl:=zM ho58; exact finP ⟨_,rfl,rfl⟩)
    refine zr ?_
    exact gj hL59 () [4,0,1,3] h
   ·refine run_skip ?_
    exact gj hL59 () [2,0,1,3] h
  rintro _ _ h
  refine rs ?_
  refine zh ?_
  refine ys ?_
  refine zc ?_
  refine rj [2,4,5] [0,1,2,3] ?_
  refine z8 ?_
  refine ys ?_
  refine al fun b69=>?_
  refine ys ?_
  refine za ?_
  refine ys ?_
  refine zB (z1q zj) ?_
  refine zB (z1q zE) ?_
  refine zB (z1q zE) ?_
  refine cp4 [(1,0),(0,2),(5,2),(6,2),(7,2),(4,2)] Tryz.call189 (fun h=>z7U hrec_weirgate_parser_reader_block_82 hrec_weirgate_parser_reader_stmt_145 h) h (fun q72 v74 v75 v76 v77 h=>?_)
  refine zc ?_
  refine rj [2,6] [2,8,9,10,11,12,13] ?_
  refine z8 ?_
  refine ys ?_
  refine zd ?_
  refine rj [2] [0,1,2,3,4,5] ?_
  refine zA ?_
  exact fr [3,4,5,1,2] Tryz.results145 h
 rcases cond2 h with ⟨he81,h⟩ | ⟨he81,h⟩
 ·skip
  refine zq ((zaq (κ:=List UInt8) (G:=fun v:Value=>v) (k:=r3.S) (d0:=.nilFunc) 3 z4A Tryz.runUnderlying240 Tryz.runUnderlying9 Tryz.zeroValue239 rfl rfl rfl).to (v':=.func (.func 190) #[boxP r_0b 0] #[]) (zgt he81 (by kernel_rfl))) ?_
  refine oh [0,2,4,5] [ro r_0_l_v 3 (r_0.l_.map z6.enc),box b1 [.int .i64 0,.int .i64 0,.string (bs []),.int .i64 0,.int .i64 0,.string (bs []),.slice none 0 0,.slice none 0 0,.slice none 0 0],box r_0b [r_0_l_v,.int .i64 r_0.i_,.int .i64 r_0.at_],box b5 [.int .i64 r3.Kind,.int .i64 r3.At,.string (bs r3.S)]] ?_
  refine ys ?_
  refine zd ?_
  refine jr h [0,2,4,5] [3,1,2,4] (fun s (g:Unit)=>[]) (fun s g=>[]) (fun _ h ho83 _ hL84=>?_) ?_
  ·refine zh ?_
   refine ys ?_
   refine oe 3 [0,2,4,5] [1,2,3,4] (fun s=>[(35,.bool s)]) (decide (r3.Kind≠2) || false) (fun _ hL87=>?_) ?_
   ·refine z1c 32 (decide (r3.Kind≠2)) rfl (fun hg88=>?_) (fun hg88=>?_)
    ·skip
     refine ys ?_
     refine zr ?_
     exact gc hL87 true [0,1,2,3] (hi:=by rw [hg88]; simp)
    ·skip
     refine ys ?_
     refine zq (zjG false Tryz.runUnderlying239 rfl (.inr ⟨⟨_,_,_,rfl⟩,rfl⟩)) ?_
     refine ys ?_
     refine zr ?_
     exact gc hL87 false [0,1,2,3] (hi:=by rw [hg88]; simp)
   refine os ?_
   refine zd ?_
   refine rc h (fun _ h=>?_) (fun _ h=>?_)
   ·refine z8 ?_
    refine ys ?_
    refine cp0 [(0,0),(2,2)] Tryz.call74 (fun h=>z15 h) h (fun _ h=>?_) (hp:=fun e h=>by obtain rfl:=zU h; obtain rfl:=zM ho83; exact finP ⟨_,rfl,rfl⟩)
    refine zr ?_
    exact gj hL84 () [4,0,1,3] h
   ·refine run_skip ?_
    exact gj hL84 () [2,0,1,3] h
  rintro _ _ h
  refine rs ?_
  refine zh ?_
  refine ys ?_
  refine zc ?_
  refine rj [2,4,5] [0,1,2,3] ?_
  refine z8 ?_
  refine ys ?_
  refine al fun b94=>?_
  refine ys ?_
  refine za ?_
  refine ys ?_
  refine zB (z1q zj) ?_
  refine zB (z1q zE) ?_
  refine zB (z1q zE) ?_
  refine cp4 [(1,0),(0,2),(5,2),(6,2),(7,2),(4,2)] Tryz.call190 (fun h=>z7Y hrec_weirgate_parser_reader_block_82 h) h (fun q97 v99 v100 v101 v102 h=>?_)
  refine zc ?_
  refine rj [2,6] [2,8,9,10,11,12,13] ?_
  refine z8 ?_
  refine ys ?_
  refine zd ?_
  refine rj [2] [0,1,2,3,4,5] ?_
  refine zA ?_
  exact fr [3,4,5,1,2] Tryz.results145 h
 rcases cond2 h with ⟨he106,h⟩ | ⟨he106,h⟩
 ·skip
  refine zq ((zaq (κ:=List UInt8) (G:=fun v:Value=>v) (k:=r3.S) (d0:=.nilFunc) 3 z4A Tryz.runUnderlying240 Tryz.runUnderlying9 Tryz.zeroValue239 rfl rfl rfl).to (v':=.func (.func 191) #[boxP r_0b 0] #[]) (zgt he106 (by kernel_rfl))) ?_
  refine oh [0,2,4,5] [ro r_0_l_v 3 (r_0.l_.map z6.enc),box b1 [.int .i64 0,.int .i64 0,.string (bs []),.int .i64 0,.int .i64 0,.string (bs []),.slice none 0 0,.slice none 0 0,.slice none 0 0],box r_0b [r_0_l_v,.int .i64 r_0.i_,.int .i64 r_0.at_],box b5 [.int .i64 r3.Kind,.int .i64 r3.At,.string (bs r3.S)]] ?_
  refine ys ?_
  refine zd ?_
  refine jr h [0,2,4,5] [3,1,2,4] (fun s (g:Unit)=>[]) (fun s g=>[]) (fun _ h ho108 _ hL109=>?_) ?_
  ·refine zh ?_
   refine ys ?_
   refine oe 3 [0,2,4,5] [1,2,3,4] (fun s=>[(35,.bool s)]) (decide (r3.Kind≠2) || false) (fun _ hL112=>?_) ?_
   ·refine z1c 32 (decide (r3.Kind≠2)) rfl (fun hg113=>?_) (fun hg113=>?_)
    ·skip
     refine ys ?_
     refine zr ?_
     exact gc hL112 true [0,1,2,3] (hi:=by rw [hg113]; simp)
    ·skip
     refine ys ?_
     refine zq (zjG false Tryz.runUnderlying239 rfl (.inr ⟨⟨_,_,_,rfl⟩,rfl⟩)) ?_
     refine ys ?_
     refine zr ?_
     exact gc hL112 false [0,1,2,3] (hi:=by rw [hg113]; simp)
   refine os ?_
   refine zd ?_
   refine rc h (fun _ h=>?_) (fun _ h=>?_)
   ·refine z8 ?_
    refine ys ?_
    refine cp0 [(0,0),(2,2)] Tryz.call74 (fun h=>z15 h) h (fun _ h=>?_) (hp:=fun e h=>by obtain rfl:=zU h; obtain rfl:=zM ho108; exact finP ⟨_,rfl,rfl⟩)
    refine zr ?_
    exact gj hL109 () [4,0,1,3] h
   ·refine run_skip ?_
    exact gj hL109 () [2,0,1,3] h
  rintro _ _ h
  refine rs ?_
  refine zh ?_
  refine ys ?_
  refine zc ?_
  refine rj [2,4,5] [0,1,2,3] ?_
  refine z8 ?_
  refine ys ?_
  refine al fun b119=>?_
  refine ys ?_
  refine za ?_
  refine ys ?_
  refine zB (z1q zj) ?_
  refine zB (z1q zE) ?_
  refine zB (z1q zE) ?_
  refine cp4 [(1,0),(0,2),(5,2),(6,2),(7,2),(4,2)] Tryz.call191 (fun h=>z8S h) h (fun q122 v124 v125 v126 v127 h=>?_)
  refine zc ?_
  refine rj [2,6] [2,8,9,10,11,12,13] ?_
  refine z8 ?_
  refine ys ?_
  refine zd ?_
  refine rj [2] [0,1,2,3,4,5] ?_
  refine zA ?_
  exact fr [3,4,5,1,2] Tryz.results145 h
 rcases cond2 h with ⟨he131,h⟩ | ⟨he131,h⟩
 ·skip
  refine zq ((zaq (κ:=List UInt8) (G:=fun v:Value=>v) (k:=r3.S) (d0:=.nilFunc) 3 z4A Tryz.runUnderlying240 Tryz.runUnderlying9 Tryz.zeroValue239 rfl rfl rfl).to (v':=.func (.func 192) #[boxP r_0b 0] #[]) (zgt he131 (by kernel_rfl))) ?_
  refine oh [0,2,4,5] [ro r_0_l_v 3 (r_0.l_.map z6.enc),box b1 [.int .i64 0,.int .i64 0,.string (bs []),.int .i64 0,.int .i64 0,.string (bs []),.slice none 0 0,.slice none 0 0,.slice none 0 0],box r_0b [r_0_l_v,.int .i64 r_0.i_,.int .i64 r_0.at_],box b5 [.int .i64 r3.Kind,.int .i64 r3.At,.string (bs r3.S)]] ?_
  refine ys ?_
  refine zd ?_
  refine jr h [0,2,4,5] [3,1,2,4] (fun s (g:Unit)=>[]) (fun s g=>[]) (fun _ h ho133 _ hL134=>?_) ?_
  ·refine zh ?_
   refine ys ?_
   refine oe 3 [0,2,4,5] [1,2,3,4] (fun s=>[(35,.bool s)]) (decide (r3.Kind≠2) || false) (fun _ hL137=>?_) ?_
   ·refine z1c 32 (decide (r3.Kind≠2)) rfl (fun hg138=>?_) (fun hg138=>?_)
    ·skip
     refine ys ?_
     refine zr ?_
     exact gc hL137 true [0,1,2,3] (hi:=by rw [hg138]; simp)
    ·skip
     refine ys ?_
     refine zq (zjG false Tryz.runUnderlying239 rfl (.inr ⟨⟨_,_,_,rfl⟩,rfl⟩)) ?_
     refine ys ?_
     refine zr ?_
     exact gc hL137 false [0,1,2,3] (hi:=by rw [hg138]; simp)
   refine os ?_
   refine zd ?_
   refine rc h (fun _ h=>?_) (fun _ h=>?_)
   ·refine z8 ?_
    refine ys ?_
    refine cp0 [(0,0),(2,2)] Tryz.call74 (fun h=>z15 h) h (fun _ h=>?_) (hp:=fun e h=>by obtain rfl:=zU h; obtain rfl:=zM ho133; exact finP ⟨_,rfl,rfl⟩)
    refine zr ?_
    exact gj hL134 () [4,0,1,3] h
   ·refine run_skip ?_
    exact gj hL134 () [2,0,1,3] h
  rintro _ _ h
  refine rs ?_
  refine zh ?_
  refine ys ?_
  refine zc ?_
  refine rj [2,4,5] [0,1,2,3] ?_
  refine z8 ?_
  refine ys ?_
  refine al fun b144=>?_
  refine ys ?_
  refine za ?_
  refine ys ?_
  refine zB (z1q zj) ?_
  refine zB (z1q zE) ?_
  refine zB (z1q zE) ?_
  refine cp4 [(1,0),(0,2),(5,2),(6,2),(7,2),(4,2)] Tryz.call192 (fun h=>z8J h) h (fun q147 v149 v150 v151 v152 h=>?_)
  refine zc ?_
  refine rj [2,6] [2,8,9,10,11,12,13] ?_
  refine z8 ?_
  refine ys ?_
  refine zd ?_
  refine rj [2] [0,1,2,3,4,5] ?_
  refine zA ?_
  exact fr [3,4,5,1,2] Tryz.results145 h
 rcases cond2 h with ⟨he156,h⟩ | ⟨he156,h⟩
 ·skip
  refine zq ((zaq (κ:=List UInt8) (G:=fun v:Value=>v) (k:=r3.S) (d0:=.nilFunc) 3 z4A Tryz.runUnderlying240 Tryz.runUnderlying9 Tryz.zeroValue239 rfl rfl rfl).to (v':=.func (.func 193) #[boxP r_0b 0] #[]) (zgt he156 (by kernel_rfl))) ?_
  refine oh [0,2,4,5] [ro r_0_l_v 3 (r_0.l_.map z6.enc),box b1 [.int .i64 0,.int .i64 0,.string (bs []),.int .i64 0,.int .i64 0,.string (bs []),.slice none 0 0,.slice none 0 0,.slice none 0 0],box r_0b [r_0_l_v,.int .i64 r_0.i_,.int .i64 r_0.at_],box b5 [.int .i64 r3.Kind,.int .i64 r3.At,.string (bs r3.S)]] ?_
  refine ys ?_
  refine zd ?_
  refine jr h [0,2,4,5] [3,1,2,4] (fun s (g:Unit)=>[]) (fun s g=>[]) (fun _ h ho158 _ hL159=>?_) ?_
  ·refine zh ?_
   refine ys ?_
   refine oe 3 [0,2,4,5] [1,2,3,4] (fun s=>[(35,.bool s)]) (decide (r3.Kind≠2) || false) (fun _ hL162=>?_) ?_
   ·refine z1c 32 (decide (r3.Kind≠2)) rfl (fun hg163=>?_) (fun hg163=>?_)
    ·skip
     refine ys ?_
     refine zr ?_
     exact gc hL162 true [0,1,2,3] (hi:=by rw [hg163]; simp)
    ·skip
     refine ys ?_
     refine zq (zjG false Tryz.runUnderlying239 rfl (.inr ⟨⟨_,_,_,rfl⟩,rfl⟩)) ?_
     refine ys ?_
     refine zr ?_
     exact gc hL162 false [0,1,2,3] (hi:=by rw [hg163]; simp)
   refine os ?_
   refine zd ?_
   refine rc h (fun _ h=>?_) (fun _ h=>?_)
   ·refine z8 ?_
    refine ys ?_
    refine cp0 [(0,0),(2,2)] Tryz.call74 (fun h=>z15 h) h (fun _ h=>?_) (hp:=fun e h=>by obtain rfl:=zU h; obtain rfl:=zM ho158; exact finP ⟨_,rfl,rfl⟩)
    refine zr ?_
    exact gj hL159 () [4,0,1,3] h
   ·refine run_skip ?_
    exact gj hL159 () [2,0,1,3] h
  rintro _ _ h
  refine rs ?_
  refine zh ?_
  refine ys ?_
  refine zc ?_
  refine rj [2,4,5] [0,1,2,3] ?_
  refine z8 ?_
  refine ys ?_
  refine al fun b169=>?_
  refine ys ?_
  refine za ?_
  refine ys ?_
  refine zB (z1q zj) ?_
  refine zB (z1q zE) ?_
  refine zB (z1q zE) ?_
  refine cp4 [(1,0),(0,2),(5,2),(6,2),(7,2),(4,2)] Tryz.call193 (fun h=>z8a h) h (fun q172 v174 v175 v176 v177 h=>?_)
  refine zc ?_
  refine rj [2,6] [2,8,9,10,11,12,13] ?_
  refine z8 ?_
  refine ys ?_
  refine zd ?_
  refine rj [2] [0,1,2,3,4,5] ?_
  refine zA ?_
  exact fr [3,4,5,1,2] Tryz.results145 h
 refine zq ((zaq (κ:=List UInt8) (G:=fun v:Value=>v) (k:=r3.S) (d0:=.nilFunc) 3 z4A Tryz.runUnderlying240 Tryz.runUnderlying9 Tryz.zeroValue239 rfl rfl rfl).to (v':=.nilFunc) (zoR (by intro p hp; simp only [List.mem_cons,List.not_mem_nil,or_false] at hp; rcases hp with rfl | rfl | rfl | rfl | rfl | rfl | rfl <;> assumption))) ?_
 refine oh [0,2,4,5] [ro r_0_l_v 3 (r_0.l_.map z6.enc),box b1 [.int .i64 0,.int .i64 0,.string (bs []),.int .i64 0,.int .i64 0,.string (bs []),.slice none 0 0,.slice none 0 0,.slice none 0 0],box r_0b [r_0_l_v,.int .i64 r_0.i_,.int .i64 r_0.at_],box b5 [.int .i64 r3.Kind,.int .i64 r3.At,.string (bs r3.S)]] ?_
 refine ys ?_
 refine zd ?_
 refine jr h [0,2,4,5] [3,1,2,4] (fun s (g:Unit)=>[]) (fun s g=>[]) (fun _ h ho182 _ hL183=>?_) ?_
 ·refine zh ?_
  refine ys ?_
  refine oe 3 [0,2,4,5] [1,2,3,4] (fun s=>[(35,.bool s)]) (decide (r3.Kind≠2) || true) (fun _ hL186=>?_) ?_
  ·refine z1c 32 (decide (r3.Kind≠2)) rfl (fun hg187=>?_) (fun hg187=>?_)
   ·skip
    refine ys ?_
    refine zr ?_
    exact gc hL186 true [0,1,2,3] (hi:=by rw [hg187]; simp)
   ·skip
    refine ys ?_
    refine zq (zjG true Tryz.runUnderlying239 rfl (.inl ⟨rfl,rfl⟩)) ?_
    refine ys ?_
    refine zr ?_
    exact gc hL186 true [0,1,2,3] (hi:=by rw [hg187]; simp)
  refine os ?_
  refine zd ?_
  refine rc h (fun _ h=>?_) (fun _ h=>?_)
  ·refine z8 ?_
   refine ys ?_
   refine cp0 [(0,0),(2,2)] Tryz.call74 (fun h=>z15 h) h (fun _ h=>?_) (hp:=fun e h=>by obtain rfl:=zU h; obtain rfl:=zM ho182; exact finP ⟨_,rfl,rfl⟩)
   refine zr ?_
   exact gj hL183 () [4,0,1,3] h
  ·refine run_skip ?_
   exact gj hL183 () [2,0,1,3] h
 rintro _ _ h
 refine rs ?_
 refine zh ?_
 refine ys ?_
 refine zc ?_
 refine rj [2,4,5] [0,1,2,3] ?_
 refine z8 ?_
 refine ys ?_
 refine al fun b193=>?_
 refine ys ?_
 refine za ?_
 refine ys ?_
 cases h
def z2j:Nat→(z7→Option (Pn ((List zm)×z7)))→z7→Option (Pn (zm×z7))
 | 0,_=>fun _=>none
 | n+1,rec_weirgate_parser_reader_block_82=>z3c n rec_weirgate_parser_reader_block_82 (z2j n rec_weirgate_parser_reader_block_82)
theorem z5p {n:Nat} {rec_weirgate_parser_reader_block_82:z7→Option (Pn ((List zm)×z7))} (hrec_weirgate_parser_reader_block_82:K10 rec_weirgate_parser_reader_block_82 82):K11 (z2j n rec_weirgate_parser_reader_block_82) 145:=by
 induction n with
 | zero=>intro _ _ _ _  h; cases h
 | succ n ih=>exact z6V hrec_weirgate_parser_reader_block_82 ih
end Go.Proofs.YtcmaoifiiigggaaGreatDoor
