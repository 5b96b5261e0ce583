/-
  Functions that the law ParserReadsExpressions needs, lifted.
-/
import Derived.Test.YtcmaoifiiigggaaGreatDoorV5G5a
set_option linter.unusedSimpArgs false
set_option linter.unusedVariables false
namespace Go.Proofs.YtcmaoifiiigggaaGreatDoor
open Go.Abs
set_option maxRecDepth 20000
set_option maxHeartbeats 4000000
def z7v (x_0:zi) (rec_ref19_tokens:zi→Option ((List z6))):((List z6)×Int)→Option (Lp ((List z6)×Int) (Lp ((List z6)) ((List z6)))):=
 fun (out_87,i_88)=>
  cond (decide (i_88<(x_0.Args.length:Int)))
   (bindJ (S := (List z6))
    (cond (decide (1 < i_88))
     (obind (z6n [44]) fun r102=>
     need (out_87.length+([r102]:List z6).length≤4294967296) (
     some (.go (out_87++([r102]:List z6)))))
     (some (.go out_87)))
   (fun out_95 =>
    idx x_0.Args i_88 fun x107=>
    obind (rec_ref19_tokens x107) fun r109=>
    need (out_95.length+r109.length≤4294967296) (
    some (.go ((out_95++r109),(IntKind.i64.wrap (i_88+1)))))))
   (some (.stop (.go out_87)))
def z7F (n:Nat) (rec_ref19_tokens:zi→Option ((List z6))) (x_0:zi):Option ((List z6)):=
 cond (decide (x_0.Op=1))
  (obind (zhD x_0.S) fun r3=>
  some ([r3]:List z6))
  (cond (decide (x_0.Op = 2))
   (obind (zfH x_0.S) fun r7=>
   some ([r7]:List z6))
   (cond (decide (x_0.Op = 3))
    (obind (zdK x_0.S) fun r11=>
    some ([r11]:List z6))
    (cond (decide (x_0.Op = 4))
     (obind (z5b [116,114,117,101]) fun r15=>
     some ([r15]:List z6))
     (cond (decide (x_0.Op = 5))
      (obind (z5b [102,97,108,115,101]) fun r19=>
      some ([r19]:List z6))
      (cond (decide (x_0.Op = 7))
       (obind (z5b [115,116,97,116,117,115]) fun r23=>
       some ([r23]:List z6))
       (cond (decide (x_0.Op = 6))
        (obind (z5b [104,101,97,100,101,114]) fun r27=>
        obind (zfH x_0.S) fun r29=>
        some ([r27,r29]:List z6))
        (bindJ (S := Bool)
         (cond (decide (x_0.Op = 8))
          (some (.go (decide (x_0.Op=8))))
          (some (.go (decide (x_0.Op=9)))))
        (fun s_32 =>
         cond s_32
          (obind (z9P x_0.Op) fun r39=>
          idx x_0.Args 0 fun x42=>
          obind (z6A rec_ref19_tokens x42) fun r44=>
          need (([r39]:List z6).length+r44.length≤4294967296) (
          some (([r39]:List z6)++r44)))
          (cond (decide (x_0.Op = 23))
           (idx x_0.Args 0 fun x69=>
           obind (z6A rec_ref19_tokens x69) fun r71=>
           obind (z5b [105,110]) fun r74=>
           obind (z6n [40]) fun r76=>
           need (r71.length+([r74,r76]:List z6).length≤4294967296) (
           bindJ (S:=(List z6))
            (iter (z7v x_0 rec_ref19_tokens) n ((r71++([r74,r76]:List z6)),1))
           (fun out_81 =>
            obind (z6n [41]) fun r114=>
            need (out_81.length+([r114]:List z6).length≤4294967296) (
            some (out_81++([r114]:List z6))))))
           (idx x_0.Args 0 fun x119=>
           obind (z6A rec_ref19_tokens x119) fun r121=>
           obind (z9P x_0.Op) fun r124=>
           need (r121.length+([r124]:List z6).length≤4294967296) (
           idx x_0.Args 1 fun x129=>
           obind (z6A rec_ref19_tokens x129) fun r131=>
           need ((r121++([r124]:List z6)).length+r131.length≤4294967296) (
           some ((r121++([r124]:List z6))++r131)))))))))))))
theorem ze4 {n:Nat} {rec_ref19_tokens:zi→Option ((List z6))} (hrec_ref19_tokens:K20 rec_ref19_tokens 56):K20 (z7F n rec_ref19_tokens) 56:=by
 intro x_0 x_0_Argsv r h
 refine zN Tryz.func56 rfl Tryz.ntmps56 rfl (fun w0 o0=>?_)
 refine zh ?_
 refine zt (t_box rfl) ?_
 rintro _ _ ⟨b1,rfl,rfl⟩
 refine ys ?_
 refine zc ?_
 refine zh ?_
 refine ys ?_
 refine zd ?_
 refine zF ?_
 refine zh ?_
 refine ys ?_
 refine zd ?_
 refine rc h (fun _ h=>?_) (fun _ h=>?_)
 ·refine zh ?_
  refine ys ?_
  refine cl0 [] Tryz.call121 (fun h=>zeJ h) h (fun r3 h=>?_)
  refine zt (t_lit [.agg #[.int .i64 r3.Kind,.int .i64 r3.At,.string (bs r3.S)]] Tryz.runUnderlying37 Tryz.sizeOf41 Tryz.zeroValue41 rfl (by decide) (by decide) rfl (by simp [Value.cells,boxP])) ?_
  rintro v5 _ ⟨rfl,_⟩
  refine zB (retell 2 (g:=row v5 3 (([r3]:List z6).map z6.enc)) rfl rfl) ?_
  refine ys ?_
  refine zd ?_
  refine zA ?_
  exact fs [2] [2] Tryz.results56 h
 ·refine zh ?_
  refine ys ?_
  refine zd ?_
  refine rc h (fun _ h=>?_) (fun _ h=>?_)
  ·refine zH ?_
   refine rj [1] [0,1] ?_
   refine z8 ?_
   refine ys ?_
   refine cl0 [] Tryz.call122 (fun h=>zbo h) h (fun r7 h=>?_)
   refine zt (t_lit [.agg #[.int .i64 r7.Kind,.int .i64 r7.At,.string (bs r7.S)]] Tryz.runUnderlying37 Tryz.sizeOf41 Tryz.zeroValue41 rfl (by decide) (by decide) rfl (by simp [Value.cells,boxP])) ?_
   rintro v9 _ ⟨rfl,_⟩
   refine zB (retell 2 (g:=row v9 3 (([r7]:List z6).map z6.enc)) rfl rfl) ?_
   refine ys ?_
   refine zd ?_
   refine zA ?_
   exact fs [2] [2] Tryz.results56 h
  ·refine zH ?_
   refine rj [1,7] [0,1] ?_
   refine z8 ?_
   refine ys ?_
   refine zd ?_
   refine rc h (fun _ h=>?_) (fun _ h=>?_)
   ·refine zh ?_
    refine ys ?_
    refine cl0 [] Tryz.call123 (fun h=>z9s h) h (fun r11 h=>?_)
    refine zt (t_lit [.agg #[.int .i64 r11.Kind,.int .i64 r11.At,.string (bs r11.S)]] Tryz.runUnderlying37 Tryz.sizeOf41 Tryz.zeroValue41 rfl (by decide) (by decide) rfl (by simp [Value.cells,boxP])) ?_
    rintro v13 _ ⟨rfl,_⟩
    refine zB (retell 2 (g:=row v13 3 (([r11]:List z6).map z6.enc)) rfl rfl) ?_
    refine ys ?_
    refine zd ?_
    refine zA ?_
    exact fs [2] [2] Tryz.results56 h
   ·refine zh ?_
    refine ys ?_
    refine zd ?_
    refine rc h (fun _ h=>?_) (fun _ h=>?_)
    ·refine zh ?_
     refine cl0 [] Tryz.call124 (fun h=>z2Q h) h (fun r15 h=>?_)
     refine zt (t_lit [.agg #[.int .i64 r15.Kind,.int .i64 r15.At,.string (bs r15.S)]] Tryz.runUnderlying37 Tryz.sizeOf41 Tryz.zeroValue41 rfl (by decide) (by decide) rfl (by simp [Value.cells,boxP])) ?_
     rintro v17 _ ⟨rfl,_⟩
     refine zB (retell 2 (g:=row v17 3 (([r15]:List z6).map z6.enc)) rfl rfl) ?_
     refine ys ?_
     refine zd ?_
     refine zA ?_
     exact fs [2] [2] Tryz.results56 h
    ·refine zh ?_
     refine ys ?_
     refine zd ?_
     refine rc h (fun _ h=>?_) (fun _ h=>?_)
     ·refine zh ?_
      refine cl0 [] Tryz.call124 (fun h=>z2Q h) h (fun r19 h=>?_)
      refine zt (t_lit [.agg #[.int .i64 r19.Kind,.int .i64 r19.At,.string (bs r19.S)]] Tryz.runUnderlying37 Tryz.sizeOf41 Tryz.zeroValue41 rfl (by decide) (by decide) rfl (by simp [Value.cells,boxP])) ?_
      rintro v21 _ ⟨rfl,_⟩
      refine zB (retell 2 (g:=row v21 3 (([r19]:List z6).map z6.enc)) rfl rfl) ?_
      refine ys ?_
      refine zd ?_
      refine zA ?_
      exact fs [2] [2] Tryz.results56 h
     ·refine zh ?_
      refine ys ?_
      refine zd ?_
      refine rc h (fun _ h=>?_) (fun _ h=>?_)
      ·refine zH ?_
       refine rj [] [] ?_
       refine z8 ?_
       refine cl0 [] Tryz.call124 (fun h=>z2Q h) h (fun r23 h=>?_)
       refine zt (t_lit [.agg #[.int .i64 r23.Kind,.int .i64 r23.At,.string (bs r23.S)]] Tryz.runUnderlying37 Tryz.sizeOf41 Tryz.zeroValue41 rfl (by decide) (by decide) rfl (by simp [Value.cells,boxP])) ?_
       rintro v25 _ ⟨rfl,_⟩
       refine zB (retell 0 (g:=row v25 3 (([r23]:List z6).map z6.enc)) rfl rfl) ?_
       refine ys ?_
       refine zd ?_
       refine zA ?_
       exact fs [2] [0] Tryz.results56 h
      ·refine zH ?_
       refine rj [1,7] [0,1] ?_
       refine z8 ?_
       refine ys ?_
       refine zd ?_
       refine rc h (fun _ h=>?_) (fun _ h=>?_)
       ·refine zH ?_
        refine rf [1,1] fun hS=>?_
        refine aq [1,2] ?_
        refine al0 0 [] Tryz.call124 (fun h=>z2Q h) h (fun r27 h=>?_)
        refine al0 3 [] Tryz.call122 (fun h=>zbo h) h (fun r29 h=>?_)
        refine zK [4] (by kernel_rfl) rfl (zk ?_ zC)
        refine at' rfl (t_lit [.agg #[.int .i64 r27.Kind,.int .i64 r27.At,.string (bs r27.S)],.agg #[.int .i64 r29.Kind,.int .i64 r29.At,.string (bs r29.S)]] Tryz.runUnderlying37 Tryz.sizeOf41 Tryz.zeroValue41 rfl (by decide) (by decide) rfl (by simp [Value.cells,boxP])) ?_
        rintro v31 _ ⟨rfl,_⟩
        refine sb ?_
        refine z1B (retell 2 (g:=row v31 3 (([r27,r29]:List z6).map z6.enc)) rfl rfl) ?_
        refine aq [5] ?_
        refine z1K (by kernel_rfl) ?_
        refine zD ?_
        refine zA ?_
        exact fs [2] [2] Tryz.results56 h
       ·refine jr h [1,7] [2,1] (fun s (g:Unit)=>[(45,.bool s)]) (fun s g=>[]) (fun _ h _ _ hL35=>?_) ?_
        ·refine zh ?_
         refine ys ?_
         refine zd ?_
         refine rc h (fun _ h=>?_) (fun _ h=>?_)
         ·refine run_skip ?_
          exact gj hL35 () [1,0] h
         ·refine z8 ?_
          refine ys ?_
          refine zr ?_
          exact gj hL35 () [1,0] h
        rintro s_32 _ h
        refine rs ?_
        refine rc h (fun _ h=>?_) (fun _ h=>?_)
        ·refine zH ?_
         obtain ⟨r39,hr40,h⟩:=zJ h
         obtain ⟨x42,hzx42,hlx42,hxx42,h⟩:=zP h
         obtain ⟨r44,hr45,h⟩:=zJ h
         obtain ⟨hr48,h⟩:=zX h
         refine rf [1,1] fun hS=>?_
         refine aq [0,1,4,5,6] ?_
         refine z9T (exAtT (T:=z1b) (i:=(0:Int).toNat) 1 rfl hxx42) ?_
         rintro (g49:Value)
         refine a2 [11] 0 [] [1,2,0,0,0,0] (fun (s:Value×Value×Value)=>[(2,s.1)]) (fun s=>[atc x_0_Argsv ((0:Int).toNat*4) [.int .i64 x42.Op,.int .i64 x42.At,.string (bs x42.S),s.2.1],nro s.2.1 zj x42.Args,row s.1 3 ((([r39]:List z6)++r44).map z6.enc),row s.2.2 3 (r44.map z6.enc)]) ?_ (fun hK54=>?_)
         ·rintro ⟨v53,g49,v52⟩
          refine az ?_
          refine z1K (by kernel_rfl) ?_
          refine zD ?_
          refine zA ?_
          exact fs [2] [4] Tryz.results56 h
         refine a2 [9,2] 2 [] [1,2,0,0,0,0] (fun (s:Value×Value×Value)=>[(51,s.1),(56,s.2.1)]) (fun s=>[atc x_0_Argsv ((0:Int).toNat*4) [.int .i64 x42.Op,.int .i64 x42.At,.string (bs x42.S),s.2.2],nro s.2.2 zj x42.Args,row s.1 3 (([r39]:List z6).map z6.enc),row s.2.1 3 (r44.map z6.enc)]) ?_ (fun hK55=>?_)
         ·rintro ⟨v50,v52,g49⟩
          refine az ?_
          refine zK [9] (by kernel_rfl) rfl ?_
          refine zk ?_ ?_
          ·refine at' rfl (z1U (es:=3) 4 rfl Tryz.runUnderlying37 rfl Tryz.runUnderlying37 (.inr ⟨_,rfl⟩) Tryz.typeInfo41 rfl (by decide) Tryz.zeroValue41 rfl rfl rfl rfl (z1C 5 rfl z1d (z42 z6.enc_ok _)) (z1T hr48 (by decide)) (z2H hr48)) ?_
           rintro v56 _ rfl
           refine sb ?_
           refine z1B (retell 4 (g:=row v56 3 ((([r39]:List z6)++r44).map z6.enc)) rfl (congrArg (row _ _) List.map_append.symm)) ?_
           refine aq [10] ?_
           exact aw (hK54 (v56,g49,v52)) [0,1,2,3,4,5]
          exact zC
         refine a2 [8,3] 3 [] [1,2,0,0,0] (fun (s:Value×Value)=>[(51,s.1),(55,.agg #[.int .i64 x42.Op,.int .i64 x42.At,.string (bs x42.S),s.2])]) (fun s=>[atc x_0_Argsv ((0:Int).toNat*4) [.int .i64 x42.Op,.int .i64 x42.At,.string (bs x42.S),s.2],nro s.2 zj x42.Args,row s.1 3 (([r39]:List z6).map z6.enc)]) ?_ (fun hK57=>?_)
         ·rintro ⟨v50,g49⟩
          refine az ?_
          refine zK [8] (by kernel_rfl) rfl ?_
          refine zk ?_ ?_
          ·refine at' rfl (tc [(3,0)] Tryz.call126 (z7q hrec_ref19_tokens hr45)) ?_
           rintro v58 _ ⟨_,⟨_,rfl,rfl⟩,rfl⟩
           refine sb ?_
           exact aw (hK55 (v50,v58,g49)) [0,1,2,3,4,5]
          exact zC
         refine a2 [3,1,5,2] 3 [] [1,2,0,0,0] (fun (s:Value×Value)=>[(50,.agg #[.int .i64 r39.Kind,.int .i64 r39.At,.string (bs r39.S)]),(56,s.1)]) (fun s=>[atc x_0_Argsv ((0:Int).toNat*4) [.int .i64 x42.Op,.int .i64 x42.At,.string (bs x42.S),s.2],nro s.2 zj x42.Args,row s.1 3 (r44.map z6.enc)]) ?_ (fun hK59=>?_)
         ·rintro ⟨v51,g49⟩
          refine az ?_
          refine zK [3] (by kernel_rfl) rfl ?_
          refine zk ?_ ?_
          ·refine at' rfl (t_lit [.agg #[.int .i64 r39.Kind,.int .i64 r39.At,.string (bs r39.S)]] Tryz.runUnderlying37 Tryz.sizeOf41 Tryz.zeroValue41 rfl (by decide) (by decide) rfl (by simp [Value.cells,boxP])) ?_
           rintro v60 _ ⟨rfl,_⟩
           refine sb ?_
           refine z1B (retell 5 (g:=row v60 3 (([r39]:List z6).map z6.enc)) rfl rfl) ?_
           exact aw (hK55 (v60,v51,g49)) [0,1,2,3,5,4]
          exact zC
         refine a2 [7,4] 4 [54] [1,2,0,0,0] (fun (s:Value×Value)=>[(51,s.1)]) (fun s=>[atc x_0_Argsv ((0:Int).toNat*4) [.int .i64 x42.Op,.int .i64 x42.At,.string (bs x42.S),s.2],nro s.2 zj x42.Args,row s.1 3 (([r39]:List z6).map z6.enc)]) ?_ (fun hK61=>?_)
         ·rintro ⟨v50,g49⟩
          refine az ?_
          refine zK [7] (by kernel_rfl) rfl ?_
          refine zk ?_ ?_
          ·refine ty ?_
           exact aw (hK57 (v50,g49)) [0,1,2,3,4]
          exact zC
         refine a2 [3,1,4,3] 4 [] [1,2,0,0] (fun (s:Value)=>[(50,.agg #[.int .i64 r39.Kind,.int .i64 r39.At,.string (bs r39.S)]),(55,.agg #[.int .i64 x42.Op,.int .i64 x42.At,.string (bs x42.S),s])]) (fun s=>[atc x_0_Argsv ((0:Int).toNat*4) [.int .i64 x42.Op,.int .i64 x42.At,.string (bs x42.S),s],nro s zj x42.Args]) ?_ (fun hK62=>?_)
         ·rintro g49
          refine az ?_
          refine zK [3,8] (by kernel_rfl) rfl ?_
          refine zk ?_ ?_
          ·refine at' rfl (t_lit [.agg #[.int .i64 r39.Kind,.int .i64 r39.At,.string (bs r39.S)]] Tryz.runUnderlying37 Tryz.sizeOf41 Tryz.zeroValue41 rfl (by decide) (by decide) rfl (by simp [Value.cells,boxP])) ?_
           rintro v63 _ ⟨rfl,_⟩
           refine sb ?_
           refine z1B (retell 4 (g:=row v63 3 (([r39]:List z6).map z6.enc)) rfl rfl) ?_
           exact aw (hK57 (v63,g49)) [0,1,2,3,4]
          refine zk ?_ ?_
          ·refine at' rfl (tc [(3,0)] Tryz.call126 (z7q hrec_ref19_tokens hr45)) ?_
           rintro v64 _ ⟨_,⟨_,rfl,rfl⟩,rfl⟩
           refine sb ?_
           exact aw (hK59 (v64,g49)) [0,1,2,3,4]
          exact zC
         refine a2 [3,1,3,4] 5 [54] [1,2,0,0] (fun (s:Value)=>[(50,.agg #[.int .i64 r39.Kind,.int .i64 r39.At,.string (bs r39.S)])]) (fun s=>[atc x_0_Argsv ((0:Int).toNat*4) [.int .i64 x42.Op,.int .i64 x42.At,.string (bs x42.S),s],nro s zj x42.Args]) ?_ (fun hK65=>?_)
         ·rintro g49
          refine az ?_
          refine zK [3,7] (by kernel_rfl) rfl ?_
          refine zk ?_ ?_
          ·refine at' rfl (t_lit [.agg #[.int .i64 r39.Kind,.int .i64 r39.At,.string (bs r39.S)]] Tryz.runUnderlying37 Tryz.sizeOf41 Tryz.zeroValue41 rfl (by decide) (by decide) rfl (by simp [Value.cells,boxP])) ?_
           rintro v66 _ ⟨rfl,_⟩
           refine sb ?_
           refine z1B (retell 4 (g:=row v66 3 (([r39]:List z6).map z6.enc)) rfl rfl) ?_
           exact aw (hK61 (v66,g49)) [0,1,2,3,4]
          refine zk ?_ ?_
          ·refine ty ?_
           exact aw (hK62 g49) [0,1,2,3]
          exact zC
         refine a2 [2,2,4,3] 5 [49] [1,2,0,0] (fun (s:Value)=>[(55,.agg #[.int .i64 x42.Op,.int .i64 x42.At,.string (bs x42.S),s])]) (fun s=>[atc x_0_Argsv ((0:Int).toNat*4) [.int .i64 x42.Op,.int .i64 x42.At,.string (bs x42.S),s],nro s zj x42.Args]) ?_ (fun hK67=>?_)
         ·rintro g49
          refine az ?_
          refine zK [2] (by kernel_rfl) rfl ?_
          refine zk ?_ ?_
          ·refine at' rfl (tc [] Tryz.call125 (z9y hr40)) ?_
           rintro _ _ ⟨_,⟨rfl,rfl⟩,rfl⟩
           refine sb ?_
           exact aw (hK62 g49) [0,1,2,3]
          exact zC
         refine zK [2,7] (by kernel_rfl) rfl ?_
         refine zk ?_ ?_
         ·refine at' rfl (tc [] Tryz.call125 (z9y hr40)) ?_
          rintro _ _ ⟨_,⟨rfl,rfl⟩,rfl⟩
          refine sb ?_
          exact aw (hK65 g49) [0,1,2,3]
         refine zk ?_ ?_
         ·refine ty ?_
          exact aw (hK67 g49) [0,1,2,3]
         exact zC
        ·refine zh ?_
         refine ys ?_
         refine zd ?_
         refine rc h (fun _ h=>?_) (fun _ h=>?_)
         ·refine zh ?_
          refine ys ?_
          obtain ⟨x69,hzx69,hlx69,hxx69,h⟩:=zP h
          refine ys ?_
          refine z4a (exAtT (T:=z1b) (i:=(0:Int).toNat) 1 rfl hxx69) ?_
          rintro (g70:Value)
          refine ys ?_
          obtain ⟨r71,hr72,h⟩:=zJ h
          refine zt (tc [(3,0)] Tryz.call126 (z7q hrec_ref19_tokens hr72)) ?_
          rintro v73 _ ⟨_,⟨_,rfl,rfl⟩,rfl⟩
          refine cl0 [] Tryz.call124 (fun h=>z2Q h) h (fun r74 h=>?_)
          refine cl0 [] Tryz.call127 (fun h=>z4b h) h (fun r76 h=>?_)
          refine zt (t_lit [.agg #[.int .i64 r74.Kind,.int .i64 r74.At,.string (bs r74.S)],.agg #[.int .i64 r76.Kind,.int .i64 r76.At,.string (bs r76.S)]] Tryz.runUnderlying37 Tryz.sizeOf41 Tryz.zeroValue41 rfl (by decide) (by decide) rfl (by simp [Value.cells,boxP])) ?_
          rintro v78 _ ⟨rfl,_⟩
          refine zB (retell 5 (g:=row v78 3 (([r74,r76]:List z6).map z6.enc)) rfl rfl) ?_
          obtain ⟨hr80,h⟩:=zX h
          refine zt (z1U (es:=3) 4 rfl Tryz.runUnderlying37 rfl Tryz.runUnderlying37 (.inr ⟨_,rfl⟩) Tryz.typeInfo41 rfl (by decide) Tryz.zeroValue41 rfl rfl rfl rfl (z1C 5 rfl z1d (z42 z6.enc_ok _)) (z1T hr80 (by decide)) (z2H hr80)) ?_
          rintro v79 _ rfl
          refine zB (retell 4 (g:=row v79 3 ((r71++([r74,r76]:List z6)).map z6.enc)) rfl (congrArg (row _ _) List.map_append.symm)) ?_
          refine ys ?_
          refine zd ?_
          refine jr h [] [0] (fun s (g:Value)=>[(3,g)]) (fun s g=>[row g 3 (s.map z6.enc)]) (fun _ h _ _ hL85=>?_) ?_
          ·refine zH ?_
           refine rj [1,3] [0,1,4] ?_
           refine z8 ?_
           refine ys ?_
           refine zd ?_
           refine zF ?_
           refine lo h [1] [0,1,2] (fun s (g:Value)=>[(3,g),(4,.int .i64 s.2)]) (fun s g=>[row g 3 (s.1.map z6.enc)]) _ [2,0,1] ?_
           rintro ⟨out_87,i_88⟩ _ _ h _ hgo91 hstop92
           refine rs ?_
           refine zH ?_
           refine zh ?_
           refine ys ?_
           refine zd ?_
           refine rc h (fun _ h=>?_) (fun _ h=>?_)
           ·refine run_skip ?_
            refine zg ?_
            refine zF ?_
            refine jr h [1,4] [0,2,3] (fun s (g:Value)=>[(3,g)]) (fun s g=>[row g 3 (s.map z6.enc)]) (fun _ h _ _ hL99=>?_) ?_
            ·refine zh ?_
             refine ys ?_
             refine zd ?_
             refine rc h (fun _ h=>?_) (fun _ h=>?_)
             ·refine z8 ?_
              refine ys ?_
              refine cl0 [] Tryz.call127 (fun h=>z4b h) h (fun r102 h=>?_)
              refine zt (t_lit [.agg #[.int .i64 r102.Kind,.int .i64 r102.At,.string (bs r102.S)]] Tryz.runUnderlying37 Tryz.sizeOf41 Tryz.zeroValue41 rfl (by decide) (by decide) rfl (by simp [Value.cells,boxP])) ?_
              rintro v104 _ ⟨rfl,_⟩
              refine zB (retell 3 (g:=row v104 3 (([r102]:List z6).map z6.enc)) rfl rfl) ?_
              obtain ⟨hr106,h⟩:=zX h
              refine zt (z1U (es:=3) 0 rfl Tryz.runUnderlying37 rfl Tryz.runUnderlying37 (.inr ⟨_,rfl⟩) Tryz.typeInfo41 rfl (by decide) Tryz.zeroValue41 rfl rfl rfl rfl (z1C 3 rfl z1d (z42 z6.enc_ok _)) (z1T hr106 (by decide)) (z2H hr106)) ?_
              rintro v105 _ rfl
              refine zB (retell 0 (g:=row v105 3 ((out_87++([r102]:List z6)).map z6.enc)) rfl (congrArg (row _ _) List.map_append.symm)) ?_
              refine ys ?_
              refine zr ?_
              exact gj hL99 _ [0,1,2] h
             ·refine run_skip ?_
              exact gj hL99 _ [0,1,2] h
            rintro out_95 _ h
            refine rs ?_
            refine z8 ?_
            refine ys ?_
            obtain ⟨x107,hzx107,hlx107,hxx107,h⟩:=zP h
            refine ys ?_
            refine z4a (exAtT (T:=z1b) (i:=i_88.toNat) 2 rfl hxx107) ?_
            rintro (g108:Value)
            refine ys ?_
            obtain ⟨r109,hr110,h⟩:=zJ h
            refine zt (tc [(4,0)] Tryz.call56 (hrec_ref19_tokens hr110)) ?_
            rintro v111 _ ⟨_,⟨_,rfl,rfl⟩,rfl⟩
            obtain ⟨hr113,h⟩:=zX h
            refine zt (z1U (es:=3) 0 rfl Tryz.runUnderlying37 rfl Tryz.runUnderlying37 (.inr ⟨_,rfl⟩) Tryz.typeInfo41 rfl (by decide) Tryz.zeroValue41 rfl rfl rfl rfl (z1C 5 rfl z1d (z42 z6.enc_ok _)) (z1T hr113 (by decide)) (z2H hr113)) ?_
            rintro v112 _ rfl
            refine zB (retell 0 (g:=row v112 3 ((out_95++r109).map z6.enc)) rfl (congrArg (row _ _) List.map_append.symm)) ?_
            refine ys ?_
            refine zr ?_
            refine zS ?_
            refine zD ?_
            refine rj [3,1,4] [0,1,2] ?_
            refine z8 ?_
            refine ys ?_
            refine zr ?_
            exact gj hgo91 _ [0,1,2] h
           ·refine z1h _ rfl ?_
            exact gk hL85 hstop92 _ [0] h
          rintro out_81 _ h
          refine rs ?_
          refine zh ?_
          refine ys ?_
          refine cl0 [] Tryz.call127 (fun h=>z4b h) h (fun r114 h=>?_)
          refine zt (t_lit [.agg #[.int .i64 r114.Kind,.int .i64 r114.At,.string (bs r114.S)]] Tryz.runUnderlying37 Tryz.sizeOf41 Tryz.zeroValue41 rfl (by decide) (by decide) rfl (by simp [Value.cells,boxP])) ?_
          rintro v116 _ ⟨rfl,_⟩
          refine zB (retell 1 (g:=row v116 3 (([r114]:List z6).map z6.enc)) rfl rfl) ?_
          obtain ⟨hr118,h⟩:=zX h
          refine zt (z1U (es:=3) 0 rfl Tryz.runUnderlying37 rfl Tryz.runUnderlying37 (.inr ⟨_,rfl⟩) Tryz.typeInfo41 rfl (by decide) Tryz.zeroValue41 rfl rfl rfl rfl (z1C 1 rfl z1d (z42 z6.enc_ok _)) (z1T hr118 (by decide)) (z2H hr118)) ?_
          rintro v117 _ rfl
          refine zB (retell 0 (g:=row v117 3 ((out_81++([r114]:List z6)).map z6.enc)) rfl (congrArg (row _ _) List.map_append.symm)) ?_
          refine ys ?_
          refine zd ?_
          refine zA ?_
          exact fs [2] [0] Tryz.results56 h
         ·refine run_skip ?_
          refine zS ?_
          refine zg ?_
          refine rf [1,1] fun hS=>?_
          refine aq [0,1] ?_
          obtain ⟨x119,hzx119,hlx119,hxx119,h⟩:=zP h
          refine aq [2] ?_
          refine z9T (exAtT (T:=z1b) (i:=(0:Int).toNat) 1 rfl hxx119) ?_
          rintro (g120:Value)
          refine aq [5,6] ?_
          refine zK [3] (by kernel_rfl) rfl (zk ?_ zC)
          refine ty ?_
          refine zK [4] (by kernel_rfl) rfl (zk ?_ zC)
          obtain ⟨r121,hr122,h⟩:=zJ h
          refine at' rfl (tc [(3,0)] Tryz.call126 (z7q hrec_ref19_tokens hr122)) ?_
          rintro v123 _ ⟨_,⟨_,rfl,rfl⟩,rfl⟩
          refine sb ?_
          refine al0 7 [] Tryz.call125 (fun h=>z9y h) h (fun r124 h=>?_)
          refine zK [8] (by kernel_rfl) rfl (zk ?_ zC)
          refine at' rfl (t_lit [.agg #[.int .i64 r124.Kind,.int .i64 r124.At,.string (bs r124.S)]] Tryz.runUnderlying37 Tryz.sizeOf41 Tryz.zeroValue41 rfl (by decide) (by decide) rfl (by simp [Value.cells,boxP])) ?_
          rintro v126 _ ⟨rfl,_⟩
          refine sb ?_
          refine z1B (retell 5 (g:=row v126 3 (([r124]:List z6).map z6.enc)) rfl rfl) ?_
          refine zK [9] (by kernel_rfl) rfl (zk ?_ zC)
          obtain ⟨hr128,h⟩:=zX h
          refine at' rfl (z1U (es:=3) 4 rfl Tryz.runUnderlying37 rfl Tryz.runUnderlying37 (.inr ⟨_,rfl⟩) Tryz.typeInfo41 rfl (by decide) Tryz.zeroValue41 rfl rfl rfl rfl (z1C 5 rfl z1d (z42 z6.enc_ok _)) (z1T hr128 (by decide)) (z2H hr128)) ?_
          rintro v127 _ rfl
          refine sb ?_
          refine z1B (retell 4 (g:=row v127 3 ((r121++([r124]:List z6)).map z6.enc)) rfl (congrArg (row _ _) List.map_append.symm)) ?_
          refine aq [10] ?_
          refine z1K (by kernel_rfl) ?_
          refine zg ?_
          refine rj [1,5] [0,1,4] ?_
          refine z8 ?_
          refine ys ?_
          obtain ⟨x129,hzx129,hlx129,hxx129,h⟩:=zP h
          refine ys ?_
          refine z4a (exAtT (T:=z1b) (i:=(1:Int).toNat) 1 rfl hxx129) ?_
          rintro (g130:Value)
          refine ys ?_
          obtain ⟨r131,hr132,h⟩:=zJ h
          refine zt (tc [(4,0)] Tryz.call126 (z7q hrec_ref19_tokens hr132)) ?_
          rintro v133 _ ⟨_,⟨_,rfl,rfl⟩,rfl⟩
          obtain ⟨hr135,h⟩:=zX h
          refine zt (z1U (es:=3) 2 rfl Tryz.runUnderlying37 rfl Tryz.runUnderlying37 (.inr ⟨_,rfl⟩) Tryz.typeInfo41 rfl (by decide) Tryz.zeroValue41 rfl rfl rfl rfl (z1C 5 rfl z1d (z42 z6.enc_ok _)) (z1T hr135 (by decide)) (z2H hr135)) ?_
          rintro v134 _ rfl
          refine zB (retell 2 (g:=row v134 3 (((r121++([r124]:List z6))++r131).map z6.enc)) rfl (congrArg (row _ _) List.map_append.symm)) ?_
          refine ys ?_
          refine zd ?_
          refine zA ?_
          exact fs [2] [2] Tryz.results56 h
def z5X:Nat→zi→Option ((List z6))
 | 0=>fun _=>none
 | n+1=>z7F n  (z5X n )
theorem z9i {n:Nat}:K20 (z5X n) 56:=by
 induction n with
 | zero=>intro _ _ _  h; cases h
 | succ n ih=>exact ze4 ih
def za5 (t_0:z6):((List UInt8)×Int)→Option (Lp ((List UInt8)×Int) (Lp ((List UInt8)) ((List UInt8)))):=
 fun (out_9,i_10)=>
  cond (decide (i_10<(t_0.S.length:Int)))
   (bindJ (S := (List UInt8))
    (idx t_0.S i_10 fun c23=>
    bindJ (S:=Bool)
     (cond (decide ((c23.toNat : Int) = 34))
      (some (.go true))
      (idx t_0.S i_10 fun c30=>
      some (.go (decide ((c30.toNat:Int)=92)))))
    (fun b24 =>
     cond b24
      (need (out_9.length+([92]:List UInt8).length≤4294967296) (
      some (.go (out_9++([92]:List UInt8)))))
      (some (.go out_9))))
   (fun out_17 =>
    idx t_0.S i_10 fun c35=>
    need (out_17.length+([c35]:List UInt8).length≤4294967296) (
    some (.go ((out_17++([c35]:List UInt8)),(IntKind.i64.wrap (i_10+1)))))))
   (some (.stop (.go out_9)))
def z9o (n:Nat) (t_0:z6):Option ((List UInt8)):=
 cond (decide (t_0.Kind≠4))
  (some t_0.S)
  (bindJ (S := (List UInt8))
   (iter (za5 t_0) n (([]:List UInt8),0))
  (fun out_3 =>
   need ([34].length+out_3.length≤4294967296) (
   need (([34]++out_3).length+[34].length≤4294967296) (
   some (([34]++out_3)++[34])))))
theorem zcE {n:Nat}:K40 (z9o n) 173:=by
 intro t_0 r h
 refine zN Tryz.func173 rfl Tryz.ntmps173 rfl (fun w0 o0=>?_)
 refine zh ?_
 refine zt (t_box rfl) ?_
 rintro _ _ ⟨b1,rfl,rfl⟩
 refine ys ?_
 refine zc ?_
 refine zh ?_
 refine ys ?_
 refine zd ?_
 refine rc h (fun _ h=>?_) (fun _ h=>?_)
 ·refine zh ?_
  refine ys ?_
  refine zd ?_
  refine zA ?_
  exact fs [2] [] Tryz.results173 h
 ·refine run_skip ?_
  refine ze ?_
  refine ys ?_
  refine zd ?_
  refine jr h [] [0] (fun s (g:Value)=>[(3,g)]) (fun s g=>[row g 1 (s.map eB8)]) (fun _ h _ _ hL7=>?_) ?_
  ·refine zh ?_
   refine ys ?_
   refine zd ?_
   refine zF ?_
   refine z3x (nilrow 1) ?_
   refine z3x (retell 1 (g:=row (.slice none 0 0) 1 (([]:List UInt8).map eB8)) rfl rfl) ?_
   refine lo h [1] [0,1] (fun s (g:Value)=>[(3,g),(4,.int .i64 s.2)]) (fun s g=>[row g 1 (s.1.map eB8)]) _ [1,0] ?_
   rintro ⟨out_9,_⟩ v11 _ h _ hgo13 hstop14
   refine rs ?_
   refine zH ?_
   refine zh ?_
   refine ys ?_
   refine zd ?_
   refine rc h (fun _ h=>?_) (fun _ h=>?_)
   ·refine run_skip ?_
    refine zg ?_
    refine zF ?_
    refine jr h [1,4] [0,2] (fun s (g:Value)=>[(3,g)]) (fun s g=>[row g 1 (s.map eB8)]) (fun _ h _ _ hL21=>?_) ?_
    ·refine zh ?_
     refine yx ?_
     obtain ⟨c23,hzc23,hlc23,hxc23,h⟩:=zP h
     refine zq yr ?_
     refine ys ?_
     refine ob h 6 [3,4,1] [1,2] (fun s=>[(28,.bool s)]) (fun s=>[]) (fun _ h _ _ hL28=>?_) ?_
     ·refine z1c 22 (decide ((c23.toNat:Int)=34)) rfl (fun hg29=>?_) (fun hg29=>?_)
      ·replace h:=z2F h hg29
       refine ys ?_
       refine oh [0,1] [row v11 1 (out_9.map eB8),box b1 [.int .i64 t_0.Kind,.int .i64 t_0.At,.string (bs t_0.S)]] ?_
       refine ys ?_
       refine zr ?_
       exact gb hL28 [0,1] h
      ·replace h:=z2E h hg29
       refine yx ?_
       obtain ⟨c30,hzc30,hlc30,hxc30,h⟩:=zP h
       refine zq yr ?_
       refine oh [0,1] [row v11 1 (out_9.map eB8),box b1 [.int .i64 t_0.Kind,.int .i64 t_0.At,.string (bs t_0.S)]] ?_
       refine ys ?_
       refine zr ?_
       exact gb hL28 [0,1] h
     rintro b24 h
     refine os ?_
     refine zd ?_
     refine rc h (fun _ h=>?_) (fun _ h=>?_)
     ·refine z8 ?_
      refine ys ?_
      refine zt (t_lit [.int .u8 92] Tryz.runUnderlying58 Tryz.sizeOf5 Tryz.zeroValue5 rfl (by decide) (by decide) rfl (by simp [Value.cells,boxP])) ?_
      rintro v32 _ ⟨rfl,_⟩
      refine zB (retell 2 (g:=row v32 1 (([92]:List UInt8).map eB8)) rfl rfl) ?_
      obtain ⟨hr34,h⟩:=zX h
      refine zt (z1U (es:=1) 0 rfl Tryz.runUnderlying58 rfl Tryz.runUnderlying58 (.inr ⟨_,rfl⟩) Tryz.typeInfo5 rfl (by decide) Tryz.zeroValue5 rfl rfl rfl rfl (z1C 2 rfl z1d (z42 zhZ _)) (z1T hr34 (by decide)) (z2H hr34)) ?_
      rintro v33 _ rfl
      refine zB (retell 0 (g:=row v33 1 ((out_9++([92]:List UInt8)).map eB8)) rfl (congrArg (row _ _) List.map_append.symm)) ?_
      refine ys ?_
      refine zr ?_
      exact gj hL21 _ [0,1] h
     ·refine run_skip ?_
      exact gj hL21 _ [0,1] h
    rintro out_17 _ h
    refine rs ?_
    refine z8 ?_
    refine yx ?_
    obtain ⟨c35,hzc35,hlc35,hxc35,h⟩:=zP h
    refine zq yr ?_
    refine zt (t_lit [.int .u8 (c35.toNat:Int)] Tryz.runUnderlying58 Tryz.sizeOf5 Tryz.zeroValue5 rfl (by decide) (by decide) rfl (by simp [Value.cells,boxP])) ?_
    rintro v36 _ ⟨rfl,_⟩
    refine zB (retell 2 (g:=row v36 1 (([c35]:List UInt8).map eB8)) rfl rfl) ?_
    obtain ⟨hr38,h⟩:=zX h
    refine zt (z1U (es:=1) 0 rfl Tryz.runUnderlying58 rfl Tryz.runUnderlying58 (.inr ⟨_,rfl⟩) Tryz.typeInfo5 rfl (by decide) Tryz.zeroValue5 rfl rfl rfl rfl (z1C 2 rfl z1d (z42 zhZ _)) (z1T hr38 (by decide)) (z2H hr38)) ?_
    rintro v37 _ rfl
    refine zB (retell 0 (g:=row v37 1 ((out_17++([c35]:List UInt8)).map eB8)) rfl (congrArg (row _ _) List.map_append.symm)) ?_
    refine ys ?_
    refine zr ?_
    refine zS ?_
    refine zD ?_
    refine rj [3,1,4] [0,1] ?_
    refine z8 ?_
    refine ys ?_
    refine zr ?_
    exact gj hgo13 _ [0,1] h
   ·refine z1h _ rfl ?_
    exact gk hL7 hstop14 _ [0] h
  rintro out_3 _ h
  refine rs ?_
  refine zh ?_
  refine ys ?_
  refine zq (y_b2s (l:=out_3) 0 Tryz.runUnderlying58 Tryz.runUnderlying5 Tryz.runUnderlying9 rfl rfl z1d) ?_
  obtain ⟨hs39,h⟩:=zX h
  refine zq (zdd rfl rfl hs39) ?_
  obtain ⟨hs40,h⟩:=zX h
  refine zq (zdd rfl rfl hs40) ?_
  refine ys ?_
  refine zd ?_
  refine zA ?_
  exact fs [2] [] Tryz.results173 h
def z9N (n:Nat) (t_0:z6):Option (Bool):=
 cond (decide (32768<(t_0.S.length:Int)))
  (some false)
  (obind (z9o n t_0) fun r3=>
  obind (z6w n r3) fun r5=>
  bindJ (S:=Bool)
   (cond (decide (r5.P.E = 0) && decide ((r5.L.length : Int) = 1))
    (idx r5.L 0 fun x19=>
    some (.go (decide (x19.Kind=t_0.Kind))))
    (some (.go false)))
  (fun b13 =>
   bindJ (S:=Bool)
    (cond b13
     (idx r5.L 0 fun x26=>
     some (.go (decide (x26.S=t_0.S))))
     (some (.go false)))
   (fun b20 =>
    bindJ (S:=Bool)
     (cond b20
      (idx r5.L 0 fun x33=>
      some (.go (decide (x33.At=0))))
      (some (.go false)))
    (fun b27 =>
     some b27))))
theorem zfO {n:Nat} {t_0:z6} {r:Bool} (h:z9N n t_0=some r) :
  Meets Tryz.prog 172 [.agg #[.int .i64 t_0.Kind,.int .i64 t_0.At,.string (bs t_0.S)]] [] (fun v G=>v = .bool r∧G=[]):=by
 refine zN Tryz.func172 rfl Tryz.ntmps172 rfl (fun w0 o0=>?_)
 refine zh ?_
 refine zt (t_box rfl) ?_
 rintro _ _ ⟨b1,rfl,rfl⟩
 refine ys ?_
 refine zc ?_
 refine zh ?_
 refine ys ?_
 refine zd ?_
 refine rc h (fun _ h=>?_) (fun _ h=>?_)
 ·refine zh ?_
  refine ys ?_
  refine zd ?_
  refine zA ?_
  exact fs [2] [] Tryz.results172 h
 ·refine run_skip ?_
  refine ze ?_
  refine ys ?_
  refine cl0 [] Tryz.call173 (fun h=>zcE h) h (fun r3 h=>?_)
  refine cl1 [] Tryz.call34 (fun h=>zaW h) h (fun r5 v7 h=>?_)
  refine al fun b8=>?_
  refine ys ?_
  refine zc ?_
  refine rj [1,3] [0,1,2] ?_
  refine z4U (by kernel_rfl) (by kernel_rfl) ?_
  refine yu ?_
  refine sq 5 15 20 [1,3] [0,1,2] (decide (r5.P.E=0) && decide ((r5.L.length:Int)=1)) ?_
  refine yu ?_
  refine sbj h 9 [1,3] [1,2,3] (fun s=>[(30,.bool s)]) (fun s=>[]) (fun _ h _ _ hL17=>?_) ?_
  ·refine z86 21 (decide (r5.P.E=0) && decide ((r5.L.length:Int)=1)) rfl (fun hg18=>?_) (fun hg18=>?_)
   ·replace h:=z2F h hg18
    refine yu ?_
    obtain ⟨x19,hzx19,hlx19,hxx19,h⟩:=zP h
    refine yu ?_
    refine z2m ?_
    exact gb hL17 [0,1,2] h
   ·replace h:=z2E h hg18
    refine yu ?_
    refine z2m ?_
    exact gb hL17 [0,1,2] h
  rintro b13 h
  refine ss' ?_
  refine yu ?_
  refine sbj h 9 [3] [1,2,3] (fun s=>[(40,.bool s)]) (fun s=>[]) (fun _ h _ _ hL24=>?_) ?_
  ·refine z86 31 b13 rfl (fun hg25=>?_) (fun hg25=>?_)
   ·replace h:=z2F h hg25
    refine yu ?_
    obtain ⟨x26,hzx26,hlx26,hxx26,h⟩:=zP h
    refine yu ?_
    refine z2m ?_
    exact gb hL24 [0,1,2] h
   ·replace h:=z2E h hg25
    refine yu ?_
    refine z2m ?_
    exact gb hL24 [0,1,2] h
  rintro b20 h
  refine ss' ?_
  refine yu ?_
  refine sbj h 7 [] [1,2,3] (fun s=>[(48,.bool s)]) (fun s=>[]) (fun _ h _ _ hL31=>?_) ?_
  ·refine z86 41 b20 rfl (fun hg32=>?_) (fun hg32=>?_)
   ·replace h:=z2F h hg32
    refine yu ?_
    obtain ⟨x33,hzx33,hlx33,hxx33,h⟩:=zP h
    refine yu ?_
    refine z2m ?_
    exact gb hL31 [0,1,2] h
   ·replace h:=z2E h hg32
    refine yu ?_
    refine z2m ?_
    exact gb hL31 [0,1,2] h
  rintro b27 h
  refine ss' ?_
  refine yu ?_
  refine z2m ?_
  refine zD ?_
  refine zA ?_
  exact fs [2] [] Tryz.results172 h
def zcz (n:Nat) (l_0:(List z6)):((List UInt8)×Int)→Option (Lp ((List UInt8)×Int) (Lp ((List UInt8)) (z3l))):=
 fun (out_8,i_9)=>
  cond (decide (i_9<(l_0.length:Int)))
   (idx l_0 i_9 fun x16=>
   obind (z9N n x16) fun r17=>
   cond (!r17)
    (some (.stop (.stop (z3l.mk [] 1))))
    (bindJ (S := (List UInt8))
     (cond (decide (0 < i_9))
      (need (out_8.length+([32]:List UInt8).length≤4294967296) (
      some (.go (out_8++([32]:List UInt8)))))
      (some (.go out_8)))
    (fun out_20 =>
     idx l_0 i_9 fun x30=>
     obind (z9o n x30) fun r31=>
     need (out_20.length+r31.length≤4294967296) (
     some (.go ((out_20++r31),(IntKind.i64.wrap (i_9+1))))))))
   (some (.stop (.go out_8)))
def zev (n:Nat) (l_0:(List z6)):Option (z3l):=
 bindJ (S:=(List UInt8))
  (iter (zcz n l_0) n (([]:List UInt8),0))
 (fun out_2 =>
  cond (decide (65536<(out_2.length:Int)))
   (some (z3l.mk [] 2))
   (some (z3l.mk out_2 0)))
theorem zj9 {n:Nat} {l_0:(List z6)} {l_0v:Value} {r:z3l} (h:zev n l_0=some r) :
  Meets Tryz.prog 120 [l_0v] [ro l_0v 3 (l_0.map z6.enc)] (fun v G=>v = .agg #[.string (bs r.S),.int .i64 r.E]∧G=[]):=by
 refine zN Tryz.func120 rfl Tryz.ntmps120 rfl (fun w0 o0=>?_)
 refine zh ?_
 refine al fun b1=>?_
 refine za ?_
 refine ys ?_
 refine zd ?_
 refine jr h [2] [0,2] (fun s (g:Value)=>[(3,g)]) (fun s g=>[row g 1 (s.map eB8)]) (fun _ h ho5 _ hL6=>?_) ?_
 ·refine zh ?_
  refine ys ?_
  refine zd ?_
  refine zF ?_
  refine z3x (nilrow 1) ?_
  refine z3x (retell 2 (g:=row (.slice none 0 0) 1 (([]:List UInt8).map eB8)) rfl rfl) ?_
  refine lo h [0,2] [0,1,2] (fun s (g:Value)=>[(3,g),(4,.int .i64 s.2)]) (fun s g=>[row g 1 (s.1.map eB8)]) _ [2,0,1] ?_
  rintro ⟨out_8,_⟩ _ _ h _ hgo12 hstop13
  refine rs ?_
  refine zH ?_
  refine zh ?_
  refine ys ?_
  refine zd ?_
  refine rc h (fun _ h=>?_) (fun _ h=>?_)
  ·refine run_skip ?_
   refine zg ?_
   refine zF ?_
   refine zh ?_
   refine yx ?_
   obtain ⟨x16,hzx16,hlx16,hxx16,h⟩:=zP h
   refine zq yr ?_
   refine ys ?_
   refine cl0 [] Tryz.call172 (fun h=>zfO h) h (fun r17 h=>?_)
   refine ys ?_
   refine zc ?_
   refine zH ?_
   refine rj [3,4,0,2,5] [0,1,2] ?_
   refine z8 ?_
   refine ys ?_
   refine zd ?_
   refine rc h (fun _ h=>?_) (fun _ h=>?_)
   ·refine zh ?_
    refine ys ?_
    refine zd ?_
    refine zA ?_
    obtain rfl:=zU h
    obtain rfl:=hstop13 _ rfl
    skip
    obtain rfl:=zM ho5
    exact fq [] Tryz.results120
   ·refine run_skip ?_
    refine zD ?_
    refine jr h [0,2,4] [0,2,3] (fun s (g:Value)=>[(3,g)]) (fun s g=>[row g 1 (s.map eB8)]) (fun _ h _ _ hL24=>?_) ?_
    ·refine zh ?_
     refine ys ?_
     refine zd ?_
     refine rc h (fun _ h=>?_) (fun _ h=>?_)
     ·refine z8 ?_
      refine ys ?_
      refine zt (t_lit [.int .u8 32] Tryz.runUnderlying58 Tryz.sizeOf5 Tryz.zeroValue5 rfl (by decide) (by decide) rfl (by simp [Value.cells,boxP])) ?_
      rintro v27 _ ⟨rfl,_⟩
      refine zB (retell 3 (g:=row v27 1 (([32]:List UInt8).map eB8)) rfl rfl) ?_
      obtain ⟨hr29,h⟩:=zX h
      refine zt (z1U (es:=1) 0 rfl Tryz.runUnderlying58 rfl Tryz.runUnderlying58 (.inr ⟨_,rfl⟩) Tryz.typeInfo5 rfl (by decide) Tryz.zeroValue5 rfl rfl rfl rfl (z1C 3 rfl z1d (z42 zhZ _)) (z1T hr29 (by decide)) (z2H hr29)) ?_
      rintro v28 _ rfl
      refine zB (retell 0 (g:=row v28 1 ((out_8++([32]:List UInt8)).map eB8)) rfl (congrArg (row _ _) List.map_append.symm)) ?_
      refine ys ?_
      refine zr ?_
      exact gj hL24 _ [0,1,2] h
     ·refine run_skip ?_
      exact gj hL24 _ [0,1,2] h
    rintro out_20 _ h
    refine rs ?_
    refine z8 ?_
    refine yx ?_
    obtain ⟨x30,hzx30,hlx30,hxx30,h⟩:=zP h
    refine zq yr ?_
    refine ys ?_
    refine cl0 [] Tryz.call173 (fun h=>zcE h) h (fun r31 h=>?_)
    obtain ⟨hr34,h⟩:=zX h
    refine zt (z1U (es:=1) 0 rfl Tryz.runUnderlying58 rfl Tryz.runUnderlying9 (.inl rfl) Tryz.typeInfo5 rfl (by decide) Tryz.zeroValue5 rfl rfl rfl rfl (zsu _) (z1T hr34 (by decide)) (z2H hr34)) ?_
    rintro v33 _ rfl
    refine zB (retell 0 (g:=row v33 1 ((out_20++r31).map eB8)) rfl (congrArg (row _ _) List.map_append.symm)) ?_
    refine ys ?_
    refine zr ?_
    refine zS ?_
    refine zD ?_
    refine rj [3,0,2,4] [0,1,2] ?_
    refine z8 ?_
    refine ys ?_
    refine zr ?_
    exact gj hgo12 _ [0,1,2] h
  ·refine z1h _ rfl ?_
   exact gk hL6 hstop13 _ [0,2] h
 rintro out_2 _ h
 refine rs ?_
 refine zH ?_
 refine zh ?_
 refine ys ?_
 refine zd ?_
 refine rc h (fun _ h=>?_) (fun _ h=>?_)
 ·refine zh ?_
  refine ys ?_
  refine zd ?_
  refine zA ?_
  exact fr [] Tryz.results120 h
 ·refine run_skip ?_
  refine ze ?_
  refine ys ?_
  refine zq (y_b2s (l:=out_2) 0 Tryz.runUnderlying58 Tryz.runUnderlying5 Tryz.runUnderlying9 rfl rfl z1d) ?_
  refine ys ?_
  refine zd ?_
  refine zA ?_
  exact fr [] Tryz.results120 h
def z9t (n:Nat) (l_0:(List z6)):Option (z2n):=
 obind (zev n l_0) fun r2=>
 cond (decide (r2.E=1))
  (some (z2n.mk [] 3))
  (bindJ (S := Bool)
   (cond (decide (r2.E ≠ 0))
    (some (.go true))
    (obind (zcO n l_0) fun r12=>
    some (.go (decide (0≤r12)))))
  (fun b6 =>
   cond b6
    (some (z2n.mk [] 2))
    (some (z2n.mk r2.S 0))))
theorem zcV {n:Nat} {l_0:(List z6)} {l_0v:Value} {r:z2n} (h:z9t n l_0=some r) :
  Meets Tryz.prog 55 [l_0v] [ro l_0v 3 (l_0.map z6.enc)] (fun v G=>v = .agg #[.string (bs r.S),.int .i64 r.E]∧G=[]):=by
 refine zN Tryz.func55 rfl Tryz.ntmps55 rfl (fun w0 o0=>?_)
 refine zh ?_
 refine al fun b1=>?_
 refine za ?_
 refine ys ?_
 refine cl0 [(0,0)] Tryz.call120 (fun h=>zj9 h) h (fun r2 h=>?_)
 refine al fun b4=>?_
 refine ys ?_
 refine zc ?_
 refine zh ?_
 refine ys ?_
 refine zd ?_
 refine rc h (fun _ h=>?_) (fun _ h=>?_)
 ·refine zH ?_
  refine rj [2] [1] ?_
  refine z8 ?_
  refine ys ?_
  refine zd ?_
  refine zA ?_
  exact fr [] Tryz.results55 h
 ·refine run_skip ?_
  refine zg ?_
  refine zH ?_
  refine rj [0,2,3] [0,1,2] ?_
  refine z8 ?_
  refine ys ?_
  refine ob h 4 [2,3] [2,3] (fun s=>[(17,.bool s)]) (fun s=>[]) (fun _ h _ _ hL10=>?_) ?_
  ·refine z1c 13 (decide (r2.E≠0)) rfl (fun hg11=>?_) (fun hg11=>?_)
   ·replace h:=z2F h hg11
    refine ys ?_
    refine zr ?_
    exact gb hL10 [1,2] h
   ·replace h:=z2E h hg11
    refine ys ?_
    refine cl0 [(0,0)] Tryz.call35 (fun h=>zcP h) h (fun r12 h=>?_)
    refine ys ?_
    refine zr ?_
    exact gb hL10 [1,2] h
  rintro b6 h
  refine os ?_
  refine zd ?_
  refine rc h (fun _ h=>?_) (fun _ h=>?_)
  ·refine zh ?_
   refine ys ?_
   refine zd ?_
   refine zA ?_
   exact fr [] Tryz.results55 h
  ·refine run_skip ?_
   refine ze ?_
   refine ys ?_
   refine zd ?_
   refine zA ?_
   exact fr [] Tryz.results55 h
end Go.Proofs.YtcmaoifiiigggaaGreatDoor
