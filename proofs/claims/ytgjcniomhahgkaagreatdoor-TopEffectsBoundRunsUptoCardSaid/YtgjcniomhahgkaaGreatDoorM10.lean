/-
  Texts that stand side by side: TeUs, TeSo, TeTo, TeTp, TeTq, TeUk.
-/
import Derived.Test.YtgjcniomhahgkaaGreatDoorM9
import Derived.Test.YtgjcniomhahgkaaGreatDoorAbsPlain
set_option linter.unusedSimpArgs false
set_option linter.unusedVariables false
namespace Go.Proofs.YtgjcniomhahgkaaGreatDoor
open Go.Abs
set_option maxRecDepth 20000
set_option maxHeartbeats 2000000
instance math_bits_Len64_169_k:Con Tryz.prog 169 0 (∀ {x_0:Int} {r:Int},z5G x_0=some r→Meets Tryz.prog 169 [.int .u64 x_0] [] (fun v G=>v = .int .i64 r∧G=[])):=⟨Tryz.call169,by
 intros; rename_i h; unfold z5G at h
 exact dfn (.j 0 [] [(0,.i .u64 1),(2,.t 2)] [] .e (.j 0 [] [(0,.i .u64 1),(2,.t 2)] [] .e (.j 0 [] [(0,.i .u64 1),(2,.t 2)] [] .e .e))) Tryz.func169 Tryz.ntmps169 Tryz.results169 h⟩
instance math_bits_Len_124_k:Con Tryz.prog 124 0 (∀ {x_0:Int} {r:Int},z6t x_0=some r→Meets Tryz.prog 124 [.int .u64 x_0] [] (fun v G=>v = .int .i64 r∧G=[])):=⟨Tryz.call124,by
 intros; rename_i h; unfold z6t at h
 exact dfn .e Tryz.func124 Tryz.ntmps124 Tryz.results124 h⟩
instance cmp_isNaN_int_200_k:Con Tryz.prog 200 0 (∀ {x_0:Int} {r:Bool},z5n x_0=some r→Meets Tryz.prog 200 [.int .i64 x_0] [] (fun v G=>v = .bool r∧G=[])):=⟨Tryz.call200,by
 intros; rename_i h; unfold z5n at h
 exact dfn .e Tryz.func200 Tryz.ntmps200 Tryz.results200 h⟩
instance cmp_Less_int_165_k:Con Tryz.prog 165 0 (∀ {x_0:Int} {y_1:Int} {r:Bool},z6H x_0 y_1=some r→Meets Tryz.prog 165 [.int .i64 x_0,.int .i64 y_1] [] (fun v G=>v = .bool r∧G=[])):=⟨Tryz.call165,by
 intros; rename_i h; unfold z6H at h
 exact dfn .e Tryz.func165 Tryz.ntmps165 Tryz.results165 h⟩
instance slices_insertionSortOrdered_int_159_k:Con Tryz.prog 159 0 (∀ {n:Nat} {data_0:(List Int)} {a_1:Int} {b_2:Int} {data_0v:Value} {r:(List Int)},z2Z n data_0 a_1 b_2=some r→Meets Tryz.prog 159 [data_0v,.int .i64 a_1,.int .i64 b_2] [row data_0v 1 (data_0.map (eInt .i64))] (fun v G=>v = .tuple #[]∧G=[row data_0v 1 (r.map (eInt .i64))])):=⟨Tryz.call159,by
 intros; rename_i h; unfold z2Z at h
 exact dfn (.l 0 [0,1,2] [(6,.t 1)] [.p 0 2] (.c (.j 0 [0,1,2,6] [] [.p 0 0] (.l 0 [0,1,2,6] [(7,.t 1)] [.p 0 2] (.d [0,1,2,3,4,5,6,7,8,9,10,11,12,13,14] [] [.t,.t,.t,.t,.t,.t,.t,.t,.t,.t,.t,.t,.t,.f,.t] [] (.c (.s (.d [0,1,2,3,4,5,6,7,8,9,10,11,12,13,14,15,16,17] [] [.t,.t,.n,.n,.n,.t,.t,.t,.t,.t,.t,.t,.t,.t,.t,.f,.t,.f] [[15,17]] .e)) .e))) .e) .e)) Tryz.func159 Tryz.ntmps159 Tryz.results159 h⟩
instance pdqP_k:Con Tryz.prog 123 0 (∀ {n:Nat} {l:List Int} {a b k:Int} {v:Value} {r:List Int},pdqP n l a b k=some r→Meets Tryz.prog 123 [v,.int .i64 a,.int .i64 b,.int .i64 k] [row v 1 (l.map (eInt .i64))] (fun v' G=>v' = .tuple #[]∧G=[row v 1 (r.map (eInt .i64))])):=⟨Tryz.call123,by
 intros; rename_i h; unfold pdqP at h
 exact dfn (.l 0 [0,1,2,3] [] [.k 0] .e) Tryz.func123 Tryz.ntmps123 Tryz.results123 h⟩
instance sortP_k:Con Tryz.prog 91 0 (∀ {n:Nat} {l:List Int} {v:Value} {r:List Int},sortP n l=some r→Meets Tryz.prog 91 [v] [row v 1 (l.map (eInt .i64))] (fun v' G=>v' = .tuple #[]∧G=[row v 1 (r.map (eInt .i64))])):=⟨Tryz.call91,by
 intros; rename_i h; unfold sortP at h
 exact dfn .e Tryz.func91 Tryz.ntmps91 Tryz.results91 h⟩
def appP (m:List (Int×Bool)):Option Unit:=need (m.length≤4294967296) (some ())
instance appP_k:Con Tryz.prog 122 0 (∀ {b r0:Nat} {m:List (Int×Bool)} {r:Unit},appP m=some r→Meets Tryz.prog 122 [.slice none 0 0,.func (.func 92) #[] #[boxP b 0]] [box b [mapV r0],mapis r0 (mcells kI kB m)] (fun v G=>∃ (ks:Ord m) (v0:Value),v=v0∧G=[row v0 1 (ks.1.map (eInt .i64))])):=⟨Tryz.call122,by
 intro b r0 m r h
 exact zfh (z39 h).1⟩
def collP (m:List (Int×Bool)):Option Unit:=
 obind (appP m) fun _=>
 some ()
instance collP_k:Con Tryz.prog 90 0 (∀ {b r0:Nat} {m:List (Int×Bool)} {r:Unit},collP m=some r→Meets Tryz.prog 90 [.func (.func 92) #[] #[boxP b 0]] [box b [mapV r0],mapis r0 (mcells kI kB m)] (fun v G=>∃ (ks:Ord m) (v0:Value),v=v0∧G=[row v0 1 (ks.1.map (eInt .i64))])):=⟨Tryz.call90,by
 intros; rename_i h; unfold collP at h
 exact dfn .e Tryz.func90 Tryz.ntmps90 Tryz.results90 h⟩
def keysP:Option Unit:=some ()
instance keysP_k:Con Tryz.prog 40 0 (∀ {r0:Nat} {r:Unit},keysP=some r→Meets Tryz.prog 40 [mapV r0] [] (fun v G=>∃ b,v = .func (.func 92) #[] #[boxP b 0]∧G=[box b [mapV r0]])):=⟨Tryz.call40,by
 intros; rename_i h; unfold keysP at h
 exact dfn .e Tryz.func40 Tryz.ntmps40 Tryz.results40 h⟩
end Go.Proofs.YtgjcniomhahgkaaGreatDoor
namespace Go.Proofs.YtgjcniomhahgkaaGreatDoor
open Go.Abs
set_option maxRecDepth 20000
set_option maxHeartbeats 2000000
abbrev six:List Int:=[1,2,3,4,5,6]
def allL:Nat→List (List Int)
 | 0=>[[]]
 | n+1=>[]::(allL n).flatMap fun l=>(six.filter fun x=>!l.contains x).map fun x=>x::l
theorem zej:∀ (n:Nat) (l:List Int),l.length≤n→l.Nodup→(∀ x∈l,x∈six)→l∈allL n
  | 0, l, h, _, _ => by
    have:l=[]:=List.length_eq_zero_iff.1 (by omega)
    subst this; exact .head _
  | n+1,[],_,_,_=>.head _
  | n + 1, x :: l, h, hn, hs => by
    refine .tail _ (List.mem_flatMap.2 ⟨l,zej n l (by simpa using h) (List.nodup_cons.1 hn).2 (fun y hy=>hs y (.tail _ hy)),?_⟩)
    refine List.mem_map.2 ⟨x,List.mem_filter.2 ⟨hs x (.head _),?_⟩,rfl⟩
    simpa using (List.nodup_cons.1 hn).1
theorem sorts:((allL 6).all fun l=>sortP 20 l == some (six.filter fun e=>l.contains e))=true:=by kernel_rfl
theorem ziA {l:List Int} (hn:l.Nodup) (hs:∀ x∈l,x∈six):sortP 20 l=some (six.filter fun e=>l.contains e):=by
 have hl:l.length≤6:=zaM _ _ hn hs
 have:=List.all_eq_true.1 sorts l (zej 6 l hl hn hs)
 simpa using this
def srtP (m:List (Int×Bool)):Option (List Int):=
 need ((m.map (·.1)).Nodup∧(∀ x∈m.map (·.1),x∈six)) (some (six.filter fun e=>(m.map (·.1)).contains e))
theorem zgb {b r0:Nat} {m:List (Int×Bool)} {srt:List Int} (h:srtP m=some srt):Meets Tryz.prog 39 [.func (.func 92) #[] #[boxP b 0]] [box b [mapV r0],mapis r0 (mcells kI kB m)] (fun v G=>∃ v0,v=v0∧G=[row v0 1 (srt.map (eInt .i64))]):=by
 obtain ⟨⟨h1,h2⟩,h3⟩:=z39 h
 obtain rfl:=Option.some.inj h3
 have hl:m.length≤6:=by
  have:=zaM _ _ h1 h2
  rw [List.length_map] at this; exact this
 refine z9l Tryz.func39 rfl Tryz.ntmps39 rfl fun w0 o0=>?_
 refine z6Q [(0,.func (.func 92) #[] #[boxP b 0])] [0,1] [box b [mapV r0],mapis r0 (mcells kI kB m)] (by intro x hx; simp only [List.mem_cons,List.not_mem_nil,or_false] at hx; rcases hx with rfl; rfl) (by decide) rfl ?_
 refine zh ?_
 refine zq yr ?_
 refine za ?_
 refine zq yr ?_
 refine zt (z9Q (vs:=[.func (.func 92) #[] #[boxP b 0]]) (cs:=[]) [(0,2),(1,2)] rfl Tryz.call90 rfl (collP_k.out (r:=()) (m:=m) (b:=b) (r0:=r0) (by unfold collP appP; rw [zW (by omega)]; rfl)) (z4E 0 rfl (z4E 1 rfl z7h)) rfl (.inl rfl)) ?_
 rintro v0 _ ⟨_,⟨ks,_,rfl,rfl⟩,rfl⟩
 have hk:sortP 20 ks.1=some (six.filter fun e=>(m.map (·.1)).contains e):=by
  rw [ziA (ks.2.nodup_iff.2 h1) (fun x hx=>h2 x (ks.2.mem_iff.1 hx))]
  congr 1
  refine List.filter_congr fun e _=>?_
  rw [Bool.eq_iff_iff]
  simp only [List.contains_iff_mem]
  exact ks.2.mem_iff
 refine DO.out (m:=.o) (X:=obind (sortP 20 ks.1) fun r=>some r) (g:=.e) (r:=six.filter fun e=>(m.map (·.1)).contains e) (L:=[(5,v0),(4,.func (.func 92) #[] #[boxP b 0]),(2,.slice none 0 0),(0,.func (.func 92) #[] #[boxP b 0])]) (H:=[HA.emp,HA.emp,row v0 1 (ks.1.map (eInt .i64))]) ?_ (by rw [hk]; rfl)
 have hres:=Tryz.results39
 exact go
instance srtP_k:Con Tryz.prog 39 0 (∀ {b r0:Nat} {m:List (Int×Bool)} {r:List Int},srtP m=some r→Meets Tryz.prog 39 [.func (.func 92) #[] #[boxP b 0]] [box b [mapV r0],mapis r0 (mcells kI kB m)] (fun v G=>∃ v0,v=v0∧G=[row v0 1 (r.map (eInt .i64))])):=⟨Tryz.call39,zgb⟩
def usedP (n n2:Nat) (p:zG):Option (List Int):=
 obind (findP n n2 p) fun fd=>
 obind keysP fun _=>
 obind (srtP fd.effects_) fun r=>
 some r
theorem ziQ [Con Tryz.prog 47 0 (∀ {n:Nat} {p_0:zG} {p_0_Effectsv:Value} {p_0_Codev:Value} {r:Bool},z3e n p_0=some r→Meets Tryz.prog 47 [.agg #[.string (bs p_0.Name),p_0_Effectsv,p_0_Codev]] [ro p_0_Effectsv 1 (p_0.Effects.map (eInt .i64)),nro p_0_Codev zx p_0.Code] (fun v G=>v = .bool r∧G=[]))] {n n2:Nat} {p:zG} {v0 v1:Value} {r:List Int} (h:usedP n n2 p=some r):Meets Tryz.prog 17 [.agg #[.string (bs p.Name),v0,v1]] [ro v0 1 (p.Effects.map (eInt .i64)),nro v1 zx p.Code] (fun v G=>∃ v2,v=v2∧G=[row v2 1 (r.map (eInt .i64))]):=by
 have:Con Tryz.prog 41 0 (∀ {n n2:Nat} {p:zG} {v0 v1:Value} {r:zb2},findP n n2 p=some r→Meets Tryz.prog 41 [.agg #[.string (bs p.Name),v0,v1]] [ro v0 1 (p.Effects.map (eInt .i64)),nro v1 zx p.Code] (fun v G=>∃ m0 m1 m2,v = .agg #[.map (some m0),.map (some m1),.map (some m2),.bool r.status_]∧G=[mapis m0 (mcells (fun n:Int=>Value.int .i64 n) (fun b:Bool=>Value.bool b) r.effects_)])):=⟨Tryz.call41,fun h=>zi2 h⟩
 unfold usedP at h
 exact dfn .e Tryz.func17 Tryz.ntmps17 Tryz.results17 h
end Go.Proofs.YtgjcniomhahgkaaGreatDoor
namespace Go.Proofs.YtgjcniomhahgkaaGreatDoor
open Go.Abs
mutual
def foldE {S:Type} (f:S→zm→S):S→zm→S
 | s,⟨a,b,c,d,e,l⟩=>z9f f (f s ⟨a,b,c,d,e,l⟩) l
def z9f {S:Type} (f:S→zm→S):S→List zm→S
 | s,[]=>s
 | s,x::r=>z9f f (foldE f s x) r
end
mutual
theorem zfS:∀ x:zm,0<x.nodes
 | ⟨_,_,_,_,_,l⟩=>by unfold zm.nodes; omega
end
theorem zco:∀ l:List zm,l.length≤z2W l
  | []=>Nat.zero_le _
  | x :: r => by
    have h1:=zfS x
    have h2:=zco r
    rw [z2W,List.length_cons]; omega
theorem zbj:∀ {l:List zm} {x:zm},x∈l→x.nodes≤z2W l
  | y :: r, x, h => by
    rw [z2W]
    rcases List.mem_cons.1 h with rfl | h
    · omega
    · have:=zbj h; omega
theorem zcb {S:Type} (f:S→zm→S) (rec:S→zm→Option S) (a:zm) (ha:a.Args.length<2 ^ 62) (hr:∀ s,∀ x∈a.Args,rec s x=some (foldE f s x)) :
    ∀ (l:List zm) (k n:Nat) (s:S),a.Args.drop k=l→l.length<n→k+l.length=a.Args.length→iter (itE_L rec a) n ((k:Int),s)=some (z9f f s l)
  | l,k,0,s,_,h,_=>absurd h (Nat.not_lt_zero _)
  | [], k, n + 1, s, hd, h, hk => by
    refine z3q ?_
    have:¬ ((k:Int)<(a.Args.length:Int)):=by simp at hk; omega
    simp only [itE_L,decide_eq_false this,cond_false,z9f]
  | x :: r, k, n + 1, s, hd, h, hk => by
    have hlt:k<a.Args.length:=by simp at hk; omega
    have hx:a.Args[k]? = some x:=by
      have:=congrArg (·[0]?) hd
      simpa using this
    have hm:x∈a.Args:=List.mem_of_getElem? hx
    have hw:IntKind.i64.wrap ((k:Int)+1)=((k+1:Nat):Int):=by
      rw [w64 (by omega) (by omega)]; rfl
    have hi:=zcb f rec a ha hr r (k+1) n (foldE f s x) (by
      have:=congrArg List.tail hd
      simpa using this) (by simpa using h) (by simp at hk; omega)
    rw [z9f]
    refine (z6K ?_).trans hi
    have hd:decide ((k:Int)<(a.Args.length:Int))=true:=by simp; exact hlt
    simp only [itE_L,hd,cond_true]
    rw [z43 hx]
    simp only [exprs,obind,Option.bind_some,hr s x hm,hw]
theorem zaF {S:Type} {step:S→zm→Option S} {f:S→zm→S} (ht:∀ s x,step s x=some (f s x)) :
    ∀ (n:Nat) (x:zm) (s:S),x.nodes<n→x.nodes<2 ^ 62→itE step n s x=some (foldE f s x)
  | 0,x,s,h,_=>absurd h (Nat.not_lt_zero _)
  | n + 1, ⟨a, b, c, d, e, l⟩, s, h, hb => by
    have hn:(⟨a,b,c,d,e,l⟩ : zm).nodes=1+z2W l:=by rw [zm.nodes]
    have hl:=zco l
    rw [foldE]
    show z9F n (itE step n) step s _=_
    unfold z9F
    rw [ht]
    simp only [obind,Option.bind_some]
    refine zcb f _ _ (by show l.length<2 ^ 62; omega) (fun s y hy=>?_) l 0 n _ rfl (by omega) (by simp)
    have:=zbj (l:=l) (x:=y) hy
    exact zaF ht n y s (by omega) (by omega)
mutual
theorem zag:∀ (x:zm) (k:Nat),k+x.nodes<2 ^ 62→foldE (fun (s:Int) (_:zm)=>IntKind.i64.wrap (s+1)) (k:Int) x=((k+x.nodes:Nat):Int)
  | ⟨a, b, c, d, e, l⟩, k, h => by
    rw [zm.nodes] at h ⊢
    rw [foldE,w64 (by omega) (by omega)]
    have:=z9C l (k+1) (by omega)
    rw [show (k:Int)+1=((k+1:Nat):Int) by rfl,this]
    congr 1; omega
theorem z9C:∀ (l:List zm) (k:Nat),k+z2W l<2 ^ 62→z9f (fun (s:Int) (_:zm)=>IntKind.i64.wrap (s+1)) (k:Int) l=((k+z2W l:Nat):Int)
  | [],k,h=>by rw [z9f,z2W]; rfl
  | x :: r, k, h => by
    rw [z2W] at h ⊢
    rw [z9f,zag x k (by omega),z9C r _ (by omega)]
    congr 1; omega
end
theorem zcO {x:zm} (h:x.nodes<2 ^ 62):costP (x.nodes+1) x=some (x.nodes:Int):=by
 unfold costP
 simp only [exprs,obind,Option.bind_some]
 rw [zaF (f:=fun s _=>IntKind.i64.wrap (s+1)) (fun s x=>rfl) _ x 0 (Nat.lt_succ_self _) h]
 have:=zag x 0 (by omega)
 rw [Nat.zero_add] at this
 exact congrArg some this
end Go.Proofs.YtgjcniomhahgkaaGreatDoor
namespace Go.Proofs.YtgjcniomhahgkaaGreatDoor
open Go.Abs
mutual
def foldS {S:Type} (f:S→z7→S):S→z7→S
 | s,⟨a,b,c,d,x,t,e⟩=>z6I f (z6I f (f s ⟨a,b,c,d,x,t,e⟩) t) e
def z6I {S:Type} (f:S→z7→S):S→List z7→S
 | s,[]=>s
 | s,y::r=>z6I f (foldS f s y) r
end
theorem zjz:∀ y:z7,0<y.cnt
 | ⟨_,_,_,_,_,_,_⟩=>by rw [z7.cnt]; omega
theorem zdt:∀ l:List z7,l.length≤cntB l
  | []=>Nat.zero_le _
  | y :: r => by
    have h1:=zjz y
    have h2:=zdt r
    rw [cntB,List.length_cons]; omega
theorem zaA:∀ {l:List z7} {y:z7},y∈l→y.cnt≤cntB l
  | z :: r, y, h => by
    rw [cntB]
    rcases List.mem_cons.1 h with rfl | h
    · omega
    · have:=zaA h; omega
theorem zfx {S:Type} (f:S→z7→S) (s:S) (y:z7):foldS f s y=z6I f (z6I f (f s y) y.Body) y.Else:=by
 cases y; rw [foldS]
theorem zc1 (y:z7):y.cnt=1+y.X.nodes+cntB y.Body+cntB y.Else:=by cases y; rw [z7.cnt]
theorem zfJ {S:Type} {f:S→z7→S} {rec:S→List z7→Option S} {y:z7} (h1:∀ s,rec s y.Body=some (z6I f s y.Body)) (h2:∀ s,rec s y.Else=some (z6I f s y.Else)) (n:Nat) (s:S) (hn:3≤n) :
  iter (zfI rec y) n (0,s)=some (.go (z6I f (z6I f s y.Body) y.Else)):=by
 obtain ⟨m,rfl⟩ : ∃ m,n=m+3:=⟨n - 3,by omega⟩
 refine (z6K (s':=(1,z6I f s y.Body)) ?_).trans ((z6K (s':=(2,z6I f (z6I f s y.Body) y.Else)) ?_).trans (z3q ?_))
 ·simp only [zfI]
  rw [show decide ((0:Int)<(([y.Body,y.Else]:List (List z7)).length:Int))=true by rfl,cond_true,show (0:Int)=((0:Nat):Int) by rfl,z43 (x:=y.Body) rfl]
  simp only [stmts,obind,Option.bind_some,h1]
  rfl
 ·simp only [zfI]
  rw [show decide ((1:Int)<(([y.Body,y.Else]:List (List z7)).length:Int))=true by rfl,cond_true,show (1:Int)=((1:Nat):Int) by rfl,z43 (x:=y.Else) rfl]
  simp only [stmts,obind,Option.bind_some,h2]
  rfl
 ·rfl
theorem zce {S:Type} (n0:Nat) (f:S→z7→S) (step:S→z7→Option S) (rec:S→List z7→Option S) (a:List z7) (hn0:3≤n0) (ha:a.length<2 ^ 62) (ht:∀ s,∀ y∈a,step s y=some (f s y))
    (h1:∀ s,∀ y∈a,rec s y.Body=some (z6I f s y.Body)) (h2:∀ s,∀ y∈a,rec s y.Else=some (z6I f s y.Else)) :
    ∀ (l:List z7) (k n:Nat) (s:S),a.drop k=l→l.length<n→k+l.length=a.length→iter (zfH n0 rec step a) n ((k:Int),s)=some (z6I f s l)
  | l,k,0,s,_,h,_=>absurd h (Nat.not_lt_zero _)
  | [], k, n + 1, s, hd, h, hk => by
    refine z3q ?_
    have:¬ ((k:Int)<(a.length:Int)):=by simp at hk; omega
    simp only [zfH,decide_eq_false this,cond_false,z6I]
  | y :: r, k, n + 1, s, hd, h, hk => by
    have hlt:k<a.length:=by simp at hk; omega
    have hx:a[k]? = some y:=by
      have:=congrArg (·[0]?) hd
      simpa using this
    have hm:y∈a:=List.mem_of_getElem? hx
    have hw:IntKind.i64.wrap ((k:Int)+1)=((k+1:Nat):Int):=by
      rw [w64 (by omega) (by omega)]; rfl
    have hi:=zce n0 f step rec a hn0 ha ht h1 h2 r (k+1) n (foldS f s y) (by
      have:=congrArg List.tail hd
      simpa using this) (by simpa using h) (by simp at hk; omega)
    rw [z6I]
    refine (z6K ?_).trans hi
    have hd:decide ((k:Int)<(a.length:Int))=true:=by simp; exact hlt
    simp only [zfH,hd,cond_true]
    rw [z43 hx]
    simp only [obind,ht s y hm,Option.bind_some]
    rw [zfJ (f:=f) (fun s=>h1 s y hm) (fun s=>h2 s y hm) n0 _ hn0,zfx]
    simp only [bindJ,hw]
theorem zaG {S:Type} {step:S→z7→Option S} {f:S→z7→S}:∀ (n:Nat) (l:List z7) (s:S),(∀ s,∀ y:z7,y.cnt≤cntB l→step s y=some (f s y))→cntB l+3<n→cntB l<2 ^ 62→itS step n s l=some (z6I f s l)
  | 0,l,s,_,h,_=>absurd h (Nat.not_lt_zero _)
  | n + 1, l, s, ht, h, hb => by
    have hl:=zdt l
    show z9G n (itS step n) step s l=_
    unfold z9G
    refine zce n f step _ l (by omega) (by omega) (fun s y hy=>ht s y (zaA hy)) (fun s y hy=>?_) (fun s y hy=>?_) l 0 n s rfl (by omega) (by simp)
    · have h1:=zaA hy
      rw [zc1] at h1
      exact zaG n y.Body s (fun s z hz=>ht s z (by omega)) (by omega) (by omega)
    · have h1:=zaA hy
      rw [zc1] at h1
      exact zaG n y.Else s (fun s z hz=>ht s z (by omega)) (by omega) (by omega)
end Go.Proofs.YtgjcniomhahgkaaGreatDoor
namespace Go.Proofs.YtgjcniomhahgkaaGreatDoor
open Go.Abs
abbrev ks {κ:Type} (m:List (κ×Bool)):List κ:=m.map (·.1)
theorem ze9 {κ:Type} [DecidableEq κ]:∀ (m:List (κ×Bool)) (k x:κ) (b:Bool),x∈ks (mput m k b)↔x=k∨x∈ks m
  | [],k,x,b=>by simp [mput]
  | p :: r, k, x, b => by
    unfold mput
    split
    · rename_i h; simp [h]
    · have:=ze9 r k x b
      simp only [List.map_cons,List.mem_cons] at this ⊢
      rw [this]
      constructor
      · rintro (h | h | h) <;> simp [h]
      · rintro (h | h | h) <;> simp [h]
theorem zfR {κ:Type} [DecidableEq κ]:∀ (m:List (κ×Bool)) (k:κ) (b:Bool),(ks m).Nodup→(ks (mput m k b)).Nodup
  | [],k,b,_=>by simp [mput]
  | p :: r, k, b, h => by
    have h':=List.nodup_cons.1 h
    unfold mput
    split
    · rename_i e
      exact List.nodup_cons.2 ⟨by rw [← e]; exact h'.1,h'.2⟩
    · rename_i e
      refine List.nodup_cons.2 ⟨fun hm=>?_,zfR r k b h'.2⟩
      rcases (ze9 r k p.1 b).1 hm with h1 | h1
      · exact e h1
      · exact h'.1 h1
theorem zcR (k:Int):z9z k=some (kindE k):=by
 unfold z9z
 rw [show (mput (mput (mput (mput (mput ([]:(List (Int×Int))) (3:Int) (2:Int)) (4:Int) (3:Int)) (7:Int) (4:Int)) (8:Int) (5:Int)) (9:Int) (6:Int))=[(3,2),(4,3),(7,4),(8,5),(9,6)] from rfl]
 by_cases h3:k=3
 ·subst h3; rfl
 by_cases h4:k=4
 ·subst h4; rfl
 by_cases h7:k=7
 ·subst h7; rfl
 by_cases h8:k=8
 ·subst h8; rfl
 by_cases h9:k=9
 ·subst h9; rfl
 simp [mget,kindE,h3,h4,h7,h8,h9,Ne.symm h3,Ne.symm h4,Ne.symm h7,Ne.symm h8,Ne.symm h9]
def r1 (σ:List (Int×Bool)×List (List UInt8×Bool)×Bool) (x:zm):List (Int×Bool)×List (List UInt8×Bool)×Bool:=
 cond (decide (x.Op=6)) (mput σ.1 1 true,mput σ.2.1 x.S true,σ.2.2) (cond (decide (x.Op=7)) (mput σ.1 1 true,σ.2.1,true) σ)
theorem r1_eq (σ:List (Int×Bool)×List (List UInt8×Bool)×Bool) (x:zm):zc7 σ x=some (r1 σ x):=by
 obtain ⟨a,b,c⟩:=σ
 simp only [zc7,r1]
 cases decide (x.Op=6) <;> cases decide (x.Op=7) <;> rfl
mutual
theorem zdO:∀ (x:zm) (σ:List (Int×Bool)×List (List UInt8×Bool)×Bool),(ks σ.1).Nodup→(ks (foldE r1 σ x).1).Nodup∧∀ e,e∈ks (foldE r1 σ x).1↔e∈ks σ.1∨(e=1∧x.eff=true)
  | ⟨a, b, c, d, s, l⟩, σ, h => by
    rw [foldE,zm.eff]
    have h1:(ks (r1 σ ⟨a,b,c,d,s,l⟩).1).Nodup∧∀ e,e∈ks (r1 σ ⟨a,b,c,d,s,l⟩).1↔e∈ks σ.1∨(e=1∧(a == 6 || a == 7)=true):=by
      unfold r1
      by_cases h6:a=6
      · simp only [h6,decide_true,cond_true]
        exact ⟨zfR _ _ _ h,fun e=>by rw [ze9]; simp [or_comm]⟩
      · by_cases h7:a=7
        · simp only [h7,decide_true,cond_true]
          exact ⟨zfR _ _ _ h,fun e=>by rw [show ((decide ((7:Int)=6))=false) by decide,cond_false,ze9]; simp [or_comm]⟩
        · simp only [decide_eq_false h6,decide_eq_false h7,cond_false]
          exact ⟨h,fun e=>by simp [h6,h7]⟩
    obtain ⟨i1,i2⟩:=zcc l _ h1.1
    refine ⟨i1,fun e=>?_⟩
    rw [i2,h1.2]
    simp only [Bool.or_eq_true]
    constructor
    · rintro ((h | ⟨h,g⟩) | ⟨h,g⟩)
      · exact .inl h
      · exact .inr ⟨h,.inl g⟩
      · exact .inr ⟨h,.inr g⟩
    · rintro (h | ⟨h,g | g⟩)
      · exact .inl (.inl h)
      · exact .inl (.inr ⟨h,g⟩)
      · exact .inr ⟨h,g⟩
theorem zcc:∀ (l:List zm) (σ:List (Int×Bool)×List (List UInt8×Bool)×Bool),(ks σ.1).Nodup→(ks (z9f r1 σ l).1).Nodup∧∀ e,e∈ks (z9f r1 σ l).1↔e∈ks σ.1∨(e=1∧effL l=true)
  | [],σ,h=>by rw [z9f,effL]; exact ⟨h,fun e=>by simp⟩
  | x :: r, σ, h => by
    rw [z9f,effL]
    obtain ⟨h1,h2⟩:=zdO x σ h
    obtain ⟨i1,i2⟩:=zcc r _ h1
    refine ⟨i1,fun e=>?_⟩
    rw [i2,h2]
    simp only [Bool.or_eq_true]
    constructor
    · rintro ((h | ⟨h,g⟩) | ⟨h,g⟩)
      · exact .inl h
      · exact .inr ⟨h,.inl g⟩
      · exact .inr ⟨h,.inr g⟩
    · rintro (h | ⟨h,g | g⟩)
      · exact .inl (.inl h)
      · exact .inl (.inr ⟨h,g⟩)
      · exact .inr ⟨h,g⟩
end
def r2 (σ:List (Int×Bool)×List (List UInt8×Bool)×List (List UInt8×Bool)×Bool) (y:z7):List (Int×Bool)×List (List UInt8×Bool)×List (List UInt8×Bool)×Bool:=
 let q:=foldE r1 (cond (decide (kindE y.Kind≠0)) (mput σ.1 (kindE y.Kind) true) σ.1,σ.2.1,σ.2.2.2) y.X
 (q.1,q.2.1,cond (decide (y.Kind=3)) (mput σ.2.2.1 y.Name true) σ.2.2.1,q.2.2)
theorem r2_eq {n:Nat} (σ:List (Int×Bool)×List (List UInt8×Bool)×List (List UInt8×Bool)×Bool) (y:z7) (h:y.X.nodes<n) (h2:y.X.nodes<2 ^ 62):zc8 n σ y=some (r2 σ y):=by
 obtain ⟨a,b,c,d⟩:=σ
 have hi:=fun (s:List (Int×Bool)×List (List UInt8×Bool)×Bool)=>zaF (step:=zc7) (f:=r1) r1_eq n y.X s h h2
 simp only [zc8,r2,zcR,obind,Option.bind_some,exprs,hi]
 cases decide (kindE y.Kind≠0) <;> cases decide (y.Kind=3) <;> rfl
theorem r2_ks (y:z7) (σ:List (Int×Bool)×List (List UInt8×Bool)×List (List UInt8×Bool)×Bool) (h:(ks σ.1).Nodup) :
  (ks (r2 σ y).1).Nodup∧∀ e,e∈ks (r2 σ y).1↔e∈ks σ.1∨(e≠0∧(kindE y.Kind=e∨(e=1∧y.X.eff=true))):=by
 unfold r2
 have h1:(ks (cond (decide (kindE y.Kind≠0)) (mput σ.1 (kindE y.Kind) true) σ.1)).Nodup∧∀ e,e∈ks (cond (decide (kindE y.Kind≠0)) (mput σ.1 (kindE y.Kind) true) σ.1)↔e∈ks σ.1∨(e≠0∧kindE y.Kind=e):=by
  by_cases hk:kindE y.Kind=0
  ·simp only [hk,ne_eq,not_true_eq_false,decide_false,cond_false]
   refine ⟨h,fun e=>⟨.inl,?_⟩⟩
   rintro (h | ⟨h,g⟩)
   ·exact h
   ·exact absurd g.symm h
  ·simp only [decide_eq_true (show kindE y.Kind≠0 from hk),cond_true]
   refine ⟨zfR _ _ _ h,fun e=>?_⟩
   rw [ze9]
   constructor
   ·rintro (h | h)
    ·exact .inr ⟨h ▸ hk,h.symm⟩
    ·exact .inl h
   ·rintro (h | ⟨_,h⟩)
    ·exact .inr h
    ·exact .inl h.symm
 obtain ⟨i1,i2⟩:=zdO y.X (cond (decide (kindE y.Kind≠0)) (mput σ.1 (kindE y.Kind) true) σ.1,σ.2.1,σ.2.2.2) h1.1
 refine ⟨i1,fun e=>?_⟩
 dsimp only
 rw [i2,h1.2]
 constructor
 ·rintro ((h | ⟨h,g⟩) | ⟨h,g⟩)
  ·exact .inl h
  ·exact .inr ⟨h,.inl g⟩
  ·exact .inr ⟨by omega,.inr ⟨h,g⟩⟩
 ·rintro (h | ⟨h,g | g⟩)
  ·exact .inl (.inl h)
  ·exact .inl (.inr ⟨h,g⟩)
  ·exact .inr g
mutual
theorem zi4:∀ (y:z7) (σ:List (Int×Bool)×List (List UInt8×Bool)×List (List UInt8×Bool)×Bool),(ks σ.1).Nodup→(ks (foldS r2 σ y).1).Nodup∧∀ e,e∈ks (foldS r2 σ y).1↔e∈ks σ.1∨(e≠0∧y.effs e=true)
  | ⟨a, b, c, d, x, t, l⟩, σ, h => by
    rw [foldS]
    obtain ⟨h1,h2⟩:=r2_ks ⟨a,b,c,d,x,t,l⟩ σ h
    obtain ⟨i1,i2⟩:=z9m t _ h1
    obtain ⟨j1,j2⟩:=z9m l _ i1
    refine ⟨j1,fun e=>?_⟩
    rw [j2,i2,h2,z7.effs]
    simp only [Bool.or_eq_true,Bool.and_eq_true,decide_eq_true_eq]
    constructor
    · rintro (((h | ⟨h,g⟩) | ⟨h,g⟩) | ⟨h,g⟩)
      · exact .inl h
      · exact .inr ⟨h,.inl (.inl g)⟩
      · exact .inr ⟨h,.inl (.inr g)⟩
      · exact .inr ⟨h,.inr g⟩
    · rintro (h | ⟨h,(g | g) | g⟩)
      · exact .inl (.inl (.inl h))
      · exact .inl (.inl (.inr ⟨h,g⟩))
      · exact .inl (.inr ⟨h,g⟩)
      · exact .inr ⟨h,g⟩
theorem z9m:∀ (l:List z7) (σ:List (Int×Bool)×List (List UInt8×Bool)×List (List UInt8×Bool)×Bool),(ks σ.1).Nodup→(ks (z6I r2 σ l).1).Nodup∧∀ e,e∈ks (z6I r2 σ l).1↔e∈ks σ.1∨(e≠0∧effsB e l=true)
  | [],σ,h=>by rw [z6I]; exact ⟨h,fun e=>by simp [effsB]⟩
  | y :: r, σ, h => by
    rw [z6I]
    obtain ⟨h1,h2⟩:=zi4 y σ h
    obtain ⟨i1,i2⟩:=z9m r _ h1
    refine ⟨i1,fun e=>?_⟩
    rw [i2,h2,effsB]
    simp only [Bool.or_eq_true]
    constructor
    · rintro ((h | ⟨h,g⟩) | ⟨h,g⟩)
      · exact .inl h
      · exact .inr ⟨h,.inl g⟩
      · exact .inr ⟨h,.inr g⟩
    · rintro (h | ⟨h,g | g⟩)
      · exact .inl (.inl h)
      · exact .inl (.inr ⟨h,g⟩)
      · exact .inr ⟨h,g⟩
end
theorem zfM {k e:Int} (h:kindE k=e) (h0:e≠0):e∈six:=by
 subst h
 unfold kindE at *
 repeat' split
 all_goals first | decide | (simp_all)
mutual
theorem zhW:∀ (y:z7) (e:Int),e≠0→y.effs e=true→e∈six
  | ⟨a, b, c, d, x, t, l⟩, e, h0, h => by
    rw [z7.effs] at h
    simp only [Bool.or_eq_true,Bool.and_eq_true,decide_eq_true_eq] at h
    rcases h with ((h | h) | h) | h
    · exact zfM h h0
    · rw [h.1]; decide
    · exact z9k t e h0 h
    · exact z9k l e h0 h
theorem z9k:∀ (l:List z7) (e:Int),e≠0→effsB e l=true→e∈six
  | [],e,h0,h=>by simp [effsB] at h
  | y :: r, e, h0, h => by
    rw [effsB,Bool.or_eq_true] at h
    rcases h with h | h
    · exact zhW y e h0 h
    · exact z9k r e h0 h
end
theorem zd5 {n:Nat} {p:zG} {b:Bool} (hb:z3e n p=some b) (hc:cntB p.Code<2 ^ 62):usedP n (cntB p.Code+4) p=some (cond b (six.filter fun e=>effsB e p.Code) []):=by
  cases b with
  | false =>
    unfold usedP findP
    simp only [hb,obind,Option.bind_some]
    rfl
  | true =>
    have hi:=zaG (step:=zc8 (cntB p.Code+4)) (f:=r2) (cntB p.Code+4) p.Code ([],[],[],false) (fun s y hy=>r2_eq s y (by rw [zc1] at hy; omega) (by rw [zc1] at hy; omega)) (by omega) hc
    obtain ⟨h1,h2⟩:=z9m p.Code ([],[],[],false) (by simp)
    unfold usedP findP
    simp only [hb,obind,Option.bind_some,stmts,hi,keysP,Bool.not_true,cond_false,cond_true]
    unfold srtP
    have hs:∀ x∈(z6I r2 (([]:List (Int×Bool)),([]:List (List UInt8×Bool)),([]:List (List UInt8×Bool)),false) p.Code).1.map (·.1),x∈six:=fun x hx=>by
      have h3:=(h2 x).1 hx
      simp only [List.map_nil,List.not_mem_nil,false_or] at h3
      exact z9k p.Code x h3.1 h3.2
    rw [zW ⟨h1,hs⟩]
    simp only [Option.bind_some,Option.some.injEq]
    refine List.filter_congr fun e he=>?_
    rw [Bool.eq_iff_iff]
    simp only [List.contains_iff_mem]
    have h3:=h2 e
    simp only [List.map_nil,List.not_mem_nil,false_or] at h3
    rw [h3]
    have:e≠0:=by rintro rfl; exact absurd he (by decide)
    simp [this]
end Go.Proofs.YtgjcniomhahgkaaGreatDoor
namespace Go.Proofs.YtgjcniomhahgkaaGreatDoor
open Go.Abs
instance costH_k:Con Tryz.prog 149 0 (∀ {x:zm} {v0:Value} {r:Int},costH x=some r→Meets Tryz.prog 149 [.agg #[.int .i64 x.Op,.int .i64 x.Type_,.int .i64 x.N,.int .i64 x.Slot,.string (bs x.S),v0]] [nro v0 zE x.Args] (fun v G=>v = .int .i64 r∧G=[])):=⟨Tryz.call149,fun {x v0 r} h=>by
 obtain ⟨h1,h2⟩:=z39 h
 obtain rfl:=Option.some.inj h2
 exact zhq (zcO h1)⟩
instance usedH_k [Con Tryz.prog 47 0 (∀ {n:Nat} {p_0:zG} {p_0_Effectsv:Value} {p_0_Codev:Value} {r:Bool},z3e n p_0=some r→Meets Tryz.prog 47 [.agg #[.string (bs p_0.Name),p_0_Effectsv,p_0_Codev]] [ro p_0_Effectsv 1 (p_0.Effects.map (eInt .i64)),nro p_0_Codev zx p_0.Code] (fun v G=>v = .bool r∧G=[]))]:Con Tryz.prog 17 0 (∀ {n:Nat} {p:zG} {v0 v1:Value} {r:List Int},usedH n p=some r→Meets Tryz.prog 17 [.agg #[.string (bs p.Name),v0,v1]] [ro v0 1 (p.Effects.map (eInt .i64)),nro v1 zx p.Code] (fun v G=>∃ v2,v=v2∧G=[row v2 1 (r.map (eInt .i64))])):=⟨Tryz.call17,fun {n p v0 v1 r} h=>by
 obtain ⟨h1,h2⟩:=z39 h
 obtain ⟨b,h3,h4⟩:=z1R h2
 obtain rfl:=Option.some.inj h4
 exact ziQ (zd5 h3 h1)⟩
end Go.Proofs.YtgjcniomhahgkaaGreatDoor
