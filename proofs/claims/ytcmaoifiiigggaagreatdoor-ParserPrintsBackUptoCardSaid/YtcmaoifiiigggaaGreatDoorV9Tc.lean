/-
  What is written of statements (tokens); the parser's writer writes it.
-/
import Derived.Test.YtcmaoifiiigggaaGreatDoorV9M25
import Derived.Test.YtcmaoifiiigggaaGreatDoorV9G8d
set_option linter.unusedSimpArgs false
set_option linter.unusedVariables false
namespace Go.Proofs.YtcmaoifiiigggaaGreatDoor
open Go.Abs Go.Ps Go.Lex
def blk (T:List Lx):List Lx:=[tG [123]]++T++[tG [125]]
def isIf:List St→Bool
 | [s]=>decide (s.Kind=5)
 | _=>false
def elseT (e:List St) (te:List Lx):List Lx:=if isIf e then [tW [101,108,115,101]]++te else if e.length=0 then [] else [tW [101,108,115,101]]++blk te
def headS (k:Int) (n:List UInt8):List Lx:=if k=1 then [tW [108,101,116],tN n,tG [61]] else if k=2 then [tW [115,101,116],tN n,tG [61]] else if k=3 then [tW [115,101,116],tW [104,101,97,100,101,114],tQ n,tG [61]] else if k=4 then [tW [115,101,116],tW [115,116,97,116,117,115],tG [61]] else if k=7 then [tW [108,111,103]] else if k=8 then [tW [100,101,110,121]] else [tW [114,101,112,108,121]]
def bodyS (k:Int) (n:List UInt8) (x:E) (tb:List Lx) (e:List St) (te:List Lx):List Lx:=
 if k=5 then [tW [105,102]]++tokE x++blk tb++elseT e te else if k=6 then [tW [114,101,112,101,97,116]]++tokE x++blk tb else headS k n++tokE x++[tG [59]]
mutual
def tokS:St→List Lx
 | ⟨k,_,n,x,b,e⟩=>bodyS k n x (tokSs b) e (tokSs e)
def tokSs:List St→List Lx
 | []=>[]
 | s::r=>tokS s++tokSs r
end
theorem zwy:∀ l:List St,tokSs l=l.flatMap tokS
 | []=>rfl
 | s::r=>by rw [tokSs,zwy r,List.flatMap_cons]
def locS (k:Int) (n:List UInt8) (op:Int) (b e:Nat):Bool:=
 ((((decide (k=1) || decide (k=2)) || decide (k=3)) || decide (n=[])) && (decide (k=5) || decide (e=0))) && ((decide (k=5) || decide (k=6)) || decide (b=0)) && (decide (1≤k) && decide (k≤9)) && (decide (k≠6) || decide (op=1))
mutual
def formS:St→Bool
 | ⟨k,_,n,x,b,e⟩=>locS k n x.Op b.length e.length && formE x && zvK b && zvK e
def zvK:List St→Bool
 | []=>true
 | s::r=>formS s && zvK r
end
theorem zvS:∀ l:List St,zvK l=l.all formS
 | []=>rfl
 | s::r=>by rw [zvK,zvS r]; rfl
theorem zxw (e:List St) (te:List Lx):(elseT e te).length≤te.length+3:=by
 unfold elseT blk
 split
 ·simp; try omega
 split
 ·simp
 ·simp; try omega
theorem zxx (k:Int) (n:List UInt8):(headS k n).length≤4:=by
 unfold headS
 repeat' split
 all_goals simp
mutual
theorem zxp:∀ s:St,(tokS s).length≤8*szS s
  | ⟨k, a, n, x, b, e⟩ => by
    have h1:=zvU b
    have h2:=zvU e
    have h3:=z6f x
    have h4:=zxw e (tokSs e)
    have h5:=zxx k n
    rw [tokS,szS]
    unfold bodyS blk
    repeat' split
    all_goals simp only [yB,yC,yF]
    all_goals omega
theorem zvU:∀ l:List St,(tokSs l).length≤8*szSs l
  | []=>yX _
  | s :: r => by
    have h1:=zxp s
    have h2:=zvU r
    simp only [tokSs,yB,szSs] at h2 ⊢
    omega
end
theorem zwX (w:List Lx) (s t:List UInt8) {n:Nat} (hn:2<n) (h:w.length≤3999999999):zO n ⟨w⟩ [s,t]=some ⟨w++[tW s,tW t]⟩:=by
 unfold zO
 obtain ⟨m,rfl⟩ : ∃ m,n=m+3:=⟨n - 3,by omega⟩
 rw [z4f (s':=(1,w++[tW s])),z4f (s':=(2,w++[tW s]++[tW t])),z1z (r:=⟨w++[tW s]++[tW t]⟩)]
 ·simp
 ·rfl
 ·unfold z5j
  simp only [yC,yF,show ((1:Int)<((0+1+1:Nat):Int)) by decide,yQ,yK]
  rw [show (1:Int)=((1:Nat):Int) from rfl,z4e (x:=t) rfl,zlr (w++[tW s]) 2 t (by simp; omega)]
  rfl
 ·unfold z5j
  simp only [yC,yF,show ((0:Int)<((0+1+1:Nat):Int)) by decide,yQ,yK]
  rw [show (0:Int)=((0:Nat):Int) from rfl,z4e (x:=s) rfl,zlr w 2 s (by omega)]
  rfl
def Wrs {α:Type} (F:Wr→α→Option (Pn Wr)) (x:α) (b:Bool) (T:List Lx) (m:Nat):Prop:=∀ w:List Lx,w.length+m≤2000000000→F ⟨w⟩ x=some (wOut b (w++T))
theorem zvM {b:Bool} {w:List Lx} {β:Type} {B:Int→Option β} {K:Wr→Option β} (h:b=true):(obind (some (wOut b w)) fun r=>pbind r B K)=K ⟨w⟩:=by subst h; rfl
theorem wstmt {bl:Wr→List St→Option (Pn Wr)}:∀ (n:Nat) (s:St),szS s+4<n→szS s≤100000000→(∀ l:List St,szSs l<szS s→Wrs bl l (zvK l) (blk (tokSs l)) (8*szSs l+2))→Wrs (z4w n bl) s (formS s) (tokS s) (8*szS s)
  | 0,_,h,_,_=>absurd h (yH _)
  | n + 1, ⟨k, a, nm, x, b, e⟩, h, h', hB => by
    intro w hw
    rw [szS] at h h' hw hB
    have zx:=zd8 x
    have lx:=z6f x
    have lb:=zvU b
    have le:=zvU e
    have hX:WrE (z1D n) x:=wexpr n x (by omega) (by omega)
    have hBb:=hB b (by omega)
    have hBe:=hB e (by omega)
    show z57 n bl (z4w n bl) ⟨w⟩ ⟨k,a,nm,x,b,e⟩=_
    unfold z57
    rw [tokS,formS]
    have d0:decide ((e.length:Int)=0)=decide (e.length=0):=by rw [decide_eq_decide]; omega
    have d1:decide ((b.length:Int)=0)=decide (b.length=0):=by rw [decide_eq_decide]; omega
    simp only [znU,d0,d1]
    cases hl:(((((decide (k=1) || decide (k=2)) || decide (k=3)) || decide (nm=[])) && (decide (k=5) || decide (e.length=0))) && ((decide (k=5) || decide (k=6)) || decide (b.length=0))) with
    | false =>
      have:(locS k nm x.Op b.length e.length && formE x && zvK b && zvK e)=false:=by unfold locS; rw [hl]; rfl
      rw [this]; rfl
    | true=>
    have hloc:(locS k nm x.Op b.length e.length && formE x && zvK b && zvK e)=((decide (1≤k) && decide (k≤9)) && (decide (k≠6) || decide (x.Op=1)) && formE x && zvK b && zvK e):=by unfold locS; rw [hl]; rfl
    rw [hloc]
    simp only [yS,ob,pbr]
    unfold bodyS
    by_cases k5:k=5
    · subst k5
      simp only [yQ,yK,yS,zf6 w _ (show 1<n by omega) (by omega),ob,show (decide ((1:Int)≤5) && decide ((5:Int)≤9))=true from rfl,show decide ((5:Int)≠6)=true from rfl,Bool.true_or,Bool.true_and]
      rw [hX _ (by simp; omega)]
      rcases yG (formE x) with fx | fx
      rotate_left
      · rw [fx]; rfl
      rw [fx,zvM rfl,hBb _ (by simp; omega)]
      rcases yG (zvK b) with fb | fb
      rotate_left
      · rw [fb]; rfl
      rw [fb,zvM rfl]
      have W:∀ T,(w++[tW [105,102]]++tokE x++blk (tokSs b)).length+T≤w.length+1+6*szE x+8*szSs b+2+T:=by
        intro T; unfold blk; simp; omega
      have W0:=W 0
      have d2:decide ((e.length:Int)=1)=decide (e.length=1):=by rw [decide_eq_decide]; omega
      simp only [d2]
      match e,hBe,le,hB,h,h',hw with
      | [], _, _, _, _, _, _ =>
        rw [show decide (([]:List St).length=1)=false from rfl,yJ,bJ,yJ,show decide ((0:Int)<((([]:List St).length:Nat):Int))=false from rfl,yJ,show elseT [] (tokSs [])=[] from rfl,List.append_nil]
        simp only [bJ,yA]
        rfl
      | [s], hBe, le, hB, h, h', hw =>
        have zs:szSs [s]=szS s:=by simp [szSs]
        have zt:tokSs [s]=tokS s:=by simp [tokSs]
        have zf:zvK [s]=formS s:=by simp [zvK]
        rw [zs] at h h' hw le hBe
        rw [show decide ([s].length=1)=true from rfl,yK]
        rw [show (0:Int)=((0:Nat):Int) from rfl,z4e (x:=s) rfl,bJ]
        by_cases q:s.Kind=5
        · have i5:isIf [s]=true:=yM q
          simp only [q,yQ,yK]
          rw [zf6 _ _ (show 1<n by omega) (by omega)]
          simp only [ob]
          rw [z4e (x:=s) rfl,wstmt n s (by omega) (by omega) (fun l hl=>hB l (by omega)) _ (by rw [yB]; simp only [yC,yF]; omega),zf]
          rcases yG (formS s) with fs | fs
          rotate_left
          · rw [fs]; rfl
          · rw [fs,zvM rfl]
            unfold elseT
            rw [i5,zt]
            simp only [yS,bJ,bindJ,yA]
            rfl
        · have i5:isIf [s]=false:=yL q
          simp only [q,yP,yJ]
          rw [show decide ((((0:Nat):Int))<(([s].length:Nat):Int))=true from rfl,yK,zf6 _ _ (show 1<n by omega) (by omega)]
          simp only [ob]
          rw [hBe _ (by rw [yB]; simp only [yC,yF]; omega)]
          rcases yG (zvK [s]) with fs | fs
          rotate_left
          · rw [fs]; rfl
          · rw [fs,zvM rfl]
            unfold elseT
            rw [i5]
            simp only [bJ,bindJ,yA]
            rfl
      | s :: t :: r, hBe, le, hB, h, h', hw =>
        have hn1:decide ((s::t::r).length=1)=false:=yL (by simp)
        have hn0:decide ((0:Int)<((s::t::r).length:Int))=true:=yM (by simp; omega)
        simp only [hn1,hn0,yJ,yK,bJ]
        rw [zf6 _ _ (show 1<n by omega) (by omega)]
        simp only [ob]
        rw [hBe _ (by rw [yB]; simp only [yC,yF]; omega)]
        rcases yG (zvK (s::t::r)) with fs | fs
        rotate_left
        · rw [fs]; rfl
        · rw [fs,zvM rfl]
          unfold elseT
          simp only [isIf,bJ,bindJ,yA]
          rfl
    simp only [k5,yP,yJ,yR,Bool.false_or] at hl ⊢
    rw [Bool.and_eq_true,Bool.and_eq_true] at hl
    have he0:e=[]:=List.length_eq_zero_iff.1 (of_decide_eq_true hl.1.2)
    subst he0
    have fe:zvK []=true:=rfl
    rw [fe,Bool.and_true]
    by_cases k6:k=6
    · subst k6
      simp only [yQ,yK,yS,show (decide ((1:Int)≤6) && decide ((6:Int)≤9))=true from rfl,show decide ((6:Int)≠6)=false from rfl,Bool.false_or,Bool.true_and]
      rcases yG (decide (x.Op=1)) with fo | fo
      rotate_left
      · rw [fo]; rfl
      rw [fo]
      simp only [yS,ob,pbr,zf6 w _ (show 1<n by omega) (by omega),Bool.true_and]
      rw [hX _ (by simp; omega)]
      rcases yG (formE x) with fx | fx
      rotate_left
      · rw [fx]; rfl
      rw [fx,zvM rfl,hBb _ (by simp; omega)]
      rcases yG (zvK b) with fb | fb
      rotate_left
      · rw [fb]; rfl
      rw [fb,zvM rfl]
      simp only [bJ,bindJ,yA]
      rfl
    simp only [k6,yP,yJ,yR,Bool.false_or] at hl ⊢
    have hb0:b=[]:=List.length_eq_zero_iff.1 (of_decide_eq_true hl.2)
    subst hb0
    rw [fe,Bool.and_true]
    have fin:∀ H:List Lx,H.length≤4→(obind (z1D n (zo.mk (w++H)) x) fun r174=>
  pbind r174 (fun e177=>
   some (.pan e177)) fun q176=>
  obind (zW n q176 ([[59]]:List (List UInt8))) fun r180=>
  some (.ret r180))=some (wOut (formE x) (w++(H++tokE x++[tG [59]]))):=by
      intro H hH
      rw [hX _ (by simp; omega)]
      rcases yG (formE x) with fx | fx
      rotate_left
      · rw [fx]; rfl
      · rw [fx,zvM rfl,zbX _ _ (show 1<n by omega) (by simp; omega)]
        simp only [ob,yA]
        rfl
    have n6:decide (k≠6)=true:=yM k6
    unfold headS
    rw [n6]
    simp only [Bool.true_or,Bool.and_true]
    by_cases k1:k=1
    · subst k1
      simp only [yQ,yK,yS,yP,yJ,yR]
      rw [zf6 w _ (show 1<n by omega) (by omega)]
      simp only [ob]
      rw [zlr _ _ _ (by simp; omega)]
      simp only [ob]
      rw [zbX _ _ (show 1<n by omega) (by simp; omega)]
      simp only [ob,bJ]
      rw [show (decide ((1:Int)≤1) && decide ((1:Int)≤9))=true from rfl,Bool.true_and]
      have q:=fin [tW [108,101,116],tN nm,tG [61]] (by simp)
      simp only [yA,yE,yD] at q ⊢
      exact q
    by_cases k2:k=2
    · subst k2
      simp only [yQ,yK,yS,show ¬((2:Int)=1) by decide,yP,yJ,yR]
      rw [zf6 w _ (show 1<n by omega) (by omega)]
      simp only [ob]
      rw [zlr _ _ _ (by simp; omega)]
      simp only [ob]
      rw [zbX _ _ (show 1<n by omega) (by simp; omega)]
      simp only [ob,bJ]
      rw [show (decide ((1:Int)≤2) && decide ((2:Int)≤9))=true from rfl,Bool.true_and]
      have q:=fin [tW [115,101,116],tN nm,tG [61]] (by simp)
      simp only [yA,yE,yD] at q ⊢
      exact q
    by_cases k3:k=3
    · subst k3
      simp only [yQ,yK,yS,show ¬((3:Int)=1) by decide,show ¬((3:Int)=2) by decide,yP,yJ,yR]
      rw [zwX w _ _ (show 2<n by omega) (by omega)]
      simp only [ob]
      rw [zlr _ _ _ (by simp; omega)]
      simp only [ob]
      rw [zbX _ _ (show 1<n by omega) (by simp; omega)]
      simp only [ob,bJ]
      rw [show (decide ((1:Int)≤3) && decide ((3:Int)≤9))=true from rfl,Bool.true_and]
      have q:=fin [tW [115,101,116],tW [104,101,97,100,101,114],tQ nm,tG [61]] (by simp)
      simp only [yA,yE,yD] at q ⊢
      exact q
    by_cases k4:k=4
    · subst k4
      simp only [yQ,yK,yS,show ¬((4:Int)=1) by decide,show ¬((4:Int)=2) by decide,show ¬((4:Int)=3) by decide,yP,yJ,yR]
      rw [zwX w _ _ (show 2<n by omega) (by omega)]
      simp only [ob]
      rw [zbX _ _ (show 1<n by omega) (by simp; omega)]
      simp only [ob,bJ]
      rw [show (decide ((1:Int)≤4) && decide ((4:Int)≤9))=true from rfl,Bool.true_and]
      have q:=fin [tW [115,101,116],tW [115,116,97,116,117,115],tG [61]] (by simp)
      simp only [yA,yE,yD] at q ⊢
      exact q
    by_cases k7:k=7
    · subst k7
      simp only [yQ,yK,yS,show ¬((7:Int)=1) by decide,show ¬((7:Int)=2) by decide,show ¬((7:Int)=3) by decide,show ¬((7:Int)=4) by decide,yP,yJ,yR]
      rw [zf6 w _ (show 1<n by omega) (by omega)]
      simp only [ob,bJ]
      rw [show (decide ((1:Int)≤7) && decide ((7:Int)≤9))=true from rfl,Bool.true_and]
      have q:=fin [tW [108,111,103]] (by simp)
      simp only [yA,yE,yD] at q ⊢
      exact q
    by_cases k8:k=8
    · subst k8
      simp only [yQ,yK,yS,show ¬((8:Int)=1) by decide,show ¬((8:Int)=2) by decide,show ¬((8:Int)=3) by decide,show ¬((8:Int)=4) by decide,show ¬((8:Int)=7) by decide,yP,yJ,yR]
      rw [zf6 w _ (show 1<n by omega) (by omega)]
      simp only [ob,bJ]
      rw [show (decide ((1:Int)≤8) && decide ((8:Int)≤9))=true from rfl,Bool.true_and]
      have q:=fin [tW [100,101,110,121]] (by simp)
      simp only [yA,yE,yD] at q ⊢
      exact q
    by_cases k9:k=9
    · subst k9
      simp only [yQ,yK,yS,show ¬((9:Int)=1) by decide,show ¬((9:Int)=2) by decide,show ¬((9:Int)=3) by decide,show ¬((9:Int)=4) by decide,show ¬((9:Int)=7) by decide,show ¬((9:Int)=8) by decide,yP,yJ,yR]
      rw [zf6 w _ (show 1<n by omega) (by omega)]
      simp only [ob,bJ]
      rw [show (decide ((1:Int)≤9) && decide ((9:Int)≤9))=true from rfl,Bool.true_and]
      have q:=fin [tW [114,101,112,108,121]] (by simp)
      simp only [yA,yE,yD] at q ⊢
      exact q
    have:(decide (1≤k) && decide (k≤9))=false:=by
      cases hq:(decide (1≤k) && decide (k≤9)) with
      | false=>rfl
      | true=>simp at hq; omega
    rw [this]
    simp only [k1,k2,k3,k4,k7,k8,k9,yP,yJ,ob,bJ,Bool.false_and,yN,yR]
    rfl
end Go.Proofs.YtcmaoifiiigggaaGreatDoor
