/-
  Texts that stand side by side: ReplQs, OncePs, ReplHPs, AbsSh, AbsT, AbsK, AbsS.
-/
import Derived.Test.YtcmaoifiiigggaaGreatDoorM2
import Derived.Tactics
import Derived.Tactics2
import Derived.Defers
import Derived.Laws.Pointers
import Derived.Laws.LoneSync
import Derived.RegionTactic
import Derived.RegionCalls
import Derived.ChangeAlike
import Derived.Laws.NewBlocks
import Derived.Test.YtcmaoifiiigggaaGreatDoorM1
import Derived.KernelRfl
set_option linter.unusedSimpArgs false
set_option linter.unusedVariables false
namespace Go.Proofs.YtcmaoifiiigggaaGreatDoor
open Go.Abs
def escB (b:UInt8):List UInt8:=if b=34 then [92,34] else if b=92 then [92,92] else [b]
def esc (s:List UInt8):List UInt8:=s.flatMap escB
def k2 (s:List UInt8):Nat:=s.count 34+s.count 92
theorem zoC:escB 34=[92,34]:=rfl
theorem zoD:escB 92=[92,92]:=rfl
theorem zkw {b:UInt8} (h1:b≠34) (h2:b≠92):escB b=[b]:=by simp [escB,h1,h2]
theorem zkE (b:UInt8) (s:List UInt8):k2 (b::s)=k2 s+(if b=34∨b=92 then 1 else 0):=by
 unfold k2
 by_cases h1:b=34
 ·subst h1; simp; omega
 ·by_cases h2:b=92
  ·subst h2; simp; omega
  ·simp [List.count_cons,h1,h2]
theorem zdC:∀ s:List UInt8,(esc s).length=s.length+k2 s
  | []=>rfl
  | b :: s => by
    have ih:=zdC s
    unfold esc at ih ⊢
    rw [List.flatMap_cons,List.length_append,ih,zkE]
    by_cases h1:b=34
    · subst h1; simp [zoC]; omega
    · by_cases h2:b=92
      · subst h2; simp [zoD]; omega
      · simp [zkw h1 h2,h1,h2]; omega
theorem zru:∀ s:List UInt8,k2 s=0→esc s=s
  | [],_=>rfl
  | b :: s, h => by
    rw [zkE] at h
    have ih:=zru s (by omega)
    by_cases h1:b=34
    · subst h1; simp at h
    · by_cases h2:b=92
      · subst h2; simp at h
      · unfold esc at ih ⊢
        rw [List.flatMap_cons,ih,zkw h1 h2]; rfl
theorem k2_le (s:List UInt8):k2 s≤s.length:=by
 induction s with
 | nil=>simp [k2]
 | cons b s ih=>rw [zkE]; simp; split <;> omega
theorem zrD {s:List UInt8} {i:Nat} (h:i<s.length):k2 (s.take (i+1))=k2 (s.take i)+(if s[i]=34∨s[i]=92 then 1 else 0):=by
 rw [List.take_add_one,List.getElem?_eq_getElem h]
 have:∀ a b:List UInt8,k2 (a++b)=k2 a+k2 b:=fun a b=>by simp [k2]; omega
 rw [this]
 congr 1
 simpa [k2] using zkE s[i] []
theorem zm2 {s:List UInt8} {i:Nat} (h:i<s.length):esc (s.take (i+1))=esc (s.take i)++escB s[i]:=by
 unfold esc
 rw [List.take_add_one,List.getElem?_eq_getElem h,List.flatMap_append]
 simp
theorem zot (s:List UInt8) (N:Int) (A:Bool) (i:Nat) (b:UInt8) (hb:(i=0∧b=92)∨(i=1∧b=34)) (h0:0≤N) (h1:N≤3000000000) (hs:s.length≤1000000000) :
  z1i s (N,A,(i:Int))=some (.go (N+(s.count b:Nat),A || decide (s.count b≠0),((i+1:Nat):Int))):=by
 have hc:=List.count_le_length (a:=b) (l:=s)
 have hw:∀ c:Nat,c≤1000000000→IntKind.i64.wrap (N+IntKind.i64.wrap ((c:Int)*1))=N+c:=fun c h=>by
  rw [w64 (x:=(c:Int)*1) (by omega) (by omega),w64 (by omega) (by omega)]; omega
 have e1:IntKind.i64.wrap 1=1:=rfl
 have e2:IntKind.i64.wrap 2=2:=rfl
 rcases hb with ⟨rfl,rfl⟩ | ⟨rfl,rfl⟩
 ·by_cases hz:s.count 92=0
  ·simp [z1i,idx,obind,zlj,hz,bindJ,e1]
  ·simp [z1i,idx,obind,zlj,hz,bindJ,e1]
   have:=hw (s.count 92) (by omega)
   rw [Int.mul_one] at this
   exact this
 ·by_cases hz:s.count 34=0
  ·simp [z1i,idx,obind,zlj,hz,bindJ,e2]
  ·simp [z1i,idx,obind,zlj,hz,bindJ,e2]
   have:=hw (s.count 34) (by omega)
   rw [Int.mul_one] at this
   exact this
theorem zts (s:List UInt8) (hs:s.length≤1000000000) (n:Nat) (hn:3≤n):iter (z1i s) n ((s.length:Int),false,0)=some (.go (((s.length+k2 s:Nat):Int),decide (k2 s≠0))):=by
 obtain ⟨m,rfl⟩ : ∃ m,n=m+3:=⟨n - 3,by omega⟩
 have hc:=List.count_le_length (a:=(92:UInt8)) (l:=s)
 have s1:=zot s s.length false 0 92 (.inl ⟨rfl,rfl⟩) (by omega) (by omega) hs
 have s2:=zot s (s.length+(s.count 92:Nat)) (false || decide (s.count 92≠0)) 1 34 (.inr ⟨rfl,rfl⟩) (by omega) (by omega) hs
 have s3:∀ N A,z1i s (N,A,((1+1:Nat):Int))=some (.stop (.go (N,A))):=fun N A=>by simp [z1i]
 refine (z4f (n:=m+2) s1).trans ((z4f (n:=m+1) s2).trans ((z1z (n:=m) (s3 _ _)).trans ?_))
 congr 3
 ·simp [k2]; omega
 ·simp [k2]
  by_cases h1:s.count 92=0 <;> by_cases h2:s.count 34=0 <;> simp_all
theorem ztt (s:List UInt8) (hs:s.length≤1000000000) (n:Nat) (hn:s.length<n):iter (z1F s) n ((s.length:Int),false,0)=some (.go (((s.length+k2 s:Nat):Int),decide (k2 s≠0))):=by
 obtain ⟨r,e,rfl⟩:=z71 (step:=z1F s) (fun x=>∃ i:Nat,x=(((s.length+k2 (s.take i):Nat):Int),decide (k2 (s.take i)≠0),(i:Int))∧i≤s.length) (fun x=>s.length - x.2.2.toNat)
  (fun r=>r = .go (((s.length+k2 s:Nat):Int),decide (k2 s≠0))) (by
   rintro _ ⟨i,rfl,hi⟩
   by_cases hlt:i<s.length
   ·refine .inl ⟨_,?_,⟨i+1,rfl,hlt⟩,by simp; omega⟩
    have hk:=zrD hlt
    have hk2:=k2_le (s.take i)
    have hle:(s.take i).length≤s.length:=by simp; omega
    have e1:IntKind.i64.wrap ((i:Int)+1)=((i+1:Nat):Int):=by rw [w64 (by omega) (by omega)]; simp
    have e2:IntKind.i64.wrap (((s.length+k2 (s.take i):Nat):Int)+1)=((s.length+(k2 (s.take i)+1):Nat):Int):=by rw [w64 (by omega) (by omega)]; omega
    have hd:decide ((i:Int)<(s.length:Int))=true:=by simpa using hlt
    unfold z1F
    simp only [hd,cond_true,z9v hlt]
    rw [hk]
    by_cases h1:s[i]=34
    ·simp only [h1,decide_true,cond_true,bindJ,e1,e2]; simp
    ·by_cases h2:s[i]=92
     ·simp only [h2,bindJ,e1,e2]; simp
     ·simp only [h1,h2,decide_false,cond_false,bindJ,e1]; simp
   ·obtain rfl:i=s.length:=by omega
    refine .inr ⟨_,?_,rfl⟩
    simp [z1F]) n ((s.length:Int),false,0) ⟨0,by simp [k2],by omega⟩ (by simp; omega)
 exact e
theorem zrp (a z new:List UInt8) (h:new.length≤z.length):cpy (a++z) a.length (a++z).length new=a++new++z.drop new.length:=by
 unfold cpy
 have h1:(a++z).length - a.length=z.length:=by simp
 rw [h1,List.take_left,List.take_of_length_le h,Nat.min_eq_left h,← List.drop_drop,List.drop_left]
 simp
theorem ztu (s:List UInt8) (hs:s.length≤1000000000) (n:Nat) (hn:s.length<n):iter (z1V s) n (0,0,List.replicate (s.length+k2 s) (0:UInt8))=some (.go (esc s)):=by
 have hl:=zdC s
 obtain ⟨r,e,rfl⟩:=z71 (step:=z1V s) (fun x=>∃ (i:Nat) (z:List UInt8),x=(((esc (s.take i)).length:Int),(i:Int),esc (s.take i)++z)∧i≤s.length∧z.length=(esc (s.drop i)).length) (fun x=>s.length - x.2.1.toNat)
  (fun r=>r = .go (esc s)) (by
   rintro _ ⟨i,z,rfl,hi,hz⟩
   by_cases hlt:i<s.length
   ·have hd:decide ((i:Int)<(s.length:Int))=true:=by simpa using hlt
    have het:=zm2 hlt
    have hez:(esc (s.drop i)).length=(escB s[i]).length+(esc (s.drop (i+1))).length:=by
     rw [List.drop_eq_getElem_cons hlt]; unfold esc; rw [List.flatMap_cons,List.length_append]
    have hel:=zdC (s.take i)
    have hk2:=k2_le (s.take i)
    have hle:(s.take i).length≤s.length:=by simp; omega
    have e1:IntKind.i64.wrap ((i:Int)+1)=((i+1:Nat):Int):=by rw [w64 (by omega) (by omega)]; simp
    have e2:∀ c:Nat,c≤2→IntKind.i64.wrap (((esc (s.take i)).length:Int)+(c:Int))=(((esc (s.take i)).length+c:Nat):Int):=fun c hc=>by rw [w64 (by omega) (by omega)]; omega
    unfold z1V
    simp only [hd,cond_true,z9v hlt]
    have hput:∀ new:List UInt8,escB s[i]=new→cpy (esc (s.take i)++z) (esc (s.take i)).length (esc (s.take i)++z).length new=esc (s.take (i+1))++z.drop new.length:=fun new hn=>by
     rw [zrp _ _ _ (by rw [← hn]; omega),het,hn]
    have hmin:∀ new:List UInt8,escB s[i]=new→min new.length ((esc (s.take i)++z).length - (esc (s.take i)).length)=new.length:=fun new hn=>by
     rw [← hn,List.length_append]; omega
    refine .inl ⟨(((esc (s.take (i+1))).length:Int),((i+1:Nat):Int),esc (s.take (i+1))++z.drop (escB s[i]).length),?_,⟨i+1,_,rfl,hlt,by rw [List.length_drop]; omega⟩,by simp; omega⟩
    by_cases h1:s[i]=34
    ·have hb:escB s[i]=[92,34]:=by rw [h1]; rfl
     have hm:=hmin _ hb
     rw [hb] at hez
     have hA:decide (s[i]=34)=true:=by simp [h1]
     simp only [hA,cond_true]
     rw [z1n ⟨by omega,by simp; omega,Int.le_refl _⟩]
     simp only [Int.toNat_natCast]
     rw [hput _ hb,hm,e2 [92,34].length (Nat.le_refl 2)]
     simp only [bindJ,e1]
     rw [het,hb,List.length_append]
    ·by_cases h2:s[i]=92
     ·have hb:escB s[i]=[92,92]:=by rw [h2]; rfl
      have hm:=hmin _ hb
      rw [hb] at hez
      have hA:decide (s[i]=34)=false:=by simp [h1]
      have hB:decide (s[i]=92)=true:=by simp [h2]
      simp only [hA,hB,cond_true,cond_false]
      rw [z1n ⟨by omega,by simp; omega,Int.le_refl _⟩]
      simp only [Int.toNat_natCast]
      rw [hput _ hb,hm,e2 [92,92].length (Nat.le_refl 2)]
      simp only [bindJ,e1]
      rw [het,hb,List.length_append]
     ·have hb:escB s[i]=[s[i]]:=zkw h1 h2
      rw [hb] at hez
      have hzl:0<z.length:=by simp at hez; omega
      simp only [h1,h2,decide_false,cond_false]
      rw [z9v (i:=(esc (s.take i)).length) (by simp; omega)]
      have h1' : IntKind.i64.wrap (((esc (s.take i)).length:Int)+1)=(((esc (s.take i)).length+1:Nat):Int):=e2 1 (by omega)
      simp only [bindJ,e1,h1',Int.toNat_natCast]
      rw [het,hb]
      have hset:(esc (s.take i)++z).set (esc (s.take i)).length s[i]=esc (s.take i)++[s[i]]++z.drop 1:=by
       obtain ⟨y,z',rfl⟩:=List.exists_cons_of_length_pos hzl
       simp
      rw [hset]
      simp
   ·obtain rfl:i=s.length:=by omega
    refine .inr ⟨_,?_,rfl⟩
    have hz0:z=[]:=by
     apply List.length_eq_zero_iff.1
     rw [hz]; simp [esc]
    subst hz0
    simp [z1V]) n (0,0,List.replicate (s.length+k2 s) (0:UInt8)) ⟨0,_,by simp [esc]; rfl,by omega,by simp [hl]⟩ (by simp; omega)
 exact e
theorem zqb (s:List UInt8) (hs:s.length≤1000000000):z3O (s.length+3) s=some (esc s):=by
 have hk:=k2_le s
 have hj:(cond (decide (16≤(s.length:Int))) (iter (z1i s) (s.length+3) ((s.length:Int),false,0)) (iter (z1F s) (s.length+3) ((s.length:Int),false,0)))=some (.go (((s.length+k2 s:Nat):Int),decide (k2 s≠0))):=by
  cases decide (16≤(s.length:Int))
  ·exact ztt s hs _ (by omega)
  ·exact zts s hs _ (by omega)
 unfold z3O
 rw [hj]
 simp only [bindJ]
 by_cases h0:k2 s=0
 ·simp [h0,zru s h0]
 ·have hd:(!decide (k2 s≠0))=false:=by simp [h0]
  simp only [hd,cond_false]
  rw [z1n ⟨by omega,by omega⟩,Int.toNat_natCast,ztu s hs _ (by omega)]
end Go.Proofs.YtcmaoifiiigggaaGreatDoor
namespace Go.Proofs.YtcmaoifiiigggaaGreatDoor
open Go.Abs
set_option maxRecDepth 100000
set_option maxHeartbeats 1600000
theorem disable (w:World):(callFunc 255 #[]).run Tryz.prog w = .ok (.value (.tuple #[])) w:=run_call_mark0 Tryz.func255 (by kernel_rfl) (by kernel_rfl) (by kernel_rfl) .disable (by kernel_rfl) w
theorem enable (w:World):(callFunc 257 #[]).run Tryz.prog w = .ok (.value (.tuple #[])) w:=run_call_mark0 Tryz.func257 (by kernel_rfl) (by kernel_rfl) (by kernel_rfl) .enable (by kernel_rfl) w
theorem acquire (a:Addr) (w:World):(callFunc 258 #[.pointer (some a)]).run Tryz.prog w = .ok (.value (.tuple #[])) w:=run_call_marked Tryz.func258 (by kernel_rfl) (by kernel_rfl) (by kernel_rfl) .acquire (by kernel_rfl) a w
theorem releaseMerge (a:Addr) (w:World):(callFunc 260 #[.pointer (some a)]).run Tryz.prog w = .ok (.value (.tuple #[])) w:=run_call_marked Tryz.func260 (by kernel_rfl) (by kernel_rfl) (by kernel_rfl) .releaseMerge (by kernel_rfl) a w
theorem ziB (a:Addr) (x:Value) (u:FrameMode) (w:World) (hc:w.cell? a=some x) (hz:w.frozen? a=false) :
  CallsD Tryz.prog 235 #[.pointer (some a),.bool true] u w fun e u' w'=>u'=u∧(e = .returned (.tuple #[])∧w'=w.drew.setCell a (.int .u32 1)):=by
 have hc' : w.drew.cell? a=some x:=by go_simp
 have hz' : w.drew.frozen? a=false:=by go_simp
 have hst:=run_call_store (P:=Tryz.prog) Tryz.func248 (by kernel_rfl) (by kernel_rfl) (by kernel_rfl) (by kernel_rfl) (k:=.u32) (y:=1) hc' hz'
 go_enter_d Tryz.func235,Tryz.ntmps235
 go_wp2
 go_region_calls
 all_goals (go_end0; exact ⟨rfl,rfl⟩)
theorem zhk (a:Addr) (u:FrameMode) (w:World) (hc:w.cell? a=some (.int .i32 1)) (hz:w.frozen? a=false) :
  CallsD Tryz.prog 234 #[.pointer (some a)] u w fun e u' w'=>u'=u∧(e = .returned (.tuple #[])∧w'=w.setCell a (.int .i32 0)):=by
 have hd:=disable
 have he:=enable
 have hr:=releaseMerge
 have hadd:=run_call_add (P:=Tryz.prog) Tryz.func261 (by kernel_rfl) (by kernel_rfl) (by kernel_rfl) .i32 (by kernel_rfl) (y:=-1) (s:=0) hc hz (by simp [go_sem]; rfl)
 have hcv:=run_convert_to_unsafe (P:=Tryz.prog) (src:=311) (dst:=247) Tryz.underlying311 Tryz.underlying247 (by kernel_rfl) hc
 go_enter_d Tryz.func234,Tryz.ntmps234
 go_wp2
 go_end0
 go_wp2
 go_end0
 exact ⟨rfl,rfl⟩
theorem zo1 (a:Addr) (w:World) (hc:w.cell? a=some (.int .i32 0)) (hz:w.frozen? a=false) :
  Calls Tryz.prog 233 #[.pointer (some a)] w fun e w'=>e = .returned (.tuple #[])∧w'=w.setCell a (.int .i32 1):=by
 have hd:=disable
 have he:=enable
 have ha:=acquire
 have hcas:=run_call_cas_hit (P:=Tryz.prog) Tryz.func256 (by kernel_rfl) (by kernel_rfl) (by kernel_rfl) .i32 (by kernel_rfl) (y:=1) hc hz
 have hc' : (w.setCell a (.int .i32 1)).cell? a=some (.int .i32 1):=World.cell?_setCell_same w a _ hc
 have hcv:=run_convert_to_unsafe (P:=Tryz.prog) (src:=311) (dst:=247) Tryz.underlying311 Tryz.underlying247 (by kernel_rfl) hc'
 go_enter Tryz.func233,Tryz.ntmps233
 go_wp2
 first | go_end0 | (simp only [Exit.inBlock,Exit.then]; refine bodyPost_ret (results_none rfl _ _ _) rfl ?_) | refine bodyPost_ret (results_none rfl _ _ _) rfl ?_
 go_wp2
 go_end0
 exact ⟨rfl,rfl⟩
theorem zgh {w:World} {o:Own} {k b:Nat} {vs:List Value} (h:(box b vs).p w o k) (i:Nat):w.cell? ⟨b,i,none⟩=vs[i]?:=by
 obtain ⟨_,_,T,fz,e3,_⟩:=h
 rw [zed e3]
 simp
theorem zjL {w:World} {o:Own} {k b:Nat} {vs:List Value} (h:(box b vs).p w o k) (i:Nat) (hi:i<vs.length):w.frozen? ⟨b,i,none⟩=false:=by
 obtain ⟨_,_,T,fz,e3,e4⟩:=h
 exact zkA e3 (.inl e4) i (by simpa using hi)
theorem zmL {w:World} {o:Own} {H:List HA} {k b i:Nat} {vs:List Value} (v:Value) (hb:Bnd w o) (hs:Sats w o H) (hk:H[k]? = some (box b vs)) :
  Bnd (w.setCell ⟨b,i,none⟩ v) o∧Tr w o (w.setCell ⟨b,i,none⟩ v) o∧Sats (w.setCell ⟨b,i,none⟩ v) o (H.set k (box b (vs.set i v))):=by
 obtain ⟨e1,e2,T,fz,e3,e4⟩:=hs k _ hk
 have hsz:(w.setCell ⟨b,i,none⟩ v).heap.size=w.heap.size:=by simp [World.setCell]
 have hot:∀ x,x≠b→(w.setCell ⟨b,i,none⟩ v).heap[x]? = w.heap[x]?:=fun x hx=>by simp [World.setCell,Array.getElem?_modify,Ne.symm hx]
 refine ⟨fun x hx=>hb x (by rwa [hsz] at hx),⟨rfl,rfl,rfl,by rw [hsz]; exact Nat.le_refl _,fun x _ ho=>⟨ho,hot x (by rintro rfl; rw [e1] at ho; cases ho)⟩,fun x _ ho=>⟨ho,hot x (by rintro rfl; rw [e1] at ho; cases ho)⟩⟩,?_⟩
 refine z4p (by rw [hsz]; exact Nat.le_refl _) (fun x _ ho=>⟨rfl,hot x (by rintro rfl; exact ho e1)⟩) hs ⟨e1,by rw [hsz]; exact e2,T,fz,?_,e4⟩
 simp [World.setCell,Array.getElem?_modify,e3]
theorem zq7 {w:World} {o:Own} {H:List HA} (hb:Bnd w o) (hs:Sats w o H):Bnd w.drew o∧Tr w o w.drew o∧Sats w.drew o H:=
 ⟨hb,⟨rfl,rfl,rfl,Nat.le_refl _,fun _ _ h=>⟨h,rfl⟩,fun _ _ h=>⟨h,rfl⟩⟩,fun j h hj=>h.keep (w:=w) (w':=w.drew) (Nat.le_refl _) (fun b _ hb=>⟨hb,rfl⟩) (fun b _ hb=>⟨hb,rfl⟩) (hs j h hj)⟩
abbrev OL:List (List UInt8):=[[34],[92,34],[92],[92,92]]
theorem zsn (b:Nat) (on:Value) (x2:Int):Meets Tryz.prog 205 [boxP b 0,.func (.func 166) #[boxP b 0] #[]] [row on 1 (OL.map eStr),box b [.int .u32 0,.int .i32 0,.int .u32 x2,.nilIface,on]]
  (fun v G=>v = .tuple #[]∧∃ c v1 v2 v3,G=replA b 1 0 x2 c v1 v2 v3):=by
 intro w o hb hs
 have hbx:=hs 1 _ rfl
 have c1:w.cell? ⟨b,1,none⟩=some (.int .i32 0):=zgh hbx 1
 have f1:=zjL hbx 1 (by simp)
 obtain ⟨hb1,ht1,hs1⟩:=zmL (i:=1) (.int .i32 1) hb hs (k:=1) rfl
 have hbx1:=hs1 1 _ rfl
 have hl:=run_call_load (P:=Tryz.prog) Tryz.func232 (by kernel_rfl) (by kernel_rfl) (by kernel_rfl) .u32 (by kernel_rfl) (w:=w.setCell ⟨b,1,none⟩ (.int .i32 1)) (a:=⟨b,0,none⟩) (x:=0) (zgh hbx1 0)
 have hnot:∀ (x:Bool) (w:World),(Op.unary .not (.bool x)).run Tryz.prog w = .ok (.bool (!x)) w:=fun _ _=>rfl
 have hB:=zjM b on .nilIface 0 1 x2 _ _ hb1 hs1
 unfold boxP at hB ⊢
 go_enter_defers Tryz.func205,Tryz.ntmps205
 go_wp2_with (go_at_call 233; refine (zo1 ⟨b,1,none⟩ _ c1 f1).mono ?_; rintro e w' ⟨rfl,rfl⟩)
 go_wp2_with (first | (go_at_call 166; refine hB.mono ?_; rintro e w2 ⟨v,G,o2,rfl,⟨rfl,c,v1,v2,v3,rfl⟩,hb2,ht2,hs2⟩) | (go_at_call 204; go_in))
 have hx2:=hs2 0 _ rfl
 obtain ⟨hb3,ht3,hs3⟩:=zq7 hb2 hs2
 obtain ⟨hb4,ht4,hs4⟩:=zmL (i:=0) (.int .u32 1) hb3 hs3 (k:=0) rfl
 have hx4:=hs4 0 _ rfl
 obtain ⟨hb5,ht5,hs5⟩:=zmL (i:=1) (.int .i32 0) hb4 hs4 (k:=0) rfl
 refine leaves_cons (f:=235) (args:=#[.pointer (some ⟨b,0,none⟩),.bool true]) (by simp) (by simp [go_sem]) ?_
 refine (ziB ⟨b,0,none⟩ _ .returning _ (zgh hx2 0) (zjL hx2 0 (by simp))).mono ?_
 rintro e u' w'' ⟨rfl,rfl,rfl⟩
 refine leaves_cons (f:=234) (args:=#[.pointer (some ⟨b,1,none⟩)]) (by simp [settle]) (by simp [go_sem]) ?_
 refine (zhk ⟨b,1,none⟩ _ _ (zgh hx4 1) (zjL hx4 1 (by simp))).mono ?_
 rintro e u' w'' ⟨rfl,rfl,rfl⟩
 have hE:Abs.Ends w o (fun v G=>v=Value.tuple #[]∧∃ c v1 v2 v3,G=replA b 1 0 x2 c v1 v2 v3) (.returned (.tuple #[])) ((w2.drew.setCell ⟨b,0,none⟩ (.int .u32 1)).setCell ⟨b,1,none⟩ (.int .i32 0)):=
  ⟨_,_,o2,rfl,⟨rfl,c,v1,v2,v3,rfl⟩,hb5,(((ht1.trans ht2).trans ht3).trans ht4).trans ht5,hs5⟩
 simpa [Leaves,settle,results,Tryz.results205] using hE
theorem do_ok (b:Nat) (on:Value) (x2:Int):Meets Tryz.prog 165 [boxP b 0,.func (.func 166) #[boxP b 0] #[]] [row on 1 (OL.map eStr),box b [.int .u32 0,.int .i32 0,.int .u32 x2,.nilIface,on]]
  (fun v G=>v = .tuple #[]∧∃ c v1 v2 v3,G=replA b 1 0 x2 c v1 v2 v3):=by
 intro w o hb hs
 have hl:=run_call_load (P:=Tryz.prog) Tryz.func232 (by kernel_rfl) (by kernel_rfl) (by kernel_rfl) .u32 (by kernel_rfl) (w:=w) (a:=⟨b,0,none⟩) (x:=0) (zgh (hs 1 _ rfl) 0)
 have hnot:∀ (x:Bool) (w:World),(Op.unary .not (.bool x)).run Tryz.prog w = .ok (.bool (!x)) w:=fun _ _=>rfl
 have hS:=zsn b on x2 w o hb hs
 unfold boxP at hS ⊢
 go_enter Tryz.func165,Tryz.ntmps165
 go_wp2_with (first | (go_at_call 205; refine hS.mono ?_; rintro e w2 ⟨v,G,o2,rfl,⟨rfl,c,v1,v2,v3,rfl⟩,hb2,ht2,hs2⟩) | (go_at_call 204; go_in))
 go_end0
 exact ⟨_,_,o2,rfl,⟨rfl,c,v1,v2,v3,rfl⟩,hb2,ht2,hs2⟩
end Go.Proofs.YtcmaoifiiigggaaGreatDoor
namespace Go.Proofs.YtcmaoifiiigggaaGreatDoor
open Go.Abs
set_option maxRecDepth 20000
def zk7 (x0 x1 x2:Int) (on:List (List UInt8)) (s:List UInt8):Option (List UInt8):=need ((x0=0∧x1=0)∧on=OL∧s.length≤1000000000) (some (esc s))
theorem zls (a_0_0 a_0_1 a_0_2:Int) (a_0_4:List (List UInt8)) (a_1:List UInt8) (a_0b:Nat) (a_0_4v:Value) {r:List UInt8} (h:zk7 a_0_0 a_0_1 a_0_2 a_0_4 a_1=some r) :
  Meets Tryz.prog 102 [boxP a_0b 0,.string (bs a_1)] [row a_0_4v 1 (a_0_4.map eStr),box a_0b [.int .u32 a_0_0,.int .i32 a_0_1,.int .u32 a_0_2,.nilIface,a_0_4v]] (fun v G=>v = .string (bs r)∧G=[]):=by
 obtain ⟨⟨⟨h0,h1⟩,h2,hl⟩,h'⟩:=zX h
 clear h
 subst h0 h1 h2
 obtain rfl:=Option.some.inj h'
 refine zN Tryz.func102 rfl Tryz.ntmps102 rfl (fun w0 o0=>?_)
 refine zH ?_
 refine z8 ?_
 refine oy rfl rfl (z1Y rfl) ?_
 refine zr ?_
 refine zD ?_
 refine zH ?_
 refine z8 ?_
 refine oy rfl rfl (z1Z rfl) ?_
 refine oy rfl rfl (z6J rfl) ?_
 refine oy rfl rfl (z1H (sz:=2) Tryz.runUnderlying227 rfl Tryz.sizeOf223 rfl) ?_
 refine oy rfl rfl (z1Z rfl) ?_
 refine oy rfl rfl (zhP (vs:=[boxP a_0b 0]) rfl) ?_
 refine ot rfl rfl (zbx (vs:=[boxP a_0b 0,.func (.func 166) #[boxP a_0b 0] #[]]) (cs:=[]) [(0,2),(1,2)] rfl Tryz.call165 rfl (do_ok a_0b a_0_4v a_0_2) (z2f 0 rfl (z2f 1 rfl z3r)) rfl (.inl rfl)) ?_
 rintro _ _ ⟨_,⟨rfl,c,v1,v2,v3,rfl⟩,rfl⟩
 refine zr ?_
 refine zD ?_
 refine zH ?_
 refine z8 ?_
 refine oy rfl rfl (z1Z rfl) ?_
 refine oy rfl rfl (z6J rfl) ?_
 refine oy rfl rfl (z1H (sz:=0) Tryz.runUnderlying227 rfl Tryz.sizeOf225 rfl) ?_
 refine oy rfl rfl (z3I (r:=.iface 278 (boxP c 0)) 2 Tryz.isAgg225 rfl rfl rfl) ?_
 refine oy rfl rfl (z1Z rfl) ?_
 refine ot rfl rfl (zqw (vs:=[.string (bs a_1)]) [(4,1),(5,1),(6,1),(3,2)] rfl (fun _ _ _ _=>zmx Tryz.typeInfo278 rfl rfl rfl Tryz.runUnderlying278) Tryz.call303 rfl
  (z6p _ a_1 c v1 v2 v3 (zqb a_1 hl)) (z69 4 rfl z6S (z69 5 rfl z6S (z69 6 rfl z6S (z2f 3 rfl z3r)))) rfl (.inr (by rintro _ _ ⟨rfl,rfl⟩ g hg; cases hg))) ?_
 rintro _ _ ⟨_,⟨rfl,rfl⟩,rfl⟩
 refine oy rfl rfl (z1Y rfl) ?_
 refine zr ?_
 refine zD ?_
 refine zA ?_
 refine zax [4] [.string (bs (esc a_1))] [] [] Tryz.results102 rfl (by decide) rfl ?_
 exact ⟨rfl,rfl⟩
end Go.Proofs.YtcmaoifiiigggaaGreatDoor
namespace Go.Abs
variable {E : Env} {k : List KI} {V : VF} {H : List HA} {ops : Array Oper}
section
variable {x y : Code} {id : Nat} {l : List Oper}
theorem za (h:Ops E l.toArray l (.code y::k) V H):Ops E ops [] (.code (.seq (.region id l.toArray false) y)::k) V H:=zr (zD (zH (z8 h)))
theorem zb (h:Ops E l.toArray l k V H):Ops E ops [] (.code (.region id l.toArray false)::k) V H:=zr (zD (z8 h))
theorem zc (h:Run E x (.code y::k) V H):Ops E ops [] (.code (.seq x y)::k) V H:=zr (zD (zH h))
theorem zd (h:Run E y k V H):Ops E ops [] (.code y::k) V H:=zr (zD h)
theorem ze (h:Ops E l.toArray l (.code y::k) V H):Goes E (.code (.seq (.region id l.toArray false) y)::k) V H:=zD (zH (z8 h))
theorem zf (h:Ops E l.toArray l k V H):Goes E (.code (.region id l.toArray false)::k) V H:=zD (z8 h)
theorem zg (h:Run E x (.code y::k) V H):Goes E (.code (.seq x y)::k) V H:=zD (zH h)
theorem zh (h:Ops E l.toArray l (.code y::k) V H):Run E (.seq (.region id l.toArray false) y) k V H:=zH (z8 h)
end
theorem gc {L:Act→World→Prop} {S:Type} {Vi:S→List (Nat×Value)} {Hi:S→List HA} {inv:S→Prop}
 (hL:∀ s',inv s'→∀ a w,Rel E (VF.of (Vi s')) (Hi s') a w→L a w) (s' : S) (is:List Nat)
 (hl:∀ x∈Vi s',V x.1=some x.2:=by repeat (first | refine vcons rfl ?_ | exact vnil)) (hn:is.Nodup:=by decide) (hG:Picks is H (Hi s'):=by exact rfl) (hi:inv s':=by first | exact rfl | exact trivial) :
 Goes E (.loop L::k) V H:=z7J hL s' is hl hn hG hi
theorem nc {L:Act→World→Prop} {S:Type} {Vi:S→List (Nat×Value)} {Hi:S→List HA} {inv:S→Prop}
 (hL:∀ s',inv s'→∀ a w,Rel E (VF.of (Vi s')) (Hi s') a w→L a w) (s' : S) (is:List Nat)
 (hl:∀ x∈Vi s',V x.1=some x.2:=by repeat (first | refine vcons rfl ?_ | exact vnil)) (hn:is.Nodup:=by decide) (hG:Picks is H (Hi s'):=by exact rfl) (hi:inv s':=by first | exact rfl | exact trivial) :
 Ops E ops [] (.loop L::k) V H:=zr (z7J hL s' is hl hn hG hi)
theorem ok {r:List Oper} (l:List (Nat×Value)) (is:List Nat) (G:List HA) (h:Ops E ops r k (VF.of l) G) (hl:∀ x∈l,V x.1=some x.2:=by repeat (first | refine vcons rfl ?_ | exact vnil)) (hn:is.Nodup:=by decide) (hG:Picks is H G:=by exact rfl):Ops E ops r k V H:=
 zid l is G hl hn hG h
theorem oh {r:List Oper} (is:List Nat) (G:List HA) (h:Ops E ops r k V G) (hn:is.Nodup:=by decide) (hG:Picks is H G:=by exact rfl):Ops E ops r k V H:=fun a w q=>h a w (q.pick hn hG)
section
variable {op : Oper} {rest : List Oper}
theorem zq {v:Value} (h:OpY E.P op V H v) (hk:Ops E ops rest k (V.put op.dst v) H) (hw:Wants E.n ops V op:=by first | exact .inl rfl | exact .inr ⟨_,_,_,rfl,rfl,rfl,rfl⟩) (hd:inB E.n op.dst=true:=by exact rfl):Ops E ops (op::rest) k V H:=ops_y hw hd h hk
theorem zn (hk:Ops E ops rest k (V.put op.dst undef) H) {j:Nat} {b:Bool} {t:Nat} (hg:op.guard=some (j,b):=by exact rfl) (hj:((ops[j]?).bind (·.dst))=some t:=by exact rfl)
 (hv:V t=some (.bool (!b)):=by exact rfl) (ht:Nat.blt t E.n=true:=by exact rfl) (hd:inB E.n op.dst=true:=by exact rfl):Ops E ops (op::rest) k V H:=zlp j b t hg hj hv ht hd hk
theorem zu {v:Value} (h:OpY E.P op V H v) (hk:z4H E ops rest k (V.put op.dst v) H) (hw:Wants E.n ops V op:=by first | exact .inl rfl | exact .inr ⟨_,_,_,rfl,rfl,rfl,rfl⟩) (hd:inB E.n op.dst=true:=by exact rfl):z4H E ops (op::rest) k V H:=zp9 hw hd h hk
theorem zv (hk:z4H E ops rest k (V.put op.dst undef) H) {j:Nat} {b:Bool} {t:Nat} (hg:op.guard=some (j,b):=by exact rfl) (hj:((ops[j]?).bind (·.dst))=some t:=by exact rfl)
 (hv:V t=some (.bool (!b)):=by exact rfl) (ht:Nat.blt t E.n=true:=by exact rfl) (hd:inB E.n op.dst=true:=by exact rfl):z4H E ops (op::rest) k V H:=zqu j b t hg hj hv ht hd hk
theorem zt {post:Post} (h:OpT E.P op V H post) (hk:∀ v H',post v H'→Ops E ops rest k (V.put op.dst v) H') (hw:Wants E.n ops V op:=by first | exact .inl rfl | exact .inr ⟨_,_,_,rfl,rfl,rfl,rfl⟩) (hd:inB E.n op.dst=true:=by exact rfl):Ops E ops (op::rest) k V H:=ops_t hw hd h hk
end
section
variable {d : Option Nat} {ty : TypeId} {pos : String} {af : Array Edge} {g : Option (Nat × Bool)} {fx : Operand} {f : FuncId} {xs : Array Operand} {Ts : Array TypeId} {vs bv : List Value} {Hc : List HA} {post : Post} {pan : Value → Prop}
theorem tc (sh:List (Nat×Nat)) (hcall:∀ args w,(callFunc f args).run E.P w = .ok (.enter f args) w) (hc:Meets E.P f vs Hc post)
    (hfx:V.ev fx=some (.func (.func f) #[] #[]):=by exact rfl) (hxs:xs.toList.map V.ev=vs.map some:=by exact rfl)
    (hsh:z9S H sh Hc:=by
      repeat (first
        | with_reducible exact z3r
        | ((with_reducible apply z2f); · exact rfl)
        | ((with_reducible apply z3U); · exact rfl
           · first | with_reducible exact z6h | with_reducible exact zf5 | with_reducible exact z60 | exact z6h | exact z60 | exact ziH)
        | ((with_reducible apply z69); · exact rfl
           · first | with_reducible exact z6S | with_reducible exact zbA | with_reducible exact zbz z6h | with_reducible exact zbz z60 | exact z6S | exact zbA)))
    (hok:okX sh=true:=by exact rfl) (hst:(sh.all fun s=>s.2 != 1)=true:=by exact rfl) :
    OpT E.P ⟨d,.call ⟨.value fx,xs,Ts⟩,ty,pos,af,g⟩ V H (fun v' H'=>∃ G,post v' G∧H'=z28 sh H++G):=zbx (cs:=[]) sh hfx hcall hxs (by rw [List.append_nil]; exact hc) hsh hok (.inl hst)
theorem tp (sh:List (Nat×Nat)) (hcall:∀ args w,(callFunc f args).run E.P w = .ok (.enter f args) w) (hc:z4t E.P f vs Hc post pan)
    (hfx:V.ev fx=some (.func (.func f) #[] #[]):=by exact rfl) (hxs:xs.toList.map V.ev=vs.map some:=by exact rfl)
    (hsh:z9S H sh Hc:=by
      repeat (first
        | with_reducible exact z3r
        | ((with_reducible apply z2f); · exact rfl)
        | ((with_reducible apply z3U); · exact rfl
           · first | with_reducible exact z6h | with_reducible exact zf5 | with_reducible exact z60 | exact z6h | exact z60 | exact ziH)
        | ((with_reducible apply z69); · exact rfl
           · first | with_reducible exact z6S | with_reducible exact zbA | with_reducible exact zbz z6h | with_reducible exact zbz z60 | exact z6S | exact zbA)))
    (hok:okX sh=true:=by exact rfl) (hst:(sh.all fun s=>s.2 != 1)=true:=by exact rfl) :
    OpTP E.P ⟨d,.call ⟨.value fx,xs,Ts⟩,ty,pos,af,g⟩ V H (fun v' H'=>∃ G,post v' G∧H'=z28 sh H++G) pan (z28 sh H):=zf2 (cs:=[]) sh hfx hcall hxs (by rw [List.append_nil]; exact hc) hsh hok (.inl hst)
end
inductive Nth:List Oper→Nat→Oper→Prop where
 | z {o:Oper} {l:List Oper}:Nth (o::l) 0 o
 | s {o x:Oper} {l:List Oper} {n:Nat} (h:Nth l n o):Nth (x::l) (n+1) o
theorem Nth.get {l:List Oper} {n:Nat} {o:Oper} (h:Nth l n o):l.toArray[n]? = some o:=by
 induction h with
 | z=>rfl
 | s _ ih=>simpa using ih
section
variable {op : Oper} {listed : Array Bool} {fuel : Nat} {Hs : List HA}
theorem ai {v:Value} (i:Nat) (hi:ops[i]? = some op) (h:OpY E.P op V Hs v) (hk:AnyL E ops (listed.setIfInBounds i true) fuel k (V.put op.dst v) H Hs)
 (hs:Region.noSelect ops=true:=by kernel_rfl) (hf:Region.free .any ops listed i=true:=by kernel_rfl) (hr:(Region.ready .any ops listed).contains i=true:=by kernel_rfl)
 (hsub:Sub H Hs:=by repeat (first | with_reducible exact sn | with_reducible apply se | with_reducible apply ss | exact sn | apply se | apply ss)) (hw:Wants E.n ops V op:=by first | exact .inl rfl | exact .inr ⟨_,_,_,rfl,rfl,rfl,rfl⟩)
 (hd:inB E.n op.dst=true:=by exact rfl) (hbl:E.blind=true:=by exact rfl):AnyL E ops listed (fuel+1) k V H Hs:=any_y i hi hs hf hr hsub hw hd h hk hbl
theorem aw {listed' : Array Bool} {l:List (Nat×Value)} {G:List HA} (h:AnyL E ops listed' fuel k (VF.of l) G Hs) (is:List Nat) (hL:listed=listed':=by kernel_rfl)
 (hl:∀ x∈l,V x.1=some x.2:=by repeat (first | refine vcons rfl ?_ | exact vnil)) (hn:is.Nodup:=by decide) (hG:Picks is H G:=by exact rfl):AnyL E ops listed fuel k V H Hs:=zlK l is G hL hl hn hG h
theorem at' {post:Post} {i:Nat} (hi:ops[i]? = some op) (h:OpT E.P op V H post) (hk:∀ v H',post v H'→Sub H' Hs∧AnyL E ops (listed.setIfInBounds i true) fuel k (V.put op.dst v) H' Hs)
 (hw:Wants E.n ops V op:=by first | exact .inl rfl | exact .inr ⟨_,_,_,rfl,rfl,rfl,rfl⟩) (hd:inB E.n op.dst=true:=by exact rfl):AnyO E ops listed fuel k V H Hs i:=any_t hi hw hd h hk
theorem sb (h:AnyL E ops listed fuel k V H Hs) (hsub:Sub H Hs:=by repeat (first | with_reducible exact sn | with_reducible apply se | with_reducible apply ss | exact sn | apply se | apply ss)):Sub H Hs∧AnyL E ops listed fuel k V H Hs:=⟨hsub,h⟩
end
end Go.Abs
namespace Go.Abs
variable {E : Env} {k : List KI} {V : VF} {H : List HA} {ops : Array Oper}
structure Wq (Q:Prop):Prop where
 out:Q
inductive Kp (V:VF):List Nat→List (Nat×Value)→Prop
 | z:Kp V [] []
 | s {t:Nat} {v:Value} {ts:List Nat} {l:List (Nat×Value)} (h:V t=some v) (r:Kp V ts l):Kp V (t::ts) ((t,v)::l)
theorem Kp.all {ts:List Nat} {l:List (Nat×Value)} (h:Kp V ts l):∀ x∈l,V x.1=some x.2:=by
 induction h with
 | z=>exact vnil
 | s h _ ih=>exact vcons h ih
inductive Hp (H:List HA):List Nat→List HA→Prop
 | z:Hp H [] []
 | s {i:Nat} {h:HA} {is:List Nat} {G:List HA} (e:H[i]? = some h) (r:Hp H is G):Hp H (i::is) (h::G)
theorem Hp.picks {is:List Nat} {G:List HA} (h:Hp H is G):Picks is H G:=by
 induction h with
 | z=>rfl
 | s e _ ih=>unfold Picks at *; simp only [List.map_cons,e,ih]
inductive Kv (V:VF):List Nat→List Value→Prop
 | z:Kv V [] []
 | s {t:Nat} {v:Value} {ts:List Nat} {l:List Value} (h:V t=some v) (r:Kv V ts l):Kv V (t::ts) (v::l)
theorem Kv.all {ts:List Nat} {l:List Value} (h:Kv V ts l):ts.map V=l.map some:=by
 induction h with
 | z=>rfl
 | s h _ ih=>simp only [List.map_cons,h,ih]
inductive At:List HA→Nat→HA→Prop
 | z {h:HA} {H:List HA}:At (h::H) 0 h
 | s {h g:HA} {H:List HA} {n:Nat} (r:At H n h):At (g::H) (n+1) h
theorem At.get {n:Nat} {h:HA} (r:At H n h):H[n]? = some h:=by
 induction r with
 | z=>rfl
 | s _ ih=>simpa using ih
inductive Nm:List HA→List HA→Prop
 | z {H:List HA} (e:H=[]):Nm H []
 | s {H T T' : List HA} {h:HA} (e:H=h::T) (r:Nm T T'):Nm H (h::T')
theorem Nm.eq {H' : List HA} (h:Nm H H'):H=H':=by
 induction h with
 | z e=>exact e
 | s e _ ih=>rw [e,ih]
inductive Nl:List Value→List Value→Prop
 | z {H:List Value} (e:H=[]):Nl H []
 | s {H T T' : List Value} {h:Value} (e:H=h::T) (r:Nl T T'):Nl H (h::T')
theorem Nl.eq {l l' : List Value} (h:Nl l l'):l=l':=by
 induction h with
 | z e=>exact e
 | s e _ ih=>rw [e,ih]
section
variable {c : Code} {l : List (Nat × Value)} {G : List HA} {r : List Oper}
theorem rj (ts is:List Nat) (h:Run E c k (VF.of l) G) (hk:Kp V ts l:=by repeat (first | exact Kp.z | apply Kp.s rfl)) (hp:Hp H is G:=by repeat (first | exact Hp.z | apply Hp.s rfl)) (hn:is.Nodup:=by decide):Run E c k V H:=
 z6G l is G hk.all hn hp.picks h
theorem oj (ts is:List Nat) (h:Ops E ops r k (VF.of l) G) (hk:Kp V ts l:=by repeat (first | exact Kp.z | apply Kp.s rfl)) (hp:Hp H is G:=by repeat (first | exact Hp.z | apply Hp.s rfl)) (hn:is.Nodup:=by decide):Ops E ops r k V H:=
 zid l is G hk.all hn hp.picks h
theorem on {H' : List HA} (h:Ops E ops r k V H') (hN:Nm H H':=by repeat (first | exact Nm.z rfl | apply Nm.s rfl)):Ops E ops r k V H:=hN.eq ▸ h
end
inductive Sl:List HA→Value→Prop
 | a {H:List HA} {u:Value} {es:Nat} {c:List (List Value)}:Sl (ro u es c::H) u
 | b {H:List HA} {u:Value} {es:Nat} {c:List (List Value)}:Sl (row u es c::H) u
 | c {H:List HA} {u:Value} {α:Type} {C:NC α} {l:List α}:Sl (nro u C l::H) u
 | d {H:List HA} {u:Value} {α:Type} {C:NC α} {l:List α}:Sl (nrow u C l::H) u
 | s {H:List HA} {u:Value} {g:HA} (r:Sl H u):Sl (g::H) u
theorem Sl.ex {u:Value} (h:Sl H u):∃ (m:Nat) (g:HA),H[m]? = some g∧((∃ es cs,Reads g u es cs)∨∃ es n,zf9 g u es n):=by
 induction h with
 | a=>exact ⟨0,_,rfl,.inl ⟨_,_,z3N⟩⟩
 | b=>exact ⟨0,_,rfl,.inl ⟨_,_,z1d⟩⟩
 | c=>exact ⟨0,_,rfl,.inr ⟨_,_,z1j⟩⟩
 | d=>exact ⟨0,_,rfl,.inr ⟨_,_,z4N⟩⟩
 | s _ ih=>obtain ⟨m,g,h1,h2⟩:=ih; exact ⟨m+1,g,by simpa using h1,h2⟩
theorem Sl.one {u:Value} (h:Sl H u) {w:World} {o:Own} (hs:Sats w o H):u.cells = #[u]∧u.oneCell'=true:=by
 obtain ⟨m,g,h1,h2⟩:=h.ex
 rcases h2 with ⟨es,cs,h2⟩ | ⟨es,n,h2⟩
 ·obtain ⟨x,cap,e,_⟩:=h2.is w o m (hs m g h1)
  subst e; exact ⟨rfl,rfl⟩
 ·obtain ⟨x,cap,e,_⟩:=h2.is w o m (hs m g h1)
  subst e; exact ⟨rfl,rfl⟩
inductive Cel (H:List HA):Value→List Value→Prop
 | a {l:List Value}:Cel H (.agg l.toArray) l
 | r {u:Value} (h:u.cells = #[u]):Cel H u [u]
 | s {u:Value} (h:Sl H u):Cel H u [u]
theorem Cel.is {u:Value} {l:List Value} (h:Cel H u l) {w:World} {o:Own} (hs:Sats w o H):u.cells.toList=l:=by
 cases h with
 | a=>rfl
 | r h=>rw [h]
 | s h=>rw [(h.one hs).1]
inductive Ones (H:List HA):List Value→Prop
 | z:Ones H []
 | r {u:Value} {l:List Value} (h:u.oneCell'=true) (r:Ones H l):Ones H (u::l)
 | s {u:Value} {l:List Value} (h:Sl H u) (r:Ones H l):Ones H (u::l)
theorem Ones.is {l:List Value} (h:Ones H l) {w:World} {o:Own} (hs:Sats w o H):∀ u∈l,u.oneCell'=true:=by
 induction h with
 | z=>exact z6b
 | r h _ ih=>exact z1s h ih
 | s h _ ih=>exact z1s (h.one hs).2 ih
inductive Wl:List Value→Nat→List Value→List Value→Prop
 | z {cs:List Value}:Wl cs 0 [] cs
 | p {c v:Value} {cs vs ds:List Value} (r:Wl cs 0 vs ds):Wl (c::cs) 0 (v::vs) (v::ds)
 | s {c:Value} {cs vs ds:List Value} {n:Nat} (r:Wl cs n vs ds):Wl (c::cs) (n+1) vs (c::ds)
theorem zkl (c:Value):∀ (vs cs:List Value) (n:Nat),wrL (c::cs) (n+1) vs=c::wrL cs n vs
  | [],cs,n=>rfl
  | v :: vs, cs, n => by
    have h:=zkl c vs (cs.set n v) (n+1)
    unfold wrL at h ⊢
    simp only [z6Y,List.setIfInBounds_toArray,List.set_cons_succ] at h ⊢
    exact h
theorem Wl.eq {cs vs ds:List Value} {n:Nat} (h:Wl cs n vs ds):wrL cs n vs=ds∧n+vs.length≤cs.length:=by
  induction h with
  | z=>exact ⟨rfl,by simp⟩
  | @p c v cs vs ds _ ih =>
    refine ⟨?_,by have:=ih.2; simp at this ⊢; omega⟩
    have h:=zkl v vs cs 0
    unfold wrL at h ⊢
    simp only [z6Y,List.setIfInBounds_toArray,List.set_cons_zero] at h ⊢
    rw [h]
    have:=ih.1
    unfold wrL at this
    rw [this]
  | s _ ih=>exact ⟨by rw [zkl,ih.1],by have:=ih.2; simp only [List.length_cons]; omega⟩
inductive St:List HA→Nat→HA→List HA→Prop
 | z {h g:HA} {H:List HA}:St (h::H) 0 g (g::H)
 | s {h g:HA} {H H' : List HA} {n:Nat} (r:St H n g H'):St (h::H) (n+1) g (h::H')
theorem St.eq {n:Nat} {g:HA} {H' : List HA} (h:St H n g H'):H.set n g=H':=by
 induction h with
 | z=>rfl
 | s _ ih=>simp [ih]
section
variable {d : Option Nat} {ty : TypeId} {pos : String} {af : Array Edge} {g : Option (Nat × Bool)} {T : TypeId} {x y : Operand} {rest : List Oper} {b off m : Nat} {u : Value} {cells vs vs' : List Value} {H' : List HA}
theorem zmJ (hx:V.ev x=some (boxP b off)) (hy:V.ev y=some u) (hm:At H m (box b vs)) (hc:Cel H u cells) (hw:Wl vs off cells vs') (hS:St H m (box b vs') H') (h1:Ones H cells) (hz:∀ w,(sizeOf T).run E.P w = .ok cells.length w) :
  OpT E.P ⟨d,.store T x y,ty,pos,af,g⟩ V H (fun v' G=>v'=undef∧G=H'):=by
 intro ρ w o hf hb hs
 have hset:=hS.eq
 have e:=hc.is hs
 have hw':=hw.eq
 have h:=z55 (V:=V) (H:=H) (d:=d) (ty:=ty) (pos:=pos) (af:=af) (g:=g) (T:=T) (x:=x) (y:=y) m hz hx hy hm.get (by rw [← e]; simp) hw'.2 (by rw [e]; exact h1.is hs) ρ w o hf hb hs
 rw [e,hw'.1,hset] at h
 exact h
theorem zq5 {z:Value} {zs:List Value} (h0:∀ w,(zeroValue T).run E.P w = .ok z w) (hz:Nl z.cells.toList zs):OpT E.P ⟨d,.alloc T,ty,pos,af,g⟩ V H (fun v' G=>∃ b,v'=boxP b 0∧G=H++[box b zs]):=hz.eq ▸ zaL h0
theorem zal {z:Value} {zs:List Value} (h0:∀ w,(zeroValue T).run E.P w = .ok z w) (hz:Nl z.cells.toList zs) (hk:∀ b,Ops E ops rest k (V.put d (boxP b 0)) (H++[box b zs])) (hw:Wants E.n ops V ⟨d,.alloc T,ty,pos,af,g⟩) (hd:inB E.n d=true) :
 Ops E ops (⟨d,.alloc T,ty,pos,af,g⟩::rest) k V H:=ops_t hw hd (zq5 h0 hz) (by rintro _ _ ⟨b,rfl,rfl⟩; exact hk b)
theorem zst (hk:Ops E ops rest k (V.put d undef) H') (hx:V.ev x=some (boxP b off)) (hy:V.ev y=some u) (hm:At H m (box b vs)) (hc:Cel H u cells) (hw:Wl vs off cells vs') (hS:St H m (box b vs') H') (h1:Ones H cells) (hz:∀ w,(sizeOf T).run E.P w = .ok cells.length w)
 (hwn:Wants E.n ops V ⟨d,.store T x y,ty,pos,af,g⟩) (hd:inB E.n d=true):Ops E ops (⟨d,.store T x y,ty,pos,af,g⟩::rest) k V H:=ops_t hwn hd (zmJ hx hy hm hc hw hS h1 hz) (by rintro _ _ ⟨rfl,rfl⟩; exact hk)
end
inductive Tk:List Value→Nat→Nat→List Value→Prop
 | z {cs:List Value}:Tk cs 0 0 []
 | t {c:Value} {cs r:List Value} {n:Nat} (h:Tk cs 0 n r):Tk (c::cs) 0 (n+1) (c::r)
 | s {c:Value} {cs r:List Value} {off n:Nat} (h:Tk cs off n r):Tk (c::cs) (off+1) n r
theorem Tk.eq {cs r:List Value} {off n:Nat} (h:Tk cs off n r):r.length=n∧(cs.drop off).take n=r∧off+n≤cs.length:=by
 induction h with
 | z=>exact ⟨rfl,by simp,by simp⟩
 | t _ ih=>obtain ⟨h1,h2,h3⟩:=ih; refine ⟨by simp [h1],?_,by simp at h3 ⊢; omega⟩; simpa using h2
 | s _ ih=>obtain ⟨h1,h2,h3⟩:=ih; exact ⟨h1,by simpa using h2,by simp; omega⟩
section
variable {P : Program} {d : Option Nat} {ty : TypeId} {pos : String} {af : Array Edge} {g : Option (Nat × Bool)} {T : TypeId} {x : Operand} {b off m n : Nat} {vs c : List Value} {r : Value}
theorem y_lb (hx:V.ev x=some (boxP b off)) (ha:∀ w,(isAgg T).run P w = .ok false w) (hm:At H m (box b vs)) (hc:vs[off]? = some r):OpY P ⟨d,.load T x,ty,pos,af,g⟩ V H r:=z3I m ha hx hm.get hc
theorem y_la (hx:V.ev x=some (boxP b off)) (ha:∀ w,(isAgg T).run P w = .ok true w) (hz:∀ w,(sizeOf T).run P w = .ok n w) (hm:At H m (box b vs)) (hc:Tk vs off n c):OpY P ⟨d,.load T x,ty,pos,af,g⟩ V H (.agg c.toArray):=
 z9u m ha (by rw [hc.eq.1]; exact hz) hx hm.get (by rw [hc.eq.1]; exact hc.eq.2.1)
theorem y_fa {i:Nat} {fs:Array Field} {f:Field} {cs:List Value} (hx:V.ev x=some (.agg cs.toArray)) (hu:∀ w,(underlying T).run P w = .ok (.struct fs) w) (hf' : fs[i]? = some f) (ha:∀ w,(isAgg f.type).run P w = .ok true w)
 (hz:∀ w,(sizeOf f.type).run P w = .ok n w) (hc:Tk cs f.offset n c):OpY P ⟨d,.field T x i,ty,pos,af,g⟩ V H (.agg c.toArray):=zqR hu hf' ha (by rw [hc.eq.1]; exact hz) hx (by rw [hc.eq.1]; exact hc.eq.2.1) (by rw [hc.eq.1]; exact hc.eq.2.2)
theorem y_ff {i:Nat} {fs:Array Field} {f:Field} {cs:List Value} (hx:V.ev x=some (.agg cs.toArray)) (hu:∀ w,(underlying T).run P w = .ok (.struct fs) w) (hf' : fs[i]? = some f) (ha:∀ w,(isAgg f.type).run P w = .ok false w)
 (hr:cs[f.offset]? = some r):OpY P ⟨d,.field T x i,ty,pos,af,g⟩ V H r:=zt2 hu hf' ha hx hr
end
inductive Rd:List HA→Value→Nat→List (List Value)→Prop
 | a {H:List HA} {u:Value} {es:Nat} {c:List (List Value)}:Rd (ro u es c::H) u es c
 | b {H:List HA} {u:Value} {es:Nat} {c:List (List Value)}:Rd (row u es c::H) u es c
 | s {H:List HA} {u:Value} {es:Nat} {c:List (List Value)} {g:HA} (r:Rd H u es c):Rd (g::H) u es c
theorem Rd.ex {u:Value} {es:Nat} {c:List (List Value)} (h:Rd H u es c):∃ (m:Nat) (g:HA),H[m]? = some g∧Reads g u es c:=by
 induction h with
 | a=>exact ⟨0,_,rfl,z3N⟩
 | b=>exact ⟨0,_,rfl,z1d⟩
 | s _ ih=>obtain ⟨m,g,h1,h2⟩:=ih; exact ⟨m+1,g,by simpa using h1,h2⟩
inductive Rn:List HA→Value→Nat→Nat→Prop
 | a {H:List HA} {u:Value} {α:Type} {C:NC α} {l:List α} {es:Nat} (e:C.es=es):Rn (nro u C l::H) u es l.length
 | b {H:List HA} {u:Value} {α:Type} {C:NC α} {l:List α} {es:Nat} (e:C.es=es):Rn (nrow u C l::H) u es l.length
 | s {H:List HA} {u:Value} {es n:Nat} {g:HA} (r:Rn H u es n):Rn (g::H) u es n
theorem Rn.ex {u:Value} {es n:Nat} (h:Rn H u es n):∃ (m:Nat) (g:HA),H[m]? = some g∧zf9 g u es n:=by
 induction h with
 | a e=>exact ⟨0,_,rfl,e ▸ z1j⟩
 | b e=>exact ⟨0,_,rfl,e ▸ z4N⟩
 | s _ ih=>obtain ⟨m,g,h1,h2⟩:=ih; exact ⟨m+1,g,by simpa using h1,h2⟩
inductive Ac:List HA→Value→Nat→List Value→Prop
 | z {H:List HA} {v:Value} {n n' : Nat} {cs:List Value} (e:n'=n):Ac (atc v n' cs::H) v n cs
 | s {H:List HA} {v:Value} {n:Nat} {cs:List Value} {g:HA} (r:Ac H v n cs):Ac (g::H) v n cs
theorem Ac.ex {v:Value} {n:Nat} {cs:List Value} (h:Ac H v n cs):∃ m:Nat,H[m]? = some (atc v n cs):=by
 induction h with
 | z e=>exact ⟨0,by rw [e]; rfl⟩
 | s _ ih=>obtain ⟨m,h1⟩:=ih; exact ⟨m+1,by simpa using h1⟩
section
variable {P : Program} {d : Option Nat} {ty : TypeId} {pos : String} {af : Array Edge} {g : Option (Nat × Bool)} {T el : TypeId} {x y : Operand} {v r : Value} {es i n j m : Nat} {q : Int} {kd : IntKind} {Ts : Array TypeId} {α : Type} {F : α → List Value} {l : List α} {a : α}
theorem y_ln (hx:V.ev x=some v) (hT:Ts[0]? = some T) (hu:∀ w,(underlying T).run P w = .ok (.slice el) w) (hr:Rn H v es n):OpY P ⟨d,.call ⟨.builtin .len,#[x],Ts⟩,ty,pos,af,g⟩ V H (.int .i64 n):=
 let ⟨m,_,h1,h2⟩:=hr.ex; zuI m hT hu hx h1 h2
theorem y_lm (hx:V.ev x=some v) (hT:Ts[0]? = some T) (hu:∀ w,(underlying T).run P w = .ok (.slice el) w) (hr:Rd H v es (l.map F)):OpY P ⟨d,.call ⟨.builtin .len,#[x],Ts⟩,ty,pos,af,g⟩ V H (.int .i64 (l.length:Int)):=
 let ⟨m,_,h1,h2⟩:=hr.ex; (y_len m hT hu hx h1 h2).to (v_len F l)
theorem y_ll {c:List (List Value)} (hx:V.ev x=some v) (hT:Ts[0]? = some T) (hu:∀ w,(underlying T).run P w = .ok (.slice el) w) (hr:Rd H v es c):OpY P ⟨d,.call ⟨.builtin .len,#[x],Ts⟩,ty,pos,af,g⟩ V H (.int .i64 c.length):=
 let ⟨m,_,h1,h2⟩:=hr.ex; y_len m hT hu hx h1 h2
theorem y_ixn (hx:V.ev x=some v) (hy:V.ev y=some (.int kd q)) (hu:∀ w,(underlying T).run P w = .ok (.slice el) w) (hz:∀ w,(sizeOf el).run P w = .ok es w) (hr:Rn H v es n) (h0:0≤q) (hn:q.toNat<n) :
 OpY P ⟨d,.indexAddr T x y,ty,pos,af,g⟩ V H (elemP v (q.toNat*es)):=let ⟨m,_,h1,h2⟩:=hr.ex; zkn m hu hz hx hy h1 h2 h0 hn
theorem y_ixm (hx:V.ev x=some v) (hy:V.ev y=some (.int kd q)) (hu:∀ w,(underlying T).run P w = .ok (.slice el) w) (hz:∀ w,(sizeOf el).run P w = .ok es w) (hr:Rd H v es (l.map F)) (h0:0≤q) (hn:q.toNat<l.length) :
 OpY P ⟨d,.indexAddr T x y,ty,pos,af,g⟩ V H (elemP v (q.toNat*es)):=let ⟨m,_,h1,h2⟩:=hr.ex; z4M m hu hz hx hy h1 h2 h0 (zq0 hn)
theorem y_ixl {c:List (List Value)} (hx:V.ev x=some v) (hy:V.ev y=some (.int kd q)) (hu:∀ w,(underlying T).run P w = .ok (.slice el) w) (hz:∀ w,(sizeOf el).run P w = .ok es w) (hr:Rd H v es c) (h0:0≤q) (hn:q.toNat<c.length) :
 OpY P ⟨d,.indexAddr T x y,ty,pos,af,g⟩ V H (elemP v (q.toNat*es)):=let ⟨m,_,h1,h2⟩:=hr.ex; z4M m hu hz hx hy h1 h2 h0 hn
theorem y_lh {c:List (List Value)} {b r:List Value} (hx:V.ev x=some (elemP v (i*es))) (ha:∀ w,(isAgg T).run P w = .ok true w) (hz:∀ w,(sizeOf T).run P w = .ok es w) (hr:Rd H v es c) (hl:c[i]? = some b) (hF:Nl b r):OpY P ⟨d,.load T x,ty,pos,af,g⟩ V H (.agg r.toArray):=
 let ⟨m,_,h1,h2⟩:=hr.ex; zjI m ha hz hx h1 h2 (by rw [hl,hF.eq])
theorem y_le (hx:V.ev x=some (elemP v (i*es))) (ha:∀ w,(isAgg T).run P w = .ok false w) (hr:Rd H v es (l.map F)) (hl:l[i]? = some a) (hF:F a=[r]):OpY P ⟨d,.load T x,ty,pos,af,g⟩ V H r:=
 let ⟨m,_,h1,h2⟩:=hr.ex; z6a m ha hx h1 h2 (by rw [zj2 hl,hF])
theorem y_lf (hx:V.ev x=some (elemP v (i*es+j))) (ha:∀ w,(isAgg T).run P w = .ok false w) (hr:Rd H v es (l.map F)) (hl:l[i]? = some a) (hF:(F a)[j]? = some r):OpY P ⟨d,.load T x,ty,pos,af,g⟩ V H r:=
 let ⟨m,_,h1,h2⟩:=hr.ex; zko m ha hx h1 h2 (zj2 hl) hF
theorem y_lg {c:List Value} (hx:V.ev x=some (elemP v (i*es))) (ha:∀ w,(isAgg T).run P w = .ok true w) (hz:∀ w,(sizeOf T).run P w = .ok es w) (hr:Rd H v es (l.map F)) (hl:l[i]? = some a) (hF:Nl (F a) c):OpY P ⟨d,.load T x,ty,pos,af,g⟩ V H (.agg c.toArray):=
 let ⟨m,_,h1,h2⟩:=hr.ex; zjI m ha hz hx h1 h2 (by rw [zj2 hl,hF.eq])
theorem y_at {cs:List Value} (hx:V.ev x=some (elemP v (n+j))) (ha:∀ w,(isAgg T).run P w = .ok false w) (hm:Ac H v n cs) (hc:cs[j]? = some r):OpY P ⟨d,.load T x,ty,pos,af,g⟩ V H r:=let ⟨m,h1⟩:=hm.ex; zld m ha hx h1 hc
theorem y_ata {c cs:List Value} {sz:Nat} (hx:V.ev x=some (elemP v (n+j))) (ha:∀ w,(isAgg T).run P w = .ok true w) (hz:∀ w,(sizeOf T).run P w = .ok sz w) (hm:Ac H v n cs) (hc:Tk cs j sz c):OpY P ⟨d,.load T x,ty,pos,af,g⟩ V H (.agg c.toArray):=let ⟨m,h1⟩:=hm.ex; zh1 m ha (by rw [hc.eq.1]; exact hz) hx h1 (by rw [hc.eq.1]; exact hc.eq.2.1)
end
section
variable {P : Program} {d : Option Nat} {ty : TypeId} {pos : String} {af : Array Edge} {g : Option (Nat × Bool)} {T : TypeId} {x : Operand} {v r : Value} {n m sz : Nat} {c cs : List Value}
theorem y_at0 (hx:V.ev x=some (elemP v n)) (ha:∀ w,(isAgg T).run P w = .ok false w) (hm:Ac H v n cs) (hc:cs[0]? = some r):OpY P ⟨d,.load T x,ty,pos,af,g⟩ V H r:=let ⟨m,h1⟩:=hm.ex; zld (j:=0) m ha hx h1 hc
theorem zqQ (hx:V.ev x=some (elemP v n)) (ha:∀ w,(isAgg T).run P w = .ok true w) (hz:∀ w,(sizeOf T).run P w = .ok sz w) (hm:Ac H v n cs) (hc:Tk cs 0 sz c):OpY P ⟨d,.load T x,ty,pos,af,g⟩ V H (.agg c.toArray):=let ⟨m,h1⟩:=hm.ex; zh1 (j:=0) m ha (by rw [hc.eq.1]; exact hz) hx h1 (by rw [hc.eq.1]; exact hc.eq.2.1)
end
inductive Pc (V:VF) (H:List HA):List (Nat×Operand)→List (Nat×List Value)→Prop
 | z:Pc V H [] []
 | s {i:Nat} {x:Operand} {v:Value} {cs:List Value} {ps:List (Nat×Operand)} {qs:List (Nat×List Value)} (h:V.ev x=some v) (c:Cel H v cs) (r:Pc V H ps qs):Pc V H ((i,x)::ps) ((i,cs)::qs)
theorem Pc.ex {ps:List (Nat×Operand)} {qs:List (Nat×List Value)} (h:Pc V H ps qs) {w:World} {o:Own} (hs:Sats w o H):∃ vs:List (Nat×Value),ps.map (fun p=>(p.1,V.ev p.2))=vs.map (fun p=>(p.1,some p.2))∧vs.map (fun p=>(p.1,p.2.cells.toList))=qs:=by
 induction h with
 | z=>exact ⟨[],rfl,rfl⟩
 | @s i x v cs ps qs h c _ ih=>obtain ⟨vs,h1,h2⟩:=ih; exact ⟨(i,v)::vs,by simp [h1,h],by simp [h2,c.is hs]⟩
theorem y_bs {P:Program} {d:Option Nat} {ty:TypeId} {pos:String} {af:Array Edge} {g:Option (Nat×Bool)} {T:TypeId} {parts:List (Nat×Operand)} {z:Value} {fl:List Field} {pl:List (Nat×Nat)} {cells:Array Value} {cs:List (Nat×List Value)} {l:List Value} (h0:∀ w,(zeroValue T).run P w = .ok z w)
  (hu:∀ w,(underlying T).run P w = .ok (.struct fl.toArray) w) (hF:zFs P fl pl) (hp:Pc V H parts cs) (hc:fillC (fun i=>pl.toArray[i]?) z.cells cs=some cells) (hl:Nl cells.toList l):OpY P ⟨d,.build T parts.toArray,ty,pos,af,g⟩ V H (.agg l.toArray):=by
 intro ρ w o hf hb hs
 obtain ⟨vs,h1,h2⟩:=hp.ex hs
 have h:=z9Q (V:=V) (H:=H) (d:=d) (ty:=ty) (pos:=pos) (af:=af) (g:=g) vs cs h0 hu hF (parts:=parts.toArray) (by simpa using h1) h2 hc ρ w o hf hb hs
 rw [← hl.eq]
 simpa using h
theorem y_ex {P:Program} {d:Option Nat} {ty:TypeId} {pos:String} {af:Array Edge} {g:Option (Nat×Bool)} {x:Operand} {vs:List Value} {i:Nat} {v:Value} (hx:V.ev x=some (.tuple vs.toArray)) (hv:vs[i]? = some v):OpY P ⟨d,.extract x i,ty,pos,af,g⟩ V H v:=ziK hx (by simpa using hv)
section
variable {P : Program} {d : Option Nat} {ty : TypeId} {pos : String} {af : Array Edge} {g : Option (Nat × Bool)} {α : Type} {C : NC α} {l : List α} {T el U : TypeId} {x y : Operand} {v : Value}
theorem tin (m:Nat) (hu:∀ w,(underlying T).run P w = .ok (.slice el) w) (hx:V.ev x=some v) (hy:V.ev y=some (.slice none 0 0)) (hm:H[m]? = some (nro v C l)):OpT P ⟨d,.binOp .eql T x y U,ty,pos,af,g⟩ V H (fun v' H'=>∃ b:Bool,v' = .bool b∧H'=H∧(b=true→l=[])):=
 zni (C:=C) m hu hx hy hm z1j
end
inductive Ko (V:VF):List Operand→List Value→Prop
 | z:Ko V [] []
 | s {x:Operand} {v:Value} {xs:List Operand} {vs:List Value} (h:V.ev x=some v) (r:Ko V xs vs):Ko V (x::xs) (v::vs)
theorem Ko.all {xs:List Operand} {vs:List Value} (h:Ko V xs vs):xs.map V.ev=vs.map some:=by
 induction h with
 | z=>rfl
 | s h _ ih=>simp only [List.map_cons,h,ih]
section
variable {P : Program} {d : Option Nat} {ty : TypeId} {pos : String} {af : Array Edge} {g : Option (Nat × Bool)} {f : FuncId} {xs : List Operand} {vs : List Value}
theorem y_mb (h:Ko V xs vs):OpY P ⟨d,.makeFunc (.func f) xs.toArray #[],ty,pos,af,g⟩ V H (.func (.func f) vs.toArray #[]):=zhP h.all
theorem y_mf (h:Ko V xs vs):OpY P ⟨d,.makeFunc (.func f) #[] xs.toArray,ty,pos,af,g⟩ V H (.func (.func f) #[] vs.toArray):=znC h.all
end
theorem px {p:Prop} (h:p:=by first | exact ⟨_,rfl,rfl,rfl⟩ | exact ⟨_,rfl,_,rfl,rfl⟩ | exact ⟨_,rfl,_,_,rfl,rfl⟩ | exact ⟨_,rfl,_,_,_,rfl,rfl⟩ | exact ⟨rfl,rfl⟩ | exact ⟨_,rfl,rfl⟩ | exact ⟨_,_,rfl,rfl⟩ | exact ⟨_,_,_,rfl,rfl⟩ | exact ⟨_,rfl,_,_,_,_,rfl,rfl⟩):p:=h
theorem fs {P:Program} {n:Nat} {w0:World} {o0:Own} {fn:Func} {R:Type} {a r:R} {post:Post} {pan:Value→Prop} (ts is:List Nat) (hr:fn.results=(ts.map ResultVar.tmp).toArray) (h:some a=some r) {vs:List Value} {G:List HA}
  (hv:Kv V ts vs:=by repeat (first | exact Kv.z | apply Kv.s rfl)) (hG:Hp H is G:=by repeat (first | exact Hp.z | apply Hp.s rfl)) (hn:is.Nodup:=by decide)
  (hp:a=r→post (tup vs) G:=by first | (rintro rfl; exact px) | (intro _; exact px)) :
  Fin (EnvP P n w0 o0 fn post pan) V H:=by
 exact zax ts vs is G hr hv.all hn hG.picks (hp (zU h))
theorem ft {P:Program} {n:Nat} {w0:World} {o0:Own} {fn:Func} {post:Post} {pan:Value→Prop} (ts is:List Nat) (hr:fn.results=(ts.map ResultVar.tmp).toArray) {vs:List Value} {G:List HA}
 (hv:Kv V ts vs:=by repeat (first | exact Kv.z | apply Kv.s rfl)) (hG:Hp H is G:=by repeat (first | exact Hp.z | apply Hp.s rfl)) (hn:is.Nodup:=by decide) (hp:post (tup vs) G:=by exact px):Fin (EnvP P n w0 o0 fn post pan) V H:=zax ts vs is G hr hv.all hn hG.picks hp
inductive Rz (P:Program) (V:VF) (H:List HA):List ResultVar→List Value→Prop
 | z:Rz P V H [] []
 | t {t:Nat} {v:Value} {rs:List ResultVar} {vs:List Value} (h:V t=some v) (r:Rz P V H rs vs):Rz P V H (.tmp t::rs) (v::vs)
 | b {c t b n m:Nat} {cs:List Value} {rs:List ResultVar} {vs:List Value} (h:V c=some (boxP b 0)) (ha:∀ w,(isAgg t).run P w = .ok true w) (hz:∀ w,(sizeOf t).run P w = .ok n w) (hm:At H m (box b cs)) (hn:cs.length=n) (r:Rz P V H rs vs):Rz P V H (.cell c t::rs) (.agg cs.toArray::vs)
 | s {c t b m:Nat} {u:Value} {rs:List ResultVar} {vs:List Value} (h:V c=some (boxP b 0)) (ha:∀ w,(isAgg t).run P w = .ok false w) (hm:At H m (box b [u])) (r:Rz P V H rs vs):Rz P V H (.cell c t::rs) (u::vs)
theorem Rz.all {P:Program} {rs:List ResultVar} {vs:List Value} (h:Rz P V H rs vs):rs.length=vs.length∧∀ (i:Nat) (r:ResultVar) (v:Value),rs[i]? = some r→vs[i]? = some v→ResIs P V H r v:=by
 induction h with
 | z=>exact ⟨rfl,resnil⟩
 | t h _ ih=>exact ⟨by simp [ih.1],rescons (zsd h) ih.2⟩
 | b h ha hz hm hn _ ih=>exact ⟨by simp [ih.1],rescons (z5H _ ha hz h hm.get hn) ih.2⟩
 | s h ha hm _ ih=>exact ⟨by simp [ih.1],rescons (z52 _ ha h hm.get) ih.2⟩
theorem fr {P:Program} {n:Nat} {w0:World} {o0:Own} {fn:Func} {R:Type} {a r:R} {post:Post} {pan:Value→Prop} {rs:List ResultVar} (is:List Nat) (hr:fn.results=rs.toArray) (h:some a=some r) {vs:List Value} {G:List HA}
  (hv:Rz P V H rs vs) (hG:Hp H is G) (hn:is.Nodup)
  (hp:a=r→post (tup vs) G) :
  Fin (EnvP P n w0 o0 fn post pan) V H:=by
 exact zoF rs vs is G hr hv.all.1 hv.all.2 hn hG.picks (hp (zU h))
theorem fq {P:Program} {n:Nat} {w0:World} {o0:Own} {fn:Func} {post:Post} {pan:Value→Prop} {rs:List ResultVar} (is:List Nat) (hr:fn.results=rs.toArray) {vs:List Value} {G:List HA} (hv:Rz P V H rs vs) (hG:Hp H is G) (hn:is.Nodup) (hp:post (tup vs) G):Fin (EnvP P n w0 o0 fn post pan) V H:=
 zoF rs vs is G hr hv.all.1 hv.all.2 hn hG.picks hp
theorem rc {α:Type} {c:Operand} {x y:Code} {b:Bool} {X Y:Option α} {r:α} (h:cond b X Y=some r) (ht:b=true→X=some r→Run E x k V H) (hf:b=false→Y=some r→Run E y k V H) (hc:V.ev c=some (.bool b):=by exact rfl):Run E (.cond c x y) k V H:=
 z8D b hc (fun hb=>ht hb (z2F h hb)) (fun hb=>hf hb (z2E h hb))
end Go.Abs
namespace Go.Abs
variable {E : Env} {k : List KI} {V : VF} {H : List HA} {ops : Array Oper}
def mx:List Nat→List HA→List HA→List HA
 | 0::p,K,n::N=>n::mx p K N
 | (_+1)::p,k::K,N=>k::mx p K N
 | _,_,_=>[]
inductive Hq (H:List HA):List Nat→List HA→Prop
 | z:Hq H [] []
 | n {p:List Nat} {K:List HA} (r:Hq H p K):Hq H (0::p) K
 | s {i:Nat} {h:HA} {p:List Nat} {K:List HA} (e:H[i]? = some h) (r:Hq H p K):Hq H ((i+1)::p) (h::K)
theorem kq {ts:List Nat} {l:List (Nat×Value)} (h:Kp V ts l:=by repeat (first | exact Kp.z | apply Kp.s rfl)):Kp V ts l:=h
theorem hq {p:List Nat} {K:List HA} (h:Hq H p K:=by repeat (first | exact Hq.z | apply Hq.n | apply Hq.s rfl)):Hq H p K:=h
theorem vq {l:List (Nat×Value)} (h:∀ x∈l,V x.1=some x.2:=by repeat (first | refine vcons rfl ?_ | exact vnil)):∀ x∈l,V x.1=some x.2:=h
abbrev V2:=Value×Value
abbrev V3:=Value×Value×Value
def tf (l:List Nat):Array Bool:=(go true l).toArray where
 go:Bool→List Nat→List Bool
 | _,[]=>[]
 | b,n::l=>List.replicate n b++go (!b) l
section
variable {x y c : Code} {S G R R' : Type} {l : List (Nat × Value)} {K : List HA} {r : List Oper}
theorem jr {X:Option (Lp S R)} {kk:S→Option R} {out:R} (h:bindJ X kk=some out) (ts p:List Nat) (VN:S→G→List (Nat×Value)) (HN:S→G→List HA)
  (h1:∀ o,X=some o→After o kk out→∀ L:Act→World→Prop,(∀ s g,o = .go s→∀ a w,Rel E (VF.of (VN s g++l)) (mx p K (HN s g)) a w→L a w)→Run E x (.loop L::k) V H)
  (h2:∀ s g,kk s=some out→Run E y k (VF.of (VN s g++l)) (mx p K (HN s g))) (hk:Kp V ts l:=by exact kq) (hp:Hq H p K:=by exact hq):Run E (.seq x y) k V H:=by
 obtain ⟨o,ho,ha⟩:=z8i h
 refine zdM (S×G) (fun σ=>VN σ.1 σ.2++l) (fun σ=>mx p K (HN σ.1 σ.2)) (fun σ=>o = .go σ.1) (fun L hL=>h1 o ho ha L fun s g hs=>hL (s,g) hs) ?_
 rintro ⟨s,g⟩ rfl
 exact h2 s g (zbB ha)
theorem lo {step:S→Option (Lp S R)} {n:Nat} {s0:S} {out:R} (h:iter step n s0=some out) (ts p:List Nat) (VN:S→G→List (Nat×Value)) (HN:S→G→List HA) (g0:G) (is:List Nat)
  (round:∀ s g o,step s=some o→∀ L:Act→World→Prop,(∀ s' g',o = .go s'→∀ a w,Rel E (VF.of (VN s' g'++l)) (mx p K (HN s' g')) a w→L a w)→(∀ r,o = .stop r→r=out)→Run E c (.loop L::k) (VF.of (VN s g++l)) (mx p K (HN s g)))
  (hk:Kp V ts l:=by exact kq) (hp:Hq H p K:=by exact hq) (hl:∀ x∈VN s0 g0++l,V x.1=some x.2:=by exact vq) (hn:is.Nodup:=by decide) (hG:Picks is H (mx p K (HN s0 g0)):=by exact rfl):Run E (.loop c) k V H:=
 zit h g0 (fun s g=>VN s g++l) (fun s g=>mx p K (HN s g)) is hl hn hG round
theorem gj {L:Act→World→Prop} {o:Lp S R} {VN:S→G→List (Nat×Value)} {HN:S→G→List HA} {p:List Nat} (hL:∀ s g,o = .go s→∀ a w,Rel E (VF.of (VN s g++l)) (mx p K (HN s g)) a w→L a w) (g:G) (is:List Nat) {s:S} (h:some (.go s)=some o)
  (hl:∀ x∈VN s g++l,V x.1=some x.2:=by exact vq) (hn:is.Nodup:=by decide) (hG:Picks is H (mx p K (HN s g)):=by exact rfl):Goes E (.loop L::k) V H:=
 fun a w q=>hL s g (Option.some.inj h).symm a w ((q.vle (VF.le_of _ hl)).pick hn hG)
theorem gk {L:Act→World→Prop} {o:Lp S R} {S' : Type} {o' : Lp S' (Lp S R)} {VN:S→G→List (Nat×Value)} {HN:S→G→List HA} {p:List Nat} (hL:∀ s g,o = .go s→∀ a w,Rel E (VF.of (VN s g++l)) (mx p K (HN s g)) a w→L a w) (hs:∀ r,o' = .stop r→r=o) (g:G) (is:List Nat) {s:S} (h:some (.stop (.go s))=some o')
  (hl:∀ x∈VN s g++l,V x.1=some x.2:=by exact vq) (hn:is.Nodup:=by decide) (hG:Picks is H (mx p K (HN s g)):=by exact rfl):Goes E (.loop L::k) V H:=
 fun a w q=>hL s g (hs _ (Option.some.inj h).symm).symm a w ((q.vle (VF.le_of _ hl)).pick hn hG)
theorem gb {L:Act→World→Prop} {o:Lp S R} {VN:S→List (Nat×Value)} {HN:S→List HA} {p:List Nat} (hL:∀ s,o = .go s→∀ a w,Rel E (VF.of (VN s++l)) (mx p K (HN s)) a w→L a w) (is:List Nat) {s:S} (h:some (.go s)=some o)
  (hl:∀ x∈VN s++l,V x.1=some x.2:=by exact vq) (hn:is.Nodup:=by decide) (hG:Picks is H (mx p K (HN s)):=by exact rfl):Goes E (.loop L::k) V H:=
 fun a w q=>hL s (Option.some.inj h).symm a w ((q.vle (VF.le_of _ hl)).pick hn hG)
theorem oe (m:Nat) (ts p:List Nat) (VN:S→List (Nat×Value)) (e:S) (h1:∀ L:Act→World→Prop,(∀ s,s=e→∀ a w,Rel E (VF.of (VN s++l)) (mx p K []) a w→L a w)→Ops E ops (r.take m) (.loop L::k) V H)
  (h2:Ops E ops (r.drop m) k (VF.of (VN e++l)) (mx p K [])) (hk:Kp V ts l:=by exact kq) (hp:Hq H p K:=by exact hq):Ops E ops r k V H:=
 zmK m S (fun s=>VN s++l) (fun _=>mx p K []) (fun s=>s=e) h1 (by rintro _ rfl; exact h2)
theorem ob {X:Option (Lp S R)} {kk:S→Option R} {out:R} (h:bindJ X kk=some out) (m:Nat) (ts p:List Nat) (VN:S→List (Nat×Value)) (HN:S→List HA)
  (h1:∀ o,X=some o→After o kk out→∀ L:Act→World→Prop,(∀ s,o = .go s→∀ a w,Rel E (VF.of (VN s++l)) (mx p K (HN s)) a w→L a w)→Ops E ops (r.take m) (.loop L::k) V H)
  (h2:∀ s,kk s=some out→Ops E ops (r.drop m) k (VF.of (VN s++l)) (mx p K (HN s))) (hk:Kp V ts l:=by exact kq) (hp:Hq H p K:=by exact hq):Ops E ops r k V H:=by
 obtain ⟨o,ho,ha⟩:=z8i h
 refine zmK m S (fun s=>VN s++l) (fun s=>mx p K (HN s)) (fun s=>o = .go s) (h1 o ho ha) ?_
 rintro s rfl
 exact h2 s (zbB ha)
theorem sbj {X:Option (Lp S R)} {kk:S→Option R} {out:R} (h:bindJ X kk=some out) (m:Nat) (ts p:List Nat) (VN:S→List (Nat×Value)) (HN:S→List HA)
  (h1:∀ o,X=some o→After o kk out→∀ L:Act→World→Prop,(∀ s,o = .go s→∀ a w,Rel E (VF.of (VN s++l)) (mx p K (HN s)) a w→L a w)→z4H E ops (r.take m) (.loop L::k) V H)
  (h2:∀ s,kk s=some out→z4H E ops (r.drop m) k (VF.of (VN s++l)) (mx p K (HN s))) (hk:Kp V ts l:=by exact kq) (hp:Hq H p K:=by exact hq):z4H E ops r k V H:=by
 obtain ⟨o,ho,ha⟩:=z8i h
 refine ziA m S (fun s=>VN s++l) (fun s=>mx p K (HN s)) (fun s=>o = .go s) (h1 o ho ha) ?_
 rintro s rfl
 exact h2 s (zbB ha)
theorem ae {fuel0:Nat} {listed0:Array Bool} {Hs:List HA} (bl:List Nat) (fuel:Nat) (ts p:List Nat) (VN:S→List (Nat×Value)) (e:S)
  (h1:(∀ s,s=e→AnyL E ops (tf bl) fuel k (VF.of (VN s++l)) (mx p K []) Hs)→AnyL E ops listed0 fuel0 k V H Hs) (h2:AnyL E ops (tf bl) fuel k (VF.of (VN e++l)) (mx p K []) Hs) (hk:Kp V ts l:=by exact kq) (hp:Hq H p K:=by exact hq):AnyL E ops listed0 fuel0 k V H Hs:=
 h1 (by rintro _ rfl; exact h2)
theorem ab {fuel0:Nat} {listed0:Array Bool} {Hs:List HA} {X:Option (Lp S R)} {kk:S→Option R} {out:R} (h:bindJ X kk=some out) (bl:List Nat) (fuel:Nat) (ts p:List Nat) (VN:S→List (Nat×Value)) (HN:S→List HA)
  (h1:∀ o,X=some o→After o kk out→(∀ s,o = .go s→AnyL E ops (tf bl) fuel k (VF.of (VN s++l)) (mx p K (HN s)) Hs)→AnyL E ops listed0 fuel0 k V H Hs) (h2:∀ s,kk s=some out→AnyL E ops (tf bl) fuel k (VF.of (VN s++l)) (mx p K (HN s)) Hs) (hk:Kp V ts l:=by exact kq) (hp:Hq H p K:=by exact hq):AnyL E ops listed0 fuel0 k V H Hs:=by
 obtain ⟨o,ho,ha⟩:=z8i h
 exact h1 o ho ha (by rintro s rfl; exact h2 s (zbB ha))
theorem a2 {fuel0:Nat} {listed0:Array Bool} {Hs:List HA} (bl:List Nat) (fuel:Nat) (ts p:List Nat) (VN:S→List (Nat×Value)) (HN:S→List HA)
 (h2:∀ s,AnyL E ops (tf bl) fuel k (VF.of (VN s++l)) (mx p K (HN s)) Hs) (h1:(∀ s,AnyL E ops (tf bl) fuel k (VF.of (VN s++l)) (mx p K (HN s)) Hs)→AnyL E ops listed0 fuel0 k V H Hs) (hk:Kp V ts l:=by exact kq) (hp:Hq H p K:=by exact hq):AnyL E ops listed0 fuel0 k V H Hs:=h1 h2
end
inductive Mk:List HA→List Nat→List HA→Prop
 | z {H:List HA}:Mk H [] []
 | k {h:HA} {H G:List HA} {b:List Nat} (r:Mk H b G):Mk (h::H) (1::b) (h::G)
 | e {h:HA} {H G:List HA} {b:List Nat} (r:Mk H b G):Mk (h::H) (0::b) (HA.emp::G)
theorem mk {b:List Nat} {G:List HA} (h:Mk H b G:=by repeat (first | exact Mk.z | apply Mk.k | apply Mk.e)):Mk H b G:=h
theorem su {H Hs:List HA} (h:Sub H Hs:=by repeat (first | with_reducible exact sn | with_reducible apply se | with_reducible apply ss | exact sn | apply se | apply ss)):Sub H Hs:=h
theorem ag {listed:Array Bool} {fuel:Nat} {Hs Hs' : List HA} (b:List Nat) (hk:AnyL E ops listed fuel k V H Hs') (hb:Mk H b Hs':=by exact mk) (hsub:Sub Hs' Hs:=by exact su):AnyL E ops listed fuel k V H Hs:=zpn Hs' hsub hk
theorem son {r:List Oper} {H' : List HA} (h:z4H E ops r k V H') (hN:Nm H H':=by repeat (first | exact Nm.z rfl | apply Nm.s rfl)):z4H E ops r k V H:=hN.eq ▸ h
inductive Nd:List HA→List HA→Prop
 | z {H:List HA} (e:H=[]):Nd H []
 | s {H T T' : List HA} {h h' : HA} (e:H=h::T) (e' : h=h') (r:Nd T T'):Nd H (h'::T')
theorem Nd.eq {H' : List HA} (h:Nd H H'):H=H':=by
 induction h with
 | z e=>exact e
 | s e e' _ ih=>rw [e,e',ih]
inductive Nv:List (Nat×Value)→List (Nat×Value)→Prop
 | z {H:List (Nat×Value)} (e:H=[]):Nv H []
 | s {H T T' : List (Nat×Value)} {t:Nat} {v v' : Value} (e:H=(t,v)::T) (e' : v=v') (r:Nv T T'):Nv H ((t,v')::T')
theorem Nv.eq {L L' : List (Nat×Value)} (h:Nv L L'):L=L':=by
 induction h with
 | z e=>exact e
 | s e e' _ ih=>rw [e,e',ih]
theorem nd {H' : List HA} (h:Nd H H':=by repeat (first | exact Nd.z rfl | apply Nd.s rfl (by first | (dsimp only; done) | (dsimp only; exact rfl) | exact rfl))):Nd H H':=h
theorem nv {L L' : List (Nat×Value)} (h:Nv L L':=by repeat (first | exact Nv.z rfl | apply Nv.s rfl (by first | (dsimp only; done) | (dsimp only; exact rfl) | exact rfl))):Nv L L':=h
section
variable {c : Code} {L L' : List (Nat × Value)} {H' : List HA} {r : List Oper} {listed : Array Bool} {fuel : Nat} {Hs : List HA}
theorem rs (h:Run E c k (VF.of L') H') (hV:Nv L L':=by exact nv) (hH:Nd H H':=by exact nd):Run E c k (VF.of L) H:=by rw [hV.eq,hH.eq]; exact h
theorem os (h:Ops E ops r k (VF.of L') H') (hV:Nv L L':=by exact nv) (hH:Nd H H':=by exact nd):Ops E ops r k (VF.of L) H:=by rw [hV.eq,hH.eq]; exact h
theorem gs (h:Goes E k (VF.of L') H') (hV:Nv L L':=by exact nv) (hH:Nd H H':=by exact nd):Goes E k (VF.of L) H:=by rw [hV.eq,hH.eq]; exact h
theorem ss' (h:z4H E ops r k (VF.of L') H') (hV:Nv L L':=by exact nv) (hH:Nd H H':=by exact nd):z4H E ops r k (VF.of L) H:=by rw [hV.eq,hH.eq]; exact h
theorem az (h:AnyL E ops listed fuel k (VF.of L') H' Hs) (hV:Nv L L':=by exact nv) (hH:Nd H H':=by exact nd):AnyL E ops listed fuel k (VF.of L) H Hs:=by rw [hV.eq,hH.eq]; exact h
end
structure AS (is:List Nat) (E:Env) (ops:Array Oper) (listed:Array Bool) (fuel:Nat) (k:List KI) (V:VF) (H Hs:List HA):Prop where
 out:AnyL E ops listed fuel k V H Hs
theorem asw {is:List Nat} {listed:Array Bool} {fuel:Nat} {Hs H' : List HA} (h:AS is E ops listed fuel k V H' Hs) (hN:Nm H H':=by repeat (first | exact Nm.z rfl | apply Nm.s rfl)):AS is E ops listed fuel k V H Hs:=hN.eq ▸ h
theorem asz {listed:Array Bool} {fuel:Nat} {Hs:List HA} (h:AnyL E ops listed fuel k V H Hs):AS [] E ops listed fuel k V H Hs:=⟨h⟩
theorem ast' {d:Option Nat} {ty:TypeId} {pos:String} {af:Array Edge} {g:Option (Nat×Bool)} {T:TypeId} {x y:Operand} {b off m:Nat} {u:Value} {cells vs vs' : List Value} {H' Hs:List HA} {listed:Array Bool} {fuel:Nat} (i:Nat) (hr:Region.ready .any ops listed=[i]) (hi:ops[i]? = some ⟨d,.store T x y,ty,pos,af,g⟩) (hk:AnyL E ops (listed.setIfInBounds i true) fuel k (V.put d undef) H' Hs)
  (hx:V.ev x=some (boxP b off)) (hy:V.ev y=some u) (hm:At H m (box b vs)) (hc:Cel H u cells) (hw:Wl vs off cells vs') (hS:St H m (box b vs') H') (h1:Ones H cells) (hz:∀ w,(sizeOf T).run E.P w = .ok cells.length w)
  (hwn:Wants E.n ops V ⟨d,.store T x y,ty,pos,af,g⟩) (hd:inB E.n d=true) (hsub:Sub H' Hs):AnyL E ops listed (fuel+1) k V H Hs:=
 zK [i] hr rfl (zk (any_t hi hwn hd (zmJ hx hy hm hc hw hS h1 hz) (by rintro _ _ ⟨rfl,rfl⟩; exact ⟨hsub,hk⟩)) zC)
def At1 (t:Nat) (P:Prop):Prop:=P
theorem sp1 {r:List Oper} {t:Nat} {b:Bool} (hv:V t=some (.bool b)) (ht:b=true→Ops E ops r k (V.set t (.bool true)) H) (hf:b=false→Ops E ops r k (V.set t (.bool false)) H):At1 t (Ops E ops r k V H):=z1c t b hv ht hf
theorem sp2 {r:List Oper} {t:Nat} {b:Bool} (hv:V t=some (.bool b)) (ht:b=true→z4H E ops r k (V.set t (.bool true)) H) (hf:b=false→z4H E ops r k (V.set t (.bool false)) H):At1 t (z4H E ops r k V H):=z86 t b hv ht hf
theorem gq {L:Act→World→Prop} {e:Bool} {d:Nat} {l:List (Nat×Value)} (hL:∀ s:Bool,s=e→∀ a w,Rel E (VF.of ((d,.bool s)::l)) H a w→L a w) {s:Bool} (hl:∀ x∈(d,Value.bool s)::l,V x.1=some x.2) (hi:s=e):Goes E (.loop L::k) V H:=
 fun a w q=>hL s hi a w (q.vle (VF.le_of _ hl))
theorem oq' {l:List (Nat×Value)} {K:List HA} {r:List Oper} {m d:Nat} {ts p:List Nat} {e:Bool} (h2:Ops E ops (r.drop m) k (VF.of ((d,.bool e)::l)) K) (hp:Hp H p K) (hn:p.Nodup)
  (h1:∀ L:Act→World→Prop,(∀ s:Bool,s=e→∀ a w,Rel E (VF.of ((d,.bool s)::l)) H a w→L a w)→Ops E ops (r.take m) (.loop L::k) V H):Ops E ops r k V H:=
 zmK m Bool (fun s=>(d,.bool s)::l) (fun _=>H) (fun s=>s=e) h1 (by rintro _ rfl; exact fun a w q=>h2 a w (q.pick hn hp.picks))
theorem sq' {l:List (Nat×Value)} {K:List HA} {r:List Oper} {m d:Nat} {ts p:List Nat} {e:Bool} (h2:z4H E ops (r.drop m) k (VF.of ((d,.bool e)::l)) K) (hp:Hp H p K) (hn:p.Nodup)
  (h1:∀ L:Act→World→Prop,(∀ s:Bool,s=e→∀ a w,Rel E (VF.of ((d,.bool s)::l)) H a w→L a w)→z4H E ops (r.take m) (.loop L::k) V H):z4H E ops r k V H:=
 ziA m Bool (fun s=>(d,.bool s)::l) (fun _=>H) (fun s=>s=e) h1 (by rintro _ rfl; exact fun a w q=>h2 a w (q.pick hn hp.picks))
inductive In:HA→List HA→Prop
 | z {h:HA} {l:List HA}:In h (h::l)
 | s {h g:HA} {l:List HA} (r:In h l):In h (g::l)
theorem In.mem {h:HA} {l:List HA} (r:In h l):h∈l:=by
 induction r with
 | z=>exact List.mem_cons_self ..
 | s _ ih=>exact List.mem_cons_of_mem _ ih
def Ml (l l' L:List HA):Prop:=∀ h∈l,h∈l'∨h∈L
theorem zu1 {l' L:List HA}:Ml [] l' L:=fun h hh=>by cases hh
theorem ml_l {g:HA} {l l' L:List HA} (h:In g l') (r:Ml l l' L):Ml (g::l) l' L:=fun x hx=>by
 rcases List.mem_cons.1 hx with rfl | hx
 ·exact .inl h.mem
 ·exact r x hx
theorem ml_r {g:HA} {l l' L:List HA} (h:In g L) (r:Ml l l' L):Ml (g::l) l' L:=fun x hx=>by
 rcases List.mem_cons.1 hx with rfl | hx
 ·exact .inr h.mem
 ·exact r x hx
theorem mlx {l l' L:List HA} (h:Ml l l' L:=by repeat (first | exact zu1 | apply ml_l (by (repeat (first | exact In.z | apply In.s)); (first | done | fail)) | apply ml_r (by (repeat (first | exact In.z | apply In.s)); (first | done | fail)))):∀ h∈l,h∈l'∨h∈L:=h
theorem tS {α:Type} {T:TC α} {a b:α} {x y:T.G} {L:List HA} (h:∀ h∈T.fixed b y++(T.kids b y).map (fun q=>nro q.1 T.nc q.2),h∈T.fixed a x++(T.kids a x).map (fun q=>nro q.1 T.nc q.2)∨h∈L):∀ h∈T.nc.S b y,h∈T.nc.S a x∨h∈L:=by
 rw [TC.S_eq,TC.S_eq]; exact h
end Go.Abs
namespace Go.Abs
variable {E : Env} {k : List KI} {V : VF} {H : List HA} {ops : Array Oper}
inductive Cs (V:VF):Oper→Option Nat→FuncId→List Value→Prop
 | k {d:Option Nat} {ty:TypeId} {pos:String} {af:Array Edge} {g:Option (Nat×Bool)} {fx:Operand} {f:FuncId} {xs:Array Operand} {Ts:Array TypeId} {bv cs az:List Value} (hfx:V.ev fx=some (.func (.func f) bv.toArray cs.toArray)) (hxs:xs.toList.map V.ev=((az.drop bv.length).take xs.size).map some) (he:(bv++(az.drop bv.length).take xs.size)++cs=az):Cs V ⟨d,.call ⟨.value fx,xs,Ts⟩,ty,pos,af,g⟩ d f az
theorem sx {sh:List (Nat×Nat)} {Hc:List HA} (h:z9S H sh Hc:=by
    repeat (first
      | with_reducible exact z3r
      | ((with_reducible apply z2f); · exact rfl)
      | ((with_reducible apply z3U); · exact rfl
         · first | with_reducible exact z6h | with_reducible exact zf5 | with_reducible exact z60 | exact z6h | exact z60 | exact ziH)
      | ((with_reducible apply z69); · exact rfl
         · first | with_reducible exact z6S | with_reducible exact zbA | with_reducible exact zbz z6h | with_reducible exact zbz z60 | exact z6S | exact zbA))):z9S H sh Hc:=h
def Sg (G:List HA):Prop:=∀ g∈G,g.Strict
theorem zue:Sg []:=fun g h=>by cases h
theorem zp4 {g:HA} {G:List HA} (h:g.Strict) (r:Sg G):Sg (g::G):=fun x hx=>by
 rcases List.mem_cons.1 hx with rfl | hx
 ·exact h
 ·exact r x hx
theorem sgx {G:List HA} (h:Sg G:=by repeat (first | exact zue | refine zp4 z5K ?_ | refine zp4 z5J ?_)):Sg G:=h
theorem wx {op:Oper} (h:Wants E.n ops V op:=by first | exact .inl rfl | exact .inr ⟨_,_,_,rfl,rfl,rfl,rfl⟩):Wants E.n ops V op:=h
section
variable {B0 B1 B2 B3 : Type} {op : Oper} {d : Option Nat} {f : FuncId} {az : List Value} {Hc : List HA} {rest : List Oper} {A R : Type} {r : R}
theorem Cs.t {post:Post} (c:Cs V op d f az) (sh:List (Nat×Nat)) (hcall:∀ args w,(callFunc f args).run E.P w = .ok (.enter f args) w) (hc:Meets E.P f az Hc post) (hsh:z9S H sh Hc) (hok:okX sh=true) (hst:(sh.all fun s=>s.2 != 1)=true∨∀ v G,post v G→∀ g∈G,g.Strict) :
  OpT E.P op V H (fun v' H'=>∃ G,post v' G∧H'=z28 sh H++G):=by
 cases c with
 | k hfx hxs he=>exact zkg sh hfx hcall hxs (by rw [he]; exact hc) hsh hok hst
theorem Cs.tp {post:Post} {pan:Value→Prop} (c:Cs V op d f az) (sh:List (Nat×Nat)) (hcall:∀ args w,(callFunc f args).run E.P w = .ok (.enter f args) w) (hc:z4t E.P f az Hc post pan) (hsh:z9S H sh Hc) (hok:okX sh=true) (hst:(sh.all fun s=>s.2 != 1)=true∨∀ v G,post v G→∀ g∈G,g.Strict) :
  OpTP E.P op V H (fun v' H'=>∃ G,post v' G∧H'=z28 sh H++G) pan (z28 sh H):=by
 cases c with
 | k hfx hxs he=>exact zkf sh hfx hcall hxs (by rw [he]; exact hc) hsh hok hst
theorem Cs.dst (c:Cs V op d f az):op.dst=d:=by cases c; rfl
structure Sd (E:Env) (V:VF) (H:List HA) (ops:Array Oper) (op:Oper) (d:Option Nat) (f:FuncId) (az:List Value) (Hc:List HA) (sh:List (Nat×Nat)):Prop where
 c:Cs V op d f az
 s:z9S H sh Hc
 ok:okX sh=true
 w:Wants E.n ops V op
 d:inB E.n d=true
theorem sd {sh:List (Nat×Nat)} (hci:Cs V op d f az:=by exact .k rfl rfl rfl) (hsh:z9S H sh Hc:=by exact sx) (hok:okX sh=true:=by exact rfl) (hw:Wants E.n ops V op:=by exact wx) (hd:inB E.n d=true:=by exact rfl):Sd E V H ops op d f az Hc sh:=⟨hci,hsh,hok,hw,hd⟩
theorem cl0 {x:Option A} {kk:A→Option R} (sh:List (Nat×Nat)) (hcall:∀ args w,(callFunc f args).run E.P w = .ok (.enter f args) w) {fv:A→Value} {fg:A→List HA} (hc:∀ {q:A},x=some q→Meets E.P f az Hc (fun v G=>v=fv q∧G=fg q)) (h:obind x kk=some r) (hk:∀ (q:A),kk q=some r→Ops E ops rest k (V.put d (fv q)) (z28 sh H++fg q)) (hS:Sd E V H ops op d f az Hc sh:=by exact sd) (hst:(sh.all fun s=>s.2 != 1)=true∨∀ (q:A),Sg (fg q):=by first | exact .inl rfl | (refine .inr ?_; intros; exact sgx)):Ops E ops (op::rest) k V H:=by
 obtain ⟨q,hq,hr⟩:=zJ h
 obtain ⟨hci,hsh,hok,hw,hd⟩:=hS; have e:=hci.dst; subst e
 refine ops_t hw hd (hci.t sh hcall (hc hq) hsh hok (hst.imp id fun h _ _ ⟨_,e⟩=>e ▸ h q)) ?_
 rintro _ _ ⟨_,⟨rfl,rfl⟩,rfl⟩
 exact hk q hr
theorem cp0 {x:Option (Pn A)} {kp:Int→Option R} {kk:A→Option R} {pv:Int→Value} (sh:List (Nat×Nat)) (hcall:∀ args w,(callFunc f args).run E.P w = .ok (.enter f args) w) {fv:A→Value} {fg:A→List HA} (hc:∀ {q:Pn A},x=some q→z4t E.P f az Hc (fun v G=>∃ q',q = .ret q'∧(v=fv q'∧G=fg q')) (fun v=>∃ e,q = .pan e∧v=pv e)) (h:obind x (fun q=>pbind q kp kk)=some r) (hk:∀ (q:A),kk q=some r→Ops E ops rest k (V.put d (fv q)) (z28 sh H++fg q)) (hp:∀ e,kp e=some r→FinP E V (z28 sh H) (pv e):=by intro e h; obtain rfl:=zU h; exact finP ⟨_,rfl,rfl⟩) (hS:Sd E V H ops op d f az Hc sh:=by exact sd) (hst:(sh.all fun s=>s.2 != 1)=true∨∀ (q:A),Sg (fg q):=by first | exact .inl rfl | (refine .inr ?_; intros; exact sgx)):Ops E ops (op::rest) k V H:=by
  obtain ⟨q,hq,hr⟩:=zJ h
  obtain ⟨hci,hsh,hok,hw,hd⟩:=hS; have e:=hci.dst; subst e
  have hc':=hc hq
  cases q with
  | ret q =>
    refine ops_t hw hd (hci.t sh hcall (z5a (post:=fun q v G=>v=fv q∧G=fg q) (X:=fun e v=>v=pv e) hc') hsh hok (hst.imp id fun h _ _ ⟨_,e⟩=>e ▸ h q)) ?_
    rintro _ _ ⟨_,⟨rfl,rfl⟩,rfl⟩
    exact hk q hr
  | pan e =>
    refine z6M hw hd (hci.tp sh hcall hc' hsh hok (hst.imp id fun h _ _ ⟨_,_,_,e⟩=>e ▸ h _)) ?_ ?_
    · rintro _ _ ⟨_,⟨_,hq,_⟩,_⟩; cases hq
    · rintro _ ⟨_,he,rfl⟩; cases he; exact hp _ hr
theorem al0 {x:Option A} {kk:A→Option R} {listed:Array Bool} {fuel:Nat} {Hs:List HA} (i:Nat) (sh:List (Nat×Nat)) (hcall:∀ args w,(callFunc f args).run E.P w = .ok (.enter f args) w) {fv:A→Value} {fg:A→List HA} (hc:∀ {q:A},x=some q→Meets E.P f az Hc (fun v G=>v=fv q∧G=fg q)) (h:obind x kk=some r) (hk:∀ (q:A),kk q=some r→AnyL E ops (listed.setIfInBounds i true) fuel k (V.put d (fv q)) (z28 sh H++fg q) Hs) (hr:Region.ready .any ops listed=[i]:=by kernel_rfl) (hi:ops[i]? = some op:=by exact rfl) (hS:Sd E V H ops op d f az Hc sh:=by exact sd) (hst:(sh.all fun s=>s.2 != 1)=true∨∀ (q:A),Sg (fg q):=by first | exact .inl rfl | (refine .inr ?_; intros; exact sgx)) (hsub:∀ (q:A),Sub (z28 sh H++fg q) Hs:=by intros; exact su):AnyL E ops listed (fuel+1) k V H Hs:=by
 obtain ⟨q,hq,hr'⟩:=zJ h
 obtain ⟨hci,hsh,hok,hw,hd⟩:=hS; have e:=hci.dst; subst e
 refine zK [i] hr rfl (zk ?_ zC)
 refine any_t hi hw hd (hci.t sh hcall (hc hq) hsh hok (hst.imp id fun h _ _ ⟨_,e⟩=>e ▸ h q)) ?_
 rintro _ _ ⟨_,⟨rfl,rfl⟩,rfl⟩
 exact ⟨hsub q,hk q hr'⟩
theorem ap0 {x:Option (Pn A)} {kp:Int→Option R} {kk:A→Option R} {pv:Int→Value} {listed:Array Bool} {fuel:Nat} {Hs:List HA} (i:Nat) (sh:List (Nat×Nat)) (hcall:∀ args w,(callFunc f args).run E.P w = .ok (.enter f args) w) {fv:A→Value} {fg:A→List HA} (hc:∀ {q:Pn A},x=some q→z4t E.P f az Hc (fun v G=>∃ q',q = .ret q'∧(v=fv q'∧G=fg q')) (fun v=>∃ e,q = .pan e∧v=pv e)) (h:obind x (fun q=>pbind q kp kk)=some r) (hk:∀ (q:A),kk q=some r→AnyL E ops (listed.setIfInBounds i true) fuel k (V.put d (fv q)) (z28 sh H++fg q) Hs) (hp:∀ e,kp e=some r→FinP E V (z28 sh H) (pv e):=by intro e h; obtain rfl:=zU h; exact finP ⟨_,rfl,rfl⟩) (hr:Region.ready .any ops listed=[i]:=by kernel_rfl) (hi:ops[i]? = some op:=by exact rfl) (hS:Sd E V H ops op d f az Hc sh:=by exact sd) (hst:(sh.all fun s=>s.2 != 1)=true∨∀ (q:A),Sg (fg q):=by first | exact .inl rfl | (refine .inr ?_; intros; exact sgx)) (hsub:∀ (q:A),Sub (z28 sh H++fg q) Hs:=by intros; exact su):AnyL E ops listed (fuel+1) k V H Hs:=by
  obtain ⟨q,hq,hr'⟩:=zJ h
  obtain ⟨hci,hsh,hok,hw,hd⟩:=hS; have e:=hci.dst; subst e
  have hc':=hc hq
  refine zK [i] hr rfl (zk ?_ zC)
  cases q with
  | ret q =>
    refine any_t hi hw hd (hci.t sh hcall (z5a (post:=fun q v G=>v=fv q∧G=fg q) (X:=fun e v=>v=pv e) hc') hsh hok (hst.imp id fun h _ _ ⟨_,e⟩=>e ▸ h q)) ?_
    rintro _ _ ⟨_,⟨rfl,rfl⟩,rfl⟩
    exact ⟨hsub q,hk q hr'⟩
  | pan e =>
    refine zfL hi hw hd (hci.tp sh hcall hc' hsh hok (hst.imp id fun h _ _ ⟨_,_,_,e⟩=>e ▸ h _)) ?_ ?_
    · rintro _ _ ⟨_,⟨_,hq,_⟩,_⟩; cases hq
    · rintro _ ⟨_,he,rfl⟩; cases he; exact hp _ hr' 
theorem cl1 {x:Option A} {kk:A→Option R} (sh:List (Nat×Nat)) (hcall:∀ args w,(callFunc f args).run E.P w = .ok (.enter f args) w) {fv:A→B0→Value} {fg:A→B0→List HA} (hc:∀ {q:A},x=some q→Meets E.P f az Hc (fun v G=>∃ v0,v=fv q v0∧G=fg q v0)) (h:obind x kk=some r) (hk:∀ (q:A) (v0:B0),kk q=some r→Ops E ops rest k (V.put d (fv q v0)) (z28 sh H++fg q v0)) (hS:Sd E V H ops op d f az Hc sh:=by exact sd) (hst:(sh.all fun s=>s.2 != 1)=true∨∀ (q:A) (v0:B0),Sg (fg q v0):=by first | exact .inl rfl | (refine .inr ?_; intros; exact sgx)):Ops E ops (op::rest) k V H:=by
 obtain ⟨q,hq,hr⟩:=zJ h
 obtain ⟨hci,hsh,hok,hw,hd⟩:=hS; have e:=hci.dst; subst e
 refine ops_t hw hd (hci.t sh hcall (hc hq) hsh hok (hst.imp id fun h _ _ ⟨v0,_,e⟩=>e ▸ h q v0)) ?_
 rintro _ _ ⟨_,⟨v0,rfl,rfl⟩,rfl⟩
 exact hk q v0 hr
theorem cp1 {x:Option (Pn A)} {kp:Int→Option R} {kk:A→Option R} {pv:Int→Value} (sh:List (Nat×Nat)) (hcall:∀ args w,(callFunc f args).run E.P w = .ok (.enter f args) w) {fv:A→B0→Value} {fg:A→B0→List HA} (hc:∀ {q:Pn A},x=some q→z4t E.P f az Hc (fun v G=>∃ q',q = .ret q'∧(∃ v0,v=fv q' v0∧G=fg q' v0)) (fun v=>∃ e,q = .pan e∧v=pv e)) (h:obind x (fun q=>pbind q kp kk)=some r) (hk:∀ (q:A) (v0:B0),kk q=some r→Ops E ops rest k (V.put d (fv q v0)) (z28 sh H++fg q v0)) (hp:∀ e,kp e=some r→FinP E V (z28 sh H) (pv e):=by intro e h; obtain rfl:=zU h; exact finP ⟨_,rfl,rfl⟩) (hS:Sd E V H ops op d f az Hc sh:=by exact sd) (hst:(sh.all fun s=>s.2 != 1)=true∨∀ (q:A) (v0:B0),Sg (fg q v0):=by first | exact .inl rfl | (refine .inr ?_; intros; exact sgx)):Ops E ops (op::rest) k V H:=by
  obtain ⟨q,hq,hr⟩:=zJ h
  obtain ⟨hci,hsh,hok,hw,hd⟩:=hS; have e:=hci.dst; subst e
  have hc':=hc hq
  cases q with
  | ret q =>
    refine ops_t hw hd (hci.t sh hcall (z5a (post:=fun q v G=>∃ v0,v=fv q v0∧G=fg q v0) (X:=fun e v=>v=pv e) hc') hsh hok (hst.imp id fun h _ _ ⟨v0,_,e⟩=>e ▸ h q v0)) ?_
    rintro _ _ ⟨_,⟨v0,rfl,rfl⟩,rfl⟩
    exact hk q v0 hr
  | pan e =>
    refine z6M hw hd (hci.tp sh hcall hc' hsh hok (hst.imp id fun h _ _ ⟨_,_,v0,_,e⟩=>e ▸ h _ v0)) ?_ ?_
    · rintro _ _ ⟨_,⟨_,hq,_⟩,_⟩; cases hq
    · rintro _ ⟨_,he,rfl⟩; cases he; exact hp _ hr
theorem al1 {x:Option A} {kk:A→Option R} {listed:Array Bool} {fuel:Nat} {Hs:List HA} (i:Nat) (sh:List (Nat×Nat)) (hcall:∀ args w,(callFunc f args).run E.P w = .ok (.enter f args) w) {fv:A→B0→Value} {fg:A→B0→List HA} (hc:∀ {q:A},x=some q→Meets E.P f az Hc (fun v G=>∃ v0,v=fv q v0∧G=fg q v0)) (h:obind x kk=some r) (hk:∀ (q:A) (v0:B0),kk q=some r→AnyL E ops (listed.setIfInBounds i true) fuel k (V.put d (fv q v0)) (z28 sh H++fg q v0) Hs) (hr:Region.ready .any ops listed=[i]:=by kernel_rfl) (hi:ops[i]? = some op:=by exact rfl) (hS:Sd E V H ops op d f az Hc sh:=by exact sd) (hst:(sh.all fun s=>s.2 != 1)=true∨∀ (q:A) (v0:B0),Sg (fg q v0):=by first | exact .inl rfl | (refine .inr ?_; intros; exact sgx)) (hsub:∀ (q:A) (v0:B0),Sub (z28 sh H++fg q v0) Hs:=by intros; exact su):AnyL E ops listed (fuel+1) k V H Hs:=by
 obtain ⟨q,hq,hr'⟩:=zJ h
 obtain ⟨hci,hsh,hok,hw,hd⟩:=hS; have e:=hci.dst; subst e
 refine zK [i] hr rfl (zk ?_ zC)
 refine any_t hi hw hd (hci.t sh hcall (hc hq) hsh hok (hst.imp id fun h _ _ ⟨v0,_,e⟩=>e ▸ h q v0)) ?_
 rintro _ _ ⟨_,⟨v0,rfl,rfl⟩,rfl⟩
 exact ⟨hsub q v0,hk q v0 hr'⟩
theorem cl2 {x:Option A} {kk:A→Option R} (sh:List (Nat×Nat)) (hcall:∀ args w,(callFunc f args).run E.P w = .ok (.enter f args) w) {fv:A→B0→B1→Value} {fg:A→B0→B1→List HA} (hc:∀ {q:A},x=some q→Meets E.P f az Hc (fun v G=>∃ v0 v1,v=fv q v0 v1∧G=fg q v0 v1)) (h:obind x kk=some r) (hk:∀ (q:A) (v0:B0) (v1:B1),kk q=some r→Ops E ops rest k (V.put d (fv q v0 v1)) (z28 sh H++fg q v0 v1)) (hS:Sd E V H ops op d f az Hc sh:=by exact sd) (hst:(sh.all fun s=>s.2 != 1)=true∨∀ (q:A) (v0:B0) (v1:B1),Sg (fg q v0 v1):=by first | exact .inl rfl | (refine .inr ?_; intros; exact sgx)):Ops E ops (op::rest) k V H:=by
 obtain ⟨q,hq,hr⟩:=zJ h
 obtain ⟨hci,hsh,hok,hw,hd⟩:=hS; have e:=hci.dst; subst e
 refine ops_t hw hd (hci.t sh hcall (hc hq) hsh hok (hst.imp id fun h _ _ ⟨v0,v1,_,e⟩=>e ▸ h q v0 v1)) ?_
 rintro _ _ ⟨_,⟨v0,v1,rfl,rfl⟩,rfl⟩
 exact hk q v0 v1 hr
theorem cp2 {x:Option (Pn A)} {kp:Int→Option R} {kk:A→Option R} {pv:Int→Value} (sh:List (Nat×Nat)) (hcall:∀ args w,(callFunc f args).run E.P w = .ok (.enter f args) w) {fv:A→B0→B1→Value} {fg:A→B0→B1→List HA} (hc:∀ {q:Pn A},x=some q→z4t E.P f az Hc (fun v G=>∃ q',q = .ret q'∧(∃ v0 v1,v=fv q' v0 v1∧G=fg q' v0 v1)) (fun v=>∃ e,q = .pan e∧v=pv e)) (h:obind x (fun q=>pbind q kp kk)=some r) (hk:∀ (q:A) (v0:B0) (v1:B1),kk q=some r→Ops E ops rest k (V.put d (fv q v0 v1)) (z28 sh H++fg q v0 v1)) (hp:∀ e,kp e=some r→FinP E V (z28 sh H) (pv e):=by intro e h; obtain rfl:=zU h; exact finP ⟨_,rfl,rfl⟩) (hS:Sd E V H ops op d f az Hc sh:=by exact sd) (hst:(sh.all fun s=>s.2 != 1)=true∨∀ (q:A) (v0:B0) (v1:B1),Sg (fg q v0 v1):=by first | exact .inl rfl | (refine .inr ?_; intros; exact sgx)):Ops E ops (op::rest) k V H:=by
  obtain ⟨q,hq,hr⟩:=zJ h
  obtain ⟨hci,hsh,hok,hw,hd⟩:=hS; have e:=hci.dst; subst e
  have hc':=hc hq
  cases q with
  | ret q =>
    refine ops_t hw hd (hci.t sh hcall (z5a (post:=fun q v G=>∃ v0 v1,v=fv q v0 v1∧G=fg q v0 v1) (X:=fun e v=>v=pv e) hc') hsh hok (hst.imp id fun h _ _ ⟨v0,v1,_,e⟩=>e ▸ h q v0 v1)) ?_
    rintro _ _ ⟨_,⟨v0,v1,rfl,rfl⟩,rfl⟩
    exact hk q v0 v1 hr
  | pan e =>
    refine z6M hw hd (hci.tp sh hcall hc' hsh hok (hst.imp id fun h _ _ ⟨_,_,v0,v1,_,e⟩=>e ▸ h _ v0 v1)) ?_ ?_
    · rintro _ _ ⟨_,⟨_,hq,_⟩,_⟩; cases hq
    · rintro _ ⟨_,he,rfl⟩; cases he; exact hp _ hr
theorem al2 {x:Option A} {kk:A→Option R} {listed:Array Bool} {fuel:Nat} {Hs:List HA} (i:Nat) (sh:List (Nat×Nat)) (hcall:∀ args w,(callFunc f args).run E.P w = .ok (.enter f args) w) {fv:A→B0→B1→Value} {fg:A→B0→B1→List HA} (hc:∀ {q:A},x=some q→Meets E.P f az Hc (fun v G=>∃ v0 v1,v=fv q v0 v1∧G=fg q v0 v1)) (h:obind x kk=some r) (hk:∀ (q:A) (v0:B0) (v1:B1),kk q=some r→AnyL E ops (listed.setIfInBounds i true) fuel k (V.put d (fv q v0 v1)) (z28 sh H++fg q v0 v1) Hs) (hr:Region.ready .any ops listed=[i]:=by kernel_rfl) (hi:ops[i]? = some op:=by exact rfl) (hS:Sd E V H ops op d f az Hc sh:=by exact sd) (hst:(sh.all fun s=>s.2 != 1)=true∨∀ (q:A) (v0:B0) (v1:B1),Sg (fg q v0 v1):=by first | exact .inl rfl | (refine .inr ?_; intros; exact sgx)) (hsub:∀ (q:A) (v0:B0) (v1:B1),Sub (z28 sh H++fg q v0 v1) Hs:=by intros; exact su):AnyL E ops listed (fuel+1) k V H Hs:=by
 obtain ⟨q,hq,hr'⟩:=zJ h
 obtain ⟨hci,hsh,hok,hw,hd⟩:=hS; have e:=hci.dst; subst e
 refine zK [i] hr rfl (zk ?_ zC)
 refine any_t hi hw hd (hci.t sh hcall (hc hq) hsh hok (hst.imp id fun h _ _ ⟨v0,v1,_,e⟩=>e ▸ h q v0 v1)) ?_
 rintro _ _ ⟨_,⟨v0,v1,rfl,rfl⟩,rfl⟩
 exact ⟨hsub q v0 v1,hk q v0 v1 hr'⟩
theorem ap2 {x:Option (Pn A)} {kp:Int→Option R} {kk:A→Option R} {pv:Int→Value} {listed:Array Bool} {fuel:Nat} {Hs:List HA} (i:Nat) (sh:List (Nat×Nat)) (hcall:∀ args w,(callFunc f args).run E.P w = .ok (.enter f args) w) {fv:A→B0→B1→Value} {fg:A→B0→B1→List HA} (hc:∀ {q:Pn A},x=some q→z4t E.P f az Hc (fun v G=>∃ q',q = .ret q'∧(∃ v0 v1,v=fv q' v0 v1∧G=fg q' v0 v1)) (fun v=>∃ e,q = .pan e∧v=pv e)) (h:obind x (fun q=>pbind q kp kk)=some r) (hk:∀ (q:A) (v0:B0) (v1:B1),kk q=some r→AnyL E ops (listed.setIfInBounds i true) fuel k (V.put d (fv q v0 v1)) (z28 sh H++fg q v0 v1) Hs) (hp:∀ e,kp e=some r→FinP E V (z28 sh H) (pv e):=by intro e h; obtain rfl:=zU h; exact finP ⟨_,rfl,rfl⟩) (hr:Region.ready .any ops listed=[i]:=by kernel_rfl) (hi:ops[i]? = some op:=by exact rfl) (hS:Sd E V H ops op d f az Hc sh:=by exact sd) (hst:(sh.all fun s=>s.2 != 1)=true∨∀ (q:A) (v0:B0) (v1:B1),Sg (fg q v0 v1):=by first | exact .inl rfl | (refine .inr ?_; intros; exact sgx)) (hsub:∀ (q:A) (v0:B0) (v1:B1),Sub (z28 sh H++fg q v0 v1) Hs:=by intros; exact su):AnyL E ops listed (fuel+1) k V H Hs:=by
  obtain ⟨q,hq,hr'⟩:=zJ h
  obtain ⟨hci,hsh,hok,hw,hd⟩:=hS; have e:=hci.dst; subst e
  have hc':=hc hq
  refine zK [i] hr rfl (zk ?_ zC)
  cases q with
  | ret q =>
    refine any_t hi hw hd (hci.t sh hcall (z5a (post:=fun q v G=>∃ v0 v1,v=fv q v0 v1∧G=fg q v0 v1) (X:=fun e v=>v=pv e) hc') hsh hok (hst.imp id fun h _ _ ⟨v0,v1,_,e⟩=>e ▸ h q v0 v1)) ?_
    rintro _ _ ⟨_,⟨v0,v1,rfl,rfl⟩,rfl⟩
    exact ⟨hsub q v0 v1,hk q v0 v1 hr'⟩
  | pan e =>
    refine zfL hi hw hd (hci.tp sh hcall hc' hsh hok (hst.imp id fun h _ _ ⟨_,_,v0,v1,_,e⟩=>e ▸ h _ v0 v1)) ?_ ?_
    · rintro _ _ ⟨_,⟨_,hq,_⟩,_⟩; cases hq
    · rintro _ ⟨_,he,rfl⟩; cases he; exact hp _ hr' 
theorem cp3 {x:Option (Pn A)} {kp:Int→Option R} {kk:A→Option R} {pv:Int→Value} (sh:List (Nat×Nat)) (hcall:∀ args w,(callFunc f args).run E.P w = .ok (.enter f args) w) {fv:A→B0→B1→B2→Value} {fg:A→B0→B1→B2→List HA} (hc:∀ {q:Pn A},x=some q→z4t E.P f az Hc (fun v G=>∃ q',q = .ret q'∧(∃ v0 v1 v2,v=fv q' v0 v1 v2∧G=fg q' v0 v1 v2)) (fun v=>∃ e,q = .pan e∧v=pv e)) (h:obind x (fun q=>pbind q kp kk)=some r) (hk:∀ (q:A) (v0:B0) (v1:B1) (v2:B2),kk q=some r→Ops E ops rest k (V.put d (fv q v0 v1 v2)) (z28 sh H++fg q v0 v1 v2)) (hp:∀ e,kp e=some r→FinP E V (z28 sh H) (pv e):=by intro e h; obtain rfl:=zU h; exact finP ⟨_,rfl,rfl⟩) (hS:Sd E V H ops op d f az Hc sh:=by exact sd) (hst:(sh.all fun s=>s.2 != 1)=true∨∀ (q:A) (v0:B0) (v1:B1) (v2:B2),Sg (fg q v0 v1 v2):=by first | exact .inl rfl | (refine .inr ?_; intros; exact sgx)):Ops E ops (op::rest) k V H:=by
  obtain ⟨q,hq,hr⟩:=zJ h
  obtain ⟨hci,hsh,hok,hw,hd⟩:=hS; have e:=hci.dst; subst e
  have hc':=hc hq
  cases q with
  | ret q =>
    refine ops_t hw hd (hci.t sh hcall (z5a (post:=fun q v G=>∃ v0 v1 v2,v=fv q v0 v1 v2∧G=fg q v0 v1 v2) (X:=fun e v=>v=pv e) hc') hsh hok (hst.imp id fun h _ _ ⟨v0,v1,v2,_,e⟩=>e ▸ h q v0 v1 v2)) ?_
    rintro _ _ ⟨_,⟨v0,v1,v2,rfl,rfl⟩,rfl⟩
    exact hk q v0 v1 v2 hr
  | pan e =>
    refine z6M hw hd (hci.tp sh hcall hc' hsh hok (hst.imp id fun h _ _ ⟨_,_,v0,v1,v2,_,e⟩=>e ▸ h _ v0 v1 v2)) ?_ ?_
    · rintro _ _ ⟨_,⟨_,hq,_⟩,_⟩; cases hq
    · rintro _ ⟨_,he,rfl⟩; cases he; exact hp _ hr
theorem cp4 {x:Option (Pn A)} {kp:Int→Option R} {kk:A→Option R} {pv:Int→Value} (sh:List (Nat×Nat)) (hcall:∀ args w,(callFunc f args).run E.P w = .ok (.enter f args) w) {fv:A→B0→B1→B2→B3→Value} {fg:A→B0→B1→B2→B3→List HA} (hc:∀ {q:Pn A},x=some q→z4t E.P f az Hc (fun v G=>∃ q',q = .ret q'∧(∃ v0 v1 v2 v3,v=fv q' v0 v1 v2 v3∧G=fg q' v0 v1 v2 v3)) (fun v=>∃ e,q = .pan e∧v=pv e)) (h:obind x (fun q=>pbind q kp kk)=some r) (hk:∀ (q:A) (v0:B0) (v1:B1) (v2:B2) (v3:B3),kk q=some r→Ops E ops rest k (V.put d (fv q v0 v1 v2 v3)) (z28 sh H++fg q v0 v1 v2 v3)) (hp:∀ e,kp e=some r→FinP E V (z28 sh H) (pv e):=by intro e h; obtain rfl:=zU h; exact finP ⟨_,rfl,rfl⟩) (hS:Sd E V H ops op d f az Hc sh:=by exact sd) (hst:(sh.all fun s=>s.2 != 1)=true∨∀ (q:A) (v0:B0) (v1:B1) (v2:B2) (v3:B3),Sg (fg q v0 v1 v2 v3):=by first | exact .inl rfl | (refine .inr ?_; intros; exact sgx)):Ops E ops (op::rest) k V H:=by
  obtain ⟨q,hq,hr⟩:=zJ h
  obtain ⟨hci,hsh,hok,hw,hd⟩:=hS; have e:=hci.dst; subst e
  have hc':=hc hq
  cases q with
  | ret q =>
    refine ops_t hw hd (hci.t sh hcall (z5a (post:=fun q v G=>∃ v0 v1 v2 v3,v=fv q v0 v1 v2 v3∧G=fg q v0 v1 v2 v3) (X:=fun e v=>v=pv e) hc') hsh hok (hst.imp id fun h _ _ ⟨v0,v1,v2,v3,_,e⟩=>e ▸ h q v0 v1 v2 v3)) ?_
    rintro _ _ ⟨_,⟨v0,v1,v2,v3,rfl,rfl⟩,rfl⟩
    exact hk q v0 v1 v2 v3 hr
  | pan e =>
    refine z6M hw hd (hci.tp sh hcall hc' hsh hok (hst.imp id fun h _ _ ⟨_,_,v0,v1,v2,v3,_,e⟩=>e ▸ h _ v0 v1 v2 v3)) ?_ ?_
    · rintro _ _ ⟨_,⟨_,hq,_⟩,_⟩; cases hq
    · rintro _ ⟨_,he,rfl⟩; cases he; exact hp _ hr
end
end Go.Abs
namespace Go.Abs
variable {E : Env} {k : List KI} {V : VF} {H : List HA}
def edge (o:Oper) (i:Nat):Bool:=o.after.any fun e=>Region.binds .any e && e.on == i
def keepA (ops:Array Oper) (p q:Oper×Nat):Bool:=Nat.beq p.2 q.2 || (match q.1.dst with | some d=>!(p.1.looksAt ops).contains d && !(match p.1.dst with | some c=>Nat.beq c d | none=>false) | none=>true) || edge p.1 q.2 || edge q.1 p.2
def Sf (l:List Oper):Bool:=Region.noSelect l.toArray && l.zipIdx.all fun p=>l.zipIdx.all fun q=>keepA l.toArray p q
def rdy (listed:Array Bool) (o:Oper) (i:Nat):Bool:=!listed.getD i true && o.after.all fun e=>!Region.binds .any e || listed.getD e.on false
theorem Sf.sel {l:List Oper} (h:Sf l=true):Region.noSelect l.toArray=true:=by simp only [Sf,Bool.and_eq_true] at h; exact h.1
theorem Sf.keep {l:List Oper} (h:Sf l=true) {i j:Nat} {oi oj:Oper} (hi:l[i]? = some oi) (hj:l[j]? = some oj):keepA l.toArray (oi,i) (oj,j)=true:=by
 simp only [Sf,Bool.and_eq_true,List.all_eq_true] at h
 have hm:∀ {n:Nat} {o:Oper},l[n]? = some o→(o,n)∈l.zipIdx:=by
  intro n o hn
  rw [List.mem_zipIdx_iff_getElem?]
  exact hn
 exact h.2 _ (hm hi) _ (hm hj)
theorem zm0 {o:Oper} {i:Nat} (h:edge o i=true):∃ e∈o.after,Region.binds .any e=true∧e.on=i:=by
 simp only [edge] at h
 obtain ⟨e,he,hb⟩:=Array.any_eq_true'.1 h
 simp only [Bool.and_eq_true,beq_iff_eq] at hb
 exact ⟨e,he,hb.1,hb.2⟩
theorem Sf.apart {l:List Oper} (h:Sf l=true) {listed:Array Bool} {i j:Nat} {oi oj:Oper} (hi:l[i]? = some oi) (hj:l[j]? = some oj) (hr:rdy listed oi i=true) (hne:j≠i) (hun:listed.getD j true=false)
    (hno:∀ e∈oj.after,Region.binds .any e=true→e.on≠i):oi.apart l.toArray oj=true:=by
  have e1:edge oj i=false:=by
    cases he:edge oj i with
    | false=>rfl
    | true=>obtain ⟨e,h1,h2,h3⟩:=zm0 he; exact absurd h3 (hno e h1 h2)
  have e2:edge oi j=false:=by
    cases he:edge oi j with
    | false=>rfl
    | true =>
      obtain ⟨e,h1,h2,h3⟩:=zm0 he
      simp only [rdy,Bool.and_eq_true,Array.all_eq_true_iff_forall_mem] at hr
      have:=hr.2 e h1
      simp only [h2,Bool.not_true,Bool.false_or,h3] at this
      exfalso
      rcases Nat.lt_or_ge j listed.size with hl | hl
      · simp [Array.getD,hl] at this hun; rw [this] at hun; cases hun
      · simp [Array.getD,Nat.not_lt.2 hl] at this
  have n1:Nat.beq i j=false:=by cases hb:Nat.beq i j with
    | false=>rfl
    | true=>exact absurd (Nat.eq_of_beq_eq_true hb).symm hne
  have n2:Nat.beq j i=false:=by cases hb:Nat.beq j i with
    | false=>rfl
    | true=>exact absurd (Nat.eq_of_beq_eq_true hb) hne
  have k1:=Sf.keep h hi hj
  have k2:=Sf.keep h hj hi
  simp only [keepA,n1,n2,e1,e2,Bool.false_or,Bool.or_false] at k1 k2
  simp only [Oper.apart,Bool.and_eq_true]
  constructor
  · cases hd:oi.dst with
    | none=>rfl
    | some d =>
      rw [hd] at k2
      simp only [Bool.and_eq_true] at k2 ⊢
      refine ⟨k2.1,?_⟩
      cases hc:oj.dst with
      | none=>rfl
      | some c =>
        rw [hc] at k2
        simp only [Bool.not_eq_true'] at k2
        simp only [bne_iff_ne,ne_eq,Option.some.injEq]
        rintro rfl
        simp at k2
  · cases hd:oj.dst with
    | none=>rfl
    | some d =>
      rw [hd] at k1
      simp only [Bool.and_eq_true] at k1 ⊢
      exact k1.1
theorem zkQ {l:List Oper} {listed:Array Bool} {i:Nat} {oi:Oper} (hi:l[i]? = some oi) (hr:rdy listed oi i=true):i∈Region.ready .any l.toArray listed:=by
 rw [mem_ready]
 simp only [rdy,Bool.and_eq_true,Bool.not_eq_true',Array.all_eq_true_iff_forall_mem] at hr
 refine ⟨hr.1,oi,by simpa using hi,fun e he hb=>?_⟩
 have:=hr.2 e he
 simpa [hb] using this
theorem Nth.at {l:List Oper} {n:Nat} {o:Oper} (h:Nth l n o):l[n]? = some o:=by simpa using h.get
section
variable {l : List Oper} {op : Oper} {listed : Array Bool} {fuel : Nat} {Hs : List HA}
theorem ztB {v:Value} (i:Nat) (hS:Sf l=true) (hi:l[i]? = some op) (hr:rdy listed op i=true) (hsub:Sub H Hs) (hw:Wants E.n l.toArray V op) (hd:inB E.n op.dst=true) (h:OpY E.P op V Hs v)
  (hk:AnyL E l.toArray (listed.setIfInBounds i true) fuel k (V.put op.dst v) H Hs) (hbl:E.blind=true:=by exact rfl):AnyL E l.toArray listed (fuel+1) k V H Hs:=by
 intro a w r
 have hSH:SH E Hs w:=by
  obtain ⟨_,_,_,o,hb,ht,hst⟩:=r
  exact ⟨o,hb,ht.tr,hsub.sats hst⟩
 refine zea (by simpa using hi) (Region.noSelect_spec (Sf.sel hS)) (fun c a w hq=>z9I hbl k c a w hq) _ _ _ _ ?_ (zkQ hi hr) (.inl ⟨hw.wanted r,fun w' ⟨o,hb,ht,hst⟩=>h a.eval w' o r.fits hb hst⟩) hSH ?_
 ·intro j oj hj hne hun hno
  exact Sf.apart hS hi (by simpa using hj) hr hne hun hno
 obtain ⟨h1,h2,h3,o,hb,ht,hst⟩:=r
 exact hk _ w (Rel.put h1 h2 h3 hd hb ht (Tr.refl w o) hst)
theorem ztz (i:Nat) (hS:Sf l=true) (hi:l[i]? = some op) (hr:rdy listed op i=true) (hsub:Sub H Hs)
  (j:Nat) (b:Bool) (t:Nat) (hg:op.guard=some (j,b)) (hj:((l.toArray[j]?).bind (·.dst))=some t) (hv:V t=some (.bool (!b))) (ht:Nat.blt t E.n=true) (hd:inB E.n op.dst=true)
  (hk:AnyL E l.toArray (listed.setIfInBounds i true) fuel k (V.put op.dst undef) H Hs) (hbl:E.blind=true:=by exact rfl):AnyL E l.toArray listed (fuel+1) k V H Hs:=by
 intro a w r
 have hSH:SH E Hs w:=by
  obtain ⟨_,_,_,o,hb,ht,hst⟩:=r
  exact ⟨o,hb,ht.tr,hsub.sats hst⟩
 have h2:=getD_some r.1 ht (r.2.2.1 t _ hv)
 refine zea (by simpa using hi) (Region.noSelect_spec (Sf.sel hS)) (fun c a w hq=>z9I hbl k c a w hq) _ _ _ _ ?_ (zkQ hi hr) (.inr ⟨by simp only [Region.wanted,hg,yielded,hj,Option.bind_some,h2]; cases b <;> simp,rfl⟩) hSH ?_
 ·intro j oj hj hne hun hno
  exact Sf.apart hS hi (by simpa using hj) hr hne hun hno
 obtain ⟨h1,h2,h3,o,hb,ht,hst⟩:=r
 exact hk _ w (Rel.put h1 h2 h3 hd hb ht (Tr.refl w o) hst)
theorem rf {id:Nat} (b:List Nat) (h:Sf l=true→AnyL E l.toArray (Array.replicate l.length false) l.length k V H Hs) (hb:Mk H b Hs:=by exact mk) (hS:Sf l=true:=by kernel_rfl) (hm:E.P.follows .mixedOrders=true:=by kernel_rfl) (hnd:noDef E.r l.toArray=true:=by exact rfl):Run E (.region id l.toArray true) k V H:=z98 Hs hm (h hS) hnd
end
end Go.Abs
