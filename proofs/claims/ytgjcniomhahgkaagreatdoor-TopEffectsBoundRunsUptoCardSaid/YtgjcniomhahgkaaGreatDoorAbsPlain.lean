/-
  Plain rules for lifted functions: how their words are read.
-/
import Derived.Test.YtgjcniomhahgkaaGreatDoorM1
set_option linter.unusedSimpArgs false
set_option linter.unusedVariables false
namespace Go.Abs
@[simp] theorem z12 {S R:Type} (s:S) (k:S→Option R):bindJ (some (.go s)) k=k s:=rfl
@[simp] theorem zb4 {S R:Type} (r:R) (k:S→Option R):bindJ (some (.stop r)) k=some r:=rfl
@[simp] theorem zjv {S R:Type} (k:S→Option R):bindJ (none:Option (Lp S R)) k=none:=rfl
theorem zW {α:Type} {p:Prop} [Decidable p] (h:p) (x:Option α):need p x=x:=by simp [need,h]
theorem z43 {α β:Type} {l:List α} {i:Nat} {x:α} (h:l[i]? = some x) (k:α→Option β):idx l (i:Int) k=k x:=by simp [idx,h]
theorem z1J {α β:Type} {l:List α} {i:Nat} (h:i<l.length) (k:α→Option β):idx l (i:Int) k=k l[i]:=z43 (List.getElem?_eq_getElem h) k
theorem z6K {S R:Type} {step:S→Option (Lp S R)} {n:Nat} {s s' : S} (h:step s=some (.go s')):iter step (n+1) s=iter step n s':=by simp [iter,h]
theorem z3q {S R:Type} {step:S→Option (Lp S R)} {n:Nat} {s:S} {r:R} (h:step s=some (.stop r)):iter step (n+1) s=some r:=by simp [iter,h]
theorem z3s {S R:Type} {step:S→Option (Lp S R)} (inv:S→Prop) (μ:S→Nat) (post:R→Prop)
    (h:∀ s,inv s→(∃ s',step s=some (.go s')∧inv s'∧μ s'<μ s)∨(∃ r,step s=some (.stop r)∧post r)) :
    ∀ (n:Nat) (s:S),inv s→μ s<n→∃ r,iter step n s=some r∧post r
  | 0,s,_,hm=>by omega
  | n + 1, s, hi, hm => by
    rcases h s hi with ⟨s',h1,h2,h3⟩ | ⟨r,h1,h2⟩
    · obtain ⟨r,h4,h5⟩:=z3s inv μ post h n s' h2 (by omega)
      exact ⟨r,by rw [z6K h1,h4],h5⟩
    · exact ⟨r,z3q h1,h2⟩
theorem w64 {x:Int} (h1 : -9223372036854775808≤x) (h2:x≤9223372036854775807):IntKind.i64.wrap x=x:=z77 h1 h2
end Go.Abs
namespace Go.Abs
def foldL {α S R:Type} (f:S→α→Lp S R) (fin:S→R):S→List α→R
  | s,[]=>fin s
  | s, x :: r => match f s x with
    | .go s'=>foldL f fin s' r
    | .stop q=>q
def Lp.mapS {S T R:Type} (g:S→T):Lp S R→Lp T R
 | .go s=>.go (g s)
 | .stop r=>.stop r
@[simp] theorem zoJ {S T R:Type} (g:S→T) (s:S):(Lp.go s:Lp S R).mapS g = .go (g s):=rfl
@[simp] theorem zlW {S T R:Type} (g:S→T) (r:R):(Lp.stop r:Lp S R).mapS g = .stop r:=rfl
theorem zcj {α S T R:Type} {step:T→Option (Lp T R)} {l:List α} (mk:Nat→S→T) (f:S→α→Lp S R) (fin:S→R) (inv:Nat→S→Prop)
    (hgo:∀ i s x,inv i s→l[i]? = some x→step (mk i s)=some ((f s x).mapS (mk (i+1)))∧∀ s',f s x = .go s'→inv (i+1) s')
    (hend:∀ s,inv l.length s→step (mk l.length s)=some (.stop (fin s))) :
    ∀ (n i:Nat) (s:S),inv i s→i≤l.length→l.length - i<n→iter step n (mk i s)=some (foldL f fin s (l.drop i))
  | 0,i,s,_,_,h=>by omega
  | n + 1, i, s, hi, hle, h => by
    by_cases e:i=l.length
    · subst e
      rw [z3q (hend s hi),List.drop_length]; rfl
    · have hlt:i<l.length:=by omega
      obtain ⟨h1,h2⟩:=hgo i s _ hi (List.getElem?_eq_getElem hlt)
      rw [List.drop_eq_getElem_cons hlt]
      cases hf:f s l[i] with
      | go s' =>
        rw [hf] at h1
        rw [z6K h1,zcj mk f fin inv hgo hend n (i+1) s' (h2 s' hf) (by omega) (by omega)]
        simp [foldL,hf]
      | stop q =>
        rw [hf] at h1
        rw [z3q h1]
        simp [foldL,hf]
end Go.Abs
namespace Go.Abs
theorem zcd {α S R:Type} {f:S→α→Lp S R} {fin:S→R} (g:S→α→S):∀ (l:List α) (s:S),(∀ s x,x∈l→f s x = .go (g s x))→foldL f fin s l=fin (l.foldl g s)
  | [],s,_=>rfl
  | x :: r, s, h => by
    simp only [foldL,h s x (List.mem_cons_self ..),List.foldl_cons]
    exact zcd g r _ (fun s y hy=>h s y (List.mem_cons_of_mem _ hy))
theorem ze7 {S T R:Type} {step:T→Option (Lp T R)} (N:Nat) (mk:Nat→S→T) (f:S→Nat→Lp S R) (fin:S→R) (inv:Nat→S→Prop)
  (hgo:∀ i s,inv i s→i<N→step (mk i s)=some ((f s i).mapS (mk (i+1)))∧∀ s',f s i = .go s'→inv (i+1) s')
  (hend:∀ s,inv N s→step (mk N s)=some (.stop (fin s))) (n:Nat) (s:S) (h0:inv 0 s) (hn:N<n):iter step n (mk 0 s)=some (foldL f fin s (List.range N)):=by
 have:=zcj (l:=List.range N) mk f fin inv (fun i s x hi hx=>by
  have hlt:=(List.getElem?_eq_some_iff.1 hx).1
  simp at hlt
  have:x=i:=by simp [hlt] at hx; exact hx.symm
  subst this
  exact hgo x s hi hlt) (fun s hs=>by simpa using hend s (by simpa using hs)) n 0 s h0 (Nat.zero_le _) (by simpa using hn)
 simpa using this
theorem zaM:∀ (l m:List Int),l.Nodup→(∀ x∈l,x∈m)→l.length≤m.length
  | [],_,_,_=>Nat.zero_le _
  | x :: r, m, h, hm => by
    have h':=List.nodup_cons.1 h
    have hx:=hm x (List.mem_cons_self ..)
    have:=zaM r (m.erase x) h'.2 (fun y hy=>by
      have hne:y≠x:=fun e=>h'.1 (e ▸ hy)
      exact (List.mem_erase_of_ne hne).2 (hm y (List.mem_cons_of_mem _ hy)))
    rw [List.length_erase_of_mem hx] at this
    have hp:=List.length_pos_of_mem hx
    simp only [List.length_cons]; omega
theorem nodup_range {l:List Int} {n:Nat} (h:l.Nodup) (hr:∀ x∈l,0≤x∧x<n):l.length≤n:=by
 have:=zaM l ((List.range n).map fun i:Nat=>(i:Int)) h (fun x hx=>by
  obtain ⟨h1,h2⟩:=hr x hx
  exact List.mem_map.2 ⟨x.toNat,by simp; omega,by omega⟩)
 simpa using this
theorem z6J {R:Type} {step:Int→Option (Lp Int R)} (N:Nat) (q:R) (h:∀ i:Nat,i<N→step (i:Int)=some (.go ((i+1:Nat):Int))) (he:step (N:Int)=some (.stop q)) (n:Nat) (hn:N<n):iter step n 0=some q:=by
 have:=ze7 (step:=step) N (fun (i:Nat) (_:Unit)=>(i:Int)) (fun _ _=>Lp.go ()) (fun _=>q) (fun _ _=>True) (fun i s _ hi=>⟨h i hi,fun _ _=>trivial⟩) (fun s _=>he) n () trivial hn
 rw [zcd (fun _ _=>()) _ _ (fun _ _ _=>rfl)] at this
 exact this
theorem z4l {α β:Type} {l:List α} {w:Int} (h0:0≤w) (h1:w.toNat<l.length) (k:α→Option β):idx l w k=k l[w.toNat]:=by simp [idx,h0,List.getElem?_eq_getElem h1]
end Go.Abs
