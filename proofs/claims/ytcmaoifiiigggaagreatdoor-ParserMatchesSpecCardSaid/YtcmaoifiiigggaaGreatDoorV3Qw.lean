/-
  Bare puts 0 in place of every offset; a tree is the same as itself (the second text of it).
-/
import Derived.Test.YtcmaoifiiigggaaGreatDoorV3M35
import Derived.Test.YtcmaoifiiigggaaGreatDoorV3G3l
set_option linter.unusedSimpArgs false
set_option linter.unusedVariables false
namespace Go.Proofs.YtcmaoifiiigggaaGreatDoor
open Go.Abs Go.Ps Go.Lex
theorem zgO (x:zG) {n:Nat} (h:szSrc x+1<n) (h' : szSrc x≤1000000000):z5T n x x=some true:=by
 have h1:=zce znf x.Policies
 have h2:=zce zkd x.Programs
 unfold szSrc at h h'
 unfold z5T
 simp only [ne_eq,yV,yP,Bool.or_self,yJ]
 refine (zb2 (L:=x.Policies.length) (fun i hi=>?_) ?_ (by omega)).trans (zb2 (L:=x.Programs.length) (fun i hi=>?_) ?_ (by omega))
 ·unfold za6
  have hm:szP x.Policies[i]≤szL szP x.Policies:=z9H (List.getElem_mem hi)
  simp only [szP] at hm
  simp only [yW,hi,yQ,yK,z5t hi,ne_eq,yV,yP,Bool.or_self,yU,yJ,bJ,zeX x.Policies[i].Rules (n:=n) (by omega) (by omega),ob,zc1 (j:=i) (by omega)]
 ·unfold za6
  simp only [Int.lt_irrefl,yP,yJ]
 ·unfold za7
  have hm:szPr x.Programs[i]≤szL szPr x.Programs:=z9H (List.getElem_mem hi)
  simp only [szPr] at hm
  simp only [yW,hi,yQ,yK,z5t hi,ne_eq,yV,yP,Bool.or_self,yU,yJ,bJ,zd1 x.Programs[i].Effects (by omega) (n:=n) (by omega),zaJ n x.Programs[i].Code (by omega) (by omega),ob,zc1 (j:=i) (by omega)]
 ·unfold za7
  simp only [Int.lt_irrefl,yP,yJ]
theorem zoc {α:Type} (f:α→α) (l:List α) {i:Nat} (h:i<l.length) (y:α):((l.take i).map f++l.drop i).set i y=(l.take i).map f++y::l.drop (i+1):=by
 have e:((l.take i).map f).length=i:=by simp; omega
 rw [List.set_append_right _ _ (by omega),e,Nat.sub_self,List.drop_eq_getElem_cons h,List.set_cons_zero]
def z0:Int→Int:=fun _=>0
end Go.Proofs.YtcmaoifiiigggaaGreatDoor
