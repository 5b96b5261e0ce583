/-
  Texts that stand side by side: TfAu, TfAv.
-/
import Derived.Test.YtgjcniomhahgkaaGreatDoorM11
import Derived.Test.YtgjcniomhahgkaaGreatDoorM9
import Derived.Test.YtgjcniomhahgkaaGreatDoorM23
import Derived.Test.YtgjcniomhahgkaaGreatDoorTfAr
import Derived.Test.YtgjcniomhahgkaaGreatDoorTfAs
import Derived.Test.YtgjcniomhahgkaaGreatDoorTfAt
set_option linter.unusedSimpArgs false
set_option linter.unusedVariables false
namespace Go.Proofs.YtgjcniomhahgkaaGreatDoor
open Go.Abs
set_option maxRecDepth 20000
set_option maxHeartbeats 2000000
instance weirgate_typing_typer_operator_234_v3_k:Con Tryz.prog 234 23 (∀ {n:Nat} {t_0_0:(List zk)} {t_0_1_0_0:Int} {t_0_1_0_1:Int} {t_0_1_13_0:Int} {t_0_1_13_1:Int} {op_1:Int} {l_2:(List Int)} {t_0b:Nat} {t_0_0v:Value} {t_0_1r:Nat} {t_0_1_0_0b:Nat} {t_0_1_0_1b:Nat} {t_0_1_6_0b:Nat} {t_0_1_13_0b:Nat} {t_0_1_13_1b:Nat} {l_2v:Value} {r:Int},z1C n t_0_0 t_0_1_0_0 t_0_1_0_1 t_0_1_13_0 t_0_1_13_1 op_1 l_2=some r→Meets Tryz.prog 234 [boxP t_0b 0,.int .i64 op_1,l_2v] [row t_0_0v 2 (t_0_0.map zk.enc),box t_0_1_0_0b [.int .i64 t_0_1_0_0],box t_0_1_0_1b [.int .i64 t_0_1_0_1],box t_0_1_6_0b [.func (.func 275) #[] #[]],box t_0_1_13_0b [.int .i64 t_0_1_13_0],box t_0_1_13_1b [.int .i64 t_0_1_13_1],mapis t_0_1r (mcells (fun n:Int=>Value.int .i64 n) (fun v:Value=>v) ([(8,.func (.func 273) #[] #[boxP t_0_1_0_0b 0,boxP t_0_1_0_1b 0]),(11,.func (.func 273) #[] #[boxP t_0_1_0_0b 0,boxP t_0_1_0_1b 0]),(12,.func (.func 273) #[] #[boxP t_0_1_0_0b 0,boxP t_0_1_0_1b 0]),(13,.func (.func 273) #[] #[boxP t_0_1_0_0b 0,boxP t_0_1_0_1b 0]),(14,.func (.func 273) #[] #[boxP t_0_1_0_0b 0,boxP t_0_1_0_1b 0]),(10,.func (.func 275) #[] #[]),(15,.func (.func 276) #[] #[boxP t_0_1_6_0b 0]),(16,.func (.func 276) #[] #[boxP t_0_1_6_0b 0]),(17,.func (.func 276) #[] #[boxP t_0_1_6_0b 0]),(18,.func (.func 276) #[] #[boxP t_0_1_6_0b 0]),(19,.func (.func 277) #[] #[]),(20,.func (.func 277) #[] #[]),(23,.func (.func 277) #[] #[]),(9,.func (.func 273) #[] #[boxP t_0_1_13_0b 0,boxP t_0_1_13_1b 0]),(21,.func (.func 273) #[] #[boxP t_0_1_13_0b 0,boxP t_0_1_13_1b 0]),(22,.func (.func 273) #[] #[boxP t_0_1_13_0b 0,boxP t_0_1_13_1b 0])]:List (Int×Value))),box t_0b [t_0_0v,.map (some t_0_1r)],ro l_2v 1 (l_2.map (eInt .i64))] (fun v G=>v = .int .i64 r∧G=[box t_0_1_0_0b [.int .i64 t_0_1_0_0],box t_0_1_0_1b [.int .i64 t_0_1_0_1],box t_0_1_6_0b [.func (.func 275) #[] #[]],box t_0_1_13_0b [.int .i64 t_0_1_13_0],box t_0_1_13_1b [.int .i64 t_0_1_13_1],mapis t_0_1r (mcells (fun n:Int=>Value.int .i64 n) (fun v:Value=>v) ([(8,.func (.func 273) #[] #[boxP t_0_1_0_0b 0,boxP t_0_1_0_1b 0]),(11,.func (.func 273) #[] #[boxP t_0_1_0_0b 0,boxP t_0_1_0_1b 0]),(12,.func (.func 273) #[] #[boxP t_0_1_0_0b 0,boxP t_0_1_0_1b 0]),(13,.func (.func 273) #[] #[boxP t_0_1_0_0b 0,boxP t_0_1_0_1b 0]),(14,.func (.func 273) #[] #[boxP t_0_1_0_0b 0,boxP t_0_1_0_1b 0]),(10,.func (.func 275) #[] #[]),(15,.func (.func 276) #[] #[boxP t_0_1_6_0b 0]),(16,.func (.func 276) #[] #[boxP t_0_1_6_0b 0]),(17,.func (.func 276) #[] #[boxP t_0_1_6_0b 0]),(18,.func (.func 276) #[] #[boxP t_0_1_6_0b 0]),(19,.func (.func 277) #[] #[]),(20,.func (.func 277) #[] #[]),(23,.func (.func 277) #[] #[]),(9,.func (.func 273) #[] #[boxP t_0_1_13_0b 0,boxP t_0_1_13_1b 0]),(21,.func (.func 273) #[] #[boxP t_0_1_13_0b 0,boxP t_0_1_13_1b 0]),(22,.func (.func 273) #[] #[boxP t_0_1_13_0b 0,boxP t_0_1_13_1b 0])]:List (Int×Value))),row t_0_0v 2 (t_0_0.map zk.enc),box t_0b [t_0_0v,.map (some t_0_1r)]])):=⟨Tryz.call234,by
 intros; rename_i h; unfold z1C at h
 exact dfn .e Tryz.func234 Tryz.ntmps234 Tryz.results234 h⟩
end Go.Proofs.YtgjcniomhahgkaaGreatDoor
namespace Go.Proofs.YtgjcniomhahgkaaGreatDoor
open Go.Abs
set_option maxRecDepth 20000
set_option maxHeartbeats 2000000
instance:Con Tryz.prog 234 0 (∀ {a_0:zw} {a_1:Int} {a_2:(List Int)} {a_0b:Nat} {a_0_typer__vars_v:Value} {a_0_typer__rules_v:Value} {a_0_kinds_v:Value} {a_2v:Value} {r:Int×zw},operC a_0 a_1 a_2=some r→Meets Tryz.prog 234 [boxP a_0b 0,.int .i64 a_1,a_2v] [row a_0_typer__vars_v 2 (a_0.typer_.vars_.map zk.enc),rulA a_0_typer__rules_v,row a_0_kinds_v 1 (a_0.kinds_.map (eInt .i64)),box a_0b [a_0_typer__vars_v,a_0_typer__rules_v,a_0_kinds_v],ro a_2v 1 (a_2.map (eInt .i64))] (fun v G=>∃ v0 v1 v2,v = .int .i64 r.1∧G=[row v0 2 (r.2.typer_.vars_.map zk.enc),rulA v1,row v2 1 (r.2.kinds_.map (eInt .i64)),box a_0b [v0,v1,v2]])):=⟨Tryz.call234,by
  intros; rename_i h
  rename_i a_0 a_1 a_2 a_0b a_0_typer__vars_v a_0_typer__rules_v a_0_kinds_v a_2v r
  unfold operC at h
  obtain ⟨r0,h0,hr⟩:=Option.map_eq_some_iff.1 h
  clear h
  subst hr
  refine Meets.turn (H':=[row a_0_typer__vars_v 2 (a_0.typer_.vars_.map zk.enc),row a_0_kinds_v 1 (a_0.kinds_.map (eInt .i64)),box a_0b [a_0_typer__vars_v,a_0_typer__rules_v,a_0_kinds_v],ro a_2v 1 (a_2.map (eInt .i64))]++[rulA a_0_typer__rules_v]) ?_ (z41 (is:=[0,2,3,4,1]) (by decide) rfl) fun v G hv=>⟨G,hv,Turn.refl G⟩
  refine Meets.last_ex fun m=>?_
  cases m with
  | none =>
    refine Meets.last_andp fun e=>?_
    subst e
    refine Meets.turn (weirgate_typing_typer_operator_234_k.out (n:=a_2.length+9) (r:=r0) ((zfU _ _ _ _).trans h0)) (z41 (is:=[0,1,2,3]) (by decide) rfl) ?_
    rintro v G ⟨v0,v1,v2,v3,v4,v5,rfl,rfl⟩
    refine ⟨_,⟨a_0_typer__vars_v,(.map (some v0)),a_0_kinds_v,rfl,rfl⟩,Turn.trans (H2:=[row a_0_typer__vars_v 2 (a_0.typer_.vars_.map zk.enc),row a_0_kinds_v 1 (a_0.kinds_.map (eInt .i64)),box a_0b [a_0_typer__vars_v,(.map (some v0)),a_0_kinds_v]]++tabB (v1,v2,v3,v4,v5,v0)) ?_ (Turn.trans (H2:=[row a_0_typer__vars_v 2 (a_0.typer_.vars_.map zk.enc),row a_0_kinds_v 1 (a_0.kinds_.map (eInt .i64)),box a_0b [a_0_typer__vars_v,(.map (some v0)),a_0_kinds_v]]++[rulA (.map (some v0))]) ?_ ?_)⟩
    · exact z41 (is:=[0,7,8,2,3,4,5,6,1]) (by decide) rfl
    · exact zaQ (v1,v2,v3,v4,v5,v0)
    · exact z41 (is:=[0,3,1,2]) (by decide) rfl
  | some q =>
    refine Meets.last_andp fun e=>?_
    subst e
    refine Meets.turn (weirgate_typing_typer_operator_234_v1_k.out (n:=a_2.length+9) (r:=r0) h0) ((zdm _ _).trans (z41 (is:=[0,4,5,6,7,8,9,1,2,3]) (by decide) rfl)) ?_
    rintro v G ⟨rfl,rfl⟩
    refine ⟨_,⟨a_0_typer__vars_v,(.map (some q.2.2.2.2.2)),a_0_kinds_v,rfl,rfl⟩,Turn.trans (H2:=[row a_0_typer__vars_v 2 (a_0.typer_.vars_.map zk.enc),row a_0_kinds_v 1 (a_0.kinds_.map (eInt .i64)),box a_0b [a_0_typer__vars_v,(.map (some q.2.2.2.2.2)),a_0_kinds_v]]++tabB q) ?_ (Turn.trans (H2:=[row a_0_typer__vars_v 2 (a_0.typer_.vars_.map zk.enc),row a_0_kinds_v 1 (a_0.kinds_.map (eInt .i64)),box a_0b [a_0_typer__vars_v,(.map (some q.2.2.2.2.2)),a_0_kinds_v]]++[rulA (.map (some q.2.2.2.2.2))]) ?_ ?_)⟩
    · exact z41 (is:=[6,7,8,0,1,2,3,4,5]) (by decide) rfl
    · exact zaQ q
    · exact z41 (is:=[0,3,1,2]) (by decide) rfl⟩
theorem zfV (n:Nat) (x:zz) (op:Int) (l:List Int):z24 n x.vars_ op l=z1C n x.vars_ 1 1 3 3 op l:=by
 unfold z24 z1C
 rw [show z6d=some () from rfl]
 rfl
instance:Con Tryz.prog 234 1 (∀ {a_0:zz} {a_1:Int} {a_2:(List Int)} {a_0b:Nat} {a_0_vars_v:Value} {a_0_rules_v:Value} {a_2v:Value} {r:Int×zz},operY a_0 a_1 a_2=some r→Meets Tryz.prog 234 [boxP a_0b 0,.int .i64 a_1,a_2v] [row a_0_vars_v 2 (a_0.vars_.map zk.enc),rulA a_0_rules_v,box a_0b [a_0_vars_v,a_0_rules_v],ro a_2v 1 (a_2.map (eInt .i64))] (fun v G=>∃ v0 v1,v = .int .i64 r.1∧G=[row v0 2 (r.2.vars_.map zk.enc),rulA v1,box a_0b [v0,v1]])):=⟨Tryz.call234,by
  intros; rename_i h
  rename_i a_0 a_1 a_2 a_0b a_0_vars_v a_0_rules_v a_2v r
  unfold operY at h
  obtain ⟨r0,h0,hr⟩:=Option.map_eq_some_iff.1 h
  clear h
  subst hr
  refine Meets.turn (H':=[row a_0_vars_v 2 (a_0.vars_.map zk.enc),box a_0b [a_0_vars_v,a_0_rules_v],ro a_2v 1 (a_2.map (eInt .i64))]++[rulA a_0_rules_v]) ?_ (z41 (is:=[0,2,3,1]) (by decide) rfl) fun v G hv=>⟨G,hv,Turn.refl G⟩
  refine Meets.last_ex fun m=>?_
  cases m with
  | none =>
    refine Meets.last_andp fun e=>?_
    subst e
    refine Meets.turn (weirgate_typing_typer_operator_234_v2_k.out (n:=a_2.length+9) (r:=r0) ((zfV _ _ _ _).trans h0)) (z41 (is:=[0,1,2]) (by decide) rfl) ?_
    rintro v G ⟨v0,v1,v2,v3,v4,v5,rfl,rfl⟩
    refine ⟨_,⟨a_0_vars_v,(.map (some v0)),rfl,rfl⟩,Turn.trans (H2:=[row a_0_vars_v 2 (a_0.vars_.map zk.enc),box a_0b [a_0_vars_v,(.map (some v0))]]++tabB (v1,v2,v3,v4,v5,v0)) ?_ (Turn.trans (H2:=[row a_0_vars_v 2 (a_0.vars_.map zk.enc),box a_0b [a_0_vars_v,(.map (some v0))]]++[rulA (.map (some v0))]) ?_ ?_)⟩
    · exact z41 (is:=[0,7,2,3,4,5,6,1]) (by decide) rfl
    · exact zaQ (v1,v2,v3,v4,v5,v0)
    · exact z41 (is:=[0,2,1]) (by decide) rfl
  | some q =>
    refine Meets.last_andp fun e=>?_
    subst e
    refine Meets.turn (weirgate_typing_typer_operator_234_v3_k.out (n:=a_2.length+9) (r:=r0) h0) ((zdm _ _).trans (z41 (is:=[0,3,4,5,6,7,8,1,2]) (by decide) rfl)) ?_
    rintro v G ⟨rfl,rfl⟩
    refine ⟨_,⟨a_0_vars_v,(.map (some q.2.2.2.2.2)),rfl,rfl⟩,Turn.trans (H2:=[row a_0_vars_v 2 (a_0.vars_.map zk.enc),box a_0b [a_0_vars_v,(.map (some q.2.2.2.2.2))]]++tabB q) ?_ (Turn.trans (H2:=[row a_0_vars_v 2 (a_0.vars_.map zk.enc),box a_0b [a_0_vars_v,(.map (some q.2.2.2.2.2))]]++[rulA (.map (some q.2.2.2.2.2))]) ?_ ?_)⟩
    · exact z41 (is:=[6,7,0,1,2,3,4,5]) (by decide) rfl
    · exact zaQ q
    · exact z41 (is:=[0,2,1]) (by decide) rfl⟩
end Go.Proofs.YtgjcniomhahgkaaGreatDoor
