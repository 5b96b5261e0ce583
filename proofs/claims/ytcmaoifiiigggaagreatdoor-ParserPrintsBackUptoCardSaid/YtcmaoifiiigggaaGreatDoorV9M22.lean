/-
  Texts that stand side by side: AbsCallOwn, AbsLift2Own, AbsNestOwn.
-/
import Derived.Test.YtcmaoifiiigggaaGreatDoorM1
set_option linter.unusedSimpArgs false
set_option linter.unusedVariables false
namespace Go.Abs
variable {E : Env} {k : List KI} {V : VF} {H : List HA}
theorem nilro (es:Nat):Turn H (H++[ro (.slice none 0 0) es []]):=z9A fun _ _ _=>⟨none,0,rfl,Nat.le_refl _,Nat.zero_le _,fun _=>rfl,fun i c hi=>by simp at hi⟩
section slices
variable {P : Program} {d : Option Nat} {ty : TypeId} {pos : String} {af : Array Edge} {g : Option (Nat × Bool)}
end slices
end Go.Abs
namespace Go.Abs
def eBool (b:Bool):List Value:=[.bool b]
variable {E : Env} {k : List KI} {V : VF} {H : List HA}
section
variable {P : Program} {d : Option Nat} {ty : TypeId} {pos : String} {af : Array Edge} {g : Option (Nat × Bool)}
end
variable {ops : Array Oper} {op : Oper} {listed : Array Bool} {fuel : Nat} {Hs : List HA}
end Go.Abs
namespace Go.Abs
variable {E : Env} {k : List KI} {V : VF} {H : List HA}
end Go.Abs
namespace Go.Abs
variable {E : Env} {k : List KI} {V : VF} {H : List HA} {ops : Array Oper} {listed : Array Bool} {fuel : Nat} {Hs : List HA}
end Go.Abs
namespace Go.Abs
variable {E : Env} {k : List KI} {V : VF} {H : List HA} {ops : Array Oper} {listed : Array Bool} {fuel : Nat} {Hs : List HA}
end Go.Abs
namespace Go.Abs
variable {E : Env} {k : List KI} {V : VF} {H : List HA} {ops : Array Oper} {listed : Array Bool} {fuel : Nat} {Hs : List HA}
end Go.Abs
namespace Go.Abs
variable {E : Env} {k : List KI} {V : VF} {H : List HA}
section
variable {α : Type} {C : NC α} {v : Value} {l : List α}
end
section
variable {γ : Type} {K : γ → List HA} {ops : Array Oper} {listed : Array Bool} {fuel : Nat} {Hs : List HA}
end
section
variable {α : Type} {C : NC α} {v : Value} {l : List α}
section
variable {P : Program} {d : Option Nat} {ty : TypeId} {pos : String} {af : Array Edge} {g : Option (Nat × Bool)}
end
end
section
variable {ops : Array Oper} {listed : Array Bool} {fuel : Nat} {Hs : List HA} {h : HA} {v : Value} {es n : Nat}
end
section
variable {P : Program} {d : Option Nat} {ty : TypeId} {pos : String} {af : Array Edge} {g : Option (Nat × Bool)}
end
theorem zao (m:Nat) {h:HA} (hF:Free h) (hm:H[m]? = some h):Turn H (H++[h]):=z9A fun w o hs=>hF.at w o m _ (hs m h hm)
end Go.Abs
namespace Go.Abs
variable {E : Env} {k : List KI} {V : VF} {H : List HA}
end Go.Abs
