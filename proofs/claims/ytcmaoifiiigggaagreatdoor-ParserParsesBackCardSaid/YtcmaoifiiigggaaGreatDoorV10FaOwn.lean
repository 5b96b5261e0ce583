import Derived.Test.YtcmaoifiiigggaaGreatDoorFa
set_option linter.unusedSimpArgs false
set_option linter.unusedVariables false
namespace Go.Proofs.YtcmaoifiiigggaaGreatDoor
open Go.Abs
set_option maxRecDepth 20000
set_option maxHeartbeats 4000000
abbrev K28 (u:zo→(List zl)→Bool→Option (Pn (zo))) (F:FuncId):Prop:=∀ {a0:zo} {a1:(List zl)} {a2:Bool} {g0:Nat} {g1:Value} {g2:Value} {r:Pn (zo)},u a0 a1 a2=some r→z4t Tryz.prog F [boxP g0 0,g2,.bool a2] [row g1 3 (a0.l_.map z6.enc),box g0 [g1],nro g2 zp a1] (fun v G=>∃ q,r = .ret q∧(∃ v0,v = .tuple #[]∧G=[row v0 3 (q.l_.map z6.enc),box g0 [v0]])) (fun v=>∃ e,r = .pan e∧v = .iface 27 (.int .i64 e))
abbrev K29 (u:zo→(List zm)→Option (Pn (zo))) (F:FuncId):Prop:=∀ {a0:zo} {a1:(List zm)} {g0:Nat} {g1:Value} {g2:Value} {r:Pn (zo)},u a0 a1=some r→z4t Tryz.prog F [boxP g0 0,g2] [row g1 3 (a0.l_.map z6.enc),box g0 [g1],nro g2 zE a1] (fun v G=>∃ q,r = .ret q∧(∃ v0,v = .tuple #[]∧G=[row v0 3 (q.l_.map z6.enc),box g0 [v0]])) (fun v=>∃ e,r = .pan e∧v = .iface 27 (.int .i64 e))
abbrev K30 (u:zo→zm→Option (Pn (zo))) (F:FuncId):Prop:=∀ {a0:zo} {a1:zm} {g0:Nat} {g1:Value} {g2:Value} {g3:Value} {g4:Value} {r:Pn (zo)},u a0 a1=some r→z4t Tryz.prog F [boxP g0 0,.agg #[.int .i64 a1.Kind,.int .i64 a1.At,.string (bs a1.Name),.int .i64 a1.X.Op,.int .i64 a1.X.At,.string (bs a1.X.S),g2,g3,g4]] [row g1 3 (a0.l_.map z6.enc),box g0 [g1],nro g2 zj a1.X.Args,nro g3 zE a1.Body,nro g4 zE a1.Else] (fun v G=>∃ q,r = .ret q∧(∃ v0,v = .tuple #[]∧G=[row v0 3 (q.l_.map z6.enc),box g0 [v0]])) (fun v=>∃ e,r = .pan e∧v = .iface 27 (.int .i64 e))
end Go.Proofs.YtcmaoifiiigggaaGreatDoor
