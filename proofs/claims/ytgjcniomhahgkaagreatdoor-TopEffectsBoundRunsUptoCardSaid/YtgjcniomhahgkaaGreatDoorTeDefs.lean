/-
  What the functions compute, told plainly.
-/
import Derived.Test.YtgjcniomhahgkaaGreatDoorAbsPlain
import Derived.Test.YtgjcniomhahgkaaGreatDoorM4
import Derived.Test.YtgjcniomhahgkaaGreatDoorM2
import Derived.Test.YtgjcniomhahgkaaGreatDoorM1
import Derived.Lib.Fields
set_option linter.unusedSimpArgs false
set_option linter.unusedVariables false
namespace Go.Proofs.YtgjcniomhahgkaaGreatDoor
open Go.Abs
def cmpH (a b:List UInt8):Option Int:=some (if a=b then 0 else if a<b then -1 else 1)
def idxH (s:List UInt8) (c:Int):Option Int:=some (idxP s c.toNat.toUInt8)
def atoiH (s:List UInt8):Option (Int×Bool):=need (s.length≤4294967296∧(atoiP s).2=true) (some (atoiP s))
def zc5 (s:List UInt8):Option (List (List UInt8)):=need (s.length≤1073741824∧∀ b∈s,b.toNat<128) (some (Lib.fields s))
def z5G (x_0:Int):Option (Int):=
 bindJ (S:=Int×Int)
  (cond (decide (4294967296≤x_0))
   (some (.go ((Int.fdiv x_0 (2 ^ (min ((32:Int).toNat) IntKind.u64.bits))),32)))
   (some (.go (x_0,0))))
 (fun (x_1,n_2)=>
  bindJ (S:=Int×Int)
   (cond (decide (65536≤x_1))
    (some (.go ((Int.fdiv x_1 (2 ^ (min ((16:Int).toNat) IntKind.u64.bits))),(IntKind.i64.wrap (n_2+16)))))
    (some (.go (x_1,n_2))))
  (fun (x_8,n_9)=>
   bindJ (S:=Int×Int)
    (cond (decide (256≤x_8))
     (some (.go ((Int.fdiv x_8 (2 ^ (min ((8:Int).toNat) IntKind.u64.bits))),(IntKind.i64.wrap (n_9+8)))))
     (some (.go (x_8,n_9))))
   (fun (x_15,n_16)=>
    idx ([0,1,2,2,3,3,3,3,4,4,4,4,4,4,4,4,5,5,5,5,5,5,5,5,5,5,5,5,5,5,5,5,6,6,6,6,6,6,6,6,6,6,6,6,6,6,6,6,6,6,6,6,6,6,6,6,6,6,6,6,6,6,6,6,7,7,7,7,7,7,7,7,7,7,7,7,7,7,7,7,7,7,7,7,7,7,7,7,7,7,7,7,7,7,7,7,7,7,7,7,7,7,7,7,7,7,7,7,7,7,7,7,7,7,7,7,7,7,7,7,7,7,7,7,7,7,7,7,8,8,8,8,8,8,8,8,8,8,8,8,8,8,8,8,8,8,8,8,8,8,8,8,8,8,8,8,8,8,8,8,8,8,8,8,8,8,8,8,8,8,8,8,8,8,8,8,8,8,8,8,8,8,8,8,8,8,8,8,8,8,8,8,8,8,8,8,8,8,8,8,8,8,8,8,8,8,8,8,8,8,8,8,8,8,8,8,8,8,8,8,8,8,8,8,8,8,8,8,8,8,8,8,8,8,8,8,8,8,8,8,8,8,8,8,8,8,8,8,8,8,8,8,8,8,8,8]:List UInt8) (IntKind.u8.wrap x_15) fun c22=>
    some (IntKind.i64.wrap (n_16+(IntKind.i64.wrap (c22.toNat:Int)))))))
def z6t (x_0:Int):Option (Int):=
 obind (z5G x_0) fun r1=>
 some r1
def z5n (x_0:Int):Option (Bool):=
 some (decide (x_0≠x_0))
def z6H (x_0:Int) (y_1:Int):Option (Bool):=
 obind (z5n x_0) fun r1=>
 bindJ (S:=Bool)
  (cond r1
   (obind (z5n y_1) fun r9=>
   some (.go (!r9)))
   (some (.go false)))
 (fun b3=>
  some (b3 || decide (x_0<y_1)))
abbrev z50 (a_1:Int):(Int×(List Int))→Option (Lp (Int×(List Int)) (Lp ((List Int)) (Lp (Int×(List Int)) ((List Int))))):=
 fun (j_13,x_14)=>
  bindJ (S:=Bool)
   (cond (decide (a_1<j_13))
    (idx x_14 j_13 fun x25=>
    idx x_14 (IntKind.i64.wrap (j_13 - 1)) fun x26=>
    obind (z6H x25 x26) fun r27=>
    some (.go r27))
    (some (.go false)))
  (fun s_19=>
   cond s_19
    (idx x_14 (IntKind.i64.wrap (j_13 - 1)) fun x30=>
    idx x_14 j_13 fun x31=>
    idx (x_14.set j_13.toNat x30) (IntKind.i64.wrap (j_13 - 1)) fun x33=>
    some (.go ((IntKind.i64.wrap (j_13 - 1)),((x_14.set j_13.toNat x30).set (((IntKind.i64.wrap (j_13 - 1))).toNat) x31))))
    (some (.stop (.go x_14))))
abbrev z4Z (n:Nat) (a_1:Int) (b_2:Int):(Int×(List Int))→Option (Lp (Int×(List Int)) (List Int)):=
 fun (i_1,x_2)=>
  cond (decide (i_1<b_2))
   (bindJ (S:=(List Int))
    (iter (z50 a_1) n (i_1,x_2))
   (fun x_8=>
    some (.go ((IntKind.i64.wrap (i_1+1)),x_8))))
   (some (.stop x_2))
def z2Z (n:Nat) (data_0:(List Int)) (a_1:Int) (b_2:Int):Option ((List Int)):=
 iter (z4Z n a_1 b_2) n ((IntKind.i64.wrap (a_1+1)),data_0)
def pdqP (n:Nat) (l:List Int) (a b k:Int):Option (List Int):=
 iter (fun _:Unit=>
  cond (decide (IntKind.i64.wrap (b - a)≤12))
   (obind (z2Z n l a b) fun r=>
   some (.stop r))
   none) n ()
def sortP (n:Nat) (l:List Int):Option (List Int):=
 obind (z6t (IntKind.u64.wrap (l.length:Int))) fun k=>
 obind (pdqP n l 0 (l.length:Int) k) fun r=>
 some r
structure zk where
 name_:(List UInt8)
 kind_:Int
 deriving DecidableEq,Repr
structure zz where
 vars_:(List zk)
 rules_:(List Rul)
 deriving DecidableEq,Repr
structure zw where
 typer_:zz
 kinds_:(List Int)
 deriving DecidableEq,Repr
structure zm where
 Op:Int
 Type_:Int
 N:Int
 Slot:Int
 S:(List UInt8)
 Args:(List zm)
structure z7 where
 Kind:Int
 Slot:Int
 N:Int
 Name:(List UInt8)
 X:zm
 Body:(List z7)
 Else:(List z7)
structure zG where
 Name:(List UInt8)
 Effects:(List Int)
 Code:(List z7)
structure zp where
 Name:(List UInt8)
 Value:(List UInt8)
 deriving DecidableEq,Repr
structure zP where
 Headers:(List zp)
 Status:Int
 deriving DecidableEq,Repr
structure z1G where
 Number:(List UInt8)
 Unit:(List UInt8)
 At:Int
 deriving DecidableEq,Repr
structure z5t where
 Kind:Int
 At:Int
 Name:(List UInt8)
 Texts:(List (List UInt8))
 Amount:z1G
 Default:(List UInt8)
 HasDefault:Bool
 Conds:(List z5t)
structure z7Z where
 Name:(List UInt8)
 At:Int
 Clauses:(List z5t)
structure z6h where
 Name:(List UInt8)
 At:Int
 Rules:(List z7Z)
structure zK where
 Op:Int
 At:Int
 S:(List UInt8)
 Args:(List zK)
structure zB where
 Kind:Int
 At:Int
 Name:(List UInt8)
 X:zK
 Body:(List zB)
 Else:(List zB)
structure z1d where
 Name:(List UInt8)
 At:Int
 Effects:(List Int)
 Code:(List zB)
structure z2z where
 Policies:(List z6h)
 Programs:(List z1d)
structure z13 where
 At:Int
 E:Int
 deriving DecidableEq,Repr
structure zo where
 Kind:Int
 At:Int
 S:(List UInt8)
 deriving DecidableEq,Repr
structure zC where
 s_:(List UInt8)
 at_:Int
 deriving DecidableEq,Repr
structure z8 where
 l_:(List zo)
 i_:Int
 at_:Int
 deriving DecidableEq,Repr
structure z8y where
 Header:(List UInt8)
 Values:(List (List UInt8))
 Default:(List UInt8)
 deriving DecidableEq,Repr
structure zdg where
 From:Int
 To:Int
 Pattern:(List UInt8)
 Clients:(List (List UInt8))
 Countries:(List (List UInt8))
 Sites:(List Int)
 Uses:Int
 deriving DecidableEq,Repr
structure z8x where
 Name:(List UInt8)
 Pattern:(List UInt8)
 Tags:(List (List UInt8))
 Fresh:Int
 Stale:Int
 Down:Int
 Negative:Int
 Vary:(List z8y)
 Allow:zdg
 Signed:Bool
 Cost:Int
 Program:(List UInt8)
 deriving DecidableEq,Repr
structure z6G where
 Customer:(List UInt8)
 Party:Int
 Rules:(List z8x)
 deriving DecidableEq,Repr
structure z62 where
 Policies:(List z6G)
 Programs:(List zG)
structure z6 where
 Op:Int
 A:Int
 S:(List UInt8)
 deriving DecidableEq,Repr
structure zH where
 Name:(List UInt8)
 Effects:(List Int)
 Code:(List z6)
 deriving DecidableEq,Repr
structure zr where
 l_:(List z6)
 deriving DecidableEq,Repr
structure zD where
 is_:Bool
 lo_:Int
 hi_:Int
 deriving DecidableEq,Repr
structure zJ where
 on_:zD
 end_:zD
 deriving DecidableEq,Repr
structure zA where
 Edge:zP
 Logs:(List (List UInt8))
 End:Int
 Text:(List UInt8)
 deriving DecidableEq,Repr
structure zj where
 Type_:Int
 N:Int
 S:(List UInt8)
 deriving DecidableEq,Repr
structure zN where
 At:Int
 Stack:(List zj)
 Slots:(List zj)
 Loops:(List Int)
 Out:zA
 Spent:Int
 Over:Bool
 E:Int
 deriving DecidableEq,Repr
structure zi where
 Cpu:zN
 code_:(List z6)
 deriving DecidableEq,Repr
structure zl where
 stack_:(List Int)
 slots_:(List Int)
 loops_:(List Int)
 deriving DecidableEq,Repr
mutual
def zm.nodes:zm→Nat
 | ⟨_,_,_,_,_,l⟩=>1+z2W l
def z2W:List zm→Nat
 | []=>0
 | x::r=>x.nodes+z2W r
end
def costH (x:zm):Option Int:=need (x.nodes<2 ^ 62) (some (x.nodes:Int))
def z4V (from_0:Int) (to_1:Int):Option (Unit):=
 some ()
def z6d  : Option (Unit):=
 obind (z4V 1 1) fun r2=>
 obind (z4V 3 3) fun r6=>
 some ()
def z5M (x_0:Int) (a_1:Int):Option (Bool):=
 some (decide (x_0≠a_1))
abbrev z3C (s_0:(List Int)) (f_1_0:Int):(Int)→Option (Lp (Int) (Lp (Unit) (Int))):=
 fun s_5=>
  cond (decide (s_5<(s_0.length:Int)))
   (idx s_0 s_5 fun x11=>
   obind (z5M x11 f_1_0) fun r12=>
   cond r12
    (some (.stop (.stop s_5)))
    (some (.go (IntKind.i64.wrap (s_5+1)))))
   (some (.stop (.go ())))
@[irreducible] def z3c (n : Nat) (s_0 : (List Int)) (f_1_0 : Int) : Option (Int) :=
  bindJ (S:=Unit)
    (iter (z3C s_0 f_1_0) n 0)
  (fun _=>
    some (-1))
@[irreducible] def z2J (n : Nat) (s_0 : (List Int)) (f_1_0 : Int) : Option (Bool) :=
  obind (z3c n s_0 f_1_0) fun r1=>
  some (decide (0≤r1))
def z6R (n:Nat) (l_0:(List Int)) (kind_1:Int):Option (Bool):=
 obind (z2J n l_0 kind_1) fun r2=>
 some (!r2)
def zI (n:Nat) (l_0:(List Int)) (a_1:Int) (a_2:Int):Option (Int):=
 obind (z6R n l_0 a_1) fun r1=>
 cond r1
  (some a_2)
  (some 0)
def z2s (n:Nat) (l_0:(List Int)):Option (Int):=
 idx l_0 0 fun x1=>
 obind (z6R n l_0 x1) fun r2=>
 cond (r2 && decide (x1≠3))
  (some x1)
  (some 0)
def z11 (n:Nat) (l_0:(List Int)):Option (Int):=
 obind (z2s n l_0) fun r1=>
 cond (decide (r1≠0))
  (some 3)
  (some 0)
def z1l (n:Nat) (l_0:(List Int)):Option (Int):=
 idx l_0 0 fun x1=>
 obind (z6R n l_0 x1) fun r2=>
 cond r2
  (some 3)
  (some 0)
@[irreducible] def z2k (n : Nat) (t_0_0 : (List zk)) (t_0_2 : (List Int)) (op_1 : Int) (l_2 : (List Int)) : Option (Int) :=
  obind (z6d) fun r1=>
  cond (decide (op_1=8))
    (cond (decide ((l_2.length:Int)=0))
      (some 0)
      (obind (zI n l_2 1 1) fun r11=>
      some r11))
    (cond (decide (op_1=11))
      (cond (decide ((l_2.length:Int)=0))
        (some 0)
        (obind (zI n l_2 1 1) fun r15=>
        some r15))
      (cond (decide (op_1=12))
        (cond (decide ((l_2.length:Int)=0))
          (some 0)
          (obind (zI n l_2 1 1) fun r19=>
          some r19))
        (cond (decide (op_1=13))
          (cond (decide ((l_2.length:Int)=0))
            (some 0)
            (obind (zI n l_2 1 1) fun r23=>
            some r23))
          (cond (decide (op_1=14))
            (cond (decide ((l_2.length:Int)=0))
              (some 0)
              (obind (zI n l_2 1 1) fun r27=>
              some r27))
            (cond (decide (op_1=10))
              (cond (decide ((l_2.length:Int)=0))
                (some 0)
                (obind (z2s n l_2) fun r31=>
                some r31))
              (cond (decide (op_1=15))
                (cond (decide ((l_2.length:Int)=0))
                  (some 0)
                  (obind (z11 n l_2) fun r35=>
                  some r35))
                (cond (decide (op_1=16))
                  (cond (decide ((l_2.length:Int)=0))
                    (some 0)
                    (obind (z11 n l_2) fun r39=>
                    some r39))
                  (cond (decide (op_1=17))
                    (cond (decide ((l_2.length:Int)=0))
                      (some 0)
                      (obind (z11 n l_2) fun r43=>
                      some r43))
                    (cond (decide (op_1=18))
                      (cond (decide ((l_2.length:Int)=0))
                        (some 0)
                        (obind (z11 n l_2) fun r47=>
                        some r47))
                      (cond (decide (op_1=19))
                        (cond (decide ((l_2.length:Int)=0))
                          (some 0)
                          (obind (z1l n l_2) fun r51=>
                          some r51))
                        (cond (decide (op_1=20))
                          (cond (decide ((l_2.length:Int)=0))
                            (some 0)
                            (obind (z1l n l_2) fun r55=>
                            some r55))
                          (cond (decide (op_1=23))
                            (cond (decide ((l_2.length:Int)=0))
                              (some 0)
                              (obind (z1l n l_2) fun r59=>
                              some r59))
                            (cond (decide (op_1=9))
                              (cond (decide ((l_2.length:Int)=0))
                                (some 0)
                                (obind (zI n l_2 3 3) fun r63=>
                                some r63))
                              (cond (decide (op_1=21))
                                (cond (decide ((l_2.length:Int)=0))
                                  (some 0)
                                  (obind (zI n l_2 3 3) fun r67=>
                                  some r67))
                                (cond (decide (op_1=22))
                                  (cond (decide ((l_2.length:Int)=0))
                                    (some 0)
                                    (obind (zI n l_2 3 3) fun r71=>
                                    some r71))
                                  (some 0))))))))))))))))
@[irreducible] def z1b (n : Nat) (t_0_0 : (List zk)) (t_0_1_0_0 : Int) (t_0_1_0_1 : Int) (t_0_1_13_0 : Int) (t_0_1_13_1 : Int) (t_0_2 : (List Int)) (op_1 : Int) (l_2 : (List Int)) : Option (Int) :=
  cond (decide (op_1=8))
    (cond (decide ((l_2.length:Int)=0))
      (some 0)
      (obind (zI n l_2 t_0_1_0_0 t_0_1_0_1) fun r3=>
      some r3))
    (cond (decide (op_1=11))
      (cond (decide ((l_2.length:Int)=0))
        (some 0)
        (obind (zI n l_2 t_0_1_0_0 t_0_1_0_1) fun r7=>
        some r7))
      (cond (decide (op_1=12))
        (cond (decide ((l_2.length:Int)=0))
          (some 0)
          (obind (zI n l_2 t_0_1_0_0 t_0_1_0_1) fun r11=>
          some r11))
        (cond (decide (op_1=13))
          (cond (decide ((l_2.length:Int)=0))
            (some 0)
            (obind (zI n l_2 t_0_1_0_0 t_0_1_0_1) fun r15=>
            some r15))
          (cond (decide (op_1=14))
            (cond (decide ((l_2.length:Int)=0))
              (some 0)
              (obind (zI n l_2 t_0_1_0_0 t_0_1_0_1) fun r19=>
              some r19))
            (cond (decide (op_1=10))
              (cond (decide ((l_2.length:Int)=0))
                (some 0)
                (obind (z2s n l_2) fun r23=>
                some r23))
              (cond (decide (op_1=15))
                (cond (decide ((l_2.length:Int)=0))
                  (some 0)
                  (obind (z11 n l_2) fun r27=>
                  some r27))
                (cond (decide (op_1=16))
                  (cond (decide ((l_2.length:Int)=0))
                    (some 0)
                    (obind (z11 n l_2) fun r31=>
                    some r31))
                  (cond (decide (op_1=17))
                    (cond (decide ((l_2.length:Int)=0))
                      (some 0)
                      (obind (z11 n l_2) fun r35=>
                      some r35))
                    (cond (decide (op_1=18))
                      (cond (decide ((l_2.length:Int)=0))
                        (some 0)
                        (obind (z11 n l_2) fun r39=>
                        some r39))
                      (cond (decide (op_1=19))
                        (cond (decide ((l_2.length:Int)=0))
                          (some 0)
                          (obind (z1l n l_2) fun r43=>
                          some r43))
                        (cond (decide (op_1=20))
                          (cond (decide ((l_2.length:Int)=0))
                            (some 0)
                            (obind (z1l n l_2) fun r47=>
                            some r47))
                          (cond (decide (op_1=23))
                            (cond (decide ((l_2.length:Int)=0))
                              (some 0)
                              (obind (z1l n l_2) fun r51=>
                              some r51))
                            (cond (decide (op_1=9))
                              (cond (decide ((l_2.length:Int)=0))
                                (some 0)
                                (obind (zI n l_2 t_0_1_13_0 t_0_1_13_1) fun r55=>
                                some r55))
                              (cond (decide (op_1=21))
                                (cond (decide ((l_2.length:Int)=0))
                                  (some 0)
                                  (obind (zI n l_2 t_0_1_13_0 t_0_1_13_1) fun r59=>
                                  some r59))
                                (cond (decide (op_1=22))
                                  (cond (decide ((l_2.length:Int)=0))
                                    (some 0)
                                    (obind (zI n l_2 t_0_1_13_0 t_0_1_13_1) fun r63=>
                                    some r63))
                                  (some 0))))))))))))))))
@[irreducible] def z24 (n : Nat) (t_0_0 : (List zk)) (op_1 : Int) (l_2 : (List Int)) : Option (Int) :=
  obind (z6d) fun r1=>
  cond (decide (op_1=8))
    (cond (decide ((l_2.length:Int)=0))
      (some 0)
      (obind (zI n l_2 1 1) fun r11=>
      some r11))
    (cond (decide (op_1=11))
      (cond (decide ((l_2.length:Int)=0))
        (some 0)
        (obind (zI n l_2 1 1) fun r15=>
        some r15))
      (cond (decide (op_1=12))
        (cond (decide ((l_2.length:Int)=0))
          (some 0)
          (obind (zI n l_2 1 1) fun r19=>
          some r19))
        (cond (decide (op_1=13))
          (cond (decide ((l_2.length:Int)=0))
            (some 0)
            (obind (zI n l_2 1 1) fun r23=>
            some r23))
          (cond (decide (op_1=14))
            (cond (decide ((l_2.length:Int)=0))
              (some 0)
              (obind (zI n l_2 1 1) fun r27=>
              some r27))
            (cond (decide (op_1=10))
              (cond (decide ((l_2.length:Int)=0))
                (some 0)
                (obind (z2s n l_2) fun r31=>
                some r31))
              (cond (decide (op_1=15))
                (cond (decide ((l_2.length:Int)=0))
                  (some 0)
                  (obind (z11 n l_2) fun r35=>
                  some r35))
                (cond (decide (op_1=16))
                  (cond (decide ((l_2.length:Int)=0))
                    (some 0)
                    (obind (z11 n l_2) fun r39=>
                    some r39))
                  (cond (decide (op_1=17))
                    (cond (decide ((l_2.length:Int)=0))
                      (some 0)
                      (obind (z11 n l_2) fun r43=>
                      some r43))
                    (cond (decide (op_1=18))
                      (cond (decide ((l_2.length:Int)=0))
                        (some 0)
                        (obind (z11 n l_2) fun r47=>
                        some r47))
                      (cond (decide (op_1=19))
                        (cond (decide ((l_2.length:Int)=0))
                          (some 0)
                          (obind (z1l n l_2) fun r51=>
                          some r51))
                        (cond (decide (op_1=20))
                          (cond (decide ((l_2.length:Int)=0))
                            (some 0)
                            (obind (z1l n l_2) fun r55=>
                            some r55))
                          (cond (decide (op_1=23))
                            (cond (decide ((l_2.length:Int)=0))
                              (some 0)
                              (obind (z1l n l_2) fun r59=>
                              some r59))
                            (cond (decide (op_1=9))
                              (cond (decide ((l_2.length:Int)=0))
                                (some 0)
                                (obind (zI n l_2 3 3) fun r63=>
                                some r63))
                              (cond (decide (op_1=21))
                                (cond (decide ((l_2.length:Int)=0))
                                  (some 0)
                                  (obind (zI n l_2 3 3) fun r67=>
                                  some r67))
                                (cond (decide (op_1=22))
                                  (cond (decide ((l_2.length:Int)=0))
                                    (some 0)
                                    (obind (zI n l_2 3 3) fun r71=>
                                    some r71))
                                  (some 0))))))))))))))))
@[irreducible] def z1C (n : Nat) (t_0_0 : (List zk)) (t_0_1_0_0 : Int) (t_0_1_0_1 : Int) (t_0_1_13_0 : Int) (t_0_1_13_1 : Int) (op_1 : Int) (l_2 : (List Int)) : Option (Int) :=
  cond (decide (op_1=8))
    (cond (decide ((l_2.length:Int)=0))
      (some 0)
      (obind (zI n l_2 t_0_1_0_0 t_0_1_0_1) fun r3=>
      some r3))
    (cond (decide (op_1=11))
      (cond (decide ((l_2.length:Int)=0))
        (some 0)
        (obind (zI n l_2 t_0_1_0_0 t_0_1_0_1) fun r7=>
        some r7))
      (cond (decide (op_1=12))
        (cond (decide ((l_2.length:Int)=0))
          (some 0)
          (obind (zI n l_2 t_0_1_0_0 t_0_1_0_1) fun r11=>
          some r11))
        (cond (decide (op_1=13))
          (cond (decide ((l_2.length:Int)=0))
            (some 0)
            (obind (zI n l_2 t_0_1_0_0 t_0_1_0_1) fun r15=>
            some r15))
          (cond (decide (op_1=14))
            (cond (decide ((l_2.length:Int)=0))
              (some 0)
              (obind (zI n l_2 t_0_1_0_0 t_0_1_0_1) fun r19=>
              some r19))
            (cond (decide (op_1=10))
              (cond (decide ((l_2.length:Int)=0))
                (some 0)
                (obind (z2s n l_2) fun r23=>
                some r23))
              (cond (decide (op_1=15))
                (cond (decide ((l_2.length:Int)=0))
                  (some 0)
                  (obind (z11 n l_2) fun r27=>
                  some r27))
                (cond (decide (op_1=16))
                  (cond (decide ((l_2.length:Int)=0))
                    (some 0)
                    (obind (z11 n l_2) fun r31=>
                    some r31))
                  (cond (decide (op_1=17))
                    (cond (decide ((l_2.length:Int)=0))
                      (some 0)
                      (obind (z11 n l_2) fun r35=>
                      some r35))
                    (cond (decide (op_1=18))
                      (cond (decide ((l_2.length:Int)=0))
                        (some 0)
                        (obind (z11 n l_2) fun r39=>
                        some r39))
                      (cond (decide (op_1=19))
                        (cond (decide ((l_2.length:Int)=0))
                          (some 0)
                          (obind (z1l n l_2) fun r43=>
                          some r43))
                        (cond (decide (op_1=20))
                          (cond (decide ((l_2.length:Int)=0))
                            (some 0)
                            (obind (z1l n l_2) fun r47=>
                            some r47))
                          (cond (decide (op_1=23))
                            (cond (decide ((l_2.length:Int)=0))
                              (some 0)
                              (obind (z1l n l_2) fun r51=>
                              some r51))
                            (cond (decide (op_1=9))
                              (cond (decide ((l_2.length:Int)=0))
                                (some 0)
                                (obind (zI n l_2 t_0_1_13_0 t_0_1_13_1) fun r55=>
                                some r55))
                              (cond (decide (op_1=21))
                                (cond (decide ((l_2.length:Int)=0))
                                  (some 0)
                                  (obind (zI n l_2 t_0_1_13_0 t_0_1_13_1) fun r59=>
                                  some r59))
                                (cond (decide (op_1=22))
                                  (cond (decide ((l_2.length:Int)=0))
                                    (some 0)
                                    (obind (zI n l_2 t_0_1_13_0 t_0_1_13_1) fun r63=>
                                    some r63))
                                  (some 0))))))))))))))))
def operC (x:zw) (op:Int) (l:List Int):Option (Int×zw):=(fun n=>z1b n x.typer_.vars_ 1 1 3 3 x.kinds_ op l) (l.length+9) |>.map fun r=>(r,x)
def operY (x:zz) (op:Int) (l:List Int):Option (Int×zz):=(fun n=>z1C n x.vars_ 1 1 3 3 op l) (l.length+9) |>.map fun r=>(r,x)
abbrev z4C (x_0:zm) (most_1:Int) (rec_ref20_SizeExpr:zm→Int→Option (Int)):(Int×Int)→Option (Lp (Int×Int) (Lp (Int) (Int))):=
 fun (n_7,k_8)=>
  cond (decide (k_8<(x_0.Args.length:Int)) && decide (n_7≤most_1))
   (idx x_0.Args k_8 fun x17=>
   obind (rec_ref20_SizeExpr x17 most_1) fun r19=>
   some (.go ((IntKind.i64.wrap (n_7+r19)),(IntKind.i64.wrap (k_8+1)))))
   (some (.stop (.go n_7)))
def z3a (n:Nat) (rec_ref20_SizeExpr:zm→Int→Option (Int)) (x_0:zm) (most_1:Int):Option (Int):=
 bindJ (S:=Int)
  (iter (z4C x_0 most_1 rec_ref20_SizeExpr) n (1,0))
 (fun n_2=>
  some n_2)
def z3A:Nat→zm→Int→Option (Int)
 | 0=>fun _ _=>none
 | n+1=>z3a n  (z3A n )
abbrev z6n (n:Nat) (l_0:(List z7)) (most_1:Int) (rec_ref20_Size:(List z7)→Int→Option (Int)):(Int×Int)→Option (Lp (Int×Int) (Lp (Int) (Int))):=
 fun (n_6,k_7)=>
  cond (decide (k_7<(l_0.length:Int)) && decide (n_6≤most_1))
   (idx l_0 k_7 fun x16=>
   obind (z3A n x16.X most_1) fun r20=>
   obind (rec_ref20_Size x16.Body most_1) fun r22=>
   obind (rec_ref20_Size x16.Else most_1) fun r24=>
   some (.go ((IntKind.i64.wrap ((IntKind.i64.wrap ((IntKind.i64.wrap ((IntKind.i64.wrap (n_6+1))+r20))+r22))+r24)),(IntKind.i64.wrap (k_7+1)))))
   (some (.stop (.go n_6)))
def z4g (n:Nat) (rec_ref20_Size:(List z7)→Int→Option (Int)) (l_0:(List z7)) (most_1:Int):Option (Int):=
 bindJ (S:=Int)
  (iter (z6n n l_0 most_1 rec_ref20_Size) n (0,0))
 (fun n_1=>
  some n_1)
def z4M:Nat→(List z7)→Int→Option (Int)
 | 0=>fun _ _=>none
 | n+1=>z4g n  (z4M n )
def z6P (x_0:zm):Option (Bool):=
 some (((((decide (x_0.Op=0) && decide (x_0.Type_=0)) && decide (x_0.N=0)) && decide (x_0.Slot=0)) && decide ((x_0.S.length:Int)=0)) && decide ((x_0.Args.length:Int)=0))
def z6O (x_0:zm) (vars_1:(List Int)):Option (Int):=
 cond ((decide (x_0.Op=1) && decide (0≤x_0.N)) && decide (x_0.N<1000000000000000000))
  (some 1)
  (cond ((decide (x_0.Op=2) || decide (x_0.Op=6)) && decide ((x_0.S.length:Int)≤200))
   (some 2)
   (cond (decide (x_0.Op=4) || decide (x_0.Op=5))
    (some 3)
    (cond (decide (x_0.Op=7))
     (some 1)
     (cond ((decide (x_0.Op=3) && decide (0≤x_0.Slot)) && decide (x_0.Slot<(vars_1.length:Int)))
      (idx vars_1 x_0.Slot fun x28=>
      some x28)
      (some 0)))))
abbrev z4D (l_1:(List Int)):(Int)→Option (Lp (Int) (Lp (Unit) (Int))):=
 fun k_5=>
  cond (decide (k_5<(l_1.length:Int)))
   (idx l_1 k_5 fun x11=>
   idx l_1 0 fun x12=>
   cond (decide (x11≠x12))
    (some (.stop (.stop 0)))
    (some (.go (IntKind.i64.wrap (k_5+1)))))
   (some (.stop (.go ())))
def z5r (n:Nat) (op_0:Int) (l_1:(List Int)):Option (Int):=
 bindJ (S:=Unit)
  (iter (z4D l_1) n 1)
 (fun _=>
  cond (decide ((l_1.length:Int)=0))
   (some 0)
   (idx l_1 0 fun x15=>
   cond ((((decide (op_0=8) || decide (op_0=11)) || decide (op_0=12)) || decide (op_0=13)) || decide (op_0=14))
    (cond (decide (x15=1))
     (some 1)
     (some 0))
    (cond ((decide (op_0=9) || decide (op_0=21)) || decide (op_0=22))
     (cond (decide (x15=3))
      (some 3)
      (some 0))
     (cond (decide (op_0=10))
      (cond (decide (x15=3))
       (some 0)
       (some x15))
      (cond (((decide (op_0=15) || decide (op_0=16)) || decide (op_0=17)) || decide (op_0=18))
       (cond (decide (x15=3))
        (some 0)
        (some 3))
       (cond ((decide (op_0=19) || decide (op_0=20)) || decide (op_0=23))
        (some 3)
        (some 0)))))))
abbrev z4o (x_0:zm) (vars_1:(List Int)) (deep_2:Int) (rec_ref20_RightExpr:zm→(List Int)→Int→Option (Bool)):((List Int)×Int)→Option (Lp ((List Int)×Int) (Lp ((List Int)) (Bool))):=
 fun (kinds_62,k_63)=>
  cond (decide (k_63<(x_0.Args.length:Int)))
   (idx x_0.Args k_63 fun x70=>
   obind (rec_ref20_RightExpr x70 vars_1 (IntKind.i64.wrap (deep_2+1))) fun r72=>
   cond (!r72)
    (some (.stop (.stop false)))
    (need (kinds_62.length+([x70.Type_]:List Int).length≤4294967296) (
    some (.go ((kinds_62++([x70.Type_]:List Int)),(IntKind.i64.wrap (k_63+1)))))))
   (some (.stop (.go kinds_62)))
def z2Q (n:Nat) (rec_ref20_RightExpr:zm→(List Int)→Int→Option (Bool)) (x_0:zm) (vars_1:(List Int)) (deep_2:Int):Option (Bool):=
 cond (decide (200<deep_2))
  (some false)
  (cond (((decide (x_0.Op≠1) && decide (x_0.N≠0)) || (decide (x_0.Op≠3) && decide (x_0.Slot≠0))) || ((decide (x_0.Op≠2) && decide (x_0.Op≠6)) && decide (0<(x_0.S.length:Int))))
   (some false)
   (cond (decide (1≤x_0.Op) && decide (x_0.Op≤7))
    (obind (z6O x_0 vars_1) fun r26=>
    some ((decide ((x_0.Args.length:Int)=0) && decide (r26≠0)) && decide (x_0.Type_=r26)))
    (cond ((((decide (x_0.Op=8) || decide (x_0.Op=9)) && decide ((x_0.Args.length:Int)≠1)) || ((!(decide (x_0.Op=8) || decide (x_0.Op=9))) && decide ((x_0.Args.length:Int)<2))) || (((!(decide (x_0.Op=8) || decide (x_0.Op=9))) && decide (2<(x_0.Args.length:Int))) && decide (x_0.Op≠23)))
     (some false)
     (bindJ (S:=(List Int))
      (iter (z4o x_0 vars_1 deep_2 rec_ref20_RightExpr) n (([]:List Int),0))
     (fun kinds_56=>
      obind (z5r n x_0.Op kinds_56) fun r79=>
      some (decide (r79≠0) && decide (x_0.Type_=r79)))))))
def z2r:Nat→zm→(List Int)→Int→Option (Bool)
 | 0=>fun _ _ _=>none
 | n+1=>z2Q n  (z2r n )
def z69 (kind_0:Int):Option (Int):=
 cond (decide (kind_0=4))
  (some 1)
  (cond (decide (kind_0=5))
   (some 3)
   (some 2))
abbrev z4d (n:Nat) (l_0:(List z7)) (deep_2:Int) (rec_ref20_RightBlock:(List z7)→(List Int)→Int→Option (Bool)):((List Int)×Int)→Option (Lp ((List Int)×Int) (Lp (Unit) (Bool))):=
 fun (vars_5,k_6)=>
  cond (decide (k_6<(l_0.length:Int)))
   (bindJ (S:=(List Int))
    (idx l_0 k_6 fun x19=>
    cond ((decide (200<deep_2) || decide (x19.Kind<1)) || decide (9<x19.Kind))
     (some (.stop (.stop (.stop false))))
     (cond ((((decide (x19.Kind≠3) && decide (0<(x19.Name.length:Int))) || decide (200<(x19.Name.length:Int))) || (decide (x19.Kind≠6) && decide (x19.N≠0))) || ((decide (x19.Kind≠1) && decide (x19.Kind≠2)) && decide (x19.Slot≠0)))
      (some (.stop (.stop (.stop false))))
      (cond ((decide (x19.Kind≠5) && decide (0<(x19.Else.length:Int))) || ((decide (x19.Kind≠5) && decide (x19.Kind≠6)) && decide (0<(x19.Body.length:Int))))
       (some (.stop (.stop (.stop false))))
       (bindJ (S:=Unit)
        (cond (decide (x19.Kind=6))
         (obind (z6P x19.X) fun r74=>
         cond (((!r74) || decide (x19.N<0)) || decide (1000<x19.N))
          (some (.stop (.stop (.stop (.stop false)))))
          (some (.go ())))
         (obind (z2r n x19.X vars_5 (IntKind.i64.wrap (deep_2+1))) fun r83=>
         cond (!r83)
          (some (.stop (.stop (.stop (.stop false)))))
          (some (.go ()))))
       (fun _=>
        obind (rec_ref20_RightBlock x19.Body vars_5 (IntKind.i64.wrap (deep_2+1))) fun r86=>
        obind (rec_ref20_RightBlock x19.Else vars_5 (IntKind.i64.wrap (deep_2+1))) fun r88=>
        cond ((!r86) || (!r88))
         (some (.stop (.stop (.stop false))))
         (cond (decide (x19.Kind=1))
          (cond (decide (x19.Slot≠(vars_5.length:Int)) || decide (200≤(vars_5.length:Int)))
           (some (.stop (.stop (.stop false))))
           (need (([]:List Int).length+vars_5.length≤4294967296) (
           need ((([]:List Int)++vars_5).length+([x19.X.Type_]:List Int).length≤4294967296) (
           some (.go ((([]:List Int)++vars_5)++([x19.X.Type_]:List Int)))))))
          (cond (decide (x19.Kind=2))
           (bindJ (S:=Bool)
            (cond (decide (x19.Slot<0) || decide ((vars_5.length:Int)≤x19.Slot))
             (some (.go true))
             (idx vars_5 x19.Slot fun x115=>
             some (.go (decide (x115≠x19.X.Type_)))))
           (fun b109=>
            cond b109
             (some (.stop (.stop (.stop false))))
             (some (.go vars_5))))
           (bindJ (S:=Bool)
            (cond (decide (x19.Kind≠6))
             (obind (z69 x19.Kind) fun r123=>
             some (.go (decide (x19.X.Type_≠r123))))
             (some (.go false)))
           (fun s_117=>
            cond s_117
             (some (.stop (.stop (.stop false))))
             (some (.go vars_5)))))))))))
   (fun vars_13=>
    some (.go (vars_13,(IntKind.i64.wrap (k_6+1))))))
   (some (.stop (.go ())))
def z2y (n:Nat) (rec_ref20_RightBlock:(List z7)→(List Int)→Int→Option (Bool)) (l_0:(List z7)) (vars_1:(List Int)) (deep_2:Int):Option (Bool):=
 bindJ (S:=Unit)
  (iter (z4d n l_0 deep_2 rec_ref20_RightBlock) n (vars_1,0))
 (fun _=>
  some true)
def z2E:Nat→(List z7)→(List Int)→Int→Option (Bool)
 | 0=>fun _ _ _=>none
 | n+1=>z2y n  (z2E n )
abbrev z5K (p_0:zG):(Int)→Option (Lp (Int) (Lp (Unit) (Bool))):=
 fun k_6=>
  cond (decide (k_6<(p_0.Effects.length:Int)))
   (idx p_0.Effects k_6 fun x12=>
   bindJ (S:=Bool)
    (cond (decide (x12<1) || decide (6<x12))
     (some (.go true))
     (bindJ (S:=Bool)
      (cond (decide (0<k_6))
       (idx p_0.Effects k_6 fun x28=>
       idx p_0.Effects (IntKind.i64.wrap (k_6 - 1)) fun x29=>
       some (.go (decide (x28≤x29))))
       (some (.go false)))
     (fun b22=>
      some (.go b22))))
   (fun b16=>
    cond b16
     (some (.stop (.stop false)))
     (some (.go (IntKind.i64.wrap (k_6+1))))))
   (some (.stop (.go ())))
def z5w (n:Nat) (p_0:zG):Option (Bool):=
 bindJ (S:=Unit)
  (iter (z5K p_0) n 0)
 (fun _=>
  obind (z2E n p_0.Code ([]:List Int) 1) fun r31=>
  some r31)
abbrev z68 (e_0:zP):(Int)→Option (Lp (Int) (Lp (Unit) (Bool))):=
 fun k_6=>
  cond (decide (k_6<(e_0.Headers.length:Int)))
   (idx e_0.Headers k_6 fun x12=>
   cond (decide (4096<(x12.Name.length:Int)) || decide (4096<(x12.Value.length:Int)))
    (some (.stop (.stop false)))
    (some (.go (IntKind.i64.wrap (k_6+1)))))
   (some (.stop (.go ())))
def z5g (n:Nat) (e_0:zP):Option (Bool):=
 bindJ (S:=Unit)
  (iter (z68 e_0) n 0)
 (fun _=>
  some ((decide (100≤e_0.Status) && decide (e_0.Status≤599)) && decide ((e_0.Headers.length:Int)≤20)))
def z8W  : Option (Unit):=
 some ()
def z3m (b_0:Int):Option (Bool):=
 some (((decide (b_0=32) || decide (b_0=9)) || decide (b_0=10)) || decide (b_0=13))
abbrev z5P (r_0:zC):(Int)→Option (Lp (Int) (Lp (Int) ((List UInt8)×zC))):=
 fun x_6=>
  bindJ (S:=Bool)
   (cond (decide (x_6<(r_0.s_.length:Int)))
    (idx r_0.s_ x_6 fun c17=>
    obind (z3m (c17.toNat:Int)) fun r18=>
    some (.go r18))
    (some (.go false)))
  (fun s_11=>
   cond s_11
    (some (.go (IntKind.i64.wrap (x_6+1))))
    (some (.stop (.go x_6))))
@[irreducible] def z3F (n : Nat) (r_0 : zC) : Option ((List UInt8) × zC) :=
  bindJ (S:=Int)
    (iter (z5P r_0) n r_0.at_)
  (fun x_1=>
    need (0≤r_0.at_∧r_0.at_≤x_1∧x_1≤(r_0.s_.length:Int)) (
    some (((r_0.s_.take x_1.toNat).drop ((r_0.at_).toNat)),(zC.mk r_0.s_ x_1))))
abbrev z5O (n:Nat) (r_0:zC):(Unit)→Option (Lp (Unit) zC):=
 fun _=>
  obind (z3F n r_0) fun r5=>
  bindJ (S:=Bool)
   (cond (decide (r5.2.at_=(r5.2.s_.length:Int)))
    (some (.go true))
    (idx r5.2.s_ r5.2.at_ fun c13=>
    some (.go (decide ((c13.toNat:Int)≠35)))))
  (fun b7=>
   cond b7
    (some (.stop r5.2))
    (none))
def z2B (n:Nat) (r_0:zC):Option (zC):=
 iter (z5O n r_0) n ()
def z6X (b_0:Int):Option (Bool):=
 some (decide (97≤b_0) && decide (b_0≤122))
def z6k (b_0:Int):Option (Bool):=
 some (decide (48≤b_0) && decide (b_0≤57))
def z7q (b_0:Int):Option (Bool):=
 obind (z6X b_0) fun r1=>
 bindJ (S:=Bool)
  (cond r1
   (some (.go true))
   (obind (z6k b_0) fun r9=>
   some (.go r9)))
 (fun b3=>
  some (b3 || decide (b_0=95)))
abbrev z5i (r_0:zC):(Int)→Option (Lp (Int) (Lp (Int) ((List UInt8)×zC))):=
 fun x_6=>
  bindJ (S:=Bool)
   (cond (decide (x_6<(r_0.s_.length:Int)))
    (idx r_0.s_ x_6 fun c17=>
    obind (z7q (c17.toNat:Int)) fun r18=>
    some (.go r18))
    (some (.go false)))
  (fun s_11=>
   cond s_11
    (some (.go (IntKind.i64.wrap (x_6+1))))
    (some (.stop (.go x_6))))
@[irreducible] def z3f (n : Nat) (r_0 : zC) : Option ((List UInt8) × zC) :=
  bindJ (S:=Int)
    (iter (z5i r_0) n r_0.at_)
  (fun x_1=>
    need (0≤r_0.at_∧r_0.at_≤x_1∧x_1≤(r_0.s_.length:Int)) (
    some (((r_0.s_.take x_1.toNat).drop ((r_0.at_).toNat)),(zC.mk r_0.s_ x_1))))
def z8V  : Option ((List (List UInt8))):=
 obind (zc5 [97,108,108,111,119,32,97,110,100,32,99,108,105,101,110,116,115,32,99,111,115,116,32,99,111,117,110,116,114,105,101,115,32,100,101,102,97,117,108,116,32,100,101,110,121,32,100,111,119,110,32,101,102,102,101,99,116,115,32,101,108,115,101,32,102,97,108,115,101,32,102,114,101,115,104,32,102,114,111,109,32,104,101,97,100,101,114,32,105,102,32,105,110,32,108,101,116,32,108,111,103,32,110,101,103,97,116,105,118,101,32,110,111,116,32,111,114,32,112,97,116,116,101,114,110,32,112,111,108,105,99,121,32,112,114,111,103,114,97,109,32,114,101,97,100,115,32,114,101,112,101,97,116,32,114,101,112,108,121,32,114,117,108,101,32,115,101,116,32,115,105,103,110,101,100,32,115,105,116,101,115,32,115,116,97,108,101,32,115,116,97,116,117,115,32,116,97,103,115,32,116,111,32,116,114,117,101,32,117,115,101,115,32,118,97,114,121,32,119,114,105,116,101,115]) fun r1=>
 some r1
abbrev z5T (s_0:(List (List UInt8))) (v_1:(List UInt8)):(Int)→Option (Lp (Int) (Lp (Unit) (Int))):=
 fun s_5=>
  cond (decide (s_5<(s_0.length:Int)))
   (idx s_0 s_5 fun x11=>
   cond (decide (v_1=x11))
    (some (.stop (.stop s_5)))
    (some (.go (IntKind.i64.wrap (s_5+1)))))
   (some (.stop (.go ())))
def z2K (n:Nat) (s_0:(List (List UInt8))) (v_1:(List UInt8)):Option (Int):=
 bindJ (S:=Unit)
  (iter (z5T s_0 v_1) n 0)
 (fun _=>
  some (-1))
def z2l (n:Nat) (s_0:(List (List UInt8))) (v_1:(List UInt8)):Option (Bool):=
 obind (z2K n s_0 v_1) fun r1=>
 some (decide (0≤r1))
def z9H (n:Nat) (s_0:(List UInt8)):Option (Bool):=
 obind (z8V) fun r1=>
 obind (z2l n r1 s_0) fun r4=>
 some r4
def z6M (ok_0:Bool) (e_1:Int):Option (Unit):=
 cond ok_0
  (none)
  (some ())
def z3N (n:Nat) (r_0:zC):Option (zo×zC):=
 obind (z3f n r_0) fun r2=>
 obind (z9H n r2.1) fun r4=>
 cond r4
  (some ((zo.mk 2 0 r2.1),r2.2))
  (obind (z6M (decide (40<(r2.1.length:Int))) 2) fun r7=>
  some ((zo.mk 1 0 r2.1),r2.2))
abbrev z5j (r_0:zC):(Int)→Option (Lp (Int) (Lp (Int) ((List UInt8)×zC))):=
 fun x_6=>
  bindJ (S:=Bool)
   (cond (decide (x_6<(r_0.s_.length:Int)))
    (idx r_0.s_ x_6 fun c17=>
    obind (z6k (c17.toNat:Int)) fun r18=>
    some (.go r18))
    (some (.go false)))
  (fun s_11=>
   cond s_11
    (some (.go (IntKind.i64.wrap (x_6+1))))
    (some (.stop (.go x_6))))
@[irreducible] def z3g (n : Nat) (r_0 : zC) : Option ((List UInt8) × zC) :=
  bindJ (S:=Int)
    (iter (z5j r_0) n r_0.at_)
  (fun x_1=>
    need (0≤r_0.at_∧r_0.at_≤x_1∧x_1≤(r_0.s_.length:Int)) (
    some (((r_0.s_.take x_1.toNat).drop ((r_0.at_).toNat)),(zC.mk r_0.s_ x_1))))
def z3u (n:Nat) (r_0:zC):Option (zo×zC):=
 obind (z3g n r_0) fun r2=>
 cond (decide (r2.2.at_<(r2.2.s_.length:Int)))
  (idx r2.2.s_ r2.2.at_ fun c5=>
  bindJ (S:=Bool)
   (cond (decide (18<(r2.1.length:Int)))
    (some (.go true))
    (idx r2.1 0 fun c12=>
    some (.go (decide ((c12.toNat:Int)=48) && decide (1<(r2.1.length:Int))))))
  (fun b6=>
   bindJ (S:=Bool)
    (cond b6
     (some (.go true))
     (obind (z7q (c5.toNat:Int)) fun r22=>
     some (.go r22)))
   (fun b16=>
    obind (z6M (b16 || (decide (65≤(c5.toNat:Int)) && decide ((c5.toNat:Int)≤90))) 181) fun r30=>
    some ((zo.mk 3 0 r2.1),r2.2))))
  (none)
def z6r (b_0:Int):Option (Bool):=
 some (decide (b_0=34))
abbrev z5W (r_0:zC):((List UInt8)×Int)→Option (Lp ((List UInt8)×Int) (Lp ((List UInt8)×Int) (zo×zC))):=
 fun (out_9,x_10)=>
  bindJ (S:=Bool)
   (cond (decide (x_10<(r_0.s_.length:Int)))
    (idx r_0.s_ x_10 fun c22=>
    some (.go (decide ((c22.toNat:Int)≠34))))
    (some (.go false)))
  (fun b16=>
   cond b16
    (idx r_0.s_ x_10 fun c24=>
    cond (decide ((c24.toNat:Int)=92))
     (none)
     (obind (z6M (decide ((c24.toNat:Int)<32) || decide (126<(c24.toNat:Int))) 182) fun r29=>
     need (out_9.length+([c24]:List UInt8).length≤4294967296) (
     some (.go ((out_9++([c24]:List UInt8)),(IntKind.i64.wrap (x_10+1)))))))
    (some (.stop (.go (out_9,x_10)))))
def z3P (n:Nat) (r_0:zC):Option (zo×zC):=
 bindJ (S:=(List UInt8)×Int)
  (iter (z5W r_0) n (([]:List UInt8),(IntKind.i64.wrap (r_0.at_+1))))
 (fun (out_2,x_3)=>
  bindJ (S:=Bool)
   (cond (decide ((r_0.s_.length:Int)≤x_3))
    (some (.go true))
    (some (.go (decide (200<(out_2.length:Int))))))
  (fun s_34=>
   obind (z6M s_34 182) fun r40=>
   some ((zo.mk 4 0 out_2),(zC.mk r_0.s_ (IntKind.i64.wrap (x_3+1))))))
def z6s (a_0:Int):Option (Bool):=
 some true
def z3O (n:Nat) (r_0:zC):Option (zo×zC):=
 need (0≤r_0.at_∧r_0.at_≤(min (IntKind.i64.wrap (r_0.at_+2)) (r_0.s_.length:Int))∧(min (IntKind.i64.wrap (r_0.at_+2)) (r_0.s_.length:Int))≤(r_0.s_.length:Int)) (
 bindJ (S:=Bool)
  (cond (decide ((((r_0.s_.take (((min (IntKind.i64.wrap (r_0.at_+2)) (r_0.s_.length:Int))).toNat)).drop ((r_0.at_).toNat)).length:Int)=2))
   (obind (zc5 [61,61,32,33,61,32,60,61,32,62,61,32,46,46]) fun r9=>
   obind (z2l n r9 ((r_0.s_.take (((min (IntKind.i64.wrap (r_0.at_+2)) (r_0.s_.length:Int))).toNat)).drop ((r_0.at_).toNat))) fun r12=>
   some (.go r12))
   (some (.go false)))
 (fun b3=>
  cond b3
   (none)
   (need (0≤r_0.at_∧r_0.at_≤(IntKind.i64.wrap (r_0.at_+1))∧(IntKind.i64.wrap (r_0.at_+1))≤(r_0.s_.length:Int)) (
   bindJ (S:=Bool)
    (cond (decide ((1:Int)=1))
     (idx ((r_0.s_.take (((IntKind.i64.wrap (r_0.at_+1))).toNat)).drop ((r_0.at_).toNat)) 0 fun c22=>
     obind (idxH [123,125,40,41,91,93,44,59,58,61,60,62,43,45,42,47,37] (c22.toNat:Int)) fun r23=>
     some (.go (decide (r23<0))))
     (some (.go false)))
   (fun b16=>
    obind (z6M b16 180) fun r25=>
    some ((zo.mk 5 0 ((r_0.s_.take (((IntKind.i64.wrap (r_0.at_+1))).toNat)).drop ((r_0.at_).toNat))),(zC.mk r_0.s_ (IntKind.i64.wrap (r_0.at_+1)))))))))
abbrev za8 (n:Nat) (s_0:(List UInt8)):((List zo)×(List UInt8)×Int×Int)→Option (Lp ((List zo)×(List UInt8)×Int×Int) (Lp ((List zo)) ((List zo)×z13))):=
 fun (x_17,x_18,x_19,x_20)=>
  cond (decide (x_19<(s_0.length:Int)))
   (bindJ (S:=(List zo)×(List UInt8)×Int×Int)
    (idx s_0 x_19 fun c39=>
    obind (z6X (c39.toNat:Int)) fun r40=>
    cond r40
     (obind (z3N n (zC.mk x_18 x_19)) fun r43=>
     need (x_17.length+([(zo.mk r43.1.Kind x_19 r43.1.S)]:List zo).length≤4294967296) (
     some (.go ((x_17++([(zo.mk r43.1.Kind x_19 r43.1.S)]:List zo)),r43.2.s_,r43.2.at_,x_19))))
     (idx s_0 x_19 fun c53=>
     obind (z6k (c53.toNat:Int)) fun r54=>
     cond r54
      (obind (z3u n (zC.mk x_18 x_19)) fun r57=>
      need (x_17.length+([(zo.mk r57.1.Kind x_19 r57.1.S)]:List zo).length≤4294967296) (
      some (.go ((x_17++([(zo.mk r57.1.Kind x_19 r57.1.S)]:List zo)),r57.2.s_,r57.2.at_,x_19))))
      (idx s_0 x_19 fun c67=>
      obind (z6r (c67.toNat:Int)) fun r68=>
      cond r68
       (obind (z3P n (zC.mk x_18 x_19)) fun r71=>
       need (x_17.length+([(zo.mk r71.1.Kind x_19 r71.1.S)]:List zo).length≤4294967296) (
       some (.go ((x_17++([(zo.mk r71.1.Kind x_19 r71.1.S)]:List zo)),r71.2.s_,r71.2.at_,x_19))))
       (idx s_0 x_19 fun c81=>
       obind (z6s (c81.toNat:Int)) fun r82=>
       cond r82
        (obind (z3O n (zC.mk x_18 x_19)) fun r85=>
        need (x_17.length+([(zo.mk r85.1.Kind x_19 r85.1.S)]:List zo).length≤4294967296) (
        some (.go ((x_17++([(zo.mk r85.1.Kind x_19 r85.1.S)]:List zo)),r85.2.s_,r85.2.at_,x_19))))
        (some (.go (x_17,x_18,x_19,x_19)))))))
   (fun (x_27,x_28,x_29,x_30)=>
    obind (z2B n (zC.mk x_28 x_29)) fun r92=>
    some (.go (x_27,r92.s_,r92.at_,x_30))))
   (some (.stop (.go x_17)))
def z8j (n:Nat) (s_0:(List UInt8)):Option ((List zo)×z13):=
 cond (decide (65536<(s_0.length:Int)))
  (none)
  (obind (z8W) fun r6=>
  bindJ (S:=(List zo))
   (obind (z2B n (zC.mk s_0 0)) fun r15=>
   iter (za8 n s_0) n (([]:List zo),r15.s_,r15.at_,0))
  (fun x_9=>
   some (x_9,(z13.mk 0 0))))
def z6u (t_0:zo) (a_1:Int):Option (Bool×Int):=
 cond (decide (40<a_1))
  (none)
  (bindJ (S:=Int)
   (cond (decide (t_0.Kind=5))
    (cond (decide (t_0.S=[40]))
     (none)
     (cond (decide (t_0.S=[123]))
      (some (.go (IntKind.i64.wrap (a_1+1))))
      (cond (decide (t_0.S=[41]))
       (none)
       (cond (decide (t_0.S=[125]))
        (some (.go (IntKind.i64.wrap (a_1 - 1))))
        (some (.go a_1))))))
    (some (.go a_1)))
  (fun x_3=>
   some (false,x_3)))
abbrev z3j (s_0:(List zo)):(Int×Int)→Option (Lp (Int×Int) (Lp (Int) (Int×Int))):=
 fun (s_6,x_7)=>
  cond (decide (s_6<(s_0.length:Int)))
   (idx s_0 s_6 fun x13=>
   obind (z6u x13 x_7) fun r14=>
   cond r14.1
    (none)
    (some (.go ((IntKind.i64.wrap (s_6+1)),r14.2))))
   (some (.stop (.go x_7)))
def z1p (n:Nat) (s_0:(List zo)) (f_1_0:Int):Option (Int×Int):=
 bindJ (S:=Int)
  (iter (z3j s_0) n (0,f_1_0))
 (fun x_1=>
  some ((-1),x_1))
def z8X (n:Nat) (l_0:(List zo)):Option (Int):=
 obind (z1p n l_0 0) fun r2=>
 some r2.1
def zO (r_0:z8):Option (zo):=
 cond (decide (r_0.i_<(r_0.l_.length:Int)))
  (idx r_0.l_ r_0.i_ fun x3=>
  some x3)
  (none)
def z42 (r_0:z8) (kind_1:Int) (s_2:(List UInt8)):Option (Bool):=
 obind (zO r_0) fun r1=>
 some (decide (r1.Kind=kind_1) && decide (r1.S=s_2))
def zT (r_0:z8) (kind_1:Int) (s_2:(List UInt8)):Option (Bool×z8):=
 obind (z42 r_0 kind_1 s_2) fun r1=>
 bindJ (S:=Int)
  (cond r1
   (some (.go (IntKind.i64.wrap (r_0.i_+1))))
   (some (.go r_0.i_)))
 (fun x_3=>
  some (r1,(z8.mk r_0.l_ x_3 r_0.at_)))
def z27 (r_0:z8) (kind_1:Int):Option ((List UInt8)×z8):=
 obind (zO r_0) fun r1=>
 cond (decide (r1.Kind≠kind_1))
  (none)
  (some (r1.S,(z8.mk r_0.l_ (IntKind.i64.wrap (r_0.i_+1)) r_0.at_)))
def z67  : Option ((List (List UInt8))):=
 some ([[114,101,97,100,115],[119,114,105,116,101,115],[115,116,97,116,117,115],[108,111,103],[100,101,110,121],[114,101,112,108,121]]:List (List UInt8))
def z2o (n:Nat) (r_0:z8):Option (Int×z8):=
 obind (zO r_0) fun r1=>
 obind (z67) fun r4=>
 obind (z2K n r4 r1.S) fun r7=>
 cond (decide (r1.Kind≠2) || decide ((IntKind.i64.wrap (1+r7))=0))
  (none)
  (some ((IntKind.i64.wrap (1+r7)),(z8.mk r_0.l_ (IntKind.i64.wrap (r_0.i_+1)) r_0.at_)))
abbrev z7M (n:Nat):((List Int)×(List zo)×Int×Int)→Option (Lp ((List Int)×(List zo)×Int×Int) (Lp ((List Int)×(List zo)×Int×Int) ((List Int)×z8))):=
 fun (out_15,x_16,x_17,x_18)=>
  obind (zT (z8.mk x_16 x_17 x_18) 5 [44]) fun r25=>
  cond r25.1
   (obind (z2o n r25.2) fun r29=>
   need (out_15.length+([r29.1]:List Int).length≤4294967296) (
   some (.go ((out_15++([r29.1]:List Int)),r29.2.l_,r29.2.i_,r29.2.at_))))
   (some (.stop (.go (out_15,r25.2.l_,r25.2.i_,r25.2.at_))))
def z5J (n:Nat) (r_0:z8):Option ((List Int)×z8):=
 obind (z2o n r_0) fun r1=>
 bindJ (S:=(List Int)×(List zo)×Int×Int)
  (iter (z7M n) n (([r1.1]:List Int),r1.2.l_,r1.2.i_,r1.2.at_))
 (fun (out_5,x_6,x_7,x_8)=>
  some (out_5,(z8.mk x_6 x_7 x_8)))
def z26 (r_0:z8) (kind_1:Int) (s_2:(List UInt8)):Option (z8):=
 obind (zT r_0 kind_1 s_2) fun r1=>
 cond (!r1.1)
  (none)
  (some r1.2)
def z3G (r_0:z8):Option (zK×z8):=
 obind (zO r_0) fun r2=>
 bindJ (S:=Int)
  (cond (decide (r2.Kind=3))
   (some (.go 1))
   (cond (decide (r2.Kind=4))
    (some (.go 2))
    (cond (decide (r2.Kind=1))
     (some (.go 3))
     (none))))
 (fun x_6=>
  cond (decide (0<x_6))
   (cond (decide (x_6=6))
    (none)
    (some ((zK.mk x_6 r2.At r2.S ([]:List zK)),(z8.mk r_0.l_ (IntKind.i64.wrap (r_0.i_+1)) r_0.at_))))
   (none))
@[irreducible] def z2R (r_0 : z8) (op_1 : Int) (kind_2 : Int) (s_3 : (List UInt8)) : Option (zK × z8) :=
  obind (zO r_0) fun r2=>
  obind (zT r_0 kind_2 s_3) fun r4=>
  cond (!r4.1)
    (obind (z3G r4.2) fun r8=>
    some (r8.1,r8.2))
    (none)
def z3w (r_0:z8):Option (zK×z8):=
 obind (z2R r_0 8 5 [45]) fun r2=>
 some (r2.1,r2.2)
def z8o  : Option ((List ((List UInt8)×Int))):=
 some (mput (mput (mput (mput (mput (mput (mput (mput (mput (mput (mput (mput (mput ([]:(List ((List UInt8)×Int))) [43] (10:Int)) [45] (11:Int)) [42] (12:Int)) [47] (13:Int)) [37] (14:Int)) [60] (15:Int)) [62] (16:Int)) [60,61] (17:Int)) [62,61] (18:Int)) [61,61] (19:Int)) [33,61] (20:Int)) [97,110,100] (21:Int)) [111,114] (22:Int))
def z1i (r_0:z8) (from_1:Int) (to_2:Int):Option (Int):=
 obind (zO r_0) fun r1=>
 cond (decide (r1.Kind≠5) && decide (r1.Kind≠2))
  (none)
  (obind (z8o) fun r8=>
  cond (decide (from_1≤((mget r8 r1.S).getD 0)) && decide (((mget r8 r1.S).getD 0)≤to_2))
   (some ((mget r8 r1.S).getD 0))
   (some 0))
abbrev z58 (from_1:Int) (to_2:Int) (r2:zK×z8):(Unit)→Option (Lp (Unit) (zK×z8)):=
 fun _=>
  obind (z1i r2.2 from_1 to_2) fun r12=>
  obind (zO r2.2) fun r14=>
  cond (decide (r12=0))
   (some (.stop (r2.1,r2.2)))
   (none)
@[irreducible] def z33 (n : Nat) (r_0 : z8) (from_1 : Int) (to_2 : Int) : Option (zK × z8) :=
  obind (z3w r_0) fun r2=>
  iter (z58 from_1 to_2 r2) n ()
def z3i (n:Nat) (r_0:z8):Option (zK×z8):=
 obind (z33 n r_0 12 14) fun r2=>
 some (r2.1,r2.2)
abbrev z57 (from_1:Int) (to_2:Int) (r2:zK×z8):(Unit)→Option (Lp (Unit) (zK×z8)):=
 fun _=>
  obind (z1i r2.2 from_1 to_2) fun r12=>
  obind (zO r2.2) fun r14=>
  cond (decide (r12=0))
   (some (.stop (r2.1,r2.2)))
   (none)
@[irreducible] def z32 (n : Nat) (r_0 : z8) (from_1 : Int) (to_2 : Int) : Option (zK × z8) :=
  obind (z3i n r_0) fun r2=>
  iter (z57 from_1 to_2 r2) n ()
def z2L (n:Nat) (r_0:z8):Option (zK×z8):=
 obind (z32 n r_0 10 11) fun r2=>
 some (r2.1,r2.2)
def z3I (n:Nat) (r_0:z8):Option (zK×z8):=
 obind (z2L n r_0) fun r2=>
 obind (zO r2.2) fun r8=>
 obind (z1i r2.2 15 20) fun r10=>
 cond (decide (0<r10))
  (obind (z2L n (z8.mk r2.2.l_ (IntKind.i64.wrap (r2.2.i_+1)) r2.2.at_)) fun r13=>
  some ((zK.mk r10 r8.At [] ([r2.1,r13.1]:List zK)),r13.2))
  (obind (zT r2.2 2 [105,110]) fun r22=>
  cond (!r22.1)
   (some (r2.1,r22.2))
   (none))
@[irreducible] def z3o (n : Nat) (r_0 : z8) (op_1 : Int) (kind_2 : Int) (s_3 : (List UInt8)) : Option (zK × z8) :=
  obind (zO r_0) fun r2=>
  obind (zT r_0 kind_2 s_3) fun r4=>
  cond (!r4.1)
    (obind (z3I n r4.2) fun r8=>
    some (r8.1,r8.2))
    (none)
def z3T (n:Nat) (r_0:z8):Option (zK×z8):=
 obind (z3o n r_0 9 2 [110,111,116]) fun r2=>
 some (r2.1,r2.2)
abbrev z56 (from_1:Int) (to_2:Int) (r2:zK×z8):(Unit)→Option (Lp (Unit) (zK×z8)):=
 fun _=>
  obind (z1i r2.2 from_1 to_2) fun r12=>
  obind (zO r2.2) fun r14=>
  cond (decide (r12=0))
   (some (.stop (r2.1,r2.2)))
   (none)
@[irreducible] def z30 (n : Nat) (r_0 : z8) (from_1 : Int) (to_2 : Int) : Option (zK × z8) :=
  obind (z3T n r_0) fun r2=>
  iter (z56 from_1 to_2 r2) n ()
def z3Q (n:Nat) (r_0:z8):Option (zK×z8):=
 obind (z30 n r_0 21 21) fun r2=>
 some (r2.1,r2.2)
abbrev z5z (from_1:Int) (to_2:Int) (r2:zK×z8):(Unit)→Option (Lp (Unit) (zK×z8)):=
 fun _=>
  obind (z1i r2.2 from_1 to_2) fun r12=>
  obind (zO r2.2) fun r14=>
  cond (decide (r12=0))
   (some (.stop (r2.1,r2.2)))
   (none)
@[irreducible] def z3v (n : Nat) (r_0 : z8) (from_1 : Int) (to_2 : Int) : Option (zK × z8) :=
  obind (z3Q n r_0) fun r2=>
  iter (z5z from_1 to_2 r2) n ()
def z2C (n:Nat) (r_0:z8):Option (zK×z8):=
 obind (z3v n r_0 22 22) fun r2=>
 some (r2.1,r2.2)
def z1D (n:Nat) (r_0:z8):Option (zK×z8):=
 obind (z2C n r_0) fun r2=>
 obind (z26 r2.2 5 [59]) fun r8=>
 some (r2.1,r8)
def z2p (n:Nat) (r_0:z8):Option (zK×z8):=
 obind (z26 r_0 5 [61]) fun r2=>
 obind (z1D n r2) fun r5=>
 some (r5.1,r5.2)
def z3R (n:Nat) (r_0:z8) (s_1:zB):Option (z8×zB):=
 obind (z27 r_0 1) fun r1=>
 obind (z2p n r1.2) fun r4=>
 some (r4.2,(zB.mk 1 s_1.At r1.1 r4.1 s_1.Body s_1.Else))
def z3U (n:Nat) (r_0:z8) (s_1:zB):Option (z8×zB):=
 obind (zT r_0 2 [115,116,97,116,117,115]) fun r1=>
 cond r1.1
  (obind (z2p n r1.2) fun r5=>
  some (r5.2,(zB.mk 4 s_1.At s_1.Name r5.1 s_1.Body s_1.Else)))
  (none)
def z3n (n:Nat) (rec_weirgate_parser_reader_block_138:z8→Option ((List zB)×z8)) (r_0:z8) (s_1:zB):Option (z8×zB):=
 obind (z2C n r_0) fun r1=>
 obind (rec_weirgate_parser_reader_block_138 r1.2) fun r6=>
 obind (zT r6.2 2 [101,108,115,101]) fun r11=>
 cond (!r11.1)
  (some (r11.2,(zB.mk 5 s_1.At s_1.Name r1.1 r6.1 s_1.Else)))
  (none)
def z3p (rec_weirgate_parser_reader_block_138:z8→Option ((List zB)×z8)) (r_0:z8) (s_1:zB):Option (z8×zB):=
 obind (zO r_0) fun r1=>
 obind (z27 r_0 3) fun r3=>
 obind (rec_weirgate_parser_reader_block_138 r3.2) fun r6=>
 some (r6.2,(zB.mk 6 s_1.At s_1.Name (zK.mk 1 r1.At r3.1 ([]:List zK)) r6.1 s_1.Else))
def z3S (n:Nat) (r_0:z8) (s_1:zB):Option (z8×zB):=
 obind (z1D n r_0) fun r1=>
 some (r1.2,(zB.mk 7 s_1.At s_1.Name r1.1 s_1.Body s_1.Else))
def z3H (n:Nat) (r_0:z8) (s_1:zB):Option (z8×zB):=
 obind (z1D n r_0) fun r1=>
 some (r1.2,(zB.mk 8 s_1.At s_1.Name r1.1 s_1.Body s_1.Else))
def z3x (n:Nat) (r_0:z8) (s_1:zB):Option (z8×zB):=
 obind (z1D n r_0) fun r1=>
 some (r1.2,(zB.mk 9 s_1.At s_1.Name r1.1 s_1.Body s_1.Else))
def z3J (n:Nat) (rec_weirgate_parser_reader_block_138:z8→Option ((List zB)×z8)) (r_0:z8):Option (zB×z8):=
 obind (zO r_0) fun r3=>
 cond (decide (r3.S=[108,101,116]))
  (cond (decide (r3.Kind≠2) || false)
   (none)
   (obind (z3R n (z8.mk r_0.l_ (IntKind.i64.wrap (r_0.i_+1)) r_0.at_) (zB.mk 0 r3.At [] (zK.mk 0 0 [] ([]:List zK)) ([]:List zB) ([]:List zB))) fun r12=>
   some (r12.2,r12.1)))
  (cond (decide (r3.S=[115,101,116]))
   (cond (decide (r3.Kind≠2) || false)
    (none)
    (obind (z3U n (z8.mk r_0.l_ (IntKind.i64.wrap (r_0.i_+1)) r_0.at_) (zB.mk 0 r3.At [] (zK.mk 0 0 [] ([]:List zK)) ([]:List zB) ([]:List zB))) fun r27=>
    some (r27.2,r27.1)))
   (cond (decide (r3.S=[105,102]))
    (cond (decide (r3.Kind≠2) || false)
     (none)
     (obind (z3n n rec_weirgate_parser_reader_block_138 (z8.mk r_0.l_ (IntKind.i64.wrap (r_0.i_+1)) r_0.at_) (zB.mk 0 r3.At [] (zK.mk 0 0 [] ([]:List zK)) ([]:List zB) ([]:List zB))) fun r42=>
     some (r42.2,r42.1)))
    (cond (decide (r3.S=[114,101,112,101,97,116]))
     (cond (decide (r3.Kind≠2) || false)
      (none)
      (obind (z3p rec_weirgate_parser_reader_block_138 (z8.mk r_0.l_ (IntKind.i64.wrap (r_0.i_+1)) r_0.at_) (zB.mk 0 r3.At [] (zK.mk 0 0 [] ([]:List zK)) ([]:List zB) ([]:List zB))) fun r57=>
      some (r57.2,r57.1)))
     (cond (decide (r3.S=[108,111,103]))
      (cond (decide (r3.Kind≠2) || false)
       (none)
       (obind (z3S n (z8.mk r_0.l_ (IntKind.i64.wrap (r_0.i_+1)) r_0.at_) (zB.mk 0 r3.At [] (zK.mk 0 0 [] ([]:List zK)) ([]:List zB) ([]:List zB))) fun r72=>
       some (r72.2,r72.1)))
      (cond (decide (r3.S=[100,101,110,121]))
       (cond (decide (r3.Kind≠2) || false)
        (none)
        (obind (z3H n (z8.mk r_0.l_ (IntKind.i64.wrap (r_0.i_+1)) r_0.at_) (zB.mk 0 r3.At [] (zK.mk 0 0 [] ([]:List zK)) ([]:List zB) ([]:List zB))) fun r87=>
        some (r87.2,r87.1)))
       (cond (decide (r3.S=[114,101,112,108,121]))
        (cond (decide (r3.Kind≠2) || false)
         (none)
         (obind (z3x n (z8.mk r_0.l_ (IntKind.i64.wrap (r_0.i_+1)) r_0.at_) (zB.mk 0 r3.At [] (zK.mk 0 0 [] ([]:List zK)) ([]:List zB) ([]:List zB))) fun r102=>
         some (r102.2,r102.1)))
        (cond (decide (r3.Kind≠2) || true)
         (none)
         (none))))))))
abbrev z5x (n:Nat) (rec_weirgate_parser_reader_block_138:z8→Option ((List zB)×z8)):((List zB)×(List zo)×Int×Int)→Option (Lp ((List zB)×(List zo)×Int×Int) (Lp ((List zB)×(List zo)×Int×Int) ((List zB)×z8))):=
 fun (out_14,x_15,x_16,x_17)=>
  obind (zT (z8.mk x_15 x_16 x_17) 5 [125]) fun r24=>
  cond (!r24.1)
   (obind (z3J n rec_weirgate_parser_reader_block_138 r24.2) fun r28=>
   need (out_14.length+([r28.1]:List zB).length≤4294967296) (
   some (.go ((out_14++([r28.1]:List zB)),r28.2.l_,r28.2.i_,r28.2.at_))))
   (some (.stop (.go (out_14,r24.2.l_,r24.2.i_,r24.2.at_))))
def z2H (n:Nat) (rec_weirgate_parser_reader_block_138:z8→Option ((List zB)×z8)) (r_0:z8):Option ((List zB)×z8):=
 obind (z26 r_0 5 [123]) fun r1=>
 bindJ (S:=(List zB)×(List zo)×Int×Int)
  (iter (z5x n rec_weirgate_parser_reader_block_138) n (([]:List zB),r1.l_,r1.i_,r1.at_))
 (fun (out_4,x_5,x_6,x_7)=>
  some (out_4,(z8.mk x_5 x_6 x_7)))
def z2v:Nat→z8→Option ((List zB)×z8)
 | 0=>fun _=>none
 | n+1=>z2H n  (z2v n )
abbrev z5A (n:Nat):((List zo)×Int×Int×(List z1d))→Option (Lp ((List zo)×Int×Int×(List z1d)) (Lp ((List z1d)×(List zo)×Int×Int) (z2z×z8))):=
 fun (x_13,x_14,x_15,x_16)=>
  cond (decide (x_14<(x_13.length:Int)))
   (obind (zO (z8.mk x_13 x_14 x_15)) fun r24=>
   obind (zT (z8.mk x_13 ((z8.mk x_13 x_14 x_15).i_) ((z8.mk x_13 x_14 x_15).at_)) 2 [112,111,108,105,99,121]) fun r26=>
   cond r26.1
    (none)
    (obind (zT r26.2 2 [112,114,111,103,114,97,109]) fun r30=>
    cond r30.1
     (obind (z27 r30.2 1) fun r34=>
     obind (zT r34.2 2 [101,102,102,101,99,116,115]) fun r38=>
     cond r38.1
      (obind (z5J n r38.2) fun r42=>
      obind (z2v n r42.2) fun r47=>
      need (x_16.length+([(z1d.mk r34.1 r24.At r42.1 r47.1)]:List z1d).length≤4294967296) (
      some (.go (r47.2.l_,r47.2.i_,r47.2.at_,(x_16++([(z1d.mk r34.1 r24.At r42.1 r47.1)]:List z1d))))))
      (none))
     (none)))
   (some (.stop (.go (x_16,x_13,x_14,x_15))))
def z3y (n:Nat) (r_0:z8):Option (z2z×z8):=
 bindJ (S:=(List z1d)×(List zo)×Int×Int)
  (iter (z5A n) n (r_0.l_,r_0.i_,r_0.at_,([]:List z1d)))
 (fun (x_3,x_4,x_5,x_6)=>
  some ((z2z.mk ([]:List z6h) x_3),(z8.mk x_4 x_5 x_6)))
def z2X (n:Nat) (s_0:(List UInt8)):Option (z2z×z13):=
 obind (z8j n s_0) fun r3=>
 cond (decide (r3.2.E≠0))
  (none)
  (obind (z8X n r3.1) fun r7=>
  cond (decide (0≤r7))
   (none)
   (obind (z3y n (z8.mk r3.1 0 (s_0.length:Int))) fun r12=>
   cond (decide (r12.2.i_<(r3.1.length:Int)))
    (none)
    (some (r12.1,(z13.mk 0 0)))))
def z8n (n:Nat) (s_0:(List UInt8)):Option (z2z×z13):=
 obind (z2X n s_0) fun r3=>
 some (r3.1,r3.2)
abbrev z2T (s_0:(List z1d)):(Unit)→Option (Lp (Unit) (Lp (Unit) (Int))):=
 fun _=>
  cond (decide (0<(s_0.length:Int)))
   (none)
   (some (.stop (.go ())))
def z1j (n:Nat) (s_0:(List z1d)) (f_1_0:z1d):Option (Int):=
 bindJ (S:=Unit)
  (iter (z2T s_0) n ())
 (fun _=>
  some (-1))
def z1f (n:Nat) (s_0:(List z1d)) (f_1_0:z1d):Option (Bool):=
 obind (z1j n s_0 f_1_0) fun r1=>
 some (decide (0≤r1))
def z4p (is_0:Bool) (at_1:Int) (e_2:Int):Option (Unit):=
 cond is_0
  (none)
  (some ())
def z15 (s_0:(List Int)):Option ((List Int)):=
 need (([]:List Int).length+s_0.length≤4294967296) (
 some (([]:List Int)++s_0))
abbrev z6A (s_0:(List Int)):(Int)→Option (Lp (Int) (Lp (Unit) ((List Int)))):=
 fun k_6=>
  cond (decide (k_6<(s_0.length:Int)))
   (idx s_0 k_6 fun x12=>
   idx s_0 (IntKind.i64.wrap (k_6 - 1)) fun x13=>
   cond (decide (x12=x13))
    (none)
    (some (.go (IntKind.i64.wrap (k_6+1)))))
   (some (.stop (.go ())))
def z4h (n:Nat) (s_0:(List Int)):Option ((List Int)):=
 cond (decide ((s_0.length:Int)<2))
  (none)
  (bindJ (S:=Unit)
   (iter (z6A s_0) n 1)
  (fun _=>
   some s_0))
def z52 (n:Nat) (l_0:(List Int)):Option ((List Int)×Bool):=
 obind (z15 l_0) fun r1=>
 obind (sortP n r1) fun r4=>
 obind (z15 r4) fun r6=>
 obind (z4h n r6) fun r9=>
 some (r4,decide ((r9.length:Int)≠(r4.length:Int)))
def z7T (s_0:(List UInt8)):Option (Int):=
 obind (atoiH s_0) fun r1=>
 some r1.1
def z3z (v_0:zk) (a_1:(List UInt8)):Option (Bool):=
 some (decide (v_0.name_=a_1))
abbrev z2w (s_0:(List zk)) (f_1_0:(List UInt8)):(Int)→Option (Lp (Int) (Lp (Unit) (Int))):=
 fun s_5=>
  cond (decide (s_5<(s_0.length:Int)))
   (idx s_0 s_5 fun x11=>
   obind (z3z x11 f_1_0) fun r12=>
   cond r12
    (some (.stop (.stop s_5)))
    (some (.go (IntKind.i64.wrap (s_5+1)))))
   (some (.stop (.go ())))
def z19 (n:Nat) (s_0:(List zk)) (f_1_0:(List UInt8)):Option (Int):=
 bindJ (S:=Unit)
  (iter (z2w s_0 f_1_0) n 0)
 (fun _=>
  some (-1))
def z2N (n:Nat) (t_0:zz) (name_1:(List UInt8)):Option (Int):=
 obind (z19 n t_0.vars_ name_1) fun r2=>
 some r2
abbrev z5X (x_1:zK) (deep_2:Int) (rec_weirgate_typing_typer_expr_254:zz→zK→Int→Option (zm×zz)):((List Int)×Int×(List zk)×(List Rul)×(List zm))→Option (Lp ((List Int)×Int×(List zk)×(List Rul)×(List zm)) (Lp ((List Int)×(List zk)×(List Rul)×(List zm)) (zm×zz))):=
 fun (kinds_18,s_19,x_20,x_21,x_22)=>
  cond (decide (s_19<(x_1.Args.length:Int)))
   (idx x_1.Args s_19 fun x32=>
   obind (rec_weirgate_typing_typer_expr_254 (zz.mk x_20 x_21) x32 (IntKind.i64.wrap (deep_2+1))) fun r36=>
   need (x_22.length+([r36.1]:List zm).length≤4294967296) (
   need (kinds_18.length+([r36.1.Type_]:List Int).length≤4294967296) (
   some (.go ((kinds_18++([r36.1.Type_]:List Int)),(IntKind.i64.wrap (s_19+1)),r36.2.vars_,r36.2.rules_,(x_22++([r36.1]:List zm)))))))
   (some (.stop (.go (kinds_18,x_20,x_21,x_22))))
def z35 (n:Nat) (rec_weirgate_typing_typer_expr_254:zz→zK→Int→Option (zm×zz)) (t_0:zz) (x_1:zK) (deep_2:Int):Option (zm×zz):=
 obind (z4p (decide (200<deep_2)) x_1.At 2) fun r3=>
 bindJ (S:=(List Int)×(List zk)×(List Rul)×(List zm))
  (iter (z5X x_1 deep_2 rec_weirgate_typing_typer_expr_254) n (([]:List Int),0,t_0.vars_,t_0.rules_,([]:List zm)))
 (fun (kinds_6,x_7,x_8,x_9)=>
  bindJ (S:=Int×Int×Int×(List UInt8)×(List zk)×(List Rul))
   (cond (decide (x_1.Op=1))
    (obind (z7T x_1.S) fun r64=>
    some (.go (1,r64,0,[],x_7,x_8)))
    (bindJ (S:=Bool)
     (cond (decide (x_1.Op=2))
      (some (.go (decide (x_1.Op=2))))
      (some (.go (decide (x_1.Op=6)))))
    (fun s_66=>
     cond s_66
      (some (.go (2,0,0,x_1.S,x_7,x_8)))
      (cond (decide (x_1.Op=4))
       (none)
       (cond (decide (x_1.Op=5))
        (none)
        (cond (decide (x_1.Op=7))
         (none)
         (cond (decide (x_1.Op=3))
          (obind (z2N n (zz.mk x_7 x_8) x_1.S) fun r77=>
          obind (z4p (decide (r77<0)) x_1.At 5) fun r79=>
          idx ((zz.mk x_7 x_8).vars_) r77 fun x81=>
          some (.go (x81.kind_,0,r77,[],(zz.mk x_7 x_8).vars_,(zz.mk x_7 x_8).rules_)))
          (obind (operY (zz.mk x_7 x_8) x_1.Op kinds_6) fun r82=>
          obind (z4p (decide (r82.1=0)) x_1.At 201) fun r86=>
          some (.go (r82.1,0,0,[],r82.2.vars_,r82.2.rules_))))))))))
  (fun (x_51,x_52,x_53,x_54,x_55,x_56)=>
   some ((zm.mk x_1.Op x_51 x_52 x_53 x_54 x_9),(zz.mk x_55 x_56))))
def z2M:Nat→zz→zK→Int→Option (zm×zz)
 | 0=>fun _ _ _=>none
 | n+1=>z35 n  (z2M n )
def z6S (kind_0:Int):Option (Int):=
 cond (decide (kind_0=4))
  (some 1)
  (cond (decide (kind_0=5))
   (some 3)
   (some 2))
def z3V (n:Nat) (rec_weirgate_typing_typer_block_186:zz→(List zB)→Int→Option ((List z7)×zz)) (t_0:zz) (x_1:zB) (deep_2:Int):Option (z7×zz):=
 obind (z4p (decide (200<deep_2)) x_1.At 2) fun r3=>
 cond (decide (x_1.Kind=6))
  (none)
  (obind (z2M n t_0 x_1.X (IntKind.i64.wrap (deep_2+1))) fun r7=>
  obind (z2N n r7.2 x_1.Name) fun r13=>
  cond (decide (x_1.Kind=1))
   (obind (z4p (decide (0≤r13)) x_1.At 6) fun r16=>
   obind (z4p (decide (200≤(r7.2.vars_.length:Int))) x_1.At 2) fun r18=>
   need (r7.2.vars_.length+([(zk.mk x_1.Name r7.1.Type_)]:List zk).length≤4294967296) (
   some ((z7.mk x_1.Kind (r7.2.vars_.length:Int) 0 [] r7.1 ([]:List z7) ([]:List z7)),(zz.mk (r7.2.vars_++([(zk.mk x_1.Name r7.1.Type_)]:List zk)) r7.2.rules_))))
   (cond (decide (x_1.Kind=2))
    (none)
    (cond (decide (x_1.Kind=3))
     (none)
     (obind (z6S x_1.Kind) fun r27=>
     obind (z4p (decide (r7.1.Type_≠r27)) x_1.X.At 201) fun r29=>
     obind (rec_weirgate_typing_typer_block_186 r7.2 x_1.Body (IntKind.i64.wrap (deep_2+1))) fun r31=>
     obind (rec_weirgate_typing_typer_block_186 r31.2 x_1.Else (IntKind.i64.wrap (deep_2+1))) fun r37=>
     some ((z7.mk x_1.Kind 0 0 [] r7.1 r31.1 r37.1),r37.2)))))
abbrev z5Q (n:Nat) (l_1:(List zB)) (deep_2:Int) (rec_weirgate_typing_typer_block_186:zz→(List zB)→Int→Option ((List z7)×zz)):((List z7)×Int×(List zk)×(List Rul))→Option (Lp ((List z7)×Int×(List zk)×(List Rul)) (Lp ((List z7)×(List zk)×(List Rul)) ((List z7)×zz))):=
 fun (out_11,s_12,x_13,x_14)=>
  cond (decide (s_12<(l_1.length:Int)))
   (idx l_1 s_12 fun x23=>
   obind (z3V n rec_weirgate_typing_typer_block_186 (zz.mk x_13 x_14) x23 deep_2) fun r31=>
   need (out_11.length+([r31.1]:List z7).length≤4294967296) (
   some (.go ((out_11++([r31.1]:List z7)),(IntKind.i64.wrap (s_12+1)),r31.2.vars_,r31.2.rules_))))
   (some (.stop (.go (out_11,x_13,x_14))))
def z2S (n:Nat) (rec_weirgate_typing_typer_block_186:zz→(List zB)→Int→Option ((List z7)×zz)) (t_0:zz) (l_1:(List zB)) (deep_2:Int):Option ((List z7)×zz):=
 bindJ (S:=(List z7)×(List zk)×(List Rul))
  (iter (z5Q n l_1 deep_2 rec_weirgate_typing_typer_block_186) n (([]:List z7),0,t_0.vars_,t_0.rules_))
 (fun (out_1,x_2,x_3)=>
  need (0≤(0:Int)∧0≤(t_0.vars_.length:Int)∧(t_0.vars_.length:Int)≤(x_2.length:Int)) (
  some (out_1,(zz.mk (x_2.take (((t_0.vars_.length:Int)).toNat)) x_3))))
def z2D:Nat→zz→(List zB)→Int→Option ((List z7)×zz)
 | 0=>fun _ _ _=>none
 | n+1=>z2S n  (z2D n )
def z7y (n:Nat) (x_0:z1d):Option (zG):=
 obind (z52 n x_0.Effects) fun r3=>
 obind (z4p r3.2 x_0.At 6) fun r6=>
 obind (z2D n (zz.mk ([]:List zk) ([]:List Rul)) x_0.Code 1) fun r9=>
 some (zG.mk x_0.Name r3.1 r9.1)
abbrev z9S (x_0:z2z):(Unit)→Option (Lp (Unit) (Lp (Unit) (z62))):=
 fun _=>
  cond (decide (0<(x_0.Policies.length:Int)))
   (none)
   (some (.stop (.go ())))
abbrev z9T (n:Nat) (x_0:z2z):(Int×(List zG))→Option (Lp (Int×(List zG)) (Lp ((List zG)) (z62))):=
 fun (s_18,x_19)=>
  cond (decide (s_18<(x_0.Programs.length:Int)))
   (idx x_0.Programs s_18 fun x26=>
   need (0≤(0:Int)∧0≤s_18∧s_18≤(x_0.Programs.length:Int)) (
   obind (z1f n (x_0.Programs.take s_18.toNat) x26) fun r33=>
   obind (z4p r33 x26.At 6) fun r35=>
   obind (z7y n x26) fun r37=>
   need (x_19.length+([r37]:List zG).length≤4294967296) (
   some (.go ((IntKind.i64.wrap (s_18+1)),(x_19++([r37]:List zG)))))))
   (some (.stop (.go x_19)))
def z7U (n:Nat) (x_0:z2z):Option (z62):=
 bindJ (S:=Unit)
  (iter (z9S x_0) n ())
 (fun _=>
  bindJ (S:=(List zG))
   (iter (z9T n x_0) n (0,([]:List zG)))
  (fun x_12=>
   some (z62.mk ([]:List z6G) x_12)))
def z8r (n:Nat) (x_0:z2z):Option (z62×z13):=
 obind (z7U n x_0) fun r4=>
 some (r4,(z13.mk 0 0))
def z6w (n:Nat) (s_0:(List UInt8)):Option ((List zG)×Bool):=
 obind (z8n n s_0) fun r1=>
 cond (decide (r1.2.E≠0))
  (none)
  (obind (z8r n r1.1) fun r10=>
  some (r10.1.Programs,decide (r10.2.E=0)))
def zM (m_0:zr) (op_1:Int) (a_2:Int) (s_3:(List UInt8)):Option (Int×zr):=
 need (m_0.l_.length+([(z6.mk op_1 a_2 s_3)]:List z6).length≤4294967296) (
 some ((IntKind.i64.wrap (((m_0.l_++([(z6.mk op_1 a_2 s_3)]:List z6)).length:Int) - 1)),(zr.mk (m_0.l_++([(z6.mk op_1 a_2 s_3)]:List z6)))))
abbrev z1V (x_1:zm) (rec_weirgate_compile_maker_expr_59:zr→zm→Option (zr)):(Int×(List z6))→Option (Lp (Int×(List z6)) (Lp ((List z6)) (zr))):=
 fun (s_8,x_9)=>
  cond (decide (s_8<(x_1.Args.length:Int)))
   (idx x_1.Args s_8 fun x16=>
   obind (rec_weirgate_compile_maker_expr_59 (zr.mk x_9) x16) fun r20=>
   some (.go ((IntKind.i64.wrap (s_8+1)),r20.l_)))
   (some (.stop (.go x_9)))
def z1L (n:Nat) (rec_weirgate_compile_maker_expr_59:zr→zm→Option (zr)) (m_0:zr) (x_1:zm):Option (zr):=
 bindJ (S:=(List z6))
  (iter (z1V x_1 rec_weirgate_compile_maker_expr_59) n (0,m_0.l_))
 (fun x_2=>
  cond (decide (x_1.Op=1))
   (obind (zM (zr.mk x_2) x_1.Op x_1.N []) fun r24=>
   some r24.2)
   (cond (decide (x_1.Op=3))
    (obind (zM (zr.mk x_2) x_1.Op x_1.Slot []) fun r28=>
    some r28.2)
    (bindJ (S:=Bool)
     (cond (decide (x_1.Op=2))
      (some (.go (decide (x_1.Op=2))))
      (some (.go (decide (x_1.Op=6)))))
    (fun s_31=>
     cond s_31
      (obind (zM (zr.mk x_2) x_1.Op 0 x_1.S) fun r38=>
      some r38.2)
      (cond (decide (x_1.Op=23))
       (obind (zM (zr.mk x_2) x_1.Op (x_1.Args.length:Int) []) fun r42=>
       some r42.2)
       (obind (zM (zr.mk x_2) x_1.Op 0 []) fun r45=>
       some r45.2))))))
def z1n:Nat→zr→zm→Option (zr)
 | 0=>fun _ _=>none
 | n+1=>z1L n  (z1n n )
def z1H (m_0:zr) (s_1:z7) (a_2:Int):Option (zr):=
 obind (zM m_0 31 s_1.Slot []) fun r2=>
 some r2.2
def z2t (m_0:zr) (s_1:z7) (a_2:Int):Option (zr):=
 obind (zM m_0 32 0 s_1.Name) fun r2=>
 some r2.2
def z10 (m_0:zr) (s_1:z7) (a_2:Int):Option (zr):=
 obind (zM m_0 ((mget (mput (mput (mput (mput ([]:(List (Int×Int))) (4:Int) (33:Int)) (7:Int) (34:Int)) (8:Int) (35:Int)) (9:Int) (36:Int)) s_1.Kind).getD 0) 0 []) fun r3=>
 some r3.2
def z1q (rec_weirgate_compile_maker_code_25:zr→(List z7)→Int→Option (zr)) (m_0:zr) (l_1:(List z7)) (known_2:Int):Option (zr):=
 obind (rec_weirgate_compile_maker_code_25 m_0 l_1 known_2) fun r1=>
 obind (zM r1 41 known_2 []) fun r4=>
 some r4.2
def z1X (rec_weirgate_compile_maker_code_25:zr→(List z7)→Int→Option (zr)) (m_0:zr) (s_1:z7) (known_2:Int):Option (zr):=
 obind (zM m_0 38 0 []) fun r2=>
 obind (z1q rec_weirgate_compile_maker_code_25 r2.2 s_1.Body known_2) fun r5=>
 obind (zM r5 37 0 []) fun r8=>
 idx r8.2.l_ r2.1 fun x11=>
 obind (z1q rec_weirgate_compile_maker_code_25 (zr.mk (r8.2.l_.set ((r2.1).toNat) (z6.mk x11.Op (r8.2.l_.length:Int) x11.S))) s_1.Else known_2) fun r13=>
 idx r13.l_ r8.1 fun x16=>
 some (zr.mk (r13.l_.set ((r8.1).toNat) (z6.mk x16.Op (r13.l_.length:Int) x16.S)))
def z1Y (rec_weirgate_compile_maker_code_25:zr→(List z7)→Int→Option (zr)) (m_0:zr) (s_1:z7) (known_2:Int):Option (zr):=
 obind (zM m_0 39 s_1.N []) fun r2=>
 obind (zM r2.2 40 0 []) fun r5=>
 obind (z1q rec_weirgate_compile_maker_code_25 r5.2 s_1.Body known_2) fun r8=>
 obind (zM r8 37 r5.1 []) fun r11=>
 idx r11.2.l_ r5.1 fun x14=>
 some (zr.mk (r11.2.l_.set ((r5.1).toNat) (z6.mk x14.Op (r11.2.l_.length:Int) x14.S)))
abbrev z2m (n:Nat) (l_1:(List z7)) (rec_weirgate_compile_maker_code_25:zr→(List z7)→Int→Option (zr)):(Int×Int×(List z6))→Option (Lp (Int×Int×(List z6)) zr):=
 fun (known_2,s_3,x_4)=>
  cond (decide (s_3<(l_1.length:Int)))
   (bindJ (S:=Int×(List z6))
    (idx l_1 s_3 fun x18=>
    obind (zM (zr.mk x_4) 30 0 []) fun r26=>
    bindJ (S:=(List z6))
     (cond (decide (x18.Kind≠6))
      (obind (z1n n r26.2 x18.X) fun r36=>
      some (.go r36.l_))
      (some (.go r26.2.l_)))
    (fun x_29=>
     cond (decide (x18.Kind=1))
      (obind (z1H (zr.mk x_29) x18 known_2) fun r40=>
      cond (decide (x18.Kind=1))
       (some (.go ((IntKind.i64.wrap (known_2+1)),r40.l_)))
       (some (.go (known_2,r40.l_))))
      (cond (decide (x18.Kind=2))
       (obind (z1H (zr.mk x_29) x18 known_2) fun r45=>
       cond (decide (x18.Kind=1))
        (some (.go ((IntKind.i64.wrap (known_2+1)),r45.l_)))
        (some (.go (known_2,r45.l_))))
       (cond (decide (x18.Kind=3))
        (obind (z2t (zr.mk x_29) x18 known_2) fun r50=>
        cond (decide (x18.Kind=1))
         (some (.go ((IntKind.i64.wrap (known_2+1)),r50.l_)))
         (some (.go (known_2,r50.l_))))
        (cond (decide (x18.Kind=4))
         (obind (z10 (zr.mk x_29) x18 known_2) fun r55=>
         cond (decide (x18.Kind=1))
          (some (.go ((IntKind.i64.wrap (known_2+1)),r55.l_)))
          (some (.go (known_2,r55.l_))))
         (cond (decide (x18.Kind=5))
          (obind (z1X rec_weirgate_compile_maker_code_25 (zr.mk x_29) x18 known_2) fun r60=>
          cond (decide (x18.Kind=1))
           (some (.go ((IntKind.i64.wrap (known_2+1)),r60.l_)))
           (some (.go (known_2,r60.l_))))
          (cond (decide (x18.Kind=6))
           (obind (z1Y rec_weirgate_compile_maker_code_25 (zr.mk x_29) x18 known_2) fun r65=>
           cond (decide (x18.Kind=1))
            (some (.go ((IntKind.i64.wrap (known_2+1)),r65.l_)))
            (some (.go (known_2,r65.l_))))
           (cond (decide (x18.Kind=7))
            (obind (z10 (zr.mk x_29) x18 known_2) fun r70=>
            cond (decide (x18.Kind=1))
             (some (.go ((IntKind.i64.wrap (known_2+1)),r70.l_)))
             (some (.go (known_2,r70.l_))))
            (cond (decide (x18.Kind=8))
             (obind (z10 (zr.mk x_29) x18 known_2) fun r75=>
             cond (decide (x18.Kind=1))
              (some (.go ((IntKind.i64.wrap (known_2+1)),r75.l_)))
              (some (.go (known_2,r75.l_))))
             (cond (decide (x18.Kind=9))
              (obind (z10 (zr.mk x_29) x18 known_2) fun r80=>
              cond (decide (x18.Kind=1))
               (some (.go ((IntKind.i64.wrap (known_2+1)),r80.l_)))
               (some (.go (known_2,r80.l_))))
              (none)))))))))))
   (fun (known_11,x_12)=>
    some (.go (known_11,(IntKind.i64.wrap (s_3+1)),x_12))))
   (some (.stop (zr.mk x_4)))
def z1K (n:Nat) (rec_weirgate_compile_maker_code_25:zr→(List z7)→Int→Option (zr)) (m_0:zr) (l_1:(List z7)) (known_2:Int):Option (zr):=
 iter (z2m n l_1 rec_weirgate_compile_maker_code_25) n (known_2,0,m_0.l_)
def z1w:Nat→zr→(List z7)→Int→Option (zr)
 | 0=>fun _ _ _=>none
 | n+1=>z1K n  (z1w n )
def z36 (n:Nat) (p_0:zG):Option (zH×Int):=
 obind (z1w n (zr.mk ([]:List z6)) p_0.Code 0) fun r4=>
 cond (decide (65536<(r4.l_.length:Int)))
  (some ((zH.mk [] ([]:List Int) ([]:List z6)),2))
  (need (([]:List Int).length+p_0.Effects.length≤4294967296) (
  some ((zH.mk p_0.Name (([]:List Int)++p_0.Effects) r4.l_),0)))
def z6C (x_0:zm):Option (Bool):=
 some (((((decide (x_0.Op=0) && decide (x_0.Type_=0)) && decide (x_0.N=0)) && decide (x_0.Slot=0)) && decide (x_0.S=[])) && decide ((x_0.Args.length:Int)=0))
def z7x (x_0:zm) (bare_1:zm):Option (Bool):=
 some ((decide (x_0.N=bare_1.N) && decide (x_0.S=bare_1.S)) && decide (x_0.Slot=bare_1.Slot))
abbrev z34 (x_1:zm) (deep_2:Int) (rec_weirgate_typing_checker_expr_188:zw→zm→Int→Option (Bool×zw)):((List Int)×Int×(List zk)×(List Rul)×(List Int))→Option (Lp ((List Int)×Int×(List zk)×(List Rul)×(List Int)) (Lp ((List Int)×(List zk)×(List Rul)×(List Int)) (Bool×zw))):=
 fun (kinds_21,s_22,x_23,x_24,x_25)=>
  cond (decide (s_22<(x_1.Args.length:Int)))
   (idx x_1.Args s_22 fun x35=>
   obind (rec_weirgate_typing_checker_expr_188 (zw.mk (zz.mk x_23 x_24) x_25) x35 (IntKind.i64.wrap (deep_2+1))) fun r39=>
   cond (!r39.1)
    (some (.stop (.stop (false,r39.2))))
    (need (kinds_21.length+([x35.Type_]:List Int).length≤4294967296) (
    some (.go ((kinds_21++([x35.Type_]:List Int)),(IntKind.i64.wrap (s_22+1)),r39.2.typer_.vars_,r39.2.typer_.rules_,r39.2.kinds_)))))
   (some (.stop (.go (kinds_21,x_23,x_24,x_25))))
def z1B (n:Nat) (rec_weirgate_typing_checker_expr_188:zw→zm→Int→Option (Bool×zw)) (c_0:zw) (x_1:zm) (deep_2:Int):Option (Bool×zw):=
 cond ((decide (200<deep_2) || decide (x_1.Op<1)) || decide (23<x_1.Op))
  (some (false,c_0))
  (bindJ (S:=(List Int)×(List zk)×(List Rul)×(List Int))
   (iter (z34 x_1 deep_2 rec_weirgate_typing_checker_expr_188) n (([]:List Int),0,c_0.typer_.vars_,c_0.typer_.rules_,c_0.kinds_))
  (fun (kinds_9,x_10,x_11,x_12)=>
   bindJ (S:=Int×Int×Int×Int×Int×(List UInt8))
    (cond (decide (x_1.Op=1))
     (cond (decide (x_1.N<0) || decide (1000000000000000000≤x_1.N))
      (some (.stop (false,(zw.mk (zz.mk x_10 x_11) x_12))))
      (some (.go (0,0,1,x_1.N,0,[]))))
     (bindJ (S:=Bool)
      (cond (decide (x_1.Op=2))
       (some (.go (decide (x_1.Op=2))))
       (some (.go (decide (x_1.Op=6)))))
     (fun s_66=>
      cond s_66
       (cond (decide (200<(x_1.S.length:Int)))
        (some (.stop (false,(zw.mk (zz.mk x_10 x_11) x_12))))
        (some (.go (0,0,2,0,0,x_1.S))))
       (bindJ (S:=Bool)
        (cond (decide (x_1.Op=4))
         (some (.go (decide (x_1.Op=4))))
         (some (.go (decide (x_1.Op=5)))))
       (fun s_74=>
        cond s_74
         (some (.go (0,0,3,0,0,[])))
         (cond (decide (x_1.Op=7))
          (some (.go (0,0,1,0,0,[])))
          (cond (decide (x_1.Op=3))
           (cond (decide (x_1.Slot<0) || decide ((x_12.length:Int)≤x_1.Slot))
            (some (.stop (false,(zw.mk (zz.mk x_10 x_11) x_12))))
            (idx x_12 x_1.Slot fun x87=>
            some (.go (0,0,x87,0,x_1.Slot,[]))))
           (bindJ (S:=Bool)
            (cond (decide (x_1.Op=8))
             (some (.go (decide (x_1.Op=8))))
             (some (.go (decide (x_1.Op=9)))))
           (fun s_88=>
            cond s_88
             (some (.go (1,1,0,0,0,[])))
             (cond (decide (x_1.Op=23))
              (some (.go (2,(x_1.Args.length:Int),0,0,0,[])))
              (some (.go (2,2,0,0,0,[])))))))))))))
   (fun (least_51,most_52,kind_53,x_54,x_55,x_56)=>
    bindJ (S:=Int×(List zk)×(List Rul)×(List Int))
     (cond (decide (0<least_51))
      (obind (operC (zw.mk (zz.mk x_10 x_11) x_12) x_1.Op kinds_9) fun r108=>
      some (.go (r108.1,r108.2.typer_.vars_,r108.2.typer_.rules_,r108.2.kinds_)))
      (some (.go (kind_53,x_10,x_11,x_12))))
    (fun (kind_96,x_97,x_98,x_99)=>
     bindJ (S:=Bool)
      (cond (((decide (least_51≤(x_1.Args.length:Int)) && decide ((x_1.Args.length:Int)≤most_52)) && decide (kind_96≠0)) && decide (x_1.Type_=kind_96))
       (obind (z7x x_1 (zm.mk x_1.Op x_1.Type_ x_54 x_55 x_56 x_1.Args)) fun r128=>
       some (.go r128))
       (some (.go false)))
     (fun b122=>
      some (b122,(zw.mk (zz.mk x_97 x_98) x_99)))))))
def z1r:Nat→zw→zm→Int→Option (Bool×zw)
 | 0=>fun _ _ _=>none
 | n+1=>z1B n  (z1r n )
def z22 (n:Nat) (rec_weirgate_typing_checker_block_102:zw→(List z7)→Int→Option (Bool×zw)) (c_0:zw) (x_1:z7) (deep_2:Int):Option (Bool×zw):=
 cond ((((decide (200<deep_2) || decide (x_1.Kind<1)) || decide (9<x_1.Kind)) || ((!(decide (x_1.Kind=5) || decide (x_1.Kind=6))) && decide (0<(x_1.Body.length:Int)))) || (decide (x_1.Kind≠5) && decide (0<(x_1.Else.length:Int))))
  (some (false,c_0))
  (cond (((decide (x_1.Kind≠3) && (!decide (x_1.Name=[]))) || (decide (x_1.Kind≠6) && decide (x_1.N≠0))) || ((decide (x_1.Kind≠1) && decide (x_1.Kind≠2)) && decide (x_1.Slot≠0)))
   (some (false,c_0))
   (cond (decide (x_1.Kind=6))
    (obind (z6C x_1.X) fun r44=>
    bindJ (S:=Bool×(List zk)×(List Rul)×(List Int))
     (cond ((r44 && decide (0≤x_1.N)) && decide (x_1.N≤1000))
      (obind (rec_weirgate_typing_checker_block_102 c_0 x_1.Body (IntKind.i64.wrap (deep_2+1))) fun r64=>
      some (.go (r64.1,r64.2.typer_.vars_,r64.2.typer_.rules_,r64.2.kinds_)))
      (some (.go (false,c_0.typer_.vars_,c_0.typer_.rules_,c_0.kinds_))))
    (fun (s_52,x_53,x_54,x_55)=>
     some (s_52,(zw.mk (zz.mk x_53 x_54) x_55))))
    (obind (z1r n c_0 x_1.X (IntKind.i64.wrap (deep_2+1))) fun r69=>
    cond (!r69.1)
     (some (false,r69.2))
     (cond (decide (x_1.Kind=1))
      (cond (decide (x_1.Slot≠(r69.2.kinds_.length:Int)) || decide (200≤(r69.2.kinds_.length:Int)))
       (some (false,r69.2))
       (need (r69.2.kinds_.length+([x_1.X.Type_]:List Int).length≤4294967296) (
       some (true,(zw.mk r69.2.typer_ (r69.2.kinds_++([x_1.X.Type_]:List Int)))))))
      (cond (decide (x_1.Kind=2))
       (bindJ (S:=Bool)
        (cond (decide (0≤x_1.Slot) && decide (x_1.Slot<(r69.2.kinds_.length:Int)))
         (idx r69.2.kinds_ x_1.Slot fun x94=>
         some (.go (decide (x94=x_1.X.Type_))))
         (some (.go false)))
       (fun b88=>
        some (b88,r69.2)))
       (obind (z6S x_1.Kind) fun r95=>
       bindJ (S:=Bool)
        (cond (decide (x_1.X.Type_=r95))
         (some (.go (decide ((x_1.Name.length:Int)≤200))))
         (some (.go false)))
       (fun s_97=>
        bindJ (S:=Bool×(List zk)×(List Rul)×(List Int))
         (cond s_97
          (obind (rec_weirgate_typing_checker_block_102 r69.2 x_1.Body (IntKind.i64.wrap (deep_2+1))) fun r115=>
          some (.go (r115.1,r115.2.typer_.vars_,r115.2.typer_.rules_,r115.2.kinds_)))
          (some (.go (false,r69.2.typer_.vars_,r69.2.typer_.rules_,r69.2.kinds_))))
        (fun (s_103,x_104,x_105,x_106)=>
         bindJ (S:=Bool×(List zk)×(List Rul)×(List Int))
          (cond s_103
           (obind (rec_weirgate_typing_checker_block_102 (zw.mk (zz.mk x_104 x_105) x_106) x_1.Else (IntKind.i64.wrap (deep_2+1))) fun r132=>
           some (.go (r132.1,r132.2.typer_.vars_,r132.2.typer_.rules_,r132.2.kinds_)))
           (some (.go (false,x_104,x_105,x_106))))
         (fun (s_120,x_121,x_122,x_123)=>
          some (s_120,(zw.mk (zz.mk x_121 x_122) x_123)))))))))))
abbrev z29 (n:Nat) (l_1:(List z7)) (deep_2:Int) (rec_weirgate_typing_checker_block_102:zw→(List z7)→Int→Option (Bool×zw)):(Int×(List zk)×(List Rul)×(List Int))→Option (Lp (Int×(List zk)×(List Rul)×(List Int)) (Lp ((List zk)×(List Rul)×(List Int)) (Bool×zw))):=
 fun (s_11,x_12,x_13,x_14)=>
  cond (decide (s_11<(l_1.length:Int)))
   (idx l_1 s_11 fun x23=>
   obind (z22 n rec_weirgate_typing_checker_block_102 (zw.mk (zz.mk x_12 x_13) x_14) x23 deep_2) fun r31=>
   cond (!r31.1)
    (some (.stop (.stop (false,r31.2))))
    (some (.go ((IntKind.i64.wrap (s_11+1)),r31.2.typer_.vars_,r31.2.typer_.rules_,r31.2.kinds_))))
   (some (.stop (.go (x_12,x_13,x_14))))
def z16 (n:Nat) (rec_weirgate_typing_checker_block_102:zw→(List z7)→Int→Option (Bool×zw)) (c_0:zw) (l_1:(List z7)) (deep_2:Int):Option (Bool×zw):=
 bindJ (S:=(List zk)×(List Rul)×(List Int))
  (iter (z29 n l_1 deep_2 rec_weirgate_typing_checker_block_102) n (0,c_0.typer_.vars_,c_0.typer_.rules_,c_0.kinds_))
 (fun (x_1,x_2,x_3)=>
  need (0≤(0:Int)∧0≤(c_0.kinds_.length:Int)∧(c_0.kinds_.length:Int)≤(x_3.length:Int)) (
  some (true,(zw.mk (zz.mk x_1 x_2) (x_3.take (((c_0.kinds_.length:Int)).toNat))))))
def zY:Nat→zw→(List z7)→Int→Option (Bool×zw)
 | 0=>fun _ _ _=>none
 | n+1=>z16 n  (zY n )
abbrev z5h (p_0:zG):(Int)→Option (Lp (Int) (Lp (Unit) (Bool))):=
 fun s_6=>
  cond (decide (s_6<(p_0.Effects.length:Int)))
   (idx p_0.Effects s_6 fun x12=>
   bindJ (S:=Bool)
    (cond (decide (x12<1) || decide (6<x12))
     (some (.go true))
     (bindJ (S:=Bool)
      (cond (decide (0<s_6))
       (idx p_0.Effects (IntKind.i64.wrap (s_6 - 1)) fun x28=>
       some (.go (decide (x12≤x28))))
       (some (.go false)))
     (fun b22=>
      some (.go b22))))
   (fun b16=>
    cond b16
     (some (.stop (.stop false)))
     (some (.go (IntKind.i64.wrap (s_6+1))))))
   (some (.stop (.go ())))
@[irreducible] def z3e (n : Nat) (p_0 : zG) : Option (Bool) :=
  bindJ (S:=Unit)
    (iter (z5h p_0) n 0)
  (fun _=>
    obind (zY n (zw.mk (zz.mk ([]:List zk) ([]:List Rul)) ([]:List Int)) p_0.Code 1) fun r31=>
    some r31.1)
def z2I (n_0:Int):Option (zD):=
 some (zD.mk true n_0 n_0)
def z3X (x_0:Int) (limit_1:Int):Option (Int):=
 some (min x_0 limit_1)
def z1M (a_0:zD) (b_1:zD):Option (zD):=
 cond ((!a_0.is_) || (!b_1.is_))
  (some (zD.mk false 0 0))
  (obind (z3X (IntKind.i64.wrap (a_0.lo_+b_1.lo_)) 2199023255552) fun r8=>
  obind (z3X (IntKind.i64.wrap (a_0.hi_+b_1.hi_)) 2199023255552) fun r10=>
  some (zD.mk true r8 r10))
def z1o (a_0:zD) (b_1:zD):Option (zD):=
 cond (!a_0.is_)
  (some b_1)
  (cond (!b_1.is_)
   (some a_0)
   (some (zD.mk true (min a_0.lo_ b_1.lo_) (max a_0.hi_ b_1.hi_))))
def z1k (a_0:zJ) (b_1:zJ):Option (zJ):=
 obind (z1M a_0.on_ b_1.on_) fun r4=>
 obind (z1M a_0.on_ b_1.end_) fun r6=>
 obind (z1o a_0.end_ r6) fun r8=>
 some (zJ.mk r4 r8)
abbrev z4j (n_0:Int) (body_1:zJ):(Int×Bool×Int×Int×Bool×Int×Int)→Option (Lp (Int×Bool×Int×Int×Bool×Int×Int) (Lp (Bool×Int×Int×Bool×Int×Int) (zJ))):=
 fun (s_16,x_17,x_18,x_19,x_20,x_21,x_22)=>
  cond (decide (s_16<n_0))
   (cond (!x_17)
    (some (.stop (.go (x_17,x_18,x_19,x_20,x_21,x_22))))
    (obind (z1k (zJ.mk (zD.mk x_17 x_18 x_19) (zD.mk x_20 x_21 x_22)) body_1) fun r29=>
    some (.go ((IntKind.i64.wrap (s_16+1)),r29.on_.is_,r29.on_.lo_,r29.on_.hi_,r29.end_.is_,r29.end_.lo_,r29.end_.hi_))))
   (some (.stop (.go (x_17,x_18,x_19,x_20,x_21,x_22))))
def z6j (n:Nat) (n_0:Int) (body_1:zJ):Option (zJ):=
 obind (z2I 0) fun r3=>
 bindJ (S:=Bool×Int×Int×Bool×Int×Int)
  (iter (z4j n_0 body_1) n (0,r3.is_,r3.lo_,r3.hi_,false,0,0))
 (fun (x_6,x_7,x_8,x_9,x_10,x_11)=>
  some (zJ.mk (zD.mk x_6 x_7 x_8) (zD.mk x_9 x_10 x_11)))
def z2G (a_0:zJ) (b_1:zJ):Option (zJ):=
 obind (z1o a_0.on_ b_1.on_) fun r4=>
 obind (z1o a_0.end_ b_1.end_) fun r6=>
 some (zJ.mk r4 r6)
def z4k (n:Nat) (rec_effect_block:(List z7)→Option (zJ)) (s_0:z7):Option (zJ):=
 cond (decide (s_0.Kind=6))
  (obind (z2I 1) fun r4=>
  obind (z2I 1) fun r6=>
  obind (rec_effect_block s_0.Body) fun r8=>
  obind (z1k (zJ.mk r6 (zD.mk false 0 0)) r8) fun r10=>
  obind (z6j n s_0.N r10) fun r12=>
  obind (z1k (zJ.mk r4 (zD.mk false 0 0)) r12) fun r14=>
  some r14)
  (cond (decide (s_0.Kind=5))
   (obind (costH s_0.X) fun r17=>
   obind (z2I (IntKind.i64.wrap (1+r17))) fun r19=>
   obind (rec_effect_block s_0.Body) fun r21=>
   obind (rec_effect_block s_0.Else) fun r23=>
   obind (z2G r21 r23) fun r25=>
   obind (z1k (zJ.mk r19 (zD.mk false 0 0)) r25) fun r27=>
   some r27)
   (bindJ (S:=Bool)
    (cond (decide (s_0.Kind=8))
     (some (.go (decide (s_0.Kind=8))))
     (some (.go (decide (s_0.Kind=9)))))
   (fun s_29=>
    cond s_29
     (obind (costH s_0.X) fun r36=>
     obind (z2I (IntKind.i64.wrap (1+r36))) fun r38=>
     some (zJ.mk (zD.mk false 0 0) r38))
     (obind (costH s_0.X) fun r40=>
     obind (z2I (IntKind.i64.wrap (1+r40))) fun r42=>
     some (zJ.mk r42 (zD.mk false 0 0))))))
abbrev z5b (n:Nat) (l_0:(List z7)) (rec_effect_block:(List z7)→Option (zJ)):(Int×Bool×Int×Int×Bool×Int×Int)→Option (Lp (Int×Bool×Int×Int×Bool×Int×Int) (Lp (Bool×Int×Int×Bool×Int×Int) (zJ))):=
 fun (s_15,x_16,x_17,x_18,x_19,x_20,x_21)=>
  cond (decide (s_15<(l_0.length:Int)))
   (idx l_0 s_15 fun x27=>
   obind (z4k n rec_effect_block x27) fun r35=>
   obind (z1k (zJ.mk (zD.mk x_16 x_17 x_18) (zD.mk x_19 x_20 x_21)) r35) fun r37=>
   some (.go ((IntKind.i64.wrap (s_15+1)),r37.on_.is_,r37.on_.lo_,r37.on_.hi_,r37.end_.is_,r37.end_.lo_,r37.end_.hi_)))
   (some (.stop (.go (x_16,x_17,x_18,x_19,x_20,x_21))))
def z4z (n:Nat) (rec_effect_block:(List z7)→Option (zJ)) (l_0:(List z7)):Option (zJ):=
 obind (z2I 0) fun r2=>
 bindJ (S:=Bool×Int×Int×Bool×Int×Int)
  (iter (z5b n l_0 rec_effect_block) n (0,r2.is_,r2.lo_,r2.hi_,false,0,0))
 (fun (x_5,x_6,x_7,x_8,x_9,x_10)=>
  some (zJ.mk (zD.mk x_5 x_6 x_7) (zD.mk x_8 x_9 x_10)))
def z4J:Nat→(List z7)→Option (zJ)
 | 0=>fun _=>none
 | n+1=>z4z n  (z4J n )
def z7K (n:Nat) (p_0:zG):Option (zD):=
 obind (z3e n p_0) fun r3=>
 cond (!r3)
  (some (zD.mk false 0 0))
  (obind (z4J n p_0.Code) fun r6=>
  obind (z1o r6.on_ r6.end_) fun r9=>
  some r9)
def z4b (n_0:Int):Option (Int×Int):=
 cond (decide (1099511627776<n_0))
  (some (0,2))
  (some (n_0,0))
def z65 (n:Nat) (p_0:zG):Option (Int×Int):=
 obind (z7K n p_0) fun r2=>
 cond (!r2.is_)
  (some (0,1))
  (obind (z4b r2.hi_) fun r6=>
  some (r6.1,r6.2))
def zQ (s_0:(List zp)):Option ((List zp)):=
 need (([]:List zp).length+s_0.length≤4294967296) (
 some (([]:List zp)++s_0))
def z4K (e_0:zP):Option (zN):=
 obind (zQ e_0.Headers) fun r3=>
 some (zN.mk 0 ([]:List zj) ([]:List zj) ([]:List Int) (zA.mk (zP.mk r3 e_0.Status) ([]:List (List UInt8)) 0 []) 0 false 0)
def zR (s_0:(List zj)):Option ((List zj)):=
 need (([]:List zj).length+s_0.length≤4294967296) (
 some (([]:List zj)++s_0))
def z2U (s_0:(List (List UInt8))):Option ((List (List UInt8))):=
 need (([]:List (List UInt8)).length+s_0.length≤4294967296) (
 some (([]:List (List UInt8))++s_0))
def z6l (m_0:zH) (c_1:zN):Option (zi):=
 obind (zR c_1.Stack) fun r10=>
 obind (zR c_1.Slots) fun r13=>
 obind (z15 c_1.Loops) fun r16=>
 obind (z2U c_1.Out.Logs) fun r22=>
 obind (zQ c_1.Out.Edge.Headers) fun r25=>
 some (zi.mk (zN.mk c_1.At r10 r13 r16 (zA.mk (zP.mk r25 c_1.Out.Edge.Status) r22 c_1.Out.End c_1.Out.Text) c_1.Spent c_1.Over c_1.E) m_0.Code)
def z2V (r_0:zi):Option (Unit):=
 some ()
def z1x (r_0:zi) (e_1:Int):Option (zi):=
 cond (decide (e_1≠0))
  (some (zi.mk (zN.mk 0 ([]:List zj) ([]:List zj) ([]:List Int) (zA.mk (zP.mk ([]:List zp) 100) ([]:List (List UInt8)) 0 []) r_0.Cpu.Spent true e_1) r_0.code_))
  (some (zi.mk (zN.mk 0 ([]:List zj) ([]:List zj) ([]:List Int) r_0.Cpu.Out r_0.Cpu.Spent true e_1) r_0.code_))
def z4m (op_0:Int):Option (Bool):=
 some (decide (1≤op_0) && decide (op_0≤23))
def z1F (r_0:zi):Option (Int):=
 idx r_0.code_ r_0.Cpu.At fun x1=>
 obind (z4m x1.Op) fun r3=>
 bindJ (S:=Bool)
  (cond r3
   (some (.go true))
   (some (.go (decide (x1.Op=30)))))
 (fun s_5=>
  bindJ (S:=Bool)
   (cond s_5
    (some (.go true))
    (bindJ (S:=Bool)
     (cond (decide (x1.Op=40))
      (idx r_0.Cpu.Loops (IntKind.i64.wrap ((r_0.Cpu.Loops.length:Int) - 1)) fun x23=>
      some (.go (decide (0<x23))))
      (some (.go false)))
    (fun s_17=>
     some (.go s_17))))
  (fun s_11=>
   cond s_11
    (some 1)
    (some 0)))
def z4A (x_0:z6):Option (Int):=
 cond (decide (x_0.Op=23))
  (some x_0.A)
  (cond (decide (x_0.Op≤7))
   (some 0)
   (cond (decide (x_0.Op=8) || decide (x_0.Op=9))
    (some 1)
    (some 2)))
def z38 (is_0:Bool) (e_1:Int):Option (Pn (Unit)):=
 cond (!is_0)
  (some (.pan e_1))
  (some (.ret ()))
def z2e (n_0:Int):Option (Pn (zj)):=
 obind (z38 (decide (n_0≤1152921504606846976) && decide ((-1152921504606846976)≤n_0)) 203) fun r5=>
 pbind r5 (fun e8=>
  some (.pan e8)) fun q7=>
 some (.ret (zj.mk 1 n_0 []))
def z4u (s_0:(List UInt8)):Option (Pn (zj)):=
 obind (z38 (decide ((s_0.length:Int)≤4096)) 203) fun r2=>
 pbind r2 (fun e5=>
  some (.pan e5)) fun q4=>
 some (.ret (zj.mk 2 0 s_0))
def z1Q (is_0:Bool):Option (zj):=
 bindJ (S:=Int)
  (cond is_0
   (some (.go 1))
   (some (.go 0)))
 (fun x_3=>
  some (zj.mk 3 x_3 []))
def z5e (a_0:Int) (b_1:Int):Option (Pn (zj)):=
 bindJ (S:=Bool)
  (cond (decide (a_0=0))
   (some (.go true))
   (need ((max a_0 (IntKind.i64.wrap (0 - a_0)))≠0) (
   some (.go (decide ((max b_1 (IntKind.i64.wrap (0 - b_1)))≤(IntKind.i64.wrap ((1152921504606846976:Int).tdiv (max a_0 (IntKind.i64.wrap (0 - a_0)))))))))))
 (fun b2=>
  obind (z38 b2 203) fun r9=>
  pbind r9 (fun e12=>
   some (.pan e12)) fun q11=>
  obind (z2e (IntKind.i64.wrap (a_0*b_1))) fun r13=>
  pbind r13 (fun e16=>
   some (.pan e16)) fun q15=>
  some (.ret q15))
def z4T (a_0:Int) (b_1:Int):Option (Pn (Int×Int)):=
 obind (z38 (decide (b_1≠0)) 202) fun r1=>
 pbind r1 (fun e4=>
  some (.pan e4)) fun q3=>
 need (b_1≠0) (
 need (b_1≠0) (
 cond (decide ((a_0.tmod b_1)≠0) && (!((decide ((a_0.tmod b_1)<0)) == (decide (b_1<0)))))
  (some (.ret ((IntKind.i64.wrap ((IntKind.i64.wrap (a_0.tdiv b_1)) - 1)),(IntKind.i64.wrap ((a_0.tmod b_1)+b_1)))))
  (some (.ret ((IntKind.i64.wrap (a_0.tdiv b_1)),(a_0.tmod b_1))))))
abbrev z1u (s_0:(List zj)) (v_1:zj):(Int)→Option (Lp (Int) (Lp (Unit) (Int))):=
 fun s_6=>
  cond (decide (s_6<(s_0.length:Int)))
   (idx s_0 s_6 fun x12=>
   cond (decide (v_1.Type_=x12.Type_) && (decide (v_1.N=x12.N) && (decide (v_1.S=x12.S))))
    (some (.stop (.stop s_6)))
    (some (.go (IntKind.i64.wrap (s_6+1)))))
   (some (.stop (.go ())))
def zZ (n:Nat) (s_0:(List zj)) (v_1:zj):Option (Int):=
 bindJ (S:=Unit)
  (iter (z1u s_0 v_1) n 0)
 (fun _=>
  some (-1))
def z18 (n:Nat) (s_0:(List zj)) (v_1:zj):Option (Bool):=
 obind (zZ n s_0 v_1) fun r2=>
 some (decide (0≤r2))
def z5d (a_0:zj) (b_1:zj):Option (Int):=
 cond (decide (a_0.Type_=2))
  (obind (cmpH a_0.S b_1.S) fun r4=>
  some r4)
  (some (IntKind.i64.wrap (a_0.N - b_1.N)))
abbrev z48 (s_0:(List Int)) (v_1:Int):(Int)→Option (Lp (Int) (Lp (Unit) (Int))):=
 fun s_5=>
  cond (decide (s_5<(s_0.length:Int)))
   (idx s_0 s_5 fun x11=>
   cond (decide (v_1=x11))
    (some (.stop (.stop s_5)))
    (some (.go (IntKind.i64.wrap (s_5+1)))))
   (some (.stop (.go ())))
def z3d (n:Nat) (s_0:(List Int)) (v_1:Int):Option (Int):=
 bindJ (S:=Unit)
  (iter (z48 s_0 v_1) n 0)
 (fun _=>
  some (-1))
def z14 (n:Nat) (s_0:(List Int)) (v_1:Int):Option (Bool):=
 obind (z3d n s_0 v_1) fun r1=>
 some (decide (0≤r1))
def z5v (n:Nat) (op_0:Int) (l_1:(List zj)):Option (Pn (zj)):=
 idx l_1 0 fun x2=>
 idx l_1 (IntKind.i64.wrap ((l_1.length:Int) - 1)) fun x3=>
 cond (decide (op_0=8))
  (obind (z2e (IntKind.i64.wrap (0 - x2.N))) fun r7=>
  pbind r7 (fun e10=>
   some (.pan e10)) fun q9=>
  some (.ret q9))
  (cond (decide (op_0=9))
   (obind (z1Q (decide (x2.N=0))) fun r12=>
   some (.ret r12))
   (cond (decide (op_0=10))
    (cond (decide (x2.Type_=2))
     (need (x2.S.length+x3.S.length≤4294967296) (
     obind (z4u (x2.S++x3.S)) fun r17=>
     pbind r17 (fun e20=>
      some (.pan e20)) fun q19=>
     some (.ret q19)))
     (obind (z2e (IntKind.i64.wrap (x2.N+x3.N))) fun r21=>
     pbind r21 (fun e24=>
      some (.pan e24)) fun q23=>
     some (.ret q23)))
    (cond (decide (op_0=11))
     (obind (z2e (IntKind.i64.wrap (x2.N - x3.N))) fun r26=>
     pbind r26 (fun e29=>
      some (.pan e29)) fun q28=>
     some (.ret q28))
     (cond (decide (op_0=12))
      (obind (z5e x2.N x3.N) fun r31=>
      pbind r31 (fun e34=>
       some (.pan e34)) fun q33=>
      some (.ret q33))
      (cond (decide (op_0=13))
       (obind (z4T x2.N x3.N) fun r36=>
       pbind r36 (fun e39=>
        some (.pan e39)) fun q38=>
       obind (z2e q38.1) fun r40=>
       pbind r40 (fun e43=>
        some (.pan e43)) fun q42=>
       some (.ret q42))
       (cond (decide (op_0=14))
        (obind (z4T x2.N x3.N) fun r45=>
        pbind r45 (fun e48=>
         some (.pan e48)) fun q47=>
        obind (z2e q47.2) fun r49=>
        pbind r49 (fun e52=>
         some (.pan e52)) fun q51=>
        some (.ret q51))
        (cond (decide (op_0=21))
         (obind (z1Q (decide (x2.N=1) && decide (x3.N=1))) fun r57=>
         some (.ret r57))
         (cond (decide (op_0=22))
          (obind (z1Q (decide (x2.N=1) || decide (x3.N=1))) fun r63=>
          some (.ret r63))
          (cond (decide (op_0=23))
           (need (0≤(1:Int)∧1≤(l_1.length:Int)∧(l_1.length:Int)≤(l_1.length:Int)) (
           obind (z18 n (l_1.drop ((1:Int).toNat)) x2) fun r67=>
           obind (z1Q r67) fun r69=>
           some (.ret r69)))
           (obind (z5d x2 x3) fun r71=>
           cond (decide (op_0=15))
            (obind (z14 n ([(-1)]:List Int) (max (min r71 1) (-1))) fun r81=>
            obind (z1Q r81) fun r83=>
            some (.ret r83))
            (cond (decide (op_0=16))
             (obind (z14 n ([1]:List Int) (max (min r71 1) (-1))) fun r86=>
             obind (z1Q r86) fun r88=>
             some (.ret r88))
             (cond (decide (op_0=17))
              (obind (z14 n ([(-1),0]:List Int) (max (min r71 1) (-1))) fun r91=>
              obind (z1Q r91) fun r93=>
              some (.ret r93))
              (cond (decide (op_0=18))
               (obind (z14 n ([0,1]:List Int) (max (min r71 1) (-1))) fun r96=>
               obind (z1Q r96) fun r98=>
               some (.ret r98))
               (cond (decide (op_0=19))
                (obind (z14 n ([0]:List Int) (max (min r71 1) (-1))) fun r101=>
                obind (z1Q r101) fun r103=>
                some (.ret r103))
                (cond (decide (op_0=20))
                 (obind (z14 n ([(-1),1]:List Int) (max (min r71 1) (-1))) fun r106=>
                 obind (z1Q r106) fun r108=>
                 some (.ret r108))
                 (obind (z14 n ([]:List Int) (max (min r71 1) (-1))) fun r110=>
                 obind (z1Q r110) fun r112=>
                 some (.ret r112)))))))))))))))))
abbrev z2u (r_0:zi) (x_1:z6):(Int)→Option (Lp (Int) (Lp (Unit) (Pg (zj) zi))):=
 fun s_29=>
  cond (decide (s_29<(r_0.Cpu.Out.Edge.Headers.length:Int)))
   (idx r_0.Cpu.Out.Edge.Headers s_29 fun x35=>
   cond (decide (x35.Name=x_1.S))
    (obind (z4u x35.Value) fun r38=>
    pbind r38 (fun e41=>
     some (.stop (.stop (.pan e41 r_0)))) fun q40=>
    some (.stop (.stop (.ret q40))))
    (some (.go (IntKind.i64.wrap (s_29+1)))))
   (some (.stop (.go ())))
def z2h (n:Nat) (r_0:zi) (x_1:z6) (l_2:(List zj)):Option (Pg (zj) zi):=
 cond (decide (x_1.Op=1))
  (obind (z2e x_1.A) fun r4=>
  pbind r4 (fun e7=>
   some (.pan e7 r_0)) fun q6=>
  some (.ret q6))
  (cond (decide (x_1.Op=2))
   (obind (z4u x_1.S) fun r9=>
   pbind r9 (fun e12=>
    some (.pan e12 r_0)) fun q11=>
   some (.ret q11))
   (cond (decide (x_1.Op=3))
    (idx r_0.Cpu.Slots x_1.A fun x14=>
    some (.ret x14))
    (bindJ (S:=Bool)
     (cond (decide (x_1.Op=4))
      (some (.go (decide (x_1.Op=4))))
      (some (.go (decide (x_1.Op=5)))))
    (fun s_15=>
     cond s_15
      (obind (z1Q (decide (x_1.Op=4))) fun r22=>
      some (.ret r22))
      (cond (decide (x_1.Op=6))
       (bindJ (S:=Unit)
        (iter (z2u r_0 x_1) n 0)
       (fun _=>
        obind (z4u []) fun r42=>
        pbind r42 (fun e45=>
         some (.pan e45 r_0)) fun q44=>
        some (.ret q44)))
       (cond (decide (x_1.Op=7))
        (obind (z2e r_0.Cpu.Out.Edge.Status) fun r47=>
        pbind r47 (fun e50=>
         some (.pan e50 r_0)) fun q49=>
        some (.ret q49))
        (obind (z5v n x_1.Op l_2) fun r51=>
        pbind r51 (fun e54=>
         some (.pan e54 r_0)) fun q53=>
        some (.ret q53))))))))
def z1U (n:Nat) (r_0:zi) (x_1:z6):Option (Pg (zi) zi):=
 obind (z4A x_1) fun r2=>
 need (0≤(IntKind.i64.wrap ((r_0.Cpu.Stack.length:Int) - r2))∧(IntKind.i64.wrap ((r_0.Cpu.Stack.length:Int) - r2))≤(r_0.Cpu.Stack.length:Int)∧(r_0.Cpu.Stack.length:Int)≤(r_0.Cpu.Stack.length:Int)) (
 obind (zR (r_0.Cpu.Stack.drop (((IntKind.i64.wrap ((r_0.Cpu.Stack.length:Int) - r2))).toNat))) fun r5=>
 need (0≤(0:Int)∧0≤(IntKind.i64.wrap ((r_0.Cpu.Stack.length:Int) - r2))∧(IntKind.i64.wrap ((r_0.Cpu.Stack.length:Int) - r2))≤(r_0.Cpu.Stack.length:Int)) (
 obind (z2h n r_0 x_1 r5) fun r9=>
 pgbind r9 (fun e12 s13=>
  some (.pan e12 s13)) fun q11=>
 need ((r_0.Cpu.Stack.take (((IntKind.i64.wrap ((r_0.Cpu.Stack.length:Int) - r2))).toNat)).length+([q11]:List zj).length≤4294967296) (
 some (.ret (zi.mk (zN.mk r_0.Cpu.At ((r_0.Cpu.Stack.take (((IntKind.i64.wrap ((r_0.Cpu.Stack.length:Int) - r2))).toNat))++([q11]:List zj)) r_0.Cpu.Slots r_0.Cpu.Loops r_0.Cpu.Out r_0.Cpu.Spent r_0.Cpu.Over r_0.Cpu.E) r_0.code_)))))
def z44 (r_0:zi) (a_1:z6):Option (Unit):=
 some ()
def z1a (r_0:zi):Option (zj×zi):=
 idx r_0.Cpu.Stack (IntKind.i64.wrap ((r_0.Cpu.Stack.length:Int) - 1)) fun x2=>
 need (0≤(0:Int)∧0≤(IntKind.i64.wrap ((r_0.Cpu.Stack.length:Int) - 1))∧(IntKind.i64.wrap ((r_0.Cpu.Stack.length:Int) - 1))≤(r_0.Cpu.Stack.length:Int)) (
 some (x2,(zi.mk (zN.mk r_0.Cpu.At (r_0.Cpu.Stack.take (((IntKind.i64.wrap ((r_0.Cpu.Stack.length:Int) - 1))).toNat)) r_0.Cpu.Slots r_0.Cpu.Loops r_0.Cpu.Out r_0.Cpu.Spent r_0.Cpu.Over r_0.Cpu.E) r_0.code_)))
def z2j (r_0:zi) (x_1:z6):Option (zi):=
 obind (z1a r_0) fun r2=>
 cond (decide (x_1.A=(r2.2.Cpu.Slots.length:Int)))
  (need (r2.2.Cpu.Slots.length+([r2.1]:List zj).length≤4294967296) (
  some (zi.mk (zN.mk r2.2.Cpu.At r2.2.Cpu.Stack (r2.2.Cpu.Slots++([r2.1]:List zj)) r2.2.Cpu.Loops r2.2.Cpu.Out r2.2.Cpu.Spent r2.2.Cpu.Over r2.2.Cpu.E) r2.2.code_)))
  (idx r2.2.Cpu.Slots x_1.A fun x16=>
  some (zi.mk (zN.mk r2.2.Cpu.At r2.2.Cpu.Stack (r2.2.Cpu.Slots.set ((x_1.A).toNat) r2.1) r2.2.Cpu.Loops r2.2.Cpu.Out r2.2.Cpu.Spent r2.2.Cpu.Over r2.2.Cpu.E) r2.2.code_))
def z2n (h_0:zp) (a_1:z6):Option (Bool):=
 some (decide (h_0.Name=a_1.S))
abbrev z1m (s_0:(List zp)) (f_1_0:z6):(Int)→Option (Lp (Int) (Lp (Unit) (Int))):=
 fun s_5=>
  cond (decide (s_5<(s_0.length:Int)))
   (idx s_0 s_5 fun x11=>
   obind (z2n x11 f_1_0) fun r12=>
   cond r12
    (some (.stop (.stop s_5)))
    (some (.go (IntKind.i64.wrap (s_5+1)))))
   (some (.stop (.go ())))
@[irreducible] def zS (n : Nat) (s_0 : (List zp)) (f_1_0 : z6) : Option (Int) :=
  bindJ (S:=Unit)
    (iter (z1m s_0 f_1_0) n 0)
  (fun _=>
    some (-1))
def z1W (h_0:zp) (a_1:z6):Option (Bool):=
 some (decide (h_0.Name=a_1.S))
abbrev z2Y (s_0:(List zp)) (f_1_0:z6):(Int)→Option (Lp (Int) (Lp (Unit) (Int))):=
 fun s_5=>
  cond (decide (s_5<(s_0.length:Int)))
   (idx s_0 s_5 fun x11=>
   obind (z1W x11 f_1_0) fun r12=>
   cond r12
    (some (.stop (.stop s_5)))
    (some (.go (IntKind.i64.wrap (s_5+1)))))
   (some (.stop (.go ())))
@[irreducible] def zV (n : Nat) (s_0 : (List zp)) (f_1_0 : z6) : Option (Int) :=
  bindJ (S:=Unit)
    (iter (z2Y s_0 f_1_0) n 0)
  (fun _=>
    some (-1))
abbrev z1g (del_1_0:z6):(Int×Int×(List zp))→Option (Lp (Int×Int×(List zp)) (Lp (Int×(List zp)) ((List zp)))):=
 fun (i_10,j_11,x_12)=>
  cond (decide (j_11<(x_12.length:Int)))
   (bindJ (S:=Int×(List zp))
    (idx x_12 j_11 fun x24=>
    obind (z1W x24 del_1_0) fun r26=>
    cond (!r26)
     (idx x_12 i_10 fun x29=>
     some (.go ((IntKind.i64.wrap (i_10+1)),(x_12.set i_10.toNat x24))))
     (some (.go (i_10,x_12))))
   (fun (i_18,x_19)=>
    some (.go (i_18,(IntKind.i64.wrap (j_11+1)),x_19))))
   (some (.stop (.go (i_10,x_12))))
def zU (n:Nat) (s_0:(List zp)) (del_1_0:z6):Option ((List zp)):=
 obind (zV n s_0 del_1_0) fun r1=>
 cond (decide (r1=(-1)))
  (some s_0)
  (bindJ (S:=Int×(List zp))
   (iter (z1g del_1_0) n (r1,(IntKind.i64.wrap (r1+1)),s_0))
  (fun (i_4,x_5)=>
   need (0≤i_4∧i_4≤(x_5.length:Int)∧(x_5.length:Int)≤(x_5.length:Int)) (
   need (0≤(0:Int)∧0≤i_4∧i_4≤((cpy x_5 i_4.toNat (((x_5.length:Int)).toNat) (List.replicate (((x_5.length:Int)).toNat - i_4.toNat) (zp.mk [] []))).length:Int)) (
   some ((cpy x_5 i_4.toNat (((x_5.length:Int)).toNat) (List.replicate (((x_5.length:Int)).toNat - i_4.toNat) (zp.mk [] []))).take i_4.toNat)))))
def z1O (n:Nat) (r_0:zi) (x_1:z6):Option (zi):=
 obind (z1a r_0) fun r2=>
 obind (zS n r2.2.Cpu.Out.Edge.Headers x_1) fun r10=>
 cond (decide (r10<0))
  (need (r2.2.Cpu.Out.Edge.Headers.length+([(zp.mk x_1.S r2.1.S)]:List zp).length≤4294967296) (
  some (zi.mk (zN.mk r2.2.Cpu.At r2.2.Cpu.Stack r2.2.Cpu.Slots r2.2.Cpu.Loops (zA.mk (zP.mk (r2.2.Cpu.Out.Edge.Headers++([(zp.mk x_1.S r2.1.S)]:List zp)) r2.2.Cpu.Out.Edge.Status) r2.2.Cpu.Out.Logs r2.2.Cpu.Out.End r2.2.Cpu.Out.Text) r2.2.Cpu.Spent r2.2.Cpu.Over r2.2.Cpu.E) r2.2.code_)))
  (idx r2.2.Cpu.Out.Edge.Headers r10 fun x17=>
  need (0≤(IntKind.i64.wrap (r10+1))∧(IntKind.i64.wrap (r10+1))≤((r2.2.Cpu.Out.Edge.Headers.set r10.toNat (zp.mk x17.Name r2.1.S)).length:Int)∧((r2.2.Cpu.Out.Edge.Headers.set r10.toNat (zp.mk x17.Name r2.1.S)).length:Int)≤((r2.2.Cpu.Out.Edge.Headers.set r10.toNat (zp.mk x17.Name r2.1.S)).length:Int)) (
  obind (zQ ((r2.2.Cpu.Out.Edge.Headers.set r10.toNat (zp.mk x17.Name r2.1.S)).drop (((IntKind.i64.wrap (r10+1))).toNat))) fun r20=>
  obind (zU n r20 x_1) fun r23=>
  need (0≤(0:Int)∧0≤(IntKind.i64.wrap (r10+1))∧(IntKind.i64.wrap (r10+1))≤((r2.2.Cpu.Out.Edge.Headers.set r10.toNat (zp.mk x17.Name r2.1.S)).length:Int)) (
  need (((r2.2.Cpu.Out.Edge.Headers.set r10.toNat (zp.mk x17.Name r2.1.S)).take (((IntKind.i64.wrap (r10+1))).toNat)).length+r23.length≤4294967296) (
  some (zi.mk (zN.mk r2.2.Cpu.At r2.2.Cpu.Stack r2.2.Cpu.Slots r2.2.Cpu.Loops (zA.mk (zP.mk (((r2.2.Cpu.Out.Edge.Headers.set r10.toNat (zp.mk x17.Name r2.1.S)).take (((IntKind.i64.wrap (r10+1))).toNat))++r23) r2.2.Cpu.Out.Edge.Status) r2.2.Cpu.Out.Logs r2.2.Cpu.Out.End r2.2.Cpu.Out.Text) r2.2.Cpu.Spent r2.2.Cpu.Over r2.2.Cpu.E) r2.2.code_)))))
def z2b (r_0:zi) (a_1:z6):Option (Pg (zi) zi):=
 obind (z1a r_0) fun r2=>
 obind (z38 (decide (100≤r2.1.N) && decide (r2.1.N≤599)) 203) fun r13=>
 pbind r13 (fun e16=>
  some (.pan e16 r2.2)) fun q15=>
 some (.ret (zi.mk (zN.mk r2.2.Cpu.At r2.2.Cpu.Stack r2.2.Cpu.Slots r2.2.Cpu.Loops (zA.mk (zP.mk r2.2.Cpu.Out.Edge.Headers r2.1.N) r2.2.Cpu.Out.Logs r2.2.Cpu.Out.End r2.2.Cpu.Out.Text) r2.2.Cpu.Spent r2.2.Cpu.Over r2.2.Cpu.E) r2.2.code_))
def z2x (r_0:zi) (a_1:z6):Option (Pg (zi) zi):=
 obind (z1a r_0) fun r2=>
 obind (z38 (decide ((r2.2.Cpu.Out.Logs.length:Int)<100)) 203) fun r10=>
 pbind r10 (fun e13=>
  some (.pan e13 r2.2)) fun q12=>
 need (r2.2.Cpu.Out.Logs.length+([r2.1.S]:List (List UInt8)).length≤4294967296) (
 some (.ret (zi.mk (zN.mk r2.2.Cpu.At r2.2.Cpu.Stack r2.2.Cpu.Slots r2.2.Cpu.Loops (zA.mk r2.2.Cpu.Out.Edge (r2.2.Cpu.Out.Logs++([r2.1.S]:List (List UInt8))) r2.2.Cpu.Out.End r2.2.Cpu.Out.Text) r2.2.Cpu.Spent r2.2.Cpu.Over r2.2.Cpu.E) r2.2.code_)))
def z1I (r_0:zi) (how_1:Int):Option (zi):=
 obind (z1a r_0) fun r1=>
 obind (z1x (zi.mk (zN.mk r1.2.Cpu.At r1.2.Cpu.Stack r1.2.Cpu.Slots r1.2.Cpu.Loops (zA.mk r1.2.Cpu.Out.Edge r1.2.Cpu.Out.Logs how_1 r1.1.S) r1.2.Cpu.Spent r1.2.Cpu.Over r1.2.Cpu.E) r1.2.code_) 0) fun r9=>
 some r9
def z2q (r_0:zi) (a_1:z6):Option (zi):=
 obind (z1I r_0 1) fun r2=>
 some r2
def z2i (r_0:zi) (a_1:z6):Option (zi):=
 obind (z1I r_0 2) fun r2=>
 some r2
def z3h (r_0:zi) (x_1:z6):Option (zi):=
 some (zi.mk (zN.mk x_1.A r_0.Cpu.Stack r_0.Cpu.Slots r_0.Cpu.Loops r_0.Cpu.Out r_0.Cpu.Spent r_0.Cpu.Over r_0.Cpu.E) r_0.code_)
def z1P (r_0:zi) (x_1:z6):Option (zi):=
 obind (z1a r_0) fun r2=>
 cond (decide (r2.1.N=0))
  (some (zi.mk (zN.mk x_1.A r2.2.Cpu.Stack r2.2.Cpu.Slots r2.2.Cpu.Loops r2.2.Cpu.Out r2.2.Cpu.Spent r2.2.Cpu.Over r2.2.Cpu.E) r2.2.code_))
  (some r2.2)
def z1Z (r_0:zi) (x_1:z6):Option (zi):=
 need (r_0.Cpu.Loops.length+([x_1.A]:List Int).length≤4294967296) (
 some (zi.mk (zN.mk r_0.Cpu.At r_0.Cpu.Stack r_0.Cpu.Slots (r_0.Cpu.Loops++([x_1.A]:List Int)) r_0.Cpu.Out r_0.Cpu.Spent r_0.Cpu.Over r_0.Cpu.E) r_0.code_))
def z1t (r_0:zi) (x_1:z6):Option (zi):=
 idx r_0.Cpu.Loops (IntKind.i64.wrap ((r_0.Cpu.Loops.length:Int) - 1)) fun x2=>
 cond (decide (x2=0))
  (need (0≤(0:Int)∧0≤(IntKind.i64.wrap ((r_0.Cpu.Loops.length:Int) - 1))∧(IntKind.i64.wrap ((r_0.Cpu.Loops.length:Int) - 1))≤(r_0.Cpu.Loops.length:Int)) (
  some (zi.mk (zN.mk x_1.A r_0.Cpu.Stack r_0.Cpu.Slots (r_0.Cpu.Loops.take (((IntKind.i64.wrap ((r_0.Cpu.Loops.length:Int) - 1))).toNat)) r_0.Cpu.Out r_0.Cpu.Spent r_0.Cpu.Over r_0.Cpu.E) r_0.code_)))
  (some (zi.mk (zN.mk r_0.Cpu.At r_0.Cpu.Stack r_0.Cpu.Slots (r_0.Cpu.Loops.set (((IntKind.i64.wrap ((r_0.Cpu.Loops.length:Int) - 1))).toNat) (IntKind.i64.wrap (x2 - 1))) r_0.Cpu.Out r_0.Cpu.Spent r_0.Cpu.Over r_0.Cpu.E) r_0.code_))
def z1N (r_0:zi) (x_1:z6):Option (zi):=
 need (0≤(0:Int)∧0≤x_1.A∧x_1.A≤(r_0.Cpu.Slots.length:Int)) (
 some (zi.mk (zN.mk r_0.Cpu.At r_0.Cpu.Stack (r_0.Cpu.Slots.take ((x_1.A).toNat)) r_0.Cpu.Loops r_0.Cpu.Out r_0.Cpu.Spent r_0.Cpu.Over r_0.Cpu.E) r_0.code_))
def z1T (n:Nat) (r_0:zi):Option (zi):=
 idx r_0.code_ r_0.Cpu.At fun x4=>
 obind (z1F r_0) fun r8=>
 bindJ (S:=Int×(List zj)×(List zj)×(List Int)×(List zp)×Int×(List (List UInt8))×Int×(List UInt8)×Int×Bool×Int×(List z6))
  (obind (z4m x4.Op) fun r33=>
  cond r33
   (obind (z1U n (zi.mk (zN.mk (IntKind.i64.wrap (r_0.Cpu.At+1)) r_0.Cpu.Stack r_0.Cpu.Slots r_0.Cpu.Loops r_0.Cpu.Out (IntKind.i64.wrap (r_0.Cpu.Spent+r8)) r_0.Cpu.Over r_0.Cpu.E) r_0.code_) x4) fun r36=>
   pgbind r36 (fun e39 s46=>
    need (e39≠0) (
    some (.stop (zi.mk (zN.mk 0 ([]:List zj) ([]:List zj) ([]:List Int) (zA.mk (zP.mk ([]:List zp) 100) ([]:List (List UInt8)) 0 []) s46.Cpu.Spent true e39) s46.code_)))) fun q38=>
   some (.go (q38.Cpu.At,q38.Cpu.Stack,q38.Cpu.Slots,q38.Cpu.Loops,q38.Cpu.Out.Edge.Headers,q38.Cpu.Out.Edge.Status,q38.Cpu.Out.Logs,q38.Cpu.Out.End,q38.Cpu.Out.Text,q38.Cpu.Spent,q38.Cpu.Over,q38.Cpu.E,q38.code_)))
   (cond (decide (x4.Op=30))
    (obind (z44 (zi.mk (zN.mk (IntKind.i64.wrap (r_0.Cpu.At+1)) r_0.Cpu.Stack r_0.Cpu.Slots r_0.Cpu.Loops r_0.Cpu.Out (IntKind.i64.wrap (r_0.Cpu.Spent+r8)) r_0.Cpu.Over r_0.Cpu.E) r_0.code_) x4) fun r54=>
    some (.go ((zi.mk (zN.mk (IntKind.i64.wrap (r_0.Cpu.At+1)) r_0.Cpu.Stack r_0.Cpu.Slots r_0.Cpu.Loops r_0.Cpu.Out (IntKind.i64.wrap (r_0.Cpu.Spent+r8)) r_0.Cpu.Over r_0.Cpu.E) r_0.code_).Cpu.At,(zi.mk (zN.mk (IntKind.i64.wrap (r_0.Cpu.At+1)) r_0.Cpu.Stack r_0.Cpu.Slots r_0.Cpu.Loops r_0.Cpu.Out (IntKind.i64.wrap (r_0.Cpu.Spent+r8)) r_0.Cpu.Over r_0.Cpu.E) r_0.code_).Cpu.Stack,(zi.mk (zN.mk (IntKind.i64.wrap (r_0.Cpu.At+1)) r_0.Cpu.Stack r_0.Cpu.Slots r_0.Cpu.Loops r_0.Cpu.Out (IntKind.i64.wrap (r_0.Cpu.Spent+r8)) r_0.Cpu.Over r_0.Cpu.E) r_0.code_).Cpu.Slots,(zi.mk (zN.mk (IntKind.i64.wrap (r_0.Cpu.At+1)) r_0.Cpu.Stack r_0.Cpu.Slots r_0.Cpu.Loops r_0.Cpu.Out (IntKind.i64.wrap (r_0.Cpu.Spent+r8)) r_0.Cpu.Over r_0.Cpu.E) r_0.code_).Cpu.Loops,(zi.mk (zN.mk (IntKind.i64.wrap (r_0.Cpu.At+1)) r_0.Cpu.Stack r_0.Cpu.Slots r_0.Cpu.Loops r_0.Cpu.Out (IntKind.i64.wrap (r_0.Cpu.Spent+r8)) r_0.Cpu.Over r_0.Cpu.E) r_0.code_).Cpu.Out.Edge.Headers,(zi.mk (zN.mk (IntKind.i64.wrap (r_0.Cpu.At+1)) r_0.Cpu.Stack r_0.Cpu.Slots r_0.Cpu.Loops r_0.Cpu.Out (IntKind.i64.wrap (r_0.Cpu.Spent+r8)) r_0.Cpu.Over r_0.Cpu.E) r_0.code_).Cpu.Out.Edge.Status,(zi.mk (zN.mk (IntKind.i64.wrap (r_0.Cpu.At+1)) r_0.Cpu.Stack r_0.Cpu.Slots r_0.Cpu.Loops r_0.Cpu.Out (IntKind.i64.wrap (r_0.Cpu.Spent+r8)) r_0.Cpu.Over r_0.Cpu.E) r_0.code_).Cpu.Out.Logs,(zi.mk (zN.mk (IntKind.i64.wrap (r_0.Cpu.At+1)) r_0.Cpu.Stack r_0.Cpu.Slots r_0.Cpu.Loops r_0.Cpu.Out (IntKind.i64.wrap (r_0.Cpu.Spent+r8)) r_0.Cpu.Over r_0.Cpu.E) r_0.code_).Cpu.Out.End,(zi.mk (zN.mk (IntKind.i64.wrap (r_0.Cpu.At+1)) r_0.Cpu.Stack r_0.Cpu.Slots r_0.Cpu.Loops r_0.Cpu.Out (IntKind.i64.wrap (r_0.Cpu.Spent+r8)) r_0.Cpu.Over r_0.Cpu.E) r_0.code_).Cpu.Out.Text,(zi.mk (zN.mk (IntKind.i64.wrap (r_0.Cpu.At+1)) r_0.Cpu.Stack r_0.Cpu.Slots r_0.Cpu.Loops r_0.Cpu.Out (IntKind.i64.wrap (r_0.Cpu.Spent+r8)) r_0.Cpu.Over r_0.Cpu.E) r_0.code_).Cpu.Spent,(zi.mk (zN.mk (IntKind.i64.wrap (r_0.Cpu.At+1)) r_0.Cpu.Stack r_0.Cpu.Slots r_0.Cpu.Loops r_0.Cpu.Out (IntKind.i64.wrap (r_0.Cpu.Spent+r8)) r_0.Cpu.Over r_0.Cpu.E) r_0.code_).Cpu.Over,(zi.mk (zN.mk (IntKind.i64.wrap (r_0.Cpu.At+1)) r_0.Cpu.Stack r_0.Cpu.Slots r_0.Cpu.Loops r_0.Cpu.Out (IntKind.i64.wrap (r_0.Cpu.Spent+r8)) r_0.Cpu.Over r_0.Cpu.E) r_0.code_).Cpu.E,r_0.code_)))
    (cond (decide (x4.Op=31))
     (obind (z2j (zi.mk (zN.mk (IntKind.i64.wrap (r_0.Cpu.At+1)) r_0.Cpu.Stack r_0.Cpu.Slots r_0.Cpu.Loops r_0.Cpu.Out (IntKind.i64.wrap (r_0.Cpu.Spent+r8)) r_0.Cpu.Over r_0.Cpu.E) r_0.code_) x4) fun r57=>
     some (.go (r57.Cpu.At,r57.Cpu.Stack,r57.Cpu.Slots,r57.Cpu.Loops,r57.Cpu.Out.Edge.Headers,r57.Cpu.Out.Edge.Status,r57.Cpu.Out.Logs,r57.Cpu.Out.End,r57.Cpu.Out.Text,r57.Cpu.Spent,r57.Cpu.Over,r57.Cpu.E,r57.code_)))
     (cond (decide (x4.Op=32))
      (obind (z1O n (zi.mk (zN.mk (IntKind.i64.wrap (r_0.Cpu.At+1)) r_0.Cpu.Stack r_0.Cpu.Slots r_0.Cpu.Loops r_0.Cpu.Out (IntKind.i64.wrap (r_0.Cpu.Spent+r8)) r_0.Cpu.Over r_0.Cpu.E) r_0.code_) x4) fun r66=>
      some (.go (r66.Cpu.At,r66.Cpu.Stack,r66.Cpu.Slots,r66.Cpu.Loops,r66.Cpu.Out.Edge.Headers,r66.Cpu.Out.Edge.Status,r66.Cpu.Out.Logs,r66.Cpu.Out.End,r66.Cpu.Out.Text,r66.Cpu.Spent,r66.Cpu.Over,r66.Cpu.E,r66.code_)))
      (cond (decide (x4.Op=33))
       (obind (z2b (zi.mk (zN.mk (IntKind.i64.wrap (r_0.Cpu.At+1)) r_0.Cpu.Stack r_0.Cpu.Slots r_0.Cpu.Loops r_0.Cpu.Out (IntKind.i64.wrap (r_0.Cpu.Spent+r8)) r_0.Cpu.Over r_0.Cpu.E) r_0.code_) x4) fun r75=>
       pgbind r75 (fun e78 s85=>
        need (e78≠0) (
        some (.stop (zi.mk (zN.mk 0 ([]:List zj) ([]:List zj) ([]:List Int) (zA.mk (zP.mk ([]:List zp) 100) ([]:List (List UInt8)) 0 []) s85.Cpu.Spent true e78) s85.code_)))) fun q77=>
       some (.go (q77.Cpu.At,q77.Cpu.Stack,q77.Cpu.Slots,q77.Cpu.Loops,q77.Cpu.Out.Edge.Headers,q77.Cpu.Out.Edge.Status,q77.Cpu.Out.Logs,q77.Cpu.Out.End,q77.Cpu.Out.Text,q77.Cpu.Spent,q77.Cpu.Over,q77.Cpu.E,q77.code_)))
       (cond (decide (x4.Op=34))
        (obind (z2x (zi.mk (zN.mk (IntKind.i64.wrap (r_0.Cpu.At+1)) r_0.Cpu.Stack r_0.Cpu.Slots r_0.Cpu.Loops r_0.Cpu.Out (IntKind.i64.wrap (r_0.Cpu.Spent+r8)) r_0.Cpu.Over r_0.Cpu.E) r_0.code_) x4) fun r93=>
        pgbind r93 (fun e96 s103=>
         need (e96≠0) (
         some (.stop (zi.mk (zN.mk 0 ([]:List zj) ([]:List zj) ([]:List Int) (zA.mk (zP.mk ([]:List zp) 100) ([]:List (List UInt8)) 0 []) s103.Cpu.Spent true e96) s103.code_)))) fun q95=>
        some (.go (q95.Cpu.At,q95.Cpu.Stack,q95.Cpu.Slots,q95.Cpu.Loops,q95.Cpu.Out.Edge.Headers,q95.Cpu.Out.Edge.Status,q95.Cpu.Out.Logs,q95.Cpu.Out.End,q95.Cpu.Out.Text,q95.Cpu.Spent,q95.Cpu.Over,q95.Cpu.E,q95.code_)))
        (cond (decide (x4.Op=35))
         (obind (z2q (zi.mk (zN.mk (IntKind.i64.wrap (r_0.Cpu.At+1)) r_0.Cpu.Stack r_0.Cpu.Slots r_0.Cpu.Loops r_0.Cpu.Out (IntKind.i64.wrap (r_0.Cpu.Spent+r8)) r_0.Cpu.Over r_0.Cpu.E) r_0.code_) x4) fun r111=>
         some (.go (r111.Cpu.At,r111.Cpu.Stack,r111.Cpu.Slots,r111.Cpu.Loops,r111.Cpu.Out.Edge.Headers,r111.Cpu.Out.Edge.Status,r111.Cpu.Out.Logs,r111.Cpu.Out.End,r111.Cpu.Out.Text,r111.Cpu.Spent,r111.Cpu.Over,r111.Cpu.E,r111.code_)))
         (cond (decide (x4.Op=36))
          (obind (z2i (zi.mk (zN.mk (IntKind.i64.wrap (r_0.Cpu.At+1)) r_0.Cpu.Stack r_0.Cpu.Slots r_0.Cpu.Loops r_0.Cpu.Out (IntKind.i64.wrap (r_0.Cpu.Spent+r8)) r_0.Cpu.Over r_0.Cpu.E) r_0.code_) x4) fun r120=>
          some (.go (r120.Cpu.At,r120.Cpu.Stack,r120.Cpu.Slots,r120.Cpu.Loops,r120.Cpu.Out.Edge.Headers,r120.Cpu.Out.Edge.Status,r120.Cpu.Out.Logs,r120.Cpu.Out.End,r120.Cpu.Out.Text,r120.Cpu.Spent,r120.Cpu.Over,r120.Cpu.E,r120.code_)))
          (cond (decide (x4.Op=37))
           (obind (z3h (zi.mk (zN.mk (IntKind.i64.wrap (r_0.Cpu.At+1)) r_0.Cpu.Stack r_0.Cpu.Slots r_0.Cpu.Loops r_0.Cpu.Out (IntKind.i64.wrap (r_0.Cpu.Spent+r8)) r_0.Cpu.Over r_0.Cpu.E) r_0.code_) x4) fun r129=>
           some (.go (r129.Cpu.At,r129.Cpu.Stack,r129.Cpu.Slots,r129.Cpu.Loops,r129.Cpu.Out.Edge.Headers,r129.Cpu.Out.Edge.Status,r129.Cpu.Out.Logs,r129.Cpu.Out.End,r129.Cpu.Out.Text,r129.Cpu.Spent,r129.Cpu.Over,r129.Cpu.E,r129.code_)))
           (cond (decide (x4.Op=38))
            (obind (z1P (zi.mk (zN.mk (IntKind.i64.wrap (r_0.Cpu.At+1)) r_0.Cpu.Stack r_0.Cpu.Slots r_0.Cpu.Loops r_0.Cpu.Out (IntKind.i64.wrap (r_0.Cpu.Spent+r8)) r_0.Cpu.Over r_0.Cpu.E) r_0.code_) x4) fun r138=>
            some (.go (r138.Cpu.At,r138.Cpu.Stack,r138.Cpu.Slots,r138.Cpu.Loops,r138.Cpu.Out.Edge.Headers,r138.Cpu.Out.Edge.Status,r138.Cpu.Out.Logs,r138.Cpu.Out.End,r138.Cpu.Out.Text,r138.Cpu.Spent,r138.Cpu.Over,r138.Cpu.E,r138.code_)))
            (cond (decide (x4.Op=39))
             (obind (z1Z (zi.mk (zN.mk (IntKind.i64.wrap (r_0.Cpu.At+1)) r_0.Cpu.Stack r_0.Cpu.Slots r_0.Cpu.Loops r_0.Cpu.Out (IntKind.i64.wrap (r_0.Cpu.Spent+r8)) r_0.Cpu.Over r_0.Cpu.E) r_0.code_) x4) fun r147=>
             some (.go (r147.Cpu.At,r147.Cpu.Stack,r147.Cpu.Slots,r147.Cpu.Loops,r147.Cpu.Out.Edge.Headers,r147.Cpu.Out.Edge.Status,r147.Cpu.Out.Logs,r147.Cpu.Out.End,r147.Cpu.Out.Text,r147.Cpu.Spent,r147.Cpu.Over,r147.Cpu.E,r147.code_)))
             (cond (decide (x4.Op=40))
              (obind (z1t (zi.mk (zN.mk (IntKind.i64.wrap (r_0.Cpu.At+1)) r_0.Cpu.Stack r_0.Cpu.Slots r_0.Cpu.Loops r_0.Cpu.Out (IntKind.i64.wrap (r_0.Cpu.Spent+r8)) r_0.Cpu.Over r_0.Cpu.E) r_0.code_) x4) fun r156=>
              some (.go (r156.Cpu.At,r156.Cpu.Stack,r156.Cpu.Slots,r156.Cpu.Loops,r156.Cpu.Out.Edge.Headers,r156.Cpu.Out.Edge.Status,r156.Cpu.Out.Logs,r156.Cpu.Out.End,r156.Cpu.Out.Text,r156.Cpu.Spent,r156.Cpu.Over,r156.Cpu.E,r156.code_)))
              (cond (decide (x4.Op=41))
               (obind (z1N (zi.mk (zN.mk (IntKind.i64.wrap (r_0.Cpu.At+1)) r_0.Cpu.Stack r_0.Cpu.Slots r_0.Cpu.Loops r_0.Cpu.Out (IntKind.i64.wrap (r_0.Cpu.Spent+r8)) r_0.Cpu.Over r_0.Cpu.E) r_0.code_) x4) fun r165=>
               some (.go (r165.Cpu.At,r165.Cpu.Stack,r165.Cpu.Slots,r165.Cpu.Loops,r165.Cpu.Out.Edge.Headers,r165.Cpu.Out.Edge.Status,r165.Cpu.Out.Logs,r165.Cpu.Out.End,r165.Cpu.Out.Text,r165.Cpu.Spent,r165.Cpu.Over,r165.Cpu.E,r165.code_)))
               (none))))))))))))))
 (fun (x_10,x_11,x_12,x_13,x_14,x_15,x_16,x_17,x_18,x_19,x_20,x_21,x_22)=>
  cond ((!x_20) && decide (x_10=(x_22.length:Int)))
   (obind (z1x (zi.mk (zN.mk x_10 x_11 x_12 x_13 (zA.mk (zP.mk x_14 x_15) x_16 x_17 x_18) x_19 x_20 x_21) x_22) 0) fun r177=>
   some r177)
   (some (zi.mk (zN.mk x_10 x_11 x_12 x_13 (zA.mk (zP.mk x_14 x_15) x_16 x_17 x_18) x_19 x_20 x_21) x_22)))
abbrev z4c (n:Nat) (m_0:zH) (most_2:Int):(Int×(List zj)×(List zj)×(List Int)×(List zp)×Int×(List (List UInt8))×Int×(List UInt8)×Int×Bool×Int×(List z6))→Option (Lp (Int×(List zj)×(List zj)×(List Int)×(List zp)×Int×(List (List UInt8))×Int×(List UInt8)×Int×Bool×Int×(List z6)) (Lp (Int×(List zj)×(List zj)×(List Int)×(List zp)×Int×(List (List UInt8))×Int×(List UInt8)×Int×Bool×Int×(List z6)) (zN))):=
 fun (x_39,x_40,x_41,x_42,x_43,x_44,x_45,x_46,x_47,x_48,x_49,x_50,x_51)=>
  cond (!x_49)
   (cond (decide ((m_0.Code.length:Int)≤x_39))
    (obind (z1x (zi.mk (zN.mk x_39 x_40 x_41 x_42 (zA.mk (zP.mk x_43 x_44) x_45 x_46 x_47) x_48 x_49 x_50) x_51) 0) fun r64=>
    some (.stop (.go (r64.Cpu.At,r64.Cpu.Stack,r64.Cpu.Slots,r64.Cpu.Loops,r64.Cpu.Out.Edge.Headers,r64.Cpu.Out.Edge.Status,r64.Cpu.Out.Logs,r64.Cpu.Out.End,r64.Cpu.Out.Text,r64.Cpu.Spent,r64.Cpu.Over,r64.Cpu.E,r64.code_))))
    (obind (z1F (zi.mk (zN.mk x_39 x_40 x_41 x_42 (zA.mk (zP.mk x_43 x_44) x_45 x_46 x_47) x_48 x_49 x_50) x_51)) fun r72=>
    cond (decide (0<r72) && decide ((min most_2 1152921504606846976)<(IntKind.i64.wrap ((zi.mk (zN.mk x_39 x_40 x_41 x_42 (zA.mk (zP.mk x_43 x_44) x_45 x_46 x_47) x_48 x_49 x_50) x_51).Cpu.Spent+r72))))
     (some (.stop (.go ((zi.mk (zN.mk x_39 x_40 x_41 x_42 (zA.mk (zP.mk x_43 x_44) x_45 x_46 x_47) x_48 x_49 x_50) x_51).Cpu.At,(zi.mk (zN.mk x_39 x_40 x_41 x_42 (zA.mk (zP.mk x_43 x_44) x_45 x_46 x_47) x_48 x_49 x_50) x_51).Cpu.Stack,(zi.mk (zN.mk x_39 x_40 x_41 x_42 (zA.mk (zP.mk x_43 x_44) x_45 x_46 x_47) x_48 x_49 x_50) x_51).Cpu.Slots,(zi.mk (zN.mk x_39 x_40 x_41 x_42 (zA.mk (zP.mk x_43 x_44) x_45 x_46 x_47) x_48 x_49 x_50) x_51).Cpu.Loops,(zi.mk (zN.mk x_39 x_40 x_41 x_42 (zA.mk (zP.mk x_43 x_44) x_45 x_46 x_47) x_48 x_49 x_50) x_51).Cpu.Out.Edge.Headers,(zi.mk (zN.mk x_39 x_40 x_41 x_42 (zA.mk (zP.mk x_43 x_44) x_45 x_46 x_47) x_48 x_49 x_50) x_51).Cpu.Out.Edge.Status,(zi.mk (zN.mk x_39 x_40 x_41 x_42 (zA.mk (zP.mk x_43 x_44) x_45 x_46 x_47) x_48 x_49 x_50) x_51).Cpu.Out.Logs,(zi.mk (zN.mk x_39 x_40 x_41 x_42 (zA.mk (zP.mk x_43 x_44) x_45 x_46 x_47) x_48 x_49 x_50) x_51).Cpu.Out.End,(zi.mk (zN.mk x_39 x_40 x_41 x_42 (zA.mk (zP.mk x_43 x_44) x_45 x_46 x_47) x_48 x_49 x_50) x_51).Cpu.Out.Text,(zi.mk (zN.mk x_39 x_40 x_41 x_42 (zA.mk (zP.mk x_43 x_44) x_45 x_46 x_47) x_48 x_49 x_50) x_51).Cpu.Spent,(zi.mk (zN.mk x_39 x_40 x_41 x_42 (zA.mk (zP.mk x_43 x_44) x_45 x_46 x_47) x_48 x_49 x_50) x_51).Cpu.Over,(zi.mk (zN.mk x_39 x_40 x_41 x_42 (zA.mk (zP.mk x_43 x_44) x_45 x_46 x_47) x_48 x_49 x_50) x_51).Cpu.E,x_51))))
     (obind (z1T n (zi.mk (zN.mk ((zi.mk (zN.mk x_39 x_40 x_41 x_42 (zA.mk (zP.mk x_43 x_44) x_45 x_46 x_47) x_48 x_49 x_50) x_51).Cpu.At) ((zi.mk (zN.mk x_39 x_40 x_41 x_42 (zA.mk (zP.mk x_43 x_44) x_45 x_46 x_47) x_48 x_49 x_50) x_51).Cpu.Stack) ((zi.mk (zN.mk x_39 x_40 x_41 x_42 (zA.mk (zP.mk x_43 x_44) x_45 x_46 x_47) x_48 x_49 x_50) x_51).Cpu.Slots) ((zi.mk (zN.mk x_39 x_40 x_41 x_42 (zA.mk (zP.mk x_43 x_44) x_45 x_46 x_47) x_48 x_49 x_50) x_51).Cpu.Loops) (zA.mk (zP.mk ((zi.mk (zN.mk x_39 x_40 x_41 x_42 (zA.mk (zP.mk x_43 x_44) x_45 x_46 x_47) x_48 x_49 x_50) x_51).Cpu.Out.Edge.Headers) ((zi.mk (zN.mk x_39 x_40 x_41 x_42 (zA.mk (zP.mk x_43 x_44) x_45 x_46 x_47) x_48 x_49 x_50) x_51).Cpu.Out.Edge.Status)) ((zi.mk (zN.mk x_39 x_40 x_41 x_42 (zA.mk (zP.mk x_43 x_44) x_45 x_46 x_47) x_48 x_49 x_50) x_51).Cpu.Out.Logs) ((zi.mk (zN.mk x_39 x_40 x_41 x_42 (zA.mk (zP.mk x_43 x_44) x_45 x_46 x_47) x_48 x_49 x_50) x_51).Cpu.Out.End) ((zi.mk (zN.mk x_39 x_40 x_41 x_42 (zA.mk (zP.mk x_43 x_44) x_45 x_46 x_47) x_48 x_49 x_50) x_51).Cpu.Out.Text)) ((zi.mk (zN.mk x_39 x_40 x_41 x_42 (zA.mk (zP.mk x_43 x_44) x_45 x_46 x_47) x_48 x_49 x_50) x_51).Cpu.Spent) ((zi.mk (zN.mk x_39 x_40 x_41 x_42 (zA.mk (zP.mk x_43 x_44) x_45 x_46 x_47) x_48 x_49 x_50) x_51).Cpu.Over) ((zi.mk (zN.mk x_39 x_40 x_41 x_42 (zA.mk (zP.mk x_43 x_44) x_45 x_46 x_47) x_48 x_49 x_50) x_51).Cpu.E)) x_51)) fun r78=>
     some (.go (r78.Cpu.At,r78.Cpu.Stack,r78.Cpu.Slots,r78.Cpu.Loops,r78.Cpu.Out.Edge.Headers,r78.Cpu.Out.Edge.Status,r78.Cpu.Out.Logs,r78.Cpu.Out.End,r78.Cpu.Out.Text,r78.Cpu.Spent,r78.Cpu.Over,r78.Cpu.E,r78.code_)))))
   (some (.stop (.go (x_39,x_40,x_41,x_42,x_43,x_44,x_45,x_46,x_47,x_48,x_49,x_50,x_51))))
def z5c (n:Nat) (m_0:zH) (c_1:zN) (most_2:Int):Option (zN):=
 obind (z6l m_0 c_1) fun r4=>
 obind (z2V r4) fun r13=>
 bindJ (S:=Int×(List zj)×(List zj)×(List Int)×(List zp)×Int×(List (List UInt8))×Int×(List UInt8)×Int×Bool×Int×(List z6))
  (iter (z4c n m_0 most_2) n (r4.Cpu.At,r4.Cpu.Stack,r4.Cpu.Slots,r4.Cpu.Loops,r4.Cpu.Out.Edge.Headers,r4.Cpu.Out.Edge.Status,r4.Cpu.Out.Logs,r4.Cpu.Out.End,r4.Cpu.Out.Text,r4.Cpu.Spent,r4.Cpu.Over,r4.Cpu.E,r4.code_))
 (fun (x_16,x_17,x_18,x_19,x_20,x_21,x_22,x_23,x_24,x_25,x_26,x_27,x_28)=>
  some (zN.mk x_16 x_17 x_18 x_19 (zA.mk (zP.mk x_20 x_21) x_22 x_23 x_24) x_25 x_26 x_27))
@[irreducible] def z66 (n : Nat) (m_0 : zH) (e_1 : zP) (most_2 : Int) : Option (zA × Int) :=
  obind (z4K e_1) fun r4=>
  obind (z5c n m_0 r4 most_2) fun r11=>
  cond (!r11.Over)
    (some ((zA.mk (zP.mk ([]:List zp) 0) ([]:List (List UInt8)) 0 []),204))
    (cond (decide (r11.E≠0))
      (some ((zA.mk (zP.mk ([]:List zp) 0) ([]:List (List UInt8)) 0 []),r11.E))
      (some (r11.Out,0)))
def z5q (n:Nat) (e_0:Int) (a_1:zG):Option (Bool):=
 obind (z14 n a_1.Effects e_0) fun r1=>
 some (!r1)
abbrev z5L (n:Nat) (s_0:(List Int)) (f_1_0:zG):(Int)→Option (Lp (Int) (Lp (Unit) (Int))):=
 fun s_5=>
  cond (decide (s_5<(s_0.length:Int)))
   (idx s_0 s_5 fun x11=>
   obind (z5q n x11 f_1_0) fun r12=>
   cond r12
    (some (.stop (.stop s_5)))
    (some (.go (IntKind.i64.wrap (s_5+1)))))
   (some (.stop (.go ())))
@[irreducible] def z3D (n : Nat) (s_0 : (List Int)) (f_1_0 : zG) : Option (Int) :=
  bindJ (S:=Unit)
    (iter (z5L n s_0 f_1_0) n 0)
  (fun _=>
    some (-1))
@[irreducible] def z3l (n : Nat) (s_0 : (List Int)) (f_1_0 : zG) : Option (Bool) :=
  obind (z3D n s_0 f_1_0) fun r1=>
  some (decide (0≤r1))
mutual
def zm.eff:zm→Bool
 | ⟨op,_,_,_,_,l⟩=>op == 6 || op == 7 || effL l
def effL:List zm→Bool
 | []=>false
 | x::r=>x.eff || effL r
end
def kindE (k:Int):Int:=if k=3 then 2 else if k=4 then 3 else if k=7 then 4 else if k=8 then 5 else if k=9 then 6 else 0
mutual
def z7.effs (e:Int):z7→Bool
 | ⟨k,_,_,_,x,b,l⟩=>decide (kindE k=e) || (decide (e=1) && x.eff) || effsB e b || effsB e l
def effsB (e:Int):List z7→Bool
 | []=>false
 | x::r=>x.effs e || effsB e r
end
mutual
def z7.cnt:z7→Nat
 | ⟨_,_,_,_,x,b,l⟩=>1+x.nodes+cntB b+cntB l
def cntB:List z7→Nat
 | []=>0
 | x::r=>x.cnt+cntB r
end
def usedH (n:Nat) (p:zG):Option (List Int):=need (cntB p.Code<2 ^ 62)
 (obind (z3e n p) fun b=>some (cond b (([1,2,3,4,5,6]:List Int).filter fun e=>effsB e p.Code) []))
def z73 (n:Nat) (p_0:zG):Option (Bool):=
 obind (z3e n p_0) fun r2=>
 bindJ (S:=Bool)
  (cond r2
   (obind (usedH n p_0) fun r10=>
   obind (z3l n r10 p_0) fun r13=>
   some (.go (!r13)))
   (some (.go false)))
 (fun b4=>
  some b4)
def z2a (n:Nat):Option (Bool):=
 obind (z6w n [112,114,111,103,114,97,109,32,112,32,101,102,102,101,99,116,115,32,108,111,103,44,32,115,116,97,116,117,115,32,123,32,108,101,116,32,120,32,61,32,49,59,32,105,102,32,120,32,60,32,50,32,123,32,108,111,103,32,34,97,34,59,32,125,32,115,101,116,32,115,116,97,116,117,115,32,61,32,52,48,52,59,32,125]) fun r1=>
 cond ((!r1.2) || decide ((r1.1.length:Int)≠1))
  (none)
  (idx r1.1 0 fun x8=>
  obind (z36 n x8) fun r11=>
  obind (z65 n x8) fun r20=>
  obind (z66 n r11.1 (zP.mk ([]:List zp) 200) r20.1) fun r22=>
  bindJ (S:=Bool)
   (cond (((((decide (r11.2=0) && decide (r20.2=0)) && decide (r22.2=0)) && decide (r20.1=10)) && decide (r22.1.Edge.Status=404)) && decide ((r22.1.Logs.length:Int)=1))
    (obind (z73 n x8) fun r52=>
    some (.go r52))
    (some (.go false)))
  (fun b44=>
   some b44))
def z64 (n:Nat) (p_0:zG):Option (Int×Int):=
 obind (z7K n p_0) fun r2=>
 cond (!r2.is_)
  (some (0,1))
  (obind (z4b r2.lo_) fun r6=>
  some (r6.1,r6.2))
abbrev z6E:(Int×(List UInt8))→Option (Lp (Int×(List UInt8)) (Lp (Int×(List UInt8)) ((List UInt8)))):=
 fun (z_8,out_9)=>
  cond (decide (127<z_8))
   (need (0≤(bitOr .u8 (IntKind.u8.wrap z_8) 128)∧(bitOr .u8 (IntKind.u8.wrap z_8) 128)≤255) (
   need (out_9.length+([((bitOr .u8 (IntKind.u8.wrap z_8) 128)).toNat.toUInt8]:List UInt8).length≤4294967296) (
   some (.go ((Int.fdiv z_8 (2 ^ (min ((7:Int).toNat) IntKind.u64.bits))),(out_9++([((bitOr .u8 (IntKind.u8.wrap z_8) 128)).toNat.toUInt8]:List UInt8)))))))
   (some (.stop (.go (z_8,out_9))))
def z7W (n:Nat) (n_0:Int):Option ((List UInt8)):=
 bindJ (S:=Int×(List UInt8))
  (iter (z6E) n ((zdn .u64 (IntKind.u64.wrap ((IntKind.u64.wrap n_0)*2 ^ (min ((1:Int).toNat) IntKind.u64.bits))) (IntKind.u64.wrap (Int.fdiv n_0 (2 ^ (min ((63:Int).toNat) IntKind.i64.bits))))),([]:List UInt8)))
 (fun (z_1,out_2)=>
  need (out_2.length+([((IntKind.u8.wrap z_1)).toNat.toUInt8]:List UInt8).length≤4294967296) (
  some (out_2++([((IntKind.u8.wrap z_1)).toNat.toUInt8]:List UInt8))))
def z7V (n:Nat) (s_0:(List UInt8)):Option ((List UInt8)):=
 obind (z7W n (s_0.length:Int)) fun r1=>
 need (r1.length+s_0.length≤4294967296) (
 some (r1++s_0))
abbrev z3K (n:Nat) (l_0:(List (List UInt8))):((List UInt8)×Int)→Option (Lp ((List UInt8)×Int) (Lp ((List UInt8)) ((List UInt8)))):=
 fun (out_10,s_11)=>
  cond (decide (s_11<(l_0.length:Int)))
   (idx l_0 s_11 fun x18=>
   obind (z7V n x18) fun r19=>
   need (out_10.length+r19.length≤4294967296) (
   some (.go ((out_10++r19),(IntKind.i64.wrap (s_11+1))))))
   (some (.stop (.go out_10)))
def z4G (n:Nat) (l_0:(List (List UInt8))):Option ((List UInt8)):=
 obind (z7W n (l_0.length:Int)) fun r1=>
 bindJ (S:=(List UInt8))
  (iter (z3K n l_0) n (r1,0))
 (fun out_4=>
  some out_4)
def z6T (n:Nat) (l_0:(List (List UInt8))):Option ((List UInt8)):=
 obind (z4G n l_0) fun r1=>
 some r1
abbrev z4f (n:Nat) (l_0:(List Int)):((List UInt8)×Int)→Option (Lp ((List UInt8)×Int) (Lp ((List UInt8)) ((List UInt8)))):=
 fun (out_10,s_11)=>
  cond (decide (s_11<(l_0.length:Int)))
   (idx l_0 s_11 fun x18=>
   obind (z7W n x18) fun r19=>
   need (out_10.length+r19.length≤4294967296) (
   some (.go ((out_10++r19),(IntKind.i64.wrap (s_11+1))))))
   (some (.stop (.go out_10)))
def z5S (n:Nat) (l_0:(List Int)):Option ((List UInt8)):=
 obind (z7W n (l_0.length:Int)) fun r1=>
 bindJ (S:=(List UInt8))
  (iter (z4f n l_0) n (r1,0))
 (fun out_4=>
  some out_4)
def z84 (n:Nat) (l_0:(List Int)):Option ((List UInt8)):=
 obind (z5S n l_0) fun r1=>
 some r1
def z3b (n_1:Int):Option ((List UInt8)):=
 cond (decide (n_1<0))
  (none)
  (bindJ (S:=(List UInt8))
   (cond (decide (0<(IntKind.i64.wrap (n_1 - 0))))
    (need (0≤(IntKind.i64.wrap (n_1 - 0))∧(IntKind.i64.wrap (n_1 - 0))≤4294967296) (
    need (0≤(0:Int)∧(0:Int)≤0∧0≤((List.replicate ((IntKind.i64.wrap (n_1 - 0))).toNat (0:UInt8)).length:Int)) (
    some (.go ((List.replicate ((IntKind.i64.wrap (n_1 - 0))).toNat (0:UInt8)).take ((0:Int).toNat))))))
    (some (.go ([]:List UInt8))))
  (fun s_2=>
   some s_2))
abbrev z2f (slices_0:(List (List UInt8))):(Int×Int)→Option (Lp (Int×Int) (Lp (Int) ((List UInt8)))):=
 fun (size_6,s_7)=>
  cond (decide (s_7<(slices_0.length:Int)))
   (idx slices_0 s_7 fun x13=>
   cond (decide ((IntKind.i64.wrap (size_6+(x13.length:Int)))<0))
    (none)
    (some (.go ((IntKind.i64.wrap (size_6+(x13.length:Int))),(IntKind.i64.wrap (s_7+1))))))
   (some (.stop (.go size_6)))
abbrev z2g (slices_0:(List (List UInt8))):((List UInt8)×Int)→Option (Lp ((List UInt8)×Int) (Lp ((List UInt8)) ((List UInt8)))):=
 fun (newslice_25,s_26)=>
  cond (decide (s_26<(slices_0.length:Int)))
   (idx slices_0 s_26 fun x33=>
   need (newslice_25.length+x33.length≤4294967296) (
   some (.go ((newslice_25++x33),(IntKind.i64.wrap (s_26+1))))))
   (some (.stop (.go newslice_25)))
def z2F (n:Nat) (slices_0:(List (List UInt8))):Option ((List UInt8)):=
 bindJ (S:=Int)
  (iter (z2f slices_0) n (0,0))
 (fun size_1=>
  obind (z3b size_1) fun r16=>
  bindJ (S:=(List UInt8))
   (iter (z2g slices_0) n (r16,0))
  (fun newslice_19=>
   some newslice_19))
abbrev z4y (m_0:zH):((List (List UInt8))×(List Int)×Int)→Option (Lp ((List (List UInt8))×(List Int)×Int) (Lp ((List (List UInt8))×(List Int)) ((List UInt8)))):=
 fun (texts_11,numbers_12,s_13)=>
  cond (decide (s_13<(m_0.Code.length:Int)))
   (idx m_0.Code s_13 fun x21=>
   need (texts_11.length+([x21.S]:List (List UInt8)).length≤4294967296) (
   need (numbers_12.length+([x21.Op,x21.A]:List Int).length≤4294967296) (
   some (.go ((texts_11++([x21.S]:List (List UInt8))),(numbers_12++([x21.Op,x21.A]:List Int)),(IntKind.i64.wrap (s_13+1)))))))
   (some (.stop (.go (texts_11,numbers_12))))
def z4s (n:Nat) (m_0:zH):Option ((List UInt8)):=
 bindJ (S:=(List (List UInt8))×(List Int))
  (iter (z4y m_0) n (([m_0.Name]:List (List UInt8)),([]:List Int),0))
 (fun (texts_3,numbers_4)=>
  obind (z6T n texts_3) fun r29=>
  obind (z84 n m_0.Effects) fun r32=>
  obind (z84 n numbers_4) fun r35=>
  obind (z2F n ([r29,r32,r35]:List (List UInt8))) fun r42=>
  some r42)
abbrev z4X (b_0:(List UInt8)):(Int×Int)→Option (Lp (Int×Int) (Lp (Int×Int) (Int×Int×Int))):=
 fun (z_7,s_8)=>
  cond (decide (s_8<(b_0.length:Int)))
   (idx b_0 s_8 fun x14=>
   bindJ (S:=Bool)
    (cond (decide (s_8=9) && decide (1<((x14).toNat:Int)))
     (some (.go (decide (s_8=9) && decide (1<((x14).toNat:Int)))))
     (some (.go (decide (0<s_8) && decide (((x14).toNat:Int)=0)))))
   (fun s_15=>
    cond s_15
     (some (.stop (.stop (0,0,11))))
     (need (0≤(IntKind.i64.wrap (7*s_8))) (
     cond (decide (((x14).toNat:Int)<128))
      (some (.stop (.go ((bitOr .u64 z_7 (IntKind.u64.wrap ((IntKind.u64.wrap (zaw .u8 ((x14).toNat:Int) 127))*2 ^ (min (((IntKind.i64.wrap (7*s_8))).toNat) IntKind.u64.bits)))),(IntKind.i64.wrap (s_8+1))))))
      (some (.go ((bitOr .u64 z_7 (IntKind.u64.wrap ((IntKind.u64.wrap (zaw .u8 ((x14).toNat:Int) 127))*2 ^ (min (((IntKind.i64.wrap (7*s_8))).toNat) IntKind.u64.bits)))),(IntKind.i64.wrap (s_8+1)))))))))
   (some (.stop (.go (z_7,0))))
def z7k (n:Nat) (b_0:(List UInt8)):Option (Int×Int×Int):=
 bindJ (S:=Int×Int)
  (iter (z4X b_0) n (0,0))
 (fun (z_1,used_2)=>
  cond (decide (used_2=0))
   (some (0,0,10))
   (some ((zdn .i64 (IntKind.i64.wrap (Int.fdiv z_1 (2 ^ (min ((1:Int).toNat) IntKind.u64.bits)))) (IntKind.i64.wrap (0 - (IntKind.i64.wrap (zaw .u64 z_1 1))))),used_2,0)))
def z6f (n:Nat) (b_0:(List UInt8)) (least_1:Int):Option (Int×Int×Int):=
 obind (z7k n b_0) fun r1=>
 cond (decide (r1.2.2≠0))
  (some (0,0,r1.2.2))
  (cond (decide (r1.1<0))
   (some (0,0,11))
   (need (least_1≠0) (
   cond (decide ((IntKind.i64.wrap ((IntKind.i64.wrap ((b_0.length:Int) - r1.2.1)).tdiv least_1))<r1.1))
    (some (0,0,10))
    (some (r1.1,r1.2.1,0)))))
def z6o (n:Nat) (b_0:(List UInt8)):Option ((List UInt8)×Int×Int):=
 obind (z6f n b_0 1) fun r1=>
 cond (decide (r1.2.2≠0))
  (some ([],0,r1.2.2))
  (need (0≤r1.2.1∧r1.2.1≤(IntKind.i64.wrap (r1.2.1+r1.1))∧(IntKind.i64.wrap (r1.2.1+r1.1))≤(b_0.length:Int)) (
  some (((b_0.take (((IntKind.i64.wrap (r1.2.1+r1.1))).toNat)).drop ((r1.2.1).toNat)),(IntKind.i64.wrap (r1.2.1+r1.1)),0)))
abbrev z3Y (n:Nat) (b_0:(List UInt8)) (r1:Int×Int×Int):(Int×(List (List UInt8))×Int)→Option (Lp (Int×(List (List UInt8))×Int) (Lp (Int×(List (List UInt8))) ((List (List UInt8))×Int×Int))):=
 fun (at_11,out_12,s_13)=>
  cond (decide (s_13<r1.1))
   (need (0≤at_11∧at_11≤(b_0.length:Int)∧(b_0.length:Int)≤(b_0.length:Int)) (
   obind (z6o n (b_0.drop at_11.toNat)) fun r21=>
   cond (decide (r21.2.2≠0))
    (some (.stop (.stop (([]:List (List UInt8)),0,r21.2.2))))
    (need (out_12.length+([r21.1]:List (List UInt8)).length≤4294967296) (
    some (.go ((IntKind.i64.wrap (at_11+r21.2.1)),(out_12++([r21.1]:List (List UInt8))),(IntKind.i64.wrap (s_13+1))))))))
   (some (.stop (.go (at_11,out_12))))
def z4Y (n:Nat) (b_0:(List UInt8)) (least_1:Int):Option ((List (List UInt8))×Int×Int):=
 obind (z6f n b_0 least_1) fun r1=>
 cond (decide (r1.2.2≠0))
  (some (([]:List (List UInt8)),0,r1.2.2))
  (bindJ (S:=Int×(List (List UInt8)))
   (iter (z3Y n b_0 r1) n (r1.2.1,([]:List (List UInt8)),0))
  (fun (at_4,out_5)=>
   some (out_5,at_4,0)))
def z5k (n:Nat) (b_0:(List UInt8)):Option ((List (List UInt8))×Int×Int):=
 obind (z4Y n b_0 1) fun r1=>
 some (r1.1,r1.2.1,r1.2.2)
abbrev z4q (n:Nat) (b_0:(List UInt8)) (r1:Int×Int×Int):(Int×(List Int)×Int)→Option (Lp (Int×(List Int)×Int) (Lp (Int×(List Int)) ((List Int)×Int×Int))):=
 fun (at_11,out_12,s_13)=>
  cond (decide (s_13<r1.1))
   (need (0≤at_11∧at_11≤(b_0.length:Int)∧(b_0.length:Int)≤(b_0.length:Int)) (
   obind (z7k n (b_0.drop at_11.toNat)) fun r21=>
   cond (decide (r21.2.2≠0))
    (some (.stop (.stop (([]:List Int),0,r21.2.2))))
    (need (out_12.length+([r21.1]:List Int).length≤4294967296) (
    some (.go ((IntKind.i64.wrap (at_11+r21.2.1)),(out_12++([r21.1]:List Int)),(IntKind.i64.wrap (s_13+1))))))))
   (some (.stop (.go (at_11,out_12))))
def z6g (n:Nat) (b_0:(List UInt8)) (least_1:Int):Option ((List Int)×Int×Int):=
 obind (z6f n b_0 least_1) fun r1=>
 cond (decide (r1.2.2≠0))
  (some (([]:List Int),0,r1.2.2))
  (bindJ (S:=Int×(List Int))
   (iter (z4q n b_0 r1) n (r1.2.1,([]:List Int),0))
  (fun (at_4,out_5)=>
   some (out_5,at_4,0)))
def z6e (n:Nat) (b_0:(List UInt8)):Option ((List Int)×Int×Int):=
 obind (z6g n b_0 1) fun r1=>
 some (r1.1,r1.2.1,r1.2.2)
abbrev z3t (p_0:zG):(Int)→Option (Lp (Int) (Lp (Unit) (Bool))):=
 fun s_6=>
  cond (decide (s_6<(p_0.Effects.length:Int)))
   (idx p_0.Effects s_6 fun x12=>
   bindJ (S:=Bool)
    (cond (decide (x12<1) || decide (6<x12))
     (some (.go true))
     (bindJ (S:=Bool)
      (cond (decide (0<s_6))
       (idx p_0.Effects (IntKind.i64.wrap (s_6 - 1)) fun x28=>
       some (.go (decide (x12≤x28))))
       (some (.go false)))
     (fun b22=>
      some (.go b22))))
   (fun b16=>
    cond b16
     (some (.stop (.stop false)))
     (some (.go (IntKind.i64.wrap (s_6+1))))))
   (some (.stop (.go ())))
@[irreducible] def z4i (n : Nat) (p_0 : zG) : Option (Bool) :=
  bindJ (S:=Unit)
    (iter (z3t p_0) n 0)
  (fun _=>
    obind (zY n (zw.mk (zz.mk ([]:List zk) ([]:List Rul)) ([]:List Int)) p_0.Code 1) fun r31=>
    some r31.1)
def z1s (t_0:zl) (x_1:z6):Option (Int):=
 bindJ (S:=Bool)
  (cond (((decide (x_1.Op=1) && decide (x_1.S=[])) && decide (0≤x_1.A)) && decide (x_1.A<1000000000000000000))
   (some (.go (((decide (x_1.Op=1) && decide (x_1.S=[])) && decide (0≤x_1.A)) && decide (x_1.A<1000000000000000000))))
   (some (.go (decide (x_1.Op=7) && (decide (x_1.A=0) && decide (x_1.S=[]))))))
 (fun s_6=>
  cond s_6
   (some 1)
   (cond (((decide (x_1.Op=2) || decide (x_1.Op=6)) && decide (x_1.A=0)) && decide ((x_1.S.length:Int)≤200))
    (some 2)
    (cond ((decide (x_1.Op=4) || decide (x_1.Op=5)) && (decide (x_1.A=0) && decide (x_1.S=[])))
     (some 3)
     (cond (((decide (x_1.Op=3) && decide (x_1.S=[])) && decide (0≤x_1.A)) && decide (x_1.A<(t_0.slots_.length:Int)))
      (idx t_0.slots_ x_1.A fun x52=>
      some x52)
      (some 0)))))
def z17 (t_0:zl) (kind_1:Int):Option (zl×Bool):=
 obind (z15 t_0.stack_) fun r3=>
 need (r3.length+([kind_1]:List Int).length≤4294967296) (
 some ((zl.mk (r3++([kind_1]:List Int)) t_0.slots_ t_0.loops_),decide (kind_1≠0)))
def z1A (k_0:Int) (a_1:Int):Option (Bool):=
 some (decide (k_0≠a_1))
abbrev z1v (s_0:(List Int)) (f_1_0:Int):(Int)→Option (Lp (Int) (Lp (Unit) (Int))):=
 fun s_5=>
  cond (decide (s_5<(s_0.length:Int)))
   (idx s_0 s_5 fun x11=>
   obind (z1A x11 f_1_0) fun r12=>
   cond r12
    (some (.stop (.stop s_5)))
    (some (.go (IntKind.i64.wrap (s_5+1)))))
   (some (.stop (.go ())))
@[irreducible] def z25 (n : Nat) (s_0 : (List Int)) (f_1_0 : Int) : Option (Int) :=
  bindJ (S:=Unit)
    (iter (z1v s_0 f_1_0) n 0)
  (fun _=>
    some (-1))
@[irreducible] def z1c (n : Nat) (s_0 : (List Int)) (f_1_0 : Int) : Option (Bool) :=
  obind (z25 n s_0 f_1_0) fun r1=>
  some (decide (0≤r1))
def z4r (op_0:Int) (kind_1:Int):Option (Int):=
 bindJ (S:=Unit)
  (bindJ (S:=Bool)
   (cond (decide (op_0=8))
    (some (.go (decide (op_0=8))))
    (cond (decide (op_0=11))
     (some (.go (decide (op_0=11))))
     (cond (decide (op_0=12))
      (some (.go (decide (op_0=12))))
      (cond (decide (op_0=13))
       (some (.go (decide (op_0=13))))
       (some (.go (decide (op_0=14))))))))
  (fun s_5=>
   cond s_5
    (cond (decide (kind_1≠1))
     (some (.stop 0))
     (some (.stop kind_1)))
    (cond (decide (op_0=10))
     (cond (decide (kind_1=3))
      (some (.stop 0))
      (some (.stop kind_1)))
     (bindJ (S:=Bool)
      (cond (decide (op_0=9))
       (some (.go (decide (op_0=9))))
       (cond (decide (op_0=21))
        (some (.go (decide (op_0=21))))
        (some (.go (decide (op_0=22))))))
     (fun s_18=>
      cond s_18
       (cond (decide (kind_1≠3))
        (some (.stop 0))
        (some (.go ())))
       (bindJ (S:=Bool)
        (cond (decide (op_0=15))
         (some (.go (decide (op_0=15))))
         (cond (decide (op_0=16))
          (some (.go (decide (op_0=16))))
          (cond (decide (op_0=17))
           (some (.go (decide (op_0=17))))
           (some (.go (decide (op_0=18)))))))
       (fun s_27=>
        cond s_27
         (cond (decide (kind_1=3))
          (some (.stop 0))
          (some (.go ())))
         (some (.go ())))))))))
 (fun _=>
  some 3)
def z1h (n:Nat) (t_0:zl) (x_1:z6):Option (zl×Bool):=
 bindJ (S:=Int)
  (cond (decide (x_1.Op≤7))
   (obind (z1s t_0 x_1) fun r10=>
   obind (z17 t_0 r10) fun r12=>
   some (.stop (r12.1,r12.2)))
   (cond (decide (x_1.Op=8) || decide (x_1.Op=9))
    (some (.go 1))
    (cond (decide (x_1.Op=23))
     (some (.go x_1.A))
     (some (.go 2)))))
 (fun n_4=>
  cond ((((decide (n_4<1) || (decide (x_1.Op=23) && decide (n_4<2))) || (decide (x_1.Op≠23) && decide (x_1.A≠0))) || (!decide (x_1.S=[]))) || decide ((IntKind.i64.wrap ((t_0.stack_.length:Int) - n_4))<0))
   (some (t_0,false))
   (idx t_0.stack_ (IntKind.i64.wrap ((t_0.stack_.length:Int) - n_4)) fun x47=>
   need (0≤(IntKind.i64.wrap ((t_0.stack_.length:Int) - n_4))∧(IntKind.i64.wrap ((t_0.stack_.length:Int) - n_4))≤(t_0.stack_.length:Int)∧(t_0.stack_.length:Int)≤(t_0.stack_.length:Int)) (
   obind (z1c n (t_0.stack_.drop (((IntKind.i64.wrap ((t_0.stack_.length:Int) - n_4))).toNat)) x47) fun r50=>
   cond r50
    (some (t_0,false))
    (need (0≤(0:Int)∧0≤(IntKind.i64.wrap ((t_0.stack_.length:Int) - n_4))∧(IntKind.i64.wrap ((t_0.stack_.length:Int) - n_4))≤(t_0.stack_.length:Int)) (
    obind (z4r x_1.Op x47) fun r58=>
    obind (z17 (zl.mk (t_0.stack_.take (((IntKind.i64.wrap ((t_0.stack_.length:Int) - n_4))).toNat)) t_0.slots_ t_0.loops_) r58) fun r60=>
    some (r60.1,r60.2))))))
def z1e (t_0:zl) (kind_1:Int):Option (zl×Bool):=
 bindJ (S:=Bool)
  (cond (decide ((IntKind.i64.wrap ((t_0.stack_.length:Int) - 1))<0))
   (some (.go true))
   (idx t_0.stack_ (IntKind.i64.wrap ((t_0.stack_.length:Int) - 1)) fun x9=>
   some (.go (decide (x9≠kind_1)))))
 (fun b3=>
  cond b3
   (some (t_0,false))
   (need (0≤(0:Int)∧0≤(IntKind.i64.wrap ((t_0.stack_.length:Int) - 1))∧(IntKind.i64.wrap ((t_0.stack_.length:Int) - 1))≤(t_0.stack_.length:Int)) (
   some ((zl.mk (t_0.stack_.take (((IntKind.i64.wrap ((t_0.stack_.length:Int) - 1))).toNat)) t_0.slots_ t_0.loops_),true))))
def zy (n:Nat) (t_0:zl) (x_1:z6) (at_2:Int):Option (zl×Bool):=
 cond (decide (1≤x_1.Op) && decide (x_1.Op≤23))
  (obind (z1h n t_0 x_1) fun r8=>
  some (r8.1,r8.2))
  (cond ((decide (x_1.Op≠32) && (!decide (x_1.S=[]))) || decide (200<(x_1.S.length:Int)))
   (some (t_0,false))
   (cond (decide (x_1.Op=30))
    (some (t_0,decide (x_1.A=0)))
    (cond (decide (x_1.Op=37))
     (some (t_0,true))
     (cond (decide (x_1.Op=38))
      (obind (z1e t_0 3) fun r35=>
      some (r35.1,r35.2))
      (cond (decide (x_1.Op=33))
       (obind (z1e t_0 1) fun r44=>
       some (r44.1,(r44.2 && decide (x_1.A=0))))
       (bindJ (S:=Bool)
        (cond (decide (x_1.Op=32))
         (some (.go (decide (x_1.Op=32))))
         (cond (decide (x_1.Op=34))
          (some (.go (decide (x_1.Op=34))))
          (cond (decide (x_1.Op=35))
           (some (.go (decide (x_1.Op=35))))
           (some (.go (decide (x_1.Op=36)))))))
       (fun s_59=>
        cond s_59
         (obind (z1e t_0 2) fun r68=>
         some (r68.1,(r68.2 && decide (x_1.A=0))))
         (cond (decide (x_1.Op=39))
          (obind (z15 t_0.loops_) fun r84=>
          need (r84.length+([at_2]:List Int).length≤4294967296) (
          bindJ (S:=Bool)
           (cond (decide (0≤x_1.A))
            (some (.go (decide (x_1.A≤1000))))
            (some (.go false)))
          (fun s_91=>
           some ((zl.mk t_0.stack_ t_0.slots_ (r84++([at_2]:List Int))),s_91))))
          (cond (decide (x_1.Op=40))
           (some (t_0,decide (0<(t_0.loops_.length:Int))))
           (cond (decide (x_1.Op=41))
            (cond (decide (x_1.A<0) || decide ((t_0.slots_.length:Int)<x_1.A))
             (some (t_0,false))
             (need (0≤(0:Int)∧0≤x_1.A∧x_1.A≤(t_0.slots_.length:Int)) (
             some ((zl.mk t_0.stack_ (t_0.slots_.take ((x_1.A).toNat)) t_0.loops_),true))))
            (cond (decide (x_1.Op=31))
             (cond (((decide ((IntKind.i64.wrap ((t_0.stack_.length:Int) - 1))<0) || decide (x_1.A<0)) || decide ((t_0.slots_.length:Int)<x_1.A)) || decide (200≤x_1.A))
              (some (t_0,false))
              (idx t_0.stack_ (IntKind.i64.wrap ((t_0.stack_.length:Int) - 1)) fun x131=>
              need (0≤(0:Int)∧0≤(IntKind.i64.wrap ((t_0.stack_.length:Int) - 1))∧(IntKind.i64.wrap ((t_0.stack_.length:Int) - 1))≤(t_0.stack_.length:Int)) (
              bindJ (S:=(List Int))
               (cond (decide (x_1.A=(t_0.slots_.length:Int)))
                (obind (z15 t_0.slots_) fun r141=>
                need (r141.length+([x131]:List Int).length≤4294967296) (
                some (.go (r141++([x131]:List Int)))))
                (some (.go t_0.slots_)))
              (fun x_134=>
               idx x_134 x_1.A fun x148=>
               some ((zl.mk (t_0.stack_.take (((IntKind.i64.wrap ((t_0.stack_.length:Int) - 1))).toNat)) x_134 t_0.loops_),decide (x148=x131))))))
             (some (t_0,false)))))))))))))
abbrev z28 (s1_0:(List Int)) (s2_1:(List Int)):(Int)→Option (Lp (Int) (Lp (Unit) (Bool))):=
 fun s_6=>
  cond (decide (s_6<(s1_0.length:Int)))
   (idx s1_0 s_6 fun x12=>
   idx s2_1 s_6 fun x13=>
   cond (decide (x12≠x13))
    (some (.stop (.stop false)))
    (some (.go (IntKind.i64.wrap (s_6+1)))))
   (some (.stop (.go ())))
def z1z (n:Nat) (s1_0:(List Int)) (s2_1:(List Int)):Option (Bool):=
 cond (decide ((s1_0.length:Int)≠(s2_1.length:Int)))
  (some false)
  (bindJ (S:=Unit)
   (iter (z28 s1_0 s2_1) n 0)
  (fun _=>
   some true))
def z5p (n:Nat) (a_0:zl) (b_1:zl):Option (Bool):=
 obind (z1z n a_0.loops_ b_1.loops_) fun r3=>
 bindJ (S:=Bool)
  (cond r3
   (obind (z1z n a_0.stack_ b_1.stack_) fun r11=>
   some (.go r11))
   (some (.go false)))
 (fun b5=>
  bindJ (S:=Bool)
   (cond b5
    (obind (z1z n a_0.slots_ b_1.slots_) fun r19=>
    some (.go r19))
    (some (.go false)))
  (fun b13=>
   some b13))
def z2c (n:Nat) (at_0:Int) (t_1:zl) (a_2:(List (Int×zl))):Option (Bool×(List (Int×zl))):=
 cond ((mget a_2 at_0).isSome)
  (obind (z5p n t_1 (zl.mk (((mget a_2 at_0).getD (zl.mk [] [] [])).stack_) (((mget a_2 at_0).getD (zl.mk [] [] [])).slots_) (((mget a_2 at_0).getD (zl.mk [] [] [])).loops_))) fun r10=>
  some (r10,a_2))
  (some (true,(mput a_2 at_0 t_1)))
abbrev z1E (n:Nat) (m_0:zH):(Int×(List (Int×zl)))→Option (Lp (Int×(List (Int×zl))) (Lp ((List (Int×zl))) (Int))):=
 fun (s_22,x_23)=>
  cond (decide (s_22<(m_0.Code.length:Int)))
   (idx m_0.Code s_22 fun x29=>
   cond (!((mget x_23 s_22).isSome))
    (some (.stop (.stop 280)))
    (obind (zy n (zl.mk (((mget x_23 s_22).getD (zl.mk [] [] [])).stack_) (((mget x_23 s_22).getD (zl.mk [] [] [])).slots_) (((mget x_23 s_22).getD (zl.mk [] [] [])).loops_)) x29 s_22) fun r39=>
    cond (!r39.2)
     (some (.stop (.stop 280)))
     (bindJ (S:=(List (Int×zl)))
      (cond ((decide (x29.Op=37) || decide (x29.Op=38)) || decide (x29.Op=40))
       (bindJ (S:=Bool)
        (cond (decide (x29.A<0) || decide ((m_0.Code.length:Int)<x29.A))
         (some (.go true))
         (bindJ (S:=Bool)
          (cond (decide (x29.A≤s_22))
           (bindJ (S:=Bool)
            (cond (decide (x29.Op≠37))
             (some (.go true))
             (idx m_0.Code x29.A fun x81=>
             some (.go (decide (x81.Op≠40)))))
           (fun b75=>
            some (.go b75)))
           (some (.go false)))
         (fun b69=>
          some (.go b69))))
       (fun b63=>
        cond b63
         (some (.stop (.stop (.stop 280))))
         (bindJ (S:=(List Int))
          (cond (decide (x29.Op=40))
           (need (0≤(0:Int)∧0≤(IntKind.i64.wrap ((r39.1.loops_.length:Int) - 1))∧(IntKind.i64.wrap ((r39.1.loops_.length:Int) - 1))≤(r39.1.loops_.length:Int)) (
           some (.go (r39.1.loops_.take (((IntKind.i64.wrap ((r39.1.loops_.length:Int) - 1))).toNat)))))
           (some (.go r39.1.loops_)))
         (fun x_87=>
          obind (z2c n x29.A (zl.mk r39.1.stack_ r39.1.slots_ x_87) x_23) fun r96=>
          cond (!r96.1)
           (some (.stop (.stop (.stop 280))))
           (some (.go r96.2))))))
       (some (.go x_23)))
     (fun x_48=>
      bindJ (S:=Bool×(List (Int×zl)))
       (cond (decide (x29.Op≠37))
        (obind (z2c n (IntKind.i64.wrap (s_22+1)) r39.1 x_48) fun r106=>
        some (.go ((!r106.1),r106.2)))
        (some (.go (false,x_48))))
      (fun (s_99,x_100)=>
       cond s_99
        (some (.stop (.stop 280)))
        (some (.go ((IntKind.i64.wrap (s_22+1)),x_100))))))))
   (some (.stop (.go x_23)))
def z3B (n:Nat) (m_0:zH):Option (Int):=
 bindJ (S:=Bool)
  (cond (decide (65536<(m_0.Code.length:Int)) || decide (200<(m_0.Name.length:Int)))
   (some (.go true))
   (obind (z4i n (zG.mk [] m_0.Effects ([]:List z7))) fun r12=>
   some (.go (!r12))))
 (fun b5=>
  cond b5
   (some 280)
   (bindJ (S:=(List (Int×zl)))
    (iter (z1E n m_0) n (0,(mput ([]:(List (Int×zl))) (0:Int) (zl.mk [] [] []))))
   (fun x_17=>
    cond (decide (0<((((mget x_17 (m_0.Code.length:Int)).getD (zl.mk [] [] [])).stack_).length:Int)) || decide (0<((((mget x_17 (m_0.Code.length:Int)).getD (zl.mk [] [] [])).loops_).length:Int)))
     (some 280)
     (some 0))))
abbrev z4x (r2:(List (List UInt8))×Int×Int) (r15:(List Int)×Int×Int):(Int×(List z6))→Option (Lp (Int×(List z6)) (Lp ((List z6)) (zH×Int))):=
 fun (s_36,x_37)=>
  cond (decide (s_36<((r2.1.drop ((1:Int).toNat)).length:Int)))
   (idx (r2.1.drop ((1:Int).toNat)) s_36 fun x44=>
   idx r15.1 (IntKind.i64.wrap (2*s_36)) fun x45=>
   idx r15.1 (IntKind.i64.wrap ((IntKind.i64.wrap (2*s_36))+1)) fun x46=>
   need (x_37.length+([(z6.mk x45 x46 x44)]:List z6).length≤4294967296) (
   some (.go ((IntKind.i64.wrap (s_36+1)),(x_37++([(z6.mk x45 x46 x44)]:List z6))))))
   (some (.stop (.go x_37)))
def z3Z (n:Nat) (b_0:(List UInt8)):Option (zH×Int):=
 obind (z5k n b_0) fun r2=>
 cond (decide (r2.2.2≠0) || decide ((r2.1.length:Int)=0))
  (some ((zH.mk [] ([]:List Int) ([]:List z6)),11))
  (need (0≤r2.2.1∧r2.2.1≤(b_0.length:Int)∧(b_0.length:Int)≤(b_0.length:Int)) (
  obind (z6e n (b_0.drop ((r2.2.1).toNat))) fun r10=>
  cond (decide (r10.2.2≠0))
   (some ((zH.mk [] ([]:List Int) ([]:List z6)),11))
   (need (0≤(IntKind.i64.wrap (r2.2.1+r10.2.1))∧(IntKind.i64.wrap (r2.2.1+r10.2.1))≤(b_0.length:Int)∧(b_0.length:Int)≤(b_0.length:Int)) (
   obind (z6e n (b_0.drop (((IntKind.i64.wrap (r2.2.1+r10.2.1))).toNat))) fun r15=>
   cond ((decide (r15.2.2≠0) || decide ((IntKind.i64.wrap ((IntKind.i64.wrap (r2.2.1+r10.2.1))+r15.2.1))≠(b_0.length:Int))) || decide ((r15.1.length:Int)≠(IntKind.i64.wrap ((IntKind.i64.wrap (2*(r2.1.length:Int))) - 2))))
    (some ((zH.mk [] ([]:List Int) ([]:List z6)),11))
    (idx r2.1 0 fun x25=>
    bindJ (S:=(List z6))
     (need (0≤(1:Int)∧1≤(r2.1.length:Int)∧(r2.1.length:Int)≤(r2.1.length:Int)) (
     iter (z4x r2 r15) n (0,([]:List z6))))
    (fun x_29=>
     obind (z3B n (zH.mk x25 r10.1 x_29)) fun r51=>
     cond (decide (r51≠0))
      (some ((zH.mk [] ([]:List Int) ([]:List z6)),11))
      (some ((zH.mk x25 r10.1 x_29),0))))))))
@[irreducible] def z5F (n : Nat) (m_0 : zH) (e_1 : zP) (most_2 : Int) : Option (zA × Int) :=
  obind (z4K e_1) fun r4=>
  obind (z5c n m_0 r4 most_2) fun r11=>
  cond (!r11.Over)
    (some ((zA.mk (zP.mk ([]:List zp) 0) ([]:List (List UInt8)) 0 []),204))
    (cond (decide (r11.E≠0))
      (some ((zA.mk (zP.mk ([]:List zp) 0) ([]:List (List UInt8)) 0 []),r11.E))
      (some (r11.Out,0)))
abbrev z70 (a_0:(List (List UInt8))) (b_1:(List (List UInt8))):(Int)→Option (Lp (Int) (Lp (Unit) (Bool))):=
 fun k_6=>
  cond (decide (k_6<(a_0.length:Int)))
   (idx a_0 k_6 fun x12=>
   idx b_1 k_6 fun x13=>
   cond (!decide (x12=x13))
    (some (.stop (.stop false)))
    (some (.go (IntKind.i64.wrap (k_6+1)))))
   (some (.stop (.go ())))
def z7P (n:Nat) (a_0:(List (List UInt8))) (b_1:(List (List UInt8))):Option (Bool):=
 cond (decide ((a_0.length:Int)≠(b_1.length:Int)))
  (some false)
  (bindJ (S:=Unit)
   (iter (z70 a_0 b_1) n 0)
  (fun _=>
   some true))
abbrev z4v (a_0:zA) (b_1:zA):(Int)→Option (Lp (Int) (Lp (Unit) (Bool))):=
 fun k_25=>
  cond (decide (k_25<(a_0.Edge.Headers.length:Int)))
   (idx a_0.Edge.Headers k_25 fun x31=>
   idx b_1.Edge.Headers k_25 fun x32=>
   cond (!(decide (x31.Name=x32.Name) && (decide (x31.Value=x32.Value))))
    (some (.stop (.stop false)))
    (some (.go (IntKind.i64.wrap (k_25+1)))))
   (some (.stop (.go ())))
def z4B (n:Nat) (a_0:zA) (b_1:zA):Option (Bool):=
 bindJ (S:=Bool)
  (cond (((decide (a_0.End≠b_1.End) || (!decide (a_0.Text=b_1.Text))) || decide (a_0.Edge.Status≠b_1.Edge.Status)) || decide ((a_0.Edge.Headers.length:Int)≠(b_1.Edge.Headers.length:Int)))
   (some (.go true))
   (obind (z7P n a_0.Logs b_1.Logs) fun r18=>
   some (.go (!r18))))
 (fun b12=>
  cond b12
   (some false)
   (bindJ (S:=Unit)
    (iter (z4v a_0 b_1) n 0)
   (fun _=>
    some true)))
abbrev z6c (l_0:(List Int)) (n_1:Int):(Int)→Option (Lp (Int) (Lp (Unit) (Bool))):=
 fun s_5=>
  cond (decide (s_5<(l_0.length:Int)))
   (idx l_0 s_5 fun x11=>
   cond (decide (x11=n_1))
    (some (.stop (.stop true)))
    (some (.go (IntKind.i64.wrap (s_5+1)))))
   (some (.stop (.go ())))
def z1S (n:Nat) (l_0:(List Int)) (n_1:Int):Option (Bool):=
 bindJ (S:=Unit)
  (iter (z6c l_0 n_1) n 0)
 (fun _=>
  some false)
abbrev z2d (e_1:zP) (r100:zA×Int):(Int)→Option (Lp (Int) (Lp (Unit) (Bool))):=
 fun s_173=>
  cond (decide (s_173<(e_1.Headers.length:Int)))
   (bindJ (S:=Bool)
    (cond (decide ((r100.1.Edge.Headers.length:Int)≠(e_1.Headers.length:Int)))
     (some (.go true))
     (idx r100.1.Edge.Headers s_173 fun x185=>
     idx e_1.Headers s_173 fun x186=>
     some (.go (!(decide (x185.Name=x186.Name) && (decide (x185.Value=x186.Value)))))))
   (fun b179=>
    cond b179
     (some (.stop (.stop false)))
     (some (.go (IntKind.i64.wrap (s_173+1))))))
   (some (.stop (.go ())))
def z45 (n:Nat) (p_0:zG) (e_1:zP):Option (Bool):=
 obind (z4M n p_0.Code 200) fun r3=>
 bindJ (S:=Bool)
  (cond (decide (200<r3) || decide (100<(p_0.Name.length:Int)))
   (some (.go true))
   (obind (z5w n p_0) fun r14=>
   some (.go (!r14))))
 (fun b8=>
  bindJ (S:=Bool)
   (cond (b8 || decide (10<(e_1.Headers.length:Int)))
    (some (.go true))
    (obind (z5g n e_1) fun r25=>
    some (.go (!r25))))
  (fun b19=>
   cond b19
    (obind (z2a n) fun r28=>
    some r28)
    (obind (z65 n p_0) fun r30=>
    obind (z64 n p_0) fun r32=>
    cond (decide (r30.2≠0) || decide (20000<r30.1))
     (obind (z2a n) fun r38=>
     some r38)
     (obind (z36 n p_0) fun r40=>
     obind (z4s n r40.1) fun r47=>
     obind (z3Z n r47) fun r50=>
     cond ((decide (r32.2≠0) || decide (r40.2≠0)) || decide (r50.2≠0))
      (some false)
      (bindJ (S:=zN)
       (obind (z4K e_1) fun r64=>
       obind (z5c n r50.1 r64 r30.1) fun r71=>
       some (.go r71))
      (fun c_84=>
       cond (decide (c_84.E≠0))
        (obind (z2a n) fun r92=>
        some (r92 && (decide (c_84.E=203) || decide (c_84.E=202))))
        (obind (z5F n r50.1 e_1 r30.1) fun r100=>
        bindJ (S:=Bool)
         (cond ((decide (r100.2≠0) || decide (c_84.Spent<r32.1)) || decide (r30.1<c_84.Spent))
          (some (.go true))
          (obind (z4B n r100.1 c_84.Out) fun r119=>
          some (.go (!r119))))
        (fun b113=>
         cond b113
          (some false)
          (obind (usedH n p_0) fun r122=>
          obind (z1S n r122 3) fun r125=>
          bindJ (S:=Bool)
           (cond ((!r125) && decide (r100.1.Edge.Status≠e_1.Status))
            (some (.go true))
            (obind (z1S n r122 4) fun r136=>
            some (.go ((!r136) && decide (0<(r100.1.Logs.length:Int))))))
          (fun b130=>
           bindJ (S:=Bool)
            (cond b130
             (some (.go true))
             (obind (z1S n r122 5) fun r147=>
             some (.go ((!r147) && decide (r100.1.End=1)))))
           (fun b141=>
            bindJ (S:=Bool)
             (cond b141
              (some (.go true))
              (obind (z1S n r122 6) fun r158=>
              some (.go ((!r158) && decide (r100.1.End=2)))))
            (fun b152=>
             cond b152
              (some false)
              (obind (z1S n r122 2) fun r164=>
              cond r164
               (obind (z2a n) fun r167=>
               some r167)
               (bindJ (S:=Unit)
                (iter (z2d e_1 r100) n 0)
               (fun _=>
                obind (z2a n) fun r188=>
                some r188)))))))))))))))
end Go.Proofs.YtgjcniomhahgkaaGreatDoor
