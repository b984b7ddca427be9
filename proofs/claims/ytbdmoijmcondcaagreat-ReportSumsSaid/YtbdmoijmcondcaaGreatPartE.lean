/- A part of the proof of ReportSums: an evaluator of the program's code that the kernel runs, its soundness, what the functions compute. -/
import Derived.Test.YtbdmoijmcondcaaGreatPartD
set_option linter.unusedVariables false
set_option linter.unusedSimpArgs false
set_option maxRecDepth 1000000
namespace Clk
open Go
noncomputable def z9q (x:Device):Option ((List (List Int))):=sharesF zgm x
noncomputable def z4b (ih0:(Int×Int×Int×Chip×Int×Int)->Option Int) (v1:Int) (v2:Int) (v3:Int) (v4:Chip) (v5:Int) (v6:Int):Option Int :=
 cond (decide (v2<v1))
  (Option.bind (z3w (v4,v5,v2)) fun r7 =>
  cond (decide (r7=v6))
   (ih0 (v1,(w64 (v2+1)),(w64 (v3+1)),v4,v5,v6))
   (ih0 (v1,(w64 (v2+1)),v3,v4,v5,v6)))
  (some v3)
noncomputable def z7r:=fun ih (x:(Int×Int×Int×Chip×Int×Int))=>z4b ih x.1 x.2.1 x.2.2.1 x.2.2.2.1 x.2.2.2.2.1 x.2.2.2.2.2
theorem z9r (ih) (x):z7r ih x=z4b ih x.1 x.2.1 x.2.2.1 x.2.2.2.1 x.2.2.2.2.1 x.2.2.2.2.2:=rfl
noncomputable def zjf (N:Nat) (a0:Chip) (a1:Int) (a2:Int):Option Int :=
 ze z7r N ((a0.blocks.length:Int),0,0,a0,a1,a2)
noncomputable def z18 (x:Chip×Int×Int):Option Int:=lim fun N=>zjf N x.1 x.2.1 x.2.2
noncomputable def zb1 (x:Table×Int):Option Int:=cntF z7c x
noncomputable def z2g (ih0:(Int×Int×Table)->Option Int) (v1:Int) (v2:Int) (v3:Table):Option Int :=
 cond (decide (v2<32))
  (Option.bind (zb1 (v3,v2)) fun r4 =>
  ih0 ((w64 (v1+r4)),(w64 (v2+1)),v3))
  (some v1)
noncomputable def z5d:=fun ih (x:(Int×Int×Table))=>z2g ih x.1 x.2.1 x.2.2
theorem z7f (ih) (x):z5d ih x=z2g ih x.1 x.2.1 x.2.2:=rfl
noncomputable def zf0 (N:Nat) (a0:Table):Option Int :=
 ze z5d N (0,0,a0)
noncomputable def z2r (x:Table):Option Int:=lim fun N=>zf0 N x
noncomputable def z5e (ih0:((List Int)×Int×Int)->Option Int) (v1:(List Int)) (v2:Int) (v3:Int):Option Int :=
 cond (decide (v3<(v1.length:Int)))
  (cond (decide (0<=v3)) (cond (decide (v3<(v1.length:Int))) (ih0 (v1,(min v2 (v1.getD v3.toNat 0)),(w64 (v3+1)))) none) none)
  (some v2)
noncomputable def z9s:=fun ih (x:((List Int)×Int×Int))=>z5e ih x.1 x.2.1 x.2.2
theorem zb2 (ih) (x):z9s ih x=z5e ih x.1 x.2.1 x.2.2:=rfl
noncomputable def zf1 (N:Nat) (a0:(List Int)):Option Int :=
 cond (decide ((a0.length:Int)<1))
  (none)
  (cond (decide (0<(a0.length:Int))) (ze z9s N (a0,(a0.getD 0 0),1)) none)
noncomputable def zf2 (x:(List Int)):Option Int:=lim fun N=>zf1 N x
noncomputable def z5f (ih0:((List Int)×Int×Int)->Option Int) (v1:(List Int)) (v2:Int) (v3:Int):Option Int :=
 cond (decide (v3<(v1.length:Int)))
  (cond (decide (0<=v3)) (cond (decide (v3<(v1.length:Int))) (ih0 (v1,(max v2 (v1.getD v3.toNat 0)),(w64 (v3+1)))) none) none)
  (some v2)
noncomputable def z9t:=fun ih (x:((List Int)×Int×Int))=>z5f ih x.1 x.2.1 x.2.2
theorem zb3 (ih) (x):z9t ih x=z5f ih x.1 x.2.1 x.2.2:=rfl
noncomputable def zf3 (N:Nat) (a0:(List Int)):Option Int :=
 cond (decide ((a0.length:Int)<1))
  (none)
  (cond (decide (0<(a0.length:Int))) (ze z9t N (a0,(a0.getD 0 0),1)) none)
noncomputable def zf4 (x:(List Int)):Option Int:=lim fun N=>zf3 N x
noncomputable def z15 (ih0:((List Block)×Int×Int×(List Int))->Option (Int×Int)) (v1:(List Block)) (v2:Int) (v3:Int) (v4:(List Int)):Option (Int×Int) :=
 cond (decide (v3<v2))
  (cond (decide (0<=v3)) (cond (decide (v3<(v1.length:Int))) (cond (!(v1.getD v3.toNat default).bad)
    (cond (decide ((v4.length+[(v1.getD v3.toNat default).erases].length)*8<=70368744177664)) (cond (decide (v4.length+[(v1.getD v3.toNat default).erases].length<=70368744177664)) (ih0 (v1,v2,(w64 (v3+1)),(v4++[(v1.getD v3.toNat default).erases]))) none) none)
    (ih0 (v1,v2,(w64 (v3+1)),v4))) none) none)
  (cond (decide ((v4.length:Int)=0))
    (some (0,0))
    (Option.bind (zf2 v4) fun r5 =>
    Option.bind (zf4 v4) fun r6 =>
    some (r5,r6)))
noncomputable def z7s:=fun ih (x:((List Block)×Int×Int×(List Int)))=>z15 ih x.1 x.2.1 x.2.2.1 x.2.2.2
theorem z1p (ih) (x):z7s ih x=z15 ih x.1 x.2.1 x.2.2.1 x.2.2.2:=rfl
noncomputable def zjg (N:Nat) (a0:Chip):Option (Int×Int) :=
 ze z7s N (a0.blocks,(a0.blocks.length:Int),0,[])
noncomputable def z5g (x:Chip):Option (Int×Int):=lim fun N=>zjg N x
noncomputable def zd9 (a0:Int) (a1:Int):Option Int :=
 Option.bind (z9l a0) fun r1 =>
 Option.bind (z9l a1) fun r2 =>
 cond r1
  (cond r2
    (some 0)
    (some (-1)))
  (cond r2
    (some 1)
    (cond (decide (a0<a1))
      (some (-1))
      (cond (decide (a1<a0))
        (some 1)
        (some 0))))
noncomputable def z5h (x:Int×Int):Option Int:=zd9 x.1 x.2
noncomputable def zda (ih0:(Int×(List Int)×Int×Int)->Option Int) (v1:Int) (v2:(List Int)) (v3:Int) (v4:Int):Option Int :=
 cond (decide (v4<v3))
  (cond (decide (0<=v4)) (cond (decide (v4<(v2.length:Int))) (cond (!(decide ((v2.getD v4.toNat 0)=v1)))
    (some (v2.getD v4.toNat 0))
    (ih0 (v1,v2,v3,(w64 (v4+1))))) none) none)
  (some v1)
noncomputable def zi2:=fun ih (x:(Int×(List Int)×Int×Int))=>zda ih x.1 x.2.1 x.2.2.1 x.2.2.2
theorem zbp (ih) (x):zi2 ih x=zda ih x.1 x.2.1 x.2.2.1 x.2.2.2:=rfl
noncomputable def zjh (N:Nat) (a0:(List Int)):Option Int :=
 ze zi2 N (0,a0,(a0.length:Int),0)
noncomputable def zt8 (x:(List Int)):Option Int:=lim fun N=>zjh N x
noncomputable def z1q (a0:Rank) (a1:Rank):Option Bool :=
 Option.bind (z5h (a0.wanted,a1.wanted)) fun r1 =>
 Option.bind (z5h (a0.erases,a1.erases)) fun r2 =>
 Option.bind (zt8 [r1,r2]) fun r3 =>
 some (decide (r3<0))
noncomputable def z4m (x:Rank×Rank):Option Bool:=z1q x.1 x.2
noncomputable def z04 (ih0:(Int×Int×Chip×Table×Int×Rank×Chip×Int×Int)->Option Int) (v1:Int) (v2:Int) (v3:Chip) (v4:Table) (v5:Int) (v6:Rank) (v7:Chip) (v8:Int) (v9:Int):Option Int :=
 cond (decide (v2<v1))
  (Option.bind (z3w (v7,v8,v2)) fun r10 =>
  cond (decide (r10=v9))
   (cond (decide (32<=v2))
     (some v5)
     (Option.bind (zb1 (v4,v2)) fun r11 =>
     cond (decide (0<=v2)) (cond (decide (v2<(v3.blocks.length:Int))) (cond (decide (0<=v2)) (cond (decide (v2<(v3.blocks.length:Int))) (cond (decide (r11<(((v3.blocks.getD v2.toNat default).pages.length:Nat):Int)))
      (cond (decide (v5<0))
        (ih0 (v1,(w64 (v2+1)),v3,v4,v2,(Rank.mk r11 (v3.blocks.getD v2.toNat default).erases),v7,v8,v9))
        (Option.bind (z4m ((Rank.mk r11 (v3.blocks.getD v2.toNat default).erases),v6)) fun r12 =>
        cond r12
         (ih0 (v1,(w64 (v2+1)),v3,v4,v2,(Rank.mk r11 (v3.blocks.getD v2.toNat default).erases),v7,v8,v9))
         (ih0 (v1,(w64 (v2+1)),v3,v4,v5,v6,v7,v8,v9))))
      (ih0 (v1,(w64 (v2+1)),v3,v4,v5,v6,v7,v8,v9))) none) none) none) none))
   (ih0 (v1,(w64 (v2+1)),v3,v4,v5,v6,v7,v8,v9)))
  (some v5)
noncomputable def z5i:=fun ih (x:(Int×Int×Chip×Table×Int×Rank×Chip×Int×Int))=>z04 ih x.1 x.2.1 x.2.2.1 x.2.2.2.1 x.2.2.2.2.1 x.2.2.2.2.2.1 x.2.2.2.2.2.2.1 x.2.2.2.2.2.2.2.1 x.2.2.2.2.2.2.2.2
theorem z0e (ih) (x):z5i ih x=z04 ih x.1 x.2.1 x.2.2.1 x.2.2.2.1 x.2.2.2.2.1 x.2.2.2.2.2.1 x.2.2.2.2.2.2.1 x.2.2.2.2.2.2.2.1 x.2.2.2.2.2.2.2.2:=rfl
noncomputable def z5j (N:Nat) (a0:Chip) (a1:Table) (a2:Int):Option Int :=
 ze z5i N ((a0.blocks.length:Int),0,a0,a1,(-1),(Rank.mk 0 0),a0,a2,2)
noncomputable def z2s (x:Chip×Table×Int):Option Int:=lim fun N=>z5j N x.1 x.2.1 x.2.2
noncomputable def z6a (x:Device):Option Report:=ofF z18 z2r z5g z59 z2s x
noncomputable def zmt (ih0:(Int×Int×Int×Command)->Option Int) (v1:Int) (v2:Int) (v3:Int) (v4:Command):Option Int :=
 cond (decide (v3<(v4.data.length:Int)))
  (cond (decide (0<=v3)) (cond (decide (v3<(v4.data.length:Int))) (cond (decide (16<(((v4.data.getD v3.toNat []).length:Nat):Int)))
    (some 1)
    (ih0 (v1,v2,(w64 (v3+1)),v4))) none) none)
  (cond (decide (v2<1))
    (some 1)
    (cond (decide (v4.first<0))
      (some 50)
      (cond (decide (v1<v4.first))
        (some 50)
        (cond (decide ((w64 (v1 - v4.first))<v2))
          (some 50)
          (some 0)))))
noncomputable def zmu:=fun ih (x:(Int×Int×Int×Command))=>zmt ih x.1 x.2.1 x.2.2.1 x.2.2.2
noncomputable def zji (N:Nat) (a0:Int) (a1:Command):Option Int :=
 cond (decide (a1.kind=4))
  (some 0)
  (cond (decide (a1.kind=2))
    (ze zmu N (a0,(a1.data.length:Int),0,a1))
    (cond (decide (a1.kind=1))
      (cond (decide (a1.count<1))
        (some 1)
        (cond (decide (a1.first<0))
          (some 50)
          (cond (decide (a0<a1.first))
            (some 50)
            (cond (decide ((w64 (a0 - a1.first))<a1.count))
              (some 50)
              (some 0)))))
      (cond (decide (a1.kind=3))
        (cond (decide (a1.count<1))
          (some 1)
          (cond (decide (a1.first<0))
            (some 50)
            (cond (decide (a0<a1.first))
              (some 50)
              (cond (decide ((w64 (a0 - a1.first))<a1.count))
                (some 50)
                (some 0)))))
        (some 1))))
noncomputable def zdb (x:Int×Command):Option Int:=lim fun N=>zji N x.1 x.2
noncomputable def zqd (ih0:(Int×Int×(List Str))->Option ((List Str))) (v1:Int) (v2:Int) (v3:(List Str)):Option ((List Str)) :=
 cond (decide (v2<v1))
  (cond (decide (v2<64))
    (cond (decide ((v3.length+[([]:Str)].length)*16<=70368744177664)) (cond (decide (v3.length+[([]:Str)].length<=70368744177664)) (ih0 (v1,(w64 (v2+1)),(v3++[[]]))) none) none)
    (some v3))
  (some v3)
noncomputable def zqe:=fun ih (x:(Int×Int×(List Str)))=>zqd ih x.1 x.2.1 x.2.2
noncomputable def zox (N:Nat) (a0:Int):Option ((List Str)) :=
 ze zqe N (a0,0,[])
noncomputable def zi3 (x:Int):Option ((List Str)):=lim fun N=>zox N x
noncomputable def z4c (ih0:((List Int)×Int×(List (List Int)))->Option ((List (List Int)))) (v1:(List Int)) (v2:Int) (v3:(List (List Int))):Option ((List (List Int))) :=
 cond (decide (v2<(v1.length:Int)))
  (cond (decide (0<=v2)) (cond (decide (v2<=(min (w64 (v2+8)) (v1.length:Int)))) (cond (decide ((min (w64 (v2+8)) (v1.length:Int))<=(v1.length:Int))) (cond (decide ((v3.length+[((v1.drop v2.toNat).take ((Int.toNat (min (w64 (v2+8)) (v1.length:Int))) - v2.toNat))].length)*24<=70368744177664)) (cond (decide (v3.length+[((v1.drop v2.toNat).take ((Int.toNat (min (w64 (v2+8)) (v1.length:Int))) - v2.toNat))].length<=70368744177664)) (ih0 (v1,(w64 (v2+8)),(v3++[((v1.drop v2.toNat).take ((Int.toNat (min (w64 (v2+8)) (v1.length:Int))) - v2.toNat))]))) none) none) none) none) none)
  (some v3)
noncomputable def ze8:=fun ih (x:((List Int)×Int×(List (List Int))))=>z4c ih x.1 x.2.1 x.2.2
theorem z9u (ih) (x):ze8 ih x=z4c ih x.1 x.2.1 x.2.2:=rfl
noncomputable def z8q (N:Nat) (a0:(List Int)):Option ((List (List Int))) :=
 ze ze8 N (a0,0,[])
noncomputable def z5k (x:(List Int)):Option ((List (List Int))):=lim fun N=>z8q N x
noncomputable def zdc (a0:Table) (a1:Int):Option Int :=
 cond (decide ((a0.map.length:Int)<=a1))
  (some (-1))
  (cond (decide (0<=a1)) (cond (decide (a1<(a0.map.length:Int))) (some (a0.map.getD a1.toNat 0)) none) none)
noncomputable def zdd (x:Table×Int):Option Int:=zdc x.1 x.2
noncomputable def z4d (ih0:((List Int)×Int×Int×Table×(List Int))->Option ((List Int))) (v1:(List Int)) (v2:Int) (v3:Int) (v4:Table) (v5:(List Int)):Option ((List Int)) :=
 cond (decide (v3<(v1.length:Int)))
  (cond (decide (0<=v3)) (cond (decide (v3<(v1.length:Int))) (Option.bind (zdd (v4,(v1.getD v3.toNat 0))) fun r6 =>
  cond (decide (r6<0))
   (cond (decide (0<=v3)) (cond (decide (v3<(v1.length:Int))) (cond (decide ((v5.length+[(v1.getD v3.toNat 0)].length)*8<=70368744177664)) (cond (decide (v5.length+[(v1.getD v3.toNat 0)].length<=70368744177664)) (ih0 (v1,v2,(w64 (v3+1)),v4,(v5++[(v1.getD v3.toNat 0)]))) none) none) none) none)
   (cond (!(decide ((w64 (Int.tdiv r6 16))=v2)))
     (cond (decide (0<=v3)) (cond (decide (v3<(v1.length:Int))) (cond (decide ((v5.length+[(v1.getD v3.toNat 0)].length)*8<=70368744177664)) (cond (decide (v5.length+[(v1.getD v3.toNat 0)].length<=70368744177664)) (ih0 (v1,v2,(w64 (v3+1)),v4,(v5++[(v1.getD v3.toNat 0)]))) none) none) none) none)
     (ih0 (v1,v2,(w64 (v3+1)),v4,v5)))) none) none)
  (some v5)
noncomputable def z7t:=fun ih (x:((List Int)×Int×Int×Table×(List Int)))=>z4d ih x.1 x.2.1 x.2.2.1 x.2.2.2.1 x.2.2.2.2
theorem z9v (ih) (x):z7t ih x=z4d ih x.1 x.2.1 x.2.2.1 x.2.2.2.1 x.2.2.2.2:=rfl
noncomputable def zjj (N:Nat) (a0:Table) (a1:(List Int)) (a2:Int):Option ((List Int)) :=
 ze z7t N (a1,a2,0,a0,[])
noncomputable def z8r (x:Table×(List Int)×Int):Option ((List Int)):=lim fun N=>zjj N x.1 x.2.1 x.2.2
noncomputable def z4e (ih0:(Int×Int×(List (List Int))×Int×Chip×Table×(List Write))->Option ((List Write))) (ih1:(Int×Int×(List (List Int))×Int×Int×Chip×Table×(List Write)×(List Int))->Option ((List Write))) (v2:Int) (v3:Int) (v4:(List (List Int))) (v5:Int) (v6:Int) (v7:Chip) (v8:Table) (v9:(List Write)) (v10:(List Int)):Option ((List Write)) :=
 cond (decide (0<=v5)) (cond (decide (v5<(v4.length:Int))) (cond (decide (v6<(((v4.getD v5.toNat []).length:Nat):Int)))
  (cond (decide (0<=v5)) (cond (decide (v5<(v4.length:Int))) (cond (decide (0<=v6)) (cond (decide (v6<(((v4.getD v5.toNat []).length:Nat):Int))) (Option.bind (zdd (v8,((v4.getD v5.toNat []).getD v6.toNat 0))) fun r11 =>
  cond (decide ((v10.length+[r11].length)*8<=70368744177664)) (cond (decide (v10.length+[r11].length<=70368744177664)) (ih1 (v2,v3,v4,v5,(w64 (v6+1)),v7,v8,v9,(v10++[r11]))) none) none) none) none) none) none)
  (cond (decide (0<=v5)) (cond (decide (v5<(v4.length:Int))) (cond (decide ((v9.length+[(Write.mk [] (Record.mk 2 0 (v4.getD v5.toNat []) v10))].length)*80<=70368744177664)) (cond (decide (v9.length+[(Write.mk [] (Record.mk 2 0 (v4.getD v5.toNat []) v10))].length<=70368744177664)) (ih0 (v2,v3,v4,(w64 (v5+1)),v7,v8,(v9++[(Write.mk [] (Record.mk 2 0 (v4.getD v5.toNat []) v10))]))) none) none) none) none)) none) none
noncomputable def z7u (ih31:(Int×Int×(List (List Int))×Int×Chip×Table×(List Write))->Option ((List Write))):=fun ih (x:(Int×Int×(List (List Int))×Int×Int×Chip×Table×(List Write)×(List Int)))=>z4e ih31 ih x.1 x.2.1 x.2.2.1 x.2.2.2.1 x.2.2.2.2.1 x.2.2.2.2.2.1 x.2.2.2.2.2.2.1 x.2.2.2.2.2.2.2.1 x.2.2.2.2.2.2.2.2
theorem z9w (ih31:(Int×Int×(List (List Int))×Int×Chip×Table×(List Write))->Option ((List Write))) (ih) (x):z7u ih31 ih x=z4e ih31 ih x.1 x.2.1 x.2.2.1 x.2.2.2.1 x.2.2.2.2.1 x.2.2.2.2.2.1 x.2.2.2.2.2.2.1 x.2.2.2.2.2.2.2.1 x.2.2.2.2.2.2.2.2:=rfl
noncomputable def z4f (N:Nat) (ih0:(Int×Int×Chip×Table×(List Write))->Option ((List Write))) (ih1:(Int×Int×(List (List Int))×Int×Chip×Table×(List Write))->Option ((List Write))) (v2:Int) (v3:Int) (v4:(List (List Int))) (v5:Int) (v6:Chip) (v7:Table) (v8:(List Write)):Option ((List Write)) :=
 cond (decide (v5<(v4.length:Int)))
  (ze (z7u ih1) N (v2,v3,v4,v5,0,v6,v7,v8,[]))
  (ih0 (v2,(w64 (v3+1)),v6,v7,v8))
noncomputable def z20 (N:Nat) (ih6:(Int×Int×Chip×Table×(List Write))->Option ((List Write))):=fun ih (x:(Int×Int×(List (List Int))×Int×Chip×Table×(List Write)))=>z4f N ih6 ih x.1 x.2.1 x.2.2.1 x.2.2.2.1 x.2.2.2.2.1 x.2.2.2.2.2.1 x.2.2.2.2.2.2
theorem z9x (N:Nat) (ih6:(Int×Int×Chip×Table×(List Write))->Option ((List Write))) (ih) (x):z20 N ih6 ih x=z4f N ih6 ih x.1 x.2.1 x.2.2.1 x.2.2.2.1 x.2.2.2.2.1 x.2.2.2.2.2.1 x.2.2.2.2.2.2:=rfl
noncomputable def z4g (N:Nat) (ih0:(Int×Int×Chip×Table×(List Write))->Option ((List Write))) (ih1:(Int×Int×Int×(List (List Int))×Int×Chip×Table×Page×(List Write))->Option ((List Write))) (v2:Int) (v3:Int) (v4:Int) (v5:(List (List Int))) (v6:Int) (v7:Chip) (v8:Table) (v9:Page) (v10:(List Write)):Option ((List Write)) :=
 cond (decide (v6<(v5.length:Int)))
  (cond (decide (0<=v6)) (cond (decide (v6<(v5.length:Int))) (cond (decide ((v10.length+[(Write.mk v9.data (Record.mk 1 0 (v5.getD v6.toNat []) []))].length)*80<=70368744177664)) (cond (decide (v10.length+[(Write.mk v9.data (Record.mk 1 0 (v5.getD v6.toNat []) []))].length<=70368744177664)) (ih1 (v2,v3,v4,v5,(w64 (v6+1)),v7,v8,v9,(v10++[(Write.mk v9.data (Record.mk 1 0 (v5.getD v6.toNat []) []))]))) none) none) none) none)
  (Option.bind (z7d (v8,v4)) fun r11 =>
  Option.bind (z8r (v8,r11,v2)) fun r12 =>
  Option.bind (z5k r12) fun r13 =>
  ze (z20 N ih0) N (v2,v3,r13,0,v7,v8,v10))
noncomputable def z7v (N:Nat) (ih6:(Int×Int×Chip×Table×(List Write))->Option ((List Write))):=fun ih (x:(Int×Int×Int×(List (List Int))×Int×Chip×Table×Page×(List Write)))=>z4g N ih6 ih x.1 x.2.1 x.2.2.1 x.2.2.2.1 x.2.2.2.2.1 x.2.2.2.2.2.1 x.2.2.2.2.2.2.1 x.2.2.2.2.2.2.2.1 x.2.2.2.2.2.2.2.2
theorem z9y (N:Nat) (ih6:(Int×Int×Chip×Table×(List Write))->Option ((List Write))) (ih) (x):z7v N ih6 ih x=z4g N ih6 ih x.1 x.2.1 x.2.2.1 x.2.2.2.1 x.2.2.2.2.1 x.2.2.2.2.2.1 x.2.2.2.2.2.2.1 x.2.2.2.2.2.2.2.1 x.2.2.2.2.2.2.2.2:=rfl
noncomputable def z4h (N:Nat) (ih0:(Int×Int×Chip×Table×(List Write))->Option ((List Write))) (v1:Int) (v2:Int) (v3:Chip) (v4:Table) (v5:(List Write)):Option ((List Write)) :=
 cond (decide (v2<16))
  (Option.bind (z38 (v1,v2)) fun r6 =>
  cond (decide (r6<0))
   (some [])
   (Option.bind (z7e (v3,r6)) fun r7 =>
   Option.bind (z3x (v4,r6)) fun r8 =>
   Option.bind (z5k r8) fun r9 =>
   ze (z7v N ih0) N (v1,v2,r6,r9,0,v3,v4,r7.1,v5)))
  (some v5)
noncomputable def z7w (N:Nat):=fun ih (x:(Int×Int×Chip×Table×(List Write)))=>z4h N ih x.1 x.2.1 x.2.2.1 x.2.2.2.1 x.2.2.2.2
theorem z9z (N:Nat) (ih) (x):z7w N ih x=z4h N ih x.1 x.2.1 x.2.2.1 x.2.2.2.1 x.2.2.2.2:=rfl
noncomputable def zjk (N:Nat) (a0:Chip) (a1:Table) (a2:Int):Option ((List Write)) :=
 ze (z7w N) N (a2,0,a0,a1,[])
noncomputable def zde (x:Chip×Table×Int):Option ((List Write)):=lim fun N=>zjk N x.1 x.2.1 x.2.2
noncomputable def z2t (ih0:((List Fate)×(List Write)×Int×Int×Device)->Option (Device×(List Fate)×Int)) (v1:(List Fate)) (v2:(List Write)) (v3:Int) (v4:Int) (v5:Device):Option (Device×(List Fate)×Int) :=
 cond (decide (v4<(v2.length:Int)))
  (cond (decide (v3=0))
    (cond (decide (0<=v4)) (cond (decide (v4<(v2.length:Int))) (Option.bind (z2q (v5,(v2.getD v4.toNat default),v1)) fun r6 =>
    ih0 (r6.2.1,v2,r6.2.2,(w64 (v4+1)),r6.1)) none) none)
    (some (v5,v1,v3)))
  (some (v5,v1,v3))
noncomputable def z0w:=fun ih (x:((List Fate)×(List Write)×Int×Int×Device))=>z2t ih x.1 x.2.1 x.2.2.1 x.2.2.2.1 x.2.2.2.2
theorem z5l (ih) (x):z0w ih x=z2t ih x.1 x.2.1 x.2.2.1 x.2.2.2.1 x.2.2.2.2:=rfl
noncomputable def zb4 (N:Nat) (a0:Device) (a1:Int) (a2:(List Fate)):Option (Device×(List Fate)×Int) :=
 Option.bind (zde (a0.chip,a0.table,a1)) fun r1 =>
 ze z0w N (a2,r1,0,0,a0)
noncomputable def zb5 (x:Device×Int×(List Fate)):Option (Device×(List Fate)×Int):=lim fun N=>zb4 N x.1 x.2.1 x.2.2
noncomputable def z4i (ih0:(Int×Int×Int×Table)->Option Int) (v1:Int) (v2:Int) (v3:Int) (v4:Table):Option Int :=
 cond (decide (v3<16))
  (cond (decide (0<=v1))
    (cond (decide (v1<32))
      (Option.bind (zez (v4,(w64 ((w64 (v1*16))+v3)))) fun r5 =>
      cond r5
       (ih0 (v1,(w64 (v2+1)),(w64 (v3+1)),v4))
       (ih0 (v1,v2,(w64 (v3+1)),v4)))
      (some v2))
    (some v2))
  (some v2)
noncomputable def z7x:=fun ih (x:(Int×Int×Int×Table))=>z4i ih x.1 x.2.1 x.2.2.1 x.2.2.2
theorem za0 (ih) (x):z7x ih x=z4i ih x.1 x.2.1 x.2.2.1 x.2.2.2:=rfl
noncomputable def zjl (N:Nat) (a0:Table) (a1:Int):Option Int :=
 ze z7x N (a1,0,0,a0)
noncomputable def z8s (x:Table×Int):Option Int:=lim fun N=>zjl N x.1 x.2
noncomputable def z5m (ih0:(Int×Device)->Option Int) (v1:Int) (v2:Device):Option Int :=
 cond (decide (v1<(v2.chip.blocks.length:Int)))
  (cond (decide (0<=v1)) (cond (decide (v1<(v2.chip.blocks.length:Int))) (cond (v2.chip.blocks.getD v1.toNat default).bad
    (Option.bind (z8s (v2.table,v1)) fun r3 =>
    cond (decide (0<r3))
     (some v1)
     (ih0 ((w64 (v1+1)),v2)))
    (ih0 ((w64 (v1+1)),v2))) none) none)
  (some (-1))
noncomputable def z5n:=fun ih (x:(Int×Device))=>z5m ih x.1 x.2
theorem zb6 (ih) (x):z5n ih x=z5m ih x.1 x.2:=rfl
noncomputable def zm3 (N:Nat) (a0:Device):Option Int :=
 ze z5n N (0,a0)
noncomputable def z7g (x:Device):Option Int:=lim fun N=>zm3 N x
noncomputable def z3g (ih0:((List Fate)×Int×Device)->Option (Device×(List Fate)×Int)) (v1:(List Fate)) (v2:Int) (v3:Device):Option (Device×(List Fate)×Int) :=
 cond (decide (0<=v2))
  (Option.bind (zb5 (v3,v2,v1)) fun r4 =>
  cond (!(decide (r4.2.2=0)))
   (some (r4.1,r4.2.1,r4.2.2))
   (Option.bind (z7g r4.1) fun r5 =>
   ih0 (r4.2.1,r5,r4.1)))
  (some (v3,v1,0))
noncomputable def z1k:=fun ih (x:((List Fate)×Int×Device))=>z3g ih x.1 x.2.1 x.2.2
theorem z3r (ih) (x):z1k ih x=z3g ih x.1 x.2.1 x.2.2:=rfl
noncomputable def z28 (N:Nat) (a0:Device) (a1:(List Fate)):Option (Device×(List Fate)×Int) :=
 Option.bind (z7g a0) fun r1 =>
 ze z1k N (a1,r1,a0)
noncomputable def z0t (x:Device×(List Fate)):Option (Device×(List Fate)×Int):=lim fun N=>z28 N x.1 x.2
noncomputable def z5o (ih0:(Int×Int×Int×Int×Chip)->Option Int) (v1:Int) (v2:Int) (v3:Int) (v4:Int) (v5:Chip):Option Int :=
 cond (decide (v4<(v5.blocks.length:Int)))
  (Option.bind (z3e (v5,v1,v4)) fun r6 =>
  cond (decide (r6=v2))
   (ih0 (v1,v2,(w64 (v3+1)),(w64 (v4+1)),v5))
   (ih0 (v1,v2,v3,(w64 (v4+1)),v5)))
  (some v3)
noncomputable def za1:=fun ih (x:(Int×Int×Int×Int×Chip))=>z5o ih x.1 x.2.1 x.2.2.1 x.2.2.2.1 x.2.2.2.2
theorem zb7 (ih) (x):za1 ih x=z5o ih x.1 x.2.1 x.2.2.1 x.2.2.2.1 x.2.2.2.2:=rfl
noncomputable def zm4 (N:Nat) (a0:Chip) (a1:Int) (a2:Int):Option Int :=
 ze za1 N (a1,a2,0,0,a0)
noncomputable def zf5 (x:Chip×Int×Int):Option Int:=lim fun N=>zm4 N x.1 x.2.1 x.2.2
noncomputable def zu (ih0:(Int×Int×Int×Int×Chip×Table)->Option Int) (v1:Int) (v2:Int) (v3:Int) (v4:Int) (v5:Chip) (v6:Table):Option Int :=
 cond (decide (v4<(v5.blocks.length:Int)))
  (cond (decide (v4<32))
    (Option.bind (z8s (v6,v4)) fun r7 =>
    Option.bind (z3e (v5,v1,v4)) fun r8 =>
    cond (!(decide (r8=2)))
     (ih0 (v1,v2,v3,(w64 (v4+1)),v5,v6))
     (cond (decide (0<=v4)) (cond (decide (v4<(v5.blocks.length:Int))) (cond (decide ((((v5.blocks.getD v4.toNat default).pages.length:Nat):Int)<=r7))
       (ih0 (v1,v2,v3,(w64 (v4+1)),v5,v6))
       (cond (decide (v2<0))
         (ih0 (v1,v4,r7,(w64 (v4+1)),v5,v6))
         (cond (decide (r7<v3))
           (ih0 (v1,v4,r7,(w64 (v4+1)),v5,v6))
           (cond (decide (r7=v3))
             (cond (decide (0<=v4)) (cond (decide (v4<(v5.blocks.length:Int))) (cond (decide (0<=v2)) (cond (decide (v2<(v5.blocks.length:Int))) (cond (decide ((v5.blocks.getD v4.toNat default).erases<(v5.blocks.getD v2.toNat default).erases))
               (ih0 (v1,v4,r7,(w64 (v4+1)),v5,v6))
               (ih0 (v1,v2,v3,(w64 (v4+1)),v5,v6))) none) none) none) none)
             (ih0 (v1,v2,v3,(w64 (v4+1)),v5,v6)))))) none) none))
    (some v2))
  (some v2)
noncomputable def z1l:=fun ih (x:(Int×Int×Int×Int×Chip×Table))=>zu ih x.1 x.2.1 x.2.2.1 x.2.2.2.1 x.2.2.2.2.1 x.2.2.2.2.2
theorem z88 (ih) (x):z1l ih x=zu ih x.1 x.2.1 x.2.2.1 x.2.2.2.1 x.2.2.2.2.1 x.2.2.2.2.2:=rfl
noncomputable def zgz (N:Nat) (a0:Chip) (a1:Table) (a2:Int):Option Int :=
 ze z1l N (a2,(-1),0,0,a0,a1)
noncomputable def zbq (x:Chip×Table×Int):Option Int:=lim fun N=>zgz N x.1 x.2.1 x.2.2
noncomputable def z08 (ih0:((List Fate)×Device)->Option (Device×(List Fate)×Int)) (v1:(List Fate)) (v2:Device):Option (Device×(List Fate)×Int) :=
 Option.bind (z0t (v2,v1)) fun r3 =>
 cond (!(decide (r3.2.2=0)))
  (some (r3.1,r3.2.1,r3.2.2))
  (Option.bind (zf5 (r3.1.chip,r3.1.opn,0)) fun r4 =>
  Option.bind (z9p r3.1) fun r5 =>
  cond (decide (r5<=r4))
   (some (r3.1,r3.2.1,r3.2.2))
   (Option.bind (zbq (r3.1.chip,r3.1.table,r3.1.opn)) fun r6 =>
   cond (decide (r6<0))
    (some (r3.1,r3.2.1,40))
    (Option.bind (zb5 (r3.1,r6,r3.2.1)) fun r7 =>
    cond (!(decide (r7.2.2=0)))
     (some (r7.1,r7.2.1,r7.2.2))
     (Option.bind (z7b r7.2.1) fun r8 =>
     Option.bind (zd5 (r7.1.chip,r6,r8.1)) fun r9 =>
     cond (!(decide (r9.2=0)))
      (cond (!(decide (r9.2=53)))
        (some ((Device.mk r7.1.geometry r9.1 r7.1.table r7.1.seq r7.1.opn),r8.2,r9.2))
        (ih0 (r8.2,(Device.mk r7.1.geometry r9.1 r7.1.table r7.1.seq r7.1.opn))))
      (ih0 (r8.2,(Device.mk r7.1.geometry r9.1 r7.1.table r7.1.seq r7.1.opn)))))))
noncomputable def z21:=fun ih (x:((List Fate)×Device))=>z08 ih x.1 x.2
theorem za2 (ih) (x):z21 ih x=z08 ih x.1 x.2:=rfl
noncomputable def z8t (N:Nat) (a0:Device) (a1:(List Fate)):Option (Device×(List Fate)×Int) :=
 ze z21 N (a1,a0)
noncomputable def z3h (x:Device×(List Fate)):Option (Device×(List Fate)×Int):=lim fun N=>z8t N x.1 x.2
noncomputable def z6x (a0:Device) (a1:Int) (a2:Str):Option Bool :=
 cond (decide (a2=[]))
  (cond (decide (0<=a1)) (cond (decide (a1<(a0.table.map.length:Int))) (some (decide (0<=(a0.table.map.getD a1.toNat 0)))) none) none)
  (Option.bind (z9o (a0.chip,a0.table,a1)) fun r1 =>
  some (!(decide (r1=a2))))
noncomputable def zbr (x:Device×Int×Str):Option Bool:=z6x x.1 x.2.1 x.2.2
noncomputable def z0m (ih0:(Str×Int×Int×Chip×Table)->Option Int) (v1:Str) (v2:Int) (v3:Int) (v4:Chip) (v5:Table):Option Int :=
 cond (decide (v3<(v5.map.length:Int)))
  (cond (decide (0<=v3)) (cond (decide (v3<(v5.map.length:Int))) (Option.bind (z7e (v4,(v5.map.getD v3.toNat 0))) fun r6 =>
  cond r6.2
   (cond (decide (r6.1.data=v1))
     (cond (decide (0<=v3)) (cond (decide (v3<(v5.map.length:Int))) (Option.bind (z3x (v5,(v5.map.getD v3.toNat 0))) fun r7 =>
     cond (decide ((r7.length:Int)<8))
      (cond (decide (v2<0))
        (cond (decide (0<=v3)) (cond (decide (v3<(v5.map.length:Int))) (ih0 (v1,(v5.map.getD v3.toNat 0),(w64 (v3+1)),v4,v5)) none) none)
        (cond (decide (0<=v3)) (cond (decide (v3<(v5.map.length:Int))) (cond (decide ((v5.map.getD v3.toNat 0)<v2))
          (cond (decide (0<=v3)) (cond (decide (v3<(v5.map.length:Int))) (ih0 (v1,(v5.map.getD v3.toNat 0),(w64 (v3+1)),v4,v5)) none) none)
          (ih0 (v1,v2,(w64 (v3+1)),v4,v5))) none) none))
      (ih0 (v1,v2,(w64 (v3+1)),v4,v5))) none) none)
     (ih0 (v1,v2,(w64 (v3+1)),v4,v5)))
   (ih0 (v1,v2,(w64 (v3+1)),v4,v5))) none) none)
  (some v2)
noncomputable def z0x:=fun ih (x:(Str×Int×Int×Chip×Table))=>z0m ih x.1 x.2.1 x.2.2.1 x.2.2.2.1 x.2.2.2.2
theorem z2h (ih) (x):z0x ih x=z0m ih x.1 x.2.1 x.2.2.1 x.2.2.2.1 x.2.2.2.2:=rfl
noncomputable def zm5 (N:Nat) (a0:Chip) (a1:Table) (a2:Str):Option Int :=
 ze z0x N (a2,(-1),0,a0,a1)
noncomputable def z7h (x:Chip×Table×Str):Option Int:=lim fun N=>zm5 N x.1 x.2.1 x.2.2
noncomputable def z6y (a0:Device) (a1:Int) (a2:Str):Option Write :=
 cond (decide (a2=[]))
  (some (Write.mk [] (Record.mk 2 0 [a1] [(-1)])))
  (Option.bind (z7h (a0.chip,a0.table,a2)) fun r1 =>
  cond (decide (0<=r1))
   (some (Write.mk [] (Record.mk 2 0 [a1] [r1])))
   (some (Write.mk a2 (Record.mk 1 0 [a1] []))))
noncomputable def z6z (x:Device×Int×Str):Option Write:=z6y x.1 x.2.1 x.2.2
noncomputable def zdf (a0:Device) (a1:Int) (a2:Str) (a3:(List Fate)):Option (Device×(List Fate)×Int) :=
 Option.bind (zbr (a0,a1,a2)) fun r1 =>
 cond (!r1)
  (some (a0,a3,0))
  (Option.bind (z3h (a0,a3)) fun r2 =>
  cond (!(decide (r2.2.2=0)))
   (cond (!(decide (r2.2.2=40)))
     (some (r2.1,r2.2.1,r2.2.2))
     (Option.bind (z6z (r2.1,a1,a2)) fun r3 =>
     Option.bind (z2q (r2.1,r3,r2.2.1)) fun r4 =>
     cond (decide (r4.2.2=40))
      (some (r4.1,r4.2.1,51))
      (cond (!(decide (r4.2.2=0)))
        (some (r4.1,r4.2.1,r4.2.2))
        (Option.bind (z0t (r4.1,r4.2.1)) fun r5 =>
        cond (decide (r5.2.2=40))
         (some (r5.1,r5.2.1,0))
         (some (r5.1,r5.2.1,r5.2.2))))))
   (Option.bind (z6z (r2.1,a1,a2)) fun r6 =>
   Option.bind (z2q (r2.1,r6,r2.2.1)) fun r7 =>
   cond (decide (r7.2.2=40))
    (some (r7.1,r7.2.1,51))
    (cond (!(decide (r7.2.2=0)))
      (some (r7.1,r7.2.1,r7.2.2))
      (Option.bind (z0t (r7.1,r7.2.1)) fun r8 =>
      cond (decide (r8.2.2=40))
       (some (r8.1,r8.2.1,0))
       (some (r8.1,r8.2.1,r8.2.2))))))
noncomputable def za3 (x:Device×Int×Str×(List Fate)):Option (Device×(List Fate)×Int):=zdf x.1 x.2.1 x.2.2.1 x.2.2.2
noncomputable def z8u (ih0:((List Fate)×Int×(List Str)×Int×Device×Command)->Option (Device×(List Fate)×Answer)) (v1:(List Fate)) (v2:Int) (v3:(List Str)) (v4:Int) (v5:Device) (v6:Command):Option (Device×(List Fate)×Answer) :=
 cond (decide (v4<(v3.length:Int)))
  (cond (decide (v2=0))
    (cond (decide (0<=v4)) (cond (decide (v4<(v3.length:Int))) (Option.bind (za3 (v5,(w64 (v6.first+v4)),(v3.getD v4.toNat []),v1)) fun r7 =>
    ih0 (r7.2.1,r7.2.2,v3,(w64 (v4+1)),r7.1,v6)) none) none)
    (some (v5,v1,(Answer.mk v2 []))))
  (some (v5,v1,(Answer.mk v2 [])))
noncomputable def z5p:=fun ih (x:((List Fate)×Int×(List Str)×Int×Device×Command))=>z8u ih x.1 x.2.1 x.2.2.1 x.2.2.2.1 x.2.2.2.2.1 x.2.2.2.2.2
theorem z7y (ih) (x):z5p ih x=z8u ih x.1 x.2.1 x.2.2.1 x.2.2.2.1 x.2.2.2.2.1 x.2.2.2.2.2:=rfl
noncomputable def zgn (N:Nat) (a0:Device) (a1:Command) (a2:(List Fate)):Option (Device×(List Fate)×Answer) :=
 cond a0.chip.off
  (some (a0,a2,(Answer.mk 52 [])))
  (Option.bind (zdb ((a0.table.map.length:Int),a1)) fun r1 =>
  cond (!(decide (r1=0)))
   (some (a0,a2,(Answer.mk r1 [])))
   (cond (decide (a1.kind=1))
     (Option.bind (zow a0) fun r2 =>
     cond (decide (0<=a1.first)) (cond (decide (a1.first<=(w64 (a1.first+a1.count)))) (cond (decide ((w64 (a1.first+a1.count))<=(r2.length:Int))) (some (a0,a2,(Answer.mk 0 ((r2.drop (Int.toNat a1.first)).take ((Int.toNat (w64 (a1.first+a1.count))) - (Int.toNat a1.first)))))) none) none) none)
     (cond (!(decide (a1.kind=2)))
       (cond (decide (a1.kind=3))
         (Option.bind (zi3 a1.count) fun r3 =>
         ze z5p N (a2,r1,r3,0,a0,a1))
         (ze z5p N (a2,r1,[],0,a0,a1)))
       (cond (decide (a1.kind=3))
         (Option.bind (zi3 a1.count) fun r20 =>
         ze z5p N (a2,r1,r20,0,a0,a1))
         (ze z5p N (a2,r1,a1.data,0,a0,a1))))))
noncomputable def zl9 (x:Device×Command×(List Fate)):Option (Device×(List Fate)×Answer):=lim fun N=>zgn N x.1 x.2.1 x.2.2
noncomputable def z8v:Option Bool :=
 Option.bind (z8j 0) fun r1 =>
 Option.bind (z6v (r1,[7])) fun r2 =>
 Option.bind (zl9 (r2.1,(Command.mk 2 1 0 [[97],[97]]),[])) fun r3 =>
 Option.bind (z6a r3.1) fun r4 =>
 Option.bind (z9q r3.1) fun r5 =>
 cond ((decide (r4.free=6))&&((decide (r4.closed=0))&&((decide (r4.retired=1))&&((decide (r4.live=2))&&((decide (r4.least=0))&&((decide (r4.most=0))&&(r4.readOnly==false)))))))
  (cond (decide ((r5.length:Int)=1))
    (cond (decide (0<(r5.length:Int))) (Option.bind (zey ((r5.getD 0 []),[1,2])) fun r6 =>
    some r6) none)
    (some false))
  (some false)
noncomputable def zdg (x:Unit):Option Bool:=z8v
noncomputable def zoy (a0:Int):Option Str :=
 cond (decide (0<=(Int.tmod a0 8))) (cond (decide ((Int.tmod a0 8)<(([[],[97],[98],[97,98],[48,49,50,51,52,53,54,55,56,57,97,98,99,100,101,102],[99],[100,100],[48,49,50,51,52,53,54,55,56,57,97,98,99,100,101,102,103]].length:Nat):Int))) (cond (decide ((Int.toNat (Int.tmod a0 8))<[[],[97],[98],[97,98],[48,49,50,51,52,53,54,55,56,57,97,98,99,100,101,102],[99],[100,100],[48,49,50,51,52,53,54,55,56,57,97,98,99,100,101,102,103]].length)) (some ([[],[97],[98],[97,98],[48,49,50,51,52,53,54,55,56,57,97,98,99,100,101,102],[99],[100,100],[48,49,50,51,52,53,54,55,56,57,97,98,99,100,101,102,103]].getD (Int.toNat (Int.tmod a0 8)) [])) none) none) none
noncomputable def zi4 (x:Int):Option Str:=zoy x
noncomputable def z1o (a0:Device) (a1:Int) (a2:Str):Option (Write×Bool) :=
 cond (decide (a2=[]))
  (cond (decide (0<=a1)) (cond (decide (a1<(a0.table.map.length:Int))) (some ((Write.mk [] (Record.mk 2 0 [a1] [(-1)])),(decide (0<=(a0.table.map.getD a1.toNat 0))))) none) none)
  (Option.bind (z7h (a0.chip,a0.table,a2)) fun r1 =>
  cond (decide (0<=r1))
   (cond (decide (0<=a1)) (cond (decide (a1<(a0.table.map.length:Int))) (some ((Write.mk [] (Record.mk 2 0 [a1] [r1])),(!(decide ((a0.table.map.getD a1.toNat 0)=r1))))) none) none)
   (Option.bind (z9o (a0.chip,a0.table,a1)) fun r2 =>
   some ((Write.mk a2 (Record.mk 1 0 [a1] [])),(!(decide (r2=a2))))))
noncomputable def z4r (x:Device×Int×Str):Option (Write×Bool):=z1o x.1 x.2.1 x.2.2
noncomputable def z2u (ih0:((List (List Int))×(List Fate)×Int×Device)->Option Device) (ih1:((List (List Int))×(List Fate)×Int×Int×Device)->Option Device) (v2:(List (List Int))) (v3:(List Fate)) (v4:Int) (v5:Int) (v6:Device):Option Device :=
 cond (decide (0<=v4)) (cond (decide (v4<(v2.length:Int))) (cond (decide ((w64 (v5+1))<(((v2.getD v4.toNat []).length:Nat):Int)))
  (cond (decide (v5<4))
    (cond (decide (0<=v4)) (cond (decide (v4<(v2.length:Int))) (cond (decide (0<=v5)) (cond (decide (v5<(((v2.getD v4.toNat []).length:Nat):Int))) (cond (!(decide (v6.geometry.sectors=0))) (cond (decide (0<=v4)) (cond (decide (v4<(v2.length:Int))) (cond (decide (0<=(w64 (v5+1)))) (cond (decide ((w64 (v5+1))<(((v2.getD v4.toNat []).length:Nat):Int))) (Option.bind (zi4 (Int.tmod (w64 ((v2.getD v4.toNat []).getD (Int.toNat (w64 (v5+1))) 0)) 7)) fun r7 =>
    Option.bind (z4r (v6,(Int.tmod (w64 ((v2.getD v4.toNat []).getD v5.toNat 0)) v6.geometry.sectors),r7)) fun r8 =>
    cond (!r8.2)
     (ih1 (v2,v3,v4,(w64 (v5+2)),v6))
     (Option.bind (z3h (v6,v3)) fun r9 =>
     Option.bind (z4r (r9.1,(Int.tmod (w64 ((v2.getD v4.toNat []).getD v5.toNat 0)) v6.geometry.sectors),r7)) fun r10 =>
     Option.bind (z2q (r9.1,r10.1,r9.2.1)) fun r11 =>
     Option.bind (z0t (r11.1,r11.2.1)) fun r12 =>
     ih1 (v2,r12.2.1,v4,(w64 (v5+2)),r12.1))) none) none) none) none) none) none) none) none) none)
    (ih0 (v2,v3,(w64 (v4+1)),v6)))
  (ih0 (v2,v3,(w64 (v4+1)),v6))) none) none
noncomputable def z5q (ih17:((List (List Int))×(List Fate)×Int×Device)->Option Device):=fun ih (x:((List (List Int))×(List Fate)×Int×Int×Device))=>z2u ih17 ih x.1 x.2.1 x.2.2.1 x.2.2.2.1 x.2.2.2.2
theorem z5r (ih17:((List (List Int))×(List Fate)×Int×Device)->Option Device) (ih) (x):z5q ih17 ih x=z2u ih17 ih x.1 x.2.1 x.2.2.1 x.2.2.2.1 x.2.2.2.2:=rfl
noncomputable def z2v (N:Nat) (ih0:((List (List Int))×(List Fate)×Int×Device)->Option Device) (v1:(List (List Int))) (v2:(List Fate)) (v3:Int) (v4:Device):Option Device :=
 cond (decide (v3<(v1.length:Int)))
  (cond (decide (v3<40))
    (ze (z5q ih0) N (v1,v2,v3,0,v4))
    (some v4))
  (some v4)
noncomputable def z5s (N:Nat):=fun ih (x:((List (List Int))×(List Fate)×Int×Device))=>z2v N ih x.1 x.2.1 x.2.2.1 x.2.2.2
theorem z5t (N:Nat) (ih) (x):z5s N ih x=z2v N ih x.1 x.2.1 x.2.2.1 x.2.2.2:=rfl
noncomputable def z2w (N:Nat) (ih0:((List (List Int))×Int×Device×(List Fate))->Option Device) (v1:(List (List Int))) (v2:Int) (v3:Device) (v4:(List Fate)):Option Device :=
 cond (decide (v2<(v4.length:Int)))
  (cond (decide (0<=v2)) (cond (decide (v2<(v4.length:Int))) (cond (decide (v2.toNat<v4.length)) (cond (decide ((v4.getD v2.toNat default).kind=2))
    (cond (decide (0<=v2)) (cond (decide (v2<(v4.length:Int))) (cond (decide (v2.toNat<v4.length)) (ih0 (v1,(w64 (v2+1)),v3,(v4.set v2.toNat (Fate.mk 0 (v4.getD v2.toNat default).data (v4.getD v2.toNat default).tag (v4.getD v2.toNat default).n)))) none) none) none)
    (ih0 (v1,(w64 (v2+1)),v3,v4))) none) none) none)
  (ze (z5s N) N (v1,v4,0,v3))
noncomputable def z2x (N:Nat):=fun ih (x:((List (List Int))×Int×Device×(List Fate)))=>z2w N ih x.1 x.2.1 x.2.2.1 x.2.2.2
theorem z5u (N:Nat) (ih) (x):z2x N ih x=z2w N ih x.1 x.2.1 x.2.2.1 x.2.2.2:=rfl
noncomputable def z2y (N:Nat) (a1:(List (List Int))) (ih0:((List Int)×Int×Device×(List Fate))->Option Device) (v1:(List Int)) (v2:Int) (v3:Device) (v4:(List Fate)):Option Device :=
 cond (decide (v2<(v1.length:Int)))
  (cond (decide (v2<12))
    (cond (decide (0<=v2)) (cond (decide (v2<(v1.length:Int))) (cond (decide (0<=(Int.tmod (w64 (v1.getD v2.toNat 0)) 3))) (cond (decide ((Int.tmod (w64 (v1.getD v2.toNat 0)) 3)<(([[],[120],[2,1]].length:Nat):Int))) (cond (decide ((Int.toNat (Int.tmod (w64 (v1.getD v2.toNat 0)) 3))<[[],[120],[2,1]].length)) (cond (decide (200<=(w64 (v1.getD v2.toNat 0))))
      (cond (decide (236<=(w64 (v1.getD v2.toNat 0))))
        (cond (decide ((v4.length+[(Fate.mk 2 [116,111,114,110] ([[],[120],[2,1]].getD (Int.toNat (Int.tmod (w64 (v1.getD v2.toNat 0)) 3)) []) (Int.tmod (w64 (Int.tdiv (w64 (v1.getD v2.toNat 0)) 8)) 5))].length)*48<=70368744177664)) (cond (decide (v4.length+[(Fate.mk 2 [116,111,114,110] ([[],[120],[2,1]].getD (Int.toNat (Int.tmod (w64 (v1.getD v2.toNat 0)) 3)) []) (Int.tmod (w64 (Int.tdiv (w64 (v1.getD v2.toNat 0)) 8)) 5))].length<=70368744177664)) (ih0 (v1,(w64 (v2+1)),v3,(v4++[(Fate.mk 2 [116,111,114,110] ([[],[120],[2,1]].getD (Int.toNat (Int.tmod (w64 (v1.getD v2.toNat 0)) 3)) []) (Int.tmod (w64 (Int.tdiv (w64 (v1.getD v2.toNat 0)) 8)) 5))]))) none) none)
        (cond (decide ((v4.length+[(Fate.mk 1 [116,111,114,110] ([[],[120],[2,1]].getD (Int.toNat (Int.tmod (w64 (v1.getD v2.toNat 0)) 3)) []) (Int.tmod (w64 (Int.tdiv (w64 (v1.getD v2.toNat 0)) 8)) 5))].length)*48<=70368744177664)) (cond (decide (v4.length+[(Fate.mk 1 [116,111,114,110] ([[],[120],[2,1]].getD (Int.toNat (Int.tmod (w64 (v1.getD v2.toNat 0)) 3)) []) (Int.tmod (w64 (Int.tdiv (w64 (v1.getD v2.toNat 0)) 8)) 5))].length<=70368744177664)) (ih0 (v1,(w64 (v2+1)),v3,(v4++[(Fate.mk 1 [116,111,114,110] ([[],[120],[2,1]].getD (Int.toNat (Int.tmod (w64 (v1.getD v2.toNat 0)) 3)) []) (Int.tmod (w64 (Int.tdiv (w64 (v1.getD v2.toNat 0)) 8)) 5))]))) none) none))
      (cond (decide (236<=(w64 (v1.getD v2.toNat 0))))
        (cond (decide ((v4.length+[(Fate.mk 2 [116,111,114,110] ([[],[120],[2,1]].getD (Int.toNat (Int.tmod (w64 (v1.getD v2.toNat 0)) 3)) []) (Int.tmod (w64 (Int.tdiv (w64 (v1.getD v2.toNat 0)) 8)) 5))].length)*48<=70368744177664)) (cond (decide (v4.length+[(Fate.mk 2 [116,111,114,110] ([[],[120],[2,1]].getD (Int.toNat (Int.tmod (w64 (v1.getD v2.toNat 0)) 3)) []) (Int.tmod (w64 (Int.tdiv (w64 (v1.getD v2.toNat 0)) 8)) 5))].length<=70368744177664)) (ih0 (v1,(w64 (v2+1)),v3,(v4++[(Fate.mk 2 [116,111,114,110] ([[],[120],[2,1]].getD (Int.toNat (Int.tmod (w64 (v1.getD v2.toNat 0)) 3)) []) (Int.tmod (w64 (Int.tdiv (w64 (v1.getD v2.toNat 0)) 8)) 5))]))) none) none)
        (cond (decide ((v4.length+[(Fate.mk 0 [116,111,114,110] ([[],[120],[2,1]].getD (Int.toNat (Int.tmod (w64 (v1.getD v2.toNat 0)) 3)) []) (Int.tmod (w64 (Int.tdiv (w64 (v1.getD v2.toNat 0)) 8)) 5))].length)*48<=70368744177664)) (cond (decide (v4.length+[(Fate.mk 0 [116,111,114,110] ([[],[120],[2,1]].getD (Int.toNat (Int.tmod (w64 (v1.getD v2.toNat 0)) 3)) []) (Int.tmod (w64 (Int.tdiv (w64 (v1.getD v2.toNat 0)) 8)) 5))].length<=70368744177664)) (ih0 (v1,(w64 (v2+1)),v3,(v4++[(Fate.mk 0 [116,111,114,110] ([[],[120],[2,1]].getD (Int.toNat (Int.tmod (w64 (v1.getD v2.toNat 0)) 3)) []) (Int.tmod (w64 (Int.tdiv (w64 (v1.getD v2.toNat 0)) 8)) 5))]))) none) none))) none) none) none) none) none)
    (ze (z2x N) N (a1,0,v3,v4)))
  (ze (z2x N) N (a1,0,v3,v4))
noncomputable def za4 (N:Nat) (a1:(List (List Int))):=fun ih (x:((List Int)×Int×Device×(List Fate)))=>z2y N a1 ih x.1 x.2.1 x.2.2.1 x.2.2.2
theorem z5v (N:Nat) (a1:(List (List Int))) (ih) (x):za4 N a1 ih x=z2y N a1 ih x.1 x.2.1 x.2.2.1 x.2.2.2:=rfl
noncomputable def zb8 (N:Nat) (a0:Int) (a1:(List (List Int))) (a2:(List Int)):Option Device :=
 Option.bind (z8j a0) fun r1 =>
 Option.bind (z6v (r1,[])) fun r2 =>
 ze (za4 N a1) N (a2,0,r2.1,[])
noncomputable def zf6 (x:Int×(List (List Int))×(List Int)):Option Device:=lim fun N=>zb8 N x.1 x.2.1 x.2.2
noncomputable def z2i (a0:Int) (a1:(List (List Int))) (a2:(List Int)):Option Bool :=
 Option.bind (zdg ()) fun r1 =>
 cond (!r1)
  (some false)
  (Option.bind (zf6 (a0,a1,a2)) fun r2 =>
  Option.bind (z6a r2) fun r3 =>
  cond r1
   (cond (decide ((w64 ((w64 (r3.free+r3.closed))+r3.retired))=r2.geometry.blocks))
     (cond (decide (r3.live<=(w64 (2*r2.geometry.sectors))))
       (cond (decide (r3.least<=r3.most))
         (cond (decide (r2.geometry.spare<r3.retired))
           (some true)
           (some (!r3.readOnly)))
         (some false))
       (some false))
     (cond (decide ((w64 ((w64 (r3.free+r3.closed))+r3.retired))=(w64 (r2.geometry.blocks - 1))))
       (cond (decide (r3.live<=(w64 (2*r2.geometry.sectors))))
         (cond (decide (r3.least<=r3.most))
           (cond (decide (r2.geometry.spare<r3.retired))
             (some true)
             (some (!r3.readOnly)))
           (some false))
         (some false))
       (some false)))
   (some false))
noncomputable def z5w (x:Int×(List (List Int))×(List Int)):Option Bool:=z2i x.1 x.2.1 x.2.2
end Clk
