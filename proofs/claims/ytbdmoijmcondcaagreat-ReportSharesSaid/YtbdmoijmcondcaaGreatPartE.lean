/- A part of the proof of ReportShares: an evaluator of the program's code that the kernel runs, its soundness, what the functions compute. -/
import Derived.Test.YtbdmoijmcondcaaGreatPartD
set_option linter.unusedVariables false
set_option linter.unusedSimpArgs false
set_option maxRecDepth 1000000
namespace Clk
open Go
noncomputable def z2r (x:Device):Option ((List (List Int))):=sharesF zgr x
noncomputable def z4d (ih0:(Int×Int×Int×Chip×Int×Int)->Option Int) (v1:Int) (v2:Int) (v3:Int) (v4:Chip) (v5:Int) (v6:Int):Option Int :=
 cond (decide (v2<v1))
  (Option.bind (z3y (v4,v5,v2)) fun r7 =>
  cond (decide (r7=v6))
   (ih0 (v1,(w64 (v2+1)),(w64 (v3+1)),v4,v5,v6))
   (ih0 (v1,(w64 (v2+1)),v3,v4,v5,v6)))
  (some v3)
noncomputable def z7o:=fun ih (x:(Int×Int×Int×Chip×Int×Int))=>z4d ih x.1 x.2.1 x.2.2.1 x.2.2.2.1 x.2.2.2.2.1 x.2.2.2.2.2
theorem z9p (ih) (x):z7o ih x=z4d ih x.1 x.2.1 x.2.2.1 x.2.2.2.1 x.2.2.2.2.1 x.2.2.2.2.2:=rfl
noncomputable def zjn (N:Nat) (a0:Chip) (a1:Int) (a2:Int):Option Int :=
 ze z7o N ((a0.blocks.length:Int),0,0,a0,a1,a2)
noncomputable def z8m (x:Chip×Int×Int):Option Int:=lim fun N=>zjn N x.1 x.2.1 x.2.2
noncomputable def zb2 (x:Table×Int):Option Int:=cntF z78 x
noncomputable def z2h (ih0:(Int×Int×Table)->Option Int) (v1:Int) (v2:Int) (v3:Table):Option Int :=
 cond (decide (v2<32))
  (Option.bind (zb2 (v3,v2)) fun r4 =>
  ih0 ((w64 (v1+r4)),(w64 (v2+1)),v3))
  (some v1)
noncomputable def z5d:=fun ih (x:(Int×Int×Table))=>z2h ih x.1 x.2.1 x.2.2
theorem z7b (ih) (x):z5d ih x=z2h ih x.1 x.2.1 x.2.2:=rfl
noncomputable def zf3 (N:Nat) (a0:Table):Option Int :=
 ze z5d N (0,0,a0)
noncomputable def z5e (x:Table):Option Int:=lim fun N=>zf3 N x
noncomputable def z5f (ih0:((List Int)×Int×Int)->Option Int) (v1:(List Int)) (v2:Int) (v3:Int):Option Int :=
 cond (decide (v3<(v1.length:Int)))
  (cond (decide (0<=v3)) (cond (decide (v3<(v1.length:Int))) (ih0 (v1,(min v2 (v1.getD v3.toNat 0)),(w64 (v3+1)))) none) none)
  (some v2)
noncomputable def z9q:=fun ih (x:((List Int)×Int×Int))=>z5f ih x.1 x.2.1 x.2.2
theorem zb3 (ih) (x):z9q ih x=z5f ih x.1 x.2.1 x.2.2:=rfl
noncomputable def zf4 (N:Nat) (a0:(List Int)):Option Int :=
 cond (decide ((a0.length:Int)<1))
  (none)
  (cond (decide (0<(a0.length:Int))) (ze z9q N (a0,(a0.getD 0 0),1)) none)
noncomputable def zf5 (x:(List Int)):Option Int:=lim fun N=>zf4 N x
noncomputable def z5g (ih0:((List Int)×Int×Int)->Option Int) (v1:(List Int)) (v2:Int) (v3:Int):Option Int :=
 cond (decide (v3<(v1.length:Int)))
  (cond (decide (0<=v3)) (cond (decide (v3<(v1.length:Int))) (ih0 (v1,(max v2 (v1.getD v3.toNat 0)),(w64 (v3+1)))) none) none)
  (some v2)
noncomputable def z9r:=fun ih (x:((List Int)×Int×Int))=>z5g ih x.1 x.2.1 x.2.2
theorem zb4 (ih) (x):z9r ih x=z5g ih x.1 x.2.1 x.2.2:=rfl
noncomputable def zf6 (N:Nat) (a0:(List Int)):Option Int :=
 cond (decide ((a0.length:Int)<1))
  (none)
  (cond (decide (0<(a0.length:Int))) (ze z9r N (a0,(a0.getD 0 0),1)) none)
noncomputable def zf7 (x:(List Int)):Option Int:=lim fun N=>zf6 N x
noncomputable def z15 (ih0:((List Block)×Int×Int×(List Int))->Option (Int×Int)) (v1:(List Block)) (v2:Int) (v3:Int) (v4:(List Int)):Option (Int×Int) :=
 cond (decide (v3<v2))
  (cond (decide (0<=v3)) (cond (decide (v3<(v1.length:Int))) (cond (!(v1.getD v3.toNat default).bad)
    (cond (decide ((v4.length+[(v1.getD v3.toNat default).erases].length)*8<=70368744177664)) (cond (decide (v4.length+[(v1.getD v3.toNat default).erases].length<=70368744177664)) (ih0 (v1,v2,(w64 (v3+1)),(v4++[(v1.getD v3.toNat default).erases]))) none) none)
    (ih0 (v1,v2,(w64 (v3+1)),v4))) none) none)
  (cond (decide ((v4.length:Int)=0))
    (some (0,0))
    (Option.bind (zf5 v4) fun r5 =>
    Option.bind (zf7 v4) fun r6 =>
    some (r5,r6)))
noncomputable def z7p:=fun ih (x:((List Block)×Int×Int×(List Int)))=>z15 ih x.1 x.2.1 x.2.2.1 x.2.2.2
theorem z1p (ih) (x):z7p ih x=z15 ih x.1 x.2.1 x.2.2.1 x.2.2.2:=rfl
noncomputable def zjo (N:Nat) (a0:Chip):Option (Int×Int) :=
 ze z7p N (a0.blocks,(a0.blocks.length:Int),0,[])
noncomputable def z8n (x:Chip):Option (Int×Int):=lim fun N=>zjo N x
noncomputable def zjp (a0:Int) (a1:Int):Option Int :=
 Option.bind (zi7 a0) fun r1 =>
 Option.bind (zi7 a1) fun r2 =>
 cond r1
  (cond r2
    (some 0)
    (some (-1)))
  (cond r2
    (some 1)
    (cond (decide (a0<a1))
      (some (-1))
      (cond (decide (a1<a0))
        (some 1)
        (some 0))))
noncomputable def zdc (x:Int×Int):Option Int:=zjp x.1 x.2
noncomputable def z000 (ih0:(Int×(List Int)×Int×Int)->Option Int) (v1:Int) (v2:(List Int)) (v3:Int) (v4:Int):Option Int :=
 cond (decide (v4<v3))
  (cond (decide (0<=v4)) (cond (decide (v4<(v2.length:Int))) (cond (!(decide ((v2.getD v4.toNat 0)=v1)))
    (some (v2.getD v4.toNat 0))
    (ih0 (v1,v2,v3,(w64 (v4+1))))) none) none)
  (some v1)
noncomputable def z001:=fun ih (x:(Int×(List Int)×Int×Int))=>z000 ih x.1 x.2.1 x.2.2.1 x.2.2.2
noncomputable def z025 (N:Nat) (a0:(List Int)):Option Int :=
 ze z001 N (0,a0,(a0.length:Int),0)
noncomputable def z026 (x:(List Int)):Option Int:=lim fun N=>z025 N x
noncomputable def z9s (a0:Rank) (a1:Rank):Option Bool :=
 Option.bind (zdc (a0.wanted,a1.wanted)) fun r1 =>
 Option.bind (zdc (a0.erases,a1.erases)) fun r2 =>
 Option.bind (z026 [r1,r2]) fun r3 =>
 some (decide (r3<0))
noncomputable def z9t (x:Rank×Rank):Option Bool:=z9s x.1 x.2
noncomputable def zjq (ih0:(Int×Int×Chip×Table×Int×Rank×Chip×Int×Int)->Option Int) (v1:Int) (v2:Int) (v3:Chip) (v4:Table) (v5:Int) (v6:Rank) (v7:Chip) (v8:Int) (v9:Int):Option Int :=
 cond (decide (v2<v1))
  (Option.bind (z3y (v7,v8,v2)) fun r10 =>
  cond (decide (r10=v9))
   (cond (decide (32<=v2))
     (some v5)
     (Option.bind (zb2 (v4,v2)) fun r11 =>
     cond (decide (0<=v2)) (cond (decide (v2<(v3.blocks.length:Int))) (cond (decide (0<=v2)) (cond (decide (v2<(v3.blocks.length:Int))) (cond (decide (r11<(((v3.blocks.getD v2.toNat default).pages.length:Nat):Int)))
      (cond (decide (v5<0))
        (ih0 (v1,(w64 (v2+1)),v3,v4,v2,(Rank.mk r11 (v3.blocks.getD v2.toNat default).erases),v7,v8,v9))
        (Option.bind (z9t ((Rank.mk r11 (v3.blocks.getD v2.toNat default).erases),v6)) fun r12 =>
        cond r12
         (ih0 (v1,(w64 (v2+1)),v3,v4,v2,(Rank.mk r11 (v3.blocks.getD v2.toNat default).erases),v7,v8,v9))
         (ih0 (v1,(w64 (v2+1)),v3,v4,v5,v6,v7,v8,v9))))
      (ih0 (v1,(w64 (v2+1)),v3,v4,v5,v6,v7,v8,v9))) none) none) none) none))
   (ih0 (v1,(w64 (v2+1)),v3,v4,v5,v6,v7,v8,v9)))
  (some v5)
noncomputable def zjr:=fun ih (x:(Int×Int×Chip×Table×Int×Rank×Chip×Int×Int))=>zjq ih x.1 x.2.1 x.2.2.1 x.2.2.2.1 x.2.2.2.2.1 x.2.2.2.2.2.1 x.2.2.2.2.2.2.1 x.2.2.2.2.2.2.2.1 x.2.2.2.2.2.2.2.2
noncomputable def zf8 (N:Nat) (a0:Chip) (a1:Table) (a2:Int):Option Int :=
 ze zjr N ((a0.blocks.length:Int),0,a0,a1,(-1),(Rank.mk 0 0),a0,a2,2)
noncomputable def z9u (x:Chip×Table×Int):Option Int:=lim fun N=>zf8 N x.1 x.2.1 x.2.2
noncomputable def zi9 (x:Device):Option Report:=ofF z8m z5e z8n zd9 z9u x
noncomputable def zmy (ih0:(Int×Int×Int×Command)->Option Int) (v1:Int) (v2:Int) (v3:Int) (v4:Command):Option Int :=
 cond (decide (v3<(v4.data.length:Int)))
  (cond (decide (0<=v3)) (cond (decide (v3<(v4.data.length:Int))) (cond (decide (16<(((v4.data.getD v3.toNat []).length:Nat):Int)))
    (some 1)
    (ih0 (v1,v2,(w64 (v3+1)),v4))) none) none)
  (cond (decide (v2<1))
    (some 1)
    (cond (decide (v4.first<0))
      (some 50)
      (cond (decide (v1<v4.first))
        (some 50)
        (cond (decide ((w64 (v1 - v4.first))<v2))
          (some 50)
          (some 0)))))
noncomputable def zmz:=fun ih (x:(Int×Int×Int×Command))=>zmy ih x.1 x.2.1 x.2.2.1 x.2.2.2
noncomputable def zjs (N:Nat) (a0:Int) (a1:Command):Option Int :=
 cond (decide (a1.kind=4))
  (some 0)
  (cond (decide (a1.kind=2))
    (ze zmz N (a0,(a1.data.length:Int),0,a1))
    (cond (decide (a1.kind=1))
      (cond (decide (a1.count<1))
        (some 1)
        (cond (decide (a1.first<0))
          (some 50)
          (cond (decide (a0<a1.first))
            (some 50)
            (cond (decide ((w64 (a0 - a1.first))<a1.count))
              (some 50)
              (some 0)))))
      (cond (decide (a1.kind=3))
        (cond (decide (a1.count<1))
          (some 1)
          (cond (decide (a1.first<0))
            (some 50)
            (cond (decide (a0<a1.first))
              (some 50)
              (cond (decide ((w64 (a0 - a1.first))<a1.count))
                (some 50)
                (some 0)))))
        (some 1))))
noncomputable def zdd (x:Int×Command):Option Int:=lim fun N=>zjs N x.1 x.2
noncomputable def zqg (ih0:(Int×Int×(List Str))->Option ((List Str))) (v1:Int) (v2:Int) (v3:(List Str)):Option ((List Str)) :=
 cond (decide (v2<v1))
  (cond (decide (v2<64))
    (cond (decide ((v3.length+[([]:Str)].length)*16<=70368744177664)) (cond (decide (v3.length+[([]:Str)].length<=70368744177664)) (ih0 (v1,(w64 (v2+1)),(v3++[[]]))) none) none)
    (some v3))
  (some v3)
noncomputable def zqh:=fun ih (x:(Int×Int×(List Str)))=>zqg ih x.1 x.2.1 x.2.2
noncomputable def zp3 (N:Nat) (a0:Int):Option ((List Str)) :=
 ze zqh N (a0,0,[])
noncomputable def zia (x:Int):Option ((List Str)):=lim fun N=>zp3 N x
noncomputable def z4e (ih0:((List Int)×Int×(List (List Int)))->Option ((List (List Int)))) (v1:(List Int)) (v2:Int) (v3:(List (List Int))):Option ((List (List Int))) :=
 cond (decide (v2<(v1.length:Int)))
  (cond (decide (0<=v2)) (cond (decide (v2<=(min (w64 (v2+8)) (v1.length:Int)))) (cond (decide ((min (w64 (v2+8)) (v1.length:Int))<=(v1.length:Int))) (cond (decide ((v3.length+[((v1.drop v2.toNat).take ((Int.toNat (min (w64 (v2+8)) (v1.length:Int))) - v2.toNat))].length)*24<=70368744177664)) (cond (decide (v3.length+[((v1.drop v2.toNat).take ((Int.toNat (min (w64 (v2+8)) (v1.length:Int))) - v2.toNat))].length<=70368744177664)) (ih0 (v1,(w64 (v2+8)),(v3++[((v1.drop v2.toNat).take ((Int.toNat (min (w64 (v2+8)) (v1.length:Int))) - v2.toNat))]))) none) none) none) none) none)
  (some v3)
noncomputable def zeb:=fun ih (x:((List Int)×Int×(List (List Int))))=>z4e ih x.1 x.2.1 x.2.2
theorem z9v (ih) (x):zeb ih x=z4e ih x.1 x.2.1 x.2.2:=rfl
noncomputable def z8o (N:Nat) (a0:(List Int)):Option ((List (List Int))) :=
 ze zeb N (a0,0,[])
noncomputable def z5h (x:(List Int)):Option ((List (List Int))):=lim fun N=>z8o N x
noncomputable def zde (a0:Table) (a1:Int):Option Int :=
 cond (decide ((a0.map.length:Int)<=a1))
  (some (-1))
  (cond (decide (0<=a1)) (cond (decide (a1<(a0.map.length:Int))) (some (a0.map.getD a1.toNat 0)) none) none)
noncomputable def zdf (x:Table×Int):Option Int:=zde x.1 x.2
noncomputable def z4f (ih0:((List Int)×Int×Int×Table×(List Int))->Option ((List Int))) (v1:(List Int)) (v2:Int) (v3:Int) (v4:Table) (v5:(List Int)):Option ((List Int)) :=
 cond (decide (v3<(v1.length:Int)))
  (cond (decide (0<=v3)) (cond (decide (v3<(v1.length:Int))) (Option.bind (zdf (v4,(v1.getD v3.toNat 0))) fun r6 =>
  cond (decide (r6<0))
   (cond (decide (0<=v3)) (cond (decide (v3<(v1.length:Int))) (cond (decide ((v5.length+[(v1.getD v3.toNat 0)].length)*8<=70368744177664)) (cond (decide (v5.length+[(v1.getD v3.toNat 0)].length<=70368744177664)) (ih0 (v1,v2,(w64 (v3+1)),v4,(v5++[(v1.getD v3.toNat 0)]))) none) none) none) none)
   (cond (!(decide ((w64 (Int.tdiv r6 16))=v2)))
     (cond (decide (0<=v3)) (cond (decide (v3<(v1.length:Int))) (cond (decide ((v5.length+[(v1.getD v3.toNat 0)].length)*8<=70368744177664)) (cond (decide (v5.length+[(v1.getD v3.toNat 0)].length<=70368744177664)) (ih0 (v1,v2,(w64 (v3+1)),v4,(v5++[(v1.getD v3.toNat 0)]))) none) none) none) none)
     (ih0 (v1,v2,(w64 (v3+1)),v4,v5)))) none) none)
  (some v5)
noncomputable def z7q:=fun ih (x:((List Int)×Int×Int×Table×(List Int)))=>z4f ih x.1 x.2.1 x.2.2.1 x.2.2.2.1 x.2.2.2.2
theorem z9w (ih) (x):z7q ih x=z4f ih x.1 x.2.1 x.2.2.1 x.2.2.2.1 x.2.2.2.2:=rfl
noncomputable def zjt (N:Nat) (a0:Table) (a1:(List Int)) (a2:Int):Option ((List Int)) :=
 ze z7q N (a1,a2,0,a0,[])
noncomputable def z8p (x:Table×(List Int)×Int):Option ((List Int)):=lim fun N=>zjt N x.1 x.2.1 x.2.2
noncomputable def z4g (ih0:(Int×Int×(List (List Int))×Int×Chip×Table×(List Write))->Option ((List Write))) (ih1:(Int×Int×(List (List Int))×Int×Int×Chip×Table×(List Write)×(List Int))->Option ((List Write))) (v2:Int) (v3:Int) (v4:(List (List Int))) (v5:Int) (v6:Int) (v7:Chip) (v8:Table) (v9:(List Write)) (v10:(List Int)):Option ((List Write)) :=
 cond (decide (0<=v5)) (cond (decide (v5<(v4.length:Int))) (cond (decide (v6<(((v4.getD v5.toNat []).length:Nat):Int)))
  (cond (decide (0<=v5)) (cond (decide (v5<(v4.length:Int))) (cond (decide (0<=v6)) (cond (decide (v6<(((v4.getD v5.toNat []).length:Nat):Int))) (Option.bind (zdf (v8,((v4.getD v5.toNat []).getD v6.toNat 0))) fun r11 =>
  cond (decide ((v10.length+[r11].length)*8<=70368744177664)) (cond (decide (v10.length+[r11].length<=70368744177664)) (ih1 (v2,v3,v4,v5,(w64 (v6+1)),v7,v8,v9,(v10++[r11]))) none) none) none) none) none) none)
  (cond (decide (0<=v5)) (cond (decide (v5<(v4.length:Int))) (cond (decide ((v9.length+[(Write.mk [] (Record.mk 2 0 (v4.getD v5.toNat []) v10))].length)*80<=70368744177664)) (cond (decide (v9.length+[(Write.mk [] (Record.mk 2 0 (v4.getD v5.toNat []) v10))].length<=70368744177664)) (ih0 (v2,v3,v4,(w64 (v5+1)),v7,v8,(v9++[(Write.mk [] (Record.mk 2 0 (v4.getD v5.toNat []) v10))]))) none) none) none) none)) none) none
noncomputable def z7r (ih31:(Int×Int×(List (List Int))×Int×Chip×Table×(List Write))->Option ((List Write))):=fun ih (x:(Int×Int×(List (List Int))×Int×Int×Chip×Table×(List Write)×(List Int)))=>z4g ih31 ih x.1 x.2.1 x.2.2.1 x.2.2.2.1 x.2.2.2.2.1 x.2.2.2.2.2.1 x.2.2.2.2.2.2.1 x.2.2.2.2.2.2.2.1 x.2.2.2.2.2.2.2.2
theorem z9x (ih31:(Int×Int×(List (List Int))×Int×Chip×Table×(List Write))->Option ((List Write))) (ih) (x):z7r ih31 ih x=z4g ih31 ih x.1 x.2.1 x.2.2.1 x.2.2.2.1 x.2.2.2.2.1 x.2.2.2.2.2.1 x.2.2.2.2.2.2.1 x.2.2.2.2.2.2.2.1 x.2.2.2.2.2.2.2.2:=rfl
noncomputable def z4h (N:Nat) (ih0:(Int×Int×Chip×Table×(List Write))->Option ((List Write))) (ih1:(Int×Int×(List (List Int))×Int×Chip×Table×(List Write))->Option ((List Write))) (v2:Int) (v3:Int) (v4:(List (List Int))) (v5:Int) (v6:Chip) (v7:Table) (v8:(List Write)):Option ((List Write)) :=
 cond (decide (v5<(v4.length:Int)))
  (ze (z7r ih1) N (v2,v3,v4,v5,0,v6,v7,v8,[]))
  (ih0 (v2,(w64 (v3+1)),v6,v7,v8))
noncomputable def z21 (N:Nat) (ih6:(Int×Int×Chip×Table×(List Write))->Option ((List Write))):=fun ih (x:(Int×Int×(List (List Int))×Int×Chip×Table×(List Write)))=>z4h N ih6 ih x.1 x.2.1 x.2.2.1 x.2.2.2.1 x.2.2.2.2.1 x.2.2.2.2.2.1 x.2.2.2.2.2.2
theorem z9y (N:Nat) (ih6:(Int×Int×Chip×Table×(List Write))->Option ((List Write))) (ih) (x):z21 N ih6 ih x=z4h N ih6 ih x.1 x.2.1 x.2.2.1 x.2.2.2.1 x.2.2.2.2.1 x.2.2.2.2.2.1 x.2.2.2.2.2.2:=rfl
noncomputable def z4i (N:Nat) (ih0:(Int×Int×Chip×Table×(List Write))->Option ((List Write))) (ih1:(Int×Int×Int×(List (List Int))×Int×Chip×Table×Page×(List Write))->Option ((List Write))) (v2:Int) (v3:Int) (v4:Int) (v5:(List (List Int))) (v6:Int) (v7:Chip) (v8:Table) (v9:Page) (v10:(List Write)):Option ((List Write)) :=
 cond (decide (v6<(v5.length:Int)))
  (cond (decide (0<=v6)) (cond (decide (v6<(v5.length:Int))) (cond (decide ((v10.length+[(Write.mk v9.data (Record.mk 1 0 (v5.getD v6.toNat []) []))].length)*80<=70368744177664)) (cond (decide (v10.length+[(Write.mk v9.data (Record.mk 1 0 (v5.getD v6.toNat []) []))].length<=70368744177664)) (ih1 (v2,v3,v4,v5,(w64 (v6+1)),v7,v8,v9,(v10++[(Write.mk v9.data (Record.mk 1 0 (v5.getD v6.toNat []) []))]))) none) none) none) none)
  (Option.bind (z79 (v8,v4)) fun r11 =>
  Option.bind (z8p (v8,r11,v2)) fun r12 =>
  Option.bind (z5h r12) fun r13 =>
  ze (z21 N ih0) N (v2,v3,r13,0,v7,v8,v10))
noncomputable def z7s (N:Nat) (ih6:(Int×Int×Chip×Table×(List Write))->Option ((List Write))):=fun ih (x:(Int×Int×Int×(List (List Int))×Int×Chip×Table×Page×(List Write)))=>z4i N ih6 ih x.1 x.2.1 x.2.2.1 x.2.2.2.1 x.2.2.2.2.1 x.2.2.2.2.2.1 x.2.2.2.2.2.2.1 x.2.2.2.2.2.2.2.1 x.2.2.2.2.2.2.2.2
theorem z9z (N:Nat) (ih6:(Int×Int×Chip×Table×(List Write))->Option ((List Write))) (ih) (x):z7s N ih6 ih x=z4i N ih6 ih x.1 x.2.1 x.2.2.1 x.2.2.2.1 x.2.2.2.2.1 x.2.2.2.2.2.1 x.2.2.2.2.2.2.1 x.2.2.2.2.2.2.2.1 x.2.2.2.2.2.2.2.2:=rfl
noncomputable def z4j (N:Nat) (ih0:(Int×Int×Chip×Table×(List Write))->Option ((List Write))) (v1:Int) (v2:Int) (v3:Chip) (v4:Table) (v5:(List Write)):Option ((List Write)) :=
 cond (decide (v2<16))
  (Option.bind (z37 (v1,v2)) fun r6 =>
  cond (decide (r6<0))
   (some [])
   (Option.bind (z7a (v3,r6)) fun r7 =>
   Option.bind (z3z (v4,r6)) fun r8 =>
   Option.bind (z5h r8) fun r9 =>
   ze (z7s N ih0) N (v1,v2,r6,r9,0,v3,v4,r7.1,v5)))
  (some v5)
noncomputable def z7t (N:Nat):=fun ih (x:(Int×Int×Chip×Table×(List Write)))=>z4j N ih x.1 x.2.1 x.2.2.1 x.2.2.2.1 x.2.2.2.2
theorem za0 (N:Nat) (ih) (x):z7t N ih x=z4j N ih x.1 x.2.1 x.2.2.1 x.2.2.2.1 x.2.2.2.2:=rfl
noncomputable def zju (N:Nat) (a0:Chip) (a1:Table) (a2:Int):Option ((List Write)) :=
 ze (z7t N) N (a2,0,a0,a1,[])
noncomputable def zdg (x:Chip×Table×Int):Option ((List Write)):=lim fun N=>zju N x.1 x.2.1 x.2.2
noncomputable def z2s (ih0:((List Fate)×(List Write)×Int×Int×Device)->Option (Device×(List Fate)×Int)) (v1:(List Fate)) (v2:(List Write)) (v3:Int) (v4:Int) (v5:Device):Option (Device×(List Fate)×Int) :=
 cond (decide (v4<(v2.length:Int)))
  (cond (decide (v3=0))
    (cond (decide (0<=v4)) (cond (decide (v4<(v2.length:Int))) (Option.bind (z2q (v5,(v2.getD v4.toNat default),v1)) fun r6 =>
    ih0 (r6.2.1,v2,r6.2.2,(w64 (v4+1)),r6.1)) none) none)
    (some (v5,v1,v3)))
  (some (v5,v1,v3))
noncomputable def z0w:=fun ih (x:((List Fate)×(List Write)×Int×Int×Device))=>z2s ih x.1 x.2.1 x.2.2.1 x.2.2.2.1 x.2.2.2.2
theorem z5i (ih) (x):z0w ih x=z2s ih x.1 x.2.1 x.2.2.1 x.2.2.2.1 x.2.2.2.2:=rfl
noncomputable def zb5 (N:Nat) (a0:Device) (a1:Int) (a2:(List Fate)):Option (Device×(List Fate)×Int) :=
 Option.bind (zdg (a0.chip,a0.table,a1)) fun r1 =>
 ze z0w N (a2,r1,0,0,a0)
noncomputable def zb6 (x:Device×Int×(List Fate)):Option (Device×(List Fate)×Int):=lim fun N=>zb5 N x.1 x.2.1 x.2.2
noncomputable def z4k (ih0:(Int×Int×Int×Table)->Option Int) (v1:Int) (v2:Int) (v3:Int) (v4:Table):Option Int :=
 cond (decide (v3<16))
  (cond (decide (0<=v1))
    (cond (decide (v1<32))
      (Option.bind (zf2 (v4,(w64 ((w64 (v1*16))+v3)))) fun r5 =>
      cond r5
       (ih0 (v1,(w64 (v2+1)),(w64 (v3+1)),v4))
       (ih0 (v1,v2,(w64 (v3+1)),v4)))
      (some v2))
    (some v2))
  (some v2)
noncomputable def z7u:=fun ih (x:(Int×Int×Int×Table))=>z4k ih x.1 x.2.1 x.2.2.1 x.2.2.2
theorem za1 (ih) (x):z7u ih x=z4k ih x.1 x.2.1 x.2.2.1 x.2.2.2:=rfl
noncomputable def zjv (N:Nat) (a0:Table) (a1:Int):Option Int :=
 ze z7u N (a1,0,0,a0)
noncomputable def z8q (x:Table×Int):Option Int:=lim fun N=>zjv N x.1 x.2
noncomputable def z5j (ih0:(Int×Device)->Option Int) (v1:Int) (v2:Device):Option Int :=
 cond (decide (v1<(v2.chip.blocks.length:Int)))
  (cond (decide (0<=v1)) (cond (decide (v1<(v2.chip.blocks.length:Int))) (cond (v2.chip.blocks.getD v1.toNat default).bad
    (Option.bind (z8q (v2.table,v1)) fun r3 =>
    cond (decide (0<r3))
     (some v1)
     (ih0 ((w64 (v1+1)),v2)))
    (ih0 ((w64 (v1+1)),v2))) none) none)
  (some (-1))
noncomputable def z5k:=fun ih (x:(Int×Device))=>z5j ih x.1 x.2
theorem zb7 (ih) (x):z5k ih x=z5j ih x.1 x.2:=rfl
noncomputable def zm9 (N:Nat) (a0:Device):Option Int :=
 ze z5k N (0,a0)
noncomputable def z7c (x:Device):Option Int:=lim fun N=>zm9 N x
noncomputable def z3f (ih0:((List Fate)×Int×Device)->Option (Device×(List Fate)×Int)) (v1:(List Fate)) (v2:Int) (v3:Device):Option (Device×(List Fate)×Int) :=
 cond (decide (0<=v2))
  (Option.bind (zb6 (v3,v2,v1)) fun r4 =>
  cond (!(decide (r4.2.2=0)))
   (some (r4.1,r4.2.1,r4.2.2))
   (Option.bind (z7c r4.1) fun r5 =>
   ih0 (r4.2.1,r5,r4.1)))
  (some (v3,v1,0))
noncomputable def z1k:=fun ih (x:((List Fate)×Int×Device))=>z3f ih x.1 x.2.1 x.2.2
theorem z3s (ih) (x):z1k ih x=z3f ih x.1 x.2.1 x.2.2:=rfl
noncomputable def z29 (N:Nat) (a0:Device) (a1:(List Fate)):Option (Device×(List Fate)×Int) :=
 Option.bind (z7c a0) fun r1 =>
 ze z1k N (a1,r1,a0)
noncomputable def z0t (x:Device×(List Fate)):Option (Device×(List Fate)×Int):=lim fun N=>z29 N x.1 x.2
noncomputable def z5l (ih0:(Int×Int×Int×Int×Chip)->Option Int) (v1:Int) (v2:Int) (v3:Int) (v4:Int) (v5:Chip):Option Int :=
 cond (decide (v4<(v5.blocks.length:Int)))
  (Option.bind (z3d (v5,v1,v4)) fun r6 =>
  cond (decide (r6=v2))
   (ih0 (v1,v2,(w64 (v3+1)),(w64 (v4+1)),v5))
   (ih0 (v1,v2,v3,(w64 (v4+1)),v5)))
  (some v3)
noncomputable def za2:=fun ih (x:(Int×Int×Int×Int×Chip))=>z5l ih x.1 x.2.1 x.2.2.1 x.2.2.2.1 x.2.2.2.2
theorem zb8 (ih) (x):za2 ih x=z5l ih x.1 x.2.1 x.2.2.1 x.2.2.2.1 x.2.2.2.2:=rfl
noncomputable def zma (N:Nat) (a0:Chip) (a1:Int) (a2:Int):Option Int :=
 ze za2 N (a1,a2,0,0,a0)
noncomputable def zf9 (x:Chip×Int×Int):Option Int:=lim fun N=>zma N x.1 x.2.1 x.2.2
noncomputable def zw (ih0:(Int×Int×Int×Int×Chip×Table)->Option Int) (v1:Int) (v2:Int) (v3:Int) (v4:Int) (v5:Chip) (v6:Table):Option Int :=
 cond (decide (v4<(v5.blocks.length:Int)))
  (cond (decide (v4<32))
    (Option.bind (z8q (v6,v4)) fun r7 =>
    Option.bind (z3d (v5,v1,v4)) fun r8 =>
    cond (!(decide (r8=2)))
     (ih0 (v1,v2,v3,(w64 (v4+1)),v5,v6))
     (cond (decide (0<=v4)) (cond (decide (v4<(v5.blocks.length:Int))) (cond (decide ((((v5.blocks.getD v4.toNat default).pages.length:Nat):Int)<=r7))
       (ih0 (v1,v2,v3,(w64 (v4+1)),v5,v6))
       (cond (decide (v2<0))
         (ih0 (v1,v4,r7,(w64 (v4+1)),v5,v6))
         (cond (decide (r7<v3))
           (ih0 (v1,v4,r7,(w64 (v4+1)),v5,v6))
           (cond (decide (r7=v3))
             (cond (decide (0<=v4)) (cond (decide (v4<(v5.blocks.length:Int))) (cond (decide (0<=v2)) (cond (decide (v2<(v5.blocks.length:Int))) (cond (decide ((v5.blocks.getD v4.toNat default).erases<(v5.blocks.getD v2.toNat default).erases))
               (ih0 (v1,v4,r7,(w64 (v4+1)),v5,v6))
               (ih0 (v1,v2,v3,(w64 (v4+1)),v5,v6))) none) none) none) none)
             (ih0 (v1,v2,v3,(w64 (v4+1)),v5,v6)))))) none) none))
    (some v2))
  (some v2)
noncomputable def z1l:=fun ih (x:(Int×Int×Int×Int×Chip×Table))=>zw ih x.1 x.2.1 x.2.2.1 x.2.2.2.1 x.2.2.2.2.1 x.2.2.2.2.2
theorem z85 (ih) (x):z1l ih x=zw ih x.1 x.2.1 x.2.2.1 x.2.2.2.1 x.2.2.2.2.1 x.2.2.2.2.2:=rfl
noncomputable def zh6 (N:Nat) (a0:Chip) (a1:Table) (a2:Int):Option Int :=
 ze z1l N (a2,(-1),0,0,a0,a1)
noncomputable def zbr (x:Chip×Table×Int):Option Int:=lim fun N=>zh6 N x.1 x.2.1 x.2.2
noncomputable def z07 (ih0:((List Fate)×Device)->Option (Device×(List Fate)×Int)) (v1:(List Fate)) (v2:Device):Option (Device×(List Fate)×Int) :=
 Option.bind (z0t (v2,v1)) fun r3 =>
 cond (!(decide (r3.2.2=0)))
  (some (r3.1,r3.2.1,r3.2.2))
  (Option.bind (zf9 (r3.1.chip,r3.1.opn,0)) fun r4 =>
  Option.bind (z9o r3.1) fun r5 =>
  cond (decide (r5<=r4))
   (some (r3.1,r3.2.1,r3.2.2))
   (Option.bind (zbr (r3.1.chip,r3.1.table,r3.1.opn)) fun r6 =>
   cond (decide (r6<0))
    (some (r3.1,r3.2.1,40))
    (Option.bind (zb6 (r3.1,r6,r3.2.1)) fun r7 =>
    cond (!(decide (r7.2.2=0)))
     (some (r7.1,r7.2.1,r7.2.2))
     (Option.bind (z75 r7.2.1) fun r8 =>
     Option.bind (zd7 (r7.1.chip,r6,r8.1)) fun r9 =>
     cond (!(decide (r9.2=0)))
      (cond (!(decide (r9.2=53)))
        (some ((Device.mk r7.1.geometry r9.1 r7.1.table r7.1.seq r7.1.opn),r8.2,r9.2))
        (ih0 (r8.2,(Device.mk r7.1.geometry r9.1 r7.1.table r7.1.seq r7.1.opn))))
      (ih0 (r8.2,(Device.mk r7.1.geometry r9.1 r7.1.table r7.1.seq r7.1.opn)))))))
noncomputable def z23:=fun ih (x:((List Fate)×Device))=>z07 ih x.1 x.2
theorem za3 (ih) (x):z23 ih x=z07 ih x.1 x.2:=rfl
noncomputable def z8r (N:Nat) (a0:Device) (a1:(List Fate)):Option (Device×(List Fate)×Int) :=
 ze z23 N (a1,a0)
noncomputable def z3g (x:Device×(List Fate)):Option (Device×(List Fate)×Int):=lim fun N=>z8r N x.1 x.2
noncomputable def z6u (a0:Device) (a1:Int) (a2:Str):Option Bool :=
 cond (decide (a2=[]))
  (cond (decide (0<=a1)) (cond (decide (a1<(a0.table.map.length:Int))) (some (decide (0<=(a0.table.map.getD a1.toNat 0)))) none) none)
  (Option.bind (z9m (a0.chip,a0.table,a1)) fun r1 =>
  some (!(decide (r1=a2))))
noncomputable def zbs (x:Device×Int×Str):Option Bool:=z6u x.1 x.2.1 x.2.2
noncomputable def z0k (ih0:(Str×Int×Int×Chip×Table)->Option Int) (v1:Str) (v2:Int) (v3:Int) (v4:Chip) (v5:Table):Option Int :=
 cond (decide (v3<(v5.map.length:Int)))
  (cond (decide (0<=v3)) (cond (decide (v3<(v5.map.length:Int))) (Option.bind (z7a (v4,(v5.map.getD v3.toNat 0))) fun r6 =>
  cond r6.2
   (cond (decide (r6.1.data=v1))
     (cond (decide (0<=v3)) (cond (decide (v3<(v5.map.length:Int))) (Option.bind (z3z (v5,(v5.map.getD v3.toNat 0))) fun r7 =>
     cond (decide ((r7.length:Int)<8))
      (cond (decide (v2<0))
        (cond (decide (0<=v3)) (cond (decide (v3<(v5.map.length:Int))) (ih0 (v1,(v5.map.getD v3.toNat 0),(w64 (v3+1)),v4,v5)) none) none)
        (cond (decide (0<=v3)) (cond (decide (v3<(v5.map.length:Int))) (cond (decide ((v5.map.getD v3.toNat 0)<v2))
          (cond (decide (0<=v3)) (cond (decide (v3<(v5.map.length:Int))) (ih0 (v1,(v5.map.getD v3.toNat 0),(w64 (v3+1)),v4,v5)) none) none)
          (ih0 (v1,v2,(w64 (v3+1)),v4,v5))) none) none))
      (ih0 (v1,v2,(w64 (v3+1)),v4,v5))) none) none)
     (ih0 (v1,v2,(w64 (v3+1)),v4,v5)))
   (ih0 (v1,v2,(w64 (v3+1)),v4,v5))) none) none)
  (some v2)
noncomputable def z0x:=fun ih (x:(Str×Int×Int×Chip×Table))=>z0k ih x.1 x.2.1 x.2.2.1 x.2.2.2.1 x.2.2.2.2
theorem z2i (ih) (x):z0x ih x=z0k ih x.1 x.2.1 x.2.2.1 x.2.2.2.1 x.2.2.2.2:=rfl
noncomputable def zmb (N:Nat) (a0:Chip) (a1:Table) (a2:Str):Option Int :=
 ze z0x N (a2,(-1),0,a0,a1)
noncomputable def z7d (x:Chip×Table×Str):Option Int:=lim fun N=>zmb N x.1 x.2.1 x.2.2
noncomputable def z6v (a0:Device) (a1:Int) (a2:Str):Option Write :=
 cond (decide (a2=[]))
  (some (Write.mk [] (Record.mk 2 0 [a1] [(-1)])))
  (Option.bind (z7d (a0.chip,a0.table,a2)) fun r1 =>
  cond (decide (0<=r1))
   (some (Write.mk [] (Record.mk 2 0 [a1] [r1])))
   (some (Write.mk a2 (Record.mk 1 0 [a1] []))))
noncomputable def z6w (x:Device×Int×Str):Option Write:=z6v x.1 x.2.1 x.2.2
noncomputable def zdh (a0:Device) (a1:Int) (a2:Str) (a3:(List Fate)):Option (Device×(List Fate)×Int) :=
 Option.bind (zbs (a0,a1,a2)) fun r1 =>
 cond (!r1)
  (some (a0,a3,0))
  (Option.bind (z3g (a0,a3)) fun r2 =>
  cond (!(decide (r2.2.2=0)))
   (cond (!(decide (r2.2.2=40)))
     (some (r2.1,r2.2.1,r2.2.2))
     (Option.bind (z6w (r2.1,a1,a2)) fun r3 =>
     Option.bind (z2q (r2.1,r3,r2.2.1)) fun r4 =>
     cond (decide (r4.2.2=40))
      (some (r4.1,r4.2.1,51))
      (cond (!(decide (r4.2.2=0)))
        (some (r4.1,r4.2.1,r4.2.2))
        (Option.bind (z0t (r4.1,r4.2.1)) fun r5 =>
        cond (decide (r5.2.2=40))
         (some (r5.1,r5.2.1,0))
         (some (r5.1,r5.2.1,r5.2.2))))))
   (Option.bind (z6w (r2.1,a1,a2)) fun r6 =>
   Option.bind (z2q (r2.1,r6,r2.2.1)) fun r7 =>
   cond (decide (r7.2.2=40))
    (some (r7.1,r7.2.1,51))
    (cond (!(decide (r7.2.2=0)))
      (some (r7.1,r7.2.1,r7.2.2))
      (Option.bind (z0t (r7.1,r7.2.1)) fun r8 =>
      cond (decide (r8.2.2=40))
       (some (r8.1,r8.2.1,0))
       (some (r8.1,r8.2.1,r8.2.2))))))
noncomputable def za4 (x:Device×Int×Str×(List Fate)):Option (Device×(List Fate)×Int):=zdh x.1 x.2.1 x.2.2.1 x.2.2.2
noncomputable def z8s (ih0:((List Fate)×Int×(List Str)×Int×Device×Command)->Option (Device×(List Fate)×Answer)) (v1:(List Fate)) (v2:Int) (v3:(List Str)) (v4:Int) (v5:Device) (v6:Command):Option (Device×(List Fate)×Answer) :=
 cond (decide (v4<(v3.length:Int)))
  (cond (decide (v2=0))
    (cond (decide (0<=v4)) (cond (decide (v4<(v3.length:Int))) (Option.bind (za4 (v5,(w64 (v6.first+v4)),(v3.getD v4.toNat []),v1)) fun r7 =>
    ih0 (r7.2.1,r7.2.2,v3,(w64 (v4+1)),r7.1,v6)) none) none)
    (some (v5,v1,(Answer.mk v2 []))))
  (some (v5,v1,(Answer.mk v2 [])))
noncomputable def z5m:=fun ih (x:((List Fate)×Int×(List Str)×Int×Device×Command))=>z8s ih x.1 x.2.1 x.2.2.1 x.2.2.2.1 x.2.2.2.2.1 x.2.2.2.2.2
theorem z7v (ih) (x):z5m ih x=z8s ih x.1 x.2.1 x.2.2.1 x.2.2.2.1 x.2.2.2.2.1 x.2.2.2.2.2:=rfl
noncomputable def zgs (N:Nat) (a0:Device) (a1:Command) (a2:(List Fate)):Option (Device×(List Fate)×Answer) :=
 cond a0.chip.off
  (some (a0,a2,(Answer.mk 52 [])))
  (Option.bind (zdd ((a0.table.map.length:Int),a1)) fun r1 =>
  cond (!(decide (r1=0)))
   (some (a0,a2,(Answer.mk r1 [])))
   (cond (decide (a1.kind=1))
     (Option.bind (z9n a0) fun r2 =>
     cond (decide (0<=a1.first)) (cond (decide (a1.first<=(w64 (a1.first+a1.count)))) (cond (decide ((w64 (a1.first+a1.count))<=(r2.length:Int))) (some (a0,a2,(Answer.mk 0 ((r2.drop (Int.toNat a1.first)).take ((Int.toNat (w64 (a1.first+a1.count))) - (Int.toNat a1.first)))))) none) none) none)
     (cond (!(decide (a1.kind=2)))
       (cond (decide (a1.kind=3))
         (Option.bind (zia a1.count) fun r3 =>
         ze z5m N (a2,r1,r3,0,a0,a1))
         (ze z5m N (a2,r1,[],0,a0,a1)))
       (cond (decide (a1.kind=3))
         (Option.bind (zia a1.count) fun r20 =>
         ze z5m N (a2,r1,r20,0,a0,a1))
         (ze z5m N (a2,r1,a1.data,0,a0,a1))))))
noncomputable def zlg (x:Device×Command×(List Fate)):Option (Device×(List Fate)×Answer):=lim fun N=>zgs N x.1 x.2.1 x.2.2
noncomputable def z8t:Option Bool :=
 Option.bind (z8g 0) fun r1 =>
 Option.bind (z6r (r1,[7])) fun r2 =>
 Option.bind (zlg (r2.1,(Command.mk 2 1 0 [[97],[97]]),[])) fun r3 =>
 Option.bind (zi9 r3.1) fun r4 =>
 Option.bind (z2r r3.1) fun r5 =>
 cond ((decide (r4.free=6))&&((decide (r4.closed=0))&&((decide (r4.retired=1))&&((decide (r4.live=2))&&((decide (r4.least=0))&&((decide (r4.most=0))&&(r4.readOnly==false)))))))
  (cond (decide ((r5.length:Int)=1))
    (cond (decide (0<(r5.length:Int))) (Option.bind (zf1 ((r5.getD 0 []),[1,2])) fun r6 =>
    some r6) none)
    (some false))
  (some false)
noncomputable def zdi (x:Unit):Option Bool:=z8t
noncomputable def zp4 (a0:Int):Option Str :=
 cond (decide (0<=(Int.tmod a0 8))) (cond (decide ((Int.tmod a0 8)<(([[],[97],[98],[97,98],[48,49,50,51,52,53,54,55,56,57,97,98,99,100,101,102],[99],[100,100],[48,49,50,51,52,53,54,55,56,57,97,98,99,100,101,102,103]].length:Nat):Int))) (cond (decide ((Int.toNat (Int.tmod a0 8))<[[],[97],[98],[97,98],[48,49,50,51,52,53,54,55,56,57,97,98,99,100,101,102],[99],[100,100],[48,49,50,51,52,53,54,55,56,57,97,98,99,100,101,102,103]].length)) (some ([[],[97],[98],[97,98],[48,49,50,51,52,53,54,55,56,57,97,98,99,100,101,102],[99],[100,100],[48,49,50,51,52,53,54,55,56,57,97,98,99,100,101,102,103]].getD (Int.toNat (Int.tmod a0 8)) [])) none) none) none
noncomputable def zib (x:Int):Option Str:=zp4 x
noncomputable def z1o (a0:Device) (a1:Int) (a2:Str):Option (Write×Bool) :=
 cond (decide (a2=[]))
  (cond (decide (0<=a1)) (cond (decide (a1<(a0.table.map.length:Int))) (some ((Write.mk [] (Record.mk 2 0 [a1] [(-1)])),(decide (0<=(a0.table.map.getD a1.toNat 0))))) none) none)
  (Option.bind (z7d (a0.chip,a0.table,a2)) fun r1 =>
  cond (decide (0<=r1))
   (cond (decide (0<=a1)) (cond (decide (a1<(a0.table.map.length:Int))) (some ((Write.mk [] (Record.mk 2 0 [a1] [r1])),(!(decide ((a0.table.map.getD a1.toNat 0)=r1))))) none) none)
   (Option.bind (z9m (a0.chip,a0.table,a1)) fun r2 =>
   some ((Write.mk a2 (Record.mk 1 0 [a1] [])),(!(decide (r2=a2))))))
noncomputable def z4s (x:Device×Int×Str):Option (Write×Bool):=z1o x.1 x.2.1 x.2.2
noncomputable def z2t (ih0:((List (List Int))×(List Fate)×Int×Device)->Option Device) (ih1:((List (List Int))×(List Fate)×Int×Int×Device)->Option Device) (v2:(List (List Int))) (v3:(List Fate)) (v4:Int) (v5:Int) (v6:Device):Option Device :=
 cond (decide (0<=v4)) (cond (decide (v4<(v2.length:Int))) (cond (decide ((w64 (v5+1))<(((v2.getD v4.toNat []).length:Nat):Int)))
  (cond (decide (v5<4))
    (cond (decide (0<=v4)) (cond (decide (v4<(v2.length:Int))) (cond (decide (0<=v5)) (cond (decide (v5<(((v2.getD v4.toNat []).length:Nat):Int))) (cond (!(decide (v6.geometry.sectors=0))) (cond (decide (0<=v4)) (cond (decide (v4<(v2.length:Int))) (cond (decide (0<=(w64 (v5+1)))) (cond (decide ((w64 (v5+1))<(((v2.getD v4.toNat []).length:Nat):Int))) (Option.bind (zib (Int.tmod (w64 ((v2.getD v4.toNat []).getD (Int.toNat (w64 (v5+1))) 0)) 7)) fun r7 =>
    Option.bind (z4s (v6,(Int.tmod (w64 ((v2.getD v4.toNat []).getD v5.toNat 0)) v6.geometry.sectors),r7)) fun r8 =>
    cond (!r8.2)
     (ih1 (v2,v3,v4,(w64 (v5+2)),v6))
     (Option.bind (z3g (v6,v3)) fun r9 =>
     Option.bind (z4s (r9.1,(Int.tmod (w64 ((v2.getD v4.toNat []).getD v5.toNat 0)) v6.geometry.sectors),r7)) fun r10 =>
     Option.bind (z2q (r9.1,r10.1,r9.2.1)) fun r11 =>
     Option.bind (z0t (r11.1,r11.2.1)) fun r12 =>
     ih1 (v2,r12.2.1,v4,(w64 (v5+2)),r12.1))) none) none) none) none) none) none) none) none) none)
    (ih0 (v2,v3,(w64 (v4+1)),v6)))
  (ih0 (v2,v3,(w64 (v4+1)),v6))) none) none
noncomputable def z5n (ih17:((List (List Int))×(List Fate)×Int×Device)->Option Device):=fun ih (x:((List (List Int))×(List Fate)×Int×Int×Device))=>z2t ih17 ih x.1 x.2.1 x.2.2.1 x.2.2.2.1 x.2.2.2.2
theorem z5o (ih17:((List (List Int))×(List Fate)×Int×Device)->Option Device) (ih) (x):z5n ih17 ih x=z2t ih17 ih x.1 x.2.1 x.2.2.1 x.2.2.2.1 x.2.2.2.2:=rfl
noncomputable def z2u (N:Nat) (ih0:((List (List Int))×(List Fate)×Int×Device)->Option Device) (v1:(List (List Int))) (v2:(List Fate)) (v3:Int) (v4:Device):Option Device :=
 cond (decide (v3<(v1.length:Int)))
  (cond (decide (v3<40))
    (ze (z5n ih0) N (v1,v2,v3,0,v4))
    (some v4))
  (some v4)
noncomputable def z5p (N:Nat):=fun ih (x:((List (List Int))×(List Fate)×Int×Device))=>z2u N ih x.1 x.2.1 x.2.2.1 x.2.2.2
theorem z5q (N:Nat) (ih) (x):z5p N ih x=z2u N ih x.1 x.2.1 x.2.2.1 x.2.2.2:=rfl
noncomputable def z2v (N:Nat) (ih0:((List (List Int))×Int×Device×(List Fate))->Option Device) (v1:(List (List Int))) (v2:Int) (v3:Device) (v4:(List Fate)):Option Device :=
 cond (decide (v2<(v4.length:Int)))
  (cond (decide (0<=v2)) (cond (decide (v2<(v4.length:Int))) (cond (decide (v2.toNat<v4.length)) (cond (decide ((v4.getD v2.toNat default).kind=2))
    (cond (decide (0<=v2)) (cond (decide (v2<(v4.length:Int))) (cond (decide (v2.toNat<v4.length)) (ih0 (v1,(w64 (v2+1)),v3,(v4.set v2.toNat (Fate.mk 0 (v4.getD v2.toNat default).data (v4.getD v2.toNat default).tag (v4.getD v2.toNat default).n)))) none) none) none)
    (ih0 (v1,(w64 (v2+1)),v3,v4))) none) none) none)
  (ze (z5p N) N (v1,v4,0,v3))
noncomputable def z2w (N:Nat):=fun ih (x:((List (List Int))×Int×Device×(List Fate)))=>z2v N ih x.1 x.2.1 x.2.2.1 x.2.2.2
theorem z5r (N:Nat) (ih) (x):z2w N ih x=z2v N ih x.1 x.2.1 x.2.2.1 x.2.2.2:=rfl
noncomputable def z2x (N:Nat) (a1:(List (List Int))) (ih0:((List Int)×Int×Device×(List Fate))->Option Device) (v1:(List Int)) (v2:Int) (v3:Device) (v4:(List Fate)):Option Device :=
 cond (decide (v2<(v1.length:Int)))
  (cond (decide (v2<12))
    (cond (decide (0<=v2)) (cond (decide (v2<(v1.length:Int))) (cond (decide (0<=(Int.tmod (w64 (v1.getD v2.toNat 0)) 3))) (cond (decide ((Int.tmod (w64 (v1.getD v2.toNat 0)) 3)<(([[],[120],[2,1]].length:Nat):Int))) (cond (decide ((Int.toNat (Int.tmod (w64 (v1.getD v2.toNat 0)) 3))<[[],[120],[2,1]].length)) (cond (decide (200<=(w64 (v1.getD v2.toNat 0))))
      (cond (decide (236<=(w64 (v1.getD v2.toNat 0))))
        (cond (decide ((v4.length+[(Fate.mk 2 [116,111,114,110] ([[],[120],[2,1]].getD (Int.toNat (Int.tmod (w64 (v1.getD v2.toNat 0)) 3)) []) (Int.tmod (w64 (Int.tdiv (w64 (v1.getD v2.toNat 0)) 8)) 5))].length)*48<=70368744177664)) (cond (decide (v4.length+[(Fate.mk 2 [116,111,114,110] ([[],[120],[2,1]].getD (Int.toNat (Int.tmod (w64 (v1.getD v2.toNat 0)) 3)) []) (Int.tmod (w64 (Int.tdiv (w64 (v1.getD v2.toNat 0)) 8)) 5))].length<=70368744177664)) (ih0 (v1,(w64 (v2+1)),v3,(v4++[(Fate.mk 2 [116,111,114,110] ([[],[120],[2,1]].getD (Int.toNat (Int.tmod (w64 (v1.getD v2.toNat 0)) 3)) []) (Int.tmod (w64 (Int.tdiv (w64 (v1.getD v2.toNat 0)) 8)) 5))]))) none) none)
        (cond (decide ((v4.length+[(Fate.mk 1 [116,111,114,110] ([[],[120],[2,1]].getD (Int.toNat (Int.tmod (w64 (v1.getD v2.toNat 0)) 3)) []) (Int.tmod (w64 (Int.tdiv (w64 (v1.getD v2.toNat 0)) 8)) 5))].length)*48<=70368744177664)) (cond (decide (v4.length+[(Fate.mk 1 [116,111,114,110] ([[],[120],[2,1]].getD (Int.toNat (Int.tmod (w64 (v1.getD v2.toNat 0)) 3)) []) (Int.tmod (w64 (Int.tdiv (w64 (v1.getD v2.toNat 0)) 8)) 5))].length<=70368744177664)) (ih0 (v1,(w64 (v2+1)),v3,(v4++[(Fate.mk 1 [116,111,114,110] ([[],[120],[2,1]].getD (Int.toNat (Int.tmod (w64 (v1.getD v2.toNat 0)) 3)) []) (Int.tmod (w64 (Int.tdiv (w64 (v1.getD v2.toNat 0)) 8)) 5))]))) none) none))
      (cond (decide (236<=(w64 (v1.getD v2.toNat 0))))
        (cond (decide ((v4.length+[(Fate.mk 2 [116,111,114,110] ([[],[120],[2,1]].getD (Int.toNat (Int.tmod (w64 (v1.getD v2.toNat 0)) 3)) []) (Int.tmod (w64 (Int.tdiv (w64 (v1.getD v2.toNat 0)) 8)) 5))].length)*48<=70368744177664)) (cond (decide (v4.length+[(Fate.mk 2 [116,111,114,110] ([[],[120],[2,1]].getD (Int.toNat (Int.tmod (w64 (v1.getD v2.toNat 0)) 3)) []) (Int.tmod (w64 (Int.tdiv (w64 (v1.getD v2.toNat 0)) 8)) 5))].length<=70368744177664)) (ih0 (v1,(w64 (v2+1)),v3,(v4++[(Fate.mk 2 [116,111,114,110] ([[],[120],[2,1]].getD (Int.toNat (Int.tmod (w64 (v1.getD v2.toNat 0)) 3)) []) (Int.tmod (w64 (Int.tdiv (w64 (v1.getD v2.toNat 0)) 8)) 5))]))) none) none)
        (cond (decide ((v4.length+[(Fate.mk 0 [116,111,114,110] ([[],[120],[2,1]].getD (Int.toNat (Int.tmod (w64 (v1.getD v2.toNat 0)) 3)) []) (Int.tmod (w64 (Int.tdiv (w64 (v1.getD v2.toNat 0)) 8)) 5))].length)*48<=70368744177664)) (cond (decide (v4.length+[(Fate.mk 0 [116,111,114,110] ([[],[120],[2,1]].getD (Int.toNat (Int.tmod (w64 (v1.getD v2.toNat 0)) 3)) []) (Int.tmod (w64 (Int.tdiv (w64 (v1.getD v2.toNat 0)) 8)) 5))].length<=70368744177664)) (ih0 (v1,(w64 (v2+1)),v3,(v4++[(Fate.mk 0 [116,111,114,110] ([[],[120],[2,1]].getD (Int.toNat (Int.tmod (w64 (v1.getD v2.toNat 0)) 3)) []) (Int.tmod (w64 (Int.tdiv (w64 (v1.getD v2.toNat 0)) 8)) 5))]))) none) none))) none) none) none) none) none)
    (ze (z2w N) N (a1,0,v3,v4)))
  (ze (z2w N) N (a1,0,v3,v4))
noncomputable def za5 (N:Nat) (a1:(List (List Int))):=fun ih (x:((List Int)×Int×Device×(List Fate)))=>z2x N a1 ih x.1 x.2.1 x.2.2.1 x.2.2.2
theorem z5s (N:Nat) (a1:(List (List Int))) (ih) (x):za5 N a1 ih x=z2x N a1 ih x.1 x.2.1 x.2.2.1 x.2.2.2:=rfl
noncomputable def zb9 (N:Nat) (a0:Int) (a1:(List (List Int))) (a2:(List Int)):Option Device :=
 Option.bind (z8g a0) fun r1 =>
 Option.bind (z6r (r1,[])) fun r2 =>
 ze (za5 N a1) N (a2,0,r2.1,[])
noncomputable def zfa (x:Int×(List (List Int))×(List Int)):Option Device:=lim fun N=>zb9 N x.1 x.2.1 x.2.2
noncomputable def z0o (ih0:(Bool×(List (List Int))×(List Str)×Int×(List Int))->Option Bool) (ih1:(Bool×(List (List Int))×(List Str)×Int×Int×(List Int))->Option Bool) (v2:Bool) (v3:(List (List Int))) (v4:(List Str)) (v5:Int) (v6:Int) (v7:(List Int)):Option Bool :=
 cond (decide (0<=v5)) (cond (decide (v5<(v3.length:Int))) (cond (decide (v6<(((v3.getD v5.toNat []).length:Nat):Int)))
  (cond (decide (0<=v5)) (cond (decide (v5<(v3.length:Int))) (cond (decide (0<=v6)) (cond (decide (v6<(((v3.getD v5.toNat []).length:Nat):Int))) (cond (decide (((v3.getD v5.toNat []).getD v6.toNat 0)<0))
    (some false)
    (cond (decide ((v4.length:Int)<=((v3.getD v5.toNat []).getD v6.toNat 0)))
      (some false)
      (cond (decide (0<=((v3.getD v5.toNat []).getD v6.toNat 0))) (cond (decide (((v3.getD v5.toNat []).getD v6.toNat 0)<(v4.length:Int))) (cond (decide (0<=v5)) (cond (decide (v5<(v3.length:Int))) (cond (decide (0<(((v3.getD v5.toNat []).length:Nat):Int))) (cond (decide (0<=((v3.getD v5.toNat []).getD 0 0))) (cond (decide (((v3.getD v5.toNat []).getD 0 0)<(v4.length:Int))) (cond (!(decide ((v4.getD (Int.toNat ((v3.getD v5.toNat []).getD v6.toNat 0)) [])=(v4.getD (Int.toNat ((v3.getD v5.toNat []).getD 0 0)) []))))
        (some false)
        (cond (decide (0<=((v3.getD v5.toNat []).getD v6.toNat 0))) (cond (decide (((v3.getD v5.toNat []).getD v6.toNat 0)<(v7.length:Int))) (cond (decide ((Int.toNat ((v3.getD v5.toNat []).getD v6.toNat 0))<v7.length)) (cond (decide (0<=((v3.getD v5.toNat []).getD v6.toNat 0))) (cond (decide (((v3.getD v5.toNat []).getD v6.toNat 0)<(v7.length:Int))) (cond (decide ((Int.toNat ((v3.getD v5.toNat []).getD v6.toNat 0))<v7.length)) (ih1 (v2,v3,v4,v5,(w64 (v6+1)),(v7.set (Int.toNat ((v3.getD v5.toNat []).getD v6.toNat 0)) (w64 ((v7.getD (Int.toNat ((v3.getD v5.toNat []).getD v6.toNat 0)) 0)+1))))) none) none) none) none) none) none)) none) none) none) none) none) none) none))) none) none) none) none)
  (ih0 (v2,v3,v4,(w64 (v5+1)),v7))) none) none
noncomputable def z1q (ih10:(Bool×(List (List Int))×(List Str)×Int×(List Int))->Option Bool):=fun ih (x:(Bool×(List (List Int))×(List Str)×Int×Int×(List Int)))=>z0o ih10 ih x.1 x.2.1 x.2.2.1 x.2.2.2.1 x.2.2.2.2.1 x.2.2.2.2.2
theorem z3n (ih10:(Bool×(List (List Int))×(List Str)×Int×(List Int))->Option Bool) (ih) (x):z1q ih10 ih x=z0o ih10 ih x.1 x.2.1 x.2.2.1 x.2.2.2.1 x.2.2.2.2.1 x.2.2.2.2.2:=rfl
noncomputable def z0p (ih0:(Bool×(List Str)×Int×(List Int))->Option Bool) (v1:Bool) (v2:(List Str)) (v3:Int) (v4:(List Int)):Option Bool :=
 cond (decide (v3<(v2.length:Int)))
  (cond (decide (0<=v3)) (cond (decide (v3<(v2.length:Int))) (cond (decide ((v2.getD v3.toNat [])=[]))
    (cond (decide (0<=v3)) (cond (decide (v3<(v4.length:Int))) (cond (decide (v3.toNat<v4.length)) (cond (!(decide ((v4.getD v3.toNat 0)=0)))
      (some false)
      (ih0 (v1,v2,(w64 (v3+1)),v4))) none) none) none)
    (cond (decide (0<=v3)) (cond (decide (v3<(v4.length:Int))) (cond (decide (v3.toNat<v4.length)) (cond (!(decide ((v4.getD v3.toNat 0)=1)))
      (some false)
      (ih0 (v1,v2,(w64 (v3+1)),v4))) none) none) none)) none) none)
  (some v1)
noncomputable def z1r:=fun ih (x:(Bool×(List Str)×Int×(List Int)))=>z0p ih x.1 x.2.1 x.2.2.1 x.2.2.2
theorem z3o (ih) (x):z1r ih x=z0p ih x.1 x.2.1 x.2.2.1 x.2.2.2:=rfl
noncomputable def z0q (N:Nat) (ih0:(Bool×(List (List Int))×(List Str)×Int×(List Int))->Option Bool) (v1:Bool) (v2:(List (List Int))) (v3:(List Str)) (v4:Int) (v5:(List Int)):Option Bool :=
 cond (decide (v4<(v2.length:Int)))
  (cond (decide (0<=v4)) (cond (decide (v4<(v2.length:Int))) (cond (decide ((((v2.getD v4.toNat []).length:Nat):Int)<1))
    (some false)
    (cond (decide (0<=v4)) (cond (decide (v4<(v2.length:Int))) (cond (decide (8<(((v2.getD v4.toNat []).length:Nat):Int)))
      (some false)
      (ze (z1q ih0) N (v1,v2,v3,v4,0,v5))) none) none)) none) none)
  (ze z1r N (v1,v3,0,v5))
noncomputable def z0e (N:Nat):=fun ih (x:(Bool×(List (List Int))×(List Str)×Int×(List Int)))=>z0q N ih x.1 x.2.1 x.2.2.1 x.2.2.2.1 x.2.2.2.2
theorem z3p (N:Nat) (ih) (x):z0e N ih x=z0q N ih x.1 x.2.1 x.2.2.1 x.2.2.2.1 x.2.2.2.2:=rfl
noncomputable def z1b (N:Nat) (a0:Int) (a1:(List (List Int))) (a2:(List Int)):Option Bool :=
 Option.bind (zdi ()) fun r1 =>
 cond (!r1)
  (some false)
  (Option.bind (zfa (a0,a1,a2)) fun r2 =>
  Option.bind (z2r r2) fun r3 =>
  Option.bind (z9n r2) fun r4 =>
  cond (decide (0<=(r4.length:Int))) (cond (decide ((r4.length:Int)<=(r4.length:Int))) (cond (decide (((r4.length:Int)*8)<=70368744177664)) (cond (decide ((r4.length:Int)<=70368744177664)) (ze (z0e N) N (r1,r3,r4,0,(List.replicate (Int.toNat (r4.length:Int)) (0:Int)))) none) none) none) none)
noncomputable def z3t (x:Int×(List (List Int))×(List Int)):Option Bool:=lim fun N=>z1b N x.1 x.2.1 x.2.2
end Clk
