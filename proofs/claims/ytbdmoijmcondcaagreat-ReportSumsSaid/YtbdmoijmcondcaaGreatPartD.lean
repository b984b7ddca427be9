/- A part of the proof of ReportSums: an evaluator of the program's code that the kernel runs, its soundness, what the functions compute. -/
import Derived.Test.YtbdmoijmcondcaaGreatPartC
import Derived.KernelRfl
import Derived.Sort.Row
import Derived.Maps.OwnSet
import Derived.Maps.GroupsBeside
set_option linter.unusedVariables false
set_option linter.unusedSimpArgs false
set_option maxRecDepth 1000000
namespace Clk
open Go
theorem zcw {α:Type} {l:List α} {p:α->Bool} (h:l.all p=true):∀ x∈l,p x=true:=List.all_eq_true.1 h
theorem zag {acc:List SStep} (h:(acc.all fun x=>!isAllS x)=true):noAll acc:=by
 intro x hx e;have:=zcw h x hx;simp [isAllS,e] at this
theorem zzo {E0:Emb} {SH0:List SO} {HA0:List AO} (hr0:HR E0 SH0 HA0) {LS LA:Nat} {E:Emb} {SH:List SO} {HA:List AO} (hr:HR E SH HA) {acc:List SStep} {s sj:SStep} {d dj:DStep}
 {p1 p2:List SStep} (hs:StR E0 SH0 LS LA E acc p1 s d) (hj:StR E0 SH0 LS LA E acc p2 sj dj) (hc:∀ id,s.ch=.one id->(acc.all fun x=>!isAllS x)=true) {ops:Array Oper} {i j:Nat} {a b:Oper} {comp:Bool}
 (h:apartS SH0 (acc.all fun x=>!isAllS x) ops a b s sj comp=true):apartD ops i j a b d dj comp=true:=by
 unfold apartS at h;unfold apartD;rw [Bool.and_eq_true] at h ⊢;refine ⟨h.1,?_⟩;have h2:=h.2;rw [Bool.or_eq_true] at h2 ⊢;rcases h2 with h2 | h2
 · exact .inl h2
 right;have rd_nil:∀ (l:List Nat) (q:Nat),dj.rd.contains q=true->∃ i∈sj.rd,(∀ off cur len p,E0[i]?=some (.al p off cur len)->p=q) /\ (noAll acc->∃ e,E[i]?=some e /\ e.pos=some q):=by
  intro _ q hq;exact hj.rd q (by simpa using hq)
 cases hd:d.ch with
 | nothing=>rfl
 | one q o =>
   obtain ⟨i',h3,h4,h5⟩:=hs.one q o hd;have hna:=zag (hc i' h3);obtain ⟨e,k1,k2⟩:=h4 hna;rw [h3] at h2;simp only [Bool.and_eq_true] at h2 ⊢;refine ⟨?_,?_⟩
   · have h6:=h2.1;cases hq:dj.rd.contains q with
     | false=>rfl
     | true =>
       obtain ⟨i2,k3,_,k4⟩:=rd_nil [] q hq;obtain ⟨e2,k5,k6⟩:=k4 hna;have:=hr.inj i' i2 e e2 q k1 k5 (EI.pos_at k2) (EI.pos_at k6);subst this;rw [Bool.not_eq_true'] at h6;have:sj.rd.contains i'=true:=by simpa using k3
       rw [this] at h6;cases h6
   · have h6:=h2.2;cases hdj:dj.ch with
     | nothing=>rfl
     | one q' o' =>
       obtain ⟨i2,h7,h8,_⟩:=hj.one q' o' hdj;rw [h7] at h6;obtain ⟨e2,k5,k6⟩:=h8 hna;simp only [bne_iff_ne,ne_eq] at h6 ⊢;rintro rfl
       exact h6 (hr.inj i' i2 e e2 q k1 k5 (EI.pos_at k2) (EI.pos_at k6))
     | frz l' =>
       obtain ⟨l,h7 | h7⟩:=hj.frz l' hdj
       · rw [h7.1] at h6;cases h6
       · rw [h7.1] at h6;simp only [Bool.not_eq_true'] at h6 ⊢;cases hq:l'.contains q with
         | false=>rfl
         | true =>
           obtain ⟨i2,k3,e2,k5,k6⟩:=h7.2 hna q (by simpa using hq);have:=hr.inj i' i2 e e2 q k1 k5 (EI.pos_at k2) (EI.pos_at k6);subst this;have:l.contains i'=true:=by simpa using k3
           rw [this] at h6;cases h6
     | all H' =>
       exfalso;have h7:=hj.all H' hdj;revert h6
       cases hsj:sj.ch with
       | nothing=>intro _;rw [hj.non hsj] at hdj;cases hdj
       | one id=>exact absurd hsj (h7.2.1.1 id)
       | grow=>simp
       | some l=>simp
       | frz l=>exact absurd hsj (h7.2.1.2 l)
       | all=>simp
 | frz l' =>
   have inl':∀ (l:List Nat),(∀ q∈dj.rd,q∉l)->(dj.rd.all fun id=>!l.contains id)=true:=by
    intro l h;rw [List.all_eq_true];intro q hq;have:=h q hq;simpa using this
   simp only [Bool.and_eq_true];obtain ⟨l,h3 | h3⟩:=hs.frz l' hd
   · rw [h3.1] at h2;cases hsj:sj.ch with
     | nothing =>
       rw [hsj] at h2;simp only at h2;refine ⟨inl' l' fun q hq=>?_,by rw [hj.non hsj]⟩;obtain ⟨i2,k3,k4,_⟩:=hj.rd q hq;have h5:=zcw h2 i2 k3;simp only [Bool.and_eq_true,Bool.not_eq_true'] at h5;obtain ⟨⟨h6,h7⟩,h8⟩:=h5;unfold isRawS at h6;split at h6
       · rename_i kk lv rows hs;obtain ⟨p2,len2,rows',g1,g2,g3,g4⟩:=hr0.raw hs;have:=k4 _ _ _ _ g1;subst this;exact h3.2 (zag h8) i2 _ _ _ _ g1 (fun hm=>by
          have h9:l.contains i2=true:=by simpa using hm
          rw [h9] at h7;cases h7)
       · cases h6
     | one id=>rw [hsj] at h2;cases h2
     | grow=>rw [hsj] at h2;cases h2
     | some l=>rw [hsj] at h2;cases h2
     | frz l=>rw [hsj] at h2;cases h2
     | all=>rw [hsj] at h2;cases h2
   · rw [h3.1] at h2;simp only [Bool.and_eq_true] at h2;have clash:noAll acc->∀ (i2 q:Nat) (e2:EI),E[i2]?=some e2->e2.pos=some q->l.contains i2=false->q∉l':=by
      intro hna i2 q e2 k5 k6 h7 hq;obtain ⟨i3,k3,e3,k7,k8⟩:=h3.2 hna q hq;have:=hr.inj i2 i3 e2 e3 q k5 k7 (EI.pos_at k6) (EI.pos_at k8);subst this;have:l.contains i2=true:=by simpa using k3
      rw [this] at h7;cases h7
     refine ⟨inl' l' fun q hq=>?_,?_⟩
     · obtain ⟨i2,k3,_,k4⟩:=hj.rd q hq;have h5:=zcw h2.1 i2 k3;simp only [Bool.and_eq_true,Bool.not_eq_true'] at h5;obtain ⟨e2,k5,k6⟩:=k4 (zag h5.2);exact clash (zag h5.2) i2 q e2 k5 k6 h5.1
     · have h6:=h2.2;cases hdj:dj.ch with
       | nothing=>rfl
       | one q' o' =>
         obtain ⟨i2,h7,h8,_⟩:=hj.one q' o' hdj;rw [h7] at h6;simp only [Bool.and_eq_true,Bool.not_eq_true'] at h6;obtain ⟨e2,k5,k6⟩:=h8 (zag h6.2);have:=clash (zag h6.2) i2 q' e2 k5 k6 h6.1;simpa using this
       | frz l2 =>
         exfalso;obtain ⟨l3,h7 | h7⟩:=hj.frz l2 hdj
         · rw [h7.1] at h6;cases h6
         · rw [h7.1] at h6;cases h6
       | all H' =>
         exfalso;have h7:=hj.all H' hdj;revert h6
         cases hsj:sj.ch with
         | nothing=>intro _;rw [hj.non hsj] at hdj;cases hdj
         | one id=>exact absurd hsj (h7.2.1.1 id)
         | grow=>simp
         | some l=>simp
         | frz l=>exact absurd hsj (h7.2.1.2 l)
         | all=>simp
 | all H' =>
   have h3:=hs.all H' hd;have look:∀ q∈dj.rd,(∃ i∈sj.rd,(∀ off cur len p,E0[i]?=some (.al p off cur len)->p=q)):=by
    intro q hq;obtain ⟨i2,k3,k4,_⟩:=hj.rd q hq;exact ⟨i2,k3,k4⟩
   have fin:noAll acc->s.ch≠.all->(∀ i2∈sj.rd,isRawS SH0 i2=true /\ ∀ l,s.ch=.some l->i2∉l)->(dj.rd.all fun id=>AO.same (H'.getD id .none) (d.hb.getD id .none))=true:=by
    intro hna hall hrd;rw [List.all_eq_true];intro q hq;obtain ⟨i2,k3,k4⟩:=look q hq;obtain ⟨k5,k6⟩:=hrd i2 k3;have hraw:∃ p off cur len,E0[i2]?=some (.al p off cur len):=by
     unfold isRawS at k5;split at k5
     · rename_i kk lv rows hs;obtain ⟨p2,len2,rows',g1,g2,g3,g4⟩:=hr0.raw hs;exact ⟨_,_,_,_,g1⟩
     · cases k5
    obtain ⟨p,off,cur,len,hE⟩:=hraw;have:=k4 _ _ _ _ hE;subst this;obtain ⟨z1,z2⟩:=h3.2.2 hna i2 p off cur len k5 hE k6 hall;rw [z1];exact AO.same_blk z2
   simp only [Bool.and_eq_true];cases hsc:s.ch with
   | nothing=>rw [hs.non hsc] at hd;cases hd
   | one id=>exact absurd hsc (h3.2.1.1 id)
   | frz l=>exact absurd hsc (h3.2.1.2 l)
   | grow =>
     rw [hsc] at h2;cases hsj:sj.ch with
     | nothing =>
       rw [hsj] at h2;simp only at h2;refine ⟨by rw [hj.non hsj],?_⟩;by_cases hem:sj.rd=[]
       · rw [List.all_eq_true];intro q hq;obtain ⟨i2,k3,_⟩:=look q hq;rw [hem] at k3;simp at k3
       · have hn:(acc.all fun x=>!isAllS x)=true:=by
          obtain ⟨x,hx⟩:=List.exists_mem_of_ne_nil _ hem;have:=zcw h2 x hx;simp only [Bool.and_eq_true] at this;exact this.2
         exact fin (zag hn) (by rw [hsc];simp) fun i2 hi=>by
          have:=zcw h2 i2 hi;simp only [Bool.and_eq_true] at this;exact ⟨this.1,fun l e=>by rw [hsc] at e;cases e⟩
     | one id=>rw [hsj] at h2;cases h2
     | grow=>rw [hsj] at h2;cases h2
     | some l=>rw [hsj] at h2;cases h2
     | frz l=>rw [hsj] at h2;cases h2
     | all=>rw [hsj] at h2;cases h2
   | some l =>
     rw [hsc] at h2;cases hsj:sj.ch with
     | nothing =>
       rw [hsj] at h2;simp only at h2;refine ⟨by rw [hj.non hsj],?_⟩;by_cases hem:sj.rd=[]
       · rw [List.all_eq_true];intro q hq;obtain ⟨i2,k3,_⟩:=look q hq;rw [hem] at k3;simp at k3
       · have hn:(acc.all fun x=>!isAllS x)=true:=by
          obtain ⟨x,hx⟩:=List.exists_mem_of_ne_nil _ hem;have:=zcw h2 x hx;simp only [Bool.and_eq_true] at this;exact this.2
         exact fin (zag hn) (by rw [hsc];simp) fun i2 hi=>by
          have:=zcw h2 i2 hi;simp only [Bool.and_eq_true,Bool.not_eq_true'] at this;exact ⟨this.1.1,fun l2 e hm=>by
           rw [hsc] at e;cases e;have h9:l.contains i2=true:=by simpa using hm
           rw [h9] at this;exact absurd this.1.2 (by simp)⟩
     | one id=>rw [hsj] at h2;cases h2
     | grow=>rw [hsj] at h2;cases h2
     | some l=>rw [hsj] at h2;cases h2
     | frz l=>rw [hsj] at h2;cases h2
     | all=>rw [hsj] at h2;cases h2
   | all =>
     rw [hsc] at h2;cases hsj:sj.ch with
     | nothing =>
       rw [hsj] at h2;simp only at h2;refine ⟨by rw [hj.non hsj],?_⟩;rw [List.all_eq_true];intro q hq;obtain ⟨i2,k3,_⟩:=look q hq;rw [List.isEmpty_iff] at h2;rw [h2] at k3;simp at k3
     | one id=>rw [hsj] at h2;cases h2
     | grow=>rw [hsj] at h2;cases h2
     | some l=>rw [hsj] at h2;cases h2
     | frz l=>rw [hsj] at h2;cases h2
     | all=>rw [hsj] at h2;cases h2
theorem zwb {E0:Emb} {SH0:List SO} {HA0:List AO} (hr0:HR E0 SH0 HA0) {n:Nat} {E:Emb} {SH:List SO} {HA:List AO} {acc:List SStep} {accA:List DStep} (hd:DI E0 SH0 HA0 n E SH HA acc accA) {ops:Array Oper}
 (h:drawOkS SH0 ops (SH0.length+n) (predsB ops.toList) acc=true):drawOk ops (HA0.length+n) (preds ops.toList) accA=true:=by
 have hget:∀ (i:Nat) (s:SStep),acc[i]?=some s->∃ d,accA[i]?=some d:=by
  intro i s hs;have hi:=(zG.1 hs).1;rw [hd.ln] at hi;exact ⟨accA[i],zH hi⟩
 unfold drawOkS at h;unfold drawOk;rw [List.all_eq_true] at h ⊢;have hO:Ordered ops.toList:=by
  intro i o ho e he hb;have ho':ops[i]?=some o:=by simpa using ho
  have h1:=h i (List.mem_range.2 (Array.getElem?_eq_some_iff.1 ho').1);rw [ho'] at h1;cases hs:acc[i]? with
  | none=>rw [hs] at h1;simp at h1
  | some s =>
    rw [hs] at h1;simp only [Bool.and_eq_true] at h1;have h2:=h1.1;unfold soundS at h2;simp only [Bool.and_eq_true] at h2;have:=zcw h2.1 e he;rw [hb] at this;simpa [Nat.blt_eq] using this
 have hbit:∀ i j:Nat,i<ops.size->((predsB ops.toList).getD i 0).testBit j=((preds ops.toList).getD i []).contains j:=by
  intro i j hi;have:=z03t hO i j (by simpa using hi);rw [Bool.eq_iff_iff,this];simp
 intro i hi;have h1:=h i hi;cases ha:ops[i]? with
 | none=>rw [ha] at h1;simp at h1
 | some a =>
   cases hs:acc[i]? with
   | none=>rw [ha,hs] at h1;simp at h1
   | some s =>
     rw [ha,hs] at h1;obtain ⟨d,hda⟩:=hget i s hs;have hst:=hd.st i s d hs hda;have hal:ops.toList[i]?=some a:=by simpa using ha
     simp only [hda];simp only [Bool.and_eq_true] at h1 ⊢;have hcl:∀ id,s.ch=.one id->id<SH0.length+n /\ (acc.take i).all (clearOf id)=true /\ (acc.all fun x=>!isAllS x)=true:=by
      intro id e;have:=h1.1;unfold soundS at this;simp only [Bool.and_eq_true] at this;have h3:=this.2;rw [e] at h3;simp only [Bool.and_eq_true,decide_eq_true_eq] at h3;exact h3
     refine ⟨?_,?_⟩
     · unfold soundD;rw [Bool.and_eq_true,Bool.and_eq_true];refine ⟨⟨?_,?_⟩,?_⟩
       · rw [List.all_eq_true];intro x hx;simp only [Bool.and_eq_true,decide_eq_true_eq];refine ⟨⟨z08n hO i x hx,?_⟩,?_⟩
         · rw [List.all_eq_true];intro y hy;simpa using zzn hO i x y hx hy
         · obtain ⟨e,he,hb,hor⟩:=(z96 hO hal x).1 hx;rw [Array.any_eq_true];obtain ⟨k,hk,rfl⟩:=List.getElem_of_mem he;refine ⟨k,by simpa using hk,?_⟩;simp only [Array.getElem_toList] at hb hor;rw [hb];simp only [Bool.true_and,Bool.or_eq_true,beq_iff_eq,List.contains_iff_mem];exact hor.imp Eq.symm id
       · rw [Array.all_eq_true];intro k hk;cases hb:Region.binds .any a.after[k] with
         | false=>rfl
         | true =>
           simp only [Bool.not_true,Bool.false_or,List.contains_iff_mem];exact (z96 hO hal _).2 ⟨a.after[k],by simp,hb,.inl rfl⟩
       · cases hdc:d.ch with
         | nothing=>rfl
         | one q o =>
           obtain ⟨i',h3,h4,h5⟩:=hst.one q o hdc;obtain ⟨h6,h7⟩:=hcl i' h3;simp only [decide_eq_true_eq];exact h5 h6 (zcw h7.1)
         | frz l'=>rfl
         | all H'=>simp only [decide_eq_true_eq];exact (hst.all H' hdc).1
     · have h2:=h1.2;rw [List.all_eq_true] at h2 ⊢;intro j hj;have h3:=h2 j hj;rw [Bool.or_eq_true] at h3 ⊢;rcases h3 with h3 | h3
       · exact .inl h3
       right;cases hb:ops[j]? with
       | none=>rw [hb] at h3;simp at h3
       | some b =>
         cases hsj:acc[j]? with
         | none=>rw [hb,hsj] at h3;simp at h3
         | some sj =>
           rw [hb,hsj] at h3;obtain ⟨dj,hdj⟩:=hget j sj hsj;simp only [hdj];simp only [hbit i j (Array.getElem?_eq_some_iff.1 ha).1,hbit j i (Array.getElem?_eq_some_iff.1 hb).1] at h3;exact zzo hr0 hd.hr hst (hd.st j sj dj hsj hdj) (fun id e=>(hcl id e).2.2) h3
theorem zah {E0:Emb} {n s:Nat} {e:EI} (h:(E0++List.replicate n EI.no)[s]?=some e):(s<E0.length /\ E0[s]?=some e) \/ (E0.length<=s /\ e=.no):=by
 rw [List.getElem?_append] at h;split at h
 · rename_i hi;exact .inl ⟨hi,h⟩
 · rename_i hi;rw [List.getElem?_replicate] at h;split at h
   · cases h;exact .inr ⟨by omega,rfl⟩
   · cases h
theorem zjb {E0:Emb} {n s:Nat} {e:EI} (h:E0[s]?=some e):(E0++List.replicate n EI.no)[s]?=some e:=by
 rw [List.getElem?_append_left (zG.1 h).1];exact h
theorem zt2 (HA0:List AO) (n q:Nat):(HA0++List.replicate n AO.none).getD q .none=HA0.getD q .none:=by
 simp only [zI,List.getElem?_append];split
 · rfl
 · rename_i hi;rw [List.getElem?_eq_none (Nat.le_of_not_lt hi),List.getElem?_replicate];split <;> rfl
theorem DI.first {E0:Emb} {SH0:List SO} {HA0:List AO} (hr0:HR E0 SH0 HA0) (n:Nat):DI E0 SH0 HA0 n (E0++List.replicate n .no) (SH0++List.replicate n .dead) (HA0++List.replicate n .none) [] []:=by
 have hle:ELe E0 (E0++List.replicate n .no):=fun s e h=>⟨e,zjb h,.refl e⟩
 refine ⟨⟨by simp [hr0.len],fun s e p h1 h2=>?_,fun s s' e e' p h1 h2 h3 h4=>?_,fun s o e h1 h2=>?_⟩,hle,rfl,(fun i s d h=>by simp at h),fun j _ hj=>⟨by simp;omega,?_,fun s e h1 h2=>?_⟩,fun s p e _ _ h1 ha=>?_,by simp,fun q hq=>by rw [zt2];exact hq,fun _ s e p h1 h2=>⟨e,zjb h1,h2⟩,fun s e p h1 h2=>?_,fun s _ h=>zjb h⟩
 · rcases zah h1 with ⟨_,h⟩ | ⟨_,rfl⟩
   · have:=hr0.lt s e p h h2;simp;omega
   · cases h2
 · rcases zah h1 with ⟨_,h⟩ | ⟨_,rfl⟩
   · rcases zah h2 with ⟨_,h'⟩ | ⟨_,rfl⟩
     · exact hr0.inj s s' e e' p h h' h3 h4
     · cases h4
   · cases h3
 · rcases zah h2 with ⟨hl,h⟩ | ⟨hl,rfl⟩
   · rw [List.getElem?_append_left (by rw [<- hr0.len];exact hl)] at h1;exact (hr0.obj s o e h1 h).mono hle fun p _=>zt2 _ _ _
   · rw [List.getElem?_append_right (by rw [<- hr0.len];exact hl),List.getElem?_replicate] at h1;split at h1
     · cases h1;trivial
     · cases h1
 · rw [List.getElem?_append_right (by rw [hr0.len];omega),List.getElem?_replicate,if_pos (by rw [hr0.len];omega)]
 · rcases zah h1 with ⟨_,h⟩ | ⟨_,rfl⟩
   · have:=hr0.lt s e _ h h2;omega
   · cases h2
 · rcases zah h1 with ⟨_,h⟩ | ⟨_,rfl⟩
   · have:=hr0.lt s _ p h (EI.pos_at (EI.alAt_pos ha));omega
   · exact ha.elim
 · rcases zah h1 with ⟨_,h⟩ | ⟨_,rfl⟩
   · exact .inl ⟨s,e,h,h2⟩
   · cases h2
section
variable {P:Program} {Γ:Ctx} {inl:FuncId->Bool} {orc:FuncId->Option (List AV->Option AV)} {prim:FuncId->Option (Nat->List AV->List AO->Res)} {R:Type}
theorem zof (hΓ:CtxAll P Γ inl orc prim) {rs:SRun R} (hrs:SRunOk P inl orc prim rs) {ops:Array Oper} {E:Emb} {SH:List SO} {HA:List AO} (hr:HR E SH HA) {t:List SV} {t':List AV} (ht:RL E t t') {g:Gh} {k:List SV->List SO->Gh->Option R} {r:R}
 (h:zj5 Γ rs ops t SH g k=some r) :
 ∃ m t1 t1' H1 H1' E1 g1,z6d P inl orc prim (run P inl orc prim m) ops t' HA=some (t1',H1') /\ Ext E HA g.wr E1 H1 H1' g1.wr /\ RL E1 t1 t1' /\ k t1 H1 g1=some r:=by
 unfold zj5 at h;have hd0:=DI.first hr ops.size
 have hu0:Unch E (E++List.replicate ops.size .no) HA (HA++List.replicate ops.size .none) g.wr g.wr:=by
  intro d e;refine ⟨d,e,fun _ h=>h,fun s e p h1 h2=>⟨e,zjb h1,h2⟩,fun s p es h1 ha _=>?_⟩;rcases zah h1 with ⟨_,h⟩ | ⟨_,rfl⟩
  · exact ⟨⟨es,h,ha⟩,zt2 _ _ _⟩
  · exact ha.elim
 obtain ⟨m,t1,t1',H1,H1',acc1,accA1,E1,g1,q1,q2,q3,q4,q5,q6⟩:=z95 hΓ hrs hr ops.toList (n:=ops.size) (by simp) hd0 (ht.mono hd0.le) hu0 h;have hok:drawOkS SH ops (SH.length+ops.size) (predsB ops.toList) acc1=true:=by
  cases hx:drawOkS SH ops (SH.length+ops.size) (predsB ops.toList) acc1 with
  | true=>rfl
  | false=>rw [hx] at q6;cases q6
 rw [hok] at q6;refine ⟨m,t1,t1',H1,H1',E1,g1,?_,⟨q2.le,q2.hr,q5,Nat.le_trans (Nat.le_add_right _ _) q2.gl,q2.kd,q2.nw0,fun s hs=>q2.nn0 s ?_ hs⟩,q4,q6⟩
 · unfold z6d;rw [q1];simp only;rw [if_pos (zwb hr q2 hok)]
 · rw [<- hr.len];exact (zG.1 hs).1
end
end Clk
namespace Clk
open Go
def free1:SV->Bool
 | .bool _ | .int _ _ | .str _ | .junk | .nilPtr | .nilFunc | .nilIface | .nilMap | .lst _ _ _=>true
 | _=>false
theorem z06b (c:TC) (x:c.den):∀ a∈c.up x,free1 a=true:=by
 have:(c.up x).all free1=true:=by cases c <;> rfl
 exact List.all_eq_true.1 this
theorem R.free {E E':Emb} {x:SV} {a:AV} (r:R E x a) (h:free1 x=true):R E' x a:=by
 induction r with
 | bool b=>exact .bool b
 | int k n=>exact .int k n
 | str l=>exact .str l
 | junk a=>exact .junk a
 | nilPtr=>exact .nilPtr
 | nilFunc=>exact .nilFunc
 | nilIface=>exact .nilIface
 | nilMap=>exact .nilMap
 | @rows c xs l g1 g2 _ ih=>exact .rows g1 g2 fun i x row j a b h1 h2 h3 h4=>ih i x row j a b h1 h2 h3 h4 (z06b c x a (List.mem_of_getElem? h3))
 | @crows fl c xs l g1 g2 _ ih=>exact .crows g1 g2 fun i x row j a b h1 h2 h3 h4=>ih i x row j a b h1 h2 h3 h4 (z06b c x a (List.mem_of_getElem? h3))
 | _=>cases h
theorem RL.free {E E':Emb} {l:List SV} {l':List AV} (r:RL E l l') (h:∀ a∈l,free1 a=true):RL E' l l' :=
 ⟨r.1,fun i a b h1 h2=>(r.2 i a b h1 h2).free (h a (List.mem_of_getElem? h1))⟩
theorem RT.free {E E':Emb} {c:TC} {xs:List c.den} {l:List (List AV)} (r:RT E c xs l):RT E' c xs l:=R.free r rfl
theorem zwc {a b:SV} (h:leafEq a b=true):a=b:=by
 unfold leafEq at h;split at h <;> simp_all
theorem zcg:∀ {a b:List SV},leafEqL a b=true->a=b
 | [],[],_=>rfl
 | [],_::_,h=>by cases h
 | _::_,[],h=>by cases h
 | a::as,b::bs,h=>by
   simp only [leafEqL,Bool.and_eq_true] at h;rw [zwc h.1,zcg h.2]
theorem z0bu {a b:SV} (h:svEq a b=true):a=b:=by
 unfold svEq at h;split at h
 · simp only [Bool.and_eq_true,beq_iff_eq] at h;rw [h.1.1,zcg h.1.2,zcg h.2]
 · rw [zcg h]
 · rw [zcg h]
 · exact zwc h
def reb1:Sht->EI->EI
 | .blk _ _ true,.al p _ cur len=>.al p cur cur len
 | .blk _ _ true,.un _=>.un 0
 | .nst _ _ true,.al p _ cur len=>.al p cur cur len
 | .nst _ _ true,.un _=>.un 0
 | .nst _ _ true,.ow p _ cur len qf=>.ow p cur cur len qf
 | _,e=>e
theorem zzp {h:Sht} (hg:h.gr=false) (e:EI):reb1 h e=e:=by
 cases h with
 | blk c v gr =>
   have:gr=false:=hg;subst this;cases e <;> rfl
 | nst pv v gr =>
   have:gr=false:=hg;subst this;cases e <;> rfl
 | _=>cases e <;> rfl
def z5z:List Sht->Emb->Emb
 | [],_=>[]
 | _::_,[]=>[]
 | h::hs,e::E=>reb1 h e::z5z hs E
theorem z6e:∀ {hs:List Sht} {E:Emb} {i:Nat} {h:Sht} {e:EI},hs[i]?=some h->E[i]?=some e->(z5z hs E)[i]?=some (reb1 h e)
 | [],E,i,h,e,h1,_=>by simp at h1
 | _::_,[],i,h,e,_,h2=>by simp at h2
 | x::hs,y::E,0,h,e,h1,h2=>by simp at h1 h2;subst h1 h2;rfl
 | x::hs,y::E,i+1,h,e,h1,h2=>by simp at h1 h2;simpa [z5z] using z6e h1 h2
theorem zjc:∀ {hs:List Sht} {E:Emb} {i:Nat} {e':EI},(z5z hs E)[i]?=some e'->∃ h e,hs[i]?=some h /\ E[i]?=some e /\ e'=reb1 h e
 | [],E,i,e',h1=>by simp [z5z] at h1
 | _::_,[],i,e',h1=>by simp [z5z] at h1
 | x::hs,y::E,0,e',h1=>by simp [z5z] at h1;exact ⟨x,y,rfl,rfl,h1.symm⟩
 | x::hs,y::E,i+1,e',h1=>by
   simp [z5z] at h1;obtain ⟨h,e,g1,g2,g3⟩:=zjc h1;exact ⟨h,e,by simpa using g1,by simpa using g2,g3⟩
theorem zn6:∀ {hs:List Sht} {E:Emb},hs.length<=E.length->(z5z hs E).length=hs.length
 | [],E,_=>rfl
 | _::_,[],h=>by simp at h
 | x::hs,y::E,h=>by simp [z5z];exact zn6 (by simpa using h)
theorem zt3 (h:Sht) (e:EI) (q:Nat):(reb1 h e).at q=e.at q:=by
 unfold reb1;split <;> rfl
theorem zog {h:Sht} {p:Nat} {ps:List Tmp} {as bd:Code} {d:Nat}:reb1 h (.ob p ps as bd d)=.ob p ps as bd d:=by
 unfold reb1;split <;> first | rfl | (rename_i h;cases h)
theorem zoh {α:Type} {l:List α} {i:Nat} {d x:α} (h:l.getD i d=x) (hx:x≠d):l[i]?=some x:=by
 rw [zI] at h;cases h1:l[i]? with
 | none=>rw [h1] at h;exact absurd h.symm hx
 | some y=>rw [h1] at h;simp at h;rw [h]
theorem zt4 {E:Emb} {SH:List SO} {HA:List AO} (hr:HR E SH HA) {hs:List Sht} {s:Nat} {h:Sht} (h1:hs.getD s .dead=h) (hd:h≠.dead) (hk:h.gr=false) {o:SO} (h2:SH.getD s .dead=o) (ho:o≠.dead):(z5z hs E)[s]?=E[s]?:=by
 obtain ⟨e,g1,g2,g3⟩:=hr.get h2 ho;rw [z6e (zoh h1 hd) g1,g1,zzp hk]
theorem R.stay {E E':Emb} {x:SV} {a:AV} (r:R E x a):(∀ s,(∃ v,x=.bref s v) \/ (∃ v o n,x=.ref s v o n) \/ (∃ v i j,x=.ptr s v i j) \/ x=.yield s->E'[s]?=E[s]?) ->
 (∃ s v,x=.bref s v) \/ (∃ s v o n,x=.ref s v o n) \/ (∃ s v i j,x=.ptr s v i j) \/ (∃ s,x=.yield s)->R E' x a:=by
 intro he hx;cases r with
 | bref hE hu hle=>exact .bref (by rw [he _ (.inl ⟨_,rfl⟩)];exact hE) hu hle
 | bun hE hle=>exact .bun (by rw [he _ (.inl ⟨_,rfl⟩)];exact hE) hle
 | bnil hE h=>exact .bnil (by rw [he _ (.inl ⟨_,rfl⟩)];exact hE) h
 | ref hE hu hle hn=>exact .ref (by rw [he _ (.inr (.inl ⟨_,_,_,rfl⟩))];exact hE) hu hle hn
 | run hE hle hn=>exact .run (by rw [he _ (.inr (.inl ⟨_,_,_,rfl⟩))];exact hE) hle hn
 | rnil hE h hn=>exact .rnil (by rw [he _ (.inr (.inl ⟨_,_,_,rfl⟩))];exact hE) h hn
 | ptr hE hu=>exact .ptr (by rw [he _ (.inr (.inr (.inl ⟨_,_,_,rfl⟩)))];exact hE) hu
 | obref hE hu hle=>exact .obref (by rw [he _ (.inl ⟨_,rfl⟩)];exact hE) hu hle
 | obnil hE h=>exact .obnil (by rw [he _ (.inl ⟨_,rfl⟩)];exact hE) h
 | gbref hE hl=>exact .gbref (by rw [he _ (.inl ⟨_,rfl⟩)];exact hE) hl
 | oref hE hu hle hn=>exact .oref (by rw [he _ (.inr (.inl ⟨_,_,_,rfl⟩))];exact hE) hu hle hn
 | ornil hE h hn=>exact .ornil (by rw [he _ (.inr (.inl ⟨_,_,_,rfl⟩))];exact hE) h hn
 | gref hE=>exact .gref (by rw [he _ (.inr (.inl ⟨_,_,_,rfl⟩))];exact hE)
 | grun hE hn=>exact .grun (by rw [he _ (.inr (.inl ⟨_,_,_,rfl⟩))];exact hE) hn
 | optr hE hu=>exact .optr (by rw [he _ (.inr (.inr (.inl ⟨_,_,_,rfl⟩)))];exact hE) hu
 | gptr hE=>exact .gptr (by rw [he _ (.inr (.inr (.inl ⟨_,_,_,rfl⟩)))];exact hE)
 | yield hE=>exact .yield (by rw [he _ (.inr (.inr (.inr rfl)))];exact hE)
 | _=>simp at hx
theorem zwd {E:Emb} {SH:List SO} {HA:List AO} (hr:HR E SH HA) (hs:List Sht) {x:SV} {a:AV} (r:R E x a):R (z5z hs E) (nvS hs SH x) a:=by
 have blkE:∀ (s:Nat) (c:TC) (v0:Nat) (gr:Bool) (c':TC) (v':Nat) (lv:Bool) (xs:List c'.den),hs.getD s .dead=.blk c v0 gr->SH.getD s .dead=.blk c' v' lv xs ->
  (∃ p off cur len,E[s]?=some (.al p off cur len) /\ (cur:Int)=v'+off /\ (z5z hs E)[s]?=some (.al p (cond gr (cur:Int) off) cur len)) \/ (E[s]?=some (.un v') /\ (z5z hs E)[s]?=some (.un (cond gr 0 v'))):=by
  intro s c v0 gr c' v' lv xs h1 h2;obtain ⟨e,g1,g2,g3⟩:=hr.get h2 (by simp);have g4:=z6e (zoh h1 (by simp)) g1;cases e with
  | no=>exact g3.elim
  | gone=>exact g3.elim
  | ob=>exact g3.elim
  | ow=>exact g3.elim
  | un cur =>
    obtain ⟨rfl,_,_⟩:=g3;right;refine ⟨g1,?_⟩;rw [g4];cases gr <;> rfl
  | al p off cur len =>
    obtain ⟨k1,k2,_⟩:=g3;left;refine ⟨p,off,cur,len,g1,k1,?_⟩;rw [g4];cases gr <;> rfl
 have nstE:∀ (s:Nat) (pv0:Bool) (v0:Nat) (gr:Bool) (pv:Bool) (v':Nat) (lv:Bool) (xs:List Block) (ex:List (Nat×Nat)),hs.getD s .dead=.nst pv0 v0 gr->SH.getD s .dead=.nst pv v' lv xs ex ->
  (∃ p off cur len,E[s]?=some (.al p off cur len) /\ (cur:Int)=v'+off /\ (z5z hs E)[s]?=some (.al p (cond gr (cur:Int) off) cur len)) \/ (∃ p off cur len qf,E[s]?=some (.ow p off cur len qf) /\ (cur:Int)=v'+off /\ (z5z hs E)[s]?=some (.ow p (cond gr (cur:Int) off) cur len qf)) \/ (E[s]?=some (.un v') /\ (z5z hs E)[s]?=some (.un (cond gr 0 v'))):=by
  intro s pv0 v0 gr pv v' lv xs ex h1 h2;obtain ⟨e,g1,g2,g3⟩:=hr.get h2 (by simp);have g4:=z6e (zoh h1 (by simp)) g1;cases e with
  | no=>exact g3.elim
  | gone=>exact g3.elim
  | ob=>exact g3.elim
  | un cur =>
    obtain ⟨rfl,_,_⟩:=g3;right;right;refine ⟨g1,?_⟩;rw [g4];cases gr <;> rfl
  | al p off cur len =>
    obtain ⟨k1,k2,_⟩:=g3;left;refine ⟨p,off,cur,len,g1,k1,?_⟩;rw [g4];cases gr <;> rfl
  | ow p off cur len qf =>
    obtain ⟨k1,k2,_⟩:=g3;right;left;refine ⟨p,off,cur,len,qf,g1,k1,?_⟩;rw [g4];cases gr <;> rfl
 unfold nvS;split
 · -- bref
   rename_i s v;split
   · rename_i c v0 gr c' v' xs h1 h2;split
     · rename_i hv;subst hv;rcases blkE s c v0 gr c' v true xs h1 h2 with ⟨p,off,cur,len,g1,g2,g3⟩ | ⟨g1,g3⟩
       · cases r with
         | bref hE hu hle =>
           rw [g1] at hE;cases hE;cases gr with
           | true=>exact .bref g3 (by simp only [zC];omega) hle
           | false=>exact .bref g3 hu hle
         | bun hE hle=>rw [g1] at hE;cases hE
         | bnil hE h=>rw [g1] at hE;cases hE;omega
         | obref hE=>rw [g1] at hE;cases hE
         | obnil hE=>rw [g1] at hE;cases hE
         | gbref hE hl=>rw [g1] at hE;cases hE
       · cases r with
         | bref hE hu hle=>rw [g1] at hE;cases hE
         | bun hE hle=>exact .bun g3 (by cases gr <;> simp)
         | bnil hE h=>rw [g1] at hE;cases hE
         | obref hE=>rw [g1] at hE;cases hE
         | obnil hE=>rw [g1] at hE;cases hE
         | gbref hE hl=>rw [g1] at hE;cases hE
     · exact .junk a
   · rename_i pv0 v0 gr pv v' xs ex h1 h2;split
     · rename_i hv;subst hv;rcases nstE s pv0 v0 gr pv v true xs ex h1 h2 with ⟨p,off,cur,len,g1,g2,g3⟩ | ⟨p,off,cur,len,qf,g1,g2,g3⟩ | ⟨g1,g3⟩
       · cases r with
         | bref hE hu hle =>
           rw [g1] at hE;cases hE;cases gr with
           | true=>exact .bref g3 (by simp only [zC];omega) hle
           | false=>exact .bref g3 hu hle
         | bun hE hle=>rw [g1] at hE;cases hE
         | bnil hE h=>rw [g1] at hE;cases hE;omega
         | obref hE=>rw [g1] at hE;cases hE
         | obnil hE=>rw [g1] at hE;cases hE
         | gbref hE hl=>rw [g1] at hE;cases hE
       · cases r with
         | obref hE hu hle =>
           rw [g1] at hE;cases hE;cases gr with
           | true=>exact .obref g3 (by simp only [zC];omega) hle
           | false=>exact .obref g3 hu hle
         | bun hE hle=>rw [g1] at hE;cases hE
         | obnil hE h=>rw [g1] at hE;cases hE;omega
         | bref hE=>rw [g1] at hE;cases hE
         | bnil hE=>rw [g1] at hE;cases hE
         | gbref hE hl=>rw [g1] at hE;cases hE
       · cases r with
         | bref hE hu hle=>rw [g1] at hE;cases hE
         | bun hE hle=>exact .bun g3 (by cases gr <;> simp)
         | bnil hE h=>rw [g1] at hE;cases hE
         | obref hE=>rw [g1] at hE;cases hE
         | obnil hE=>rw [g1] at hE;cases hE
         | gbref hE hl=>rw [g1] at hE;cases hE
     · exact .junk a
   · exact .junk a
 · -- ref
   rename_i s v o n;split
   · rename_i h1 h2;exact r.stay (fun s2 h=>by
      rcases h with ⟨_,h⟩ | ⟨_,_,_,h⟩ | ⟨_,_,_,h⟩ | h <;> cases h
      exact zt4 hr h1 (by simp) rfl h2 (by simp)) (.inr (.inl ⟨_,_,_,_,rfl⟩))
   · rename_i c v0 gr c' v' xs h1 h2;split
     · rename_i hv;subst hv;rcases blkE s c v0 gr c' v true xs h1 h2 with ⟨p,off,cur,len,g1,g2,g3⟩ | ⟨g1,g3⟩
       · cases r with
         | ref hE hu hle hn =>
           rw [g1] at hE;cases hE;cases gr with
           | true=>exact .ref g3 (by simp only [zC];omega) hle hn
           | false=>exact .ref g3 hu hle hn
         | run hE hle hn=>rw [g1] at hE;cases hE
         | rnil hE h hn=>rw [g1] at hE;cases hE;omega
         | oref hE=>rw [g1] at hE;cases hE
         | ornil hE=>rw [g1] at hE;cases hE
         | gref hE=>rw [g1] at hE;cases hE
         | grun hE hn=>rw [g1] at hE;cases hE
       · cases r with
         | ref hE hu hle hn=>rw [g1] at hE;cases hE
         | run hE hle hn=>exact .run g3 (by cases gr <;> simp) hn
         | rnil hE h hn=>rw [g1] at hE;cases hE
         | oref hE=>rw [g1] at hE;cases hE
         | ornil hE=>rw [g1] at hE;cases hE
         | gref hE=>rw [g1] at hE;cases hE
         | grun hE hn=>rw [g1] at hE;cases hE
     · exact .junk a
   · exact .junk a
 · -- ptr
   rename_i s v i j;split
   · rename_i h1 h2;exact r.stay (fun s2 h=>by
      rcases h with ⟨_,h⟩ | ⟨_,_,_,h⟩ | ⟨_,_,_,h⟩ | h <;> cases h
      exact zt4 hr h1 (by simp) rfl h2 (by simp)) (.inr (.inr (.inl ⟨_,_,_,_,rfl⟩)))
   · rename_i h1 h2;exact r.stay (fun s2 h=>by
      rcases h with ⟨_,h⟩ | ⟨_,_,_,h⟩ | ⟨_,_,_,h⟩ | h <;> cases h
      exact zt4 hr h1 (by simp) rfl h2 (by simp)) (.inr (.inr (.inl ⟨_,_,_,_,rfl⟩)))
   · rename_i c v0 gr c' v' xs h1 h2;split
     · rename_i hv;subst hv;rcases blkE s c v0 gr c' v true xs h1 h2 with ⟨p,off,cur,len,g1,g2,g3⟩ | ⟨g1,g3⟩
       · cases r with
         | ptr hE hu =>
           rw [g1] at hE;cases hE;cases gr with
           | true=>exact .ptr g3 (by simp only [zC];omega)
           | false=>exact .ptr g3 hu
         | optr hE=>rw [g1] at hE;cases hE
         | gptr hE=>rw [g1] at hE;cases hE
       · cases r with
         | ptr hE hu=>rw [g1] at hE;cases hE
         | optr hE=>rw [g1] at hE;cases hE
         | gptr hE=>rw [g1] at hE;cases hE
     · exact .junk a
   · rename_i pv0 v0 gr pv v' xs ex h1 h2;split
     · rename_i hv;subst hv;rcases nstE s pv0 v0 gr pv v true xs ex h1 h2 with ⟨p,off,cur,len,g1,g2,g3⟩ | ⟨p,off,cur,len,qf,g1,g2,g3⟩ | ⟨g1,g3⟩
       · cases r with
         | ptr hE hu =>
           rw [g1] at hE;cases hE;cases gr with
           | true=>exact .ptr g3 (by simp only [zC];omega)
           | false=>exact .ptr g3 hu
         | optr hE=>rw [g1] at hE;cases hE
         | gptr hE=>rw [g1] at hE;cases hE
       · cases r with
         | optr hE hu =>
           rw [g1] at hE;cases hE;cases gr with
           | true=>exact .optr g3 (by simp only [zC];omega)
           | false=>exact .optr g3 hu
         | ptr hE=>rw [g1] at hE;cases hE
         | gptr hE=>rw [g1] at hE;cases hE
       · cases r with
         | ptr hE hu=>rw [g1] at hE;cases hE
         | optr hE=>rw [g1] at hE;cases hE
         | gptr hE=>rw [g1] at hE;cases hE
     · exact .junk a
   · exact .junk a
 · -- yield
   rename_i s;split
   · rename_i n h1;cases r with
     | yield hE =>
       exact .yield (by rw [z6e (zoh h1 (by simp)) hE,zog])
   · exact .junk a
 · -- fn
   rename_i f l m;split
   · rename_i hall;have one:∀ (x:SV) (b:AV),x∈l++m->R E x b->R (z5z hs E) x b:=by
      intro x b hx hb;have:=List.all_eq_true.1 hall x hx;cases x with
      | ptr s v i j =>
        refine hb.stay (fun s2 h=>?_) (.inr (.inr (.inl ⟨_,_,_,_,rfl⟩)));rcases h with ⟨_,h⟩ | ⟨_,_,_,h⟩ | ⟨_,_,_,h⟩ | h <;> cases h
        have hsd:∃ h0,hs.getD s .dead=h0 /\ h0≠.dead /\ h0.gr=false:=by
         simp only at this;split at this
         · rename_i h0;exact ⟨_,h0,by simp,rfl⟩
         · rename_i h0;exact ⟨_,h0,by simp,rfl⟩
         · cases this
        obtain ⟨h0,k1,k2,k3⟩:=hsd;have hE:∃ e,E[s]?=some e:=by
         cases hb with
         | ptr hE _=>exact ⟨_,hE⟩
         | optr hE=>exact ⟨_,hE⟩
         | gptr hE=>exact ⟨_,hE⟩
        obtain ⟨e,hE⟩:=hE;rw [z6e (zoh k1 k2) hE,hE,zzp k3]
      | bref=>cases this
      | ref=>cases this
      | yield=>cases this
      | agg=>cases this
      | tup=>cases this
      | fn=>cases this
      | iface=>cases this
      | iptr=>cases this
      | _=>exact hb.free rfl
     cases r with
     | fn g1 g2 g3 g4 =>
       exact .fn g1 (fun i x b h1 h2=>one x b (List.mem_append_left _ (List.mem_of_getElem? h1)) (g2 i x b h1 h2)) g3 (fun i x b h1 h2=>one x b (List.mem_append_right _ (List.mem_of_getElem? h1)) (g4 i x b h1 h2))
   · exact .junk a
 · -- agg
   rename_i l;split
   · rename_i hall;cases r with
     | agg g1 g2 =>
       refine .agg g1 fun i x b h1 h2=>(g2 i x b h1 h2).free ?_
       have:=List.all_eq_true.1 hall x (List.mem_of_getElem? h1);cases x <;> first | rfl | cases this
   · exact .junk a
 · -- tup
   split
   · cases r with
     | tup g1 g2=>exact .tup g1 fun i x b h1 _=>by simp at h1
   · exact .junk a
 · exact .junk a
 · exact .junk a
 · rename_i h1 h2 h3 h4 h5 h6 h7 h8 h9;refine r.free ?_;cases x with
   | bref s v=>exact absurd rfl (h1 s v)
   | ref s v o n=>exact absurd rfl (h2 s v o n)
   | ptr s v i j=>exact absurd rfl (h3 s v i j)
   | yield s=>exact absurd rfl (h4 s)
   | fn f a b=>exact absurd rfl (h5 f a b)
   | agg l=>exact absurd rfl (h6 l)
   | tup l=>exact absurd rfl (h7 l)
   | iptr l j=>exact absurd rfl (h8 l j)
   | iface t v=>exact absurd rfl (h9 t v)
   | _=>rfl
end Clk
namespace Clk
open Go
theorem RL.mapF {E E':Emb} {f:SV->SV} (h:∀ x a,R E x a->R E' (f x) a) {l:List SV} {l':List AV} (r:RL E l l'):RL E' (l.map f) l' :=
 ⟨by simp [r.1],fun i x a h1 h2=>by
  rw [List.getElem?_map] at h1;cases h3:l[i]? with
  | none=>rw [h3] at h1;cases h1
  | some y=>rw [h3] at h1;cases h1;exact h y a (r.2 i y a h3 h2)⟩
theorem z06c {E:Emb} {c:TC} {cs:List SV} {y:c.den} {a:AV} (h:z0c dImm c cs=some y) (r:R E (.agg cs) a):R E (.agg (c.up y)) a:=by
 cases r with
 | agg g1 g2 =>
   exact .agg' (z64 c h ⟨g1,g2⟩)
theorem z06d {E:Emb} {c:TC} {x:SV} {y:c.den} {a:AV} (h:z0c dImm c [x]=some y) (r:R E x a) (hc:c.agg=false):R E (c.val y) a:=by
 have h1:=z64 c h (RL.cons r .nil);rw [z09y hc] at h1;obtain ⟨b,m,e,h2,_⟩:=h1.cons_inv;cases e;exact h2
theorem zq8 {c:TC} {x:SV} {y:c.den} (h:z0c dImm c [x]=some y):c.agg=false:=by
 cases c <;> first | rfl | (simp [z0c,dRecord,zj3] at h)
 all_goals (revert h;try (intro h;first | cases h | (split at h <;> first | cases h | (simp_all [dRecord]))))
theorem z97 {c:TC} {l:List TC} (x:c.den) (xs:z3z l):headL (consL x xs)=x:=by cases l <;> rfl
theorem z98 {c:TC} {l:List TC} (x:c.den) (xs:z3z l):tailL (consL x xs)=xs:=by cases l <;> rfl
theorem z0d3 {sl:List Slt} {w v:SV} {vs:List SV} {x:z3z (z2n sl)} (h:unS' (.fix w::sl) (v::vs)=some x):w=v /\ unS' sl vs=some x:=by
 have h':(if svEq w v then unS' sl vs else none)=some x:=h;by_cases he:svEq w v=true
 · rw [if_pos he] at h';exact ⟨z0bu he,h'⟩
 · rw [if_neg he] at h';cases h'
theorem zru {c:TC} {l:List TC} {a:Option c.den} {r:Option (z3z l)} {x:z3z (c::l)} (h:consO a r=some x):∃ y q,a=some y /\ r=some q /\ x=consL y q:=by
 cases a with
 | none=>exact nomatch (show (none:Option (z3z (c::l)))=some x from h)
 | some y=>cases r with
   | none=>exact nomatch (show (none:Option (z3z (c::l)))=some x from h)
   | some q=>exact ⟨y,q,rfl,rfl,(Option.some.inj h).symm⟩
theorem z0d4 {sl:List Slt} {c:TC} {v:SV} {vs:List SV} {x:z3z (c::z2n sl)} (h:unS' (.var c::sl) (v::vs)=some x):∃ y r,z0c dImm c [v]=some y /\ unS' sl vs=some r /\ x=consL y r :=
 zru h
theorem z0d5 {sl:List Slt} {c:TC} {v:SV} {vs:List SV} {x:z3z (c::z2n sl)} (h:unS' (.agg c::sl) (v::vs)=some x):∃ cs y r,v=.agg cs /\ z0c dImm c cs=some y /\ unS' sl vs=some r /\ x=consL y r:=by
 obtain ⟨y,r,h1,h2,h3⟩:=zru h;cases v with
 | agg cs=>exact ⟨cs,y,r,rfl,h1,h2,h3⟩
 | _=>cases h1
theorem z0d6 {sl:List Slt} {s v:Nat} {w:SV} {vs:List SV} {x:z3z (.i::.i::z2n sl)} (h:unS' (.sub s v::sl) (w::vs)=some x):∃ o n r,w=.ref s v o n /\ unS' sl vs=some r /\ x=consL (c:=.i) (o:Int) (consL (c:=.i) (n:Int) r):=by
 cases w with
 | ref s' v' o n =>
   have h':(if s'=s /\ v'=v then match unS' sl vs with
    | some r=>some (consL (c:=.i) (o:Int) (consL (c:=.i) (n:Int) r))
    | none=>none
    else none)=some x:=h
   by_cases he:s'=s /\ v'=v
   · rw [if_pos he] at h';cases h2:unS' sl vs with
     | none=>rw [h2] at h';cases h'
     | some r=>rw [h2] at h';exact ⟨o,n,r,by rw [he.1,he.2],rfl,(Option.some.inj h').symm⟩
   · rw [if_neg he] at h';cases h'
 | _=>cases h
theorem z0e5 {sl:List Slt} {s v j:Nat} {w:SV} {vs:List SV} {x:z3z (.i::z2n sl)} (h:unS' (.pt s v j::sl) (w::vs)=some x):∃ i r,w=.ptr s v i j /\ unS' sl vs=some r /\ x=consL (c:=.i) (i:Int) r:=by
 cases w with
 | ptr s' v' i j' =>
   have h':(if s'=s /\ v'=v /\ j'=j then match unS' sl vs with
    | some r=>some (consL (c:=.i) (i:Int) r)
    | none=>none
    else none)=some x:=h
   by_cases he:s'=s /\ v'=v /\ j'=j
   · rw [if_pos he] at h';cases h2:unS' sl vs with
     | none=>rw [h2] at h';cases h'
     | some r=>rw [h2] at h';exact ⟨i,r,by rw [he.1,he.2.1,he.2.2],rfl,(Option.some.inj h').symm⟩
   · rw [if_neg he] at h';cases h'
 | _=>cases h
theorem z03u {E:Emb} (sl:List Slt):∀ {vs:List SV} {as:List AV} {x:z3z (z2n sl)},unS' sl vs=some x->RL E vs as->RL E (absS sl x) as:=by
 induction sl with
 | nil =>
   intro vs as x h r;cases vs with
   | nil=>exact r
   | cons=>cases h
 | cons s sl ih =>
   intro vs as x h r;cases vs with
   | nil=>cases s <;> cases h
   | cons v vs =>
     obtain ⟨a,m,rfl,h1,h2⟩:=r.cons_inv;cases s with
     | junk=>exact RL.cons (.junk a) (ih (x:=x) h h2)
     | fix w =>
       obtain ⟨rfl,h3⟩:=z0d3 h;exact RL.cons h1 (ih h3 h2)
     | var c =>
       obtain ⟨y,r',hy,hr,rfl⟩:=z0d4 h;have e:absS (.var c::sl) (consL y r')=c.val y::absS sl r':=by simp only [absS];rw [z97,z98]
       rw [e];exact RL.cons (z06d hy h1 (zq8 hy)) (ih hr h2)
     | agg c =>
       obtain ⟨cs,y,r',rfl,hy,hr,rfl⟩:=z0d5 h;have e:absS (.agg c::sl) (consL y r')=.agg (c.up y)::absS sl r':=by simp only [absS];rw [z97,z98]
       rw [e];exact RL.cons (z06c hy h1) (ih hr h2)
     | sub s v =>
       obtain ⟨o,n,r',rfl,hr,rfl⟩:=z0d6 h;have e:absS (.sub s v::sl) (consL (c:=.i) (o:Int) (consL (c:=.i) (n:Int) r'))=.ref s v o n::absS sl r':=by
        simp only [absS];rw [z97,z98,z97,z98];rfl
       rw [e];exact RL.cons h1 (ih hr h2)
     | pt s v j =>
       obtain ⟨i,r',rfl,hr,rfl⟩:=z0e5 h;have e:absS (.pt s v j::sl) (consL (c:=.i) (i:Int) r')=.ptr s v i j::absS sl r':=by
        simp only [absS];rw [z97,z98];rfl
       rw [e];exact RL.cons h1 (ih hr h2)
end Clk
namespace Clk
open Go
theorem RL.flatten {E:Emb} {rows:List (List SV)} {rows':List (List AV)} (hl:rows.length=rows'.length) (h:∀ (i:Nat) r r',rows[i]?=some r->rows'[i]?=some r'->RL E r r'):RL E rows.flatten rows'.flatten:=by
 induction rows generalizing rows' with
 | nil=>cases rows' with | nil=>exact .nil | cons=>simp at hl
 | cons r rows ih=>cases rows' with
   | nil=>simp at hl
   | cons r' rows' =>
     simp only [List.flatten_cons];exact (h 0 r r' rfl rfl).app (ih (by simpa using hl) fun i a b h1 h2=>h (i+1) a b (by simpa using h1) (by simpa using h2))
theorem zlv {α:Type} {k:Nat}:∀ {rows:List (List α)},(∀ r∈rows,r.length=k)->rows.flatten.length=k*rows.length
 | [],_=>rfl
 | r::rows,h=>by
   simp only [List.flatten_cons,List.length_append,List.length_cons];rw [h r List.mem_cons_self,zlv fun x hx=>h x (List.mem_cons_of_mem _ hx),Nat.mul_succ,Nat.add_comm]
theorem zoi {E:Emb} {k:Nat}:∀ {rows':List (List AV)} {m:List SV},(∀ r∈rows',r.length=k)->RL E m rows'.flatten->(chunk k rows'.length m).length=rows'.length /\ ∀ (i:Nat) r r',(chunk k rows'.length m)[i]?=some r->rows'[i]?=some r'->RL E r r' /\ r'.length=k
 | [],m,_,_=>⟨rfl,fun i r r' h=>by simp [chunk] at h⟩
 | r0::rows',m,h,hr=>by
   have hk:=h r0 List.mem_cons_self;have h1:RL E (m.take k) r0:=by
    have:=hr.take k;rwa [List.flatten_cons,List.take_left' hk] at this
   have h2:RL E (m.drop k) rows'.flatten:=by
    have:=hr.drop k;rwa [List.flatten_cons,List.drop_left' hk] at this
   obtain ⟨g1,g2⟩:=zoi (fun x hx=>h x (List.mem_cons_of_mem _ hx)) h2;refine ⟨by simp [chunk,g1],fun i r r' q1 q2=>?_⟩;cases i with
   | zero=>simp [chunk] at q1 q2;subst q1 q2;exact ⟨h1,hk⟩
   | succ i=>simp [chunk] at q1 q2;exact g2 i r r' q1 q2
def z2a (E:Emb) (n i:Nat) (os:List SO):Prop:=∀ (j:Nat) s p tm ps as bd d,os[j]?=some (.loop s p tm ps as bd d)->i+j<n->d<n /\ ∃ q,E[i+j]?=some (.ob q ps as bd d)
theorem z2a.drop {E:Emb} {n i:Nat} {os:List SO} (h:z2a E n i os):z2a E n (i+1) (os.drop 1):=by
 intro j s p tm ps as bd d h1 hj;rw [List.getElem?_drop] at h1;obtain ⟨g1,q,g2⟩:=h (1+j) s p tm ps as bd d h1 (by omega);exact ⟨g1,q,by rw [<- g2];congr 1;omega⟩
theorem zrv {l r:Option (List SV)} {x:List SV} (h:(match l,r with | some l,some r=>some (l++r) | _,_=>none)=some x):∃ a b,l=some a /\ r=some b /\ x=a++b:=by
 cases l with
 | none=>cases h
 | some a=>cases r with
   | none=>cases h
   | some b=>exact ⟨a,b,rfl,rfl,(Option.some.inj h).symm⟩
theorem zoj {E:Emb} {SH:List SO} {HA:List AO} (hr:HR E SH HA) {hs0:List Sht} (hlen:hs0.length<=E.length):∀ (hs:List Sht) (i:Nat) {l:List SV},(∀ j,hs[j]?=hs0[i+j]?)->flatS hs0 SH hs (SH.drop i)=some l ->
 ∃ l':List AV,RL (z5z hs0 E) l l' /\ ∀ (os0:List SO) (m:List SV),z2a E hs0.length i os0->RL (z5z hs0 E) m l'->(unflatS hs os0 m).length=hs.length /\ ∀ (j:Nat) o e,(unflatS hs os0 m)[j]?=some o->(z5z hs0 E)[i+j]?=some e->OR (z5z hs0 E) HA e o
 | [],i,l,_,h=>by
   simp only [flatS] at h;cases h;exact ⟨[],.nil,fun os0 m _ _=>⟨rfl,fun j o e h1=>by simp [unflatS] at h1⟩⟩
 | h0::hs,i,l,hh,h=>by
   cases hd:SH.drop i with
   | nil=>rw [hd] at h;cases h
   | cons o os =>
     have ho:SH[i]?=some o:=by
      have:(SH.drop i)[0]?=some o:=by rw [hd];rfl
      rwa [List.getElem?_drop,Nat.add_zero] at this
     have hos:os=SH.drop (i+1):=by
      have:(SH.drop i).drop 1=os:=by rw [hd];rfl
      rw [<- this,List.drop_drop]
     rw [hd,hos] at h;simp only [flatS] at h;obtain ⟨a,b,h1,h2,rfl⟩:=zrv h;clear h;have hh':∀ j,hs[j]?=hs0[i+1+j]?:=fun j=>by
      have:=hh (j+1);simp only [List.getElem?_cons_succ] at this;rw [this];congr 1;omega
     have hh0:hs0[i]?=some h0:=by have:=hh 0;simpa using this.symm
     obtain ⟨b',k1,k2⟩:=zoj hr hlen hs (i+1) hh' h2;have hil:i<E.length:=by rw [hr.len];exact (zG.1 ho).1
     obtain ⟨e0,he0⟩:∃ e0,E[i]?=some e0:=⟨E[i],zH hil⟩;have hor:=hr.obj i o e0 ho he0;have hreb:=z6e hh0 he0;have fin:∀ (a':List AV),RL (z5z hs0 E) a a' ->
      (∀ (os0:List SO) (m:List SV),z2a E hs0.length i os0->RL (z5z hs0 E) m (a'++b')->∃ x m',unflatS (h0::hs) os0 m=x::unflatS hs (os0.drop 1) m' /\ RL (z5z hs0 E) m' b' /\ OR (z5z hs0 E) HA (reb1 h0 e0) x) ->
      ∃ l':List AV,RL (z5z hs0 E) (a++b) l' /\ ∀ (os0:List SO) (m:List SV),z2a E hs0.length i os0->RL (z5z hs0 E) m l'->(unflatS (h0::hs) os0 m).length=(h0::hs).length /\ ∀ (j:Nat) o e,(unflatS (h0::hs) os0 m)[j]?=some o->(z5z hs0 E)[i+j]?=some e->OR (z5z hs0 E) HA e o:=by
      intro a' ha hx;refine ⟨a'++b',ha.app k1,fun os0 m hlo hm=>?_⟩;obtain ⟨x,m',q1,q2,q3⟩:=hx os0 m hlo hm;obtain ⟨q4,q5⟩:=k2 (os0.drop 1) m' hlo.drop q2;rw [q1];refine ⟨by rw [List.length_cons,q4];rfl,fun j o e h1 h2=>?_⟩;cases j with
      | zero =>
        simp at h1;subst h1;rw [Nat.add_zero,hreb] at h2;cases h2;exact q3
      | succ j =>
        rw [List.getElem?_cons_succ] at h1;exact q5 j o e h1 (by rw [<- h2];congr 1;omega)
     have nvL:∀ {x:List SV} {y:List AV},RL E x y->RL (z5z hs0 E) (x.map (nvS hs0 SH)) y:=fun r=>r.mapF fun x a h=>zwd hr hs0 h
     cases h0 with
     | dead =>
       cases h1;exact fin [] .nil fun os0 m _ hm=>⟨.dead,m,rfl,hm,by cases reb1 Sht.dead e0 <;> trivial⟩
     | blk c v gr =>
       cases o with
       | blk c' v' lv xs =>
         cases lv with
         | false=>cases h1
         | true =>
           simp only at h1;split at h1
           · rename_i hc;obtain ⟨rfl,hv⟩:=hc;cases h1;have hrows:∃ rows,RT E c' xs rows /\ ∀ xs2:List c'.den,RT (z5z hs0 E) c' xs2 rows->OR (z5z hs0 E) HA (reb1 (.blk c' v gr) e0) (.blk c' (cond gr 0 v) true xs2):=by
              cases e0 with
              | no=>exact hor.elim
              | gone=>exact hor.elim
              | ob=>exact hor.elim
              | ow=>exact hor.elim
              | un cur =>
                obtain ⟨rfl,rfl,_⟩:=hor;refine ⟨[],.nil,fun xs2 h=>?_⟩;have:xs2=[]:=by have:=(RT.iff.1 h).1;simpa using this.symm
                subst this;cases gr with
                | true=>exact ⟨rfl,rfl,rfl⟩
                | false=>exact ⟨by simpa using hv,rfl,rfl⟩
              | al p off cur len =>
                obtain ⟨g1,g2,rows,g3,g4⟩:=hor;refine ⟨rows,g4,fun xs2 h=>?_⟩;have hl:xs2.length=xs.length:=by rw [<- (RT.iff.1 h).1,<- (RT.iff.1 g4).1]
                cases gr with
                | true=>exact ⟨by simp only [zC];omega,by rw [hl];exact g2,rows,g3,h⟩
                | false=>exact ⟨by simp only [zD];rw [<- (by simpa using hv:v'=v)];exact g1,by rw [hl];exact g2,rows,g3,h⟩
             obtain ⟨rows,g1,g2⟩:=hrows;refine fin [.rows rows] (.cons (RT.rows g1.free) .nil) fun os0 m _ hm=>?_
             obtain ⟨y,m',rfl,q1,q2⟩:∃ y m',m=y::m' /\ R (z5z hs0 E) y (.rows rows) /\ RL (z5z hs0 E) m' b':=by
              cases m with
              | nil=>have:=hm.1;simp at this
              | cons y m'=>obtain ⟨_,_,e,z1,z2⟩:=hm.cons_inv;cases e;exact ⟨y,m',rfl,z1,z2⟩
             refine ⟨_,m',rfl,q2,?_⟩;cases y with
             | lst fl c2 xs2 =>
               simp only;unfold TC.cast;split
               · rename_i x2 hx2;split at hx2
                 · rename_i hcc;subst hcc;cases hx2;obtain ⟨l2,z1,z2,_⟩:=q1.lst_inv;rcases z2 with z2 | z2 <;> cases z2
                   exact g2 _ z1
                 · cases hx2
               · cases reb1 (Sht.blk c' v gr) e0 <;> trivial
             | _=>exact (by cases reb1 (Sht.blk c' v gr) e0 <;> trivial)
           · cases h1
       | _=>cases h1
     | raw k rn =>
       cases o with
       | raw k' lv rows =>
         cases lv with
         | false=>cases h1
         | true =>
           simp only at h1;split at h1
           · rename_i hc;obtain ⟨rfl,rfl,hall⟩:=hc;cases h1;cases e0 with
             | no=>exact hor.elim
             | gone=>exact hor.elim
             | ob=>exact hor.elim
             | ow=>exact hor.elim
             | un=>exact hor.elim
             | al p off cur len =>
               obtain ⟨rfl,rfl,g1,rows',g2,g3,g4⟩:=hor;have hk:∀ r∈rows',r.length=k':=by
                intro r hr';obtain ⟨n,hn⟩:=List.mem_iff_getElem?.1 hr';have hnl:=(zG.1 hn).1;rw [<- g3] at hnl;exact (g4 n _ r (zH hnl) hn).2
               refine fin rows'.flatten (nvL (RL.flatten g3 fun i r r' h1 h2=>(g4 i r r' h1 h2).1)) fun os0 m _ hm=>?_
               have hfl:rows'.flatten.length=k'*rows.length:=by rw [zlv hk,g3]
               have hm1:RL (z5z hs0 E) (m.take (k'*rows.length)) rows'.flatten:=by
                have:=hm.take (k'*rows.length);rwa [List.take_left' hfl] at this
               have hm2:RL (z5z hs0 E) (m.drop (k'*rows.length)) b':=by
                have:=hm.drop (k'*rows.length);rwa [List.drop_left' hfl] at this
               obtain ⟨z1,z2⟩:=zoi hk hm1;rw [<- g3] at z1 z2;refine ⟨_,_,rfl,hm2,?_⟩;show OR (z5z hs0 E) HA (.al p 0 0 len) _;exact ⟨rfl,rfl,by rw [z1];exact g1,rows',g2,by rw [z1];exact g3,z2⟩
           · cases h1
       | _=>cases h1
     | st c =>
       cases o with
       | raw k' lv rows =>
         cases lv with
         | false=>cases h1
         | true =>
           cases rows with
           | nil=>cases h1
           | cons row rows =>
             cases rows with
             | cons=>cases h1
             | nil =>
               simp only at h1;split at h1
               · rename_i hc;obtain ⟨rfl,hrl⟩:=hc;cases h1;cases e0 with
                 | no=>exact hor.elim
                 | gone=>exact hor.elim
                 | ob=>exact hor.elim
                 | ow=>exact hor.elim
                 | un=>exact hor.elim
                 | al p off cur len =>
                   obtain ⟨rfl,rfl,g1,rows',g2,g3,g4⟩:=hor;cases rows' with
                   | nil=>simp at g3
                   | cons row' rows' =>
                     have hn:rows'=[]:=by simpa using g3.symm
                     subst hn;obtain ⟨z1,z2⟩:=g4 0 row row' rfl rfl;refine fin [.agg row'] (.cons (.agg' (nvL z1)) .nil) fun os0 m _ hm=>?_
                     obtain ⟨y,m',rfl,q1,q2⟩:∃ y m',m=y::m' /\ R (z5z hs0 E) y (.agg row') /\ RL (z5z hs0 E) m' b':=by
                      cases m with
                      | nil=>have:=hm.1;simp at this
                      | cons y m'=>obtain ⟨_,_,e,z1,z2⟩:=hm.cons_inv;cases e;exact ⟨y,m',rfl,z1,z2⟩
                     refine ⟨_,m',rfl,q2,?_⟩;show OR (z5z hs0 E) HA (.al p 0 0 len) _;cases y with
                     | agg cs =>
                       cases q1 with
                       | agg w1 w2 =>
                         refine ⟨rfl,rfl,g1,[row'],g2,rfl,fun i r r' x1 x2=>?_⟩;cases i with
                         | zero=>simp at x1 x2;subst x1 x2;exact ⟨⟨w1,w2⟩,z2⟩
                         | succ i=>simp at x1
                     | _=>trivial
               · cases h1
       | _=>cases h1
     | loop n =>
       cases o with
       | loop s pend tm ps as bd d =>
         cases s with
         | ready =>
           cases pend with
           | some=>cases h1
           | none =>
             simp only at h1;split at h1
             · rename_i hn;cases h1;cases e0 with
               | no=>exact hor.elim
               | gone=>exact hor.elim
               | al=>exact hor.elim
               | ow=>exact hor.elim
               | un=>exact hor.elim
               | ob p ps1 as1 bd1 d1 =>
                 obtain ⟨rfl,rfl,rfl,rfl,tm',dA,g1,g2,q,qs,qa,qb,g3⟩:=hor;refine fin tm' (nvL g2) fun os0 m hlo hm=>?_
                 have hfl:tm'.length=n:=by rw [<- g2.1];exact hn
                 have hm1:RL (z5z hs0 E) (m.take n) tm':=by
                  have:=hm.take n;rwa [List.take_left' hfl] at this
                 have hm2:RL (z5z hs0 E) (m.drop n) b':=by
                  have:=hm.drop n;rwa [List.drop_left' hfl] at this
                 refine ⟨_,_,rfl,hm2,?_⟩;rw [zog];cases os0 with
                 | nil=>trivial
                 | cons o0 os0 =>
                   cases o0 with
                   | loop s2 p2 tm2 ps2 as2 bd2 d2 =>
                     obtain ⟨hdn,q2,hE⟩:=hlo 0 s2 p2 tm2 ps2 as2 bd2 d2 rfl (zG.1 hh0).1;rw [Nat.add_zero,he0] at hE;injection hE with hE
                     injection hE with _ e1 e2 e3 e4
                     subst e1 e2 e3 e4;refine ⟨rfl,rfl,rfl,rfl,tm',dA,g1,hm1,q,qs,qa,qb,?_⟩;rw [z6e (zH hdn) g3,zog]
                   | _=>trivial
             · cases h1
         | _=>cases h1
       | _=>cases h1
     | dfr =>
       cases o with
       | dfr op =>
         cases op with
         | false=>cases h1
         | true =>
           cases h1;cases e0 with
           | no=>exact hor.elim
           | gone=>exact hor.elim
           | al=>exact hor.elim
           | ow=>exact hor.elim
           | un=>exact hor.elim
           | ob p ps1 as1 bd1 d1 =>
             refine fin [] .nil fun os0 m _ hm=>⟨.dfr true,m,rfl,hm,?_⟩
             rw [zog];exact hor
       | _=>cases h1
     | nst pv v gr =>
       cases o with
       | nst pv' v' lv xs ex =>
         cases lv with
         | false=>cases h1
         | true =>
           cases ex with
           | cons=>cases h1
           | nil =>
             simp only at h1;split at h1
             · rename_i hc;obtain ⟨rfl,hv⟩:=hc;cases h1;have hrows:OR (z5z hs0 E) HA (reb1 (.nst pv' v gr) e0) (.nst pv' (cond gr 0 v) true xs []):=by
                have rows:∀ {qf:Nat->Option (Nat×Nat)} {i:Nat} {x:Block} {row:List AV},zgw E HA qf pv' true [] i x row->zgw (z5z hs0 E) HA qf pv' true [] i x row:=by
                 rintro qf i x row ⟨c0,rest,e,w1,w2⟩
                 refine ⟨c0,rest,e,w1.free (by intro a ha;simp at ha;rcases ha with rfl | rfl | rfl <;> rfl),?_⟩;rcases w2 with ⟨s2,z1,_⟩ | ⟨z1,z2,z3⟩ | ⟨z1,q,u,prows,z2,z3,z4,z5⟩
                 · cases z1
                 · exact .inr (.inl ⟨z1,z2.free rfl,z3⟩)
                 · exact .inr (.inr ⟨z1,q,u,prows,z2,z3,z4,z5.free⟩)
                cases e0 with
                | no=>exact hor.elim
                | gone=>exact hor.elim
                | ob=>exact hor.elim
                | un cur =>
                  obtain ⟨rfl,rfl,_⟩:=hor;cases gr with
                  | true=>exact ⟨rfl,rfl,rfl⟩
                  | false=>exact ⟨by simpa using hv,rfl,rfl⟩
                | al p off cur len =>
                  obtain ⟨g1,g2,g3,g4,rws,g5,g6,g7⟩:=hor;cases gr with
                  | true=>exact ⟨by simp only [zC];omega,g2,g3,g4,rws,g5,g6,fun i x row y1 y2=>rows (g7 i x row y1 y2)⟩
                  | false=>exact ⟨by simp only [zD];rw [<- (by simpa using hv:v'=v)];exact g1,g2,g3,g4,rws,g5,g6,fun i x row y1 y2=>rows (g7 i x row y1 y2)⟩
                | ow p off cur len qf =>
                  obtain ⟨g1,g2,g3,g4,rws,g5,g6,g7⟩:=hor;cases gr with
                  | true=>exact ⟨by simp only [zC];omega,g2,g3,g4,rws,g5,g6,fun i x row y1 y2=>rows (g7 i x row y1 y2)⟩
                  | false=>exact ⟨by simp only [zD];rw [<- (by simpa using hv:v'=v)];exact g1,g2,g3,g4,rws,g5,g6,fun i x row y1 y2=>rows (g7 i x row y1 y2)⟩
               have hval:R (z5z hs0 E) (.lst false .block xs) (.rows (xs.map (z82 .block))):=zo5 (.list .block) xs;refine fin [.rows (xs.map (z82 .block))] (.cons hval .nil) fun os0 m _ hm=>?_
               obtain ⟨y,m',rfl,q1,q2⟩:∃ y m',m=y::m' /\ R (z5z hs0 E) y (.rows (xs.map (z82 .block))) /\ RL (z5z hs0 E) m' b':=by
                cases m with
                | nil=>have:=hm.1;simp at this
                | cons y m'=>obtain ⟨_,_,e,z1,z2⟩:=hm.cons_inv;cases e;exact ⟨y,m',rfl,z1,z2⟩
               refine ⟨_,m',rfl,q2,?_⟩;cases y with
               | lst fl c2 xs2 =>
                 simp only;unfold TC.cast;split
                 · rename_i x2 hx2;split at hx2
                   · rename_i hcc;subst hcc;cases hx2;have e1:=z7m (nrmC _) q1;have e2:=z7m (nrmC _) hval;rw [e1] at e2;injection e2 with e2
                     injection e2 with e2
                     have e3:xs2=xs:=zcu (fun _ _=>zn5 .block) e2;subst e3;exact hrows
                   · cases hx2
                 · cases reb1 (Sht.nst pv' v gr) e0 <;> trivial
               | _=>exact (by cases reb1 (Sht.nst pv' v gr) e0 <;> trivial)
             · cases h1
       | _=>cases h1
theorem zwe (hs0:List Sht) (SH:List SO):∀ (hs:List Sht) (os:List SO) {l:List SV},flatS hs0 SH hs os=some l->hs.length<=os.length
 | [],os,l,_=>Nat.zero_le _
 | _::_,[],l,h=>by cases h
 | h0::hs,o::os,l,h=>by
   simp only [flatS] at h;obtain ⟨a,b,h1,h2,_⟩:=zrv h;have:=zwe hs0 SH hs os h2;simp;exact this
theorem z08o {T:Tmpl} {m:List Nat} {st:SSt} {x:z3z (z2n T.slots)} (h:unT T m st=some x):T.hs.length<=st.H.length:=by
 unfold unT at h;split at h
 · split at h
   · rename_i l hl;exact zwe _ _ _ _ hl
   · cases h
 · cases h
theorem zwf {E:Emb} {HA:List AO} {T:Tmpl} {m:List Nat} {st:SSt} {t':List AV} (hr:HR E st.H HA) (ht:RL E st.t t') {x:z3z (z2n T.slots)} (h:unT T m st=some x) (hlen:T.hs.length<=E.length) {H0:List SO} (hlo:z2a E T.hs.length 0 H0) (g:Gh) :
 HR (z5z T.hs E) (absT T m H0 g x).H HA /\ RL (z5z T.hs E) (absT T m H0 g x).t t' /\ st.m=m:=by
 unfold unT at h;split at h
 · rename_i hc;split at h
   · rename_i l hl;obtain ⟨l',k1,k2⟩:=zoj hr hlen T.hs 0 (fun j=>by rw [Nat.zero_add]) hl;have h1:=z03u T.slots h ((ht.mapF fun x a h=>zwd hr T.hs h).app k1);have hnt:t'.length=T.nt:=by rw [<- ht.1];exact hc.1
     have h2:RL (z5z T.hs E) ((absS T.slots x).take T.nt) t':=by
      have:=h1.take T.nt;rwa [List.take_left' hnt] at this
     have h3:RL (z5z T.hs E) ((absS T.slots x).drop T.nt) l':=by
      have:=h1.drop T.nt;rwa [List.drop_left' hnt] at this
     obtain ⟨q1,q2⟩:=k2 H0 _ hlo h3;refine ⟨⟨by rw [zn6 hlen];exact q1.symm,fun s e p w1 w2=>?_,fun s s' e e' p w1 w2 w3 w4=>?_,fun s o e w1 w2=>?_⟩,h2,hc.2⟩
     · obtain ⟨h0,e0,z1,z2,rfl⟩:=zjc w1;rw [zt3] at w2;exact hr.lt s e0 p z2 w2
     · obtain ⟨h0,e0,z1,z2,rfl⟩:=zjc w1;obtain ⟨h0',e0',z1',z2',rfl⟩:=zjc w2;rw [zt3] at w3 w4;exact hr.inj s s' e0 e0' p z2 z2' w3 w4
     · exact q2 s o e w1 (by rw [Nat.zero_add];exact w2)
   · cases h
 · cases h
end Clk
namespace Clk
open Go
structure HX (E:Emb) (SH:List SO) (HA:List AO) (t':List AV) (E':Emb) (st:SSt):Prop where
 le:ELe E E'
 hr:HR E' st.H HA
 rt:RL E' st.t t'
 pos:∀ (s:Nat) (e:EI) (p:Nat),E'[s]?=some e->e.at p->∃ (s0:Nat) (e0:EI),E[s0]?=some e0 /\ e0.at p
 nn:∀ s:Nat,E[s]?=some .no->E'[s]?=some .no
theorem HX.trans {E E1 E2:Emb} {SH SH1:List SO} {HA:List AO} {t':List AV} {st1 st2:SSt} (h:HX E SH HA t' E1 st1) (g:HX E1 SH1 HA t' E2 st2):HX E SH HA t' E2 st2 :=
 ⟨h.le.trans g.le,g.hr,g.rt,fun s e p h1 h2=>by obtain ⟨s1,e1,k1,k2⟩:=g.pos s e p h1 h2;exact h.pos s1 e1 p k1 k2,fun s hs=>g.nn s (h.nn s hs)⟩
theorem ELe.push (E:Emb) (e:EI):ELe E (E++[e]):=fun s x hs=>⟨x,by rw [List.getElem?_append_left (zG.1 hs).1];exact hs,.refl x⟩
theorem HR.pushUn {E:Emb} {SH:List SO} {HA:List AO} (hr:HR E SH HA) (c:TC):HR (E++[.un 0]) (SH++[.blk c 0 true []]) HA :=
 (hr.push (HA':=HA) (e':=.un 0) (o':=.blk c 0 true []) (fun p hp=>by cases hp) (Nat.le_refl _) (fun _ _ _ _ _=>rfl) (fun _=>⟨rfl,rfl,rfl⟩)).1
theorem HR.setO {E:Emb} {SH:List SO} {HA:List AO} (hr:HR E SH HA) {s:Nat} {o:SO} (h:∀ e,E[s]?=some e->OR E HA e o):HR E (SH.set s o) HA:=by
 refine ⟨by simp [hr.len],hr.lt,hr.inj,fun i x e h1 h2=>?_⟩;rw [List.getElem?_set] at h1;split at h1
 · rename_i hx;subst hx;split at h1
   · cases h1;exact h e h2
   · cases h1
 · exact hr.obj i x e h1 h2
theorem zok {E:Emb} {fl:Bool} {c:TC} {a:AV} (r:R E (.lst fl c []) a) (hf:fl=true):a=.crows []:=by
 obtain ⟨l,h1,h2,h3⟩:=r.lst_inv;have:=(RT.iff.1 h1).1;have hl:l=[]:=by simpa using this
 rw [h3 hf,hl]
theorem zt5 {E:Emb} {SH:List SO} {HA:List AO} (hr:HR E SH HA) {t':List AV} {st1:SSt} (h1:HR (E++[.un 0]) st1.H HA) (h2:RL (E++[.un 0]) st1.t t'):HX E SH HA t' (E++[.un 0]) st1:=by
 refine ⟨.push E _,h1,h2,fun s e p w1 w2=>?_,fun s hs=>by rw [List.getElem?_append_left (zG.1 hs).1];exact hs⟩;rw [List.getElem?_append] at w1;split at w1
 · exact ⟨s,e,w1,w2⟩
 · have:=(zG.1 w1).1;simp only [List.length_singleton] at this;have h0:s - E.length=0:=by omega
   rw [h0] at w1;simp at w1;subst w1;cases w2
theorem zgk {α:Type} {l m:List α} {s:Nat} {x:α} (h:s<l.length):l.set s x++m=(l++m).set s x:=by
 rw [List.set_append_left _ _ h]
theorem zwg {E:Emb} {HA:List AO} {p:Pro} {st st1:SSt} {t':List AV} (hr:HR E st.H HA) (ht:RL E st.t t') (h:proOne p st=some st1):(∃ E1,HX E st.H HA t' E1 st1) /\ st1.m=st.m /\ st1.g=st.g /\ st.H.length<=st1.H.length:=by
 have same:(∃ E1,HX E st.H HA t' E1 st) /\ st.m=st.m /\ st.g=st.g /\ st.H.length<=st.H.length :=
  ⟨⟨E,.refl E,hr,ht,fun s e p h1 h2=>⟨s,e,h1,h2⟩,fun _ h=>h⟩,rfl,rfl,Nat.le_refl _⟩
 have hun:(E++[.un 0])[st.H.length]?=some (.un 0):=by rw [<- hr.len];simp
 have hnew:∀ (a:AV),a=.crows []->R (E++[.un 0]) (.bref st.H.length 0) a:=by
  rintro a rfl;exact .bun hun (Nat.le_refl _)
 cases p with
 | tmp i c =>
   simp only [proOne] at h;split at h
   · rename_i c' hti;split at h
     · cases h;obtain ⟨a,ha,hra⟩:=ht.get hti;refine ⟨⟨_,zt5 hr (hr.pushUn c) ?_⟩,rfl,rfl,by simp⟩;exact (ht.mono (.push E _)).setB ha (hnew a (zok hra rfl))
     · cases h
   · cases h;exact same
   · cases h
 | cell s i j c =>
   simp only [proOne] at h;split at h
   · rename_i k rows hs;split at h
     · rename_i c' hc;split at h
       · cases h;obtain ⟨e,h1,h2,h3⟩:=hr.get hs (by simp);have hsl:=(zG.1 h2).1;refine ⟨⟨_,zt5 hr ?_ (ht.mono (.push E _))⟩,rfl,rfl,by simp⟩;simp only;rw [zgk hsl];refine (hr.pushUn c).setO fun e2 he2=>?_
         rw [List.getElem?_append_left (by rw [hr.len];exact hsl),h1] at he2;cases he2;cases e with
         | no=>exact h3.elim
         | gone=>exact h3.elim
         | un=>exact h3.elim
         | ob=>exact h3.elim
         | ow=>exact h3.elim
         | al p off cur len =>
           obtain ⟨rfl,rfl,g1,rows',g2,g3,g4⟩:=h3;refine ⟨rfl,rfl,by simpa using g1,rows',g2,by simpa using g3,fun i2 r r' w1 w2=>?_⟩;rw [List.getElem?_set] at w1;split at w1
           · rename_i hx;subst hx;split at w1
             · rename_i hil;cases w1;obtain ⟨z1,z2⟩:=g4 i (rows.getD i []) r' (by rw [zI,zH hil];rfl) w2;refine ⟨?_,z2⟩;obtain ⟨a,ha,hra⟩:=z1.get hc;exact (z1.mono (.push E _)).setB ha (hnew a (zok hra rfl))
             · cases w1
           · obtain ⟨z1,z2⟩:=g4 i2 r r' w1 w2;exact ⟨z1.mono (.push E _),z2⟩
       · cases h
     · cases h;exact same
     · cases h
   · cases h
 | ltmp s i c =>
   simp only [proOne] at h;split at h
   · rename_i ls pp tm ps as bd d hs;split at h
     · rename_i c' hc;split at h
       · cases h;obtain ⟨e,h1,h2,h3⟩:=hr.get hs (by simp);have hsl:=(zG.1 h2).1;refine ⟨⟨_,zt5 hr ?_ (ht.mono (.push E _))⟩,rfl,rfl,by simp⟩;simp only;rw [zgk hsl];refine (hr.pushUn c).setO fun e2 he2=>?_
         rw [List.getElem?_append_left (by rw [hr.len];exact hsl),h1] at he2;cases he2;cases e with
         | no=>exact h3.elim
         | gone=>exact h3.elim
         | un=>exact h3.elim
         | al=>exact h3.elim
         | ow=>exact h3.elim
         | ob p ps1 as1 bd1 d1 =>
           obtain ⟨rfl,rfl,rfl,rfl,tm',dA,g1,g2,q,qs,qa,qb,g3⟩:=h3;obtain ⟨a,ha,hra⟩:=g2.get hc;refine ⟨rfl,rfl,rfl,rfl,tm',dA,g1,(g2.mono (.push E _)).setB ha (hnew a (zok hra rfl)),q,qs,qa,qb,(ELe.push E _).ob g3⟩
       · cases h
     · cases h;exact same
     · cases h
   · cases h
theorem zlw {HA:List AO} {t':List AV}:∀ (l:List Pro) {E:Emb} {st st1:SSt},HR E st.H HA->RL E st.t t'->proAll l st=some st1->(∃ E1,HX E st.H HA t' E1 st1) /\ st1.m=st.m /\ st1.g=st.g /\ st.H.length<=st1.H.length
 | [],E,st,st1,hr,ht,h=>by
   cases h;exact ⟨⟨E,.refl E,hr,ht,fun s e p h1 h2=>⟨s,e,h1,h2⟩,fun _ h=>h⟩,rfl,rfl,Nat.le_refl _⟩
 | p::l,E,st,st1,hr,ht,h=>by
   simp only [proAll] at h;split at h
   · rename_i st2 h2;obtain ⟨⟨E1,g1⟩,g2,g3,g4⟩:=zwg hr ht h2;obtain ⟨⟨E2,k1⟩,k2,k3,k4⟩:=zlw l g1.hr g1.rt h;exact ⟨⟨E2,g1.trans k1⟩,k2.trans g2,k3.trans g3,Nat.le_trans g4 k4⟩
   · cases h
theorem zwh {E E':Emb} (hE:ELe E E') {s v n:Nat} (h:(∃ p off cur len,E[s]?=some (.al p off cur len) /\ (cur:Int)=v+off /\ E'[n]?=some (.al p cur cur len)) \/ (E[s]?=some (.un v) /\ E'[n]?=some (.un 0))) {x:SV} {a:AV} (r:R E x a):R E' (ren s v n x) a:=by
 have hm:=r.mono hE;cases x with
 | bref s' v' =>
   simp only [ren];split
   · rename_i he;obtain ⟨rfl,rfl⟩:=he;rcases h with ⟨p,off,cur,len,g1,g2,g3⟩ | ⟨g1,g3⟩
     · cases r with
       | bref hE hu hle=>rw [g1] at hE;cases hE;exact .bref g3 (by omega) hle
       | bun hE hle=>rw [g1] at hE;cases hE
       | bnil hE h=>rw [g1] at hE;cases hE;omega
       | obref hE=>rw [g1] at hE;cases hE
       | obnil hE=>rw [g1] at hE;cases hE
       | gbref hE hl=>rw [g1] at hE;cases hE
     · cases r with
       | bref hE hu hle=>rw [g1] at hE;cases hE
       | bun hE hle=>exact .bun g3 (Nat.le_refl _)
       | bnil hE h=>rw [g1] at hE;cases hE
       | obref hE=>rw [g1] at hE;cases hE
       | obnil hE=>rw [g1] at hE;cases hE
       | gbref hE hl=>rw [g1] at hE;cases hE
   · exact hm
 | ref s' v' o m =>
   simp only [ren];split
   · rename_i he;obtain ⟨rfl,rfl⟩:=he;rcases h with ⟨p,off,cur,len,g1,g2,g3⟩ | ⟨g1,g3⟩
     · cases r with
       | ref hE hu hle hn=>rw [g1] at hE;cases hE;exact .ref g3 (by omega) hle hn
       | run hE hle hn=>rw [g1] at hE;cases hE
       | rnil hE h hn=>rw [g1] at hE;cases hE;omega
       | oref hE=>rw [g1] at hE;cases hE
       | ornil hE=>rw [g1] at hE;cases hE
       | gref hE=>rw [g1] at hE;cases hE
       | grun hE hn=>rw [g1] at hE;cases hE
     · cases r with
       | ref hE hu hle hn=>rw [g1] at hE;cases hE
       | run hE hle hn=>exact .run g3 (Nat.le_refl _) hn
       | rnil hE h hn=>rw [g1] at hE;cases hE
       | oref hE=>rw [g1] at hE;cases hE
       | ornil hE=>rw [g1] at hE;cases hE
       | gref hE=>rw [g1] at hE;cases hE
       | grun hE hn=>rw [g1] at hE;cases hE
   · exact hm
 | ptr s' v' i j =>
   simp only [ren];split
   · rename_i he;obtain ⟨rfl,rfl⟩:=he;rcases h with ⟨p,off,cur,len,g1,g2,g3⟩ | ⟨g1,g3⟩
     · cases r with
       | ptr hE hu=>rw [g1] at hE;cases hE;exact .ptr g3 (by omega)
       | optr hE=>rw [g1] at hE;cases hE
       | gptr hE=>rw [g1] at hE;cases hE
     · cases r with
       | ptr hE hu=>rw [g1] at hE;cases hE
       | optr hE=>rw [g1] at hE;cases hE
       | gptr hE=>rw [g1] at hE;cases hE
   · exact hm
 | _=>exact hm
theorem zrw {HA:List AO} {t':List AV}:∀ (l:List (Nat×TC)) {E:Emb} {st st1:SSt},HR E st.H HA->RL E st.t t'->movS l st=some st1->(∃ E1,HX E st.H HA t' E1 st1) /\ st1.m=st.m /\ st1.g=st.g /\ st.H.length<=st1.H.length
 | [],E,st,st1,hr,ht,h=>by
   cases h;exact ⟨⟨E,.refl E,hr,ht,fun s e p h1 h2=>⟨s,e,h1,h2⟩,fun _ h=>h⟩,rfl,rfl,Nat.le_refl _⟩
 | (s,c)::l,E,st,st1,hr,ht,h=>by
   simp only [movS] at h;split at h
   · rename_i c' v xs hs;split at h
     · rename_i hcc;obtain ⟨e,h1,h2,h3⟩:=hr.get hs (by simp);have hsl:=(zG.1 h2).1;have hsE:=(zG.1 h1).1;have hnew:∃ e2:EI,(∀ q,e2.at q↔e.at q) /\ (∀ E',OR E HA e (.blk c' v true xs)->ELe E E'->OR E' HA e2 (.blk c' 0 true xs)) /\ (∀ p ps as bd d,e≠.ob p ps as bd d) /\
        (∀ E':Emb,E'[E.length]?=some e2->(∃ p off cur len,E[s]?=some (.al p off cur len) /\ (cur:Int)=v+off /\ E'[E.length]?=some (.al p cur cur len)) \/ (E[s]?=some (.un v) /\ E'[E.length]?=some (.un 0))):=by
        cases e with
        | no=>exact h3.elim
        | gone=>exact h3.elim
        | ob=>exact h3.elim
        | ow=>exact h3.elim
        | un cur =>
          obtain ⟨rfl,rfl,_⟩:=h3;exact ⟨.un 0,fun _=>Iff.rfl,fun _ _ _=>⟨rfl,rfl,rfl⟩,by intros;simp,fun E' hE'=>.inr ⟨h1,hE'⟩⟩
        | al p off cur len =>
          obtain ⟨g1,g2,rows,g3,g4⟩:=h3;exact ⟨.al p cur cur len,fun _=>Iff.rfl,fun _ _ hle=>⟨by simp,g2,rows,g3,g4.mono hle⟩,by intros;simp,fun E' hE'=>.inl ⟨p,off,cur,len,h1,g1,hE'⟩⟩
       obtain ⟨e2,p1,p2,p3,p4⟩:=hnew;have hE2l:((E.set s .gone)++[e2])[E.length]?=some e2:=by
        rw [List.getElem?_append_right (by simp)];simp
       have hle:ELe E ((E.set s .gone)++[e2]):=by
        intro i x hx;have hil:=(zG.1 hx).1;rw [List.getElem?_append_left (by simpa using hil),List.getElem?_set];split
        · rename_i hi;subst hi;try rw [if_pos hil]
          rw [h1] at hx;cases hx;exact ⟨.gone,rfl,.gone p3⟩
        · exact ⟨x,hx,.refl x⟩
       have look:∀ (i:Nat) (x:EI),((E.set s .gone)++[e2])[i]?=some x->(i=s /\ x=.gone) \/ (i≠s /\ i<E.length /\ E[i]?=some x) \/ (i=E.length /\ x=e2):=by
        intro i x hx;rw [List.getElem?_append] at hx;split at hx
        · rename_i hil;rw [List.getElem?_set] at hx;split at hx
          · rename_i hi;subst hi;first
            | (cases hx;exact .inl ⟨rfl,rfl⟩)
            | (split at hx <;> cases hx;exact .inl ⟨rfl,rfl⟩)
          · rename_i hi;exact .inr (.inl ⟨fun hh=>hi hh.symm,by simpa using hil,hx⟩)
        · rename_i hil;have:=(zG.1 hx).1;simp at this hil;have h0:i - E.length=0:=by omega
          simp only [List.length_set] at hx;rw [h0] at hx;simp at hx;exact .inr (.inr ⟨by omega,hx.symm⟩)
       have hren:∀ x a,R E x a->R ((E.set s .gone)++[e2]) (ren s v st.H.length x) a:=fun x a r=>by
        rw [<- hr.len];exact zwh hle (p4 _ hE2l) r
       have hrenL:∀ {x:List SV} {a:List AV},RL E x a->RL ((E.set s .gone)++[e2]) (x.map (ren s v st.H.length)) a:=fun r=>r.mapF hren
       have hr2:HR ((E.set s .gone)++[e2]) (((st.H.map (renO s v st.H.length)).set s .dead)++[.blk c' 0 true xs]) HA:=by
        refine ⟨by simp [hr.len],fun i x p w1 w2=>?_,fun i j x y p w1 w2 w3 w4=>?_,fun i o x w1 w2=>?_⟩
        · rcases look i x w1 with ⟨_,rfl⟩ | ⟨_,_,g⟩ | ⟨_,rfl⟩
          · cases w2
          · exact hr.lt i x p g w2
          · rw [p1] at w2;exact hr.lt s e p h1 w2
        · rcases look i x w1 with ⟨_,rfl⟩ | ⟨g0,gl,g⟩ | ⟨gl,rfl⟩
          · cases w3
          · rcases look j y w2 with ⟨_,rfl⟩ | ⟨_,_,g'⟩ | ⟨_,rfl⟩
            · cases w4
            · exact hr.inj i j x y p g g' w3 w4
            · rw [p1] at w4;exact absurd (hr.inj i s x e p g h1 w3 w4) g0
          · rcases look j y w2 with ⟨_,rfl⟩ | ⟨g0,_,g'⟩ | ⟨gl',rfl⟩
            · cases w4
            · rw [p1] at w3;exact absurd (hr.inj j s y e p g' h1 w4 w3) g0
            · rw [gl,gl']
        · rcases look i x w2 with ⟨rfl,rfl⟩ | ⟨g0,gl,g⟩ | ⟨rfl,rfl⟩
          · rw [List.getElem?_append_left (by simpa using hsl),List.getElem?_set,if_pos rfl] at w1;first
            | (cases w1;trivial)
            | (split at w1 <;> cases w1;trivial)
          · rw [List.getElem?_append_left (by simp;rw [<- hr.len];exact gl),List.getElem?_set,if_neg (fun hh=>g0 hh.symm),List.getElem?_map] at w1;cases ho:st.H[i]? with
            | none=>rw [ho] at w1;cases w1
            | some o0 =>
              rw [ho] at w1;cases w1;have hor:=hr.obj i o0 x ho g;cases o0 with
              | dead=>cases x <;> trivial
              | blk=>exact hor.mono hle fun _ _=>rfl
              | dfr=>exact hor.mono hle fun _ _=>rfl
              | nst=>exact hor.mono hle fun _ _=>rfl
              | raw k lv rows =>
                cases x with
                | no=>exact hor.elim
                | gone=>exact hor.elim
                | un=>exact hor.elim
                | ob=>exact hor.elim
                | ow=>exact hor.elim
                | al p off cur len =>
                  obtain ⟨q1,q2,q3,rows',q4,q5,q6⟩:=hor;refine ⟨q1,q2,by simpa using q3,rows',q4,by simpa using q5,fun i2 r r' y1 y2=>?_⟩;rw [List.getElem?_map] at y1;cases hrr:rows[i2]? with
                  | none=>rw [hrr] at y1;cases y1
                  | some r0 =>
                    rw [hrr] at y1;cases y1;exact ⟨hrenL (q6 i2 r0 r' hrr y2).1,(q6 i2 r0 r' hrr y2).2⟩
              | loop st0 pend tm ps as bd d =>
                cases x with
                | no=>exact hor.elim
                | gone=>exact hor.elim
                | un=>exact hor.elim
                | al=>exact hor.elim
                | ow=>exact hor.elim
                | ob p ps1 as1 bd1 d1 =>
                  obtain ⟨q1,q2,q3,q4,tm',dA,q5,q6,q,qs,qa,qb,q7⟩:=hor;exact ⟨q1,q2,q3,q4,tm',dA,q5,hrenL q6,q,qs,qa,qb,hle.ob q7⟩
          · rw [List.getElem?_append_right (by simp [hr.len])] at w1;simp [hr.len] at w1;subst w1;exact p2 _ h3 hle
       have hx1:HX E st.H HA t' ((E.set s .gone)++[e2]) ⟨st.t.map (ren s v st.H.length),((st.H.map (renO s v st.H.length)).set s .dead)++[.blk c' 0 true xs],st.m,st.g⟩:=by
        refine ⟨hle,hr2,hrenL ht,fun i x p w1 w2=>?_,fun i hi=>?_⟩
        · rcases look i x w1 with ⟨_,rfl⟩ | ⟨_,_,g⟩ | ⟨_,rfl⟩
          · cases w2
          · exact ⟨i,x,g,w2⟩
          · rw [p1] at w2;exact ⟨s,e,h1,w2⟩
        · have hil:=(zG.1 hi).1;rw [List.getElem?_append_left (by simpa using hil),List.getElem?_set,if_neg]
          · exact hi
          · rintro rfl
            rw [h1] at hi;cases hi;exact h3
       obtain ⟨⟨E2,k1⟩,k2,k3,k4⟩:=zrw l hr2 (hrenL ht) h;refine ⟨⟨E2,hx1.trans k1⟩,k2,k3,?_⟩;simp at k4;omega
     · cases h
   · cases h
theorem zt6 {E:Emb} {HA:List AO} {qf qf':Nat->Option (Nat×Nat)} {pv live:Bool} {ex ex':List (Nat×Nat)} {i:Nat} {x:Block} {row:List AV} (h:zgw E HA qf pv live ex i x row) (h1:exAt ex i=none) (h2:exAt ex' i=none) (hq:∀ q u,qf i=some (q,u)->qf' i=some (q,u)):zgw E HA qf' pv live ex' i x row:=by
 obtain ⟨c0,rest,e,w1,w2⟩:=h;refine ⟨c0,rest,e,w1,?_⟩;rcases w2 with ⟨s2,z1,_⟩ | ⟨z1,z2,z3⟩ | ⟨z1,q,u,prows,z2,z3,z4,z5⟩
 · rw [h1] at z1;cases z1
 · exact .inr (.inl ⟨h2,z2,z3⟩)
 · exact .inr (.inr ⟨h2,q,u,prows,hq q u z2,z3,z4,z5⟩)
theorem zht {E:Emb} {HA:List AO} {t':List AV} {st st1:SSt} (hr:HR E st1.H HA) (ht:RL E st1.t t'):HX E st.H HA t' E st1 :=
 ⟨.refl E,hr,ht,fun s e p h1 h2=>⟨s,e,h1,h2⟩,fun _ h=>h⟩
theorem z06e {E:Emb} {HA:List AO} {e:EI} {v:Nat} {xs:List Block} {pv:Bool} (h:OR E HA e (.blk .block v true xs)) (hp:pv=true->xs=[]):OR E HA e (.nst pv v true xs []):=by
 cases e with
 | no=>exact h
 | gone=>exact h
 | ob=>exact h
 | ow=>exact h.elim
 | un cur=>obtain ⟨g1,g2,_⟩:=h;exact ⟨g1,g2,rfl⟩
 | al p off cur len =>
   obtain ⟨g1,g2,rows,g3,g4⟩:=h;refine ⟨g1,g2,(by intro i u h;cases h),(by intro i j q u u' h;cases h),rows,g3,(RT.iff.1 g4).1,fun i x row w1 w2=>?_⟩;obtain ⟨c0,rest,e,z1,z2⟩:=((RT.iff.1 g4).2 i x row w1 w2).cons_inv;refine ⟨c0,rest,e,z2,.inr (.inl ⟨rfl,z1,?_⟩)⟩;cases pv with
   | false=>exact .inl rfl
   | true=>rw [hp rfl] at w1;simp at w1
theorem z06f {E:Emb} {HA:List AO} {st:SSt} {t':List AV} (hr:HR E st.H HA) (ht:RL E st.t t') {s s2 i v:Nat} {pv:Bool} {xs:List Block} {pg:List Page} (hs:st.H.getD s .dead=.nst pv v true xs [(i,s2)]) (hs2:st.H.getD s2 .dead=.blk .page 0 true pg) :
 ∃ E1,HX E st.H HA t' E1 { st with H:=(st.H.set s2 .dead).set s (.nst pv v true (xs.set i { xs.getD i TC.block.zero with pages:=pg }) []) }:=by
 have hne:s2≠s:=by rintro rfl;rw [hs] at hs2;cases hs2
 have stay:∀ {E:Emb} {qf qf':Nat->Option (Nat×Nat)} {rows:List (List AV)},(∀ (k:Nat) x row,xs[k]?=some x->rows[k]?=some row->zgw E HA qf pv true [(i,s2)] k x row)->(∀ k q u,k≠i->qf k=some (q,u)->qf' k=some (q,u)) ->
  (∀ x row,xs[i]?=some x->rows[i]?=some row->zgw E HA qf pv true [(i,s2)] i x row->zgw E HA qf' pv true [] i { x with pages:=pg } row) ->
  ∀ (k:Nat) x row,(xs.set i { xs.getD i TC.block.zero with pages:=pg })[k]?=some x->rows[k]?=some row->zgw E HA qf' pv true [] k x row:=by
  intro E qf qf' rows h1 h2 h3 k x row w1 w2;rw [List.getElem?_set] at w1;by_cases hk:i=k
  · subst hk;rw [if_pos rfl] at w1;split at w1
    · rename_i hi;cases w1;have hx:=zH hi;have hgd:xs.getD i TC.block.zero=xs[i]:=by simp [zI,hx]
      rw [hgd];exact h3 _ _ hx w2 (h1 _ _ _ hx w2)
    · cases w1
  · rw [if_neg hk] at w1;exact zt6 (h1 _ _ _ w1 w2) (by rw [z2c,if_neg hk]) rfl (h2 k · · (fun e=>hk e.symm))
 obtain ⟨e2,h1,h2,h3⟩:=hr.get hs2 (by simp);have hsl2:=(zG.1 h2).1;rcases hr.nst hs with ⟨_,_,g3⟩ | ⟨e,p,off,cur,len,qf,g1,g2,⟨k1,k2,k3,k4,rows,g4,g5,g6⟩⟩
 · cases g3
 have hsE:=(zG.1 g1).1;have hpa:e.at p:=by rcases g2 with ⟨rfl,_⟩ | rfl;exact rfl;exact .inl rfl
 cases e2 with
 | no=>exact h3.elim
 | gone=>exact h3.elim
 | ob=>exact h3.elim
 | ow=>exact h3.elim
 | un cur2 =>
   obtain ⟨rfl,rfl,_⟩:=h3;have hrows:=stay (qf:=qf) (qf':=qf) g6 (fun _ _ _ _ h=>h) (fun x row w1 w2 hn=>by
    obtain ⟨c0,rest,e,z1,z2⟩:=hn;refine ⟨c0,rest,e,z1,?_⟩;rcases z2 with ⟨s3,y1,y2⟩ | ⟨y1,_⟩ | ⟨y1,_⟩
    · rw [z2c,if_pos rfl] at y1;cases y1;rcases y2.bref_inv hr hs2 with ⟨_,_,_,rfl⟩ | ⟨_,_,_,_,_,q1,_⟩
      · exact .inr (.inl ⟨rfl,RT.nil.crows _,.inr ⟨rfl,rfl⟩⟩)
      · rw [h1] at q1;cases q1
    · rw [z2c,if_pos rfl] at y1;cases y1
    · rw [z2c,if_pos rfl] at y1;cases y1)
   refine ⟨E,zht ?_ ht⟩;refine (hr.setDead s2).setO fun e' he'=>?_
   rw [g1] at he';cases he';rcases g2 with ⟨rfl,rfl⟩ | rfl
   · exact ⟨k1,by simpa using k2,k3,k4,rows,g4,by simpa using g5,hrows⟩
   · exact ⟨k1,by simpa using k2,k3,k4,rows,g4,by simpa using g5,hrows⟩
 | al p2 off2 cur2 len2 =>
   obtain ⟨q1,q2,rows2,q3,q4⟩:=h3;have hpp:p2≠p:=by
    rintro rfl
    exact hne (hr.inj s2 s _ _ p2 h1 g1 rfl hpa)
   obtain ⟨w1,w2⟩:=hr.upd (HA':=HA) (e':=.gone) (o':=.dead) h1 (.gone (by intros;simp)) (fun q hq=>hq.elim) (Nat.le_refl _) (fun _ _ _ _ _ _=>rfl) (fun _=>trivial);have g1':(E.set s2 .gone)[s]?=some e:=by rw [List.getElem?_set_ne hne];exact g1
   have hfree:∀ (s3:Nat) (e3:EI),(E.set s2 .gone)[s3]?=some e3->¬ e3.at p2:=by
    intro s3 e3 h3 h4;rw [List.getElem?_set] at h3;split at h3
    · rename_i hx;subst hx;split at h3
      · cases h3;exact h4
      · cases h3
    · rename_i hx;exact hx (hr.inj s2 s3 _ _ p2 h1 h3 rfl h4)
   have hqf:∀ j u,qf j≠some (p2,u):=by
    intro j u hj;rcases g2 with ⟨rfl,rfl⟩ | rfl
    · cases hj
    · exact hfree s _ g1' (.inr ⟨j,u,hj⟩)
   have hrows:=stay (qf:=qf) (qf':=fun k=>if k=i then some (p2,cur2) else qf k) g6 (fun k q u hk h=>by rw [if_neg hk];exact h) (fun x row w1 w2 hn=>by
    obtain ⟨c0,rest,e,z1,z2⟩:=hn;refine ⟨c0,rest,e,z1,.inr (.inr ⟨rfl,p2,cur2,rows2,by simp,?_,q3,q4⟩)⟩;rcases z2 with ⟨s3,y1,y2⟩ | ⟨y1,_⟩ | ⟨y1,_⟩
    · rw [z2c,if_pos rfl] at y1;cases y1;rcases y2.bref_inv hr hs2 with ⟨q1,_⟩ | ⟨_,_,_,_,_,x1,x2,_,_,_,_,rfl⟩
      · rw [h1] at q1;cases q1
      · rw [h1] at x1;cases x1;rfl
    · rw [z2c,if_pos rfl] at y1;cases y1
    · rw [z2c,if_pos rfl] at y1;cases y1)
   have hor:∀ E',ELe E E'->OR E' HA (.ow p off cur len fun k=>if k=i then some (p2,cur2) else qf k) (.nst pv v true (xs.set i { xs.getD i TC.block.zero with pages:=pg }) []):=by
    intro E' hle;refine ⟨k1,by simpa using k2,fun j u hj=>?_,fun j k q u u' hj hk=>?_,rows,g4,by simpa using g5,fun k x row y1 y2=>(hrows k x row y1 y2).mono hle (fun _ _ _ _=>rfl)⟩
    · simp only at hj;split at hj
      · cases hj;exact hpp rfl
      · exact k3 j u hj
    · simp only at hj hk;split at hj
      · rename_i ej;cases hj;split at hk
        · rename_i ek;rw [ej,ek]
        · exact absurd hk (hqf k u')
      · split at hk
        · cases hk;exact absurd hj (hqf j u)
        · exact k4 j k q u u' hj hk
   have hei:EILe e (.ow p off cur len fun k=>if k=i then some (p2,cur2) else qf k):=by
    rcases g2 with ⟨rfl,rfl⟩ | rfl
    · exact .ao (Nat.le_refl _) fun _ _=>rfl
    · exact .ow (Nat.le_refl _) fun _ _=>rfl
   have hatp:∀ q,(EI.ow p off cur len fun k=>if k=i then some (p2,cur2) else qf k).at q->q=p2 \/ e.at q:=by
    intro q hq;rcases hq with rfl | ⟨j,u,hj⟩
    · exact .inr hpa
    · simp only at hj;split at hj
      · cases hj;exact .inl rfl
      · right;rcases g2 with ⟨rfl,rfl⟩ | rfl
        · cases hj
        · exact .inr ⟨j,u,hj⟩
   obtain ⟨w3,w4⟩:=w1.upd (HA':=HA) (e':=.ow p off cur len fun k=>if k=i then some (p2,cur2) else qf k) (o':=.nst pv v true (xs.set i { xs.getD i TC.block.zero with pages:=pg }) []) g1' hei
    (fun q hq=>by
      rcases hatp q hq with rfl | h
      · exact ⟨hr.lt s2 _ _ h1 rfl,.inr hfree⟩
      · exact ⟨hr.lt s _ _ g1 h,.inl h⟩) (Nat.le_refl _) (fun _ _ _ _ _ _=>rfl) (fun hle=>hor _ (w2.trans hle))
   refine ⟨_,w2.trans w4,w3,(ht.mono w2).mono w4,fun s3 e3 q y1 y2=>?_,fun s3 y1=>?_⟩
   · rw [List.getElem?_set] at y1;split at y1
     · split at y1
       · cases y1;rcases hatp q y2 with rfl | h
         · exact ⟨s2,_,h1,rfl⟩
         · exact ⟨s,_,g1,h⟩
       · cases y1
     · rw [List.getElem?_set] at y1;split at y1
       · split at y1
         · cases y1;exact y2.elim
         · cases y1
       · exact ⟨s3,e3,y1,y2⟩
   · rw [List.getElem?_set_ne,List.getElem?_set_ne]
     · exact y1
     · rintro rfl;rw [h1] at y1;cases y1
     · rintro rfl;rw [g1] at y1;cases y1;exact hpa
theorem zwi {E:Emb} {HA:List AO} {p:Gho} {st st1:SSt} {t':List AV} (hr:HR E st.H HA) (ht:RL E st.t t') (h:ghoOne p st=some st1):(∃ E1,HX E st.H HA t' E1 st1) /\ st1.m=st.m /\ st1.g=st.g /\ st.H.length<=st1.H.length:=by
 have same:(∃ E1,HX E st.H HA t' E1 st) /\ st.m=st.m /\ st.g=st.g /\ st.H.length<=st.H.length :=
  ⟨⟨E,zht hr ht⟩,rfl,rfl,Nat.le_refl _⟩
 cases p with
 | bk s to=>cases h;exact same
 | nest s pv =>
   simp only [ghoOne] at h;split at h
   · rename_i c v xs hs;split at h
     · rename_i ys hc;obtain ⟨rfl,hh⟩:=z1i hc;cases hh;obtain ⟨e,h1,h2,h3⟩:=hr.get hs (by simp);split at h
       · split at h
         · cases h;refine ⟨⟨E,zht (hr.setO fun e' he'=>?_) ht⟩,rfl,rfl,by simp⟩;rw [h1] at he';cases he';exact z06e h3 fun _=>rfl
         · cases h
       · cases h;refine ⟨⟨E,zht (hr.setO fun e' he'=>?_) ht⟩,rfl,rfl,by simp⟩;rw [h1] at he';cases he';exact z06e h3 (by simp)
     · cases h
   · split at h
     · cases h;exact same
     · cases h
   · cases h
 | abs s =>
   simp only [ghoOne] at h;split at h
   · rename_i pv v xs ex hs;split at h
     · cases h;exact same
     · rename_i i s2;split at h
       · rename_i c v2 pg hs2;split at h
         · rename_i hv;subst hv;split at h
           · rename_i pg' hc;obtain ⟨rfl,hh⟩:=z1i hc;cases hh;cases h;exact ⟨z06f hr ht hs hs2,rfl,rfl,by simp⟩
           · cases h
         · cases h
       · cases h
     · cases h
   · cases h
theorem zep {HA:List AO} {t':List AV}:∀ (l:List Gho) {E:Emb} {st st1:SSt},HR E st.H HA->RL E st.t t'->ghoAll l st=some st1->(∃ E1,HX E st.H HA t' E1 st1) /\ st1.m=st.m /\ st1.g=st.g /\ st.H.length<=st1.H.length
 | [],E,st,st1,hr,ht,h=>by
   cases h;exact ⟨⟨E,zht hr ht⟩,rfl,rfl,Nat.le_refl _⟩
 | p::l,E,st,st1,hr,ht,h=>by
   simp only [ghoAll] at h;split at h
   · rename_i st2 h2;obtain ⟨⟨E1,g1⟩,g2,g3,g4⟩:=zwi hr ht h2;obtain ⟨⟨E2,k1⟩,k2,k3,k4⟩:=zep l g1.hr g1.rt h;exact ⟨⟨E2,g1.trans k1⟩,k2.trans g2,k3.trans g3,Nat.le_trans g4 k4⟩
   · cases h
theorem z03v {E:Emb} {HA:List AO} {st st1:SSt} {t':List AV} {s k:Nat} {as:List Bool} (hr:HR E st.H HA) (ht:RL E st.t t') (h:focS s k st=some (as,st1)) (has:∀ b∈as,b=true):(∃ E1,HX E st.H HA t' E1 st1) /\ st1.m=st.m /\ st1.g.cx=st.g.cx /\ st1.g.wr=none:=by
 unfold focS at h;split at h
 · rename_i i hk;split at h
   · rename_i v xs hs;cases h;refine ⟨?_,rfl,rfl,rfl⟩;have hil:i<xs.length:=of_decide_eq_true (has _ (List.mem_singleton.2 rfl));have hx:=zH hil;have hgd:xs.getD i TC.block.zero=xs[i]:=by simp [zI,hx]
     rw [hgd];rcases hr.nst hs with ⟨_,rfl,_⟩ | ⟨e,p,off,cur,len,qf,g1,g2,⟨k1,k2,k3,k4,rows,g4,g5,g6⟩⟩
     · simp at hil
     have hsE:=(zG.1 g1).1;have hsl:s<st.H.length:=by rw [<- hr.len];exact hsE
     have hri:=zH (show i<rows.length by rw [g5];exact hil);have hrow:=g6 i _ _ hx hri;have hexn:∀ k n,k≠i->exAt [(i,n)] k=none:=fun k n hki=>by rw [z2c,if_neg fun e=>hki e.symm]
     obtain ⟨c0,rest,hr0,hr1,hr2⟩:=hrow;rcases hr2 with ⟨s2,z1,_⟩ | ⟨_,z2,z3⟩ | ⟨_,q,u,prows,z2,z3,z4,z5⟩
     · cases z1
     · -- no memory
       rcases z3 with z3 | ⟨z3,z4⟩
       · cases z3
       have hun:(E++[EI.un 0])[st.H.length]?=some (.un 0):=by rw [<- hr.len];simp
       refine ⟨E++[.un 0],zt5 hr ?_ (by exact ht.mono (.push E _))⟩;simp only;rw [zgk hsl,z3];refine (hr.pushUn .page).setO fun e' he'=>?_
       rw [List.getElem?_append_left hsE,g1] at he';cases he';have hrows:∀ (k:Nat) x row,xs[k]?=some x->rows[k]?=some row->zgw (E++[.un 0]) HA qf true true [(i,st.H.length)] k x row:=by
        intro k x row w1 w2;by_cases hki:k=i
        · subst hki;rw [hri] at w2;cases w2;rw [hx] at w1;cases w1;refine ⟨c0,rest,hr0,hr1.mono (.push E _),.inl ⟨_,by rw [z2c,if_pos rfl],?_⟩⟩;rw [z4];exact .bun hun (Nat.le_refl _)
        · exact (zt6 (g6 k x row w1 w2) rfl (hexn k _ hki) (fun _ _ h=>h)).mono (.push E _) (fun _ _ _ _=>rfl)
       rcases g2 with ⟨rfl,rfl⟩ | rfl
       · exact ⟨k1,k2,k3,k4,rows,g4,g5,hrows⟩
       · exact ⟨k1,k2,k3,k4,rows,g4,g5,hrows⟩
     · -- it has
       rcases g2 with ⟨rfl,rfl⟩ | rfl
       · cases z2
       have hqp:q≠p:=by rintro rfl;exact k3 i u z2
       obtain ⟨w1,w2⟩:=hr.upd (HA':=HA) (e':=.ow p off cur len fun k=>if k=i then none else qf k) (o':=.dead) g1 (.ow (Nat.le_refl _) fun _ _=>rfl)
        (fun q2 hq=>by
          have:(EI.ow p off cur len qf).at q2:=by
           rcases hq with rfl | ⟨j,u2,hj⟩
           · exact .inl rfl
           · simp only at hj;split at hj
             · cases hj
             · exact .inr ⟨j,u2,hj⟩
          exact ⟨hr.lt s _ _ g1 this,.inl this⟩) (Nat.le_refl _) (fun _ _ _ _ _ _=>rfl) (fun _=>trivial)
       generalize hE1:E.set s (.ow p off cur len fun k=>if k=i then none else qf k)=E1 at w1 w2;have hE1s:E1[s]?=some (.ow p off cur len fun k=>if k=i then none else qf k):=by rw [<- hE1,List.getElem?_set,if_pos rfl,if_pos hsE]
       have hE1o:∀ s3,s3≠s->E1[s3]?=E[s3]?:=fun s3 h=>by rw [<- hE1,List.getElem?_set_ne fun e=>h e.symm]
       have hfree:∀ (s3:Nat) (e3:EI),E1[s3]?=some e3->¬ e3.at q:=by
        intro s3 e3 h3 h4;by_cases h5:s3=s
        · subst h5;rw [hE1s] at h3;cases h3;rcases h4 with rfl | ⟨j,u2,hj⟩
          · exact hqp rfl
          · simp only at hj;split at hj
            · cases hj
            · rename_i hji;exact hji (k4 j i q u2 u hj z2)
        · rw [hE1o s3 h5] at h3;exact h5 (hr.inj s3 s _ _ q h3 g1 h4 (.inr ⟨i,u,z2⟩))
       obtain ⟨w3,w4⟩:=w1.push (HA':=HA) (e':=.al q u u fun _=>xs[i].pages.length) (o':=.blk .page 0 true xs[i].pages)
        (fun q2 hq=>by cases hq;exact ⟨hr.lt s _ _ g1 (.inr ⟨i,u,z2⟩),hfree⟩) (Nat.le_refl _) (fun _ _ _ _ _=>rfl)
        (fun hle=>⟨by simp,rfl,prows,z4,z5.mono (w2.trans hle)⟩)
       have hl1:E1.length=st.H.length:=by rw [w1.len];simp
       have hn:(E1++[EI.al q u u fun _=>xs[i].pages.length])[st.H.length]?=some (.al q u u fun _=>xs[i].pages.length):=by rw [<- hl1];simp
       have hrows:∀ (k:Nat) x row,xs[k]?=some x->rows[k]?=some row->zgw (E1++[.al q u u fun _=>xs[i].pages.length]) HA (fun k=>if k=i then none else qf k) true true [(i,st.H.length)] k x row:=by
        intro k x row y1 y2;by_cases hki:k=i
        · subst hki;rw [hri] at y2;cases y2;rw [hx] at y1;cases y1;refine ⟨c0,rest,hr0,(hr1.mono w2).mono w4,.inl ⟨_,by rw [z2c,if_pos rfl],?_⟩⟩;rw [z3];exact .bref hn (by simp) (Nat.le_refl _)
        · exact ((zt6 (g6 k x row y1 y2) rfl (hexn k _ hki) (fun _ _ h=>by rw [if_neg hki];exact h)).mono w2 (fun _ _ _ _=>rfl)).mono w4 (fun _ _ _ _=>rfl)
       refine ⟨E1++[.al q u u fun _=>xs[i].pages.length],w2.trans w4,?_,(ht.mono w2).mono w4,fun s3 e3 q2 y1 y2=>?_,fun s3 y1=>?_⟩
       · simp only;have:=w3.setO (s:=s) (o:=.nst true v true xs [(i,st.H.length)]) fun e' he'=>by
          rw [List.getElem?_append_left (by rw [hl1];exact hsl),hE1s] at he';cases he';exact ⟨k1,k2,(fun j u2 hj=>by
           simp only at hj;split at hj
           · cases hj
           · exact k3 j u2 hj),(fun j k q2 u1 u2 hj hk=>by
           simp only at hj hk;split at hj
           · cases hj
           · split at hk
             · cases hk
             · exact k4 j k q2 u1 u2 hj hk),rows,g4,g5,hrows⟩
         rw [<- zgk (by simpa using hsl),List.set_set] at this;exact this
       · rw [List.getElem?_append] at y1;split at y1
         · by_cases h5:s3=s
           · subst h5;rw [hE1s] at y1;cases y1;refine ⟨s3,_,g1,?_⟩;rcases y2 with rfl | ⟨j,u2,hj⟩
             · exact .inl rfl
             · simp only at hj;split at hj
               · cases hj
               · exact .inr ⟨j,u2,hj⟩
           · rw [hE1o s3 h5] at y1;exact ⟨s3,e3,y1,y2⟩
         · rename_i hnl;have:=(zG.1 y1).1;simp only [List.length_singleton] at this;have h0:s3 - E1.length=0:=by omega
           rw [h0] at y1;simp at y1;subst y1;cases y2;exact ⟨s,_,g1,.inr ⟨i,u,z2⟩⟩
       · have h5:s3≠s:=by rintro rfl;rw [g1] at y1;cases y1
         have:=(zG.1 y1).1;rw [List.getElem?_append_left (by rw [hl1,<- hr.len];exact this),hE1o s3 h5];exact y1
   · cases h
 · cases h
def nrf:SV->Bool
 | .bool _ | .int _ _ | .str _ | .junk | .nilPtr | .nilFunc | .nilIface | .nilMap | .lst _ _ _=>true
 | _=>false
theorem z0a2:∀ (c:TC) (x:c.den),∀ a∈c.up x,nrf a=true:=by
 intro c x a ha;have:(c.up x).all nrf=true:=by cases c <;> rfl
 exact List.all_eq_true.1 this a ha
theorem R.anyE {E E':Emb} {x:SV} {a:AV} (r:R E x a):nrf x=true->R E' x a:=by
 induction r with
 | bool b=>intro _;exact .bool b
 | int k n=>intro _;exact .int k n
 | str l=>intro _;exact .str l
 | junk a=>intro _;exact .junk a
 | nilPtr=>intro _;exact .nilPtr
 | nilFunc=>intro _;exact .nilFunc
 | nilIface=>intro _;exact .nilIface
 | nilMap=>intro _;exact .nilMap
 | rows h hl _ ih=>intro _;exact .rows h hl fun i x row j a b w1 w2 w3 w4=>ih i x row j a b w1 w2 w3 w4 (z0a2 _ _ _ (List.mem_of_getElem? w3))
 | crows h hl _ ih=>intro _;exact .crows h hl fun i x row j a b w1 w2 w3 w4=>ih i x row j a b w1 w2 w3 w4 (z0a2 _ _ _ (List.mem_of_getElem? w3))
 | _=>intro h;cases h
theorem z0d {E:Emb} {to s:Nat} {e:EI} (h:s≠to) (hs:E[s]?=some e):(E.set to .no)[s]?=some e:=by
 rw [List.getElem?_set_ne fun e=>h e.symm];exact hs
theorem R.drop1 {E:Emb} {to:Nat} {x:SV} {a:AV} (r:R E x a) (h:clnS to x=true):R (E.set to .no) x a:=by
 have hne:∀ {s:Nat},(!Nat.beq s to)=true->s≠to:=fun {s} h e=>by subst e;rw [Nat.beq_refl] at h;cases h
 cases r with
 | bref hE hu hle=>exact .bref (z0d (hne h) hE) hu hle
 | bun hE hle=>exact .bun (z0d (hne h) hE) hle
 | bnil hE g=>exact .bnil (z0d (hne h) hE) g
 | ref hE hu hle hn=>exact .ref (z0d (hne h) hE) hu hle hn
 | run hE hle hn=>exact .run (z0d (hne h) hE) hle hn
 | rnil hE g hn=>exact .rnil (z0d (hne h) hE) g hn
 | ptr hE hu=>exact .ptr (z0d (hne h) hE) hu
 | obref hE hu hle=>exact .obref (z0d (hne h) hE) hu hle
 | obnil hE g=>exact .obnil (z0d (hne h) hE) g
 | oref hE hu hle hn=>exact .oref (z0d (hne h) hE) hu hle hn
 | ornil hE g hn=>exact .ornil (z0d (hne h) hE) g hn
 | optr hE hu=>exact .optr (z0d (hne h) hE) hu
 | gbref hE hl=>exact .gbref (z0d (hne h) hE) hl
 | gref hE=>exact .gref (z0d (hne h) hE)
 | grun hE hn=>exact .grun (z0d (hne h) hE) hn
 | gptr hE=>exact .gptr (z0d (hne h) hE)
 | yield hE=>exact .yield (z0d (hne h) hE)
 | agg=>cases h
 | tup=>cases h
 | fn=>cases h
 | iface=>cases h
 | iptr=>cases h
 | bool b=>exact .bool b
 | int k n=>exact .int k n
 | str l=>exact .str l
 | junk a=>exact .junk a
 | nilPtr=>exact .nilPtr
 | nilFunc=>exact .nilFunc
 | nilIface=>exact .nilIface
 | nilMap=>exact .nilMap
 | rows h1 hl hc=>exact (R.rows h1 hl hc).anyE rfl
 | crows h1 hl hc=>exact (R.crows h1 hl hc).anyE rfl
theorem R.drop {E:Emb} {to:Nat} {x:SV} {a:AV} (r:R E x a):R (E.set to .no) (jnS to x) a:=by
 have all:∀ {l:List SV} {l':List AV},l.all (clnS to)=true->(∀ (i:Nat) a b,l[i]?=some a->l'[i]?=some b->R E a b)->∀ (i:Nat) a b,l[i]?=some a->l'[i]?=some b->R (E.set to .no) a b:=fun h hc i a b w1 w2 =>
  (hc i a b w1 w2).drop1 (List.all_eq_true.1 h a (List.mem_of_getElem? w1))
 have leaf:∀ {y:SV},R E y a->R (E.set to .no) (cond (clnS to y) y .junk) a:=fun {y} r=>by
  cases hc:clnS to y with
  | true=>exact r.drop1 hc
  | false=>exact .junk _
 cases x with
 | agg l =>
   simp only [jnS];cases hc:l.all (clnS to) with
   | false=>exact .junk _
   | true=>cases r with | agg h g=>exact .agg h (all hc g)
 | tup l =>
   simp only [jnS];cases hc:l.all (clnS to) with
   | false=>exact .junk _
   | true=>cases r with | tup h g=>exact .tup h (all hc g)
 | iptr l j =>
   simp only [jnS];cases hc:l.all (clnS to) with
   | false=>exact .junk _
   | true=>cases r with | iptr h g=>exact .iptr h (all hc g)
 | fn f l m =>
   simp only [jnS];cases hc:l.all (clnS to)&&m.all (clnS to) with
   | false=>exact .junk _
   | true =>
     rw [Bool.and_eq_true] at hc;cases r with | fn h g h' g'=>exact .fn h (all hc.1 g) h' (all hc.2 g')
 | _=>exact leaf r
structure HXg (hs:List Sht) (E:Emb) (HA:List AO) (t':List AV) (E':Emb) (st:SSt):Prop where
 le:∀ (s:Nat) (e:EI),(hs.getD s .dead).gr=false->E[s]?=some e->∃ e',E'[s]?=some e' /\ EILe e e'
 len:E.length<=E'.length
 hr:HR E' st.H HA
 rt:RL E' st.t t'
 pos:∀ (s:Nat) (e:EI) (p:Nat),E'[s]?=some e->e.at p->∃ (s0:Nat) (e0:EI),E[s0]?=some e0 /\ e0.at p
 nn:∀ s:Nat,(hs.getD s .dead).gr=false->E[s]?=some .no->E'[s]?=some .no
theorem HX.toG {E:Emb} {SH:List SO} {HA:List AO} {t':List AV} {E':Emb} {st:SSt} (h:HX E SH HA t' E' st) (hs:List Sht):HXg hs E HA t' E' st :=
 ⟨fun s e _ g=>h.le s e g,h.le.len,h.hr,h.rt,h.pos,fun s _ g=>h.nn s g⟩
theorem HXg.trans {hs:List Sht} {E E1 E2:Emb} {HA:List AO} {t':List AV} {st1 st2:SSt} (h:HXg hs E HA t' E1 st1) (g:HXg hs E1 HA t' E2 st2):HXg hs E HA t' E2 st2:=by
 refine ⟨fun s e w1 w2=>?_,Nat.le_trans h.len g.len,g.hr,g.rt,fun s e p w1 w2=>?_,fun s w1 w2=>g.nn s w1 (h.nn s w1 w2)⟩
 · obtain ⟨e1,k1,k2⟩:=h.le s e w1 w2;obtain ⟨e2,k3,k4⟩:=g.le s e1 w1 k1;exact ⟨e2,k3,k2.trans k4⟩
 · obtain ⟨s1,e1,k1,k2⟩:=g.pos s e p w1 w2;exact h.pos s1 e1 p k1 k2
theorem z03w {E:Emb} {HA:List AO} {st:SSt} {t':List AV} {to:Nat} (hr:HR E st.H HA) (ht:RL E st.t t') (hd:st.H.getD to .dead=.dead) (hf:bkFit to st.H=true):HR (E.set to .no) (st.H.map (jnO to)) HA /\ RL (E.set to .no) (st.t.map (jnS to)) t':=by
 have hL:∀ {l:List SV} {l':List AV},RL E l l'->RL (E.set to .no) (l.map (jnS to)) l':=fun h=>h.mapF fun x a r=>r.drop
 have hget:∀ (i:Nat) (x:EI),(E.set to .no)[i]?=some x->(i=to /\ x=.no) \/ (i≠to /\ E[i]?=some x):=by
  intro i x hx;rw [List.getElem?_set] at hx;split at hx
  · rename_i h;subst h;split at hx
    · cases hx;exact .inl ⟨rfl,rfl⟩
    · cases hx
  · rename_i h;exact .inr ⟨fun e=>h e.symm,hx⟩
 refine ⟨⟨by simp [hr.len],fun i x p w1 w2=>?_,fun i j x y p w1 w2 w3 w4=>?_,fun i o x w1 w2=>?_⟩,hL ht⟩
 · rcases hget i x w1 with ⟨_,rfl⟩ | ⟨_,g⟩
   · cases w2
   · exact hr.lt i x p g w2
 · rcases hget i x w1 with ⟨_,rfl⟩ | ⟨_,g⟩
   · cases w3
   · rcases hget j y w2 with ⟨_,rfl⟩ | ⟨_,g'⟩
     · cases w4
     · exact hr.inj i j x y p g g' w3 w4
 · rw [List.getElem?_map] at w1;cases ho:st.H[i]? with
   | none=>rw [ho] at w1;cases w1
   | some o0 =>
     rw [ho] at w1;cases w1;have hfo:=List.all_eq_true.1 hf o0 (List.mem_of_getElem? ho);rcases hget i x w2 with ⟨rfl,rfl⟩ | ⟨hi,g⟩
     · rw [zI,ho] at hd;simp at hd;subst hd;trivial
     · have hor:=hr.obj i o0 x ho g;cases o0 with
       | dead=>cases x <;> trivial
       | blk c v live xs =>
         cases x with
         | al p off cur len =>
           obtain ⟨q1,q2,rows,q3,q4⟩:=hor;exact ⟨q1,q2,rows,q3,R.anyE q4 rfl⟩
         | _=>exact hor
       | dfr op=>cases x <;> exact hor
       | nst pv v live xs ex =>
         have hex:ex=[]:=by
          cases ex with
          | nil=>rfl
          | cons a b=>cases hfo
         subst hex;have hrow:∀ {qf:Nat->Option (Nat×Nat)} {i:Nat} {y:Block} {row:List AV},zgw E HA qf pv live [] i y row->zgw (E.set to .no) HA qf pv live [] i y row:=by
          rintro qf i y row ⟨c0,rest,e,h1,h2⟩
          refine ⟨c0,rest,e,⟨h1.1,fun k a b w1 w2=>(h1.2 k a b w1 w2).anyE ?_⟩,?_⟩
          · match k,w1 with
            | 0,w1=>cases w1;rfl
            | 1,w1=>cases w1;rfl
            | 2,w1=>cases w1;rfl
            | k+3,w1=>simp at w1
          · rcases h2 with ⟨s2,g1,g2⟩ | ⟨g1,g2,gv⟩ | ⟨g1,q,u,prows,g2,g3,g4,g5⟩
            · cases g1
            · exact .inr (.inl ⟨g1,g2.anyE rfl,gv⟩)
            · exact .inr (.inr ⟨g1,q,u,prows,g2,g3,g4,R.anyE g5 rfl⟩)
         cases x with
         | ow p off cur len qf =>
           obtain ⟨h1,h2,h3,h4,rows,h5,h6,h7⟩:=hor;exact ⟨h1,h2,h3,h4,rows,h5,h6,fun i x row q1 q2=>hrow (h7 i x row q1 q2)⟩
         | al p off cur len =>
           obtain ⟨h1,h2,h3,h4,rows,h5,h6,h7⟩:=hor;exact ⟨h1,h2,h3,h4,rows,h5,h6,fun i x row q1 q2=>hrow (h7 i x row q1 q2)⟩
         | _=>exact hor
       | raw k lv rows =>
         cases x with
         | al p off cur len =>
           obtain ⟨q1,q2,q3,rows',q4,q5,q6⟩:=hor;refine ⟨q1,q2,by simpa using q3,rows',q4,by simpa using q5,fun i2 r r' y1 y2=>?_⟩;rw [List.getElem?_map] at y1;cases hrr:rows[i2]? with
           | none=>rw [hrr] at y1;cases y1
           | some r0 =>
             rw [hrr] at y1;cases y1;exact ⟨hL (q6 i2 r0 r' hrr y2).1,(q6 i2 r0 r' hrr y2).2⟩
         | _=>exact hor
       | loop st0 pend tm ps as bd d =>
         cases x with
         | ob p ps1 as1 bd1 d1 =>
           obtain ⟨q1,q2,q3,q4,tm',dA,q5,q6,q,qs,qa,qb,q7⟩:=hor;have hne:d≠to:=fun e=>by subst e;simp at hfo
           exact ⟨q1,q2,q3,q4,tm',dA,q5,hL q6,q,qs,qa,qb,z0d (by rw [q4];exact hne) q7⟩
         | _=>exact hor
theorem z03x {E:Emb} {HA:List AO} {t':List AV} {st st1:SSt} {s to:Nat} (hr:HR E st.H HA) (ht:RL E st.t t') (hto:E[to]?=some .no) (hd:st.H.getD to .dead=.dead) (h:movB s to st=some st1) :
 ∃ E1,ELe E E1 /\ HR E1 st1.H HA /\ RL E1 st1.t t' /\ (∀ (i:Nat) (e:EI) (p:Nat),E1[i]?=some e->e.at p->∃ (s0:Nat) (e0:EI),E[s0]?=some e0 /\ e0.at p) /\ (∀ i,i≠to->E[i]?=some .no->E1[i]?=some .no) /\ st1.m=st.m:=by
 unfold movB at h;split at h
 · rename_i c v xs hs;cases h;obtain ⟨e,h1,h2,h3⟩:=hr.get hs (by simp);have hsl:=(zG.1 h2).1;have hsE:=(zG.1 h1).1;have htE:=(zG.1 hto).1;have htl:to<st.H.length:=by rw [<- hr.len];exact htE
   have hne:s≠to:=by rintro rfl;rw [hd] at hs;cases hs
   have hnew:∃ e2:EI,(∀ q,e2.at q↔e.at q) /\ (∀ E',OR E HA e (.blk c v true xs)->ELe E E'->OR E' HA e2 (.blk c 0 true xs)) /\ (∀ p ps as bd d,e≠.ob p ps as bd d) /\
    (∀ E':Emb,E'[to]?=some e2->(∃ p off cur len,E[s]?=some (.al p off cur len) /\ (cur:Int)=v+off /\ E'[to]?=some (.al p cur cur len)) \/ (E[s]?=some (.un v) /\ E'[to]?=some (.un 0))):=by
    cases e with
    | no=>exact h3.elim
    | gone=>exact h3.elim
    | ob=>exact h3.elim
    | ow=>exact h3.elim
    | un cur =>
      obtain ⟨rfl,rfl,_⟩:=h3;exact ⟨.un 0,fun _=>Iff.rfl,fun _ _ _=>⟨rfl,rfl,rfl⟩,by intros;simp,fun E' hE'=>.inr ⟨h1,hE'⟩⟩
    | al p off cur len =>
      obtain ⟨g1,g2,rows,g3,g4⟩:=h3;exact ⟨.al p cur cur len,fun _=>Iff.rfl,fun _ _ hle=>⟨by simp,g2,rows,g3,g4.mono hle⟩,by intros;simp,fun E' hE'=>.inl ⟨p,off,cur,len,h1,g1,hE'⟩⟩
   obtain ⟨e2,p1,p2,p3,p4⟩:=hnew;have hEt:((E.set s .gone).set to e2)[to]?=some e2:=by rw [List.getElem?_set,if_pos rfl,if_pos (by simpa using htE)]
   have hEs:((E.set s .gone).set to e2)[s]?=some .gone:=by rw [List.getElem?_set_ne fun e=>hne e.symm,List.getElem?_set,if_pos rfl,if_pos hsE]
   have hEo:∀ i,i≠s->i≠to->((E.set s .gone).set to e2)[i]?=E[i]?:=fun i q1 q2=>by rw [List.getElem?_set_ne fun e=>q2 e.symm,List.getElem?_set_ne fun e=>q1 e.symm]
   have hle:ELe E ((E.set s .gone).set to e2):=by
    intro i x hx;by_cases q1:i=s
    · subst q1;rw [h1] at hx;cases hx;exact ⟨.gone,hEs,.gone p3⟩
    · by_cases q2:i=to
      · subst q2;rw [hto] at hx;cases hx;exact ⟨e2,hEt,.no _⟩
      · exact ⟨x,by rw [hEo i q1 q2];exact hx,.refl x⟩
   have look:∀ (i:Nat) (x:EI),((E.set s .gone).set to e2)[i]?=some x->(i=s /\ x=.gone) \/ (i≠s /\ i≠to /\ E[i]?=some x) \/ (i=to /\ x=e2):=by
    intro i x hx;by_cases q1:i=s
    · subst q1;rw [hEs] at hx;cases hx;exact .inl ⟨rfl,rfl⟩
    · by_cases q2:i=to
      · subst q2;rw [hEt] at hx;cases hx;exact .inr (.inr ⟨rfl,rfl⟩)
      · rw [hEo i q1 q2] at hx;exact .inr (.inl ⟨q1,q2,hx⟩)
   have hren:∀ x a,R E x a->R ((E.set s .gone).set to e2) (ren s v to x) a:=fun x a r=>zwh hle (p4 _ hEt) r
   have hrenL:∀ {x:List SV} {a:List AV},RL E x a->RL ((E.set s .gone).set to e2) (x.map (ren s v to)) a:=fun r=>r.mapF hren
   refine ⟨_,hle,⟨by simp [hr.len],fun i x p w1 w2=>?_,fun i j x y p w1 w2 w3 w4=>?_,fun i o x w1 w2=>?_⟩,hrenL ht,fun i x p w1 w2=>?_,fun i hi hx=>?_,rfl⟩
   · rcases look i x w1 with ⟨_,rfl⟩ | ⟨_,_,g⟩ | ⟨_,rfl⟩
     · cases w2
     · exact hr.lt i x p g w2
     · rw [p1] at w2;exact hr.lt s e p h1 w2
   · rcases look i x w1 with ⟨_,rfl⟩ | ⟨g0,gl,g⟩ | ⟨gl,rfl⟩
     · cases w3
     · rcases look j y w2 with ⟨_,rfl⟩ | ⟨_,_,g'⟩ | ⟨_,rfl⟩
       · cases w4
       · exact hr.inj i j x y p g g' w3 w4
       · rw [p1] at w4;exact absurd (hr.inj i s x e p g h1 w3 w4) g0
     · rcases look j y w2 with ⟨_,rfl⟩ | ⟨g0,_,g'⟩ | ⟨gl',rfl⟩
       · cases w4
       · rw [p1] at w3;exact absurd (hr.inj j s y e p g' h1 w4 w3) g0
       · rw [gl,gl']
   · rcases look i x w2 with ⟨rfl,rfl⟩ | ⟨g0,gl,g⟩ | ⟨rfl,rfl⟩
     · rw [List.getElem?_set_ne fun e=>hne e.symm,List.getElem?_set,if_pos rfl] at w1;first
       | (cases w1;trivial)
       | (split at w1 <;> cases w1;trivial)
     · rw [List.getElem?_set_ne fun e=>gl e.symm,List.getElem?_set_ne fun e=>g0 e.symm,List.getElem?_map] at w1;cases ho:st.H[i]? with
       | none=>rw [ho] at w1;cases w1
       | some o0 =>
         rw [ho] at w1;cases w1;have hor:=hr.obj i o0 x ho g;cases o0 with
         | dead=>cases x <;> trivial
         | blk=>exact hor.mono hle fun _ _=>rfl
         | dfr=>exact hor.mono hle fun _ _=>rfl
         | nst=>exact hor.mono hle fun _ _=>rfl
         | raw k lv rows =>
           cases x with
           | al p off cur len =>
             obtain ⟨q1,q2,q3,rows',q4,q5,q6⟩:=hor;refine ⟨q1,q2,by simpa using q3,rows',q4,by simpa using q5,fun i2 r r' y1 y2=>?_⟩;rw [List.getElem?_map] at y1;cases hrr:rows[i2]? with
             | none=>rw [hrr] at y1;cases y1
             | some r0 =>
               rw [hrr] at y1;cases y1;exact ⟨hrenL (q6 i2 r0 r' hrr y2).1,(q6 i2 r0 r' hrr y2).2⟩
           | _=>exact hor.elim
         | loop st0 pend tm ps as bd d =>
           cases x with
           | ob p ps1 as1 bd1 d1 =>
             obtain ⟨q1,q2,q3,q4,tm',dA,q5,q6,q,qs,qa,qb,q7⟩:=hor;exact ⟨q1,q2,q3,q4,tm',dA,q5,hrenL q6,q,qs,qa,qb,hle.ob q7⟩
           | _=>exact hor.elim
     · rw [List.getElem?_set,if_pos rfl,if_pos (by simpa using htl)] at w1;cases w1;exact p2 _ h3 hle
   · rcases look i x w1 with ⟨_,rfl⟩ | ⟨_,_,g⟩ | ⟨_,rfl⟩
     · cases w2
     · exact ⟨i,x,g,w2⟩
     · rw [p1] at w2;exact ⟨s,e,h1,w2⟩
   · have q1:i≠s:=by
      rintro rfl
      rw [h1] at hx;cases hx;exact h3
     rw [hEo i q1 hi];exact hx
 · cases h
theorem zzq {hs:List Sht} {E:Emb} {HA:List AO} {p:Gho} {st st1:SSt} {t':List AV} (hr:HR E st.H HA) (ht:RL E st.t t') (h:bkOne hs p st=some st1):(∃ E1,HXg hs E HA t' E1 st1) /\ st1.m=st.m:=by
 have same:(∃ E1,HXg hs E HA t' E1 st) /\ st.m=st.m:=⟨⟨E,(zht (st:=st) hr ht).toG hs⟩,rfl⟩;cases p with
 | nest s pv=>cases h;exact same
 | abs s=>cases h;exact same
 | bk s to =>
   simp only [bkOne] at h;cases hg:(hs.getD to .dead).gr with
   | false=>rw [hg] at h;cases h
   | true =>
     rw [hg] at h;simp only [zC] at h;split at h
     · cases h;exact same
     · rename_i hd;cases hc:Nat.blt to st.H.length&&bkFit to st.H with
       | false=>rw [hc] at h;cases h
       | true =>
         rw [hc] at h;simp only [zC] at h;rw [Bool.and_eq_true] at hc;have htl:to<st.H.length:=by have:=hc.1;rw [Nat.blt_eq] at this;exact this
         obtain ⟨g1,g2⟩:=z03w hr ht hd hc.2;have htE:to<E.length:=by rw [hr.len];exact htl
         have hto:(E.set to EI.no)[to]?=some .no:=by rw [List.getElem?_set,if_pos rfl,if_pos htE]
         have hd2:(st.H.map (jnO to)).getD to .dead=.dead:=by
          rw [zI,List.getElem?_map];rw [zI] at hd;cases ho:st.H[to]? with
          | none=>rfl
          | some o=>rw [ho] at hd;simp at hd;subst hd;rfl
         obtain ⟨E1,k1,k2,k3,k4,k5,k6⟩:=z03x (st:=⟨st.t.map (jnS to),st.H.map (jnO to),st.m,st.g⟩) g1 g2 hto hd2 h;refine ⟨⟨E1,fun i e w1 w2=>?_,?_,k2,k3,fun i e p w1 w2=>?_,fun i w1 w2=>?_⟩,k6⟩
         · have hi:i≠to:=by rintro rfl;rw [hg] at w1;cases w1
           exact k1 i e (z0d hi w2)
         · have:=k1.len;simpa using this
         · obtain ⟨s0,e0,q1,q2⟩:=k4 i e p w1 w2;rw [List.getElem?_set] at q1;split at q1
           · first
             | (cases q1;cases q2)
             | (split at q1 <;> cases q1;cases q2)
           · exact ⟨s0,e0,q1,q2⟩
         · have hi:i≠to:=by rintro rfl;rw [hg] at w1;cases w1
           exact k5 i hi (z0d hi w2)
     · cases h
theorem zol {hs:List Sht} {HA:List AO} {t':List AV}:∀ (l:List Gho) {E:Emb} {st st1:SSt},HR E st.H HA->RL E st.t t'->bkAll hs l st=some st1->(∃ E1,HXg hs E HA t' E1 st1) /\ st1.m=st.m
 | [],E,st,st1,hr,ht,h=>by
   cases h;exact ⟨⟨E,(zht (st:=st) hr ht).toG hs⟩,rfl⟩
 | p::l,E,st,st1,hr,ht,h=>by
   simp only [bkAll] at h;split at h
   · rename_i st2 h2;obtain ⟨⟨E1,g1⟩,g2⟩:=zzq hr ht h2;obtain ⟨⟨E2,k1⟩,k2⟩:=zol l g1.hr g1.rt h;exact ⟨⟨E2,g1.trans k1⟩,k2.trans g2⟩
   · cases h
theorem z01q:∀ {hs:List Sht} {H:List SO},grOk hs H=true->∀ {j:Nat} {o:SO},(hs.getD j .dead).gr=true->H[j]?=some o->∀ s p tm ps as bd d,o≠.loop s p tm ps as bd d
 | [],H,_,j,o,h1,_=>by simp [Sht.gr] at h1
 | _::_,[],_,j,o,_,h2=>by simp at h2
 | h::hs,x::H,hg,j,o,h1,h2=>by
   simp only [grOk,Bool.and_eq_true] at hg;cases j with
   | zero =>
     simp at h1 h2;subst h2;rintro s p tm ps as bd d rfl
     rw [h1] at hg;exact absurd hg.1 (by simp)
   | succ j=>exact z01q hg.2 (by simpa using h1) (by simpa using h2)
theorem zrx {E:Emb} {HA:List AO} {T:Tmpl} {m:List Nat} {st:SSt} {t':List AV} (hr:HR E st.H HA) (ht:RL E st.t t') {x:z3z (z2n T.slots)} (h:unTG T m st=some x) :
 ∃ st1 E1,HXg T.hs E HA t' E1 st1 /\ st1.m=st.m /\ unT T m st1=some x:=by
 unfold unTG at h;split at h
 · rename_i st1 h1;obtain ⟨⟨E1,g1⟩,g2,_,_⟩:=zep T.ab hr ht h1;split at h
   · rename_i st2 h2;obtain ⟨⟨E2,k1⟩,k2⟩:=zol T.ab g1.hr g1.rt h2;exact ⟨st2,E2,(g1.toG T.hs).trans k1,k2.trans g2,h⟩
   · cases h
 · cases h
end Clk
namespace Clk
open Go
theorem zl2:∀ {L:Nat} {hs:List Sht},noGrS L hs=true->∀ s,s<L->∃ h,hs[s]?=some h /\ h.gr=false
 | 0,_,_,s,hs=>by omega
 | L+1,[],h,s,_=>by cases h
 | L+1,x::hs,h,s,hl=>by
   simp only [noGrS,Bool.and_eq_true,Bool.not_eq_true'] at h;cases s with
   | zero=>exact ⟨x,rfl,h.1⟩
   | succ s =>
     obtain ⟨y,h1,h2⟩:=zl2 h.2 s (by omega);exact ⟨y,by simpa using h1,h2⟩
theorem z01r {L:Nat} {hs:List Sht} (h:noGrS L hs=true) {E:Emb} {s:Nat} {e:EI} (hl:s<L) (hs':E[s]?=some e):(z5z hs E)[s]?=some e:=by
 obtain ⟨x,h1,h2⟩:=zl2 h s hl;rw [z6e h1 hs',zzp h2]
theorem Ext.reb {E0 E:Emb} {HA0 HA:List AO} {w w':Option (List Nat)} {SH:List SO} (h:Ext E0 HA0 w E SH HA w') {hs:List Sht} {L:Nat} (hg:noGrS L hs=true) (h0:E0.length<=L) {SH':List SO} (hr:HR (z5z hs E) SH' HA):Ext E0 HA0 w (z5z hs E) SH' HA none:=by
 refine ⟨fun s e hs'=>?_,hr,fun d e=>(by cases e),h.grow,h.kd,fun s e p h1 h2=>?_,fun s hs'=>?_⟩
 · obtain ⟨e',g1,g2⟩:=h.le s e hs';exact ⟨e',z01r hg (Nat.lt_of_lt_of_le (zG.1 hs').1 h0) g1,g2⟩
 · obtain ⟨x,e1,g1,g2,rfl⟩:=zjc h1;rw [zt3] at h2;exact h.nw s e1 p g2 h2
 · exact z01r hg (Nat.lt_of_lt_of_le (zG.1 hs').1 h0) (h.nn s hs')
theorem HX.ext {E:Emb} {SH:List SO} {HA:List AO} {t':List AV} {E':Emb} {st:SSt} (h:HX E SH HA t' E' st) (w:Option (List Nat)):Ext E HA w E' st.H HA none :=
 ⟨h.le,h.hr,fun d e=>(by cases e),Nat.le_refl _,fun _ h=>h,fun s e p h1 h2=>.inl (h.pos s e p h1 h2),h.nn⟩
theorem Ext.thenG {hs:List Sht} {E0 E E':Emb} {HA0 HA:List AO} {w w':Option (List Nat)} {SH:List SO} {t':List AV} {st:SSt} (h:Ext E0 HA0 w E SH HA w') (g:HXg hs E HA t' E' st) {L:Nat} (hg:noGrS L hs=true) (h0:E0.length<=L):Ext E0 HA0 w E' st.H HA none:=by
 have hgr:∀ {s:Nat} {e:EI},E0[s]?=some e->(hs.getD s .dead).gr=false:=fun {s e} hs'=>by
  obtain ⟨x,h1,h2⟩:=zl2 hg s (Nat.lt_of_lt_of_le (zG.1 hs').1 h0);rw [zI,h1];exact h2
 refine ⟨fun s e hs'=>?_,g.hr,fun d e=>(by cases e),h.grow,h.kd,fun s e p h1 h2=>?_,fun s hs'=>g.nn s (hgr hs') (h.nn s hs')⟩
 · obtain ⟨e1,k1,k2⟩:=h.le s e hs';obtain ⟨e2,k3,k4⟩:=g.le s e1 (hgr hs') k1;exact ⟨e2,k3,k2.trans k4⟩
 · obtain ⟨s1,e1,k1,k2⟩:=g.pos s e p h1 h2;exact h.nw s1 e1 p k1 k2
theorem z2a.leG {hs:List Sht} {E E':Emb} {HA:List AO} {t':List AV} {st:SSt} (g:HXg hs E HA t' E' st) {n:Nat} {os:List SO} (ho:grOk hs os=true) (hl:z2a E n 0 os):z2a E' n 0 os:=by
 intro j s p tm ps as bd d h1 h2;obtain ⟨g1,q,g2⟩:=hl j s p tm ps as bd d h1 h2;rw [Nat.zero_add] at g2 ⊢;have hgr:(hs.getD j .dead).gr=false:=by
  cases hc:(hs.getD j .dead).gr with
  | false=>rfl
  | true=>exact absurd rfl (z01q ho hc h1 s p tm ps as bd d)
 obtain ⟨e',k1,k2⟩:=g.le j _ hgr g2;cases k2 with
 | ob=>exact ⟨g1,q,k1⟩
 | gone h=>exact absurd rfl (h _ _ _ _ _)
theorem Ext.wr {E E':Emb} {SH:List SO} {HA HA':List AO} {w':Option (List Nat)} (h:Ext E HA none E' SH HA' w'):w'=none:=by
 cases w' with
 | none=>rfl
 | some d=>obtain ⟨_,e,_⟩:=h.un d rfl;cases e
theorem z08p {E:Emb} {SH:List SO} {HA:List AO} (hr:HR E SH HA) {n:Nat} (hd:dInS n SH=true):z2a E n 0 SH:=by
 intro j s p tm ps as bd d h1 _;have hj:=(zG.1 h1).1;rw [<- hr.len] at hj;have ho:=hr.obj j _ _ h1 (zH hj);have hdn:=List.all_eq_true.1 hd _ (List.mem_of_getElem? h1);refine ⟨of_decide_eq_true hdn,?_⟩;rw [Nat.zero_add,zH hj];cases he:E[j] with
 | no=>rw [he] at ho;exact ho.elim
 | gone=>rw [he] at ho;exact ho.elim
 | un=>rw [he] at ho;exact ho.elim
 | al=>rw [he] at ho;exact ho.elim
 | ow=>rw [he] at ho;exact ho.elim
 | ob q ps1 as1 bd1 d1 =>
   rw [he] at ho;obtain ⟨rfl,rfl,rfl,rfl,_⟩:=ho;exact ⟨q,rfl⟩
theorem z2a.le {E E':Emb} (h:ELe E E') {n:Nat} {os:List SO} (hl:z2a E n 0 os):z2a E' n 0 os:=by
 intro j s p tm ps as bd d h1 h2;obtain ⟨g1,q,g2⟩:=hl j s p tm ps as bd d h1 h2;exact ⟨g1,q,h.ob g2⟩
theorem z2a.reb {E:Emb} {hs:List Sht} {os:List SO} (hl:z2a E hs.length 0 os):z2a (z5z hs E) hs.length 0 os:=by
 intro j s p tm ps as bd d h1 h2;obtain ⟨g1,q,g2⟩:=hl j s p tm ps as bd d h1 h2;exact ⟨g1,q,by rw [z6e (zH h2) g2,zog]⟩
theorem Ext.pushOb {E:Emb} {SH:List SO} {HA:List AO} (hr:HR E SH HA) {ps:List Tmp} {as bd:Code} {d:Nat} {o:SO} {a:AO} (w:Option (List Nat)) (ho:ELe E (E++[.ob HA.length ps as bd d])->OR (E++[.ob HA.length ps as bd d]) (HA++[a]) (.ob HA.length ps as bd d) o) :
 Ext E HA w (E++[.ob HA.length ps as bd d]) (SH++[o]) (HA++[a]) w:=by
 have hold:∀ q,q<HA.length->(HA++[a]).getD q .none=HA.getD q .none:=by
  intro q hq;rw [zvt,if_neg (by omega)]
 obtain ⟨h1,h2⟩:=hr.push (HA':=HA++[a]) (e':=.ob HA.length ps as bd d) (o':=o) (fun p hp=>by
  cases hp;exact ⟨by simp,fun s2 e2 h3 h4=>by have:=hr.lt s2 e2 _ h3 h4;omega⟩) (by simp) (fun s2 e2 q h3 h4=>hold q (hr.lt s2 e2 q h3 h4)) ho
 have look:∀ (s:Nat) (e:EI),(E++[EI.ob HA.length ps as bd d])[s]?=some e->E[s]?=some e \/ e=.ob HA.length ps as bd d:=by
  intro s e hs;rw [List.getElem?_append] at hs;split at hs
  · exact .inl hs
  · have:=(zG.1 hs).1;simp only [List.length_singleton] at this;have h0:s - E.length=0:=by omega
    rw [h0] at hs;simp at hs;exact .inr hs.symm
 refine ⟨h2,h1,fun dd e=>⟨dd,e,fun _ h=>h,fun s e p h3 h4=>⟨e,by rw [List.getElem?_append_left (zG.1 h3).1];exact h3,h4⟩,fun s p es h3 ha _=>?_⟩,by simp,fun q hq=>?_,fun s e p h3 h4=>?_,fun s hs=>by rw [List.getElem?_append_left (zG.1 hs).1];exact hs⟩
 · rcases look s _ h3 with h | h
   · exact ⟨⟨es,h,ha⟩,hold p (hr.lt s _ p h (EI.pos_at (EI.alAt_pos ha)))⟩
   · subst h;exact ha.elim
 · by_cases hl:q<HA.length
   · rw [hold q hl];exact hq
   · exfalso;obtain ⟨k,v,l,r,e⟩:=hq;rw [zI,List.getElem?_eq_none (Nat.le_of_not_lt hl)] at e;cases e
 · rcases look s e h3 with h | h
   · exact .inl ⟨s,e,h,h4⟩
   · subst h;cases h4;exact .inr (Nat.le_refl _)
section
variable {P:Program} {Γ:Ctx} {inl:FuncId->Bool} {orc:FuncId->Option (List AV->Option AV)} {prim:FuncId->Option (Nat->List AV->List AO->Res)} {R:Type}
def SimOk (P:Program) (inl:FuncId->Bool) (orc:FuncId->Option (List AV->Option AV)) (prim:FuncId->Option (Nat->List AV->List AO->Res)) (ro':Option Nat) (c:Code) (st':St) (E0:Emb) (HA0:List AO) (w0:Option (List Nat)) (K:Ex->SSt->Option R) (r:R):Prop :=
 ∃ m ex st1 st1' E1,run P inl orc prim m ro' c st'=some (ex,st1') /\ Ext E0 HA0 w0 E1 st1.H st1'.H st1.g.wr /\ RL E1 st1.t st1'.t /\ SMR E1 st1.m st1'.m /\ K ex st1=some r
theorem zom {rs:SRun R} (hrs:SRunOk P inl orc prim rs) {c:Code} {T:Tmpl} {ro ro':Option Nat} {K:Ex->SSt->Option R} {r:R} {m:List Nat} {H0:List SO} {g:Gh} (hgw:g.wr=none) {L:Nat} (hg:noGrS L T.hs=true) (hgo:grOk T.hs H0=true) {E0:Emb} {HA0:List AO} {w0:Option (List Nat)} (hL:E0.length<=L) (hro:SRO E0 ro ro') {m':List Nat} (hm:SMR E0 m m') :
 ∀ (N:Nat) (x:z3z (z2n T.slots)) (E:Emb) (st':St),Ext E0 HA0 w0 E (absT T m H0 g x).H st'.H none->RL E (absT T m H0 g x).t st'.t->st'.m=m'->z2a E T.hs.length 0 H0->T.hs.length<=E.length ->
  (Nat.rec (motive:=fun _=>z3z (z2n T.slots)->Option R) (fun _=>none)
    (fun _ ih x=>rs ro c (absT T m H0 g x) fun ex st'=>match ex with
      | .normal=>match unTG T m st' with
        | some x'=>ih x'
        | none=>none
      | ex=>K ex st') N x:Option R)=some r ->
  SimOk P inl orc prim ro' (.loop c) st' E0 HA0 w0 K r
 | 0,x,E,st',_,_,_,_,_,h=>by cases h
 | N+1,x,E,st',hx,ht,hm',hlo,hlen,h=>by
   obtain ⟨n,ex,st1,st1',E1,h1,h2,h3,h4,h5⟩:=hrs ro ro' c _ st' E _ r (hro.mono hx.le) ht hx.hr (by rw [hm'];exact hm.mono hx.le) h;have h2':Ext E st'.H none E1 st1.H st1'.H st1.g.wr:=by
    have:(absT T m H0 g x).g.wr=none:=hgw;rw [this] at h2;exact h2
   have hw:=h2'.wr;rw [hw] at h2';have h6:=hx.trans h2';cases ex with
   | normal =>
     simp only at h5;split at h5
     · rename_i x' hu0;obtain ⟨st9,E9,hx9,hm9,hu⟩:=zrx h2'.hr h3 hu0;have hlen1:T.hs.length<=E9.length:=Nat.le_trans (Nat.le_trans hlen h2'.le.len) hx9.len;have hlo1:=(hlo.le h2'.le).leG hx9 hgo;obtain ⟨g1,g2,g3⟩:=zwf hx9.hr hx9.rt hu hlen1 hlo1 g;rw [hm9] at g3;have h6':=h6.thenG hx9 hg hL;have hm1:st1'.m=m':=by
        rw [g3] at h4;apply List.ext_getElem?
        intro i;cases hi:m[i]? with
        | none =>
          rw [List.getElem?_eq_none_iff] at hi;rw [List.getElem?_eq_none (by rw [<- h4.1];exact hi),List.getElem?_eq_none (by rw [<- hm.1];exact hi)]
        | some s =>
          have hil:=(zG.1 hi).1;have q1:i<st1'.m.length:=by rw [<- h4.1];exact hil
          have q2:i<m'.length:=by rw [<- hm.1];exact hil
          rw [zH q1,zH q2];obtain ⟨_,_,_,_,w1⟩:=h4.2 i s _ hi (zH q1);obtain ⟨_,_,_,_,w2⟩:=hm.2 i s _ hi (zH q2);have w3:=h6.le.ob w2;rw [w1] at w3;injection w3 with w3
          injection w3 with w3
          rw [w3]
       obtain ⟨n2,ex2,st2,st2',E2,k1,k2,k3,k4,k5⟩:=zom hrs hgw hg hgo hL hro hm N x' (z5z T.hs E9) st1' (h6'.reb hg hL g1) g2 hm1 hlo1.reb (by rw [zn6 hlen1];exact Nat.le_refl _) h5;refine ⟨max n n2+1,ex2,st2,st2',E2,?_,k2,k3,k4,k5⟩;rw [zcs,zac (Nat.le_max_left n n2) _ _ _ _ h1];exact zac (Nat.le_max_right n n2) _ _ _ _ k1
     · cases h5
   | exit id=>exact ⟨n+1,.exit id,st1,st1',E1,by rw [zcs,h1],by rw [hw];exact h6,h3,h4,h5⟩
   | ret=>exact ⟨n+1,.ret,st1,st1',E1,by rw [zcs,h1],by rw [hw];exact h6,h3,h4,h5⟩
end
end Clk
namespace Clk
open Go
section
variable {P:Program} {Γ:Ctx} {inl:FuncId->Bool} {orc:FuncId->Option (List AV->Option AV)} {prim:FuncId->Option (Nat->List AV->List AO->Res)} {R:Type}
def goA (P:Program) (inl:FuncId->Bool) (orc:FuncId->Option (List AV->Option AV)) (prim:FuncId->Option (Nat->List AV->List AO->Res)) (n:Nat) (ro:Option Nat) (g:Operand) (params:Array Tmp) (assign body:Code) (st:St) (d:Nat) (H1:List AO) (m1:List Nat):Option (Ex×St) :=
 match callFn P inl orc prim (run P inl orc prim n) (opd st.t g) [.yield H1.length] (H1++[.loop .ready none st.t params.toList assign body d]) with
 | some (_,H3)=>match H3.getD H1.length .none with
   | .loop s pend tm ps as bd d =>
     if s=.busy then none else
     let H4:=H3.set H1.length (.loop .exhausted pend tm ps as bd d)
     match pend with
     | none=>some (.normal,⟨st.t,H4,m1⟩)
     | some c=>run P inl orc prim n ro c ⟨st.t,H4,m1⟩
   | _=>none
 | none=>none
theorem zq9 {n:Nat} {g:Operand} {params:Array Tmp} {assign body:Code} {st:St}:run P inl orc prim (n+1) none (.rangeFunc g params assign body) st=goA P inl orc prim n none g params assign body st st.H.length (st.H++[.dfr true]) (st.H.length::st.m):=rfl
theorem zqa {n l:Nat} {g:Operand} {params:Array Tmp} {assign body:Code} {st:St} {s:LoopState} {p:Option Code} {tm:List AV} {ps:List Tmp} {as bd:Code} {d:Nat} (h:st.H.getD l .none=.loop s p tm ps as bd d):run P inl orc prim (n+1) (some l) (.rangeFunc g params assign body) st=goA P inl orc prim n (some l) g params assign body st d st.H st.m:=by
 simp only [run,h];rfl
def goS (Γ:Ctx) (rs:SRun R) (ro:Option Nat) (g:Operand) (params:Array Tmp) (assign body:Code) (st:SSt) (k:Ex->SSt->Option R) (d:Nat) (H1:List SO) (m1:List Nat):Option R :=
 match z10 Γ 0 st.t g with
 | .fn f first cap=>callGS Γ rs f (first++[.yield H1.length]++cap) (H1++[.loop .ready none st.t params.toList assign body d]) (H1.length+1) st.g fun _ H3 g' =>
   match H3.getD H1.length .dead with
   | .loop s pend tm ps as bd d=>match s with
     | .busy=>none
     | _=>match pend with
       | none=>k .normal ⟨st.t,H3.set H1.length (.loop .exhausted pend tm ps as bd d),m1,g'.log [H1.length]⟩
       | some c=>rs ro c ⟨st.t,H3.set H1.length (.loop .exhausted pend tm ps as bd d),m1,g'.log [H1.length]⟩ k
   | _=>none
 | _=>none
theorem zon {N n:Nat} {g:Operand} {params:Array Tmp} {assign body:Code} {st:SSt} {k:Ex->SSt->Option R}:runS Γ N (n+1) none (.rangeFunc g params assign body) st k=goS Γ (runS Γ N n) none g params assign body st k st.H.length (st.H++[.dfr true]) (st.H.length::st.m):=rfl
theorem zoo {N n l:Nat} {g:Operand} {params:Array Tmp} {assign body:Code} {st:SSt} {k:Ex->SSt->Option R} {r:R} (h:runS Γ N (n+1) (some l) (.rangeFunc g params assign body) st k=some r):∃ s p tm ps as bd d,st.H.getD l .dead=.loop s p tm ps as bd d /\ goS Γ (runS Γ N n) (some l) g params assign body st k d st.H st.m=some r:=by
 simp only [runS] at h;split at h
 · rename_i hs;exact ⟨_,_,_,_,_,_,_,hs,h⟩
 · cases h
theorem z01s (hΓ:CtxAll P Γ inl orc prim) {rs:SRun R} (hrs:SRunOk P inl orc prim rs) {ro ro':Option Nat} {g:Operand} {params:Array Tmp} {assign body:Code} {st:SSt} {st':St} {k:Ex->SSt->Option R} {r:R} {d dA:Nat} {H1:List SO} {H1':List AO} {m1 m1':List Nat} {E E1:Emb}
 (hx:Ext E st'.H st.g.wr E1 H1 H1' st.g.wr) (hro:SRO E ro ro') (ht:RL E st.t st'.t) (hm:SMR E1 m1 m1') (hd:∃ qs qa qb q,E1[d]?=some (.ob dA qs qa qb q)) (h:goS Γ rs ro g params assign body st k d H1 m1=some r) :
 ∃ m ex st1 st1' E2,goA P inl orc prim m ro' g params assign body st' dA H1' m1'=some (ex,st1') /\ Ext E st'.H st.g.wr E2 st1.H st1'.H st1.g.wr /\ RL E2 st1.t st1'.t /\ SMR E2 st1.m st1'.m /\ k ex st1=some r:=by
 unfold goS at h;split at h
 · rename_i f first cap hf
   have hfa:=z00 (E:=E) Γ ht 0 g;rw [hf] at hfa;have ht1:=ht.mono hx.le;have hl1:E1.length=H1.length:=hx.hr.len;have hp:=Ext.pushOb hx.hr (ps:=params.toList) (as:=assign) (bd:=body) (d:=d) (o:=.loop .ready none st.t params.toList assign body d) (a:=.loop .ready none st'.t params.toList assign body dA) st.g.wr (fun hle=>by
    obtain ⟨qs,qa,qb,q,hd⟩:=hd;exact ⟨rfl,rfl,rfl,rfl,st'.t,dA,by simp [zI],ht1.mono hle,q,qs,qa,qb,hle.ob hd⟩)
   have hlast:(E1++[EI.ob H1'.length params.toList assign body d])[H1.length]?=some (.ob H1'.length params.toList assign body d):=by rw [<- hl1];simp
   generalize hE2:E1++[EI.ob H1'.length params.toList assign body d]=E2 at hp hlast;have hlen:H1.length+1=(H1++[SO.loop .ready none st.t params.toList assign body d]).length:=by simp
   rw [hlen] at h;have hfa2:=(hfa.mono hx.le).mono hp.le;generalize hfx:opd st'.t g=fx at hfa2;cases hfa2 with
   | @fn _ _ _ first' cap' g1 g2 g3 g4 =>
     obtain ⟨n,v,v',H3,H3',E3,g',k1,k2,k3,k4⟩:=zeo hΓ hrs hp.hr (RL.app (RL.app ⟨g1,g2⟩ (RL.cons (.yield hlast) .nil)) ⟨g3,g4⟩) h;split at k4
     · rename_i s pend tm ps as bd d3 hs3;obtain ⟨q,tm',dA3,q1,q2,q3,q4,q5,q6⟩:=k2.hr.setLoop (s2:=.exhausted) (p2:=pend) hs3;have hq:=Option.some.inj ((k2.le.ob hlast).symm.trans q1);injection hq with hq _ _ _ _
       subst hq;have hxl:=Ext.loop (l:=H1.length) k2.hr ⟨_,_,_,_,q1⟩ (zhs q2) q5 g';have hall:=((hx.trans hp).trans k2).trans hxl;have ht3:=((ht1.mono hp.le).mono k2.le);have hm3:=((hm.mono hp.le).mono k2.le);have hro3:=hro.mono hall.le;have call:∀ m,n<=m->callFn P inl orc prim (run P inl orc prim m) (opd st'.t g) [.yield H1'.length] (H1'++[.loop .ready none st'.t params.toList assign body dA])=some (v',H3'):=by
        intro m hnm;rw [hfx];exact zn2 (zac hnm) k1
       split at k4
       · cases k4
       · rename_i hbusy;split at k4
         · refine ⟨n,.normal,⟨st.t,H3.set H1.length (.loop .exhausted none tm ps as bd d3),m1,g'.log [H1.length]⟩,⟨st'.t,_,m1'⟩,E3,?_,hall,ht3,hm3,k4⟩;unfold goA;rw [call n (Nat.le_refl _)];simp only [q2];rw [if_neg hbusy]
         · rename_i c;obtain ⟨n2,ex,st1,st1',E4,w1,w2,w3,w4,w5⟩:=hrs ro ro' c ⟨st.t,H3.set H1.length (.loop .exhausted (some c) tm ps as bd d3),m1,g'.log [H1.length]⟩ ⟨st'.t,H3'.set H1'.length (.loop .exhausted (some c) tm' ps as bd dA3),m1'⟩ E3 k r hro3 ht3 hxl.hr hm3 k4;refine ⟨max n n2,ex,st1,st1',E4,?_,hall.trans w2,w3,w4,w5⟩;unfold goA;rw [call _ (Nat.le_max_left n n2)];simp only [q2];rw [if_neg hbusy];exact zac (Nat.le_max_right n n2) _ _ _ _ w1
     · cases k4
 · cases h
theorem z03y (hΓ:CtxAll P Γ inl orc prim) (N:Nat):∀ n,SRunOk P inl orc prim (runS (R:=R) Γ N n):=by
 intro n;induction n with
 | zero=>intro ro ro' c st st' E K r hro ht hr hm h;cases h
 | succ n ih =>
   intro ro ro' c st st' E K r hro ht hr hm h;cases c with
   | skip=>exact ⟨1,.normal,st,st',E,rfl,.refl hr _,ht,hm,h⟩
   | label l=>exact ⟨1,.normal,st,st',E,rfl,.refl hr _,ht,hm,h⟩
   | exit id=>exact ⟨1,.exit id,st,st',E,rfl,.refl hr _,ht,hm,h⟩
   | ret=>exact ⟨1,.ret,st,st',E,rfl,.refl hr _,ht,hm,h⟩
   | scope c =>
     obtain ⟨m,ex,st1,st1',E1,h1,h2,h3,h4,h5⟩:=ih ro ro' c st st' E K r hro ht hr hm h;exact ⟨m+1,ex,st1,st1',E1,h1,h2,h3,h4,h5⟩
   | seq a b =>
     simp only [runS] at h;obtain ⟨m,ex,st1,st1',E1,h1,h2,h3,h4,h5⟩:=ih ro ro' a st st' E _ r hro ht hr hm h;cases ex with
     | normal =>
       obtain ⟨m2,ex2,st2,st2',E2,k1,k2,k3,k4,k5⟩:=ih ro ro' b st1 st1' E1 K r (hro.mono h2.le) h3 h2.hr h4 h5;refine ⟨max m m2+1,ex2,st2,st2',E2,?_,h2.trans k2,k3,k4,k5⟩;rw [zsn,zac (Nat.le_max_left m m2) _ _ _ _ h1];exact zac (Nat.le_max_right m m2) _ _ _ _ k1
     | exit id=>exact ⟨m+1,.exit id,st1,st1',E1,by rw [zsn,h1],h2,h3,h4,h5⟩
     | ret=>exact ⟨m+1,.ret,st1,st1',E1,by rw [zsn,h1],h2,h3,h4,h5⟩
   | block id c =>
     simp only [runS] at h;obtain ⟨m,ex,st1,st1',E1,h1,h2,h3,h4,h5⟩:=ih ro ro' c st st' E _ r hro ht hr hm h;cases ex with
     | normal=>exact ⟨m+1,.normal,st1,st1',E1,by rw [zei,h1],h2,h3,h4,h5⟩
     | ret=>exact ⟨m+1,.ret,st1,st1',E1,by rw [zei,h1],h2,h3,h4,h5⟩
     | exit id' =>
       simp only at h5;by_cases he:id'=id
       · rw [if_pos he] at h5;exact ⟨m+1,.normal,st1,st1',E1,by rw [zei,h1];simp only;rw [if_pos he],h2,h3,h4,h5⟩
       · rw [if_neg he] at h5;exact ⟨m+1,.exit id',st1,st1',E1,by rw [zei,h1];simp only;rw [if_neg he],h2,h3,h4,h5⟩
   | cond x a b =>
     simp only [runS] at h;split at h
     · rename_i c hc;have hx:=z00 (E:=E) Γ ht 0 x;rw [hc] at hx;have hb:opd st'.t x=.bool c:=by generalize opd st'.t x=y at hx;cases hx;rfl
       cases c with
       | true =>
         obtain ⟨m,ex,st1,st1',E1,h1,h2,h3,h4,h5⟩:=ih ro ro' a ⟨setBS st.t x true,st.H,st.m,st.g.go 1⟩ st' E K r hro (z94 ht hb) hr hm h;exact ⟨m+1,ex,st1,st1',E1,by rw [zso,hb];exact h1,h2,h3,h4,h5⟩
       | false =>
         obtain ⟨m,ex,st1,st1',E1,h1,h2,h3,h4,h5⟩:=ih ro ro' b ⟨setBS st.t x false,st.H,st.m,st.g.go 2⟩ st' E K r hro (z94 ht hb) hr hm h;exact ⟨m+1,ex,st1,st1',E1,by rw [zso,hb];exact h1,h2,h3,h4,h5⟩
     · cases h
   | loop c =>
     simp only [runS] at h;split at h
     · rename_i T hT;split at h
       · rename_i st1 hp;split at h
         · rename_i st3 hmv;split at h
           · cases h
           rename_i st2 hen;cases hcnd:(noGrS st1.H.length T.hs&&(dInS T.hs.length st2.H&&grOk T.hs st2.H)) with
           | false=>rw [hcnd] at h;cases h
           | true =>
             rw [hcnd] at h;simp only [zC] at h;rw [Bool.and_eq_true,Bool.and_eq_true] at hcnd;split at h
             · rename_i x hu0;obtain ⟨⟨E1,p1⟩,p2,p3,p4⟩:=zlw T.pro hr ht hp;obtain ⟨⟨E3,q1⟩,q2,q3,q4⟩:=zrw T.gr p1.hr p1.rt hmv;obtain ⟨⟨E2,r1⟩,r2,r3,r4⟩:=zep T.en q1.hr q1.rt hen;obtain ⟨st9,E9,hx9,hm9,hu⟩:=zrx r1.hr r1.rt hu0;have hx2:=(p1.trans q1).trans r1;have hL:E.length<=st1.H.length:=by rw [hr.len];exact p4
               have hx:=(hx2.ext st.g.wr).thenG hx9 hcnd.1 hL;have hlen2:T.hs.length<=E9.length:=by
                rw [hx.hr.len];exact z08o hu
               have hlo:=(z08p hx2.hr hcnd.2.1).leG hx9 hcnd.2.2;obtain ⟨u1,u2,u3⟩:=zwf hx9.hr hx9.rt hu hlen2 hlo (st.g.any 3);obtain ⟨m,ex,s1,s1',E4,k1,k2,k3,k4,k5⟩:=zom ih (g:=st.g.any 3) rfl hcnd.1 hcnd.2.2 (w0:=st.g.wr) hL hro hm N x (z5z T.hs E9) st' (hx.reb hcnd.1 hL u1) u2 rfl hlo.reb (by rw [zn6 hlen2];exact Nat.le_refl _) h;exact ⟨m,ex,s1,s1',E4,k1,k2,k3,k4,k5⟩
             · cases h
         · cases h
       · cases h
     · obtain ⟨m,ex,st1,st1',E1,h1,h2,h3,h4,h5⟩:=ih ro ro' c st st' E _ r hro ht hr hm h;cases ex with
       | normal =>
         obtain ⟨m2,ex2,st2,st2',E2,k1,k2,k3,k4,k5⟩:=ih ro ro' (.loop c) st1 st1' E1 K r (hro.mono h2.le) h3 h2.hr h4 h5;refine ⟨max m m2+1,ex2,st2,st2',E2,?_,h2.trans k2,k3,k4,k5⟩;rw [zcs,zac (Nat.le_max_left m m2) _ _ _ _ h1];exact zac (Nat.le_max_right m m2) _ _ _ _ k1
       | exit id=>exact ⟨m+1,.exit id,st1,st1',E1,by rw [zcs,h1],h2,h3,h4,h5⟩
       | ret=>exact ⟨m+1,.ret,st1,st1',E1,by rw [zcs,h1],h2,h3,h4,h5⟩
   | region id ops draw =>
     simp only [runS] at h;split at h
     · cases h
     rename_i st0 hco;obtain ⟨hr0,ht0,hx0,hm0,hcx0⟩:=z066 hr ht hco;have hie:Γ.inl=inl:=funext fun f=>hΓ.inlE f
     rw [hie] at hr0 ht0 hx0;have hm:=hm;rw [<- hm0] at hm;have go:∀ {E:Emb} {st:SSt},RL E st.t (coA inl id st'.t st'.H).1->HR E st.H (coA inl id st'.t st'.H).2->SMR E st.m st'.m->(cond draw (zj5 Γ (runS Γ N n) ops st.t st.H st.g fun t H g=>K .normal ⟨t,H,st.m,g⟩) (seqS Γ (runS Γ N n) ops ops.toList st.t st.H st.g fun t H g=>K .normal ⟨t,H,st.m,g⟩))=some r ->
      ∃ m ex st1 st1' E1,run P inl orc prim m ro' (.region id ops draw) st'=some (ex,st1') /\ Ext E (coA inl id st'.t st'.H).2 st.g.wr E1 st1.H st1'.H st1.g.wr /\ RL E1 st1.t st1'.t /\ SMR E1 st1.m st1'.m /\ K ex st1=some r:=by
      intro E st ht hr hm h;cases draw with
      | true =>
        obtain ⟨m,t1,t1',H1,H1',E1,g1,k1,k2,k3,k4⟩:=zof hΓ ih hr ht h;exact ⟨m+1,.normal,⟨t1,H1,st.m,g1⟩,⟨t1',H1',st'.m⟩,E1,by rw [zkr];simp only [if_true];rw [k1],k2,k3,hm.mono k2.le,k4⟩
      | false =>
        obtain ⟨m,t1,t1',H1,H1',E1,g1,k1,k2,k3,k4⟩:=z8z hΓ ih ops.toList hr ht h;exact ⟨m+1,.normal,⟨t1,H1,st.m,g1⟩,⟨t1',H1',st'.m⟩,E1,by rw [zkr];simp only [Bool.false_eq_true,if_false];rw [k1],k2,k3,hm.mono k2.le,k4⟩
     split at h
     · obtain ⟨m,ex,s1,s1',E2,k1,k2,k3,k4,k5⟩:=go ht0 hr0 hm h;exact ⟨m,ex,s1,s1',E2,k1,hx0.trans k2,k3,k4,k5⟩
     · split at h
       · rename_i as st1 hf;obtain ⟨h1,h2⟩:=z26 h;obtain ⟨⟨E1,x1⟩,x2,x3,x4⟩:=z03v hr0 ht0 hf h1;have hm1:SMR E1 st1.m st'.m:=by rw [x2];exact hm.mono x1.le
         obtain ⟨m,ex,s1,s1',E2,k1,k2,k3,k4,k5⟩:=go x1.rt x1.hr hm1 h2;rw [x4] at k2;exact ⟨m,ex,s1,s1',E2,k1,hx0.trans ((x1.ext st0.g.wr).trans k2),k3,k4,k5⟩
       · cases h
   | rangeFunc g params assign body =>
     cases ro with
     | none =>
       cases ro' with
       | some=>exact hro.elim
       | none =>
         rw [zon] at h;have hp:=Ext.pushOb hr (ps:=[]) (as:=.skip) (bd:=.skip) (d:=0) (o:=.dfr true) (a:=.dfr true) st.g.wr (fun hle=>by
          show (st'.H++[AO.dfr true]).getD st'.H.length .none=_;simp [zI])
         have hlast:(E++[EI.ob st'.H.length [] .skip .skip 0])[st.H.length]?=some (.ob st'.H.length [] .skip .skip 0):=by rw [<- hr.len];simp
         have hm1:SMR (E++[EI.ob st'.H.length [] .skip .skip 0]) (st.H.length::st.m) (st'.H.length::st'.m):=by
          refine ⟨by simp [hm.1],fun i s p h1 h2=>?_⟩;cases i with
          | zero=>simp at h1 h2;subst h1 h2;exact ⟨_,_,_,_,hlast⟩
          | succ i=>exact (hm.mono hp.le).2 i s p (by simpa using h1) (by simpa using h2)
         obtain ⟨m,ex,st1,st1',E2,k1,k2,k3,k4,k5⟩:=z01s hΓ ih hp hro ht hm1 ⟨_,_,_,_,hlast⟩ h;exact ⟨m+1,ex,st1,st1',E2,by rw [zq9];exact k1,k2,k3,k4,k5⟩
     | some l =>
       cases ro' with
       | none=>exact hro.elim
       | some p =>
         obtain ⟨s0,p0,tm,ps,as,bd,d,h1,h2⟩:=zoo h;obtain ⟨q,tm',dA,q1,q2,q3,⟨qs,qa,qb,qd,q4⟩,_,_⟩:=hr.setLoop (s2:=.busy) (p2:=none) h1;have hro2:=hro;obtain ⟨ps2,as2,bd2,d2,hE⟩:=hro2;have hq:=Option.some.inj (hE.symm.trans q1);injection hq with hq _ _ _ _
         subst hq;obtain ⟨m,ex,st1,st1',E2,k1,k2,k3,k4,k5⟩:=z01s hΓ ih (.refl hr st.g.wr) hro ht hm ⟨_,_,_,_,q4⟩ h2;exact ⟨m+1,ex,st1,st1',E2,by rw [zqa q2];exact k1,k2,k3,k4,k5⟩
   | _=>cases h
end
end Clk
namespace Clk
open Go
section
variable {P:Program} {Γ:Ctx} {inl:FuncId->Bool} {orc:FuncId->Option (List AV->Option AV)} {prim:FuncId->Option (Nat->List AV->List AO->Res)}
theorem HR.nil:HR [] [] []:=⟨rfl,fun s e p h=>by simp at h,fun s s' e e' p h=>by simp at h,fun s o e h=>by simp at h⟩
theorem z08q (hΓ:CtxAll P Γ inl orc prim) {N n:Nat} {f:FuncId} {ps rs:List TC} {x:z3z ps} {y:z3z rs} (h:z1a Γ N n f ps rs x=some y):Ret P inl orc prim f (encL ps x) (encRes rs y):=by
 unfold z1a at h;obtain ⟨m,v,v',H1,H1',E1,g1,k1,k2,k3,k4⟩:=zel hΓ (z03y hΓ N n) HR.nil (zsz ps x) h;exact ⟨m,v',H1',k1,z063 k2.hr rs k4 k3⟩
end
open Classical in
noncomputable def oS (s:Spec) (args:List AV):Option AV :=
 if h:∃ y,∃ x,args=encL s.params x /\ s.h x=some y then some (encRes s.res (Classical.choose h)) else none
theorem zzr {s:Spec} {x:z3z s.params} {y:z3z s.res} (h:s.h x=some y):oS s (encL s.params x)=some (encRes s.res y):=by
 have hx:∃ y,∃ x',encL s.params x=encL s.params x' /\ s.h x'=some y:=⟨y,x,rfl,h⟩;unfold oS;rw [dif_pos hx];obtain ⟨x',h1,h2⟩:=Classical.choose_spec hx;have:=z01g s.params h1;subst this;rw [h] at h2;rw [<- Option.some.inj h2]
theorem z0a3 {s:Spec} {args:List AV} {r:AV} (h:oS s args=some r):∃ x y,args=encL s.params x /\ s.h x=some y /\ r=encRes s.res y:=by
 unfold oS at h;split at h
 · rename_i hx;obtain ⟨x',h1,h2⟩:=Classical.choose_spec hx;exact ⟨x',_,h1,h2,(Option.some.inj h).symm⟩
 · cases h
def z0p:List (FuncId×Spec)->FuncId->Option Spec
 | [],_=>none
 | (g,s)::l,f=>cond (Nat.beq f g) (some s) (z0p l f)
noncomputable def zl (l:List (FuncId×Spec)) (f:FuncId):Option (List AV->Option AV):=(z0p l f).map oS
theorem zry (g:FuncId) (s:Spec) (l:List (FuncId×Spec)):zl ((g,s)::l)=addO (zl l) g (oS s):=by
 funext f
 show Option.map oS (cond (Nat.beq f g) (some s) (z0p l f))=if f=g then some (oS s) else Option.map oS (z0p l f)
 by_cases h:f=g
 · subst h;rw [if_pos rfl];have:Nat.beq f f=true:=Nat.beq_refl f;rw [this];rfl
 · rw [if_neg h];have:Nat.beq f g=false:=by
    cases hb:Nat.beq f g with
    | false=>rfl
    | true=>exact absurd (Nat.eq_of_beq_eq_true hb) h
   rw [this];rfl
def SeatOk (P:Program) (inl:FuncId->Bool) (prim:FuncId->Option (Nat->List AV->List AO->Res)) (mk:(FuncId->Option Spec)->(Nat->Option Tmpl)->(Nat->Nat->Option (Nat×Nat))->Ctx):Prop :=
 ∀ l tm gh,CtxAll P (mk (z0p l) tm gh) inl (zl l) prim
theorem z06g {P:Program}:zk P (zl []):=z03h
theorem za {P:Program} {inl:FuncId->Bool} {prim:FuncId->Option (Nat->List AV->List AO->Res)} {mk:(FuncId->Option Spec)->(Nat->Option Tmpl)->(Nat->Nat->Option (Nat×Nat))->Ctx} (hs:SeatOk P inl prim mk) (hg:Good P) (hpr:PrimOk P prim)
 {l:List (FuncId×Spec)} (hl:zk P (zl l)) {f:FuncId} {s:Spec} (hn:z0p l f=none) (hb:Body P f) {tm:Nat->Option Tmpl} {gh:Nat->Nat->Option (Nat×Nat)}
 (h:∀ x y,s.h x=some y->∃ N n,z1a (mk (z0p l) tm gh) N n f s.params s.res x=some y):zk P (zl ((f,s)::l)):=by
 rw [zry];refine z0bp (inl:=inl) hg hl hpr (by unfold zl;rw [hn];rfl) hb fun args r e=>?_
 obtain ⟨x,y,rfl,h1,rfl⟩:=z0a3 e;obtain ⟨N,n,h2⟩:=h x y h1;exact z08q (hs l tm gh) h2
end Clk
namespace Clk
open Go
def avZ:SV->AV
 | .bool b=>.bool b
 | .int k n=>.int k n
 | .str _=>.str ⟨#[]⟩
 | .nilPtr=>.nilPtr
 | .nilFunc=>.nilFunc
 | .nilIface=>.nilIface
 | .nilMap=>.nilMap
 | _=>.crows []
def simpleZ:SV->Bool
 | .bool _ | .int _ _ | .nilPtr | .nilFunc | .nilIface | .nilMap=>true
 | .str l=>l.isEmpty
 | .lst _ _ xs=>xs.isEmpty
 | _=>false
theorem z0e6 {x:SV} (h:simpleZ x=true):R [] x (avZ x):=by
 cases x with
 | bool b=>exact .bool b
 | int k n=>exact .int k n
 | nilPtr=>exact .nilPtr
 | nilFunc=>exact .nilFunc
 | nilIface=>exact .nilIface
 | nilMap=>exact .nilMap
 | str l =>
   have:l=[]:=List.isEmpty_iff.1 h;subst this;exact .str []
 | lst fl c xs =>
   have:xs=[]:=List.isEmpty_iff.1 h;subst this;exact RT.nil.crows fl
 | _=>cases h
theorem z06h:∀ {l:List SV},l.all simpleZ=true->RL [] l (l.map avZ)
 | [],_=>.nil
 | x::l,h=>by
   simp only [List.all_cons,Bool.and_eq_true] at h;exact .cons (z0e6 h.1) (z06h h.2)
theorem zzs (c:TC):(c.up c.zero).all simpleZ=true:=by cases c <;> rfl
theorem zl3 {α β:Type} {l:List (Option α)} {f:Nat->Option β} {g:Option α->Option β} (h:(List.range l.length).map (fun t=>cond (l.getD t none).isSome (f t) none)=l.map g) {t:Nat} {a:α} (ht:l.getD t none=some a):f t=g (some a):=by
 have h1:l[t]?=some (some a):=by
  rw [zI] at ht;cases h2:l[t]? with
  | none=>rw [h2] at ht;cases ht
  | some y=>rw [h2] at ht;simp at ht;rw [ht]
 have htl:=(zG.1 h1).1;have h2:=congrArg (fun m=>m[t]?) h;simp only [List.getElem?_map,List.getElem?_range htl,h1,Option.map_some,ht,Option.isSome_some,zC] at h2;exact Option.some.inj h2
theorem z01t {α:Type} {l:List (Option α)} {t:Nat} {a:α} (ht:l.getD t none=some a):some a∈l:=by
 rw [zI] at ht;cases h2:l[t]? with
 | none=>rw [h2] at ht;cases ht
 | some y=>rw [h2] at ht;simp at ht;rw [<- ht];exact List.mem_of_getElem? h2
structure Seat where
 ti:List (Option TI)
 zero:List (Option (List SV))
 ec:List (Option TC)
 eq:List Bool
 fn:List (Option Func)
 inl:List Bool
 cl:List (Option (TC×Nat))
 hint:List Nat
def Seat.mk' (S:Seat) (sp:FuncId->Option Spec) (tm:Nat->Option Tmpl) (gh:Nat->Nat->Option (Nat×Nat)):Ctx :=
 ⟨fun t=>S.ti.getD t none,fun t=>S.zero.getD t none,fun t=>S.ec.getD t none,fun f=>S.fn.getD f none,fun f=>S.inl.getD f false||S.hint.any (Nat.beq f),fun f=>S.cl.getD f none,sp,tm,fun t=>S.eq.getD t false,gh⟩
def Seat.inlF (S:Seat) (f:FuncId):Bool:=S.inl.getD f false||S.hint.any (Nat.beq f)
def Seat.prim (S:Seat) (f:FuncId):Option (Nat->List AV->List AO->Res):=(S.cl.getD f none).map fun cb=>primOf cb.1.size cb.2
def kindI:TC->TK
 | .int k=>.int k
 | _=>.other
structure Seat.Ok (S:Seat) (P:Program):Prop where
 ti:(List.range S.ti.length).map (fun t=>cond (S.ti.getD t none).isSome (Clk.ti P t) none)=S.ti.map id
 zero:(List.range S.zero.length).map (fun t=>cond (S.zero.getD t none).isSome ((Clk.ti P t).bind z09) none)=S.zero.map (Option.map (List.map avZ))
 zs:S.zero.all (fun o=>match o with | some z=>z.all simpleZ | none=>true)=true
 ec:(List.range S.ec.length).map (fun t=>cond (S.ec.getD t none).isSome ((Clk.ti P t).bind fun i=>(z09 i).map fun z=>(i.size,z)) none)=S.ec.map (Option.map fun c=>(c.size,(c.up c.zero).map avZ))
 eci:(List.range S.ec.length).map (fun t=>cond (S.ec.getD t none).isSome ((Clk.ti P t).map fun i=>match S.ec.getD t none with | some (.int _)=>i.kind | _=>.other) none)=S.ec.map (Option.map kindI)
 flds:S.ti.all (fun o=>match o with | some i=>(match i.kind with | .struct fs=>fs.all (fun f=>(Clk.ti P f.2).isSome) | _=>true) | none=>true)=true
 eq:(List.range S.eq.length).all (fun t=>!S.eq.getD t false||(!P.stoodInHeld t&&zis P t&&!P.eqGuardType P.depth t))=true
 fn:(List.range S.fn.length).map (fun f=>cond (S.fn.getD f none).isSome P.funcs[f]? none)=S.fn.map id
theorem Seat.Ok.seatOk {S:Seat} {P:Program} (h:S.Ok P):SeatOk P S.inlF S.prim S.mk':=by
 intro l tm gh;refine { ti:=fun t i e=>zl3 h.ti e,zero:=fun t z e=>?_,ec:=fun t c e=>?_,eci:=fun t k e=>?_,flds:=fun t i fs e hk=>?_,eq:=fun t e=>?_,fn:=fun f fn e=>zl3 h.fn e,inlE:=fun _=>rfl,cl:=fun f c b e=>?_,clN:=fun f e=>?_,sp:=fun f s e=>?_ }
 · have h1:=zl3 (f:=fun t=>(Clk.ti P t).bind z09) h.zero e;simp only [Option.map_some] at h1;cases hi:Clk.ti P t with
   | none=>rw [hi] at h1;cases h1
   | some i =>
     rw [hi] at h1;have hz:z.all simpleZ=true:=List.all_eq_true.1 h.zs _ (z01t e);exact ⟨i,_,rfl,h1,z06h hz⟩
 · have h1:=zl3 (f:=fun t=>(Clk.ti P t).bind fun i=>(z09 i).map fun z=>(i.size,z)) h.ec e;simp only [Option.map_some] at h1;cases hi:Clk.ti P t with
   | none=>rw [hi] at h1;cases h1
   | some i =>
     rw [hi] at h1;have h2:(z09 i).map (fun z=>(i.size,z))=some (c.size,(c.up c.zero).map avZ):=h1;cases hz:z09 i with
     | none=>rw [hz] at h2;cases h2
     | some z' =>
       rw [hz] at h2;simp only [Option.map_some,Option.some.injEq,Prod.mk.injEq] at h2;exact ⟨i,z',rfl,h2.1,hz,by rw [h2.2];exact z06h (zzs c)⟩
 · have h1:=zl3 (f:=fun t=>(Clk.ti P t).bind fun i=>(z09 i).map fun z=>(i.size,z)) h.ec e;have h2:=zl3 (f:=fun t=>(Clk.ti P t).map fun i=>match S.ec.getD t none with | some (.int _)=>i.kind | _=>.other) h.eci e;simp only [Option.map_some] at h1 h2;cases hi:Clk.ti P t with
   | none=>rw [hi] at h1;cases h1
   | some i =>
     rw [hi] at h1 h2;have h3:(z09 i).map (fun z=>(i.size,z))=some (TC.size (.int k),(TC.up (.int k) (TC.zero (.int k))).map avZ):=h1;have e':S.ec.getD t none=some (.int k):=e;rw [e'] at h2;have h4:i.kind=.int k:=Option.some.inj h2;refine ⟨i,rfl,h4,?_⟩;cases hz:z09 i with
     | none=>rw [hz] at h3;cases h3
     | some z' =>
       rw [hz] at h3;simp only [Option.map_some,Option.some.injEq,Prod.mk.injEq] at h3;exact h3.1
 · have h1:=List.all_eq_true.1 h.flds _ (z01t e);simp only [hk] at h1;exact h1
 · have e':S.eq.getD t false=true:=e;have htl:t<S.eq.length:=by
    rw [zI] at e';cases h2:S.eq[t]? with
    | none=>rw [h2] at e';cases e'
    | some y=>exact (zG.1 h2).1
   have h1:=List.all_eq_true.1 h.eq t (List.mem_range.2 htl);rw [e'] at h1;simp only [Bool.not_true,Bool.false_or,Bool.and_eq_true,Bool.not_eq_true'] at h1;exact ⟨h1.1.1,h1.1.2,h1.2⟩
 · have e':S.cl.getD f none=some (c,b):=e;show (S.cl.getD f none).map _=_;rw [e'];rfl
 · have e':S.cl.getD f none=none:=e;show (S.cl.getD f none).map _=_;rw [e'];rfl
 · have e':z0p l f=some s:=e;refine ⟨oS s,by unfold zl;rw [e'];rfl,fun x y hxy=>zzr hxy⟩
end Clk
namespace Clk
open Go
open Classical in
noncomputable def lim {R:Type} (G:Nat->Option R):Option R:=if h:∃ y B,∀ N,B<=N->G N=some y then some (Classical.choose h) else none
theorem zg {R:Type} {G:Nat->Option R} {y:R} (h:lim G=some y):∃ N,G N=some y:=by
 unfold lim at h;split at h
 · rename_i hx;obtain ⟨B,hB⟩:=Classical.choose_spec hx;rw [Option.some.inj h] at hB;exact ⟨B,hB B (Nat.le_refl B)⟩
 · cases h
theorem zy {R:Type} {G:Nat->Option R} {y:R} (B:Nat) (h:∀ N,B<=N->G N=some y):lim G=some y:=by
 have hx:∃ y B,∀ N,B<=N->G N=some y:=⟨y,B,h⟩;unfold lim;rw [dif_pos hx];obtain ⟨M,hM⟩:=Classical.choose_spec hx;have h1:=hM (max B M) (Nat.le_max_right B M);rw [h _ (Nat.le_max_left B M)] at h1;rw [Option.some.inj h1]
end Clk
namespace Clk
open Go
theorem z03z {P:Program} {l:List (FuncId×Spec)} (hl:zk P (zl l)) {f:FuncId} {s:Spec} (hs:z0p l f=some s) {x:z3z s.params} {y:z3z s.res} (h:s.h x=some y) {w:World} {vs:Array Value}
 (hr:encRes s.res y=.bool true) (ha:IRel w (fun _=>False) (encL s.params x) vs):Calls P f vs w fun e w'=>e=.returned (.bool true) /\ RowKit.Below w.heap.size w w':=by
 have h1:=(hl f (oS s) (by unfold zl;rw [hs];rfl)).2 _ _ (zzr h) w (fun _=>False) vs (fun _ h=>h.elim) ha;rw [hr] at h1;exact (callsIn_wide.1 h1).mono fun _ _ he=>z08i he
end Clk
namespace Clk
open Go
abbrev w64 (n:Int):Int:=IntKind.i64.wrap n
def bXor (k:IntKind) (a b:Int):Int:=((BitVec.ofInt k.bits a ^^^ BitVec.ofInt k.bits b).toNat:Int)
def ze {X:Type} {R:Type} (F:(X->Option R)->X->Option R) (N:Nat):X->Option R:=Nat.rec (motive:=fun _=>X->Option R) (fun _=>none) (fun _ ih x=>F ih x) N
abbrev J:Slt:=.junk
def jN (n:Nat):List Slt:=List.replicate n J
def z16 (xs:List Block) (i:Nat) (v:List Page):List Block:=xs.set i ⟨v,(xs.getD i default).next,(xs.getD i default).erases,(xs.getD i default).bad⟩
def z03 (xs:List Block) (i:Nat) (v:Int):List Block:=xs.set i ⟨(xs.getD i default).pages,v,(xs.getD i default).erases,(xs.getD i default).bad⟩
def bErases (xs:List Block) (i:Nat) (v:Int):List Block:=xs.set i ⟨(xs.getD i default).pages,(xs.getD i default).next,v,(xs.getD i default).bad⟩
def ze6 (xs:List Block) (i:Nat) (v:Bool):List Block:=xs.set i ⟨(xs.getD i default).pages,(xs.getD i default).next,(xs.getD i default).erases,v⟩
end Clk
namespace Clk
open Go
theorem zeq {P:Program} {l:List (FuncId×Spec)} (hl:zk P (zl l)) {f:FuncId} {s:Spec} (hb:Body P f)
 (h:∀ x y,s.h x=some y->∀ (w:World) (N:Nat->Prop) (vs:Array Value),(∀ r,N r->r<w.heap.size)->IRel w N (encL s.params x) vs->Calls P f vs w (zab w N (encRes s.res y))):zk P (zl ((f,s)::l)):=by
 rw [zry];intro g hg e;unfold addO at e;split at e
 · rename_i hgf;subst hgf;cases e;refine ⟨hb,fun args r e w N vs hN hr=>callsIn_wide.2 ?_⟩;obtain ⟨x,y,rfl,h1,rfl⟩:=z0a3 e;exact h x y h1 w N vs hN hr
 · exact hl g hg e
theorem zzt {P:Program} {l:List (FuncId×Spec)} (hl:zk P (zl l)) {f:FuncId} {s:Spec} (hs:z0p l f=some s) {x:z3z s.params} {y:z3z s.res} (h:s.h x=some y) {w:World} {N:Nat->Prop} {vs:Array Value}
 (hN:∀ r,N r->r<w.heap.size) (hr:IRel w N (encL s.params x) vs):Calls P f vs w (zab w N (encRes s.res y)) :=
 callsIn_wide.1 ((hl f (oS s) (by unfold zl;rw [hs];rfl)).2 _ _ (zzr h) w N vs hN hr)
structure Gr (L:Nat->Prop) (w w':World):Prop where
 os:w'.os=w.os
 tape:w'.tape=w.tape
 output:w'.output=w.output
 size:w.heap.size<=w'.heap.size
 same:∀ r:Nat,r<w.heap.size->¬ L r->w'.heap[r]?=w.heap[r]?
theorem Gr.refl (L:Nat->Prop) (w:World):Gr L w w:=⟨rfl,rfl,rfl,Nat.le_refl _,fun _ _ _=>rfl⟩
theorem Gr.trans {L:Nat->Prop} {a b c:World} (h:Gr L a b) (k:Gr L b c):Gr L a c :=
 ⟨k.os.trans h.os,k.tape.trans h.tape,k.output.trans h.output,Nat.le_trans h.size k.size,fun r hr hn=>(k.same r (Nat.lt_of_lt_of_le hr h.size) hn).trans (h.same r hr hn)⟩
theorem Gr.wider {L L':Nat->Prop} {a b:World} (h:Gr L a b) (hl:∀ r,L r->L' r):Gr L' a b :=
 ⟨h.os,h.tape,h.output,h.size,fun r hr hn=>h.same r hr fun e=>hn (hl r e)⟩
theorem Gr.alloc (L:Nat->Prop) (w:World) (o:Obj):Gr L w (w.alloc o) :=
 ⟨rfl,rfl,rfl,by show _<=(w.heap.push o).size;simp,fun r hr _=>by show (w.heap.push o)[r]?=_;rw [Array.getElem?_push,if_neg (by omega)]⟩
theorem z2o (w:World) (b o:Nat) (v:Value) (r:Nat):(w.setCell ⟨b,o,none⟩ v).heap[r]?=if r=b then (w.heap[r]?).map (Sort.onCells (·.setIfInBounds o v)) else w.heap[r]?:=by
 rw [Sort.setCell_eq];show (w.heap.modify b _)[r]?=_;rw [Array.getElem?_modify];by_cases h:b=r
 · subst h;simp
 · rw [if_neg h,if_neg fun e=>h e.symm]
theorem Gr.setCell {L:Nat->Prop} (w:World) (b o:Nat) (v:Value) (h:L b):Gr L w (w.setCell ⟨b,o,none⟩ v) :=
 ⟨rfl,rfl,rfl,by rw [Sort.setCell_eq];simp [Sort.mapBlock],fun r hr hn=>by rw [z2o,if_neg (fun e=>by subst e;exact hn h)]⟩
theorem Gr.of_ends {w w':World} (h1:w'.os=w.os) (h2:w'.tape=w.tape) (h3:w'.output=w.output) (h4:w.heap.size<=w'.heap.size) (h5:∀ r:Nat,r<w.heap.size->w'.heap[r]?=w.heap[r]?) (L:Nat->Prop):Gr L w w' :=
 ⟨h1,h2,h3,h4,fun r hr _=>h5 r hr⟩
theorem alloc3 (w:World) (o1 o2 o3:Obj):Gr (fun _=>False) w (((w.alloc o1).alloc o2).alloc o3) /\ (((w.alloc o1).alloc o2).alloc o3).heap[w.heap.size]?=some o1 /\ (((w.alloc o1).alloc o2).alloc o3).heap[w.heap.size+1]?=some o2 /\ (((w.alloc o1).alloc o2).alloc o3).heap[w.heap.size+1+1]?=some o3 /\ (((w.alloc o1).alloc o2).alloc o3).heap.size=w.heap.size+3:=by
 refine ⟨((Gr.alloc _ w o1).trans (Gr.alloc _ _ o2)).trans (Gr.alloc _ _ o3),?_,?_,?_,?_⟩
 · show (((w.heap.push o1).push o2).push o3)[w.heap.size]?=_;rw [Array.getElem?_push,if_neg (by simp;omega),Array.getElem?_push,if_neg (by simp),Array.getElem?_push,if_pos rfl]
 · show (((w.heap.push o1).push o2).push o3)[w.heap.size+1]?=_;rw [Array.getElem?_push,if_neg (by simp),Array.getElem?_push,if_pos (by simp)]
 · show (((w.heap.push o1).push o2).push o3)[w.heap.size+1+1]?=_;rw [Array.getElem?_push,if_pos (by simp)]
 · show (((w.heap.push o1).push o2).push o3).size=_;simp
theorem Gr.hide {L:Nat->Prop} {w a b:World} (h:Gr (fun _=>False) w a) (k:Gr L a b) (hl:∀ r,L r->w.heap.size<=r):Gr (fun _=>False) w b :=
 ⟨k.os.trans h.os,k.tape.trans h.tape,k.output.trans h.output,Nat.le_trans h.size k.size,fun r hr _=>(k.same r (Nat.lt_of_lt_of_le hr h.size) fun e=>by have:=hl r e;omega).trans (h.same r hr id)⟩
theorem zt7 {w:World} {N:Nat->Prop} {l:List Int} {v:Value} (h:RelI w N (eInts l) v):∃ a c,v=.slice a l.length c /\ (∀ i (hi:i<l.length),∃ ad:Addr,a=some ad /\ ad.spot=none /\ ¬ N ad.block /\ ad.block<w.heap.size /\ w.cell? ⟨ad.block,ad.off+i,none⟩=some (.int .i64 l[i])):=by
 unfold eInts at h;generalize hm:l.map (fun n=>[iA n])=m at h;cases h with
 | @rows _ a c k u hc hk ha hu hr =>
   have hlen:m.length=l.length:=by rw [<- hm];simp
   refine ⟨a,c,by rw [hlen],fun i hi=>?_⟩;have hrow:m[i]?=some [iA l[i]]:=by rw [<- hm,List.getElem?_map,zH hi];rfl
   obtain ⟨ad,e1,e2,e3,e4⟩:=ha (by omega);have hk1:k=1:=by have:=hk i _ hrow;simpa using this.symm
   subst hk1;have:=hu ad i _ 0 _ e1 hrow rfl;rw [Nat.mul_one,Nat.add_zero] at this;have hv:=hr i _ 0 _ hrow rfl;unfold iA at hv;generalize u i 0=x at this hv;cases hv;exact ⟨ad,e1,e2,e3,e4,this⟩
theorem z0bv {w:World} {N:Nat->Prop}:RelI w N (eInts []) (.slice none 0 0) :=
 RelI.rows (l:=[]) (k:=1) (u:=fun _ _=>undef) (Nat.le_refl _) (fun _ _ h=>by simp at h) (fun h=>absurd h (by simp)) (fun _ _ _ _ _ _ h=>by simp at h) (fun _ _ _ _ h=>by simp at h)
theorem z08r {w:World} {N:Nat->Prop} {s:ByteArray} {v:Value} (h:RelI w N (.str s) v):v=.string s:=by cases h;rfl
theorem zjd {w:World} {N:Nat->Prop} {k:IntKind} {n:Int} {v:Value} (h:RelI w N (.int k n) v):v=.int k n:=by cases h;rfl
end Clk
namespace Clk
open Go
theorem zl4 {w:World} {N:Nat->Prop} {r:AV} {e:Ending} {w':World} (h:zab w N r e w'):∃ v,e=.returned v /\ Gr (fun _=>False) w w' /\ RelI w' N r v:=by
 obtain ⟨v,h1,h2,h3,h4,h5,h6,h7⟩:=h;exact ⟨v,h1,Gr.of_ends h2 h3 h4 h5 h6 _,h7⟩
theorem zl5 {w w':World} {N:Nat->Prop} {r:AV} {v:Value} (g:Gr (fun _=>False) w w') (h:RelI w' N r v):zab w N r (.returned v) w' :=
 ⟨v,rfl,g.os,g.tape,g.output,g.size,fun r hr=>g.same r hr id,h⟩
end Clk
namespace Clk
open Go
def keysF (PL:Int×Int->Option Int) (b:Int):List Int->Option (List Int)
 | []=>some []
 | x::l=>match PL (b,Int.tmod x 16) with
   | none=>none
   | some a=>match keysF PL b l with
     | none=>none
     | some r=>some (if a=x /\ 0<=x then x::r else r)
def nubL (l:List Int):List Int:=l.foldl (fun acc x=>if x∈acc then acc else acc++[x]) []
def cntF (PL:Int×Int->Option Int) (x:Table×Int):Option Int :=
 if x.1.map.length+x.1.by_.length<4294967296*2 /\ (∀ n∈x.1.map++x.1.by_,-9223372036854775808<=n /\ n<9223372036854775808) then (match keysF PL x.2 (x.1.map++x.1.by_) with
  | none=>none
  | some ks=>some (nubL ks).length) else none
theorem zwj (PL:Int×Int->Option Int) (b:Int):∀ (l m:List Int),keysF PL b (l++m)=(match keysF PL b l with | none=>none | some r=>(keysF PL b m).map (r++·))
 | [],m=>by
   simp only [List.nil_append,keysF];cases keysF PL b m <;> rfl
 | x::l,m=>by
   simp only [List.cons_append,keysF];cases PL (b,Int.tmod x 16) with
   | none=>rfl
   | some a =>
     simp only [zwj PL b l m];cases keysF PL b l with
     | none=>rfl
     | some r =>
       simp only;cases keysF PL b m with
       | none=>rfl
       | some r2 =>
         simp only [Option.map_some];split <;> rfl
def z1s (n:Int):Lit:=.int .i64 n
theorem z06i:∀ (l acc:List Int),(l.map z1s).foldl Go.Maps.addKey (acc.map z1s)=(l.foldl (fun acc x=>if x∈acc then acc else acc++[x]) acc).map z1s
 | [],acc=>rfl
 | x::l,acc=>by
   simp only [List.map_cons,List.foldl_cons];have e:Go.Maps.addKey (acc.map z1s) (z1s x)=(if x∈acc then acc else acc++[x]).map z1s:=by
    unfold Go.Maps.addKey;have h1:(acc.map z1s).any (fun y=>y.sameKey (z1s x))=decide (x∈acc):=by
     rw [Bool.eq_iff_iff];simp only [List.any_eq_true,List.mem_map,decide_eq_true_eq];constructor
     · rintro ⟨_,⟨n,h1,rfl⟩,h2⟩
       unfold z1s Lit.sameKey at h2;simp only [decide_eq_true_eq] at h2;exact h2.2▸h1
     · intro h;exact ⟨_,⟨x,h,rfl⟩,by simp [z1s,Lit.sameKey]⟩
    rw [h1];by_cases hx:x∈acc
    · simp [hx]
    · simp [hx]
   rw [e];exact z06i l _
theorem z08s {H:Type} (u:DataW H) (l:List Int):Go.Maps.size (Go.Maps.setOf u (l.map z1s))=(nubL l).length:=by
 rw [Go.Maps.size_setOf u _ (fun x hx=>by obtain ⟨n,_,rfl⟩:=List.mem_map.1 hx;trivial)];have:=z06i l [];rw [List.map_nil] at this;rw [this,List.length_map];rfl
theorem Gr.grown {w w':World} (h:Gr (fun _=>False) w w') (row:Option Nat):w.grownBy w' row:=⟨h.os,h.tape,h.output,h.size,fun i hi _=>h.same i hi id⟩
end Clk
namespace Clk
open Go Go.Maps
def addG (p s:Int):List (Int×List Int)->List (Int×List Int)
 | []=>[(p,[s])]
 | x::r=>if x.1=p then (p,x.2++[s])::r else x::addG p s r
def grpF (HAS:Int->Option Str):List Int->Nat->List (Int×List Int)->Option (List (Int×List Int))
 | [],_,G=>some G
 | p::r,i,G=>match HAS i with
   | none=>none
   | some s=>grpF HAS r (i+1) (if s=[] then G else addG p i G)
def sharesF (HAS:Chip×Table×Int->Option Str) (d:Device):Option (List (List Int)) :=
 if d.table.map.length<4294967296 /\ (∀ n∈d.table.map,-9223372036854775808<=n /\ n<9223372036854775808) then (grpF (fun s=>HAS (d.chip,d.table,s)) d.table.map 0 []).map (fun G=>G.map (·.2)) else none
theorem zje (p s:Int):∀ G:List (Int×List Int),(addG p s G).map (·.1)=if p∈G.map (·.1) then G.map (·.1) else G.map (·.1)++[p]
 | []=>rfl
 | x::r=>by
   unfold addG;by_cases h:x.1=p
   · rw [if_pos h,if_pos (by simp [h])];simp [h]
   · rw [if_neg h,List.map_cons,zje p s r];by_cases h2:p∈r.map (·.1)
     · rw [if_pos h2,if_pos (by rw [List.map_cons];exact List.mem_cons_of_mem _ h2),List.map_cons]
     · rw [if_neg h2,if_neg (by rw [List.map_cons,List.mem_cons];exact fun e=>e.elim (fun e=>h e.symm) h2),List.map_cons,List.cons_append]
theorem z040 {p s:Int} {G:List (Int×List Int)} (h:(G.map (·.1)).Nodup):((addG p s G).map (·.1)).Nodup:=by
 rw [zje];split
 · exact h
 · rename_i hn;rw [List.nodup_append];exact ⟨h,by simp,fun a ha b hb=>by rw [List.mem_singleton.1 hb];rintro rfl;exact hn ha⟩
theorem z01u {p s:Int}:∀ {G:List (Int×List Int)} (_:(G.map (·.1)).Nodup) (x:Int×List Int),x∈addG p s G->(x∈G /\ x.1≠p) \/ (x=(p,[s]) /\ p∉G.map (·.1)) \/ ∃ l,(p,l)∈G /\ x=(p,l++[s])
 | [],_,x,h=>by simp [addG] at h;exact .inr (.inl ⟨h,by simp⟩)
 | y::r,hn,x,h=>by
   unfold addG at h;rw [List.map_cons,List.nodup_cons] at hn;by_cases e:y.1=p
   · rw [if_pos e] at h;rcases List.mem_cons.1 h with rfl | h
     · exact .inr (.inr ⟨y.2,by rw [<- e];simp,rfl⟩)
     · refine .inl ⟨List.mem_cons_of_mem _ h,fun e2=>hn.1 ?_⟩;rw [e,<- e2];exact List.mem_map.2 ⟨x,h,rfl⟩
   · rw [if_neg e] at h;rcases List.mem_cons.1 h with rfl | h
     · exact .inl ⟨List.mem_cons_self ..,e⟩
     · rcases z01u hn.2 x h with ⟨h1,h2⟩ | ⟨h1,h2⟩ | ⟨l,h1,h2⟩
       · exact .inl ⟨List.mem_cons_of_mem _ h1,h2⟩
       · exact .inr (.inl ⟨h1,by rw [List.map_cons,List.mem_cons];exact fun e3=>e3.elim (fun e3=>e e3.symm) h2⟩)
       · exact .inr (.inr ⟨l,List.mem_cons_of_mem _ h1,h2⟩)
theorem zop (p s:Int):∀ G:List (Int×List Int),(addG p s G).length<=G.length+1
 | []=>Nat.le_refl _
 | x::r=>by
   unfold addG;split
   · simp
   · have:=zop p s r;simp only [List.length_cons];omega
def RepG (D:DataW Unit) (G:List (Int×List Int)):Prop:=IsMap D /\ (G.map (·.1)).Nodup /\ (∀ p,has D (z1s p)=true↔p∈G.map (·.1)) /\ ∀ x∈G,∀ z,D.atKey (z1s x.1) z=.slice (ChangeShapes.lits .i64 x.2) []
theorem z08t:RepG (.map []) []:=⟨isMap_empty,by simp,fun p=>by simp [has],by simp⟩
theorem zn7 {a b:List Int} (h:(DataW.slice (ChangeShapes.lits .i64 a) []:DataW Unit)=.slice (ChangeShapes.lits .i64 b) []):a=b:=by
 simp only [DataW.slice.injEq,and_true] at h;unfold ChangeShapes.lits at h;exact (List.map_inj_right (fun x y e=>by simpa using e)).1 h
theorem RepG.look {D:DataW Unit} {G:List (Int×List Int)} (h:RepG D G) {w:World} {base:Nat} {e:TypeId} {v:Value} {zs:List Int} {p:Int} (ho:w.ownsInts base e .i64 v zs) (hat:D.atKey (z1s p) .nil=rowDatum .i64 v zs) :
 (p∉G.map (·.1) /\ zs=[]) \/ ((p,zs)∈G /\ p∈G.map (·.1)):=by
 obtain ⟨h1,h2,h3,h4⟩:=h;by_cases hp:p∈G.map (·.1)
 · obtain ⟨x,hx,rfl⟩:=List.mem_map.1 hp;refine .inr ⟨?_,hp⟩;rw [h4 x hx] at hat;rcases ho.datum (H:=Unit) with ⟨e1,_⟩ | e1
   · rw [e1] at hat;cases hat
   · rw [e1] at hat;rw [<- zn7 hat];exact hx
 · refine .inl ⟨hp,?_⟩;have:has D (z1s p)=false:=by
    cases hh:has D (z1s p)
    · rfl
    · exact absurd ((h3 p).1 hh) hp
   rw [atKey_of_not_has this] at hat;rcases ho.datum (H:=Unit) with ⟨_,e1⟩ | e1
   · exact e1
   · rw [e1] at hat;cases hat
theorem z06j {p q:Int} (h:p≠q):z1s p≠z1s q:=fun e=>h (by simpa [z1s] using e)
theorem RepG.add {D:DataW Unit} {G:List (Int×List Int)} (h:RepG D G) {p s:Int} {zs:List Int} (hz:(p∉G.map (·.1) /\ zs=[]) \/ ((p,zs)∈G /\ p∈G.map (·.1))) :
 RepG (D.put (z1s p) (.slice (ChangeShapes.lits .i64 (zs++[s])) [])) (addG p s G):=by
 obtain ⟨h1,h2,h3,h4⟩:=h;refine ⟨h1.put _ _,z040 h2,fun q=>?_,fun x hx z=>?_⟩
 · by_cases e:q=p
   · subst e;rw [has_put_same h1 (k:=z1s q) trivial,zje];split <;> simp_all
   · rw [has_put_other (z06j e),h3,zje];split
     · rfl
     · simp [e]
 · rcases z01u h2 x hx with ⟨m1,m2⟩ | ⟨rfl,m2⟩ | ⟨l,m1,rfl⟩
   · rw [atKey_put_other (z06j m2)];exact h4 x m1 z
   · rw [atKey_put_same h1 (k:=z1s p) trivial];rcases hz with ⟨_,rfl⟩ | ⟨_,k⟩
     · rfl
     · exact absurd k m2
   · rw [atKey_put_same h1 (k:=z1s p) trivial];have hm:p∈G.map (·.1):=List.mem_map.2 ⟨_,m1,rfl⟩;rcases hz with ⟨k,_⟩ | ⟨k,_⟩
     · exact absurd hm k
     · have e1:=h4 _ m1 .nil;have e2:=h4 _ k .nil;have e3:l=zs:=zn7 (e1.symm.trans e2);rw [e3]
def Rise (k:Nat) (G:List (Int×List Int)):Prop:=(∀ x∈G,x.2≠[] /\ ∀ n∈x.2,0<=n /\ n<k) /\ G.Pairwise (fun a b=>a.2.getD 0 0<b.2.getD 0 0)
theorem z08u:Rise 0 []:=⟨by simp,.nil⟩
theorem Rise.mono {k k':Nat} {G:List (Int×List Int)} (h:Rise k G) (hk:k<=k'):Rise k' G:=⟨fun x hx=>⟨(h.1 x hx).1,fun n hn=>⟨((h.1 x hx).2 n hn).1,by have:=((h.1 x hx).2 n hn).2;omega⟩⟩,h.2⟩
theorem z01v {l:List Int} (h:l≠[]) (m:List Int):(l++m).getD 0 0=l.getD 0 0:=by cases l <;> simp_all
theorem zl6 {k:Nat} {p:Int}:∀ {G:List (Int×List Int)},(∀ x∈G,x.2≠[] /\ ∀ n∈x.2,0<=n /\ n<k)->∀ x∈addG p k G,x.2≠[] /\ (∀ n∈x.2,0<=n /\ n<((k+1:Nat):Int)) /\ ((∃ y∈G,x.2.getD 0 0=y.2.getD 0 0) \/ x.2.getD 0 0=k)
 | [],_,x,hx=>by
   simp [addG] at hx;subst hx;exact ⟨by simp,fun n hn=>by simp at hn;omega,.inr rfl⟩
 | y::r,hG,x,hx=>by
   unfold addG at hx;have hy:=hG y (List.mem_cons_self ..);by_cases e:y.1=p
   · rw [if_pos e] at hx;rcases List.mem_cons.1 hx with rfl | hx
     · refine ⟨by simp,fun n hn=>?_,.inl ⟨y,List.mem_cons_self ..,z01v hy.1 _⟩⟩;rcases List.mem_append.1 hn with h | h
       · have:=hy.2 n h;omega
       · simp at h;omega
     · have:=hG x (List.mem_cons_of_mem _ hx);exact ⟨this.1,fun n hn=>by have:=this.2 n hn;omega,.inl ⟨x,List.mem_cons_of_mem _ hx,rfl⟩⟩
   · rw [if_neg e] at hx;rcases List.mem_cons.1 hx with rfl | hx
     · exact ⟨hy.1,fun n hn=>by have:=hy.2 n hn;omega,.inl ⟨x,List.mem_cons_self ..,rfl⟩⟩
     · obtain ⟨a,b,c⟩:=zl6 (fun z hz=>hG z (List.mem_cons_of_mem _ hz)) x hx;refine ⟨a,b,c.imp (fun ⟨z,hz,e⟩=>⟨z,List.mem_cons_of_mem _ hz,e⟩) id⟩
theorem z06k {l:List Int} (h:l≠[]):l.getD 0 0∈l:=by cases l <;> simp_all
theorem zwk {k:Nat} {p:Int}:∀ {G:List (Int×List Int)},Rise k G->(addG p k G).Pairwise (fun a b=>a.2.getD 0 0<b.2.getD 0 0)
 | [],_=>by simp [addG]
 | y::r,⟨hG,hP⟩=>by
   unfold addG;rw [List.pairwise_cons] at hP;have hy:=hG y (List.mem_cons_self ..);by_cases e:y.1=p
   · rw [if_pos e,List.pairwise_cons];refine ⟨fun a ha=>?_,hP.2⟩;show (y.2++[(k:Int)]).getD 0 0<_;rw [z01v hy.1];exact hP.1 a ha
   · rw [if_neg e,List.pairwise_cons];refine ⟨fun a ha=>?_,zwk ⟨fun z hz=>hG z (List.mem_cons_of_mem _ hz),hP.2⟩⟩;obtain ⟨_,_,c⟩:=zl6 (fun z hz=>hG z (List.mem_cons_of_mem _ hz)) a ha;rcases c with ⟨z,hz,e⟩ | e
     · rw [e];exact hP.1 z hz
     · rw [e];exact (hy.2 _ (z06k hy.1)).2
theorem Rise.add {k:Nat} {G:List (Int×List Int)} (h:Rise k G) (p:Int):Rise (k+1) (addG p k G) :=
 ⟨fun x hx=>let ⟨a,b,_⟩:=zl6 h.1 x hx;⟨a,b⟩,zwk h⟩
end Clk
namespace Clk
open Go
def ofF (MANY:Chip×Int×Int->Option Int) (WANT:Table->Option Int) (WEAR:Chip->Option (Int×Int)) (REST:Chip×Int->Option Int) (VIC:Chip×Table×Int->Option Int) (d:Device):Option Report:=match MANY (d.chip,d.opn,0) with
 | none=>none
 | some f=>match MANY (d.chip,d.opn,2) with
   | none=>none
   | some cl=>match MANY (d.chip,d.opn,3) with
     | none=>none
     | some rt=>match WANT d.table with
       | none=>none
       | some lv=>match WEAR d.chip with
         | none=>none
         | some lm=>if f≠0 then some ⟨f,cl,rt,lv,lm.1,lm.2,false⟩ else match REST (d.chip,d.opn) with
           | none=>none
           | some re=>if re≠0 then some ⟨f,cl,rt,lv,lm.1,lm.2,false⟩ else match VIC (d.chip,d.table,d.opn) with
             | none=>none
             | some vi=>some ⟨f,cl,rt,lv,lm.1,lm.2,decide (vi<0)⟩
theorem z06l {w w':World} {N N':Nat->Prop} (hN:∀ r,N' r->N r \/ w.heap.size<=r) {x:AV} {v:Value} (g:Gr (fun x=>w.heap.size<=x) w w') (h:RelI w N x v):RelI w' N' x v :=
 h.mono g.size (fun r hr _=>g.same r hr (by omega)) fun r hr e=>(hN r e).elim id fun h=>by omega
theorem z01w {w:World} {N:Nat->Prop} {l:List AV} {v:Value} (h:RelI w N (.agg l) v):∃ vs,v=.agg vs /\ vs.size=l.length /\ ∀ (i:Nat) a u,l[i]?=some a->vs[i]?=some u->RelI w N a u:=by
 cases h with
 | agg h hc=>exact ⟨_,rfl,h,hc⟩
theorem z0a4 {w:World} {N:Nat->Prop} {a:AV} {v:Value} (h:RelI w N a v):IRel w N [a] #[v]:=⟨rfl,fun i x u h1 h2=>by
 match i,h1,h2 with
 | 0,h1,h2=>cases h1;cases h2;exact h
 | i+1,h1,h2=>simp at h1⟩
theorem z06m {w:World} {N:Nat->Prop} {a b:AV} {v u:Value} (h:RelI w N a v) (k:RelI w N b u):IRel w N [a,b] #[v,u]:=⟨rfl,fun i x u h1 h2=>by
 match i,h1,h2 with
 | 0,h1,h2=>cases h1;cases h2;exact h
 | 1,h1,h2=>cases h1;cases h2;exact k
 | i+2,h1,h2=>simp at h1⟩
theorem zwl {w:World} {N:Nat->Prop} {a b c:AV} {v u t:Value} (h:RelI w N a v) (k:RelI w N b u) (m:RelI w N c t):IRel w N [a,b,c] #[v,u,t]:=⟨rfl,fun i x u h1 h2=>by
 match i,h1,h2 with
 | 0,h1,h2=>cases h1;cases h2;exact h
 | 1,h1,h2=>cases h1;cases h2;exact k
 | 2,h1,h2=>cases h1;cases h2;exact m
 | i+3,h1,h2=>simp at h1⟩
theorem agg2 {w:World} {N:Nat->Prop} {a b:AV} {v:Value} (h:RelI w N (.agg [a,b]) v):∃ x y,v=.agg #[x,y] /\ RelI w N a x /\ RelI w N b y:=by
 obtain ⟨⟨l⟩,rfl,hs,hc⟩:=z01w h;match l,hs with
 | [x,y],_=>exact ⟨x,y,rfl,hc 0 a x rfl rfl,hc 1 b y rfl rfl⟩
theorem z06n {w:World} {N:Nat->Prop} {a b:AV} {x y:Value} (h:RelI w N a x) (k:RelI w N b y):RelI w N (.agg [a,b]) (.agg #[x,y]):=.agg rfl (z06m h k).2
theorem z06o {w:World} {N:Nat->Prop} {a b c d:AV} {x y z t:Value} (h1:RelI w N a x) (h2:RelI w N b y) (h3:RelI w N c z) (h4:RelI w N d t):RelI w N (.agg [a,b,c,d]) (.agg #[x,y,z,t]):=.agg rfl fun i p q e1 e2=>by
 match i,e1,e2 with
 | 0,e1,e2=>cases e1;cases e2;exact h1
 | 1,e1,e2=>cases e1;cases e2;exact h2
 | 2,e1,e2=>cases e1;cases e2;exact h3
 | 3,e1,e2=>cases e1;cases e2;exact h4
 | i+4,e1,e2=>simp at e1
theorem agg12 {w:World} {N:Nat->Prop} {a0 a1 a2 a3 a4 a5 a6 a7 a8 a9 a10 a11:AV} {v:Value} (h:RelI w N (.agg [a0,a1,a2,a3,a4,a5,a6,a7,a8,a9,a10,a11]) v) :
 ∃ v0 v1 v2 v3 v4 v5 v6 v7 v8 v9 v10 v11,v=.agg #[v0,v1,v2,v3,v4,v5,v6,v7,v8,v9,v10,v11] /\ RelI w N a4 v4 /\ RelI w N a5 v5 /\ RelI w N a6 v6 /\ RelI w N a7 v7 /\ RelI w N a8 v8 /\ RelI w N a9 v9 /\ RelI w N a11 v11:=by
 obtain ⟨⟨l⟩,rfl,hs,hc⟩:=z01w h;match l,hs with
 | [v0,v1,v2,v3,v4,v5,v6,v7,v8,v9,v10,v11],_=>exact ⟨v0,v1,v2,v3,v4,v5,v6,v7,v8,v9,v10,v11,rfl,hc 4 _ _ rfl rfl,hc 5 _ _ rfl rfl,hc 6 _ _ rfl rfl,hc 7 _ _ rfl rfl,hc 8 _ _ rfl rfl,hc 9 _ _ rfl rfl,hc 11 _ _ rfl rfl⟩
theorem zoq {P:Program} {l:List (FuncId×Spec)} (hl:zk P (zl l)) {f:FuncId} {ps:List TC} {h:z3z ps->Option Int} (hs:z0p l f=some ⟨ps,[.i],h⟩) {x:z3z ps} {y:Int} (hx:h x=some y) {w:World} {vs:Array Value}
 (hr:IRel w (fun _=>False) (encL ps x) vs):Calls P f vs w fun en w'=>en=.returned (.int .i64 y) /\ Gr (fun _=>False) w w' :=
 (zzt (s:=⟨ps,[.i],h⟩) hl hs hx (fun _ h=>h.elim) hr).mono fun en w' he=>by
   obtain ⟨v,e1,g,hv⟩:=zl4 he;have:=zjd hv;subst this;exact ⟨e1,g⟩
theorem z0d7 {P:Program} {l:List (FuncId×Spec)} (hl:zk P (zl l)) {f:FuncId} {ps:List TC} {h:z3z ps->Option Str} (hs:z0p l f=some ⟨ps,[.str],h⟩) {x:z3z ps} {y:Str} (hx:h x=some y) {w:World} {vs:Array Value}
 (hr:IRel w (fun _=>False) (encL ps x) vs):Calls P f vs w fun en w'=>en=.returned (.string ⟨y.toArray⟩) /\ Gr (fun _=>False) w w' :=
 (zzt (s:=⟨ps,[.str],h⟩) hl hs hx (fun _ h=>h.elim) hr).mono fun en w' he=>by
   obtain ⟨v,e1,g,hv⟩:=zl4 he;have:=z08r hv;subst this;exact ⟨e1,g⟩
theorem z0bw {P:Program} {l:List (FuncId×Spec)} (hl:zk P (zl l)) {f:FuncId} {ps:List TC} {h:z3z ps->Option (Int×Int)} (hs:z0p l f=some ⟨ps,[.i,.i],h⟩) {x:z3z ps} {y z:Int} (hx:h x=some (y,z)) {w:World} {vs:Array Value}
 (hr:IRel w (fun _=>False) (encL ps x) vs):Calls P f vs w fun en w'=>en=.returned (.tuple #[.int .i64 y,.int .i64 z]) /\ Gr (fun _=>False) w w' :=
 (zzt (s:=⟨ps,[.i,.i],h⟩) hl hs hx (fun _ h=>h.elim) hr).mono fun en w' he=>by
   obtain ⟨v,e1,g,hv⟩:=zl4 he;cases hv with
   | @tup _ vs h hc =>
     obtain ⟨l⟩:=vs;match l,h with
     | [a,b],_ =>
       have k1:a=.int .i64 y:=zjd (hc 0 (iA y) a rfl rfl);have k2:b=.int .i64 z:=zjd (hc 1 (iA z) b rfl rfl);subst k1 k2;exact ⟨e1,g⟩
theorem zwm {w:World} {N:Nat->Prop} {base:Nat} {e:TypeId} (hN:∀ r,N r->r<base) {v:Value} {vs:List Value} {as:List AV} (ho:w.ownsRow base e 1 v vs.length vs) (hlen:as.length=vs.length)
 (hr:∀ (i:Nat) a u,as[i]?=some a->vs[i]?=some u->RelI w N a u):RelI w N (.rows (as.map fun a=>[a])) v:=by
 rcases ho.2 with ⟨rfl,h0⟩ | ⟨g,cap,cur,e0,hbg,hg,hn,_,_,_⟩
 · have:as=[]:=List.length_eq_zero_iff.1 (by omega);subst this;exact z0bv
 · have hl2:(as.map fun a=>[a]).length=vs.length:=by rw [List.length_map,hlen]
   rw [e0] at ho ⊢;rw [<- hl2];refine RelI.rows (k:=1) (u:=fun i _=>vs.getD i undef) (by rw [hl2];exact hn) (fun i row h=>?_) (fun _=>⟨_,rfl,rfl,fun h=>Nat.not_lt.2 hbg (hN _ h),(Array.getElem?_eq_some_iff.1 hg).1⟩) (fun ad i row j x ha h1 h2=>?_) (fun i row j x h1 h2=>?_)
   · rw [List.getElem?_map] at h;obtain ⟨a,_,rfl⟩:=Option.map_eq_some_iff.1 h;rfl
   · rw [List.getElem?_map] at h1;obtain ⟨a,h3,rfl⟩:=Option.map_eq_some_iff.1 h1;cases ha;match j,h2 with
     | 0,h2 =>
       have hi:i<vs.length:=by rw [<- hlen];exact (zG.1 h3).1
       have:=ho.cellAt i (by omega);rw [zH hi] at this;simp only [Nat.zero_add,Nat.mul_one,Nat.add_zero];rw [this,zI,zH hi];rfl
   · rw [List.getElem?_map] at h1;obtain ⟨a,h3,rfl⟩:=Option.map_eq_some_iff.1 h1;match j,h2 with
     | 0,h2 =>
       cases h2;have hi:i<vs.length:=by rw [<- hlen];exact (zG.1 h3).1
       refine hr i _ _ h3 ?_;rw [zI,zH hi];rfl
end Clk
namespace Clk
open Go
noncomputable def zai (a0:Geometry):Option Bool :=
 cond (decide (1<=a0.blocks))
  (cond (decide (a0.blocks<=32))
    (cond (decide (2<=a0.pages))
      (cond (decide (a0.pages<=16))
        (cond (decide (1<=a0.sectors))
          (cond (decide (a0.sectors<=64))
            (cond (decide (0<=a0.spare))
              (cond (decide (a0.spare<=32))
                (some (decide ((w64 (2*a0.sectors))<(w64 ((w64 ((w64 (a0.blocks - (w64 (2*a0.spare)))) - 3))*a0.pages)))))
                (some false))
              (some false))
            (some false))
          (some false))
        (some false))
      (some false))
    (some false))
  (some false)
noncomputable def zaj (x:Geometry):Option Bool:=zai x
noncomputable def z40 (ih0:(Int×Found×(List Int)×(List Int))->Option Table) (v1:Int) (v2:Found) (v3:(List Int)) (v4:(List Int)):Option Table :=
 cond (decide (v1<(v2.record.keys.length:Int)))
  (cond (decide (0<=v1)) (cond (decide (v1<(v2.record.keys.length:Int))) (cond (decide ((v2.record.keys.getD v1.toNat 0)<0))
    (ih0 ((w64 (v1+1)),v2,v3,v4))
    (cond (decide ((v3.length:Int)<=(v2.record.keys.getD v1.toNat 0)))
      (ih0 ((w64 (v1+1)),v2,v3,v4))
      (cond (decide ((v4.length:Int)<=(v2.record.keys.getD v1.toNat 0)))
        (ih0 ((w64 (v1+1)),v2,v3,v4))
        (cond (decide (v2.record.kind=1))
          (cond (decide (0<=(v2.record.keys.getD v1.toNat 0))) (cond (decide ((v2.record.keys.getD v1.toNat 0)<(v3.length:Int))) (cond (decide ((Int.toNat (v2.record.keys.getD v1.toNat 0))<v3.length)) (cond (decide (0<=(v2.record.keys.getD v1.toNat 0))) (cond (decide ((v2.record.keys.getD v1.toNat 0)<(v4.length:Int))) (cond (decide ((Int.toNat (v2.record.keys.getD v1.toNat 0))<v4.length)) (ih0 ((w64 (v1+1)),v2,(v3.set (Int.toNat (v2.record.keys.getD v1.toNat 0)) v2.place),(v4.set (Int.toNat (v2.record.keys.getD v1.toNat 0)) v2.place))) none) none) none) none) none) none)
          (cond (decide (v2.record.kind=2))
            (cond (decide (v1<(v2.record.values.length:Int)))
              (cond (decide (0<=v1)) (cond (decide (v1<(v2.record.values.length:Int))) (cond (decide (0<=(v2.record.keys.getD v1.toNat 0))) (cond (decide ((v2.record.keys.getD v1.toNat 0)<(v3.length:Int))) (cond (decide ((Int.toNat (v2.record.keys.getD v1.toNat 0))<v3.length)) (cond (decide (0<=(v2.record.keys.getD v1.toNat 0))) (cond (decide ((v2.record.keys.getD v1.toNat 0)<(v4.length:Int))) (cond (decide ((Int.toNat (v2.record.keys.getD v1.toNat 0))<v4.length)) (ih0 ((w64 (v1+1)),v2,(v3.set (Int.toNat (v2.record.keys.getD v1.toNat 0)) (v2.record.values.getD v1.toNat 0)),(v4.set (Int.toNat (v2.record.keys.getD v1.toNat 0)) v2.place))) none) none) none) none) none) none) none) none)
              (ih0 ((w64 (v1+1)),v2,v3,v4)))
            (ih0 ((w64 (v1+1)),v2,v3,v4))))))) none) none)
  (some (Table.mk v3 v4))
noncomputable def z7n:=fun ih (x:(Int×Found×(List Int)×(List Int)))=>z40 ih x.1 x.2.1 x.2.2.1 x.2.2.2
theorem z99 (ih) (x):z7n ih x=z40 ih x.1 x.2.1 x.2.2.1 x.2.2.2:=rfl
noncomputable def z8b (N:Nat) (a0:Table) (a1:Found):Option Table :=
 cond (decide ((0+a0.map.length)*8<=70368744177664)) (cond (decide (0+a0.map.length<=70368744177664)) (cond (decide ((0+a0.by_.length)*8<=70368744177664)) (cond (decide (0+a0.by_.length<=70368744177664)) (ze z7n N (0,a1,([]++a0.map),([]++a0.by_))) none) none) none) none
noncomputable def z35 (x:Table×Found):Option Table:=lim fun N=>z8b N x.1 x.2
noncomputable def z6f (ih0:(Int×Int×(List Int)×(List Int))->Option Table) (v1:Int) (v2:Int) (v3:(List Int)) (v4:(List Int)):Option Table :=
 cond (decide (v2<v1))
  (cond (decide (v2<64))
    (cond (decide ((v3.length+[(-1)].length)*8<=70368744177664)) (cond (decide (v3.length+[(-1)].length<=70368744177664)) (cond (decide ((v4.length+[(-1)].length)*8<=70368744177664)) (cond (decide (v4.length+[(-1)].length<=70368744177664)) (ih0 (v1,(w64 (v2+1)),(v3++[(-1)]),(v4++[(-1)]))) none) none) none) none)
    (some (Table.mk v3 v4)))
  (some (Table.mk v3 v4))
noncomputable def zbd:=fun ih (x:(Int×Int×(List Int)×(List Int)))=>z6f ih x.1 x.2.1 x.2.2.1 x.2.2.2
theorem zch (ih) (x):zbd ih x=z6f ih x.1 x.2.1 x.2.2.1 x.2.2.2:=rfl
noncomputable def zor (N:Nat) (a0:Int):Option Table :=
 ze zbd N (a0,0,[],[])
noncomputable def zhu (x:Int):Option Table:=lim fun N=>zor N x
noncomputable def z4z (ih0:((List Int)×Int)->Option Bool) (v1:(List Int)) (v2:Int):Option Bool :=
 cond (decide (v2<(v1.length:Int)))
  (cond (decide (0<=v2)) (cond (decide (v2<(v1.length:Int))) (cond (decide ((v1.getD v2.toNat 0)<0))
    (some false)
    (cond (decide (0<=v2)) (cond (decide (v2<(v1.length:Int))) (cond (decide (64<=(v1.getD v2.toNat 0)))
      (some false)
      (cond (decide (0<v2))
        (cond (decide (0<=v2)) (cond (decide (v2<(v1.length:Int))) (cond (decide (0<=(w64 (v2 - 1)))) (cond (decide ((w64 (v2 - 1))<(v1.length:Int))) (cond (decide ((v1.getD v2.toNat 0)<=(v1.getD (Int.toNat (w64 (v2 - 1))) 0)))
          (some false)
          (ih0 (v1,(w64 (v2+1))))) none) none) none) none)
        (ih0 (v1,(w64 (v2+1)))))) none) none)) none) none)
  (cond (decide (0<(v1.length:Int)))
    (some (decide ((v1.length:Int)<=8)))
    (some false))
noncomputable def z9a:=fun ih (x:((List Int)×Int))=>z4z ih x.1 x.2
theorem zak (ih) (x):z9a ih x=z4z ih x.1 x.2:=rfl
noncomputable def zlx (N:Nat) (a0:(List Int)):Option Bool :=
 ze z9a N (a0,0)
noncomputable def zer (x:(List Int)):Option Bool:=lim fun N=>zlx N x
noncomputable def z41 (ih0:(Int×Record)->Option Bool) (v1:Int) (v2:Record):Option Bool :=
 cond (decide (v1<(v2.values.length:Int)))
  (cond (decide (0<=v1)) (cond (decide (v1<(v2.values.length:Int))) (cond (decide ((v2.values.getD v1.toNat 0)<(-1)))
    (some false)
    (cond (decide (0<=v1)) (cond (decide (v1<(v2.values.length:Int))) (cond (decide (512<=(v2.values.getD v1.toNat 0)))
      (some false)
      (ih0 ((w64 (v1+1)),v2))) none) none)) none) none)
  (cond (decide (v2.kind=2))
    (some (decide ((v2.values.length:Int)=(v2.keys.length:Int))))
    (some false))
noncomputable def z7o:=fun ih (x:(Int×Record))=>z41 ih x.1 x.2
theorem z9b (ih) (x):z7o ih x=z41 ih x.1 x.2:=rfl
noncomputable def zcx (N:Nat) (a0:Record):Option Bool :=
 cond (decide (a0.seq<0))
  (some false)
  (cond (decide (1099511627776<a0.seq))
    (some false)
    (Option.bind (zer a0.keys) fun r1 =>
    cond (!r1)
     (some false)
     (cond (decide (a0.kind=1))
       (some (decide ((a0.values.length:Int)=0)))
       (ze z7o N (0,a0)))))
noncomputable def zcy (x:Record):Option Bool:=lim fun N=>zcx N x
noncomputable def z6g (ih0:(Int×Str)->Option Str) (v1:Int) (v2:Str):Option Str :=
 cond (decide (127<v1))
  (cond (decide (v2.length+(bytesOf [(Go.IntKind.u8.wrap (w64 (128+(Int.tmod v1 128))))]).length<=9223372036854775807)) (ih0 ((w64 (Int.tdiv v1 128)),(v2++(bytesOf [(Go.IntKind.u8.wrap (w64 (128+(Int.tmod v1 128))))])))) none)
  (cond (decide (v2.length+(bytesOf [(Go.IntKind.u8.wrap v1)]).length<=9223372036854775807)) (some (v2++(bytesOf [(Go.IntKind.u8.wrap v1)]))) none)
noncomputable def zbe:=fun ih (x:(Int×Str))=>z6g ih x.1 x.2
theorem zci (ih) (x):zbe ih x=z6g ih x.1 x.2:=rfl
noncomputable def zhv (N:Nat) (a0:Int):Option Str :=
 cond (decide (a0<0))
  (some [])
  (cond (decide (1099511627776<a0))
    (some [])
    (ze zbe N (a0,[])))
noncomputable def zcz (x:Int):Option Str:=lim fun N=>zhv N x
noncomputable def z51 (ih0:((List Int)×Str×Int)->Option (Str×Int)) (v1:(List Int)) (v2:Str) (v3:Int):Option (Str×Int) :=
 cond (decide (v3<(v1.length:Int)))
  (cond (decide (0<=v3)) (cond (decide (v3<(v1.length:Int))) (Option.bind (zcz (v1.getD v3.toNat 0)) fun r4 =>
  cond (decide (r4=[]))
   (some ([],1))
   (cond (decide (v2.length+r4.length<=9223372036854775807)) (ih0 (v1,(v2++r4),(w64 (v3+1)))) none)) none) none)
  (some (v2,0))
noncomputable def z9c:=fun ih (x:((List Int)×Str×Int))=>z51 ih x.1 x.2.1 x.2.2
theorem zal (ih) (x):z9c ih x=z51 ih x.1 x.2.1 x.2.2:=rfl
noncomputable def zes (N:Nat) (a0:(List Int)):Option (Str×Int) :=
 Option.bind (zcz (a0.length:Int)) fun r1 =>
 ze z9c N (a0,r1,0)
noncomputable def z75 (x:(List Int)):Option (Str×Int):=lim fun N=>zes N x
noncomputable def z52 (ih0:(Int×Record×(List Int)×(List Int))->Option Str) (v1:Int) (v2:Record) (v3:(List Int)) (v4:(List Int)):Option Str :=
 cond (decide (v1<(v2.values.length:Int)))
  (cond (decide (0<=v1)) (cond (decide (v1<(v2.values.length:Int))) (cond (decide ((v4.length+[(w64 ((v2.values.getD v1.toNat 0)+1))].length)*8<=70368744177664)) (cond (decide (v4.length+[(w64 ((v2.values.getD v1.toNat 0)+1))].length<=70368744177664)) (ih0 ((w64 (v1+1)),v2,v3,(v4++[(w64 ((v2.values.getD v1.toNat 0)+1))]))) none) none) none) none)
  (Option.bind (z75 v3) fun r5 =>
  Option.bind (z75 v2.keys) fun r6 =>
  Option.bind (z75 v4) fun r7 =>
  cond (decide (r5.1.length+r6.1.length<=9223372036854775807)) (cond (decide ((r5.1++r6.1).length+r7.1.length<=9223372036854775807)) (some ((r5.1++r6.1)++r7.1)) none) none)
noncomputable def z9d:=fun ih (x:(Int×Record×(List Int)×(List Int)))=>z52 ih x.1 x.2.1 x.2.2.1 x.2.2.2
theorem zam (ih) (x):z9d ih x=z52 ih x.1 x.2.1 x.2.2.1 x.2.2.2:=rfl
noncomputable def zly (N:Nat) (a0:Record):Option Str :=
 ze z9d N (0,a0,[a0.kind,a0.seq],[])
noncomputable def zet (x:Record):Option Str:=lim fun N=>zly N x
noncomputable def zd0 (a0:Int):Option Str :=
 cond (decide (a0<0))
  (some [])
  (cond (decide (4294967295<a0))
    (some [])
    (some (bytesOf [(Go.IntKind.u8.wrap (Int.tmod a0 256)),(Go.IntKind.u8.wrap (Int.tmod (w64 (Int.tdiv a0 256)) 256)),(Go.IntKind.u8.wrap (Int.tmod (w64 (Int.tdiv a0 65536)) 256)),(Go.IntKind.u8.wrap (w64 (Int.tdiv a0 16777216)))])))
noncomputable def z8c (x:Int):Option Str:=zd0 x
noncomputable def zeu (a0:Int):Option Int :=
 cond (decide ((Int.tmod a0 2)=1))
  (some (w64 (bXor .i64 (w64 (Int.tdiv a0 2)) 3988292384)))
  (some (w64 (Int.tdiv a0 2)))
noncomputable def zan (x:Int):Option Int:=zeu x
noncomputable def zbf (ih0:(Str×Int×Int)->Option Int) (ih1:(Str×Int×Int×Int)->Option Int) (v2:Str) (v3:Int) (v4:Int) (v5:Int):Option Int :=
 cond (decide (v5<8))
  (Option.bind (zan v3) fun r6 =>
  ih1 (v2,r6,v4,(w64 (v5+1))))
  (ih0 (v2,v3,(w64 (v4+1))))
noncomputable def z6h (ih4:(Str×Int×Int)->Option Int):=fun ih (x:(Str×Int×Int×Int))=>zbf ih4 ih x.1 x.2.1 x.2.2.1 x.2.2.2
noncomputable def zbg (N:Nat) (ih0:(Str×Int×Int)->Option Int) (v1:Str) (v2:Int) (v3:Int):Option Int :=
 cond (decide (v3<(v1.length:Int)))
  (cond (decide (0<=v3)) (cond (decide (v3<(v1.length:Int))) (ze (z6h ih0) N (v1,(w64 (bXor .i64 v2 (w64 ((v1.getD v3.toNat 0).toNat:Int)))),v3,0)) none) none)
  (some (w64 (bXor .i64 v2 4294967295)))
noncomputable def z6i (N:Nat):=fun ih (x:(Str×Int×Int))=>zbg N ih x.1 x.2.1 x.2.2
noncomputable def zos (N:Nat) (a0:Str):Option Int :=
 ze (z6i N) N (a0,4294967295,0)
noncomputable def zhw (x:Str):Option Int:=lim fun N=>zos N x
noncomputable def z6j (a0:Record) (a1:Str):Option (Str×Int) :=
 Option.bind (zcy a0) fun r1 =>
 cond (!r1)
  (some ([],1))
  (cond (decide (16<(a1.length:Int)))
    (some ([],1))
    (Option.bind (zet a0) fun r2 =>
    cond (decide (r2.length+a1.length<=9223372036854775807)) (Option.bind (zhw (r2++a1)) fun r3 =>
    Option.bind (z8c r3) fun r4 =>
    cond (decide (r2.length+r4.length<=9223372036854775807)) (some ((r2++r4),0)) none) none))
noncomputable def z6k (x:Record×Str):Option (Str×Int):=z6j x.1 x.2
noncomputable def z2p (ih0:(Str×Int×Int×Int)->Option (Int×Str×Bool)) (v1:Str) (v2:Int) (v3:Int) (v4:Int):Option (Int×Str×Bool) :=
 cond (decide (v4<(v1.length:Int)))
  (cond (decide (v4<6))
    (cond (decide (0<=v4)) (cond (decide (v4<(v1.length:Int))) (cond (decide ((w64 ((v1.getD v4.toNat 0).toNat:Int))<128))
      (cond (decide (1099511627776<(w64 (v2+(w64 ((Int.tmod (w64 ((v1.getD v4.toNat 0).toNat:Int)) 128)*v3))))))
        (some (0,[],false))
        (cond (decide (0<v4))
          (cond (decide ((w64 ((v1.getD v4.toNat 0).toNat:Int))=0))
            (some (0,[],false))
            (cond (decide (0<=(w64 (v4+1)))) (cond (decide ((w64 (v4+1))<=(v1.length:Int))) (some ((w64 (v2+(w64 ((Int.tmod (w64 ((v1.getD v4.toNat 0).toNat:Int)) 128)*v3)))),(v1.drop (Int.toNat (w64 (v4+1)))),true)) none) none))
          (cond (decide (0<=(w64 (v4+1)))) (cond (decide ((w64 (v4+1))<=(v1.length:Int))) (some ((w64 (v2+(w64 ((Int.tmod (w64 ((v1.getD v4.toNat 0).toNat:Int)) 128)*v3)))),(v1.drop (Int.toNat (w64 (v4+1)))),true)) none) none)))
      (ih0 (v1,(w64 (v2+(w64 ((Int.tmod (w64 ((v1.getD v4.toNat 0).toNat:Int)) 128)*v3)))),(w64 (v3*128)),(w64 (v4+1))))) none) none)
    (some (0,[],false)))
  (some (0,[],false))
noncomputable def z9e:=fun ih (x:(Str×Int×Int×Int))=>z2p ih x.1 x.2.1 x.2.2.1 x.2.2.2
theorem z54 (ih) (x):z9e ih x=z2p ih x.1 x.2.1 x.2.2.1 x.2.2.2:=rfl
noncomputable def zlz (N:Nat) (a0:Str):Option (Int×Str×Bool) :=
 ze z9e N (a0,0,1,0)
noncomputable def zao (x:Str):Option (Int×Str×Bool):=lim fun N=>zlz N x
noncomputable def z36 (ih0:(Int×Str×Int×(List Int))->Option ((List Int)×Str×Int)) (v1:Int) (v2:Str) (v3:Int) (v4:(List Int)):Option ((List Int)×Str×Int) :=
 cond (decide (v3<v1))
  (Option.bind (zao v2) fun r5 =>
  cond (!r5.2.2)
   (some ([],[],20))
   (cond (decide ((v4.length+[r5.1].length)*8<=70368744177664)) (cond (decide (v4.length+[r5.1].length<=70368744177664)) (ih0 (v1,r5.2.1,(w64 (v3+1)),(v4++[r5.1]))) none) none))
  (some (v4,v2,0))
noncomputable def z67:=fun ih (x:(Int×Str×Int×(List Int)))=>z36 ih x.1 x.2.1 x.2.2.1 x.2.2.2
theorem z83 (ih) (x):z67 ih x=z36 ih x.1 x.2.1 x.2.2.1 x.2.2.2:=rfl
noncomputable def zbh (N:Nat) (a0:Str):Option ((List Int)×Str×Int) :=
 Option.bind (zao a0) fun r1 =>
 cond (!r1.2.2)
  (some ([],[],20))
  (cond (decide (((r1.2.1.length:Nat):Int)<r1.1))
    (some ([],[],20))
    (ze z67 N (r1.1,r1.2.1,0,[])))
noncomputable def z3v (x:Str):Option ((List Int)×Str×Int):=lim fun N=>zbh N x
noncomputable def z37 (ih0:(Str×Str×(List Int)×Int×Int×Int×(List Int)×(List Int))->Option (Record×Int)) (v1:Str) (v2:Str) (v3:(List Int)) (v4:Int) (v5:Int) (v6:Int) (v7:(List Int)) (v8:(List Int)):Option (Record×Int) :=
 cond (decide (v4<(v3.length:Int)))
  (cond (decide (0<=v4)) (cond (decide (v4<(v3.length:Int))) (cond (decide ((v8.length+[(w64 ((v3.getD v4.toNat 0) - 1))].length)*8<=70368744177664)) (cond (decide (v8.length+[(w64 ((v3.getD v4.toNat 0) - 1))].length<=70368744177664)) (ih0 (v1,v2,v3,(w64 (v4+1)),v5,v6,v7,(v8++[(w64 ((v3.getD v4.toNat 0) - 1))]))) none) none) none) none)
  (Option.bind (z6k ((Record.mk v5 v6 v7 v8),v2)) fun r9 =>
  cond (!(decide (r9.2=0)))
   (some ((Record.mk 0 0 [] []),30))
   (cond (!(decide (r9.1=v1)))
     (some ((Record.mk 0 0 [] []),30))
     (some ((Record.mk v5 v6 v7 v8),0))))
noncomputable def z68:=fun ih (x:(Str×Str×(List Int)×Int×Int×Int×(List Int)×(List Int)))=>z37 ih x.1 x.2.1 x.2.2.1 x.2.2.2.1 x.2.2.2.2.1 x.2.2.2.2.2.1 x.2.2.2.2.2.2.1 x.2.2.2.2.2.2.2
theorem z84 (ih) (x):z68 ih x=z37 ih x.1 x.2.1 x.2.2.1 x.2.2.2.1 x.2.2.2.2.1 x.2.2.2.2.2.1 x.2.2.2.2.2.2.1 x.2.2.2.2.2.2.2:=rfl
noncomputable def z6l (N:Nat) (a0:Str) (a1:Str):Option (Record×Int) :=
 Option.bind (z3v a0) fun r1 =>
 Option.bind (z3v r1.2.1) fun r2 =>
 Option.bind (z3v r2.2.1) fun r3 =>
 cond (!(decide (r1.2.2=0)))
  (some ((Record.mk 0 0 [] []),30))
  (cond (!(decide (r2.2.2=0)))
    (some ((Record.mk 0 0 [] []),30))
    (cond (!(decide (r3.2.2=0)))
      (some ((Record.mk 0 0 [] []),30))
      (cond (!(decide (((r1.1.length:Nat):Int)=2)))
        (some ((Record.mk 0 0 [] []),30))
        (cond (decide (0<((r1.1.length:Nat):Int))) (cond (decide (1<((r1.1.length:Nat):Int))) (ze z68 N (a0,a1,r3.1,0,(r1.1.getD 0 0),(r1.1.getD 1 0),r2.1,[])) none) none))))
noncomputable def zbi (x:Str×Str):Option (Record×Int):=lim fun N=>z6l N x.1 x.2
noncomputable def zap (a0:Page):Option (Int×Record) :=
 cond (!a0.written)
  (some (0,(Record.mk 0 0 [] [])))
  (Option.bind (zbi (a0.tag,a0.data)) fun r1 =>
  cond (!(decide (r1.2=0)))
   (some (2,(Record.mk 0 0 [] [])))
   (some (1,r1.1)))
noncomputable def zev (x:Page):Option (Int×Record):=zap x
noncomputable def z8d (a0:Int) (a1:Int):Option Int :=
 cond (decide (a0<0))
  (some (-1))
  (cond (decide (32<=a0))
    (some (-1))
    (cond (decide (a1<0))
      (some (-1))
      (cond (decide (16<=a1))
        (some (-1))
        (some (w64 ((w64 (a0*16))+a1))))))
noncomputable def z38 (x:Int×Int):Option Int:=z8d x.1 x.2
noncomputable def z8e (a0:Found) (a1:Found):Option Bool :=
 cond (decide (a0.record.seq<a1.record.seq))
  (some true)
  (cond (decide (a0.record.seq=a1.record.seq))
    (some (decide (a0.place<a1.place)))
    (some false))
noncomputable def zd1 (x:Found×Found):Option Bool:=z8e x.1 x.2
noncomputable def z27 (ih0:((List Found)×Bool×Int×Found×(List Found))->Option ((List Found))) (v1:(List Found)) (v2:Bool) (v3:Int) (v4:Found) (v5:(List Found)):Option ((List Found)) :=
 cond (decide (v3<(v1.length:Int)))
  (cond (!v2)
    (cond (decide (0<=v3)) (cond (decide (v3<(v1.length:Int))) (Option.bind (zd1 (v4,(v1.getD v3.toNat default))) fun r6 =>
    cond r6
     (cond (decide ((v5.length+[v4].length)*72<=70368744177664)) (cond (decide (v5.length+[v4].length<=70368744177664)) (cond (decide (0<=v3)) (cond (decide (v3<(v1.length:Int))) (cond (decide (((v5++[v4]).length+[(v1.getD v3.toNat default)].length)*72<=70368744177664)) (cond (decide ((v5++[v4]).length+[(v1.getD v3.toNat default)].length<=70368744177664)) (ih0 (v1,true,(w64 (v3+1)),v4,((v5++[v4])++[(v1.getD v3.toNat default)]))) none) none) none) none) none) none)
     (cond (decide (0<=v3)) (cond (decide (v3<(v1.length:Int))) (cond (decide ((v5.length+[(v1.getD v3.toNat default)].length)*72<=70368744177664)) (cond (decide (v5.length+[(v1.getD v3.toNat default)].length<=70368744177664)) (ih0 (v1,v2,(w64 (v3+1)),v4,(v5++[(v1.getD v3.toNat default)]))) none) none) none) none)) none) none)
    (cond (decide (0<=v3)) (cond (decide (v3<(v1.length:Int))) (cond (decide ((v5.length+[(v1.getD v3.toNat default)].length)*72<=70368744177664)) (cond (decide (v5.length+[(v1.getD v3.toNat default)].length<=70368744177664)) (ih0 (v1,v2,(w64 (v3+1)),v4,(v5++[(v1.getD v3.toNat default)]))) none) none) none) none))
  (cond (!v2)
    (cond (decide ((v5.length+[v4].length)*72<=70368744177664)) (cond (decide (v5.length+[v4].length<=70368744177664)) (some (v5++[v4])) none) none)
    (some v5))
noncomputable def z6m:=fun ih (x:((List Found)×Bool×Int×Found×(List Found)))=>z27 ih x.1 x.2.1 x.2.2.1 x.2.2.2.1 x.2.2.2.2
theorem z3a (ih) (x):z6m ih x=z27 ih x.1 x.2.1 x.2.2.1 x.2.2.2.1 x.2.2.2.2:=rfl
noncomputable def zot (N:Nat) (a0:(List Found)) (a1:Found):Option ((List Found)) :=
 ze z6m N (a0,false,0,a1,[])
noncomputable def zhx (x:(List Found)×Found):Option ((List Found)):=lim fun N=>zot N x.1 x.2
noncomputable def z6n (ih0:((List Found)×Int×Chip)->Option ((List Found))) (ih1:((List Found)×Int×Int×Chip)->Option ((List Found))) (v2:(List Found)) (v3:Int) (v4:Int) (v5:Chip):Option ((List Found)) :=
 cond (decide (0<=v3)) (cond (decide (v3<(v5.blocks.length:Int))) (cond (decide (v4<(((v5.blocks.getD v3.toNat default).pages.length:Nat):Int)))
  (cond (decide (0<=v3)) (cond (decide (v3<(v5.blocks.length:Int))) (cond (decide (0<=v4)) (cond (decide (v4<(((v5.blocks.getD v3.toNat default).pages.length:Nat):Int))) (Option.bind (zev ((v5.blocks.getD v3.toNat default).pages.getD v4.toNat default)) fun r6 =>
  Option.bind (z38 (v3,v4)) fun r7 =>
  cond (decide (r6.1=1))
   (cond (decide (0<=r7))
     (Option.bind (zhx (v2,(Found.mk r7 r6.2))) fun r8 =>
     ih1 (r8,v3,(w64 (v4+1)),v5))
     (ih1 (v2,v3,(w64 (v4+1)),v5)))
   (ih1 (v2,v3,(w64 (v4+1)),v5))) none) none) none) none)
  (ih0 (v2,(w64 (v3+1)),v5))) none) none
noncomputable def zbj (ih4:((List Found)×Int×Chip)->Option ((List Found))):=fun ih (x:((List Found)×Int×Int×Chip))=>z6n ih4 ih x.1 x.2.1 x.2.2.1 x.2.2.2
theorem zcj (ih4:((List Found)×Int×Chip)->Option ((List Found))) (ih) (x):zbj ih4 ih x=z6n ih4 ih x.1 x.2.1 x.2.2.1 x.2.2.2:=rfl
noncomputable def z6o (N:Nat) (ih0:((List Found)×Int×Chip)->Option ((List Found))) (v1:(List Found)) (v2:Int) (v3:Chip):Option ((List Found)) :=
 cond (decide (v2<(v3.blocks.length:Int)))
  (ze (zbj ih0) N (v1,v2,0,v3))
  (some v1)
noncomputable def zbk (N:Nat):=fun ih (x:((List Found)×Int×Chip))=>z6o N ih x.1 x.2.1 x.2.2
theorem zck (N:Nat) (ih) (x):zbk N ih x=z6o N ih x.1 x.2.1 x.2.2:=rfl
noncomputable def zou (N:Nat) (a0:Chip):Option ((List Found)) :=
 ze (zbk N) N ([],0,a0)
noncomputable def zhy (x:Chip):Option ((List Found)):=lim fun N=>zou N x
noncomputable def z3b (ih0:((List Found)×Int×Int×Table)->Option (Table×Int)) (v1:(List Found)) (v2:Int) (v3:Int) (v4:Table):Option (Table×Int) :=
 cond (decide (v3<(v1.length:Int)))
  (cond (decide (0<=v3)) (cond (decide (v3<(v1.length:Int))) (Option.bind (z35 (v4,(v1.getD v3.toNat default))) fun r5 =>
  cond (decide (0<=v3)) (cond (decide (v3<(v1.length:Int))) (ih0 (v1,(max v2 (w64 ((v1.getD v3.toNat default).record.seq+1))),(w64 (v3+1)),r5)) none) none) none) none)
  (some (v4,v2))
noncomputable def z69:=fun ih (x:((List Found)×Int×Int×Table))=>z3b ih x.1 x.2.1 x.2.2.1 x.2.2.2
theorem z85 (ih) (x):z69 ih x=z3b ih x.1 x.2.1 x.2.2.1 x.2.2.2:=rfl
noncomputable def z6p (N:Nat) (a0:Chip) (a1:Int):Option (Table×Int) :=
 Option.bind (zhu a1) fun r1 =>
 Option.bind (zhy a0) fun r2 =>
 ze z69 N (r2,0,0,r1)
noncomputable def zbl (x:Chip×Int):Option (Table×Int):=lim fun N=>z6p N x.1 x.2
noncomputable def z8f (ih0:(Int×Chip×(List Block))->Option Chip) (v1:Int) (v2:Chip) (v3:(List Block)):Option Chip :=
 cond (decide (v1<(v2.blocks.length:Int)))
  (cond (decide (0<=v1)) (cond (decide (v1<(v2.blocks.length:Int))) (cond (decide ((0+(v2.blocks.getD v1.toNat default).pages.length)*40<=70368744177664)) (cond (decide (0+(v2.blocks.getD v1.toNat default).pages.length<=70368744177664)) (cond (decide ((v3.length+1)*48<=70368744177664)) (cond (decide (v3.length+1<=70368744177664)) (ih0 ((w64 (v1+1)),v2,(z16 (v3++[(Block.mk [] (v2.blocks.getD v1.toNat default).next (v2.blocks.getD v1.toNat default).erases (v2.blocks.getD v1.toNat default).bad)]) v3.length ([]++(v2.blocks.getD v1.toNat default).pages)))) none) none) none) none) none) none)
  (some (Chip.mk v3 v2.broken false v2.ops))
noncomputable def z8g:=fun ih (x:(Int×Chip×(List Block)))=>z8f ih x.1 x.2.1 x.2.2
theorem ze7 (ih) (x):z8g ih x=z8f ih x.1 x.2.1 x.2.2:=rfl
noncomputable def zrz (N:Nat) (a0:Chip):Option Chip :=
 ze z8g N (0,a0,[])
noncomputable def zl7 (x:Chip):Option Chip:=lim fun N=>zrz N x
noncomputable def z42 (ih0:(Int×Int×Geometry×Chip)->Option (Device×Int)) (v1:Int) (v2:Int) (v3:Geometry) (v4:Chip):Option (Device×Int) :=
 cond (decide (v2<(v4.blocks.length:Int)))
  (cond (decide (0<=v2)) (cond (decide (v2<(v4.blocks.length:Int))) (cond (!(decide ((((v4.blocks.getD v2.toNat default).pages.length:Nat):Int)=v3.pages)))
    (some ((Device.mk (Geometry.mk 0 0 0 0) (Chip.mk [] false false 0) (Table.mk [] []) 0 0),1))
    (cond (decide (v1<0))
      (cond (!(v4.blocks.getD v2.toNat default).bad)
        (cond (decide (0<(v4.blocks.getD v2.toNat default).next))
          (cond (decide ((v4.blocks.getD v2.toNat default).next<v3.pages))
            (ih0 (v2,(w64 (v2+1)),v3,v4))
            (ih0 (v1,(w64 (v2+1)),v3,v4)))
          (ih0 (v1,(w64 (v2+1)),v3,v4)))
        (ih0 (v1,(w64 (v2+1)),v3,v4)))
      (ih0 (v1,(w64 (v2+1)),v3,v4)))) none) none)
  (Option.bind (zbl (v4,v3.sectors)) fun r5 =>
  Option.bind (zl7 v4) fun r6 =>
  some ((Device.mk v3 r6 r5.1 r5.2 v1),0))
noncomputable def z7p:=fun ih (x:(Int×Int×Geometry×Chip))=>z42 ih x.1 x.2.1 x.2.2.1 x.2.2.2
theorem z9f (ih) (x):z7p ih x=z42 ih x.1 x.2.1 x.2.2.1 x.2.2.2:=rfl
noncomputable def z8h (N:Nat) (a0:Geometry) (a1:Chip):Option (Device×Int) :=
 Option.bind (zaj a0) fun r1 =>
 cond (!r1)
  (some ((Device.mk (Geometry.mk 0 0 0 0) (Chip.mk [] false false 0) (Table.mk [] []) 0 0),1))
  (cond (!(decide ((a1.blocks.length:Int)=a0.blocks)))
    (some ((Device.mk (Geometry.mk 0 0 0 0) (Chip.mk [] false false 0) (Table.mk [] []) 0 0),1))
    (ze z7p N ((-1),0,a0,a1)))
noncomputable def zd2 (x:Geometry×Chip):Option (Device×Int):=lim fun N=>z8h N x.1 x.2
noncomputable def z8i (a0:Int):Option Geometry :=
 cond (!(decide ((([(Geometry.mk 8 4 5 1),(Geometry.mk 5 4 3 0),(Geometry.mk 12 3 5 2),(Geometry.mk 6 6 8 0),(Geometry.mk 16 2 4 3),(Geometry.mk 10 5 12 1)].length:Nat):Int)=0))) (cond (decide (0<=(Int.tmod (w64 a0) (([(Geometry.mk 8 4 5 1),(Geometry.mk 5 4 3 0),(Geometry.mk 12 3 5 2),(Geometry.mk 6 6 8 0),(Geometry.mk 16 2 4 3),(Geometry.mk 10 5 12 1)].length:Nat):Int)))) (cond (decide ((Int.tmod (w64 a0) (([(Geometry.mk 8 4 5 1),(Geometry.mk 5 4 3 0),(Geometry.mk 12 3 5 2),(Geometry.mk 6 6 8 0),(Geometry.mk 16 2 4 3),(Geometry.mk 10 5 12 1)].length:Nat):Int))<(([(Geometry.mk 8 4 5 1),(Geometry.mk 5 4 3 0),(Geometry.mk 12 3 5 2),(Geometry.mk 6 6 8 0),(Geometry.mk 16 2 4 3),(Geometry.mk 10 5 12 1)].length:Nat):Int))) (cond (decide ((Int.toNat (Int.tmod (w64 a0) (([(Geometry.mk 8 4 5 1),(Geometry.mk 5 4 3 0),(Geometry.mk 12 3 5 2),(Geometry.mk 6 6 8 0),(Geometry.mk 16 2 4 3),(Geometry.mk 10 5 12 1)].length:Nat):Int)))<[(Geometry.mk 8 4 5 1),(Geometry.mk 5 4 3 0),(Geometry.mk 12 3 5 2),(Geometry.mk 6 6 8 0),(Geometry.mk 16 2 4 3),(Geometry.mk 10 5 12 1)].length)) (some ([(Geometry.mk 8 4 5 1),(Geometry.mk 5 4 3 0),(Geometry.mk 12 3 5 2),(Geometry.mk 6 6 8 0),(Geometry.mk 16 2 4 3),(Geometry.mk 10 5 12 1)].getD (Int.toNat (Int.tmod (w64 a0) (([(Geometry.mk 8 4 5 1),(Geometry.mk 5 4 3 0),(Geometry.mk 12 3 5 2),(Geometry.mk 6 6 8 0),(Geometry.mk 16 2 4 3),(Geometry.mk 10 5 12 1)].length:Nat):Int))) default)) none) none) none) none
noncomputable def z8j (x:Int):Option Geometry:=z8i x
noncomputable def z8k (a0:Chip) (a1:Int) (a2:Int):Option Bool :=
 cond (decide (0<=a1))
  (cond (decide (a1<(a0.blocks.length:Int)))
    (cond (decide (0<=a2))
      (cond (decide (0<=a1)) (cond (decide (a1<(a0.blocks.length:Int))) (some (decide (a2<(((a0.blocks.getD a1.toNat default).pages.length:Nat):Int)))) none) none)
      (some false))
    (some false))
  (some false)
noncomputable def zd3 (x:Chip×Int×Int):Option Bool:=z8k x.1 x.2.1 x.2.2
noncomputable def z3c (ih0:(Int×Chip×(List Block))->Option (Chip×Int)) (v1:Int) (v2:Chip) (v3:(List Block)):Option (Chip×Int) :=
 cond (decide (v1<(v2.blocks.length:Int)))
  (cond (decide (0<=v1)) (cond (decide (v1<(v2.blocks.length:Int))) (cond (decide ((0+(v2.blocks.getD v1.toNat default).pages.length)*40<=70368744177664)) (cond (decide (0+(v2.blocks.getD v1.toNat default).pages.length<=70368744177664)) (cond (decide ((v3.length+1)*48<=70368744177664)) (cond (decide (v3.length+1<=70368744177664)) (ih0 ((w64 (v1+1)),v2,(z16 (v3++[(Block.mk [] (v2.blocks.getD v1.toNat default).next (v2.blocks.getD v1.toNat default).erases (v2.blocks.getD v1.toNat default).bad)]) v3.length ([]++(v2.blocks.getD v1.toNat default).pages)))) none) none) none) none) none) none)
  (some ((Chip.mk v3 true v2.off v2.ops),1))
noncomputable def z3d:=fun ih (x:(Int×Chip×(List Block)))=>z3c ih x.1 x.2.1 x.2.2
theorem z86 (ih) (x):z3d ih x=z3c ih x.1 x.2.1 x.2.2:=rfl
noncomputable def zgy (N:Nat) (a0:Chip):Option (Chip×Int) :=
 ze z3d N (0,a0,[])
noncomputable def z01 (x:Chip):Option (Chip×Int):=lim fun N=>zgy N x
noncomputable def z2d (ih0:(Int×Chip×(List Block))->Option (Chip×Int)) (v1:Int) (v2:Chip) (v3:(List Block)):Option (Chip×Int) :=
 cond (decide (v1<(v2.blocks.length:Int)))
  (cond (decide (0<=v1)) (cond (decide (v1<(v2.blocks.length:Int))) (cond (decide ((0+(v2.blocks.getD v1.toNat default).pages.length)*40<=70368744177664)) (cond (decide (0+(v2.blocks.getD v1.toNat default).pages.length<=70368744177664)) (cond (decide ((v3.length+1)*48<=70368744177664)) (cond (decide (v3.length+1<=70368744177664)) (ih0 ((w64 (v1+1)),v2,(z16 (v3++[(Block.mk [] (v2.blocks.getD v1.toNat default).next (v2.blocks.getD v1.toNat default).erases (v2.blocks.getD v1.toNat default).bad)]) v3.length ([]++(v2.blocks.getD v1.toNat default).pages)))) none) none) none) none) none) none)
  (some ((Chip.mk v3 v2.broken v2.off v2.ops),52))
noncomputable def z2e:=fun ih (x:(Int×Chip×(List Block)))=>z2d ih x.1 x.2.1 x.2.2
theorem z78 (ih) (x):z2e ih x=z2d ih x.1 x.2.1 x.2.2:=rfl
noncomputable def z17 (a1:Int) (a2:Int) (ih0:(Int×Page×Fate×Chip×(List Block))->Option (Chip×Int)) (v1:Int) (v2:Page) (v3:Fate) (v4:Chip) (v5:(List Block)):Option (Chip×Int) :=
 cond (decide (v1<(v4.blocks.length:Int)))
  (cond (decide (0<=v1)) (cond (decide (v1<(v4.blocks.length:Int))) (cond (decide ((0+(v4.blocks.getD v1.toNat default).pages.length)*40<=70368744177664)) (cond (decide (0+(v4.blocks.getD v1.toNat default).pages.length<=70368744177664)) (cond (decide ((v5.length+1)*48<=70368744177664)) (cond (decide (v5.length+1<=70368744177664)) (ih0 ((w64 (v1+1)),v2,v3,v4,(z16 (v5++[(Block.mk [] (v4.blocks.getD v1.toNat default).next (v4.blocks.getD v1.toNat default).erases (v4.blocks.getD v1.toNat default).bad)]) v5.length ([]++(v4.blocks.getD v1.toNat default).pages)))) none) none) none) none) none) none)
  (cond (decide (0<=a1)) (cond (decide (a1<(v5.length:Int))) (cond (decide (a1.toNat<v5.length)) (cond (decide (0<=a1)) (cond (decide (a1<(v5.length:Int))) (cond (decide (a1.toNat<v5.length)) (cond (!(decide (v3.kind=0)))
    (cond (decide (v3.kind=1))
      (cond (decide (0<=a1)) (cond (decide (a1<(((z03 v5 a1.toNat (w64 ((v5.getD a1.toNat default).next+1))).length:Nat):Int))) (cond (decide (a1.toNat<(z03 v5 a1.toNat (w64 ((v5.getD a1.toNat default).next+1))).length)) (cond (decide (v3.kind=2))
        (cond (decide (a1.toNat<(ze6 (z03 v5 a1.toNat (w64 ((v5.getD a1.toNat default).next+1))) a1.toNat true).length)) (cond (decide (0<=a1)) (cond (decide (a1<(((ze6 (z03 v5 a1.toNat (w64 ((v5.getD a1.toNat default).next+1))) a1.toNat true).length:Nat):Int))) (cond (decide (a1.toNat<(ze6 (z03 v5 a1.toNat (w64 ((v5.getD a1.toNat default).next+1))) a1.toNat true).length)) (cond (decide (a1.toNat=a1.toNat)) (cond (decide (0<=a2)) (cond (decide (a2<((((ze6 (z03 v5 a1.toNat (w64 ((v5.getD a1.toNat default).next+1))) a1.toNat true).getD a1.toNat default).pages.length:Nat):Int))) (cond (decide (a2.toNat<((ze6 (z03 v5 a1.toNat (w64 ((v5.getD a1.toNat default).next+1))) a1.toNat true).getD a1.toNat default).pages.length)) (some ((Chip.mk (z16 (ze6 (z03 v5 a1.toNat (w64 ((v5.getD a1.toNat default).next+1))) a1.toNat true) a1.toNat (((ze6 (z03 v5 a1.toNat (w64 ((v5.getD a1.toNat default).next+1))) a1.toNat true).getD a1.toNat default).pages.set a2.toNat (Page.mk true v3.data v3.tag))) v4.broken true (w64 (v4.ops+1))),52)) none) none) none) none) none) none) none) none)
        (cond (decide (a1.toNat<(ze6 (z03 v5 a1.toNat (w64 ((v5.getD a1.toNat default).next+1))) a1.toNat true).length)) (cond (decide (0<=a1)) (cond (decide (a1<(((ze6 (z03 v5 a1.toNat (w64 ((v5.getD a1.toNat default).next+1))) a1.toNat true).length:Nat):Int))) (cond (decide (a1.toNat<(ze6 (z03 v5 a1.toNat (w64 ((v5.getD a1.toNat default).next+1))) a1.toNat true).length)) (cond (decide (a1.toNat=a1.toNat)) (cond (decide (0<=a2)) (cond (decide (a2<((((ze6 (z03 v5 a1.toNat (w64 ((v5.getD a1.toNat default).next+1))) a1.toNat true).getD a1.toNat default).pages.length:Nat):Int))) (cond (decide (a2.toNat<((ze6 (z03 v5 a1.toNat (w64 ((v5.getD a1.toNat default).next+1))) a1.toNat true).getD a1.toNat default).pages.length)) (some ((Chip.mk (z16 (ze6 (z03 v5 a1.toNat (w64 ((v5.getD a1.toNat default).next+1))) a1.toNat true) a1.toNat (((ze6 (z03 v5 a1.toNat (w64 ((v5.getD a1.toNat default).next+1))) a1.toNat true).getD a1.toNat default).pages.set a2.toNat (Page.mk true v3.data v3.tag))) v4.broken v4.off (w64 (v4.ops+1))),53)) none) none) none) none) none) none) none) none)) none) none) none)
      (cond (decide (v3.kind=2))
        (cond (decide (a1.toNat<(z03 v5 a1.toNat (w64 ((v5.getD a1.toNat default).next+1))).length)) (cond (decide (0<=a1)) (cond (decide (a1<(((z03 v5 a1.toNat (w64 ((v5.getD a1.toNat default).next+1))).length:Nat):Int))) (cond (decide (a1.toNat<(z03 v5 a1.toNat (w64 ((v5.getD a1.toNat default).next+1))).length)) (cond (decide (a1.toNat=a1.toNat)) (cond (decide (0<=a2)) (cond (decide (a2<((((z03 v5 a1.toNat (w64 ((v5.getD a1.toNat default).next+1))).getD a1.toNat default).pages.length:Nat):Int))) (cond (decide (a2.toNat<((z03 v5 a1.toNat (w64 ((v5.getD a1.toNat default).next+1))).getD a1.toNat default).pages.length)) (some ((Chip.mk (z16 (z03 v5 a1.toNat (w64 ((v5.getD a1.toNat default).next+1))) a1.toNat (((z03 v5 a1.toNat (w64 ((v5.getD a1.toNat default).next+1))).getD a1.toNat default).pages.set a2.toNat (Page.mk true v3.data v3.tag))) v4.broken true (w64 (v4.ops+1))),52)) none) none) none) none) none) none) none) none)
        (cond (decide (a1.toNat<(z03 v5 a1.toNat (w64 ((v5.getD a1.toNat default).next+1))).length)) (cond (decide (0<=a1)) (cond (decide (a1<(((z03 v5 a1.toNat (w64 ((v5.getD a1.toNat default).next+1))).length:Nat):Int))) (cond (decide (a1.toNat<(z03 v5 a1.toNat (w64 ((v5.getD a1.toNat default).next+1))).length)) (cond (decide (a1.toNat=a1.toNat)) (cond (decide (0<=a2)) (cond (decide (a2<((((z03 v5 a1.toNat (w64 ((v5.getD a1.toNat default).next+1))).getD a1.toNat default).pages.length:Nat):Int))) (cond (decide (a2.toNat<((z03 v5 a1.toNat (w64 ((v5.getD a1.toNat default).next+1))).getD a1.toNat default).pages.length)) (some ((Chip.mk (z16 (z03 v5 a1.toNat (w64 ((v5.getD a1.toNat default).next+1))) a1.toNat (((z03 v5 a1.toNat (w64 ((v5.getD a1.toNat default).next+1))).getD a1.toNat default).pages.set a2.toNat (Page.mk true v3.data v3.tag))) v4.broken v4.off (w64 (v4.ops+1))),53)) none) none) none) none) none) none) none) none)))
    (cond (decide (v3.kind=1))
      (cond (decide (0<=a1)) (cond (decide (a1<(((z03 v5 a1.toNat (w64 ((v5.getD a1.toNat default).next+1))).length:Nat):Int))) (cond (decide (a1.toNat<(z03 v5 a1.toNat (w64 ((v5.getD a1.toNat default).next+1))).length)) (cond (decide (v3.kind=2))
        (cond (decide (a1.toNat<(ze6 (z03 v5 a1.toNat (w64 ((v5.getD a1.toNat default).next+1))) a1.toNat true).length)) (cond (decide (0<=a1)) (cond (decide (a1<(((ze6 (z03 v5 a1.toNat (w64 ((v5.getD a1.toNat default).next+1))) a1.toNat true).length:Nat):Int))) (cond (decide (a1.toNat<(ze6 (z03 v5 a1.toNat (w64 ((v5.getD a1.toNat default).next+1))) a1.toNat true).length)) (cond (decide (a1.toNat=a1.toNat)) (cond (decide (0<=a2)) (cond (decide (a2<((((ze6 (z03 v5 a1.toNat (w64 ((v5.getD a1.toNat default).next+1))) a1.toNat true).getD a1.toNat default).pages.length:Nat):Int))) (cond (decide (a2.toNat<((ze6 (z03 v5 a1.toNat (w64 ((v5.getD a1.toNat default).next+1))) a1.toNat true).getD a1.toNat default).pages.length)) (some ((Chip.mk (z16 (ze6 (z03 v5 a1.toNat (w64 ((v5.getD a1.toNat default).next+1))) a1.toNat true) a1.toNat (((ze6 (z03 v5 a1.toNat (w64 ((v5.getD a1.toNat default).next+1))) a1.toNat true).getD a1.toNat default).pages.set a2.toNat (Page.mk true v2.data v2.tag))) v4.broken true (w64 (v4.ops+1))),52)) none) none) none) none) none) none) none) none)
        (cond (decide (a1.toNat<(ze6 (z03 v5 a1.toNat (w64 ((v5.getD a1.toNat default).next+1))) a1.toNat true).length)) (cond (decide (0<=a1)) (cond (decide (a1<(((ze6 (z03 v5 a1.toNat (w64 ((v5.getD a1.toNat default).next+1))) a1.toNat true).length:Nat):Int))) (cond (decide (a1.toNat<(ze6 (z03 v5 a1.toNat (w64 ((v5.getD a1.toNat default).next+1))) a1.toNat true).length)) (cond (decide (a1.toNat=a1.toNat)) (cond (decide (0<=a2)) (cond (decide (a2<((((ze6 (z03 v5 a1.toNat (w64 ((v5.getD a1.toNat default).next+1))) a1.toNat true).getD a1.toNat default).pages.length:Nat):Int))) (cond (decide (a2.toNat<((ze6 (z03 v5 a1.toNat (w64 ((v5.getD a1.toNat default).next+1))) a1.toNat true).getD a1.toNat default).pages.length)) (some ((Chip.mk (z16 (ze6 (z03 v5 a1.toNat (w64 ((v5.getD a1.toNat default).next+1))) a1.toNat true) a1.toNat (((ze6 (z03 v5 a1.toNat (w64 ((v5.getD a1.toNat default).next+1))) a1.toNat true).getD a1.toNat default).pages.set a2.toNat (Page.mk true v2.data v2.tag))) v4.broken v4.off (w64 (v4.ops+1))),0)) none) none) none) none) none) none) none) none)) none) none) none)
      (cond (decide (v3.kind=2))
        (cond (decide (a1.toNat<(z03 v5 a1.toNat (w64 ((v5.getD a1.toNat default).next+1))).length)) (cond (decide (0<=a1)) (cond (decide (a1<(((z03 v5 a1.toNat (w64 ((v5.getD a1.toNat default).next+1))).length:Nat):Int))) (cond (decide (a1.toNat<(z03 v5 a1.toNat (w64 ((v5.getD a1.toNat default).next+1))).length)) (cond (decide (a1.toNat=a1.toNat)) (cond (decide (0<=a2)) (cond (decide (a2<((((z03 v5 a1.toNat (w64 ((v5.getD a1.toNat default).next+1))).getD a1.toNat default).pages.length:Nat):Int))) (cond (decide (a2.toNat<((z03 v5 a1.toNat (w64 ((v5.getD a1.toNat default).next+1))).getD a1.toNat default).pages.length)) (some ((Chip.mk (z16 (z03 v5 a1.toNat (w64 ((v5.getD a1.toNat default).next+1))) a1.toNat (((z03 v5 a1.toNat (w64 ((v5.getD a1.toNat default).next+1))).getD a1.toNat default).pages.set a2.toNat (Page.mk true v2.data v2.tag))) v4.broken true (w64 (v4.ops+1))),52)) none) none) none) none) none) none) none) none)
        (cond (decide (a1.toNat<(z03 v5 a1.toNat (w64 ((v5.getD a1.toNat default).next+1))).length)) (cond (decide (0<=a1)) (cond (decide (a1<(((z03 v5 a1.toNat (w64 ((v5.getD a1.toNat default).next+1))).length:Nat):Int))) (cond (decide (a1.toNat<(z03 v5 a1.toNat (w64 ((v5.getD a1.toNat default).next+1))).length)) (cond (decide (a1.toNat=a1.toNat)) (cond (decide (0<=a2)) (cond (decide (a2<((((z03 v5 a1.toNat (w64 ((v5.getD a1.toNat default).next+1))).getD a1.toNat default).pages.length:Nat):Int))) (cond (decide (a2.toNat<((z03 v5 a1.toNat (w64 ((v5.getD a1.toNat default).next+1))).getD a1.toNat default).pages.length)) (some ((Chip.mk (z16 (z03 v5 a1.toNat (w64 ((v5.getD a1.toNat default).next+1))) a1.toNat (((z03 v5 a1.toNat (w64 ((v5.getD a1.toNat default).next+1))).getD a1.toNat default).pages.set a2.toNat (Page.mk true v2.data v2.tag))) v4.broken v4.off (w64 (v4.ops+1))),0)) none) none) none) none) none) none) none) none)))) none) none) none) none) none) none)
noncomputable def z2f (a1:Int) (a2:Int):=fun ih (x:(Int×Page×Fate×Chip×(List Block)))=>z17 a1 a2 ih x.1 x.2.1 x.2.2.1 x.2.2.2.1 x.2.2.2.2
theorem z79 (a1:Int) (a2:Int) (ih) (x):z2f a1 a2 ih x=z17 a1 a2 ih x.1 x.2.1 x.2.2.1 x.2.2.2.1 x.2.2.2.2:=rfl
noncomputable def z56 (N:Nat) (a0:Chip) (a1:Int) (a2:Int) (a3:Page) (a4:Fate):Option (Chip×Int) :=
 cond a0.off
  (ze z2e N (0,a0,[]))
  (Option.bind (zd3 (a0,a1,a2)) fun r5 =>
  cond (!r5)
   (Option.bind (z01 a0) fun r6 =>
   some (r6.1,r6.2))
   (cond (decide (0<=a1)) (cond (decide (a1<(a0.blocks.length:Int))) (cond (a0.blocks.getD a1.toNat default).bad
     (Option.bind (z01 a0) fun r7 =>
     some (r7.1,r7.2))
     (cond (decide (0<=a1)) (cond (decide (a1<(a0.blocks.length:Int))) (cond (!(decide ((a0.blocks.getD a1.toNat default).next=a2)))
       (Option.bind (z01 a0) fun r8 =>
       some (r8.1,r8.2))
       (cond (decide (a4.kind<0))
         (Option.bind (z01 a0) fun r9 =>
         some (r9.1,r9.2))
         (cond (decide (2<a4.kind))
           (Option.bind (z01 a0) fun r10 =>
           some (r10.1,r10.2))
           (ze (z2f a1 a2) N (0,a3,a4,a0,[]))))) none) none)) none) none))
noncomputable def z57 (x:Chip×Int×Int×Page×Fate):Option (Chip×Int):=lim fun N=>z56 N x.1 x.2.1 x.2.2.1 x.2.2.2.1 x.2.2.2.2
noncomputable def z6q (ih0:(Int×(List Int)×Int×Bool×Bool×Int×(List Block))->Option (Chip×Int)) (v1:Int) (v2:(List Int)) (v3:Int) (v4:Bool) (v5:Bool) (v6:Int) (v7:(List Block)):Option (Chip×Int) :=
 cond (decide (v3<(v2.length:Int)))
  (cond (decide (0<=v3)) (cond (decide (v3<(v2.length:Int))) (cond (decide ((v2.getD v3.toNat 0)<0))
    (some ((Chip.mk [] false false 0),1))
    (cond (decide (0<=v3)) (cond (decide (v3<(v2.length:Int))) (cond (decide (v1<=(v2.getD v3.toNat 0)))
      (some ((Chip.mk [] false false 0),1))
      (cond (decide (0<=v3)) (cond (decide (v3<(v2.length:Int))) (cond (decide (0<=(v2.getD v3.toNat 0))) (cond (decide ((v2.getD v3.toNat 0)<(v7.length:Int))) (cond (decide ((Int.toNat (v2.getD v3.toNat 0))<v7.length)) (ih0 (v1,v2,(w64 (v3+1)),v4,v5,v6,(ze6 v7 (Int.toNat (v2.getD v3.toNat 0)) true))) none) none) none) none) none)) none) none)) none) none)
  (some ((Chip.mk v7 v4 v5 v6),0))
noncomputable def zbm:=fun ih (x:(Int×(List Int)×Int×Bool×Bool×Int×(List Block)))=>z6q ih x.1 x.2.1 x.2.2.1 x.2.2.2.1 x.2.2.2.2.1 x.2.2.2.2.2.1 x.2.2.2.2.2.2
theorem zcl (ih) (x):zbm ih x=z6q ih x.1 x.2.1 x.2.2.1 x.2.2.2.1 x.2.2.2.2.1 x.2.2.2.2.2.1 x.2.2.2.2.2.2:=rfl
noncomputable def z6r (N:Nat) (ih0:(Int×Int×(List Int)×Int×Bool×Bool×Int×(List Block))->Option (Chip×Int)) (v1:Int) (v2:Int) (v3:(List Int)) (v4:Int) (v5:Bool) (v6:Bool) (v7:Int) (v8:(List Block)):Option (Chip×Int) :=
 cond (decide (v4<v1))
  (cond (decide (0<=v2)) (cond (decide (v2<=v2)) (cond (decide ((v2*40)<=70368744177664)) (cond (decide (v2<=70368744177664)) (cond (decide ((v8.length+1)*48<=70368744177664)) (cond (decide (v8.length+1<=70368744177664)) (ih0 (v1,v2,v3,(w64 (v4+1)),v5,v6,v7,(z16 (v8++[(Block.mk [] 0 0 false)]) v8.length (List.replicate v2.toNat (default:Page))))) none) none) none) none) none) none)
  (ze zbm N (v1,v3,0,v5,v6,v7,v8))
noncomputable def zbn (N:Nat):=fun ih (x:(Int×Int×(List Int)×Int×Bool×Bool×Int×(List Block)))=>z6r N ih x.1 x.2.1 x.2.2.1 x.2.2.2.1 x.2.2.2.2.1 x.2.2.2.2.2.1 x.2.2.2.2.2.2.1 x.2.2.2.2.2.2.2
theorem zcm (N:Nat) (ih) (x):zbn N ih x=z6r N ih x.1 x.2.1 x.2.2.1 x.2.2.2.1 x.2.2.2.2.1 x.2.2.2.2.2.1 x.2.2.2.2.2.2.1 x.2.2.2.2.2.2.2:=rfl
noncomputable def zd4 (N:Nat) (a0:Int) (a1:Int) (a2:(List Int)):Option (Chip×Int) :=
 cond (decide (a0<1))
  (some ((Chip.mk [] false false 0),1))
  (cond (decide (32<a0))
    (some ((Chip.mk [] false false 0),1))
    (cond (decide (a1<1))
      (some ((Chip.mk [] false false 0),1))
      (cond (decide (16<a1))
        (some ((Chip.mk [] false false 0),1))
        (ze (zbn N) N (a0,a1,a2,0,false,false,0,[])))))
noncomputable def zhz (x:Int×Int×(List Int)):Option (Chip×Int):=lim fun N=>zd4 N x.1 x.2.1 x.2.2
noncomputable def zaq (a0:Write):Option (Page×Int) :=
 Option.bind (z6k (a0.record,a0.data)) fun r1 =>
 cond (!(decide (r1.2=0)))
  (some ((Page.mk false [] []),r1.2))
  (some ((Page.mk true a0.data r1.1),0))
noncomputable def zew (x:Write):Option (Page×Int):=zaq x
noncomputable def z43 (ih0:(Int×Chip×(List Block))->Option (Chip×Int)) (v1:Int) (v2:Chip) (v3:(List Block)):Option (Chip×Int) :=
 cond (decide (v1<(v2.blocks.length:Int)))
  (cond (decide (0<=v1)) (cond (decide (v1<(v2.blocks.length:Int))) (cond (decide ((0+(v2.blocks.getD v1.toNat default).pages.length)*40<=70368744177664)) (cond (decide (0+(v2.blocks.getD v1.toNat default).pages.length<=70368744177664)) (cond (decide ((v3.length+1)*48<=70368744177664)) (cond (decide (v3.length+1<=70368744177664)) (ih0 ((w64 (v1+1)),v2,(z16 (v3++[(Block.mk [] (v2.blocks.getD v1.toNat default).next (v2.blocks.getD v1.toNat default).erases (v2.blocks.getD v1.toNat default).bad)]) v3.length ([]++(v2.blocks.getD v1.toNat default).pages)))) none) none) none) none) none) none)
  (some ((Chip.mk v3 v2.broken v2.off v2.ops),52))
noncomputable def z44:=fun ih (x:(Int×Chip×(List Block)))=>z43 ih x.1 x.2.1 x.2.2
theorem z9g (ih) (x):z44 ih x=z43 ih x.1 x.2.1 x.2.2:=rfl
noncomputable def z47 (ih0:(Int×Int×Fate×(List Block)×Bool×Bool×Int)->Option (Chip×Int)) (v1:Int) (v2:Int) (v3:Fate) (v4:(List Block)) (v5:Bool) (v6:Bool) (v7:Int):Option (Chip×Int) :=
 cond (decide (v1.toNat<v4.length)) (cond (decide (v1.toNat<v4.length)) (cond (decide (v1.toNat=v1.toNat)) (cond (decide (v2<(((v4.getD v1.toNat default).pages.length:Nat):Int)))
  (cond (decide (v3.kind=0))
    (cond (decide (v1.toNat<v4.length)) (cond (decide (v1.toNat=v1.toNat)) (cond (decide (0<=v2)) (cond (decide (v2<(((v4.getD v1.toNat default).pages.length:Nat):Int))) (cond (decide (v2.toNat<(v4.getD v1.toNat default).pages.length)) (ih0 (((v1.toNat:Nat):Int),(w64 (v2+1)),v3,(z16 v4 v1.toNat ((v4.getD v1.toNat default).pages.set v2.toNat (Page.mk false [] []))),v5,v6,v7)) none) none) none) none) none)
    (cond (decide (v2<v3.n))
      (cond (decide (v1.toNat<v4.length)) (cond (decide (v1.toNat=v1.toNat)) (cond (decide (0<=v2)) (cond (decide (v2<(((v4.getD v1.toNat default).pages.length:Nat):Int))) (cond (decide (v2.toNat<(v4.getD v1.toNat default).pages.length)) (ih0 (((v1.toNat:Nat):Int),(w64 (v2+1)),v3,(z16 v4 v1.toNat ((v4.getD v1.toNat default).pages.set v2.toNat (Page.mk false [] []))),v5,v6,v7)) none) none) none) none) none)
      (ih0 (((v1.toNat:Nat):Int),(w64 (v2+1)),v3,(z16 v4 v1.toNat (v4.getD v1.toNat default).pages),v5,v6,v7))))
  (cond (decide (v1.toNat<v4.length)) (cond (decide (v3.kind=2))
    (cond (decide (v1.toNat<(z03 v4 v1.toNat 0).length)) (cond (decide (v1.toNat=v1.toNat)) (cond (decide (v1.toNat<(z03 v4 v1.toNat 0).length)) (some ((Chip.mk (z16 (z03 (z03 v4 v1.toNat 0) v1.toNat (((v4.getD v1.toNat default).pages.length:Nat):Int)) v1.toNat (v4.getD v1.toNat default).pages) v5 true v7),52)) none) none) none)
    (some ((Chip.mk (z16 (z03 v4 v1.toNat 0) v1.toNat (v4.getD v1.toNat default).pages) v5 v6 v7),0))) none)) none) none) none
noncomputable def z48:=fun ih (x:(Int×Int×Fate×(List Block)×Bool×Bool×Int))=>z47 ih x.1 x.2.1 x.2.2.1 x.2.2.2.1 x.2.2.2.2.1 x.2.2.2.2.2.1 x.2.2.2.2.2.2
theorem z9h (ih) (x):z48 ih x=z47 ih x.1 x.2.1 x.2.2.1 x.2.2.2.1 x.2.2.2.2.1 x.2.2.2.2.2.1 x.2.2.2.2.2.2:=rfl
noncomputable def z1x (N:Nat) (a1:Int) (ih0:(Int×Fate×Chip×(List Block))->Option (Chip×Int)) (v1:Int) (v2:Fate) (v3:Chip) (v4:(List Block)):Option (Chip×Int) :=
 cond (decide (v1<(v3.blocks.length:Int)))
  (cond (decide (0<=v1)) (cond (decide (v1<(v3.blocks.length:Int))) (cond (decide ((0+(v3.blocks.getD v1.toNat default).pages.length)*40<=70368744177664)) (cond (decide (0+(v3.blocks.getD v1.toNat default).pages.length<=70368744177664)) (cond (decide ((v4.length+1)*48<=70368744177664)) (cond (decide (v4.length+1<=70368744177664)) (ih0 ((w64 (v1+1)),v2,v3,(z16 (v4++[(Block.mk [] (v3.blocks.getD v1.toNat default).next (v3.blocks.getD v1.toNat default).erases (v3.blocks.getD v1.toNat default).bad)]) v4.length ([]++(v3.blocks.getD v1.toNat default).pages)))) none) none) none) none) none) none)
  (cond (decide (0<=a1)) (cond (decide (a1<(v4.length:Int))) (cond (decide (v2.kind=1))
    (cond (decide (a1.toNat<v4.length)) (some ((Chip.mk (ze6 v4 a1.toNat true) v3.broken v3.off (w64 (v3.ops+1))),53)) none)
    (cond (decide (a1.toNat<v4.length)) (cond (decide (a1.toNat<v4.length)) (ze z48 N (((a1.toNat:Nat):Int),0,v2,(bErases v4 a1.toNat (w64 ((v4.getD a1.toNat default).erases+1))),v3.broken,v3.off,(w64 (v3.ops+1)))) none) none)) none) none)
noncomputable def z49 (N:Nat) (a1:Int):=fun ih (x:(Int×Fate×Chip×(List Block)))=>z1x N a1 ih x.1 x.2.1 x.2.2.1 x.2.2.2
theorem z9i (N:Nat) (a1:Int) (ih) (x):z49 N a1 ih x=z1x N a1 ih x.1 x.2.1 x.2.2.1 x.2.2.2:=rfl
noncomputable def z8l (N:Nat) (a0:Chip) (a1:Int) (a2:Fate):Option (Chip×Int) :=
 cond a0.off
  (ze z44 N (0,a0,[]))
  (cond (decide (a1<0))
    (Option.bind (z01 a0) fun r5 =>
    some (r5.1,r5.2))
    (cond (decide ((a0.blocks.length:Int)<=a1))
      (Option.bind (z01 a0) fun r6 =>
      some (r6.1,r6.2))
      (cond (decide (0<=a1)) (cond (decide (a1<(a0.blocks.length:Int))) (cond (a0.blocks.getD a1.toNat default).bad
        (Option.bind (z01 a0) fun r7 =>
        some (r7.1,r7.2))
        (cond (decide (a2.kind<0))
          (Option.bind (z01 a0) fun r8 =>
          some (r8.1,r8.2))
          (cond (decide (2<a2.kind))
            (Option.bind (z01 a0) fun r9 =>
            some (r9.1,r9.2))
            (ze (z49 N a1) N (0,a2,a0,[]))))) none) none)))
noncomputable def zd5 (x:Chip×Int×Fate):Option (Chip×Int):=lim fun N=>z8l N x.1 x.2.1 x.2.2
noncomputable def z4a (ih0:(Int×Block)->Option Int) (v1:Int) (v2:Block):Option Int :=
 cond (decide (v1<(v2.pages.length:Int)))
  (cond (decide (0<=v1)) (cond (decide (v1<(v2.pages.length:Int))) (cond (v2.pages.getD v1.toNat default).written
    (some 2)
    (ih0 ((w64 (v1+1)),v2))) none) none)
  (cond (decide (v2.next=0))
    (some 0)
    (some 2))
noncomputable def z1y:=fun ih (x:(Int×Block))=>z4a ih x.1 x.2
theorem z9j (ih) (x):z1y ih x=z4a ih x.1 x.2:=rfl
noncomputable def z8m (N:Nat) (a0:Chip) (a1:Int) (a2:Int):Option Int :=
 cond (decide (a2<0))
  (some 3)
  (cond (decide ((a0.blocks.length:Int)<=a2))
    (some 3)
    (cond (decide (0<=a2)) (cond (decide (a2<(a0.blocks.length:Int))) (cond (a0.blocks.getD a2.toNat default).bad
      (some 3)
      (cond (decide (0<=a2)) (cond (decide (a2<(a0.blocks.length:Int))) (cond (decide (a2=a1))
        (cond (decide (0<=(a0.blocks.getD a2.toNat default).next))
          (cond (decide ((a0.blocks.getD a2.toNat default).next<(((a0.blocks.getD a2.toNat default).pages.length:Nat):Int)))
            (some 1)
            (ze z1y N (0,(a0.blocks.getD a2.toNat default))))
          (ze z1y N (0,(a0.blocks.getD a2.toNat default))))
        (ze z1y N (0,(a0.blocks.getD a2.toNat default)))) none) none)) none) none))
noncomputable def z3e (x:Chip×Int×Int):Option Int:=lim fun N=>z8m N x.1 x.2.1 x.2.2
noncomputable def zar (a0:Chip) (a1:Int):Option Int :=
 cond (decide (a1<0))
  (some 0)
  (cond (decide ((a0.blocks.length:Int)<=a1))
    (some 0)
    (Option.bind (z3e (a0,a1,a1)) fun r1 =>
    cond (!(decide (r1=1)))
     (some 0)
     (cond (decide (0<=a1)) (cond (decide (a1<(a0.blocks.length:Int))) (cond (decide (0<=a1)) (cond (decide (a1<(a0.blocks.length:Int))) (some (w64 ((((a0.blocks.getD a1.toNat default).pages.length:Nat):Int) - (a0.blocks.getD a1.toNat default).next))) none) none) none) none)))
noncomputable def z7a (x:Chip×Int):Option Int:=zar x.1 x.2
noncomputable def z58 (ih0:(Int×Int×Int×Chip)->Option Int) (v1:Int) (v2:Int) (v3:Int) (v4:Chip):Option Int :=
 cond (decide (v3<(v4.blocks.length:Int)))
  (Option.bind (z3e (v4,v1,v3)) fun r5 =>
  cond (decide (r5=0))
   (cond (decide (v2<0))
     (ih0 (v1,v3,(w64 (v3+1)),v4))
     (cond (decide (0<=v3)) (cond (decide (v3<(v4.blocks.length:Int))) (cond (decide (0<=v2)) (cond (decide (v2<(v4.blocks.length:Int))) (cond (decide ((v4.blocks.getD v3.toNat default).erases<(v4.blocks.getD v2.toNat default).erases))
       (ih0 (v1,v3,(w64 (v3+1)),v4))
       (ih0 (v1,v2,(w64 (v3+1)),v4))) none) none) none) none))
   (ih0 (v1,v2,(w64 (v3+1)),v4)))
  (some v2)
noncomputable def z9k:=fun ih (x:(Int×Int×Int×Chip))=>z58 ih x.1 x.2.1 x.2.2.1 x.2.2.2
theorem zas (ih) (x):z9k ih x=z58 ih x.1 x.2.1 x.2.2.1 x.2.2.2:=rfl
noncomputable def zm0 (N:Nat) (a0:Chip) (a1:Int):Option Int :=
 ze z9k N (a1,(-1),0,a0)
noncomputable def zex (x:Chip×Int):Option Int:=lim fun N=>zm0 N x.1 x.2
noncomputable def zat (a0:(List Fate)):Option (Fate×(List Fate)) :=
 cond (decide ((a0.length:Int)=0))
  (some ((Fate.mk 0 [] [] 0),[]))
  (cond (decide (0<(a0.length:Int))) (cond (decide (1<=(a0.length:Int))) (some ((a0.getD 0 default),(a0.drop 1))) none) none)
noncomputable def z7b (x:(List Fate)):Option (Fate×(List Fate)):=zat x
noncomputable def zbo (ih0:((List Fate)×Device×Write×Page)->Option (Device×(List Fate)×Int)) (v1:(List Fate)) (v2:Device) (v3:Write) (v4:Page):Option (Device×(List Fate)×Int) :=
 Option.bind (z7a (v2.chip,v2.opn)) fun r5 =>
 cond (decide (r5=0))
  (Option.bind (zex (v2.chip,(-1))) fun r6 =>
  cond (decide (r6<0))
   (some ((Device.mk v2.geometry v2.chip v2.table v2.seq (-1)),v1,40))
   (Option.bind (z7a (v2.chip,r6)) fun r7 =>
   cond (decide (r7=0))
    (some ((Device.mk v2.geometry v2.chip v2.table v2.seq (-1)),v1,40))
    (cond (decide (0<=r6)) (cond (decide (r6<(v2.chip.blocks.length:Int))) (Option.bind (z7b v1) fun r8 =>
    Option.bind (z57 (v2.chip,r6,(v2.chip.blocks.getD r6.toNat default).next,v4,r8.1)) fun r9 =>
    cond (decide (r9.2=0))
     (Option.bind (z38 (r6,(v2.chip.blocks.getD r6.toNat default).next)) fun r10 =>
     Option.bind (z35 (v2.table,(Found.mk r10 v3.record))) fun r11 =>
     some ((Device.mk v2.geometry r9.1 r11 (w64 (v2.seq+1)) r6),r8.2,0))
     (cond (decide (r9.2=53))
       (ih0 (r8.2,(Device.mk v2.geometry r9.1 v2.table v2.seq (-1)),v3,v4))
       (some ((Device.mk v2.geometry r9.1 v2.table v2.seq r6),r8.2,r9.2)))) none) none)))
  (cond (decide (v2.opn<0))
    (some ((Device.mk v2.geometry v2.chip v2.table v2.seq (-1)),v1,40))
    (Option.bind (z7a (v2.chip,v2.opn)) fun r12 =>
    cond (decide (r12=0))
     (some ((Device.mk v2.geometry v2.chip v2.table v2.seq (-1)),v1,40))
     (cond (decide (0<=v2.opn)) (cond (decide (v2.opn<(v2.chip.blocks.length:Int))) (Option.bind (z7b v1) fun r13 =>
     Option.bind (z57 (v2.chip,v2.opn,(v2.chip.blocks.getD (Int.toNat v2.opn) default).next,v4,r13.1)) fun r14 =>
     cond (decide (r14.2=0))
      (Option.bind (z38 (v2.opn,(v2.chip.blocks.getD (Int.toNat v2.opn) default).next)) fun r15 =>
      Option.bind (z35 (v2.table,(Found.mk r15 v3.record))) fun r16 =>
      some ((Device.mk v2.geometry r14.1 r16 (w64 (v2.seq+1)) v2.opn),r13.2,0))
      (cond (decide (r14.2=53))
        (ih0 (r13.2,(Device.mk v2.geometry r14.1 v2.table v2.seq (-1)),v3,v4))
        (some ((Device.mk v2.geometry r14.1 v2.table v2.seq v2.opn),r13.2,r14.2)))) none) none)))
noncomputable def z6s:=fun ih (x:((List Fate)×Device×Write×Page))=>zbo ih x.1 x.2.1 x.2.2.1 x.2.2.2
theorem zl8 (ih) (x):z6s ih x=zbo ih x.1 x.2.1 x.2.2.1 x.2.2.2:=rfl
noncomputable def zd6 (N:Nat) (a0:Device) (a1:Write) (a2:(List Fate)):Option (Device×(List Fate)×Int) :=
 Option.bind (zew (Write.mk a1.data (Record.mk a1.record.kind a0.seq a1.record.keys a1.record.values))) fun r1 =>
 cond (!(decide (r1.2=0)))
  (some (a0,a2,r1.2))
  (ze z6s N (a2,a0,(Write.mk a1.data (Record.mk a1.record.kind a0.seq a1.record.keys a1.record.values)),r1.1))
noncomputable def z2q (x:Device×Write×(List Fate)):Option (Device×(List Fate)×Int):=lim fun N=>zd6 N x.1 x.2.1 x.2.2
noncomputable def zi0 (a0:Int):Option Bool :=
 some (!(decide (a0=a0)))
noncomputable def z9l (x:Int):Option Bool:=zi0 x
noncomputable def z3f (ih0:((List Page)×Int×Int)->Option Int) (v1:(List Page)) (v2:Int) (v3:Int):Option Int :=
 cond (decide (v3<v2))
  (cond (decide (0<=v3)) (cond (decide (v3<(v1.length:Int))) (cond (v1.getD v3.toNat default).written
    (cond (decide (0<=v3))
      (some 2)
      (some 0))
    (ih0 (v1,v2,(w64 (v3+1))))) none) none)
  (some 0)
noncomputable def z1j:=fun ih (x:((List Page)×Int×Int))=>z3f ih x.1 x.2.1 x.2.2
theorem z87 (ih) (x):z1j ih x=z3f ih x.1 x.2.1 x.2.2:=rfl
noncomputable def z6t (N:Nat) (a0:Chip) (a1:Int) (a2:Int):Option Int :=
 cond (decide (a2<0))
  (some 3)
  (cond (decide ((a0.blocks.length:Int)<=a2))
    (some 3)
    (cond (decide (0<=a2)) (cond (decide (a2<(a0.blocks.length:Int))) (cond (a0.blocks.getD a2.toNat default).bad
      (some 3)
      (cond (decide (a2=a1))
        (cond (decide (0<=(a0.blocks.getD a2.toNat default).next))
          (cond (decide ((a0.blocks.getD a2.toNat default).next<(((a0.blocks.getD a2.toNat default).pages.length:Nat):Int)))
            (some 1)
            (cond (!(decide ((a0.blocks.getD a2.toNat default).next=0)))
              (some 2)
              (ze z1j N ((a0.blocks.getD a2.toNat default).pages,(((a0.blocks.getD a2.toNat default).pages.length:Nat):Int),0))))
          (cond (!(decide ((a0.blocks.getD a2.toNat default).next=0)))
            (some 2)
            (ze z1j N ((a0.blocks.getD a2.toNat default).pages,(((a0.blocks.getD a2.toNat default).pages.length:Nat):Int),0))))
        (cond (!(decide ((a0.blocks.getD a2.toNat default).next=0)))
          (some 2)
          (ze z1j N ((a0.blocks.getD a2.toNat default).pages,(((a0.blocks.getD a2.toNat default).pages.length:Nat):Int),0))))) none) none))
noncomputable def z3w (x:Chip×Int×Int):Option Int:=lim fun N=>z6t N x.1 x.2.1 x.2.2
noncomputable def z8n (a0:Chip) (a1:Int):Option Int :=
 cond (decide (a1<0))
  (some 0)
  (Option.bind (z3w (a0,a1,a1)) fun r1 =>
  cond (!(decide (r1=1)))
   (some 0)
   (cond (decide (0<=a1)) (cond (decide (a1<(a0.blocks.length:Int))) (cond (decide (0<=a1)) (cond (decide (a1<(a0.blocks.length:Int))) (some (w64 ((((a0.blocks.getD a1.toNat default).pages.length:Nat):Int) - (a0.blocks.getD a1.toNat default).next))) none) none) none) none))
noncomputable def z59 (x:Chip×Int):Option Int:=z8n x.1 x.2
noncomputable def zm1 (a0:Int) (a1:Int):Option Int :=
 cond (decide (a0<0))
  (some (-1))
  (cond (decide (32<=a0))
    (some (-1))
    (cond (decide (a1<0))
      (some (-1))
      (cond (decide (16<=a1))
        (some (-1))
        (some (w64 ((w64 (a0*16))+a1))))))
noncomputable def z7c (x:Int×Int):Option Int:=zm1 x.1 x.2
noncomputable def z5a (ih0:((List Int)×(List Int)×Int)->Option Bool) (v1:(List Int)) (v2:(List Int)) (v3:Int):Option Bool :=
 cond (decide (v3<(v1.length:Int)))
  (cond (decide (0<=v3)) (cond (decide (v3<(v1.length:Int))) (cond (decide (0<=v3)) (cond (decide (v3<(v2.length:Int))) (cond (!(decide ((v1.getD v3.toNat 0)=(v2.getD v3.toNat 0))))
    (some false)
    (ih0 (v1,v2,(w64 (v3+1))))) none) none) none) none)
  (some true)
noncomputable def z9m:=fun ih (x:((List Int)×(List Int)×Int))=>z5a ih x.1 x.2.1 x.2.2
theorem zau (ih) (x):z9m ih x=z5a ih x.1 x.2.1 x.2.2:=rfl
noncomputable def zav (N:Nat) (a0:(List Int)) (a1:(List Int)):Option Bool :=
 cond (!(decide ((a0.length:Int)=(a1.length:Int))))
  (some false)
  (ze z9m N (a0,a1,0))
noncomputable def zey (x:(List Int)×(List Int)):Option Bool:=lim fun N=>zav N x.1 x.2
noncomputable def z5b (ih0:(Int×Int×Chip)->Option Int) (v1:Int) (v2:Int) (v3:Chip):Option Int :=
 cond (decide (v2<(v3.blocks.length:Int)))
  (cond (decide (0<=v2)) (cond (decide (v2<(v3.blocks.length:Int))) (cond (v3.blocks.getD v2.toNat default).bad
    (ih0 ((w64 (v1+1)),(w64 (v2+1)),v3))
    (ih0 (v1,(w64 (v2+1)),v3))) none) none)
  (some v1)
noncomputable def z9n:=fun ih (x:(Int×Int×Chip))=>z5b ih x.1 x.2.1 x.2.2
theorem zaw (ih) (x):z9n ih x=z5b ih x.1 x.2.1 x.2.2:=rfl
noncomputable def zm2 (N:Nat) (a0:Chip):Option Int :=
 ze z9n N (0,0,a0)
noncomputable def zax (x:Chip):Option Int:=lim fun N=>zm2 N x
noncomputable def z6u (a0:Geometry) (a1:(List Int)):Option (Device×Int) :=
 Option.bind (zaj a0) fun r1 =>
 cond (!r1)
  (some ((Device.mk (Geometry.mk 0 0 0 0) (Chip.mk [] false false 0) (Table.mk [] []) 0 0),1))
  (Option.bind (zhz (a0.blocks,a0.pages,a1)) fun r2 =>
  cond (!(decide (r2.2=0)))
   (some ((Device.mk (Geometry.mk 0 0 0 0) (Chip.mk [] false false 0) (Table.mk [] []) 0 0),1))
   (Option.bind (zax r2.1) fun r3 =>
   cond (decide (a0.spare<r3))
    (some ((Device.mk (Geometry.mk 0 0 0 0) (Chip.mk [] false false 0) (Table.mk [] []) 0 0),1))
    (Option.bind (zd2 (a0,r2.1)) fun r4 =>
    some (r4.1,r4.2))))
noncomputable def z6v (x:Geometry×(List Int)):Option (Device×Int):=z6u x.1 x.2
noncomputable def z1z (ih0:((List Int)×Int×Int×(List Int))->Option ((List Int))) (v1:(List Int)) (v2:Int) (v3:Int) (v4:(List Int)):Option ((List Int)) :=
 cond (decide (v3<(v1.length:Int)))
  (cond (decide (0<=v2))
    (cond (decide (0<=v3)) (cond (decide (v3<(v1.length:Int))) (cond (decide ((v1.getD v3.toNat 0)=v2))
      (cond (decide ((v4.length+[v3].length)*8<=70368744177664)) (cond (decide (v4.length+[v3].length<=70368744177664)) (ih0 (v1,v2,(w64 (v3+1)),(v4++[v3]))) none) none)
      (ih0 (v1,v2,(w64 (v3+1)),v4))) none) none)
    (some v4))
  (some v4)
noncomputable def z7q:=fun ih (x:((List Int)×Int×Int×(List Int)))=>z1z ih x.1 x.2.1 x.2.2.1 x.2.2.2
theorem z4l (ih) (x):z7q ih x=z1z ih x.1 x.2.1 x.2.2.1 x.2.2.2:=rfl
noncomputable def z8o (N:Nat) (a0:(List Int)) (a1:Int):Option ((List Int)) :=
 ze z7q N (a0,a1,0,[])
noncomputable def z8p (x:(List Int)×Int):Option ((List Int)):=lim fun N=>z8o N x.1 x.2
noncomputable def z6w (a0:Table) (a1:Int):Option ((List Int)) :=
 Option.bind (z8p (a0.map,a1)) fun r1 =>
 some r1
noncomputable def z3x (x:Table×Int):Option ((List Int)):=z6w x.1 x.2
noncomputable def zay (a0:Table) (a1:Int):Option ((List Int)) :=
 Option.bind (z8p (a0.by_,a1)) fun r1 =>
 some r1
noncomputable def z7d (x:Table×Int):Option ((List Int)):=zay x.1 x.2
noncomputable def zaz (a0:Table) (a1:Int):Option Bool :=
 Option.bind (z3x (a0,a1)) fun r1 =>
 cond (decide (0<(r1.length:Int)))
  (some true)
  (Option.bind (z7d (a0,a1)) fun r2 =>
  some (decide (0<(r2.length:Int))))
noncomputable def zez (x:Table×Int):Option Bool:=zaz x.1 x.2
end Clk
namespace Clk
open Go
end Clk
namespace Clk
open Go
noncomputable def zd7 (a0:Chip) (a1:Int):Option (Page×Bool) :=
 cond (decide (a1<0))
  (some ((Page.mk false [] []),false))
  (cond (decide ((min (a0.blocks.length:Int) 32)<=(w64 (Int.tdiv a1 16))))
    (some ((Page.mk false [] []),false))
    (cond (decide (0<=(w64 (Int.tdiv a1 16)))) (cond (decide ((w64 (Int.tdiv a1 16))<(a0.blocks.length:Int))) (cond (decide ((((a0.blocks.getD (Int.toNat (w64 (Int.tdiv a1 16))) default).pages.length:Nat):Int)<=(Int.tmod a1 16)))
      (some ((Page.mk false [] []),false))
      (cond (decide (0<=(w64 (Int.tdiv a1 16)))) (cond (decide ((w64 (Int.tdiv a1 16))<(a0.blocks.length:Int))) (cond (decide (0<=(Int.tmod a1 16))) (cond (decide ((Int.tmod a1 16)<(((a0.blocks.getD (Int.toNat (w64 (Int.tdiv a1 16))) default).pages.length:Nat):Int))) (some (((a0.blocks.getD (Int.toNat (w64 (Int.tdiv a1 16))) default).pages.getD (Int.toNat (Int.tmod a1 16)) default),true)) none) none) none) none)) none) none))
noncomputable def zi1 (x:Chip×Int):Option (Page×Bool):=zd7 x.1 x.2
end Clk
namespace Clk
open Go
noncomputable def zb0 (a0:Chip) (a1:Int):Option (Page×Bool) :=
 cond (decide (a1<0))
  (some ((Page.mk false [] []),false))
  (cond (decide ((a0.blocks.length:Int)<=(w64 (Int.tdiv a1 16))))
    (some ((Page.mk false [] []),false))
    (cond (decide (32<=(w64 (Int.tdiv a1 16))))
      (some ((Page.mk false [] []),false))
      (cond (decide (0<=(w64 (Int.tdiv a1 16)))) (cond (decide ((w64 (Int.tdiv a1 16))<(a0.blocks.length:Int))) (cond (decide ((((a0.blocks.getD (Int.toNat (w64 (Int.tdiv a1 16))) default).pages.length:Nat):Int)<=(Int.tmod a1 16)))
        (some ((Page.mk false [] []),false))
        (cond (decide (0<=(Int.tmod a1 16))) (cond (decide ((Int.tmod a1 16)<(((a0.blocks.getD (Int.toNat (w64 (Int.tdiv a1 16))) default).pages.length:Nat):Int))) (some (((a0.blocks.getD (Int.toNat (w64 (Int.tdiv a1 16))) default).pages.getD (Int.toNat (Int.tmod a1 16)) default),true)) none) none)) none) none)))
noncomputable def z7e (x:Chip×Int):Option (Page×Bool):=zb0 x.1 x.2
end Clk
namespace Clk
open Go
end Clk
namespace Clk
open Go
noncomputable def zgl (a0:Chip) (a1:Table) (a2:Int):Option Str :=
 cond (decide (a2<0))
  (some [])
  (cond (decide ((a1.map.length:Int)<=a2))
    (some [])
    (cond (decide (0<=a2)) (cond (decide (a2<(a1.map.length:Int))) (Option.bind (zi1 (a0,(a1.map.getD a2.toNat 0))) fun r1 =>
    some r1.1.data) none) none))
noncomputable def zgm (x:Chip×Table×Int):Option Str:=zgl x.1 x.2.1 x.2.2
noncomputable def zd8 (a0:Chip) (a1:Table) (a2:Int):Option Str :=
 cond (decide (a2<0))
  (some [])
  (cond (decide ((a1.map.length:Int)<=a2))
    (some [])
    (cond (decide (0<=a2)) (cond (decide (a2<(a1.map.length:Int))) (Option.bind (z7e (a0,(a1.map.getD a2.toNat 0))) fun r1 =>
    some r1.1.data) none) none))
noncomputable def z9o (x:Chip×Table×Int):Option Str:=zd8 x.1 x.2.1 x.2.2
noncomputable def zqb (ih0:(Int×Device×(List Str))->Option ((List Str))) (v1:Int) (v2:Device) (v3:(List Str)):Option ((List Str)) :=
 cond (decide (v1<(v2.table.map.length:Int)))
  (Option.bind (z9o (v2.chip,v2.table,v1)) fun r4 =>
  cond (decide ((v3.length+[r4].length)*16<=70368744177664)) (cond (decide (v3.length+[r4].length<=70368744177664)) (ih0 ((w64 (v1+1)),v2,(v3++[r4]))) none) none)
  (some v3)
noncomputable def zqc:=fun ih (x:(Int×Device×(List Str)))=>zqb ih x.1 x.2.1 x.2.2
noncomputable def zov (N:Nat) (a0:Device):Option ((List Str)) :=
 ze zqc N (0,a0,[])
noncomputable def zow (x:Device):Option ((List Str)):=lim fun N=>zov N x
noncomputable def z5c (a0:Device):Option Int :=
 Option.bind (zax a0.chip) fun r1 =>
 some (w64 (2+(w64 (2*(max (w64 (a0.geometry.spare - r1)) 0)))))
noncomputable def z9p (x:Device):Option Int:=z5c x
end Clk
namespace Clk
open Go
end Clk
