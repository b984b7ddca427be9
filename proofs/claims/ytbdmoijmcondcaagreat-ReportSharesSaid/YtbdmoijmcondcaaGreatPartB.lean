/- A part of the proof of ReportShares: an evaluator of the program's code that the kernel runs, its soundness, what the functions compute. -/
import Derived.Test.YtbdmoijmcondcaaGreatPartA
import Derived.OrdersIn
import Derived.RangeFuncNested
import Derived.LoopNIn
import Derived.Scope
import Derived.KernelRfl
import Derived.Below
import Derived.Laws.Cover3
set_option linter.unusedVariables false
set_option linter.unusedSimpArgs false
set_option maxRecDepth 1000000
namespace Clk
open Go
section
variable {P:Program} {w:World} {X:Nat->Prop} {β:z13} {H:List AO}
theorem zlt (hg:Good P) {f:FuncId} (hb:Body P f) (args:Array Value) (w:World):(callFunc f args).run P w=.ok (.enter f args) w:=by
 obtain ⟨fn,h1,h2⟩:=hb;have hn:(fn.name== "runtime.NumGoroutine")=false:=by simpa using hg.name f fn h1
 have hb':fn.body.isNone=false:=by cases h:fn.body with | none=>rw [h] at h2;cases h2 | some c=>rfl
 unfold callFunc;have hp:program.run P w=.ok P w:=rfl;simp only [Sem.run_bind,hp,Result.andThen_ok,h1,hn,hb',Bool.false_eq_true,if_false,Sem.run_pure]
theorem zvh (hg:Good P) {o:Oper} {a:Act} {f:Operand} {args:Array Operand} {ts:Array TypeId} {g:FuncId} {first cap:Array Value} (ho:o.op=.call { callee:=.value f,args,argTypes:=ts }) (hf:a.eval f=.func (.func g) first cap) (hb:Body P g) (w:World) :
 (execOp a.eval o).run P w=.ok (.enter g (first++args.map a.eval++cap)) w:=by
 simp only [execOp,ho,resolve,hf,Deferred.ofValue,Sem.run_bind,Sem.run_pure,Result.andThen_ok,invoke,zlt hg hb]
theorem znt {o:Oper} {a:Act} {f:Operand} {args:Array Operand} {ts:Array TypeId} {l:Nat} (ho:o.op=.call { callee:=.value f,args,argTypes:=ts }) (hf:a.eval f=.func (.yield l) #[] #[]) (w:World) :
 (execOp a.eval o).run P w=(Instr.yield l (args.map a.eval)).run P w:=by
 simp only [execOp,ho,resolve,hf,Deferred.ofValue,Sem.run_bind,Sem.run_pure,Result.andThen_ok,invoke];simp
theorem zsl (hg:Good P) {o:Oper} {a:Act} {f:Operand} {args:Array Operand} {ts:Array TypeId} {rr:Option Nat} {R:Ending->World->Prop} {next:Act->World->Prop} {Q:Exit->Act->World->Prop}
 (ho:o.op=.call { callee:=.value f,args,argTypes:=ts }) (hc:VCalls P (a.eval f) (args.map a.eval) w R) (hR:∀ e w',R e w'->∃ v,e=.returned v /\ next (a.put o.dst v) w') :
 o.wpIn (WF rr) 0 P a w next Q:=by
 refine ⟨fun _ _=>trivial,?_⟩;have hsem:o.semAt (WF rr).round a.eval=execOp a.eval o:=Oper.semAt_eq _ _ _ (fun c h=>by rw [ho] at h;cases h);rw [hsem];rcases hc with ⟨g,first,cap,hf,hb,hc⟩ | ⟨l,fi,tmps,assign,body,hf,hy,hc⟩
 · rw [zvh hg ho hf hb];refine ⟨(fun h=>by cases h),?_⟩;have:CallsIn (WF rr) 0 P g (first++args.map a.eval++cap) w R:=hc;refine this.mono (fun e w' he=>?_);obtain ⟨v,rfl,hn⟩:=hR e w' he;exact hn
 · rw [znt ho hf,hy];refine ⟨(fun h=>by cases h),?_⟩;have:RoundIn (WF rr) 0 P l fi tmps assign body w R:=hc;refine this.mono (fun e w' he=>?_);obtain ⟨v,rfl,hn⟩:=hR e w' he;exact hn
theorem z0a0 {o:Oper} {a:Act} {t:List AV} {slot:Nat} {v:AV} {ch:Option (Nat×AO)} {rr:Option Nat} {next:Act->World->Prop} {Q:Exit->Act->World->Prop}
 (he:z09 P t H slot o=some (v,ch)) (hr:HRel w X β H) (ht:z2c w (NN X β H) β t a.tmps) (hf:z40 β H slot)
 (hn:∀ u w' β',HRel w' X β' (zi H ch)->Rel w' (NN X β' (zi H ch)) β' v u->Fr w (zn β H) β w' (zn β' (zi H ch)) β'->(∀ b,b≠slot->β.getD b none=none->β'.getD b none=none)->next (a.put o.dst u) w') :
 o.wpIn (WF rr) 0 P a w next Q:=by
 obtain ⟨u,w',β',h1,h2,h3,h4,h5⟩:=zz1 hr ht hf he;refine ⟨fun _ _=>trivial,?_⟩;have hsem:o.semAt (WF rr).round a.eval=execOp a.eval o:=Oper.semAt_eq _ _ _ (fun c h=>by simp [z09,h] at he);rw [hsem];rcases h1 with h1 | ⟨h1,rfl⟩
 · rw [h1];exact hn u w' β' h2 h3 h4 h5
 · rw [h1];exact hn undef w' β' h2 h3 h4 h5
theorem zgg {ops:Array Oper} {t:List AV} {ts:Array Value} {o:Oper} {b:Bool} {N:Nat->Prop} (h:z4u ops t o=some b) (ht:z2c w N β t ts):Region.wanted o (yielded ops ts)=b:=by
 unfold z4u at h;unfold Region.wanted;cases hgd:o.guard with
 | none=>rw [hgd] at h;simp at h;simp [<- h]
 | some jw =>
   obtain ⟨j,want⟩:=jw;rw [hgd] at h;simp only at h ⊢;cases hd:(ops[j]?).bind (·.dst) with
   | none=>rw [hd] at h;cases h
   | some d =>
     rw [hd] at h;simp only at h;have hts:∀ x,t[d]?=some x->∃ u,ts[d]?=some u /\ Rel w N β x u:=by
      intro x hx;have hlt:d<ts.size:=by rw [ht.1];exact (zG.1 hx).1
      exact ⟨ts[d],by simp [hlt],ht.2 d x _ hx (by simp [hlt])⟩
     unfold yielded;rw [hd];simp only [Option.bind_some];split at h
     · rename_i b' hx;obtain ⟨u,h1,h2⟩:=hts _ hx;rw [h1,z4x h2];simp at h ⊢;simpa using h
     · rename_i hx;obtain ⟨u,h1,h2⟩:=hts _ hx;obtain ⟨vs,rfl,hs,_⟩:=zyx h2;rw [h1];simp at h ⊢;exact h
     · cases h
theorem zvi {a:Act} {t:List AV} {N:Nat->Prop} (ht:z2c w N β t a.tmps) (args:Array Operand):ARel w N β (args.toList.map (opd t)) (args.map a.eval):=by
 refine ⟨by simp,fun i x v q1 q2=>?_⟩;simp only [List.getElem?_map,Array.getElem?_toList,Option.map_eq_some_iff] at q1;simp only [Array.getElem?_map,Option.map_eq_some_iff] at q2;obtain ⟨y,h1,rfl⟩:=q1;obtain ⟨z,h2,rfl⟩:=q2;rw [h1] at h2;cases h2;exact zp ht y
theorem Post.of_out {w':World} {β':z13} {ch:Option (Nat×AO)} (h1:HRel w' X β' (zi H ch)) (h2:Fr w (zn β H) β w' (zn β' (zi H ch)) β') (h3:∀ b,b≠H.length->β.getD b none=none->β'.getD b none=none):Post w X β H w' β' (zi H ch) :=
 ⟨h1,h2,fun b hb hn=>h3 b (by omega) hn,zz4 _ _⟩
theorem zj5 (hg:Good P) {run:z1d} {inl:FuncId->Bool} {orc:FuncId->Option (List AV->Option AV)} {prim:FuncId->Option (Nat->List AV->List AO->Res)} (hs:z4y P run) (hor:zk P orc) (hpr:PrimOk P prim)
 {ops:Array Oper} {rr:Option Nat} {Q:Exit->Act->World->Prop}:∀ (n k:Nat) (t:List AV) (H:List AO) (w:World) (β:z13) (a:Act) (t':List AV) (H':List AO),k+n=ops.size ->
  z0h P inl orc prim run ops (ops.toList.drop k) t H=some (t',H')->HRel w X β H->z2c w (NN X β H) β t a.tmps ->
  (∀ a' w' β',Post w X β H w' β' H'->z2c w' (NN X β' H') β' t' a'.tmps->a'.defers=a.defers->Q .normal a' w')->wpOpsIn (WF rr) 0 P ops Q (List.range' k n) a w
 | 0,k,t,H,w,β,a,t',H',hk,h,hr,ht,hQ=>by
   rw [List.drop_eq_nil_of_le (by simp;omega)] at h;simp only [z0h] at h;cases h;simp only [List.range'_zero,wpOpsIn];exact hQ a w β (Post.refl hr) ht rfl
 | n+1,k,t,H,w,β,a,t',H',hk,h,hr,ht,hQ=>by
   have hlt:k<ops.size:=by omega
   have hd:ops.toList.drop k=ops[k]::ops.toList.drop (k+1):=by
    rw [List.drop_eq_getElem_cons (by simpa using hlt)];simp
   rw [hd] at h;have hok:ops[k]?=some ops[k]:=by simp [hlt]
   rw [List.range'_succ,wpOpsIn];simp only [hok];have cont:∀ (v:AV) (u:Value) (H1:List AO) (w1:World) (β1:z13),z0h P inl orc prim run ops (ops.toList.drop (k+1)) (ziy t ops[k].dst v) H1=some (t',H')->Post w X β H w1 β1 H1->Rel w1 (NN X β1 H1) β1 v u ->
    wpOpsIn (WF rr) 0 P ops Q (List.range' (k+1) n) (a.put ops[k].dst u) w1:=by
    intro v u H1 w1 β1 he hp hv;refine zj5 hg hs hor hpr n (k+1) _ H1 w1 β1 _ t' H' (by omega) he hp.hr (z2c.put (hp.trel ht) hv) ?_;intro a' w' β' hp' ht' hdf;exact hQ a' w' β' (hp.trans hp') ht' (hdf.trans (by cases ops[k].dst <;> rfl))
   simp only [z0h] at h;split at h
   · rename_i hw;rw [zgg hw ht];simp only [Bool.false_eq_true,if_false];exact ⟨fun _ _=>trivial,cont _ undef H w β h (Post.refl hr) (.imm (.tup rfl (fun i a v h=>by simp at h)))⟩
   · rename_i hw;rw [zgg hw ht];simp only [if_true];split at h
     · rename_i f args ts hop;split at h
       · rename_i v H1 hc;refine zsl hg hop (zz5 hs hor hpr hc hr (zp ht f) (zvi ht args)) ?_;intro e w' he;obtain ⟨u,β',rfl,hp,hv⟩:=he;exact ⟨u,rfl,cont v u H1 w' β' h hp hv⟩
       · cases h
     · split at h
       · rename_i v ch he;refine z0a0 he hr ht (.inl rfl) ?_;intro u w' β' h1 h2 h3 h4;exact cont v u _ w' β' h (Post.of_out h1 h3 h4) h2
       · cases h
   · cases h
end
end Clk
namespace Clk
open Go
section
variable {P:Program} {t t':List AV} {H H':List AO} {o:Oper} {slot:Nat}
theorem zsm {x:AV} (h:∀ id∈z1u x,H.getD id .none=H'.getD id .none):z1m H x=z1m H' x:=by
 cases x with
 | ref b v o n=>simp only [z1m,h b (by simp [z1u])]
 | _=>rfl
theorem z057 {te:TI} {x:AV} (h:∀ id∈z1u x,H.getD id .none=H'.getD id .none):newRows H te x=newRows H' te x:=by
 cases x with
 | str s=>rfl
 | _=>exact zsm h
theorem z0b2 {ty:TypeId} {x:AV} (h:∀ id∈z1u x,H.getD id .none=H'.getD id .none):loadA P H ty x=loadA P H' ty x:=by
 cases x with
 | ptr b v i j=>simp only [loadA,h b (by simp [z1u])]
 | _=>rfl
theorem z0b3 {s d:TypeId} {x:AV} (h:∀ id∈z1u x,H.getD id .none=H'.getD id .none):convA P H s d x=convA P H' s d x:=by
 have hrw:=zsm (H:=H) (H':=H') h;unfold convA;cases ti P s with
 | none=>rfl
 | some i =>
   cases ti P d with
   | none=>rfl
   | some i' =>
     obtain ⟨_,_,kind,_⟩:=i;obtain ⟨_,_,kind',_⟩:=i';cases x with
     | ref b v o n=>cases kind' <;> cases kind <;> first | rfl | simp only [hrw]
     | _=>cases kind' <;> cases kind <;> rfl
theorem z01e {e:TypeId} {b v:Nat} (h:H.getD b .none=H'.getD b .none):fitK P e H b v=fitK P e H' b v:=by
 unfold fitK;rw [h]
theorem z088 {ty:TypeId} {x:AV} {lo hi mx:Option AV} (h:∀ id∈z1u x,H.getD id .none=H'.getD id .none):sliceA P H ty x lo hi mx=sliceA P H' ty x lo hi mx:=by
 unfold sliceA;cases ti P ty with
 | none=>rfl
 | some i =>
   obtain ⟨_,_,kind,_⟩:=i;cases x with
   | ref b v o n =>
     have hb:=h b (by simp [z1u]);cases kind <;> cases mx <;> try rfl
     simp only [z01e (P:=P) (H:=H) (H':=H') hb]
   | ptr b v i j =>
     have hb:=h b (by simp [z1u]);cases kind <;> cases mx <;> cases i <;> cases j <;> first | rfl | simp only [z01e (P:=P) (H:=H) (H':=H') hb,hb]
   | _=>cases kind <;> cases mx <;> rfl
theorem zvj {ty:TypeId} {x ix:AV} (h:∀ id∈z1u x,H.getD id .none=H'.getD id .none):z0g P H ty x ix=z0g P H' ty x ix:=by
 unfold z0g;cases ti P ty with
 | none=>rfl
 | some i =>
   obtain ⟨_,_,kind,_⟩:=i;cases ix <;> try rfl
   cases x with
   | ref b v o n =>
     have hb:=h b (by simp [z1u]);cases kind <;> try rfl
     simp only [z01e (P:=P) (H:=H) (H':=H') hb]
   | ptr b v i j =>
     have hb:=h b (by simp [z1u]);cases kind <;> try rfl
     cases i <;> cases j <;> try rfl
     simp only [z01e (P:=P) (H:=H) (H':=H') hb]
   | _=>cases kind <;> rfl
theorem z058 {st:TypeId} {s x:AV} (hs:∀ id∈z1u s,H.getD id .none=H'.getD id .none) (hx:∀ id∈z1u x,H.getD id .none=H'.getD id .none):z2a P H slot st s x=z2a P H' slot st s x:=by
 unfold z2a;cases ti P st with
 | none=>rfl
 | some i =>
   obtain ⟨_,_,kind,_⟩:=i;cases kind with
   | slice e =>
     simp only;cases ti P e with
     | none=>rfl
     | some te =>
       simp only;split
       · rfl
       · rw [z057 (H:=H) (H':=H') hx];generalize newRows H' te x=n;cases s with
         | ref b v o n'=>have hb:=hs b (by simp [z1u]);cases n <;> first | rfl | simp only [hb]
         | _=>cases n <;> rfl
   | _=>rfl
theorem z0b4 {dt:TypeId} {d s:AV} (hd:∀ id∈z1u d,H.getD id .none=H'.getD id .none) (hx:∀ id∈z1u s,H.getD id .none=H'.getD id .none):copyA P H dt d s=copyA P H' dt d s:=by
 unfold copyA;cases ti P dt with
 | none=>rfl
 | some i =>
   obtain ⟨_,_,kind,_⟩:=i;cases kind with
   | slice e =>
     simp only;rw [zsm (H:=H) (H':=H') hx];generalize z1m H' s=n;cases d with
     | ref b v o n'=>have hb:=hd b (by simp [z1u]);cases ti P e <;> cases n <;> first | rfl | simp only [hb]
     | crows l=>cases l <;> cases ti P e <;> cases n <;> rfl
     | rows l=>cases l <;> cases ti P e <;> cases n <;> rfl
     | _=>cases ti P e <;> cases n <;> rfl
   | _=>rfl
theorem z089 {ty:TypeId} {x:AV} (h:∀ id∈z1u x,H.getD id .none=H'.getD id .none):clearA P H ty x=clearA P H' ty x:=by
 unfold clearA;cases ti P ty with
 | none=>rfl
 | some i =>
   obtain ⟨_,_,kind,_⟩:=i;cases kind with
   | slice e =>
     simp only;cases x with
     | ref b v o n=>have hb:=h b (by simp [z1u]);cases ti P e <;> first | rfl | simp only [hb]
     | _=>cases ti P e <;> rfl
   | _=>rfl
theorem z03b {b:Builtin} {ts:List TypeId} {args:List AV} (h:∀ x∈args,∀ id∈z1u x,H.getD id .none=H'.getD id .none):z2y P H slot b ts args=z2y P H' slot b ts args:=by
 unfold z2y;split
 · rename_i st xt s x;simp only [z058 (P:=P) (slot:=slot) (st:=st) (h s (by simp)) (h x (by simp))]
 · rfl
 · rename_i dt rest d s;exact z0b4 (h d (by simp)) (h s (by simp))
 · rename_i ty rest x rest';exact z089 (h x (by simp))
 · rfl
 · rfl
 · rfl
theorem z0b5 (h:∀ id∈readsOf t o,H.getD id .none=H'.getD id .none):z09 P t H slot o=z09 P t H' slot o:=by
 unfold z09;cases ho:o.op <;> simp only [readsOf,ho] at h <;> try rfl
 case load ty x=>simp only [z0b2 (P:=P) (ty:=ty) h]
 case store ty p x =>
  simp only;generalize opd t p=y at h ⊢;generalize z3i (opd t x)=z;generalize ti P ty=i;cases y with
  | ptr b v i' j'=>have hb:=h b (by simp [z1u]);cases z <;> cases i <;> first | rfl | simp only [hb]
  | _=>cases z <;> cases i <;> rfl
 case convert s d x=>simp only [z0b3 (P:=P) (s:=s) (d:=d) h]
 case slice ty x lo hi mx=>simp only [z088 (P:=P) (ty:=ty) h]
 case indexAddr ty x ix=>simp only [zvj (P:=P) (ty:=ty) h]
 case makeFunc fn first cap=>cases fn <;> rfl
 case call c =>
  obtain ⟨callee,args,ts⟩:=c;cases callee <;> simp only at h ⊢
  refine z03b (fun x hx id hid=>h id ?_);obtain ⟨y,hy,rfl⟩:=List.mem_map.1 hx;exact List.mem_flatMap.2 ⟨y,hy,hid⟩
theorem zsn {l:List Operand} (h:∀ x∈l,opd t x=opd t' x):l.map (opd t)=l.map (opd t'):=List.map_congr_left h
theorem zvk {l:List (Nat×Operand)} (h:∀ x∈l,opd t x.2=opd t' x.2):(l.map fun p=>(p.1,opd t p.2))=l.map fun p=>(p.1,opd t' p.2) :=
 List.map_congr_left fun p hp=>by rw [h p hp]
theorem z0b6 (h:∀ x∈o.op.operands,opd t x=opd t' x):z09 P t H slot o=z09 P t' H slot o:=by
 unfold z09;cases ho:o.op <;> simp only [Op.operands,ho] at h <;> try rfl
 case build ty parts =>
  simp only;rw [zvk (t:=t) (t':=t') (l:=parts.toList) fun p hp=>h p.2 (by simp;exact ⟨p.1,by simpa using hp⟩)]
 case buildSlice ty n parts =>
  simp only;rw [zvk (t:=t) (t':=t') (l:=parts.toList) fun p hp=>h p.2 (by simp;exact ⟨p.1,by simpa using hp⟩)]
 case makeFunc fn first cap =>
  cases fn <;> try rfl
  simp only [zsn (t:=t) (t':=t') (l:=first.toList) fun x hx=>h x (by simp at hx ⊢;exact .inl hx),zsn (t:=t) (t':=t') (l:=cap.toList) fun x hx=>h x (by simp at hx ⊢;exact .inr hx)]
 case call c =>
  obtain ⟨callee,args,ts⟩:=c;cases callee <;> simp only at h ⊢
  rw [zsn (t:=t) (t':=t') (l:=args.toList) fun x hx=>h x (by simp [Call.operands];simpa using hx)]
 case slice ty x lo hi mx =>
  cases lo <;> cases hi <;> cases mx <;> simp_all
 all_goals (simp_all)
end
end Clk
namespace Clk
open Go
mutual
theorem AV.same_eq:∀ (a b:AV),AV.same a b=true->a=b
 | .bool a,b,h=>by cases b <;> simp_all [AV.same]
 | .int k a,b,h=>by cases b <;> simp_all [AV.same]
 | .str a,b,h=>by
   cases b <;> simp [AV.same] at h ⊢
   rename_i b;obtain ⟨⟨a⟩⟩:=a;obtain ⟨⟨b⟩⟩:=b;simp at h;rw [h]
 | .undef,b,h=>by cases b <;> simp_all [AV.same]
 | .nilPtr,b,h=>by cases b <;> simp_all [AV.same]
 | .nilFunc,b,h=>by cases b <;> simp_all [AV.same]
 | .nilIface,b,h=>by cases b <;> simp_all [AV.same]
 | .nilMap,b,h=>by cases b <;> simp_all [AV.same]
 | .agg a,b,h=>by cases b <;> simp [AV.same] at h ⊢;exact zct _ _ h
 | .tup a,b,h=>by cases b <;> simp [AV.same] at h ⊢;exact zct _ _ h
 | .rows a,b,h=>by cases b <;> simp [AV.same] at h ⊢;exact zj6 _ _ h
 | .crows a,b,h=>by cases b <;> simp [AV.same] at h ⊢;exact zj6 _ _ h
 | .iptr a j,b,h=>by cases b <;> simp [AV.same] at h ⊢;exact ⟨zct _ _ h.1,h.2⟩
 | .ref a v o n,b,h=>by cases b <;> simp_all [AV.same]
 | .ptr a v i j,b,h=>by cases b <;> simp_all [AV.same]
 | .fn f x y,b,h=>by cases b <;> simp [AV.same] at h ⊢;exact ⟨h.1.1,zct _ _ h.1.2,zct _ _ h.2⟩
 | .yield l,b,h=>by cases b <;> simp_all [AV.same]
 | .iface t v,b,h=>by cases b <;> simp [AV.same] at h ⊢;exact ⟨h.1,AV.same_eq _ _ h.2⟩
theorem zct:∀ (a b:List AV),sameL a b=true->a=b
 | [],[],_=>rfl
 | x::xs,y::ys,h=>by simp only [sameL,Bool.and_eq_true] at h;rw [AV.same_eq x y h.1,zct xs ys h.2]
 | [],_::_,h=>by simp [sameL] at h
 | _::_,[],h=>by simp [sameL] at h
theorem zj6:∀ (a b:List (List AV)),sameLL a b=true->a=b
 | [],[],_=>rfl
 | x::xs,y::ys,h=>by simp only [sameLL,Bool.and_eq_true] at h;rw [zct x y h.1,zj6 xs ys h.2]
 | [],_::_,h=>by simp [sameLL] at h
 | _::_,[],h=>by simp [sameLL] at h
end
theorem AO.same_eq:∀ (a b:AO),AO.same a b=true->a=b:=by
 intro a b h;cases a <;> cases b <;> simp [AO.same] at h ⊢
 obtain ⟨⟨⟨h1,h2⟩,h3⟩,h4⟩:=h;exact ⟨h1,h2,h3,zj6 _ _ h4⟩
section
variable {S A:Type} {f:S->A->S} {s:S} {l:List A}
theorem z1f {l':List A} {p p':Nat->Bool}:∀ (k:Nat),(∀ i,i<k->l[i]?=l'[i]?)->(∀ i,i<k->p i=p' i)->upto f s l p k=upto f s l' p' k
 | 0,_,_=>rfl
 | k+1,h,g=>by
   simp only [upto];rw [z1f k (fun i hi=>h i (by omega)) (fun i hi=>g i (by omega)),h k (by omega),g k (by omega)]
theorem zht {p:Nat->Bool} {j:Nat} {b:A} (hb:l[j]?=some b) (hp:p j=false):∀ (k:Nat),j<k ->
 (∀ i a,j<i->i<k->p i=true->l[i]?=some a->∀ s,f (f s b) a=f (f s a) b)->upto f s l (fun i=>p i||i==j) k=f (upto f s l p k) b
 | 0,hk,_=>by omega
 | k+1,hk,hc=>by
   by_cases e:j=k
   · subst e;have h1:upto f s l (fun i=>p i||i==j) j=upto f s l p j:=by
      refine z1f (f:=f) (s:=s) j (fun _ _=>rfl) (fun i hi=>?_);have:i≠j:=by omega
      simp [this]
     simp only [upto,hb,hp,h1];simp
   · have ih:=zht hb hp k (by omega) (fun i a h1 h2=>hc i a h1 (by omega));simp only [upto];rw [ih];have hkj:(k==j)=false:=by simpa using (fun h=>e h.symm)
     cases ha:l[k]? with
     | none=>rfl
     | some a =>
       cases hpk:p k with
       | true=>simp only [hkj,Bool.or_false];exact hc k a (by omega) (by omega) hpk ha _
       | false=>simp only [hkj,Bool.or_false]
theorem zn6 {p q:Nat->Bool} (R:S->S->Prop) (h0:R s s) (hpq:∀ i,q i=true->p i=true):∀ (k:Nat),
 (∀ i a x y,i<k->q i=true->l[i]?=some a->R x y->R (f x a) (f y a)) ->
 (∀ i a,i<k->p i=true->q i=false->l[i]?=some a->R (upto f s l p i) (upto f s l q i)->R (f (upto f s l p i) a) (upto f s l q i))->R (upto f s l p k) (upto f s l q k)
 | 0,_,_=>h0
 | k+1,h1,h2=>by
   have ih:=zn6 R h0 hpq k (fun i a x y hi=>h1 i a x y (by omega)) (fun i a hi=>h2 i a (by omega));simp only [upto];cases ha:l[k]? with
   | none=>exact ih
   | some a =>
     cases hq:q k with
     | true=>simp only [hpq k hq];exact h1 k a _ _ (by omega) hq ha ih
     | false =>
       cases hp:p k with
       | true=>exact h2 k a (by omega) hp hq ha ih
       | false=>exact ih
theorem z6z {p:Nat->Bool}:∀ (k j:Nat),j<=k->(∀ i,j<=i->i<k->p i=false)->upto f s l p k=upto f s l p j
 | 0, j, h, _ => by have : j = 0 := by omega
                    subst this;rfl
 | k+1,j,h,hp=>by
   by_cases e:j=k+1
   · subst e;rfl
   · simp only [upto];rw [hp k (by omega) (by omega),z6z k j (by omega) (fun i h1 h2=>hp i h1 (by omega))];cases l[k]? <;> rfl
end
section
variable {P:Program} {inl:FuncId->Bool} {orc:FuncId->Option (List AV->Option AV)} {prim:FuncId->Option (Nat->List AV->List AO->Res)} {run:z1d}
variable {ops:Array Oper} {pr:List (List Nat)} {t:List AV} {H:List AO} {base:Nat}
def StepOk (P:Program) (inl:FuncId->Bool) (orc:FuncId->Option (List AV->Option AV)) (prim:FuncId->Option (Nat->List AV->List AO->Res)) (run:z1d) (ops:Array Oper) (t:List AV) (H:List AO) (base:Nat) (l:List DStep) (j:Nat) (o:Oper) (s:DStep):Prop :=
 (z4u ops (z12 t l (fun _=>true) j) o=some false /\ s=⟨o.dst,.tup [],.nothing,[],[]⟩) \/
 (z4u ops (z12 t l (fun _=>true) j) o=some true /\ ∃ v ch,z7g P inl orc prim run (z12 t l (fun _=>true) j) (zz H l (fun _=>true) j) (base+j) o=some (v,ch) /\
   s=⟨o.dst,v,ch,readsOf (z12 t l (fun _=>true) j) o,zz H l (fun _=>true) j⟩)
theorem zvl {S A:Type} {f:S->A->S} {s:S} {l:List A} {a:A}:upto f s (l++[a]) (fun _=>true) (l.length+1)=f (upto f s l (fun _=>true) l.length) a:=by
 simp only [upto];rw [z1f (f:=f) (s:=s) (l:=l++[a]) (l':=l) (p:=fun _=>true) (p':=fun _=>true) l.length (fun i hi=>by rw [List.getElem?_append_left hi]) (fun _ _=>rfl)];simp
theorem znu {t0:List AV} {H0:List AO}:∀ (L:List Oper) (t:List AV) (H:List AO) (acc:List DStep) (t':List AV) (H':List AO) (l:List DStep),z1v P inl orc prim run ops base L t H acc=some (t',H',l) ->
 t=z12 t0 acc (fun _=>true) acc.length->H=zz H0 acc (fun _=>true) acc.length ->
 t'=z12 t0 l (fun _=>true) l.length /\ H'=zz H0 l (fun _=>true) l.length /\ l.length=acc.length+L.length /\ (∀ i,i<acc.length->l[i]?=acc[i]?) /\
 ∀ (m:Nat) o,L[m]?=some o->∃ s,l[acc.length+m]?=some s /\ StepOk P inl orc prim run ops t0 H0 base l (acc.length+m) o s
 | [],t,H,acc,t',H',l,h,ht,hH=>by simp only [z1v] at h;cases h;exact ⟨ht,hH,rfl,fun _ _=>rfl,fun m o h=>by simp at h⟩
 | o::L,t,H,acc,t',H',l,h,ht,hH=>by
   simp only [z1v] at h;have key:∀ s:DStep,z1v P inl orc prim run ops base L (ziy t s.dst s.v) (s.ch.on H) (acc++[s])=some (t',H',l) ->
    (∀ l':List DStep,(∀ i,i<acc.length->l'[i]?=acc[i]?)->StepOk P inl orc prim run ops t0 H0 base l' acc.length o s) ->
    t'=z12 t0 l (fun _=>true) l.length /\ H'=zz H0 l (fun _=>true) l.length /\ l.length=acc.length+(o::L).length /\ (∀ i,i<acc.length->l[i]?=acc[i]?) /\
    ∀ (m:Nat) o',(o::L)[m]?=some o'->∃ s,l[acc.length+m]?=some s /\ StepOk P inl orc prim run ops t0 H0 base l (acc.length+m) o' s:=by
    intro s hs hst;obtain ⟨e1,e2,h1,h2,h3⟩:=znu (t0:=t0) (H0:=H0) L _ _ (acc++[s]) t' H' l hs (by rw [ht];simp only [List.length_append,List.length_singleton];exact (zvl (f:=fun t (x:DStep)=>ziy t x.dst x.v)).symm) (by rw [hH];simp only [List.length_append,List.length_singleton];exact (zvl (f:=fun H (x:DStep)=>x.ch.on H)).symm);have hpre:∀ i,i<acc.length->l[i]?=acc[i]?:=fun i hi=>by rw [h2 i (by simp;omega),List.getElem?_append_left hi]
    refine ⟨e1,e2,by rw [h1];simp;omega,hpre,fun m o' hm=>?_⟩;cases m with
    | zero =>
      simp only [List.getElem?_cons_zero,Option.some.injEq] at hm;subst hm;exact ⟨s,by rw [Nat.add_zero,h2 _ (by simp)];simp,hst l hpre⟩
    | succ m =>
      simp only [List.getElem?_cons_succ] at hm;obtain ⟨s',g1,g2⟩:=h3 m o' hm;simp only [List.length_append,List.length_singleton] at g1 g2;have e:acc.length+1+m=acc.length+(m+1):=by omega
      rw [e] at g1 g2;exact ⟨s',g1,g2⟩
   have htm:∀ l':List DStep,(∀ i,i<acc.length->l'[i]?=acc[i]?)->z12 t0 l' (fun _=>true) acc.length=t :=
    fun l' hl=>(z1f _ hl (fun _ _=>rfl)).trans ht.symm
   have hhp:∀ l':List DStep,(∀ i,i<acc.length->l'[i]?=acc[i]?)->zz H0 l' (fun _=>true) acc.length=H :=
    fun l' hl=>(z1f _ hl (fun _ _=>rfl)).trans hH.symm
   split at h
   · rename_i hw;exact key ⟨o.dst,.tup [],.nothing,[],[]⟩ h (fun l' hl=>.inl ⟨by rw [htm l' hl];exact hw,rfl⟩)
   · rename_i hw;split at h
     · rename_i v ch he;exact key ⟨o.dst,v,ch,readsOf t o,H⟩ h (fun l' hl=>.inr ⟨by rw [htm l' hl];exact hw,v,ch,by rw [htm l' hl,hhp l' hl];exact he,by rw [htm l' hl,hhp l' hl]⟩)
     · cases h
   · cases h
structure Checked (ops:Array Oper) (L:Nat) (pr:List (List Nat)) (l:List DStep):Prop where
 lt:∀ j,j<ops.size->∀ i∈pr.getD j [],i<j
 trans:∀ j,j<ops.size->∀ i∈pr.getD j [],∀ x∈pr.getD i [],x∈pr.getD j []
 from_:∀ (j:Nat) (o:Oper),ops[j]?=some o->∀ i∈pr.getD j [],∃ e∈o.after.toList,Region.binds .any e=true /\ (e.on=i \/ i∈pr.getD e.on [])
 dir:∀ (j:Nat) (o:Oper),ops[j]?=some o->∀ e∈o.after.toList,Region.binds .any e=true->e.on∈pr.getD j []
 step:∀ (j:Nat) (o:Oper) (s:DStep),ops[j]?=some o->l[j]?=some s->(∀ id ob,s.ch=.one id ob->id<L) /\ (∀ H',s.ch=.all H'->L<=H'.length)
 get:∀ j,j<ops.size->∃ s,l[j]?=some s
 apart:∀ (i j:Nat) (a b:Oper) (s sj:DStep),i≠j->ops[i]?=some a->ops[j]?=some b->l[i]?=some s->l[j]?=some sj->apartD ops i j a b s sj ((pr.getD i []).contains j||(pr.getD j []).contains i)=true
theorem zz6 {L:Nat} {l:List DStep} (h:drawOk ops L pr l=true):Checked ops L pr l:=by
 unfold drawOk at h;have h:=List.all_eq_true.1 h;have h1:∀ (j:Nat) (o:Oper),ops[j]?=some o->∃ s,l[j]?=some s /\ soundD L pr j o s=true /\ ∀ (i:Nat) (b:Oper),i≠j->ops[i]?=some b->∃ si,l[i]?=some si /\ apartD ops j i o b s si ((pr.getD j []).contains i||(pr.getD i []).contains j)=true:=by
  intro j o ho;have hlt:=(Array.getElem?_eq_some_iff.1 ho).1;have hj:=h j (List.mem_range.2 hlt);rw [ho] at hj;cases hs:l[j]? with
  | none=>rw [hs] at hj;cases hj
  | some s =>
    rw [hs] at hj;simp only [Bool.and_eq_true] at hj;refine ⟨s,rfl,hj.1,fun i b hij hb=>?_⟩;have hi:=List.all_eq_true.1 hj.2 i (List.mem_range.2 (Array.getElem?_eq_some_iff.1 hb).1);rw [hb] at hi;cases hsi:l[i]? with
    | none=>rw [hsi] at hi;simp at hi;exact absurd hi.symm hij
    | some si =>
      rw [hsi] at hi;simp only [Bool.or_eq_true,beq_iff_eq] at hi;refine ⟨si,rfl,?_⟩;rcases hi with e | hi
      · exact absurd e.symm hij
      · simpa using hi
 have h2:∀ (j:Nat) (o:Oper),ops[j]?=some o->∃ s,l[j]?=some s /\ (∀ i∈pr.getD j [],i<j /\ (∀ x∈pr.getD i [],x∈pr.getD j []) /\ ∃ e∈o.after.toList,Region.binds .any e=true /\ (e.on=i \/ i∈pr.getD e.on [])) /\
  (∀ e∈o.after.toList,Region.binds .any e=true->e.on∈pr.getD j []) /\ (∀ id ob,s.ch=.one id ob->id<L) /\ (∀ H',s.ch=.all H'->L<=H'.length):=by
  intro j o ho;obtain ⟨s,hs,hsd,_⟩:=h1 j o ho;simp only [soundD,Bool.and_eq_true] at hsd;obtain ⟨⟨g1,g2⟩,g3⟩:=hsd;refine ⟨s,hs,fun i hi=>?_,fun e he hb=>?_,fun id ob hc=>?_,fun H' hc=>?_⟩
  · have:=List.all_eq_true.1 g1 i hi;simp only [Bool.and_eq_true,decide_eq_true_eq] at this;refine ⟨this.1.1,fun x hx=>by simpa using List.all_eq_true.1 this.1.2 x hx,?_⟩;have h3:=this.2;rw [Array.any_eq_true] at h3;obtain ⟨k,hk,h3⟩:=h3;simp only [Bool.and_eq_true,Bool.or_eq_true,beq_iff_eq,List.contains_iff_mem] at h3;exact ⟨o.after[k],by simp,h3⟩
  · rw [Array.all_eq_true] at g2;obtain ⟨k,hk,rfl⟩:=List.getElem_of_mem he;have:=g2 k (by simpa using hk);simp only [Array.getElem_toList] at hb ⊢;simpa [hb] using this
  · rw [hc] at g3;simpa using g3
  · rw [hc] at g3;simpa using g3
 have get:∀ j,j<ops.size->∃ o,ops[j]?=some o:=fun j hj=>⟨ops[j],by simp [hj]⟩
 refine ⟨fun j hj i hi=>?_,fun j hj i hi=>?_,fun j o ho i hi=>?_,fun j o ho=>?_,fun j o s ho hs=>?_,fun j hj=>?_,fun i j a b s sj hij ha hb hs hsj=>?_⟩
 · obtain ⟨o,ho⟩:=get j hj;obtain ⟨s,_,g,_⟩:=h2 j o ho;exact (g i hi).1
 · obtain ⟨o,ho⟩:=get j hj;obtain ⟨s,_,g,_⟩:=h2 j o ho;exact (g i hi).2.1
 · obtain ⟨s,_,g,_⟩:=h2 j o ho;exact (g i hi).2.2
 · obtain ⟨s,_,_,g,_⟩:=h2 j o ho;exact g
 · obtain ⟨s',hs',_,_,g⟩:=h2 j o ho;rw [hs] at hs';cases hs';exact g
 · obtain ⟨o,ho⟩:=get j hj;obtain ⟨s,g,_⟩:=h2 j o ho;exact ⟨s,g⟩
 · obtain ⟨s',hs',_,g⟩:=h1 i a ha;rw [hs] at hs';cases hs';obtain ⟨si,g1,g2⟩:=g j b (Ne.symm hij) hb;rw [hsj] at g1;cases g1;exact g2
end
end Clk
namespace Clk
open Go
section
variable {P:Program} {inl:FuncId->Bool} {orc:FuncId->Option (List AV->Option AV)} {prim:FuncId->Option (Nat->List AV->List AO->Res)} {run:z1d}
variable {ops:Array Oper} {pr:List (List Nat)} {t:List AV} {H:List AO} {base L:Nat} {l:List DStep} {D:Nat->Bool} {j:Nat}
structure Clos (ops:Array Oper) (pr:List (List Nat)) (D:Nat->Bool):Prop where
 lt:∀ i,D i=true->i<ops.size
 cl:∀ i,D i=true->∀ x∈pr.getD i [],D x=true
def pj (pr:List (List Nat)) (j:Nat):Nat->Bool:=fun i=>(pr.getD j []).contains i
theorem znv {i:Nat}:pj pr j i=true↔i∈pr.getD j []:=by simp [pj]
def putT (t:List AV) (x:DStep):List AV:=ziy t x.dst x.v
theorem zgh (hD:Clos ops pr D) {i:Nat} (hi:D i=true) (hj:D j=false) (hn:pj pr j i=false):((pr.getD i []).contains j||(pr.getD j []).contains i)=false:=by
 rw [Bool.or_eq_false_iff];refine ⟨?_,hn⟩;cases h:(pr.getD i []).contains j with
 | false=>rfl
 | true=>rw [hD.cl i hi j (by simpa using h)] at hj;cases hj
theorem z08a (t:List AV) (d:Option Tmp) (v:AV):(ziy t d v).length=t.length:=by cases d <;> simp [ziy]
theorem z0b7 {t:List AV} {dst:Option Tmp} {v:AV} {d:Nat} (h:∀ d',dst=some d'->d'≠d):(ziy t dst v)[d]?=t[d]?:=by
 cases dst with
 | none=>rfl
 | some e=>exact List.getElem?_set_ne (h e rfl)
theorem z0b8 (H:List AO) (id:Nat) (ob:AO):((Eff.one id ob).on H).length=H.length:=by simp [Eff.on]
theorem z08b {H:List AO} {id:Nat} {ob:AO} (h:id<H.length) (c:Nat):((Eff.one id ob).on H).getD c .none=if c=id then ob else H.getD c .none:=z06 _ _ _ _ _ h
def frz1:AO->AO
 | .blk k v _ rows=>.blk k v false rows
 | o=>o
theorem zkv (H:List AO) (b c:Nat):(zj H b).getD c .none=if c=b then frz1 (H.getD c .none) else H.getD c .none:=by
 unfold zj;by_cases e:c=b
 · subst e;rw [if_pos rfl];split
   · rename_i k v l rows h;have hl:c<H.length:=by
      apply Classical.byContradiction;intro hn
      rw [zI,List.getElem?_eq_none (by omega)] at h;cases h
     rw [z06 _ _ _ _ _ hl,if_pos rfl,h];rfl
   · rename_i hne;cases h:H.getD c .none with
     | blk k v l rows=>exact absurd h (hne k v l rows)
     | _=>rfl
 · rw [if_neg e];split
   · simp only [zI,List.getElem?_set_ne (Ne.symm e)]
   · rfl
theorem zz7 (H:List AO) (b:Nat):(zj H b).length=H.length:=by unfold zj;split <;> simp
theorem zcb:∀ (l:List Nat) (H:List AO),(z03 H l).length=H.length
 | [],_=>rfl
 | b::l,H=>(zcb l (zj H b)).trans (zz7 H b)
theorem zro {c:Nat}:∀ (l:List Nat) (H:List AO),c∉l->(z03 H l).getD c .none=H.getD c .none
 | [],_,_=>rfl
 | b::l,H,h=>by
   have:=zro l (zj H b) (fun hx=>h (List.mem_cons_of_mem _ hx));show (z03 (zj H b) l).getD c .none=_;rw [this,zkv,if_neg (fun e:c=b=>h (by rw [e];exact List.mem_cons_self))]
theorem znw {c:Nat}:∀ (l:List Nat) (H H':List AO),H.getD c .none=H'.getD c .none->(z03 H l).getD c .none=(z03 H' l).getD c .none
 | [],_,_,h=>h
 | b::l,H,H',h=>znw l (zj H b) (zj H' b) (by rw [zkv,zkv,h])
theorem zz8 {id b:Nat} (h:id≠b) (H:List AO) (ob:AO):zj (H.set id ob) b=(zj H b).set id ob:=by
 unfold zj;have:(H.set id ob).getD b .none=H.getD b .none:=by simp only [zI,List.getElem?_set_ne h]
 rw [this];split
 · exact List.set_comm _ _ h
 · rfl
theorem zkw {id:Nat} (ob:AO):∀ (l:List Nat) (H:List AO),id∉l->z03 (H.set id ob) l=(z03 H l).set id ob
 | [],_,_=>rfl
 | b::l,H,h=>by
   show z03 (zj (H.set id ob) b) l=(z03 (zj H b) l).set id ob;rw [zz8 (fun e:id=b=>h (by rw [e];exact List.mem_cons_self)),zkw ob l _ (fun hx=>h (List.mem_cons_of_mem _ hx))]
theorem zj7 {α β:Type} {f g:α->Option β}:∀ {l:List α} {y:List β},mapO f l=some y->(∀ x∈l,∀ z,f x=some z->g x=some z)->mapO g l=some y
 | [],y,h,_=>h
 | x::l,y,h,hc=>by
   simp only [mapO] at h ⊢;split at h
   · rename_i a as e1 e2;rw [hc x List.mem_cons_self _ e1,zj7 e2 (fun x hx=>hc x (List.mem_cons_of_mem _ hx))];exact h
   · cases h
theorem zn7 {α β:Type} {f:α->Option β}:∀ {l:List α} {y:List β},mapO f l=some y->∀ x∈l,∃ z,f x=some z
 | [],_,_,_,hx=>by simp at hx
 | a::l,y,h,x,hx=>by
   simp only [mapO] at h;split at h
   · rename_i a' as e1 e2;rcases List.mem_cons.1 hx with rfl | hx
     · exact ⟨_,e1⟩
     · exact zn7 e2 x hx
   · cases h
theorem zek {α β:Type} {f g:α->List β} {l:List α} (h:∀ x∈l,f x=g x):l.flatMap f=l.flatMap g:=by
 unfold List.flatMap;rw [List.map_congr_left h]
theorem z01f {H H':List AO}:∀ (d:Nat) (x y:AV),exp H d x=some y->(∀ id∈zt H d x,H.getD id .none=H'.getD id .none)->exp H' d x=some y /\ zt H' d x=zt H d x
 | 0,_,_,h,_=>by cases h
 | d+1,x,y,h,hr=>by
   have list:∀ (l:List AV) (w:List AV),mapO (exp H d) l=some w->(∀ id∈l.flatMap (zt H d),H.getD id .none=H'.getD id .none)->mapO (exp H' d) l=some w /\ l.flatMap (zt H' d)=l.flatMap (zt H d):=by
    intro l w e hr;have each:∀ x∈l,∀ z,exp H d x=some z->exp H' d x=some z /\ zt H' d x=zt H d x:=fun x hx z e2=>z01f d x z e2 fun id hid=>hr id (List.mem_flatMap.2 ⟨x,hx,hid⟩)
    refine ⟨zj7 e fun x hx z e2=>(each x hx z e2).1,zek fun x hx=>?_⟩;obtain ⟨z,hz⟩:=zn7 e x hx;exact (each x hx z hz).2
   have same:∀ v:AV,exp H (d+1) v=v.nrm->exp H' (d+1) v=v.nrm->zt H (d+1) v=[]->zt H' (d+1) v=[]->x=v->exp H' (d+1) x=some y /\ zt H' (d+1) x=zt H (d+1) x:=by
    rintro v a b c e rfl
    exact ⟨by rw [b,<- a];exact h,by rw [c,e]⟩
   cases x with
   | agg l =>
     simp only [exp,Option.map_eq_some_iff] at h;obtain ⟨w,h1,rfl⟩:=h;obtain ⟨g1,g2⟩:=list l w h1 (by simpa only [zt] using hr);exact ⟨by simp only [exp,g1,Option.map_some],by simp only [zt,g2]⟩
   | tup l =>
     simp only [exp,Option.map_eq_some_iff] at h;obtain ⟨w,h1,rfl⟩:=h;obtain ⟨g1,g2⟩:=list l w h1 (by simpa only [zt] using hr);exact ⟨by simp only [exp,g1,Option.map_some],by simp only [zt,g2]⟩
   | ref b v o n =>
     simp only [exp] at h;cases hb:H.getD b .none with
     | blk k v' l rows =>
       rw [hb] at h;have hb':H'.getD b .none=.blk k v' l rows:=by
        rw [<- hb];refine (hr b ?_).symm;simp only [zt,hb];exact List.mem_cons_self
       simp only at h;split at h
       · rename_i hc;cases hn:nrmLL ((rows.drop o).take n) with
         | some r =>
           rw [hn] at h;exact ⟨by simp only [exp,hb',if_pos hc,hn];exact h,by simp only [zt,hb,hb',hn]⟩
         | none =>
           rw [hn] at h;simp only [Option.map_eq_some_iff] at h;obtain ⟨w,h1,rfl⟩:=h;have hr':∀ r∈(rows.drop o).take n,∀ id∈r.flatMap (zt H d),H.getD id .none=H'.getD id .none:=by
            intro r hm id hid;refine hr id ?_;simp only [zt,hb,hn];exact List.mem_cons_of_mem _ (List.mem_flatMap.2 ⟨r,hm,hid⟩)
           have g1:mapO (mapO (exp H' d)) ((rows.drop o).take n)=some w:=zj7 h1 fun r hm z e2=>(list r z e2 (hr' r hm)).1
           have g2:((rows.drop o).take n).flatMap (fun r=>r.flatMap (zt H' d))=((rows.drop o).take n).flatMap (fun r=>r.flatMap (zt H d)):=zek fun r hm=>by
            obtain ⟨z,hz⟩:=zn7 h1 r hm;exact (list r z hz (hr' r hm)).2
           exact ⟨by simp only [exp,hb',if_pos hc,hn,g1,Option.map_some],by simp only [zt,hb,hb',hn,g2]⟩
       · cases h
     | _=>rw [hb] at h;cases h
   | _=>exact same _ rfl rfl rfl rfl rfl
theorem z059 {H H':List AO} {d:Nat} {l w:List AV} (e:mapO (exp H d) l=some w) (hr:∀ id∈l.flatMap (zt H d),H.getD id .none=H'.getD id .none):mapO (exp H' d) l=some w /\ l.flatMap (zt H' d)=l.flatMap (zt H d):=by
 have each:∀ x∈l,∀ z,exp H d x=some z->exp H' d x=some z /\ zt H' d x=zt H d x:=fun x hx z e2=>z01f d x z e2 fun id hid=>hr id (List.mem_flatMap.2 ⟨x,hx,hid⟩)
 refine ⟨zj7 e fun x hx z e2=>(each x hx z e2).1,zek fun x hx=>?_⟩;obtain ⟨z,hz⟩:=zn7 e x hx;exact (each x hx z hz).2
def DStep.look (s:DStep):List Nat:=s.rd++(match s.ch with | .frz l=>l | _=>[])
theorem z05a {t:List AV} {a b:DStep} (h:∀ d,a.dst=some d->b.dst≠some d):putT (putT t b) a=putT (putT t a) b:=by
 unfold putT ziy;cases ha:a.dst with
 | none=>rfl
 | some d =>
   cases hb:b.dst with
   | none=>rfl
   | some e=>exact List.set_comm _ _ (fun h'=>h d ha (by rw [hb,h']))
theorem z0ds (ck:Checked ops L pr l) (hd:∀ (i:Nat) (o:Oper) (s:DStep),ops[i]?=some o->l[i]?=some s->s.dst=o.dst) (hD:Clos ops pr D) (hj:D j=false) {o:Oper} {s:DStep} (ho:ops[j]?=some o) (hs:l[j]?=some s) :
 z12 t l (fun i=>D i||i==j) ops.size=ziy (z12 t l D ops.size) s.dst s.v:=by
 have hlt:=(Array.getElem?_eq_some_iff.1 ho).1;refine zht (f:=fun t (x:DStep)=>ziy t x.dst x.v) hs hj ops.size hlt ?_;intro i a h1 h2 h3 ha t';have ho':ops[i]?=some ops[i]:=by simp [h2]
 have hap:=ck.apart i j _ o a s (by omega) ho' ho ha hs;refine z05a (fun d hda hdb=>?_);simp only [apartD,Bool.and_eq_true] at hap;rw [hd i _ a ho' ha] at hda;rw [hd j o s ho hs] at hdb;rw [hda] at hap;simp [hdb] at hap
theorem z0dt (ck:Checked ops L pr l) (hD:Clos ops pr D) (hj:D j=false) {o:Oper} {s:DStep} (ho:ops[j]?=some o) (hs:l[j]?=some s) :
 zz H l (fun i=>D i||i==j) ops.size=s.ch.on (zz H l D ops.size):=by
 have hlt:=(Array.getElem?_eq_some_iff.1 ho).1;refine zht (f:=fun H (x:DStep)=>x.ch.on H) hs hj ops.size hlt ?_;intro i a h1 h2 h3 ha H';have ho':ops[i]?=some ops[i]:=by simp [h2]
 have hni:pj pr j i=false:=by
  cases h:pj pr j i with
  | false=>rfl
  | true=>have:=ck.lt j hlt i (znv.1 h);omega
 have hc:=zgh hD h3 hj hni;have hap:=ck.apart j i o _ s a (by omega) ho ho' hs ha;rw [Bool.or_comm] at hc;rw [hc] at hap;simp only [apartD,Bool.and_eq_true,Bool.false_or] at hap;have hap:=hap.2;cases hch:s.ch with
 | nothing=>simp only [Eff.on]
 | one id ob =>
   rw [hch] at hap;simp only [Bool.and_eq_true] at hap;have hap:=hap.2;cases hca:a.ch with
   | nothing=>simp only [Eff.on]
   | one id' ob' =>
     rw [hca] at hap;simp only [Eff.on];exact List.set_comm _ _ (by simpa using hap)
   | frz l2 =>
     rw [hca] at hap;simp only [Eff.on];exact zkw _ _ _ (by simpa using hap)
   | all H2=>rw [hca] at hap;cases hap
 | frz l1 =>
   rw [hch] at hap;simp only [Bool.and_eq_true] at hap;have hap:=hap.2;cases hca:a.ch with
   | nothing=>simp only [Eff.on]
   | one id' ob' =>
     rw [hca] at hap;simp only [Eff.on];exact (zkw _ _ _ (by simpa using hap)).symm
   | frz l2=>rw [hca] at hap;cases hap
   | all H2=>rw [hca] at hap;cases hap
 | all H2 =>
   rw [hch] at hap;simp only [Bool.and_eq_true] at hap;have hap:=hap.1;cases hca:a.ch with
   | nothing=>simp only [Eff.on]
   | one=>rw [hca] at hap;cases hap
   | frz=>rw [hca] at hap;cases hap
   | all=>rw [hca] at hap;cases hap
theorem z05b (ck:Checked ops L pr l) (hd:∀ (i:Nat) (o:Oper) (s:DStep),ops[i]?=some o->l[i]?=some s->s.dst=o.dst) (hD:Clos ops pr D) (hj:D j=false) (hpr:∀ i∈pr.getD j [],D i=true) {o:Oper} {s:DStep} (ho:ops[j]?=some o) (hs:l[j]?=some s) :
 (z12 t l D ops.size).length=(z12 t l (pj pr j) j).length /\ ∀ d∈o.looksAt ops,(z12 t l D ops.size)[d]?=(z12 t l (pj pr j) j)[d]?:=by
 have hlt:=(Array.getElem?_eq_some_iff.1 ho).1;have e:z12 t l (pj pr j) ops.size=z12 t l (pj pr j) j:=z6z ops.size j (by omega) (fun i h1 h2=>by
  cases h:pj pr j i with
  | false=>rfl
  | true=>have:=ck.lt j hlt i (znv.1 h);omega)
 rw [<- e];refine zn6 (f:=fun t (x:DStep)=>ziy t x.dst x.v) (fun x y=>x.length=y.length /\ ∀ d∈o.looksAt ops,x[d]?=y[d]?) ⟨rfl,fun _ _=>rfl⟩ (fun i h=>hpr i (znv.1 h)) ops.size ?_ ?_
 · intro i a x y _ _ _ ⟨h1,h2⟩;unfold ziy;cases a.dst with
   | none=>exact ⟨h1,h2⟩
   | some d' =>
     refine ⟨by simp [h1],fun d hd=>?_⟩;rw [List.getElem?_set,List.getElem?_set,h1,h2 d hd]
 · intro i a hi hDi hq ha ⟨h1,h2⟩;have ho':ops[i]?=some ops[i]:=by simp [hi]
   have hij:i≠j:=fun e=>by rw [e,hj] at hDi;cases hDi
   have hap:=ck.apart i j _ o a s hij ho' ho ha hs;rw [zgh hD hDi hj hq] at hap;simp only [apartD,Bool.and_eq_true,Bool.false_or] at hap;have hap:=hap.1;have hda:=hd i _ a ho' ha;refine ⟨by rw [z08a];exact h1,fun d hd'=>?_⟩;rw [z0b7,h2 d hd'];intro d' hdd e;rw [hda] at hdd;rw [hdd] at hap;simp only [Bool.and_eq_true,Bool.not_eq_true',List.contains_eq_mem,decide_eq_false_iff_not] at hap;exact hap.2 (by rw [e];exact hd')
theorem z08c (ck:Checked ops L pr l) (hD:Clos ops pr D) (hj:D j=false) (hpr:∀ i∈pr.getD j [],D i=true) {o:Oper} {s:DStep} (ho:ops[j]?=some o) (hs:l[j]?=some s) {H2:List AO} (hc:s.ch=.all H2) (k:Nat) (hk:k<=ops.size) (hjk:j<=k) :
 zz H l D k=zz H l (pj pr j) j:=by
 have hlt:=(Array.getElem?_eq_some_iff.1 ho).1;have e:zz H l (pj pr j) k=zz H l (pj pr j) j:=z6z k j hjk (fun i h1 h2=>by
  cases h:pj pr j i with
  | false=>rfl
  | true=>have:=ck.lt j hlt i (znv.1 h);omega)
 rw [<- e];refine zn6 (f:=fun H (x:DStep)=>x.ch.on H) Eq rfl (fun i h=>hpr i (znv.1 h)) k (fun i a x y _ _ _ h=>by rw [h]) ?_;intro i a hi hDi hq ha h;have hi':i<ops.size:=by omega
 have ho':ops[i]?=some ops[i]:=by simp [hi']
 have hij:j≠i:=fun e=>by rw [<- e,hj] at hDi;cases hDi
 have hap:=ck.apart j i o _ s a hij ho ho' hs ha;have hcf:=zgh hD hDi hj hq;rw [Bool.or_comm] at hcf;rw [hcf,apartD,hc] at hap;simp only [Bool.and_eq_true,Bool.false_or] at hap;have hap:=hap.2.1;cases hca:a.ch with
 | nothing=>exact h
 | one=>rw [hca] at hap;cases hap
 | frz=>rw [hca] at hap;cases hap
 | all=>rw [hca] at hap;cases hap
theorem zkx (ck:Checked ops L pr l) (hL:L<=H.length) (D:Nat->Bool):∀ k,k<=ops.size->L<=(zz H l D k).length
 | 0,_=>hL
 | k+1,hk=>by
   have ih:=zkx ck hL D k (by omega);unfold zz at ih ⊢;simp only [upto];cases ha:l[k]? with
   | none=>exact ih
   | some a =>
     cases D k with
     | false=>exact ih
     | true =>
       have ho':ops[k]?=some ops[k]:=by simp [show k<ops.size by omega]
       obtain ⟨g1,g2⟩:=ck.step k _ a ho' ha;simp only;cases hc:a.ch with
       | nothing=>exact ih
       | one id ob=>simp only [Eff.on,List.length_set];exact ih
       | frz l2=>simp only [Eff.on,zcb];exact ih
       | all H2=>exact g2 H2 hc
theorem znx (ck:Checked ops L pr l) (j:Nat) (hj:j<=ops.size):Clos ops pr (fun x=>decide (x<j)) :=
 ⟨fun i h=>by simp at h;omega,fun i h x hx=>by
  simp at h ⊢;have:=ck.lt i (by omega) x hx;omega⟩
theorem z05c (ck:Checked ops L pr l) (hL:L<=H.length) (hhb:∀ (i:Nat) (o:Oper) (s:DStep) H2,ops[i]?=some o->l[i]?=some s->s.ch=.all H2->s.hb=zz H l (fun _=>true) i)
 (hD:Clos ops pr D) (hj:D j=false) (hpr:∀ i∈pr.getD j [],D i=true) {o:Oper} {s:DStep} (ho:ops[j]?=some o) (hs:l[j]?=some s) :
 ∀ id∈s.look,(zz H l D ops.size).getD id .none=(zz H l (pj pr j) j).getD id .none:=by
 have hlt:=(Array.getElem?_eq_some_iff.1 ho).1;have e:zz H l (pj pr j) ops.size=zz H l (pj pr j) j:=z6z ops.size j (by omega) (fun i h1 h2=>by
  cases h:pj pr j i with
  | false=>rfl
  | true=>have:=ck.lt j hlt i (znv.1 h);omega)
 rw [<- e];have key:(L<=(zz H l D ops.size).length /\ L<=(zz H l (pj pr j) ops.size).length) /\ ∀ id∈s.look,(zz H l D ops.size).getD id .none=(zz H l (pj pr j) ops.size).getD id .none:=by
  refine zn6 (f:=fun H (x:DStep)=>x.ch.on H) (fun x y=>(L<=x.length /\ L<=y.length) /\ ∀ id∈s.look,x.getD id .none=y.getD id .none) ⟨⟨hL,hL⟩,fun _ _=>rfl⟩ (fun i h=>hpr i (znv.1 h)) ops.size ?_ ?_
  · intro i a x y hi _ ha ⟨⟨h1,h1'⟩,h2⟩;have ho':ops[i]?=some ops[i]:=by simp [hi]
    obtain ⟨g1,g2⟩:=ck.step i _ a ho' ha;cases hc:a.ch with
    | nothing=>exact ⟨⟨h1,h1'⟩,h2⟩
    | one id' ob =>
      have hid:=g1 id' ob hc;refine ⟨⟨by simpa [Eff.on] using h1,by simpa [Eff.on] using h1'⟩,fun id hid2=>?_⟩;simp only [Eff.on];rw [z06 _ _ _ _ _ (by omega),z06 _ _ _ _ _ (by omega),h2 id hid2]
    | frz l2 =>
      refine ⟨⟨by simpa [Eff.on,zcb] using h1,by simpa [Eff.on,zcb] using h1'⟩,fun id hid2=>?_⟩;simp only [Eff.on];exact znw l2 x y (h2 id hid2)
    | all H2=>exact ⟨⟨g2 H2 hc,g2 H2 hc⟩,fun _ _=>rfl⟩
  · intro i a hi hDi hq ha ⟨⟨h1,h1'⟩,h2⟩;have ho':ops[i]?=some ops[i]:=by simp [hi]
    have hij:i≠j:=fun e=>by rw [e,hj] at hDi;cases hDi
    have hap:=ck.apart i j _ o a s hij ho' ho ha hs;rw [zgh hD hDi hj hq] at hap;simp only [apartD,Bool.and_eq_true,Bool.false_or] at hap;have hap:=hap.2;obtain ⟨g1,g2⟩:=ck.step i _ a ho' ha;cases hc:a.ch with
    | nothing=>exact ⟨⟨h1,h1'⟩,h2⟩
    | one id' ob =>
      rw [hc] at hap;simp only [Bool.and_eq_true,Bool.not_eq_true',List.contains_eq_mem,decide_eq_false_iff_not] at hap;refine ⟨⟨by rw [z0b8];exact h1,h1'⟩,fun id hid2=>?_⟩;have hlt':=g1 id' ob hc;have hno:id'∉s.look:=by
       unfold DStep.look;rw [List.mem_append,not_or];refine ⟨hap.1,?_⟩;have h5:=hap.2;cases hsc:s.ch with
       | frz l3=>rw [hsc] at h5;simpa using h5
       | _=>simp
      rw [z08b (Nat.lt_of_lt_of_le hlt' h1),if_neg (fun (e:id=id')=>hno (by rw [<- e];exact hid2))];exact h2 id hid2
    | frz l2 =>
      rw [hc] at hap;simp only [Bool.and_eq_true] at hap;refine ⟨⟨by simpa [Eff.on,zcb] using h1,h1'⟩,fun id hid2=>?_⟩;have hno:id∉l2:=by
       unfold DStep.look at hid2;rcases List.mem_append.1 hid2 with h5 | h5
       · have:=List.all_eq_true.1 hap.1 id h5;simpa using this
       · have h6:=hap.2;cases hsc:s.ch with
         | frz l3=>rw [hsc] at h6;cases h6
         | _=>rw [hsc] at h5;simp at h5
      simp only [Eff.on];rw [zro l2 _ hno];exact h2 id hid2
    | all H2 =>
      rw [hc] at hap;simp only [Bool.and_eq_true] at hap;refine ⟨⟨g2 H2 hc,h1'⟩,fun id hid2=>?_⟩;have hid3:id∈s.rd:=by
       unfold DStep.look at hid2;rcases List.mem_append.1 hid2 with h5 | h5
       · exact h5
       · have h6:=hap.1;cases hsc:s.ch with
         | frz l3=>rw [hsc] at h6;cases h6
         | _=>rw [hsc] at h5;simp at h5
      have hsame:=AO.same_eq _ _ (List.all_eq_true.1 hap.2 id hid3);show H2.getD id .none=_;rw [hsame,hhb i _ a H2 ho' ha hc];have hDi':Clos ops pr (fun x=>D x&&decide (x<i)):=⟨fun x hx=>by simp at hx;exact hD.lt x hx.1,fun x hx y hy=>by
       simp at hx ⊢;exact ⟨hD.cl x hx.1 y hy,by have:=ck.lt x (hD.lt x hx.1) y hy;omega⟩⟩
      have e2:=z08c (H:=H) ck hDi' (j:=i) (by simp) (fun x hx=>by simp;exact ⟨hD.cl i hDi x hx,ck.lt i hi x hx⟩) ho' ha hc i (by omega) (Nat.le_refl _);have e4:=z08c (H:=H) ck (znx ck i (by omega)) (j:=i) (by simp) (fun x hx=>by simpa using ck.lt i hi x hx) ho' ha hc i (by omega) (Nat.le_refl _);have e5:zz H l (fun x=>decide (x<i)) i=zz H l (fun _=>true) i:=z1f i (fun _ _=>rfl) (fun x hx=>by simp [hx]);rw [<- e5,e4,<- e2];have e3:zz H l (fun x=>D x&&decide (x<i)) i=zz H l D i:=z1f i (fun _ _=>rfl) (fun x hx=>by simp [hx]);rw [e3];exact h2 id hid2
 exact key.2
theorem z0b9 {t t':List AV} {o:Oper} {slot:Nat} (h:∀ x∈o.op.operands,opd t x=opd t' x):z7g P inl orc prim run t H slot o=z7g P inl orc prim run t' H slot o:=by
 have hL:=z0b6 (P:=P) (H:=H) (slot:=slot) h;unfold z7g;split
 · rename_i f args ts hop;have e1:opd t f=opd t' f:=h f (by rw [hop];simp [Op.operands,Call.operands]);have e2:args.toList.map (opd t)=args.toList.map (opd t'):=zsn fun x hx=>h x (by rw [hop];simp [Op.operands,Call.operands];exact .inr (by simpa using hx))
   rw [e1,e2]
 · rw [hL]
theorem z0ba {H':List AO} {t:List AV} {o:Oper} {slot:Nat} {v:AV} {ch:Eff} (hpr:PrimOk P prim) (he:z7g P inl orc prim run t H slot o=some (v,ch)) (hrd:∀ id∈readsOf t o,H.getD id .none=H'.getD id .none) (hall:∀ H2,ch=.all H2->H=H') (hfz:∀ l,ch=.frz l->∀ id∈l,H.getD id .none=H'.getD id .none) :
 z7g P inl orc prim run t H' slot o=some (v,ch):=by
 by_cases hc:∃ H2,ch=.all H2
 · obtain ⟨H2,hc⟩:=hc;rw [<- hall H2 hc];exact he
 · unfold z7g at he ⊢;split at he
   · rename_i f args ts hop;split at he
     · rename_i g first cap hf
       split at he
       · rename_i as has;exact he
       · rename_i hno;split at he
         · rename_i as has;simp only [Option.map_eq_some_iff,Prod.mk.injEq] at he;obtain ⟨v',h1,rfl,rfl⟩:=he;have has':(inl g||(prim g).isSome)=false /\ mapO (exp H depth) (first++args.toList.map (opd t)++cap)=some as:=by
            cases hb:(inl g||(prim g).isSome) with
            | true=>rw [hb] at has;cases has
            | false=>rw [hb] at has;exact ⟨rfl,has⟩
           obtain ⟨g1,g2⟩:=z059 has'.2 (hfz _ rfl);simp only [has'.1,Bool.false_eq_true,if_false] at hno ⊢;simp only [g1,g2,h1,Option.map_some]
         · simp only [Option.map_eq_some_iff,Prod.mk.injEq] at he;obtain ⟨r,_,_,e⟩:=he;exact absurd ⟨_,e.symm⟩ hc
     · simp only [Option.map_eq_some_iff,Prod.mk.injEq] at he;obtain ⟨r,_,_,e⟩:=he;exact absurd ⟨_,e.symm⟩ hc
     · cases he
   · rename_i hne;rw [<- z0b5 (P:=P) (slot:=slot) hrd];exact he
variable {w:World} {X:Nat->Prop} {β:z13}
theorem z08d {H:List AO} {c:Option (Nat×AO)} (h:∀ id ob,effOf c=.one id ob->id<H.length):(effOf c).on H=zi H c:=by
 cases c with
 | none=>rfl
 | some x=>obtain ⟨id,ob⟩:=x;simp only [effOf,Eff.on,zi];rw [if_pos (h id ob rfl)]
theorem zz9 (hg:Good P) (hs:z4y P run) (hor:zk P orc) (hpr:PrimOk P prim) {t:List AV} {a:Act} {o:Oper} {slot:Nat} {v:AV} {ch:Eff} {rr:Option Nat} {next:Act->World->Prop} {Q:Exit->Act->World->Prop}
 (he:z7g P inl orc prim run t H slot o=some (v,ch)) (hr:HRel w X β H) (ht:z2c w (NN X β H) β t a.tmps) (hsl:slot<H.length) (hfree:β.getD slot none=none) (hid:∀ id ob,ch=.one id ob->id<H.length)
 (hn:∀ u w' β',HRel w' X β' (ch.on H)->Rel w' (NN X β' (ch.on H)) β' v u->Fr w (zn β H) β w' (zn β' (ch.on H)) β'->(∀ b,b<H.length->b≠slot->β.getD b none=none->β'.getD b none=none)->next (a.put o.dst u) w') :
 o.wpIn (WF rr) 0 P a w next Q:=by
 unfold z7g at he;split at he
 · rename_i f args ts hop;have hfv:=zp ht f;have har:=zvi ht args;split at he
   · rename_i g first cap hf
     rw [hf] at hfv;have hfn:∃ us cs,a.eval f=.func (.func g) us cs /\ ARel w (NN X β H) β first us /\ ARel w (NN X β H) β cap cs:=by
      generalize a.eval f=fv at hfv;cases hfv with
      | imm hx=>cases hx with | fn a b c d=>exact ⟨_,_,rfl,⟨a,fun i y v q1 q2=>.imm (b i y v q1 q2)⟩,⟨c,fun i y v q1 q2=>.imm (d i y v q1 q2)⟩⟩
      | fn a b c d=>exact ⟨_,_,rfl,⟨a,b⟩,⟨c,d⟩⟩
     obtain ⟨us,cs,hfe,h1,h2⟩:=hfn;have hargs:=zgf (zgf h1 har) h2;have viaG:∀ r,callG P inl orc prim run g (first++args.toList.map (opd t)++cap) H=some r->v=r.1->ch.on H=r.2->o.wpIn (WF rr) 0 P a w next Q:=by
      intro r hc e1 e2;obtain ⟨r1,r2⟩:=r;simp only at e1 e2;rw [e2] at hn;subst e1;obtain ⟨b1,b2⟩:=zhs hs hor hpr hc hr hargs;refine zsl hg hop (.inl ⟨g,us,cs,hfe,b1,b2⟩) (fun e w' he=>?_);obtain ⟨u,β',rfl,hp,hv⟩:=he;exact ⟨u,rfl,hn u w' β' hp.hr hv hp.fr (fun b hb _ hbn=>hp.non b hb hbn)⟩
     split at he
     · rename_i as has;have has:zeg (first++args.toList.map (opd t)++cap)=some as:=by
        split at has
        · cases has
        · exact has
       simp only [Option.map_eq_some_iff,Prod.mk.injEq] at he;obtain ⟨v',hc,rfl,rfl⟩:=he;have hlt:∀ r,NN X β H r->r<w.heap.size:=fun r h=>h.elim (hr.xlt r) (fun h=>hr.live_lt h)
       have hia:IRel w (NN X β H) as (us++args.map a.eval++cs):=by
        rw [z91] at has;obtain ⟨e1,e2⟩:=z05 _ _ has;refine ⟨hargs.1.trans e1.symm,fun i y u q1 q2=>?_⟩;obtain ⟨x,g1,g2⟩:=e2 i y q1;exact zz2 (hargs.2 i x u g1 q2) y g2
       obtain ⟨b1,b2⟩:=zbd hs hor hc hlt hia;refine zsl hg hop (.inl ⟨g,us,cs,hfe,b1,b2⟩) (fun e w' he=>?_);obtain ⟨u,rfl,k1,k2,k3,k4,k5,k6⟩:=he;obtain ⟨g1,g2⟩:=hr.ext k4 k5 k1 k2 k3;exact ⟨u,rfl,hn u w' β g1 (.imm k6) g2 (fun b _ _ hbn=>hbn)⟩
     · rename_i hno;split at he
       · rename_i as has;simp only [Option.map_eq_some_iff,Prod.mk.injEq] at he;obtain ⟨v',h1,rfl,rfl⟩:=he;have has':(inl g||(prim g).isSome)=false /\ mapO (exp H depth) (first++args.toList.map (opd t)++cap)=some as:=by
          cases hb:(inl g||(prim g).isSome) with
          | true=>rw [hb] at has;cases has
          | false=>rw [hb] at has;exact ⟨rfl,has⟩
         obtain ⟨b1,b2⟩:=has';rw [Bool.or_eq_false_iff] at b1;refine viaG (v',z03 H ((first++args.toList.map (opd t)++cap).flatMap (zt H depth))) ?_ rfl rfl;unfold callG;have hp:prim g=none:=by
          cases hx:prim g with
          | none=>rfl
          | some _=>rw [hx] at b1;cases b1.2
         simp only [hp,b1.1,Bool.false_eq_true,if_false,b2,h1]
       · simp only [Option.map_eq_some_iff,Prod.mk.injEq] at he;obtain ⟨r,hc,e1,e2⟩:=he;exact viaG r hc e1.symm (by rw [<- e2];rfl)
   · rename_i lp hf;rw [hf] at hfv;simp only [Option.map_eq_some_iff,Prod.mk.injEq] at he;obtain ⟨⟨r1,r2⟩,hc,e1,e2⟩:=he;simp only at e1 e2;subst e1 e2;refine zsl hg hop (zls hs hc hr har hfv) (fun e w' he=>?_);obtain ⟨u,β',rfl,hp,hv⟩:=he;exact ⟨u,rfl,hn u w' β' hp.hr hv hp.fr (fun b hb _ hbn=>hp.non b hb hbn)⟩
   · cases he
 · simp only [Option.map_eq_some_iff,Prod.mk.injEq] at he;obtain ⟨⟨v',c⟩,hc,rfl,rfl⟩:=he;have eon:=z08d (H:=H) hid;simp only at hn eon;rw [eon] at hn;exact z0a0 hc hr ht (.inr ⟨hsl,hfree⟩) (fun u w' β' h1 h2 h3 h4=>hn u w' β' h1 h2 h3 (fun b _ hb hbn=>h4 b hb hbn))
end
end Clk
namespace Clk
open Go
def unl (D:Nat->Bool):Nat->Nat
 | 0=>0
 | k+1=>unl D k+if D k then 0 else 1
theorem z0a1 (D:Nat->Bool):∀ n,unl D n<=n
 | 0=>Nat.le_refl _
 | n+1=>by have:=z0a1 D n;simp only [unl];split <;> omega
theorem z01g {D:Nat->Bool}:∀ n,unl D n=0->∀ i,i<n->D i=true
 | 0,_,i,hi=>by omega
 | n+1,h,i,hi=>by
   simp only [unl] at h;by_cases e:i=n
   · subst e;cases hd:D i with
     | true=>rfl
     | false=>rw [hd] at h;simp at h
   · exact z01g n (by omega) i (by omega)
theorem z05d {D:Nat->Bool} {j:Nat} (hj:D j=false):∀ n,(n<=j->unl (fun i=>D i||i==j) n=unl D n) /\ (j<n->unl (fun i=>D i||i==j) n+1=unl D n)
 | 0=>⟨fun _=>rfl,fun h=>by omega⟩
 | n+1=>by
   obtain ⟨h1,h2⟩:=z05d hj n;refine ⟨fun h=>?_,fun h=>?_⟩
   · have e:(n==j)=false:=by simp;omega
     simp only [unl,h1 (by omega),e,Bool.or_false]
   · by_cases e:n=j
     · subst e;simp only [unl,h1 (Nat.le_refl _),hj];simp
     · have e':(n==j)=false:=by simpa using e
       simp only [unl,e',Bool.or_false];have:=h2 (by omega);omega
section
variable {P:Program} {inl:FuncId->Bool} {orc:FuncId->Option (List AV->Option AV)} {prim:FuncId->Option (Nat->List AV->List AO->Res)} {run:z1d}
variable {w:World} {X:Nat->Prop} {β:z13} {H:List AO}
theorem zny {ops:Array Oper} {listed:Array Bool} {i:Nat}:i∈Region.ready .any ops listed↔∃ o,ops[i]?=some o /\ listed.getD i true=false /\ ∀ e∈o.after.toList,Region.binds .any e=true->listed.getD e.on false=true:=by
 unfold Region.ready;rw [List.mem_filter,List.mem_range];constructor
 · rintro ⟨h1,h2⟩
   simp only [Bool.and_eq_true,Bool.not_eq_true'] at h2;refine ⟨ops[i],by simp [h1],h2.1,fun e he hb=>?_⟩;have h3:=h2.2;rw [show ops[i]?=some ops[i] by simp [h1]] at h3;simp only [Option.map_some,Option.getD_some] at h3;rw [Array.all_eq_true] at h3;obtain ⟨k,hk,rfl⟩:=List.getElem_of_mem he;have:=h3 k (by simpa using hk);simp only [Array.getElem_toList] at hb ⊢;simpa [hb] using this
 · rintro ⟨o,ho,h1,h2⟩
   refine ⟨(Array.getElem?_eq_some_iff.1 ho).1,?_⟩;rw [ho];simp only [h1,Option.map_some,Option.getD_some,Bool.not_false,Bool.true_and];rw [Array.all_eq_true];intro k hk;cases hb:Region.binds .any o.after[k] with
   | false=>rfl
   | true=>simp only [Bool.not_true,Bool.false_or];exact h2 _ (by simp) hb
structure Inv (X:Nat->Prop) (w0:World) (β0:z13) (H0:List AO) (d0:List Deferred) (n:Nat) (t:List AV) (Hs:List AO) (l:List DStep) (D:Nat->Bool) (a:Act) (w:World) (β:z13):Prop where
 hr:HRel w X β (zz Hs l D n)
 ht:z2c w (NN X β (zz Hs l D n)) β (z12 t l D n) a.tmps
 fr:Fr w0 (zn β0 H0) β0 w (zn β (zz Hs l D n)) β
 free:∀ j,j<n->D j=false->β.getD (H0.length+j) none=none
 old:∀ b,b<H0.length->β0.getD b none=none->β.getD b none=none
 df:a.defers=d0
theorem z05e (hg:Good P) (hs:z4y P run) (hor:zk P orc) (hpr:PrimOk P prim) {ops:Array Oper} {pr:List (List Nat)} {t:List AV} {Hs:List AO} {l:List DStep} {w0:World} {β0:z13} {H0:List AO} {d0:List Deferred} {rr:Option Nat} {Q:Exit->Act->World->Prop}
 (ck:Checked ops Hs.length pr l) (hL:Hs.length=H0.length+ops.size) (hst:∀ (j:Nat) (o:Oper) (s:DStep),ops[j]?=some o->l[j]?=some s->StepOk P inl orc prim run ops t Hs H0.length l j o s)
 (hQ:∀ a w β,Inv X w0 β0 H0 d0 ops.size t Hs l (fun _=>true) a w β->Q .normal a w):∀ (fuel:Nat) (listed:Array Bool) (a:Act) (w:World) (β:z13),listed.size=ops.size ->
   Clos ops pr (fun i=>listed.getD i false)->unl (fun i=>listed.getD i false) ops.size<=fuel->Inv X w0 β0 H0 d0 ops.size t Hs l (fun i=>listed.getD i false) a w β->wpAnyIn (WF rr) 0 P .any ops Q fuel listed a w:=by
 have hd:∀ (i:Nat) (o:Oper) (s:DStep),ops[i]?=some o->l[i]?=some s->s.dst=o.dst:=by
  intro i o s ho hls;rcases hst i o s ho hls with ⟨_,h⟩ | ⟨_,v,ch,_,h⟩ <;> rw [h]
 have hhb:∀ (i:Nat) (o:Oper) (s:DStep) H2,ops[i]?=some o->l[i]?=some s->s.ch=.all H2->s.hb=zz Hs l (fun _=>true) i:=by
  intro i o s H2 ho hls hc;rcases hst i o s ho hls with ⟨_,h⟩ | ⟨_,v,ch,_,h⟩
  · rw [h] at hc;cases hc
  · rw [h]
 have getD_tf:∀ (listed:Array Bool) (i:Nat),listed.size=ops.size->i<ops.size->listed.getD i true=listed.getD i false:=by
  intro listed i h1 h2;simp [Array.getD,h1,h2]
 have allD:∀ (listed:Array Bool) (a:Act) (w:World) (β:z13),Inv X w0 β0 H0 d0 ops.size t Hs l (fun i=>listed.getD i false) a w β->(∀ i,i<ops.size->listed.getD i false=true)->Q .normal a w:=by
  intro listed a w β hi hall;have e1:zz Hs l (fun i=>listed.getD i false) ops.size=zz Hs l (fun _=>true) ops.size:=z1f _ (fun _ _=>rfl) (fun i h=>hall i h);have e2:z12 t l (fun i=>listed.getD i false) ops.size=z12 t l (fun _=>true) ops.size:=z1f _ (fun _ _=>rfl) (fun i h=>hall i h);refine hQ a w β ⟨?_,?_,?_,fun j _ h=>by simp at h,hi.old,hi.df⟩
  · rw [<- e1];exact hi.hr
  · rw [<- e1,<- e2];exact hi.ht
  · rw [<- e1];exact hi.fr
 intro fuel;induction fuel with
 | zero =>
   intro listed a w β hsz hcl hun hi;have hall:=z01g ops.size (by omega) (D:=fun i=>listed.getD i false);refine ⟨?_,allD listed a w β hi hall⟩;rw [List.eq_nil_iff_forall_not_mem];intro i hm;obtain ⟨o,ho,h1,_⟩:=zny.1 hm;have hlt:=(Array.getElem?_eq_some_iff.1 ho).1;rw [getD_tf listed i hsz hlt] at h1;have:=hall i hlt;rw [h1] at this;cases this
 | succ fuel ih =>
   intro listed a w β hsz hcl hun hi;refine ⟨fun hnil=>allD listed a w β hi (fun i=>?_),fun i hm=>?_⟩
   · induction i using Nat.strongRecOn with
     | _ i ihi =>
       intro hlt;cases hc:listed.getD i false with
       | true=>rfl
       | false =>
         have ho:ops[i]?=some ops[i]:=by simp [hlt]
         have:i∈Region.ready .any ops listed:=zny.2 ⟨ops[i],ho,by rw [getD_tf listed i hsz hlt];exact hc,fun e he hb=>by
          have h1:=ck.dir i _ ho e he hb;have h2:=ck.lt i hlt _ h1;exact ihi e.on h2 (by omega)⟩
         rw [hnil] at this;cases this
   · obtain ⟨o,ho,h1,h2⟩:=zny.1 hm;have hlt:=(Array.getElem?_eq_some_iff.1 ho).1;rw [getD_tf listed i hsz hlt] at h1;obtain ⟨s,hls⟩:=ck.get i hlt;have hDj:(fun i=>listed.getD i false) i=false:=h1;have hprD:∀ x∈pr.getD i [],(fun i=>listed.getD i false) x=true:=by
      intro x hx;obtain ⟨e,he,hb,hor'⟩:=ck.from_ i o ho x hx;have h3:=h2 e he hb;rcases hor' with rfl | hx2
      · exact h3
      · exact hcl.cl e.on h3 x hx2
     have eD:(fun k=>(listed.setIfInBounds i true).getD k false)=fun k=>listed.getD k false||k==i:=by
      funext k
      simp only [Array.getD_eq_getD_getElem?,Array.getElem?_setIfInBounds];by_cases e:i=k
      · subst e;have:i<listed.size:=by omega
        simp [this]
      · have:(k==i)=false:=by simpa using (fun h=>e h.symm)
        simp [e,this]
     have hcl':Clos ops pr (fun k=>(listed.setIfInBounds i true).getD k false):=by
      rw [eD];refine ⟨fun k hk=>?_,fun k hk x hx=>?_⟩
      · simp only [Bool.or_eq_true,beq_iff_eq] at hk;rcases hk with hk | rfl
        · exact hcl.lt k hk
        · exact hlt
      · simp only [Bool.or_eq_true,beq_iff_eq] at hk ⊢;rcases hk with hk | rfl
        · exact .inl (hcl.cl k hk x hx)
        · exact .inl (hprD x hx)
     have hun':unl (fun k=>(listed.setIfInBounds i true).getD k false) ops.size<=fuel:=by
      rw [eD];have:=(z05d (D:=fun i=>listed.getD i false) hDj ops.size).2 hlt;omega
     have hext:=z0ds (t:=t) ck hd hcl hDj ho hls;have hexh:=z0dt (H:=Hs) ck hcl hDj ho hls;have hlen:=zkx (H:=Hs) ck (Nat.le_refl _) (fun i=>listed.getD i false) ops.size (Nat.le_refl _);have cont:∀ u w' β',HRel w' X β' (s.ch.on (zz Hs l (fun i=>listed.getD i false) ops.size))->Rel w' (NN X β' (s.ch.on (zz Hs l (fun i=>listed.getD i false) ops.size))) β' s.v u ->
      Fr w (zn β (zz Hs l (fun i=>listed.getD i false) ops.size)) β w' (zn β' (s.ch.on (zz Hs l (fun i=>listed.getD i false) ops.size))) β' ->
      (∀ b,b<(zz Hs l (fun i=>listed.getD i false) ops.size).length->b≠H0.length+i->β.getD b none=none->β'.getD b none=none) ->
      wpAnyIn (WF rr) 0 P .any ops Q fuel (listed.setIfInBounds i true) (a.put o.dst u) w':=by
      intro u w' β' k1 k2 k3 k4;refine ih _ _ _ β' (by simp [hsz]) hcl' hun' ?_;rw [eD];have hdst:=hd i o s ho hls;refine ⟨by rw [hexh];exact k1,?_,by rw [hexh];exact hi.fr.trans k3,fun j hj hjD=>?_,fun b hb hn=>?_,?_⟩
      · rw [hexh,hext,hdst];exact z2c.put (hi.ht.fr k3) k2
      · simp only [Bool.or_eq_false_iff,beq_eq_false_iff_ne] at hjD;exact k4 _ (by omega) (by omega) (hi.free j hj hjD.1)
      · exact k4 b (by omega) (by omega) (hi.old b hb hn)
      · rw [<- hi.df];cases o.dst <;> rfl
     obtain ⟨at1,at2'⟩:=z05b (t:=t) ck hd hcl hDj hprD ho hls;have hpre:=znx ck i (by omega);have hprej:(fun x=>decide (x<i)) i=false:=by simp
     have hprep:∀ x∈pr.getD i [],(fun x=>decide (x<i)) x=true:=fun x hx=>by simpa using ck.lt i hlt x hx
     have ept:z12 t l (fun x=>decide (x<i)) ops.size=z12 t l (fun _=>true) i :=
      (z6z ops.size i (by omega) (fun x h1 _=>by simp;omega)).trans (z1f i (fun _ _=>rfl) (fun x hx=>by simp [hx]))
     have eph:zz Hs l (fun x=>decide (x<i)) ops.size=zz Hs l (fun _=>true) i :=
      (z6z ops.size i (by omega) (fun x h1 _=>by simp;omega)).trans (z1f i (fun _ _=>rfl) (fun x hx=>by simp [hx]))
     have at3:=(z05b (t:=t) ck hd hpre hprej hprep ho hls).2;rw [ept] at at3;have at2:∀ d∈o.looksAt ops,(z12 t l (fun i=>listed.getD i false) ops.size)[d]?=(z12 t l (fun _=>true) i)[d]?:=fun d hd'=>(at2' d hd').trans (at3 d hd').symm
     have hopd:∀ x∈o.op.operands,opd (z12 t l (fun i=>listed.getD i false) ops.size) x=opd (z12 t l (fun _=>true) i) x:=by
      intro x hx;cases x with
      | tmp d =>
        have:d∈o.looksAt ops:=List.mem_append_left _ (List.mem_filterMap.2 ⟨.tmp d,by simpa using hx,rfl⟩);simp only [opd,zI,at2 d this]
      | _=>rfl
     have hwant:z4u ops (z12 t l (fun i=>listed.getD i false) ops.size) o=z4u ops (z12 t l (fun _=>true) i) o:=by
      unfold z4u;cases hgd:o.guard with
      | none=>rfl
      | some jw =>
        obtain ⟨j,want⟩:=jw;simp only;cases hdd:(ops[j]?).bind (·.dst) with
        | none=>rfl
        | some d =>
          have:d∈o.looksAt ops:=List.mem_append_right _ (by simp [hgd,hdd]);simp only [at2 d this]
     unfold wpOpIn;simp only [ho];rcases hst i o s ho hls with ⟨hw,hse⟩ | ⟨hw,v,ch,he,hse⟩
     · rw [zgg (hwant.trans hw) hi.ht];simp only [Bool.false_eq_true,if_false];refine ⟨fun _ _=>trivial,?_⟩;rw [hse] at cont;exact cont undef w β hi.hr (.imm (.tup rfl (fun i a v h=>by simp at h))) (Fr.refl _ _ _) (fun _ _ _ h=>h)
     · rw [zgg (hwant.trans hw) hi.ht];simp only [if_true];have hlk:∀ id∈s.look,(zz Hs l (fun i=>listed.getD i false) ops.size).getD id .none=(zz Hs l (fun _=>true) i).getD id .none:=fun id hid=>by
        rw [z05c ck (Nat.le_refl _) hhb hcl hDj hprD ho hls id hid,<- z05c ck (Nat.le_refl _) hhb hpre hprej hprep ho hls id hid,eph]
       have hrd:∀ id∈s.rd,(zz Hs l (fun i=>listed.getD i false) ops.size).getD id .none=(zz Hs l (fun _=>true) i).getD id .none:=fun id hid=>hlk id (List.mem_append_left _ hid)
       have hall:∀ H2,s.ch=.all H2->zz Hs l (fun i=>listed.getD i false) ops.size=zz Hs l (fun _=>true) i:=fun H2 hc=>by
        rw [z08c ck hcl hDj hprD ho hls hc ops.size (Nat.le_refl _) (by omega),<- z08c ck hpre hprej hprep ho hls hc ops.size (Nat.le_refl _) (by omega),eph]
       have he2:=z0ba (H':=zz Hs l (fun i=>listed.getD i false) ops.size) hpr he (fun id hid=>(hrd id (by rw [hse];exact hid)).symm) (fun H2 hc=>(hall H2 (by rw [hse];exact hc)).symm) (fun l2 hc id hid=>(hlk id (by
        unfold DStep.look;rw [hse];simp only;rw [hc];exact List.mem_append_right _ hid)).symm)
       have he3:z7g P inl orc prim run (z12 t l (fun i=>listed.getD i false) ops.size) (zz Hs l (fun i=>listed.getD i false) ops.size) (H0.length+i) o=some (v,ch):=(z0b9 hopd).trans he2;have hcs:s.ch=ch:=by rw [hse]
       have hvs:s.v=v:=by rw [hse]
       rw [hcs,hvs] at cont;have hstep:=ck.step i o s ho hls;rw [hcs] at hstep;refine zz9 hg hs hor hpr he3 hi.hr hi.ht (by omega) (hi.free i hlt hDj) (fun id ob hc=>Nat.lt_of_lt_of_le (hstep.1 id ob hc) hlen) cont
theorem zq7 (hg:Good P) (hs:z4y P run) (hor:zk P orc) (hpr:PrimOk P prim) {ops:Array Oper} {id:Nat} {t t':List AV} {H':List AO} {a:Act} {rr:Option Nat} {Q:Exit->Act->World->Prop}
 (h:z69 P inl orc prim run ops t H=some (t',H')) (hr:HRel w X β H) (ht:z2c w (NN X β H) β t a.tmps)
 (hQ:∀ a' w' β',Post w X β H w' β' H'->z2c w' (NN X β' H') β' t' a'.tmps->a'.defers=a.defers->Q .normal a' w'):(Code.region id ops true).wpIn (WF rr) 0 P Q a w:=by
 unfold z69 at h;split at h
 · rename_i t1 H1 l hl;split at h
   · rename_i hok;cases h;obtain ⟨et,eh,hlen,_,hst⟩:=znu (t0:=t) (H0:=H++List.replicate ops.size .none) _ _ _ _ _ _ _ hl rfl rfl;simp only [List.length_nil,Nat.zero_add,Array.length_toList] at hst hlen;rw [hlen] at et eh;have ck:Checked ops (H++List.replicate ops.size AO.none).length (preds ops.toList) l:=by
      have:=zz6 hok;simpa using this
     have hst':∀ (j:Nat) (o:Oper) (s:DStep),ops[j]?=some o->l[j]?=some s->StepOk P inl orc prim run ops t (H++List.replicate ops.size .none) H.length l j o s:=by
      intro j o s ho hls;obtain ⟨s',g1,g2⟩:=hst j o (by simpa using ho);rw [hls] at g1;cases g1;exact g2
     have hβ:∀ b,(β++List.replicate ops.size none).getD b none=β.getD b none:=by
      intro b;simp only [zI,List.getElem?_append];split
      · rfl
      · rename_i hb;rw [List.getElem?_eq_none (l:=β) (by omega),List.getElem?_replicate];split <;> rfl
     have hH:∀ b,(H++List.replicate ops.size AO.none).getD b .none=H.getD b .none:=by
      intro b;simp only [zI,List.getElem?_append];split
      · rfl
      · rename_i hb;rw [List.getElem?_eq_none (l:=H) (by omega),List.getElem?_replicate];split <;> rfl
     have hlive:∀ r,zn (β++List.replicate ops.size none) (H++List.replicate ops.size AO.none) r↔zn β H r:=by
      intro r;simp only [zn,hβ,hH]
     obtain ⟨hr1,f1⟩:=hr.ext (w':={ w with drawn:=w.drawn+1 }) (Nat.le_refl _) (fun _ _=>rfl) rfl rfl rfl;have f2:Fr { w with drawn:=w.drawn+1 } (zn β H) β { w with drawn:=w.drawn+1 } (zn (β++List.replicate ops.size none) (H++List.replicate ops.size AO.none)) (β++List.replicate ops.size none) :=
      ⟨rfl,rfl,rfl,Nat.le_refl _,fun _ _ _=>rfl,fun _ cs _ h=>⟨cs,h,rfl⟩,fun r h _=>(hlive r).1 h,fun b bi hb=>⟨bi,(hβ b).trans hb,rfl,.inl ⟨rfl,rfl⟩⟩⟩
     have hr2:HRel { w with drawn:=w.drawn+1 } X (β++List.replicate ops.size none) (H++List.replicate ops.size AO.none):=by
      refine ⟨by simp [hr.len],hr1.xlt,fun b bi hb=>?_,fun b b' bi bi' h1 h2 h3 h4 h5=>?_,fun b bi h1 h2=>?_,fun b h1=>?_⟩
      · rw [hβ] at hb;rw [hH];exact (hr1.obj b bi hb).keep f2 rfl
      · rw [hβ] at h1 h2;rw [hH] at h3 h4;exact hr1.inj b b' bi bi' h1 h2 h3 h4 h5
      · rw [hβ] at h1;rw [hH] at h2;exact hr1.lx b bi h1 h2
      · rw [hH] at h1;obtain ⟨bi,h⟩:=hr1.has b h1;exact ⟨bi,(hβ b).trans h⟩
     have h0:∀ i,(Array.replicate ops.size false).getD i false=false:=by
      intro i;simp [Array.getD]
     have e0h:zz (H++List.replicate ops.size .none) l (fun i=>(Array.replicate ops.size false).getD i false) ops.size=H++List.replicate ops.size .none:=by
      rw [zz,z6z ops.size 0 (by omega) (fun i _ _=>h0 i)];rfl
     have e0t:z12 t l (fun i=>(Array.replicate ops.size false).getD i false) ops.size=t:=by
      rw [z12,z6z ops.size 0 (by omega) (fun i _ _=>h0 i)];rfl
     refine wpIn_region_any hg.mixed (z05e (X:=X) (w0:=w) (β0:=β) (H0:=H) (d0:=a.defers) (β:=β++List.replicate ops.size none) hg hs hor hpr ck (by simp) hst' ?_ ops.size _ a _ (by simp) ⟨fun i h=>?_,fun i h=>?_⟩ (z0a1 _ _) ?_)
     · intro a' w' β' hi;rw [et,eh] at hQ;refine hQ a' w' β' ⟨hi.hr,hi.fr,hi.old,?_⟩ hi.ht hi.df;have:=zkx (H:=H++List.replicate ops.size .none) ck (Nat.le_refl _) (fun _=>true) ops.size (Nat.le_refl _);simp only [List.length_append,List.length_replicate] at this;omega
     · simp only [h0] at h;cases h
     · simp only [h0] at h;cases h
     · refine ⟨by rw [e0h];exact hr2,by rw [e0h,e0t];exact (ht.fr f1).fr f2,by rw [e0h];exact f1.trans f2,fun j _ _=>?_,fun b _ hn=>by rw [hβ];exact hn,rfl⟩;rw [hβ];simp only [zI];rw [List.getElem?_eq_none (by rw [hr.len];omega)];rfl
   · cases h
 · cases h
end
end Clk
namespace Clk
open Go
section
variable {P:Program} {inl:FuncId->Bool} {orc:FuncId->Option (List AV->Option AV)} {prim:FuncId->Option (Nat->List AV->List AO->Res)}
variable {w:World} {X:Nat->Prop} {β:z13} {H:List AO}
theorem z03c {F:Fence} {n:Nat} {c:Code} {Q:Exit->Act->World->Prop} {a:Act} {w:World} (h:c.wpIn F n P (Exit.noGoto Q) a w):(Code.scope c).wpIn F n P Q a w:=by
 intro b k cs hro hb hr;have h1:step P (lone (b.atR a (.code (.scope c)::k)) cs w)=.next (lone (b.atR a (.code c::.inScope c::k)) cs w):=step_lone_go (by simp [stepG,stepG.exec,Frame.atR]);have h0:(lone (b.atR a (.code (.scope c)::k)) cs w).fenced P F:=fenced_calm hb hr rfl;obtain ⟨e,a₁,w₁,hq,harr⟩:=h b (.inScope c::k) cs hro hb hr;have h2:step P (lone (b.atR a₁ (.inScope c::k)) cs w₁)=.next (lone (b.atR a₁ k) cs w₁):=step_lone_go (by simp [stepG,stepG.exec,Frame.atR]);cases e with
 | normal=>exact ⟨.normal,a₁,w₁,hq,.head h0 h1 (StepsIn.trans harr (.one (fenced_calm hb hr rfl) h2))⟩
 | exit id =>
   have hx:exitTo id (.inScope c::k)=exitTo id k:=by simp [exitTo]
   exact ⟨.exit id,a₁,w₁,hq,fun k' hk=>.head h0 h1 (harr.1 k' (by rw [hx];exact hk)),
    fun hr' hk=>let ⟨k₁,g1,g2⟩:=harr.2 hr' (by rw [hx];exact hk);⟨k₁,g1,.head h0 h1 g2⟩⟩
 | goto l=>exact hq.elim
 | ret=>exact ⟨_,a₁,w₁,hq,.of_steps (.one h0 h1) harr⟩
 | panic ch=>exact ⟨_,a₁,w₁,hq,.of_steps (.one h0 h1) harr⟩
 | outgrown=>exact ⟨_,a₁,w₁,hq,.of_steps (.one h0 h1) harr⟩
theorem HRel.lay {ob:Obj} {o':AO} (h:HRel w X β H) (hl:liveB o'=true)
 (hobj:∀ w',(∀ x u,Rel w (NN X β H) β x u->Rel w' (NN X (β++[some ⟨w.heap.size,0,0⟩]) (H++[o'])) (β++[some ⟨w.heap.size,0,0⟩]) x u)->w'.heap[w.heap.size]?=some ob->ObjRel w' (NN X (β++[some ⟨w.heap.size,0,0⟩]) (H++[o'])) (β++[some ⟨w.heap.size,0,0⟩]) ⟨w.heap.size,0,0⟩ o') :
 Post w X β H (w.alloc ob) (β++[some ⟨w.heap.size,0,0⟩]) (H++[o']):=by
 have hw:(w.alloc ob).heap=w.heap.push ob:=rfl;have hn:β.getD H.length none=none:=by
  simp only [zI];rw [List.getElem?_eq_none (by rw [h.len];omega)];rfl
 obtain ⟨g1,g2⟩:=h.upd (w':=w.alloc ob) (b:=H.length) (bi':=⟨w.heap.size,0,0⟩) (o':=o') (H':=H++[o']) (β':=β++[some ⟨w.heap.size,0,0⟩]) rfl rfl rfl (by rw [hw];simp)
  (fun c hc=>by rw [z2j,if_neg hc]) (by rw [z2j,if_pos rfl]) (by simp [h.len]) (fun c hc=>by rw [z2j,h.len,if_neg hc]) (by rw [z2j,h.len,if_pos rfl]) hl
  (.inl ⟨Nat.le_refl _,fun r hr=>by rw [hw,Array.getElem?_push];simp [Nat.ne_of_lt hr],.inl hn⟩)
  (fun htr _=>hobj _ htr (by rw [hw];simp))
 exact ⟨g1,g2,fun b hb hnb=>by rw [z2j,h.len,if_neg (by omega)];exact hnb,by simp⟩
theorem ARel.post {w':World} {β':z13} {H':List AO} (h:Post w X β H w' β' H') {l:List AV} {vs:Array Value} (ha:ARel w (NN X β H) β l vs):ARel w' (NN X β' H') β' l vs :=
 ⟨ha.1,fun i a v q1 q2=>h.rel (ha.2 i a v q1 q2)⟩
theorem z01h (hg:Good P) {run:z1d} (hs:z4y P run) (hor:zk P orc) (hpr:PrimOk P prim) {g:Operand} {ps:Array Tmp} {assign body:Code} {a:Act} {rr ro:Option Nat} {Q:Exit->Act->World->Prop}
 {t:List AV} {H1:List AO} {m1:List Nat} {d:Nat} {wA:World} {βA:z13} {bj:BI} {mark:List Deferred} {res:Ex×St}
 (hp:Post w X β H wA βA H1) (ht:z2c w (NN X β H) β t a.tmps) (hm:MRel βA m1 (mark++a.defers)) (hro:RO βA ro rr) (hbj:βA.getD d none=some bj) (hbk:bj.k=0)
 (he:∀ fn,(Instr.enterLoop fn a.tmps ps assign body rr).run P w=.ok (wA.heap.size,mark) (wA.alloc (.loop { state:=.ready,pending:=none,fn,tmps:=a.tmps,params:=ps,assign,body,defers:=bj.r })))
 (h:(match callFn P inl orc prim run (opd t g) [.yield H1.length] (H1++[.loop .ready none t ps.toList assign body d]) with
   | some (_,H3)=>match H3.getD H1.length .none with
     | .loop s pend tm ps as bd d =>
       if s=.busy then none else
       match pend with
       | none=>some (.normal,⟨t,H3.set H1.length (.loop .exhausted pend tm ps as bd d),m1⟩)
       | some c=>run ro c ⟨t,H3.set H1.length (.loop .exhausted pend tm ps as bd d),m1⟩
     | _=>none
   | none=>none)=some res)
 (hQ:∀ a' w' β',Post w X β H w' β' res.2.H->z2c w' (NN X β' res.2.H) β' res.2.t a'.tmps->MRel β' res.2.m a'.defers->Q (exOf res.1) a' w') :
 (Code.rangeFunc g ps assign body).wpIn (WF rr) 0 P Q a w:=by
 refine wpIn_rangeFunc (fun fn _=>?_);split at h
 · rename_i x y v0 H3 hc;unfold callFn at hc;split at hc
   · rename_i f first cap hf
     have htA:=hp.trel ht;have hfv:=zp htA g;rw [hf] at hfv;have hfn:∃ us cs,a.eval g=.func (.func f) us cs /\ ARel wA (NN X βA H1) βA first us /\ ARel wA (NN X βA H1) βA cap cs:=by
      generalize a.eval g=fv at hfv;cases hfv with
      | imm hx=>cases hx with | fn a b c d=>exact ⟨_,_,rfl,⟨a,fun i y v q1 q2=>.imm (b i y v q1 q2)⟩,⟨c,fun i y v q1 q2=>.imm (d i y v q1 q2)⟩⟩
      | fn a b c d=>exact ⟨_,_,rfl,⟨a,b⟩,⟨c,d⟩⟩
     obtain ⟨us,cs,hfe,h1,h2⟩:=hfn;have hlay:Post wA X βA H1 (wA.alloc (.loop { state:=.ready,pending:=none,fn,tmps:=a.tmps,params:=ps,assign,body,defers:=bj.r })) (βA++[some ⟨wA.heap.size,0,0⟩]) (H1++[.loop .ready none t ps.toList assign body d]):=by
      refine hp.hr.lay rfl (fun w' htr hw=>⟨rfl,rfl,_,hw,rfl,rfl,rfl,rfl,rfl,htA.1,fun i x u q1 q2=>htr _ _ (htA.2 i x u q1 q2),bj,?_,hbk,rfl⟩);have hlt:=(zG.1 (getD_some hbj)).1;rw [z2j,if_neg (by omega)];exact hbj
     have hy:Rel (wA.alloc (.loop { state:=.ready,pending:=none,fn,tmps:=a.tmps,params:=ps,assign,body,defers:=bj.r })) (NN X (βA++[some ⟨wA.heap.size,0,0⟩]) (H1++[.loop .ready none t ps.toList assign body d])) (βA++[some ⟨wA.heap.size,0,0⟩]) (.yield H1.length) (.func (.yield wA.heap.size) #[] #[]) :=
      Rel.yield (bi:=⟨wA.heap.size,0,0⟩) (by rw [z2j,hp.hr.len,if_pos rfl]) rfl
     have hargs:=zgf (zgf (ARel.post hlay h1) (⟨rfl,fun i x v q1 q2=>by
      cases i with
      | zero=>simp at q1 q2;subst q1 q2;exact hy
      | succ i=>simp at q1⟩:ARel _ _ _ [.yield H1.length] #[.func (.yield wA.heap.size) #[] #[]])) (ARel.post hlay h2)
     obtain ⟨b1,b2⟩:=zhs hs hor hpr hc hlay.hr hargs;refine ⟨wA.heap.size,mark,(wA.alloc (.loop { state:=.ready,pending:=none,fn,tmps:=a.tmps,params:=ps,assign,body,defers:=bj.r })),{ target:=.fn (.func f) cs,args:=us++#[.func (.yield wA.heap.size) #[] #[]] },(wA.alloc (.loop { state:=.ready,pending:=none,fn,tmps:=a.tmps,params:=ps,assign,body,defers:=bj.r })),f,us++#[.func (.yield wA.heap.size) #[] #[]]++cs,(wA.alloc (.loop { state:=.ready,pending:=none,fn,tmps:=a.tmps,params:=ps,assign,body,defers:=bj.r })),he fn,?_,fun _ _=>trivial,?_,(fun h=>by cases h),?_⟩
     · have:(Array.map a.eval #[.const (.func (.yield wA.heap.size) #[] #[])])=#[.func (.yield wA.heap.size) #[] #[]]:=by simp [Act.eval]
       simp only [resolve,this,hfe,Deferred.ofValue,Sem.run_pure]
     · simp only [invoke,zlt hg b1]
     · have b3:CallsIn (WF rr) 0 P f (us++#[.func (.yield wA.heap.size) #[] #[]]++cs) (wA.alloc (.loop { state:=.ready,pending:=none,fn,tmps:=a.tmps,params:=ps,assign,body,defers:=bj.r })) _:=b2;refine b3.mono (fun e w3 hend=>?_);obtain ⟨v,β3,rfl,hp3,_⟩:=hend;have hb0:(βA++[some (⟨wA.heap.size,0,0⟩:BI)]).getD H1.length none=some ⟨wA.heap.size,0,0⟩:=by rw [z2j,hp.hr.len,if_pos rfl]
       obtain ⟨bi3,hb3,hk3,hr3,_⟩:=znq hp3.fr hb0 rfl;split at h
       · rename_i s pend tm ps' as bd d' hH3;split at h
         · cases h
         · rename_i hbusy;have hob:=hp3.hr.obj _ bi3 hb3;rw [hH3] at hob;obtain ⟨_,_,L3,k3,k4,k5,_⟩:=hob;have hend:=run_endLoop (P:=P) k3 (by rw [k4];exact hbusy);have hturn:=zns (s':=.exhausted) (p':=pend) hp3.hr hb3 hH3 k3;have e5:({ L3 with state:=.exhausted,pending:=pend }:Loop)={ L3 with state:=.exhausted }:=by rw [<- k5]
           rw [e5] at hturn;simp only at hr3;rw [hr3] at hend hturn;have hall:=((hp.trans hlay).trans hp3).trans hturn;refine ⟨pend,_,hend.trans (congrArg (fun z=>Result.ok z _) k5),?_⟩;have hm':MRel β3 m1 (mark++a.defers):=MRel.fr ((hlay.fr.trans hp3.fr).trans hturn.fr) hm;have hro':RO β3 ro rr:=RO.fr ((hlay.fr.trans hp3.fr).trans hturn.fr) hro;cases pend with
           | none =>
             simp only at h;cases h;exact hQ _ _ β3 hall (hall.trel ht) hm'
           | some c =>
             simp only at h;obtain ⟨ex,st'⟩:=res;refine hs ro c t _ m1 ex st' _ X β3 _ rr _ h hturn.hr (hall.trel ht) hm' hro' ?_;intro a' w' β' hp' ht' hm'';exact hQ a' w' β' (hall.trans hp') ht' hm''
       · cases h
   · cases hc
 · cases h
theorem zvm (hg:Good P) (hor:zk P orc) (hpr:PrimOk P prim):∀ (n:Nat),z4y P (run P inl orc prim n) /\
 ∀ (ro:Option Nat) (c:Code) (t:List AV) (H:List AO) (m:List Nat) (ex:Ex) (st':St) (w:World) (X:Nat->Prop) (β:z13) (a:Act) (rr:Option Nat) (Q:Exit->Act->World->Prop),
 run P inl orc prim n ro (.loop c) ⟨t,H,m⟩=some (ex,st')->HRel w X β H->z2c w (NN X β H) β t a.tmps->MRel β m a.defers->RO β ro rr ->
 (∀ a' w' β',Post w X β H w' β' st'.H->z2c w' (NN X β' st'.H) β' st'.t a'.tmps->MRel β' st'.m a'.defers->Q (exOf ex) a' w')->Code.roundsIn (WF rr) 0 P c Q n a w
 | 0=>⟨fun ro c t H m ex st' w X β a rr Q h=>by simp [run] at h,fun ro c t H m ex st' w X β a rr Q h=>by simp [run] at h⟩
 | n+1=>by
   obtain ⟨ih,ihl⟩:=zvm hg hor hpr n;have hloop:∀ (ro:Option Nat) (c:Code) (t:List AV) (H:List AO) (m:List Nat) (ex:Ex) (st':St) (w:World) (X:Nat->Prop) (β:z13) (a:Act) (rr:Option Nat) (Q:Exit->Act->World->Prop),
    run P inl orc prim (n+1) ro (.loop c) ⟨t,H,m⟩=some (ex,st')->HRel w X β H->z2c w (NN X β H) β t a.tmps->MRel β m a.defers->RO β ro rr ->
    (∀ a' w' β',Post w X β H w' β' st'.H->z2c w' (NN X β' st'.H) β' st'.t a'.tmps->MRel β' st'.m a'.defers->Q (exOf ex) a' w')->Code.roundsIn (WF rr) 0 P c Q (n+1) a w:=by
    intro ro c t H m ex st' w X β a rr Q h hr ht hm hro hQ;rw [roundsIn_succ];simp only [run] at h;split at h
    · rename_i st1 h1;refine ih ro c t H m .normal st1 w X β a rr _ h1 hr ht hm hro ?_;intro a1 w1 β1 hp1 ht1 hm1;refine ihl ro c st1.t st1.H st1.m ex st' w1 X β1 a1 rr Q h hp1.hr ht1 hm1 (hro.fr hp1.fr) ?_;intro a' w' β' hp' ht' hm';exact hQ a' w' β' (hp1.trans hp') ht' hm'
    · rename_i hne;refine ih ro c t H m ex st' w X β a rr _ h hr ht hm hro ?_;intro a' w' β' hp' ht' hm';have hq:=hQ a' w' β' hp' ht' hm';cases ex with
      | normal=>exact absurd h (fun h=>hne st' h)
      | exit id=>exact hq
      | ret=>exact hq
   refine ⟨?_,hloop⟩;intro ro c t H m ex st' w X β a rr Q h hr ht hm hro hQ;cases c with
   | skip=>simp only [run] at h;cases h;exact wpIn_skip (hQ a w β (Post.refl hr) ht hm)
   | label l=>simp only [run] at h;cases h;exact wpIn_label (hQ a w β (Post.refl hr) ht hm)
   | exit id=>simp only [run] at h;cases h;exact wpIn_exit (hQ a w β (Post.refl hr) ht hm)
   | ret=>simp only [run] at h;cases h;exact wpIn_ret (hQ a w β (Post.refl hr) ht hm)
   | seq x y =>
     simp only [run] at h;refine wpIn_seq ?_;split at h
     · rename_i st1 h1;refine ih ro x t H m .normal st1 w X β a rr _ h1 hr ht hm hro ?_;intro a1 w1 β1 hp1 ht1 hm1;refine ih ro y st1.t st1.H st1.m ex st' w1 X β1 a1 rr Q h hp1.hr ht1 hm1 (hro.fr hp1.fr) ?_;intro a' w' β' hp' ht' hm';exact hQ a' w' β' (hp1.trans hp') ht' hm'
     · rename_i hne;refine ih ro x t H m ex st' w X β a rr _ h hr ht hm hro ?_;intro a' w' β' hp' ht' hm';have hq:=hQ a' w' β' hp' ht' hm';cases ex with
       | normal=>exact absurd h (fun h=>hne st' h)
       | exit id=>exact hq
       | ret=>exact hq
   | cond x y z =>
     simp only [run] at h;have hx:=zp ht x;split at h
     · rename_i hb;rw [hb] at hx;exact wpIn_cond_true (z4x hx) (ih ro y t H m ex st' w X β a rr Q h hr ht hm hro hQ)
     · rename_i hb;rw [hb] at hx;exact wpIn_cond_false (z4x hx) (ih ro z t H m ex st' w X β a rr Q h hr ht hm hro hQ)
     · cases h
   | block id c =>
     simp only [run] at h;refine wpIn_block ?_;split at h
     · rename_i id' st1 h1;refine ih ro c t H m (.exit id') st1 w X β a rr _ h1 hr ht hm hro ?_;intro a' w' β' hp' ht' hm';split at h
       · rename_i e;cases h;simp only [exOf,Exit.inBlock,e,if_true];exact hQ a' w' β' hp' ht' hm'
       · rename_i e;cases h;simp only [exOf,Exit.inBlock,e,if_false];exact hQ a' w' β' hp' ht' hm'
     · rename_i hne;refine ih ro c t H m ex st' w X β a rr _ h hr ht hm hro ?_;intro a' w' β' hp' ht' hm';have hq:=hQ a' w' β' hp' ht' hm';cases ex with
       | normal=>exact hq
       | exit id'=>exact absurd h (fun h=>hne id' st' h)
       | ret=>exact hq
   | loop c=>exact wpIn_loop_rounds (n+1) (hloop ro c t H m ex st' w X β a rr Q h hr ht hm hro hQ)
   | scope c =>
     simp only [run] at h;refine z03c (ih ro c t H m ex st' w X β a rr _ h hr ht hm hro ?_);intro a' w' β' hp' ht' hm';have hq:=hQ a' w' β' hp' ht' hm';cases ex with
     | normal=>exact hq
     | exit id=>exact hq
     | ret=>exact hq
   | region id ops draw =>
     simp only [run] at h;obtain ⟨hc0,ht0⟩:=z056 (inl:=inl) (id:=id) hr ht;generalize coA inl id t H=c0 at h hc0 ht0;cases draw with
     | true =>
       simp only [if_true] at h;split at h
       · rename_i t' H' hd;cases h;refine zq7 hg ih hor hpr hd hc0.hr ht0 ?_;intro a' w' β' hp' ht' hdf;exact hQ a' w' β' (hc0.trans hp') ht' (by rw [hdf];exact MRel.fr (hc0.trans hp').fr hm)
       · cases h
     | false =>
       simp only [Bool.false_eq_true,if_false] at h;split at h
       · rename_i t' H' hd;cases h;refine wpIn_region ?_;rw [List.range_eq_range'];refine zj5 hg ih hor hpr ops.size 0 c0.1 c0.2 w β a t' H' (by omega) (by simpa using hd) hc0.hr ht0 ?_;intro a' w' β' hp' ht' hdf;exact hQ a' w' β' (hc0.trans hp') ht' (by rw [hdf];exact MRel.fr (hc0.trans hp').fr hm)
       · cases h
   | rangeFunc g ps assign body =>
     simp only [run] at h;cases ro with
     | some l =>
       simp only at h;split at h
       · rename_i s p tm ps0 as bd d hH;obtain ⟨bi,hb,hk,rfl⟩:=hro;have hob:=hr.obj l bi hb;rw [hH] at hob;obtain ⟨_,_,L,h3,_,_,_,_,_,_,_,bj,h11,h12,h13⟩:=hob;refine z01h hg ih hor hpr (wA:=w) (βA:=β) (H1:=H) (d:=d) (bj:=bj) (mark:=[]) (ro:=some l) (Post.refl hr) ht hm ⟨bi,hb,hk,rfl⟩ h11 h12 (fun fn=>?_) h hQ;rw [<- h13];exact run_enterLoop_inner h3 fn a.tmps ps assign body
       · cases h
     | none =>
       simp only at h;have hrr:rr=none:=hro;subst hrr;have hlay:Post w X β H (w.alloc (.deferred (some []))) (β++[some ⟨w.heap.size,0,0⟩]) (H++[.dfr true]):=hr.lay rfl (fun w' htr hw=>⟨rfl,rfl,hw⟩);have hb0:(β++[some (⟨w.heap.size,0,0⟩:BI)]).getD H.length none=some ⟨w.heap.size,0,0⟩:=by rw [z2j,hr.len,if_pos rfl]
       refine z01h hg ih hor hpr (ro:=none) (m1:=H.length::m) (mark:=[{ target:=.collected w.heap.size,args:=#[] }]) hlay ht ⟨_,_,hb0,rfl,rfl,MRel.fr hlay.fr hm⟩ rfl hb0 rfl (fun fn=>?_) h hQ;rw [run_enterLoop_outer,World.size_alloc]
   | _=>simp [run] at h
end
end Clk
namespace Clk
open Go
def RLe (r s:z1d):Prop:=∀ ro c st x,r ro c st=some x->s ro c st=some x
section
variable {P:Program} {inl:FuncId->Bool} {orc:FuncId->Option (List AV->Option AV)} {prim:FuncId->Option (Nat->List AV->List AO->Res)} {r s:z1d}
theorem zso (h:RLe r s) {f:FuncId} {args:List AV} {H:List AO} {x:AV×List AO} (e:callF P r f args H=some x):callF P s f args H=some x:=by
 unfold callF at e ⊢;cases hf:P.funcs[f]? with
 | none=>rw [hf] at e;cases e
 | some fn =>
   rw [hf] at e;simp only at e ⊢;cases hb:fn.body with
   | none=>rw [hb] at e;cases e
   | some c =>
     rw [hb] at e;simp only at e ⊢;cases hr:r none c ⟨args++List.replicate (fn.ntmps - args.length) (.tup []),H,[]⟩ with
     | none=>rw [hr] at e;cases e
     | some y=>rw [hr] at e;rw [h _ _ _ _ hr];exact e
theorem zvn (h:RLe r s) {l:Nat} {args:List AV} {H:List AO} {x:AV×List AO} (e:yieldF r l args H=some x):yieldF s l args H=some x:=by
 unfold yieldF at e ⊢;split at e
 · rename_i p tmps params assign body d hH;split at e
   · rename_i hl;rw [if_pos hl];split at e
     · rename_i st1 h1;rw [h _ _ _ _ h1];simp only;split at e
       · rename_i p' tm ps as bd d' g1 g2;split at e
         · rename_i ex st2 h2;rw [h _ _ _ _ h2];exact e
         · cases e
       · cases e
     · cases e
   · cases e
 · cases e
theorem zhu (h:RLe r s) {f:FuncId} {args:List AV} {x:AV} (e:z0y P orc r f args=some x):z0y P orc s f args=some x:=by
 unfold z0y at e ⊢;cases ho:orc f with
 | some g=>rw [ho] at e;exact e
 | none =>
   rw [ho] at e;simp only at e ⊢;cases hc:callF P r f args [] with
   | none=>rw [hc] at e;cases e
   | some y=>rw [hc] at e;rw [zso h hc];exact e
theorem zn8 (h:RLe r s) {f:FuncId} {args:List AV} {H:List AO} {x:AV×List AO} (e:callG P inl orc prim r f args H=some x):callG P inl orc prim s f args H=some x:=by
 unfold callG at e ⊢;cases hp:prim f with
 | some g=>rw [hp] at e;exact e
 | none =>
   rw [hp] at e;simp only at e ⊢;cases hi:inl f with
   | true=>rw [hi] at e;simp only [if_true] at e ⊢;exact zso h e
   | false =>
     rw [hi] at e;simp only [Bool.false_eq_true,if_false] at e ⊢;cases hm:mapO (exp H depth) args with
     | none=>rw [hm] at e;exact zso h e
     | some as =>
       rw [hm] at e;simp only at e ⊢;cases hc:z0y P orc r f as with
       | none=>rw [hc] at e;cases e
       | some y=>rw [hc] at e;rw [zhu h hc];exact e
theorem z05f (h:RLe r s) {v:AV} {args:List AV} {H:List AO} {x:AV×List AO} (e:callFn P inl orc prim r v args H=some x):callFn P inl orc prim s v args H=some x:=by
 unfold callFn at e ⊢;cases v <;> first | exact zn8 h e | cases e
theorem z01i (h:RLe r s) {v:AV} {args:List AV} {H:List AO} {x:AV×List AO} (e:callV P inl orc prim r v args H=some x):callV P inl orc prim s v args H=some x:=by
 unfold callV at e ⊢;cases v <;> first | exact zn8 h e | exact zvn h e | cases e
theorem zcc (h:RLe r s) {ops:Array Oper}:∀ (L:List Oper) (t:List AV) (H:List AO) (x:List AV×List AO),z0h P inl orc prim r ops L t H=some x->z0h P inl orc prim s ops L t H=some x
 | [],t,H,x,e=>by simpa only [z0h] using e
 | o::L,t,H,x,e=>by
   simp only [z0h] at e ⊢;cases hw:z4u ops t o with
   | none=>rw [hw] at e;cases e
   | some b =>
     rw [hw] at e;cases b with
     | false=>exact zcc h L _ _ _ e
     | true =>
       simp only at e ⊢;split at e
       · split at e
         · rename_i hc;rw [z01i h hc];exact zcc h L _ _ _ e
         · cases e
       · split at e
         · rename_i hne _ v ch he;exact zcc h L _ _ _ e
         · cases e
theorem z01j (h:RLe r s) {t:List AV} {H:List AO} {slot:Nat} {o:Oper} {x:AV×Eff} (e:z7g P inl orc prim r t H slot o=some x):z7g P inl orc prim s t H slot o=some x:=by
 have viaG:∀ {g args} {y:AV×Eff},(callG P inl orc prim r g args H).map (fun r=>(r.1,Eff.all r.2))=some y->(callG P inl orc prim s g args H).map (fun r=>(r.1,Eff.all r.2))=some y:=by
  intro g args y e;cases hc:callG P inl orc prim r g args H with
  | none=>rw [hc] at e;cases e
  | some z=>rw [hc] at e;rw [zn8 h hc];exact e
 unfold z7g at e ⊢;split at e
 · split at e
   · rename_i g first cap hf
     split at e
     · rename_i as has;cases hc:z0y P orc r g as with
       | none=>rw [hc] at e;cases e
       | some z=>rw [hc] at e;rw [zhu h hc];exact e
     · split at e
       · rename_i as has;cases hc:z0y P orc r g as with
         | none=>rw [hc] at e;cases e
         | some z=>rw [hc] at e;rw [zhu h hc];exact e
       · exact viaG e
   · rename_i l hf;cases hc:yieldF r l (List.map (opd t) (Array.toList (by assumption))) H with
     | none=>rw [hc] at e;cases e
     | some z=>rw [hc] at e;rw [zvn h hc];exact e
   · cases e
 · rename_i hne;exact e
theorem zj8 (h:RLe r s) {ops:Array Oper} {base:Nat}:∀ (L:List Oper) (t:List AV) (H:List AO) (acc:List DStep) (x:List AV×List AO×List DStep),z1v P inl orc prim r ops base L t H acc=some x->z1v P inl orc prim s ops base L t H acc=some x
 | [],t,H,acc,x,e=>by simpa only [z1v] using e
 | o::L,t,H,acc,x,e=>by
   simp only [z1v] at e ⊢;cases hw:z4u ops t o with
   | none=>rw [hw] at e;cases e
   | some b =>
     rw [hw] at e;cases b with
     | false=>exact zj8 h L _ _ _ _ e
     | true =>
       simp only at e ⊢;split at e
       · rename_i v ch he;rw [z01j h he];exact zj8 h L _ _ _ _ e
       · cases e
theorem zza (h:RLe r s) {ops:Array Oper} {t:List AV} {H:List AO} {x:List AV×List AO} (e:z69 P inl orc prim r ops t H=some x):z69 P inl orc prim s ops t H=some x:=by
 unfold z69 at e ⊢;split at e
 · rename_i hd;rw [zj8 h _ _ _ _ _ hd];exact e
 · cases e
section
variable {n:Nat} {ro:Option Nat} {st:St}
theorem zsp {a b:Code}:run P inl orc prim (n+1) ro (.seq a b) st=(match run P inl orc prim n ro a st with
 | some (.normal,st')=>run P inl orc prim n ro b st'
 | r=>r):=rfl
theorem zcu {c:Code}:run P inl orc prim (n+1) ro (.loop c) st=(match run P inl orc prim n ro c st with
 | some (.normal,st')=>run P inl orc prim n ro (.loop c) st'
 | r=>r):=rfl
theorem zsq {x:Operand} {a b:Code}:run P inl orc prim (n+1) ro (.cond x a b) st=(match opd st.t x with
 | .bool true=>run P inl orc prim n ro a st
 | .bool false=>run P inl orc prim n ro b st
 | _=>none):=rfl
theorem zel {id:Nat} {c:Code}:run P inl orc prim (n+1) ro (.block id c) st=(match run P inl orc prim n ro c st with
 | some (.exit id',st')=>if id'=id then some (.normal,st') else some (.exit id',st')
 | r=>r):=rfl
theorem z05g {c:Code}:run P inl orc prim (n+1) ro (.scope c) st=run P inl orc prim n ro c st:=rfl
theorem zky {id:Nat} {ops:Array Oper} {draw:Bool}:run P inl orc prim (n+1) ro (.region id ops draw) st =
 (match (if draw then z69 P inl orc prim (run P inl orc prim n) ops (coA inl id st.t st.H).1 (coA inl id st.t st.H).2 else z0h P inl orc prim (run P inl orc prim n) ops ops.toList (coA inl id st.t st.H).1 (coA inl id st.t st.H).2) with
 | some (t,H)=>some (.normal,⟨t,H,st.m⟩)
 | none=>none):=rfl
end
theorem znz:∀ n,RLe (run P inl orc prim n) (run P inl orc prim (n+1))
 | 0=>fun ro c st x e=>by simp [run] at e
 | n+1=>by
   have ih:=znz n;intro ro c st x e;cases c with
   | skip=>simp only [run] at e ⊢;exact e
   | label=>simp only [run] at e ⊢;exact e
   | exit=>simp only [run] at e ⊢;exact e
   | ret=>simp only [run] at e ⊢;exact e
   | seq a b =>
     rw [zsp] at e ⊢;cases ha:run P inl orc prim n ro a st with
     | none=>rw [ha] at e;cases e
     | some y =>
       obtain ⟨ex,st'⟩:=y;rw [ha] at e;rw [ih _ _ _ _ ha];cases ex with
       | normal=>exact ih _ _ _ _ e
       | exit=>exact e
       | ret=>exact e
   | cond y a b =>
     rw [zsq] at e ⊢;split at e
     · exact ih _ _ _ _ e
     · exact ih _ _ _ _ e
     · cases e
   | block id c =>
     rw [zel] at e ⊢;cases ha:run P inl orc prim n ro c st with
     | none=>rw [ha] at e;cases e
     | some y=>rw [ha] at e;rw [ih _ _ _ _ ha];exact e
   | loop c =>
     rw [zcu] at e ⊢;cases ha:run P inl orc prim n ro c st with
     | none=>rw [ha] at e;cases e
     | some y =>
       obtain ⟨ex,st'⟩:=y;rw [ha] at e;rw [ih _ _ _ _ ha];cases ex with
       | normal=>exact ih _ _ _ _ e
       | exit=>exact e
       | ret=>exact e
   | scope c=>rw [z05g] at e ⊢;exact ih _ _ _ _ e
   | region id ops draw =>
     rw [zky] at e ⊢;cases draw with
     | true =>
       simp only [if_true] at e ⊢;cases hd:z69 P inl orc prim (run P inl orc prim n) ops (coA inl id st.t st.H).1 (coA inl id st.t st.H).2 with
       | none=>rw [hd] at e;cases e
       | some y=>rw [hd] at e;rw [zza ih hd];exact e
     | false =>
       simp only [Bool.false_eq_true,if_false] at e ⊢;cases hd:z0h P inl orc prim (run P inl orc prim n) ops ops.toList (coA inl id st.t st.H).1 (coA inl id st.t st.H).2 with
       | none=>rw [hd] at e;cases e
       | some y=>rw [hd] at e;rw [zcc ih _ _ _ _ hd];exact e
   | rangeFunc g ps as bd =>
     simp only [run] at e ⊢;have go:∀ (d:Nat) (H1:List AO) (m1:List Nat) (x:Ex×St),
      (match callFn P inl orc prim (run P inl orc prim n) (opd st.t g) [.yield H1.length] (H1++[.loop .ready none st.t ps.toList as bd d]) with
      | some (_,H3)=>match H3.getD H1.length .none with
        | .loop s pend tm ps as bd d =>
          if s=.busy then none else
          match pend with
          | none=>some (.normal,⟨st.t,H3.set H1.length (.loop .exhausted pend tm ps as bd d),m1⟩)
          | some c=>run P inl orc prim n ro c ⟨st.t,H3.set H1.length (.loop .exhausted pend tm ps as bd d),m1⟩
        | _=>none
      | none=>none)=some x ->
      (match callFn P inl orc prim (run P inl orc prim (n+1)) (opd st.t g) [.yield H1.length] (H1++[.loop .ready none st.t ps.toList as bd d]) with
      | some (_,H3)=>match H3.getD H1.length .none with
        | .loop s pend tm ps as bd d =>
          if s=.busy then none else
          match pend with
          | none=>some (.normal,⟨st.t,H3.set H1.length (.loop .exhausted pend tm ps as bd d),m1⟩)
          | some c=>run P inl orc prim (n+1) ro c ⟨st.t,H3.set H1.length (.loop .exhausted pend tm ps as bd d),m1⟩
        | _=>none
      | none=>none)=some x:=by
      intro d H1 m1 x e;split at e
      · rename_i v H3 hc;rw [z05f ih hc];split at e
        · rename_i s pend tm ps' as' bd' d' hH;split at e
          · cases e
          · rename_i hb;simp only [hH];rw [if_neg hb];cases pend with
            | none=>exact e
            | some c=>exact ih _ _ _ _ e
        · cases e
      · cases e
     cases ro with
     | some l =>
       simp only at e ⊢;split at e
       · exact go _ _ _ _ e
       · cases e
     | none=>exact go _ _ _ _ e
   | _=>simp only [run] at e;cases e
theorem zad {n m:Nat} (h:n<=m):RLe (run P inl orc prim n) (run P inl orc prim m):=by
 induction h with
 | refl=>exact fun _ _ _ _ e=>e
 | step _ ih=>exact fun ro c st x e=>znz _ ro c st x (ih ro c st x e)
end
end Clk
namespace Clk
open Go
inductive Tok {α:Type}:α->Type where
 | mk (a:α):Tok a
def kEx (x:Option (Ex×St)) (f:St->Option (Ex×St)) (_:Tok f):Option (Ex×St):=match x with
 | some (.normal,st)=>f st
 | r=>r
def kBlock (x:Option (Ex×St)) (id:Nat):Option (Ex×St):=match x with
 | some (.exit id',st')=>if id'=id then some (.normal,st') else some (.exit id',st')
 | r=>r
def kReg (x:Option (List AV×List AO)) (m:List Nat):Option (Ex×St):=match x with
 | some (t,H)=>some (.normal,⟨t,H,m⟩)
 | none=>none
def kIf {α:Type} (x:AV) (f g:Unit->Option α) (_:Tok f) (_:Tok g):Option α:=match x with
 | .bool true=>f ()
 | .bool false=>g ()
 | _=>none
def kWant {α:Type} (x:Option Bool) (f g:Unit->Option α) (_:Tok f) (_:Tok g):Option α:=match x with
 | some true=>f ()
 | some false=>g ()
 | none=>none
def kRes {α:Type} (x:Option (AV×List AO)) (f:AV->List AO->Option α) (_:Tok f):Option α:=match x with
 | some (v,H)=>f v H
 | none=>none
def kEff {α:Type} (x:Option (AV×Eff)) (f:AV->Eff->Option α) (_:Tok f):Option α:=match x with
 | some (v,e)=>f v e
 | none=>none
def kCh (H:List AO) (x:Res):Option (AV×List AO):=match x with
 | some (v,ch)=>some (v,zi H ch)
 | none=>none
def kDraw {α:Type} (x:Option (List AV×List AO×List DStep)) (f:List AV->List AO->List DStep->Option α) (_:Tok f):Option α:=match x with
 | some (t,H,l)=>f t H l
 | none=>none
structure DrawOk (ops:Array Oper) (L:Nat) (l:List DStep):Prop where
 ok:drawOk ops L (preds ops.toList) l=true
def kOk (ops:Array Oper) (L:Nat) (l:List DStep) (t:List AV) (H:List AO):Option (List AV×List AO):=if drawOk ops L (preds ops.toList) l then some (t,H) else none
def finA (P:Program) (rs:List ResultVar) (t:List AV) (H:List AO):Option AV:=match mapO (z3k P t H) rs with
 | some [v]=>some v
 | some l=>some (.tup l)
 | none=>none
def kFin (P:Program) (rs:List ResultVar) (x:Option (Ex×St)):Option (AV×List AO):=match x with
 | some (.exit _,_)=>none
 | some (_,st)=>match z1e st.H st.m with
   | some H'=>match finA P rs st.t H' with
     | some v=>some (v,H')
     | none=>none
   | none=>none
 | none=>none
theorem z03d {st:St} {f:St->Option (Ex×St)} {k:Tok f}:kEx (some (.normal,st)) f k=f st:=rfl
theorem z08e {id:Nat} {st:St} {f:St->Option (Ex×St)} {k:Tok f}:kEx (some (.exit id,st)) f k=some (.exit id,st):=rfl
theorem z0bb {st:St} {f:St->Option (Ex×St)} {k:Tok f}:kEx (some (.ret,st)) f k=some (.ret,st):=rfl
theorem zsr {st:St} {id:Nat}:kBlock (some (.normal,st)) id=some (.normal,st):=rfl
theorem z03e {st:St} {id:Nat}:kBlock (some (.ret,st)) id=some (.ret,st):=rfl
theorem zzb {st:St} {id id':Nat}:kBlock (some (.exit id',st)) id=if id'=id then some (.normal,st) else some (.exit id',st):=rfl
theorem z05h {t:List AV} {H:List AO} {m:List Nat}:kReg (some (t,H)) m=some (.normal,⟨t,H,m⟩):=rfl
theorem z08f {α:Type} {f g:Unit->Option α} {k:Tok f} {k':Tok g}:kIf (.bool true) f g k k'=f ():=rfl
theorem z05i {α:Type} {f g:Unit->Option α} {k:Tok f} {k':Tok g}:kIf (.bool false) f g k k'=g ():=rfl
theorem zgi {α:Type} {f g:Unit->Option α} {k:Tok f} {k':Tok g}:kWant (some true) f g k k'=f ():=rfl
theorem zzc {α:Type} {f g:Unit->Option α} {k:Tok f} {k':Tok g}:kWant (some false) f g k k'=g ():=rfl
theorem zvo {α:Type} {v:AV} {H:List AO} {f:AV->List AO->Option α} {k:Tok f}:kRes (some (v,H)) f k=f v H:=rfl
theorem z05j {α:Type} {v:AV} {e:Eff} {f:AV->Eff->Option α} {k:Tok f}:kEff (some (v,e)) f k=f v e:=rfl
theorem z01k {H:List AO} {v:AV} {ch:Option (Nat×AO)}:kCh H (some (v,ch))=some (v,zi H ch):=rfl
theorem z03f {α:Type} {t:List AV} {H:List AO} {l:List DStep} {f:List AV->List AO->List DStep->Option α} {k:Tok f}:kDraw (some (t,H,l)) f k=f t H l:=rfl
theorem z08g {ops:Array Oper} {L:Nat} {l:List DStep} {t:List AV} {H:List AO} (h:DrawOk ops L l):kOk ops L l t H=some (t,H):=by unfold kOk;rw [if_pos h.ok]
section
variable {P:Program} {inl:FuncId->Bool} {orc:FuncId->Option (List AV->Option AV)} {prim:FuncId->Option (Nat->List AV->List AO->Res)} {n:Nat} {ro:Option Nat} {t:List AV} {H:List AO} {m:List Nat}
theorem z0cu:run P inl orc prim (n+1) ro .skip ⟨t,H,m⟩=some (.normal,⟨t,H,m⟩):=rfl
theorem z0bc {l:Nat}:run P inl orc prim (n+1) ro (.label l) ⟨t,H,m⟩=some (.normal,⟨t,H,m⟩):=rfl
theorem z0cv {id:Nat}:run P inl orc prim (n+1) ro (.exit id) ⟨t,H,m⟩=some (.exit id,⟨t,H,m⟩):=rfl
theorem z0du:run P inl orc prim (n+1) ro .ret ⟨t,H,m⟩=some (.ret,⟨t,H,m⟩):=rfl
theorem z0dv {a b:Code}:run P inl orc prim (n+1) ro (.seq a b) ⟨t,H,m⟩=kEx (run P inl orc prim n ro a ⟨t,H,m⟩) (run P inl orc prim n ro b) (.mk _):=rfl
theorem z0cw {x:Operand} {a b:Code}:run P inl orc prim (n+1) ro (.cond x a b) ⟨t,H,m⟩=kIf (opd t x) (fun _=>run P inl orc prim n ro a ⟨t,H,m⟩) (fun _=>run P inl orc prim n ro b ⟨t,H,m⟩) (.mk _) (.mk _):=rfl
theorem z0bd {id:Nat} {c:Code}:run P inl orc prim (n+1) ro (.block id c) ⟨t,H,m⟩=kBlock (run P inl orc prim n ro c ⟨t,H,m⟩) id:=rfl
theorem z0be {c:Code}:run P inl orc prim (n+1) ro (.scope c) ⟨t,H,m⟩=run P inl orc prim n ro c ⟨t,H,m⟩:=rfl
theorem z08h {id:Nat} {l:List Oper}:run P inl orc prim (n+1) ro (.region id ⟨l⟩ false) ⟨t,H,m⟩=kReg (z0h P inl orc prim (run P inl orc prim n) ⟨l⟩ l (coA inl id t H).1 (coA inl id t H).2) m:=rfl
theorem z0cx {id:Nat} {l:List Oper}:run P inl orc prim (n+1) ro (.region id ⟨l⟩ true) ⟨t,H,m⟩ =
 kReg (kDraw (z1v P inl orc prim (run P inl orc prim n) ⟨l⟩ (coA inl id t H).2.length l (coA inl id t H).1 ((coA inl id t H).2++List.replicate l.length .none) []) (fun t' H' s=>kOk ⟨l⟩ ((coA inl id t H).2.length+l.length) s t' H') (.mk _)) m:=rfl
def kOne (x:Option AV) (H:List AO):Option (AV×List AO):=x.map fun v=>(v,H)
theorem z05k {v:AV}:kOne (some v) H=some (v,H):=rfl
theorem z03g {rs:List ResultVar}:kFin P rs (some (.normal,⟨t,H,[]⟩))=kOne (finA P rs t H) H:=by
 simp only [kFin,z1e,kOne];cases finA P rs t H <;> rfl
theorem z0bf {rs:List ResultVar}:kFin P rs (some (.ret,⟨t,H,[]⟩))=kOne (finA P rs t H) H:=by
 simp only [kFin,z1e,kOne];cases finA P rs t H <;> rfl
theorem z0bg {i:Nat}:finA P [.tmp i] t H=some (t.getD i (.tup [])):=rfl
theorem z08i {i:Nat} {ty:TypeId}:finA P [.cell i ty] t H=loadA P H ty (t.getD i (.tup [])):=by
 simp only [finA,mapO,z3k];cases loadA P H ty (t.getD i (.tup [])) <;> rfl
def kPair (x y:Option AV):Option AV:=match x,y with
 | some a,some b=>some (.tup [a,b])
 | _,_=>none
theorem z03h {a b:AV}:kPair (some a) (some b)=some (.tup [a,b]):=rfl
theorem z0bh {x y:ResultVar}:finA P [x,y] t H=kPair (z3k P t H x) (z3k P t H y):=by
 simp only [finA,mapO,kPair];cases z3k P t H x <;> cases z3k P t H y <;> rfl
def kTriple (x y z:Option AV):Option AV:=match x,y,z with
 | some a,some b,some c=>some (.tup [a,b,c])
 | _,_,_=>none
theorem zvp {a b c:AV}:kTriple (some a) (some b) (some c)=some (.tup [a,b,c]):=rfl
theorem z05l {x y z:ResultVar}:finA P [x,y,z] t H=kTriple (z3k P t H x) (z3k P t H y) (z3k P t H z):=by
 simp only [finA,mapO,kTriple];cases z3k P t H x <;> cases z3k P t H y <;> cases z3k P t H z <;> rfl
theorem z0bi {i:Nat}:z3k P t H (.tmp i)=some (t.getD i (.tup [])):=rfl
theorem z08j {i:Nat} {ty:TypeId}:z3k P t H (.cell i ty)=loadA P H ty (t.getD i (.tup [])):=rfl
def z4v (P:Program) (inl:FuncId->Bool) (orc:FuncId->Option (List AV->Option AV)) (prim:FuncId->Option (Nat->List AV->List AO->Res)) (r:z1d) (t:List AV) (H:List AO) (o:Oper):Option (AV×List AO) :=
 match o.op with
 | .call { callee:=.value f,args,.. }=>callV P inl orc prim r (opd t f) (args.toList.map (opd t)) H
 | _=>kCh H (z09 P t H H.length o)
variable {r:z1d} {ops:Array Oper} {o:Oper} {L:List Oper} {base:Nat} {acc:List DStep}
theorem z03i {f:Operand} {args:Array Operand} {ts:Array TypeId} (hop:o.op=.call ⟨.value f,args,ts⟩):z4v P inl orc prim r t H o=callV P inl orc prim r (opd t f) (args.toList.map (opd t)) H:=by
 simp only [z4v,hop]
theorem zo0 (hne:∀ (f:Operand) (args:Array Operand) (ts:Array TypeId),o.op=.call ⟨.value f,args,ts⟩->False):z4v P inl orc prim r t H o=kCh H (z09 P t H H.length o):=by
 unfold z4v;split
 · rename_i h';exact absurd h' (hne _ _ _)
 · rfl
theorem z0dw:z0h P inl orc prim r ops [] t H=some (t,H):=rfl
theorem z0a2:z0h P inl orc prim r ops (o::L) t H=kWant (z4u ops t o) (fun _=>kRes (z4v P inl orc prim r t H o) (fun v H'=>z0h P inl orc prim r ops L (ziy t o.dst v) H') (.mk _)) (fun _=>z0h P inl orc prim r ops L (ziy t o.dst (.tup [])) H) (.mk _) (.mk _):=by
 simp only [z0h];cases z4u ops t o with
 | none=>rfl
 | some b =>
   cases b with
   | false=>rfl
   | true =>
     simp only [zgi];split
     · rename_i f args ts hop;rw [z03i hop];cases callV P inl orc prim r (opd t f) (List.map (opd t) args.toList) H <;> rfl
     · rename_i hne;rw [zo0 hne];cases he:z09 P t H H.length o with
       | none=>rfl
       | some x=>rfl
theorem z0cy:z1v P inl orc prim r ops base [] t H acc=some (t,H,acc):=rfl
theorem z0bj:z1v P inl orc prim r ops base (o::L) t H acc=kWant (z4u ops t o)
 (fun _=>kEff (z7g P inl orc prim r t H (base+acc.length) o) (fun v ch=>z1v P inl orc prim r ops base L (ziy t o.dst v) (ch.on H) (acc++[⟨o.dst,v,ch,readsOf t o,H⟩])) (.mk _))
 (fun _=>z1v P inl orc prim r ops base L (ziy t o.dst (.tup [])) H (acc++[⟨o.dst,.tup [],.nothing,[],[]⟩])) (.mk _) (.mk _):=by
 simp only [z1v];cases z4u ops t o with
 | none=>rfl
 | some b =>
   cases b with
   | false=>rfl
   | true =>
     simp only [zgi];cases z7g P inl orc prim r t H (base+acc.length) o <;> rfl
section
variable {d:Option Tmp} {ty:TypeId} {pos:String} {after:Array Edge} {g:Option (Nat×Bool)}
theorem z0cz {op:Op}:z4u ops t ⟨d,op,ty,pos,after,none⟩=some true:=rfl
def guardA (x:Option AV) (want:Bool):Option Bool:=match x with
 | some (.bool b)=>some (b==want)
 | some (.tup [])=>some false
 | _=>none
theorem z0d0 {op:Op} {j:Nat} {want:Bool} {l:List Oper}:z4u ⟨l⟩ t ⟨d,op,ty,pos,after,some (j,want)⟩=guardA (((l[j]?).bind (·.dst)).bind (t[·]?)) want:=by
 unfold z4u guardA;simp only [List.getElem?_toArray];cases (l[j]?).bind (·.dst) with
 | none=>rfl
 | some x =>
   simp only [Option.bind_some];cases t[x]? with
   | none=>rfl
   | some y=>cases y <;> first | rfl | (rename_i l;cases l <;> rfl)
theorem z0d1 {b:Bool}:guardA (some (.bool b)) true=some b:=by cases b <;> rfl
theorem z0bk {b:Bool}:guardA (some (.bool b)) false=some (!b):=by cases b <;> rfl
theorem z0dx {want:Bool}:guardA (some (.tup [])) want=some false:=rfl
theorem z0d2 {x:Operand}:z4v P inl orc prim r t H ⟨d,.move x,ty,pos,after,g⟩=some (opd t x,H):=rfl
theorem z08k {x:Operand}:z4v P inl orc prim r t H ⟨d,.assign x,ty,pos,after,g⟩=some (opd t x,H):=rfl
def pickA (c a b:AV):Option AV:=match c with
 | .bool true=>some a
 | .bool false=>some b
 | _=>none
theorem z05m {a b:AV}:pickA (.bool true) a b=some a:=rfl
theorem z03j {a b:AV}:pickA (.bool false) a b=some b:=rfl
def kV (H:List AO) (x:Option AV):Option (AV×List AO):=x.map fun v=>(v,H)
theorem z0bl {v:AV}:kV H (some v)=some (v,H):=rfl
theorem z3u {x:Option AV}:kCh H (z5y x)=kV H x:=by cases x <;> rfl
theorem z0d3 {c a b:Operand}:z4v P inl orc prim r t H ⟨d,.pick c a b,ty,pos,after,g⟩=kV H (pickA (opd t c) (opd t a) (opd t b)):=by
 simp only [z4v,z09,pickA];cases opd t c <;> try rfl
 rename_i b;cases b <;> rfl
theorem z0d4 {a:Operand} {ty':TypeId}:z4v P inl orc prim r t H ⟨d,.load ty' a,ty,pos,after,g⟩=kV H (loadA P H ty' (opd t a)):=z3u
theorem z0bm {op:BinOp} {x y:Operand} {xt yt:TypeId}:z4v P inl orc prim r t H ⟨d,.binOp op xt x y yt,ty,pos,after,g⟩=kV H (z7f P op xt (opd t x) (opd t y)):=z3u
theorem z0d5 {op:UnOp} {x:Operand} {xt:TypeId}:z4v P inl orc prim r t H ⟨d,.unOp op xt x,ty,pos,after,g⟩=kV H (unA op (opd t x)):=z3u
theorem z05n {x:Operand} {s' d':TypeId}:z4v P inl orc prim r t H ⟨d,.convert s' d' x,ty,pos,after,g⟩=kV H (convA P H s' d' (opd t x)):=z3u
theorem z0bn {x:Operand} {lo hi mx:Option Operand} {xt:TypeId}:z4v P inl orc prim r t H ⟨d,.slice xt x lo hi mx,ty,pos,after,g⟩=kV H (sliceA P H xt (opd t x) (lo.map (opd t)) (hi.map (opd t)) (mx.map (opd t))):=z3u
theorem zzd {x:Operand} {f:Nat} {xt:TypeId}:z4v P inl orc prim r t H ⟨d,.fieldAddr xt x f,ty,pos,after,g⟩=kV H (z26 P xt (opd t x) f):=z3u
theorem z0bo {x:Operand} {f:Nat} {xt:TypeId}:z4v P inl orc prim r t H ⟨d,.field xt x f,ty,pos,after,g⟩=kV H (fieldA P xt (opd t x) f):=z3u
theorem zze {x ix:Operand} {xt:TypeId}:z4v P inl orc prim r t H ⟨d,.indexAddr xt x ix,ty,pos,after,g⟩=kV H (z0g P H xt (opd t x) (opd t ix)):=z3u
theorem z0bp {x ix:Operand} {xt:TypeId}:z4v P inl orc prim r t H ⟨d,.index xt x ix,ty,pos,after,g⟩=kV H (indexA P xt (opd t x) (opd t ix)):=z3u
def zst (x:AV) (ix:Nat):Option AV:=match x with
 | .tup l=>l[ix]?
 | _=>none
theorem zzf {l:List AV} {ix:Nat}:zst (.tup l) ix=l[ix]?:=rfl
theorem z05o {x:Operand} {ix:Nat}:z4v P inl orc prim r t H ⟨d,.extract x ix,ty,pos,after,g⟩=kV H (zst (opd t x) ix):=by
 simp only [z4v,z09,zst];cases opd t x <;> try rfl
 rename_i l;simp only;cases l[ix]? <;> rfl
theorem z0d6 {f:Operand} {args:List Operand} {ts:Array TypeId}:z4v P inl orc prim r t H ⟨d,.call ⟨.value f,⟨args⟩,ts⟩,ty,pos,after,g⟩=callV P inl orc prim r (opd t f) (args.map (opd t)) H:=rfl
theorem z05p {b:Builtin} {args:List Operand} {ts:List TypeId}:z4v P inl orc prim r t H ⟨d,.call ⟨.builtin b,⟨args⟩,⟨ts⟩⟩,ty,pos,after,g⟩=kCh H (z2y P H H.length b ts (args.map (opd t))):=rfl
theorem z0bq {e:TypeId}:z4v P inl orc prim r t H ⟨d,.alloc e,ty,pos,after,g⟩=kCh H (z09 P t H H.length ⟨d,.alloc e,ty,pos,after,g⟩):=rfl
theorem z0br {a x:Operand} {xt:TypeId}:z4v P inl orc prim r t H ⟨d,.store xt a x,ty,pos,after,g⟩=kCh H (z09 P t H H.length ⟨d,.store xt a x,ty,pos,after,g⟩):=rfl
theorem z0bs {xt:TypeId} {ps:Array (Nat×Operand)}:z4v P inl orc prim r t H ⟨d,.build xt ps,ty,pos,after,g⟩=kCh H (z09 P t H H.length ⟨d,.build xt ps,ty,pos,after,g⟩):=rfl
theorem z0dy {xt:TypeId} {x:Operand}:z4v P inl orc prim r t H ⟨d,.box xt x,ty,pos,after,g⟩=kCh H (z09 P t H H.length ⟨d,.box xt x,ty,pos,after,g⟩):=rfl
theorem zvq {xt:TypeId} {k:Nat} {ps:Array (Nat×Operand)}:z4v P inl orc prim r t H ⟨d,.buildSlice xt k ps,ty,pos,after,g⟩=kCh H (z09 P t H H.length ⟨d,.buildSlice xt k ps,ty,pos,after,g⟩):=rfl
theorem zzg {xt:TypeId} {x y:Operand}:z4v P inl orc prim r t H ⟨d,.makeSlice xt x y,ty,pos,after,g⟩=kCh H (z09 P t H H.length ⟨d,.makeSlice xt x y,ty,pos,after,g⟩):=rfl
theorem z03k {x:Operand}:z4v P inl orc prim r t H ⟨d,.nilCheck x,ty,pos,after,g⟩=kCh H (z09 P t H H.length ⟨d,.nilCheck x,ty,pos,after,g⟩):=rfl
theorem z03l {f:FuncId} {first cap:Array Operand}:z4v P inl orc prim r t H ⟨d,.makeFunc (.func f) first cap,ty,pos,after,g⟩=kCh H (z09 P t H H.length ⟨d,.makeFunc (.func f) first cap,ty,pos,after,g⟩):=rfl
end
end
theorem z0bt {t:List AV} {i:Nat}:opd t (.tmp i)=t.getD i (.tup []):=rfl
theorem z08l {t:List AV} {f:FuncId}:opd t (.func f)=.fn f [] []:=rfl
theorem z0bu {t:List AV} {k:IntKind} {n:Int}:opd t (.const (.int k n))=.int k n:=rfl
theorem z08m {t:List AV} {b:Bool}:opd t (.const (.bool b))=.bool b:=rfl
theorem z0bv {t:List AV} {s:ByteArray}:opd t (.const (.string s))=.str s:=rfl
theorem z05q {t:List AV}:opd t (.const (.slice none 0 0))=.crows []:=rfl
theorem z08n {t:List AV} {vs:Array Value}:opd t (.const (.agg vs))=avOf (.agg vs):=rfl
theorem z08o {t:List AV} {vs:Array Value}:opd t (.const (.tuple vs))=avOf (.tuple vs):=rfl
theorem z08p {t:List AV}:opd t (.const (.pointer none))=.nilPtr:=rfl
theorem z05r {t:List AV} {v:AV}:ziy t none v=t:=rfl
theorem z05s {t:List AV} {d:Nat} {v:AV}:ziy t (some d) v=t.set d v:=rfl
theorem zae {H:List AO}:zi H none=H:=rfl
theorem zvr {H:List AO} {i:Nat} {o:AO}:zi H (some (i,o))=if i<H.length then H.set i o else H++[o]:=rfl
theorem z0bw {P:Program} {op:BinOp} {t:TypeId} {k:IntKind} {a b:Int} (h:op≠.shl) (h':op≠.shr):z7f P op t (.int k a) (.int k b)=z3j op k a b:=by
 unfold z7f;cases op <;> simp at h h' ⊢
section
variable {P:Program} {t:TypeId} {k k':IntKind} {a b:Int}
theorem z0dz:z7f P .add t (.int k a) (.int k b)=some (.int k (k.wrap (a+b))):=by simp [z7f,z3j]
theorem z0e0:z7f P .sub t (.int k a) (.int k b)=some (.int k (k.wrap (a - b))):=by simp [z7f,z3j]
theorem z0e1:z7f P .mul t (.int k a) (.int k b)=some (.int k (k.wrap (a*b))):=by simp [z7f,z3j]
theorem z0e2:z7f P .eql t (.int k a) (.int k b)=some (.bool (a==b)):=by simp [z7f,z3j]
theorem z0e3:z7f P .neq t (.int k a) (.int k b)=some (.bool (a != b)):=by simp [z7f,z3j]
theorem z0e4:z7f P .lss t (.int k a) (.int k b)=some (.bool (decide (a<b))):=by simp [z7f,z3j]
theorem z0e5:z7f P .leq t (.int k a) (.int k b)=some (.bool (decide (a<=b))):=by simp [z7f,z3j]
theorem z0e6:z7f P .gtr t (.int k a) (.int k b)=some (.bool (decide (a>b))):=by simp [z7f,z3j]
theorem z0e7:z7f P .geq t (.int k a) (.int k b)=some (.bool (decide (a>=b))):=by simp [z7f,z3j]
theorem z0e8:z7f P .and t (.int k a) (.int k b)=some (.int k (k.wrap (BitVec.ofInt k.bits a &&& BitVec.ofInt k.bits b).toNat)):=by simp [z7f,z3j]
theorem b_or:z7f P .or t (.int k a) (.int k b)=some (.int k (k.wrap (BitVec.ofInt k.bits a ||| BitVec.ofInt k.bits b).toNat)):=by simp [z7f,z3j]
theorem z0e9:z7f P .xor t (.int k a) (.int k b)=some (.int k (k.wrap (BitVec.ofInt k.bits a ^^^ BitVec.ofInt k.bits b).toNat)):=by simp [z7f,z3j]
theorem z08q:z7f P .andNot t (.int k a) (.int k b)=some (.int k (k.wrap (BitVec.ofInt k.bits a &&& ~~~(BitVec.ofInt k.bits b)).toNat)):=by simp [z7f,z3j]
theorem z0ea (h:b≠0):z7f P .quo t (.int k a) (.int k b)=some (.int k (k.wrap (a.tdiv b))):=by simp [z7f,z3j,h]
theorem z0eb (h:b≠0):z7f P .rem t (.int k a) (.int k b)=some (.int k (a.tmod b)):=by simp [z7f,z3j,h]
theorem z0d7 (h:0<=b):z7f P .shl t (.int k a) (.int k' b)=some (.int k (k.wrap (a*2 ^ (min b.toNat k.bits)))):=by simp [z7f,Int.not_lt.2 h]
theorem z0d8 (h:0<=b):z7f P .shr t (.int k a) (.int k' b)=some (.int k (a.fdiv (2 ^ (min b.toNat k.bits)))):=by simp [z7f,Int.not_lt.2 h]
theorem z0a3 {x y:ByteArray} (h:x.size+y.size<=9223372036854775807):z7f P .add t (.str x) (.str y)=some (.str (x++y)):=by simp [z7f,strBin,h]
theorem z0a4 {x y:ByteArray}:z7f P .eql t (.str x) (.str y)=some (.bool (x.toList==y.toList)):=by simp [z7f,strBin]
theorem z0a5 {x y:ByteArray}:z7f P .neq t (.str x) (.str y)=some (.bool (!(x.toList==y.toList))):=by simp [z7f,strBin]
theorem z0a6 {x y:Bool}:z7f P .eql t (.bool x) (.bool y)=(match ti P t with | some { kind:=.bool,.. }=>some (.bool (x==y)) | _=>none):=rfl
theorem z0a7 {x y:Bool}:z7f P .neq t (.bool x) (.bool y)=(match ti P t with | some { kind:=.bool,.. }=>some (.bool (!(x==y))) | _=>none):=rfl
theorem z0ec {x:Bool}:unA .not (.bool x)=some (.bool (!x)):=rfl
theorem z0ed {n:Int}:unA .neg (.int k n)=some (.int k (k.wrap (0 - n))):=rfl
theorem z0ee {n:Int}:unA .xor (.int k n)=some (.int k (k.wrap (BitVec.ofInt k.bits (if k.signed then -1 else k.max) ^^^ BitVec.ofInt k.bits n).toNat)):=rfl
end
attribute [go_sem] z03d z08e z0bb zsr z03e zzb z05h z08f z05i zgi zzc zvo z05j z01k z03f z08g z0cu z0bc z0cv z0du z0dv z0cw z0bd z0be z08h z0cx z0dw z0a2 z0cy z0bj z0cz z0d0 z0d1 z0bk z0dx z0d2 z08k z0d3 z05m z03j z0bl z0d4 z0bm z0d5 z05n z0bn zzd z0bo zze z0bp z05o zzf z0d6 z05p z0bq z0br z0bs z0dy zvq zzg z03k z03l z05k z03g z0bf z0bg z08i z03h z0bh zvp z05l z0bi z08j z0bt z08l z0bu z08m z0bv z05q z08n z08o z08p z05r z05s zae zvr z0dz z0e0 z0e1 z0e2 z0e3 z0e4 z0e5 z0e6 z0e7 z0e8 b_or z0e9 z08q z0ea z0eb z0d7 z0d8 z0a3 z0a4 z0a5 z0a6 z0a7 z0ec z0ed z0ee List.set_cons_succ List.set_cons_zero List.getD_cons_succ List.getD_cons_zero List.getElem?_cons_succ List.getElem?_cons_zero Option.bind_some Bool.not_true Bool.not_false List.length_cons List.length_nil Nat.reduceAdd Nat.reduceSub Nat.reduceLT List.replicate_succ List.replicate_zero List.cons_append List.nil_append if_true if_false List.map_cons List.map_nil Option.map_some Option.map_none
theorem zo1 {H:List AO} {te:TI} {s:ByteArray}:newRows H te (.str s)=if te.size=1 then some (s.data.toList.map fun b=>[AV.int .u8 b.toNat]) else none:=rfl
theorem zvs {H:List AO} {te:TI} {l:List (List AV)}:newRows H te (.rows l)=some l:=rfl
theorem zsu {H:List AO} {te:TI} {l:List (List AV)}:newRows H te (.crows l)=some l:=rfl
theorem zzh {H:List AO} {te:TI} {b v o n:Nat}:newRows H te (.ref b v o n)=z1m H (.ref b v o n):=rfl
theorem zzi {H:List AO} {l:List (List AV)}:z1m H (.rows l)=some l:=rfl
theorem zvt {H:List AO} {l:List (List AV)}:z1m H (.crows l)=some l:=rfl
theorem z03m {H:List AO} {b v o n:Nat}:z1m H (.ref b v o n)=(match H.getD b .none with
 | .blk _ v' _ rows=>if v=v' /\ o+n<=rows.length then some ((rows.drop o).take n) else none
 | _=>none):=rfl
attribute [go_sem] z09 z3i newBlk loadA partA z26 fieldA z0g indexA z2y lenA z2a zo1 zvs zsu zzh zzi zvt z03m sliceA bnd fitRows fitK rowSize z08 fillA placeS fillR splice copyA clearA TK.agg AV.leaf immL AV.imm AV.nrm zeg callV callFn callG z0y exp mapO zt z03 zj z7g effOf Eff.on readsOf z1u avOf avLeaf z3u List.all_cons List.all_nil Bool.and_true Bool.true_and Bool.false_and Bool.and_false Bool.false_eq_true List.take_succ_cons List.take_zero List.drop_succ_cons List.drop_zero List.length_append List.flatMap_cons List.flatMap_nil List.append_nil List.foldl_cons List.foldl_nil Nat.add_zero Nat.zero_add Nat.lt_irrefl and_true true_and decide_true decide_false Option.isSome_some Option.isSome_none Option.isNone_some Option.isNone_none false_and and_false or_false false_or Bool.or_false Bool.false_or Bool.not_eq_true' List.toList_toArray
end Clk
namespace Clk
open Go
section
variable {P:Program} {inl:FuncId->Bool} {orc:FuncId->Option (List AV->Option AV)} {prim:FuncId->Option (Nat->List AV->List AO->Res)}
def addO (orc:FuncId->Option (List AV->Option AV)) (f:FuncId) (h:List AV->Option AV):FuncId->Option (List AV->Option AV):=fun g=>if g=f then some h else orc g
def orcNone:FuncId->Option (List AV->Option AV):=fun _=>none
theorem z03n:zk P orcNone:=fun f h e=>by cases e
theorem z0bx (hg:Good P) (hor:zk P orc) (hpr:PrimOk P prim) {f:FuncId} {h:List AV->Option AV} (hn:orc f=none) (hb:Body P f)
 (hh:∀ args r,h args=some r->∃ n r0 H1,callF P (run P inl orc prim n) f args []=some (r0,H1) /\ exp H1 depth r0=some r):zk P (addO orc f h):=by
 intro g h' e;unfold addO at e;split at e
 · rename_i eg;subst eg;cases e;refine ⟨hb,fun args r hr w N vs hN ha=>?_⟩;obtain ⟨n,r0,H1,h1,h2⟩:=hh args r hr;refine (zbd (zvm (inl:=inl) hg hor hpr n).1 hor (f:=g) (args:=args) ?_ hN ha).2;unfold z0y;rw [hn];simp only;rw [h1];exact h2
 · exact hor g h' e
theorem z08r {w:World} {e:Ending} {w':World} (h:zac w (fun _=>False) (.bool true) e w'):e=.returned (.bool true) /\ RowKit.Below w.heap.size w w':=by
 obtain ⟨v,rfl,h1,h2,h3,h4,h5,h6⟩:=h;cases h6;exact ⟨rfl,h1,h2,h3,h4,h5⟩
end
def IsRow (k:IntKind) (w:World) (a:Option Addr) (len cap:Nat) (zs:List Int):Prop :=
 (a=none /\ len=0 /\ cap=0 /\ zs=[]) \/
 ∃ x,a=some x /\ len<=cap /\ cap<=maxLen /\ zs.length=cap /\ (∀ i,i<zs.length->w.cell? (x.add i)=some (.int k (zs.getD i 0))) /\ ∀ n∈zs,(Lit.int k n).wf=true
theorem zj9 {w:World} {a:Addr} {v:Value} (h:w.cell? a=some v):a.spot=none /\ a.block<w.heap.size:=by
 unfold World.cell? at h;split at h
 · rename_i hb;split at h
   · cases h
   · rename_i hs;exact ⟨by simpa using hs,(Array.getElem?_eq_some_iff.1 hb).1⟩
 · cases h
theorem IsRow.rel {k:IntKind} {w:World} {a:Option Addr} {len cap:Nat} {zs:List Int} (h:IsRow k w a len cap zs):RelI w (fun _=>False) (.rows ((zs.take len).map fun n=>[.int k n])) (.slice a len cap):=by
 rcases h with ⟨rfl,rfl,rfl,rfl⟩ | ⟨x,rfl,h1,h2,h3,h4,_⟩
 · exact RelI.rows (l:=[]) (k:=1) (u:=fun _ _=>undef) (Nat.le_refl _) (fun _ _ h=>by simp at h) (fun h=>absurd h (by simp)) (fun _ _ _ _ _ _ h=>by simp at h) (fun _ _ _ _ h=>by simp at h)
 · have hlen:((zs.take len).map fun n=>[AV.int k n]).length=len:=by simp;omega
   have hrow:∀ (i:Nat) row,((zs.take len).map fun n=>[AV.int k n])[i]?=some row->i<len /\ row=[.int k (zs.getD i 0)]:=by
    intro i row q;simp only [List.getElem?_map,Option.map_eq_some_iff] at q;obtain ⟨n,q1,rfl⟩:=q;rw [List.getElem?_take] at q1;split at q1
    · rename_i hi;exact ⟨hi,by simp [zI,q1]⟩
    · cases q1
   have:=RelI.rows (w:=w) (N:=fun _=>False) (l:=(zs.take len).map fun n=>[AV.int k n]) (a:=some x) (c:=cap) (k:=1) (u:=fun i _=>.int k (zs.getD i 0)) (by omega)
    (fun i row q=>by rw [(hrow i row q).2];rfl)
    (fun h0=>by
      obtain ⟨hs,hb⟩:=zj9 (h4 0 (by omega));have e:x.add 0=x:=by simp [Addr.add]
      rw [e] at hs hb;exact ⟨x,rfl,hs,fun h=>h,hb⟩)
    (fun ad i row j y e q1 q2=>by
      cases e;obtain ⟨hi,rfl⟩:=hrow i row q1;have hj:j=0:=by cases j with | zero=>rfl | succ j=>simp at q2
      subst hj;have hc:=h4 i (by omega);obtain ⟨hs0,_⟩:=zj9 (h4 0 (by omega));have e0:x.add 0=x:=by simp [Addr.add]
      rw [e0] at hs0;have e:x.add i=⟨x.block,x.off+(i*1+0),none⟩:=by
       by_cases hz:i=0
       · subst hz;rw [e0];obtain ⟨b,o,s⟩:=x;simp only at hs0;subst hs0;simp
       · simp [Addr.add,hz]
      rw [<- e];exact hc)
    (fun i row j y q1 q2=>by
      obtain ⟨hi,rfl⟩:=hrow i row q1;have hj:j=0:=by cases j with | zero=>rfl | succ j=>simp at q2
      subst hj;simp at q2;subst q2;exact .int k _)
   rw [hlen] at this;exact this
theorem IRel.nil {w:World} {N:Nat->Prop}:IRel w N [] #[]:=⟨rfl,fun i a v h=>by simp at h⟩
theorem IRel.cons {w:World} {N:Nat->Prop} {x:AV} {v:Value} {l:List AV} {vs:List Value} (h:RelI w N x v) (hs:IRel w N l ⟨vs⟩):IRel w N (x::l) ⟨v::vs⟩:=by
 refine ⟨by simpa using hs.1,fun i a u q1 q2=>?_⟩;cases i with
 | zero=>simp at q1 q2;subst q1 q2;exact h
 | succ i=>simp at q1 q2;exact hs.2 i a u q1 (by simpa using q2)
end Clk
namespace Clk
open Go
section
variable {P:Program} {inl:FuncId->Bool} {orc:FuncId->Option (List AV->Option AV)} {prim:FuncId->Option (Nat->List AV->List AO->Res)}
variable {w:World} {X:Nat->Prop} {β:z13} {H:List AO}
end
end Clk
namespace Clk
open Go
section
variable {α:Type} {c:Prop} [Decidable c]
end
end Clk
namespace Clk
open Go
section
variable {P:Program} {inl:FuncId->Bool} {orc:FuncId->Option (List AV->Option AV)} {prim:FuncId->Option (Nat->List AV->List AO->Res)}
def Ret (P:Program) (inl:FuncId->Bool) (orc:FuncId->Option (List AV->Option AV)) (prim:FuncId->Option (Nat->List AV->List AO->Res)) (f:FuncId) (args:List AV) (r:AV):Prop :=
 ∃ n r0 H1,callF P (run P inl orc prim n) f args []=some (r0,H1) /\ exp H1 depth r0=some r
theorem z0by (hg:Good P) (hor:zk P orc) (hpr:PrimOk P prim) {f:FuncId} {h:List AV->Option AV} (hn:orc f=none) (hb:Body P f)
 (hh:∀ args r,h args=some r->Ret P inl orc prim f args r):zk P (addO orc f h) :=
 z0bx (inl:=inl) hg hor hpr hn hb (fun args r e=>hh args r e)
end
end Clk
namespace Clk
open Go
abbrev Str:=List UInt8
structure Page where
 written:Bool
 data:Str
 tag:Str
 deriving DecidableEq,Inhabited
structure Block where
 pages:List Page
 next:Int
 erases:Int
 bad:Bool
 deriving DecidableEq,Inhabited
structure Chip where
 blocks:List Block
 broken:Bool
 off:Bool
 ops:Int
 deriving DecidableEq,Inhabited
structure Fate where
 kind:Int
 data:Str
 tag:Str
 n:Int
 deriving DecidableEq,Inhabited
structure Record where
 kind:Int
 seq:Int
 keys:List Int
 values:List Int
 deriving DecidableEq,Inhabited
structure Found where
 place:Int
 record:Record
 deriving DecidableEq,Inhabited
structure Table where
 map:List Int
 by_:List Int
 deriving DecidableEq,Inhabited
structure Slot where
 state:Int
 print:Int
 place:Int
 deriving DecidableEq,Inhabited
structure Write where
 data:Str
 record:Record
 deriving DecidableEq,Inhabited
structure Command where
 kind:Int
 first:Int
 count:Int
 data:List Str
 deriving DecidableEq,Inhabited
structure Geometry where
 blocks:Int
 pages:Int
 sectors:Int
 spare:Int
 deriving DecidableEq,Inhabited
structure Device where
 geometry:Geometry
 chip:Chip
 table:Table
 seq:Int
 opn:Int
 deriving DecidableEq,Inhabited
structure Answer where
 errno:Int
 data:List Str
 deriving DecidableEq,Inhabited
structure Event where
 command:Command
 fates:List Fate
 deriving DecidableEq,Inhabited
structure Report where
 free:Int
 closed:Int
 retired:Int
 live:Int
 least:Int
 most:Int
 readOnly:Bool
 deriving DecidableEq,Inhabited
structure Rank where
 wanted:Int
 erases:Int
 deriving DecidableEq,Inhabited
inductive TC where
 | int (k:IntKind) | bool | str | list (c:TC)
 | page | block | chip | fate | record | found | table | slot | write | command | geometry | device | answer | event | report | rank
 deriving DecidableEq,Inhabited
abbrev TC.i:TC:=.int .i64
@[reducible] def TC.den:TC->Type
 | .int _=>Int
 | .bool=>Bool
 | .str=>Str
 | .list c=>List c.den
 | .page=>Page
 | .block=>Block
 | .chip=>Chip
 | .fate=>Fate
 | .record=>Record
 | .found=>Found
 | .table=>Table
 | .slot=>Slot
 | .write=>Write
 | .command=>Command
 | .geometry=>Geometry
 | .device=>Device
 | .answer=>Answer
 | .event=>Event
 | .report=>Report
 | .rank=>Rank
def TC.zero:(c:TC)->c.den
 | .int _=>(0:Int)
 | .bool=>false
 | .str=>([]:List UInt8)
 | .list _=>[]
 | .page=>⟨false,[],[]⟩
 | .block=>⟨[],0,0,false⟩
 | .chip=>⟨[],false,false,0⟩
 | .fate=>⟨0,[],[],0⟩
 | .record=>⟨0,0,[],[]⟩
 | .found=>⟨0,⟨0,0,[],[]⟩⟩
 | .table=>⟨[],[]⟩
 | .slot=>⟨0,0,0⟩
 | .write=>⟨[],⟨0,0,[],[]⟩⟩
 | .command=>⟨0,0,0,[]⟩
 | .geometry=>⟨0,0,0,0⟩
 | .device=>⟨⟨0,0,0,0⟩,⟨[],false,false,0⟩,⟨[],[]⟩,0,0⟩
 | .answer=>⟨0,[]⟩
 | .event=>⟨⟨0,0,0,[]⟩,[]⟩
 | .report=>⟨0,0,0,0,0,0,false⟩
 | .rank=>⟨0,0⟩
inductive SV where
 | bool (b:Bool)
 | int (k:IntKind) (n:Int)
 | str (s:Str)
 | junk
 | nilPtr | nilFunc | nilIface | nilMap
 | agg (l:List SV)
 | tup (l:List SV)
 | lst (cr:Bool) (c:TC) (xs:List c.den)
 | iptr (l:List SV) (j:Nat)
 | bref (s v:Nat)
 | ref (s v o n:Nat)
 | ptr (s v i j:Nat)
 | fn (f:FuncId) (first cap:List SV)
 | yield (l:Nat)
 | iface (t:TypeId) (v:SV)
 deriving Inhabited
inductive SO where
 | dead
 | blk (c:TC) (v:Nat) (live:Bool) (xs:List c.den)
 | raw (k:Nat) (live:Bool) (rows:List (List SV))
 | loop (state:LoopState) (pend:Option Code) (tmps:List SV) (params:List Tmp) (assign body:Code) (d:Nat)
 | dfr (op:Bool)
 | nst (pv:Bool) (v:Nat) (live:Bool) (xs:List Block) (ex:List (Nat×Nat))
 deriving Inhabited
def svI (n:Int):SV:=.int .i64 n
def svL (c:TC) (xs:List c.den):SV:=.lst false c xs
def zgj (r:Record):List SV:=[svI r.kind,svI r.seq,svL .i r.keys,svL .i r.values]
def zcd (c:Command):List SV:=[svI c.kind,svI c.first,svI c.count,svL .str c.data]
def TC.up:(c:TC)->c.den->List SV
 | .int k,n=>[.int k n]
 | .bool,b=>[.bool b]
 | .str,s=>[.str s]
 | .list c,xs=>[.lst false c xs]
 | .page,p=>[.bool p.written,.str p.data,.str p.tag]
 | .block,b=>[svL .page b.pages,svI b.next,svI b.erases,.bool b.bad]
 | .chip,c=>[svL .block c.blocks,.bool c.broken,.bool c.off,svI c.ops]
 | .fate,f=>[svI f.kind,.str f.data,.str f.tag,svI f.n]
 | .record,r=>zgj r
 | .found,f=>svI f.place::zgj f.record
 | .table,t=>[svL .i t.map,svL .i t.by_]
 | .slot,s=>[svI s.state,svI s.print,svI s.place]
 | .write,w=>.str w.data::zgj w.record
 | .command,c=>zcd c
 | .geometry,g=>[svI g.blocks,svI g.pages,svI g.sectors,svI g.spare]
 | .device,d=>[svI d.geometry.blocks,svI d.geometry.pages,svI d.geometry.sectors,svI d.geometry.spare,svL .block d.chip.blocks,.bool d.chip.broken,.bool d.chip.off,svI d.chip.ops,svL .i d.table.map,svL .i d.table.by_,svI d.seq,svI d.opn]
 | .answer,a=>[svI a.errno,svL .str a.data]
 | .event,e=>zcd e.command++[svL .fate e.fates]
 | .report,r=>[svI r.free,svI r.closed,svI r.retired,svI r.live,svI r.least,svI r.most,.bool r.readOnly]
 | .rank,r=>[svI r.wanted,svI r.erases]
def TC.agg:TC->Bool
 | .int _ | .bool | .str | .list _=>false
 | _=>true
def TC.size:TC->Nat
 | .int _ | .bool | .str | .list _=>1
 | .page=>3
 | .block=>4
 | .chip=>4
 | .fate=>4
 | .record=>4
 | .found=>5
 | .table=>2
 | .slot=>3
 | .write=>5
 | .command=>4
 | .geometry=>4
 | .device=>12
 | .answer=>2
 | .event=>5
 | .report=>7
 | .rank=>2
def TC.cast (c' c:TC) (xs:List c'.den):Option (List c.den):=if h:c'=c then some (h▸xs) else none
def dInt (k:IntKind):SV->Option Int
 | .int k' n=>if k'=k then some n else none
 | _=>none
def dI:SV->Option Int
 | .int .i64 n=>some n
 | _=>none
def dBool:SV->Option Bool
 | .bool b=>some b
 | _=>none
def dStr:SV->Option Str
 | .str s=>some s
 | _=>none
def dRecord (L:(c:TC)->SV->Option (List c.den)):List SV->Option Record
 | [a,b,c,d]=>match dI a,dI b,L .i c,L .i d with
   | some a,some b,some c,some d=>some ⟨a,b,c,d⟩
   | _,_,_,_=>none
 | _=>none
def zja (L:(c:TC)->SV->Option (List c.den)):List SV->Option Command
 | [a,b,c,d]=>match dI a,dI b,dI c,L .str d with
   | some a,some b,some c,some d=>some ⟨a,b,c,d⟩
   | _,_,_,_=>none
 | _=>none
def z0b (L:(c:TC)->SV->Option (List c.den)):(c:TC)->List SV->Option c.den
 | .int k,l=>match l with | [a]=>dInt k a | _=>none
 | .bool,l=>match l with | [a]=>dBool a | _=>none
 | .str,l=>match l with | [a]=>dStr a | _=>none
 | .list c,l=>match l with | [a]=>L c a | _=>none
 | .page,l=>match l with
   | [a,b,c]=>match dBool a,dStr b,dStr c with
     | some a,some b,some c=>some ⟨a,b,c⟩
     | _,_,_=>none
   | _=>none
 | .block,l=>match l with
   | [a,b,c,d]=>match L .page a,dI b,dI c,dBool d with
     | some a,some b,some c,some d=>some ⟨a,b,c,d⟩
     | _,_,_,_=>none
   | _=>none
 | .chip,l=>match l with
   | [a,b,c,d]=>match L .block a,dBool b,dBool c,dI d with
     | some a,some b,some c,some d=>some ⟨a,b,c,d⟩
     | _,_,_,_=>none
   | _=>none
 | .fate,l=>match l with
   | [a,b,c,d]=>match dI a,dStr b,dStr c,dI d with
     | some a,some b,some c,some d=>some ⟨a,b,c,d⟩
     | _,_,_,_=>none
   | _=>none
 | .record,l=>dRecord L l
 | .found,l=>match l with
   | a::l=>match dI a,dRecord L l with
     | some a,some r=>some ⟨a,r⟩
     | _,_=>none
   | _=>none
 | .table,l=>match l with
   | [a,b]=>match L .i a,L .i b with
     | some a,some b=>some ⟨a,b⟩
     | _,_=>none
   | _=>none
 | .slot,l=>match l with
   | [a,b,c]=>match dI a,dI b,dI c with
     | some a,some b,some c=>some ⟨a,b,c⟩
     | _,_,_=>none
   | _=>none
 | .write,l=>match l with
   | a::l=>match dStr a,dRecord L l with
     | some a,some r=>some ⟨a,r⟩
     | _,_=>none
   | _=>none
 | .command,l=>zja L l
 | .geometry,l=>match l with
   | [a,b,c,d]=>match dI a,dI b,dI c,dI d with
     | some a,some b,some c,some d=>some ⟨a,b,c,d⟩
     | _,_,_,_=>none
   | _=>none
 | .device,l=>match l with
   | [g1,g2,g3,g4,c1,c2,c3,c4,t1,t2,s,o]=>match dI g1,dI g2,dI g3,dI g4,L .block c1,dBool c2,dBool c3,dI c4,L .i t1,L .i t2,dI s,dI o with
     | some g1,some g2,some g3,some g4,some c1,some c2,some c3,some c4,some t1,some t2,some s,some o=>some ⟨⟨g1,g2,g3,g4⟩,⟨c1,c2,c3,c4⟩,⟨t1,t2⟩,s,o⟩
     | _,_,_,_,_,_,_,_,_,_,_,_=>none
   | _=>none
 | .answer,l=>match l with
   | [a,b]=>match dI a,L .str b with
     | some a,some b=>some ⟨a,b⟩
     | _,_=>none
   | _=>none
 | .event,l=>match l with
   | [a,b,c,d,e]=>match zja L [a,b,c,d],L .fate e with
     | some a,some b=>some ⟨a,b⟩
     | _,_=>none
   | _=>none
 | .report,l=>match l with
   | [a,b,c,d,e,f,g]=>match dI a,dI b,dI c,dI d,dI e,dI f,dBool g with
     | some a,some b,some c,some d,some e,some f,some g=>some ⟨a,b,c,d,e,f,g⟩
     | _,_,_,_,_,_,_=>none
   | _=>none
 | .rank,l=>match l with
   | [a,b]=>match dI a,dI b with
     | some a,some b=>some ⟨a,b⟩
     | _,_=>none
   | _=>none
def dList (H:List SO):Nat->(c:TC)->SV->Option (List c.den)
 | 0,_,_=>none
 | d+1,c,x=>match x with
   | .lst _ c' xs=>TC.cast c' c xs
   | .bref s v=>match H.getD s .dead with
     | .blk c' v' _ xs=>if v=v' then TC.cast c' c xs else none
     | .nst _ v' _ xs ex=>match d,ex with
       | _+1,[]=>if v=v' then TC.cast .block c xs else none
       | _,_=>none
     | _=>none
   | .ref s v o n=>match H.getD s .dead with
     | .blk c' v' _ xs=>if v=v' then TC.cast c' c ((xs.drop o).take n) else none
     | .raw _ _ rows=>if v=0 /\ o+n<=rows.length then mapO (z0b (dList H d) c) ((rows.drop o).take n) else none
     | _=>none
   | _=>none
def dImm (c:TC) (x:SV):Option (List c.den):=match x with
 | .lst _ c' xs=>TC.cast c' c xs
 | _=>none
def dRows (H:List SO) (c:TC) (x:SV):Option (List c.den):=match x with
 | .lst _ c' xs=>TC.cast c' c xs
 | .bref s v=>match H.getD s .dead with
   | .blk c' v' _ xs=>if v=v' then TC.cast c' c xs else none
   | _=>none
 | .ref s v o n=>match H.getD s .dead with
   | .blk c' v' _ xs=>if v=v' then TC.cast c' c ((xs.drop o).take n) else none
   | .raw _ _ rows=>if v=0 /\ o+n<=rows.length then mapO (z0b dImm c) ((rows.drop o).take n) else none
   | _=>none
 | _=>none
def dVal (H:List SO) (d:Nat) (c:TC) (x:SV):Option c.den :=
 if c.agg then match x with
  | .agg l=>z0b (dList H d) c l
  | _=>none
 else z0b (dList H (d+1)) c [x]
def TC.val (c:TC) (x:c.den):SV :=
 if c.agg then .agg (c.up x) else match c.up x with | [v]=>v | _=>.junk
def nstRows (H:List SO) (xs:List Block):List (Nat×Nat)->Option (List Block)
 | []=>some xs
 | [(i,s)]=>match H.getD s .dead with
   | .blk c v _ pg=>if v=0 then (match TC.cast c .page pg with
     | some pg=>some (xs.set i { xs.getD i TC.block.zero with pages:=pg })
     | none=>none) else none
   | _=>none
 | _=>none
def dListN (H:List SO) (d:Nat) (c:TC) (x:SV):Option (List c.den):=match x with
 | .bref s v=>match H.getD s .dead with
   | .nst _ v' _ xs ex=>if v=v' then (match nstRows H xs ex with
     | some ys=>TC.cast .block c ys
     | none=>none) else none
   | _=>dList H d c x
 | _=>dList H d c x
def dValN (H:List SO) (d:Nat) (c:TC) (x:SV):Option c.den :=
 if c.agg then match x with
  | .agg l=>z0b (dListN H d) c l
  | _=>none
 else z0b (dListN H (d+1)) c [x]
@[reducible] def z41:List TC->Type
 | []=>Unit
 | [c]=>c.den
 | c::d::l=>c.den×z41 (d::l)
def valL:(l:List TC)->z41 l->List SV
 | [],_=>[]
 | [c],x=>[c.val x]
 | c::d::l,x=>c.val x.1::valL (d::l) x.2
def dValL (H:List SO) (dp:Nat):(l:List TC)->List SV->Option (z41 l)
 | [],[]=>some ()
 | [c],[x]=>dVal H dp c x
 | c::d::l,x::xs=>match dVal H dp c x,dValL H dp (d::l) xs with
   | some a,some b=>some (a,b)
   | _,_=>none
 | _,_=>none
def dValLN (H:List SO) (dp:Nat):(l:List TC)->List SV->Option (z41 l)
 | [],[]=>some ()
 | [c],[x]=>dValN H dp c x
 | c::d::l,x::xs=>match dValN H dp c x,dValLN H dp (d::l) xs with
   | some a,some b=>some (a,b)
   | _,_=>none
 | _,_=>none
def resV:(l:List TC)->z41 l->SV
 | [],_=>.tup []
 | [c],x=>c.val x
 | c::d::l,x=>.tup (valL (c::d::l) x)
def dRes (H:List SO):(l:List TC)->SV->Option (z41 l)
 | [],x=>match x with | .tup []=>some () | _=>none
 | [c],x=>dValN H 3 c x
 | c::d::l,x=>match x with | .tup xs=>dValLN H 2 (c::d::l) xs | _=>none
end Clk
namespace Clk
open Go
structure Spec where
 params:List TC
 res:List TC
 h:z41 params->Option (z41 res)
inductive Slt where
 | junk
 | fix (v:SV)
 | var (c:TC)
 | agg (c:TC)
 | sub (s v:Nat)
 | pt (s v j:Nat)
 deriving Inhabited
inductive Sht where
 | dead
 | blk (c:TC) (v:Nat) (gr:Bool)
 | raw (k r:Nat)
 | st (c:TC)
 | loop (n:Nat)
 | dfr
 | nst (pv:Bool) (v:Nat) (gr:Bool)
 deriving Inhabited
def Sht.gr:Sht->Bool
 | .blk _ _ g=>g
 | .nst _ _ g=>g
 | _=>false
inductive Gho where
 | nest (s:Nat) (pv:Bool)
 | abs (s:Nat)
 | bk (s to:Nat)
inductive Pro where
 | tmp (i:Nat) (c:TC)
 | cell (s i j:Nat) (c:TC)
 | ltmp (s i:Nat) (c:TC)
structure Tmpl where
 pro:List Pro
 gr:List (Nat×TC)
 nt:Nat
 hs:List Sht
 slots:List Slt
 en:List Gho
 ab:List Gho
structure Ctx where
 ti:TypeId->Option TI
 zero:TypeId->Option (List SV)
 ec:TypeId->Option TC
 fn:FuncId->Option Func
 inl:FuncId->Bool
 cl:FuncId->Option (TC×Nat)
 sp:FuncId->Option Spec
 tm:Nat->Option Tmpl
 eq:TypeId->Bool
 gh:Nat->Nat->Option (Nat×Nat)
def ofLeaf:Value->SV
 | .bool b=>.bool b
 | .int k n=>.int k n
 | .string s=>.str s.data.toList
 | .pointer none=>.nilPtr
 | .map none=>.nilMap
 | .nilFunc=>.nilFunc
 | .nilIface=>.nilIface
 | .func (.func f) first cap=>if first.size=0 /\ cap.size=0 then .fn f [] [] else .junk
 | _=>.junk
def ofConst (Γ:Ctx) (ty:TypeId):Value->SV
 | .agg cs=>.agg (cs.toList.map ofLeaf)
 | .tuple cs=>if cs.size=0 then .tup [] else .junk
 | .slice none 0 0=>match Γ.ti ty with
   | some { kind:=.slice e,.. }=>match Γ.ec e with
     | some c=>.lst true c []
     | none=>.junk
   | _=>.junk
 | v=>ofLeaf v
def z10 (Γ:Ctx) (ty:TypeId) (t:List SV):Operand->SV
 | .tmp i=>t.getD i (.tup [])
 | .const v=>ofConst Γ ty v
 | .global _=>.junk
 | .func f=>.fn f [] []
def SV.leaf:SV->Bool
 | .junk | .agg _ | .tup _=>false
 | _=>true
def cellsS:SV->Option (List SV)
 | .junk=>none
 | .tup _=>none
 | .agg l=>if l.all SV.leaf then some l else none
 | v=>some [v]
def putS (t:List SV) (dst:Option Tmp) (v:SV):List SV :=
 match dst with
 | some d=>t.set d v
 | none=>t
def spliceS (cells:List SV) (off:Nat) (cs:List SV):List SV:=cells.take off++cs++cells.drop (off+cs.length)
def fillS (place:Nat->Option (Nat×Nat)) (cells:List SV):List (Nat×SV)->Option (List SV)
 | []=>some cells
 | (i,v)::rest =>
   match place i,cellsS v with
   | some (off,size),some cs=>if cs.length=size /\ off+size<=cells.length then fillS place (spliceS cells off cs) rest else none
   | _,_=>none
def fillRS (size:Nat) (rows:List (List SV)):List (Nat×SV)->Option (List (List SV))
 | []=>some rows
 | (i,v)::rest =>
   match cellsS v with
   | some cs=>if cs.length=size /\ i<rows.length then fillRS size (rows.set i cs) rest else none
   | none=>none
def partS (i:TI) (cells:List SV) (off:Nat):Option SV :=
 if off+i.size<=cells.length then
  if i.kind.agg then some (.agg ((cells.drop off).take i.size))
  else if i.size=1 then cells[off]? else none
 else none
abbrev SRes:=Option (List Bool×SV×Option (Nat×SO))
def okV (v:SV):SRes:=some ([],v,none)
def okO (x:Option SV):SRes:=match x with
 | some v=>some ([],v,none)
 | none=>none
def cellsN (ex:List (Nat×Nat)) (j:Nat) (x:Block):List SV :=
 (if j=0 then (match ex with | (_,s)::_=>.bref s 0 | []=>.junk) else .junk)::[svI x.next,svI x.erases,.bool x.bad]
def askN (ex:List (Nat×Nat)) (i j:Nat):List Bool :=
 if j=0 then (match ex with | (i0,_)::_=>[decide (i0=i)] | []=>[]) else []
def loadS (Γ:Ctx) (H:List SO) (t:TypeId):SV->SRes
 | .iptr l j=>match Γ.ti t with
   | some i=>okO (partS i l j)
   | none=>none
 | .ptr s v i j=>match Γ.ti t,H.getD s .dead with
   | some ty,.raw _ _ rows =>
     match ty.kind with
     | .array _ _=>none
     | _=>match v,rows[i]? with
       | 0,some row=>okO (partS ty row j)
       | _,_=>none
   | some ty,.blk c v' _ xs =>
     match ty.kind with
     | .array _ _=>none
     | _=>if v=v' then match partS ty (c.up (xs.getD i c.zero)) j with
       | some x=>some ([decide (i<xs.length)],x,none)
       | none=>none
       else none
   | some ty,.nst _ v' _ xs ex =>
     match ty.kind with
     | .array _ _=>none
     | _=>if v=v' then match partS ty (cellsN ex j (xs.getD i TC.block.zero)) j with
       | some x=>some (decide (i<xs.length)::askN ex i j,x,none)
       | none=>none
       else none
   | _,_=>none
 | _=>none
def zjb:Nat->List SV->Option Nat
 | 0,[.bref s 0]=>some s
 | _,_=>none
def storeS (Γ:Ctx) (H:List SO) (t:TypeId) (a x:SV):SRes :=
 match a,cellsS x,Γ.ti t with
 | .ptr s v i j,some cs,some ty=>match ty.kind with
   | .array _ _=>none
   | _=>match H.getD s .dead with
     | .raw k true rows=>match v,rows[i]? with
       | 0,some row=>if cs.length=ty.size /\ j+cs.length<=row.length then some ([],.tup [],some (s,.raw k true (rows.set i (spliceS row j cs)))) else none
       | _,_=>none
     | .blk c v' true xs =>
       if v=v' /\ cs.length=ty.size /\ j+cs.length<=c.size then match z0b dImm c (spliceS (c.up (xs.getD i c.zero)) j cs) with
        | some y=>some ([decide (i<xs.length)],.tup [],some (s,.blk c v true (xs.set i y)))
        | none=>match zjb j cs,TC.cast c .block xs with
          | some s2,some ys=>some ([decide (i<ys.length)],.tup [],some (s,.nst false v true ys [(i,s2)]))
          | _,_=>none
       else none
     | .nst pv v' true xs ex =>
       if v=v' /\ cs.length=ty.size /\ j+cs.length<=4 then match zjb j cs with
        | some s2=>some ([decide (i<xs.length)],.tup [],some (s,.nst pv v true xs ((i,s2)::ex)))
        | none=>match j with
          | 0=>none
          | j+1=>match z0b dImm .block (svL .page (xs.getD i TC.block.zero).pages::spliceS [svI (xs.getD i TC.block.zero).next,svI (xs.getD i TC.block.zero).erases,.bool (xs.getD i TC.block.zero).bad] j cs) with
            | some y=>some ([decide (i<xs.length)],.tup [],some (s,.nst pv v true (xs.set i y) ex))
            | none=>none
       else none
     | _=>none
 | _,_,_=>none
def intS (op:BinOp) (k:IntKind) (a b:Int):Option (List Bool×SV) :=
 match op with
 | .add=>some ([],.int k (k.wrap (a+b)))
 | .sub=>some ([],.int k (k.wrap (a - b)))
 | .mul=>some ([],.int k (k.wrap (a*b)))
 | .quo=>some ([!decide (b=0)],.int k (k.wrap (a.tdiv b)))
 | .rem=>some ([!decide (b=0)],.int k (a.tmod b))
 | .and=>some ([],.int k (k.wrap (BitVec.ofInt k.bits a &&& BitVec.ofInt k.bits b).toNat))
 | .or=>some ([],.int k (k.wrap (BitVec.ofInt k.bits a ||| BitVec.ofInt k.bits b).toNat))
 | .xor=>some ([],.int k (k.wrap (BitVec.ofInt k.bits a ^^^ BitVec.ofInt k.bits b).toNat))
 | .andNot=>some ([],.int k (k.wrap (BitVec.ofInt k.bits a &&& ~~~(BitVec.ofInt k.bits b)).toNat))
 | .eql=>some ([],.bool (decide (a=b)))
 | .neq=>some ([],.bool (!decide (a=b)))
 | .lss=>some ([],.bool (decide (a<b)))
 | .leq=>some ([],.bool (decide (a<=b)))
 | .gtr=>some ([],.bool (decide (b<a)))
 | .geq=>some ([],.bool (decide (b<=a)))
 | _=>none
def eqLeafS:TK->SV->SV->Option Bool
 | .int _,.int k a,.int k' b=>if k=k' then some (decide (a=b)) else none
 | .bool,.bool a,.bool b=>some (a==b)
 | .string,.str a,.str b=>some (decide (a=b))
 | _,_,_=>none
def zem (Γ:Ctx) (xs ys:List SV):List (Nat×TypeId)->Option Bool
 | []=>some true
 | [(off,t)]=>match Γ.ti t,xs[off]?,ys[off]? with
   | some i,some x,some y=>if i.kind.agg then none else eqLeafS i.kind x y
   | _,_,_=>none
 | (off,t)::rest=>match Γ.ti t,xs[off]?,ys[off]? with
   | some i,some x,some y=>if i.kind.agg then none else match eqLeafS i.kind x y,zem Γ xs ys rest with
     | some a,some b=>some (a&&b)
     | _,_=>none
   | _,_,_=>none
def eqS (Γ:Ctx) (t:TypeId) (x y:SV):Option Bool :=
 match Γ.ti t with
 | some i=>match i.kind,x,y with
   | .struct fs,.agg xs,.agg ys=>if Γ.eq t then zem Γ xs ys fs else none
   | k,x,y=>eqLeafS k x y
 | none=>none
def binS (Γ:Ctx) (op:BinOp) (t:TypeId) (x y:SV):Option (List Bool×SV) :=
 match op,x,y with
 | .shl,.int k a,.int _ b=>some ([decide (0<=b)],.int k (k.wrap (a*2 ^ (min b.toNat k.bits))))
 | .shr,.int k a,.int _ b=>some ([decide (0<=b)],.int k (a.fdiv (2 ^ (min b.toNat k.bits))))
 | op,.int k a,.int k' b=>if k=k' then intS op k a b else none
 | .add,.str a,.str b=>some ([decide (a.length+b.length<=9223372036854775807)],.str (a++b))
 | .eql,.str a,.str b=>some ([],.bool (decide (a=b)))
 | .neq,.str a,.str b=>some ([],.bool (!decide (a=b)))
 | .eql,.bool a,.bool b=>match Γ.ti t with | some { kind:=.bool,.. }=>some ([],.bool (a==b)) | _=>none
 | .neq,.bool a,.bool b=>match Γ.ti t with | some { kind:=.bool,.. }=>some ([],.bool (!(a==b))) | _=>none
 | .eql,.agg a,.agg b=>(eqS Γ t (.agg a) (.agg b)).map fun r=>([],.bool r)
 | .neq,.agg a,.agg b=>(eqS Γ t (.agg a) (.agg b)).map fun r=>([],.bool (!r))
 | _,_,_=>none
def unS (op:UnOp) (x:SV):Option SV :=
 match op,x with
 | .not,.bool b=>some (.bool (!b))
 | .neg,.int k n=>some (.int k (k.wrap (0 - n)))
 | .xor,.int k n=>some (.int k (k.wrap (BitVec.ofInt k.bits (if k.signed then -1 else k.max) ^^^ BitVec.ofInt k.bits n).toNat))
 | _,_=>none
def bytesOf (l:List Int):Str:=l.map fun n=>UInt8.ofNat n.toNat
def convS (Γ:Ctx) (H:List SO) (src dst:TypeId) (x:SV):Option SV :=
 match Γ.ti src,Γ.ti dst with
 | some s,some d=>match s.kind,d.kind,x with
   | _,.int k,.int _ n=>some (.int k (k.wrap n))
   | _,.string,.str s=>some (.str s)
   | .slice e,.string,x=>match Γ.ec e with
     | some (.int .u8)=>(dRows H (.int .u8) x).map fun l=>.str (bytesOf l)
     | _=>none
   | _,_,_=>none
 | _,_=>none
def lenOf (H:List SO):SV->Option Nat
 | .lst _ _ xs=>some xs.length
 | .bref s v=>match H.getD s .dead with
   | .blk _ v' _ xs=>if v=v' then some xs.length else none
   | .nst _ v' _ xs _=>if v=v' then some xs.length else none
   | _=>none
 | .ref _ _ _ n=>some n
 | _=>none
def bndS (lo hi:Option SV) (len:Nat):Option (List Bool×Nat×Option Nat) :=
 match lo,hi with
 | none,none=>some ([],0,none)
 | some (.int _ l),none=>some ([decide (0<=l),decide (l<=len)],l.toNat,none)
 | none,some (.int _ h)=>some ([decide (0<=h),decide (h<=len)],0,some h.toNat)
 | some (.int _ l),some (.int _ h)=>some ([decide (0<=l),decide (l<=h),decide (h<=len)],l.toNat,some h.toNat)
 | _,_=>none
def partL {α:Type} (xs:List α) (l:Nat):Option Nat->List α
 | none=>xs.drop l
 | some h=>(xs.drop l).take (h - l)
def cntL (n l:Nat):Option Nat->Nat
 | some h=>h - l
 | none=>n - l
def fits (Γ:Ctx) (e:TypeId) (c:TC):Bool :=
 match Γ.ec e with
 | some c'=>decide (c'=c)
 | none=>false
def sliceS (Γ:Ctx) (H:List SO) (t:TypeId) (x:SV) (lo hi mx:Option SV):SRes :=
 match Γ.ti t with
 | some i=>match i.kind,x,mx with
   | .string,.str s,none=>match bndS lo hi s.length with
     | some (as,l,h)=>some (as,.str (partL s l h),none)
     | none=>none
   | .slice e,.lst _ c xs,none=>if fits Γ e c then match bndS lo hi xs.length with
     | some (as,l,h)=>some (as,.lst false c (partL xs l h),none)
     | none=>none
     else none
   | .slice e,.lst _ c xs,some (.int _ m)=>if fits Γ e c then match hi with
     | some (.int _ h')=>match bndS lo hi xs.length with
       | some (as,l,h)=>some (decide (h'=m)::as,.lst true c (partL xs l h),none)
       | none=>none
     | _=>none
     else none
   | .slice e,.bref s v,none=>match H.getD s .dead with
     | .blk c v' _ xs=>if v=v' /\ fits Γ e c=true then match bndS lo hi xs.length with
       | some (as,l,h)=>some (as,.ref s v l (cntL xs.length l h),none)
       | none=>none
       else none
     | _=>none
   | .slice e,.ref s v o n,none=>match H.getD s .dead with
     | .blk c v' _ _=>if v=v' /\ fits Γ e c=true then match bndS lo hi n with
       | some (as,l,h)=>some (as,.ref s v (o+l) (cntL n l h),none)
       | none=>none
       else none
     | _=>none
   | .array n e,.ptr s v 0 0,none=>match H.getD s .dead with
     | .blk c v' _ xs=>if v=v' /\ fits Γ e c=true then match bndS lo hi n with
       | some (as,l,h)=>some (decide (n=xs.length)::as,.ref s v l (cntL n l h),none)
       | none=>none
       else none
     | _=>none
   | _,_,_=>none
 | none=>none
def zkz (Γ:Ctx) (s:TypeId) (x:SV) (f:Nat):Option SV :=
 match Γ.ti s with
 | some { kind:=.struct fs,.. }=>match fs[f]? with
   | some (off,ft)=>match Γ.ti ft with
     | some i=>if i.size=0 then none else match x with
       | .iptr l j=>some (.iptr l (j+off))
       | .ptr b v i j=>some (.ptr b v i (j+off))
       | _=>none
     | none=>none
   | none=>none
 | _=>none
def zgk (Γ:Ctx) (H:List SO) (t:TypeId) (x ix:SV):SRes :=
 match Γ.ti t,ix with
 | some i,.int _ n=>match i.kind,x with
   | .slice e,.lst _ c xs=>if fits Γ e c then some ([decide (0<=n),decide (n<xs.length)],.iptr (c.up (xs.getD n.toNat c.zero)) 0,none) else none
   | .slice e,.bref s v=>match H.getD s .dead with
     | .blk c v' _ xs=>if v=v' /\ fits Γ e c=true then some ([decide (0<=n),decide (n<xs.length)],.ptr s v n.toNat 0,none) else none
     | .nst _ v' _ xs _=>if v=v' /\ fits Γ e .block=true then some ([decide (0<=n),decide (n<xs.length)],.ptr s v n.toNat 0,none) else none
     | _=>none
   | .slice e,.ref s v o len=>match H.getD s .dead with
     | .blk c v' _ _=>if v=v' /\ fits Γ e c=true then some ([decide (0<=n),decide (n<len)],.ptr s v (o+n.toNat) 0,none) else none
     | .raw k _ _=>match Γ.ti e with
       | some te=>if v=0 /\ k=te.size then some ([decide (0<=n),decide (n<len)],.ptr s v (o+n.toNat) 0,none) else none
       | none=>none
     | _=>none
   | .array len e,.ptr s v 0 0=>match H.getD s .dead with
     | .blk c v' _ _=>if v=v' /\ fits Γ e c=true then some ([decide (0<=n),decide (n<len)],.ptr s v n.toNat 0,none) else none
     | _=>none
   | _,_=>none
 | _,_=>none
def indexS (Γ:Ctx) (t:TypeId) (x ix:SV):SRes :=
 match Γ.ti t,ix with
 | some i,.int _ n=>match i.kind,x with
   | .string,.str s=>some ([decide (0<=n),decide (n<s.length)],.int .u8 ((s.getD n.toNat 0).toNat:Int),none)
   | .array len e,.agg l=>match Γ.ti e with
     | some te=>match partS te l (n.toNat*te.size) with
       | some v=>some ([decide (0<=n),decide (n<len)],v,none)
       | none=>none
     | none=>none
   | _,_=>none
 | _,_=>none
def fieldS (Γ:Ctx) (t:TypeId) (x:SV) (f:Nat):Option SV :=
 match Γ.ti t,x with
 | some { kind:=.struct fs,.. },.agg l=>match fs[f]? with
   | some (off,ft)=>match Γ.ti ft with
     | some i=>partS i l off
     | none=>none
   | none=>none
 | _,_=>none
def newS (Γ:Ctx) (t:TypeId) (cells:List SV):Option SO :=
 match Γ.ti t with
 | some { kind:=.array n e,.. }=>match Γ.ec e with
   | some c=>if c.size=1 /\ cells.length=n then (mapO (fun x=>z0b dImm c [x]) cells).map fun xs=>.blk c 0 true xs else none
   | none=>none
 | some _=>if cells.length=0 then none else some (.raw cells.length true [cells])
 | none=>none
def zsv (H:List SO) (c:TC):SV->Option (List c.den)
 | .str s=>match c with
   | .int .u8=>some (s.map fun b=>(b.toNat:Int))
   | _=>none
 | x=>dRows H c x
def rowN:List SV->Option (Nat×Block)
 | [.bref s v,x,y,z]=>if v=0 then (match dI x,dI y,dBool z with
   | some a,some b,some c=>some (s,⟨[],a,b,c⟩)
   | _,_,_=>none) else none
 | _=>none
def nestRow (H:List SO):SV->Option (Nat×Block)
 | .ref s v o n=>if v=0 /\ o=0 /\ n=1 then (match H.getD s .dead with
   | .raw k _ rows=>if k=4 then (match rows with
     | [row]=>rowN row
     | _=>none) else none
   | _=>none) else none
 | _=>none
def zn9 (H:List SO) (te:TI) (s:SV) (b:Nat×Block):SRes :=
 match s with
 | .bref sb v=>match H.getD sb .dead with
   | .nst pv v' true xs ex=>if v=v' then some ([decide ((xs.length+1)*te.bytes<=70368744177664),decide (xs.length+1<=70368744177664)],.bref sb (v+1),some (sb,.nst pv (v+1) true (xs++[b.2]) ((xs.length,b.1)::ex))) else none
   | _=>none
 | _=>none
def appendS (Γ:Ctx) (H:List SO) (slot:Nat) (st:TypeId) (s x:SV):SRes :=
 match Γ.ti st with
 | some { kind:=.slice e,.. }=>match Γ.ti e,Γ.ec e with
   | some te,some c=>match zsv H c x with
     | some n=>match s with
       | .lst true c' l=>match TC.cast c' c l with
         | some l=>some ([decide ((l.length+n.length)*te.bytes<=70368744177664),decide (l.length+n.length<=70368744177664),decide (l=[])||!decide (n=[])],.bref slot 0,some (slot,.blk c 0 true (l++n)))
         | none=>none
       | .bref b v=>match H.getD b .dead with
         | .blk c' v' true xs=>if v=v' then match TC.cast c' c xs with
           | some l=>some ([decide ((l.length+n.length)*te.bytes<=70368744177664),decide (l.length+n.length<=70368744177664)],.bref b (v+1),some (b,.blk c (v+1) true (l++n)))
           | none=>none
           else none
         | _=>none
       | _=>none
     | none=>if c=.block then (match nestRow H x with
       | some b=>zn9 H te s b
       | none=>none) else none
   | _,_=>none
 | _=>none
def lenS (Γ:Ctx) (H:List SO) (t:TypeId) (x:SV):Option SV :=
 match Γ.ti t with
 | some i=>match i.kind,x with
   | .string,.str s=>some (.int .i64 s.length)
   | .slice _,x=>match lenOf H x with
     | some n=>some (.int .i64 n)
     | none=>none
   | .array n _,_=>some (.int .i64 n)
   | _,_=>none
 | none=>none
def copyS (Γ:Ctx) (H:List SO) (dt:TypeId) (d s:SV):SRes :=
 match Γ.ti dt with
 | some { kind:=.slice e,.. }=>match Γ.ec e with
   | some c=>match dRows H c s,d with
     | some src,.ref b v o n=>match H.getD b .dead with
       | .blk c' v' true xs=>if v=v' then match TC.cast c' c xs with
         | some xs=>some ([],.int .i64 (min src.length n:Nat),some (b,.blk c v true (xs.take o++src.take (min src.length n)++xs.drop (o+min src.length n))))
         | none=>none
         else none
       | _=>none
     | some src,.bref b v=>match H.getD b .dead with
       | .blk c' v' true xs=>if v=v' then match TC.cast c' c xs with
         | some xs=>some ([],.int .i64 (min src.length xs.length:Nat),some (b,.blk c v true (src.take xs.length++xs.drop src.length)))
         | none=>none
         else none
       | _=>none
     | _,_=>none
   | none=>none
 | _=>none
def clearS (Γ:Ctx) (H:List SO) (t:TypeId) (x:SV):SRes :=
 match Γ.ti t with
 | some { kind:=.slice e,.. }=>match Γ.ec e,x with
   | some c,.ref b v o n=>match H.getD b .dead with
     | .blk c' v' true xs=>if v=v' /\ c'=c then some ([decide (0<xs.length)],.tup [],some (b,.blk c' v true (xs.take o++List.replicate n c'.zero++xs.drop (o+n)))) else none
     | _=>none
   | some c,.bref b v=>match H.getD b .dead with
     | .blk c' v' true xs=>if v=v' /\ c'=c then some ([decide (0<xs.length)],.tup [],some (b,.blk c' v true (List.replicate xs.length c'.zero))) else none
     | _=>none
   | _,_=>none
 | _=>none
def min2S:SV->SV->Option SV
 | .int k x,.int k' y=>if k=k' then some (.int k (min x y)) else none
 | _,_=>none
def max2S:SV->SV->Option SV
 | .int k x,.int k' y=>if k=k' then some (.int k (max x y)) else none
 | _,_=>none
def foldS (f:SV->SV->Option SV):SV->List SV->Option SV
 | a,[]=>some a
 | a,x::rest=>match f a x with | some r=>foldS f r rest | none=>none
def zna (Γ:Ctx) (H:List SO) (slot:Nat) (b:Builtin) (ts:List TypeId) (args:List SV):SRes :=
 match b,ts,args with
 | .append,[st,xt],[s,x]=>match Γ.ti xt with
   | some { kind:=.slice _,.. }=>appendS Γ H slot st s x
   | some { kind:=.string,.. }=>appendS Γ H slot st s x
   | _=>none
 | .len,t::_,x::_=>okO (lenS Γ H t x)
 | .copy,dt::_,[d,s]=>copyS Γ H dt d s
 | .clear,t::_,x::_=>clearS Γ H t x
 | .min,_,a::rest=>okO (foldS min2S a rest)
 | .max,_,a::rest=>okO (foldS max2S a rest)
 | _,_,_=>none
def zipO (t:List SV) (f:Operand->TypeId->SV):List Operand->List TypeId->List SV
 | a::as,ty::tys=>f a ty::zipO t f as tys
 | a::as,[]=>f a 0::zipO t f as []
 | [],_=>[]
def placeF (Γ:Ctx) (fs:List (Nat×TypeId)) (j:Nat):Option (Nat×Nat) :=
 match fs[j]? with
 | some (off,ft)=>match Γ.ti ft with
   | some fi=>some (off,fi.size)
   | none=>none
 | none=>none
def mkO2 (x:Option (List Bool×SV)):SRes:=match x with
 | some (as,v)=>some (as,v,none)
 | none=>none
def evalS (Γ:Ctx) (t:List SV) (H:List SO) (slot:Nat) (o:Oper):SRes :=
 match o.op with
 | .move x | .assign x=>okV (z10 Γ o.type t x)
 | .alloc e=>match Γ.zero e with
   | some z=>match newS Γ e z with
     | some o=>some ([],.ptr slot 0 0 0,some (slot,o))
     | none=>none
   | none=>none
 | .box e x=>match cellsS (z10 Γ e t x) with
   | some cs=>match newS Γ e cs with
     | some o=>some ([],.ptr slot 0 0 0,some (slot,o))
     | none=>none
   | none=>none
 | .build ty parts=>match Γ.ti ty with
   | some i=>match Γ.zero ty,i.kind with
     | some z,.struct fs=>okO ((fillS (placeF Γ fs) z (parts.toList.map fun p=>(p.1,z10 Γ (match fs[p.1]? with | some (_,ft)=>ft | none=>0) t p.2))).map .agg)
     | some z,.array _ e=>match Γ.ti e with
       | some te=>okO ((fillS (fun j=>some (j*te.size,te.size)) z (parts.toList.map fun p=>(p.1,z10 Γ e t p.2))).map .agg)
       | none=>none
     | _,_=>none
   | none=>none
 | .buildSlice ty n parts=>match Γ.ti ty with
   | some { kind:=.slice e,.. }=>match Γ.ti e,Γ.zero e with
     | some te,some z =>
       if n=0 /\ parts.toList.length=0 then (match Γ.ec e with | some c=>okV (.lst true c []) | none=>none)
       else if n*te.size<=16777216 /\ 0<te.size then
        (match fillRS te.size (List.replicate n z) (parts.toList.map fun p=>(p.1,z10 Γ e t p.2)) with
        | some rows=>match Γ.ec e with
          | some c=>(match mapO (z0b dImm c) rows with
            | some xs=>some ([],.bref slot 0,some (slot,.blk c 0 true xs))
            | none=>some ([],.ref slot 0 0 n,some (slot,.raw te.size true rows)))
          | none=>some ([],.ref slot 0 0 n,some (slot,.raw te.size true rows))
        | none=>none)
        else none
     | _,_=>none
   | _=>none
 | .load ty a=>loadS Γ H ty (z10 Γ 0 t a)
 | .store ty a x=>storeS Γ H ty (z10 Γ 0 t a) (z10 Γ ty t x)
 | .nilCheck x=>match z10 Γ 0 t x with
   | .ptr b v i j=>okV (.ptr b v i j)
   | .iptr l j=>okV (.iptr l j)
   | .fn f a b=>okV (.fn f a b)
   | .yield l=>okV (.yield l)
   | _=>none
 | .binOp op ty x y yt=>mkO2 (binS Γ op ty (z10 Γ ty t x) (z10 Γ yt t y))
 | .unOp op ty x=>okO (unS op (z10 Γ ty t x))
 | .convert s d x=>okO (convS Γ H s d (z10 Γ s t x))
 | .makeInterface ty x=>match Γ.ti ty with
   | some { kind:=.iface,.. }=>none
   | some _=>okV (.iface ty (z10 Γ ty t x))
   | none=>none
 | .makeFunc (.func f) first cap=>okV (.fn f (first.toList.map (z10 Γ 0 t)) (cap.toList.map (z10 Γ 0 t)))
 | .makeSlice ty l c=>match Γ.ti ty,z10 Γ 0 t l,z10 Γ 0 t c with
   | some { kind:=.slice e,.. },.int .i64 n,.int .i64 m=>match Γ.ti e,Γ.ec e with
     | some te,some c=>some ([decide (0<=n),decide (n<=m),decide (m*te.bytes<=70368744177664),decide (m<=70368744177664)],.bref slot 0,some (slot,.blk c 0 true (List.replicate n.toNat c.zero)))
     | _,_=>none
   | _,_,_=>none
 | .slice ty x lo hi mx=>sliceS Γ H ty (z10 Γ ty t x) (lo.map (z10 Γ 0 t)) (hi.map (z10 Γ 0 t)) (mx.map (z10 Γ 0 t))
 | .fieldAddr s x f=>okO (zkz Γ s (z10 Γ 0 t x) f)
 | .field s x f=>okO (fieldS Γ s (z10 Γ s t x) f)
 | .indexAddr ty x ix=>zgk Γ H ty (z10 Γ ty t x) (z10 Γ 0 t ix)
 | .index ty x ix=>indexS Γ ty (z10 Γ ty t x) (z10 Γ 0 t ix)
 | .extract x ix=>match z10 Γ 0 t x with
   | .tup l=>okO l[ix]?
   | _=>none
 | .call { callee:=.builtin b,args,argTypes }=>zna Γ H slot b argTypes.toList (zipO t (fun a ty=>z10 Γ ty t a) args.toList argTypes.toList)
 | _=>none
def z3m (H:List SO):Option (Nat×SO)->List SO
 | none=>H
 | some (i,o)=>if i<H.length then H.set i o else H++[o]
end Clk
namespace Clk
open Go
structure Gh where
 cx:Nat
 wr:Option (List Nat)
def Gh.log (g:Gh) (l:List Nat):Gh:=⟨g.cx,g.wr.map (l++·)⟩
def Gh.go (g:Gh) (d:Nat):Gh:=⟨4*g.cx+d,g.wr⟩
def Gh.any (g:Gh) (d:Nat):Gh:=⟨4*g.cx+d,none⟩
def chIds:Option (Nat×SO)->List Nat
 | none=>[]
 | some (i,_)=>[i]
structure SSt where
 t:List SV
 H:List SO
 m:List Nat
 g:Gh
def nvS (hs:List Sht) (H:List SO):SV->SV
 | .bref s v=>match hs.getD s .dead,H.getD s .dead with
   | .blk _ _ gr,.blk _ v' true _=>if v=v' then .bref s (cond gr 0 v) else .junk
   | .nst _ _ gr,.nst _ v' true _ _=>if v=v' then .bref s (cond gr 0 v) else .junk
   | _,_=>.junk
 | .ref s v o n=>match hs.getD s .dead,H.getD s .dead with
   | .raw _ _,.raw _ true _=>.ref s v o n
   | .blk _ _ gr,.blk _ v' true _=>if v=v' then .ref s (cond gr 0 v) o n else .junk
   | _,_=>.junk
 | .ptr s v i j=>match hs.getD s .dead,H.getD s .dead with
   | .raw _ _,.raw _ true _=>.ptr s v i j
   | .st _,.raw _ true _=>.ptr s v i j
   | .blk _ _ gr,.blk _ v' true _=>if v=v' then .ptr s (cond gr 0 v) i j else .junk
   | .nst _ _ gr,.nst _ v' true _ _=>if v=v' then .ptr s (cond gr 0 v) i j else .junk
   | _,_=>.junk
 | .yield s=>match hs.getD s .dead with
   | .loop _=>.yield s
   | _=>.junk
 | .fn f a b=>if (a++b).all (fun x=>match x with
    | .ptr s _ _ _=>(match hs.getD s .dead with | .raw _ _=>true | .st _=>true | _=>false)
    | .bref _ _ | .ref _ _ _ _ | .yield _ | .agg _ | .tup _ | .fn _ _ _ | .iface _ _ | .iptr _ _=>false
    | _=>true) then .fn f a b else .junk
 | .agg l=>if l.all (fun x=>match x with | .ptr _ _ _ _ | .bref _ _ | .ref _ _ _ _ | .yield _ | .agg _ | .tup _ | .fn _ _ _ | .iface _ _ | .iptr _ _=>false | _=>true) then .agg l else .junk
 | .tup l=>match l with | []=>.tup [] | _=>.junk
 | .iptr _ _=>.junk
 | .iface _ _=>.junk
 | v=>v
def ren (s v n:Nat):SV->SV
 | .bref s' v'=>if s'=s /\ v'=v then .bref n 0 else .bref s' v'
 | .ref s' v' o m=>if s'=s /\ v'=v then .ref n 0 o m else .ref s' v' o m
 | .ptr s' v' i j=>if s'=s /\ v'=v then .ptr n 0 i j else .ptr s' v' i j
 | x=>x
def renO (s v n:Nat):SO->SO
 | .raw k l rows=>.raw k l (rows.map fun r=>r.map (ren s v n))
 | .loop st p tm ps as bd d=>.loop st p (tm.map (ren s v n)) ps as bd d
 | o=>o
def movS:List (Nat×TC)->SSt->Option SSt
 | [],st=>some st
 | (s,c)::l,st=>match st.H.getD s .dead with
   | .blk c' v true xs=>if c'=c then movS l ⟨st.t.map (ren s v st.H.length),((st.H.map (renO s v st.H.length)).set s .dead)++[.blk c' 0 true xs],st.m,st.g⟩ else none
   | _=>none
def leafEq:SV->SV->Bool
 | .bool a,.bool b=>a==b
 | .int k a,.int k' b=>decide (k=k')&&decide (a=b)
 | .nilPtr,.nilPtr=>true
 | .nilFunc,.nilFunc=>true
 | .nilIface,.nilIface=>true
 | .nilMap,.nilMap=>true
 | .bref s v,.bref s' v'=>s==s'&&v==v'
 | .ref s v o n,.ref s' v' o' n'=>s==s'&&v==v'&&o==o'&&n==n'
 | .ptr s v i j,.ptr s' v' i' j'=>s==s'&&v==v'&&i==i'&&j==j'
 | .yield l,.yield l'=>l==l'
 | _,_=>false
def leafEqL:List SV->List SV->Bool
 | [],[]=>true
 | a::as,b::bs=>leafEq a b&&leafEqL as bs
 | _,_=>false
def svEq:SV->SV->Bool
 | .fn f a b,.fn f' a' b'=>f==f'&&leafEqL a a'&&leafEqL b b'
 | .tup a,.tup b=>leafEqL a b
 | .agg a,.agg b=>leafEqL a b
 | a,b=>leafEq a b
def flatS (hs0:List Sht) (H:List SO):List Sht->List SO->Option (List SV)
 | [],_=>some []
 | h::hs,o::os=>match (match h,o with
    | .dead,_=>some []
    | .blk c v gr,.blk c' v' true xs=>if c'=c /\ (gr=true \/ v'=v) then some [.lst false c' xs] else none
    | .raw k r,.raw k' true rows=>if k'=k /\ rows.length=r /\ rows.all (fun x=>x.length==k) then some (rows.flatten.map (nvS hs0 H)) else none
    | .st c,.raw k' true [row]=>if k'=c.size /\ row.length=k' then some [.agg (row.map (nvS hs0 H))] else none
    | .loop n,.loop .ready none tm _ _ _ _=>if tm.length=n then some (tm.map (nvS hs0 H)) else none
    | .dfr,.dfr true=>some []
    | .nst pv v gr,.nst pv' v' true xs []=>if pv'=pv /\ (gr=true \/ v'=v) then some [.lst false .block xs] else none
    | _,_=>none),flatS hs0 H hs os with
   | some l,some r=>some (l++r)
   | _,_=>none
 | _::_,[]=>none
def z2n:List Slt->List TC
 | []=>[]
 | .var c::l=>c::z2n l
 | .agg c::l=>c::z2n l
 | .sub _ _::l=>.i::.i::z2n l
 | .pt _ _ _::l=>.i::z2n l
 | .junk::l=>z2n l
 | .fix _::l=>z2n l
def consL {c:TC} {l:List TC} (x:c.den) (xs:z41 l):z41 (c::l):=match l,xs with
 | [],_=>x
 | _::_,xs=>(x,xs)
def headL {c:TC} {l:List TC} (x:z41 (c::l)):c.den:=match l,x with
 | [],x=>x
 | _::_,x=>x.1
def tailL {c:TC} {l:List TC} (x:z41 (c::l)):z41 l:=match l,x with
 | [],_=>()
 | _::_,x=>x.2
def consO {c:TC} {l:List TC} (a:Option c.den) (r:Option (z41 l)):Option (z41 (c::l)):=match a with
 | some a=>(match r with | some r=>some (consL a r) | none=>none)
 | none=>none
def unS':(l:List Slt)->List SV->Option (z41 (z2n l))
 | [],[]=>some ()
 | .junk::l,_::vs=>unS' l vs
 | .fix v::l,x::vs=>if svEq v x then unS' l vs else none
 | .var c::l,x::vs=>consO (z0b dImm c [x]) (unS' l vs)
 | .agg c::l,x::vs=>consO (match x with | .agg cs=>z0b dImm c cs | _=>none) (unS' l vs)
 | .sub s v::l,x::vs=>match x with
   | .ref s' v' o n=>if s'=s /\ v'=v then match unS' l vs with
     | some r=>some (consL (c:=.i) (o:Int) (consL (c:=.i) (n:Int) r))
     | none=>none
     else none
   | _=>none
 | .pt s v j::l,x::vs=>match x with
   | .ptr s' v' i j'=>if s'=s /\ v'=v /\ j'=j then match unS' l vs with
     | some r=>some (consL (c:=.i) (i:Int) r)
     | none=>none
     else none
   | _=>none
 | _,_=>none
def absS:(l:List Slt)->z41 (z2n l)->List SV
 | [],_=>[]
 | .junk::l,x=>.junk::absS l x
 | .fix v::l,x=>v::absS l x
 | .var c::l,x=>c.val (headL x)::absS l (tailL x)
 | .agg c::l,x=>.agg (c.up (headL x))::absS l (tailL x)
 | .sub s v::l,x=>.ref s v (Int.toNat (headL (c:=.i) x)) (Int.toNat (headL (c:=.i) (tailL (c:=.i) x)))::absS l (tailL (c:=.i) (tailL (c:=.i) x))
 | .pt s v j::l,x=>.ptr s v (Int.toNat (headL (c:=.i) x)) j::absS l (tailL (c:=.i) x)
def chunk (k:Nat):Nat->List SV->List (List SV)
 | 0,_=>[]
 | r+1,l=>l.take k::chunk k r (l.drop k)
def unflatS:List Sht->List SO->List SV->List SO
 | [],_,_=>[]
 | .dead::hs,os,l=>.dead::unflatS hs (os.drop 1) l
 | .blk c v gr::hs,os,l=>(match l with
    | .lst _ c' xs::_=>(match TC.cast c' c xs with | some xs=>.blk c (cond gr 0 v) true xs | none=>.dead)
    | _=>.dead)::unflatS hs (os.drop 1) (l.drop 1)
 | .raw k r::hs,os,l=>.raw k true (chunk k r (l.take (k*r)))::unflatS hs (os.drop 1) (l.drop (k*r))
 | .st c::hs,os,l=>(match l with | .agg cs::_=>.raw c.size true [cs] | _=>.dead)::unflatS hs (os.drop 1) (l.drop 1)
 | .loop n::hs,os,l=>(match os with
    | .loop _ _ _ ps as bd d::_=>.loop .ready none (l.take n) ps as bd d
    | _=>.dead)::unflatS hs (os.drop 1) (l.drop n)
 | .dfr::hs,os,l=>.dfr true::unflatS hs (os.drop 1) l
 | .nst pv v gr::hs,os,l=>(match l with
    | .lst _ c' xs::_=>(match TC.cast c' .block xs with | some xs=>.nst pv (cond gr 0 v) true xs [] | none=>.dead)
    | _=>.dead)::unflatS hs (os.drop 1) (l.drop 1)
def noGrS:Nat->List Sht->Bool
 | 0,_=>true
 | _+1,[]=>false
 | n+1,h::l=>!h.gr&&noGrS n l
def dInS (n:Nat) (H:List SO):Bool:=H.all fun o=>match o with
 | .loop _ _ _ _ _ _ d=>decide (d<n)
 | _=>true
def proOne:Pro->SSt->Option SSt
 | .tmp i c,st=>match st.t[i]? with
   | some (.lst true c' [])=>if c'=c then some { st with t:=st.t.set i (.bref st.H.length 0),H:=st.H++[.blk c 0 true []] } else none
   | some (.bref _ _)=>some st
   | _=>none
 | .cell s i j c,st=>match st.H.getD s .dead with
   | .raw k true rows=>match (rows.getD i [])[j]? with
     | some (.lst true c' [])=>if c'=c then some { st with H:=st.H.set s (.raw k true (rows.set i ((rows.getD i []).set j (.bref st.H.length 0))))++[.blk c 0 true []] } else none
     | some (.bref _ _)=>some st
     | _=>none
   | _=>none
 | .ltmp s i c,st=>match st.H.getD s .dead with
   | .loop ls p tm ps as bd d=>match tm[i]? with
     | some (.lst true c' [])=>if c'=c then some { st with H:=st.H.set s (.loop ls p (tm.set i (.bref st.H.length 0)) ps as bd d)++[.blk c 0 true []] } else none
     | some (.bref _ _)=>some st
     | _=>none
   | _=>none
def proAll:List Pro->SSt->Option SSt
 | [],st=>some st
 | p::ps,st=>match proOne p st with
   | some st=>proAll ps st
   | none=>none
def ghoOne:Gho->SSt->Option SSt
 | .nest s pv,st=>match st.H.getD s .dead with
   | .blk c v true xs=>match TC.cast c .block xs with
     | some ys=>match pv with
       | true=>match ys with
         | []=>some { st with H:=st.H.set s (.nst true v true [] []) }
         | _=>none
       | false=>some { st with H:=st.H.set s (.nst false v true ys []) }
     | none=>none
   | .nst pv' _ true _ []=>if pv'=pv then some st else none
   | _=>none
 | .abs s,st=>match st.H.getD s .dead with
   | .nst pv v true xs ex=>match ex with
     | []=>some st
     | [(i,s2)]=>match st.H.getD s2 .dead with
       | .blk c v2 true pg=>if v2=0 then (match TC.cast c .page pg with
         | some pg=>some { st with H:=(st.H.set s2 .dead).set s (.nst pv v true (xs.set i { xs.getD i TC.block.zero with pages:=pg }) []) }
         | none=>none) else none
       | _=>none
     | _=>none
   | _=>none
 | .bk _ _,st=>some st
def ghoAll:List Gho->SSt->Option SSt
 | [],st=>some st
 | p::ps,st=>match ghoOne p st with
   | some st=>ghoAll ps st
   | none=>none
def clnS (to:Nat):SV->Bool
 | .bref s _=>!Nat.beq s to
 | .ref s _ _ _=>!Nat.beq s to
 | .ptr s _ _ _=>!Nat.beq s to
 | .yield s=>!Nat.beq s to
 | .agg _ | .tup _ | .fn _ _ _ | .iface _ _ | .iptr _ _=>false
 | _=>true
def jnS (to:Nat) (x:SV):SV:=match x with
 | .agg l=>cond (l.all (clnS to)) (.agg l) .junk
 | .tup l=>cond (l.all (clnS to)) (.tup l) .junk
 | .fn f a b=>cond (a.all (clnS to)&&b.all (clnS to)) (.fn f a b) .junk
 | .iptr l j=>cond (l.all (clnS to)) (.iptr l j) .junk
 | x=>cond (clnS to x) x .junk
def jnO (to:Nat):SO->SO
 | .raw k l rows=>.raw k l (rows.map fun r=>r.map (jnS to))
 | .loop st p tm ps as bd d=>.loop st p (tm.map (jnS to)) ps as bd d
 | o=>o
def bkFit (to:Nat) (H:List SO):Bool:=H.all fun o=>match o with
 | .nst _ _ _ _ ex=>(match ex with | []=>true | _=>false)
 | .loop _ _ _ _ _ _ d=>!Nat.beq d to
 | _=>true
def movB (s to:Nat) (st:SSt):Option SSt:=match st.H.getD s .dead with
 | .blk c v true xs=>some ⟨st.t.map (ren s v to),((st.H.map (renO s v to)).set s .dead).set to (.blk c 0 true xs),st.m,st.g⟩
 | _=>none
def bkOne (hs:List Sht):Gho->SSt->Option SSt
 | .bk s to,st=>cond (hs.getD to .dead).gr (match st.H.getD to .dead with
   | .blk _ _ true _=>some st
   | .dead=>cond (Nat.blt to st.H.length&&bkFit to st.H) (movB s to ⟨st.t.map (jnS to),st.H.map (jnO to),st.m,st.g⟩) none
   | _=>none) none
 | _,st=>some st
def bkAll (hs:List Sht):List Gho->SSt->Option SSt
 | [],st=>some st
 | p::ps,st=>match bkOne hs p st with
   | some st=>bkAll hs ps st
   | none=>none
def grOk:List Sht->List SO->Bool
 | h::hs,o::os=>(!h.gr||(match o with | .loop _ _ _ _ _ _ _=>false | _=>true))&&grOk hs os
 | _,_=>true
def focI:Option SV->Option Nat
 | some (.int _ b)=>some b.toNat
 | some (.ptr _ _ i _)=>some i
 | _=>none
def focS (s k:Nat) (st:SSt):Option (List Bool×SSt):=match focI st.t[k]? with
 | some i=>match st.H.getD s .dead with
   | .nst true v true xs []=>some ([decide (i<xs.length)],
      { st with H:=st.H.set s (.nst true v true xs [(i,st.H.length)])++[.blk .page 0 true (xs.getD i TC.block.zero).pages],g:=⟨st.g.cx,none⟩ })
   | _=>none
 | _=>none
def unT (T:Tmpl) (m:List Nat) (st:SSt):Option (z41 (z2n T.slots)) :=
 if st.t.length=T.nt /\ st.m=m then match flatS T.hs st.H T.hs st.H with
  | some l=>unS' T.slots (st.t.map (nvS T.hs st.H)++l)
  | none=>none
 else none
def unTG (T:Tmpl) (m:List Nat) (st:SSt):Option (z41 (z2n T.slots)) :=
 match ghoAll T.ab st with
 | some st=>(match bkAll T.hs T.ab st with
   | some st=>unT T m st
   | none=>none)
 | none=>none
def absT (T:Tmpl) (m:List Nat) (H0:List SO) (g:Gh) (x:z41 (z2n T.slots)):SSt :=
 ⟨(absS T.slots x).take T.nt,unflatS T.hs H0 ((absS T.slots x).drop T.nt),m,g⟩
def z3v {R:Type}:List Bool->Option R->Option R
 | [],k=>k
 | b::bs,k=>cond b (z3v bs k) none
abbrev SRun (R:Type):=Option Nat->Code->SSt->(Ex->SSt->Option R)->Option R
def resS1 (Γ:Ctx) (t:List SV) (H:List SO):ResultVar->Option SV
 | .tmp i=>some (t.getD i (.tup []))
 | .cell a ty=>match loadS Γ H ty (t.getD a (.tup [])) with
   | some ([],v,none)=>some v
   | _=>none
def zsw (Γ:Ctx) (fn:Func) (t:List SV) (H:List SO):Option SV :=
 match mapO (resS1 Γ t H) fn.results.toList with
 | some [v]=>some v
 | some l=>some (.tup l)
 | none=>none
def closeS:List SO->List Nat->Option (List SO)
 | H,[]=>some H
 | H,b::m=>match H.getD b .dead with
   | .dfr true=>closeS (H.set b (.dfr false)) m
   | _=>none
section
variable {R:Type} (Γ:Ctx)
def callFS (run:SRun R) (f:FuncId) (args:List SV) (H:List SO) (g:Gh) (k:SV->List SO->Gh->Option R):Option R :=
 match Γ.fn f with
 | some fn=>match fn.body with
   | some c=>run none c ⟨args++List.replicate (fn.ntmps - args.length) (.tup []),H,[],g⟩ fun ex st=>match ex with
     | .exit _=>none
     | _=>match closeS st.H st.m with
       | some H'=>match zsw Γ fn st.t H' with
         | some v=>k v H' (st.g.log st.m)
         | none=>none
       | none=>none
   | none=>none
 | none=>none
def yieldS (run:SRun R) (l:Nat) (args:List SV) (H:List SO) (g:Gh) (k:SV->List SO->Gh->Option R):Option R :=
 match H.getD l .dead with
 | .loop .ready _ tmps params assign body _ =>
   if args.length=params.length then
    run (some l) assign ⟨(params.zip args).foldl (fun t (p,v)=>t.set p v) tmps,H,[],g⟩ fun ex st1=>match ex with
     | .normal=>match st1.H.getD l .dead,st1.m with
       | .loop .ready p' tm ps as bd d,[] =>
         run (some l) body ⟨st1.t,st1.H.set l (.loop .busy p' tm ps as bd d),[],st1.g.log [l]⟩ fun ex st2=>match st2.H.getD l .dead with
          | .loop _ _ tm ps as bd d =>
            k (.bool (jumpOf ex).isNone) (st2.H.set l (.loop (if (jumpOf ex).isNone then .ready else .done) (jumpOf ex) tm ps as bd d)) (st2.g.log [l])
          | _=>none
       | _,_=>none
     | _=>none
   else none
 | _=>none
def z0v (H:List SO):Nat->SV->List Nat
 | 0,_=>[]
 | d+1,.agg l=>l.flatMap (z0v H d)
 | d+1,.bref s _=>s::(match H.getD s .dead with
   | .raw _ _ rows=>rows.flatMap (fun r=>r.flatMap (z0v H d))
   | _=>[])
 | d+1,.ref s _ o n=>s::(match H.getD s .dead with
   | .raw _ _ rows=>((rows.drop o).take n).flatMap (fun r=>r.flatMap (z0v H d))
   | _=>[])
 | _+1,_=>[]
def z1a (H:List SO) (s:Nat):List SO :=
 match H.getD s .dead with
 | .blk c v _ xs=>H.set s (.blk c v false xs)
 | .raw k _ rows=>H.set s (.raw k false rows)
 | .nst _ _ _ _ _=>H.set s .dead
 | _=>H
def freezeS (H:List SO) (l:List Nat):List SO:=l.foldl z1a H
def aheadF (a b:Found):Bool:=decide (a.record.seq<b.record.seq)||(decide (a.record.seq=b.record.seq)&&decide (a.place<b.place))
def insF:List Found->Found->List Found
 | [],f=>[f]
 | x::l,f=>if aheadF f x then f::x::l else x::insF l f
def distF:List Found->Bool
 | []=>true
 | x::l=>l.all (fun y=>!(decide ((x.record.seq,x.place)=(y.record.seq,y.place))))&&distF l
def sortF (l:List Found):List Found:=l.foldl insF []
def sortGS (H:List SO) (gf:Nat) (args:List SV) (g:Gh) (k:SV->List SO->Gh->Option R):Option R:=match args with
 | [.bref s v,.fn f [] []]=>match H.getD s .dead with
   | .blk .found v' true xs=>cond (Nat.beq f gf&&Nat.beq v v') (z3v [distF xs,decide (xs.length<=70368744177664)] (k (.tup []) (z3m H (some (s,.blk .found v' true (sortF xs)))) (g.log [s]))) none
   | _=>none
 | _=>none
def callGS (run:SRun R) (f:FuncId) (args:List SV) (H:List SO) (slot:Nat) (g:Gh) (k:SV->List SO->Gh->Option R):Option R :=
 match Γ.cl f with
 | some (c,bytes)=>cond (Nat.blt bytes 1000000) (match args with
   | [x]=>match dRows H c x with
     | some xs=>z3v [decide (xs.length*bytes<=70368744177664),decide (xs.length<=70368744177664)] (k (.bref slot 0) (z3m H (some (slot,.blk c 0 true xs))) (g.log [slot]))
     | none=>none
   | _=>none) (sortGS H (bytes - 1000000) args g k)
 | none =>
   if Γ.inl f then callFS Γ run f args H g k
   else match Γ.sp f with
    | some sp=>match dValL H 3 sp.params args with
      | some a=>(sp.h a).bind fun r=>k (resV sp.res r) (freezeS H (args.flatMap (z0v H 5))) (g.log (args.flatMap (z0v H 5)))
      | none=>none
    | none=>none
def callVS (run:SRun R) (fv:SV) (args:List SV) (H:List SO) (slot:Nat) (g:Gh) (k:SV->List SO->Gh->Option R):Option R :=
 match fv with
 | .fn f first cap=>callGS Γ run f (first++args++cap) H slot g k
 | .yield l=>yieldS run l args H g k
 | _=>none
def setBS (t:List SV) (x:Operand) (b:Bool):List SV:=match x with
 | .tmp i=>t.set i (.bool b)
 | _=>t
def seqS (run:SRun R) (ops:Array Oper):List Oper->List SV->List SO->Gh->(List SV->List SO->Gh->Option R)->Option R
 | [],t,H,g,k=>k t H g
 | o::rest,t,H,g,k =>
   let step (t:List SV):Option R:=match o.op with
    | .call { callee:=.value f,args,argTypes }=>callVS Γ run (z10 Γ 0 t f) (zipO t (fun a ty=>z10 Γ ty t a) args.toList argTypes.toList) H H.length g fun v H' g=>seqS run ops rest (putS t o.dst v) H' g k
    | .pick c a b=>match z10 Γ 0 t c with
      | .bool x=>cond x (seqS run ops rest (putS (setBS t c true) o.dst (z10 Γ o.type t a)) H g k) (seqS run ops rest (putS (setBS t c false) o.dst (z10 Γ o.type t b)) H g k)
      | _=>none
    | _=>match evalS Γ t H H.length o with
      | some (as,v,ch)=>z3v as (seqS run ops rest (putS t o.dst v) (z3m H ch) (g.log (chIds ch)) k)
      | none=>none
   let skip (t:List SV):Option R:=seqS run ops rest (putS t o.dst (.tup [])) H g k
   match o.guard with
   | none=>step t
   | some (j,want)=>match (ops[j]?).bind (·.dst) with
     | some d=>match t[d]? with
       | some (.bool b)=>cond b (cond want (step (t.set d (.bool true))) (skip (t.set d (.bool true)))) (cond want (skip (t.set d (.bool false))) (step (t.set d (.bool false))))
       | some (.tup [])=>skip t
       | _=>none
     | none=>none
inductive SEff where
 | nothing
 | one (id:Nat)
 | grow
 | some (l:List Nat)
 | frz (l:List Nat)
 | all
 deriving Inhabited
structure SStep where
 dst:Option Tmp
 ch:SEff
 rd:List Nat
 deriving Inhabited
def thereS (H:List SO) (b:Nat):Option (List Nat):=match H.getD b .dead with
 | .dead=>none
 | _=>some [b]
def refIdS (H:List SO):SV->Option (List Nat)
 | .junk=>none
 | .bref b _=>thereS H b
 | .ref b _ _ _=>thereS H b
 | .ptr b _ _ _=>thereS H b
 | _=>some []
def refIdsS (H:List SO):List SV->Option (List Nat)
 | []=>some []
 | x::l=>match refIdS H x,refIdsS H l with
   | some a,some b=>some (a++b)
   | _,_=>none
def readsS (t:List SV) (H:List SO) (o:Oper):Option (List Nat) :=
 match o.op with
 | .load _ a=>refIdS H (z10 Γ 0 t a)
 | .store _ a _=>refIdS H (z10 Γ 0 t a)
 | .convert s _ x=>refIdS H (z10 Γ s t x)
 | .slice ty x _ _ _=>refIdS H (z10 Γ ty t x)
 | .indexAddr ty x _=>refIdS H (z10 Γ ty t x)
 | .call { callee:=.builtin _,args,argTypes }=>refIdsS H (zipO t (fun a ty=>z10 Γ ty t a) args.toList argTypes.toList)
 | _=>some []
def immS1:SV->Bool
 | .bool _ | .int _ _ | .str _ | .lst _ _ _ | .nilPtr | .nilFunc | .nilIface | .nilMap=>true
 | _=>false
def immS:SV->Bool
 | .agg l=>l.all immS1
 | x=>immS1 x
def plainS (H:List SO) (i:Nat):Bool:=match H.getD i .dead with
 | .blk _ _ _ _ | .raw _ _ _=>true
 | _=>false
def zh2 (H:List SO) (fv:SV) (args:List SV) (wr:Option (List Nat)):SEff:=match fv with
 | .fn g first cap=>match Γ.cl g with
   | Option.some (_,b)=>cond (Nat.blt b 1000000) .grow (match wr with
     | Option.some l=>.some l
     | none=>.all)
   | none=>if !Γ.inl g&&(first++args++cap).all immS then .nothing else match wr with
     | Option.some l=>cond (!Γ.inl g&&l.all (plainS H)) (.frz l) (.some l)
     | none=>.all
 | _=>match wr with
    | Option.some l=>.some l
    | none=>.all
def effOfS:Option (Nat×SO)->SEff
 | none=>.nothing
 | some (i,_)=>.one i
def drawS (run:SRun R) (ops:Array Oper) (base:Nat):List Oper->List SV->List SO->List SStep->Gh->(List SV->List SO->List SStep->Gh->Option R)->Option R
 | [],t,H,acc,g,k=>k t H acc g
 | o::rest,t,H,acc,g,k =>
   let step (t:List SV):Option R:=match o.op with
    | .call { callee:=.value f,args,argTypes }=>callVS Γ run (z10 Γ 0 t f) (zipO t (fun a ty=>z10 Γ ty t a) args.toList argTypes.toList) H H.length ⟨g.cx,some []⟩ fun v H' g' =>
       drawS run ops base rest (putS t o.dst v) H' (acc++[⟨o.dst,zh2 Γ H (z10 Γ 0 t f) (zipO t (fun a ty=>z10 Γ ty t a) args.toList argTypes.toList) g'.wr,[]⟩]) ⟨g'.cx,match g.wr,g'.wr with | some a,some b=>some (b++a) | _,_=>none⟩ k
    | .pick c a b=>match z10 Γ 0 t c with
      | .bool x=>cond x (drawS run ops base rest (putS (setBS t c true) o.dst (z10 Γ o.type t a)) H (acc++[⟨o.dst,.nothing,[]⟩]) g k) (drawS run ops base rest (putS (setBS t c false) o.dst (z10 Γ o.type t b)) H (acc++[⟨o.dst,.nothing,[]⟩]) g k)
      | _=>none
    | _=>match evalS Γ t H (base+acc.length) o,readsS Γ t H o with
      | some (as,v,ch),some rd=>z3v as (drawS run ops base rest (putS t o.dst v) (z3m H ch) (acc++[⟨o.dst,effOfS ch,rd⟩]) (g.log (chIds ch)) k)
      | _,_=>none
   let skip (t:List SV):Option R:=drawS run ops base rest (putS t o.dst (.tup [])) H (acc++[⟨o.dst,.nothing,[]⟩]) g k
   match o.guard with
   | none=>step t
   | some (j,want)=>match (ops[j]?).bind (·.dst) with
     | some d=>match t[d]? with
       | some (.bool b)=>cond b (cond want (step (t.set d (.bool true))) (skip (t.set d (.bool true)))) (cond want (skip (t.set d (.bool false))) (step (t.set d (.bool false))))
       | some (.tup [])=>skip t
       | _=>none
     | none=>none
def isRawS (H0:List SO) (id:Nat):Bool:=match H0.getD id .dead with
 | .raw _ _ _=>true
 | _=>false
def isAllS (s:SStep):Bool:=match s.ch with
 | .all=>true
 | _=>false
def apartS (H0:List SO) (na:Bool) (ops:Array Oper) (a b:Oper) (s sj:SStep) (comp:Bool):Bool :=
 (match a.dst with | some d=>b.dst != some d&&(comp||!(b.looksAt ops).contains d) | none=>true) &&
 (comp||match s.ch with
   | .nothing=>true
   | .one id=>!(sj.rd.contains id)&&(match sj.ch with | .nothing=>true | .one id'=>id != id' | .frz l=>!l.contains id | _=>false)
   | .grow=>(match sj.ch with | .nothing=>sj.rd.all fun id=>isRawS H0 id&&na | _=>false)
   | .some l=>(match sj.ch with | .nothing=>sj.rd.all fun id=>isRawS H0 id&&!l.contains id&&na | _=>false)
   | .frz l=>(sj.rd.all fun id=>!l.contains id&&na)&&(match sj.ch with | .nothing=>true | .one id=>!l.contains id&&na | _=>false)
   | .all=>(match sj.ch with | .nothing=>sj.rd.isEmpty | _=>false))
def clearOf (id:Nat) (s:SStep):Bool:=match s.ch with
 | .some l=>!l.contains id
 | .frz l=>!l.contains id
 | .all=>false
 | _=>true
def predsB (ops:List Oper):List Nat :=
 ops.foldl (fun acc o =>
  acc++[o.after.toList.foldl (fun m e=>if Region.binds .any e then Nat.lor (Nat.lor m (Nat.shiftLeft 1 e.on)) (acc.getD e.on 0) else m) 0]) []
def soundS (L:Nat) (j:Nat) (o:Oper) (s:SStep) (l:List SStep):Bool :=
 (o.after.toList.all fun e=>!Region.binds .any e||Nat.blt e.on j) &&
 (match s.ch with
  | .one id=>decide (id<L)&&((l.take j).all (clearOf id)&&l.all fun x=>!isAllS x)
  | _=>true)
def drawOkS (H0:List SO) (ops:Array Oper) (L:Nat) (pr:List Nat) (l:List SStep):Bool :=
 (List.range ops.size).all fun i=>match ops[i]?,l[i]? with
   | some a,some s=>soundS L i a s l&&(List.range ops.size).all fun j =>
     i==j||match ops[j]?,l[j]? with
     | some b,some sj=>apartS H0 (l.all fun x=>!isAllS x) ops a b s sj ((pr.getD i 0).testBit j||(pr.getD j 0).testBit i)
     | _,_=>false
   | _,_=>false
def zjc (run:SRun R) (ops:Array Oper) (t:List SV) (H:List SO) (g:Gh) (k:List SV->List SO->Gh->Option R):Option R :=
 drawS Γ run ops H.length ops.toList t (H++List.replicate ops.size SO.dead) [] g fun t' H' l g =>
  cond (drawOkS H ops (H.length+ops.size) (predsB ops.toList) l) (k t' H' g) none
def coGo (k:Nat) (st:SSt) (c:TC) (x:SV):Option SSt:=match dVal st.H 3 (.list c) x with
 | some y=>some ⟨st.t.set k ((TC.list c).val y),freezeS st.H (z0v st.H 5 x),st.m,st.g.log (z0v st.H 5 x)⟩
 | none=>none
def coS1 (k:Nat) (st:SSt):Option SSt:=match st.t[k]? with
 | some (.bref s v)=>match st.H.getD s .dead with
   | .blk c _ _ _=>coGo k st c (.bref s v)
   | _=>none
 | some (.lst f c xs)=>coGo k st c (.lst f c xs)
 | _=>none
def coSL (inl:FuncId->Bool) (id:Nat):List Nat->SSt->Option SSt
 | [],st=>some st
 | k::l,st=>cond (inl (10000000+id*1000+k)) (match coS1 k st with | some st=>coSL inl id l st | none=>none) (coSL inl id l st)
def coS (inl:FuncId->Bool) (id:Nat) (st:SSt):Option SSt:=cond (inl (1000000+(id*1000+st.t.length))) (coSL inl (id*1000+st.t.length) (List.range st.t.length) st) (some st)
def runS (N:Nat):Nat->SRun R
 | 0,_,_,_,_=>none
 | n+1,ro,c,st,k =>
   match c with
   | .skip=>k .normal st
   | .seq a b=>runS N n ro a st fun ex st'=>match ex with
     | .normal=>runS N n ro b st' k
     | ex=>k ex st'
   | .cond x a b=>match z10 Γ 0 st.t x with
     | .bool c=>cond c (runS N n ro a ⟨setBS st.t x true,st.H,st.m,st.g.go 1⟩ k) (runS N n ro b ⟨setBS st.t x false,st.H,st.m,st.g.go 2⟩ k)
     | _=>none
   | .block id c=>runS N n ro c st fun ex st'=>match ex with
     | .exit id'=>if id'=id then k .normal st' else k (.exit id') st'
     | ex=>k ex st'
   | .loop c=>match Γ.tm st.g.cx with
     | some T=>match proAll T.pro st with
       | some st1=>match movS T.gr st1 with
         | some st3=>match ghoAll T.en st3 with
           | none=>none
           | some st2=>cond (noGrS st1.H.length T.hs&&(dInS T.hs.length st2.H&&grOk T.hs st2.H)) (match unTG T st.m st2 with
           | some x=>Nat.rec (motive:=fun _=>z41 (z2n T.slots)->Option R) (fun _=>none)
              (fun _ ih x=>runS N n ro c (absT T st.m st2.H (st.g.any 3) x) fun ex st'=>match ex with
                | .normal=>match unTG T st.m st' with
                  | some x'=>ih x'
                  | none=>none
                | ex=>k ex st') N x
           | none=>none) none
         | none=>none
       | none=>none
     | none=>runS N n ro c st fun ex st'=>match ex with
       | .normal=>runS N n ro (.loop c) st' k
       | ex=>k ex st'
   | .scope c=>runS N n ro c st k
   | .label _=>k .normal st
   | .exit id=>k (.exit id) st
   | .ret=>k .ret st
   | .region id ops draw =>
     let go (st:SSt):Option R:=cond draw (zjc Γ (runS N n) ops st.t st.H st.g fun t H g=>k .normal ⟨t,H,st.m,g⟩) (seqS Γ (runS N n) ops ops.toList st.t st.H st.g fun t H g=>k .normal ⟨t,H,st.m,g⟩)
     match coS Γ.inl id st with
     | none=>none
     | some st=>match Γ.gh st.g.cx id with
       | none=>go st
       | some (s,j)=>match focS s j st with
         | some (as,st1)=>z3v as (go st1)
         | none=>none
   | .rangeFunc g params assign body =>
     let go (d:Nat) (H1:List SO) (m1:List Nat):Option R :=
      match z10 Γ 0 st.t g with
      | .fn f first cap=>callGS Γ (runS N n) f (first++[.yield H1.length]++cap) (H1++[.loop .ready none st.t params.toList assign body d]) (H1.length+1) st.g fun _ H3 g' =>
        match H3.getD H1.length .dead with
        | .loop s pend tm ps as bd d=>match s with
          | .busy=>none
          | _=>match pend with
            | none=>k .normal ⟨st.t,H3.set H1.length (.loop .exhausted pend tm ps as bd d),m1,g'.log [H1.length]⟩
            | some c=>runS N n ro c ⟨st.t,H3.set H1.length (.loop .exhausted pend tm ps as bd d),m1,g'.log [H1.length]⟩ k
        | _=>none
      | _=>none
     match ro with
     | some l=>match st.H.getD l .dead with
       | .loop _ _ _ _ _ _ d=>go d st.H st.m
       | _=>none
     | none=>go st.H.length (st.H++[.dfr true]) (st.H.length::st.m)
   | _=>none
def z19 (N n:Nat) (f:FuncId) (ps rs:List TC) (x:z41 ps):Option (z41 rs) :=
 callFS Γ (runS Γ N n) f (valL ps x) [] ⟨1,none⟩ fun v H _=>dRes H rs v
end
end Clk
namespace Clk
open Go
inductive EI where
 | no
 | gone
 | un (cur:Nat)
 | al (p:Nat) (off:Int) (cur:Nat) (len:Nat->Nat)
 | ob (p:Nat) (ps:List Tmp) (as bd:Code) (d:Nat)
 | ow (p:Nat) (off:Int) (cur:Nat) (len:Nat->Nat) (qf:Nat->Option (Nat×Nat))
def EI.pos:EI->Option Nat
 | .al p _ _ _=>some p
 | .ob p _ _ _ _=>some p
 | .ow p _ _ _ _=>some p
 | _=>none
def EI.at:EI->Nat->Prop
 | .al p _ _ _,q=>p=q
 | .ob p _ _ _ _,q=>p=q
 | .ow p _ _ _ qf,q=>p=q \/ ∃ i u,qf i=some (q,u)
 | _,_=>False
theorem EI.pos_at {e:EI} {q:Nat} (h:e.pos=some q):e.at q:=by
 cases e <;> first | (cases h;rfl) | (cases h;exact .inl rfl) | cases h
def EI.alAt:EI->Nat->Prop
 | .al p _ _ _,q=>p=q
 | .ow p _ _ _ _,q=>p=q
 | _,_=>False
theorem EI.alAt_eq {e:EI} {q:Nat} (h:e.alAt q):(∃ off cur len,e=.al q off cur len) \/ ∃ off cur len qf,e=.ow q off cur len qf:=by
 cases e with
 | al p off cur len=>cases h;exact .inl ⟨off,cur,len,rfl⟩
 | ow p off cur len qf=>cases h;exact .inr ⟨off,cur,len,qf,rfl⟩
 | _=>exact h.elim
theorem EI.alAt_pos {e:EI} {q:Nat} (h:e.alAt q):e.pos=some q:=by
 rcases EI.alAt_eq h with ⟨off,cur,len,rfl⟩ | ⟨off,cur,len,qf,rfl⟩ <;> rfl
abbrev Emb:=List EI
inductive R (E:Emb):SV->AV->Prop
 | bool (b:Bool):R E (.bool b) (.bool b)
 | int (k:IntKind) (n:Int):R E (.int k n) (.int k n)
 | str (l:Str):R E (.str l) (.str ⟨l.toArray⟩)
 | junk (a:AV):R E .junk a
 | nilPtr:R E .nilPtr .nilPtr
 | nilFunc:R E .nilFunc .nilFunc
 | nilIface:R E .nilIface .nilIface
 | nilMap:R E .nilMap .nilMap
 | agg {l:List SV} {l':List AV} (h:l.length=l'.length) (hc:∀ (i:Nat) a b,l[i]?=some a->l'[i]?=some b->R E a b):R E (.agg l) (.agg l')
 | tup {l:List SV} {l':List AV} (h:l.length=l'.length) (hc:∀ (i:Nat) a b,l[i]?=some a->l'[i]?=some b->R E a b):R E (.tup l) (.tup l')
 | rows {c:TC} {xs:List c.den} {l:List (List AV)} (h:l.length=xs.length) (hl:∀ (i:Nat) x row,xs[i]?=some x->l[i]?=some row->row.length=(c.up x).length)
    (hc:∀ (i:Nat) x row (j:Nat) a b,xs[i]?=some x->l[i]?=some row->(c.up x)[j]?=some a->row[j]?=some b->R E a b):R E (.lst false c xs) (.rows l)
 | crows {fl:Bool} {c:TC} {xs:List c.den} {l:List (List AV)} (h:l.length=xs.length) (hl:∀ (i:Nat) x row,xs[i]?=some x->l[i]?=some row->row.length=(c.up x).length)
    (hc:∀ (i:Nat) x row (j:Nat) a b,xs[i]?=some x->l[i]?=some row->(c.up x)[j]?=some a->row[j]?=some b->R E a b):R E (.lst fl c xs) (.crows l)
 | iptr {l:List SV} {l':List AV} {j:Nat} (h:l.length=l'.length) (hc:∀ (i:Nat) a b,l[i]?=some a->l'[i]?=some b->R E a b):R E (.iptr l j) (.iptr l' j)
 | bref {s v p:Nat} {off:Int} {cur:Nat} {len:Nat->Nat} {u:Nat} (hE:E[s]?=some (.al p off cur len)) (hu:(u:Int)=v+off) (hle:u<=cur):R E (.bref s v) (.ref p u 0 (len u))
 | bun {s v cur:Nat} (hE:E[s]?=some (.un cur)) (hle:v<=cur):R E (.bref s v) (.crows [])
 | bnil {s v p:Nat} {off:Int} {cur:Nat} {len:Nat->Nat} (hE:E[s]?=some (.al p off cur len)) (h:(v:Int)+off<0):R E (.bref s v) (.crows [])
 | ref {s v o n p:Nat} {off:Int} {cur:Nat} {len:Nat->Nat} {u:Nat} (hE:E[s]?=some (.al p off cur len)) (hu:(u:Int)=v+off) (hle:u<=cur) (hn:o+n<=len u):R E (.ref s v o n) (.ref p u o n)
 | run {s v o n cur:Nat} (hE:E[s]?=some (.un cur)) (hle:v<=cur) (hn:n=0):R E (.ref s v o n) (.rows [])
 | rnil {s v o n p:Nat} {off:Int} {cur:Nat} {len:Nat->Nat} (hE:E[s]?=some (.al p off cur len)) (h:(v:Int)+off<0) (hn:n=0):R E (.ref s v o n) (.rows [])
 | ptr {s v i j p:Nat} {off:Int} {cur:Nat} {len:Nat->Nat} {u:Nat} (hE:E[s]?=some (.al p off cur len)) (hu:(u:Int)=v+off):R E (.ptr s v i j) (.ptr p u i j)
 | obref {s v p:Nat} {off:Int} {cur:Nat} {len:Nat->Nat} {qf:Nat->Option (Nat×Nat)} {u:Nat} (hE:E[s]?=some (.ow p off cur len qf)) (hu:(u:Int)=v+off) (hle:u<=cur):R E (.bref s v) (.ref p u 0 (len u))
 | obnil {s v p:Nat} {off:Int} {cur:Nat} {len:Nat->Nat} {qf:Nat->Option (Nat×Nat)} (hE:E[s]?=some (.ow p off cur len qf)) (h:(v:Int)+off<0):R E (.bref s v) (.crows [])
 | oref {s v o n p:Nat} {off:Int} {cur:Nat} {len:Nat->Nat} {qf:Nat->Option (Nat×Nat)} {u:Nat} (hE:E[s]?=some (.ow p off cur len qf)) (hu:(u:Int)=v+off) (hle:u<=cur) (hn:o+n<=len u):R E (.ref s v o n) (.ref p u o n)
 | ornil {s v o n p:Nat} {off:Int} {cur:Nat} {len:Nat->Nat} {qf:Nat->Option (Nat×Nat)} (hE:E[s]?=some (.ow p off cur len qf)) (h:(v:Int)+off<0) (hn:n=0):R E (.ref s v o n) (.rows [])
 | optr {s v i j p:Nat} {off:Int} {cur:Nat} {len:Nat->Nat} {qf:Nat->Option (Nat×Nat)} {u:Nat} (hE:E[s]?=some (.ow p off cur len qf)) (hu:(u:Int)=v+off):R E (.ptr s v i j) (.ptr p u i j)
 | gbref {s v:Nat} (hE:E[s]?=some .gone) {a:AV} (hl:a.leaf=true):R E (.bref s v) a
 | gref {s v o n p u:Nat} (hE:E[s]?=some .gone):R E (.ref s v o n) (.ref p u o n)
 | grun {s v o n:Nat} (hE:E[s]?=some .gone) (hn:n=0):R E (.ref s v o n) (.rows [])
 | gptr {s v i j p u:Nat} (hE:E[s]?=some .gone):R E (.ptr s v i j) (.ptr p u i j)
 | fn {f:FuncId} {l m:List SV} {l' m':List AV} (h:l.length=l'.length) (hc:∀ (i:Nat) a b,l[i]?=some a->l'[i]?=some b->R E a b)
    (h':m.length=m'.length) (hc':∀ (i:Nat) a b,m[i]?=some a->m'[i]?=some b->R E a b):R E (.fn f l m) (.fn f l' m')
 | yield {s p:Nat} {ps:List Tmp} {as bd:Code} {d:Nat} (hE:E[s]?=some (.ob p ps as bd d)):R E (.yield s) (.yield p)
 | iface (t:TypeId) {v:SV} {a:AV} (h:R E v a):R E (.iface t v) (.iface t a)
def RL (E:Emb) (l:List SV) (l':List AV):Prop:=l.length=l'.length /\ ∀ (i:Nat) a b,l[i]?=some a->l'[i]?=some b->R E a b
def RT (E:Emb) (c:TC) (xs:List c.den) (l:List (List AV)):Prop:=R E (.lst true c xs) (.crows l)
inductive EILe:EI->EI->Prop
 | no (e:EI):EILe .no e
 | gone {e:EI} (h:∀ p ps as bd d,e≠.ob p ps as bd d):EILe e .gone
 | un {a b:Nat} (h:a<=b):EILe (.un a) (.un b)
 | ua {a p:Nat} {off:Int} {cur:Nat} {len:Nat->Nat} (h:(a:Int)+off<0):EILe (.un a) (.al p off cur len)
 | al {p:Nat} {off:Int} {cur cur':Nat} {len len':Nat->Nat} (h:cur<=cur') (hl:∀ u,u<=cur->len' u=len u):EILe (.al p off cur len) (.al p off cur' len')
 | ob {p:Nat} {ps:List Tmp} {as bd:Code} {d:Nat}:EILe (.ob p ps as bd d) (.ob p ps as bd d)
 | uo {a p:Nat} {off:Int} {cur:Nat} {len:Nat->Nat} {qf:Nat->Option (Nat×Nat)} (h:(a:Int)+off<0):EILe (.un a) (.ow p off cur len qf)
 | ao {p:Nat} {off:Int} {cur cur':Nat} {len len':Nat->Nat} {qf':Nat->Option (Nat×Nat)} (h:cur<=cur') (hl:∀ u,u<=cur->len' u=len u):EILe (.al p off cur len) (.ow p off cur' len' qf')
 | ow {p:Nat} {off:Int} {cur cur':Nat} {len len':Nat->Nat} {qf qf':Nat->Option (Nat×Nat)} (h:cur<=cur') (hl:∀ u,u<=cur->len' u=len u):EILe (.ow p off cur len qf) (.ow p off cur' len' qf')
def ELe (E E':Emb):Prop:=∀ (s:Nat) e,E[s]?=some e->∃ e',E'[s]?=some e' /\ EILe e e'
theorem EILe.refl:∀ (e:EI),EILe e e
 | .no=>.no _
 | .gone=>.gone (by intros;simp)
 | .un _=>.un (Nat.le_refl _)
 | .al ..=>.al (Nat.le_refl _) fun _ _=>rfl
 | .ob ..=>.ob
 | .ow ..=>.ow (Nat.le_refl _) fun _ _=>rfl
theorem EILe.trans {a b c:EI} (h:EILe a b) (g:EILe b c):EILe a c:=by
 cases h with
 | no=>exact .no _
 | gone h=>cases g with | gone _=>exact .gone h
 | un h=>cases g with | un g=>exact .un (Nat.le_trans h g) | ua g=>exact .ua (by omega) | uo g=>exact .uo (by omega) | gone _=>exact .gone (by intros;simp)
 | uo h=>cases g with | ow _ _=>exact .uo h | gone _=>exact .gone (by intros;simp)
 | ua h=>cases g with | al _ _=>exact .ua h | ao _ _=>exact .uo h | gone _=>exact .gone (by intros;simp)
 | ao h hl=>cases g with | ow g gl=>exact .ao (Nat.le_trans h g) fun u hu=>(gl u (Nat.le_trans hu h)).trans (hl u hu) | gone _=>exact .gone (by intros;simp)
 | ow h hl=>cases g with | ow g gl=>exact .ow (Nat.le_trans h g) fun u hu=>(gl u (Nat.le_trans hu h)).trans (hl u hu) | gone _=>exact .gone (by intros;simp)
 | al h hl=>cases g with | al g gl=>exact .al (Nat.le_trans h g) fun u hu=>(gl u (Nat.le_trans hu h)).trans (hl u hu) | ao g gl=>exact .ao (Nat.le_trans h g) fun u hu=>(gl u (Nat.le_trans hu h)).trans (hl u hu) | gone _=>exact .gone (by intros;simp)
 | ob=>exact g
theorem ELe.refl (E:Emb):ELe E E:=fun s e h=>⟨e,h,.refl e⟩
theorem ELe.trans {a b c:Emb} (h:ELe a b) (g:ELe b c):ELe a c:=fun s e hs=>by
 obtain ⟨e1,h1,h2⟩:=h s e hs;obtain ⟨e2,h3,h4⟩:=g s e1 h1;exact ⟨e2,h3,h2.trans h4⟩
theorem ELe.al {E E':Emb} (h:ELe E E') {s p:Nat} {off:Int} {cur:Nat} {len:Nat->Nat} (hs:E[s]?=some (.al p off cur len)):E'[s]?=some .gone \/ (∃ cur' len',E'[s]?=some (.al p off cur' len') /\ cur<=cur' /\ ∀ u,u<=cur->len' u=len u) \/ ∃ cur' len' qf',E'[s]?=some (.ow p off cur' len' qf') /\ cur<=cur' /\ ∀ u,u<=cur->len' u=len u:=by
 obtain ⟨e',h1,h2⟩:=h s _ hs;cases h2 with | al a b=>exact .inr (.inl ⟨_,_,h1,a,b⟩) | ao a b=>exact .inr (.inr ⟨_,_,_,h1,a,b⟩) | gone _=>exact .inl h1
theorem ELe.ow {E E':Emb} (h:ELe E E') {s p:Nat} {off:Int} {cur:Nat} {len:Nat->Nat} {qf:Nat->Option (Nat×Nat)} (hs:E[s]?=some (.ow p off cur len qf)):E'[s]?=some .gone \/ ∃ cur' len' qf',E'[s]?=some (.ow p off cur' len' qf') /\ cur<=cur' /\ ∀ u,u<=cur->len' u=len u:=by
 obtain ⟨e',h1,h2⟩:=h s _ hs;cases h2 with | ow a b=>exact .inr ⟨_,_,_,h1,a,b⟩ | gone _=>exact .inl h1
theorem ELe.ob {E E':Emb} (h:ELe E E') {s p:Nat} {ps:List Tmp} {as bd:Code} {d:Nat} (hs:E[s]?=some (.ob p ps as bd d)):E'[s]?=some (.ob p ps as bd d):=by
 obtain ⟨e',h1,h2⟩:=h s _ hs;cases h2 with | ob=>exact h1 | gone h=>exact absurd rfl (h _ _ _ _ _)
theorem ELe.len {E E':Emb} (h:ELe E E'):E.length<=E'.length:=by
 by_cases h0:E.length=0
 · omega
 · have hl:E.length - 1<E.length:=by omega
   obtain ⟨e',h1,_⟩:=h (E.length - 1) _ (zH hl);have:=(zG.1 h1).1;omega
theorem R.mono {E E':Emb} (h:ELe E E') {x:SV} {a:AV} (r:R E x a):R E' x a:=by
 induction r with
 | bool b=>exact .bool b
 | int k n=>exact .int k n
 | str l=>exact .str l
 | junk a=>exact .junk a
 | nilPtr=>exact .nilPtr
 | nilFunc=>exact .nilFunc
 | nilIface=>exact .nilIface
 | nilMap=>exact .nilMap
 | agg a _ ih=>exact .agg a ih
 | tup a _ ih=>exact .tup a ih
 | rows a b _ ih=>exact .rows a b ih
 | crows a b _ ih=>exact .crows a b ih
 | iptr a _ ih=>exact .iptr a ih
 | @bref s v p off cur len u hE hu hle =>
   rcases h.al hE with h1 | ⟨cur',len',h1,h2,h3⟩ | ⟨cur',len',qf',h1,h2,h3⟩
   · exact .gbref h1 rfl
   · have:=R.bref (E:=E') h1 hu (Nat.le_trans hle h2);rw [h3 u hle] at this;exact this
   · have:=R.obref (E:=E') h1 hu (Nat.le_trans hle h2);rw [h3 u hle] at this;exact this
 | @obref s v p off cur len qf u hE hu hle =>
   rcases h.ow hE with h1 | ⟨cur',len',qf',h1,h2,h3⟩
   · exact .gbref h1 rfl
   · have:=R.obref (E:=E') h1 hu (Nat.le_trans hle h2);rw [h3 u hle] at this;exact this
 | bun hE hle =>
   obtain ⟨e',h1,h2⟩:=h _ _ hE;cases h2 with
   | un g=>exact .bun h1 (Nat.le_trans hle g)
   | ua g=>exact .bnil h1 (by omega)
   | uo g=>exact .obnil h1 (by omega)
   | gone _=>exact .gbref h1 rfl
 | bnil hE g =>
   rcases h.al hE with h1 | ⟨cur',len',h1,h2,h3⟩ | ⟨cur',len',qf',h1,h2,h3⟩
   · exact .gbref h1 rfl
   · exact .bnil h1 g
   · exact .obnil h1 g
 | obnil hE g =>
   rcases h.ow hE with h1 | ⟨cur',len',qf',h1,h2,h3⟩
   · exact .gbref h1 rfl
   · exact .obnil h1 g
 | ref hE hu hle hn =>
   rcases h.al hE with h1 | ⟨cur',len',h1,h2,h3⟩ | ⟨cur',len',qf',h1,h2,h3⟩
   · exact .gref h1
   · exact .ref h1 hu (Nat.le_trans hle h2) (by rw [h3 _ hle];exact hn)
   · exact .oref h1 hu (Nat.le_trans hle h2) (by rw [h3 _ hle];exact hn)
 | oref hE hu hle hn =>
   rcases h.ow hE with h1 | ⟨cur',len',qf',h1,h2,h3⟩
   · exact .gref h1
   · exact .oref h1 hu (Nat.le_trans hle h2) (by rw [h3 _ hle];exact hn)
 | run hE hle hn =>
   obtain ⟨e',h1,h2⟩:=h _ _ hE;cases h2 with
   | un g=>exact .run h1 (Nat.le_trans hle g) hn
   | ua g=>exact .rnil h1 (by omega) hn
   | uo g=>exact .ornil h1 (by omega) hn
   | gone _=>exact .grun h1 hn
 | rnil hE g hn =>
   rcases h.al hE with h1 | ⟨cur',len',h1,h2,h3⟩ | ⟨cur',len',qf',h1,h2,h3⟩
   · exact .grun h1 hn
   · exact .rnil h1 g hn
   · exact .ornil h1 g hn
 | ornil hE g hn =>
   rcases h.ow hE with h1 | ⟨cur',len',qf',h1,h2,h3⟩
   · exact .grun h1 hn
   · exact .ornil h1 g hn
 | ptr hE hu =>
   rcases h.al hE with h1 | ⟨cur',len',h1,h2,h3⟩ | ⟨cur',len',qf',h1,h2,h3⟩
   · exact .gptr h1
   · exact .ptr h1 hu
   · exact .optr h1 hu
 | optr hE hu =>
   rcases h.ow hE with h1 | ⟨cur',len',qf',h1,h2,h3⟩
   · exact .gptr h1
   · exact .optr h1 hu
 | gbref hE hl =>
   obtain ⟨e',h1,h2⟩:=h _ _ hE;cases h2;exact .gbref h1 hl
 | gref hE =>
   obtain ⟨e',h1,h2⟩:=h _ _ hE;cases h2;exact .gref h1
 | grun hE hn =>
   obtain ⟨e',h1,h2⟩:=h _ _ hE;cases h2;exact .grun h1 hn
 | gptr hE =>
   obtain ⟨e',h1,h2⟩:=h _ _ hE;cases h2;exact .gptr h1
 | fn a _ b _ ih ih'=>exact .fn a ih b ih'
 | yield hE=>exact .yield (h.ob hE)
 | iface t _ ih=>exact .iface t ih
theorem RL.mono {E E':Emb} (h:ELe E E') {l:List SV} {l':List AV} (r:RL E l l'):RL E' l l':=⟨r.1,fun i a b h1 h2=>(r.2 i a b h1 h2).mono h⟩
theorem RL.nil {E:Emb}:RL E [] []:=⟨rfl,fun i a b h=>by simp at h⟩
theorem RL.cons {E:Emb} {x:SV} {a:AV} {l:List SV} {l':List AV} (h:R E x a) (r:RL E l l'):RL E (x::l) (a::l') :=
 ⟨by simp [r.1],fun i a b h1 h2=>by
  cases i with
  | zero=>simp at h1 h2;subst h1 h2;exact h
  | succ i=>simp at h1 h2;exact r.2 i a b h1 h2⟩
theorem RL.cons_inv {E:Emb} {x:SV} {l:List SV} {l':List AV} (r:RL E (x::l) l'):∃ a m,l'=a::m /\ R E x a /\ RL E l m:=by
 obtain ⟨h,hc⟩:=r;cases l' with
 | nil=>simp at h
 | cons a m=>exact ⟨a,m,rfl,hc 0 _ _ rfl rfl,by simpa using h,fun i x y h1 h2=>hc (i+1) x y (by simpa using h1) (by simpa using h2)⟩
theorem RL.nil_inv {E:Emb} {l':List AV} (r:RL E [] l'):l'=[]:=by
 obtain ⟨h,_⟩:=r;cases l' with | nil=>rfl | cons=>simp at h
theorem RL.get {E:Emb} {l:List SV} {l':List AV} (r:RL E l l') {i:Nat} {x:SV} (h:l[i]?=some x):∃ a,l'[i]?=some a /\ R E x a:=by
 have hi:=(zG.1 h).1;rw [r.1] at hi;exact ⟨l'[i],zH hi,r.2 i _ _ h (zH hi)⟩
theorem RL.app {E:Emb} {l m:List SV} {l' m':List AV} (r:RL E l l') (q:RL E m m'):RL E (l++m) (l'++m'):=by
 induction l generalizing l' with
 | nil=>rw [r.nil_inv];exact q
 | cons x l ih=>obtain ⟨a,k,rfl,h1,h2⟩:=r.cons_inv;exact .cons h1 (ih h2)
theorem RL.take {E:Emb} {l:List SV} {l':List AV} (r:RL E l l') (n:Nat):RL E (l.take n) (l'.take n) :=
 ⟨by simp [r.1],fun i a b h1 h2=>by
  rw [List.getElem?_take] at h1 h2;split at h1
  · rename_i hi;rw [if_pos hi] at h2;exact r.2 i a b h1 h2
  · cases h1⟩
theorem RL.drop {E:Emb} {l:List SV} {l':List AV} (r:RL E l l') (n:Nat):RL E (l.drop n) (l'.drop n) :=
 ⟨by simp [r.1],fun i a b h1 h2=>by rw [List.getElem?_drop] at h1 h2;exact r.2 _ a b h1 h2⟩
theorem RL.set {E:Emb} {l:List SV} {l':List AV} (r:RL E l l') (n:Nat) {x:SV} {a:AV} (h:R E x a):RL E (l.set n x) (l'.set n a) :=
 ⟨by simp [r.1],fun i a b h1 h2=>by
  rw [List.getElem?_set] at h1 h2;split at h1
  · rename_i e;subst e;split at h1
    · rename_i hi;cases h1;rw [if_pos rfl,if_pos (by rw [<- r.1];exact hi)] at h2;cases h2;exact h
    · cases h1
  · rename_i e;rw [if_neg e] at h2;exact r.2 i a b h1 h2⟩
theorem RL.getD {E:Emb} {l:List SV} {l':List AV} (r:RL E l l') (n:Nat) {x:SV} {a:AV} (h:R E x a):R E (l.getD n x) (l'.getD n a):=by
 simp only [zI];cases h1:l[n]? with
 | none =>
   have:l'[n]?=none:=by
    rw [List.getElem?_eq_none_iff] at h1 ⊢;rw [<- r.1];exact h1
   rw [this];exact h
 | some y =>
   obtain ⟨b,h2,h3⟩:=r.get h1;rw [h2];exact h3
theorem R.agg' {E:Emb} {l:List SV} {l':List AV} (r:RL E l l'):R E (.agg l) (.agg l'):=.agg r.1 r.2
theorem R.tup' {E:Emb} {l:List SV} {l':List AV} (r:RL E l l'):R E (.tup l) (.tup l'):=.tup r.1 r.2
theorem RL.replicate {E:Emb} {x:SV} {a:AV} (h:R E x a):∀ (n:Nat),RL E (List.replicate n x) (List.replicate n a)
 | 0=>.nil
 | n+1=>by simp only [List.replicate_succ];exact .cons h (RL.replicate h n)
theorem RL.mapR {E:Emb} {α:Type} {f:α->SV} {g:α->AV} (h:∀ x,R E (f x) (g x)) (l:List α):RL E (l.map f) (l.map g):=by
 induction l with
 | nil=>exact .nil
 | cons x l ih=>exact .cons (h x) ih
theorem RT.iff {E:Emb} {c:TC} {xs:List c.den} {l:List (List AV)}:RT E c xs l↔l.length=xs.length /\ ∀ (i:Nat) x row,xs[i]?=some x->l[i]?=some row->RL E (c.up x) row:=by
 constructor
 · intro h;cases h with
   | crows h hl hc=>exact ⟨h,fun i x row h1 h2=>⟨(hl i x row h1 h2).symm,fun j a b h3 h4=>hc i x row j a b h1 h2 h3 h4⟩⟩
 · rintro ⟨h,hc⟩
   exact .crows h (fun i x row h1 h2=>(hc i x row h1 h2).1.symm) fun i x row j a b h1 h2 h3 h4=>(hc i x row h1 h2).2 j a b h3 h4
theorem R.lst_inv {E:Emb} {fl:Bool} {c:TC} {xs:List c.den} {a:AV} (r:R E (.lst fl c xs) a):∃ l,RT E c xs l /\ (a=.rows l \/ a=.crows l) /\ (fl=true->a=.crows l):=by
 cases r with
 | rows h hl hc=>exact ⟨_,.crows h hl hc,.inl rfl,by simp⟩
 | crows h hl hc=>exact ⟨_,.crows h hl hc,.inr rfl,fun _=>rfl⟩
theorem RT.rows {E:Emb} {c:TC} {xs:List c.den} {l:List (List AV)} (h:RT E c xs l):R E (.lst false c xs) (.rows l):=by
 cases h with | crows h hl hc=>exact .rows h hl hc
theorem RT.crows {E:Emb} {c:TC} {xs:List c.den} {l:List (List AV)} (h:RT E c xs l) (fl:Bool):R E (.lst fl c xs) (.crows l):=by
 cases h with | crows h hl hc=>exact .crows h hl hc
theorem RT.mono {E E':Emb} (h:ELe E E') {c:TC} {xs:List c.den} {l:List (List AV)} (r:RT E c xs l):RT E' c xs l:=R.mono h r
theorem RT.nil {E:Emb} {c:TC}:RT E c [] []:=RT.iff.2 ⟨rfl,fun i x row h=>by simp at h⟩
theorem RT.cons {E:Emb} {c:TC} {x:c.den} {row:List AV} {xs:List c.den} {l:List (List AV)} (h:RL E (c.up x) row) (r:RT E c xs l):RT E c (x::xs) (row::l):=by
 rw [RT.iff] at r ⊢;refine ⟨by simp [r.1],fun i y rw' h1 h2=>?_⟩;cases i with
 | zero=>simp at h1 h2;subst h1 h2;exact h
 | succ i=>simp at h1 h2;exact r.2 i _ _ h1 h2
theorem RT.app {E:Emb} {c:TC} {xs ys:List c.den} {l m:List (List AV)} (r:RT E c xs l) (q:RT E c ys m):RT E c (xs++ys) (l++m):=by
 rw [RT.iff] at r q ⊢;refine ⟨by simp [r.1,q.1],fun i x row h1 h2=>?_⟩;rw [List.getElem?_append] at h1 h2;rw [r.1] at h2;split at h1
 · rename_i hi;rw [if_pos hi] at h2;exact r.2 i _ _ h1 h2
 · rename_i hi;rw [if_neg hi] at h2;exact q.2 _ _ _ h1 h2
theorem RT.take {E:Emb} {c:TC} {xs:List c.den} {l:List (List AV)} (r:RT E c xs l) (n:Nat):RT E c (xs.take n) (l.take n):=by
 rw [RT.iff] at r ⊢;refine ⟨by simp [r.1],fun i x row h1 h2=>?_⟩;rw [List.getElem?_take] at h1 h2;split at h1
 · rename_i hi;rw [if_pos hi] at h2;exact r.2 i _ _ h1 h2
 · cases h1
theorem RT.drop {E:Emb} {c:TC} {xs:List c.den} {l:List (List AV)} (r:RT E c xs l) (n:Nat):RT E c (xs.drop n) (l.drop n):=by
 rw [RT.iff] at r ⊢;refine ⟨by simp [r.1],fun i x row h1 h2=>?_⟩;rw [List.getElem?_drop] at h1 h2;exact r.2 _ _ _ h1 h2
theorem RT.set {E:Emb} {c:TC} {xs:List c.den} {l:List (List AV)} (r:RT E c xs l) (n:Nat) {x:c.den} {row:List AV} (h:RL E (c.up x) row):RT E c (xs.set n x) (l.set n row):=by
 rw [RT.iff] at r ⊢;refine ⟨by simp [r.1],fun i y rw' h1 h2=>?_⟩;rw [List.getElem?_set] at h1 h2;split at h1
 · rename_i e;subst e;split at h1
   · rename_i hi;cases h1;rw [if_pos rfl,if_pos (by rw [r.1];exact hi)] at h2;cases h2;exact h
   · cases h1
 · rename_i e;rw [if_neg e] at h2;exact r.2 i _ _ h1 h2
theorem RT.replicate {E:Emb} {c:TC} {x:c.den} {row:List AV} (h:RL E (c.up x) row):∀ (n:Nat),RT E c (List.replicate n x) (List.replicate n row)
 | 0=>.nil
 | n+1=>by simp only [List.replicate_succ];exact .cons h (RT.replicate h n)
theorem RT.get {E:Emb} {c:TC} {xs:List c.den} {l:List (List AV)} (r:RT E c xs l) {i:Nat} (hi:i<xs.length):∃ row,l[i]?=some row /\ RL E (c.up (xs.getD i c.zero)) row:=by
 rw [RT.iff] at r;have hi':i<l.length:=by rw [r.1];exact hi
 refine ⟨l[i],zH hi',?_⟩;have h1:=zH hi;rw [zI,h1];exact r.2 i _ _ h1 (zH hi')
def exAt:List (Nat×Nat)->Nat->Option Nat
 | [],_=>none
 | (j,s)::l,i=>if j=i then some s else exAt l i
def zh3 (E:Emb) (HA:List AO) (qf:Nat->Option (Nat×Nat)) (pv live:Bool) (ex:List (Nat×Nat)) (i:Nat) (x:Block) (row:List AV):Prop :=
 ∃ c0 rest,row=c0::rest /\ RL E [svI x.next,svI x.erases,.bool x.bad] rest /\
  ((∃ s2,exAt ex i=some s2 /\ R E (.bref s2 0) c0) \/ (exAt ex i=none /\ R E (svL .page x.pages) c0 /\ (pv=false \/ (x.pages=[] /\ c0=.crows []))) \/
    (exAt ex i=none /\ ∃ q u prows,qf i=some (q,u) /\ c0=.ref q u 0 x.pages.length /\ HA.getD q .none=.blk 3 u live prows /\ RT E .page x.pages prows))
def ORN (E:Emb) (HA:List AO) (p:Nat) (off:Int) (cur:Nat) (len:Nat->Nat) (qf:Nat->Option (Nat×Nat)) (pv:Bool) (v:Nat) (live:Bool) (xs:List Block) (ex:List (Nat×Nat)):Prop :=
 (cur:Int)=v+off /\ len cur=xs.length /\ (∀ i u,qf i≠some (p,u)) /\ (∀ i j q u u',qf i=some (q,u)->qf j=some (q,u')->i=j) /\
   ∃ rows,HA.getD p .none=.blk 4 cur live rows /\ rows.length=xs.length /\ ∀ (i:Nat) x row,xs[i]?=some x->rows[i]?=some row->zh3 E HA qf pv live ex i x row
def OR (E:Emb) (HA:List AO):EI->SO->Prop
 | _,.dead=>True
 | .un cur,.blk _ v live xs=>cur=v /\ xs=[] /\ live=live
 | .al p off cur len,.blk c v live xs=>(cur:Int)=v+off /\ len cur=xs.length /\ ∃ rows,HA.getD p .none=.blk c.size cur live rows /\ RT E c xs rows
 | .al p off cur len,.raw k live rows=>off=0 /\ cur=0 /\ len 0=rows.length /\ ∃ rows',HA.getD p .none=.blk k 0 live rows' /\ rows.length=rows'.length /\ ∀ (i:Nat) r r',rows[i]?=some r->rows'[i]?=some r'->RL E r r' /\ r'.length=k
 | .ob p ps as bd d,.loop st pend tm ps' as' bd' d'=>ps=ps' /\ as=as' /\ bd=bd' /\ d=d' /\ ∃ tm' dA,HA.getD p .none=.loop st pend tm' ps as bd dA /\ RL E tm tm' /\ ∃ q qs qa qb,E[d]?=some (.ob dA qs qa qb q)
 | .ob p _ _ _ _,.dfr op=>HA.getD p .none=.dfr op
 | .un cur,.nst _ v _ xs ex=>cur=v /\ xs=[] /\ ex=[]
 | .al p off cur len,.nst pv v live xs ex=>ORN E HA p off cur len (fun _=>none) pv v live xs ex
 | .ow p off cur len qf,.nst pv v live xs ex=>ORN E HA p off cur len qf pv v live xs ex
 | _,_=>False
structure HR (E:Emb) (SH:List SO) (HA:List AO):Prop where
 len:E.length=SH.length
 lt:∀ (s:Nat) e p,E[s]?=some e->e.at p->p<HA.length
 inj:∀ (s s':Nat) e e' p,E[s]?=some e->E[s']?=some e'->e.at p->e'.at p->s=s'
 obj:∀ (s:Nat) o e,SH[s]?=some o->E[s]?=some e->OR E HA e o
theorem HR.get {E:Emb} {SH:List SO} {HA:List AO} (h:HR E SH HA) {s:Nat} {o:SO} (hs:SH.getD s .dead=o) (ho:o≠.dead):∃ e,E[s]?=some e /\ SH[s]?=some o /\ OR E HA e o:=by
 rw [zI] at hs;cases h1:SH[s]? with
 | none=>rw [h1] at hs;exact absurd hs.symm ho
 | some x =>
   rw [h1] at hs;simp at hs;subst hs;have hl:=(zG.1 h1).1;have hl':s<E.length:=by rw [h.len];exact hl
   exact ⟨E[s],zH hl',rfl,h.obj s x _ h1 (zH hl')⟩
theorem zh3.mono {E E':Emb} {HA HA':List AO} (h:ELe E E') {qf:Nat->Option (Nat×Nat)} {pv live:Bool} {ex:List (Nat×Nat)} {i:Nat} {x:Block} {row:List AV} (hp:∀ i q u,qf i=some (q,u)->HA'.getD q .none=HA.getD q .none) (r:zh3 E HA qf pv live ex i x row):zh3 E' HA' qf pv live ex i x row:=by
 obtain ⟨c0,rest,e,h1,h2⟩:=r;refine ⟨c0,rest,e,h1.mono h,?_⟩;rcases h2 with ⟨s2,g1,g2⟩ | ⟨g1,g2,gv⟩ | ⟨g1,q,u,prows,g2,g3,g4,g5⟩
 · exact .inl ⟨s2,g1,g2.mono h⟩
 · exact .inr (.inl ⟨g1,g2.mono h,gv⟩)
 · exact .inr (.inr ⟨g1,q,u,prows,g2,g3,by rw [hp i q u g2];exact g4,g5.mono h⟩)
theorem OR.mono {E E':Emb} {HA HA':List AO} (h:ELe E E') {e:EI} {o:SO} (hp:∀ p,e.at p->HA'.getD p .none=HA.getD p .none) (r:OR E HA e o):OR E' HA' e o:=by
 cases o with
 | dead=>cases e <;> trivial
 | blk c v live xs =>
   cases e with
   | no=>exact r
   | gone=>exact r
   | un cur=>exact r
   | al p off cur len =>
     obtain ⟨h1,h2,rows,h3,h4⟩:=r;exact ⟨h1,h2,rows,by rw [hp p rfl];exact h3,h4.mono h⟩
   | ob=>exact r
   | ow=>exact r
 | raw k live rows =>
   cases e with
   | no=>exact r
   | gone=>exact r
   | un cur=>exact r
   | al p off cur len =>
     obtain ⟨h1,h2,h3,rows',h4,h5,h6⟩:=r;exact ⟨h1,h2,h3,rows',by rw [hp p rfl];exact h4,h5,fun i a b q1 q2=>⟨(h6 i a b q1 q2).1.mono h,(h6 i a b q1 q2).2⟩⟩
   | ob=>exact r
   | ow=>exact r
 | loop st pend tm ps' as' bd' d' =>
   cases e with
   | no=>exact r
   | gone=>exact r
   | un cur=>exact r
   | al=>exact r
   | ow=>exact r
   | ob p ps as bd d =>
     obtain ⟨h1,h2,h3,h4,tm',dA,h5,h6,q,qs,qa,qb,h7⟩:=r;exact ⟨h1,h2,h3,h4,tm',dA,by rw [hp p rfl];exact h5,h6.mono h,q,qs,qa,qb,h.ob h7⟩
 | dfr op =>
   cases e with
   | no=>exact r
   | gone=>exact r
   | un cur=>exact r
   | al=>exact r
   | ow=>exact r
   | ob p ps as bd d=>show _=_;rw [hp p rfl];exact r
 | nst pv v live xs ex =>
   cases e with
   | ow p off cur len qf =>
     obtain ⟨h1,h2,h3,h4,rows,h5,h6,h7⟩:=r;exact ⟨h1,h2,h3,h4,rows,by rw [hp p (.inl rfl)];exact h5,h6,fun i x row q1 q2=>(h7 i x row q1 q2).mono h fun i q u hq=>hp q (.inr ⟨i,u,hq⟩)⟩
   | al p off cur len =>
     obtain ⟨h1,h2,h3,h4,rows,h5,h6,h7⟩:=r;exact ⟨h1,h2,h3,h4,rows,by rw [hp p rfl];exact h5,h6,fun i x row q1 q2=>(h7 i x row q1 q2).mono h fun i q u hq=>by cases hq⟩
   | _=>exact r
end Clk
namespace Clk
open Go
theorem zq {α:Type} (l:List α) (i j:Nat) (x d:α):(l.set i x).getD j d=if i=j /\ i<l.length then x else l.getD j d:=by
 simp only [zI,List.getElem?_set];by_cases h:i=j
 · subst h;by_cases h2:i<l.length
   · simp [h2]
   · simp [h2,List.getElem?_eq_none (Nat.le_of_not_lt h2)]
 · simp [h]
theorem zvu {α:Type} (l:List α) (x:α) (j:Nat) (d:α):(l++[x]).getD j d=if j=l.length then x else l.getD j d:=by
 simp only [zI,List.getElem?_append];by_cases h:j<l.length
 · rw [if_pos h,if_neg (by omega)]
 · rw [if_neg h];by_cases h2:j=l.length
   · subst h2;simp
   · rw [if_neg h2,List.getElem?_eq_none (Nat.le_of_not_lt h),List.getElem?_eq_none (by simp;omega)]
theorem HR.upd {E:Emb} {SH:List SO} {HA HA':List AO} (h:HR E SH HA) {s:Nat} {e e':EI} {o':SO} (hs:E[s]?=some e) (hle:EILe e e')
 (hpos:∀ p,e'.at p->p<HA'.length /\ (e.at p \/ ∀ (s2:Nat) e2,E[s2]?=some e2->¬ e2.at p)) (hlen:HA.length<=HA'.length)
 (hsame:∀ (s2:Nat) e2 q,s2≠s->E[s2]?=some e2->e2.at q->HA'.getD q .none=HA.getD q .none)
 (ho:ELe E (E.set s e')->OR (E.set s e') HA' e' o'):HR (E.set s e') (SH.set s o') HA' /\ ELe E (E.set s e'):=by
 have hsl:=(zG.1 hs).1;have hE:ELe E (E.set s e'):=by
  intro s2 e2 h2;by_cases hx:s=s2
  · subst hx;rw [hs] at h2;cases h2;exact ⟨e',by rw [List.getElem?_set,if_pos rfl,if_pos hsl],hle⟩
  · exact ⟨e2,by rw [List.getElem?_set,if_neg hx];exact h2,.refl _⟩
 have look:∀ (s2:Nat) e2,(E.set s e')[s2]?=some e2->(s2=s /\ e2=e') \/ (s2≠s /\ E[s2]?=some e2):=by
  intro s2 e2 h2;rw [List.getElem?_set] at h2;split at h2
  · rename_i hx;subst hx;first
    | (split at h2 <;> cases h2;exact .inl ⟨rfl,rfl⟩)
    | (cases h2;exact .inl ⟨rfl,rfl⟩)
  · rename_i hx;exact .inr ⟨fun hy=>hx hy.symm,h2⟩
 refine ⟨⟨by simp [h.len],fun s2 e2 p h2 h3=>?_,fun s2 s3 e2 e3 p h2 h3 h4 h5=>?_,fun s2 o e2 h2 h3=>?_⟩,hE⟩
 · rcases look s2 e2 h2 with ⟨rfl,rfl⟩ | ⟨_,h4⟩
   · exact (hpos p h3).1
   · exact Nat.lt_of_lt_of_le (h.lt s2 e2 p h4 h3) hlen
 · rcases look s2 e2 h2 with ⟨rfl,rfl⟩ | ⟨g1,g2⟩ <;> rcases look s3 e3 h3 with ⟨rfl,rfl⟩ | ⟨g3,g4⟩
   · rfl
   · rcases (hpos p h4).2 with g | g
     · exact absurd (h.inj _ _ _ _ p hs g4 g h5) fun hx=>g3 hx.symm
     · exact absurd h5 (g _ _ g4)
   · rcases (hpos p h5).2 with g | g
     · exact absurd (h.inj _ _ _ _ p g2 hs h4 g) g1
     · exact absurd h4 (g _ _ g2)
   · exact h.inj _ _ _ _ p g2 g4 h4 h5
 · rcases look s2 e2 h3 with ⟨rfl,rfl⟩ | ⟨g1,g2⟩
   · rw [List.getElem?_set,if_pos rfl] at h2;split at h2
     · cases h2;exact ho hE
     · cases h2
   · rw [List.getElem?_set,if_neg (fun hx=>g1 hx.symm)] at h2;exact (h.obj s2 o e2 h2 g2).mono hE fun p hp=>hsame s2 e2 p g1 g2 hp
theorem HR.push {E:Emb} {SH:List SO} {HA HA':List AO} (h:HR E SH HA) {e':EI} {o':SO}
 (hpos:∀ p,e'.at p->p<HA'.length /\ ∀ (s2:Nat) e2,E[s2]?=some e2->¬ e2.at p) (hlen:HA.length<=HA'.length)
 (hsame:∀ (s2:Nat) e2 q,E[s2]?=some e2->e2.at q->HA'.getD q .none=HA.getD q .none)
 (ho:ELe E (E++[e'])->OR (E++[e']) HA' e' o'):HR (E++[e']) (SH++[o']) HA' /\ ELe E (E++[e']):=by
 have hE:ELe E (E++[e']):=fun s e hs=>⟨e,by rw [List.getElem?_append,if_pos (zG.1 hs).1];exact hs,.refl _⟩
 have look:∀ (s2:Nat) e2,(E++[e'])[s2]?=some e2->(s2=E.length /\ e2=e') \/ (s2<E.length /\ E[s2]?=some e2):=by
  intro s2 e2 h2;rw [List.getElem?_append] at h2;split at h2
  · rename_i hx;exact .inr ⟨hx,h2⟩
  · rename_i hx;have:=(zG.1 h2).1;simp at this;have h3:s2 - E.length=0:=by omega
    rw [h3] at h2;simp at h2;exact .inl ⟨by omega,h2.symm⟩
 refine ⟨⟨by simp [h.len],fun s2 e2 p h2 h3=>?_,fun s2 s3 e2 e3 p h2 h3 h4 h5=>?_,fun s2 o e2 h2 h3=>?_⟩,hE⟩
 · rcases look s2 e2 h2 with ⟨rfl,rfl⟩ | ⟨_,h4⟩
   · exact (hpos p h3).1
   · exact Nat.lt_of_lt_of_le (h.lt s2 e2 p h4 h3) hlen
 · rcases look s2 e2 h2 with ⟨rfl,rfl⟩ | ⟨g1,g2⟩ <;> rcases look s3 e3 h3 with ⟨rfl,rfl⟩ | ⟨g3,g4⟩
   · rfl
   · exact absurd h5 ((hpos p h4).2 _ _ g4)
   · exact absurd h4 ((hpos p h5).2 _ _ g2)
   · exact h.inj _ _ _ _ p g2 g4 h4 h5
 · rcases look s2 e2 h3 with ⟨rfl,rfl⟩ | ⟨g1,g2⟩
   · rw [List.getElem?_append,if_neg (by rw [h.len];omega),h.len] at h2;simp at h2;subst h2;exact ho hE
   · rw [List.getElem?_append,if_pos (by rw [<- h.len];exact g1)] at h2;exact (h.obj s2 o e2 h2 g2).mono hE fun p hp=>hsame s2 e2 p g2 hp
def SlotAt (E:Emb) (SH:List SO) (HA:List AO) (s p:Nat):Prop :=
 (s=SH.length /\ p=HA.length) \/ (s<SH.length /\ E[s]?=some .no /\ p<HA.length /\ ∀ (s2:Nat) e2,E[s2]?=some e2->¬ e2.at p)
theorem SlotAt.fresh {E:Emb} {SH:List SO} {HA:List AO} {s p:Nat} (h:SlotAt E SH HA s p) (hr:HR E SH HA) (s2:Nat) (e2:EI) (h2:E[s2]?=some e2):¬ e2.at p:=by
 rcases h with ⟨_,rfl⟩ | ⟨_,_,_,h⟩
 · intro hp;have:=hr.lt s2 e2 _ h2 hp;omega
 · exact h s2 e2 h2
def setE (E:Emb) (s:Nat) (e:EI):Emb:=if s<E.length then E.set s e else E++[e]
theorem z1g {H:List SO} {i:Nat} {o:SO} (h:i<H.length):z3m H (some (i,o))=H.set i o:=by simp [z3m,h]
theorem z05t {H:List SO} {i:Nat} {o:SO} (h:¬ i<H.length):z3m H (some (i,o))=H++[o]:=by simp [z3m,h]
theorem zjd {H:List AO} {i:Nat} {o:AO} (h:i<H.length):zi H (some (i,o))=H.set i o:=by simp [zi,h]
theorem z0d9 {H:List AO} {i:Nat} {o:AO} (h:¬ i<H.length):zi H (some (i,o))=H++[o]:=by simp [zi,h]
theorem zo2 {H:List AO} {ch:Option (Nat×AO)}:H.length<=(zi H ch).length:=by
 cases ch with
 | none=>exact Nat.le_refl _
 | some x=>obtain ⟨i,o⟩:=x;simp only [zi];split <;> simp
theorem z4z {H:List AO} {i:Nat} {o:AO} (h:i<=H.length) (j:Nat):(zi H (some (i,o))).getD j .none=if j=i then o else H.getD j .none:=by
 by_cases hi:i<H.length
 · rw [zjd hi,zq];by_cases hj:i=j
   · subst hj;simp [hi]
   · rw [if_neg (fun hx=>hj hx.1),if_neg (fun hx=>hj hx.symm)]
 · rw [z0d9 hi,zvu];have:i=H.length:=by omega
   subst this;rfl
theorem HR.new {E:Emb} {SH:List SO} {HA:List AO} (h:HR E SH HA) {s p:Nat} (hs:SlotAt E SH HA s p) {e':EI} {o':SO} {ch':Option (Nat×AO)}
 (he:(∃ a,ch'=some (p,a) /\ ∀ q,e'.at q->q=p) \/ (ch'=none /\ ∀ q,¬ e'.at q))
 (ho:ELe E (setE E s e')->OR (setE E s e') (zi HA ch') e' o') :
 HR (setE E s e') (z3m SH (some (s,o'))) (zi HA ch') /\ ELe E (setE E s e') /\ (setE E s e')[s]?=some e' /\ ∀ s2,s2≠s->(setE E s e')[s2]?=E[s2]?:=by
 have hf:=fun s2 e2 h2=>hs.fresh h s2 e2 h2
 have hp:p<=HA.length:=by rcases hs with ⟨_,rfl⟩ | ⟨_,_,h2,_⟩ <;> omega
 have hpos:∀ q,e'.at q->q<(zi HA ch').length /\ ∀ (s2:Nat) e2,E[s2]?=some e2->¬ e2.at q:=by
  intro q hq;rcases he with ⟨a,rfl,h2⟩ | ⟨rfl,h2⟩
  · cases h2 q hq;refine ⟨?_,hf⟩;simp only [zi];split <;> simp <;> omega
  · exact absurd hq (h2 q)
 have hsame:∀ (s2:Nat) e2 q,E[s2]?=some e2->e2.at q->(zi HA ch').getD q .none=HA.getD q .none:=by
  intro s2 e2 q h2 h3;rcases he with ⟨a,rfl,_⟩ | ⟨rfl,_⟩
  · rw [z4z hp];split
    · rename_i hx;subst hx;exact absurd h3 (hf s2 e2 h2)
    · rfl
  · rfl
 rcases hs with ⟨rfl,_⟩ | ⟨h1,h2,_,_⟩
 · have hE:setE E SH.length e'=E++[e']:=by simp [setE,h.len]
   rw [hE] at ho ⊢;rw [z05t (by omega)];obtain ⟨g1,g2⟩:=h.push hpos zo2 hsame ho;exact ⟨g1,g2,by rw [<- h.len];simp,fun s2 hne=>by
    rw [<- h.len] at hne;by_cases hl:s2<E.length
    · rw [List.getElem?_append_left hl]
    · rw [List.getElem?_eq_none (by simp;omega),List.getElem?_eq_none (by omega)]⟩
 · have hl:s<E.length:=by rw [h.len];exact h1
   have hE:setE E s e'=E.set s e':=by simp [setE,hl]
   rw [hE] at ho ⊢;rw [z1g h1];obtain ⟨g1,g2⟩:=h.upd h2 (.no e') (fun q hq=>⟨(hpos q hq).1,.inr (hpos q hq).2⟩) zo2 (fun s2 e2 q _=>hsame s2 e2 q) ho;exact ⟨g1,g2,by rw [List.getElem?_set,if_pos rfl,if_pos hl],fun s2 hne=>by rw [List.getElem?_set_ne (fun hx=>hne hx.symm)]⟩
theorem HR.chg {E:Emb} {SH:List SO} {HA:List AO} (h:HR E SH HA) {s p:Nat} {e e':EI} {o':SO} {a:AO} (hs:E[s]?=some e) (hle:EILe e e') (hp:e.at p) (hp':∀ q,e'.at q->e.at q)
 (ho:ELe E (E.set s e')->OR (E.set s e') (HA.set p a) e' o'):HR (E.set s e') (z3m SH (some (s,o'))) (zi HA (some (p,a))) /\ ELe E (E.set s e') /\ (E.set s e')[s]?=some e' /\ ∀ s2,s2≠s->(E.set s e')[s2]?=E[s2]?:=by
 have hsl:=(zG.1 hs).1;have hpl:=h.lt s e p hs hp;rw [z1g (by rw [<- h.len];exact hsl),zjd hpl];obtain ⟨g1,g2⟩:=h.upd (HA':=HA.set p a) (o':=o') hs hle (fun q hq=>⟨by rw [List.length_set];exact h.lt s e q hs (hp' q hq),.inl (hp' q hq)⟩) (by simp)
  (fun s2 e2 q h1 h2 h3=>by
    rw [zq,if_neg];rintro ⟨rfl,_⟩
    exact h1 (h.inj _ _ _ _ _ h2 hs h3 hp)) ho
 exact ⟨g1,g2,by rw [List.getElem?_set,if_pos rfl,if_pos hsl],fun s2 hne=>by rw [List.getElem?_set_ne (fun hx=>hne hx.symm)]⟩
def isBlk (a:AO):Prop:=∃ k v l r,a=.blk k v l r
def Did (E:Emb) (SH:List SO) (HA:List AO) (slot:Nat) (v:SV) (ch:Option (Nat×SO)) (v':AV) (ch':Option (Nat×AO)):Prop :=
 ∃ E',ELe E E' /\ HR E' (z3m SH ch) (zi HA ch') /\ R E' v v' /\
  (ch=none->ch'=none) /\ (∀ i o,ch=some (i,o)->((ch'=none /\ ∃ cur,E'[i]?=some (.un cur)) \/ ∃ q o' e,ch'=some (q,o') /\ E'[i]?=some e /\ e.alAt q)) /\
  (∀ q a,ch'=some (q,a)->isBlk a) /\ (∀ s,(∀ i o,ch=some (i,o)->s≠i)->E'[s]?=E[s]?) /\
  ∀ (s:Nat) (e:EI) (q:Nat),E'[s]?=some e->e.at q->(∃ e0:EI,E[s]?=some e0 /\ e0.at q) \/ q=slot
theorem Did.pure {E:Emb} {SH:List SO} {HA:List AO} {slot:Nat} {v:SV} {v':AV} (h:HR E SH HA) (hv:R E v v'):Did E SH HA slot v none v' none :=
 ⟨E,.refl E,h,hv,fun _=>rfl,(fun _ _ h=>by cases h),(fun _ _ h=>by cases h),fun _ _=>rfl,fun s e q h1 h2=>.inl ⟨e,h1,h2⟩⟩
end Clk
namespace Clk
open Go
structure CtxOk (P:Program) (Γ:Ctx):Prop where
 ti:∀ t i,Γ.ti t=some i->Clk.ti P t=some i
 zero:∀ t z,Γ.zero t=some z->∃ i z',Clk.ti P t=some i /\ z08 i=some z' /\ RL [] z z'
 ec:∀ t c,Γ.ec t=some c->∃ i z',Clk.ti P t=some i /\ i.size=c.size /\ z08 i=some z' /\ RL [] (c.up c.zero) z'
 eci:∀ t k,Γ.ec t=some (.int k)->∃ i,Clk.ti P t=some i /\ i.kind=.int k /\ i.size=1
 flds:∀ t i fs,Γ.ti t=some i->i.kind=.struct fs->fs.all (fun f=>(Clk.ti P f.2).isSome)=true
 eq:∀ t,Γ.eq t=true->P.stoodInHeld t=false /\ ziz P t=true /\ P.eqGuardType P.depth t=false
theorem ELe.ofNil (E:Emb):ELe [] E:=fun s e h=>by simp at h
theorem z01l (c:TC) (x:c.den):(c.up x).length=c.size:=by cases c <;> rfl
theorem R.leaf {E:Emb} {x:SV} {a:AV} (r:R E x a) (h:x.leaf=true):a.leaf=true:=by
 cases r <;> first | rfl | assumption | (simp [SV.leaf] at h)
theorem zzj {a:AV} (h:a.leaf=true):z3i a=some [a]:=by cases a <;> first | rfl | (simp [AV.leaf] at h)
theorem RL.leaf {E:Emb} {l:List SV} {l':List AV} (r:RL E l l') (h:l.all SV.leaf=true):l'.all AV.leaf=true:=by
 induction l generalizing l' with
 | nil=>rw [r.nil_inv];rfl
 | cons x l ih =>
   obtain ⟨a,m,rfl,h1,h2⟩:=r.cons_inv;simp only [List.all_cons,Bool.and_eq_true] at h ⊢;exact ⟨h1.leaf h.1,ih h2 h.2⟩
theorem zaf {E:Emb} {x:SV} {a:AV} {cs:List SV} (r:R E x a) (h:cellsS x=some cs):∃ cs',z3i a=some cs' /\ RL E cs cs' /\ cs'.all AV.leaf=true:=by
 have one:x.leaf=true->cs=[x]->∃ cs',z3i a=some cs' /\ RL E cs cs' /\ cs'.all AV.leaf=true:=by
  rintro h1 rfl
  exact ⟨[a],zzj (r.leaf h1),.cons r .nil,by simp [r.leaf h1]⟩
 cases x with
 | junk=>cases h
 | tup l=>cases h
 | agg l =>
   simp only [cellsS] at h;split at h
   · rename_i hl;cases h;cases r with
     | agg h1 h2 =>
       rename_i l';have hr:RL E cs l':=⟨h1,h2⟩;have hl':=hr.leaf hl;exact ⟨l',by simp only [z3i,hl',if_true],hr,hl'⟩
   · cases h
 | _=>exact one rfl (by simpa [cellsS] using h.symm)
theorem z05u (s:ByteArray):(⟨s.data.toList.toArray⟩:ByteArray)=s:=by
 obtain ⟨a⟩:=s;simp
theorem R.str' {E:Emb} (s:ByteArray):R E (.str s.data.toList) (.str s):=by
 have:=R.str (E:=E) s.data.toList;rw [z05u] at this;exact this
theorem zlu {E:Emb} (v:Value):R E (ofLeaf v) (avLeaf v):=by
 unfold ofLeaf;split
 · exact .bool _
 · exact .int _ _
 · exact .str' _
 · exact .nilPtr
 · exact .nilMap
 · exact .nilFunc
 · exact .nilIface
 · split
   · rename_i h;simp only [avLeaf,h,and_self,if_true];exact .fn rfl (fun i a b h=>by simp at h) rfl (fun i a b h=>by simp at h)
   · exact .junk _
 · exact .junk _
theorem zsx {E:Emb} (Γ:Ctx) (ty:TypeId) (v:Value):R E (ofConst Γ ty v) (avOf v):=by
 unfold ofConst;split
 · exact .agg' (RL.mapR (fun x=>zlu x) _)
 · split
   · rename_i h;simp only [avOf,h,if_true];exact .tup' .nil
   · exact .junk _
 · split
   · split
     · exact RT.nil.crows true
     · exact .junk _
   · exact .junk _
 · rename_i h1 h2 h3;have:avOf v=avLeaf v:=by
    cases v <;> first | rfl | (exact absurd rfl (h1 _)) | (exact absurd rfl (h2 _))
   rw [this];exact zlu v
theorem z01 {E:Emb} (Γ:Ctx) {t:List SV} {t':List AV} (ht:RL E t t') (ty:TypeId) (o:Operand):R E (z10 Γ ty t o) (opd t' o):=by
 cases o with
 | tmp i=>exact ht.getD i (.tup' .nil)
 | const v=>exact zsx Γ ty v
 | global g=>exact .junk _
 | func f=>exact .fn rfl (fun i a b h=>by simp at h) rfl (fun i a b h=>by simp at h)
theorem RL.splice {E:Emb} {l cs:List SV} {l' cs':List AV} (r:RL E l l') (q:RL E cs cs') (off:Nat):RL E (spliceS l off cs) (splice l' off cs'):=by
 unfold spliceS Clk.splice;rw [q.1];exact ((r.take off).app q).app (r.drop _)
theorem zhv {E:Emb} {place:Nat->Option (Nat×Nat)}:∀ (ps:List (Nat×SV)) (ps':List (Nat×AV)) (cells:List SV) (cells':List AV) (r:List SV),
 ps.length=ps'.length->(∀ (i:Nat) a b,ps[i]?=some a->ps'[i]?=some b->a.1=b.1 /\ R E a.2 b.2)->RL E cells cells'->fillS place cells ps=some r->∃ r',fillA place cells' ps'=some r' /\ RL E r r'
 | [],[],cells,cells',r,_,_,hc,h=>by cases h;exact ⟨cells',rfl,hc⟩
 | [],_::_,_,_,_,h,_,_,_=>by simp at h
 | _::_,[],_,_,_,h,_,_,_=>by simp at h
 | (i,v)::ps,(i',v')::ps',cells,cells',r,hl,hp,hc,h=>by
   obtain ⟨rfl,hv⟩:=hp 0 _ _ rfl rfl;simp only [fillS] at h;split at h
   · rename_i off size cs h1 h2;split at h
     · rename_i hcond;obtain ⟨cs',h3,h4,_⟩:=zaf hv h2;obtain ⟨r',h5,h6⟩:=zhv ps ps' (spliceS cells off cs) (splice cells' off cs') r (by simpa using hl) (fun j a b q1 q2=>hp (j+1) a b (by simpa using q1) (by simpa using q2)) (hc.splice h4 off) h;refine ⟨r',?_,h6⟩;simp only [fillA];rw [h1,h3];simp only;rw [if_pos ⟨by rw [<- h4.1];exact hcond.1,by rw [<- hc.1];exact hcond.2⟩];exact h5
     · cases h
   · cases h
theorem z60 {E:Emb} {i:TI} {cells:List SV} {cells':List AV} (hc:RL E cells cells') {off:Nat} {v:SV} (h:partS i cells off=some v):∃ v',partA i cells' off=some v' /\ R E v v':=by
 unfold partS at h;unfold partA;split at h
 · rename_i h1;rw [if_pos (by rw [<- hc.1];exact h1)];split at h
   · rename_i h2;rw [if_pos h2];cases h;exact ⟨_,rfl,.agg' ((hc.drop off).take _)⟩
   · rename_i h2;rw [if_neg h2];split at h
     · rename_i h3;rw [if_pos h3];obtain ⟨a,h4,h5⟩:=hc.get h;exact ⟨a,h4,h5⟩
     · cases h
 · cases h
theorem z32 {x:SV} {n:Int} (h:dI x=some n):x=.int .i64 n:=by
 unfold dI at h;split at h
 · cases h;rfl
 · cases h
theorem z0bz {k:IntKind} {x:SV} {n:Int} (h:dInt k x=some n):x=.int k n:=by
 unfold dInt at h;split at h
 · split at h
   · rename_i e;cases h;rw [e]
   · cases h
 · cases h
theorem zag {x:SV} {b:Bool} (h:dBool x=some b):x=.bool b:=by
 unfold dBool at h;split at h
 · cases h;rfl
 · cases h
theorem zl0 {x:SV} {s:Str} (h:dStr x=some s):x=.str s:=by
 unfold dStr at h;split at h
 · cases h;rfl
 · cases h
inductive LeafR (L:(c:TC)->SV->Option (List c.den)):SV->SV->Prop
 | int (k:IntKind) (n:Int):LeafR L (.int k n) (.int k n)
 | bool (b:Bool):LeafR L (.bool b) (.bool b)
 | str (s:Str):LeafR L (.str s) (.str s)
 | lst {x:SV} {c:TC} {xs:List c.den} (h:L c x=some xs):LeafR L x (.lst false c xs)
inductive LeafL (L:(c:TC)->SV->Option (List c.den)):List SV->List SV->Prop
 | nil:LeafL L [] []
 | cons {x z:SV} {l m:List SV} (h:LeafR L x z) (t:LeafL L l m):LeafL L (x::l) (z::m)
theorem zl1 {L:(c:TC)->SV->Option (List c.den)} {l:List SV} {r:Record} (h:dRecord L l=some r):LeafL L l (zgj r):=by
 unfold dRecord at h;split at h
 · split at h
   · rename_i q1 q2 q3 q4;cases h;rw [z32 q1,z32 q2];exact .cons (.int _ _) (.cons (.int _ _) (.cons (.lst q3) (.cons (.lst q4) .nil)))
   · cases h
 · cases h
theorem zo3 {L:(c:TC)->SV->Option (List c.den)} {l:List SV} {r:Command} (h:zja L l=some r):LeafL L l (zcd r):=by
 unfold zja at h;split at h
 · split at h
   · rename_i q1 q2 q3 q4;cases h;rw [z32 q1,z32 q2,z32 q3];exact .cons (.int _ _) (.cons (.int _ _) (.cons (.int _ _) (.cons (.lst q4) .nil)))
   · cases h
 · cases h
theorem z1h {L:(c:TC)->SV->Option (List c.den)} (c:TC) {l:List SV} {y:c.den} (h:z0b L c l=some y):LeafL L l (c.up y):=by
 cases c with
 | int k => simp only [z0b] at h; split at h
            · rw [z0bz h];exact .cons (.int _ _) .nil
            · cases h
 | bool => simp only [z0b] at h; split at h
           · rw [zag h];exact .cons (.bool _) .nil
           · cases h
 | str => simp only [z0b] at h; split at h
          · rw [zl0 h];exact .cons (.str _) .nil
          · cases h
 | list c => simp only [z0b] at h; split at h
             · exact .cons (.lst h) .nil
             · cases h
 | page =>
   simp only [z0b] at h;split at h
   · split at h
     · rename_i q1 q2 q3;cases h;rw [zag q1,zl0 q2,zl0 q3];exact .cons (.bool _) (.cons (.str _) (.cons (.str _) .nil))
     · cases h
   · cases h
 | block =>
   simp only [z0b] at h;split at h
   · split at h
     · rename_i q1 q2 q3 q4;cases h;rw [z32 q2,z32 q3,zag q4];exact .cons (.lst q1) (.cons (.int _ _) (.cons (.int _ _) (.cons (.bool _) .nil)))
     · cases h
   · cases h
 | chip =>
   simp only [z0b] at h;split at h
   · split at h
     · rename_i q1 q2 q3 q4;cases h;rw [zag q2,zag q3,z32 q4];exact .cons (.lst q1) (.cons (.bool _) (.cons (.bool _) (.cons (.int _ _) .nil)))
     · cases h
   · cases h
 | fate =>
   simp only [z0b] at h;split at h
   · split at h
     · rename_i q1 q2 q3 q4;cases h;rw [z32 q1,zl0 q2,zl0 q3,z32 q4];exact .cons (.int _ _) (.cons (.str _) (.cons (.str _) (.cons (.int _ _) .nil)))
     · cases h
   · cases h
 | record=>exact zl1 h
 | found =>
   simp only [z0b] at h;split at h
   · split at h
     · rename_i q1 q2;cases h;rw [z32 q1];exact .cons (.int _ _) (zl1 q2)
     · cases h
   · cases h
 | table =>
   simp only [z0b] at h;split at h
   · split at h
     · rename_i q1 q2;cases h;exact .cons (.lst q1) (.cons (.lst q2) .nil)
     · cases h
   · cases h
 | slot =>
   simp only [z0b] at h;split at h
   · split at h
     · rename_i q1 q2 q3;cases h;rw [z32 q1,z32 q2,z32 q3];exact .cons (.int _ _) (.cons (.int _ _) (.cons (.int _ _) .nil))
     · cases h
   · cases h
 | write =>
   simp only [z0b] at h;split at h
   · split at h
     · rename_i q1 q2;cases h;rw [zl0 q1];exact .cons (.str _) (zl1 q2)
     · cases h
   · cases h
 | command=>exact zo3 h
 | geometry =>
   simp only [z0b] at h;split at h
   · split at h
     · rename_i q1 q2 q3 q4;cases h;rw [z32 q1,z32 q2,z32 q3,z32 q4];exact .cons (.int _ _) (.cons (.int _ _) (.cons (.int _ _) (.cons (.int _ _) .nil)))
     · cases h
   · cases h
 | device =>
   simp only [z0b] at h;split at h
   · split at h
     · rename_i q1 q2 q3 q4 q5 q6 q7 q8 q9 q10 q11 q12;cases h;rw [z32 q1,z32 q2,z32 q3,z32 q4,zag q6,zag q7,z32 q8,z32 q11,z32 q12];exact .cons (.int _ _) (.cons (.int _ _) (.cons (.int _ _) (.cons (.int _ _) (.cons (.lst q5) (.cons (.bool _) (.cons (.bool _) (.cons (.int _ _) (.cons (.lst q9) (.cons (.lst q10) (.cons (.int _ _) (.cons (.int _ _) .nil)))))))))))
     · cases h
   · cases h
 | answer =>
   simp only [z0b] at h;split at h
   · split at h
     · rename_i q1 q2;cases h;rw [z32 q1];exact .cons (.int _ _) (.cons (.lst q2) .nil)
     · cases h
   · cases h
 | event =>
   simp only [z0b] at h;split at h
   · split at h
     · rename_i q1 q2;cases h;have:=zo3 q1;show LeafL L _ (zcd _++[_]);cases this with
       | cons a t=>cases t with
         | cons b t=>cases t with
           | cons c t=>cases t with
             | cons d t=>cases t with
               | nil=>exact .cons a (.cons b (.cons c (.cons d (.cons (.lst q2) .nil))))
     · cases h
   · cases h
 | report =>
   simp only [z0b] at h;split at h
   · split at h
     · rename_i q1 q2 q3 q4 q5 q6 q7;cases h;rw [z32 q1,z32 q2,z32 q3,z32 q4,z32 q5,z32 q6,zag q7];exact .cons (.int _ _) (.cons (.int _ _) (.cons (.int _ _) (.cons (.int _ _) (.cons (.int _ _) (.cons (.int _ _) (.cons (.bool _) .nil))))))
     · cases h
   · cases h
 | rank =>
   simp only [z0b] at h;split at h
   · split at h
     · rename_i q1 q2;cases h;rw [z32 q1,z32 q2];exact .cons (.int _ _) (.cons (.int _ _) .nil)
     · cases h
   · cases h
theorem z1i {c' c:TC} {xs:List c'.den} {ys:List c.den} (h:TC.cast c' c xs=some ys):c'=c /\ HEq xs ys:=by
 unfold TC.cast at h;split at h
 · rename_i e;subst e;cases h;exact ⟨rfl,HEq.rfl⟩
 · cases h
theorem z0da {E:Emb} {c:TC} {x:SV} {a:AV} {xs:List c.den} (h:dImm c x=some xs) (r:R E x a):R E (.lst false c xs) a:=by
 unfold dImm at h;split at h
 · obtain ⟨rfl,hh⟩:=z1i h;cases hh;obtain ⟨l,h1,h2,_⟩:=r.lst_inv;rcases h2 with rfl | rfl
   · exact h1.rows
   · exact h1.crows _
 · cases h
theorem LeafL.imm {E:Emb} {l m:List SV} {l':List AV} (h:LeafL dImm l m) (r:RL E l l'):RL E m l':=by
 induction h generalizing l' with
 | nil=>exact r
 | cons h t ih =>
   obtain ⟨a,k,rfl,h1,h2⟩:=r.cons_inv;refine .cons ?_ (ih h2);cases h with
   | int=>exact h1
   | bool=>exact h1
   | str=>exact h1
   | lst h=>exact z0da h h1
theorem z61 {E:Emb} (c:TC) {l:List SV} {l':List AV} {y:c.den} (h:z0b dImm c l=some y) (r:RL E l l'):RL E (c.up y) l':=(z1h c h).imm r
theorem zgl {α β:Type} {f:α->Option β}:∀ {l:List α} {m:List β},mapO f l=some m->l.length=m.length /\ ∀ (i:Nat) a b,l[i]?=some a->m[i]?=some b->f a=some b
 | [],m,h=>by cases h;exact ⟨rfl,fun i a b h=>by simp at h⟩
 | x::l,m,h=>by
   simp only [mapO] at h;split at h
   · rename_i y ys h1 h2;cases h;obtain ⟨g1,g2⟩:=zgl h2;refine ⟨by simp [g1],fun i a b q1 q2=>?_⟩;cases i with
     | zero=>simp at q1 q2;subst q1 q2;exact h1
     | succ i=>simp at q1 q2;exact g2 i a b q1 q2
   · cases h
theorem HR.blk {E:Emb} {SH:List SO} {HA:List AO} (h:HR E SH HA) {s v:Nat} {c:TC} {live:Bool} {xs:List c.den} (hs:SH.getD s .dead=.blk c v live xs) :
 (E[s]?=some (.un v) /\ xs=[] /\ live=live) \/ ∃ p off cur len rows,E[s]?=some (.al p off cur len) /\ (cur:Int)=v+off /\ len cur=xs.length /\ HA.getD p .none=.blk c.size cur live rows /\ RT E c xs rows:=by
 obtain ⟨e,h1,h2,h3⟩:=h.get hs (by simp);cases e with
 | no=>exact h3.elim
 | gone=>exact h3.elim
 | un cur=>obtain ⟨rfl,g2,g3⟩:=h3;exact .inl ⟨h1,g2,g3⟩
 | al p off cur len=>obtain ⟨g1,g2,rows,g3,g4⟩:=h3;exact .inr ⟨p,off,cur,len,rows,h1,g1,g2,g3,g4⟩
 | ob=>exact h3.elim
 | ow=>exact h3.elim
theorem R.bref_inv {E:Emb} {SH:List SO} {HA:List AO} (h:HR E SH HA) {s v:Nat} {c:TC} {live:Bool} {xs:List c.den} {a:AV} (hs:SH.getD s .dead=.blk c v live xs) (r:R E (.bref s v) a) :
 (E[s]?=some (.un v) /\ xs=[] /\ live=live /\ a=.crows []) \/ ∃ p off cur len rows,E[s]?=some (.al p off cur len) /\ (cur:Int)=v+off /\ len cur=xs.length /\ HA.getD p .none=.blk c.size cur live rows /\ RT E c xs rows /\ rows.length=xs.length /\ a=.ref p cur 0 xs.length:=by
 rcases h.blk hs with ⟨h1,h2,h3⟩ | ⟨p,off,cur,len,rows,h1,h2,h3,h4,h5⟩
 · cases r with
   | bref hE=>rw [h1] at hE;cases hE
   | bun=>exact .inl ⟨h1,h2,h3,rfl⟩
   | bnil hE=>rw [h1] at hE;cases hE
   | obref hE=>rw [h1] at hE;cases hE
   | obnil hE=>rw [h1] at hE;cases hE
   | gbref hE=>rw [h1] at hE;cases hE
 · right;cases r with
   | bref hE hu hle =>
     rw [h1] at hE;cases hE;have hcu:=Int.ofNat_inj.1 (h2.trans hu.symm);subst hcu;exact ⟨_,_,_,_,rows,h1,h2,h3,h4,h5,(RT.iff.1 h5).1,by rw [h3]⟩
   | bun hE=>rw [h1] at hE;cases hE
   | bnil hE hn=>rw [h1] at hE;cases hE;omega
   | obref hE=>rw [h1] at hE;cases hE
   | obnil hE=>rw [h1] at hE;cases hE
   | gbref hE=>rw [h1] at hE;cases hE
theorem R.ref_inv {E:Emb} {SH:List SO} {HA:List AO} (h:HR E SH HA) {s v o n:Nat} {c:TC} {live:Bool} {xs:List c.den} {a:AV} (hs:SH.getD s .dead=.blk c v live xs) (r:R E (.ref s v o n) a) :
 (E[s]?=some (.un v) /\ xs=[] /\ live=live /\ n=0 /\ a=.rows []) \/ ∃ p off cur len rows,E[s]?=some (.al p off cur len) /\ (cur:Int)=v+off /\ len cur=xs.length /\ HA.getD p .none=.blk c.size cur live rows /\ RT E c xs rows /\ rows.length=xs.length /\ a=.ref p cur o n /\ o+n<=rows.length:=by
 cases r with
 | ref hE hu hle hn =>
   rcases h.blk hs with ⟨h1,h2,h3⟩ | ⟨p,off,cur,len,rows,h1,h2,h3,h4,h5⟩
   · rw [h1] at hE;cases hE
   · rw [h1] at hE;cases hE;have hcu:=Int.ofNat_inj.1 (h2.trans hu.symm);subst hcu;exact .inr ⟨_,_,_,_,rows,h1,h2,h3,h4,h5,(RT.iff.1 h5).1,rfl,by rw [(RT.iff.1 h5).1,<- h3];exact hn⟩
 | run hE hle hn =>
   rcases h.blk hs with ⟨h1,h2,h3⟩ | ⟨p,off,cur,len,rows,h1,h2,h3,h4,h5⟩
   · exact .inl ⟨h1,h2,h3,hn,rfl⟩
   · rw [h1] at hE;cases hE
 | rnil hE hh hn =>
   rcases h.blk hs with ⟨h1,h2,h3⟩ | ⟨p,off,cur,len,rows,h1,h2,h3,h4,h5⟩
   · rw [h1] at hE;cases hE
   · rw [h1] at hE;cases hE;omega
 | oref hE =>
   rcases h.blk hs with ⟨h1,h2,h3⟩ | ⟨p,off,cur,len,rows,h1,h2,h3,h4,h5⟩ <;> (rw [h1] at hE;cases hE)
 | ornil hE =>
   rcases h.blk hs with ⟨h1,h2,h3⟩ | ⟨p,off,cur,len,rows,h1,h2,h3,h4,h5⟩ <;> (rw [h1] at hE;cases hE)
 | gref hE =>
   rcases h.blk hs with ⟨h1,h2,h3⟩ | ⟨p,off,cur,len,rows,h1,h2,h3,h4,h5⟩ <;> (rw [h1] at hE;cases hE)
 | grun hE =>
   rcases h.blk hs with ⟨h1,h2,h3⟩ | ⟨p,off,cur,len,rows,h1,h2,h3,h4,h5⟩ <;> (rw [h1] at hE;cases hE)
theorem R.ptr_inv {E:Emb} {SH:List SO} {HA:List AO} (h:HR E SH HA) {s v i j:Nat} {c:TC} {live:Bool} {xs:List c.den} {a:AV} (hs:SH.getD s .dead=.blk c v live xs) (r:R E (.ptr s v i j) a) :
 ∃ p off cur len rows,E[s]?=some (.al p off cur len) /\ (cur:Int)=v+off /\ len cur=xs.length /\ HA.getD p .none=.blk c.size cur live rows /\ RT E c xs rows /\ rows.length=xs.length /\ a=.ptr p cur i j:=by
 cases r with
 | ptr hE hu =>
   rcases h.blk hs with ⟨h1,h2,h3⟩ | ⟨p,off,cur,len,rows,h1,h2,h3,h4,h5⟩
   · rw [h1] at hE;cases hE
   · rw [h1] at hE;cases hE;have hcu:=Int.ofNat_inj.1 (h2.trans hu.symm);subst hcu;exact ⟨_,_,_,_,rows,h1,h2,h3,h4,h5,(RT.iff.1 h5).1,rfl⟩
 | optr hE =>
   rcases h.blk hs with ⟨h1,h2,h3⟩ | ⟨p,off,cur,len,rows,h1,h2,h3,h4,h5⟩ <;> (rw [h1] at hE;cases hE)
 | gptr hE =>
   rcases h.blk hs with ⟨h1,h2,h3⟩ | ⟨p,off,cur,len,rows,h1,h2,h3,h4,h5⟩ <;> (rw [h1] at hE;cases hE)
theorem HR.raw {E:Emb} {SH:List SO} {HA:List AO} (h:HR E SH HA) {s k:Nat} {live:Bool} {rows:List (List SV)} (hs:SH.getD s .dead=.raw k live rows) :
 ∃ p len rows',E[s]?=some (.al p 0 0 len) /\ len 0=rows.length /\ HA.getD p .none=.blk k 0 live rows' /\ rows.length=rows'.length /\ ∀ (i:Nat) r r',rows[i]?=some r->rows'[i]?=some r'->RL E r r' /\ r'.length=k:=by
 obtain ⟨e,h1,h2,h3⟩:=h.get hs (by simp);cases e with
 | no=>exact h3.elim
 | gone=>exact h3.elim
 | un cur=>exact h3.elim
 | al p off cur len =>
   obtain ⟨rfl,rfl,g1,rows',g2,g3,g4⟩:=h3;exact ⟨p,len,rows',h1,g1,g2,g3,g4⟩
 | ob=>exact h3.elim
 | ow=>exact h3.elim
theorem z92 {E:Emb} {SH:List SO} {HA:List AO} (h:HR E SH HA) {c:TC} {x:SV} {a:AV} {ys:List c.den} (hd:dRows SH c x=some ys) (r:R E x a) :
 ∃ rows,z1m HA a=some rows /\ RT E c ys rows:=by
 unfold dRows at hd;split at hd
 · obtain ⟨rfl,hh⟩:=z1i hd;cases hh;obtain ⟨l,h1,h2,_⟩:=r.lst_inv;rcases h2 with rfl | rfl <;> exact ⟨l,rfl,h1⟩
 · split at hd
   · rename_i hs;split at hd
     · rename_i hv;subst hv;obtain ⟨rfl,hh⟩:=z1i hd;cases hh;rcases r.bref_inv h hs with ⟨_,rfl,_,rfl⟩ | ⟨p,off,cur,len,rows,g1,g2,g3,g4,g5,g6,rfl⟩
       · exact ⟨[],rfl,.nil⟩
       · refine ⟨rows,?_,g5⟩;simp only [z1m];rw [g4];simp only;rw [if_pos (by simp;omega)];simp [<- g6]
     · cases hd
   · cases hd
 · rename_i s0 v0 o0 n0;split at hd
   · rename_i hs;split at hd
     · rename_i hv;subst hv;obtain ⟨rfl,hh⟩:=z1i hd;cases hh;rcases r.ref_inv h hs with ⟨_,rfl,_,rfl,rfl⟩ | ⟨p,off,cur,len,rows,g1,g2,g3,g4,g5,g6,rfl,g7⟩
       · exact ⟨[],rfl,by rw [List.take_zero];exact .nil⟩
       · refine ⟨_,?_,(g5.drop _).take _⟩;simp only [z1m];rw [g4];simp only;rw [if_pos (by simp;omega)]
     · cases hd
   · rename_i hs;split at hd
     · rename_i hv;obtain ⟨rfl,hv⟩:=hv;obtain ⟨p,len,rows',g1,g2,g3,g4,g5⟩:=h.raw hs;cases r with
       | ref hE hu hle hn =>
         rw [g1] at hE;cases hE;have hu0:_=0:=Int.ofNat_inj.1 (hu.trans (by simp):_=((0:Nat):Int));subst hu0;refine ⟨(rows'.drop o0).take n0,?_,?_⟩
         · simp only [z1m];rw [g3];simp only;rw [if_pos (by simp;omega)]
         · obtain ⟨q1,q2⟩:=zgl hd;rw [RT.iff];refine ⟨by rw [<- q1];simp [g4],fun i x row k1 k2=>?_⟩;have hi:=(zG.1 k1).1;rw [<- q1] at hi;have k3:=zH hi;have k4:=q2 i _ _ k3 k1;rw [List.getElem?_take] at k2 k3;split at k2
           · rename_i hlt;rw [if_pos hlt] at k3;rw [List.getElem?_drop] at k2 k3;exact z61 c k4 (g5 _ _ _ k3 k2).1
           · cases k2
       | run hE hle hn=>rw [g1] at hE;cases hE
       | rnil hE hh hn=>rw [g1] at hE;cases hE;omega
       | oref hE=>rw [g1] at hE;cases hE
       | ornil hE=>rw [g1] at hE;cases hE
       | gref hE=>rw [g1] at hE;cases hE
       | grun hE=>rw [g1] at hE;cases hE
     · cases hd
   · cases hd
 · cases hd
theorem HR.nst {E:Emb} {SH:List SO} {HA:List AO} (h:HR E SH HA) {s v:Nat} {pv live:Bool} {xs:List Block} {ex:List (Nat×Nat)} (hs:SH.getD s .dead=.nst pv v live xs ex) :
 (E[s]?=some (.un v) /\ xs=[] /\ ex=[]) \/ ∃ e p off cur len qf,E[s]?=some e /\ ((e=.al p off cur len /\ qf=fun _=>none) \/ e=.ow p off cur len qf) /\ ORN E HA p off cur len qf pv v live xs ex:=by
 obtain ⟨e,h1,h2,h3⟩:=h.get hs (by simp);cases e with
 | no=>exact h3.elim
 | gone=>exact h3.elim
 | un cur=>obtain ⟨rfl,g2,g3⟩:=h3;exact .inl ⟨h1,g2,g3⟩
 | al p off cur len=>exact .inr ⟨_,p,off,cur,len,_,h1,.inl ⟨rfl,rfl⟩,h3⟩
 | ow p off cur len qf=>exact .inr ⟨_,p,off,cur,len,_,h1,.inr rfl,h3⟩
 | ob=>exact h3.elim
theorem R.bref_nst {E:Emb} {SH:List SO} {HA:List AO} (h:HR E SH HA) {s v:Nat} {pv live:Bool} {xs:List Block} {ex:List (Nat×Nat)} {a:AV} (hs:SH.getD s .dead=.nst pv v live xs ex) (r:R E (.bref s v) a) :
 (E[s]?=some (.un v) /\ xs=[] /\ ex=[] /\ a=.crows []) \/ ∃ e p off cur len qf,E[s]?=some e /\ ((e=.al p off cur len /\ qf=fun _=>none) \/ e=.ow p off cur len qf) /\ ORN E HA p off cur len qf pv v live xs ex /\ a=.ref p cur 0 xs.length:=by
 rcases h.nst hs with ⟨h1,h2,h3⟩ | ⟨e,p,off,cur,len,qf,h1,h2,h3⟩
 · cases r with
   | bref hE=>rw [h1] at hE;cases hE
   | bun=>exact .inl ⟨h1,h2,h3,rfl⟩
   | bnil hE=>rw [h1] at hE;cases hE
   | obref hE=>rw [h1] at hE;cases hE
   | obnil hE=>rw [h1] at hE;cases hE
   | gbref hE=>rw [h1] at hE;cases hE
 · right;have h3':=h3;obtain ⟨g1,g2,_⟩:=h3';refine ⟨e,p,off,cur,len,qf,h1,h2,h3,?_⟩;rcases h2 with ⟨rfl,_⟩ | rfl
   · cases r with
     | bref hE hu hle =>
       rw [h1] at hE;cases hE;have hcu:=Int.ofNat_inj.1 (g1.trans hu.symm);subst hcu;rw [g2]
     | bun hE=>rw [h1] at hE;cases hE
     | bnil hE hn=>rw [h1] at hE;cases hE;omega
     | obref hE=>rw [h1] at hE;cases hE
     | obnil hE=>rw [h1] at hE;cases hE
     | gbref hE=>rw [h1] at hE;cases hE
   · cases r with
     | obref hE hu hle =>
       rw [h1] at hE;cases hE;have hcu:=Int.ofNat_inj.1 (g1.trans hu.symm);subst hcu;rw [g2]
     | bun hE=>rw [h1] at hE;cases hE
     | obnil hE hn=>rw [h1] at hE;cases hE;omega
     | bref hE=>rw [h1] at hE;cases hE
     | bnil hE=>rw [h1] at hE;cases hE
     | gbref hE=>rw [h1] at hE;cases hE
theorem R.ptr_nst {E:Emb} {SH:List SO} {HA:List AO} (h:HR E SH HA) {s v i j:Nat} {pv live:Bool} {xs:List Block} {ex:List (Nat×Nat)} {a:AV} (hs:SH.getD s .dead=.nst pv v live xs ex) (r:R E (.ptr s v i j) a) :
 ∃ e p off cur len qf,E[s]?=some e /\ ((e=.al p off cur len /\ qf=fun _=>none) \/ e=.ow p off cur len qf) /\ ORN E HA p off cur len qf pv v live xs ex /\ a=.ptr p cur i j:=by
 rcases h.nst hs with ⟨h1,h2,h3⟩ | ⟨e,p,off,cur,len,qf,h1,h2,h3⟩
 · cases r with
   | ptr hE=>rw [h1] at hE;cases hE
   | optr hE=>rw [h1] at hE;cases hE
   | gptr hE=>rw [h1] at hE;cases hE
 · have h3':=h3;obtain ⟨g1,g2,_⟩:=h3';refine ⟨e,p,off,cur,len,qf,h1,h2,h3,?_⟩;rcases h2 with ⟨rfl,_⟩ | rfl
   · cases r with
     | ptr hE hu =>
       rw [h1] at hE;cases hE;have hcu:=Int.ofNat_inj.1 (g1.trans hu.symm);subst hcu;rfl
     | optr hE=>rw [h1] at hE;cases hE
     | gptr hE=>rw [h1] at hE;cases hE
   · cases r with
     | optr hE hu =>
       rw [h1] at hE;cases hE;have hcu:=Int.ofNat_inj.1 (g1.trans hu.symm);subst hcu;rfl
     | ptr hE=>rw [h1] at hE;cases hE
     | gptr hE=>rw [h1] at hE;cases hE
end Clk
