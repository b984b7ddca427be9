/- A part of the proof of ReportSums: an evaluator of the program's code that the kernel runs, its soundness, what the functions compute. -/
import Derived.Test.YtbdmoijmcondcaaGreatPartB
set_option linter.unusedVariables false
set_option linter.unusedSimpArgs false
set_option maxRecDepth 1000000
namespace Clk
open Go
section
variable {P:Program} {Γ:Ctx} {E:Emb} {SH:List SO} {HA:List AO}
theorem zcd {x:Option SV} {as:List Bool} {v:SV} {ch:Option (Nat×SO)} (h:okO x=some (as,v,ch)):x=some v /\ as=[] /\ ch=none:=by
 unfold okO at h;split at h
 · cases h;exact ⟨rfl,rfl,rfl⟩
 · cases h
theorem zgx {x:SV} {as:List Bool} {v:SV} {ch:Option (Nat×SO)} (h:okV x=some (as,v,ch)):x=v /\ as=[] /\ ch=none:=by
 cases h;exact ⟨rfl,rfl,rfl⟩
theorem z03i {qf:Nat->Option (Nat×Nat)} {pv live:Bool} {ex:List (Nat×Nat)} {i j:Nat} {x:Block} {row:List AV} (h:zgw E HA qf pv live ex i x row) (ha:∀ b∈askN ex i j,b=true):RL E (cellsN ex j x) row:=by
 obtain ⟨c0,rest,rfl,h1,h2⟩:=h;refine .cons ?_ h1;unfold askN at ha;by_cases hj:j=0
 · rw [if_pos hj] at ha ⊢;cases ex with
   | nil=>exact .junk c0
   | cons y ex =>
     obtain ⟨i0,s⟩:=y;have hi:i0=i:=by have:=ha _ (List.mem_singleton.2 rfl);simpa using this
     simp only;rcases h2 with ⟨s2,g1,g2⟩ | ⟨g1,_⟩ | ⟨g1,_⟩
     · unfold exAt at g1;rw [if_pos hi] at g1;cases g1;exact g2
     · unfold exAt at g1;rw [if_pos hi] at g1;cases g1
     · unfold exAt at g1;rw [if_pos hi] at g1;cases g1
 · rw [if_neg hj];exact .junk c0
theorem zny (hΓ:CtxOk P Γ) (hr:HR E SH HA) {t:TypeId} {x v:SV} {a:AV} {as:List Bool} {ch:Option (Nat×SO)} (h:loadS Γ SH t x=some (as,v,ch)) (r:R E x a) (has:∀ b∈as,b=true) :
 ch=none /\ ∃ v',loadA P HA t a=some v' /\ R E v v':=by
 unfold loadS at h;split at h
 · split at h
   · rename_i i hi;obtain ⟨h1,rfl,rfl⟩:=zcd h;cases r with
     | iptr g1 g2 =>
       obtain ⟨v',h3,h4⟩:=z63 (E:=E) ⟨g1,g2⟩ h1;exact ⟨rfl,v',by simp only [loadA,hΓ.ti _ _ hi];exact h3,h4⟩
   · cases h
 · rename_i s v0 i j;split at h
   · rename_i ty live0 k0 rows hty hs;split at h
     · cases h
     · rename_i hk;split at h
       · rename_i row hrow;obtain ⟨h1,rfl,rfl⟩:=zcd h;obtain ⟨p,len,rows',g1,g2,g3,g4,g5⟩:=hr.raw hs;cases r with
         | optr hE=>rw [g1] at hE;cases hE
         | gptr hE=>rw [g1] at hE;cases hE
         | ptr hE hu =>
           rw [g1] at hE;cases hE;have hu0:_=0:=Int.ofNat_inj.1 (hu.trans (by simp):_=((0:Nat):Int));subst hu0;have hil:i<rows'.length:=by rw [<- g4];exact (zG.1 hrow).1
           have hrow':=zH hil;obtain ⟨v',h3,h4⟩:=z63 (g5 i _ _ hrow hrow').1 h1;refine ⟨rfl,v',?_,h4⟩;simp only [loadA,hΓ.ti _ _ hty,g3];rw [if_pos trivial];cases hkk:ty.kind with
           | array n e=>exact absurd hkk (hk n e)
           | _=>simp only [hrow'];exact h3
       · cases h
   · rename_i ty c v' live xs hty hs;split at h
     · cases h
     · rename_i hk;split at h
       · rename_i hv;subst hv;split at h
         · rename_i x1 h1;cases h;obtain ⟨p,off,cur,len,rows,g1,g2,g3,g4,g5,g6,rfl⟩:=r.ptr_inv hr hs;have hi:i<xs.length:=by have:=has _ (List.mem_singleton.2 rfl);simpa using this
           obtain ⟨row,hrow,hrr⟩:=g5.get hi;obtain ⟨v',h3,h4⟩:=z63 hrr h1;refine ⟨rfl,v',?_,h4⟩;simp only [loadA,hΓ.ti _ _ hty,g4];rw [if_pos trivial];cases hkk:ty.kind with
           | array n e=>exact absurd hkk (hk n e)
           | _=>simp only [hrow];exact h3
         · cases h
       · cases h
   · rename_i ty pv v' live xs ex hty hs;split at h
     · cases h
     · rename_i hk;split at h
       · rename_i hv;subst hv;split at h
         · rename_i x1 h1;cases h;obtain ⟨e,p,off,cur,len,qf,g1,g2,⟨k1,k2,k3,k4,rows,g4,g5,g6⟩,rfl⟩:=r.ptr_nst hr hs;have hi:i<xs.length:=by have:=has _ (List.mem_cons_self);simpa using this
           have hxi:=zH hi;have hri:=zH (show i<rows.length by rw [g5];exact hi);have hrow:=g6 i _ _ hxi hri;have hgd:xs.getD i TC.block.zero=xs[i]:=by simp [zI,hxi]
           rw [hgd] at h1;obtain ⟨v',h3,h4⟩:=z63 (z03i hrow fun b hb=>has b (List.mem_cons_of_mem _ hb)) h1;refine ⟨rfl,v',?_,h4⟩;simp only [loadA,hΓ.ti _ _ hty,g4];rw [if_pos trivial];cases hkk:ty.kind with
           | array n e=>exact absurd hkk (hk n e)
           | _=>simp only [hri];exact h3
         · cases h
       · cases h
   · cases h
 · cases h
theorem HR.setRow (hr:HR E SH HA) {s p cur v i:Nat} {off:Int} {len:Nat->Nat} {c:TC} {xs:List c.den} {rows:List (List AV)} {y:c.den} {row:List AV} {live:Bool}
 (g1:E[s]?=some (.al p off cur len)) (g2:(cur:Int)=v+off) (g3:len cur=xs.length) (g5:RT E c xs rows) (hy:RL E (c.up y) row) :
 HR (E.set s (.al p off cur len)) (z3o SH (some (s,.blk c v live (xs.set i y)))) (zi HA (some (p,.blk c.size cur live (rows.set i row)))) /\ ELe E (E.set s (.al p off cur len)) /\ (E.set s (.al p off cur len))[s]?=some (.al p off cur len) /\ ∀ s2,s2≠s->(E.set s (.al p off cur len))[s2]?=E[s2]?:=by
 have hpl:=hr.lt s _ p g1 rfl;refine hr.chg g1 (.refl _) rfl (fun _ h=>h) fun hE=>⟨g2,by simp [g3],_,?_,(g5.set i hy).mono hE⟩
 rw [zp,if_pos ⟨rfl,hpl⟩]
theorem z3q {v:SV} {v':AV} {slot s p k2 v2:Nat} {l2:Bool} {r2:List (List AV)} {o:SO} {e:EI} {E':Emb} (h:HR E' (z3o SH (some (s,o))) (zi HA (some (p,.blk k2 v2 l2 r2))) /\ ELe E E' /\ E'[s]?=some e /\ ∀ s2,s2≠s->E'[s2]?=E[s2]?) (hp:e.alAt p)
 (hq:∀ q,e.at q->(∃ e0:EI,E[s]?=some e0 /\ e0.at q) \/ q=slot) (hv:R E' v v'):Did E SH HA slot v (some (s,o)) v' (some (p,.blk k2 v2 l2 r2)) :=
 ⟨E',h.2.1,h.1,hv,(fun hx=>by cases hx),(fun i o' hx=>by cases hx;exact .inr ⟨p,_,e,rfl,h.2.2.1,hp⟩),(fun q a hx=>by cases hx;exact ⟨_,_,_,_,rfl⟩),(fun s2 hs=>h.2.2.2 s2 (hs _ _ rfl)),fun s2 e2 q h1 h2=>by
  by_cases hs:s2=s
  · subst hs;rw [h.2.2.1] at h1;cases h1;exact hq q h2
  · rw [h.2.2.2 s2 hs] at h1;exact .inl ⟨e2,h1,h2⟩⟩
def storeA (P:Program) (HA:List AO) (ty:TypeId) (a x:AV):Res :=
 match a,z3k x,ti P ty with
 | .ptr b v i j,some cs,some ty=>match HA.getD b .none with
   | .blk k v' true rows=>match rows[i]?,ty.kind with
     | some _,.array _ _=>none
     | some row,_=>if v=v' /\ cs.length=ty.size /\ j+cs.length<=row.length /\ cs.all AV.leaf then some (.tup [],some (b,.blk k v true (rows.set i (splice row j cs)))) else none
     | none,_=>none
   | _=>none
 | _,_,_=>none
theorem zze {i s k:Nat} {ex:List (Nat×Nat)} (h:k≠i):exAt ((i,s)::ex) k=exAt ex k:=by
 show (if i=k then some s else exAt ex k)=exAt ex k;rw [if_neg fun e=>h e.symm]
theorem zgw.ex' {qf:Nat->Option (Nat×Nat)} {pv live:Bool} {ex ex':List (Nat×Nat)} {i:Nat} {x:Block} {row:List AV} (h:zgw E HA qf pv live ex i x row) (he:exAt ex' i=exAt ex i):zgw E HA qf pv live ex' i x row:=by
 obtain ⟨c0,rest,e,h1,h2⟩:=h;exact ⟨c0,rest,e,h1,by rw [he];exact h2⟩
theorem z05o {E':Emb} (hE:ELe E E') {p cur v i:Nat} {off:Int} {len:Nat->Nat} {qf:Nat->Option (Nat×Nat)} {pv live:Bool} {xs:List Block} {ex ex':List (Nat×Nat)} {rows:List (List AV)} {x':Block} {row':List AV}
 (k1:(cur:Int)=v+off) (k2:len cur=xs.length) (k3:∀ i u,qf i≠some (p,u)) (k4:∀ i j q u u',qf i=some (q,u)->qf j=some (q,u')->i=j) (k5:rows.length=xs.length)
 (k6:∀ (i:Nat) x row,xs[i]?=some x->rows[i]?=some row->zgw E HA qf pv live ex i x row) (hpl:p<HA.length) (hex:∀ k,k≠i->exAt ex' k=exAt ex k) (hn:zgw E HA qf pv live ex' i x' row') :
 ORN E' (HA.set p (.blk 4 cur live (rows.set i row'))) p off cur len qf pv v live (xs.set i x') ex':=by
 refine ⟨k1,by simpa using k2,k3,k4,rows.set i row',by rw [zp,if_pos ⟨rfl,hpl⟩],by simpa using k5,fun k x row h1 h2=>?_⟩;have hq:∀ i q u,qf i=some (q,u)->(HA.set p (.blk 4 cur live (rows.set i row'))).getD q .none=HA.getD q .none:=fun j q u hj=>by
  rw [zp,if_neg];rintro ⟨rfl,_⟩;exact k3 j u hj
 have hq':∀ j q u,qf j=some (q,u)->(HA.set p (.blk 4 cur live (rows.set i row'))).getD q .none=HA.getD q .none:=fun j q u hj=>by
  rw [zp,if_neg];rintro ⟨rfl,_⟩;exact k3 j u hj
 rw [List.getElem?_set] at h1 h2;by_cases hk:i=k
 · subst hk;rw [if_pos rfl] at h1 h2;split at h1
   · rename_i hl;rw [if_pos (by rw [k5];exact hl)] at h2;cases h1;cases h2;exact hn.mono hE hq'
   · cases h1
 · rw [if_neg hk] at h1 h2;exact ((k6 k x row h1 h2).ex' (hex k fun e=>hk e.symm)).mono hE hq'
theorem zvu {pg:List Page} {l1:List SV} {y:Block} (h:z0c dImm .block (svL .page pg::l1)=some y):y.pages=pg:=by
 simp only [z0c] at h;split at h
 · rename_i a b c d e;injection e with e1 e2
   subst e1;split at h
   · rename_i a' b' c' d' h1 h2 h3 h4;cases h;have:dImm .page (svL .page pg)=some pg:=rfl;rw [this] at h1;exact (Option.some.inj h1).symm
   · cases h
 · cases h
theorem zlp {j:Nat} {cs:List SV} {s2:Nat} (h:zj4 j cs=some s2):j=0 /\ cs=[.bref s2 0]:=by
 unfold zj4 at h;split at h
 · cases h;exact ⟨rfl,rfl⟩
 · cases h
theorem zrm {qf:Nat->Option (Nat×Nat)} {pv live:Bool} {ex:List (Nat×Nat)} {i s2:Nat} {x:Block} {row:List AV} {c:AV} (h:zgw E HA qf pv live ex i x row) (hc:R E (.bref s2 0) c):zgw E HA qf pv live ((i,s2)::ex) i x (splice row 0 [c]):=by
 obtain ⟨c0,rest,rfl,h1,h2⟩:=h;refine ⟨c,rest,by simp [splice],h1,.inl ⟨s2,by unfold exAt;rw [if_pos rfl],hc⟩⟩
def pageA (p:Page):List AV:=[.bool p.written,.str ⟨p.data.toArray⟩,.str ⟨p.tag.toArray⟩]
theorem pagesRT:∀ (l:List Page),RT E .page l (l.map pageA)
 | []=>.nil
 | p::l=>RT.cons (.cons (.bool _) (.cons (.str _) (.cons (.str _) .nil))) (pagesRT l)
theorem zq3 {qf:Nat->Option (Nat×Nat)} {pv live:Bool} {ex:List (Nat×Nat)} {i j:Nat} {x y:Block} {row:List AV} {cs:List SV} {cs':List AV} (h:zgw E HA qf pv live ex i x row) (hc:RL E cs cs')
 (hy:z0c dImm .block (svL .page x.pages::spliceS [svI x.next,svI x.erases,.bool x.bad] j cs)=some y):zgw E HA qf pv live ex i y (splice row (j+1) cs'):=by
 obtain ⟨c0,rest,rfl,h1,h2⟩:=h;have hp:=zvu hy;have h3:=z64 (E:=E) .block hy (RL.cons (RT.rows (pagesRT x.pages)) (h1.splice hc j));obtain ⟨_,_,e,_,h4⟩:=h3.cons_inv;injection e with _ e2
 subst e2;exact ⟨c0,_,by simp only [splice,List.take_succ_cons,List.cons_append,show j+1+cs'.length=(j+cs'.length)+1 by omega,List.drop_succ_cons],h4,by rw [hp];exact h2⟩
theorem zvv (hΓ:CtxOk P Γ) (hr:HR E SH HA) {slot:Nat} {t:TypeId} {x y v:SV} {a b:AV} {as:List Bool} {ch:Option (Nat×SO)} (h:storeS Γ SH t x y=some (as,v,ch)) (r:R E x a) (q:R E y b) (has:∀ b∈as,b=true) :
 ∃ v' ch',storeA P HA t a b=some (v',ch') /\ Did E SH HA slot v ch v' ch':=by
 unfold storeS at h;split at h
 · rename_i s v0 i j cs ty hcs hty;obtain ⟨cs',hc1,hc2,hc3⟩:=zae q hcs;split at h
   · cases h
   · rename_i hk;split at h
     · rename_i k rows hs;split at h
       · rename_i row hrow;split at h
         · rename_i hcond;cases h;obtain ⟨p,len,rows',g1,g2,g3,g4,g5⟩:=hr.raw hs;cases r with
           | optr hE=>rw [g1] at hE;cases hE
           | gptr hE=>rw [g1] at hE;cases hE
           | ptr hE hu =>
             rw [g1] at hE;cases hE;have hu0:_=0:=Int.ofNat_inj.1 (hu.trans (by simp):_=((0:Nat):Int));subst hu0;have hil:i<rows'.length:=by rw [<- g4];exact (zG.1 hrow).1
             have hrow':=zH hil;have hrr:=(g5 i _ _ hrow hrow').1;have hpl:=hr.lt s _ p g1 rfl;refine ⟨.tup [],some (p,.blk k 0 true (rows'.set i (splice rows'[i] j cs'))),?_,z3q (hr.chg g1 (.refl _) rfl (fun _ h=>h) fun hE=>?_) rfl (fun q hq=>.inl ⟨_,g1,hq⟩) (.tup' .nil)⟩
             · simp only [storeA,hc1,hΓ.ti _ _ hty,g3,hrow'];have hcnd:cs'.length=ty.size /\ j+cs'.length<=rows'[i].length /\ cs'.all AV.leaf=true:=⟨by rw [<- hc2.1];exact hcond.1,by rw [<- hc2.1,<- hrr.1];exact hcond.2,hc3⟩;cases hkk:ty.kind with
               | array n e=>exact absurd hkk (hk n e)
               | _=>first | rw [if_pos ⟨trivial,hcnd⟩] | (simp only;rw [if_pos ⟨trivial,hcnd⟩])
             · refine ⟨rfl,rfl,by simp [g2],rows'.set i (splice rows'[i] j cs'),by rw [zp,if_pos ⟨rfl,hpl⟩],by simp [g4],fun i2 r1 r2 k1 k2=>?_⟩;rw [List.getElem?_set] at k1 k2;by_cases hx:i=i2
               · subst hx;have hil2:i<rows.length:=by rw [g4];exact hil
                 simp only [if_true,hil,hil2,Option.some.injEq] at k1 k2;subst k1 k2;refine ⟨(hrr.splice hc2 j).mono hE,?_⟩;have h5:=(g5 i _ _ hrow hrow').2;simp only [splice,List.length_append,List.length_take,List.length_drop];have h6:=hcond.2;rw [hc2.1,hrr.1] at h6;omega
               · rw [if_neg hx] at k1 k2;exact ⟨(g5 i2 _ _ k1 k2).1.mono hE,(g5 i2 _ _ k1 k2).2⟩
         · cases h
       · cases h
     · rename_i c v' xs hs;split at h
       · rename_i hcond;obtain ⟨rfl,hcond⟩:=hcond;split at h
         · rename_i y1 hy1;cases h;obtain ⟨p,off,cur,len,rows,g1,g2,g3,g4,g5,g6,rfl⟩:=r.ptr_inv hr hs;have hi:i<xs.length:=by have:=has _ (List.mem_singleton.2 rfl);simpa using this
           obtain ⟨row,hrow,hrr⟩:=g5.get hi;have hy2:=z64 c hy1 (hrr.splice hc2 j);refine ⟨.tup [],some (p,.blk c.size cur true (rows.set i (splice row j cs'))),?_,z3q (hr.setRow g1 g2 g3 g5 hy2) rfl (fun q hq=>.inl ⟨_,g1,hq⟩) (.tup' .nil)⟩;simp only [storeA,hc1,hΓ.ti _ _ hty,g4,hrow];have hcnd:cs'.length=ty.size /\ j+cs'.length<=row.length /\ cs'.all AV.leaf=true:=⟨by rw [<- hc2.1];exact hcond.1,by rw [<- hc2.1,<- hrr.1,z01d];exact hcond.2,hc3⟩;cases hkk:ty.kind with
           | array n e=>exact absurd hkk (hk n e)
           | _=>first | rw [if_pos ⟨trivial,hcnd⟩] | (simp only;rw [if_pos ⟨trivial,hcnd⟩])
         · split at h
           · rename_i s2 ys hpc hcast;cases h;obtain ⟨rfl,hh⟩:=z1i hcast;cases hh;obtain ⟨rfl,rfl⟩:=zlp hpc;obtain ⟨p,off,cur,len,rows,g1,g2,g3,g4,g5,g6,rfl⟩:=r.ptr_inv hr hs;have hi:i<ys.length:=by have:=has _ (List.mem_singleton.2 rfl);simpa using this
             obtain ⟨row,hrow,hrr⟩:=g5.get hi;obtain ⟨c,m,rfl,hcc,hm⟩:=hc2.cons_inv;rw [hm.nil_inv] at hc1 hc2 hc3;have hpl:=hr.lt s _ p g1 rfl;have k6:∀ (i:Nat) (x:Block) row,ys[i]?=some x->rows[i]?=some row->zgw E HA (fun _=>none) false true [] i x row:=fun i x row w1 w2=>by
              obtain ⟨c0,rest,e,w3,w4⟩:=((RT.iff.1 g5).2 i x row w1 w2).cons_inv;exact ⟨c0,rest,e,w4,.inr (.inl ⟨rfl,w3,.inl rfl⟩)⟩
             have hxi:=zH hi;refine ⟨.tup [],some (p,.blk 4 cur true (rows.set i (splice row 0 [c]))),?_,z3q (hr.chg g1 (.refl _) rfl (fun _ h=>h) fun hE=>?_) rfl (fun q hq=>.inl ⟨_,g1,hq⟩) (.tup' .nil)⟩
             · have g4':HA.getD p .none=.blk 4 cur true rows:=g4;simp only [storeA,hc1,hΓ.ti _ _ hty,g4',hrow];have hcnd:([c]:List AV).length=ty.size /\ 0+([c]:List AV).length<=row.length /\ ([c]:List AV).all AV.leaf=true:=⟨hcond.1,by rw [<- hrr.1,z01d];exact hcond.2,hc3⟩;cases hkk:ty.kind with
               | array n e=>exact absurd hkk (hk n e)
               | _=>first | rw [if_pos ⟨trivial,hcnd⟩] | (simp only;rw [if_pos ⟨trivial,hcnd⟩])
             · have:=z05o (x':=ys[i]) hE g2 g3 (by intro i u h;cases h) (by intro i j q u u' h;cases h) g6 k6 hpl (ex':=[(i,s2)]) (fun k hki=>zze hki) (zrm (k6 i _ _ hxi hrow) hcc);rw [List.set_getElem_self] at this;exact this
           · cases h
       · cases h
     · rename_i pv v' xs ex hs;split at h
       · rename_i hcond;obtain ⟨rfl,hcond⟩:=hcond;have both:∀ (ex':List (Nat×Nat)) (x':Block) (row':List AV) (o':SO),o'=.nst pv v0 true (xs.set i x') ex'->i<xs.length->(∀ k,k≠i->exAt ex' k=exAt ex k) ->
          (∀ qf x row,xs[i]?=some x->zgw E HA qf pv true ex i x row->zgw E HA qf pv true ex' i x' (splice row j cs')) ->
          ∃ v' ch',storeA P HA t a b=some (v',ch') /\ Did E SH HA slot (.tup []) (some (s,o')) v' ch':=by
          intro ex' x' row' o' ho hi hex hn;subst ho;obtain ⟨e,p,off,cur,len,qf,g1,g2,⟨k1,k2,k3,k4,rows,g4,g5,g6⟩,rfl⟩:=r.ptr_nst hr hs;have hxi:=zH hi;have hri:=zH (show i<rows.length by rw [g5];exact hi);have hrow:=g6 i _ _ hxi hri;have hpa:e.at p:=by rcases g2 with ⟨rfl,_⟩ | rfl;exact rfl;exact .inl rfl
          have hal:e.alAt p:=by rcases g2 with ⟨rfl,_⟩ | rfl <;> exact rfl
          have hpl:=hr.lt s _ p g1 hpa;refine ⟨.tup [],some (p,.blk 4 cur true (rows.set i (splice rows[i] j cs'))),?_,z3q (e:=e) (hr.chg g1 (.refl _) hpa (fun _ h=>h) fun hE=>?_) hal (fun q hq=>.inl ⟨_,g1,hq⟩) (.tup' .nil)⟩
          · simp only [storeA,hc1,hΓ.ti _ _ hty,g4,hri];have hcnd:cs'.length=ty.size /\ j+cs'.length<=rows[i].length /\ cs'.all AV.leaf=true:=by
             refine ⟨by rw [<- hc2.1];exact hcond.1,?_,hc3⟩;obtain ⟨c0,rest,e0,w1,_⟩:=hrow;rw [e0,<- hc2.1,List.length_cons,<- w1.1];exact hcond.2
            cases hkk:ty.kind with
            | array n e=>exact absurd hkk (hk n e)
            | _=>first | rw [if_pos ⟨trivial,hcnd⟩] | (simp only;rw [if_pos ⟨trivial,hcnd⟩])
          · have:=z05o (x':=x') hE k1 k2 k3 k4 g5 g6 hpl hex (hn qf _ _ hxi hrow);rcases g2 with ⟨rfl,rfl⟩ | rfl
            · exact this
            · exact this
         split at h
         · rename_i s2 hpc;cases h;obtain ⟨rfl,rfl⟩:=zlp hpc;have hi:i<xs.length:=by have:=has _ (List.mem_singleton.2 rfl);simpa using this
           obtain ⟨c,m,rfl,hcc,hm⟩:=hc2.cons_inv;have hm0:=hm.nil_inv;subst hm0;refine both ((i,s2)::ex) xs[i] [] _ (by rw [List.set_getElem_self]) hi (fun k hki=>zze hki) fun qf x row hx hn=>?_
           rw [zH hi] at hx;cases hx;exact zrm hn hcc
         · split at h
           · cases h
           · rename_i j' _ _;split at h
             · rename_i y hy;cases h;have hi:i<xs.length:=by have:=has _ (List.mem_singleton.2 rfl);simpa using this
               have hxi:=zH hi;have hgd:xs.getD i TC.block.zero=xs[i]:=by simp [zI,hxi]
               rw [hgd] at hy;refine both ex y [] _ rfl hi (fun _ _=>rfl) fun qf x row hx hn=>?_
               rw [hxi] at hx;cases hx;exact zq3 hn hc2 hy
             · cases h
       · cases h
     · cases h
 · cases h
theorem z03j {op:BinOp} {k:IntKind} {a b:Int} {as:List Bool} {v:SV} (h:intS op k a b=some (as,v)) (has:∀ b∈as,b=true):∃ v',z3l op k a b=some v' /\ R E v v':=by
 unfold intS at h;split at h <;> (try cases h)
 · exact ⟨_,rfl,.int _ _⟩
 · exact ⟨_,rfl,.int _ _⟩
 · exact ⟨_,rfl,.int _ _⟩
 · have hb:¬ b=0:=by simpa using has _ (List.mem_singleton.2 rfl)
   exact ⟨_,by simp only [z3l,hb,if_false],.int _ _⟩
 · have hb:¬ b=0:=by simpa using has _ (List.mem_singleton.2 rfl)
   exact ⟨_,by simp only [z3l,hb,if_false],.int _ _⟩
 · exact ⟨_,rfl,.int _ _⟩
 · exact ⟨_,rfl,.int _ _⟩
 · exact ⟨_,rfl,.int _ _⟩
 · exact ⟨_,rfl,.int _ _⟩
 · exact ⟨.bool (a == b), rfl, by have : (a == b) = decide (a = b) := by rw [Bool.eq_iff_iff]; simp
                                  rw [this];exact .bool _⟩
 · exact ⟨.bool (a != b), rfl, by have : (a != b) = !decide (a = b) := by rw [Bool.eq_iff_iff]; simp
                                  rw [this];exact .bool _⟩
 · exact ⟨_,rfl,.bool _⟩
 · exact ⟨_,rfl,.bool _⟩
 · exact ⟨_,rfl,.bool _⟩
 · exact ⟨_,rfl,.bool _⟩
theorem z05p (s:ByteArray):∀ (k i:Nat) (r:List UInt8),i+k=s.size->ByteArray.toList.loop s i r=r.reverse++s.data.toList.drop i
 | 0,i,r,h=>by
   rw [ByteArray.toList.loop,if_neg (by omega),List.drop_eq_nil_of_le (by simp;have:s.data.size=s.size:=rfl;omega)];simp
 | k+1,i,r,h=>by
   have hi:i<s.data.toList.length:=by have:s.data.toList.length=s.size:=rfl;omega
   rw [ByteArray.toList.loop,if_pos (by omega),z05p s k (i+1) _ (by omega),List.drop_eq_getElem_cons hi];have:s.get! i=s.data.toList[i]:=by
    have hi':i<s.data.size:=by simpa using hi
    simp only [ByteArray.get!,Array.getElem_toList];exact getElem!_pos s.data i hi'
   rw [this];simp
theorem z05q (s:ByteArray):s.toList=s.data.toList:=by
 unfold ByteArray.toList;rw [z05p s s.size 0 [] (by omega)];simp
theorem zvw (a b:Str):((⟨a.toArray⟩:ByteArray).toList==(⟨b.toArray⟩:ByteArray).toList)=decide (a=b):=by
 have h:∀ (l:Str),(⟨l.toArray⟩:ByteArray).toList=l:=by
  intro l;rw [z05q]
 rw [h,h,Bool.eq_iff_iff];simp
end
end Clk
namespace Clk
open Go
section
variable {P:Program} {Γ:Ctx} {E:Emb} {SH:List SO} {HA:List AO}
theorem z0d2 (a b:Str):((⟨a.toArray⟩:ByteArray)==(⟨b.toArray⟩:ByteArray))=decide (a=b):=by
 rw [Bool.eq_iff_iff];show (List.toArray a==List.toArray b)=true↔_;simp
theorem zj7 {k:TK} {x y:SV} {a b:AV} {r:Bool} (h:eqLeafS k x y=some r) (hx:R E x a) (hy:R E y b):eqLeaf k a b=some r:=by
 unfold eqLeafS at h;split at h
 · split at h
   · rename_i e;cases h;cases hx;cases hy;have hq:∀ (m n:Int),(m==n)=decide (m=n):=fun m n=>by rw [Bool.eq_iff_iff];simp
     simp only [eqLeaf,e,if_true,hq]
   · cases h
 · cases h;cases hx;cases hy;rfl
 · cases h;cases hx;cases hy;simp only [eqLeaf,z0d2]
 · cases h
theorem zek (hΓ:CtxOk P Γ) {xs ys:List SV} {xs' ys':List AV} (hx:RL E xs xs') (hy:RL E ys ys'):∀ {fs:List (Nat×TypeId)} {r:Bool},zej Γ xs ys fs=some r->eqFields P xs' ys' fs=some r
 | [],r,h=>by cases h;rfl
 | [(off,t)],r,h=>by
   simp only [zej] at h;split at h
   · rename_i i x y h1 h2 h3;split at h
     · cases h
     · rename_i hk;obtain ⟨a,g1,g2⟩:=hx.get h2;obtain ⟨b,g3,g4⟩:=hy.get h3;simp only [eqFields,hΓ.ti _ _ h1,g1,g3,hk,zj7 h g2 g4];cases r <;> rfl
   · cases h
 | (off,t)::f::fs,r,h=>by
   simp only [zej] at h;split at h
   · rename_i i x y h1 h2 h3;split at h
     · cases h
     · rename_i hk;split at h
       · rename_i p q h4 h5;cases h;obtain ⟨a,g1,g2⟩:=hx.get h2;obtain ⟨b,g3,g4⟩:=hy.get h3;have ih:=zek hΓ hx hy h5;rw [eqFields,hΓ.ti _ _ h1,g1,g3];simp only [hk,zj7 h4 g2 g4];cases p
         · rfl
         · simpa using ih
       · cases h
   · cases h
theorem zvx (hΓ:CtxOk P Γ) {t:TypeId} {l m:List SV} {l' m':List AV} {r:Bool} (h:eqS Γ t (.agg l) (.agg m)=some r) (hx:RL E l l') (hy:RL E m m'):eqA P t (.agg l') (.agg m')=some r /\ P.eqGuardType P.depth t=false:=by
 unfold eqS at h;split at h
 · rename_i i hi;split at h
   · rename_i fs xs ys hk e1 e2;cases e1;cases e2;split at h
     · rename_i he;obtain ⟨g1,g2,g3⟩:=hΓ.eq t he;refine ⟨?_,g3⟩;simp only [eqA,hΓ.ti _ _ hi,hk,g1,g2];simpa using zek hΓ hx hy h
     · cases h
   · exfalso;revert h
     unfold eqLeafS;split <;> simp_all
 · cases h
theorem z03k (hΓ:CtxOk P Γ) {op:BinOp} {t:TypeId} {x y v:SV} {a b:AV} {as:List Bool} (h:binS Γ op t x y=some (as,v)) (has:∀ b∈as,b=true) (hx:R E x a) (hy:R E y b):∃ v',z7i P op t a b=some v' /\ R E v v':=by
 unfold binS at h;split at h
 · cases h;cases hx;cases hy;have hb:=of_decide_eq_true (has _ (List.mem_singleton.2 rfl));exact ⟨_,z0cy hb,.int _ _⟩
 · cases h;cases hx;cases hy;have hb:=of_decide_eq_true (has _ (List.mem_singleton.2 rfl));exact ⟨_,z0cz hb,.int _ _⟩
 · rename_i op k a0 k' b0 n1 n2;split at h
   · rename_i e;subst e;cases hx;cases hy;obtain ⟨v',g1,g2⟩:=z03j (E:=E) h has;exact ⟨v',by rw [z0bn (fun e=>n1 e) (fun e=>n2 e)];exact g1,g2⟩
   · cases h
 · cases h;cases hx;cases hy;have hb:=of_decide_eq_true (has _ (List.mem_singleton.2 rfl));rename_i l m;have e:(⟨l.toArray⟩:ByteArray)++(⟨m.toArray⟩:ByteArray)=⟨(l++m).toArray⟩:=by
    apply ByteArray.ext;simp [ByteArray.data_append]
   refine ⟨.str ⟨(l++m).toArray⟩,?_,.str _⟩;rw [z09t (by simpa [ByteArray.size] using hb),e]
 · cases h;cases hx;cases hy;exact ⟨_,by rw [z09u,zvw],.bool _⟩
 · cases h;cases hx;cases hy;exact ⟨_,by rw [z09v,zvw],.bool _⟩
 · split at h
   · rename_i hi;cases h;cases hx;cases hy;exact ⟨_,by rw [z09w,hΓ.ti _ _ hi],.bool _⟩
   · cases h
 · split at h
   · rename_i hi;cases h;cases hx;cases hy;exact ⟨_,by rw [z09x,hΓ.ti _ _ hi],.bool _⟩
   · cases h
 · simp only [Option.map_eq_some_iff,Prod.mk.injEq] at h;obtain ⟨r,h1,rfl,rfl⟩:=h;cases hx with
   | agg p1 p2=>cases hy with
     | agg q1 q2 =>
       obtain ⟨g1,g2⟩:=zvx (E:=E) hΓ h1 ⟨p1,p2⟩ ⟨q1,q2⟩;exact ⟨.bool r,by simp [z7i,g1,g2],.bool _⟩
 · simp only [Option.map_eq_some_iff,Prod.mk.injEq] at h;obtain ⟨r,h1,rfl,rfl⟩:=h;cases hx with
   | agg p1 p2=>cases hy with
     | agg q1 q2 =>
       obtain ⟨g1,g2⟩:=zvx (E:=E) hΓ h1 ⟨p1,p2⟩ ⟨q1,q2⟩;exact ⟨.bool (!r),by simp [z7i,g1,g2],.bool _⟩
 · cases h
theorem z05r {op:UnOp} {x v:SV} {a:AV} (h:unS op x=some v) (hx:R E x a):∃ v',unA op a=some v' /\ R E v v':=by
 unfold unS at h;split at h
 · cases h;cases hx;exact ⟨_,rfl,.bool _⟩
 · cases h;cases hx;exact ⟨_,rfl,.int _ _⟩
 · cases h;cases hx;exact ⟨_,rfl,.int _ _⟩
 · cases h
theorem zkv {k:Unit} {ys:List Int}:∀ {rows:List (List AV)},RT E (.int .u8) ys rows->z4k rows=some (bytesOf ys):=by
 induction ys with
 | nil =>
   intro rows h;have h1:=(RT.iff.1 h).1;cases rows with
   | nil=>rfl
   | cons=>simp at h1
 | cons y ys ih =>
   intro rows h;rw [RT.iff] at h;cases rows with
   | nil=>simp at h
   | cons row rows =>
     obtain ⟨h1,h2⟩:=h;have h3:=h2 0 y row rfl rfl;obtain ⟨a,m,rfl,h4,h5⟩:=RL.cons_inv (l:=[]) h3;rw [h5.nil_inv];cases h4;have ih':=ih (rows:=rows) (RT.iff.2 ⟨by simpa using h1,fun i x r q1 q2=>h2 (i+1) x r (by simpa using q1) (by simpa using q2)⟩);simp only [z4k,ih',Option.map_some,bytesOf,List.map_cons]
theorem zzf (hΓ:CtxOk P Γ) (hr:HR E SH HA) {s d:TypeId} {x v:SV} {a:AV} (h:convS Γ SH s d x=some v) (hx:R E x a):∃ v',convA P HA s d a=some v' /\ R E v v':=by
 unfold convS at h;split at h
 · rename_i si di h1 h2;split at h
   · rename_i hk;cases h;cases hx;refine ⟨_,?_,.int _ _⟩;simp only [convA,hΓ.ti _ _ h1,hΓ.ti _ _ h2,hk]
   · rename_i hk;cases h;cases hx;refine ⟨_,?_,.str _⟩;simp only [convA,hΓ.ti _ _ h1,hΓ.ti _ _ h2,hk]
   · rename_i x' e hk1 hk2 hnstr;split at h
     · rename_i he;simp only [Option.map_eq_some_iff] at h;obtain ⟨l,g1,rfl⟩:=h;obtain ⟨rows,g2,g3⟩:=z93 hr g1 hx;obtain ⟨i,g4,g5,g6⟩:=hΓ.eci _ _ he;have g7:=zkv (k:=()) g3;refine ⟨.str ⟨(bytesOf l).toArray⟩,?_,.str _⟩;obtain ⟨isz,ib,ik,iz⟩:=i;simp only at g5 g6;subst g5 g6;have hns:∀ s,a≠.str s:=by
        rintro s rfl
        cases g2
       cases a with
       | str s=>exact absurd rfl (hns s)
       | _=>simp only [convA,hΓ.ti _ _ h1,hΓ.ti _ _ h2,hk1,hk2,g4,g2,g7,Option.map_some]
     · cases h
   · cases h
 · cases h
theorem zzg (hr:HR E SH HA) {x:SV} {a:AV} {n:Nat} (h:lenOf SH x=some n) (hx:R E x a):(∃ l,(a=.rows l \/ a=.crows l) /\ l.length=n) \/ ∃ b v o,a=.ref b v o n:=by
 unfold lenOf at h;split at h
 · cases h;obtain ⟨l,h1,h2,_⟩:=hx.lst_inv;exact .inl ⟨l,h2,(RT.iff.1 h1).1⟩
 · split at h
   · rename_i hs;split at h
     · rename_i hv;subst hv;cases h;rcases hx.bref_inv hr hs with ⟨_,rfl,_,rfl⟩ | ⟨p,off,cur,len,rows,g1,g2,g3,g4,g5,g6,rfl⟩
       · exact .inl ⟨[],.inr rfl,rfl⟩
       · exact .inr ⟨_,_,_,rfl⟩
     · cases h
   · rename_i hs;split at h
     · rename_i hv;subst hv;cases h;rcases hx.bref_nst hr hs with ⟨_,rfl,_,rfl⟩ | ⟨e,p,off,cur,len,qf,g1,g2,g3,rfl⟩
       · exact .inl ⟨[],.inr rfl,rfl⟩
       · exact .inr ⟨_,_,_,rfl⟩
     · cases h
   · cases h
 · cases h;cases hx with
   | ref hE hu=>exact .inr ⟨_,_,_,rfl⟩
   | run hE hle hn=>exact .inl ⟨[],.inl rfl,hn.symm⟩
   | rnil hE hh hn=>exact .inl ⟨[],.inl rfl,hn.symm⟩
   | oref hE hu=>exact .inr ⟨_,_,_,rfl⟩
   | ornil hE hh hn=>exact .inl ⟨[],.inl rfl,hn.symm⟩
   | gref hE=>exact .inr ⟨_,_,_,rfl⟩
   | grun hE hn=>exact .inl ⟨[],.inl rfl,hn.symm⟩
 · cases h
theorem z03l (hΓ:CtxOk P Γ) (hr:HR E SH HA) {t:TypeId} {x v:SV} {a:AV} (h:lenS Γ SH t x=some v) (hx:R E x a):∃ v',lenA P t a=some v' /\ R E v v':=by
 unfold lenS at h;split at h
 · rename_i i hi;split at h
   · rename_i hk;cases h;cases hx;refine ⟨_,?_,.int _ _⟩;simp only [lenA,hΓ.ti _ _ hi,hk];rfl
   · rename_i e x' hk;split at h
     · rename_i n hn;cases h;rcases zzg hr hn hx with ⟨l,h1,rfl⟩ | ⟨b,v,o,rfl⟩
       · rcases h1 with rfl | rfl
         · exact ⟨_,by simp only [lenA,hΓ.ti _ _ hi,hk],.int _ _⟩
         · exact ⟨_,by simp only [lenA,hΓ.ti _ _ hi,hk],.int _ _⟩
       · exact ⟨_,by simp only [lenA,hΓ.ti _ _ hi,hk],.int _ _⟩
     · cases h
   · rename_i n e x' hk;cases h;exact ⟨_,by simp only [lenA,hΓ.ti _ _ hi,hk],.int _ _⟩
   · cases h
 · cases h
theorem z8x {lo hi:Option SV} {lo' hi':Option AV} {n:Nat} {as:List Bool} {l:Nat} {h':Option Nat} (h:bndS lo hi n=some (as,l,h')) (has:∀ b∈as,b=true)
 (hlo:∀ x,lo=some x->∃ a,lo'=some a /\ R E x a) (hlo':lo=none->lo'=none) (hhi:∀ x,hi=some x->∃ a,hi'=some a /\ R E x a) (hhi':hi=none->hi'=none) :
 bnd lo' 0=some l /\ (∃ m,bnd hi' n=some m /\ l<=m /\ m<=n /\ h'.getD n=m) /\ (hi.isSome=true->h'.isSome=true /\ hi'.isSome=true) /\ (hi=none->h'=none):=by
 unfold bndS at h;split at h
 · cases h;rw [hlo' rfl,hhi' rfl];exact ⟨rfl,⟨n,rfl,by omega,Nat.le_refl _,rfl⟩,by simp,by simp⟩
 · cases h;obtain ⟨a,e1,r1⟩:=hlo _ rfl;cases r1;rw [e1,hhi' rfl];have h1:=has _ (List.mem_cons_self);have h2:=has _ (List.mem_cons_of_mem _ (List.mem_singleton.2 rfl));simp only [decide_eq_true_eq] at h1 h2;exact ⟨by simp [bnd,h1],⟨n,rfl,by omega,Nat.le_refl _,rfl⟩,by simp,by simp⟩
 · cases h;obtain ⟨a,e1,r1⟩:=hhi _ rfl;cases r1;rw [hlo' rfl,e1];have h1:=has _ (List.mem_cons_self);have h2:=has _ (List.mem_cons_of_mem _ (List.mem_singleton.2 rfl));simp only [decide_eq_true_eq] at h1 h2;rename_i k1 hh;exact ⟨rfl,⟨hh.toNat,by simp [bnd,h1],by omega,by omega,rfl⟩,by simp,by simp⟩
 · cases h;obtain ⟨a,e1,r1⟩:=hlo _ rfl;cases r1;obtain ⟨b,e2,r2⟩:=hhi _ rfl;cases r2;rw [e1,e2];have h1:=has _ (List.mem_cons_self);have h2:=has _ (List.mem_cons_of_mem _ (List.mem_cons_self));have h3:=has _ (List.mem_cons_of_mem _ (List.mem_cons_of_mem _ (List.mem_singleton.2 rfl)));simp only [decide_eq_true_eq] at h1 h2 h3;rename_i k1 ll k2 hh;exact ⟨by simp [bnd,h1],⟨hh.toNat,by simp only [bnd];rw [if_pos (by omega)],by omega,by omega,rfl⟩,by simp,by simp⟩
 · cases h
theorem zsw {α:Type} (xs:List α) (l:Nat) (h':Option Nat) (n m:Nat) (hn:xs.length=n) (hm:h'.getD n=m) (h1:h'=none->m=n):partL xs l h'=(xs.drop l).take (m - l):=by
 cases h' with
 | none =>
   simp only [partL];rw [List.take_of_length_le];simp at hm;simp;omega
 | some k=>simp at hm;subst hm;rfl
end
end Clk
namespace Clk
open Go
section
variable {P:Program} {Γ:Ctx} {E:Emb} {SH:List SO} {HA:List AO}
theorem z7l {e:TypeId} {c:TC} (h:fits Γ e c=true):Γ.ec e=some c:=by
 unfold fits at h;split at h
 · rename_i c' hc;rw [hc,of_decide_eq_true h]
 · cases h
theorem RT.sizes {c:TC} {xs:List c.den} {l:List (List AV)} (h:RT E c xs l):∀ row∈l,row.length=c.size:=by
 intro row hrow;obtain ⟨i,hi,rfl⟩:=List.mem_iff_getElem.1 hrow;rw [RT.iff] at h;have hi':i<xs.length:=by rw [<- h.1];exact hi
 have:=(h.2 i _ _ (zH hi') (zH hi)).1;rw [<- this,z01d]
theorem zzh (c:TC) (x:c.den):(c.up x).all SV.leaf=true:=by cases c <;> rfl
theorem RT.leaves {c:TC} {xs:List c.den} {l:List (List AV)} (h:RT E c xs l):∀ row∈l,row.all AV.leaf=true:=by
 intro row hrow;obtain ⟨i,hi,rfl⟩:=List.mem_iff_getElem.1 hrow;rw [RT.iff] at h;have hi':i<xs.length:=by rw [<- h.1];exact hi
 exact (h.2 i _ _ (zH hi') (zH hi)).leaf (zzh _ _)
theorem zgh (hΓ:CtxOk P Γ) {e:TypeId} {c:TC} (h:Γ.ec e=some c) {xs:List c.den} {l:List (List AV)} (r:RT E c xs l):fitRows P e l=true:=by
 obtain ⟨i,z',h1,h2,_⟩:=hΓ.ec _ _ h;simp only [fitRows,h1,List.all_eq_true];intro row hrow;rw [r.sizes row hrow,h2];simp
theorem zhp (hΓ:CtxOk P Γ) {e:TypeId} {c:TC} (h:Γ.ec e=some c) {p cur:Nat} {live:Bool} {rows:List (List AV)} (g:HA.getD p .none=.blk c.size cur live rows):fitK P e HA p cur=true:=by
 obtain ⟨i,z',h1,h2,_⟩:=hΓ.ec _ _ h;simp only [fitK,h1,g,h2];simp
theorem optMap {t:List SV} {t':List AV} (ht:RL E t t') (o:Option Operand):(∀ x,o.map (z10 Γ 0 t)=some x->∃ a,o.map (opd t')=some a /\ R E x a) /\ (o.map (z10 Γ 0 t)=none->o.map (opd t')=none):=by
 cases o with
 | none=>exact ⟨fun x h=>(by cases h),fun _=>rfl⟩
 | some o=>exact ⟨fun x h=>(by cases h;exact ⟨_,rfl,z00 Γ ht 0 o⟩),fun h=>(by cases h)⟩
theorem z08j (s:Str) (l h:Nat):(⟨s.toArray⟩:ByteArray).extract l h=⟨((s.drop l).take (h - l)).toArray⟩:=by
 apply ByteArray.ext
 simp only [ByteArray.data_extract];apply Array.toList_inj.1
 simp [List.extract_eq_take_drop]
theorem hcount (l m n:Nat) (h':Option Nat) (b5:h'.getD n=m):cntL n l h'=m - l:=by
 cases h' with
 | none=>simp at b5;simp [cntL,b5]
 | some k=>simp at b5;simp [cntL,b5]
theorem zvy (hΓ:CtxOk P Γ) (hr:HR E SH HA) {t:TypeId} {x v:SV} {a:AV} {lo hi mx:Option SV} {lo' hi' mx':Option AV} {as:List Bool} {ch:Option (Nat×SO)} (h:sliceS Γ SH t x lo hi mx=some (as,v,ch)) (has:∀ b∈as,b=true) (hx:R E x a)
 (hlo:∀ x,lo=some x->∃ a,lo'=some a /\ R E x a) (hlo':lo=none->lo'=none) (hhi:∀ x,hi=some x->∃ a,hi'=some a /\ R E x a) (hhi':hi=none->hi'=none) (hmx:∀ x,mx=some x->∃ a,mx'=some a /\ R E x a) (hmx':mx=none->mx'=none) :
 ch=none /\ ∃ v',sliceA P HA t a lo' hi' mx'=some v' /\ R E v v':=by
 unfold sliceS at h;split at h
 · rename_i i hi0;split at h
   · rename_i s hk;split at h
     · rename_i as' l h' hb;cases h;obtain ⟨b1,⟨m,b2,b3,b4,b5⟩,b6,b7⟩:=z8x hb has hlo hlo' hhi hhi';cases hx;refine ⟨rfl,.str ⟨(partL s l h').toArray⟩,?_,.str _⟩;have hsz:(⟨s.toArray⟩:ByteArray).size=s.length:=by simp [ByteArray.size]
       simp only [sliceA,hΓ.ti _ _ hi0,hk,hmx' rfl,b1,hsz,b2];rw [if_pos ⟨b3,b4⟩,z08j,zsw s l h' s.length m rfl b5 (fun e=>by subst e;simpa using b5.symm)]
     · cases h
   · rename_i e fl c xs hk;split at h
     · rename_i hf;split at h
       · rename_i as' l h' hb;cases h;obtain ⟨b1,⟨m,b2,b3,b4,b5⟩,b6,b7⟩:=z8x hb has hlo hlo' hhi hhi';obtain ⟨rows,g1,g2,_⟩:=hx.lst_inv;have hlen:=(RT.iff.1 g1).1;have hfr:=zgh hΓ (z7l hf) g1;have hp:=zsw xs l h' xs.length m rfl b5 (fun e=>by subst e;simpa using b5.symm);refine ⟨rfl,.rows ((rows.drop l).take (m - l)),?_,by rw [hp];exact ((g1.drop l).take _).rows⟩;rcases g2 with rfl | rfl <;>
         · simp only [sliceA,hΓ.ti _ _ hi0,hk,hmx' rfl,b1,hlen,b2];rw [if_pos ⟨b3,b4,hfr⟩]
       · cases h
     · cases h
   · rename_i e fl c xs k0 m0 hk;split at h
     · rename_i hf;split at h
       · rename_i k1 h0;split at h
         · rename_i as' l h' hb;cases h;have hm0:=has _ (List.mem_cons_self);have has':∀ b∈as',b=true:=fun b hb=>has b (List.mem_cons_of_mem _ hb)
           obtain ⟨b1,⟨m,b2,b3,b4,b5⟩,b6,b7⟩:=z8x hb has' hlo hlo' hhi hhi';obtain ⟨rows,g1,g2,_⟩:=hx.lst_inv;have hlen:=(RT.iff.1 g1).1;have hfr:=zgh hΓ (z7l hf) g1;have hp:=zsw xs l h' xs.length m rfl b5 (fun e=>by subst e;simpa using b5.symm);obtain ⟨am,e1,r1⟩:=hmx _ rfl;cases r1;obtain ⟨ah,e2,r2⟩:=hhi _ rfl;cases r2;have hmm:=of_decide_eq_true hm0;subst hmm;have hb2:bnd (some (.int k0 h0)) 0=some m:=by
            rw [e2] at b2;simp only [bnd] at b2 ⊢;exact b2
           have his:=(b6 rfl).2;refine ⟨rfl,.crows ((rows.drop l).take (m - l)),?_,by rw [hp];exact ((g1.drop l).take _).crows _⟩;rcases g2 with rfl | rfl <;>
           · simp only [sliceA,hΓ.ti _ _ hi0,hk,e1,b1,hlen,b2,hb2];rw [if_pos (by simp [b3,b4,his,hfr])]
         · cases h
       · cases h
     · cases h
   · rename_i e s v0 hk;split at h
     · rename_i c v' live xs hs;split at h
       · rename_i hcond;obtain ⟨rfl,hf⟩:=hcond;split at h
         · rename_i as' l h' hb;cases h;obtain ⟨b1,⟨m,b2,b3,b4,b5⟩,b6,b7⟩:=z8x hb has hlo hlo' hhi hhi';have hn:=hcount l m xs.length h' b5;rcases hx.bref_inv hr hs with ⟨g1,rfl,g2,rfl⟩ | ⟨p,off,cur,len,rows,g1,g2,g3,g4,g5,g6,rfl⟩
           · have hm0:m=0:=by simp at b4;exact b4
             subst hm0;have hl0:l=0:=by omega
             subst hl0;refine ⟨rfl,.rows [],?_,?_⟩
             · simp only [sliceA,hΓ.ti _ _ hi0,hk,hmx' rfl,b1,List.length_nil];rw [show bnd hi' 0=some 0 from b2];simp only;rw [if_pos ⟨Nat.le_refl _,Nat.le_refl _,zgh hΓ (z7l hf) (RT.nil (E:=E))⟩];rfl
             · exact .run g1 (Nat.le_refl _) hn
           · refine ⟨rfl,.ref p cur (0+l) (m - l),?_,?_⟩
             · simp only [sliceA,hΓ.ti _ _ hi0,hk,hmx' rfl,b1,b2];rw [if_pos ⟨b3,b4,zhp hΓ (z7l hf) g4⟩]
             · rw [hn,Nat.zero_add];exact .ref g1 g2 (Nat.le_refl _) (by rw [g3];omega)
         · cases h
       · cases h
     · cases h
   · rename_i e s v0 o0 n0 hk;split at h
     · rename_i c v' live xs hs;split at h
       · rename_i hcond;obtain ⟨rfl,hf⟩:=hcond;split at h
         · rename_i as' l h' hb;cases h;obtain ⟨b1,⟨m,b2,b3,b4,b5⟩,b6,b7⟩:=z8x hb has hlo hlo' hhi hhi';have hn:=hcount l m n0 h' b5;rcases hx.ref_inv hr hs with ⟨g1,rfl,g2,rfl,rfl⟩ | ⟨p,off,cur,len,rows,g1,g2,g3,g4,g5,g6,rfl,g7⟩
           · have hm0:m=0:=by omega
             subst hm0;have hl0:l=0:=by omega
             subst hl0;refine ⟨rfl,.rows [],?_,?_⟩
             · simp only [sliceA,hΓ.ti _ _ hi0,hk,hmx' rfl,b1,List.length_nil];rw [b2];simp only;rw [if_pos ⟨Nat.le_refl _,Nat.le_refl _,zgh hΓ (z7l hf) (RT.nil (E:=E))⟩];rfl
             · exact .run g1 (Nat.le_refl _) hn
           · refine ⟨rfl,.ref p cur (o0+l) (m - l),?_,?_⟩
             · simp only [sliceA,hΓ.ti _ _ hi0,hk,hmx' rfl,b1,b2];rw [if_pos ⟨b3,b4,zhp hΓ (z7l hf) g4⟩]
             · rw [hn];exact .ref g1 g2 (Nat.le_refl _) (by rw [g3];omega)
         · cases h
       · cases h
     · cases h
   · rename_i n0 e s v0 hk;split at h
     · rename_i c v' live xs hs;split at h
       · rename_i hcond;obtain ⟨rfl,hf⟩:=hcond;split at h
         · rename_i as' l h' hb;cases h;have hl0:=of_decide_eq_true (has _ (List.mem_cons_self));have has':∀ b∈as',b=true:=fun b hb=>has b (List.mem_cons_of_mem _ hb)
           obtain ⟨b1,⟨m,b2,b3,b4,b5⟩,b6,b7⟩:=z8x hb has' hlo hlo' hhi hhi';have hn:=hcount l m n0 h' b5;obtain ⟨p,off,cur,len,rows,g1,g2,g3,g4,g5,g6,rfl⟩:=hx.ptr_inv hr hs;refine ⟨rfl,.ref p cur l (m - l),?_,?_⟩
           · simp only [sliceA,hΓ.ti _ _ hi0,hk,hmx' rfl,b1,b2,g4];rw [if_pos ⟨b3,b4,trivial,by omega,zhp hΓ (z7l hf) g4⟩]
           · rw [hn];exact .ref g1 g2 (Nat.le_refl _) (by rw [g3];omega)
         · cases h
       · cases h
     · cases h
   · cases h
 · cases h
end
end Clk
namespace Clk
open Go
section
variable {P:Program} {Γ:Ctx} {E:Emb} {SH:List SO} {HA:List AO}
theorem zmr (hΓ:CtxOk P Γ) {s:TypeId} {x v:SV} {a:AV} {f:Nat} (h:zks Γ s x f=some v) (hx:R E x a):∃ v',z23 P s a f=some v' /\ R E v v':=by
 unfold zks at h;split at h
 · rename_i fs hs;split at h
   · rename_i off ft hf;split at h
     · rename_i i hi;split at h
       · cases h
       · rename_i hz;have h1:=hΓ.ti _ _ hs;have h2:=hΓ.ti _ _ hi;split at h
         · cases h;cases hx with
           | iptr g1 g2=>exact ⟨_,by simp only [z23,h1,hf,h2,hz,if_false],.iptr g1 g2⟩
         · cases h;cases hx with
           | ptr g1 g2=>exact ⟨_,by simp only [z23,h1,hf,h2,hz,if_false],.ptr g1 g2⟩
           | optr g1 g2=>exact ⟨_,by simp only [z23,h1,hf,h2,hz,if_false],.optr g1 g2⟩
           | @gptr _ _ _ _ p u g1=>exact ⟨.ptr p u _ _,by simp only [z23,h1,hf,h2,hz,if_false],.gptr g1⟩
         · cases h
     · cases h
   · cases h
 · cases h
theorem zvz (hΓ:CtxOk P Γ) {s:TypeId} {x v:SV} {a:AV} {f:Nat} (h:fieldS Γ s x f=some v) (hx:R E x a):∃ v',fieldA P s a f=some v' /\ R E v v':=by
 unfold fieldS at h;split at h
 · rename_i fs l hs;split at h
   · rename_i off ft hf;split at h
     · rename_i i hi;have h1:=hΓ.ti _ _ hs;have h2:=hΓ.ti _ _ hi;cases hx with
       | agg g1 g2 =>
         obtain ⟨v',g3,g4⟩:=z63 (E:=E) ⟨g1,g2⟩ h;exact ⟨v',by simp only [fieldA,h1,hf,h2];exact g3,g4⟩
     · cases h
   · cases h
 · cases h
theorem zms (hΓ:CtxOk P Γ) (hr:HR E SH HA) {t:TypeId} {x y v:SV} {a b:AV} {as:List Bool} {ch:Option (Nat×SO)} (h:zgf Γ SH t x y=some (as,v,ch)) (hx:R E x a) (hy:R E y b) (has:∀ b∈as,b=true) :
 ch=none /\ ∃ v',z0i P HA t a b=some v' /\ R E v v':=by
 have two:∀ {p q:Prop} [Decidable p] [Decidable q],(∀ b∈[decide p,decide q],b=true)->p /\ q:=fun h=>by
  have h1:=h _ (List.mem_cons_self);have h2:=h _ (List.mem_cons_of_mem _ (List.mem_singleton.2 rfl));exact ⟨of_decide_eq_true h1,of_decide_eq_true h2⟩
 unfold zgf at h;split at h
 · rename_i i k n hi;have h1:=hΓ.ti _ _ hi;cases hy;split at h
   · rename_i e fl c xs hk;split at h
     · rename_i hf;cases h;obtain ⟨c1,c2⟩:=two has;obtain ⟨rows,g1,g2,_⟩:=hx.lst_inv;have hlen:=(RT.iff.1 g1).1;obtain ⟨row,hrow,hrr⟩:=g1.get (i:=n.toNat) (by omega);have hgd:rows.getD n.toNat []=row:=by simp [zI,hrow]
       obtain ⟨te,z',q1,q2,_⟩:=hΓ.ec _ _ (z7l hf);have hrs:rowSize P e row=true:=by
        simp only [rowSize,q1,q2];rw [<- hrr.1,z01d];simp
       refine ⟨rfl,.iptr row 0,?_,.iptr hrr.1 hrr.2⟩;rcases g2 with rfl | rfl <;>
       · simp only [z0i,h1,hk,hgd,hrs,if_true];rw [if_pos ⟨c1,by rw [hlen];exact c2⟩]
     · cases h
   · rename_i e s v0 hk;split at h
     · rename_i c v' live xs hs;split at h
       · rename_i hcond;obtain ⟨rfl,hf⟩:=hcond;cases h;obtain ⟨c1,c2⟩:=two has;rcases hx.bref_inv hr hs with ⟨g1,rfl,g2,rfl⟩ | ⟨p,off,cur,len,rows,g1,g2,g3,g4,g5,g6,rfl⟩
         · simp at c2;omega
         · refine ⟨rfl,.ptr p cur (0+n.toNat) 0,?_,by rw [Nat.zero_add];exact .ptr g1 g2⟩;simp only [z0i,h1,hk,zhp hΓ (z7l hf) g4,if_true];rw [if_pos ⟨c1,c2⟩]
       · cases h
     · rename_i pv v' live xs ex hs;split at h
       · rename_i hcond;obtain ⟨rfl,hf⟩:=hcond;cases h;obtain ⟨c1,c2⟩:=two has;rcases hx.bref_nst hr hs with ⟨g1,rfl,g2,rfl⟩ | ⟨e0,p,off,cur,len,qf,g1,g2,g3,rfl⟩
         · simp at c2;omega
         · obtain ⟨k1,k2,_,_,rows,k3,_⟩:=g3;refine ⟨rfl,.ptr p cur (0+n.toNat) 0,?_,?_⟩
           · simp only [z0i,h1,hk,zhp hΓ (z7l hf) (c:=.block) k3,if_true];rw [if_pos ⟨c1,c2⟩]
           · rw [Nat.zero_add];rcases g2 with ⟨rfl,_⟩ | rfl
             · exact .ptr g1 k1
             · exact .optr g1 k1
       · cases h
     · cases h
   · rename_i e s v0 o0 n0 hk;split at h
     · rename_i c v' live xs hs;split at h
       · rename_i hcond;obtain ⟨rfl,hf⟩:=hcond;cases h;obtain ⟨c1,c2⟩:=two has;rcases hx.ref_inv hr hs with ⟨g1,rfl,g2,rfl,rfl⟩ | ⟨p,off,cur,len,rows,g1,g2,g3,g4,g5,g6,rfl,g7⟩
         · simp at c2;omega
         · refine ⟨rfl,.ptr p cur (o0+n.toNat) 0,?_,.ptr g1 g2⟩;simp only [z0i,h1,hk,zhp hΓ (z7l hf) g4,if_true];rw [if_pos ⟨c1,c2⟩]
       · cases h
     · rename_i k0 live rows0 hs;split at h
       · rename_i te hte;split at h
         · rename_i hcond;obtain ⟨rfl,hf⟩:=hcond;cases h;obtain ⟨c1,c2⟩:=two has;obtain ⟨p,len,rows',g1,g2,g3,g4,g5⟩:=hr.raw hs;cases hx with
           | ref hE hu hle hn =>
             rw [g1] at hE;cases hE;have hu0:_=0:=Int.ofNat_inj.1 (hu.trans (by simp):_=((0:Nat):Int));subst hu0;refine ⟨rfl,.ptr p 0 (o0+n.toNat) 0,?_,.ptr g1 (by simp)⟩;have hfk:fitK P e HA p 0=true:=by
              simp only [fitK,hΓ.ti _ _ hte,g3,hf];simp
             simp only [z0i,h1,hk,hfk,if_true];rw [if_pos ⟨c1,c2⟩]
           | run hE hle hn=>rw [g1] at hE;cases hE
           | rnil hE hh hn=>rw [g1] at hE;cases hE;omega
           | oref hE=>rw [g1] at hE;cases hE
           | ornil hE=>rw [g1] at hE;cases hE
           | gref hE=>rw [g1] at hE;cases hE
           | grun hE=>rw [g1] at hE;cases hE
         · cases h
       · cases h
     · cases h
   · rename_i n0 e s v0 hk;split at h
     · rename_i c v' live xs hs;split at h
       · rename_i hcond;obtain ⟨rfl,hf⟩:=hcond;cases h;obtain ⟨c1,c2⟩:=two has;obtain ⟨p,off,cur,len,rows,g1,g2,g3,g4,g5,g6,rfl⟩:=hx.ptr_inv hr hs;refine ⟨rfl,.ptr p cur n.toNat 0,?_,.ptr g1 g2⟩;simp only [z0i,h1,hk,zhp hΓ (z7l hf) g4,if_true];rw [if_pos ⟨c1,c2⟩]
       · cases h
     · cases h
   · cases h
 · cases h
theorem zw0 (hΓ:CtxOk P Γ) {t:TypeId} {x y v:SV} {a b:AV} {as:List Bool} {ch:Option (Nat×SO)} (h:indexS Γ t x y=some (as,v,ch)) (hx:R E x a) (hy:R E y b) (has:∀ b∈as,b=true) :
 ch=none /\ ∃ v',indexA P t a b=some v' /\ R E v v':=by
 have two:∀ {p q:Prop} [Decidable p] [Decidable q],(∀ b∈[decide p,decide q],b=true)->p /\ q:=fun h=>by
  have h1:=h _ (List.mem_cons_self);have h2:=h _ (List.mem_cons_of_mem _ (List.mem_singleton.2 rfl));exact ⟨of_decide_eq_true h1,of_decide_eq_true h2⟩
 unfold indexS at h;split at h
 · rename_i i k n hi;have h1:=hΓ.ti _ _ hi;cases hy;split at h
   · rename_i s hk;cases h;obtain ⟨c1,c2⟩:=two has;cases hx;refine ⟨rfl,.int .u8 ((s.getD n.toNat 0).toNat:Int),?_,.int _ _⟩;have hsz:(⟨s.toArray⟩:ByteArray).size=s.length:=by simp [ByteArray.size]
     simp only [indexA,h1,hk,hsz];rw [if_pos ⟨c1,c2⟩];simp [zI,Array.getD_eq_getD_getElem?]
   · rename_i len e l hk;split at h
     · rename_i te hte;split at h
       · rename_i v1 hv1;cases h;obtain ⟨c1,c2⟩:=two has;cases hx with
         | agg g1 g2 =>
           obtain ⟨v',g3,g4⟩:=z63 (E:=E) ⟨g1,g2⟩ hv1;refine ⟨rfl,v',?_,g4⟩;simp only [indexA,h1,hk,hΓ.ti _ _ hte];rw [if_pos ⟨c1,c2⟩];exact g3
       · cases h
     · cases h
   · cases h
 · cases h
theorem zrn (hΓ:CtxOk P Γ) (hr:HR E SH HA) {t:TypeId} {cells:List SV} {cells':List AV} {o:SO} {s p:Nat} (hs:SlotAt E SH HA s p) (h:newS Γ t cells=some o) (hc:RL E cells cells') :
 ∃ o',newBlk P t cells'=some o' /\ Did E SH HA p (.ptr s 0 0 0) (some (s,o)) (.ptr p 0 0 0) (some (p,o')):=by
 have hpp:p<=HA.length:=by rcases hs with ⟨_,rfl⟩ | ⟨_,_,h2,_⟩ <;> omega
 unfold newS at h;split at h
 · rename_i n e hi;split at h
   · rename_i c hec;split at h
     · rename_i hcond;simp only [Option.map_eq_some_iff] at h;obtain ⟨xs,h1,rfl⟩:=h;obtain ⟨te,z',q1,q2,_⟩:=hΓ.ec _ _ hec;obtain ⟨m1,m2⟩:=zgg h1;have hrt:RT E c xs (cells'.map fun x=>[x]):=by
        rw [RT.iff];refine ⟨by simp [<- hc.1,m1],fun i x row k1 k2=>?_⟩;simp only [List.getElem?_map,Option.map_eq_some_iff] at k2;obtain ⟨a,k3,rfl⟩:=k2;have hil:i<cells.length:=by rw [m1];exact (zG.1 k1).1
        have k4:=zH hil;exact z64 c (m2 i _ _ k4 k1) (.cons (hc.2 i _ _ k4 k3) .nil)
       refine ⟨.blk 1 0 true (cells'.map fun x=>[x]),?_,?_⟩
       · simp only [newBlk,hΓ.ti _ _ hi,q1];rw [if_pos ⟨by rw [q2];exact hcond.1,by rw [<- hc.1];exact hcond.2⟩]
       · have hn:=hr.new hs (e':=.al p 0 0 fun _=>xs.length) (o':=.blk c 0 true xs) (ch':=some (p,.blk 1 0 true (cells'.map fun x=>[x]))) (.inl ⟨_,rfl,fun _ h=>h.symm⟩)
          (fun hE=>⟨by simp,rfl,_,by rw [z4y hpp,if_pos rfl,hcond.1],hrt.mono hE⟩)
         exact z3q hn rfl (fun q hq=>.inr hq.symm) (.ptr hn.2.2.1 (by simp))
     · cases h
   · cases h
 · rename_i i hne hi;split at h
   · cases h
   · rename_i hz;cases h;refine ⟨.blk cells'.length 0 true [cells'],?_,?_⟩
     · have hz':¬ cells'.length=0:=by rw [<- hc.1];exact hz
       have h1:=hΓ.ti _ _ hi;obtain ⟨isz,ib,ik,iz⟩:=i;cases ik with
       | array n e=>exact absurd rfl (hne _ _ _ _ _)
       | _=>simp only [newBlk,h1,hz',if_false]
     · have hn:=hr.new hs (e':=.al p 0 0 fun _=>1) (o':=.raw cells.length true [cells]) (ch':=some (p,.blk cells'.length 0 true [cells'])) (.inl ⟨_,rfl,fun _ h=>h.symm⟩)
        (fun hE=>⟨rfl,rfl,rfl,[cells'],by rw [z4y hpp,if_pos rfl,hc.1],rfl,fun i r r' k1 k2=>by
          cases i with
          | zero=>simp at k1 k2;subst k1 k2;exact ⟨hc.mono hE,hc.1.symm⟩
          | succ i=>simp at k1⟩)
       exact z3q hn rfl (fun q hq=>.inr hq.symm) (.ptr hn.2.2.1 (by simp))
 · cases h
theorem HR.newBlk (hr:HR E SH HA) {c:TC} {xs:List c.den} {rows:List (List AV)} {s p:Nat} (hs:SlotAt E SH HA s p) (h:RT E c xs rows) :
 Did E SH HA p (.bref s 0) (some (s,.blk c 0 true xs)) (.ref p 0 0 xs.length) (some (p,.blk c.size 0 true rows)):=by
 have hpp:p<=HA.length:=by rcases hs with ⟨_,rfl⟩ | ⟨_,_,h2,_⟩ <;> omega
 have hn:=hr.new hs (e':=.al p 0 0 fun _=>xs.length) (o':=.blk c 0 true xs) (ch':=some (p,.blk c.size 0 true rows)) (.inl ⟨_,rfl,fun _ h=>h.symm⟩)
  (fun hE=>⟨by simp,rfl,_,by rw [z4y hpp,if_pos rfl],h.mono hE⟩)
 exact z3q hn rfl (fun q hq=>.inr hq.symm) (.bref hn.2.2.1 (by simp) (Nat.le_refl _))
theorem HR.newUn (hr:HR E SH HA) {c:TC} {s p:Nat} (hs:SlotAt E SH HA s p) :
 Did E SH HA p (.bref s 0) (some (s,.blk c 0 true [])) (.crows []) none:=by
 have hn:=hr.new hs (e':=.un 0) (o':=.blk c 0 true []) (ch':=none) (.inr ⟨rfl,fun _ h=>h⟩) (fun hE=>⟨rfl,rfl,rfl⟩);exact ⟨_,hn.2.1,hn.1,.bun hn.2.2.1 (Nat.le_refl _),(fun hx=>by cases hx),(fun i o' hx=>by cases hx;exact .inl ⟨rfl,0,hn.2.2.1⟩),(fun q a hx=>by cases hx),(fun s2 hs=>hn.2.2.2 s2 (hs _ _ rfl)),fun s2 e2 q h1 h2=>by
  by_cases hx:s2=s
  · subst hx;rw [hn.2.2.1] at h1;cases h1;cases h2
  · rw [hn.2.2.2 s2 hx] at h1;exact .inl ⟨e2,h1,h2⟩⟩
theorem zq4 (hr:HR E SH HA) {c:TC} {te:TI} (hte:te.size=c.size) {x:SV} {a:AV} {ys:List c.den} (h:zst SH c x=some ys) (hx:R E x a):∃ rows,newRows HA te a=some rows /\ RT E c ys rows:=by
 unfold zst at h;split at h
 · rename_i s;split at h
   · cases h;cases hx;refine ⟨s.map fun b=>[.int .u8 b.toNat],?_,?_⟩
     · rw [znv,if_pos (show te.size=1 from hte)]
     · induction s with
       | nil=>exact .nil
       | cons b s ih=>exact .cons (.cons (.int _ _) .nil) ih
   · cases h
 · rename_i x' hns;obtain ⟨rows,g1,g2⟩:=z93 hr h hx;refine ⟨rows,?_,g2⟩;cases a with
   | str s=>cases g1
   | _=>exact g1
theorem z05s {E':Emb} (hE:ELe E E') {p cur v s2:Nat} {off:Int} {len:Nat->Nat} {qf:Nat->Option (Nat×Nat)} {pv:Bool} {xs:List Block} {ex:List (Nat×Nat)} {rows:List (List AV)} {y:Block} {row:List AV}
 (k1:(cur:Int)=v+off) (k3:∀ i u,qf i≠some (p,u)) (k4:∀ i j q u u',qf i=some (q,u)->qf j=some (q,u')->i=j) (k5:rows.length=xs.length)
 (k6:∀ (i:Nat) x row,xs[i]?=some x->rows[i]?=some row->zgw E HA qf pv true ex i x row) (hpl:p<HA.length) (hl:len (cur+1)=xs.length+1) (hn:zgw E HA qf pv true ((xs.length,s2)::ex) xs.length y row) :
 ORN E' (HA.set p (.blk 4 (cur+1) true (rows++[row]))) p off (cur+1) len qf pv (v+1) true (xs++[y]) ((xs.length,s2)::ex):=by
 have hq':∀ j q u,qf j=some (q,u)->(HA.set p (.blk 4 (cur+1) true (rows++[row]))).getD q .none=HA.getD q .none:=fun j q u hj=>by
  rw [zp,if_neg];rintro ⟨rfl,_⟩;exact k3 j u hj
 refine ⟨by push_cast;omega,by simpa using hl,k3,k4,rows++[row],by rw [zp,if_pos ⟨rfl,hpl⟩],by simp [k5],fun k x r h1 h2=>?_⟩;rw [List.getElem?_append] at h1 h2;rw [k5] at h2;split at h1
 · rename_i hk;rw [if_pos hk] at h2;exact ((k6 k x r h1 h2).ex' (zze (by omega))).mono hE hq'
 · rename_i hk;rw [if_neg hk] at h2;have h3:=(zG.1 h1).1;simp at h3;have h4:k=xs.length:=by omega
   subst h4;simp at h1 h2;subst h1 h2;exact hn.mono hE hq'
theorem zsx (hr:HR E SH HA) {x:SV} {a:AV} {s2:Nat} {y:Block} (h:nestRow SH x=some (s2,y)) (r:R E x a) :
 ∃ row,z1m HA a=some [row] /\ row.length=4 /\ row.all AV.leaf=true /\ ∃ c0 rest,row=c0::rest /\ R E (.bref s2 0) c0 /\ RL E [svI y.next,svI y.erases,.bool y.bad] rest:=by
 unfold nestRow at h;split at h
 · rename_i s v o n;split at h
   · rename_i hcond;obtain ⟨rfl,rfl,rfl⟩:=hcond;split at h
     · rename_i k live rows hs;split at h
       · rename_i hk;subst hk;split at h
         · rename_i row;unfold rowN at h;split at h
           · rename_i s3 v3 x1 x2 x3;split at h
             · rename_i hv3;subst hv3;split at h
               · rename_i n1 n2 b1 q1 q2 q3;cases h;have e1:x1=.int .i64 n1:=by unfold dI at q1;split at q1 <;> cases q1;rfl
                 have e2:x2=.int .i64 n2:=by unfold dI at q2;split at q2 <;> cases q2;rfl
                 have e3:x3=.bool b1:=by unfold dBool at q3;split at q3 <;> cases q3;rfl
                 subst e1 e2 e3;obtain ⟨p,len,rows',g1,g2,g3,g4,g5⟩:=hr.raw hs;cases rows' with
                 | nil=>simp at g4
                 | cons row' more =>
                   have hmore:more=[]:=by simp at g4;exact g4.symm▸rfl
                   subst hmore;obtain ⟨g6,g7⟩:=g5 0 _ _ rfl rfl;refine ⟨row',?_,g7,?_,?_⟩
                   · cases r with
                     | ref hE hu =>
                       rw [g1] at hE;cases hE;have hu0:_=0:=Int.ofNat_inj.1 (hu.trans (by simp):_=((0:Nat):Int));subst hu0;simp only [z1m,g3];rfl
                     | run hE=>rw [g1] at hE;cases hE
                     | rnil hE hh hn=>rw [g1] at hE;cases hE;omega
                     | oref hE=>rw [g1] at hE;cases hE
                     | ornil hE=>rw [g1] at hE;cases hE
                     | gref hE=>rw [g1] at hE;cases hE
                     | grun hE=>rw [g1] at hE;cases hE
                   · obtain ⟨a1,m1,rfl,w1,m2⟩:=g6.cons_inv;obtain ⟨a2,m3,rfl,w2,m4⟩:=m2.cons_inv;obtain ⟨a3,m5,rfl,w3,m6⟩:=m4.cons_inv;obtain ⟨a4,m7,rfl,w4,m8⟩:=m6.cons_inv;have:=m8.nil_inv;subst this;simp only [List.all_cons,List.all_nil,Bool.and_true,Bool.and_eq_true];exact ⟨w1.leaf rfl,w2.leaf rfl,w3.leaf rfl,w4.leaf rfl⟩
                   · obtain ⟨a1,m1,rfl,w1,m2⟩:=g6.cons_inv;exact ⟨a1,m1,rfl,w1,m2⟩
               · cases h
             · cases h
           · cases h
         · cases h
       · cases h
     · cases h
   · cases h
 · cases h
theorem zq5 (hΓ:CtxOk P Γ) (hr:HR E SH HA) {st e:TypeId} {te:TI} {x v:SV} {a b:AV} {as:List Bool} {ch:Option (Nat×SO)} {s p s2:Nat} {y0:Block} {row:List AV} {isz ib:Nat} {iz:AV} (hs:SlotAt E SH HA s p) (h:zn3 SH te x (s2,y0)=some (as,v,ch)) (hx:R E x a) (has:∀ b∈as,b=true)
 (hst:ti P st=some ⟨isz,ib,.slice e,iz⟩) (hte:ti P e=some te) (q2:te.size=4) (q3:¬ (te.size=0 \/ (z09 te).isNone=true)) (r1:newRows HA te b=some [row]) (r2:row.length=4) (r3:row.all AV.leaf=true) (r4:∃ c0 rest,row=c0::rest /\ R E (.bref s2 0) c0 /\ RL E [svI y0.next,svI y0.erases,.bool y0.bad] rest) :
 ∃ v' ch',z29 P HA p st a b=some (v',ch') /\ Did E SH HA p v ch v' ch':=by
 unfold zn3 at h;split at h
 · rename_i sb vb;split at h
   · rename_i pv v' xs ex hsb;split at h
     · rename_i hv;subst hv;cases h;have c1:=of_decide_eq_true (has _ (List.mem_cons_self));have c2:=of_decide_eq_true (has _ (List.mem_cons_of_mem _ (List.mem_singleton.2 rfl)));obtain ⟨c0,rest,hrow,hc0,hrest⟩:=r4;have hn:∀ qf,zgw E HA qf pv true ((xs.length,s2)::ex) xs.length y0 row:=fun qf=>⟨c0,rest,hrow,hrest,.inl ⟨s2,by unfold exAt;rw [if_pos rfl],hc0⟩⟩
       rcases hx.bref_nst hr hsb with ⟨g1,rfl,rfl,rfl⟩ | ⟨e0,p0,off,cur,len,qf,g1,g2,⟨k1,k2,k3,k4,rows,g4,g5,g6⟩,rfl⟩
       · have hsl:=(zG.1 g1).1;have hsl':sb<SH.length:=by rw [<- hr.len];exact hsl
         have hpp:p<=HA.length:=by rcases hs with ⟨_,rfl⟩ | ⟨_,_,h2,_⟩ <;> omega
         have hlt:p<(zi HA (some (p,AO.blk 4 0 true [row]))).length:=by
          simp only [zi];split <;> simp <;> omega
         obtain ⟨w1,w2⟩:=hr.upd (HA':=zi HA (some (p,.blk 4 0 true [row]))) (e':=.al p (-(vb+1:Nat)) 0 fun _=>1) (o':=.nst pv (vb+1) true [y0] [(0,s2)]) g1 (.ua (by omega))
          (fun q hq=>by cases hq;exact ⟨hlt,.inr fun s2 e2 q1=>hs.fresh hr s2 e2 q1⟩) znw
          (fun s2 e2 q hne q1 q2'=>by
            rw [z4y hpp,if_neg];rintro rfl;exact hs.fresh hr s2 e2 q1 q2')
          (fun hE=>⟨by omega,rfl,(by intro i u h;cases h),(by intro i j q u u' h;cases h),[row],by rw [z4y hpp,if_pos rfl],rfl,fun i x r h1 h2=>by
            cases i with
            | zero=>simp at h1 h2;subst h1 h2;exact (hn (fun _=>none)).mono hE (fun _ _ _ h=>by cases h)
            | succ i=>simp at h1⟩)
         have w3:(E.set sb (.al p (-(vb+1:Nat)) 0 fun _=>1))[sb]?=some (.al p (-(vb+1:Nat)) 0 fun _=>1):=by rw [List.getElem?_set,if_pos rfl,if_pos hsl]
         refine ⟨.ref p 0 0 1,some (p,.blk 4 0 true [row]),?_,_,w2,?_,.bref w3 (by omega) (Nat.le_refl _),(fun hx=>by cases hx),(fun i o' hx=>by cases hx;exact .inr ⟨p,_,_,rfl,w3,rfl⟩),(fun q a hx=>by cases hx;exact ⟨_,_,_,_,rfl⟩),(fun s2 hs=>by rw [List.getElem?_set_ne (fun hx=>hs _ _ rfl hx.symm)]),fun s2 e2 q h1 h2=>by
          by_cases hx:sb=s2
          · subst hx;rw [w3] at h1;cases h1;cases h2;exact .inr rfl
          · rw [List.getElem?_set_ne hx] at h1;exact .inl ⟨e2,h1,h2⟩⟩
         · simp only [z29,hst,hte,r1,q3,if_false];rw [if_neg (by unfold z0f;simp at c1 c2 ⊢;omega),if_pos (by simp [r2,q2])];simp [q2]
         · rw [z1g hsl'];simpa using w1
       · have hpa:e0.at p0:=by rcases g2 with ⟨rfl,_⟩ | rfl;exact rfl;exact .inl rfl
         have hpl:=hr.lt sb _ p0 g1 hpa;have hA:z29 P HA p st (.ref p0 cur 0 xs.length) b=some (.ref p0 (cur+1) 0 (rows.length+1),some (p0,.blk 4 (cur+1) true (rows++[row]))):=by
          simp only [z29,hst,hte,r1,q3,if_false,g4];rw [if_pos (by unfold z0f;simp only [List.length_singleton];rw [g5];exact ⟨trivial,trivial,rfl,q2.symm,by omega,by omega⟩),if_pos (by simp [r2,q2,r3])];rfl
         rcases g2 with ⟨rfl,rfl⟩ | rfl
         · have hn':=hr.chg (o':=.nst pv (vb+1) true (xs++[y0]) ((xs.length,s2)::ex)) (a:=.blk 4 (cur+1) true (rows++[row])) (e':=.al p0 off (cur+1) fun u=>if u=cur+1 then xs.length+1 else len u) g1
            (.al (by omega) fun u hu=>by rw [if_neg (by omega)]) rfl (fun _ h=>h)
            (fun hE=>z05s (len:=fun u=>if u=cur+1 then xs.length+1 else len u) hE k1 k3 k4 g5 g6 hpl (if_pos rfl) (hn _))
           have hb:R (E.set sb (.al p0 off (cur+1) fun u=>if u=cur+1 then xs.length+1 else len u)) (.bref sb (vb+1)) (.ref p0 (cur+1) 0 (xs.length+1)):=by
            have:=R.bref (v:=vb+1) (u:=cur+1) hn'.2.2.1 (by push_cast;omega) (Nat.le_refl _);simpa using this
           exact ⟨_,_,hA,by rw [g5];exact z3q (slot:=p) hn' rfl (fun q hq=>.inl ⟨_,g1,hq⟩) hb⟩
         · have hn':=hr.chg (o':=.nst pv (vb+1) true (xs++[y0]) ((xs.length,s2)::ex)) (a:=.blk 4 (cur+1) true (rows++[row])) (e':=.ow p0 off (cur+1) (fun u=>if u=cur+1 then xs.length+1 else len u) qf) g1
            (.ow (by omega) fun u hu=>by rw [if_neg (by omega)]) (.inl rfl) (fun _ h=>h)
            (fun hE=>z05s (len:=fun u=>if u=cur+1 then xs.length+1 else len u) hE k1 k3 k4 g5 g6 hpl (if_pos rfl) (hn _))
           have hb:R (E.set sb (.ow p0 off (cur+1) (fun u=>if u=cur+1 then xs.length+1 else len u) qf)) (.bref sb (vb+1)) (.ref p0 (cur+1) 0 (xs.length+1)):=by
            have:=R.obref (v:=vb+1) (u:=cur+1) hn'.2.2.1 (by push_cast;omega) (Nat.le_refl _);simpa using this
           exact ⟨_,_,hA,by rw [g5];exact z3q (slot:=p) hn' rfl (fun q hq=>.inl ⟨_,g1,hq⟩) hb⟩
     · cases h
   · cases h
 · cases h
theorem zj8 (hΓ:CtxOk P Γ) (hr:HR E SH HA) {st:TypeId} {x y v:SV} {a b:AV} {as:List Bool} {ch:Option (Nat×SO)} {s p:Nat} (hs:SlotAt E SH HA s p) (h:appendS Γ SH s st x y=some (as,v,ch)) (hx:R E x a) (hy:R E y b) (has:∀ b∈as,b=true) :
 ∃ v' ch',z29 P HA p st a b=some (v',ch') /\ Did E SH HA p v ch v' ch':=by
 unfold appendS at h;split at h
 · rename_i e hst;split at h
   · rename_i te c hte hec;split at h
     · rename_i n hn;obtain ⟨te',z',q1,q2,q3,_⟩:=hΓ.ec _ _ hec;have hte':=hΓ.ti _ _ hte;rw [hte'] at q1;cases q1;obtain ⟨rows,r1,r2⟩:=zq4 hr q2 hn hy;have hrl:=(RT.iff.1 r2).1;have hc0:0<c.size:=by cases c <;> simp [TC.size]
       have hcnd:¬ (te.size=0 \/ (z09 te).isNone=true):=by rw [q3];simp;omega
       have hall:rows.all (fun r=>r.length==te.size)=true:=by
        rw [List.all_eq_true];intro row hrow;rw [r2.sizes row hrow,q2];simp
       have hall2:rows.all (fun r=>r.length==te.size&&r.all AV.leaf)=true:=by
        rw [List.all_eq_true];intro row hrow;rw [r2.sizes row hrow,q2,r2.leaves row hrow];simp
       have fresh:∀ (l:List (List AV)),a=.crows l->l=[]->(n.length)*te.bytes<=70368744177664->n.length<=70368744177664 ->
        (rows=[] /\ z29 P HA p st a b=some (.crows [],none)) \/ (rows≠[] /\ z29 P HA p st a b=some (.ref p 0 0 rows.length,some (p,.blk c.size 0 true rows))):=by
        rintro l rfl rfl b1 b2
        simp only [z29,hΓ.ti _ _ hst,hte',r1,hcnd,if_false];rw [if_neg (by unfold z0f;simp [hrl];omega),if_pos (by simp only [hall];rfl)];cases rows with
        | nil=>left;exact ⟨rfl,rfl⟩
        | cons r0 rs=>right;exact ⟨by simp,by simp [q2]⟩
       split at h
       · rename_i c' l;split at h
         · rename_i l' hl;cases h;obtain ⟨rfl,hh⟩:=z1i hl;cases hh;obtain ⟨lrows,g1,_,g2⟩:=hx.lst_inv;have ha:=g2 rfl;subst ha;have hll:=(RT.iff.1 g1).1;have c1:=of_decide_eq_true (has _ (List.mem_cons_self));have c2:=of_decide_eq_true (has _ (List.mem_cons_of_mem _ (List.mem_cons_self)));have c3:=has _ (List.mem_cons_of_mem _ (List.mem_cons_of_mem _ (List.mem_singleton.2 rfl)));by_cases hl0:l=[]
           · subst hl0;have hlr:lrows=[]:=by simpa using hll
             subst hlr;rcases fresh [] rfl rfl (by simpa using c1) (by simpa using c2) with ⟨rfl,h2⟩ | ⟨_,h2⟩
             · have hn0:n=[]:=by simpa using hrl.symm
               subst hn0;exact ⟨_,_,h2,by simpa using hr.newUn hs⟩
             · exact ⟨_,_,h2,by rw [hrl];simpa using hr.newBlk hs r2⟩
           · have hn0:n≠[]:=by simpa [hl0] using c3
             have hrn:¬ rows.length=0:=by rw [hrl];simpa using hn0
             have hln:¬ lrows.length=0:=by rw [hll];simpa using hl0
             have hall3:lrows.all (fun r=>r.length==te.size)=true:=by
              rw [List.all_eq_true];intro row hrow;rw [g1.sizes row hrow,q2];simp
             refine ⟨_,_,?_,hr.newBlk hs (g1.app r2)⟩;simp only [z29,hΓ.ti _ _ hst,hte',r1,hcnd,if_false];rw [if_neg (by unfold z0f;rw [hrl,hll];omega),if_pos (by simp only [hall,hall3];rfl),if_neg (fun hx=>hln hx.1),if_neg hrn,q2];simp [hrl,hll]
         · cases h
       · rename_i sb vb;split at h
         · rename_i c' v' xs hsb;split at h
           · rename_i hv;subst hv;split at h
             · rename_i l' hl;cases h;obtain ⟨rfl,hh⟩:=z1i hl;cases hh;have c1:=of_decide_eq_true (has _ (List.mem_cons_self));have c2:=of_decide_eq_true (has _ (List.mem_cons_of_mem _ (List.mem_singleton.2 rfl)));rcases hx.bref_inv hr hsb with ⟨g1,rfl,_,rfl⟩ | ⟨p0,off,cur,len,rows0,g1,g2,g3,g4,g5,g6,rfl⟩
               · have hsl:=(zG.1 g1).1;have hsl':sb<SH.length:=by rw [<- hr.len];exact hsl
                 have hpp:p<=HA.length:=by rcases hs with ⟨_,rfl⟩ | ⟨_,_,h2,_⟩ <;> omega
                 rcases fresh [] rfl rfl (by simpa using c1) (by simpa using c2) with ⟨rfl,h2⟩ | ⟨_,h2⟩
                 · have hn0:n=[]:=by simpa using hrl.symm
                   subst hn0;obtain ⟨k1,k2⟩:=hr.upd (HA':=HA) (e':=.un (vb+1)) (o':=.blk c' (vb+1) true []) g1 (.un (by omega)) (fun q hq=>by cases hq) (Nat.le_refl _) (fun _ _ _ _ _ _=>rfl) (fun _=>⟨rfl,rfl,rfl⟩);refine ⟨_,_,h2,_,k2,?_,.bun (cur:=vb+1) (by rw [List.getElem?_set,if_pos rfl,if_pos hsl]) (Nat.le_refl _),(fun hx=>by cases hx),(fun i o' hx=>by cases hx;exact .inl ⟨rfl,vb+1,by rw [List.getElem?_set,if_pos rfl,if_pos hsl]⟩),(fun q a hx=>by cases hx),(fun s2 hs=>by rw [List.getElem?_set_ne (fun hx=>hs _ _ rfl hx.symm)]),fun s2 e2 q h1 h2=>by
                    by_cases hx:sb=s2
                    · subst hx;rw [List.getElem?_set,if_pos rfl,if_pos hsl] at h1;cases h1;cases h2
                    · rw [List.getElem?_set_ne hx] at h1;exact .inl ⟨e2,h1,h2⟩⟩
                   rw [z1g hsl',zad];simpa using k1
                 · have hlt:p<(zi HA (some (p,AO.blk c'.size 0 true rows))).length:=by
                    simp only [zi];split <;> simp <;> omega
                   obtain ⟨k1,k2⟩:=hr.upd (HA':=zi HA (some (p,.blk c'.size 0 true rows))) (e':=.al p (-(vb+1:Nat)) 0 fun _=>rows.length) (o':=.blk c' (vb+1) true n) g1 (.ua (by omega))
                    (fun q hq=>by cases hq;exact ⟨hlt,.inr fun s2 e2 q1=>hs.fresh hr s2 e2 q1⟩) znw
                    (fun s2 e2 q hne q1 q2'=>by
                      rw [z4y hpp,if_neg];rintro rfl;exact hs.fresh hr s2 e2 q1 q2')
                    (fun hE=>⟨by omega,hrl,rows,by rw [z4y hpp,if_pos rfl],r2.mono hE⟩)
                   have k3:(E.set sb (.al p (-(vb+1:Nat)) 0 fun _=>rows.length))[sb]?=some (.al p (-(vb+1:Nat)) 0 fun _=>rows.length):=by rw [List.getElem?_set,if_pos rfl,if_pos hsl]
                   refine ⟨_,_,h2,_,k2,?_,.bref k3 (by omega) (Nat.le_refl _),(fun hx=>by cases hx),(fun i o' hx=>by cases hx;exact .inr ⟨p,_,_,rfl,k3,rfl⟩),(fun q a hx=>by cases hx;exact ⟨_,_,_,_,rfl⟩),(fun s2 hs=>by rw [List.getElem?_set_ne (fun hx=>hs _ _ rfl hx.symm)]),fun s2 e2 q h1 h2=>by
                    by_cases hx:sb=s2
                    · subst hx;rw [k3] at h1;cases h1;cases h2;exact .inr rfl
                    · rw [List.getElem?_set_ne hx] at h1;exact .inl ⟨e2,h1,h2⟩⟩
                   rw [z1g hsl'];simpa using k1
               · have hpl:=hr.lt sb _ p0 g1 rfl;have hn:=hr.chg (o':=.blk c' (vb+1) true (xs++n)) (a:=.blk c'.size (cur+1) true (rows0++rows)) (e':=.al p0 off (cur+1) fun u=>if u=cur+1 then (xs++n).length else len u) g1
                  (.al (by omega) fun u hu=>by rw [if_neg (by omega)]) rfl (fun _ h=>h)
                  (fun hE=>⟨by push_cast;omega,by simp,rows0++rows,by rw [zp,if_pos ⟨rfl,hpl⟩],(g5.app r2).mono hE⟩)
                 have hb:R (E.set sb (.al p0 off (cur+1) fun u=>if u=cur+1 then (xs++n).length else len u)) (.bref sb (vb+1)) (.ref p0 (cur+1) 0 (xs++n).length):=by
                  have:=R.bref (v:=vb+1) (u:=cur+1) hn.2.2.1 (by push_cast;omega) (Nat.le_refl _);simpa using this
                 refine ⟨.ref p0 (cur+1) 0 (rows0.length+rows.length),some (p0,.blk c'.size (cur+1) true (rows0++rows)),?_,?_⟩
                 · simp only [z29,hΓ.ti _ _ hst,hte',r1,hcnd,if_false,g4];rw [if_pos (by unfold z0f;rw [hrl,g6];exact ⟨trivial,trivial,rfl,q2.symm,by omega,by omega⟩),if_pos hall2]
                 · have:=z3q (slot:=p) hn rfl (fun q hq=>.inl ⟨_,g1,hq⟩) hb;rw [show rows0.length+rows.length=(xs++n).length by simp [g6,hrl]];exact this
             · cases h
           · cases h
         · cases h
       · cases h
     · split at h
       · rename_i hcb;subst hcb;split at h
         · rename_i b0 hb0;obtain ⟨s2,y0⟩:=b0;obtain ⟨te',z',q1,q2,q3,_⟩:=hΓ.ec _ _ hec;have hte':=hΓ.ti _ _ hte;rw [hte'] at q1;cases q1;have q2':te.size=4:=q2;have hcnd:¬ (te.size=0 \/ (z09 te).isNone=true):=by rw [q3];simp;omega
           obtain ⟨row,w1,w2,w3,w4⟩:=zsx hr hb0 hy;have w5:newRows HA te b=some [row]:=by
            cases b with
            | str s=>cases w1
            | _=>exact w1
           exact zq5 hΓ hr hs h hx has (hΓ.ti _ _ hst) hte' q2' hcnd w5 w2 w3 w4
         · cases h
       · cases h
   · cases h
 · cases h
end
end Clk
namespace Clk
open Go
section
variable {P:Program} {Γ:Ctx} {E:Emb} {SH:List SO} {HA:List AO}
theorem TC.size_pos:∀ (c:TC),0<c.size:=by intro c;cases c <;> exact Nat.zero_lt_succ _
theorem z01e {rows:List (List AV)} {k:Nat} (h:rows.all (fun r=>r.length==k&&r.all AV.leaf)=true):rows.all (fun r=>r.length==k)=true:=by
 rw [List.all_eq_true] at h ⊢;intro r hr;have:=h r hr;rw [Bool.and_eq_true] at this;exact this.1
theorem z05t {slot s v:Nat} {c:TC} {live:Bool} {o:SO} {w:SV} {w':AV} (hr:HR E SH HA) (hs:SH.getD s .dead=.blk c v live []) (g0:E[s]?=some (.un v)) (ho:o=.blk c v live []) (hw:R E w w'):Did E SH HA slot w (some (s,o)) w' none:=by
 have hsl:s<SH.length:=by
  rcases Nat.lt_or_ge s SH.length with h | h
  · exact h
  · rw [zI,List.getElem?_eq_none h] at hs;cases hs
 refine ⟨E,.refl E,?_,hw,(fun h=>by cases h),(fun i o e=>by cases e;exact .inl ⟨rfl,_,g0⟩),(fun q a e=>by cases e),(fun _ _=>rfl),fun s e q h1 h2=>.inl ⟨e,h1,h2⟩⟩;have:z3o SH (some (s,o))=SH:=by
  rw [z1g hsl];apply List.ext_getElem?
  intro i;rw [List.getElem?_set];by_cases e:s=i
  · subst e;rw [if_pos rfl,zH hsl];rw [zI,zH hsl] at hs;simp only [hsl,if_true];rw [ho,<- hs];rfl
  · rw [if_neg e]
 rw [this];exact hr
theorem zzi (hΓ:CtxOk P Γ) (hr:HR E SH HA) {slot:Nat} {dt:TypeId} {x y v:SV} {a b:AV} {as:List Bool} {ch:Option (Nat×SO)} (h:copyS Γ SH dt x y=some (as,v,ch)) (hx:R E x a) (hy:R E y b) (has:∀ b∈as,b=true) :
 ∃ v' ch',copyA P HA dt a b=some (v',ch') /\ Did E SH HA slot v ch v' ch':=by
 unfold copyS at h;split at h
 · rename_i e hdt;split at h
   · rename_i c hec;obtain ⟨te,z',q1,q2,q3,_⟩:=hΓ.ec _ _ hec;split at h
     · rename_i src b0 v0 o0 n0 hsrc;obtain ⟨rows,r1,r2⟩:=z93 hr hsrc hy;have hrl:=(RT.iff.1 r2).1;have hall2:rows.all (fun r=>r.length==c.size&&r.all AV.leaf)=true:=by
        rw [List.all_eq_true];intro row hrow;rw [r2.sizes row hrow,r2.leaves row hrow];simp
       split at h
       · rename_i c' v' xs hs;split at h
         · rename_i hv;subst hv;split at h
           · rename_i xs' hxs;cases h;obtain ⟨rfl,hh⟩:=z1i hxs;cases hh;rcases hx.ref_inv hr hs with ⟨gun,rfl,_,rfl,rfl⟩ | ⟨p,off,cur,len,rows0,g1,g2,g3,g4,g5,g6,rfl,g7⟩
             · exact ⟨.int .i64 0,none,by simp only [copyA,hΓ.ti _ _ hdt,q1,r1,q2];rw [if_pos ⟨c'.size_pos,z01e hall2⟩],z05t hr hs gun (by simp) (by simpa using R.int .i64 0)⟩
             · have hpl:=hr.lt b0 _ p g1 rfl;refine ⟨.int .i64 (min src.length n0:Nat),some (p,.blk c'.size cur true (rows0.take o0++rows.take (min src.length n0)++rows0.drop (o0+min src.length n0))),?_,
                z3q (hr.chg g1 (.refl _) rfl (fun _ h=>h) fun hE=>⟨g2,?_,_,by rw [zp,if_pos ⟨rfl,hpl⟩],?_⟩) rfl (fun q hq=>.inl ⟨_,g1,hq⟩) (.int _ _)⟩
               · simp only [copyA,hΓ.ti _ _ hdt,q1,r1,g4,q2];rw [if_pos ⟨trivial,g7,trivial,hall2⟩,hrl]
               · rw [g3];simp only [List.length_append,List.length_take,List.length_drop];have:o0+n0<=xs.length:=by rw [<- g6];exact g7
                 omega
               · exact (((g5.take _).app (r2.take _)).app (g5.drop _)).mono hE
           · cases h
         · cases h
       · cases h
     · rename_i src b0 v0 hsrc;obtain ⟨rows,r1,r2⟩:=z93 hr hsrc hy;have hrl:=(RT.iff.1 r2).1;have hall2:rows.all (fun r=>r.length==c.size&&r.all AV.leaf)=true:=by
        rw [List.all_eq_true];intro row hrow;rw [r2.sizes row hrow,r2.leaves row hrow];simp
       split at h
       · rename_i c' v' xs hs;split at h
         · rename_i hv;subst hv;split at h
           · rename_i xs' hxs;cases h;obtain ⟨rfl,hh⟩:=z1i hxs;cases hh;rcases hx.bref_inv hr hs with ⟨gun,rfl,_,rfl⟩ | ⟨p,off,cur,len,rows0,g1,g2,g3,g4,g5,g6,rfl⟩
             · exact ⟨.int .i64 0,none,by simp only [copyA,hΓ.ti _ _ hdt,q1,r1,q2];rw [if_pos ⟨c'.size_pos,z01e hall2⟩],z05t hr hs gun (by simp) (by simpa using R.int .i64 0)⟩
             · have hpl:=hr.lt b0 _ p g1 rfl;have hm:∀ (l:List (List AV)),l.length=src.length->l.take (min src.length xs.length)=l.take xs.length:=by
                intro l hl;by_cases hq:src.length<=xs.length
                · rw [Nat.min_eq_left hq,List.take_of_length_le (by omega),List.take_of_length_le (by omega)]
                · rw [Nat.min_eq_right (by omega)]
               have hd:rows0.drop (min src.length xs.length)=rows0.drop src.length:=by
                by_cases hq:src.length<=xs.length
                · rw [Nat.min_eq_left hq]
                · rw [Nat.min_eq_right (by omega),List.drop_eq_nil_of_le (by omega),List.drop_eq_nil_of_le (by omega)]
               refine ⟨.int .i64 (min src.length xs.length:Nat),some (p,.blk c'.size cur true (rows.take xs.length++rows0.drop src.length)),?_,
                z3q (hr.chg g1 (.refl _) rfl (fun _ h=>h) fun hE=>⟨g2,?_,_,by rw [zp,if_pos ⟨rfl,hpl⟩],?_⟩) rfl (fun q hq=>.inl ⟨_,g1,hq⟩) (.int _ _)⟩
               · simp only [copyA,hΓ.ti _ _ hdt,q1,r1,g4,q2];rw [if_pos ⟨trivial,by omega,trivial,hall2⟩,hrl,Nat.zero_add,hm rows hrl,hd];simp
               · rw [g3];simp only [List.length_append,List.length_take,List.length_drop];omega
               · exact ((r2.take _).app (g5.drop _)).mono hE
           · cases h
         · cases h
       · cases h
     · cases h
   · cases h
 · cases h
theorem zw1 (hΓ:CtxOk P Γ) (hr:HR E SH HA) {slot:Nat} {dt:TypeId} {x v:SV} {a:AV} {as:List Bool} {ch:Option (Nat×SO)} (h:clearS Γ SH dt x=some (as,v,ch)) (hx:R E x a) (has:∀ b∈as,b=true) :
 ∃ v' ch',clearA P HA dt a=some (v',ch') /\ Did E SH HA slot v ch v' ch':=by
 unfold clearS at h;split at h
 · rename_i e hdt;split at h
   · rename_i c b0 v0 o0 n0 hec;obtain ⟨te,z',q1,q2,q3,q4⟩:=hΓ.ec _ _ hec;split at h
     · rename_i c' v' xs hs;split at h
       · rename_i hcond;obtain ⟨rfl,rfl⟩:=hcond;cases h;have hpos:0<xs.length:=of_decide_eq_true (has _ (List.mem_singleton.2 rfl));have hzl:z'.all AV.leaf=true:=q4.leaf (zzh _ _);rcases hx.ref_inv hr hs with ⟨_,rfl,_⟩ | ⟨p,off,cur,len,rows0,g1,g2,g3,g4,g5,g6,rfl,g7⟩
         · simp at hpos
         · have hpl:=hr.lt b0 _ p g1 rfl;refine ⟨.tup [],some (p,.blk c'.size cur true (rows0.take o0++List.replicate n0 z'++rows0.drop (o0+n0))),?_,
            z3q (hr.chg g1 (.refl _) rfl (fun _ h=>h) fun hE=>⟨g2,?_,_,by rw [zp,if_pos ⟨rfl,hpl⟩],?_⟩) rfl (fun q hq=>.inl ⟨_,g1,hq⟩) (.tup' .nil)⟩
           · simp only [clearA,hΓ.ti _ _ hdt,q1,g4,q2,q3];rw [if_pos ⟨trivial,g7,trivial,hzl⟩]
           · rw [g3];simp only [List.length_append,List.length_take,List.length_drop,List.length_replicate];have:o0+n0<=xs.length:=by rw [<- g6];exact g7
             omega
           · exact (((g5.take _).app (RT.replicate (q4.mono (ELe.ofNil _)) _)).app (g5.drop _)).mono hE
       · cases h
     · cases h
   · rename_i c b0 v0 hec;obtain ⟨te,z',q1,q2,q3,q4⟩:=hΓ.ec _ _ hec;split at h
     · rename_i c' v' xs hs;split at h
       · rename_i hcond;obtain ⟨rfl,rfl⟩:=hcond;cases h;have hpos:0<xs.length:=of_decide_eq_true (has _ (List.mem_singleton.2 rfl));have hzl:z'.all AV.leaf=true:=q4.leaf (zzh _ _);rcases hx.bref_inv hr hs with ⟨_,rfl,_⟩ | ⟨p,off,cur,len,rows0,g1,g2,g3,g4,g5,g6,rfl⟩
         · simp at hpos
         · have hpl:=hr.lt b0 _ p g1 rfl;refine ⟨.tup [],some (p,.blk c'.size cur true (List.replicate xs.length z')),?_,
            z3q (hr.chg g1 (.refl _) rfl (fun _ h=>h) fun hE=>⟨g2,?_,_,by rw [zp,if_pos ⟨rfl,hpl⟩],?_⟩) rfl (fun q hq=>.inl ⟨_,g1,hq⟩) (.tup' .nil)⟩
           · simp only [clearA,hΓ.ti _ _ hdt,q1,g4,q2,q3];rw [if_pos ⟨trivial,by omega,trivial,hzl⟩];simp [g6]
           · rw [g3];simp
           · exact (RT.replicate (q4.mono (ELe.ofNil _)) _).mono hE
       · cases h
     · cases h
   · cases h
 · cases h
theorem z03m {x y v:SV} {a b:AV} (h:min2S x y=some v) (hx:R E x a) (hy:R E y b):∃ v',min2A a b=some v' /\ R E v v':=by
 unfold min2S at h;split at h
 · split at h
   · rename_i k m k' n e;cases h;cases hx;cases hy;refine ⟨_,rfl,?_⟩;have:(if n<m then n else m)=min m n:=by rw [Int.min_def];split <;> split <;> omega
     rw [this];exact .int _ _
   · cases h
 · cases h
theorem z03n {x y v:SV} {a b:AV} (h:max2S x y=some v) (hx:R E x a) (hy:R E y b):∃ v',max2A a b=some v' /\ R E v v':=by
 unfold max2S at h;split at h
 · split at h
   · rename_i k m k' n e;cases h;cases hx;cases hy;refine ⟨_,rfl,?_⟩;have:(if n>m then n else m)=max m n:=by rw [Int.max_def];split <;> split <;> omega
     rw [this];exact .int _ _
   · cases h
 · cases h
theorem zhq {f:SV->SV->Option SV} {g:AV->AV->Option AV} (hf:∀ x y v a b,f x y=some v->R E x a->R E y b->∃ v',g a b=some v' /\ R E v v') :
 ∀ {l:List SV} {l':List AV} {x v:SV} {a:AV},foldS f x l=some v->R E x a->RL E l l'->∃ v',foldA g a l'=some v' /\ R E v v'
 | [],l',x,v,a,h,hx,hl=>by cases h;rw [hl.nil_inv];exact ⟨a,rfl,hx⟩
 | y::l,l',x,v,a,h,hx,hl=>by
   obtain ⟨b,m,rfl,h1,h2⟩:=hl.cons_inv;simp only [foldS] at h;split at h
   · rename_i r hr;obtain ⟨r',g1,g2⟩:=hf _ _ _ _ _ hr hx h1;simp only [foldA,g1];exact zhq hf h g2 h2
   · cases h
theorem zq6 (hΓ:CtxOk P Γ) (hr:HR E SH HA) {b:Builtin} {ts:List TypeId} {args:List SV} {args':List AV} {v:SV} {as:List Bool} {ch:Option (Nat×SO)} {s p:Nat} (hs:SlotAt E SH HA s p)
 (h:zn4 Γ SH s b ts args=some (as,v,ch)) (ha:RL E args args') (has:∀ b∈as,b=true):∃ v' ch',z2z P HA p b ts args'=some (v',ch') /\ Did E SH HA p v ch v' ch':=by
 unfold zn4 at h;split at h
 · rename_i st xt x y;obtain ⟨a,m,rfl,h1,h2⟩:=ha.cons_inv;obtain ⟨b,m',rfl,h3,h4⟩:=h2.cons_inv;rw [h4.nil_inv];split at h
   · rename_i hxt;obtain ⟨v',ch',g1,g2⟩:=zj8 hΓ hr hs h h1 h3 has;exact ⟨v',ch',by simp only [z2z,hΓ.ti _ _ hxt];exact g1,g2⟩
   · rename_i hxt;obtain ⟨v',ch',g1,g2⟩:=zj8 hΓ hr hs h h1 h3 has;exact ⟨v',ch',by simp only [z2z,hΓ.ti _ _ hxt];exact g1,g2⟩
   · cases h
 · obtain ⟨h1,rfl,rfl⟩:=zcd h;obtain ⟨a,m,rfl,h2,h3⟩:=ha.cons_inv;obtain ⟨v',g1,g2⟩:=z03l hΓ hr h1 h2;exact ⟨v',none,by simp only [z2z,z61,g1,Option.map_some],.pure hr g2⟩
 · obtain ⟨a,m,rfl,h1,h2⟩:=ha.cons_inv;obtain ⟨b,m',rfl,h3,h4⟩:=h2.cons_inv;rw [h4.nil_inv];exact zzi hΓ hr h h1 h3 has
 · obtain ⟨a,m,rfl,h1,h2⟩:=ha.cons_inv;exact zw1 hΓ hr h h1 has
 · obtain ⟨h1,rfl,rfl⟩:=zcd h;obtain ⟨a,m,rfl,h2,h3⟩:=ha.cons_inv;obtain ⟨v',g1,g2⟩:=zhq (fun _ _ _ _ _=>z03m) h1 h2 h3;exact ⟨v',none,by simp only [z2z,z61,g1,Option.map_some],.pure hr g2⟩
 · obtain ⟨h1,rfl,rfl⟩:=zcd h;obtain ⟨a,m,rfl,h2,h3⟩:=ha.cons_inv;obtain ⟨v',g1,g2⟩:=zhq (fun _ _ _ _ _=>z03n) h1 h2 h3;exact ⟨v',none,by simp only [z2z,z61,g1,Option.map_some],.pure hr g2⟩
 · cases h
theorem zlq {size:Nat}:∀ (ps:List (Nat×SV)) (ps':List (Nat×AV)) (rows:List (List SV)) (rows':List (List AV)) (r:List (List SV)),
 ps.length=ps'.length->(∀ (i:Nat) a b,ps[i]?=some a->ps'[i]?=some b->a.1=b.1 /\ R E a.2 b.2) ->
 rows.length=rows'.length->(∀ (i:Nat) x y,rows[i]?=some x->rows'[i]?=some y->RL E x y /\ y.length=size)->fillRS size rows ps=some r ->
 ∃ r',fillR size rows' ps'=some r' /\ r.length=r'.length /\ ∀ (i:Nat) x y,r[i]?=some x->r'[i]?=some y->RL E x y /\ y.length=size
 | [],[],rows,rows',r,_,_,hl,hc,h=>by cases h;exact ⟨rows',rfl,hl,hc⟩
 | [],_::_,_,_,_,h,_,_,_,_=>by simp at h
 | _::_,[],_,_,_,h,_,_,_,_=>by simp at h
 | (i,v)::ps,(i',v')::ps',rows,rows',r,hl,hp,hrl,hc,h=>by
   obtain ⟨rfl,hv⟩:=hp 0 _ _ rfl rfl;simp only [fillRS] at h;split at h
   · rename_i cs h1;split at h
     · rename_i hcond;obtain ⟨cs',h3,h4,_⟩:=zae hv h1;obtain ⟨r',h5,h6⟩:=zlq ps ps' (rows.set i cs) (rows'.set i cs') r (by simpa using hl) (fun j a b q1 q2=>hp (j+1) a b (by simpa using q1) (by simpa using q2)) (by simp [hrl])
        (fun j x y q1 q2=>by
          rw [List.getElem?_set] at q1 q2;by_cases hx:i=j
          · subst hx;have hi2:i<rows'.length:=by rw [<- hrl];exact hcond.2
            simp only [if_true,hcond.2,hi2,Option.some.injEq] at q1 q2;subst q1 q2;exact ⟨h4,by rw [<- h4.1];exact hcond.1⟩
          · rw [if_neg hx] at q1 q2;exact hc j x y q1 q2) h
       refine ⟨r',?_,h6⟩;simp only [fillR];rw [h3];simp only;rw [if_pos ⟨by rw [<- h4.1];exact hcond.1,by rw [<- hrl];exact hcond.2⟩];exact h5
     · cases h
   · cases h
theorem zzj {i:TI} {z:List AV} (h:z09 i=some z):z.length=i.size:=by
 unfold z09 at h;split at h
 · split at h
   · rename_i h1;cases h;exact h1
   · cases h
 · cases h
theorem zro {size:Nat}:∀ {ps:List (Nat×SV)} {rows r:List (List SV)},fillRS size rows ps=some r->r.length=rows.length
 | [],rows,r,h=>by cases h;rfl
 | (i,v)::ps,rows,r,h=>by
   simp only [fillRS] at h;split at h
   · split at h
     · have:=zro h;simpa using this
     · cases h
   · cases h
theorem znz {t:List SV} {t':List AV} (ht:RL E t t') (f:Nat×Operand->TypeId) (ps:List (Nat×Operand)) :
 (ps.map fun p=>(p.1,z10 Γ (f p) t p.2)).length=(ps.map fun p=>(p.1,opd t' p.2)).length /\ ∀ (i:Nat) a b,(ps.map fun p=>(p.1,z10 Γ (f p) t p.2))[i]?=some a->(ps.map fun p=>(p.1,opd t' p.2))[i]?=some b->a.1=b.1 /\ R E a.2 b.2:=by
 refine ⟨by simp,fun i a b h1 h2=>?_⟩;simp only [List.getElem?_map,Option.map_eq_some_iff] at h1 h2;obtain ⟨x,h3,rfl⟩:=h1;obtain ⟨y,h4,rfl⟩:=h2;rw [h3] at h4;cases h4;exact ⟨rfl,z00 Γ ht _ _⟩
theorem z8y {t:List SV} {t':List AV} (ht:RL E t t'):∀ (as:List Operand) (tys:List TypeId),RL E (zipO t (fun a ty=>z10 Γ ty t a) as tys) (as.map (opd t'))
 | [],[]=>.nil
 | [],_::_=>.nil
 | a::as,[]=>.cons (z00 Γ ht _ _) (z8y ht as [])
 | a::as,ty::tys=>.cons (z00 Γ ht _ _) (z8y ht as tys)
theorem RL.mapO {t:List SV} {t':List AV} (ht:RL E t t') (l:List Operand):RL E (l.map (z10 Γ 0 t)) (l.map (opd t')):=RL.mapR (fun x=>z00 Γ ht 0 x) l
theorem z05u (hΓ:CtxOk P Γ) {fs:List (Nat×TypeId)} {j off n:Nat} (h:placeF Γ fs j=some (off,n)):placeS P fs j=some (off,n):=by
 unfold placeF at h;split at h
 · rename_i off' ft hf;split at h
   · rename_i fi hfi;cases h;simp only [placeS,hf,hΓ.ti _ _ hfi,Option.map_some]
   · cases h
 · cases h
theorem zo0 {p q:Nat->Option (Nat×Nat)} (h:∀ j x,p j=some x->q j=some x):∀ (ps:List (Nat×AV)) (cells r:List AV),fillA p cells ps=some r->fillA q cells ps=some r
 | [],cells,r,e=>e
 | (i,v)::ps,cells,r,e=>by
   simp only [fillA] at e ⊢;split at e
   · rename_i off size cs h1 h2;rw [h i _ h1,h2];simp only;split at e
     · rename_i hc;rw [if_pos hc];exact zo0 h ps _ r e
     · cases e
   · cases e
end
end Clk
namespace Clk
open Go
section
variable {P:Program} {Γ:Ctx} {E:Emb} {SH:List SO} {HA:List AO}
theorem zo1 (hΓ:CtxOk P Γ) (hr:HR E SH HA) {t:List SV} {t':List AV} (ht:RL E t t') {s p:Nat} (hs:SlotAt E SH HA s p) {o:Oper} {as:List Bool} {v:SV} {ch:Option (Nat×SO)}
 (h:evalS Γ t SH s o=some (as,v,ch)) (has:∀ b∈as,b=true):∃ v' ch',z0a P t' HA p o=some (v',ch') /\ Did E SH HA p v ch v' ch':=by
 have hpp:p<=HA.length:=by rcases hs with ⟨_,rfl⟩ | ⟨_,_,h2,_⟩ <;> omega
 have opd:=fun ty x=>z00 (E:=E) Γ ht ty x
 unfold evalS at h;split at h
 · rename_i x hop;obtain ⟨rfl,rfl,rfl⟩:=zgx h;exact ⟨_,none,by simp only [z0a,hop],.pure hr (opd _ x)⟩
 · rename_i x hop;obtain ⟨rfl,rfl,rfl⟩:=zgx h;exact ⟨_,none,by simp only [z0a,hop],.pure hr (opd _ x)⟩
 · rename_i e hop;split at h
   · rename_i z hz;split at h
     · rename_i ob hob;cases h;obtain ⟨i,z',q1,q2,q3⟩:=hΓ.zero _ _ hz;obtain ⟨o',g1,g2⟩:=zrn hΓ hr hs hob (q3.mono (ELe.ofNil E));exact ⟨_,_,by simp only [z0a,hop,q1,q2,g1],g2⟩
     · cases h
   · cases h
 · rename_i e x hop;split at h
   · rename_i cs hcs;split at h
     · rename_i ob hob;cases h;obtain ⟨cs',q1,q2,_⟩:=zae (opd e x) hcs;obtain ⟨o',g1,g2⟩:=zrn hΓ hr hs hob q2;exact ⟨_,_,by simp only [z0a,hop,q1,g1],g2⟩
     · cases h
   · cases h
 · rename_i ty parts hop;split at h
   · rename_i i hi;split at h
     · rename_i z fs hz hk;obtain ⟨h1,rfl,rfl⟩:=zcd h;simp only [Option.map_eq_some_iff] at h1;obtain ⟨cs,h2,rfl⟩:=h1;obtain ⟨i',z',q1,q2,q3⟩:=hΓ.zero _ _ hz;rw [hΓ.ti _ _ hi] at q1;cases q1;obtain ⟨p1,p2⟩:=znz (Γ:=Γ) ht (fun p=>match fs[p.1]? with | some (_,ft)=>ft | none=>0) parts.toList;obtain ⟨r',g1,g2⟩:=zho _ _ _ _ _ p1 p2 (q3.mono (ELe.ofNil E)) h2;have g3:=zo0 (q:=placeS P fs) (fun j x hx=>z05u hΓ hx) _ _ _ g1;refine ⟨.agg r',none,?_,.pure hr (.agg' g2)⟩;simp only [z0a,hop,hΓ.ti _ _ hi,q2,hk,hΓ.flds _ _ _ hi hk,if_true,g3]
     · rename_i z n e hz hk;split at h
       · rename_i te hte;obtain ⟨h1,rfl,rfl⟩:=zcd h;simp only [Option.map_eq_some_iff] at h1;obtain ⟨cs,h2,rfl⟩:=h1;obtain ⟨i',z',q1,q2,q3⟩:=hΓ.zero _ _ hz;rw [hΓ.ti _ _ hi] at q1;cases q1;obtain ⟨p1,p2⟩:=znz (Γ:=Γ) ht (fun _=>e) parts.toList;obtain ⟨r',g1,g2⟩:=zho _ _ _ _ _ p1 p2 (q3.mono (ELe.ofNil E)) h2;refine ⟨.agg r',none,?_,.pure hr (.agg' g2)⟩;simp only [z0a,hop,hΓ.ti _ _ hi,q2,hk,hΓ.ti _ _ hte,g1]
       · cases h
     · cases h
   · cases h
 · rename_i ty n parts hop;split at h
   · rename_i e ez hty;split at h
     · rename_i te z hte hz;obtain ⟨i',z',q1,q2,q3⟩:=hΓ.zero _ _ hz;rw [hΓ.ti _ _ hte] at q1;cases q1;split at h
       · rename_i hn;split at h
         · rename_i c hc;obtain ⟨rfl,rfl,rfl⟩:=zgx h;refine ⟨.crows [],none,?_,.pure hr (RT.nil.crows _)⟩;simp only [z0a,hop,hΓ.ti _ _ hty,hΓ.ti _ _ hte,q2];rw [if_pos hn]
         · cases h
       · rename_i hn;split at h
         · rename_i hlim;split at h
           · rename_i rows hrows;have hz0:RL E z z':=q3.mono (ELe.ofNil E);have hzl:z'.length=te.size:=by
              have:=zzj (i:=te) q2;exact this
             obtain ⟨p1,p2⟩:=znz (Γ:=Γ) ht (fun _=>e) parts.toList;obtain ⟨r',g1,g2,g3⟩:=zlq _ _ _ (List.replicate n z') _ p1 p2 (by simp) (fun i x y k1 k2=>by
              simp only [List.getElem?_replicate] at k1 k2;split at k1
              · rename_i hi;rw [if_pos hi] at k2;cases k1;cases k2;exact ⟨hz0,hzl⟩
              · cases k1) hrows
             have hlen:rows.length=n:=by
              have:=zro hrows;simpa using this
             have hev:z0a P t' HA p o=some (.ref p 0 0 n,some (p,.blk te.size 0 true r')):=by
              simp only [z0a,hop,hΓ.ti _ _ hty,hΓ.ti _ _ hte,q2];rw [if_neg hn,if_pos hlim,g1]
             have raw:Did E SH HA p (.ref s 0 0 n) (some (s,.raw te.size true rows)) (.ref p 0 0 n) (some (p,.blk te.size 0 true r')):=by
              have hnew:=hr.new hs (e':=.al p 0 0 fun _=>rows.length) (o':=.raw te.size true rows) (ch':=some (p,.blk te.size 0 true r')) (.inl ⟨_,rfl,fun _ h=>h.symm⟩)
               (fun hE=>⟨rfl,rfl,rfl,r',by rw [z4y hpp,if_pos rfl],g2,fun i x y k1 k2=>⟨(g3 i x y k1 k2).1.mono hE,(g3 i x y k1 k2).2⟩⟩)
              exact z3q hnew rfl (fun q hq=>.inr hq.symm) (.ref hnew.2.2.1 (by simp) (Nat.le_refl _) (by omega))
             split at h
             · rename_i c hc;split at h
               · rename_i xs hxs;cases h;obtain ⟨ti',z2,e1,e2,_⟩:=hΓ.ec _ _ hc;rw [hΓ.ti _ _ hte] at e1;cases e1;obtain ⟨m1,m2⟩:=zgg hxs;have hrt:RT E c xs r':=by
                  rw [RT.iff];refine ⟨by rw [<- g2,m1],fun i x row k1 k2=>?_⟩;have hil:i<rows.length:=by rw [m1];exact (zG.1 k1).1
                  have k3:=zH hil;exact z64 c (m2 i _ _ k3 k1) (g3 i _ _ k3 k2).1
                 refine ⟨_,_,hev,?_⟩;have:=hr.newBlk hs hrt;rw [<- m1,hlen] at this;rw [e2];exact this
               · cases h;exact ⟨_,_,hev,raw⟩
             · cases h;exact ⟨_,_,hev,raw⟩
           · cases h
         · cases h
     · cases h
   · cases h
 · rename_i ty a hop;obtain ⟨rfl,v',g1,g2⟩:=zny hΓ hr h (opd 0 a) has;exact ⟨v',none,by simp only [z0a,hop,z61,g1,Option.map_some],.pure hr g2⟩
 · rename_i ty a x hop;obtain ⟨v',ch',g1,g2⟩:=zvv hΓ hr h (opd 0 a) (opd ty x) has;exact ⟨v',ch',by simp only [z0a,hop];exact g1,g2⟩
 · rename_i x hop;have hx:=opd 0 x;split at h
   · rename_i hv;rw [hv] at hx;obtain ⟨rfl,rfl,rfl⟩:=zgx h;generalize hA:Clk.opd t' x=ax at hx;cases hx with
     | ptr g1 g2=>exact ⟨_,none,by simp only [z0a,hop,hA],.pure hr (.ptr g1 g2)⟩
     | optr g1 g2=>exact ⟨_,none,by simp only [z0a,hop,hA],.pure hr (.optr g1 g2)⟩
     | @gptr _ _ _ _ p u g1=>exact ⟨.ptr p u _ _,none,by simp only [z0a,hop,hA],.pure hr (.gptr g1)⟩
   · rename_i hv;rw [hv] at hx;obtain ⟨rfl,rfl,rfl⟩:=zgx h;generalize hA:Clk.opd t' x=ax at hx;cases hx with
     | iptr g1 g2=>exact ⟨_,none,by simp only [z0a,hop,hA],.pure hr (.iptr g1 g2)⟩
   · rename_i hv;rw [hv] at hx;obtain ⟨rfl,rfl,rfl⟩:=zgx h;generalize hA:Clk.opd t' x=ax at hx;cases hx with
     | fn g1 g2 g3 g4=>exact ⟨_,none,by simp only [z0a,hop,hA],.pure hr (.fn g1 g2 g3 g4)⟩
   · rename_i hv;rw [hv] at hx;obtain ⟨rfl,rfl,rfl⟩:=zgx h;generalize hA:Clk.opd t' x=ax at hx;cases hx with
     | yield g1=>exact ⟨_,none,by simp only [z0a,hop,hA],.pure hr (.yield g1)⟩
   · cases h
 · rename_i op ty x y yt hop;unfold mkO2 at h;split at h
   · rename_i as1 v1 hb;cases h;obtain ⟨v',g1,g2⟩:=z03k hΓ hb has (opd ty x) (opd yt y);exact ⟨v',none,by simp only [z0a,hop,z61,g1,Option.map_some],.pure hr g2⟩
   · cases h
 · rename_i op ty x hop;obtain ⟨h1,rfl,rfl⟩:=zcd h;obtain ⟨v',g1,g2⟩:=z05r h1 (opd ty x);exact ⟨v',none,by simp only [z0a,hop,z61,g1,Option.map_some],.pure hr g2⟩
 · rename_i s0 d0 x hop;obtain ⟨h1,rfl,rfl⟩:=zcd h;obtain ⟨v',g1,g2⟩:=zzf hΓ hr h1 (opd s0 x);exact ⟨v',none,by simp only [z0a,hop,z61,g1,Option.map_some],.pure hr g2⟩
 · rename_i ty x hop;split at h
   · cases h
   · rename_i i hne hi;obtain ⟨rfl,rfl,rfl⟩:=zgx h;refine ⟨.iface ty (Clk.opd t' x),none,?_,.pure hr (.iface ty (opd ty x))⟩;have h1:=hΓ.ti _ _ hi;obtain ⟨isz,ib,ik,iz⟩:=i;cases ik with
     | iface=>exact absurd rfl (hne _ _ _)
     | _=>simp only [z0a,hop,h1]
   · cases h
 · rename_i f first cap hop
   obtain ⟨rfl,rfl,rfl⟩:=zgx h;have h1:=RL.mapO (Γ:=Γ) ht first.toList
   have h2:=RL.mapO (Γ:=Γ) ht cap.toList;exact ⟨_,none,by simp only [z0a,hop],.pure hr (.fn h1.1 h1.2 h2.1 h2.2)⟩
 · rename_i ty l c hop;have hl:=opd 0 l;have hc:=opd 0 c;split at h
   · rename_i e n m hty h1 h2;rw [h1] at hl;rw [h2] at hc;split at h
     · rename_i te cc hte hec;cases h;obtain ⟨ti',z',e1,e2,e3,e4⟩:=hΓ.ec _ _ hec;rw [hΓ.ti _ _ hte] at e1;cases e1;generalize hA:Clk.opd t' l=al at hl;generalize hB:Clk.opd t' c=ac at hc;cases hl;cases hc;have c1:=of_decide_eq_true (has _ (List.mem_cons_self));have c2:=of_decide_eq_true (has _ (List.mem_cons_of_mem _ (List.mem_cons_self)));have c3:=of_decide_eq_true (has _ (List.mem_cons_of_mem _ (List.mem_cons_of_mem _ (List.mem_cons_self))));have c4:=of_decide_eq_true (has _ (List.mem_cons_of_mem _ (List.mem_cons_of_mem _ (List.mem_cons_of_mem _ (List.mem_singleton.2 rfl)))));have hc0:0<cc.size:=by cases cc <;> simp [TC.size]
       refine ⟨.ref p 0 0 n.toNat,some (p,.blk te.size 0 true (List.replicate n.toNat z')),?_,?_⟩
       · simp only [z0a,hop,hΓ.ti _ _ hty,hΓ.ti _ _ hte,hA,hB,e3];rw [if_pos ⟨c1,c2,c3,c4,by omega⟩]
       · have:=hr.newBlk hs (RT.replicate (e4.mono (ELe.ofNil E)) n.toNat);rw [e2];simpa using this
     · cases h
   · cases h
 · rename_i ty x lo hi mx hop;obtain ⟨l1,l2⟩:=optMap (Γ:=Γ) ht lo;obtain ⟨h1,h2⟩:=optMap (Γ:=Γ) ht hi;obtain ⟨m1,m2⟩:=optMap (Γ:=Γ) ht mx;obtain ⟨rfl,v',g1,g2⟩:=zvy hΓ hr h has (opd ty x) l1 l2 h1 h2 m1 m2;exact ⟨v',none,by simp only [z0a,hop,z61,g1,Option.map_some],.pure hr g2⟩
 · rename_i s0 x f hop;obtain ⟨h1,rfl,rfl⟩:=zcd h;obtain ⟨v',g1,g2⟩:=zmr hΓ h1 (opd 0 x);exact ⟨v',none,by simp only [z0a,hop,z61,g1,Option.map_some],.pure hr g2⟩
 · rename_i s0 x f hop;obtain ⟨h1,rfl,rfl⟩:=zcd h;obtain ⟨v',g1,g2⟩:=zvz hΓ h1 (opd s0 x);exact ⟨v',none,by simp only [z0a,hop,z61,g1,Option.map_some],.pure hr g2⟩
 · rename_i ty x ix hop;obtain ⟨rfl,v',g1,g2⟩:=zms hΓ hr h (opd ty x) (opd 0 ix) has;exact ⟨v',none,by simp only [z0a,hop,z61,g1,Option.map_some],.pure hr g2⟩
 · rename_i ty x ix hop;obtain ⟨rfl,v',g1,g2⟩:=zw0 hΓ h (opd ty x) (opd 0 ix) has;exact ⟨v',none,by simp only [z0a,hop,z61,g1,Option.map_some],.pure hr g2⟩
 · rename_i x ix hop;have hx:=opd 0 x;split at h
   · rename_i l hv;rw [hv] at hx;obtain ⟨h1,rfl,rfl⟩:=zcd h;generalize hA:Clk.opd t' x=ax at hx;cases hx with
     | tup g1 g2 =>
       rename_i l';obtain ⟨a,g3,g4⟩:=RL.get (E:=E) ⟨g1,g2⟩ h1;exact ⟨a,none,by simp only [z0a,hop,hA,g3,Option.map_some],.pure hr g4⟩
   · cases h
 · rename_i b args tys hop;obtain ⟨v',ch',g1,g2⟩:=zq6 hΓ hr hs h (z8y ht _ _) has;exact ⟨v',ch',by simp only [z0a,hop];exact g1,g2⟩
 · cases h
theorem zkw {t:List SV} {H:List SO} {slot:Nat} {o:Oper} {as:List Bool} {v:SV} {q:Nat} {a:SO} (h:evalS Γ t H slot o=some (as,v,some (q,a))):q=slot \/ H.getD q .dead≠.dead:=by
 have okn:∀ {x:Option SV},okO x=some (as,v,some (q,a))->False:=by
  intro x h;obtain ⟨_,_,h3⟩:=zcd h;cases h3
 have okv:∀ {x:SV},okV x=some (as,v,some (q,a))->False:=by
  intro x h;obtain ⟨_,_,h3⟩:=zgx h;cases h3
 unfold evalS at h;split at h
 · exact (okv h).elim
 · exact (okv h).elim
 · split at h
   · split at h
     · cases h;exact .inl rfl
     · cases h
   · cases h
 · split at h
   · split at h
     · cases h;exact .inl rfl
     · cases h
   · cases h
 · split at h
   · split at h
     · exact (okn h).elim
     · split at h
       · exact (okn h).elim
       · cases h
     · cases h
   · cases h
 · split at h
   · split at h
     · split at h
       · split at h
         · exact (okv h).elim
         · cases h
       · split at h
         · split at h
           · split at h
             · split at h
               · cases h;exact .inl rfl
               · cases h;exact .inl rfl
             · cases h;exact .inl rfl
           · cases h
         · cases h
     · cases h
   · cases h
 · unfold loadS at h;split at h
   · split at h
     · exact (okn h).elim
     · cases h
   · split at h
     · split at h
       · cases h
       · split at h
         · exact (okn h).elim
         · cases h
     · split at h
       · cases h
       · split at h
         · split at h
           · cases h
           · cases h
         · cases h
     · split at h
       · cases h
       · split at h
         · split at h
           · cases h
           · cases h
         · cases h
     · cases h
   · cases h
 · unfold storeS at h;split at h
   · split at h
     · cases h
     · split at h
       · rename_i hk;split at h
         · split at h
           · cases h;right;rw [hk];simp
           · cases h
         · cases h
       · rename_i hk;split at h
         · split at h
           · cases h;right;rw [hk];simp
           · split at h
             · cases h;right;rw [hk];simp
             · cases h
         · cases h
       · rename_i hk;split at h
         · split at h
           · cases h;right;rw [hk];simp
           · split at h
             · cases h
             · split at h
               · cases h;right;rw [hk];simp
               · cases h
         · cases h
       · cases h
   · cases h
 · split at h
   · exact (okv h).elim
   · exact (okv h).elim
   · exact (okv h).elim
   · exact (okv h).elim
   · cases h
 · unfold mkO2 at h;split at h
   · cases h
   · cases h
 · exact (okn h).elim
 · exact (okn h).elim
 · split at h
   · cases h
   · exact (okv h).elim
   · cases h
 · exact (okv h).elim
 · split at h
   · split at h
     · cases h;exact .inl rfl
     · cases h
   · cases h
 · exfalso;unfold sliceS at h;repeat' split at h
   all_goals (first | cases h | skip)
 · exact (okn h).elim
 · exact (okn h).elim
 · exfalso;unfold zgf at h;repeat' split at h
   all_goals (first | cases h | skip)
 · exfalso;unfold indexS at h;repeat' split at h
   all_goals (first | cases h | skip)
 · split at h
   · exact (okn h).elim
   · cases h
 · unfold zn4 at h;have app:∀ {st s x},appendS Γ H slot st s x=some (as,v,some (q,a))->q=slot \/ H.getD q .dead≠.dead:=by
    intro st s x h;unfold appendS at h;split at h
    · split at h
      · split at h
        · split at h
          · split at h
            · cases h;exact .inl rfl
            · cases h
          · split at h
            · rename_i hk;split at h
              · split at h
                · cases h;right;rw [hk];simp
                · cases h
              · cases h
            · cases h
          · cases h
        · split at h
          · split at h
            · unfold zn3 at h;split at h
              · split at h
                · rename_i hk;split at h
                  · cases h;right;rw [hk];simp
                  · cases h
                · cases h
              · cases h
            · cases h
          · cases h
      · cases h
    · cases h
   split at h
   · split at h
     · exact app h
     · exact app h
     · cases h
   · exact (okn h).elim
   · unfold copyS at h;split at h
     · split at h
       · split at h
         · split at h
           · rename_i hk;split at h
             · split at h
               · cases h;right;rw [hk];simp
               · cases h
             · cases h
           · cases h
         · split at h
           · rename_i hk;split at h
             · split at h
               · cases h;right;rw [hk];simp
               · cases h
             · cases h
           · cases h
         · cases h
       · cases h
     · cases h
   · unfold clearS at h;split at h
     · split at h
       · split at h
         · rename_i hk;split at h
           · cases h;right;rw [hk];simp
           · cases h
         · cases h
       · split at h
         · rename_i hk;split at h
           · cases h;right;rw [hk];simp
           · cases h
         · cases h
       · cases h
     · cases h
   · exact (okn h).elim
   · exact (okn h).elim
   · cases h
 · cases h
end
end Clk
namespace Clk
open Go
def iA (n:Int):AV:=.int .i64 n
def sA (s:Str):AV:=.str ⟨s.toArray⟩
def eInts (l:List Int):AV:=.rows (l.map fun n=>[iA n])
def eStrs (l:List Str):AV:=.rows (l.map fun s=>[sA s])
def ePage (p:Page):List AV:=[.bool p.written,sA p.data,sA p.tag]
def eBlock (b:Block):List AV:=[.rows (b.pages.map ePage),iA b.next,iA b.erases,.bool b.bad]
def eFate (f:Fate):List AV:=[iA f.kind,sA f.data,sA f.tag,iA f.n]
def eRecord (r:Record):List AV:=[iA r.kind,iA r.seq,eInts r.keys,eInts r.values]
def zct (c:Command):List AV:=[iA c.kind,iA c.first,iA c.count,eStrs c.data]
def z82:(c:TC)->c.den->List AV
 | .int k,n=>[.int k n]
 | .bool,b=>[.bool b]
 | .str,s=>[sA s]
 | .list c,xs=>[.rows (xs.map (z82 c))]
 | .page,p=>ePage p
 | .block,b=>eBlock b
 | .chip,c=>[.rows (c.blocks.map eBlock),.bool c.broken,.bool c.off,iA c.ops]
 | .fate,f=>eFate f
 | .record,r=>eRecord r
 | .found,f=>iA f.place::eRecord f.record
 | .table,t=>[eInts t.map,eInts t.by_]
 | .slot,s=>[iA s.state,iA s.print,iA s.place]
 | .write,w=>sA w.data::eRecord w.record
 | .command,c=>zct c
 | .geometry,g=>[iA g.blocks,iA g.pages,iA g.sectors,iA g.spare]
 | .device,d=>[iA d.geometry.blocks,iA d.geometry.pages,iA d.geometry.sectors,iA d.geometry.spare,.rows (d.chip.blocks.map eBlock),.bool d.chip.broken,.bool d.chip.off,iA d.chip.ops,eInts d.table.map,eInts d.table.by_,iA d.seq,iA d.opn]
 | .answer,a=>[iA a.errno,eStrs a.data]
 | .event,e=>zct e.command++[.rows (e.fates.map eFate)]
 | .report,r=>[iA r.free,iA r.closed,iA r.retired,iA r.live,iA r.least,iA r.most,.bool r.readOnly]
 | .rank,r=>[iA r.wanted,iA r.erases]
def encV (c:TC) (x:c.den):AV:=if c.agg then .agg (z82 c x) else match z82 c x with | [v]=>v | _=>.undef
def encL:(l:List TC)->z3z l->List AV
 | [],_=>[]
 | [c],x=>[encV c x]
 | c::d::l,x=>encV c x.1::encL (d::l) x.2
def encRes:(l:List TC)->z3z l->AV
 | [],_=>.tup []
 | [c],x=>encV c x
 | c::d::l,x=>.tup (encL (c::d::l) x)
theorem zo2 {a b:Str} (h:sA a=sA b):a=b:=by
 unfold sA at h;have h1:=AV.str.inj h;have h2:=congrArg (fun s:ByteArray=>s.data.toList) h1;simpa using h2
theorem zcu {α β:Type} {f:α->β} (hf:∀ x y,f x=f y->x=y):∀ {l m:List α},l.map f=m.map f->l=m
 | [],[],_=>rfl
 | [],_::_,h=>by simp at h
 | _::_,[],h=>by simp at h
 | x::l,y::m,h=>by
   simp only [List.map_cons,List.cons.injEq] at h;rw [hf x y h.1,zcu hf h.2]
theorem z0l {a b:Int} (h:iA a=iA b):a=b:=by unfold iA at h;cases h;rfl
theorem zce {a b:List Int} (h:eInts a=eInts b):a=b:=by
 unfold eInts at h;exact zcu (fun x y e=>z0l (List.cons.inj e).1) (AV.rows.inj h)
theorem zw2 {a b:List Str} (h:eStrs a=eStrs b):a=b:=by
 unfold eStrs at h;exact zcu (fun x y e=>zo2 (List.cons.inj e).1) (AV.rows.inj h)
theorem zw3 {a b:Page} (h:ePage a=ePage b):a=b:=by
 cases a;cases b;simp only [ePage,List.cons.injEq,AV.bool.injEq] at h;obtain ⟨rfl,h2,h3,_⟩:=h;rw [zo2 h2,zo2 h3]
theorem zkx {a b:Block} (h:eBlock a=eBlock b):a=b:=by
 cases a;cases b;simp only [eBlock,List.cons.injEq,AV.bool.injEq,AV.rows.injEq] at h;obtain ⟨h1,h2,h3,rfl,_⟩:=h;rw [zcu (fun _ _=>zw3) h1,z0l h2,z0l h3]
theorem zw4 {a b:Fate} (h:eFate a=eFate b):a=b:=by
 cases a;cases b;simp only [eFate,List.cons.injEq] at h;obtain ⟨h1,h2,h3,h4,_⟩:=h;rw [z0l h1,zo2 h2,zo2 h3,z0l h4]
theorem zhr {a b:Record} (h:eRecord a=eRecord b):a=b:=by
 cases a;cases b;simp only [eRecord,List.cons.injEq] at h;obtain ⟨h1,h2,h3,h4,_⟩:=h;rw [z0l h1,z0l h2,zce h3,zce h4]
theorem zlr {a b:Command} (h:zct a=zct b):a=b:=by
 cases a;cases b;simp only [zct,List.cons.injEq] at h;obtain ⟨h1,h2,h3,h4,_⟩:=h;rw [z0l h1,z0l h2,z0l h3,zw2 h4]
theorem zn5:∀ (c:TC) {x y:c.den},z82 c x=z82 c y->x=y
 | .int k,x,y,h=>by simp only [z82,List.cons.injEq,AV.int.injEq] at h;exact h.1.2
 | .bool,x,y,h=>by simp only [z82,List.cons.injEq,AV.bool.injEq] at h;exact h.1
 | .str,x,y,h=>by simp only [z82,List.cons.injEq] at h;exact zo2 h.1
 | .list c,x,y,h=>by
   simp only [z82,List.cons.injEq,AV.rows.injEq] at h;exact zcu (fun _ _=>zn5 c) h.1
 | .page,x,y,h=>zw3 h
 | .block,x,y,h=>zkx h
 | .chip,⟨_,_,_,_⟩,⟨_,_,_,_⟩,h=>by
   simp only [z82,List.cons.injEq,AV.rows.injEq,AV.bool.injEq] at h;obtain ⟨h1,rfl,rfl,h4,_⟩:=h;rw [zcu (fun _ _=>zkx) h1,z0l h4]
 | .fate,x,y,h=>zw4 h
 | .record,x,y,h=>zhr h
 | .found,⟨_,_⟩,⟨_,_⟩,h=>by
   simp only [z82,List.cons.injEq] at h;rw [z0l h.1,zhr h.2]
 | .table,⟨_,_⟩,⟨_,_⟩,h=>by
   simp only [z82,List.cons.injEq] at h;rw [zce h.1,zce h.2.1]
 | .slot,⟨_,_,_⟩,⟨_,_,_⟩,h=>by
   simp only [z82,List.cons.injEq] at h;rw [z0l h.1,z0l h.2.1,z0l h.2.2.1]
 | .write,⟨_,_⟩,⟨_,_⟩,h=>by
   simp only [z82,List.cons.injEq] at h;rw [zo2 h.1,zhr h.2]
 | .command,x,y,h=>zlr h
 | .geometry,⟨_,_,_,_⟩,⟨_,_,_,_⟩,h=>by
   simp only [z82,List.cons.injEq] at h;rw [z0l h.1,z0l h.2.1,z0l h.2.2.1,z0l h.2.2.2.1]
 | .device,⟨⟨_,_,_,_⟩,⟨_,_,_,_⟩,⟨_,_⟩,_,_⟩,⟨⟨_,_,_,_⟩,⟨_,_,_,_⟩,⟨_,_⟩,_,_⟩,h=>by
   simp only [z82,List.cons.injEq,AV.rows.injEq,AV.bool.injEq] at h;obtain ⟨h1,h2,h3,h4,h5,rfl,rfl,h6,h7,h8,h9,h10,_⟩:=h;rw [z0l h1,z0l h2,z0l h3,z0l h4,zcu (fun _ _=>zkx) h5,z0l h6,zce h7,zce h8,z0l h9,z0l h10]
 | .answer,⟨_,_⟩,⟨_,_⟩,h=>by
   simp only [z82,List.cons.injEq] at h;rw [z0l h.1,zw2 h.2.1]
 | .event,⟨_,_⟩,⟨_,_⟩,h=>by
   simp only [z82] at h;obtain ⟨h1,h2⟩:=List.append_inj' h rfl;simp only [List.cons.injEq,AV.rows.injEq] at h2;rw [zlr h1,zcu (fun _ _=>zw4) h2.1]
 | .report,⟨_,_,_,_,_,_,_⟩,⟨_,_,_,_,_,_,_⟩,h=>by
   simp only [z82,List.cons.injEq,AV.bool.injEq] at h;obtain ⟨h1,h2,h3,h4,h5,h6,rfl,_⟩:=h;rw [z0l h1,z0l h2,z0l h3,z0l h4,z0l h5,z0l h6]
 | .rank,⟨_,_⟩,⟨_,_⟩,h=>by
   simp only [z82,List.cons.injEq] at h;rw [z0l h.1,z0l h.2.1]
theorem zgi {c:TC} (h:c.agg=false) (x:c.den):z82 c x=[encV c x]:=by
 unfold encV;rw [if_neg (by simp [h])];cases c <;> first | rfl | (simp [TC.agg] at h)
theorem z09y {c:TC} (h:c.agg=false) (x:c.den):c.up x=[c.val x]:=by
 unfold TC.val;rw [if_neg (by simp [h])];cases c <;> first | rfl | (simp [TC.agg] at h)
theorem z01f (c:TC) {x y:c.den} (h:encV c x=encV c y):x=y:=by
 cases hc:c.agg with
 | true=>unfold encV at h;rw [if_pos hc,if_pos hc] at h;exact zn5 c (AV.agg.inj h)
 | false=>apply zn5 c;rw [zgi hc,zgi hc,h]
theorem z01g:∀ (l:List TC) {x y:z3z l},encL l x=encL l y->x=y
 | [],_,_,_=>rfl
 | [c],x,y,h=>z01f c (List.cons.inj h).1
 | c::d::l,(x,x'),(y,y'),h=>by
   simp only [encL,List.cons.injEq] at h;obtain ⟨h1,h2⟩:=h;rw [z01f c h1,z01g (d::l) h2]
theorem zo3 {E:Emb}:∀ (l:List Int),RT E .i l (l.map fun n=>[iA n])
 | []=>.nil
 | n::l=>.cons (.cons (.int _ _) .nil) (zo3 l)
theorem z05v {E:Emb}:∀ (l:List Str),RT E .str l (l.map fun s=>[sA s])
 | []=>.nil
 | n::l=>.cons (.cons (.str _) .nil) (z05v l)
theorem zrp {E:Emb} {c:TC} {f:c.den->List AV} (h:∀ x,RL E (c.up x) (f x)):∀ (l:List c.den),RT E c l (l.map f)
 | []=>.nil
 | x::l=>.cons (h x) (zrp h l)
theorem z05w {E:Emb} (p:Page):RL E (TC.page.up p) (ePage p):=.cons (.bool _) (.cons (.str _) (.cons (.str _) .nil))
theorem zsy {E:Emb} (b:Block):RL E (TC.block.up b) (eBlock b):=.cons (zrp (c:=.page) z05w b.pages).rows (.cons (.int _ _) (.cons (.int _ _) (.cons (.bool _) .nil)))
theorem z05x {E:Emb} (f:Fate):RL E (TC.fate.up f) (eFate f):=.cons (.int _ _) (.cons (.str _) (.cons (.str _) (.cons (.int _ _) .nil)))
theorem zo4 {E:Emb} (r:Record):RL E (zge r) (eRecord r):=.cons (.int _ _) (.cons (.int _ _) (.cons (zo3 _).rows (.cons (zo3 _).rows .nil)))
theorem zrq {E:Emb} (c:Command):RL E (zcc c) (zct c):=.cons (.int _ _) (.cons (.int _ _) (.cons (.int _ _) (.cons (z05v _).rows .nil)))
theorem z05y {E:Emb}:∀ (c:TC) (x:c.den),RL E (c.up x) (z82 c x)
 | .int k,n=>.cons (.int _ _) .nil
 | .bool,b=>.cons (.bool _) .nil
 | .str,s=>.cons (.str _) .nil
 | .list c,xs=>.cons (zrp (z05y c) xs).rows .nil
 | .page,p=>z05w p
 | .block,b=>zsy b
 | .chip,c=>.cons (zrp (c:=.block) zsy c.blocks).rows (.cons (.bool _) (.cons (.bool _) (.cons (.int _ _) .nil)))
 | .fate,f=>z05x f
 | .record,r=>zo4 r
 | .found,f=>.cons (.int _ _) (zo4 _)
 | .table,t=>.cons (zo3 _).rows (.cons (zo3 _).rows .nil)
 | .slot,s=>.cons (.int _ _) (.cons (.int _ _) (.cons (.int _ _) .nil))
 | .write,w=>.cons (.str _) (zo4 _)
 | .command,c=>zrq c
 | .geometry,g=>.cons (.int _ _) (.cons (.int _ _) (.cons (.int _ _) (.cons (.int _ _) .nil)))
 | .device,d=>.cons (.int _ _) (.cons (.int _ _) (.cons (.int _ _) (.cons (.int _ _) (.cons (zrp (c:=.block) zsy _).rows (.cons (.bool _) (.cons (.bool _) (.cons (.int _ _) (.cons (zo3 _).rows (.cons (zo3 _).rows (.cons (.int _ _) (.cons (.int _ _) .nil)))))))))))
 | .answer,a=>.cons (.int _ _) (.cons (z05v _).rows .nil)
 | .event,e=>(zrq _).app (.cons (zrp (c:=.fate) z05x _).rows .nil)
 | .report,r=>.cons (.int _ _) (.cons (.int _ _) (.cons (.int _ _) (.cons (.int _ _) (.cons (.int _ _) (.cons (.int _ _) (.cons (.bool _) .nil))))))
 | .rank,r=>.cons (.int _ _) (.cons (.int _ _) .nil)
theorem zo5 {E:Emb} (c:TC) (x:c.den):R E (c.val x) (encV c x):=by
 cases hc:c.agg with
 | true=>unfold TC.val encV;rw [if_pos hc,if_pos hc];exact .agg' (z05y c x)
 | false =>
   have h:=z05y (E:=E) c x;rw [z09y hc,zgi hc] at h;obtain ⟨a,m,e,h1,_⟩:=h.cons_inv;cases e;exact h1
theorem zsz {E:Emb}:∀ (l:List TC) (x:z3z l),RL E (valL l x) (encL l x)
 | [],_=>.nil
 | [c],x=>.cons (zo5 c x) .nil
 | c::d::l,x=>.cons (zo5 c x.1) (zsz (d::l) x.2)
theorem zt0 {E:Emb}:∀ (l:List TC) (x:z3z l),R E (resV l x) (encRes l x)
 | [],_=>.tup' .nil
 | [c],x=>zo5 c x
 | c::d::l,x=>.tup' (zsz (c::d::l) x)
def NrmC (c:TC):Prop:=∀ (E:Emb) (x:c.den) (row:List AV),RL E (c.up x) row->zed row=some (z82 c x)
theorem z34 {c:TC} (hc:NrmC c) {E:Emb}:∀ {xs:List c.den} {l:List (List AV)},RT E c xs l->nrmLL l=some (xs.map (z82 c))
 | [],l,h=>by
   have:=(RT.iff.1 h).1;cases l with
   | nil=>rfl
   | cons=>simp at this
 | x::xs,l,h=>by
   rw [RT.iff] at h;cases l with
   | nil=>simp at h
   | cons row l =>
     obtain ⟨h1,h2⟩:=h;have h3:=z34 hc (E:=E) (xs:=xs) (l:=l) (RT.iff.2 ⟨by simpa using h1,fun i y r q1 q2=>h2 (i+1) y r (by simpa using q1) (by simpa using q2)⟩);simp only [nrmLL,hc E x row (h2 0 x row rfl rfl),h3,List.map_cons]
theorem z7m {c:TC} (hc:NrmC c) {E:Emb} {fl:Bool} {xs:List c.den} {a:AV} (h:R E (.lst fl c xs) a):a.nrm=some (.rows (xs.map (z82 c))):=by
 obtain ⟨l,h1,h2,_⟩:=h.lst_inv;rcases h2 with rfl | rfl <;> simp only [AV.nrm,z34 hc h1,Option.map_some]
theorem zb {E:Emb} {x:SV} {l:List SV} {row:List AV} {y:AV} {ys:List AV} (h:RL E (x::l) row) (h1:∀ a,R E x a->a.nrm=some y) (h2:∀ m,RL E l m->zed m=some ys):zed row=some (y::ys):=by
 obtain ⟨a,m,rfl,g1,g2⟩:=h.cons_inv;simp only [zed,h1 a g1,h2 m g2]
theorem z0z {E:Emb} {row:List AV} (h:RL E [] row):zed row=some []:=by rw [h.nil_inv];rfl
theorem z1v {E:Emb} {k:IntKind} {n:Int} (a:AV) (h:R E (.int k n) a):a.nrm=some (.int k n):=by cases h;rfl
theorem zls {E:Emb} {b:Bool} (a:AV) (h:R E (.bool b) a):a.nrm=some (.bool b):=by cases h;rfl
theorem z03o {E:Emb} {s:Str} (a:AV) (h:R E (.str s) a):a.nrm=some (sA s):=by cases h;rfl
theorem z09z (k:IntKind):NrmC (.int k):=fun E x row h=>zb h (z1v) (fun _=>z0z)
theorem z0a0:NrmC .str:=fun E x row h=>zb h (z03o) (fun _=>z0z)
theorem z05z:NrmC .page:=fun E x row h=>zb h zls fun _ h=>zb h z03o fun _ h=>zb h z03o fun _=>z0z
theorem zrr {E:Emb} {l:List Int} (a:AV) (h:R E (svL .i l) a):a.nrm=some (eInts l):=z7m (z09z _) h
theorem z060 {E:Emb} {l:List Str} (a:AV) (h:R E (svL .str l) a):a.nrm=some (eStrs l):=z7m z0a0 h
theorem z0br {E:Emb} {l:List Page} (a:AV) (h:R E (svL .page l) a):a.nrm=some (.rows (l.map ePage)):=z7m z05z h
theorem z01h:NrmC .block:=fun E x row h=>zb h z0br fun _ h=>zb h z1v fun _ h=>zb h z1v fun _ h=>zb h zls fun _=>z0z
theorem z01i {E:Emb} {l:List Block} (a:AV) (h:R E (svL .block l) a):a.nrm=some (.rows (l.map eBlock)):=z7m z01h h
theorem z061:NrmC .fate:=fun E x row h=>zb h z1v fun _ h=>zb h z03o fun _ h=>zb h z03o fun _ h=>zb h z1v fun _=>z0z
theorem z0bs {E:Emb} {l:List Fate} (a:AV) (h:R E (svL .fate l) a):a.nrm=some (.rows (l.map eFate)):=z7m z061 h
theorem zo6:NrmC .record:=fun E x row h=>zb h z1v fun _ h=>zb h z1v fun _ h=>zb h zrr fun _ h=>zb h zrr fun _=>z0z
theorem z03p:NrmC .command:=fun E x row h=>zb h z1v fun _ h=>zb h z1v fun _ h=>zb h z1v fun _ h=>zb h z060 fun _=>z0z
theorem nrmC:∀ (c:TC),NrmC c
 | .int k=>z09z k
 | .bool=>fun E x row h=>zb h (zls) (fun _=>z0z)
 | .str=>z0a0
 | .list c=>fun E x row h=>zb h (fun _ h=>z7m (nrmC c) h) (fun _=>z0z)
 | .page=>z05z
 | .block=>z01h
 | .chip=>fun E x row h=>zb h z01i fun _ h=>zb h zls fun _ h=>zb h zls fun _ h=>zb h z1v fun _=>z0z
 | .fate=>z061
 | .record=>zo6
 | .found=>fun E x row h=>zb h z1v fun m h=>zo6 E x.record m h
 | .table=>fun E x row h=>zb h zrr fun _ h=>zb h zrr fun _=>z0z
 | .slot=>fun E x row h=>zb h z1v fun _ h=>zb h z1v fun _ h=>zb h z1v fun _=>z0z
 | .write=>fun E x row h=>zb h z03o fun m h=>zo6 E x.record m h
 | .command=>z03p
 | .geometry=>fun E x row h=>zb h z1v fun _ h=>zb h z1v fun _ h=>zb h z1v fun _ h=>zb h z1v fun _=>z0z
 | .device=>fun E x row h=>zb h z1v fun _ h=>zb h z1v fun _ h=>zb h z1v fun _ h=>zb h z1v fun _ h=>zb h z01i fun _ h=>zb h zls fun _ h=>zb h zls fun _ h=>zb h z1v fun _ h =>
    zb h zrr fun _ h=>zb h zrr fun _ h=>zb h z1v fun _ h=>zb h z1v fun _=>z0z
 | .answer=>fun E x row h=>zb h z1v fun _ h=>zb h z060 fun _=>z0z
 | .event=>fun E x row h=>zb h z1v fun _ h=>zb h z1v fun _ h=>zb h z1v fun _ h=>zb h z060 fun _ h=>zb h z0bs fun _=>z0z
 | .report=>fun E x row h=>zb h z1v fun _ h=>zb h z1v fun _ h=>zb h z1v fun _ h=>zb h z1v fun _ h=>zb h z1v fun _ h=>zb h z1v fun _ h=>zb h zls fun _=>z0z
 | .rank=>fun E x row h=>zb h z1v fun _ h=>zb h z1v fun _=>z0z
end Clk
namespace Clk
open Go
inductive Tel:SV->AV->Prop
 | int (k:IntKind) (n:Int):Tel (.int k n) (.int k n)
 | bool (b:Bool):Tel (.bool b) (.bool b)
 | str (s:Str):Tel (.str s) (sA s)
 | lst {c:TC} {xs:List c.den}:Tel (.lst false c xs) (.rows (xs.map (z82 c)))
inductive TelL:List SV->List AV->Prop
 | nil:TelL [] []
 | cons {x:SV} {w:AV} {l:List SV} {m:List AV} (h:Tel x w) (t:TelL l m):TelL (x::l) (w::m)
theorem TelL.app {l l2:List SV} {m m2:List AV} (h:TelL l m) (g:TelL l2 m2):TelL (l++l2) (m++m2):=by
 induction h with
 | nil=>exact g
 | cons h _ ih=>exact .cons h ih
theorem zrs (l:List Int):Tel (svL .i l) (eInts l):=.lst
theorem z0a1 (l:List Str):Tel (svL .str l) (eStrs l):=.lst
theorem zt1 (r:Record):TelL (zge r) (eRecord r):=.cons (.int _ _) (.cons (.int _ _) (.cons (zrs _) (.cons (zrs _) .nil)))
theorem zw5 (c:Command):TelL (zcc c) (zct c):=.cons (.int _ _) (.cons (.int _ _) (.cons (.int _ _) (.cons (z0a1 _) .nil)))
theorem zo7:∀ (c:TC) (x:c.den),TelL (c.up x) (z82 c x)
 | .int k,n=>.cons (.int _ _) .nil
 | .bool,b=>.cons (.bool _) .nil
 | .str,s=>.cons (.str _) .nil
 | .list c,xs=>.cons .lst .nil
 | .page,p=>.cons (.bool _) (.cons (.str _) (.cons (.str _) .nil))
 | .block,b=>.cons .lst (.cons (.int _ _) (.cons (.int _ _) (.cons (.bool _) .nil)))
 | .chip,c=>.cons .lst (.cons (.bool _) (.cons (.bool _) (.cons (.int _ _) .nil)))
 | .fate,f=>.cons (.int _ _) (.cons (.str _) (.cons (.str _) (.cons (.int _ _) .nil)))
 | .record,r=>zt1 r
 | .found,f=>.cons (.int _ _) (zt1 _)
 | .table,t=>.cons (zrs _) (.cons (zrs _) .nil)
 | .slot,s=>.cons (.int _ _) (.cons (.int _ _) (.cons (.int _ _) .nil))
 | .write,w=>.cons (.str _) (zt1 _)
 | .command,c=>zw5 c
 | .geometry,g=>.cons (.int _ _) (.cons (.int _ _) (.cons (.int _ _) (.cons (.int _ _) .nil)))
 | .device,d=>.cons (.int _ _) (.cons (.int _ _) (.cons (.int _ _) (.cons (.int _ _) (.cons .lst (.cons (.bool _) (.cons (.bool _) (.cons (.int _ _) (.cons (zrs _) (.cons (zrs _) (.cons (.int _ _) (.cons (.int _ _) .nil)))))))))))
 | .answer,a=>.cons (.int _ _) (.cons (z0a1 _) .nil)
 | .event,e=>(zw5 _).app (.cons .lst .nil)
 | .report,r=>.cons (.int _ _) (.cons (.int _ _) (.cons (.int _ _) (.cons (.int _ _) (.cons (.int _ _) (.cons (.int _ _) (.cons (.bool _) .nil))))))
 | .rank,r=>.cons (.int _ _) (.cons (.int _ _) .nil)
section
variable {E:Emb} {SH:List SO} {HA:List AO}
def Told (HA:List AO) (d:Nat) (a w:AV):Prop:=exp HA (d+1) a=some w /\ ∀ w',a.nrm=some w'->w'=w
def ToldL (HA:List AO) (d:Nat) (l m:List AV):Prop:=mapO (exp HA (d+1)) l=some m /\ ∀ m',zed l=some m'->m'=m
theorem zo8 {d:Nat}:ToldL HA d [] []:=⟨rfl,fun m h=>by cases h;rfl⟩
theorem z0o {d:Nat} {a w:AV} {l m:List AV} (h:Told HA d a w) (t:ToldL HA d l m):ToldL HA d (a::l) (w::m):=by
 refine ⟨by simp only [mapO,h.1,t.1],fun m' e=>?_⟩;simp only [zed] at e;split at e
 · rename_i y ys h1 h2;cases e;rw [h.2 _ h1,t.2 _ h2]
 · cases e
theorem z1w {d:Nat} {a w:AV} (h:a.nrm=some w) (hr:∀ b v o n,a≠.ref b v o n) (ha:∀ l,a≠.agg l) (ht:∀ l,a≠.tup l):Told HA d a w:=by
 refine ⟨?_,fun w' e=>by rw [h] at e;cases e;rfl⟩;cases a with
 | agg l=>exact absurd rfl (ha l)
 | tup l=>exact absurd rfl (ht l)
 | ref b v o n=>exact absurd rfl (hr b v o n)
 | _=>simpa [exp] using h
theorem LeafL.told {d:Nat} {L:(c:TC)->SV->Option (List c.den)} (hL:∀ (c:TC) (x:SV) (xs:List c.den) (a:AV),L c x=some xs->R E x a->Told HA d a (.rows (xs.map (z82 c)))) {l z:List SV} {m:List AV} (h:LeafL L l z) (t:TelL z m) {l':List AV} (r:RL E l l'):ToldL HA d l' m:=by
 induction h generalizing m l' with
 | nil=>cases t;rw [r.nil_inv];exact zo8
 | cons h _ ih =>
   cases t with
   | cons t ts =>
     obtain ⟨a,k,rfl,h1,h2⟩:=r.cons_inv;refine z0o ?_ (ih ts h2);cases h with
     | int k n=>cases t;cases h1;exact z1w rfl (fun _ _ _ _ h=>by cases h) (fun _ h=>by cases h) (fun _ h=>by cases h)
     | bool b=>cases t;cases h1;exact z1w rfl (fun _ _ _ _ h=>by cases h) (fun _ h=>by cases h) (fun _ h=>by cases h)
     | str s=>cases t;cases h1;exact z1w rfl (fun _ _ _ _ h=>by cases h) (fun _ h=>by cases h) (fun _ h=>by cases h)
     | lst h=>cases t;exact hL _ _ _ _ h h1
theorem zgj {d:Nat} {c:TC}:∀ {rows:List (List AV)} {xs:List c.den},rows.length=xs.length->(∀ (i:Nat) row x,rows[i]?=some row->xs[i]?=some x->ToldL HA d row (z82 c x)) ->
 mapO (mapO (exp HA (d+1))) rows=some (xs.map (z82 c)) /\ ∀ r,nrmLL rows=some r->r=xs.map (z82 c)
 | [],[],_,_=>⟨rfl,fun r h=>by cases h;rfl⟩
 | [],_::_,h,_=>by simp at h
 | _::_,[],h,_=>by simp at h
 | row::rows,x::xs,h,hc=>by
   obtain ⟨g1,g2⟩:=zgj (rows:=rows) (xs:=xs) (by simpa using h) (fun i r y q1 q2=>hc (i+1) r y (by simpa using q1) (by simpa using q2));obtain ⟨g3,g4⟩:=hc 0 row x rfl rfl;refine ⟨by rw [mapO,g3,g1];rfl,fun r e=>?_⟩;simp only [nrmLL] at e;split at e
   · rename_i y ys h1 h2;cases e;rw [g4 _ h1,g2 _ h2];rfl
   · cases e
theorem z062 (hr:HR E SH HA) {d s v:Nat} {pv live:Bool} {xs:List Block} {a:AV} (hs:SH.getD s .dead=.nst pv v live xs []) (r:R E (.bref s v) a):Told HA (d+2) a (.rows (xs.map (z82 .block))):=by
 rcases r.bref_nst hr hs with ⟨g1,rfl,_,rfl⟩ | ⟨e0,p0,off,cur,len,qf,g1,g2,⟨k1,k2,k3,k4,rows,g4,g5,g6⟩,rfl⟩
 · exact z1w rfl (fun _ _ _ _ h=>by cases h) (fun _ h=>by cases h) (fun _ h=>by cases h)
 · refine ⟨?_,fun w' e=>by cases e⟩;have typed:∀ {x:Block} {c0:AV},R E (svL .page x.pages) c0->Told HA (d+1) c0 (.rows (x.pages.map (z82 .page))):=fun {x c0} h=>by
    have h1:=z7m (nrmC _) h;obtain ⟨l,_,h2,_⟩:=h.lst_inv;rcases h2 with rfl | rfl <;> exact z1w h1 (fun _ _ _ _ h=>by cases h) (fun _ h=>by cases h) (fun _ h=>by cases h)
   have rest:∀ {x:Block} {m:List AV},RL E [svI x.next,svI x.erases,.bool x.bad] m->ToldL HA (d+1) m [iA x.next,iA x.erases,.bool x.bad]:=fun {x m} h=>by
    obtain ⟨_,_,rfl,w1,h⟩:=h.cons_inv;obtain ⟨_,_,rfl,w2,h⟩:=h.cons_inv;obtain ⟨_,_,rfl,w3,h⟩:=h.cons_inv;rw [h.nil_inv];cases w1;cases w2;cases w3;refine z0o ?_ (z0o ?_ (z0o ?_ zo8)) <;> exact z1w rfl (fun _ _ _ _ h=>by cases h) (fun _ h=>by cases h) (fun _ h=>by cases h)
   have priv:∀ {x:Block} {c0:AV} {q u:Nat} {prows:List (List AV)},c0=.ref q u 0 x.pages.length->HA.getD q .none=.blk 3 u live prows->RT E .page x.pages prows->Told HA (d+1) c0 (.rows (x.pages.map (z82 .page))):=fun {x c0 q u prows} h1 h2 h3=>by
    subst h1;refine ⟨?_,fun w' e=>by cases e⟩;have hl:=(RT.iff.1 h3).1;simp only [exp,h2];rw [if_pos ⟨trivial,by omega⟩];rw [<- hl,List.drop_zero,List.take_length,z34 (nrmC _) h3]
   obtain ⟨w1,w2⟩:=zgj (HA:=HA) (d:=d+1) (c:=.block) (rows:=rows) (xs:=xs) (by rw [g5]) (fun i row y e1 e2=>by
    obtain ⟨c0,m,rfl,h1,h2⟩:=g6 i _ _ e2 e1;rcases h2 with ⟨s2,q1,_⟩ | ⟨_,q1,_⟩ | ⟨_,q,u,prows,q1,q2,q3,q4⟩
    · cases q1
    · exact z0o (typed q1) (rest h1)
    · exact z0o (priv q2 q3 q4) (rest h1))
   simp only [exp,g4];rw [if_pos ⟨trivial,by omega⟩];rw [<- g5,List.drop_zero,List.take_length];cases hn:nrmLL rows with
   | some r=>simp only;rw [w2 _ hn]
   | none=>simp only;rw [w1];rfl
theorem z4p (hr:HR E SH HA):∀ (d:Nat) (c:TC) (x:SV) (xs:List c.den) (a:AV),dList SH d c x=some xs->R E x a->Told HA d a (.rows (xs.map (z82 c)))
 | 0,c,x,xs,a,h,_=>by cases h
 | d+1,c,x,xs,a,h,r=>by
   unfold dList at h;split at h
   · obtain ⟨rfl,hh⟩:=z1i h;cases hh;have h1:=z7m (nrmC _) r;obtain ⟨l,_,h2,_⟩:=r.lst_inv;rcases h2 with rfl | rfl <;> exact z1w h1 (fun _ _ _ _ h=>by cases h) (fun _ h=>by cases h) (fun _ h=>by cases h)
   · split at h
     · rename_i hs;split at h
       · rename_i hv;subst hv;obtain ⟨rfl,hh⟩:=z1i h;cases hh;rcases r.bref_inv hr hs with ⟨_,rfl,_,rfl⟩ | ⟨p,off,cur,len,rows,g1,g2,g3,g4,g5,g6,rfl⟩
         · exact z1w rfl (fun _ _ _ _ h=>by cases h) (fun _ h=>by cases h) (fun _ h=>by cases h)
         · refine ⟨?_,fun w' e=>by cases e⟩;simp only [exp,g4];rw [if_pos ⟨trivial,by omega⟩];rw [<- g6,List.drop_zero,List.take_length,z34 (nrmC _) g5]
       · cases h
     · rename_i hs;split at h
       · split at h
         · rename_i hv;subst hv;obtain ⟨rfl,hh⟩:=z1i h;cases hh;exact z062 hr hs r
         · cases h
       · cases h
     · cases h
   · rename_i s0 v0 o0 n0;split at h
     · rename_i hs;split at h
       · rename_i hv;subst hv;obtain ⟨rfl,hh⟩:=z1i h;cases hh;rcases r.ref_inv hr hs with ⟨_,rfl,_,rfl,rfl⟩ | ⟨p,off,cur,len,rows,g1,g2,g3,g4,g5,g6,rfl,g7⟩
         · rw [List.take_zero];exact z1w rfl (fun _ _ _ _ h=>by cases h) (fun _ h=>by cases h) (fun _ h=>by cases h)
         · refine ⟨?_,fun w' e=>by cases e⟩;simp only [exp,g4];rw [if_pos ⟨trivial,g7⟩,z34 (nrmC _) ((g5.drop o0).take n0)]
       · cases h
     · rename_i hs;split at h
       · rename_i hv;obtain ⟨rfl,hv⟩:=hv;obtain ⟨p,len,rows',g1,g2,g3,g4,g5⟩:=hr.raw hs;cases r with
         | ref hE hu hle hn =>
           rw [g1] at hE;cases hE;have hu0:_=0:=Int.ofNat_inj.1 (hu.trans (by simp):_=((0:Nat):Int));subst hu0;refine ⟨?_,fun w' e=>by cases e⟩;obtain ⟨q1,q2⟩:=zgg h;obtain ⟨k1,k2⟩:=zgj (HA:=HA) (d:=d) (c:=c) (rows:=(rows'.drop o0).take n0) (xs:=xs) (by rw [<- q1];simp [g4]) (fun i row x e1 e2=>by
            have hi:=(zG.1 e2).1;rw [<- q1] at hi;have e3:=zH hi;have e4:=q2 i _ _ e3 e2;rw [List.getElem?_take] at e1 e3;split at e1
            · rename_i hlt;rw [if_pos hlt] at e3;rw [List.getElem?_drop] at e1 e3;exact (z1h c e4).told (fun c x xs a=>z4p hr d c x xs a) (zo7 c x) (g5 _ _ _ e3 e1).1
            · cases e1)
           simp only [exp,g3];rw [if_pos ⟨trivial,by omega⟩];cases hn:nrmLL ((rows'.drop o0).take n0) with
           | some r=>simp only;rw [k2 _ hn]
           | none=>simp only;rw [k1];rfl
         | run hE hle hn=>rw [g1] at hE;cases hE
         | rnil hE hh hn=>rw [g1] at hE;cases hE;omega
         | oref hE=>rw [g1] at hE;cases hE
         | ornil hE=>rw [g1] at hE;cases hE
         | gref hE=>rw [g1] at hE;cases hE
         | grun hE=>rw [g1] at hE;cases hE
       · cases h
     · cases h
   · cases h
theorem zo9 (hr:HR E SH HA) {d:Nat} {c:TC} {x:SV} {y:c.den} {a:AV} (h:dVal SH d c x=some y) (r:R E x a):exp HA (d+2) a=some (encV c y):=by
 unfold dVal at h;cases hc:c.agg with
 | true =>
   rw [if_pos hc] at h;split at h
   · cases r with
     | agg g1 g2 =>
       have h1:=((z1h c h).told (fun c x xs a=>z4p hr d c x xs a) (zo7 c y) (⟨g1,g2⟩:RL E _ _)).1;simp only [exp,h1,Option.map_some,encV,hc,if_true]
   · cases h
 | false =>
   rw [if_neg (by simp [hc])] at h;have h1:=((z1h c h).told (fun c x xs a=>z4p hr (d+1) c x xs a) (zo7 c y) (.cons r .nil)).1;rw [zgi hc] at h1;simp only [mapO] at h1;split at h1
   · rename_i z zs e1 e2;cases e2;cases h1;exact e1
   · cases h1
theorem zky (hr:HR E SH HA) {d:Nat}:∀ (l:List TC) {xs:List SV} {y:z3z l} {as:List AV},dValL SH d l xs=some y->RL E xs as->mapO (exp HA (d+2)) as=some (encL l y)
 | [],[],y,as,h,r=>by rw [r.nil_inv];rfl
 | [],_::_,y,as,h,r=>by cases h
 | [c],[],y,as,h,r=>by cases h
 | [c],[x],y,as,h,r=>by
   obtain ⟨a,m,rfl,h1,h2⟩:=r.cons_inv;rw [h2.nil_inv];simp only [mapO,zo9 hr (c:=c) (show dVal SH d c x=some y from h) h1,encL]
 | [c],x::x2::xs,y,as,h,r=>by cases h
 | c::e::l,[],y,as,h,r=>by cases h
 | c::e::l,x::xs,y,as,h,r=>by
   simp only [dValL] at h;split at h
   · rename_i a0 b0 h1 h2;cases h;obtain ⟨a,m,rfl,g1,g2⟩:=r.cons_inv;have g3:=zky hr (e::l) h2 g2;rw [mapO,zo9 hr h1 g1,g3];rfl
   · cases h
theorem z2c {i k s:Nat}:exAt [(i,s)] k=if i=k then some s else none:=rfl
theorem z08k (hr:HR E SH HA) {d s v:Nat} {pv live:Bool} {xs ys:List Block} {ex:List (Nat×Nat)} {a:AV} (hs:SH.getD s .dead=.nst pv v live xs ex) (hy:nstRows SH xs ex=some ys) (r:R E (.bref s v) a):Told HA (d+2) a (.rows (ys.map (z82 .block))):=by
 have hlen:ys.length=xs.length:=by
  unfold nstRows at hy;split at hy
  · cases hy;rfl
  · split at hy
    · split at hy
      · split at hy
        · cases hy;simp
        · cases hy
      · cases hy
    · cases hy
  · cases hy
 rcases r.bref_nst hr hs with ⟨g1,rfl,rfl,rfl⟩ | ⟨e0,p0,off,cur,len,qf,g1,g2,⟨k1,k2,k3,k4,rows,g4,g5,g6⟩,rfl⟩
 · have:ys=[]:=by simpa using hlen
   subst this;exact z1w rfl (fun _ _ _ _ h=>by cases h) (fun _ h=>by cases h) (fun _ h=>by cases h)
 · refine ⟨?_,fun w' e=>by cases e⟩;have typed:∀ {x:Block} {c0:AV},R E (svL .page x.pages) c0->Told HA (d+1) c0 (.rows (x.pages.map (z82 .page))):=fun {x c0} h=>by
    have h1:=z7m (nrmC _) h;obtain ⟨l,_,h2,_⟩:=h.lst_inv;rcases h2 with rfl | rfl <;> exact z1w h1 (fun _ _ _ _ h=>by cases h) (fun _ h=>by cases h) (fun _ h=>by cases h)
   have rest:∀ {x:Block} {m:List AV},RL E [svI x.next,svI x.erases,.bool x.bad] m->ToldL HA (d+1) m [iA x.next,iA x.erases,.bool x.bad]:=fun {x m} h=>by
    obtain ⟨_,_,rfl,w1,h⟩:=h.cons_inv;obtain ⟨_,_,rfl,w2,h⟩:=h.cons_inv;obtain ⟨_,_,rfl,w3,h⟩:=h.cons_inv;rw [h.nil_inv];cases w1;cases w2;cases w3;refine z0o ?_ (z0o ?_ (z0o ?_ zo8)) <;> exact z1w rfl (fun _ _ _ _ h=>by cases h) (fun _ h=>by cases h) (fun _ h=>by cases h)
   have priv:∀ {x:Block} {c0:AV} {q u:Nat} {prows:List (List AV)},c0=.ref q u 0 x.pages.length->HA.getD q .none=.blk 3 u live prows->RT E .page x.pages prows->Told HA (d+1) c0 (.rows (x.pages.map (z82 .page))):=fun {x c0 q u prows} h1 h2 h3=>by
    subst h1;refine ⟨?_,fun w' e=>by cases e⟩;have hl:=(RT.iff.1 h3).1;simp only [exp,h2];rw [if_pos ⟨trivial,by omega⟩];rw [<- hl,List.drop_zero,List.take_length,z34 (nrmC _) h3]
   obtain ⟨w1,w2⟩:=zgj (HA:=HA) (d:=d+1) (c:=.block) (rows:=rows) (xs:=ys) (by rw [g5,hlen]) (fun i row y e1 e2=>by
    have hi:i<xs.length:=by rw [<- hlen];exact (zG.1 e2).1
    have hx:=zH hi;obtain ⟨c0,m,rfl,h1,h2⟩:=g6 i _ _ hx e1;unfold nstRows at hy;split at hy
    · cases hy;rw [hx] at e2;cases e2;rcases h2 with ⟨s2,q1,_⟩ | ⟨_,q1,_⟩ | ⟨_,q,u,prows,q1,q2,q3,q4⟩
      · cases q1
      · exact z0o (typed q1) (rest h1)
      · exact z0o (priv q2 q3 q4) (rest h1)
    · rename_i i0 s0;split at hy
      · rename_i c v0 l0 pg hs0;split at hy
        · rename_i hv0;subst hv0;split at hy
          · rename_i pg' hcast;obtain ⟨rfl,hh⟩:=z1i hcast;cases hh;cases hy;rw [List.getElem?_set] at e2;by_cases hk:i0=i
            · subst hk;rw [if_pos rfl,if_pos hi] at e2;cases e2;have hgd:xs.getD i0 TC.block.zero=xs[i0]:=by simp [zI,hx]
              rw [hgd];rcases h2 with ⟨s2,q1,q2⟩ | ⟨q1,_,_⟩ | ⟨q1,_⟩
              · rw [z2c,if_pos rfl] at q1;cases q1;have ht:=z4p hr (d+1) .page (.bref s0 0) _ c0 (by simp only [dList,hs0];rfl) q2;exact z0o ht (rest h1)
              · rw [z2c,if_pos rfl] at q1;cases q1
              · rw [z2c,if_pos rfl] at q1;cases q1
            · rw [if_neg hk,hx] at e2;cases e2;rcases h2 with ⟨s2,q1,_⟩ | ⟨_,q1,_⟩ | ⟨_,q,u,prows,q1,q2,q3,q4⟩
              · rw [z2c,if_neg hk] at q1;cases q1
              · exact z0o (typed q1) (rest h1)
              · exact z0o (priv q2 q3 q4) (rest h1)
          · cases hy
        · cases hy
      · cases hy
    · cases hy)
   simp only [exp,g4];rw [if_pos ⟨trivial,by omega⟩];rw [<- g5,List.drop_zero,List.take_length];cases hn:nrmLL rows with
   | some r=>simp only;rw [w2 _ hn]
   | none=>simp only;rw [w1];rfl
theorem zoa (hr:HR E SH HA) (d:Nat) (c:TC) (x:SV) (xs:List c.den) (a:AV) (h:dListN SH (d+2) c x=some xs) (r:R E x a):Told HA (d+2) a (.rows (xs.map (z82 c))):=by
 unfold dListN at h;split at h
 · split at h
   · rename_i hs;split at h
     · rename_i hv;subst hv;split at h
       · rename_i ys hy;obtain ⟨rfl,hh⟩:=z1i h;cases hh;exact z08k hr hs hy r
       · cases h
     · cases h
   · exact z4p hr _ c _ xs a h r
 · exact z4p hr _ c _ xs a h r
theorem zkz (hr:HR E SH HA) {d:Nat} {c:TC} {x:SV} {y:c.den} {a:AV} (h:dValN SH (d+2) c x=some y) (r:R E x a):exp HA (d+4) a=some (encV c y):=by
 unfold dValN at h;cases hc:c.agg with
 | true =>
   rw [if_pos hc] at h;split at h
   · cases r with
     | agg g1 g2 =>
       have h1:=((z1h c h).told (fun c x xs a=>zoa hr d c x xs a) (zo7 c y) (⟨g1,g2⟩:RL E _ _)).1;simp only [exp,h1,Option.map_some,encV,hc,if_true]
   · cases h
 | false =>
   rw [if_neg (by simp [hc])] at h;have h1:=((z1h c h).told (fun c x xs a=>zoa hr (d+1) c x xs a) (zo7 c y) (.cons r .nil)).1;rw [zgi hc] at h1;simp only [mapO] at h1;split at h1
   · rename_i z zs e1 e2;cases e2;cases h1;exact e1
   · cases h1
theorem zob (hr:HR E SH HA) {d:Nat}:∀ (l:List TC) {xs:List SV} {y:z3z l} {as:List AV},dValLN SH (d+2) l xs=some y->RL E xs as->mapO (exp HA (d+4)) as=some (encL l y)
 | [],[],y,as,h,r=>by rw [r.nil_inv];rfl
 | [],_::_,y,as,h,r=>by cases h
 | [c],[],y,as,h,r=>by cases h
 | [c],[x],y,as,h,r=>by
   obtain ⟨a,m,rfl,h1,h2⟩:=r.cons_inv;rw [h2.nil_inv];simp only [mapO,zkz hr (c:=c) (show dValN SH (d+2) c x=some y from h) h1,encL]
 | [c],x::x2::xs,y,as,h,r=>by cases h
 | c::e::l,[],y,as,h,r=>by cases h
 | c::e::l,x::xs,y,as,h,r=>by
   simp only [dValLN] at h;split at h
   · rename_i a0 b0 h1 h2;cases h;obtain ⟨a,m,rfl,g1,g2⟩:=r.cons_inv;have g3:=zob hr (e::l) h2 g2;rw [mapO,zkz hr h1 g1,g3];rfl
   · cases h
theorem z063 (hr:HR E SH HA) (l:List TC) {x:SV} {y:z3z l} {a:AV} (h:dRes SH l x=some y) (r:R E x a):exp HA depth a=some (encRes l y):=by
 unfold dRes at h;split at h
 · split at h
   · cases r with
     | tup g1 g2 =>
       have:=RL.nil_inv (E:=E) ⟨g1,g2⟩;subst this;rfl
   · cases h
 · exact zkz hr h r
 · split at h
   · cases r with
     | tup g1 g2 =>
       have h1:=zob hr _ h (⟨g1,g2⟩:RL E _ _);show (mapO (exp HA 4) _).map AV.tup=_;rw [h1];rfl
   · cases h
end
end Clk
namespace Clk
open Go
def rowKey:List AV->Option (Int×Int)
 | [.int .i64 p,.int .i64 _,.int .i64 s,_,_]=>some (s,p)
 | _=>none
def aheadK (a b:Option (Int×Int)):Bool:=match a,b with
 | some (s,p),some (t,q)=>decide (s<t)||(decide (s=t)&&decide (p<q))
 | _,_=>false
def insA:List (List AV)->List AV->List (List AV)
 | [],r=>[r]
 | x::l,r=>if aheadK (rowKey r) (rowKey x) then r::x::l else x::insA l r
def distA:List (List AV)->Bool
 | []=>true
 | x::l=>(rowKey x).isSome&&x.all AV.leaf&&l.all (fun y=>!(decide (rowKey x=rowKey y)))&&distA l
def sortA (g:Nat):Nat->List AV->List AO->Res:=fun _ args H=>match args with
 | [x,.fn f [] []]=>if f=g then match x with
   | .crows []=>some (.tup [],none)
   | .ref b v 0 n=>match H.getD b .none with
     | .blk k v' true rows=>if v=v' /\ n=rows.length /\ k=5 /\ distA rows=true /\ n<=70368744177664 then some (.tup [],some (b,.blk k v true (rows.foldl insA []))) else none
     | _=>none
   | _=>none
   else none
 | _=>none
def primOf (k b:Nat):Nat->List AV->List AO->Res:=cond (Nat.blt b 1000000) (cloneA k b) (sortA (b - 1000000))
end Clk
namespace Clk
open Go
structure CtxAll (P:Program) (Γ:Ctx) (inl:FuncId->Bool) (orc:FuncId->Option (List AV->Option AV)) (prim:FuncId->Option (Nat->List AV->List AO->Res)):Prop extends CtxOk P Γ where
 fn:∀ f fn,Γ.fn f=some fn->P.funcs[f]?=some fn
 inlE:∀ f,Γ.inl f=inl f
 cl:∀ f c b,Γ.cl f=some (c,b)->prim f=some (primOf c.size b)
 clN:∀ f,Γ.cl f=none->prim f=none
 sp:∀ f s,Γ.sp f=some s->∃ h,orc f=some h /\ ∀ x y,s.h x=some y->h (encL s.params x)=some (encRes s.res y)
theorem EILe.pos {e e':EI} (h:EILe e e') {p:Nat} (hp:e.pos=some p):e'=.gone \/ e'.pos=some p:=by
 cases h with
 | no=>cases hp
 | gone=>exact .inl rfl
 | un=>cases hp
 | ua=>cases hp
 | al=>exact .inr hp
 | ob=>exact .inr hp
 | uo=>cases hp
 | ao=>exact .inr hp
 | ow=>exact .inr hp
def Stay (E E':Emb):Prop:=∀ (s:Nat) (e:EI) (p:Nat),E[s]?=some e->e.pos=some p->∃ e':EI,E'[s]?=some e' /\ e'.pos=some p
def Unch (E E':Emb) (HA HA':List AO) (w w':Option (List Nat)):Prop :=
 ∀ d,w'=some d->∃ d0,w=some d0 /\ (∀ x∈d0,x∈d) /\ Stay E E' /\ ∀ (s p:Nat) (e:EI),E'[s]?=some e->e.alAt p->s∉d->(∃ e0:EI,E[s]?=some e0 /\ e0.alAt p) /\ HA'.getD p .none=HA.getD p .none
structure Ext (E:Emb) (HA:List AO) (w:Option (List Nat)) (E':Emb) (SH':List SO) (HA':List AO) (w':Option (List Nat)):Prop where
 le:ELe E E'
 hr:HR E' SH' HA'
 un:Unch E E' HA HA' w w'
 grow:HA.length<=HA'.length
 kd:∀ q,isBlk (HA.getD q .none)->isBlk (HA'.getD q .none)
 nw:∀ (s:Nat) (e:EI) (p:Nat),E'[s]?=some e->e.at p->(∃ (s0:Nat) (e0:EI),E[s0]?=some e0 /\ e0.at p) \/ HA.length<=p
 nn:∀ s:Nat,E[s]?=some .no->E'[s]?=some .no
theorem Ext.refl {E:Emb} {SH:List SO} {HA:List AO} (h:HR E SH HA) (w:Option (List Nat)):Ext E HA w E SH HA w :=
 ⟨.refl E,h,fun d e=>⟨d,e,fun _ h=>h,(fun s e p h1 h2=>⟨e,h1,h2⟩),fun s p e hs ha _=>⟨⟨e,hs,ha⟩,rfl⟩⟩,Nat.le_refl _,fun _ h=>h,fun s e p h1 h2=>.inl ⟨s,e,h1,h2⟩,fun _ h=>h⟩
theorem Ext.trans {E E1 E2:Emb} {SH1 SH2:List SO} {HA HA1 HA2:List AO} {w w1 w2:Option (List Nat)} (h:Ext E HA w E1 SH1 HA1 w1) (g:Ext E1 HA1 w1 E2 SH2 HA2 w2):Ext E HA w E2 SH2 HA2 w2:=by
 refine ⟨h.le.trans g.le,g.hr,fun d e=>?_,Nat.le_trans h.grow g.grow,fun q hq=>g.kd q (h.kd q hq),fun s e p h1 h2=>by
  rcases g.nw s e p h1 h2 with ⟨s1,e1,k1,k2⟩ | k1
  · exact h.nw s1 e1 p k1 k2
  · exact .inr (Nat.le_trans h.grow k1),fun s hs=>g.nn s (h.nn s hs)⟩
 obtain ⟨d1,e1,s1,y1,u1⟩:=g.un d e;obtain ⟨d0,e0,s0,y0,u0⟩:=h.un d1 e1;refine ⟨d0,e0,fun x hx=>s1 x (s0 x hx),(fun s e p h1 h2=>by obtain ⟨e',k1,k2⟩:=y0 s e p h1 h2;exact y1 s e' p k1 k2),fun s p e hs ha hn=>?_⟩;obtain ⟨⟨e1,k1,k1'⟩,k2⟩:=u1 s p e hs ha hn;obtain ⟨k3,k4⟩:=u0 s p e1 k1 k1' (fun hx=>hn (s1 s hx));exact ⟨k3,k2.trans k4⟩
theorem Did.ext0 {E:Emb} {SH:List SO} {HA:List AO} {v:SV} {ch:Option (Nat×SO)} {v':AV} {ch':Option (Nat×AO)} {slot:Nat} (hr:HR E SH HA) (h:Did E SH HA slot v ch v' ch') (g:Gh) :
 ∃ E',(ELe E E' /\ HR E' (z3o SH ch) (zi HA ch') /\ Unch E E' HA (zi HA ch') g.wr (g.log (chIds ch)).wr /\ HA.length<=(zi HA ch').length /\ ∀ q,isBlk (HA.getD q .none)->isBlk ((zi HA ch').getD q .none)) /\ R E' v v' /\ (ch=none->ch'=none) /\ (∀ s,(∀ i o,ch=some (i,o)->s≠i)->E'[s]?=E[s]?) /\ (∀ i o,ch=some (i,o)->((ch'=none /\ ∃ cur,E'[i]?=some (.un cur)) \/ ∃ q o' e,ch'=some (q,o') /\ E'[i]?=some e /\ e.alAt q)) /\ ∀ (s:Nat) (e:EI) (q:Nat),E'[s]?=some e->e.at q->(∃ e0:EI,E[s]?=some e0 /\ e0.at q) \/ q=slot:=by
 obtain ⟨E',h1,h2,h3,h4,h5,h6,h7,h8'⟩:=h;have hb:∀ q o',ch'=some (q,o')->q<=HA.length:=by
  intro q o' e;cases hch:ch with
  | none=>rw [h4 hch] at e;cases e
  | some x =>
    obtain ⟨i,o⟩:=x;rcases h5 i o hch with ⟨h8,_⟩ | ⟨q2,o2,e2,h8,h9,h10⟩
    · rw [h8] at e;cases e
    · rw [h8] at e;cases e;have hq:=h2.lt i e2 q h9 (EI.pos_at (EI.alAt_pos h10));rw [h8] at hq;simp only [zi] at hq;split at hq
      · simp at hq;omega
      · simp at hq;omega
 refine ⟨E',⟨h1,h2,fun d e=>?_,znw,fun q hq=>?_⟩,h3,h4,h7,h5,h8'⟩
 · obtain ⟨cx,wr⟩:=g;simp only [Gh.log,Option.map_eq_some_iff] at e;obtain ⟨d0,e0,rfl⟩:=e;have hstay:Stay E E':=by
    intro s e p hs hp;obtain ⟨e',k1,k2⟩:=h1 s e hs;by_cases hx:∀ i o,ch=some (i,o)->s≠i
    · have:=h7 s hx;rw [hs] at this;exact ⟨e,this,hp⟩
    · have hx':∃ i o,ch=some (i,o) /\ s=i:=by
       apply Classical.byContradiction
       intro hc;exact hx fun i o h1 h2=>hc ⟨i,o,h1,h2⟩
      obtain ⟨i,o,hch,rfl⟩:=hx';rcases k2.pos hp with k3 | k3
      · subst k3;rcases h5 s o hch with ⟨_,cur,h8⟩ | ⟨q,o',e',_,h9,h10⟩
        · rw [k1] at h8;cases h8
        · rw [k1] at h9;cases h9;exact absurd h10 id
      · exact ⟨e',k1,k3⟩
   refine ⟨d0,e0,fun x hx=>List.mem_append_right _ hx,hstay,fun s p es hs ha hn=>?_⟩;have hne:∀ i o,ch=some (i,o)->s≠i:=by
    rintro i o e rfl
    rw [e] at hn;exact hn (List.mem_append_left _ (List.mem_singleton.2 rfl))
   have hsE:=h7 s hne;rw [hs] at hsE;refine ⟨⟨es,hsE.symm,ha⟩,?_⟩;cases hch:ch with
   | none=>rw [h4 hch];rfl
   | some x =>
     obtain ⟨i,o⟩:=x;rcases h5 i o hch with ⟨h8,_⟩ | ⟨q,o',e',h8,h9,h10⟩
     · rw [h8];rfl
     · rw [h8,z4y (hb q o' h8),if_neg];rintro rfl
       exact hne i o hch (h2.inj s i _ e' p hs h9 (EI.pos_at (EI.alAt_pos ha)) (EI.pos_at (EI.alAt_pos h10)))
 · cases hch:ch' with
   | none=>exact hq
   | some x =>
     obtain ⟨q2,a⟩:=x;rw [z4y (hb q2 a hch)];split
     · exact h6 q2 a hch
     · exact hq
theorem Did.ext {E:Emb} {SH:List SO} {HA:List AO} {v:SV} {ch:Option (Nat×SO)} {v':AV} {ch':Option (Nat×AO)} (hr:HR E SH HA) (h:Did E SH HA HA.length v ch v' ch') (g:Gh) (hno:∀ i o,ch=some (i,o)->i=SH.length \/ SH.getD i .dead≠.dead) :
 ∃ E',Ext E HA g.wr E' (z3o SH ch) (zi HA ch') (g.log (chIds ch)).wr /\ R E' v v':=by
 obtain ⟨E',⟨h1,h2,h3,h4,h5⟩,h6,_,h8,_,h7⟩:=h.ext0 hr g;refine ⟨E',⟨h1,h2,h3,h4,h5,(fun s e p k1 k2=>(h7 s e p k1 k2).imp (fun ⟨e0,w⟩=>⟨s,e0,w⟩) fun hx=>by omega),fun s hs=>?_⟩,h6⟩;rw [h8 s (fun i o hch hx=>by
  subst hx;rcases hno s o hch with rfl | hne
  · have:=(zG.1 hs).1;rw [hr.len] at this;omega
  · obtain ⟨e,g1,g2,g3⟩:=hr.get rfl hne;rw [hs] at g1;cases g1;cases hsx:SH.getD s .dead with
    | dead=>exact hne hsx
    | blk=>rw [hsx] at g3;exact g3
    | raw=>rw [hsx] at g3;exact g3
    | loop=>rw [hsx] at g3;exact g3
    | dfr=>rw [hsx] at g3;exact g3
    | nst=>rw [hsx] at g3;exact g3)]
 exact hs
def SMR (E:Emb) (m m':List Nat):Prop:=m.length=m'.length /\ ∀ (i:Nat) s p,m[i]?=some s->m'[i]?=some p->∃ ps as bd d,E[s]?=some (.ob p ps as bd d)
def SRO (E:Emb):Option Nat->Option Nat->Prop
 | none,none=>True
 | some l,some p=>∃ ps as bd d,E[l]?=some (.ob p ps as bd d)
 | _,_=>False
theorem SMR.mono {E E':Emb} (h:ELe E E') {m m':List Nat} (r:SMR E m m'):SMR E' m m' :=
 ⟨r.1,fun i s p h1 h2=>by obtain ⟨ps,as,bd,d,h3⟩:=r.2 i s p h1 h2;exact ⟨ps,as,bd,d,h.ob h3⟩⟩
theorem SRO.mono {E E':Emb} (h:ELe E E') {a b:Option Nat} (r:SRO E a b):SRO E' a b:=by
 cases a with
 | none=>cases b with | none=>trivial | some=>exact r
 | some l=>cases b with
   | none=>exact r
   | some p=>obtain ⟨ps,as,bd,d,h3⟩:=r;exact ⟨ps,as,bd,d,h.ob h3⟩
theorem SMR.nil {E:Emb}:SMR E [] []:=⟨rfl,fun i s p h=>by simp at h⟩
theorem z26 {R:Type} {as:List Bool} {k:Option R} {r:R} (h:z3t as k=some r):(∀ b∈as,b=true) /\ k=some r:=by
 induction as with
 | nil=>exact ⟨fun b hb=>by simp at hb,h⟩
 | cons b as ih =>
   simp only [z3t] at h;cases b with
   | false=>cases h
   | true =>
     obtain ⟨h1,h2⟩:=ih h;exact ⟨fun c hc=>by
      rcases List.mem_cons.1 hc with rfl | hc
      · rfl
      · exact h1 c hc,h2⟩
section
variable {P:Program} {Γ:Ctx} {inl:FuncId->Bool} {orc:FuncId->Option (List AV->Option AV)} {prim:FuncId->Option (Nat->List AV->List AO->Res)} {R:Type}
def SRunOk (P:Program) (inl:FuncId->Bool) (orc:FuncId->Option (List AV->Option AV)) (prim:FuncId->Option (Nat->List AV->List AO->Res)) (rs:SRun R):Prop :=
 ∀ (ro ro':Option Nat) (c:Code) (st:SSt) (st':St) (E:Emb) (K:Ex->SSt->Option R) (r:R),SRO E ro ro'->RL E st.t st'.t->HR E st.H st'.H->SMR E st.m st'.m->rs ro c st K=some r ->
  ∃ m ex st1 st1' E1,run P inl orc prim m ro' c st'=some (ex,st1') /\ Ext E st'.H st.g.wr E1 st1.H st1'.H st1.g.wr /\ RL E1 st1.t st1'.t /\ SMR E1 st1.m st1'.m /\ K ex st1=some r
theorem zlt {E:Emb}:∀ {m m':List Nat} {SH SH':List SO} {HA:List AO},HR E SH HA->SMR E m m'->closeS SH m=some SH'->∃ HA',z1e HA m'=some HA' /\ HR E SH' HA' /\ HA'.length=HA.length /\
 (∀ q,isBlk (HA.getD q .none)->HA'.getD q .none=HA.getD q .none) /\ ∀ (s p:Nat) (e:EI),E[s]?=some e->e.alAt p->HA'.getD p .none=HA.getD p .none
 | [],m',SH,SH',HA,hr,hm,h=>by
   have:m'=[]:=by have:=hm.1;cases m' with | nil=>rfl | cons=>simp at this
   subst this;cases h;exact ⟨HA,rfl,hr,rfl,fun _ _=>rfl,fun _ _ _ _ _=>rfl⟩
 | b::m,m',SH,SH',HA,hr,hm,h=>by
   cases m' with
   | nil=>have:=hm.1;simp at this
   | cons p m' =>
     obtain ⟨ps,as,bd,d,hE⟩:=hm.2 0 b p rfl rfl;simp only [closeS] at h;split at h
     · rename_i hs;obtain ⟨e,h1,h2,h3⟩:=hr.get hs (by simp);rw [hE] at h1;cases h1;have hg:HA.getD p .none=.dfr true:=h3;have hpl:=hr.lt b _ p hE rfl;have hbl:b<SH.length:=(zG.1 h2).1;have hc:=hr.chg (o':=.dfr false) (a:=.dfr false) hE .ob rfl (fun _ h=>h) (fun _=>by
        show (HA.set p _).getD p .none=_;rw [zp,if_pos ⟨rfl,hpl⟩])
       have hset:E.set b (.ob p ps as bd d)=E:=by
        apply List.ext_getElem?
        intro i;rw [List.getElem?_set];split
        · rename_i hx;subst hx;rw [hE];simp [(zG.1 hE).1]
        · rfl
       rw [hset,z1g hbl,zj6 hpl] at hc;obtain ⟨HA',g1,g2,g3,g4,g5⟩:=zlt (m:=m) (m':=m') hc.1 ⟨by simpa using hm.1,fun i s p h1 h2=>hm.2 (i+1) s p (by simpa using h1) (by simpa using h2)⟩ h;have hkeep:∀ q,isBlk (HA.getD q .none)->(HA.set p (.dfr false)).getD q .none=HA.getD q .none:=by
        intro q hq;rw [zp,if_neg];rintro ⟨rfl,_⟩
        rw [hg] at hq;obtain ⟨k,v,l,r,e⟩:=hq;cases e
       refine ⟨HA',by simp only [z1e,hg];exact g1,g2,by simpa using g3,fun q hq=>?_,fun s q es hsA ha=>?_⟩
       · have:=hkeep q hq;rw [g4 q (by rw [this];exact hq),this]
       · rw [g5 s q es hsA ha,zp,if_neg];rintro ⟨rfl,_⟩
         have:=hr.inj s b _ _ _ hsA hE (EI.pos_at (EI.alAt_pos ha)) rfl;subst this;rw [hE] at hsA;cases hsA;exact ha
     · cases h
theorem zq7 (hΓ:CtxOk P Γ) {E:Emb} {SH:List SO} {HA:List AO} (hr:HR E SH HA) {fn:Func} {t:List SV} {t':List AV} (ht:RL E t t') {v:SV} (h:zsu Γ fn t SH=some v):∃ v',zcp P fn t' HA=some v' /\ Clk.R E v v':=by
 have one:∀ (rv:ResultVar) (x:SV),resS1 Γ t SH rv=some x->∃ a,z3m P t' HA rv=some a /\ Clk.R E x a:=by
  intro rv x hx;cases rv with
  | tmp i=>cases hx;exact ⟨_,rfl,ht.getD i (.tup' .nil)⟩
  | cell a ty =>
    simp only [resS1] at hx;split at hx
    · rename_i v0 hv;cases hx;obtain ⟨_,v',g1,g2⟩:=zny hΓ hr hv (ht.getD a (.tup' .nil)) (fun b hb=>by simp at hb);exact ⟨v',g1,g2⟩
    · cases hx
 have all:∀ (l:List ResultVar) (xs:List SV),mapO (resS1 Γ t SH) l=some xs->∃ as,mapO (z3m P t' HA) l=some as /\ RL E xs as:=by
  intro l;induction l with
  | nil=>intro xs h;cases h;exact ⟨[],rfl,.nil⟩
  | cons rv l ih =>
    intro xs h;simp only [mapO] at h;split at h
    · rename_i y ys h1 h2;cases h;obtain ⟨a,g1,g2⟩:=one rv y h1;obtain ⟨as,g3,g4⟩:=ih ys h2;exact ⟨a::as,by simp only [mapO,g1,g3],.cons g2 g4⟩
    · cases h
 unfold zsu at h;split at h
 · rename_i v0 h1;cases h;obtain ⟨as,g1,g2⟩:=all _ _ h1;obtain ⟨a,m,rfl,g3,g4⟩:=g2.cons_inv;rw [g4.nil_inv] at g1;exact ⟨a,by simp only [zcp,g1],g3⟩
 · rename_i l hne h1;cases h;obtain ⟨as,g1,g2⟩:=all _ _ h1;refine ⟨.tup as,?_,.tup' g2⟩;simp only [zcp,g1];cases as with
   | nil=>rfl
   | cons a as=>cases as with
     | nil =>
       exfalso;have:=g2.1;cases l with
       | nil=>simp at this
       | cons x l=>cases l with
         | nil=>exact hne x rfl
         | cons=>simp at this
     | cons=>rfl
 · cases h
theorem zel (hΓ:CtxAll P Γ inl orc prim) {rs:SRun R} (hrs:SRunOk P inl orc prim rs) {E:Emb} {SH:List SO} {HA:List AO} (hr:HR E SH HA) {f:FuncId} {args:List SV} {args':List AV} (ha:RL E args args') {g:Gh} {k:SV->List SO->Gh->Option R} {r:R}
 (h:callFS Γ rs f args SH g k=some r):∃ m v v' H1 H1' E1 g1,callF P (run P inl orc prim m) f args' HA=some (v',H1') /\ Ext E HA g.wr E1 H1 H1' g1.wr /\ Clk.R E1 v v' /\ k v H1 g1=some r:=by
 unfold callFS at h;split at h
 · rename_i fn hfn;split at h
   · rename_i c hc;obtain ⟨m,ex,st1,st1',E1,h1,h2,h3,h4,h5⟩:=hrs none none c _ ⟨args'++List.replicate (fn.ntmps - args'.length) (.tup []),HA,[]⟩ E _ r trivial (ha.app (by rw [ha.1];exact RL.replicate (.tup' .nil) _)) hr .nil h;split at h5
     · cases h5
     · rename_i hex;split at h5
       · rename_i H' hcl;split at h5
         · rename_i v hv;obtain ⟨HA',g1,g2,g3,g4,g7⟩:=zlt h2.hr h4 hcl;obtain ⟨v',g5,g6⟩:=zq7 hΓ.toCtxOk g2 h3 hv;refine ⟨m,v,v',H',HA',E1,_,?_,⟨h2.le,g2,fun d e=>?_,by rw [g3];exact h2.grow,(fun q hq=>by rw [g4 q (h2.kd q hq)];exact h2.kd q hq),h2.nw,h2.nn⟩,g6,h5⟩
           · simp only [callF,hΓ.fn _ _ hfn,hc];rw [h1];simp only;cases ex with
             | exit id=>exact absurd rfl (hex id)
             | normal=>simp only [g1,g5]
             | ret=>simp only [g1,g5]
           · simp only [Gh.log,Option.map_eq_some_iff] at e;obtain ⟨d1,e1,rfl⟩:=e;obtain ⟨d0,e0,s0,y0,u0⟩:=h2.un d1 e1;refine ⟨d0,e0,fun x hx=>List.mem_append_right _ (s0 x hx),y0,fun s p es hs ha hn=>?_⟩;obtain ⟨k1,k2⟩:=u0 s p es hs ha (fun hx=>hn (List.mem_append_right _ hx));exact ⟨k1,(g7 s p es hs ha).trans k2⟩
         · cases h5
       · cases h5
   · cases h
 · cases h
theorem HR.setLoop {E:Emb} {SH:List SO} {HA:List AO} (hr:HR E SH HA) {l:Nat} {s s2:LoopState} {p p2:Option Code} {tm:List SV} {ps:List Tmp} {as bd:Code} {d:Nat} (h:SH.getD l .dead=.loop s p tm ps as bd d) :
 ∃ q tm' dA,E[l]?=some (.ob q ps as bd d) /\ HA.getD q .none=.loop s p tm' ps as bd dA /\ RL E tm tm' /\ (∃ qs qa qb qd,E[d]?=some (.ob dA qs qa qb qd)) /\ HR E (SH.set l (.loop s2 p2 tm ps as bd d)) (HA.set q (.loop s2 p2 tm' ps as bd dA)) /\ q<HA.length:=by
 obtain ⟨e,h1,h2,h3⟩:=hr.get h (by simp);cases e with
 | no=>exact h3.elim
 | gone=>exact h3.elim
 | un=>exact h3.elim
 | al=>exact h3.elim
 | ow=>exact h3.elim
 | ob q ps' as' bd' d' =>
   obtain ⟨rfl,rfl,rfl,rfl,tm',dA,g1,g2,g3,gs,ga,gb,g4⟩:=h3;have hpl:=hr.lt l _ q h1 rfl;have hbl:l<SH.length:=(zG.1 h2).1;have hc:=hr.chg (o':=.loop s2 p2 tm ps' as' bd' d') (a:=.loop s2 p2 tm' ps' as' bd' dA) h1 .ob rfl (fun _ h=>h) (fun hE=>by
    refine ⟨rfl,rfl,rfl,rfl,tm',dA,?_,g2.mono hE,_,_,_,_,hE.ob g4⟩;rw [zp,if_pos ⟨rfl,hpl⟩])
   have hset:E.set l (.ob q ps' as' bd' d')=E:=by
    apply List.ext_getElem?
    intro i;rw [List.getElem?_set];split
    · rename_i hx;subst hx;rw [h1];simp [(zG.1 h1).1]
    · rfl
   rw [hset,z1g hbl,zj6 hpl] at hc;exact ⟨q,tm',dA,h1,g1,g2,⟨_,_,_,_,g4⟩,hc.1,hpl⟩
theorem zw6 {E:Emb}:∀ (ps:List Tmp) {args tm:List SV} {args' tm':List AV},RL E args args'->RL E tm tm' ->
 RL E ((ps.zip args).foldl (fun t (p,v)=>t.set p v) tm) ((ps.zip args').foldl (fun t (p,v)=>t.set p v) tm')
 | [],args,tm,args',tm',_,ht=>by simpa using ht
 | p::ps,[],tm,args',tm',ha,ht=>by rw [ha.nil_inv];simpa using ht
 | p::ps,x::args,tm,args',tm',ha,ht=>by
   obtain ⟨a,m,rfl,h1,h2⟩:=ha.cons_inv;simp only [List.zip_cons_cons,List.foldl_cons];exact zw6 ps h2 (ht.set p h1)
theorem Ext.loop {E:Emb} {SH:List SO} {HA:List AO} (hr:HR E SH HA) {l q:Nat} {SH':List SO} {a:AO} (hE:∃ ps as bd d,E[l]?=some (.ob q ps as bd d)) (hnb:¬ isBlk (HA.getD q .none)) (h:HR E SH' (HA.set q a)) (g:Gh):Ext E HA g.wr E SH' (HA.set q a) (g.log [l]).wr:=by
 refine ⟨.refl E,h,fun d e=>?_,by simp,fun p hp=>?_,(fun s e p h1 h2=>.inl ⟨s,e,h1,h2⟩),fun _ h=>h⟩
 · simp only [Gh.log,Option.map_eq_some_iff] at e;obtain ⟨d0,e0,rfl⟩:=e;refine ⟨d0,e0,fun x hx=>List.mem_append_right _ hx,(fun s e p h1 h2=>⟨e,h1,h2⟩),fun s p es hs ha hn=>⟨⟨es,hs,ha⟩,?_⟩⟩;rw [zp,if_neg];rintro ⟨rfl,_⟩
   obtain ⟨ps,as,bd,d,hE⟩:=hE;have:=hr.inj s l _ _ q hs hE (EI.pos_at (EI.alAt_pos ha)) rfl;subst this;rw [hE] at hs;cases hs;exact ha
 · rw [zp,if_neg]
   · exact hp
   · rintro ⟨rfl,_⟩;exact hnb hp
theorem zhs {H:List AO} {q:Nat} {s:LoopState} {p:Option Code} {tm:List AV} {ps:List Tmp} {as bd:Code} {d:Nat} (h:H.getD q .none=.loop s p tm ps as bd d):¬ isBlk (H.getD q .none):=by
 rintro ⟨k,v,l,r,e⟩
 rw [h] at e;cases e
theorem zlu {rs:SRun R} (hrs:SRunOk P inl orc prim rs) {E:Emb} {SH:List SO} {HA:List AO} (hr:HR E SH HA) {l:Nat} {a:AV} (hl:Clk.R E (.yield l) a) {args:List SV} {args':List AV} (ha:RL E args args') {g:Gh} {k:SV->List SO->Gh->Option R} {r:R}
 (h:yieldS rs l args SH g k=some r):∃ m p v v' H1 H1' E1 g1,a=.yield p /\ yieldF (run P inl orc prim m) p args' HA=some (v',H1') /\ Ext E HA g.wr E1 H1 H1' g1.wr /\ Clk.R E1 v v' /\ k v H1 g1=some r:=by
 cases hl with
 | yield hE =>
   rename_i p _ _ _ _;unfold yieldS at h;split at h
   · rename_i pend tmps params assign body d hs;split at h
     · rename_i hlen;obtain ⟨q,tm',dA,q1,q2,q3,q4,_,_⟩:=hr.setLoop (s2:=.busy) (p2:=none) hs;have hq:=Option.some.inj (hE.symm.trans q1);injection hq with hq _ _ _ _
       subst hq;obtain ⟨m1,ex1,st1,st1',E1,h1,h2,h3,h4,h5⟩:=hrs (some l) (some p) assign _ ⟨(params.zip args').foldl (fun t (p,v)=>t.set p v) tm',HA,[]⟩ E _ r ⟨_,_,_,_,hE⟩ (zw6 params ha q3) hr .nil h;split at h5
       · split at h5
         · rename_i p' tm ps as bd d2 hs1 hm1;have hm1':st1'.m=[]:=by have:=h4.1;rw [hm1] at this;cases hx:st1'.m with | nil=>rfl | cons=>rw [hx] at this;simp at this
           obtain ⟨qb,tmb,dAb,b1,b2,b3,b4,b5,b6⟩:=h2.hr.setLoop (s2:=.busy) (p2:=p') hs1;have hq:=Option.some.inj ((h2.le.ob hE).symm.trans b1);injection hq with hq _ _ _ _
           subst hq;obtain ⟨m2,ex2,st2,st2',E2,k1,k2,k3,k4,k5⟩:=hrs (some l) (some p) body ⟨st1.t,st1.H.set l (.loop .busy p' tm ps as bd d2),[],st1.g.log [l]⟩ ⟨st1'.t,st1'.H.set p (.loop .busy p' tmb ps as bd dAb),[]⟩ E1 _ r ⟨_,_,_,_,h2.le.ob hE⟩ h3 b5 .nil h5;split at k5
           · rename_i tm2 ps2 as2 bd2 d3 hs2;obtain ⟨qc,tmc,dAc,c1,c2,c3,c4,c5,c6⟩:=k2.hr.setLoop (s2:=if (jumpOf ex2).isNone then .ready else .done) (p2:=jumpOf ex2) hs2;have hq:=Option.some.inj (((h2.le.trans k2.le).ob hE).symm.trans c1);injection hq with hq _ _ _ _
             subst hq;refine ⟨max m1 m2,p,_,.bool (jumpOf ex2).isNone,_,st2'.H.set p (.loop (if (jumpOf ex2).isNone then .ready else .done) (jumpOf ex2) tmc ps2 as2 bd2 dAc),E2,_,rfl,?_,?_,.bool _,k5⟩
             · simp only [yieldF,q2];rw [if_pos (by rw [<- ha.1];exact hlen),zac (Nat.le_max_left m1 m2) _ _ _ _ h1];simp only [b2,hm1'];rw [zac (Nat.le_max_right m1 m2) _ _ _ _ k1];simp only [c2]
             · have e1:=Ext.loop (l:=l) h2.hr ⟨_,_,_,_,h2.le.ob hE⟩ (zhs b2) b5 st1.g;have e2:=Ext.loop (l:=l) k2.hr ⟨_,_,_,_,(h2.le.trans k2.le).ob hE⟩ (zhs c2) c5 st2.g;exact ((h2.trans e1).trans k2).trans e2
           · cases k5
         · cases h5
       · cases h5
     · cases h
   · cases h
end
end Clk
namespace Clk
open Go
inductive FR (E:Emb):List Nat->List Nat->Prop
 | nil:FR E [] []
 | al {s p:Nat} {off:Int} {cur:Nat} {len:Nat->Nat} {l m:List Nat} (h:E[s]?=some (.al p off cur len)) (t:FR E l m):FR E (s::l) (p::m)
 | un {s cur:Nat} {l m:List Nat} (h:E[s]?=some (.un cur)) (t:FR E l m):FR E (s::l) m
 | ow {s p:Nat} {off:Int} {cur:Nat} {len:Nat->Nat} {qf:Nat->Option (Nat×Nat)} {l m qs:List Nat} (h:E[s]?=some (.ow p off cur len qf)) (hq:∀ q∈qs,∃ i u,qf i=some (q,u)) (t:FR E l m):FR E (s::l) (p::(qs++m))
theorem FR.app {E:Emb} {l m l2 m2:List Nat} (h:FR E l m) (g:FR E l2 m2):FR E (l++l2) (m++m2):=by
 induction h with
 | nil=>exact g
 | al h _ ih=>exact .al h ih
 | un h _ ih=>exact .un h ih
 | ow h hq _ ih=>rw [List.cons_append,List.cons_append,List.append_assoc];exact .ow h hq ih
section
variable {E:Emb} {SH:List SO} {HA:List AO}
def FRL (E:Emb) (SH:List SO) (HA:List AO) (d:Nat) (l:List SV) (l':List AV):Prop :=
 FR E (l.flatMap (z0v SH d)) (l'.flatMap (zq HA d)) /\ ∀ w,zed l'=some w->l'.flatMap (zq HA d)=[]
theorem z01j {d:Nat}:∀ {rows:List (List SV)} {rows':List (List AV)},rows.length=rows'.length->(∀ (i:Nat) r r',rows[i]?=some r->rows'[i]?=some r'->FRL E SH HA d r r') ->
 FR E (rows.flatMap fun r=>r.flatMap (z0v SH d)) (rows'.flatMap fun r=>r.flatMap (zq HA d)) /\ ∀ w,nrmLL rows'=some w->(rows'.flatMap fun r=>r.flatMap (zq HA d))=[]
 | [],[],_,_=>⟨.nil,fun _ _=>rfl⟩
 | [],_::_,h,_=>by simp at h
 | _::_,[],h,_=>by simp at h
 | r::rows,r'::rows',h,hc=>by
   obtain ⟨g1,g2⟩:=z01j (rows:=rows) (rows':=rows') (by simpa using h) (fun i x y q1 q2=>hc (i+1) x y (by simpa using q1) (by simpa using q2));obtain ⟨g3,g4⟩:=hc 0 r r' rfl rfl;refine ⟨by simp only [List.flatMap_cons];exact g3.app g1,fun w e=>?_⟩;simp only [nrmLL] at e;split at e
   · rename_i y ys h1 h2;simp only [List.flatMap_cons,g4 _ h1,g2 _ h2,List.append_nil]
   · cases e
theorem LeafL.frl {d:Nat} {L:(c:TC)->SV->Option (List c.den)} (hL:∀ (c:TC) (x:SV) (xs:List c.den) (a:AV),L c x=some xs->R E x a->FR E (z0v SH (d+1) x) (zq HA (d+1) a) /\ ∀ w,a.nrm=some w->zq HA (d+1) a=[]) {l z:List SV} (h:LeafL L l z) {l':List AV} (r:RL E l l'):FRL E SH HA (d+1) l l':=by
 induction h generalizing l' with
 | nil=>rw [r.nil_inv];exact ⟨.nil,fun _ _=>rfl⟩
 | @cons x0 z0 l0 m0 h _ ih =>
   obtain ⟨a,k,rfl,h1,h2⟩:=r.cons_inv;obtain ⟨g1,g2⟩:=ih h2;have one:FR E (z0v SH (d+1) x0) (zq HA (d+1) a) /\ ∀ w,a.nrm=some w->zq HA (d+1) a=[]:=by
    cases h with
    | int k n=>cases h1;exact ⟨.nil,fun _ _=>rfl⟩
    | bool b=>cases h1;exact ⟨.nil,fun _ _=>rfl⟩
    | str s=>cases h1;exact ⟨.nil,fun _ _=>rfl⟩
    | lst h=>exact hL _ _ _ _ h h1
   refine ⟨by simp only [List.flatMap_cons];exact one.1.app g1,fun w e=>?_⟩;simp only [zed] at e;split at e
   · rename_i y ys e1 e2;simp only [List.flatMap_cons,one.2 _ e1,g2 _ e2,List.append_nil]
   · cases e
theorem z08l (hr:HR E SH HA) {d s v:Nat} {pv live:Bool} {xs:List Block} {a:AV} (hs:SH.getD s .dead=.nst pv v live xs []) (r:R E (.bref s v) a):FR E (z0v SH (d+3) (.bref s v)) (zq HA (d+3) a) /\ ∀ w,a.nrm=some w->zq HA (d+3) a=[]:=by
 rcases r.bref_nst hr hs with ⟨g1,rfl,_,rfl⟩ | ⟨e0,p0,off,cur,len,qf,g1,g2,⟨k1,k2,k3,k4,rows,g4,g5,g6⟩,rfl⟩
 · exact ⟨by simp only [z0v,hs];exact .un g1 .nil,fun _ _=>rfl⟩
 · refine ⟨?_,fun w' e=>by cases e⟩;have hX:zq HA (d+3) (.ref p0 cur 0 xs.length)=p0::(zq HA (d+3) (.ref p0 cur 0 xs.length)).tail:=by simp only [zq,g4,List.tail_cons]
   have hS:z0v SH (d+3) (.bref s v)=[s]:=by simp only [z0v,hs]
   have key:∀ q∈(zq HA (d+3) (.ref p0 cur 0 xs.length)).tail,∃ i u,qf i=some (q,u):=by
    intro q hq;simp only [zq,g4,List.tail_cons] at hq;split at hq
    · cases hq
    · rw [List.drop_zero] at hq;obtain ⟨row,hrow,hq⟩:=List.mem_flatMap.1 hq;obtain ⟨x,hx,hq⟩:=List.mem_flatMap.1 hq;obtain ⟨i,hi,rfl⟩:=List.getElem_of_mem (List.mem_of_mem_take hrow);have e1:=zH hi;have e2:=zH (show i<xs.length by omega);obtain ⟨c0,m,hc,h1,h2⟩:=g6 i _ _ e2 e1;rw [hc] at hx;rcases List.mem_cons.1 hx with rfl | hx
      · rcases h2 with ⟨s2,q1,_⟩ | ⟨_,q1,_⟩ | ⟨_,q',u,prows,q1,q2,q3,q4⟩
        · cases q1
        · obtain ⟨l,_,h2,_⟩:=q1.lst_inv;rcases h2 with rfl | rfl <;> simp [zq] at hq
        · subst q2;simp only [zq,q3] at hq;rw [z34 (nrmC _) ((q4.drop _).take _)] at hq;simp at hq;subst hq;exact ⟨_,_,q1⟩
      · obtain ⟨_,_,rfl,w1,h⟩:=h1.cons_inv;obtain ⟨_,_,rfl,w2,h⟩:=h.cons_inv;obtain ⟨_,_,rfl,w3,h⟩:=h.cons_inv;rw [h.nil_inv] at hx;cases w1;cases w2;cases w3;simp at hx;rcases hx with rfl | rfl | rfl <;> simp [zq] at hq
   rcases g2 with ⟨rfl,rfl⟩ | rfl
   · have:(zq HA (d+3) (.ref p0 cur 0 xs.length)).tail=[]:=by
      rw [List.eq_nil_iff_forall_not_mem];intro q hq;obtain ⟨i,u,h⟩:=key q hq;cases h
     rw [hX,hS,this];exact .al g1 .nil
   · have:=FR.ow (m:=[]) g1 key .nil;rw [List.append_nil] at this;rw [hX,hS];exact this
theorem zcf (hr:HR E SH HA):∀ (d:Nat) (c:TC) (x:SV) (xs:List c.den) (a:AV),dList SH d c x=some xs->R E x a->FR E (z0v SH (d+1) x) (zq HA (d+1) a) /\ ∀ w,a.nrm=some w->zq HA (d+1) a=[]
 | 0,c,x,xs,a,h,_=>by cases h
 | d+1,c,x,xs,a,h,r=>by
   unfold dList at h;split at h
   · obtain ⟨l,_,h2,_⟩:=r.lst_inv;rcases h2 with rfl | rfl <;> exact ⟨.nil,fun _ _=>rfl⟩
   · split at h
     · rename_i hs;split at h
       · rename_i hv;subst hv;obtain ⟨rfl,hh⟩:=z1i h;cases hh;rcases r.bref_inv hr hs with ⟨g1,rfl,_,rfl⟩ | ⟨p,off,cur,len,rows,g1,g2,g3,g4,g5,g6,rfl⟩
         · exact ⟨by simp only [z0v,hs];exact .un g1 .nil,fun _ _=>rfl⟩
         · refine ⟨?_,fun w' e=>by cases e⟩;simp only [z0v,zq,hs,g4];rw [z34 (nrmC _) ((g5.drop _).take _)];exact .al g1 .nil
       · cases h
     · rename_i hs;split at h
       · split at h
         · rename_i hv;subst hv;obtain ⟨rfl,hh⟩:=z1i h;cases hh;exact z08l hr hs r
         · cases h
       · cases h
     · cases h
   · rename_i s0 v0 o0 n0;split at h
     · rename_i hs;split at h
       · rename_i hv;subst hv;obtain ⟨rfl,hh⟩:=z1i h;cases hh;rcases r.ref_inv hr hs with ⟨g1,rfl,_,rfl,rfl⟩ | ⟨p,off,cur,len,rows,g1,g2,g3,g4,g5,g6,rfl,g7⟩
         · exact ⟨by simp only [z0v,hs];exact .un g1 .nil,fun _ _=>rfl⟩
         · refine ⟨?_,fun w' e=>by cases e⟩;simp only [z0v,zq,hs,g4];rw [z34 (nrmC _) ((g5.drop _).take _)];exact .al g1 .nil
       · cases h
     · rename_i kk lv rows0 hs;split at h
       · rename_i hv;obtain ⟨rfl,hv⟩:=hv;obtain ⟨p,len,rows',g1,g2,g3,g4,g5⟩:=hr.raw hs;cases r with
         | ref hE hu hle hn =>
           rw [g1] at hE;cases hE;have hu0:_=0:=Int.ofNat_inj.1 (hu.trans (by simp):_=((0:Nat):Int));subst hu0;refine ⟨?_,fun w' e=>by cases e⟩;obtain ⟨q1,q2⟩:=zgg h;obtain ⟨k1,k2⟩:=z01j (E:=E) (SH:=SH) (HA:=HA) (d:=d+1) (rows:=(rows0.drop o0).take n0) (rows':=(rows'.drop o0).take n0) (by simp [g4]) (fun i row row' e1 e2=>by
            have hi:=(zG.1 e1).1;rw [q1] at hi;have e3:=zH hi;have e4:=q2 i _ _ e1 e3;rw [List.getElem?_take] at e1 e2;split at e1
            · rename_i hlt;rw [if_pos hlt] at e2;rw [List.getElem?_drop] at e1 e2;exact (z1h c e4).frl (fun c x xs a=>zcf hr d c x xs a) (g5 _ _ _ e1 e2).1
            · cases e1)
           simp only [z0v,zq,hs,g3];cases hn:nrmLL ((rows'.drop o0).take n0) with
           | some r =>
             simp only;rw [k2 _ hn] at k1;exact .al g1 k1
           | none=>exact .al g1 k1
         | run hE hle hn=>rw [g1] at hE;cases hE
         | rnil hE hh hn=>rw [g1] at hE;cases hE;omega
         | oref hE=>rw [g1] at hE;cases hE
         | ornil hE=>rw [g1] at hE;cases hE
         | gref hE=>rw [g1] at hE;cases hE
         | grun hE=>rw [g1] at hE;cases hE
       · cases h
     · cases h
   · cases h
theorem zoc (hr:HR E SH HA) {d:Nat} {c:TC} {x:SV} {y:c.den} {a:AV} (h:dVal SH d c x=some y) (r:R E x a):FR E (z0v SH (d+2) x) (zq HA (d+2) a):=by
 unfold dVal at h;cases hc:c.agg with
 | true =>
   rw [if_pos hc] at h;split at h
   · cases r with
     | agg g1 g2=>exact ((z1h c h).frl (fun c x xs a=>zcf hr d c x xs a) (⟨g1,g2⟩:RL E _ _)).1
   · cases h
 | false =>
   rw [if_neg (by simp [hc])] at h;have h1:=((z1h c h).frl (fun c x xs a=>zcf hr (d+1) c x xs a) (.cons r .nil)).1;simpa using h1
theorem zl0 (hr:HR E SH HA) {d:Nat}:∀ (l:List TC) {xs:List SV} {y:z3z l} {as:List AV},dValL SH d l xs=some y->RL E xs as->FR E (xs.flatMap (z0v SH (d+2))) (as.flatMap (zq HA (d+2)))
 | [],[],y,as,h,r=>by rw [r.nil_inv];exact .nil
 | [],_::_,y,as,h,r=>by cases h
 | [c],[],y,as,h,r=>by cases h
 | [c],[x],y,as,h,r=>by
   obtain ⟨a,m,rfl,h1,h2⟩:=r.cons_inv;rw [h2.nil_inv];have:=zoc hr (c:=c) (show dVal SH d c x=some y from h) h1;simpa using this
 | [c],x::x2::xs,y,as,h,r=>by cases h
 | c::e::l,[],y,as,h,r=>by cases h
 | c::e::l,x::xs,y,as,h,r=>by
   simp only [dValL] at h;split at h
   · rename_i a0 b0 h1 h2;cases h;obtain ⟨a,m,rfl,g1,g2⟩:=r.cons_inv;simp only [List.flatMap_cons];exact (zoc hr h1 g1).app (zl0 hr (e::l) h2 g2)
   · cases h
theorem setSame {E:Emb} {s:Nat} {e:EI} (h:E[s]?=some e):E.set s e=E:=by
 apply List.ext_getElem?
 intro i;rw [List.getElem?_set];split
 · rename_i hx;subst hx;rw [h];simp [(zG.1 h).1]
 · rfl
theorem HR.setDead {E:Emb} {SH:List SO} {HA:List AO} (hr:HR E SH HA) (s:Nat):HR E (SH.set s .dead) HA:=by
 refine ⟨by simp [hr.len],hr.lt,hr.inj,fun i x e h1 h2=>?_⟩;rw [List.getElem?_set] at h1;split at h1
 · split at h1
   · cases h1;cases e <;> trivial
   · cases h1
 · exact hr.obj i x e h1 h2
theorem zzk (HA:List AO):∀ (l:List Nat),(z02 HA l).length=HA.length /\ (∀ q,q∉l->(z02 HA l).getD q .none=HA.getD q .none) /\ ∀ q,isBlk (HA.getD q .none)->isBlk ((z02 HA l).getD q .none):=by
 have one:∀ (H:List AO) (p:Nat),(zj H p).length=H.length /\ (∀ q,q≠p->(zj H p).getD q .none=H.getD q .none) /\ ∀ q,isBlk (H.getD q .none)->isBlk ((zj H p).getD q .none):=by
  intro H p;unfold zj;split
  · refine ⟨by simp,fun q hq=>?_,fun q hq=>?_⟩
    · rw [zp,if_neg];rintro ⟨rfl,_⟩;exact hq rfl
    · rw [zp];split
      · exact ⟨_,_,_,_,rfl⟩
      · exact hq
  · exact ⟨rfl,fun _ _=>rfl,fun _ h=>h⟩
 intro l;induction l generalizing HA with
 | nil=>exact ⟨rfl,fun _ _=>rfl,fun _ h=>h⟩
 | cons p l ih =>
   obtain ⟨a1,a2,a3⟩:=one HA p;obtain ⟨b1,b2,b3⟩:=ih (zj HA p);refine ⟨?_,fun q hq=>?_,fun q hq=>?_⟩
   · show (z02 (zj HA p) l).length=_;rw [b1,a1]
   · show (z02 (zj HA p) l).getD q .none=_;rw [b2 q (fun h=>hq (List.mem_cons_of_mem _ h)),a2 q (fun h=>hq (h▸List.mem_cons_self))]
   · exact b3 q (a3 q hq)
theorem zem {l m:List Nat} (h:FR E l m):∀ {SH:List SO} {HA:List AO},HR E SH HA->HR E (freezeS SH l) (z02 HA m) /\ (z02 HA m).length=HA.length /\ (∀ (s:Nat) e p,E[s]?=some e->e.pos=some p->s∉l->(z02 HA m).getD p .none=HA.getD p .none) /\ ∀ q,isBlk (HA.getD q .none)->isBlk ((z02 HA m).getD q .none):=by
 induction h with
 | nil=>intro SH HA hr;exact ⟨hr,rfl,fun _ _ _ _ _ _=>rfl,fun _ h=>h⟩
 | @al s p off cur len l m h _ ih =>
   intro SH HA hr;have hsl:s<SH.length:=by rw [<- hr.len];exact (zG.1 h).1
   have hpl:=hr.lt s _ p h rfl;have hso:=zH hsl;have ho:=hr.obj s _ _ hso h;have key:∃ HA1 SH1,zj HA p=HA1 /\ z1b SH s=SH1 /\ HR E SH1 HA1 /\ HA1.length=HA.length /\ ∀ q,q≠p->HA1.getD q .none=HA.getD q .none:=by
    have hgd:SH.getD s .dead=SH[s]:=by simp [zI,hso]
    cases hob:SH[s] with
    | dead =>
      refine ⟨_,_,rfl,rfl,?_,?_,fun q hq=>?_⟩
      · have hS:z1b SH s=SH:=by simp only [z1b,hgd,hob]
        rw [hS];unfold zj;split
        · rename_i k v lv rows hk;have hc:=hr.chg (o':=.dead) (a:=.blk k v false rows) h (.refl _) rfl (fun _ h=>h) (fun _=>trivial);rw [setSame h,z1g hsl,zj6 hpl] at hc;have:SH.set s .dead=SH:=by
           apply List.ext_getElem?
           intro i;rw [List.getElem?_set];split
           · rename_i hx;subst hx;first
             | (rw [hso,hob];simp [hsl];done)
             | (rw [hso,hob])
             | simp_all
           · rfl
          rw [this] at hc;exact hc.1
        · exact hr
      · unfold zj;split <;> simp
      · unfold zj;split
        · rw [zp,if_neg];rintro ⟨rfl,_⟩;exact hq rfl
        · rfl
    | blk c v live xs =>
      rw [hob] at ho;obtain ⟨g1,g2,rows,g3,g4⟩:=ho;have hc:=hr.chg (o':=.blk c v false xs) (a:=.blk c.size cur false rows) h (.refl _) rfl (fun _ h=>h) (fun hE=>⟨g1,g2,rows,by rw [zp,if_pos ⟨rfl,hpl⟩],g4.mono hE⟩);rw [setSame h,z1g hsl,zj6 hpl] at hc;refine ⟨_,_,by simp only [zj,g3],by simp only [z1b,hgd,hob],hc.1,by simp,fun q hq=>?_⟩;rw [zp,if_neg];rintro ⟨rfl,_⟩;exact hq rfl
    | raw k live rows0 =>
      rw [hob] at ho;obtain ⟨rfl,rfl,g1,rows',g2,g3,g4⟩:=ho;have hc:=hr.chg (o':=.raw k false rows0) (a:=.blk k 0 false rows') h (.refl _) rfl (fun _ h=>h) (fun hE=>⟨rfl,rfl,g1,rows',by rw [zp,if_pos ⟨rfl,hpl⟩],g3,fun i a b q1 q2=>⟨(g4 i a b q1 q2).1.mono hE,(g4 i a b q1 q2).2⟩⟩);rw [setSame h,z1g hsl,zj6 hpl] at hc;refine ⟨_,_,by simp only [zj,g2],by simp only [z1b,hgd,hob],hc.1,by simp,fun q hq=>?_⟩;rw [zp,if_neg];rintro ⟨rfl,_⟩;exact hq rfl
    | loop=>rw [hob] at ho;exact ho.elim
    | dfr=>rw [hob] at ho;exact ho.elim
    | nst pv v live xs ex =>
      have hS:z1b SH s=SH.set s .dead:=by simp only [z1b,hgd,hob]
      rw [hob] at ho;obtain ⟨g1,g2,_,_,rows,g3,_⟩:=ho;have hc:=hr.chg (o':=.dead) (a:=.blk 4 cur false rows) h (.refl _) rfl (fun _ h=>h) (fun _=>trivial);rw [setSame h,z1g hsl,zj6 hpl] at hc;refine ⟨_,_,by simp only [zj,g3],hS,hc.1,by simp,fun q hq=>?_⟩;rw [zp,if_neg];rintro ⟨rfl,_⟩;exact hq rfl
   obtain ⟨HA1,SH1,k1,k2,k3,k4,k5⟩:=key;obtain ⟨g1,g2,g3,g9⟩:=ih k3;refine ⟨by simp only [freezeS,z02,List.foldl_cons,k1,k2];exact g1,by simp only [z02,List.foldl_cons,k1];exact g2.trans k4,fun s2 e2 q h1 h2 hn=>?_,fun q hq=>?_⟩;rotate_left
   · simp only [z02,List.foldl_cons];have:=g9 q (by
      rw [<- k1];unfold zj;split
      · rw [zp];split
        · exact ⟨_,_,_,_,rfl⟩
        · exact hq
      · exact hq)
     unfold z02 at this;rw [k1];exact this
   simp only [z02,List.foldl_cons,k1];have:=g3 s2 e2 q h1 h2 (fun hx=>hn (List.mem_cons_of_mem _ hx));unfold z02 at this;rw [this,k5];rintro rfl
   have:=hr.inj s2 s _ _ _ h1 h (EI.pos_at h2) rfl;subst this;exact hn List.mem_cons_self
 | @un s cur l m h _ ih =>
   intro SH HA hr;have hsl:s<SH.length:=by rw [<- hr.len];exact (zG.1 h).1
   have hso:=zH hsl;have ho:=hr.obj s _ _ hso h;have hgd:SH.getD s .dead=SH[s]:=by simp [zI,hso]
   have key:HR E (z1b SH s) HA:=by
    cases hob:SH[s] with
    | dead=>simp only [z1b,hgd,hob];exact hr
    | blk c v live xs =>
      rw [hob] at ho;obtain ⟨g1,g2,g3⟩:=ho;simp only [z1b,hgd,hob];have hc:=hr.upd (HA':=HA) (o':=.blk c v false xs) h (.refl _) (fun p hp=>by cases hp) (Nat.le_refl _) (fun _ _ _ _ _ _=>rfl) (fun _=>⟨g1,g2,rfl⟩);rw [setSame h] at hc;exact hc.1
    | raw=>rw [hob] at ho;exact ho.elim
    | loop=>rw [hob] at ho;exact ho.elim
    | dfr=>rw [hob] at ho;exact ho.elim
    | nst pv v live xs ex =>
      have hS:z1b SH s=SH.set s .dead:=by simp only [z1b,hgd,hob]
      rw [hS];exact hr.setDead s
   obtain ⟨g1,g2,g3,g9⟩:=ih key;exact ⟨by simp only [freezeS,List.foldl_cons];exact g1,g2,(fun s2 e2 q h1 h2 hn=>g3 s2 e2 q h1 h2 (fun hx=>hn (List.mem_cons_of_mem _ hx))),g9⟩
 | @ow s p off cur len qf l m qs h hq _ ih =>
   intro SH HA hr;have hsl:s<SH.length:=by rw [<- hr.len];exact (zG.1 h).1
   have hso:=zH hsl;have ho:=hr.obj s _ _ hso h;have hgd:SH.getD s .dead=SH[s]:=by simp [zI,hso]
   have hS:z1b SH s=SH.set s .dead:=by
    cases hob:SH[s] with
    | dead =>
      simp only [z1b,hgd,hob];apply List.ext_getElem?
      intro i;rw [List.getElem?_set];split
      · rename_i hx;subst hx;simp [hsl,hob]
      · rfl
    | blk=>rw [hob] at ho;exact ho.elim
    | raw=>rw [hob] at ho;exact ho.elim
    | loop=>rw [hob] at ho;exact ho.elim
    | dfr=>rw [hob] at ho;exact ho.elim
    | nst=>simp only [z1b,hgd,hob]
   have own:∀ q,q∈p::qs->(EI.ow p off cur len qf).at q:=by
    intro q hm;rcases List.mem_cons.1 hm with rfl | hm
    · exact .inl rfl
    · exact .inr (hq q hm)
   obtain ⟨f1,f2,f3⟩:=zzk HA (p::qs);obtain ⟨hr1,_⟩:=hr.upd (HA':=z02 HA (p::qs)) (o':=.dead) h (.refl _) (fun q hq=>⟨by rw [f1];exact hr.lt s _ q h hq,.inl hq⟩) (by rw [f1];exact Nat.le_refl _)
    (fun s2 e2 q hne h1 h2=>f2 q fun hm=>hne (hr.inj s2 s e2 _ q h1 h h2 (own q hm))) (fun _=>trivial)
   rw [setSame h,<- hS] at hr1;obtain ⟨g1,g2,g3,g9⟩:=ih hr1;have e1:z02 HA (p::(qs++m))=z02 (z02 HA (p::qs)) m:=by
    simp only [z02,<- List.cons_append,List.foldl_append]
   rw [e1];refine ⟨by simp only [freezeS,List.foldl_cons];exact g1,g2.trans f1,fun s2 e2 q h1 h2 hn=>?_,fun q hq=>g9 q (f3 q hq)⟩;rw [g3 s2 e2 q h1 h2 (fun hx=>hn (List.mem_cons_of_mem _ hx)),f2];intro hm;have:=hr.inj s2 s _ _ _ h1 h (EI.pos_at h2) (own q hm);subst this;exact hn List.mem_cons_self
end
section
variable {P:Program} {Γ:Ctx} {inl:FuncId->Bool} {orc:FuncId->Option (List AV->Option AV)} {prim:FuncId->Option (Nat->List AV->List AO->Res)} {R:Type}
theorem zod {E:Emb} {SH:List SO} {HA:List AO} (hr:HR E SH HA) {c:TC} {x:SV} {a:AV} {xs:List c.den} {bytes:Nat} (hd:dRows SH c x=some xs) (hx:Clk.R E x a) (h1:xs.length*bytes<=70368744177664) (h2:xs.length<=70368744177664) :
 ∃ v' ch',cloneA c.size bytes HA.length [a] HA=some (v',ch') /\ Did E SH HA HA.length (.bref SH.length 0) (some (SH.length,.blk c 0 true xs)) v' ch' /\ (∀ q o,ch'=some (q,o)->q=HA.length):=by
 obtain ⟨rows,g1,g2⟩:=z93 hr hd hx;have hrl:=(RT.iff.1 g2).1;unfold cloneA;simp only [g1];cases rows with
 | nil =>
   have hx0:xs=[]:=by simpa using hrl.symm
   subst hx0;exact ⟨_,_,rfl,hr.newUn (.inl ⟨rfl,rfl⟩),fun q o e=>by cases e⟩
 | cons row rows =>
   have hall:(row::rows).all (fun r=>r.length==c.size)=true:=by
    rw [List.all_eq_true];intro r hr';rw [g2.sizes r hr'];simp
   have hc:((row::rows).all (fun r=>r.length==c.size)&&decide ((row::rows).length*bytes<=z0f)&&decide ((row::rows).length<=z0f))=true:=by
    rw [hall,hrl];unfold z0f;simp;omega
   refine ⟨.ref HA.length 0 0 xs.length,some (HA.length,.blk c.size 0 true (row::rows)),?_,hr.newBlk (.inl ⟨rfl,rfl⟩) g2,fun q o e=>by cases e;rfl⟩;simp only;rw [if_pos hc,hrl]
theorem z01k (x:Found):∀ (l:List Found),(insF l x).length=l.length+1
 | []=>rfl
 | y::l=>by unfold insF;split <;> simp [z01k x l]
theorem zw7:∀ (l k:List Found),(l.foldl insF k).length=l.length+k.length
 | [],k=>by simp
 | x::l,k=>by rw [List.foldl_cons,zw7 l,z01k];simp;omega
theorem z064 (l:List Found):(sortF l).length=l.length:=by unfold sortF;rw [zw7];simp
theorem zen {E:Emb} {x:Found} {row:List AV} (h:RL E (TC.up .found x) row):rowKey row=some (x.record.seq,x.place) /\ row.all AV.leaf=true:=by
 refine ⟨?_,h.leaf rfl⟩;have h0:RL E [svI x.place,svI x.record.kind,svI x.record.seq,svL .i x.record.keys,svL .i x.record.values] row:=h;obtain ⟨a1,m1,rfl,r1,h1⟩:=h0.cons_inv;obtain ⟨a2,m2,rfl,r2,h2⟩:=h1.cons_inv;obtain ⟨a3,m3,rfl,r3,h3⟩:=h2.cons_inv;obtain ⟨a4,m4,rfl,r4,h4⟩:=h3.cons_inv;obtain ⟨a5,m5,rfl,r5,h5⟩:=h4.cons_inv;rw [h5.nil_inv];cases r1;cases r2;cases r3;rfl
theorem z065 {E:Emb} {x:Found} {row:List AV} (h:RL E (TC.up .found x) row):∀ {xs:List Found} {rows:List (List AV)},RT E .found xs rows->RT E .found (insF xs x) (insA rows row)
 | [],rows,r=>by
   have:rows=[]:=by have:=(RT.iff.1 r).1;simpa using this
   subst this;exact .cons h .nil
 | y::xs,rows,r=>by
   cases rows with
   | nil=>have:=(RT.iff.1 r).1;simp at this
   | cons q rows =>
     have hq:RL E (TC.up .found y) q:=(RT.iff.1 r).2 0 y q rfl rfl;have hr:RT E .found xs rows:=RT.iff.2 ⟨by have:=(RT.iff.1 r).1;simpa using this,fun i a b h1 h2=>(RT.iff.1 r).2 (i+1) a b (by simpa using h1) (by simpa using h2)⟩;unfold insF insA;rw [(zen h).1,(zen hq).1];show RT E .found (if aheadF x y=true then _ else _) (if aheadF x y=true then _ else _);split
     · exact .cons h (.cons hq hr)
     · exact .cons hq (z065 h hr)
theorem z01l {E:Emb}:∀ {xs:List Found} {rows:List (List AV)} {ys:List Found} {rs:List (List AV)},RT E .found xs rows->RT E .found ys rs->RT E .found (xs.foldl insF ys) (rows.foldl insA rs)
 | [],rows,ys,rs,r,q=>by
   have:rows=[]:=by have:=(RT.iff.1 r).1;simpa using this
   subst this;exact q
 | y::xs,rows,ys,rs,r,q=>by
   cases rows with
   | nil=>have:=(RT.iff.1 r).1;simp at this
   | cons p rows =>
     have hq:RL E (TC.up .found y) p:=(RT.iff.1 r).2 0 y p rfl rfl;have hr:RT E .found xs rows:=RT.iff.2 ⟨by have:=(RT.iff.1 r).1;simpa using this,fun i a b h1 h2=>(RT.iff.1 r).2 (i+1) a b (by simpa using h1) (by simpa using h2)⟩;show RT E .found (xs.foldl insF (insF ys y)) (rows.foldl insA (insA rs p));exact z01l hr (z065 hq q)
theorem z01m {E:Emb}:∀ {xs:List Found} {rows:List (List AV)},RT E .found xs rows->distF xs=true->distA rows=true
 | [],rows,r,_=>by
   have:rows=[]:=by have:=(RT.iff.1 r).1;simpa using this
   subst this;rfl
 | y::xs,rows,r,h=>by
   cases rows with
   | nil=>have:=(RT.iff.1 r).1;simp at this
   | cons p rows =>
     have hq:RL E (TC.up .found y) p:=(RT.iff.1 r).2 0 y p rfl rfl;have hr:RT E .found xs rows:=RT.iff.2 ⟨by have:=(RT.iff.1 r).1;simpa using this,fun i a b h1 h2=>(RT.iff.1 r).2 (i+1) a b (by simpa using h1) (by simpa using h2)⟩;unfold distF at h;rw [Bool.and_eq_true] at h;unfold distA;rw [z01m hr h.2,(zen hq).1,(zen hq).2];simp only [Option.isSome_some,Bool.and_true,Bool.true_and];rw [List.all_eq_true];intro b hb;obtain ⟨i,hi,rfl⟩:=List.mem_iff_getElem.1 hb;have hl:=(RT.iff.1 hr).1;have hx:xs[i]?=some (xs[i]'(by omega)):=zH _;have h2:=(zen ((RT.iff.1 hr).2 i _ _ hx (zH hi))).1;have h3:=List.all_eq_true.1 h.1 _ (List.getElem_mem (show i<xs.length by omega));rw [h2];simpa using h3
theorem z03q {E:Emb} {SH:List SO} {HA:List AO} (hr:HR E SH HA) {gf:Nat} {s v:Nat} {a b:AV} {xs:List Found} (hs:SH.getD s .dead=.blk .found v true xs) (hx:Clk.R E (.bref s v) a) (hb:Clk.R E (.fn gf [] []) b) (h1:distF xs=true) (h2:xs.length<=70368744177664) :
 ∃ v' ch',sortA gf HA.length [a,b] HA=some (v',ch') /\ Did E SH HA HA.length (.tup []) (some (s,.blk .found v true (sortF xs))) v' ch':=by
 cases hb with
 | fn q1 q2 q3 q4 =>
   rename_i l m;have e1:l=[]:=by simpa using q1.symm
   have e2:m=[]:=by simpa using q3.symm
   subst e1;subst e2;have hsl:s<SH.length:=by
    rcases Nat.lt_or_ge s SH.length with h | h
    · exact h
    · rw [zI,List.getElem?_eq_none h] at hs;cases hs
   rcases hx.bref_inv hr hs with ⟨g0,rfl,_,rfl⟩ | ⟨p,off,cur,len,rows,g1,g2,g3,g4,g5,g6,rfl⟩
   · refine ⟨.tup [],none,by unfold sortA;simp,E,.refl E,?_,.tup' .nil,(fun h=>by cases h),(fun i o e=>by cases e;exact .inl ⟨rfl,_,g0⟩),(fun q a e=>by cases e),(fun _ _=>rfl),fun s e q h1 h2=>.inl ⟨e,h1,h2⟩⟩;have:z3o SH (some (s,.blk .found v true (sortF [])))=SH:=by
      rw [z1g hsl];apply List.ext_getElem?
      intro i;rw [List.getElem?_set];by_cases e:s=i
      · subst e;rw [if_pos rfl,zH hsl];rw [zI,zH hsl] at hs;simp only [hsl,if_true];rw [show sortF []=[] from rfl,<- hs];rfl
      · rw [if_neg e]
     rw [this];exact hr
   · have hpl:=hr.lt s _ p g1 rfl;refine ⟨.tup [],some (p,.blk 5 cur true (rows.foldl insA [])),?_,z3q (hr.chg g1 (.refl _) rfl (fun _ h=>h) fun hE=>⟨g2,?_,_,?_,(z01l g5 .nil).mono hE⟩) rfl (fun q hq=>.inl ⟨_,g1,hq⟩) (.tup' .nil)⟩
     · unfold sortA;simp only [if_true];rw [g4];simp only;rw [if_pos ⟨trivial,g6.symm,rfl,z01m g5 h1,h2⟩];rfl
     · rw [g3,z064]
     · rw [zp,if_pos ⟨rfl,hpl⟩];rfl
theorem zeo (hΓ:CtxAll P Γ inl orc prim) {rs:SRun R} (hrs:SRunOk P inl orc prim rs) {E:Emb} {SH:List SO} {HA:List AO} (hr:HR E SH HA) {f:FuncId} {args:List SV} {args':List AV} (ha:RL E args args') {g:Gh} {k:SV->List SO->Gh->Option R} {r:R}
 (h:callGS Γ rs f args SH SH.length g k=some r):∃ m v v' H1 H1' E1 g1,callG P inl orc prim (run P inl orc prim m) f args' HA=some (v',H1') /\ Ext E HA g.wr E1 H1 H1' g1.wr /\ Clk.R E1 v v' /\ k v H1 g1=some r:=by
 unfold callGS at h;split at h
 · rename_i c bytes hcl;cases hb:Nat.blt bytes 1000000 with
   | true =>
     have hpr:prim f=some (cloneA c.size bytes):=by rw [hΓ.cl _ _ _ hcl,primOf,hb];rfl
     rw [hb,zC] at h;split at h
     · rename_i x;obtain ⟨a,m,rfl,h1,h2⟩:=ha.cons_inv;rw [h2.nil_inv];split at h
       · rename_i xs hd;obtain ⟨has,hk⟩:=z26 h;have c1:=of_decide_eq_true (has _ (List.mem_cons_self));have c2:=of_decide_eq_true (has _ (List.mem_cons_of_mem _ (List.mem_singleton.2 rfl)));obtain ⟨v',ch',g1,g2,g3⟩:=zod hr hd h1 c1 c2;obtain ⟨E',k1,k2⟩:=g2.ext hr g (fun i o e=>by cases e;exact .inl rfl);exact ⟨0,_,v',_,_,E',_,by simp only [callG,hpr,g1,Option.map_some],k1,k2,hk⟩
       · cases h
     · cases h
   | false =>
     have hpr:prim f=some (sortA (bytes - 1000000)):=by rw [hΓ.cl _ _ _ hcl,primOf,hb];rfl
     rw [hb,zD] at h;unfold sortGS at h;split at h
     · rename_i s v gf;obtain ⟨a,m,rfl,h1,h2⟩:=ha.cons_inv;obtain ⟨b,m,rfl,h3,h4⟩:=h2.cons_inv;rw [h4.nil_inv];split at h
       · rename_i v' xs hs;cases hc:(Nat.beq gf (bytes - 1000000)&&Nat.beq v v') with
         | false=>rw [hc] at h;cases h
         | true =>
           rw [hc,zC] at h;rw [Bool.and_eq_true] at hc;have e1:=Nat.eq_of_beq_eq_true hc.1;have e2:=Nat.eq_of_beq_eq_true hc.2;subst e2;rw [e1] at h3;obtain ⟨has,hk⟩:=z26 h;have c1:=has _ (List.mem_cons_self);have c2:=of_decide_eq_true (has _ (List.mem_cons_of_mem _ (List.mem_singleton.2 rfl)));obtain ⟨w',ch',g1,g2⟩:=z03q hr hs h1 h3 c1 c2;obtain ⟨E',k1,k2⟩:=g2.ext hr g (fun i o e=>by cases e;exact .inr (by rw [hs];simp));exact ⟨0,_,w',_,_,E',_,by simp only [callG,hpr,g1,Option.map_some],k1,k2,hk⟩
       · cases h
     · cases h
 · rename_i hcl;have hp:=hΓ.clN _ hcl;split at h
   · rename_i hi;obtain ⟨m,v,v',H1,H1',E1,g1,k1,k2,k3,k4⟩:=zel hΓ hrs hr ha h;exact ⟨m,v,v',H1,H1',E1,g1,by simp only [callG,hp];rw [if_pos (by rw [<- hΓ.inlE];exact hi)];exact k1,k2,k3,k4⟩
   · rename_i hi;split at h
     · rename_i sp hsp;split at h
       · rename_i a hd;obtain ⟨hh,o1,o2⟩:=hΓ.sp _ _ hsp;cases hsa:sp.h a with
         | none=>rw [hsa] at h;cases h
         | some y =>
           rw [hsa] at h;have h':k (resV sp.res y) (freezeS SH (args.flatMap (z0v SH 5))) (g.log (args.flatMap (z0v SH 5)))=some r:=h;have e1:=zky (d:=3) hr sp.params hd ha;have e2:=zl0 (d:=3) hr sp.params hd ha;obtain ⟨f1,f2,f3,f4⟩:=zem e2 hr;refine ⟨0,_,encRes sp.res y,_,_,E,_,?_,⟨.refl E,f1,fun d e=>?_,by rw [f2];exact Nat.le_refl _,f4,(fun s e p h1 h2=>.inl ⟨s,e,h1,h2⟩),fun _ h=>h⟩,zt0 _ _,h'⟩
           · simp only [callG,hp];rw [if_neg (by rw [<- hΓ.inlE];exact hi)];simp only [depth];rw [e1];simp only [z0y,o1,o2 _ _ hsa]
           · simp only [Gh.log,Option.map_eq_some_iff] at e;obtain ⟨d0,e0,rfl⟩:=e;exact ⟨d0,e0,fun x hx=>List.mem_append_right _ hx,(fun s e p h1 h2=>⟨e,h1,h2⟩),fun s p es hs ha hn=>⟨⟨es,hs,ha⟩,f3 s _ p hs (EI.alAt_pos ha) fun hx=>hn (List.mem_append_left _ hx)⟩⟩
       · cases h
     · cases h
theorem zrt {E:Emb} {st:SSt} {st':St} (hr:HR E st.H st'.H) (ht:RL E st.t st'.t) {k:Nat} {c:TC} {x:SV} (hx:st.t[k]?=some x) {st1:SSt} (h:coGo k st c x=some st1) :
 HR E st1.H (coA1 k st'.t st'.H).2 /\ RL E st1.t (coA1 k st'.t st'.H).1 /\ Ext E st'.H st.g.wr E st1.H (coA1 k st'.t st'.H).2 st1.g.wr /\ st1.m=st.m /\ st1.g.cx=st.g.cx:=by
 unfold coGo at h;split at h
 · rename_i y hd;cases h;obtain ⟨a,ha,hra⟩:=ht.get hx;have e1:=zo9 (d:=3) hr hd hra;have e2:=zoc (d:=3) hr hd hra;obtain ⟨f1,f2,f3,f4⟩:=zem e2 hr;have hco:coA1 k st'.t st'.H=(st'.t.set k (encV (.list c) y),z02 st'.H (zq st'.H 5 a)):=by
    unfold coA1;rw [ha];simp only [depth];rw [e1]
   rw [hco];refine ⟨f1,ht.set k (zo5 _ _),⟨.refl E,f1,fun d e=>?_,by rw [f2];exact Nat.le_refl _,f4,(fun s e p h1 h2=>.inl ⟨s,e,h1,h2⟩),fun _ h=>h⟩,rfl,rfl⟩;simp only [Gh.log,Option.map_eq_some_iff] at e;obtain ⟨d0,e0,rfl⟩:=e;exact ⟨d0,e0,fun x hx=>List.mem_append_right _ hx,(fun s e p h1 h2=>⟨e,h1,h2⟩),fun s p es hs ha hn=>⟨⟨es,hs,ha⟩,f3 s _ p hs (EI.alAt_pos ha) fun hx=>hn (List.mem_append_left _ hx)⟩⟩
 · cases h
theorem z03r {E:Emb} {st:SSt} {st':St} (hr:HR E st.H st'.H) (ht:RL E st.t st'.t) {k:Nat} {st1:SSt} (h:coS1 k st=some st1) :
 HR E st1.H (coA1 k st'.t st'.H).2 /\ RL E st1.t (coA1 k st'.t st'.H).1 /\ Ext E st'.H st.g.wr E st1.H (coA1 k st'.t st'.H).2 st1.g.wr /\ st1.m=st.m /\ st1.g.cx=st.g.cx:=by
 unfold coS1 at h;split at h
 · rename_i s v hx;split at h
   · exact zrt hr ht hx h
   · cases h
 · rename_i f c xs hx;exact zrt hr ht hx h
 · cases h
theorem zl1 {inl:FuncId->Bool} {id:Nat} {E:Emb}:∀ (l:List Nat) {st:SSt} {m':List Nat} {t':List AV} {HA:List AO} {st1:SSt},HR E st.H HA->RL E st.t t'->coSL inl id l st=some st1 ->
 HR E st1.H (coAL inl id l (t',HA)).2 /\ RL E st1.t (coAL inl id l (t',HA)).1 /\ Ext E HA st.g.wr E st1.H (coAL inl id l (t',HA)).2 st1.g.wr /\ st1.m=st.m /\ st1.g.cx=st.g.cx
 | [],st,m',t',HA,st1,hr,ht,h=>by cases h;exact ⟨hr,ht,.refl hr _,rfl,rfl⟩
 | k::l,st,m',t',HA,st1,hr,ht,h=>by
   unfold coSL at h;unfold coAL;cases hb:inl (10000000+id*1000+k) with
   | false =>
     rw [hb,zD] at h;rw [if_neg (by simp)];exact zl1 l (m':=m') hr ht h
   | true =>
     rw [hb,zC] at h;rw [if_pos rfl];split at h
     · rename_i st2 h2;obtain ⟨a1,a2,a3,a4,a5⟩:=z03r (st':=⟨t',HA,m'⟩) hr ht h2;obtain ⟨b1,b2,b3,b4,b5⟩:=zl1 (inl:=inl) (id:=id) l (m':=m') a1 a2 h;exact ⟨b1,b2,a3.trans b3,b4.trans a4,b5.trans a5⟩
     · cases h
theorem z066 {inl:FuncId->Bool} {id:Nat} {E:Emb} {st:SSt} {st':St} {st1:SSt} (hr:HR E st.H st'.H) (ht:RL E st.t st'.t) (h:coS inl id st=some st1) :
 HR E st1.H (coA inl id st'.t st'.H).2 /\ RL E st1.t (coA inl id st'.t st'.H).1 /\ Ext E st'.H st.g.wr E st1.H (coA inl id st'.t st'.H).2 st1.g.wr /\ st1.m=st.m /\ st1.g.cx=st.g.cx:=by
 unfold coS at h;unfold coA;rw [<- ht.1];cases hb:inl (1000000+(id*1000+st.t.length)) with
 | false =>
   rw [hb,zD] at h;cases h;rw [if_neg (by simp)];exact ⟨hr,ht,.refl hr _,rfl,rfl⟩
 | true =>
   rw [hb,zC] at h;rw [if_pos rfl];exact zl1 _ (m':=st'.m) hr ht h
theorem zw8 (hΓ:CtxAll P Γ inl orc prim) {rs:SRun R} (hrs:SRunOk P inl orc prim rs) {E:Emb} {SH:List SO} {HA:List AO} (hr:HR E SH HA) {fv:SV} {fa:AV} (hf:Clk.R E fv fa) {args:List SV} {args':List AV} (ha:RL E args args') {g:Gh} {k:SV->List SO->Gh->Option R} {r:R}
 (h:callVS Γ rs fv args SH SH.length g k=some r):∃ m v v' H1 H1' E1 g1,callV P inl orc prim (run P inl orc prim m) fa args' HA=some (v',H1') /\ Ext E HA g.wr E1 H1 H1' g1.wr /\ Clk.R E1 v v' /\ k v H1 g1=some r:=by
 unfold callVS at h;split at h
 · cases hf with
   | fn g1 g2 g3 g4 =>
     exact zeo hΓ hrs hr (RL.app (RL.app ⟨g1,g2⟩ ha) ⟨g3,g4⟩) h
 · obtain ⟨m,p,v,v',H1,H1',E1,g1,rfl,k1,k2,k3,k4⟩:=zlu hrs hr hf ha h;exact ⟨m,v,v',H1,H1',E1,g1,k1,k2,k3,k4⟩
 · cases h
theorem RL.setB {E:Emb} {t:List SV} {t':List AV} (ht:RL E t t') {d:Nat} {a:AV} (h:t'[d]?=some a) {x:SV} (hx:Clk.R E x a):RL E (t.set d x) t' :=
 ⟨by simp [ht.1],fun i y b h1 h2=>by
  rw [List.getElem?_set] at h1;split at h1
  · rename_i e;subst e;split at h1
    · cases h1;rw [h] at h2;cases h2;exact hx
    · cases h1
  · exact ht.2 i y b h1 h2⟩
theorem z94 {E:Emb} {t:List SV} {t':List AV} (ht:RL E t t') {x:Operand} {b:Bool} (h:opd t' x=.bool b):RL E (setBS t x b) t':=by
 cases x with
 | tmp i =>
   simp only [setBS];simp only [opd,zI] at h;cases h1:t'[i]? with
   | none=>rw [h1] at h;cases h
   | some a=>rw [h1] at h;simp at h;subst h;exact ht.setB h1 (.bool b)
 | _=>exact ht
theorem z8z (hΓ:CtxAll P Γ inl orc prim) {rs:SRun R} (hrs:SRunOk P inl orc prim rs) {ops:Array Oper}:∀ (L:List Oper) {E:Emb} {SH:List SO} {HA:List AO} {t:List SV} {t':List AV} {g:Gh} {k:List SV->List SO->Gh->Option R} {r:R},
 HR E SH HA->RL E t t'->seqS Γ rs ops L t SH g k=some r ->
 ∃ m t1 t1' H1 H1' E1 g1,z0j P inl orc prim (run P inl orc prim m) ops L t' HA=some (t1',H1') /\ Ext E HA g.wr E1 H1 H1' g1.wr /\ RL E1 t1 t1' /\ k t1 H1 g1=some r
 | [],E,SH,HA,t,t',g,k,r,hr,ht,h=>⟨0,t,t',SH,HA,E,g,rfl,.refl hr _,ht,h⟩
 | o::rest,E,SH,HA,t,t',g,k,r,hr,ht,h=>by
   have hput:∀ {E':Emb} {t:List SV} {v:SV} {v':AV},RL E' t t'->Clk.R E' v v'->RL E' (putS t o.dst v) (zir t' o.dst v'):=by
    intro E' t v v' h1 h2;cases hd:o.dst with
    | none=>exact h1
    | some d=>exact h1.set d h2
   have step:∀ (t:List SV),RL E t t'->z4t ops t' o=some true ->
    (match o.op with
      | .call { callee:=.value f,args,argTypes }=>callVS Γ rs (z10 Γ 0 t f) (zipO t (fun a ty=>z10 Γ ty t a) args.toList argTypes.toList) SH SH.length g fun v H' g=>seqS Γ rs ops rest (putS t o.dst v) H' g k
      | .pick c a b=>match z10 Γ 0 t c with
        | .bool x=>cond x (seqS Γ rs ops rest (putS (setBS t c true) o.dst (z10 Γ o.type t a)) SH g k) (seqS Γ rs ops rest (putS (setBS t c false) o.dst (z10 Γ o.type t b)) SH g k)
        | _=>none
      | _=>match evalS Γ t SH SH.length o with
        | some (as,v,ch)=>z3t as (seqS Γ rs ops rest (putS t o.dst v) (z3o SH ch) (g.log (chIds ch)) k)
        | none=>none)=some r ->
    ∃ m t1 t1' H1 H1' E1 g1,z0j P inl orc prim (run P inl orc prim m) ops (o::rest) t' HA=some (t1',H1') /\ Ext E HA g.wr E1 H1 H1' g1.wr /\ RL E1 t1 t1' /\ k t1 H1 g1=some r:=by
    intro t ht hw h;split at h
    · rename_i f args tys hop;obtain ⟨m,v,v',H1,H1',E1,g1,k1,k2,k3,k4⟩:=zw8 hΓ hrs hr (z00 Γ ht 0 f) (z8y ht _ _) h;obtain ⟨m2,t1,t1',H2,H2',E2,g2,q1,q2,q3,q4⟩:=z8z hΓ hrs rest k2.hr (hput (ht.mono k2.le) k3) k4;refine ⟨max m m2,t1,t1',H2,H2',E2,g2,?_,k2.trans q2,q3,q4⟩;simp only [z0j,hw,hop];rw [z01a (zac (Nat.le_max_left m m2)) k1];exact zcb (zac (Nat.le_max_right m m2)) _ _ _ _ q1
    · rename_i c a b hop;split at h
      · rename_i x hx;have hc:=z00 (E:=E) Γ ht 0 c;rw [hx] at hc;have hb:opd t' c=.bool x:=by generalize opd t' c=y at hc;cases hc;rfl
        cases x with
        | true =>
          obtain ⟨m2,t1,t1',H2,H2',E2,g2,q1,q2,q3,q4⟩:=z8z hΓ hrs rest hr (hput (z94 ht hb) (z00 Γ ht o.type a)) h;refine ⟨m2,t1,t1',H2,H2',E2,g2,?_,q2,q3,q4⟩;simp only [z0j,hw,hop,z0a,hb,zad];exact q1
        | false =>
          obtain ⟨m2,t1,t1',H2,H2',E2,g2,q1,q2,q3,q4⟩:=z8z hΓ hrs rest hr (hput (z94 ht hb) (z00 Γ ht o.type b)) h;refine ⟨m2,t1,t1',H2,H2',E2,g2,?_,q2,q3,q4⟩;simp only [z0j,hw,hop,z0a,hb,zad];exact q1
      · cases h
    · rename_i hnc hnp;split at h
      · rename_i as v ch he;obtain ⟨has,hk⟩:=z26 h;obtain ⟨v',ch',g1,g2⟩:=zo1 hΓ.toCtxOk hr ht (.inl ⟨rfl,rfl⟩) he has;obtain ⟨E',k1,k2⟩:=g2.ext hr g (fun i o' e=>by subst e;exact zkw he);obtain ⟨m2,t1,t1',H2,H2',E2,g3,q1,q2,q3,q4⟩:=z8z hΓ hrs rest k1.hr (hput (ht.mono k1.le) k2) hk;refine ⟨m2,t1,t1',H2,H2',E2,g3,?_,k1.trans q2,q3,q4⟩;rw [z09s,hw,zgd,znu hnc,g1,z01c,zvn];exact q1
      · cases h
   have skip:∀ (t:List SV),RL E t t'->z4t ops t' o=some false->seqS Γ rs ops rest (putS t o.dst (.tup [])) SH g k=some r ->
    ∃ m t1 t1' H1 H1' E1 g1,z0j P inl orc prim (run P inl orc prim m) ops (o::rest) t' HA=some (t1',H1') /\ Ext E HA g.wr E1 H1 H1' g1.wr /\ RL E1 t1 t1' /\ k t1 H1 g1=some r:=by
    intro t ht hw h;obtain ⟨m2,t1,t1',H2,H2',E2,g2,q1,q2,q3,q4⟩:=z8z hΓ hrs rest hr (hput ht (.tup' .nil)) h;exact ⟨m2,t1,t1',H2,H2',E2,g2,by simp only [z0j,hw];exact q1,q2,q3,q4⟩
   simp only [seqS] at h;split at h
   · rename_i hg;exact step t ht (by simp only [z4t,hg]) h
   · rename_i j want hg;split at h
     · rename_i d hd;split at h
       · rename_i b hb;obtain ⟨a,ha,hra⟩:=ht.get hb;cases hra;have hT:=ht.setB ha (.bool b);have hw:z4t ops t' o=some (b==want):=by simp only [z4t,hg,hd,ha]
         cases b with
         | true =>
           cases want with
           | true=>exact step _ hT hw h
           | false=>exact skip _ hT hw h
         | false =>
           cases want with
           | true=>exact skip _ hT hw h
           | false=>exact step _ hT hw h
       · rename_i hb;obtain ⟨a,ha,hra⟩:=ht.get hb;have:a=.tup []:=by cases hra with | tup g1 g2=>rw [RL.nil_inv (E:=E) ⟨g1,g2⟩]
         subst this;exact skip t ht (by simp only [z4t,hg,hd,ha]) h
       · cases h
     · cases h
end
end Clk
namespace Clk
open Go
mutual
theorem AV.same_refl:∀ (a:AV),AV.same a a=true
 | .bool b=>by simp [AV.same]
 | .int k n=>by simp [AV.same]
 | .str s=>by simp [AV.same]
 | .undef=>rfl
 | .nilPtr=>rfl
 | .nilFunc=>rfl
 | .nilIface=>rfl
 | .nilMap=>rfl
 | .agg l=>by simp only [AV.same];exact z65 l
 | .tup l=>by simp only [AV.same];exact z65 l
 | .rows l=>by simp only [AV.same];exact zcv l
 | .crows l=>by simp only [AV.same];exact zcv l
 | .iptr l j=>by simp [AV.same,z65 l]
 | .ref b v o n=>by simp [AV.same]
 | .ptr b v i j=>by simp [AV.same]
 | .fn f a b=>by simp [AV.same,z65 a,z65 b]
 | .yield l=>by simp [AV.same]
 | .iface t v=>by simp [AV.same,AV.same_refl v]
theorem z65:∀ (l:List AV),sameL l l=true
 | []=>rfl
 | x::l=>by simp [sameL,AV.same_refl x,z65 l]
theorem zcv:∀ (l:List (List AV)),sameLL l l=true
 | []=>rfl
 | x::l=>by simp [sameLL,z65 x,zcv l]
end
theorem AO.same_blk {a:AO} (h:isBlk a):AO.same a a=true:=by
 obtain ⟨k,v,l,r,rfl⟩:=h;simp [AO.same,zcv]
def noAll (acc:List SStep):Prop:=∀ x∈acc,x.ch≠.all
structure StR (E0:Emb) (SH0:List SO) (LS LA:Nat) (E:Emb) (acc pre:List SStep) (s:SStep) (d:DStep):Prop where
 dst:d.dst=s.dst
 rd:∀ q∈d.rd,∃ i∈s.rd,(∀ off cur len p,E0[i]?=some (.al p off cur len)->p=q) /\ (noAll acc->∃ e,E[i]?=some e /\ e.pos=some q)
 non:s.ch=.nothing->d.ch=.nothing
 one:∀ q o,d.ch=.one q o->∃ i,s.ch=.one i /\ (noAll acc->∃ e,E[i]?=some e /\ e.pos=some q) /\ (i<LS->(∀ x∈pre,clearOf i x=true)->q<LA)
 frz:∀ l',d.ch=.frz l'->∃ l,(s.ch=.some l /\ (noAll acc->∀ i q off cur len,E0[i]?=some (.al q off cur len)->i∉l->q∉l')) \/
  (s.ch=.frz l /\ (noAll acc->∀ q∈l',∃ i∈l,∃ e,E[i]?=some e /\ e.pos=some q))
 all:∀ H',d.ch=.all H'->LA<=H'.length /\ ((∀ i,s.ch≠.one i) /\ ∀ l,s.ch≠.frz l) /\
  (noAll acc->∀ i q off cur len,isRawS SH0 i=true->E0[i]?=some (.al q off cur len)->(∀ l,s.ch=.some l->i∉l)->s.ch≠.all->H'.getD q .none=d.hb.getD q .none /\ isBlk (d.hb.getD q .none))
theorem StR.mono {E0:Emb} {SH0:List SO} {LS LA:Nat} {E E':Emb} {acc acc' pre:List SStep} {s:SStep} {d:DStep} (h:StR E0 SH0 LS LA E acc pre s d) (hE:noAll acc'->Stay E E') (ha:∀ x∈acc,x∈acc'):StR E0 SH0 LS LA E' acc' pre s d:=by
 refine ⟨h.dst,fun q hq=>?_,h.non,fun q o e=>?_,fun l' e=>?_,fun H' e=>⟨(h.all H' e).1,(h.all H' e).2.1,fun hn=>(h.all H' e).2.2 fun x hx=>hn x (ha x hx)⟩⟩
 · obtain ⟨i,h1,h2,h3⟩:=h.rd q hq;refine ⟨i,h1,h2,fun hn=>?_⟩;obtain ⟨e,k1,k2⟩:=h3 fun x hx=>hn x (ha x hx)
   exact hE hn i e q k1 k2
 · obtain ⟨i,h1,h2,h4⟩:=h.one q o e;refine ⟨i,h1,fun hn=>?_,h4⟩;obtain ⟨e2,k1,k2⟩:=h2 fun x hx=>hn x (ha x hx)
   exact hE hn i e2 q k1 k2
 · obtain ⟨l,h1 | h1⟩:=h.frz l' e
   · exact ⟨l,.inl ⟨h1.1,fun hn=>h1.2 fun x hx=>hn x (ha x hx)⟩⟩
   · refine ⟨l,.inr ⟨h1.1,fun hn q hq=>?_⟩⟩;obtain ⟨i,k0,e2,k1,k2⟩:=h1.2 (fun x hx=>hn x (ha x hx)) q hq;exact ⟨i,k0,hE hn i e2 q k1 k2⟩
structure DI (E0:Emb) (SH0:List SO) (HA0:List AO) (n:Nat) (E:Emb) (SH:List SO) (HA:List AO) (acc:List SStep) (accA:List DStep):Prop where
 hr:HR E SH HA
 le:ELe E0 E
 ln:acc.length=accA.length
 st:∀ (i:Nat) s d,acc[i]?=some s->accA[i]?=some d->StR E0 SH0 (SH0.length+n) (HA0.length+n) E acc (acc.take i) s d
 sl:∀ j,acc.length<=j->j<n->SH0.length+j<SH.length /\ E[SH0.length+j]?=some .no /\ ∀ (s:Nat) e,E[s]?=some e->¬ e.at (HA0.length+j)
 inv:∀ (s p:Nat) (e:EI),s<SH0.length+n->(∀ x∈acc,clearOf s x=true)->E[s]?=some e->e.alAt p->p<HA0.length+n
 gl:HA0.length+n<=HA.length
 kd:∀ q,isBlk (HA0.getD q .none)->isBlk (HA.getD q .none)
 stay:noAll acc->Stay E0 E
 nw0:∀ (s:Nat) (e:EI) (p:Nat),E[s]?=some e->e.at p->(∃ (s0:Nat) (e0:EI),E0[s0]?=some e0 /\ e0.at p) \/ HA0.length<=p
 nn0:∀ s:Nat,s<SH0.length->E0[s]?=some .no->E[s]?=some .no
theorem z3u {E:Emb} {SH:List SO} {HA:List AO} (hr:HR E SH HA) {b:Nat} {l:List Nat} (h:thereS SH b=some l):l=[b] /\ E[b]?≠some .gone:=by
 unfold thereS at h;split at h
 · cases h
 · rename_i hne;cases h;refine ⟨rfl,fun hg=>?_⟩;obtain ⟨e,h1,h2,h3⟩:=hr.get rfl (fun hx=>hne hx);rw [hg] at h1;cases h1;cases hx:SH.getD b .dead with
   | dead=>exact hne hx
   | _=>rw [hx] at h3;exact h3
theorem z4q {E:Emb} {SH:List SO} {HA:List AO} (hr:HR E SH HA) {x:SV} {a:AV} (h:R E x a) {l:List Nat} (hl:refIdS SH x=some l):∀ q∈z1t a,∃ i∈l,∃ e,E[i]?=some e /\ e.pos=some q:=by
 intro q hq;cases h with
 | bref hE hu hle =>
   obtain ⟨rfl,_⟩:=z3u hr hl;simp [z1t] at hq;subst hq;exact ⟨_,List.mem_singleton.2 rfl,_,hE,rfl⟩
 | ref hE hu hle hn =>
   obtain ⟨rfl,_⟩:=z3u hr hl;simp [z1t] at hq;subst hq;exact ⟨_,List.mem_singleton.2 rfl,_,hE,rfl⟩
 | ptr hE hu =>
   obtain ⟨rfl,_⟩:=z3u hr hl;simp [z1t] at hq;subst hq;exact ⟨_,List.mem_singleton.2 rfl,_,hE,rfl⟩
 | obref hE hu hle =>
   obtain ⟨rfl,_⟩:=z3u hr hl;simp [z1t] at hq;subst hq;exact ⟨_,List.mem_singleton.2 rfl,_,hE,rfl⟩
 | oref hE hu hle hn =>
   obtain ⟨rfl,_⟩:=z3u hr hl;simp [z1t] at hq;subst hq;exact ⟨_,List.mem_singleton.2 rfl,_,hE,rfl⟩
 | optr hE hu =>
   obtain ⟨rfl,_⟩:=z3u hr hl;simp [z1t] at hq;subst hq;exact ⟨_,List.mem_singleton.2 rfl,_,hE,rfl⟩
 | gbref hE=>exact absurd hE (z3u hr hl).2
 | gref hE=>exact absurd hE (z3u hr hl).2
 | grun hE=>exact absurd hE (z3u hr hl).2
 | gptr hE=>exact absurd hE (z3u hr hl).2
 | junk=>cases hl
 | _=>simp [z1t] at hq
theorem zj9 {E:Emb} {SH:List SO} {HA:List AO} (hr:HR E SH HA):∀ {xs:List SV} {as:List AV} {l:List Nat},RL E xs as->refIdsS SH xs=some l->∀ q∈as.flatMap z1t,∃ i∈l,∃ e,E[i]?=some e /\ e.pos=some q
 | [],as,l,h,hl,q,hq=>by rw [h.nil_inv] at hq;simp at hq
 | x::xs,as,l,h,hl,q,hq=>by
   obtain ⟨a,m,rfl,h1,h2⟩:=h.cons_inv;simp only [refIdsS] at hl;split at hl
   · rename_i u w g1 g2;cases hl;simp only [List.flatMap_cons,List.mem_append] at hq;rcases hq with hq | hq
     · obtain ⟨i,k1,k2⟩:=z4q hr h1 g1 q hq;exact ⟨i,List.mem_append_left _ k1,k2⟩
     · obtain ⟨i,k1,k2⟩:=zj9 hr h2 g2 q hq;exact ⟨i,List.mem_append_right _ k1,k2⟩
   · cases hl
section
variable {P:Program} {Γ:Ctx} {inl:FuncId->Bool} {orc:FuncId->Option (List AV->Option AV)} {prim:FuncId->Option (Nat->List AV->List AO->Res)} {R:Type}
theorem zw9 {E:Emb} {SH:List SO} {HA:List AO} (hr:HR E SH HA) {t:List SV} {t':List AV} (ht:RL E t t') {o:Oper} {l:List Nat} (h:readsS Γ t SH o=some l):∀ q∈readsOf t' o,∃ i∈l,∃ e,E[i]?=some e /\ e.pos=some q:=by
 unfold readsS at h;unfold readsOf;intro q hq;split at h
 · rename_i ty a hop;simp only [hop] at hq;exact z4q hr (z00 Γ ht 0 a) h q hq
 · rename_i ty a x hop;simp only [hop] at hq;exact z4q hr (z00 Γ ht 0 a) h q hq
 · rename_i s d x hop;simp only [hop] at hq;exact z4q hr (z00 Γ ht s x) h q hq
 · rename_i ty x lo hi mx hop;simp only [hop] at hq;exact z4q hr (z00 Γ ht ty x) h q hq
 · rename_i ty x ix hop;simp only [hop] at hq;exact z4q hr (z00 Γ ht ty x) h q hq
 · rename_i b args tys hop;simp only [hop] at hq;refine zj9 hr (z8y (Γ:=Γ) ht args.toList tys.toList) h q ?_;rw [List.flatMap_map];exact hq
 · cases h;exfalso;rename_i h1 h2 h3 h4 h5 h6;revert hq
   split
   · rename_i hop;exact absurd hop (h1 _ _)
   · rename_i hop;exact absurd hop (h2 _ _ _)
   · rename_i hop;exact absurd hop (h3 _ _ _)
   · rename_i hop;exact absurd hop (h4 _ _ _ _ _)
   · rename_i hop;exact absurd hop (h5 _ _ _)
   · rename_i hop;exact absurd hop (h6 _ _ _)
   · simp
theorem DI.add {E0:Emb} {SH0:List SO} {HA0:List AO} {n:Nat} {E E':Emb} {SH SH':List SO} {HA HA':List AO} {acc:List SStep} {accA:List DStep} {s:SStep} {d:DStep} (h:DI E0 SH0 HA0 n E SH HA acc accA)
 (hle:ELe E E') (hstay:s.ch≠.all->Stay E E') (hr:HR E' SH' HA') (hst:StR E0 SH0 (SH0.length+n) (HA0.length+n) E' (acc++[s]) acc s d)
 (hsl:∀ j,acc.length<j->j<n->SH0.length+j<SH'.length /\ E'[SH0.length+j]?=some .no)
 (hnw:∀ (s:Nat) (e:EI) (p:Nat),E'[s]?=some e->e.at p->(∃ (s0:Nat) (e0:EI),E[s0]?=some e0 /\ e0.at p) \/ p=HA0.length+acc.length \/ HA0.length+n<=p)
 (hinv:∀ (i p:Nat) (e:EI),i<SH0.length+n->clearOf i s=true->E'[i]?=some e->e.alAt p->(∃ e0:EI,E[i]?=some e0 /\ e0.alAt p) \/ p<HA0.length+n)
 (hgl:HA.length<=HA'.length) (hkd:∀ q,isBlk (HA.getD q .none)->isBlk (HA'.getD q .none))
 (hnn:∀ s:Nat,s<SH0.length->E[s]?=some .no->E'[s]?=some .no):DI E0 SH0 HA0 n E' SH' HA' (acc++[s]) (accA++[d]):=by
 refine ⟨hr,h.le.trans hle,by simp [h.ln],fun i x y h1 h2=>?_,fun j h1 h2=>?_,fun i p e h1 h2 h3 ha=>?_,Nat.le_trans h.gl hgl,fun q hq=>hkd q (h.kd q hq),fun hn s2 e p h1 h2=>by
  obtain ⟨e',k1,k2⟩:=h.stay (fun x hx=>hn x (List.mem_append_left _ hx)) s2 e p h1 h2;exact hstay (hn s (List.mem_append_right _ (List.mem_singleton.2 rfl))) s2 e' p k1 k2,fun s2 e p h1 h2=>?_,fun s2 h1 h2=>hnn s2 h1 (h.nn0 s2 h1 h2)⟩
 rotate_left 3
 · rcases hnw s2 e p h1 h2 with ⟨s0,e0,k1,k2⟩ | k1 | k1
   · exact h.nw0 s0 e0 p k1 k2
   · exact .inr (by omega)
   · exact .inr (by omega)
 · rw [List.getElem?_append] at h1 h2;split at h1
   · rename_i hi;rw [if_pos (by rw [<- h.ln];exact hi)] at h2;rw [List.take_append_of_le_length (by omega)];exact (h.st i x y h1 h2).mono (fun hn=>hstay (hn s (List.mem_append_right _ (List.mem_singleton.2 rfl)))) fun x hx=>List.mem_append_left _ hx
   · rename_i hi;rw [if_neg (by rw [<- h.ln];exact hi)] at h2;have hl:=(zG.1 h1).1;simp at hl;have hi0:i - acc.length=0:=by omega
     rw [hi0] at h1;rw [<- h.ln,hi0] at h2;simp at h1 h2;subst h1 h2;rw [show i=acc.length by omega,List.take_left];exact hst
 · simp only [List.length_append,List.length_cons,List.length_nil] at h1;obtain ⟨g1,g2⟩:=hsl j (by omega) h2;refine ⟨g1,g2,fun s2 e h3 h4=>?_⟩;rcases hnw s2 e _ h3 h4 with ⟨s0,e0,k1,k2⟩ | k1 | k1
   · exact (h.sl j (by omega) h2).2.2 s0 e0 k1 k2
   · omega
   · omega
 · rcases hinv i p e h1 (h2 s (List.mem_append_right _ (List.mem_singleton.2 rfl))) h3 ha with ⟨e0,k1,k1'⟩ | k1
   · exact h.inv i p e0 h1 (fun x hx=>h2 x (List.mem_append_left _ hx)) k1 k1'
   · exact k1
theorem DI.slot {E0:Emb} {SH0:List SO} {HA0:List AO} {n:Nat} {E:Emb} {SH:List SO} {HA:List AO} {acc:List SStep} {accA:List DStep} (h:DI E0 SH0 HA0 n E SH HA acc accA) (hn:acc.length<n):SlotAt E SH HA (SH0.length+acc.length) (HA0.length+accA.length):=by
 obtain ⟨g1,g2,g3⟩:=h.sl _ (Nat.le_refl _) hn;rw [<- h.ln];exact .inr ⟨g1,g2,by have:=h.gl;omega,g3⟩
theorem DI.skip {E0:Emb} {SH0:List SO} {HA0:List AO} {n:Nat} {E:Emb} {SH:List SO} {HA:List AO} {acc:List SStep} {accA:List DStep} (h:DI E0 SH0 HA0 n E SH HA acc accA) {s:SStep} {d:DStep} (hd:d.dst=s.dst) (hc:d.ch=.nothing)
 (hr:d.rd=[]):DI E0 SH0 HA0 n E SH HA (acc++[s]) (accA++[d]):=by
 refine h.add (.refl E) (fun _ s e p h1 h2=>⟨e,h1,h2⟩) h.hr ⟨hd,(fun q hq=>by rw [hr] at hq;simp at hq),(fun _=>hc),(fun q o e=>by rw [hc] at e;cases e),(fun l e=>by rw [hc] at e;cases e),(fun H' e=>by rw [hc] at e;cases e)⟩ (fun j h1 h2=>⟨(h.sl j (by omega) h2).1,(h.sl j (by omega) h2).2.1⟩) (fun s e p h1 h2=>.inl ⟨s,e,h1,h2⟩) (fun i p e _ _ h3 ha=>.inl ⟨e,h3,ha⟩) (Nat.le_refl _) (fun _ hq=>hq) fun _ _ h=>h
theorem z03s {H:List SO} {ch:Option (Nat×SO)}:H.length<=(z3o H ch).length:=by
 cases ch with
 | none=>exact Nat.le_refl _
 | some x=>obtain ⟨i,o⟩:=x;simp only [z3o];split <;> simp
theorem DI.oper (hΓ:CtxOk P Γ) {E0:Emb} {SH0:List SO} {HA0:List AO} {n:Nat} {E:Emb} {SH:List SO} {HA:List AO} {acc:List SStep} {accA:List DStep} (hd:DI E0 SH0 HA0 n E SH HA acc accA) (hlt:acc.length<n) {t:List SV} {t':List AV} (ht:RL E t t') {o:Oper}
 {as:List Bool} {v:SV} {ch:Option (Nat×SO)} {rd:List Nat} (he:evalS Γ t SH (SH0.length+acc.length) o=some (as,v,ch)) (hrd:readsS Γ t SH o=some rd) (has:∀ b∈as,b=true) (g:Gh) :
 ∃ v' ch' E',z0a P t' HA (HA0.length+accA.length) o=some (v',ch') /\ DI E0 SH0 HA0 n E' (z3o SH ch) ((effOf ch').on HA) (acc++[⟨o.dst,effOfS ch,rd⟩]) (accA++[⟨o.dst,v',effOf ch',readsOf t' o,HA⟩]) /\ Clk.R E' v v' /\ ELe E E' /\ Unch E E' HA ((effOf ch').on HA) g.wr (g.log (chIds ch)).wr:=by
 obtain ⟨v',ch',g1,g2⟩:=zo1 hΓ hd.hr ht (hd.slot hlt) he has;obtain ⟨E',⟨e1,e2,e3,e4,e5⟩,e6,e7,e8,e9,e10⟩:=g2.ext0 hd.hr g;have hon:(effOf ch').on HA=zi HA ch':=by
  cases hch:ch' with
  | none=>rfl
  | some x =>
    obtain ⟨q,a⟩:=x;show HA.set q a=_;rw [zj6];cases hc:ch with
    | none=>rw [e7 hc] at hch;cases hch
    | some y =>
      obtain ⟨i,ob⟩:=y;rcases e9 i ob hc with ⟨h1,_⟩ | ⟨q2,o2,e,h1,h2,h3⟩
      · rw [h1] at hch;cases hch
      · rw [h1] at hch;cases hch;rcases e10 i e q h2 (EI.pos_at (EI.alAt_pos h3)) with ⟨e0,k1,k2⟩ | k1
        · exact hd.hr.lt i e0 q k1 k2
        · have:=hd.gl;have:=hd.ln;omega
 have hne:∀ j,acc.length<j->j<n->∀ i ob,ch=some (i,ob)->SH0.length+j≠i:=by
  rintro j h1 h2 i ob hch hx
  subst hch;rcases zkw he with h3 | h3
  · omega
  · have hno:=(hd.sl j (by omega) h2).2.1;rw [hx] at hno;obtain ⟨e,k1,k2,k3⟩:=hd.hr.get rfl h3;rw [hno] at k1;cases k1;cases hsx:SH.getD i .dead with
    | dead=>exact h3 hsx
    | blk=>rw [hsx] at k3;exact k3
    | raw=>rw [hsx] at k3;exact k3
    | loop=>rw [hsx] at k3;exact k3
    | dfr=>rw [hsx] at k3;exact k3
    | nst=>rw [hsx] at k3;exact k3
 have hstay:Stay E E':=by
  have:=e3;intro s e p h1 h2;obtain ⟨e',k1,k2⟩:=e1 s e h1;by_cases hx:∀ i o,ch=some (i,o)->s≠i
  · have:=e8 s hx;rw [h1] at this;exact ⟨e,this,h2⟩
  · have hx':∃ i o,ch=some (i,o) /\ s=i:=by
     apply Classical.byContradiction
     intro hc;exact hx fun i o h1 h2=>hc ⟨i,o,h1,h2⟩
    obtain ⟨i,o,hch,rfl⟩:=hx';rcases k2.pos h2 with k3 | k3
    · subst k3;rcases e9 s o hch with ⟨_,cur,h8⟩ | ⟨q,o',e',_,h9,h10⟩
      · rw [k1] at h8;cases h8
      · rw [k1] at h9;cases h9;exact absurd h10 id
    · exact ⟨e',k1,k3⟩
 have hinv:∀ (i p:Nat) (e:EI),E'[i]?=some e->e.alAt p->(∃ e0:EI,E[i]?=some e0 /\ e0.alAt p) \/ p<HA0.length+n:=by
  intro i p e h3 ha;rcases e10 i _ p h3 (EI.pos_at (EI.alAt_pos ha)) with ⟨e0,h4,h5⟩ | h4
  · left;obtain ⟨e',h6,h7⟩:=e1 i e0 h4;rw [h3] at h6;cases h6;cases h7 with
    | no=>exact h5.elim
    | ua=>exact h5.elim
    | uo=>exact h5.elim
    | un=>exact h5.elim
    | gone=>exact ha.elim
    | ob=>exact ha.elim
    | al _ _=>exact ⟨_,h4,ha⟩
    | ao _ _=>exact ⟨_,h4,ha⟩
    | ow _ _=>exact ⟨_,h4,ha⟩
  · right;rw [h4];have:=hd.ln;omega
 refine ⟨v',ch',E',g1,?_,e6,e1,by rw [hon];exact e3⟩;rw [hon];refine hd.add e1 (fun _=>hstay) e2 ⟨rfl,fun q hq=>?_,fun h=>?_,fun q ob hq=>?_,fun l hq=>?_,fun H' hq=>?_⟩ (fun j h1 h2=>?_) (fun s e p h1 h2=>?_) (fun i p e _ _ h3 ha=>hinv i p e h3 ha) e4 e5 (fun s h1 h2=>?_)
 · obtain ⟨i,k1,e,k2,k5⟩:=zw9 hd.hr ht hrd q hq;refine ⟨i,k1,fun off cur len p hp=>?_,fun hn=>?_⟩
   · obtain ⟨e',k3,k4⟩:=hd.le i _ hp;rw [k2] at k3;cases k3;rcases k4.pos rfl with k6 | k6
     · rw [k6] at k5;cases k5
     · rw [k6] at k5;cases k5;rfl
   · exact hstay i e q k2 k5
 · cases hc:ch with
   | none=>simp only;rw [e7 hc];rfl
   | some x=>obtain ⟨a,b⟩:=x;rw [hc] at h;cases h
 · cases hch:ch' with
   | none=>rw [hch] at hq;cases hq
   | some x =>
     obtain ⟨q2,a⟩:=x;rw [hch] at hq;cases hq;cases hc:ch with
     | none=>rw [e7 hc] at hch;cases hch
     | some y =>
       obtain ⟨i,so⟩:=y;rcases e9 i so hc with ⟨h1,_⟩ | ⟨q2,o2,e,h1,h2,h3⟩
       · rw [h1] at hch;cases hch
       · rw [h1] at hch;cases hch;refine ⟨i,rfl,fun _=>⟨e,h2,EI.alAt_pos h3⟩,fun hi hcl=>?_⟩;rcases hinv i q e h2 h3 with ⟨o1,k3,k3'⟩ | k3
         · exact hd.inv i q o1 hi hcl k3 k3'
         · exact k3
 · exfalso;cases ch' with
   | none=>cases hq
   | some x=>obtain ⟨a,b⟩:=x;cases hq
 · exfalso;cases ch' with
   | none=>cases hq
   | some x=>obtain ⟨a,b⟩:=x;cases hq
 · have:=hd.sl j (by omega) h2;exact ⟨Nat.lt_of_lt_of_le this.1 z03s,by rw [e8 _ (hne j h1 h2)];exact this.2.1⟩
 · rcases e10 s e p h1 h2 with ⟨e0,h3⟩ | h3
   · exact .inl ⟨s,e0,h3⟩
   · exact .inr (.inl (by rw [h3,<- hd.ln]))
 · rw [e8 s ?_];exact h2;rintro i ob hch rfl
   subst hch;rcases zkw he with h3 | h3
   · omega
   · obtain ⟨e,k1,k2,k3⟩:=hd.hr.get rfl h3;rw [h2] at k1;cases k1;cases hsx:SH.getD s .dead with
     | dead=>exact h3 hsx
     | blk=>rw [hsx] at k3;exact k3
     | raw=>rw [hsx] at k3;exact k3
     | loop=>rw [hsx] at k3;exact k3
     | dfr=>rw [hsx] at k3;exact k3
     | nst=>rw [hsx] at k3;exact k3
end
end Clk
namespace Clk
open Go
section
variable {P:Program} {Γ:Ctx} {inl:FuncId->Bool} {orc:FuncId->Option (List AV->Option AV)} {prim:FuncId->Option (Nat->List AV->List AO->Res)} {R:Type}
theorem z01n {E:Emb} {x:SV} {a:AV} (h:Clk.R E x a) (hi:immS1 x=true):∃ w,a.nrm=some w:=by
 cases x with
 | bool b=>cases h;exact ⟨_,rfl⟩
 | int k n=>cases h;exact ⟨_,rfl⟩
 | str s=>cases h;exact ⟨_,rfl⟩
 | lst fl c xs=>exact ⟨_,z7m (nrmC c) h⟩
 | nilPtr=>cases h;exact ⟨_,rfl⟩
 | nilFunc=>cases h;exact ⟨_,rfl⟩
 | nilIface=>cases h;exact ⟨_,rfl⟩
 | nilMap=>cases h;exact ⟨_,rfl⟩
 | _=>cases hi
theorem z01o {E:Emb}:∀ {l:List SV} {l':List AV},RL E l l'->l.all immS1=true->∃ w,zed l'=some w
 | [],l',h,_=>by rw [h.nil_inv];exact ⟨_,rfl⟩
 | x::l,l',h,hi=>by
   obtain ⟨a,m,rfl,h1,h2⟩:=h.cons_inv;simp only [List.all_cons,Bool.and_eq_true] at hi;obtain ⟨w,h3⟩:=z01n h1 hi.1;obtain ⟨ws,h4⟩:=z01o h2 hi.2;exact ⟨w::ws,by simp only [zed,h3,h4]⟩
theorem z0bt {E:Emb} {x:SV} {a:AV} (h:Clk.R E x a) (hi:immS x=true):∃ w,a.nrm=some w:=by
 cases x with
 | agg l =>
   cases h with
   | agg h1 h2 =>
     obtain ⟨w,h3⟩:=z01o (E:=E) ⟨h1,h2⟩ hi;exact ⟨.agg w,by simp only [AV.nrm,h3,Option.map_some]⟩
 | _=>exact z01n h hi
theorem zoe {E:Emb}:∀ {l:List SV} {l':List AV},RL E l l'->l.all immS=true->∃ w,zed l'=some w
 | [],l',h,_=>by rw [h.nil_inv];exact ⟨_,rfl⟩
 | x::l,l',h,hi=>by
   obtain ⟨a,m,rfl,h1,h2⟩:=h.cons_inv;simp only [List.all_cons,Bool.and_eq_true] at hi;obtain ⟨w,h3⟩:=z0bt h1 hi.1;obtain ⟨ws,h4⟩:=zoe h2 hi.2;exact ⟨w::ws,by simp only [zed,h3,h4]⟩
theorem z01p {E:Emb} {SH:List SO} {HA:List AO} (hr:HR E SH HA) {d:Nat} {c:TC} {x:SV} {y:c.den} {a:AV} (h:dVal SH d c x=some y) (r:Clk.R E x a):(∀ w,a.nrm=some w->w=encV c y) /\ ∀ w,a.nrm=some w->zq HA (d+2) a=[]:=by
 unfold dVal at h;cases hc:c.agg with
 | true =>
   rw [if_pos hc] at h;split at h
   · cases r with
     | agg g1 g2 =>
       have h1:=((z1h c h).told (fun c x xs a=>z4p hr d c x xs a) (zo7 c y) (⟨g1,g2⟩:RL E _ _)).2;have h2:=((z1h c h).frl (fun c x xs a=>zcf hr d c x xs a) (⟨g1,g2⟩:RL E _ _)).2;refine ⟨fun w e=>?_,fun w e=>?_⟩
       · simp only [AV.nrm,Option.map_eq_some_iff] at e;obtain ⟨l,e1,rfl⟩:=e;rw [h1 _ e1];simp only [encV,hc,if_true]
       · simp only [AV.nrm,Option.map_eq_some_iff] at e;obtain ⟨l,e1,rfl⟩:=e;exact h2 _ e1
   · cases h
 | false =>
   rw [if_neg (by simp [hc])] at h;have h1:=((z1h c h).told (fun c x xs a=>z4p hr (d+1) c x xs a) (zo7 c y) (.cons r .nil)).2;have h2:=((z1h c h).frl (fun c x xs a=>zcf hr (d+1) c x xs a) (.cons r .nil)).2;rw [zgi hc] at h1;refine ⟨fun w e=>?_,fun w e=>?_⟩
   · have:=h1 [w] (by simp only [zed,e]);exact (List.cons.inj this).1
   · have:=h2 [w] (by simp only [zed,e]);simpa using this
theorem zwa {E:Emb} {SH:List SO} {HA:List AO} (hr:HR E SH HA) {d:Nat}:∀ (l:List TC) {xs:List SV} {y:z3z l} {as:List AV},dValL SH d l xs=some y->RL E xs as->∀ w,zed as=some w->w=encL l y /\ as.flatMap (zq HA (d+2))=[]
 | [],[],y,as,h,r,w,e=>by rw [r.nil_inv] at e ⊢;cases e;exact ⟨rfl,rfl⟩
 | [],_::_,y,as,h,r,w,e=>by cases h
 | [c],[],y,as,h,r,w,e=>by cases h
 | [c],[x],y,as,h,r,w,e=>by
   obtain ⟨a,m,rfl,h1,h2⟩:=r.cons_inv;rw [h2.nil_inv] at e ⊢;simp only [zed] at e;split at e
   · rename_i u us e1 e2;cases e2;cases e;obtain ⟨g1,g2⟩:=z01p hr (c:=c) (show dVal SH d c x=some y from h) h1;exact ⟨by rw [g1 _ e1];rfl,by simp [g2 _ e1]⟩
   · cases e
 | [c],x::x2::xs,y,as,h,r,w,e=>by cases h
 | c::f::l,[],y,as,h,r,w,e=>by cases h
 | c::f::l,x::xs,y,as,h,r,w,e=>by
   simp only [dValL] at h;split at h
   · rename_i a0 b0 h1 h2;cases h;obtain ⟨a,m,rfl,g1,g2⟩:=r.cons_inv;simp only [zed] at e;split at e
     · rename_i u us e1 e2;cases e;obtain ⟨k1,k2⟩:=z01p hr h1 g1;obtain ⟨k3,k4⟩:=zwa hr (f::l) h2 g2 _ e2;exact ⟨by rw [k1 _ e1,k3];rfl,by simp only [List.flatMap_cons,k2 _ e1,k4,List.append_nil]⟩
     · cases e
   · cases h
theorem FR.at {E:Emb} {l m:List Nat} (h:FR E l m):∀ q∈m,∃ s∈l,∃ e:EI,E[s]?=some e /\ e.at q:=by
 induction h with
 | nil=>intro q hq;simp at hq
 | al h _ ih =>
   intro q hq;rcases List.mem_cons.1 hq with rfl | hq
   · exact ⟨_,List.mem_cons_self,_,h,rfl⟩
   · obtain ⟨s,k1,k2⟩:=ih q hq;exact ⟨s,List.mem_cons_of_mem _ k1,k2⟩
 | un h _ ih=>intro q hq;obtain ⟨s,k1,k2⟩:=ih q hq;exact ⟨s,List.mem_cons_of_mem _ k1,k2⟩
 | ow h hq' _ ih =>
   intro q hq;rcases List.mem_cons.1 hq with rfl | hq
   · exact ⟨_,List.mem_cons_self,_,h,.inl rfl⟩
   · rcases List.mem_append.1 hq with hq | hq
     · exact ⟨_,List.mem_cons_self,_,h,.inr (hq' q hq)⟩
     · obtain ⟨s,k1,k2⟩:=ih q hq;exact ⟨s,List.mem_cons_of_mem _ k1,k2⟩
theorem FR.flat {E:Emb} {SH:List SO} {HA:List AO} (hr:HR E SH HA) {l m:List Nat} (h:FR E l m):l.all (plainS SH)=true->∀ q∈m,∃ s∈l,∃ e:EI,E[s]?=some e /\ e.pos=some q:=by
 induction h with
 | nil=>intro _ q hq;simp at hq
 | al h _ ih =>
   intro hf q hq;simp only [List.all_cons,Bool.and_eq_true] at hf;rcases List.mem_cons.1 hq with rfl | hq
   · exact ⟨_,List.mem_cons_self,_,h,rfl⟩
   · obtain ⟨s,k1,k2⟩:=ih hf.2 q hq;exact ⟨s,List.mem_cons_of_mem _ k1,k2⟩
 | un h _ ih =>
   intro hf q hq;simp only [List.all_cons,Bool.and_eq_true] at hf;obtain ⟨s,k1,k2⟩:=ih hf.2 q hq;exact ⟨s,List.mem_cons_of_mem _ k1,k2⟩
 | @ow s _ _ _ _ _ _ _ _ h hq' _ ih =>
   intro hf q hq;simp only [List.all_cons,Bool.and_eq_true] at hf;exfalso;have h1:=hf.1;unfold plainS at h1;split at h1
   · rename_i hs;obtain ⟨e,g1,g2,g3⟩:=hr.get hs (by simp);rw [h] at g1;cases g1;exact g3
   · rename_i hs;obtain ⟨e,g1,g2,g3⟩:=hr.get hs (by simp);rw [h] at g1;cases g1;exact g3
   · cases h1
theorem zzl (hΓ:CtxAll P Γ inl orc prim) {rs:SRun R} (hrs:SRunOk P inl orc prim rs) {E:Emb} {SH:List SO} {HA:List AO} (hr:HR E SH HA) {t:List SV} {t':List AV} (ht:RL E t t') {o:Oper} {f:Operand} {args:Array Operand} {tys:Array TypeId} (hop:o.op=.call ⟨.value f,args,tys⟩)
 {cx slot:Nat} {k:SV->List SO->Gh->Option R} {r:R} (h:callVS Γ rs (z10 Γ 0 t f) (zipO t (fun a ty=>z10 Γ ty t a) args.toList tys.toList) SH SH.length ⟨cx,some []⟩ k=some r) :
 ∃ m v v' ch H1 H1' E1 g1,z7j P inl orc prim (run P inl orc prim m) t' HA slot o=some (v',ch) /\ ch.on HA=H1' /\ Ext E HA (some []) E1 H1 H1' g1.wr /\ Clk.R E1 v v' /\ k v H1 g1=some r /\
  (ch=.nothing \/ (ch=.all H1' /\ zgv Γ SH (z10 Γ 0 t f) (zipO t (fun a ty=>z10 Γ ty t a) args.toList tys.toList) g1.wr≠.nothing /\ ∀ l,zgv Γ SH (z10 Γ 0 t f) (zipO t (fun a ty=>z10 Γ ty t a) args.toList tys.toList) g1.wr≠.frz l) \/ ∃ l l',ch=.frz l' /\ FR E l l' /\ (zgv Γ SH (z10 Γ 0 t f) (zipO t (fun a ty=>z10 Γ ty t a) args.toList tys.toList) g1.wr=.some l \/ (zgv Γ SH (z10 Γ 0 t f) (zipO t (fun a ty=>z10 Γ ty t a) args.toList tys.toList) g1.wr=.frz l /\ l.all (plainS SH)=true))) /\
  (zgv Γ SH (z10 Γ 0 t f) (zipO t (fun a ty=>z10 Γ ty t a) args.toList tys.toList) g1.wr=.grow->g1.wr=some [SH.length]) /\
  (∀ l,(zgv Γ SH (z10 Γ 0 t f) (zipO t (fun a ty=>z10 Γ ty t a) args.toList tys.toList) g1.wr=.some l \/ zgv Γ SH (z10 Γ 0 t f) (zipO t (fun a ty=>z10 Γ ty t a) args.toList tys.toList) g1.wr=.frz l)->g1.wr=some l) /\
  (zgv Γ SH (z10 Γ 0 t f) (zipO t (fun a ty=>z10 Γ ty t a) args.toList tys.toList) g1.wr=.nothing->g1.wr=some []) /\
  (∀ i,zgv Γ SH (z10 Γ 0 t f) (zipO t (fun a ty=>z10 Γ ty t a) args.toList tys.toList) g1.wr≠.one i):=by
 have hf:=z00 (E:=E) Γ ht 0 f;have ha:=z8y (Γ:=Γ) ht args.toList tys.toList;generalize hfv:z10 Γ 0 t f=fv at h hf ⊢;generalize hal:zipO t (fun a ty=>z10 Γ ty t a) args.toList tys.toList=al at h ha ⊢;have hone:∀ (w:Option (List Nat)) i,zgv Γ SH fv al w≠.one i:=by
  intro w i;unfold zgv;have hne:∀ (b:Bool) (x y:SEff),x≠.one i->y≠.one i->cond b x y≠.one i:=fun b x y h1 h2=>by cases b;exact h2;exact h1
  repeat' split
  all_goals first
   | exact hne _ _ _ (fun h=>by cases h) (fun h=>by cases h)
   | (simp;done)
 unfold callVS at h;split at h
 · rename_i g first cap
   generalize hfa:opd t' f=fa at hf;cases hf with
   | @fn _ _ _ first' cap' q1 q2 q3 q4 =>
     have hall:RL E (first++al++cap) (first'++args.toList.map (opd t')++cap'):=RL.app (RL.app ⟨q1,q2⟩ ha) ⟨q3,q4⟩;have hev:∀ m,z7j P inl orc prim (run P inl orc prim m) t' HA slot o=(match (if inl g||(prim g).isSome then none else zed (first'++args.toList.map (opd t')++cap')) with
      | some as=>(z0y P orc (run P inl orc prim m) g as).map fun v=>(v,.nothing)
      | none=>match (if inl g||(prim g).isSome then none else mapO (exp HA depth) (first'++args.toList.map (opd t')++cap')) with
        | some as=>(z0y P orc (run P inl orc prim m) g as).map fun v=>(v,.frz ((first'++args.toList.map (opd t')++cap').flatMap (zq HA depth)))
        | none=>(callG P inl orc prim (run P inl orc prim m) g (first'++args.toList.map (opd t')++cap') HA).map fun r=>(r.1,.all r.2)):=by
      intro m;unfold z7j;simp only [hop,hfa];rfl
     cases hcl:Γ.cl g with
     | some cb =>
       obtain ⟨c,bytes⟩:=cb;have hp:=hΓ.cl _ _ _ hcl;have h0:=h;cases hb:Nat.blt bytes 1000000 with
       | true =>
         have hp':prim g=some (cloneA c.size bytes):=by rw [hp,primOf,hb];rfl
         unfold callGS at h;rw [hcl] at h;simp only [hb,zC] at h;split at h
         · rename_i x hargs;rw [hargs] at hall;obtain ⟨a,m',hl',h1,h2⟩:=hall.cons_inv;rw [h2.nil_inv] at hl';split at h
           · rename_i xs hd;obtain ⟨has,hk⟩:=z26 h;have c1:=of_decide_eq_true (has _ (List.mem_cons_self));have c2:=of_decide_eq_true (has _ (List.mem_cons_of_mem _ (List.mem_singleton.2 rfl)));obtain ⟨v',ch',g1,g2,g3⟩:=zod hr hd h1 c1 c2;obtain ⟨E',k1,k2⟩:=g2.ext hr ⟨cx,some []⟩ (fun i o e=>by cases e;exact .inl rfl);refine ⟨0,_,v',.all (zi HA ch'),_,_,E',_,?_,rfl,k1,k2,hk,.inr (.inl ⟨rfl,?_⟩),fun _=>rfl,fun l e=>?_,fun e=>?_,hone _⟩
             · rw [hev,hl'];simp only [hp',Option.isSome_some,Bool.or_true,if_true,callG,g1,Option.map_some]
             · simp [zgv,hcl,hb]
             · simp [zgv,hcl,hb] at e
             · simp [zgv,hcl,hb] at e
           · cases h
         · cases h
       | false =>
         obtain ⟨m,v,v',H1,H1',E1,g1,k1,k2,k3,k4⟩:=zeo hΓ hrs hr hall h0;refine ⟨m,v,v',.all H1',H1,H1',E1,g1,?_,rfl,k2,k3,k4,.inr (.inl ⟨rfl,?_⟩),fun e=>?_,fun l e=>?_,fun e=>?_,hone _⟩
         · rw [hev];simp only [hp,Option.isSome_some,Bool.or_true,if_true,k1,Option.map_some]
         · simp only [zgv,hcl,hb,zD];cases g1.wr <;> simp
         · exfalso;simp only [zgv,hcl,hb,zD] at e;cases hw:g1.wr <;> (rw [hw] at e;simp at e)
         · simp only [zgv,hcl,hb,zD] at e;cases hw:g1.wr with
           | none=>rw [hw] at e;simp at e
           | some l2=>rw [hw] at e;simp at e;rw [e]
         · exfalso;simp only [zgv,hcl,hb,zD] at e;cases hw:g1.wr <;> (rw [hw] at e;simp at e)
     | none =>
       have hp:=hΓ.clN _ hcl;cases hi:Γ.inl g with
       | true =>
         unfold callGS at h;rw [hcl,hi] at h;simp only [if_true] at h;obtain ⟨m,v,v',H1,H1',E1,g1,k1,k2,k3,k4⟩:=zel hΓ hrs hr hall h;refine ⟨m,v,v',.all H1',H1,H1',E1,g1,?_,rfl,k2,k3,k4,.inr (.inl ⟨rfl,?_⟩),fun e=>?_,fun l e=>?_,fun e=>?_,hone _⟩
         · rw [hev];have hi':inl g=true:=by rw [<- hΓ.inlE];exact hi
           simp only [hi',Bool.true_or,if_true,callG,hp,k1,Option.map_some]
         · simp only [zgv,hcl,hi,Bool.not_true,Bool.false_and,Bool.false_eq_true,if_false,zD];cases g1.wr <;> simp
         · exfalso;simp only [zgv,hcl,hi,Bool.not_true,Bool.false_and,Bool.false_eq_true,if_false,zD] at e;cases hw:g1.wr <;> (rw [hw] at e;simp at e)
         · simp only [zgv,hcl,hi,Bool.not_true,Bool.false_and,Bool.false_eq_true,if_false,zD] at e;cases hw:g1.wr with
           | none=>rw [hw] at e;simp at e
           | some l2=>rw [hw] at e;simp at e;rw [e]
         · exfalso;simp only [zgv,hcl,hi,Bool.not_true,Bool.false_and,Bool.false_eq_true,if_false,zD] at e;cases hw:g1.wr <;> (rw [hw] at e;simp at e)
       | false =>
         have hi':inl g=false:=by rw [<- hΓ.inlE];exact hi
         have h0:=h;unfold callGS at h;rw [hcl,hi] at h;simp only [Bool.false_eq_true,if_false] at h;split at h
         · rename_i sp hsp;split at h
           · rename_i a hd;obtain ⟨hh,o1,o2⟩:=hΓ.sp _ _ hsp;cases hsa:sp.h a with
             | none=>rw [hsa] at h;cases h
             | some y =>
               rw [hsa] at h;have h':k (resV sp.res y) (freezeS SH ((first++al++cap).flatMap (z0v SH 5))) ((⟨cx,some []⟩:Gh).log ((first++al++cap).flatMap (z0v SH 5)))=some r:=h;have e1:=zky (d:=3) hr sp.params hd hall;have e2:=zl0 (d:=3) hr sp.params hd hall;obtain ⟨f1,f2,f3,f4⟩:=zem e2 hr;have hext:Ext E HA (some []) E (freezeS SH ((first++al++cap).flatMap (z0v SH 5))) (z02 HA ((first'++args.toList.map (opd t')++cap').flatMap (zq HA 5))) ((⟨cx,some []⟩:Gh).log ((first++al++cap).flatMap (z0v SH 5))).wr:=by
                refine ⟨.refl E,f1,fun d e=>?_,by rw [f2];exact Nat.le_refl _,f4,(fun s e p h1 h2=>.inl ⟨s,e,h1,h2⟩),fun _ h=>h⟩;simp only [Gh.log,Option.map_eq_some_iff] at e;obtain ⟨d0,e0,rfl⟩:=e;exact ⟨d0,e0,fun x hx=>List.mem_append_right _ hx,(fun s e p h1 h2=>⟨e,h1,h2⟩),fun s p es hs ha hn=>⟨⟨es,hs,ha⟩,f3 s _ p hs (EI.alAt_pos ha) fun hx=>hn (List.mem_append_left _ hx)⟩⟩
               have hwr:((⟨cx,some []⟩:Gh).log ((first++al++cap).flatMap (z0v SH 5))).wr=some ((first++al++cap).flatMap (z0v SH 5)):=by simp [Gh.log]
               have heffI:((first++al++cap).all immS=true->zgv Γ SH (.fn g first cap) al ((⟨cx,some []⟩:Gh).log ((first++al++cap).flatMap (z0v SH 5))).wr=.nothing):=by
                intro hx;simp only [zgv,hcl,hi,hx];rfl
               have heffN:((first++al++cap).all immS=false->zgv Γ SH (.fn g first cap) al ((⟨cx,some []⟩:Gh).log ((first++al++cap).flatMap (z0v SH 5))).wr=cond (((first++al++cap).flatMap (z0v SH 5)).all (plainS SH)) (.frz ((first++al++cap).flatMap (z0v SH 5))) (.some ((first++al++cap).flatMap (z0v SH 5)))):=by
                intro hx;simp only [zgv,hcl,hi,hx,hwr];rfl
               cases hn:zed (first'++args.toList.map (opd t')++cap') with
               | some w =>
                 obtain ⟨w1,w2⟩:=zwa (d:=3) hr sp.params hd hall w hn;subst w1;have hfz:z02 HA ((first'++args.toList.map (opd t')++cap').flatMap (zq HA 5))=HA:=by
                  show z02 HA ((first'++args.toList.map (opd t')++cap').flatMap (zq HA (3+2)))=HA;rw [w2];rfl
                 rw [hfz] at hext;refine ⟨0,_,encRes sp.res y,.nothing,_,HA,E,_,?_,rfl,hext,zt0 _ _,h',.inl rfl,fun e=>?_,fun l e=>?_,fun e=>?_,hone _⟩
                 · rw [hev];simp only [hi',hp,Option.isSome_none,Bool.or_false,Bool.false_eq_true,if_false,hn,z0y,o1,o2 _ _ hsa,Option.map_some]
                 · cases hx:(first++al++cap).all immS with
                   | true=>rw [heffI hx] at e;cases e
                   | false=>rw [heffN hx] at e;revert e;cases ((first++al++cap).flatMap (z0v SH 5)).all (plainS SH) <;> simp
                 · cases hx:(first++al++cap).all immS with
                   | true=>rw [heffI hx] at e;simp at e
                   | false=>rw [heffN hx] at e;rw [hwr];revert e;cases ((first++al++cap).flatMap (z0v SH 5)).all (plainS SH) <;> simp
                 · cases hx:(first++al++cap).all immS with
                   | true =>
                     rw [hwr];congr 1
                     have imm1:∀ (d:Nat) (x:SV),immS1 x=true->z0v SH (d+1) x=[]:=by
                      intro d x hx;cases x <;> first | rfl | cases hx
                     have immr:∀ x,immS x=true->z0v SH 5 x=[]:=by
                      intro x hx;cases x with
                      | agg l =>
                        show l.flatMap (z0v SH 4)=[];simp only [immS,List.all_eq_true] at hx;rw [List.flatMap_eq_nil_iff];exact fun z hz=>imm1 3 z (hx z hz)
                      | _=>exact imm1 4 _ hx
                     rw [List.flatMap_eq_nil_iff];simp only [List.all_eq_true] at hx;exact fun z hz=>immr z (hx z hz)
                   | false=>rw [heffN hx] at e;revert e;cases ((first++al++cap).flatMap (z0v SH 5)).all (plainS SH) <;> simp
               | none =>
                 have hni:(first++al++cap).all immS=false:=by
                  cases hx:(first++al++cap).all immS with
                  | false=>rfl
                  | true=>obtain ⟨w,h1⟩:=zoe hall hx;rw [hn] at h1;cases h1
                 refine ⟨0,_,encRes sp.res y,.frz ((first'++args.toList.map (opd t')++cap').flatMap (zq HA 5)),_,_,E,_,?_,rfl,hext,zt0 _ _,h',.inr (.inr ⟨(first++al++cap).flatMap (z0v SH 5),_,rfl,e2,?_⟩),fun e=>?_,fun l e=>?_,fun e=>?_,hone _⟩
                 · rw [hev];simp only [hi',hp,Option.isSome_none,Bool.or_false,Bool.false_eq_true,if_false,hn,depth];rw [e1];simp only [z0y,o1,o2 _ _ hsa,Option.map_some]
                 · rw [heffN hni];cases hx:((first++al++cap).flatMap (z0v SH 5)).all (plainS SH) with
                   | true=>exact .inr ⟨rfl,rfl⟩
                   | false=>exact .inl rfl
                 · rw [heffN hni] at e;revert e;cases ((first++al++cap).flatMap (z0v SH 5)).all (plainS SH) <;> simp
                 · rw [heffN hni] at e;rw [hwr];revert e;cases ((first++al++cap).flatMap (z0v SH 5)).all (plainS SH) <;> simp
                 · rw [heffN hni] at e;revert e;cases ((first++al++cap).flatMap (z0v SH 5)).all (plainS SH) <;> simp
           · cases h
         · cases h
 · rename_i l;have hf':=hf;obtain ⟨m,p,v,v',H1,H1',E1,g1,hfa,k1,k2,k3,k4⟩:=zlu hrs hr hf' ha h;refine ⟨m,v,v',.all H1',H1,H1',E1,g1,?_,rfl,k2,k3,k4,.inr (.inl ⟨rfl,?_⟩),fun e=>?_,fun l e=>?_,fun e=>?_,hone _⟩
   · unfold z7j;simp only [hop,hfa,k1,Option.map_some]
   · simp only [zgv];split <;> simp
   · simp only [zgv] at e;split at e <;> simp at e
   · simp only [zgv] at e;cases hw:g1.wr with
     | none=>rw [hw] at e;simp at e
     | some l2=>rw [hw] at e;simp at e;rw [e]
   · simp only [zgv] at e;split at e <;> simp at e
 · cases h
end
end Clk
namespace Clk
open Go
section
variable {P:Program} {Γ:Ctx} {inl:FuncId->Bool} {orc:FuncId->Option (List AV->Option AV)} {prim:FuncId->Option (Nat->List AV->List AO->Res)} {R:Type}
theorem Unch.trans {E E1 E2:Emb} {HA HA1 HA2:List AO} {w w1 w2:Option (List Nat)} (h:Unch E E1 HA HA1 w w1) (g:Unch E1 E2 HA1 HA2 w1 w2):Unch E E2 HA HA2 w w2:=by
 intro d e;obtain ⟨d1,e1,s1,y1,u1⟩:=g d e;obtain ⟨d0,e0,s0,y0,u0⟩:=h d1 e1;refine ⟨d0,e0,fun x hx=>s1 x (s0 x hx),(fun s e p h1 h2=>by obtain ⟨e',k1,k2⟩:=y0 s e p h1 h2;exact y1 s e' p k1 k2),fun s p es hs ha hn=>?_⟩;obtain ⟨⟨e1,k1,k1'⟩,k2⟩:=u1 s p es hs ha hn;obtain ⟨k3,k4⟩:=u0 s p e1 k1 k1' (fun hx=>hn (s1 s hx));exact ⟨k3,k2.trans k4⟩
theorem DI.call {E0:Emb} {SH0:List SO} {HA0:List AO} {n:Nat} {E E1:Emb} {SH H1:List SO} {HA H1':List AO} {acc:List SStep} {accA:List DStep} (hr0:HR E0 SH0 HA0) (hd:DI E0 SH0 HA0 n E SH HA acc accA) (hlt:acc.length<n) {w1:Option (List Nat)} (hx:Ext E HA (some []) E1 H1 H1' w1)
 {dst:Option Tmp} {ef:SEff} {v':AV} {ch:Eff} (hch:ch=.nothing \/ (ch=.all H1' /\ ef≠.nothing /\ ∀ l,ef≠.frz l) \/ ∃ l l',ch=.frz l' /\ FR E l l' /\ (ef=.some l \/ (ef=.frz l /\ l.all (plainS SH)=true))) (hgr:ef=.grow->w1=some [SH.length]) (hso:∀ l,(ef=.some l \/ ef=.frz l)->w1=some l) (hno:ef=.nothing->w1=some []) (hone:∀ i,ef≠.one i) :
 DI E0 SH0 HA0 n E1 H1 H1' (acc++[⟨dst,ef,[]⟩]) (accA++[⟨dst,v',ch,[],HA⟩]):=by
 have hlS:SH0.length+n<=SH.length:=by
  by_cases h0:n=0
  · omega
  · have:=(hd.sl (n - 1) (by omega) (by omega)).1;omega
 have hwr:ef≠.all->∃ l,w1=some l:=by
  intro h;cases ef with
  | nothing=>exact ⟨_,hno rfl⟩
  | one i=>exact absurd rfl (hone i)
  | grow=>exact ⟨_,hgr rfl⟩
  | some l=>exact ⟨_,hso l (.inl rfl)⟩
  | frz l=>exact ⟨_,hso l (.inr rfl)⟩
  | all=>exact absurd rfl h
 refine hd.add hx.le (fun h=>?_) hx.hr ⟨rfl,(fun q hq=>by simp at hq),(fun h=>?_),(fun q o e=>?_),(fun l' e=>?_),(fun H' e=>?_)⟩ (fun j h1 h2=>?_) (fun s e p h1 h2=>?_) (fun i p e h1 h2 h3 ha=>?_) hx.grow hx.kd (fun s _ h=>hx.nn s h)
 · obtain ⟨l,hl⟩:=hwr h;obtain ⟨d0,e0,s0,y0,u0⟩:=hx.un l hl;exact y0
 · rcases hch with h1 | ⟨_,h1,_⟩ | ⟨l,l',_,_,h1 | ⟨h1,_⟩⟩
   · exact h1
   · exact absurd h h1
   · change ef=_ at h;rw [h] at h1;cases h1
   · change ef=_ at h;rw [h] at h1;cases h1
 · rcases hch with h1 | ⟨h1,_⟩ | ⟨l,l',h1,_⟩ <;> (rw [h1] at e;cases e)
 · rcases hch with h1 | ⟨h1,_⟩ | ⟨l,l2,h1,h2,h3⟩
   · rw [h1] at e;cases e
   · rw [h1] at e;cases e
   · rw [h1] at e;cases e;refine ⟨l,?_⟩;rcases h3 with h3 | ⟨h3,h4⟩
     · refine .inl ⟨h3,fun hna i q off cur len hE hil hq=>?_⟩;obtain ⟨e',m1,m2⟩:=hd.stay (fun x hx=>hna x (List.mem_append_left _ hx)) i _ q hE rfl;obtain ⟨s,m3,e2,m4,m5⟩:=h2.at q hq;exact hil (hd.hr.inj s i e2 e' q m4 m1 m5 (EI.pos_at m2)▸m3)
     · refine .inr ⟨h3,fun hna q hq=>?_⟩;obtain ⟨s,m3,e2,m4,m5⟩:=h2.flat hd.hr h4 q hq;obtain ⟨l3,hl⟩:=hwr (by rw [h3];simp);obtain ⟨d0,e0,s0,y0,u0⟩:=hx.un l3 hl;exact ⟨s,m3,y0 s e2 q m4 m5⟩
 · rcases hch with h1 | ⟨h1,h1a,h1b⟩ | ⟨l,l2,h1,_⟩
   · rw [h1] at e;cases e
   rotate_left
   · rw [h1] at e;cases e
   · rw [h1] at e;cases e;refine ⟨Nat.le_trans hd.gl hx.grow,⟨hone,h1b⟩,fun hna i q off cur len k1 k2 k3 k4=>?_⟩;have hraw:isBlk (HA0.getD q .none):=by
      unfold isRawS at k1;split at k1
      · rename_i kk lv rows hs;obtain ⟨p2,len2,rows',g1,g2,g3,g4⟩:=hr0.raw hs;rw [k2] at g1;cases g1;exact ⟨_,_,_,_,g3⟩
      · cases k1
     have hb:=hd.kd q hraw;refine ⟨?_,hb⟩;obtain ⟨l,hl⟩:=hwr k4;obtain ⟨d0,e0,s0,y0,u0⟩:=hx.un l hl;obtain ⟨e',m1,m2⟩:=hd.stay (fun x hx=>hna x (List.mem_append_left _ hx)) i _ q k2 rfl;have hil:i<SH0.length:=by
      have:=(zG.1 k2).1;rw [hr0.len] at this;exact this
     have hni:i∉l:=by
      cases ef with
      | nothing=>rw [hno rfl] at hl;cases hl;simp
      | one i=>exact absurd rfl (hone i)
      | grow=>rw [hgr rfl] at hl;cases hl;simp;omega
      | some l2=>rw [hso l2 (.inl rfl)] at hl;cases hl;exact k3 _ rfl
      | frz l2=>exact absurd rfl (h1b l2)
      | all=>exact absurd rfl k4
     have hE1:∃ e1:EI,E1[i]?=some e1 /\ e1.alAt q:=by
      obtain ⟨e3,z1,z2⟩:=y0 i e' q m1 m2;obtain ⟨e4,z3,z4⟩:=(hd.le.trans hx.le) i _ k2;rw [z1] at z3;cases z3;cases z4 with
      | al _ _=>exact ⟨_,z1,rfl⟩
      | ao _ _=>exact ⟨_,z1,rfl⟩
      | gone _=>cases z2
     obtain ⟨e1,hE1,hE1'⟩:=hE1;exact (u0 i q e1 hE1 hE1' hni).2
 · have:=hd.sl j (by omega) h2;refine ⟨?_,hx.nn _ this.2.1⟩;have h3:=hx.le.len;rw [hx.hr.len,hd.hr.len] at h3;omega
 · rcases hx.nw s e p h1 h2 with h3 | h3
   · exact .inl h3
   · exact .inr (.inr (Nat.le_trans hd.gl h3))
 · left;cases hw:w1 with
   | none =>
     exfalso;cases ef with
     | nothing=>rw [hno rfl] at hw;cases hw
     | one i=>exact hone i rfl
     | grow=>rw [hgr rfl] at hw;cases hw
     | some l=>rw [hso l (.inl rfl)] at hw;cases hw
     | frz l=>rw [hso l (.inr rfl)] at hw;cases hw
     | all=>cases h2
   | some l =>
     obtain ⟨d0,e0,s0,y0,u0⟩:=hx.un l hw;refine (u0 i p e h3 ha ?_).1;cases ef with
     | nothing=>rw [hno rfl] at hw;cases hw;simp
     | one i=>exact absurd rfl (hone i)
     | grow=>rw [hgr rfl] at hw;cases hw;simp;omega
     | some l2 =>
       rw [hso l2 (.inl rfl)] at hw;cases hw;simpa [clearOf] using h2
     | frz l2 =>
       rw [hso l2 (.inr rfl)] at hw;cases hw;simpa [clearOf] using h2
     | all=>cases h2
theorem z95 (hΓ:CtxAll P Γ inl orc prim) {rs:SRun R} (hrs:SRunOk P inl orc prim rs) {ops:Array Oper} {n:Nat} {E0:Emb} {SH0:List SO} {HA0:List AO} (hr0:HR E0 SH0 HA0) :
 ∀ (L:List Oper) {E:Emb} {SH:List SO} {HA:List AO} {acc:List SStep} {accA:List DStep} {t:List SV} {t':List AV} {g:Gh} {w0:Option (List Nat)} {k:List SV->List SO->List SStep->Gh->Option R} {r:R},
 acc.length+L.length=n->DI E0 SH0 HA0 n E SH HA acc accA->RL E t t'->Unch E0 E HA0 HA w0 g.wr->drawS Γ rs ops SH0.length L t SH acc g k=some r ->
 ∃ m t1 t1' H1 H1' acc1 accA1 E1 g1,z1u P inl orc prim (run P inl orc prim m) ops HA0.length L t' HA accA=some (t1',H1',accA1) /\ DI E0 SH0 HA0 n E1 H1 H1' acc1 accA1 /\ acc1.length=n /\ RL E1 t1 t1' /\ Unch E0 E1 HA0 H1' w0 g1.wr /\ k t1 H1 acc1 g1=some r
 | [],E,SH,HA,acc,accA,t,t',g,w0,k,r,hn,hd,ht,hu,h=>⟨0,t,t',SH,HA,acc,accA,E,g,rfl,hd,by simpa using hn,ht,hu,h⟩
 | o::rest,E,SH,HA,acc,accA,t,t',g,w0,k,r,hn,hd,ht,hu,h=>by
   have hput:∀ {E':Emb} {t:List SV} {v:SV} {v':AV},RL E' t t'->Clk.R E' v v'->RL E' (putS t o.dst v) (zir t' o.dst v'):=by
    intro E' t v v' h1 h2;cases hd:o.dst with
    | none=>exact h1
    | some d=>exact h1.set d h2
   have hlt:acc.length<n:=by simp at hn;omega
   have hn':∀ s:SStep,(acc++[s]).length+rest.length=n:=by intro s;simp at hn ⊢;omega
   have step:∀ (t:List SV),RL E t t'->z4t ops t' o=some true ->
    (match o.op with
      | .call { callee:=.value f,args,argTypes }=>callVS Γ rs (z10 Γ 0 t f) (zipO t (fun a ty=>z10 Γ ty t a) args.toList argTypes.toList) SH SH.length ⟨g.cx,some []⟩ fun v H' g' =>
         drawS Γ rs ops SH0.length rest (putS t o.dst v) H' (acc++[⟨o.dst,zgv Γ SH (z10 Γ 0 t f) (zipO t (fun a ty=>z10 Γ ty t a) args.toList argTypes.toList) g'.wr,[]⟩]) ⟨g'.cx,match g.wr,g'.wr with | some a,some b=>some (b++a) | _,_=>none⟩ k
      | .pick c a b=>match z10 Γ 0 t c with
        | .bool x=>cond x (drawS Γ rs ops SH0.length rest (putS (setBS t c true) o.dst (z10 Γ o.type t a)) SH (acc++[⟨o.dst,.nothing,[]⟩]) g k) (drawS Γ rs ops SH0.length rest (putS (setBS t c false) o.dst (z10 Γ o.type t b)) SH (acc++[⟨o.dst,.nothing,[]⟩]) g k)
        | _=>none
      | _=>match evalS Γ t SH (SH0.length+acc.length) o,readsS Γ t SH o with
        | some (as,v,ch),some rd=>z3t as (drawS Γ rs ops SH0.length rest (putS t o.dst v) (z3o SH ch) (acc++[⟨o.dst,effOfS ch,rd⟩]) (g.log (chIds ch)) k)
        | _,_=>none)=some r ->
    ∃ m t1 t1' H1 H1' acc1 accA1 E1 g1,z1u P inl orc prim (run P inl orc prim m) ops HA0.length (o::rest) t' HA accA=some (t1',H1',accA1) /\ DI E0 SH0 HA0 n E1 H1 H1' acc1 accA1 /\ acc1.length=n /\ RL E1 t1 t1' /\ Unch E0 E1 HA0 H1' w0 g1.wr /\ k t1 H1 acc1 g1=some r:=by
    intro t ht hw h;split at h
    · rename_i f args tys hop;obtain ⟨m,v,v',ch,H1,H1',E1,g1,k1,k2,k3,k4,k5,k6,k7,k8,k9,k10⟩:=zzl (slot:=HA0.length+accA.length) hΓ hrs hd.hr ht hop h;have hrd:readsOf t' o=[]:=by unfold readsOf;rw [hop]
      have hd':=hd.call (dst:=o.dst) (v':=v') hr0 hlt k3 k6 k7 k8 k9 k10;have hu':Unch E E1 HA H1' g.wr (match g.wr,g1.wr with | some a,some b=>some (b++a) | _,_=>none):=by
       intro d e;cases ha:g.wr with
       | none=>rw [ha] at e;simp at e
       | some a =>
         cases hb:g1.wr with
         | none=>rw [ha,hb] at e;simp at e
         | some b =>
           rw [ha,hb] at e;simp only [Option.some.injEq] at e;subst e;obtain ⟨d0,e0,s0,y0,u0⟩:=k3.un b hb;exact ⟨a,rfl,fun x hx=>List.mem_append_right _ hx,y0,fun s p es hs ha hn=>u0 s p es hs ha fun hx=>hn (List.mem_append_left _ hx)⟩
      obtain ⟨m2,t1,t1',H2,H2',ac,acA,E2,g2,q1,q2,q3,q4,q5,q6⟩:=z95 hΓ hrs hr0 rest (hn' _) hd' (hput (ht.mono k3.le) k4) (hu.trans hu') k5;refine ⟨max m m2,t1,t1',H2,H2',ac,acA,E2,g2,?_,q2,q3,q4,q5,q6⟩;rw [z1u,hw];simp only;rw [z01b (zac (Nat.le_max_left m m2)) k1];simp only;rw [k2,hrd];exact zj1 (zac (Nat.le_max_right m m2)) _ _ _ _ _ q1
    · rename_i c a b hop;split at h
      · rename_i x hx;have hc:=z00 (E:=E) Γ ht 0 c;rw [hx] at hc;have hb:opd t' c=.bool x:=by generalize opd t' c=y at hc;cases hc;rfl
        have hrd:readsOf t' o=[]:=by unfold readsOf;rw [hop]
        have go:∀ (z:Bool) (y:Operand),opd t' c=.bool z->z0a P t' HA (HA0.length+accA.length) o=some (opd t' y,none) ->
         drawS Γ rs ops SH0.length rest (putS (setBS t c z) o.dst (z10 Γ o.type t y)) SH (acc++[⟨o.dst,.nothing,[]⟩]) g k=some r ->
         ∃ m t1 t1' H1 H1' acc1 accA1 E1 g1,z1u P inl orc prim (run P inl orc prim m) ops HA0.length (o::rest) t' HA accA=some (t1',H1',accA1) /\ DI E0 SH0 HA0 n E1 H1 H1' acc1 accA1 /\ acc1.length=n /\ RL E1 t1 t1' /\ Unch E0 E1 HA0 H1' w0 g1.wr /\ k t1 H1 acc1 g1=some r:=by
         intro z y hz he h;have hd':=hd.skip (s:=⟨o.dst,.nothing,[]⟩) (d:=⟨o.dst,opd t' y,.nothing,[],HA⟩) rfl rfl rfl;obtain ⟨m2,t1,t1',H2,H2',ac,acA,E2,g2,q1,q2,q3,q4,q5,q6⟩:=z95 hΓ hrs hr0 rest (hn' _) hd' (hput (z94 ht hz) (z00 Γ ht o.type y)) hu h;refine ⟨m2,t1,t1',H2,H2',ac,acA,E2,g2,?_,q2,q3,q4,q5,q6⟩;rw [z1u,hw];simp only;have:z7j P inl orc prim (run P inl orc prim m2) t' HA (HA0.length+accA.length) o=some (opd t' y,.nothing):=by
          unfold z7j;rw [hop];simp only;rw [he];rfl
         rw [this];simp only;rw [hrd];exact q1
        cases x with
        | true=>exact go true a hb (by simp only [z0a,hop,hb]) h
        | false=>exact go false b hb (by simp only [z0a,hop,hb]) h
      · cases h
    · rename_i hnc hnp;split at h
      · rename_i as v ch rd he hrd;obtain ⟨has,hk⟩:=z26 h;obtain ⟨v',ch',E',k1,k2,k3,k4,k5⟩:=hd.oper hΓ.toCtxOk hlt ht he hrd has g;obtain ⟨m2,t1,t1',H2,H2',ac,acA,E2,g3,q1,q2,q3,q4,q5,q6⟩:=z95 hΓ hrs hr0 rest (hn' _) k2 (hput (ht.mono k4) k3) (hu.trans k5) hk;refine ⟨m2,t1,t1',H2,H2',ac,acA,E2,g3,?_,q2,q3,q4,q5,q6⟩;rw [z1u,hw];simp only;have:z7j P inl orc prim (run P inl orc prim m2) t' HA (HA0.length+accA.length) o=some (v',effOf ch'):=by
         unfold z7j;split
         · rename_i f args tys hop;exact absurd hop (hnc _ _ _)
         · rw [k1];rfl
        rw [this];exact q1
      · cases h
   have skip:∀ (t:List SV),RL E t t'->z4t ops t' o=some false->drawS Γ rs ops SH0.length rest (putS t o.dst (.tup [])) SH (acc++[⟨o.dst,.nothing,[]⟩]) g k=some r ->
    ∃ m t1 t1' H1 H1' acc1 accA1 E1 g1,z1u P inl orc prim (run P inl orc prim m) ops HA0.length (o::rest) t' HA accA=some (t1',H1',accA1) /\ DI E0 SH0 HA0 n E1 H1 H1' acc1 accA1 /\ acc1.length=n /\ RL E1 t1 t1' /\ Unch E0 E1 HA0 H1' w0 g1.wr /\ k t1 H1 acc1 g1=some r:=by
    intro t ht hw h;have hd':=hd.skip (s:=⟨o.dst,.nothing,[]⟩) (d:=⟨o.dst,.tup [],.nothing,[],[]⟩) rfl rfl rfl;obtain ⟨m2,t1,t1',H2,H2',ac,acA,E2,g2,q1,q2,q3,q4,q5,q6⟩:=z95 hΓ hrs hr0 rest (hn' _) hd' (hput ht (.tup' .nil)) hu h;exact ⟨m2,t1,t1',H2,H2',ac,acA,E2,g2,by rw [z1u,hw];exact q1,q2,q3,q4,q5,q6⟩
   simp only [drawS] at h;split at h
   · rename_i hg;exact step t ht (by simp only [z4t,hg]) h
   · rename_i j want hg;split at h
     · rename_i d hd;split at h
       · rename_i b hb;obtain ⟨a,ha,hra⟩:=ht.get hb;cases hra;have hT:=ht.setB ha (.bool b);have hw:z4t ops t' o=some (b==want):=by simp only [z4t,hg,hd,ha]
         cases b with
         | true =>
           cases want with
           | true=>exact step _ hT hw h
           | false=>exact skip _ hT hw h
         | false =>
           cases want with
           | true=>exact skip _ hT hw h
           | false=>exact step _ hT hw h
       · rename_i hb;obtain ⟨a,ha,hra⟩:=ht.get hb;have:a=.tup []:=by cases hra with | tup g1 g2=>rw [RL.nil_inv (E:=E) ⟨g1,g2⟩]
         subst this;exact skip t ht (by simp only [z4t,hg,hd,ha]) h
       · cases h
     · cases h
end
end Clk
namespace Clk
open Go
def stepP (acc:List (List Nat)) (o:Oper):List Nat:=o.after.toList.foldl (fun l e=>if Region.binds .any e then (e.on::(acc.getD e.on []))++l else l) []
def stepB (acc:List Nat) (o:Oper):Nat:=o.after.toList.foldl (fun m e=>if Region.binds .any e then Nat.lor (Nat.lor m (Nat.shiftLeft 1 e.on)) (acc.getD e.on 0) else m) 0
theorem zja {α β:Type} (f:List β->α->β):∀ (l:List α) (a:List β),(l.foldl (fun acc o=>acc++[f acc o]) a).length=a.length+l.length /\ ∀ j:Nat,j<a.length->(l.foldl (fun acc o=>acc++[f acc o]) a)[j]?=a[j]?
 | [],a=>⟨rfl,fun _ _=>rfl⟩
 | o::l,a=>by
   obtain ⟨h1,h2⟩:=zja f l (a++[f a o]);refine ⟨by simp only [List.foldl_cons,h1,List.length_append,List.length_cons,List.length_nil];omega,fun j hj=>?_⟩;simp only [List.foldl_cons];rw [h2 j (by simp;omega),List.getElem?_append_left hj]
theorem zzm {α β:Type} (f:List β->α->β):∀ (l:List α) (a:List β) (i:Nat) (o:α),l[i]?=some o->∃ pre:List β,pre.length=a.length+i /\ (∀ j:Nat,j<pre.length->(l.foldl (fun acc o=>acc++[f acc o]) a)[j]?=pre[j]?) /\ (l.foldl (fun acc o=>acc++[f acc o]) a)[a.length+i]?=some (f pre o)
 | [],a,i,o,h=>by simp at h
 | x::l,a,0,o,h=>by
   simp at h;subst h;obtain ⟨h1,h2⟩:=zja f l (a++[f a x]);refine ⟨a,rfl,fun j hj=>?_,?_⟩
   · simp only [List.foldl_cons];rw [h2 j (by simp;omega),List.getElem?_append_left hj]
   · simp only [List.foldl_cons,Nat.add_zero];rw [h2 _ (by simp),List.getElem?_append_right (Nat.le_refl _)];simp
 | x::l,a,i+1,o,h=>by
   simp at h;obtain ⟨pre,h1,h2,h3⟩:=zzm f l (a++[f a x]) i o h;simp only [List.length_append,List.length_cons,List.length_nil] at h1 h3;refine ⟨pre,by omega,h2,?_⟩;rw [show a.length+(i+1)=a.length+(0+1)+i by omega];exact h3
theorem z08m (L:List Oper) {i:Nat} {o:Oper} (h:L[i]?=some o):∃ pre:List (List Nat),pre.length=i /\ (∀ j,j<i->(preds L).getD j []=pre.getD j []) /\ (preds L).getD i []=stepP pre o:=by
 obtain ⟨pre,h1,h2,h3⟩:=zzm stepP L [] i o h;simp only [List.length_nil,Nat.zero_add] at h1 h3;refine ⟨pre,h1,fun j hj=>?_,?_⟩
 · show (L.foldl (fun acc o=>acc++[stepP acc o]) []).getD j []=_;rw [zI,h2 j (by omega),<- zI]
 · show (L.foldl (fun acc o=>acc++[stepP acc o]) []).getD i []=_;rw [zI,h3];rfl
theorem z067 (L:List Oper) {i:Nat} {o:Oper} (h:L[i]?=some o):∃ pre:List Nat,pre.length=i /\ (∀ j,j<i->(predsB L).getD j 0=pre.getD j 0) /\ (predsB L).getD i 0=stepB pre o:=by
 obtain ⟨pre,h1,h2,h3⟩:=zzm stepB L [] i o h;simp only [List.length_nil,Nat.zero_add] at h1 h3;refine ⟨pre,h1,fun j hj=>?_,?_⟩
 · show (L.foldl (fun acc o=>acc++[stepB acc o]) []).getD j 0=_;rw [zI,h2 j (by omega),<- zI]
 · show (L.foldl (fun acc o=>acc++[stepB acc o]) []).getD i 0=_;rw [zI,h3];rfl
theorem z068 {α:Type} {a:α} {l:List α} {p:α->Prop}:(∃ e∈a::l,p e)↔p a \/ ∃ e∈l,p e:=by
 constructor
 · rintro ⟨e,he,hp⟩
   rcases List.mem_cons.1 he with rfl | he
   · exact .inl hp
   · exact .inr ⟨e,he,hp⟩
 · rintro (hp | ⟨e,he,hp⟩)
   · exact ⟨a,List.mem_cons_self,hp⟩
   · exact ⟨e,List.mem_cons_of_mem _ he,hp⟩
theorem z069 (acc:List (List Nat)) (o:Oper) (x:Nat):x∈stepP acc o↔∃ e∈o.after.toList,Region.binds .any e=true /\ (x=e.on \/ x∈acc.getD e.on []):=by
 unfold stepP;have:∀ (es:List Edge) (l:List Nat),x∈es.foldl (fun l e=>if Region.binds .any e then (e.on::(acc.getD e.on []))++l else l) l↔x∈l \/ ∃ e∈es,Region.binds .any e=true /\ (x=e.on \/ x∈acc.getD e.on []):=by
  intro es;induction es with
  | nil=>intro l;simp
  | cons e es ih =>
    intro l;simp only [List.foldl_cons];rw [ih,z068];cases hb:Region.binds .any e with
    | true =>
      simp only [if_true,List.mem_append,List.mem_cons,true_and];constructor
      · rintro ((h | h) | h)
        · exact .inr (.inl h)
        · exact .inl h
        · exact .inr (.inr h)
      · rintro (h | h | h)
        · exact .inl (.inr h)
        · exact .inl (.inl h)
        · exact .inr h
    | false=>simp [hb]
 rw [this];simp
theorem z06a (acc:List Nat) (o:Oper) (x:Nat):(stepB acc o).testBit x=true↔∃ e∈o.after.toList,Region.binds .any e=true /\ (x=e.on \/ (acc.getD e.on 0).testBit x=true):=by
 unfold stepB;have:∀ (es:List Edge) (m:Nat),(es.foldl (fun m e=>if Region.binds .any e then Nat.lor (Nat.lor m (Nat.shiftLeft 1 e.on)) (acc.getD e.on 0) else m) m).testBit x=true↔m.testBit x=true \/ ∃ e∈es,Region.binds .any e=true /\ (x=e.on \/ (acc.getD e.on 0).testBit x=true):=by
  intro es;induction es with
  | nil=>intro m;simp
  | cons e es ih =>
    intro m;simp only [List.foldl_cons];rw [ih,z068];cases hb:Region.binds .any e with
    | true =>
      have e1:∀ a b:Nat,Nat.lor a b=a ||| b:=fun _ _=>rfl
      have e2:∀ k:Nat,Nat.shiftLeft 1 k=1 <<< k:=fun _=>rfl
      simp only [if_true,e1,e2,Nat.testBit_or,Bool.or_eq_true,Nat.one_shiftLeft,Nat.testBit_two_pow,decide_eq_true_eq,true_and];constructor
      · rintro (((h | h) | h) | h)
        · exact .inl h
        · exact .inr (.inl (.inl h.symm))
        · exact .inr (.inl (.inr h))
        · exact .inr (.inr h)
      · rintro (h | (h | h) | h)
        · exact .inl (.inl (.inl h))
        · exact .inl (.inl (.inr h.symm))
        · exact .inl (.inr h)
        · exact .inr h
    | false=>simp [hb]
 rw [this];simp
def Ordered (L:List Oper):Prop:=∀ (i:Nat) (o:Oper),L[i]?=some o->∀ e∈o.after.toList,Region.binds .any e=true->e.on<i
theorem z96 {L:List Oper} (hO:Ordered L) {i:Nat} {o:Oper} (h:L[i]?=some o) (x:Nat):x∈(preds L).getD i []↔∃ e∈o.after.toList,Region.binds .any e=true /\ (x=e.on \/ x∈(preds L).getD e.on []):=by
 obtain ⟨pre,h1,h2,h3⟩:=z08m L h;rw [h3,z069];constructor
 · rintro ⟨e,he,hb,hx⟩
   exact ⟨e,he,hb,hx.imp id fun hx=>by rw [h2 _ (hO i o h e he hb)];exact hx⟩
 · rintro ⟨e,he,hb,hx⟩
   exact ⟨e,he,hb,hx.imp id fun hx=>by rw [<- h2 _ (hO i o h e he hb)];exact hx⟩
theorem z08n {L:List Oper} (hO:Ordered L):∀ (i x:Nat),x∈(preds L).getD i []->x<i:=by
 intro i;induction i using Nat.strongRecOn with
 | _ i ih =>
   intro x hx;cases ho:L[i]? with
   | none =>
     have h0:=(zja stepP L []).1;simp only [List.length_nil,Nat.zero_add] at h0;have:(preds L).getD i []=[]:=by
      show (L.foldl (fun acc o=>acc++[stepP acc o]) []).getD i []=_;rw [zI,List.getElem?_eq_none (by rw [h0];exact List.getElem?_eq_none_iff.1 ho)];rfl
     rw [this] at hx;cases hx
   | some o =>
     obtain ⟨e,he,hb,h⟩:=(z96 hO ho x).1 hx;have:=hO i o ho e he hb;rcases h with rfl | h
     · exact this
     · have:=ih e.on this x h;omega
theorem zzn {L:List Oper} (hO:Ordered L):∀ (i x y:Nat),x∈(preds L).getD i []->y∈(preds L).getD x []->y∈(preds L).getD i []:=by
 intro i;induction i using Nat.strongRecOn with
 | _ i ih =>
   intro x y hx hy;cases ho:L[i]? with
   | none =>
     have h0:=(zja stepP L []).1;simp only [List.length_nil,Nat.zero_add] at h0;have:(preds L).getD i []=[]:=by
      show (L.foldl (fun acc o=>acc++[stepP acc o]) []).getD i []=_;rw [zI,List.getElem?_eq_none (by rw [h0];exact List.getElem?_eq_none_iff.1 ho)];rfl
     rw [this] at hx;cases hx
   | some o =>
     obtain ⟨e,he,hb,h⟩:=(z96 hO ho x).1 hx;have hlt:=hO i o ho e he hb;rcases h with rfl | h
     · exact (z96 hO ho y).2 ⟨e,he,hb,.inr hy⟩
     · exact (z96 hO ho y).2 ⟨e,he,hb,.inr (ih e.on hlt x y h hy)⟩
theorem z03t {L:List Oper} (hO:Ordered L):∀ (i x:Nat),i<L.length->(((predsB L).getD i 0).testBit x=true↔x∈(preds L).getD i []):=by
 intro i;induction i using Nat.strongRecOn with
 | _ i ih =>
   intro x hi;have ho:L[i]?=some L[i]:=zH hi;obtain ⟨pre,h1,h2,h3⟩:=z067 L ho;rw [h3,z06a,z96 hO ho];constructor
   · rintro ⟨e,he,hb,hx⟩
     have hlt:=hO i _ ho e he hb;exact ⟨e,he,hb,hx.imp id fun hx=>(ih e.on hlt x (by omega)).1 (by rw [h2 _ hlt];exact hx)⟩
   · rintro ⟨e,he,hb,hx⟩
     have hlt:=hO i _ ho e he hb;exact ⟨e,he,hb,hx.imp id fun hx=>by rw [<- h2 _ hlt];exact (ih e.on hlt x (by omega)).2 hx⟩
end Clk
