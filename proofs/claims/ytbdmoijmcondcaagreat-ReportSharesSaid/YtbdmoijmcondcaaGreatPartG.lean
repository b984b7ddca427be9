/- A part of the proof of ReportShares: an evaluator of the program's code that the kernel runs, its soundness, what the functions compute. -/
import Derived.Test.YtbdmoijmcondcaaGreatPartF
import Derived.KernelRfl
import Derived.ChangeSlices
set_option linter.unusedVariables false
set_option linter.unusedSimpArgs false
set_option maxRecDepth 1000000
namespace Clk
open Go
def z0f (c:Chip):Prop:=c.blocks.length<4294967296 /\ ∀ b∈c.blocks,b.pages.length<4294967296
theorem zo {α:Type} {l:List α} {i:Nat} {d:α} (h:i<l.length):l.getD i d∈l:=by
 rw [zI,zH h];exact List.getElem_mem h
theorem z0f.get {c:Chip} (h:z0f c) {i:Nat} (hi:i<c.blocks.length) (d:Block):(c.blocks.getD i d).pages.length<4294967296:=h.2 _ (zo hi)
theorem zs6 (acc:List Block) (n e:Int) (b:Bool) (p q:List Page):z16 (acc++[⟨q,n,e,b⟩]) acc.length p=acc++[⟨p,n,e,b⟩]:=by
 unfold z16;simp [zI]
theorem z072 {α:Type} {xs:List α} {k:Nat} {d:α} (h:k<xs.length):xs.take k++[xs.getD k d]=xs.take (k+1):=by
 rw [List.take_add_one,zH h,zI,zH h];rfl
theorem zcq {R:Type} {c:Chip} (h:z0f c) {k:Nat} {i:Int} (hi:i=k) (hk:k<c.blocks.length) {ih:Int->List Block->Option R} {e:Option R} :
 cond (decide (i<(c.blocks.length:Int)))
  (cond (decide (0<=i)) (cond (decide (i<(c.blocks.length:Int))) (cond (decide ((0+(c.blocks.getD i.toNat default).pages.length)*40<=70368744177664)) (cond (decide (0+(c.blocks.getD i.toNat default).pages.length<=70368744177664)) (cond (decide (((c.blocks.take k).length+1)*48<=70368744177664)) (cond (decide ((c.blocks.take k).length+1<=70368744177664))
    (ih (w64 (i+1)) (z16 (c.blocks.take k++[(Block.mk [] (c.blocks.getD i.toNat default).next (c.blocks.getD i.toNat default).erases (c.blocks.getD i.toNat default).bad)]) (c.blocks.take k).length ([]++(c.blocks.getD i.toNat default).pages))) none) none) none) none) none) none) e=ih ((k+1:Nat):Int) (c.blocks.take (k+1)):=by
 subst hi;have h1:=h.1;have h2:=h.get hk default;simp only [Int.toNat_natCast,zs6,List.nil_append];rw [zT (show (k:Int)<c.blocks.length by omega),zT (show (0:Int)<=k by omega)];simp only [zC];rw [zT (by omega),zC,zT (by omega),zC,zT (by rw [List.length_take];omega),zC,zT (by rw [List.length_take];omega),zC,zf (by omega) (by omega),<- z072 (d:=default) hk];rfl
theorem zy3 {c:Chip} (h:z0f c):∀ (m N k:Nat) (i:Int),k+m=c.blocks.length->i=k->m<N->ze z3c N (i,c,c.blocks.take k)=some (⟨c.blocks,true,c.off,c.ops⟩,1)
 | m,0,_,_,_,_,h=>by omega
 | 0,N+1,k,i,h1,h2,_=>by
   rw [z6,z83];unfold z3b;simp only;rw [zF (by omega),zD,List.take_of_length_le (by omega)]
 | m+1,N+1,k,i,h1,h2,h3=>by
   rw [z6,z83];unfold z3b;rw [zcq (ih:=fun i l=>ze z3c N (i,c,l)) h h2 (by omega)];exact zy3 h m N (k+1) _ (by omega) rfl (by omega)
def brkT (c:Chip):Chip×Int:=(⟨c.blocks,true,c.off,c.ops⟩,1)
theorem z02e {c:Chip} (h:z0f c):z02 c=some (brkT c):=by
 refine zy (c.blocks.length+1) fun N hN=>?_
 exact zy3 h c.blocks.length N 0 0 (by omega) rfl (by omega)
theorem z0dl {c:Chip} (h:z0f c):∀ (m N k:Nat) (i:Int),k+m=c.blocks.length->i=k->m<N->ze z8d N (i,c,c.blocks.take k)=some ⟨c.blocks,c.broken,false,c.ops⟩
 | m,0,_,_,_,_,h=>by omega
 | 0,N+1,k,i,h1,h2,_=>by
   rw [z6,zea];unfold z8c;simp only;rw [zF (by omega),zD,List.take_of_length_le (by omega)]
 | m+1,N+1,k,i,h1,h2,h3=>by
   rw [z6,zea];unfold z8c;rw [zcq (ih:=fun i l=>ze z8d N (i,c,l)) h h2 (by omega)];exact z0dl h m N (k+1) _ (by omega) rfl (by omega)
def onT (c:Chip):Chip:=⟨c.blocks,c.broken,false,c.ops⟩
theorem s_On {c:Chip} (h:z0f c):zle c=some (onT c):=by
 refine zy (c.blocks.length+1) fun N hN=>?_
 exact z0dl h c.blocks.length N 0 0 (by omega) rfl (by omega)
def thereT (c:Chip) (b p:Int):Bool:=decide (0<=b)&&decide (b<c.blocks.length)&&decide (0<=p)&&decide (p<(c.blocks.getD b.toNat default).pages.length)
theorem z0cd (c:Chip) (b p:Int):zd5 (c,b,p)=some (thereT c b p):=by
 show z8h c b p=_;unfold z8h thereT;cases decide (0<=b) with
 | false=>rfl
 | true=>cases decide (b<(c.blocks.length:Int)) with
   | false=>rfl
   | true=>cases decide (0<=p) <;> simp
def z6x (bl:Block) (p:Int) (page:Page) (f:Fate):Block :=
 ⟨bl.pages.set p.toNat (if f.kind=0 then ⟨true,page.data,page.tag⟩ else ⟨true,f.data,f.tag⟩),w64 (bl.next+1),bl.erases,decide (f.kind=1)⟩
def canProg (c:Chip) (b p:Int) (f:Fate):Bool :=
 thereT c b p&&!(c.blocks.getD b.toNat default).bad&&decide ((c.blocks.getD b.toNat default).next=p)&&decide (0<=f.kind)&&decide (f.kind<=2)
def z0r (c:Chip) (b p:Int) (page:Page) (f:Fate):Chip×Int :=
 if c.off then (c,52) else if canProg c b p f then
  (⟨c.blocks.set b.toNat (z6x (c.blocks.getD b.toNat default) p page f),c.broken,decide (f.kind=2),w64 (c.ops+1)⟩,if f.kind=0 then 0 else if f.kind=1 then 53 else 52)
 else brkT c
theorem z0i {α:Type} {l:List α} {i:Nat} {x d:α} (h:i<l.length):(l.set i x).getD i d=x:=by
 rw [zI,List.getElem?_set_self h];rfl
theorem z68 {c:Chip} {b p:Int} {f:Fate}:canProg c b p f=true↔0<=b /\ b<c.blocks.length /\ 0<=p /\ p<(c.blocks.getD b.toNat default).pages.length /\ (c.blocks.getD b.toNat default).bad=false /\ (c.blocks.getD b.toNat default).next=p /\ 0<=f.kind /\ f.kind<=2:=by
 unfold canProg thereT;simp only [Bool.and_eq_true,decide_eq_true_eq,Bool.not_eq_true'];constructor
 · rintro ⟨⟨⟨⟨⟨⟨⟨h1,h2⟩,h3⟩,h4⟩,h5⟩,h6⟩,h7⟩,h8⟩;exact ⟨h1,h2,h3,h4,h5,h6,h7,h8⟩
 · rintro ⟨h1,h2,h3,h4,h5,h6,h7,h8⟩;exact ⟨⟨⟨⟨⟨⟨⟨h1,h2⟩,h3⟩,h4⟩,h5⟩,h6⟩,h7⟩,h8⟩
theorem z00t {c:Chip} {b p:Int} {page:Page} {f:Fate} (hoff:c.off=false) (hc:canProg c b p f=true) {ih} {i:Int} (hi:i=c.blocks.length):z17 b p ih i page f c c.blocks=some (z0r c b p page f):=by
 have hc':=hc;obtain ⟨h1,h2,h3,h4,h5,h6,h7,h8⟩:=z68.1 hc;have hb:b.toNat<c.blocks.length:=by omega
 have hp:p.toNat<(c.blocks.getD b.toNat default).pages.length:=by omega
 unfold z17 z0r;rw [zF (by omega),zD,hoff,if_neg (by simp),if_pos hc'];have hk:f.kind=0 \/ f.kind=1 \/ f.kind=2:=by omega
 generalize hbl:c.blocks.getD b.toNat default=bl at *;have e1:∀ v,z04 c.blocks b.toNat v=c.blocks.set b.toNat ⟨bl.pages,v,bl.erases,bl.bad⟩:=fun v=>by unfold z04;rw [hbl]
 have e2:∀ v y,ze9 (c.blocks.set b.toNat y) b.toNat v=c.blocks.set b.toNat ⟨y.pages,y.next,y.erases,v⟩:=fun v y=>by unfold ze9;rw [z0i hb,List.set_set]
 have e3:∀ v y,z16 (c.blocks.set b.toNat y) b.toNat v=c.blocks.set b.toNat ⟨v,y.next,y.erases,y.bad⟩:=fun v y=>by unfold z16;rw [z0i hb,List.set_set]
 simp only [e1,e2,e3,List.length_set,z0i hb,zT h1,zT h2,zT hb,zT h3,zT h4,zT hp,zC,decide_true];rcases hk with hk | hk | hk <;> simp [hk,z6x,h5,hoff]
theorem zs7 {c:Chip} (h:z0f c) {b p:Int} {page:Page} {f:Fate} (hoff:c.off=false) (hc:canProg c b p f=true):∀ (m N k:Nat) (i:Int),k+m=c.blocks.length->i=k->m<N->ze (z2g b p) N (i,page,f,c,c.blocks.take k)=some (z0r c b p page f)
 | m,0,_,_,_,_,h=>by omega
 | 0,N+1,k,i,h1,h2,_=>by
   rw [z6,z73,List.take_of_length_le (by omega)];exact z00t hoff hc (by omega)
 | m+1,N+1,k,i,h1,h2,h3=>by
   rw [z6,z73];unfold z17;rw [zcq (ih:=fun i l=>ze (z2g b p) N (i,page,f,c,l)) h h2 (by omega)];exact zs7 h hoff hc m N (k+1) _ (by omega) rfl (by omega)
theorem zs8 {c:Chip} (h:z0f c):∀ (m N k:Nat) (i:Int),k+m=c.blocks.length->i=k->m<N->ze z2f N (i,c,c.blocks.take k)=some (⟨c.blocks,c.broken,c.off,c.ops⟩,52)
 | m,0,_,_,_,_,h=>by omega
 | 0,N+1,k,i,h1,h2,_=>by
   rw [z6,z72];unfold z2e;simp only;rw [zF (by omega),zD,List.take_of_length_le (by omega)]
 | m+1,N+1,k,i,h1,h2,h3=>by
   rw [z6,z72];unfold z2e;rw [zcq (ih:=fun i l=>ze z2f N (i,c,l)) h h2 (by omega)];exact zs8 h m N (k+1) _ (by omega) rfl (by omega)
theorem zpv {c:Chip} (h:z0f c) (b p:Int) (page:Page) (f:Fate):z58 (c,b,p,page,f)=some (z0r c b p page f):=by
 refine zy (c.blocks.length+1) fun N hN=>?_
 show z57 N c b p page f=_;unfold z57;cases hoff:c.off with
 | true =>
   rw [zC];have:=zs8 h c.blocks.length N 0 0 (by omega) rfl (by omega);rw [List.take_zero] at this;rw [this];unfold z0r;rw [if_pos hoff]
 | false =>
   rw [zD,z0cd,z7,z02e h];simp only [z7];have hbrk:canProg c b p f=false->z0r c b p page f=brkT c:=fun hc=>by unfold z0r;rw [hoff,if_neg (by simp),hc];rfl
   cases ht:thereT c b p with
   | false =>
     rw [hbrk (by unfold canProg;rw [ht];rfl)] <;> rfl
   | true =>
     have ht':=ht;unfold thereT at ht';simp only [Bool.and_eq_true,decide_eq_true_eq] at ht';obtain ⟨⟨⟨h1,h2⟩,h3⟩,h4⟩:=ht';rw [Bool.not_true,zD,zT h1,zT h2];simp only [zC];cases hbd:(c.blocks.getD b.toNat default).bad with
     | true =>
       rw [zC,hbrk (by unfold canProg;rw [hbd];simp)] <;> rfl
     | false =>
       rw [zD];by_cases hn:(c.blocks.getD b.toNat default).next=p
       · rw [zT hn,Bool.not_true,zD];by_cases hk1:f.kind<0
         · rw [zT hk1,zC,hbrk (by unfold canProg;rw [zF (show ¬ 0<=f.kind by omega)];simp)] <;> rfl
         · rw [zF hk1,zD];by_cases hk2:2<f.kind
           · rw [zT hk2,zC,hbrk (by unfold canProg;rw [zF (show ¬ f.kind<=2 by omega)];simp)] <;> rfl
           · rw [zF hk2,zD];have:=zs7 h (page:=page) (f:=f) hoff (z68.2 ⟨h1,h2,h3,h4,hbd,hn,by omega,by omega⟩) c.blocks.length N 0 0 (by omega) rfl (by omega);rw [List.take_zero] at this;exact this
       · rw [zF hn,Bool.not_false,zC,hbrk (by unfold canProg;rw [zF hn];simp)] <;> rfl
end Clk
namespace Clk
open Go
def z7w:Page:=⟨false,[],[]⟩
def clrT (all:Bool) (n:Int):Nat->List Page->List Page
 | _,[]=>[]
 | i,p::l=>(if all=true \/ (i:Int)<n then z7w else p)::clrT all n (i+1) l
def z4l (bl:Block) (f:Fate):Block :=
 if f.kind=1 then ⟨bl.pages,bl.next,bl.erases,true⟩
 else ⟨clrT (decide (f.kind=0)) f.n 0 bl.pages,if f.kind=2 then bl.pages.length else 0,w64 (bl.erases+1),bl.bad⟩
def canEra (c:Chip) (b:Int) (f:Fate):Bool :=
 decide (0<=b)&&decide (b<c.blocks.length)&&!(c.blocks.getD b.toNat default).bad&&decide (0<=f.kind)&&decide (f.kind<=2)
def zgu (c:Chip) (b:Int) (f:Fate):Chip×Int :=
 if c.off then (c,52) else if canEra c b f then
  (⟨c.blocks.set b.toNat (z4l (c.blocks.getD b.toNat default) f),c.broken,decide (f.kind=2),w64 (c.ops+1)⟩,if f.kind=0 then 0 else if f.kind=1 then 53 else 52)
 else brkT c
theorem z02f (all:Bool) (n:Int):∀ (i:Nat) (l:List Page),(clrT all n i l).length=l.length
 | _,[]=>rfl
 | i,p::l=>by simp [clrT,z02f all n (i+1) l]
theorem z02g {C:List Block} {b:Nat} (hb:b<C.length) {f:Fate} (hk:f.kind=0 \/ f.kind=2) {nx e:Int} {bd brk off:Bool} {ops:Int}:∀ (l:List Page) (N k:Nat) (i:Int) (pre:List Page),pre.length=k->i=k->k+l.length<4294967296->l.length<N ->
 ze z4a N ((b:Int),i,f,C.set b ⟨pre++l,nx,e,bd⟩,brk,off,ops) =
  some (⟨C.set b ⟨pre++clrT (decide (f.kind=0)) f.n k l,if f.kind=2 then ((k+l.length:Nat):Int) else 0,e,bd⟩,brk,off||decide (f.kind=2),ops⟩,if f.kind=2 then 52 else 0)
 | l,0,_,_,_,_,_,_,h=>by omega
 | [],N+1,k,i,pre,h1,h2,h3,_=>by
   rw [z6,z9g];unfold z49;simp only [Int.toNat_natCast,List.length_set,z0i hb,zT hb,zC,decide_true,List.append_nil];rw [zF (show ¬ i<(pre.length:Int) by omega),zD];have e1:∀ v y,z04 (C.set b y) b v=C.set b ⟨y.pages,v,y.erases,y.bad⟩:=fun v y=>by unfold z04;rw [z0i hb,List.set_set]
   have e3:∀ v y,z16 (C.set b y) b v=C.set b ⟨v,y.next,y.erases,y.bad⟩:=fun v y=>by unfold z16;rw [z0i hb,List.set_set]
   simp only [e1,e3,List.length_set,zT hb,zC,clrT,List.append_nil,List.length_nil,Nat.add_zero];rcases hk with hk | hk <;> simp [hk,h1]
 | p::l,N+1,k,i,pre,h1,h2,h3,h4=>by
   subst h2;simp only [List.length_cons] at h3 h4;have hl:(pre++p::l).length=k+(l.length+1):=by simp [h1]
   have g3:∀ x,(pre++p::l).set k x=(pre++[x])++l:=fun x=>by subst h1;simp
   have e3:∀ v y,z16 (C.set b y) b v=C.set b ⟨v,y.next,y.erases,y.bad⟩:=fun v y=>by unfold z16;rw [z0i hb,List.set_set]
   have ih:=fun x=>z02g hb hk (nx:=nx) (e:=e) (bd:=bd) (brk:=brk) (off:=off) (ops:=ops) l N (k+1) (w64 (k+1)) (pre++[x]) (by simp [h1]) (by rw [zf (by omega) (by omega)];omega) (by omega) (by omega)
   rw [z6,z9g];unfold z49;simp only [Int.toNat_natCast,List.length_set,z0i hb,zT hb,zC,decide_true,e3,g3,hl];rw [zT (show (k:Int)<((k+(l.length+1):Nat):Int) by omega),zT (show (0:Int)<=k by omega),zT (show k<k+(l.length+1) by omega)];simp only [zC];have hp0:pre++p::l=(pre++[p])++l:=by simp
   rw [hp0,ih p];have hz:ze z4a N ((b:Int),w64 (k+1),f,C.set b ⟨pre++[Page.mk false [] []]++l,nx,e,bd⟩,brk,off,ops)=_:=ih z7w;rw [hz];rcases hk with hk | hk
   · simp [hk,clrT]
   · by_cases hn:(k:Int)<f.n
     · have hkl:k+1+l.length=k+(l.length+1):=by omega
       rw [hkl];simp [hk,clrT,hn]
     · have hkl:k+1+l.length=k+(l.length+1):=by omega
       rw [hkl];simp [hk,clrT,hn]
theorem z073 {c:Chip} (h:z0f c) {b:Int} {f:Fate} (hoff:c.off=false) (hc:canEra c b f=true) {M:Nat} (hM:∀ b∈c.blocks,b.pages.length<M) {ih} {i:Int} (hi:i=c.blocks.length):z1y M b ih i f c c.blocks=some (zgu c b f):=by
 have hc':=hc;unfold canEra at hc;simp only [Bool.and_eq_true,decide_eq_true_eq,Bool.not_eq_true'] at hc;obtain ⟨⟨⟨⟨h1,h2⟩,h5⟩,h7⟩,h8⟩:=hc;have hb:b.toNat<c.blocks.length:=by omega
 have hM':=hM _ (zo (d:=default) hb);have hl:=h.get hb default;unfold z1y zgu;rw [zF (by omega),zD,hoff,if_neg (by simp),if_pos hc'];have hk:f.kind=1 \/ (f.kind=0 \/ f.kind=2):=by omega
 generalize hbl:c.blocks.getD b.toNat default=bl at *;have e2:∀ v,ze9 c.blocks b.toNat v=c.blocks.set b.toNat ⟨bl.pages,bl.next,bl.erases,v⟩:=fun v=>by unfold ze9;rw [hbl]
 have e3:∀ v,bErases c.blocks b.toNat v=c.blocks.set b.toNat ⟨bl.pages,bl.next,v,bl.bad⟩:=fun v=>by unfold bErases;rw [hbl]
 simp only [e2,e3,zT h1,zT h2,zT hb,zC];rcases hk with hk | hk
 · simp [hk,z4l,hoff]
 · rw [zF (show ¬ f.kind=1 by omega),zD];have:=z02g hb hk (nx:=bl.next) (e:=w64 (bl.erases+1)) (bd:=bl.bad) (brk:=c.broken) (off:=false) (ops:=w64 (c.ops+1)) bl.pages M 0 0 [] rfl rfl (by omega) hM';rw [List.nil_append] at this;rw [this];have hk1:¬ f.kind=1:=by omega
   rcases hk with hk | hk <;> simp [hk,z4l]
theorem z02h {c:Chip} (h:z0f c) {b:Int} {f:Fate} (hoff:c.off=false) (hc:canEra c b f=true) {M:Nat} (hM:∀ b∈c.blocks,b.pages.length<M):∀ (m N k:Nat) (i:Int),k+m=c.blocks.length->i=k->m<N->ze (z4b M b) N (i,f,c,c.blocks.take k)=some (zgu c b f)
 | m,0,_,_,_,_,h=>by omega
 | 0,N+1,k,i,h1,h2,_=>by
   rw [z6,z9h,List.take_of_length_le (by omega)];exact z073 h hoff hc hM (by omega)
 | m+1,N+1,k,i,h1,h2,h3=>by
   rw [z6,z9h];unfold z1y;rw [zcq (ih:=fun i l=>ze (z4b M b) N (i,f,c,l)) h h2 (by omega)];exact z02h h hoff hc hM m N (k+1) _ (by omega) rfl (by omega)
theorem z02i {c:Chip} (h:z0f c):∀ (m N k:Nat) (i:Int),k+m=c.blocks.length->i=k->m<N->ze z48 N (i,c,c.blocks.take k)=some (⟨c.blocks,c.broken,c.off,c.ops⟩,52)
 | m,0,_,_,_,_,h=>by omega
 | 0,N+1,k,i,h1,h2,_=>by
   rw [z6,z9f];unfold z47;simp only;rw [zF (by omega),zD,List.take_of_length_le (by omega)]
 | m+1,N+1,k,i,h1,h2,h3=>by
   rw [z6,z9f];unfold z47;rw [zcq (ih:=fun i l=>ze z48 N (i,c,l)) h h2 (by omega)];exact z02i h m N (k+1) _ (by omega) rfl (by omega)
theorem zur {c:Chip} (h:z0f c) (b:Int) (f:Fate):zd7 (c,b,f)=some (zgu c b f):=by
 refine zy (c.blocks.length+4294967297) fun N hN=>?_
 show z8i N c b f=_;unfold z8i;have hN2:4294967297<=N:=Nat.le_trans (Nat.le_add_left _ _) hN;have hN1:c.blocks.length<N:=by omega
 clear hN;cases hoff:c.off with
 | true =>
   rw [zC];have:=z02i h c.blocks.length N 0 0 (by omega) rfl hN1;rw [List.take_zero] at this;rw [this];unfold zgu;rw [if_pos hoff]
 | false =>
   rw [zD,z02e h];simp only [z7];have hbrk:canEra c b f=false->zgu c b f=brkT c:=fun hc=>by unfold zgu;rw [hoff,if_neg (by simp),hc];rfl
   by_cases h1:b<0
   · rw [zT h1,zC,hbrk (by unfold canEra;rw [zF (show ¬ 0<=b by omega)];simp)]
   · rw [zF h1,zD];by_cases h2:(c.blocks.length:Int)<=b
     · rw [zT h2,zC,hbrk (by unfold canEra;rw [zF (show ¬ b<c.blocks.length by omega)];simp)]
     · rw [zF h2,zD,zT (show 0<=b by omega),zT (show b<c.blocks.length by omega)];simp only [zC];cases hbd:(c.blocks.getD b.toNat default).bad with
       | true=>rw [zC,hbrk (by unfold canEra;rw [hbd];simp)]
       | false =>
         rw [zD];by_cases hk1:f.kind<0
         · rw [zT hk1,zC,hbrk (by unfold canEra;rw [zF (show ¬ 0<=f.kind by omega)];simp)]
         · rw [zF hk1,zD];by_cases hk2:2<f.kind
           · rw [zT hk2,zC,hbrk (by unfold canEra;rw [zF (show ¬ f.kind<=2 by omega)];simp)]
           · rw [zF hk2,zD];have hc:canEra c b f=true:=by
              unfold canEra;rw [hbd,zT (show 0<=b by omega),zT (show b<c.blocks.length by omega),zT (show 0<=f.kind by omega),zT (show f.kind<=2 by omega)];rfl
             have:=z02h h hoff hc (M:=N) (fun b hb=>by have:=h.2 b hb;omega) c.blocks.length N 0 0 (by omega) rfl hN1;rw [List.take_zero] at this;exact this
def zChip:Chip:=⟨[],false,false,0⟩
def newL (n:Int):List Int->List Block->Chip×Int
 | [],bs=>(⟨bs,false,false,0⟩,0)
 | x::l,bs=>if x<0 \/ n<=x then (zChip,1) else newL n l (ze9 bs x.toNat true)
def newT (blocks pages:Int) (bad:List Int):Chip×Int :=
 if blocks<1 \/ 32<blocks \/ pages<1 \/ 16<pages then (zChip,1) else newL blocks bad (List.replicate blocks.toNat ⟨List.replicate pages.toNat z7w,0,0,false⟩)
theorem z0ag {n:Int} {bad:List Int} (hb:bad.length<4294967296):∀ (l:List Int) (N k:Nat) (i:Int) (bs:List Block),bad.drop k=l->i=k->(bs.length:Int)=n->l.length<N->ze zbn N (n,bad,i,false,false,0,bs)=some (newL n l bs)
 | l,0,_,_,_,_,_,_,h=>by omega
 | [],N+1,k,i,bs,h1,h2,h3,_=>by
   have:=z00 h1;rw [z6,zcm];unfold z6m;simp only [newL];rw [zF (by omega),zD]
 | x::l,N+1,k,i,bs,h1,h2,h3,h4=>by
   obtain ⟨g1,g2,g3⟩:=zr h1;subst h2;rw [z6,zcm];unfold z6m;simp only [Int.toNat_natCast,g2,newL];rw [zT (show (k:Int)<bad.length by omega),zT (show (0:Int)<=k by omega)];simp only [zC];by_cases c1:x<0
   · rw [zT c1,zC,if_pos (.inl c1)];rfl
   · rw [zF c1,zD];by_cases c2:n<=x
     · rw [zT c2,zC,if_pos (.inr c2)];rfl
     · rw [zF c2,zD,if_neg (by omega),zT (show 0<=x by omega),zC,zT (show x<(bs.length:Int) by omega),zC,zT (show x.toNat<bs.length by omega),zC];exact z0ag hb l N (k+1) _ _ g3 (by rw [zf (by omega) (by omega)];omega) (by unfold ze9;simpa using h3) (by simp at h4;omega)
theorem z0ah {n p:Int} {bad:List Int} (hb:bad.length<4294967296) (hn:n<=32) (hp:1<=p) (hp2:p<=16) {M:Nat} (hM:bad.length<M):∀ (m N k:Nat) (i:Int),(k:Int)+m=n->i=k->m<N->ze (zbo M) N (n,p,bad,i,false,false,0,List.replicate k ⟨List.replicate p.toNat z7w,0,0,false⟩)=some (newL n bad (List.replicate n.toNat ⟨List.replicate p.toNat z7w,0,0,false⟩))
 | m,0,_,_,_,_,h=>by omega
 | 0,N+1,k,i,h1,h2,_=>by
   rw [z6,zcn];unfold z6n;simp only;rw [zF (by omega),zD,show n.toNat=k by omega];exact z0ag hb bad M 0 0 _ rfl rfl (by simp;omega) hM
 | m+1,N+1,k,i,h1,h2,h3=>by
   subst h2;rw [z6,zcn];unfold z6n;simp only [zs6];simp only [List.length_replicate];rw [zT (show (k:Int)<n by omega),zT (show 0<=p by omega),zT (show p<=p by omega),zT (show p*40<=70368744177664 by omega),zT (show p<=70368744177664 by omega),zT (show (k+1)*48<=70368744177664 by omega),zT (show k+1<=70368744177664 by omega)];simp only [zC];have e:List.replicate k (Block.mk (List.replicate p.toNat z7w) 0 0 false)++[⟨List.replicate p.toNat (default:Page),0,0,false⟩]=List.replicate (k+1) ⟨List.replicate p.toNat z7w,0,0,false⟩:=by
    rw [List.replicate_succ'];rfl
   rw [e];exact z0ah hb hn hp hp2 hM m N (k+1) _ (by omega) (by rw [zf (by omega) (by omega)];omega) (by omega)
theorem z00u {n p:Int} {bad:List Int} (hb:bad.length<4294967296):zi6 (n,p,bad)=some (newT n p bad):=by
 refine zy (bad.length+34) fun N hN=>?_
 show zd6 N n p bad=_;unfold zd6 newT;by_cases c1:n<1
 · rw [zT c1,zC,if_pos (.inl c1)];rfl
 · rw [zF c1,zD];by_cases c2:32<n
   · rw [zT c2,zC,if_pos (.inr (.inl c2))];rfl
   · rw [zF c2,zD];by_cases c3:p<1
     · rw [zT c3,zC,if_pos (.inr (.inr (.inl c3)))];rfl
     · rw [zF c3,zD];by_cases c4:16<p
       · rw [zT c4,zC,if_pos (.inr (.inr (.inr c4)))];rfl
       · rw [zF c4,zD,if_neg (by omega)];exact z0ah hb (by omega) (by omega) (by omega) (M:=N) (by omega) n.toNat N 0 0 (by omega) rfl (by omega)
end Clk
namespace Clk
open Go
def z4t (b p:Int):Int:=if b<0 \/ 32<=b \/ p<0 \/ 16<=p then -1 else b*16+p
theorem z8u (b p:Int):z37 (b,p)=some (z4t b p):=by
 show z8a b p=_;unfold z8a z4t;by_cases c1:b<0
 · rw [zT c1,zC,if_pos (.inl c1)]
 · rw [zF c1,zD];by_cases c2:32<=b
   · rw [zT c2,zC,if_pos (.inr (.inl c2))]
   · rw [zF c2,zD];by_cases c3:p<0
     · rw [zT c3,zC,if_pos (.inr (.inr (.inl c3)))]
     · rw [zF c3,zD];by_cases c4:16<=p
       · rw [zT c4,zC,if_pos (.inr (.inr (.inr c4)))]
       · rw [zF c4,zD,if_neg (by omega),zf (n:=b*16) (by omega) (by omega),zf (by omega) (by omega)]
theorem zy4 (b p:Int):z78 (b,p)=some (z4t b p):=z8u b p
def aheadT (a b:Found):Bool:=decide (a.record.seq<b.record.seq)||(decide (a.record.seq=b.record.seq)&&decide (a.place<b.place))
theorem z0ce (a b:Found):zd3 (a,b)=some (aheadT a b):=by
 show z8b a b=_;unfold z8b aheadT;cases decide (a.record.seq<b.record.seq) <;> cases decide (a.record.seq=b.record.seq) <;> rfl
def insT:List Found->Found->List Found
 | [],f=>[f]
 | x::l,f=>if aheadT f x=true then f::x::l else x::insT l f
theorem zus:∀ (l:List Found) (f:Found),(insT l f).length=l.length+1
 | [],f=>rfl
 | x::l,f=>by
   unfold insT;split
   · rfl
   · simp [zus l f]
theorem z074 {xs:List Found} {f:Found} (hs:xs.length<4294967296):∀ (l:List Found) (N k:Nat) (i:Int) (acc:List Found),xs.drop k=l->i=k->acc.length+l.length<4294967298->l.length<N->ze z6i N (xs,true,i,f,acc)=some (acc++l)
 | l,0,_,_,_,_,_,_,h=>by omega
 | [],N+1,k,i,acc,h1,h2,h3,_=>by
   have:=z00 h1;rw [z6,z38];unfold z28;simp only [Bool.not_true,zD,List.append_nil];rw [zF (by omega),zD]
 | x::l,N+1,k,i,acc,h1,h2,h3,h4=>by
   obtain ⟨g1,g2,g3⟩:=zr h1;subst h2;simp only [List.length_cons] at h3 h4;rw [z6,z38];unfold z28;simp only [Int.toNat_natCast,g2,Bool.not_true,zD,List.length_singleton];rw [zT (show (k:Int)<xs.length by omega),zT (show (0:Int)<=k by omega),zT (by omega),zT (by omega)];simp only [zC];rw [z074 hs l N (k+1) _ _ g3 (by rw [zf (by omega) (by omega)];omega) (by simp;omega) (by omega)];simp
theorem z0ai {xs:List Found} {f:Found} (hs:xs.length<4294967296):∀ (l:List Found) (N k:Nat) (i:Int) (acc:List Found),xs.drop k=l->i=k->acc.length+l.length<4294967296->l.length<N->ze z6i N (xs,false,i,f,acc)=some (acc++insT l f)
 | l,0,_,_,_,_,_,_,h=>by omega
 | [],N+1,k,i,acc,h1,h2,h3,_=>by
   have:=z00 h1;rw [z6,z38];unfold z28;simp only [Bool.not_false,zC,List.length_singleton,insT];rw [zF (show ¬ i<(xs.length:Int) by omega),zD,zT (by omega),zC,zT (by omega),zC]
 | x::l,N+1,k,i,acc,h1,h2,h3,h4=>by
   obtain ⟨g1,g2,g3⟩:=zr h1;subst h2;simp only [List.length_cons] at h3 h4;rw [z6,z38];unfold z28;simp only [Int.toNat_natCast,g2,Bool.not_false,List.length_singleton,z0ce,z7,insT,List.length_append];rw [zT (show (k:Int)<xs.length by omega),zT (show (0:Int)<=k by omega)];simp only [zC];cases aheadT f x with
   | true =>
     rw [zC,zT (by omega),zC,zT (by omega),zC,zT (by omega),zC,zT (by omega),zC,if_pos rfl];rw [z074 hs l N (k+1) _ _ g3 (by rw [zf (by omega) (by omega)];omega) (by simp;omega) (by omega)];simp
   | false =>
     rw [zD,zT (by omega),zC,zT (by omega),zC,if_neg (by simp)];rw [z0ai hs l N (k+1) _ _ g3 (by rw [zf (by omega) (by omega)];omega) (by simp;omega) (by omega)];simp
theorem z0el {l:List Found} {f:Found} (hs:l.length<4294967296):zi4 (l,f)=some (insT l f):=by
 refine zy (l.length+1) fun N hN=>?_
 have:=z0ai (f:=f) hs l N 0 0 [] rfl rfl (by simpa using hs) (by omega);rw [List.nil_append] at this;exact this
def pagesT (b:Nat):Nat->List Page->List Found->List Found
 | _,[],out=>out
 | p,pg::l,out=>pagesT b (p+1) l (if (lookT pg).1=1 /\ 0<=z4t b p then insT out ⟨z4t b p,(lookT pg).2⟩ else out)
def blocksT:Nat->List Block->List Found->List Found
 | _,[],out=>out
 | b,x::l,out=>blocksT (b+1) l (pagesT b 0 x.pages out)
def allT (c:Chip):List Found:=blocksT 0 c.blocks []
def PagesOk (c:Chip):Prop:=∀ b∈c.blocks,∀ p∈b.pages,PageOk p
theorem zlk (b:Nat):∀ (l:List Page) (p:Nat) (out:List Found),out.length<=min (16*b+min p 16) 512->(pagesT b p l out).length<=min (16*(b+1)) 512
 | [],p,out,h=>by
   unfold pagesT;omega
 | pg::l,p,out,h=>by
   unfold pagesT;refine zlk b l (p+1) _ ?_;split
   · rename_i hc;have h2:=hc.2;unfold z4t at h2;split at h2
     · omega
     · rw [zus];omega
   · omega
theorem z09b {b p:Nat} (h:0<=z4t b p):b<32 /\ p<16:=by
 unfold z4t at h;split at h <;> omega
theorem z0aj {ih0:List Found×Int×Chip->Option (List Found)} {c:Chip} (hc:z0f c) (hp:PagesOk c) {b:Nat} (hb:b<c.blocks.length) {bi:Int} (hbi:bi=b):∀ (l:List Page) (N p:Nat) (i:Int) (out:List Found),(c.blocks.getD b default).pages.drop p=l->i=p->out.length<=min (16*b+min p 16) 512->l.length<N->ze (zbk ih0) N (out,bi,i,c)=ih0 (pagesT b p l out,((b+1:Nat):Int),c)
 | l,0,_,_,_,_,_,_,h=>by omega
 | [],N+1,p,i,out,h1,h2,h3,_=>by
   have h4:=z00 h1;have h5:=hc.1;subst hbi;rw [z6,zck];unfold z6j;simp only [Int.toNat_natCast,pagesT];rw [zT (show (0:Int)<=b by omega),zT (show (b:Int)<c.blocks.length by omega),zF (show ¬ i<((c.blocks.getD b default).pages.length:Int) by omega),zf (n:=(b:Int)+1) (by omega) (by omega)];rfl
 | pg::l,N+1,p,i,out,h1,h2,h3,h4=>by
   obtain ⟨g1,g2,g3⟩:=zr h1;have h5:=hc.1;have h6:=hc.get hb default;subst hbi;subst h2;have hpg:PageOk pg:=by
    have:=hp _ (zo (d:=default) hb) pg;apply this
    rw [<- g2 default];exact zo g1
   have e1:w64 ((p:Int)+1)=((p+1:Nat):Int):=by rw [zf (by omega) (by omega)];rfl
   have hol:out.length<4294967296:=by omega
   rw [z6,zck];unfold z6j;simp only [Int.toNat_natCast,g2,zy1 hpg,z7,z8u,z0el hol,e1];rw [zT (show (0:Int)<=b by omega),zT (show (b:Int)<c.blocks.length by omega),zT (show (p:Int)<((c.blocks.getD b default).pages.length:Int) by omega),zT (show (0:Int)<=p by omega)];simp only [zC];have ih:=fun out' h=>z0aj (ih0:=ih0) hc hp hb (rfl:(b:Int)=b) l N (p+1) _ out' g3 rfl h (by simp at h4;omega)
   rw [pagesT];by_cases c1:(lookT pg).1=1
   · rw [zT c1,zC];by_cases c2:0<=z4t b p
     · have:=z09b c2;rw [zT c2,zC,if_pos ⟨c1,c2⟩];exact ih _ (by rw [zus];omega)
     · rw [zF c2,zD,if_neg (fun h=>c2 h.2)];exact ih _ (by omega)
   · rw [zF c1,zD,if_neg (fun h=>c1 h.1)];exact ih _ (by omega)
theorem z0ak {c:Chip} (hc:z0f c) (hp:PagesOk c) {M:Nat} (hM:4294967296<M):∀ (l:List Block) (N b:Nat) (i:Int) (out:List Found),c.blocks.drop b=l->i=b->out.length<=min (16*b) 512->l.length<N->ze (zbl M) N (out,i,c)=some (blocksT b l out)
 | l,0,_,_,_,_,_,_,h=>by omega
 | [],N+1,b,i,out,h1,h2,h3,_=>by
   have h4:=z00 h1;rw [z6,zcl];unfold z6k;simp only [blocksT];rw [zF (by omega),zD]
 | x::l,N+1,b,i,out,h1,h2,h3,h4=>by
   obtain ⟨g1,g2,g3⟩:=zr h1;have h6:=hc.get g1 default;subst h2;rw [z6,zcl];unfold z6k;simp only [blocksT];rw [zT (show (b:Int)<c.blocks.length by omega),zC,z0aj hc hp g1 rfl _ M 0 0 out rfl rfl (by omega) (by rw [List.drop_zero];omega),List.drop_zero,g2];rw [g2] at h6;exact z0ak hc hp hM l N (b+1) _ _ g3 rfl (zlk b _ 0 out (by omega)) (by simp at h4;omega)
theorem z0em {c:Chip} (hc:z0f c) (hp:PagesOk c):zi5 c=some (allT c):=by
 have:=hc.1;refine zy 4294967297 fun N hN=>?_
 exact z0ak hc hp (by omega) c.blocks N 0 0 [] rfl rfl (by simp) (by omega)
theorem zpw:∀ (l:List Block) (b:Nat) (out:List Found),out.length<=min (16*b) 512->(blocksT b l out).length<=512
 | [],b,out,h=>by unfold blocksT;omega
 | x::l,b,out,h=>by
   unfold blocksT;exact zpw l (b+1) _ (zlk b _ 0 out (by omega))
theorem z09c (c:Chip):(allT c).length<=512:=zpw _ 0 [] (by simp)
def tabT (n:Int):Table:=⟨List.replicate (min n.toNat 64) (-1),List.replicate (min n.toNat 64) (-1)⟩
theorem zy5 {n:Int}:∀ (m N k:Nat) (i:Int),k+m=min n.toNat 64->i=k->m<N->ze zbe N (n,i,List.replicate k (-1),List.replicate k (-1))=some (tabT n)
 | m,0,_,_,_,_,h=>by omega
 | 0,N+1,k,i,h1,h2,_=>by
   rw [z6,zci];unfold z6b tabT;simp only;rw [show k=min n.toNat 64 by omega];by_cases c1:i<n
   · rw [zT c1,zC,zF (by omega),zD]
   · rw [zF c1,zD]
 | m+1,N+1,k,i,h1,h2,h3=>by
   subst h2;rw [z6,zci];unfold z6b;simp only [List.length_replicate,List.length_singleton];rw [zT (show (k:Int)<n by omega),zT (show (k:Int)<64 by omega),zT (by omega),zT (by omega)];simp only [zC];rw [<- List.replicate_succ'];exact zy5 m N (k+1) _ (by omega) (by rw [zf (by omega) (by omega)];omega) (by omega)
theorem z00v (n:Int):zi1 n=some (tabT n):=by
 refine zy 65 fun N hN=>?_
 exact zy5 (min n.toNat 64) N 0 0 (by omega) rfl (by omega)
def TabOk (t:Table):Prop:=t.map.length<4294967296 /\ t.by_.length<4294967296
def app1 (f:Found) (i:Nat) (k:Int) (t:Table):Table :=
 if 0<=k /\ k<t.map.length /\ k<t.by_.length then
  if f.record.kind=1 then ⟨t.map.set k.toNat f.place,t.by_.set k.toNat f.place⟩
  else if f.record.kind=2 /\ i<f.record.values.length then ⟨t.map.set k.toNat (f.record.values.getD i 0),t.by_.set k.toNat f.place⟩
  else t
 else t
def appL (f:Found):Nat->List Int->Table->Table
 | _,[],t=>t
 | i,k::l,t=>appL f (i+1) l (app1 f i k t)
def applyT (t:Table) (f:Found):Table:=appL f 0 f.record.keys t
theorem z09d (f:Found) (i:Nat) (k:Int) (t:Table):(app1 f i k t).map.length=t.map.length /\ (app1 f i k t).by_.length=t.by_.length:=by
 unfold app1;split
 · split
   · simp
   · split <;> simp
 · simp
theorem z02j (f:Found):∀ (l:List Int) (i:Nat) (t:Table),(appL f i l t).map.length=t.map.length /\ (appL f i l t).by_.length=t.by_.length
 | [],i,t=>⟨rfl,rfl⟩
 | k::l,i,t=>by
   unfold appL;obtain ⟨h1,h2⟩:=z02j f l (i+1) (app1 f i k t);obtain ⟨h3,h4⟩:=z09d f i k t;exact ⟨h1.trans h3,h2.trans h4⟩
theorem z04d (t:Table) (f:Found):(applyT t f).map.length=t.map.length /\ (applyT t f).by_.length=t.by_.length:=z02j f _ 0 t
theorem z02k {f:Found} (hk:f.record.keys.length<4294967296) (hv:f.record.values.length<4294967296):∀ (l:List Int) (N i:Nat) (ii:Int) (t:Table),f.record.keys.drop i=l->ii=i->TabOk t->l.length<N->ze z7k N (ii,f,t.map,t.by_)=some (appL f i l t)
 | l,0,_,_,_,_,_,_,h=>by omega
 | [],N+1,i,ii,t,h1,h2,h3,_=>by
   have h4:=z00 h1;rw [z6,z98];unfold z42;simp only [appL];rw [zF (by omega),zD]
 | k::l,N+1,i,ii,t,h1,h2,h3,h4=>by
   obtain ⟨g1,g2,g3⟩:=zr h1;subst h2;have e1:w64 ((i:Int)+1)=((i+1:Nat):Int):=by rw [zf (by omega) (by omega)];rfl
   have ih:=fun t' h=>z02k hk hv l N (i+1) _ t' g3 rfl h (by simp at h4;omega)
   have ihs:=ih t h3;rw [z6,z98];unfold z42;simp only [Int.toNat_natCast,g2,e1,appL];rw [zT (show (i:Int)<f.record.keys.length by omega),zT (show (0:Int)<=i by omega)];simp only [zC];unfold app1;by_cases c1:k<0
   · rw [zT c1,zC,if_neg (by omega)];exact ihs
   · rw [zF c1,zD];by_cases c2:(t.map.length:Int)<=k
     · rw [zT c2,zC,if_neg (by omega)];exact ihs
     · rw [zF c2,zD];by_cases c3:(t.by_.length:Int)<=k
       · rw [zT c3,zC,if_neg (by omega)];exact ihs
       · rw [zF c3,zD,if_pos (by omega),zT (show 0<=k by omega),zT (show k<t.map.length by omega),zT (show k.toNat<t.map.length by omega),zT (show k<t.by_.length by omega),zT (show k.toNat<t.by_.length by omega)];simp only [zC];by_cases c4:f.record.kind=1
         · rw [zT c4,zC,if_pos c4];exact ih ⟨t.map.set k.toNat f.place,t.by_.set k.toNat f.place⟩ ⟨by simpa using h3.1,by simpa using h3.2⟩
         · rw [zF c4,zD,if_neg c4];by_cases c5:f.record.kind=2
           · rw [zT c5,zC];by_cases c6:i<f.record.values.length
             · rw [zT (show (i:Int)<f.record.values.length by omega),zC,zC,if_pos ⟨c5,c6⟩];exact ih ⟨t.map.set k.toNat (f.record.values.getD i 0),t.by_.set k.toNat f.place⟩ ⟨by simpa using h3.1,by simpa using h3.2⟩
             · rw [zF (show ¬ (i:Int)<f.record.values.length by omega),zD,if_neg (fun h=>c6 h.2)];exact ihs
           · rw [zF c5,zD,if_neg (fun h=>c5 h.1)];exact ihs
theorem zkh {t:Table} {f:Found} (ht:TabOk t) (hr:RecOk f.record):z34 (t,f)=some (applyT t f):=by
 have h1:=ht.1;have h2:=ht.2;have h3:=hr.1;refine zy 4294967297 fun N hN=>?_
 show z88 N t f=_;unfold z88;rw [zT (by omega),zC,zT (by omega),zC,zT (by omega),zC,zT (by omega),zC];exact z02k h3 hr.2 _ N 0 0 t rfl rfl ht (by omega)
end Clk
namespace Clk
open Go
def repL:List Found->Table->Int->Table×Int
 | [],t,s=>(t,s)
 | f::l,t,s=>repL l (applyT t f) (max s (w64 (f.record.seq+1)))
def replayT (c:Chip) (n:Int):Table×Int:=repL (allT c) (tabT n) 0
def zba (l:List Found):Prop:=∀ f∈l,RecOk f.record
theorem zgd {s:Str} (h:s.length<4294967296):(zx s).1.length<4294967296 /\ (zx s).2.1.length<4294967296:=by
 have:=ze5 s;omega
theorem z0cf {tag data:Str} (h:tag.length<4294967296):RecOk (decT tag data).1:=by
 obtain ⟨h1,h2⟩:=zgd h;obtain ⟨h3,h4⟩:=zgd h2;obtain ⟨h5,h6⟩:=zgd h4;unfold decT;split
 · exact ⟨by simp [zRec],by simp [zRec]⟩
 · split
   · exact ⟨by simp [zRec],by simp [zRec]⟩
   · exact ⟨h3,by simp only [mvT,List.length_map];exact h5⟩
theorem z09e {p:Page} (h:PageOk p):RecOk (lookT p).2:=by
 unfold lookT;split
 · exact ⟨by simp [zRec],by simp [zRec]⟩
 · split
   · exact ⟨by simp [zRec],by simp [zRec]⟩
   · exact z0cf h.1
theorem z075:∀ {l:List Found} {f:Found},zba l->RecOk f.record->zba (insT l f)
 | [],f,_,h=>by intro g hg;simp [insT] at hg;subst hg;exact h
 | x::l,f,h1,h2=>by
   unfold insT;split
   · intro g hg;rcases List.mem_cons.1 hg with rfl | hg
     · exact h2
     · exact h1 g hg
   · intro g hg;rcases List.mem_cons.1 hg with rfl | hg
     · exact h1 _ List.mem_cons_self
     · exact z075 (fun g hg=>h1 g (List.mem_cons_of_mem _ hg)) h2 g hg
theorem zy6 (b:Nat):∀ (l:List Page) (p:Nat) (out:List Found),(∀ pg∈l,PageOk pg)->zba out->zba (pagesT b p l out)
 | [],p,out,_,h=>h
 | pg::l,p,out,h1,h2=>by
   unfold pagesT;refine zy6 b l (p+1) _ (fun q hq=>h1 q (List.mem_cons_of_mem _ hq)) ?_;split
   · exact z075 h2 (z09e (h1 pg List.mem_cons_self))
   · exact h2
theorem zs9:∀ (l:List Block) (b:Nat) (out:List Found),(∀ x∈l,∀ p∈x.pages,PageOk p)->zba out->zba (blocksT b l out)
 | [],b,out,_,h=>h
 | x::l,b,out,h1,h2=>by
   unfold blocksT;exact zs9 l (b+1) _ (fun y hy=>h1 y (List.mem_cons_of_mem _ hy)) (zy6 b _ 0 out (h1 x List.mem_cons_self) h2)
theorem z0cg {c:Chip} (h:PagesOk c):zba (allT c):=zs9 _ 0 [] h (fun _ h=>by cases h)
theorem zy7 {xs:List Found} (hs:xs.length<4294967296) (hf:zba xs):∀ (l:List Found) (N k:Nat) (i s:Int) (t:Table),xs.drop k=l->i=k->TabOk t->l.length<N->ze z65 N (xs,s,i,t)=some (repL l t s)
 | l,0,_,_,_,_,_,_,_,h=>by omega
 | [],N+1,k,i,s,t,h1,h2,h3,_=>by
   have:=z00 h1;rw [z6,z82];unfold z3a;simp only [repL];rw [zF (by omega),zD]
 | f::l,N+1,k,i,s,t,h1,h2,h3,h4=>by
   obtain ⟨g1,g2,g3⟩:=zr h1;subst h2;have hr:RecOk f.record:=by rw [<- g2 default];exact hf _ (zo g1)
   obtain ⟨h5,h6⟩:=z04d t f;have h7:=h3.1;have h8:=h3.2;rw [z6,z82];unfold z3a;simp only [Int.toNat_natCast,g2,repL,zkh h3 hr,z7];rw [zT (show (k:Int)<xs.length by omega),zT (show (0:Int)<=k by omega)];simp only [zC];exact zy7 hs hf l N (k+1) _ _ _ g3 (by rw [zf (by omega) (by omega)];omega) ⟨by omega,by omega⟩ (by simp at h4;omega)
theorem z0ch (n:Int):TabOk (tabT n):=⟨by simp [tabT];omega,by simp [tabT];omega⟩
theorem z09f {c:Chip} (hc:z0f c) (hp:PagesOk c) (n:Int):zbm (c,n)=some (replayT c n):=by
 have:=z09c c;refine zy 4294967297 fun N hN=>?_
 show z6l N c n=_;unfold z6l;rw [z00v,z7,z0em hc hp,z7];exact zy7 (by omega) (z0cg hp) _ N 0 0 0 _ rfl rfl (z0ch n) (by omega)
def whL (n:Int):Nat->List Int->List Int
 | _,[]=>[]
 | i,x::l=>if x=n then (i:Int)::whL n (i+1) l else whL n (i+1) l
def whichT (l:List Int) (n:Int):List Int:=if 0<=n then whL n 0 l else []
theorem zut {xs:List Int} {n:Int} (hn:0<=n) (hs:xs.length<4294967296):∀ (l:List Int) (N k:Nat) (i:Int) (acc:List Int),xs.drop k=l->i=k->acc.length<=k->l.length<N->ze z7n N (xs,n,i,acc)=some (acc++whL n k l)
 | l,0,_,_,_,_,_,_,h=>by omega
 | [],N+1,k,i,acc,h1,h2,h3,_=>by
   have:=z00 h1;rw [z6,z4n];unfold z20;simp only [whL,List.append_nil];rw [zF (by omega),zD]
 | x::l,N+1,k,i,acc,h1,h2,h3,h4=>by
   obtain ⟨g1,g2,g3⟩:=zr h1;subst h2;have e1:w64 ((k:Int)+1)=((k+1:Nat):Int):=by rw [zf (by omega) (by omega)];rfl
   rw [z6,z4n];unfold z20;simp only [Int.toNat_natCast,g2,whL,e1,List.length_singleton];rw [zT (show (k:Int)<xs.length by omega),zT (show (0:Int)<=k by omega),zT hn];simp only [zC];by_cases c:x=n
   · rw [zT c,zC,if_pos c,zT (by omega),zC,zT (by omega),zC];rw [zut hn hs l N (k+1) _ _ g3 rfl (by simp;omega) (by simp at h4;omega)];simp
   · rw [zF c,zD,if_neg c];exact zut hn hs l N (k+1) _ _ g3 rfl (by omega) (by simp at h4;omega)
theorem z076 {l:List Int} {n:Int} (hs:l.length<4294967296):z8l (l,n)=some (whichT l n):=by
 refine zy 4294967297 fun N hN=>?_
 show z8k N l n=_;unfold z8k whichT;by_cases hn:0<=n
 · rw [if_pos hn];have:=zut hn hs l N 0 0 [] rfl rfl (by simp) (by omega);rw [List.nil_append] at this;exact this
 · rw [if_neg hn];obtain ⟨M,rfl⟩:∃ M,N=M+1:=⟨N - 1,by omega⟩;rw [z6,z4n];unfold z20;simp only [zF hn,zD];cases decide ((0:Int)<(l.length:Int)) <;> rfl
def z0n (t:Table) (p:Int):List Int:=whichT t.map p
def z7x (t:Table) (p:Int):List Int:=whichT t.by_ p
theorem zng {t:Table} (h:TabOk t) (p:Int):z3z (t,p)=some (z0n t p):=by
 show z6s t p=_;unfold z6s;rw [z076 h.1];rfl
theorem z0al {t:Table} (h:TabOk t) (p:Int):z79 (t,p)=some (z7x t p):=by
 show zaz t p=_;unfold zaz;rw [z076 h.2];rfl
def liveT (t:Table) (p:Int):Bool:=decide (0<(z0n t p).length)||decide (0<(z7x t p).length)
theorem z077 (a b:Nat):decide ((a:Int)<(b:Int))=decide (a<b):=by rw [Bool.eq_iff_iff];simp
theorem z0dm {t:Table} (h:TabOk t) (p:Int):zf2 (t,p)=some (liveT t p):=by
 show zb0 t p=_;unfold zb0 liveT;rw [zng h,z7,z0al h,z7,show (0:Int)=((0:Nat):Int) from rfl,z077,z077];cases decide (0<(z0n t p).length) <;> rfl
def anyW:List Page->Bool
 | []=>false
 | p::l=>p.written||anyW l
def fcT (bl:Block) (l:List Page):Int:=cond (anyW l) 2 (if bl.next=0 then 0 else 2)
def z5t (c:Chip) (opn b:Int):Int :=
 if b<0 \/ (c.blocks.length:Int)<=b then 3
 else if (c.blocks.getD b.toNat default).bad=true then 3
 else if b=opn /\ 0<=(c.blocks.getD b.toNat default).next /\ (c.blocks.getD b.toNat default).next<(c.blocks.getD b.toNat default).pages.length then 1
 else fcT (c.blocks.getD b.toNat default) (c.blocks.getD b.toNat default).pages
theorem z02l {bl:Block} (hs:bl.pages.length<4294967296):∀ (l:List Page) (N k:Nat) (i:Int),bl.pages.drop k=l->i=k->l.length<N->ze z1z N (i,bl)=some (fcT bl l)
 | l,0,_,_,_,_,h=>by omega
 | [],N+1,k,i,h1,h2,_=>by
   have:=z00 h1;rw [z6,z9i];unfold z4c;simp only [fcT,anyW,zD];rw [zF (by omega),zD];by_cases c:bl.next=0
   · rw [zT c,zC,if_pos c]
   · rw [zF c,zD,if_neg c]
 | p::l,N+1,k,i,h1,h2,h3=>by
   obtain ⟨g1,g2,g3⟩:=zr h1;subst h2;rw [z6,z9i];unfold z4c;simp only [Int.toNat_natCast,g2,fcT,anyW];rw [zT (show (k:Int)<bl.pages.length by omega),zT (show (0:Int)<=k by omega)];simp only [zC];cases p.written with
   | true=>rfl
   | false =>
     rw [zD,Bool.false_or];exact z02l hs l N (k+1) _ g3 (by rw [zf (by omega) (by omega)];omega) (by simp at h3;omega)
theorem z5u {c:Chip} (hc:z0f c) (o b:Int):z3d (c,o,b)=some (z5t c o b):=by
 refine zy 4294967297 fun N hN=>?_
 show z8j N c o b=_;unfold z8j z5t;by_cases c1:b<0
 · rw [zT c1,zC,if_pos (.inl c1)]
 · rw [zF c1,zD];by_cases c2:(c.blocks.length:Int)<=b
   · rw [zT c2,zC,if_pos (.inr c2)]
   · have hb:=hc.get (show b.toNat<c.blocks.length by omega) default;rw [zF c2,zD,if_neg (by omega),zT (show 0<=b by omega),zT (show b<c.blocks.length by omega)];simp only [zC];cases c3:(c.blocks.getD b.toNat default).bad with
     | true=>rfl
     | false =>
       rw [zD,if_neg (by simp),z02l hb _ N 0 0 rfl rfl (by rw [List.drop_zero];omega),List.drop_zero];generalize fcT (c.blocks.getD b.toNat default) (c.blocks.getD b.toNat default).pages=X;by_cases c4:b=o
       · rw [zT c4,zC];by_cases c5:0<=(c.blocks.getD b.toNat default).next
         · rw [zT c5,zC];by_cases c6:(c.blocks.getD b.toNat default).next<(c.blocks.getD b.toNat default).pages.length
           · rw [zT c6,zC,if_pos ⟨c4,c5,c6⟩]
           · rw [zF c6,zD,if_neg (fun h=>c6 h.2.2)]
         · rw [zF c5,zD,if_neg (fun h=>c5 h.2.1)]
       · rw [zF c4,zD,if_neg (fun h=>c4 h.1)]
theorem zy8 {xs:List Page} (hs:xs.length<4294967296):∀ (l:List Page) (N k:Nat) (i:Int),xs.drop k=l->i=k->l.length<N->ze z1j N (xs,(xs.length:Int),i)=some (cond (anyW l) 2 0)
 | l,0,_,_,_,_,h=>by omega
 | [],N+1,k,i,h1,h2,_=>by
   have:=z00 h1;rw [z6,z84];unfold z3e;simp only [anyW,zD];rw [zF (by omega),zD]
 | p::l,N+1,k,i,h1,h2,h3=>by
   obtain ⟨g1,g2,g3⟩:=zr h1;subst h2;rw [z6,z84];unfold z3e;simp only [Int.toNat_natCast,g2,anyW];rw [zT (show (k:Int)<xs.length by omega),zT (show (0:Int)<=k by omega)];simp only [zC];cases p.written with
   | true=>rfl
   | false =>
     rw [zD,Bool.false_or];exact zy8 hs l N (k+1) _ g3 (by rw [zf (by omega) (by omega)];omega) (by simp at h3;omega)
theorem zrh {c:Chip} (hc:z0f c) (o b:Int):z3y (c,o,b)=some (z5t c o b):=by
 refine zy 4294967297 fun N hN=>?_
 show z6p N c o b=_;unfold z6p z5t;by_cases c1:b<0
 · rw [zT c1,zC,if_pos (.inl c1)]
 · rw [zF c1,zD];by_cases c2:(c.blocks.length:Int)<=b
   · rw [zT c2,zC,if_pos (.inr c2)]
   · have hb:=hc.get (show b.toNat<c.blocks.length by omega) default;rw [zF c2,zD,if_neg (by omega),zT (show 0<=b by omega),zT (show b<c.blocks.length by omega)];simp only [zC];cases c3:(c.blocks.getD b.toNat default).bad with
     | true=>rfl
     | false =>
       rw [zD,if_neg (by simp),zy8 hb _ N 0 0 rfl rfl (by rw [List.drop_zero];omega),List.drop_zero];have hk:cond (!decide ((c.blocks.getD b.toNat default).next=0)) (some (2:Int)) (some (cond (anyW (c.blocks.getD b.toNat default).pages) 2 0))=some (fcT (c.blocks.getD b.toNat default) (c.blocks.getD b.toNat default).pages):=by
        unfold fcT;by_cases c7:(c.blocks.getD b.toNat default).next=0
        · rw [zT c7,Bool.not_true,zD,if_pos c7]
        · rw [zF c7,Bool.not_false,zC,if_neg c7];cases anyW (c.blocks.getD b.toNat default).pages <;> rfl
       rw [hk];generalize fcT (c.blocks.getD b.toNat default) (c.blocks.getD b.toNat default).pages=X;by_cases c4:b=o
       · rw [zT c4,zC];by_cases c5:0<=(c.blocks.getD b.toNat default).next
         · rw [zT c5,zC];by_cases c6:(c.blocks.getD b.toNat default).next<(c.blocks.getD b.toNat default).pages.length
           · rw [zT c6,zC,if_pos ⟨c4,c5,c6⟩]
           · rw [zF c6,zD,if_neg (fun h=>c6 h.2.2)]
         · rw [zF c5,zD,if_neg (fun h=>c5 h.2.1)]
       · rw [zF c4,zD,if_neg (fun h=>c4 h.1)]
def pickL (c:Chip) (o:Int):Nat->List Block->Int->Int
 | _,[],best=>best
 | i,x::l,best=>pickL c o (i+1) l (if z5t c o i=0 /\ (best<0 \/ x.erases<(c.blocks.getD best.toNat default).erases) then (i:Int) else best)
def pickT (c:Chip) (o:Int):Int:=pickL c o 0 c.blocks (-1)
theorem z078 {c:Chip} (hc:z0f c) {o:Int}:∀ (l:List Block) (N k:Nat) (i best:Int),c.blocks.drop k=l->i=k->best<k->l.length<N->ze z9j N (o,best,i,c)=some (pickL c o k l best)
 | l,0,_,_,_,_,_,_,h=>by omega
 | [],N+1,k,i,best,h1,h2,h3,_=>by
   have:=z00 h1;rw [z6,zat];unfold z59;simp only [pickL];rw [zF (by omega),zD]
 | x::l,N+1,k,i,best,h1,h2,h3,h4=>by
   obtain ⟨g1,g2,g3⟩:=zr h1;have hl:=hc.1;subst h2;have e1:w64 ((k:Int)+1)=((k+1:Nat):Int):=by rw [zf (by omega) (by omega)];rfl
   have ih:=fun b hb=>z078 hc (o:=o) l N (k+1) _ b g3 rfl hb (by simp at h4;omega)
   rw [z6,zat];unfold z59;simp only [Int.toNat_natCast,g2,pickL,e1,z5u hc,z7];rw [zT (show (k:Int)<c.blocks.length by omega),zC,ih best (by omega),ih k (by omega)];by_cases c1:z5t c o k=0
   · rw [zT c1,zC];by_cases c2:best<0
     · rw [zT c2,zC,if_pos ⟨c1,.inl c2⟩]
     · rw [zF c2,zD,zT (show (0:Int)<=k by omega),zT (show 0<=best by omega),zT (show best<c.blocks.length by omega)];simp only [zC];by_cases c3:x.erases<(c.blocks.getD best.toNat default).erases
       · rw [zT c3,zC,if_pos ⟨c1,.inr c3⟩]
       · rw [zF c3,zD,if_neg (by rintro ⟨_,h | h⟩;exact c2 h;exact c3 h)]
   · rw [zF c1,zD,if_neg (fun h=>c1 h.1)]
theorem zy9 {c:Chip} (hc:z0f c) (o:Int):zf0 (c,o)=some (pickT c o):=by
 have:=hc.1;refine zy 4294967297 fun N hN=>?_
 exact z078 hc c.blocks N 0 0 (-1) rfl rfl (by omega) (by omega)
def restT (c:Chip) (o:Int):Int:=if z5t c o o=1 then (c.blocks.getD o.toNat default).pages.length - (c.blocks.getD o.toNat default).next else 0
theorem state1 {c:Chip} {o b:Int} (h:z5t c o b=1):0<=b /\ b<c.blocks.length /\ (c.blocks.getD b.toNat default).bad=false /\ b=o /\ 0<=(c.blocks.getD b.toNat default).next /\ (c.blocks.getD b.toNat default).next<(c.blocks.getD b.toNat default).pages.length:=by
 unfold z5t at h;split at h
 · omega
 · split at h
   · omega
   · rename_i h1 h2;split at h
     · rename_i h3;exact ⟨by omega,by omega,by simpa using h2,h3⟩
     · unfold fcT at h;cases hx:anyW (c.blocks.getD b.toNat default).pages with
       | true=>rw [hx] at h;cases h
       | false =>
         rw [hx,zD] at h;split at h <;> omega
theorem zya {c:Chip} (hc:z0f c) (o:Int):z74 (c,o)=some (restT c o):=by
 have hl:=hc.1;show zas c o=_;unfold zas restT;by_cases h:z5t c o o=1
 · obtain ⟨h1,h2,h3,_,h4,h5⟩:=state1 h;have hb:=hc.get (show o.toNat<c.blocks.length by omega) default;rw [if_pos h,zF (show ¬ o<0 by omega),zD,zF (show ¬ (c.blocks.length:Int)<=o by omega),zD,z5u hc,z7,h,zT h1,zT h2,zf (by omega) (by omega)];rfl
 · rw [if_neg h];by_cases c1:o<0
   · rw [zT c1,zC]
   · rw [zF c1,zD];by_cases c2:(c.blocks.length:Int)<=o
     · rw [zT c2,zC]
     · rw [zF c2,zD,z5u hc,z7,zF h,Bool.not_false,zC]
theorem znh {c:Chip} {o:Int} (h:restT c o≠0):z5t c o o=1 /\ 0<=o /\ o<c.blocks.length:=by
 unfold restT at h;split at h
 · rename_i h1;obtain ⟨h2,h3,_⟩:=state1 h1;exact ⟨h1,h2,h3⟩
 · exact absurd rfl h
def fitsT (g:Geometry):Bool :=
 decide (1<=g.blocks)&&decide (g.blocks<=32)&&decide (2<=g.pages)&&decide (g.pages<=16)&&decide (1<=g.sectors)&&decide (g.sectors<=64)&&decide (0<=g.spare)&&decide (g.spare<=32)&&decide (2*g.sectors<(g.blocks - 2*g.spare - 3)*g.pages)
theorem z0am (g:Geometry):zak g=some (fitsT g):=by
 show zaj g=_;unfold zaj fitsT;by_cases c1:1<=g.blocks
 · by_cases c2:g.blocks<=32
   · by_cases c3:2<=g.pages
     · by_cases c4:g.pages<=16
       · by_cases c5:1<=g.sectors
         · by_cases c6:g.sectors<=64
           · by_cases c7:0<=g.spare
             · by_cases c8:g.spare<=32
               · have hm : -16000<=(g.blocks - 2*g.spare - 3)*g.pages /\ (g.blocks - 2*g.spare - 3)*g.pages<=16000:=by
                  have h1 : -100<=g.blocks - 2*g.spare - 3:=by omega
                  have h2:g.blocks - 2*g.spare - 3<=100:=by omega
                  generalize g.blocks - 2*g.spare - 3=x at h1 h2;constructor
                  · have:=Int.mul_le_mul_of_nonneg_right h1 (show 0<=g.pages by omega);omega
                  · have:=Int.mul_le_mul_of_nonneg_right h2 (show 0<=g.pages by omega);omega
                 rw [zf (n:=2*g.sectors) (by omega) (by omega),zf (n:=2*g.spare) (by omega) (by omega),zf (n:=g.blocks - 2*g.spare) (by omega) (by omega),zf (n:=g.blocks - 2*g.spare - 3) (by omega) (by omega),zf (n:=(g.blocks - 2*g.spare - 3)*g.pages) (by omega) (by omega)];simp only [zT c1,zT c2,zT c3,zT c4,zT c5,zT c6,zT c7,zT c8,zC,Bool.true_and]
               · simp [c1,c2,c3,c4,c5,c6,c7,c8]
             · simp [c1,c2,c3,c4,c5,c6,c7]
           · simp [c1,c2,c3,c4,c5,c6]
         · simp [c1,c2,c3,c4,c5]
       · simp [c1,c2,c3,c4]
     · simp [c1,c2,c3]
   · simp [c1,c2]
 · simp [c1]
def badsL:List Block->Int
 | []=>0
 | b::l=>(if b.bad=true then 1 else 0)+badsL l
def badsT (c:Chip):Int:=badsL c.blocks
theorem z02m:∀ (l:List Block),0<=badsL l /\ badsL l<=l.length
 | []=>by simp [badsL]
 | b::l=>by have:=z02m l;unfold badsL;simp only [List.length_cons];split <;> omega
theorem z079 {c:Chip} (hc:z0f c):∀ (l:List Block) (N k:Nat) (i s:Int),c.blocks.drop k=l->i=k->0<=s->s<=k->l.length<N->ze z9l N (s,i,c)=some (s+badsL l)
 | l,0,_,_,_,_,_,_,_,h=>by omega
 | [],N+1,k,i,s,h1,h2,h3,h4,_=>by
   have:=z00 h1;rw [z6,zax];unfold z5b;simp only [badsL,Int.add_zero];rw [zF (by omega),zD]
 | x::l,N+1,k,i,s,h1,h2,h3,h4,h5=>by
   obtain ⟨g1,g2,g3⟩:=zr h1;have hl:=hc.1;subst h2;have e1:w64 ((k:Int)+1)=((k+1:Nat):Int):=by rw [zf (by omega) (by omega)];rfl
   have ih:=fun s' h h'=>z079 hc l N (k+1) _ s' g3 rfl h h' (by simp at h5;omega)
   rw [z6,zax];unfold z5b;simp only [Int.toNat_natCast,g2,badsL,e1];rw [zT (show (k:Int)<c.blocks.length by omega),zT (show (0:Int)<=k by omega)];simp only [zC];cases hb:x.bad with
   | true=>rw [zC,if_pos rfl,zf (n:=s+1) (by omega) (by omega),ih (s+1) (by omega) (by omega)];congr 1;omega
   | false=>rw [zD,if_neg (by simp),ih s (by omega) (by omega)];congr 1;omega
theorem z0an {c:Chip} (hc:z0f c):zay c=some (badsT c):=by
 have:=hc.1;refine zy 4294967297 fun N hN=>?_
 have:=z079 hc c.blocks N 0 0 0 rfl rfl (by omega) (by omega) (by omega);rw [Int.zero_add] at this;exact this
def zDev:Device:=⟨⟨0,0,0,0⟩,⟨[],false,false,0⟩,⟨[],[]⟩,0,0⟩
def mtL (g:Geometry):Nat->List Block->Int->Option Int
 | _,[],o=>some o
 | i,b::l,o=>if (b.pages.length:Int)≠g.pages then none else mtL g (i+1) l (if o<0 /\ b.bad=false /\ 0<b.next /\ b.next<g.pages then (i:Int) else o)
def mountT (g:Geometry) (c:Chip):Device×Int :=
 if fitsT g=false \/ (c.blocks.length:Int)≠g.blocks then (zDev,1)
 else match mtL g 0 c.blocks (-1) with
  | none=>(zDev,1)
  | some o=>(⟨g,onT c,(replayT c g.sectors).1,(replayT c g.sectors).2,o⟩,0)
theorem z02n {g:Geometry} {c:Chip} (hc:z0f c) (hp:PagesOk c):∀ (l:List Block) (N k:Nat) (i o:Int),c.blocks.drop k=l->i=k->l.length<N->ze z7m N (o,i,g,c)=some (match mtL g k l o with
 | none=>(zDev,1)
 | some o=>(⟨g,onT c,(replayT c g.sectors).1,(replayT c g.sectors).2,o⟩,0))
 | l,0,_,_,_,_,_,h=>by omega
 | [],N+1,k,i,o,h1,h2,_=>by
   have:=z00 h1;rw [z6,z9e];unfold z44;simp only [mtL];rw [zF (by omega),zD,z09f hc hp,z7,s_On hc,z7]
 | x::l,N+1,k,i,o,h1,h2,h3=>by
   obtain ⟨g1,g2,g3⟩:=zr h1;have hl:=hc.1;subst h2;have e1:w64 ((k:Int)+1)=((k+1:Nat):Int):=by rw [zf (by omega) (by omega)];rfl
   have ih:=fun o'=>z02n (g:=g) hc hp l N (k+1) _ o' g3 rfl (by simp at h3;omega)
   rw [z6,z9e];unfold z44;simp only [Int.toNat_natCast,g2,mtL,e1];rw [zT (show (k:Int)<c.blocks.length by omega),zT (show (0:Int)<=k by omega)];simp only [zC,ih];by_cases c1:(x.pages.length:Int)=g.pages
   · rw [zT c1,Bool.not_true,zD,if_neg (by simp [c1])];by_cases c2:o<0
     · rw [zT c2,zC];cases c3:x.bad with
       | true=>rw [Bool.not_true,zD,if_neg (by simp)]
       | false =>
         rw [Bool.not_false,zC];by_cases c4:0<x.next
         · rw [zT c4,zC];by_cases c5:x.next<g.pages
           · rw [zT c5,zC,if_pos ⟨c2,rfl,c4,c5⟩]
           · rw [zF c5,zD,if_neg (fun h=>c5 h.2.2.2)]
         · rw [zF c4,zD,if_neg (fun h=>c4 h.2.2.1)]
     · rw [zF c2,zD,if_neg (fun h=>c2 h.1)]
   · rw [zF c1,Bool.not_false,zC,if_pos c1];rfl
theorem z0ci {g:Geometry} {c:Chip} (hc:z0f c) (hp:PagesOk c):zd4 (g,c)=some (mountT g c):=by
 have:=hc.1;refine zy 4294967297 fun N hN=>?_
 show z8e N g c=_;unfold z8e mountT;rw [z0am,z7];cases fitsT g with
 | false=>rfl
 | true =>
   rw [Bool.not_true,zD];by_cases c1:(c.blocks.length:Int)=g.blocks
   · rw [zT c1,Bool.not_true,zD,if_neg (by simp [c1])];exact z02n hc hp c.blocks N 0 0 (-1) rfl rfl (by omega)
   · rw [zF c1,Bool.not_false,zC,if_pos (.inr c1)];rfl
def formatT (g:Geometry) (bad:List Int):Device×Int :=
 if fitsT g=false \/ (newT g.blocks g.pages bad).2≠0 \/ g.spare<badsT (newT g.blocks g.pages bad).1 then (zDev,1) else mountT g (newT g.blocks g.pages bad).1
theorem z07a {n:Int} {m:Nat}:∀ (l:List Int) (bs:List Block),(∀ b∈bs,b.pages.length<=16 /\ ∀ p∈b.pages,p=z7w)->bs.length=m->(∀ b∈(newL n l bs).1.blocks,b.pages.length<=16 /\ ∀ p∈b.pages,p=z7w) /\ ((newL n l bs).1.blocks.length=m \/ (newL n l bs).1.blocks.length=0)
 | [],bs,h1,h2=>⟨h1,.inl h2⟩
 | x::l,bs,h1,h2=>by
   unfold newL;split
   · exact ⟨fun b hb=>by simp [zChip] at hb,.inr rfl⟩
   · refine z07a l _ (fun b hb=>?_) (by unfold ze9;simpa using h2);unfold ze9 at hb;by_cases hx:x.toNat<bs.length
     · rcases List.mem_or_eq_of_mem_set hb with h | rfl
       · exact h1 b h
       · exact h1 (bs.getD x.toNat default) (zo hx)
     · rw [List.set_eq_of_length_le (by omega)] at hb;exact h1 b hb
theorem z0cj (n p:Int) (bad:List Int):z0f (newT n p bad).1 /\ PagesOk (newT n p bad).1:=by
 unfold newT;split
 · exact ⟨⟨by simp [zChip],fun b hb=>by simp [zChip] at hb⟩,fun b hb=>by simp [zChip] at hb⟩
 · rename_i h;obtain ⟨h1,h2⟩:=z07a (n:=n) (m:=n.toNat) bad (List.replicate n.toNat ⟨List.replicate p.toNat z7w,0,0,false⟩) (fun b hb=>by
    obtain ⟨_,rfl⟩:=List.mem_replicate.1 hb;exact ⟨by simp;omega,fun q hq=>(List.mem_replicate.1 hq).2⟩) (by simp)
   refine ⟨⟨by omega,fun b hb=>by have:=(h1 b hb).1;omega⟩,fun b hb q hq=>?_⟩;rw [(h1 b hb).2 q hq];exact ⟨by simp [z7w],by simp [z7w]⟩
theorem z02o {g:Geometry} {bad:List Int} (hb:bad.length<4294967296):z6r (g,bad)=some (formatT g bad):=by
 obtain ⟨hc,hp⟩:=z0cj g.blocks g.pages bad;show z6q g bad=_;unfold z6q formatT;rw [z0am,z7];cases fitsT g with
 | false=>rfl
 | true =>
   rw [Bool.not_true,zD,z00u hb,z7];by_cases c1:(newT g.blocks g.pages bad).2=0
   · rw [zT c1,Bool.not_true,zD,z0an hc,z7];by_cases c2:g.spare<badsT (newT g.blocks g.pages bad).1
     · rw [zT c2,zC,if_pos (.inr (.inr c2))];rfl
     · rw [zF c2,zD,if_neg (by simp [c1];omega),z0ci hc hp,z7]
   · rw [zF c1,Bool.not_false,zC,if_pos (.inr (.inl c1))];rfl
def DevOk (d:Device):Prop:=z0f d.chip /\ TabOk d.table
end Clk
namespace Clk
open Go
def zFate:Fate:=⟨0,[],[],0⟩
def z0s (l:List Fate):Fate×List Fate:=match l with
 | []=>(zFate,[])
 | f::l=>(f,l)
theorem zmr (l:List Fate):z75 l=some (z0s l):=by
 show zau l=_;unfold zau;cases l with
 | nil=>rfl
 | cons f l =>
   rw [zF (by simp only [List.length_cons];omega),zD,zT (by simp only [List.length_cons];omega),zC,zT (by simp only [List.length_cons];omega),zC];rfl
def z5x (c:Chip) (o:Int):Int:=if restT c o=0 then (if restT c (pickT c (-1))=0 then -1 else pickT c (-1)) else o
theorem z09g {c:Chip} {o:Int} (h:0<=z5x c o):z5x c o<c.blocks.length:=by
 unfold z5x at h ⊢;split at h
 · rename_i h1;rw [if_pos h1];split at h
   · omega
   · rename_i h2;rw [if_neg h2];exact (znh h2).2.2
 · rename_i h1;rw [if_neg h1];exact (znh h1).2.2
def nextOf (c:Chip) (o:Int):Int:=(c.blocks.getD o.toNat default).next
def rT (page:Page) (fs:List Fate) (d:Device):Chip×Int:=z0r d.chip (z5x d.chip d.opn) (nextOf d.chip (z5x d.chip d.opn)) page (z0s fs).1
def putL (page:Page) (rec:Record):Nat->List Fate->Device->Device×List Fate×Int
 | 0,fs,d=>(⟨d.geometry,d.chip,d.table,d.seq,-1⟩,fs,40)
 | n+1,fs,d =>
   if z5x d.chip d.opn<0 then (⟨d.geometry,d.chip,d.table,d.seq,-1⟩,fs,40)
   else if (rT page fs d).2=0 then (⟨d.geometry,(rT page fs d).1,applyT d.table ⟨z4t (z5x d.chip d.opn) (nextOf d.chip (z5x d.chip d.opn)),rec⟩,w64 (d.seq+1),z5x d.chip d.opn⟩,(z0s fs).2,0)
   else if (rT page fs d).2=53 then putL page rec n (z0s fs).2 ⟨d.geometry,(rT page fs d).1,d.table,d.seq,-1⟩
   else (⟨d.geometry,(rT page fs d).1,d.table,d.seq,z5x d.chip d.opn⟩,(z0s fs).2,(rT page fs d).2)
def gbL:List Block->Nat
 | []=>0
 | b::l=>(if b.bad=true then 0 else 1)+gbL l
theorem z07b:∀ (l:List Block),gbL l<=l.length
 | []=>Nat.le_refl _
 | b::l=>by have:=z07b l;unfold gbL;simp only [List.length_cons];split <;> omega
theorem z00w:∀ {l:List Block} {i:Nat} {y d:Block},i<l.length->(l.getD i d).bad=false->y.bad=true->gbL (l.set i y)+1=gbL l
 | [],i,y,d,h,_,_=>by simp at h
 | b::l,0,y,d,h,h1,h2=>by
   have h3:b.bad=false:=h1;simp only [List.set_cons_zero,gbL];rw [if_pos h2,if_neg (by simp [h3])];omega
 | b::l,i+1,y,d,h,h1,h2=>by
   have:=z00w (l:=l) (i:=i) (y:=y) (d:=d) (by simpa using h) (by simpa using h1) h2;simp only [List.set_cons_succ,gbL];omega
theorem z09h {c:Chip} (h:z0f c) (b p:Int) (page:Page) (f:Fate):z0f (z0r c b p page f).1:=by
 unfold z0r;split
 · exact h
 · split
   · rename_i hc;obtain ⟨h1,h2,_⟩:=z68.1 hc;refine ⟨by simpa using h.1,fun x hx=>?_⟩;rcases List.mem_or_eq_of_mem_set hx with h3 | rfl
     · exact h.2 x h3
     · have:=h.get (show b.toNat<c.blocks.length by omega) default;simpa [z6x] using this
   · exact h
theorem zsa {c:Chip} {b p:Int} {page:Page} {f:Fate} (h:(z0r c b p page f).2=53):gbL (z0r c b p page f).1.blocks+1=gbL c.blocks:=by
 unfold z0r at h ⊢;split at h
 · simp at h
 · rename_i ho;rw [if_neg ho];split at h
   · rename_i hc;rw [if_pos hc];obtain ⟨h1,h2,h3,h4,h5,_⟩:=z68.1 hc;have hk:f.kind=1:=by
      simp only at h;split at h
      · omega
      · split at h
        · assumption
        · omega
     exact z00w (show b.toNat<c.blocks.length by omega) h5 (by simp [z6x,hk])
   · unfold brkT at h;simp at h
theorem zms {w:Write} {page:Page} (hw:RecOk w.record):∀ (n N:Nat) (fs:List Fate) (d:Device),DevOk d->gbL d.chip.blocks<n->n<=N->ze z6o N (fs,d,w,page)=some (putL page w.record n fs d)
 | 0,_,_,_,_,h,_=>by omega
 | n+1,0,_,_,_,_,h=>by omega
 | n+1,N+1,fs,d,hd,h1,h2=>by
   have hc:=hd.1;rw [z6,zlf];unfold zbp;simp only [zya hc,zy9 hc,z7,zmr,zpv hc,z8u,putL];have tail:∀ o:Int,z5x d.chip d.opn=o->0<=o ->
    (cond (decide (0<=o)) (cond (decide (o<(d.chip.blocks.length:Int))) (
      cond (decide ((z0r d.chip o (d.chip.blocks.getD o.toNat default).next page (z0s fs).1).2=0))
       (Option.bind (z34 (d.table,(Found.mk (z4t o (d.chip.blocks.getD o.toNat default).next) w.record))) fun r11 =>
       some ((Device.mk d.geometry (z0r d.chip o (d.chip.blocks.getD o.toNat default).next page (z0s fs).1).1 r11 (w64 (d.seq+1)) o),(z0s fs).2,(0:Int)))
       (cond (decide ((z0r d.chip o (d.chip.blocks.getD o.toNat default).next page (z0s fs).1).2=53))
         (ze z6o N ((z0s fs).2,(Device.mk d.geometry (z0r d.chip o (d.chip.blocks.getD o.toNat default).next page (z0s fs).1).1 d.table d.seq (-1)),w,page))
         (some ((Device.mk d.geometry (z0r d.chip o (d.chip.blocks.getD o.toNat default).next page (z0s fs).1).1 d.table d.seq o),(z0s fs).2,(z0r d.chip o (d.chip.blocks.getD o.toNat default).next page (z0s fs).1).2)))) none) none)=some (if z5x d.chip d.opn<0 then (⟨d.geometry,d.chip,d.table,d.seq,-1⟩,fs,40)
   else if (rT page fs d).2=0 then (⟨d.geometry,(rT page fs d).1,applyT d.table ⟨z4t (z5x d.chip d.opn) (nextOf d.chip (z5x d.chip d.opn)),w.record⟩,w64 (d.seq+1),z5x d.chip d.opn⟩,(z0s fs).2,0)
   else if (rT page fs d).2=53 then putL page w.record n (z0s fs).2 ⟨d.geometry,(rT page fs d).1,d.table,d.seq,-1⟩
   else (⟨d.geometry,(rT page fs d).1,d.table,d.seq,z5x d.chip d.opn⟩,(z0s fs).2,(rT page fs d).2)):=by
    intro o ho hnn;have hlt:=z09g (c:=d.chip) (o:=d.opn) (by rw [ho];exact hnn);have hr:rT page fs d=z0r d.chip o (d.chip.blocks.getD o.toNat default).next page (z0s fs).1:=by unfold rT nextOf;rw [ho]
    have hx:nextOf d.chip o=(d.chip.blocks.getD o.toNat default).next:=rfl;rw [ho] at hlt;rw [ho,if_neg (by omega),hx,hr,zT hnn,zC,zT hlt,zC,zkh hd.2 hw,z7];by_cases c1:(z0r d.chip o (d.chip.blocks.getD o.toNat default).next page (z0s fs).1).2=0
    · rw [zT c1,zC,if_pos c1]
    · rw [zF c1,zD,if_neg c1];by_cases c2:(z0r d.chip o (d.chip.blocks.getD o.toNat default).next page (z0s fs).1).2=53
      · rw [zT c2,zC,if_pos c2];have hf:=zsa c2;exact zms hw n N _ _ ⟨z09h hc _ _ _ _,hd.2⟩ (by show gbL (z0r _ _ _ _ _).1.blocks<n;omega) (by omega)
      · rw [zF c2,zD,if_neg c2]
   by_cases h3:restT d.chip d.opn=0
   · rw [zT h3,zC];by_cases h4:pickT d.chip (-1)<0
     · have ho:z5x d.chip d.opn = -1:=by
        unfold z5x;rw [if_pos h3,if_pos];unfold restT;rw [if_neg];intro h;have:=(state1 h).1;omega
       rw [zT h4,zC,ho,if_pos (by omega)]
     · rw [zF h4,zD];by_cases h5:restT d.chip (pickT d.chip (-1))=0
       · have ho:z5x d.chip d.opn = -1:=by unfold z5x;rw [if_pos h3,if_pos h5]
         rw [zT h5,zC,ho,if_pos (by omega)]
       · rw [zF h5,zD];exact tail (pickT d.chip (-1)) (by unfold z5x;rw [if_pos h3,if_neg h5]) (by omega)
   · have hp:=znh h3;rw [zF h3,zD,zF (show ¬ d.opn<0 by omega),zD,zD];exact tail d.opn (by unfold z5x;rw [if_neg h3]) (by omega)
def seqW (d:Device) (w:Write):Write:=⟨w.data,⟨w.record.kind,d.seq,w.record.keys,w.record.values⟩⟩
def putD (d:Device) (w:Write) (fs:List Fate):Device×List Fate×Int :=
 if (makeT (seqW d w)).2≠0 then (d,fs,(makeT (seqW d w)).2) else putL (makeT (seqW d w)).1 (seqW d w).record (d.chip.blocks.length+1) fs d
theorem zpx {d:Device} {w:Write} {fs:List Fate} (hd:DevOk d) (hw:WriteOk w):z2q (d,w,fs)=some (putD d w fs):=by
 refine zy (d.chip.blocks.length+1) fun N hN=>?_
 show zd8 N d w fs=_;have hm:=zy2 (w:=seqW d w) hw;unfold seqW at hm;unfold zd8 putD;rw [hm,z7];show cond (!decide ((makeT (seqW d w)).2=0)) _ _=_;by_cases c1:(makeT (seqW d w)).2=0
 · rw [zT c1,Bool.not_true,zD,if_neg (by simp [c1])];have:=z07b d.chip.blocks;exact zms (w:=seqW d w) hw.1 _ N fs d hd (by omega) hN
 · rw [zF c1,Bool.not_false,zC,if_pos c1];rfl
end Clk
namespace Clk
open Go
def smalls:List Geometry:=[⟨8,4,5,1⟩,⟨5,4,3,0⟩,⟨12,3,5,2⟩,⟨6,6,8,0⟩,⟨16,2,4,3⟩,⟨10,5,12,1⟩]
def smallT (n:Int):Geometry:=smalls.getD (n.toNat % 6) default
theorem z07c {n:Int} (h0:0<=n) (h1:n<256):z8g n=some (smallT n):=by
 show z8f n=_;unfold z8f;obtain ⟨k,rfl⟩:∃ k:Nat,n=k:=⟨n.toNat,by omega⟩;have e:Int.tmod (w64 (k:Int)) (([(Geometry.mk 8 4 5 1),(Geometry.mk 5 4 3 0),(Geometry.mk 12 3 5 2),(Geometry.mk 6 6 8 0),(Geometry.mk 16 2 4 3),(Geometry.mk 10 5 12 1)].length:Nat):Int)=((k % 6:Nat):Int):=by
  rw [zf (by omega) (by omega)];exact zgt k 6
 rw [e,zF (by decide),Bool.not_false,zC,zT (show (0:Int)<=((k % 6:Nat):Int) by omega),zC,zT (by simp only [List.length_cons,List.length_nil];omega),zC,zT (by simp only [List.length_cons,List.length_nil];omega),zC];rfl
theorem z00x {P:Geometry->Prop} (h:∀ g∈smalls,P g) (n:Int):P (smallT n):=h _ (zo (by show n.toNat % 6<6;omega))
def torn:Str:=[116,111,114,110]
def fate1 (n:Int):Fate:=⟨if 236<=n then 2 else if 200<=n then 1 else 0,torn,[[],[120],[2,1]].getD (Int.tmod n 3).toNat [],Int.tmod (Int.tdiv n 8) 5⟩
end Clk
namespace Clk
open Go
theorem z09i (r:Record) (data:Str):(encT r data).1.length<=204:=by
 unfold encT;split
 · simp
 · rename_i h;have:=zy0 (r:=r) (by cases hr:rightT r with
    | true=>rfl
    | false=>exact absurd (.inl hr) h)
   simp only [List.length_append,bytes4,List.length_cons,List.length_nil];omega
theorem z09j {w:Write} (h:WriteOk w):PageOk (makeT w).1:=by
 have:=z09i w.record w.data;unfold makeT;split
 · exact ⟨by simp,by simp⟩
 · exact ⟨by simp only;omega,h.2⟩
theorem z07d (all:Bool) (n:Int):∀ (i:Nat) (l:List Page),(∀ p∈l,PageOk p)->∀ p∈clrT all n i l,PageOk p
 | _,[],_,p,hp=>by cases hp
 | i,q::l,h,p,hp=>by
   unfold clrT at hp;rcases List.mem_cons.1 hp with rfl | hp
   · split
     · exact ⟨by simp [z7w],by simp [z7w]⟩
     · exact h _ List.mem_cons_self
   · exact z07d all n (i+1) l (fun x hx=>h x (List.mem_cons_of_mem _ hx)) p hp
theorem z04e {c:Chip} (h:PagesOk c) (b:Int) (f:Fate):PagesOk (zgu c b f).1:=by
 unfold zgu;split
 · exact h
 · split
   · rename_i hc;unfold canEra at hc;simp only [Bool.and_eq_true,decide_eq_true_eq] at hc;intro x hx;rcases List.mem_or_eq_of_mem_set hx with h3 | rfl
     · exact h x h3
     · have:=h _ (zo (d:=default) (show b.toNat<c.blocks.length by omega));unfold z4l;split
       · exact this
       · exact z07d _ _ 0 _ this
   · exact h
theorem z00y {c:Chip} (h:PagesOk c) (b p:Int) {page:Page} {f:Fate} (hp:PageOk page) (hf:f.tag.length<4294967296 /\ f.data.length<4294967296):PagesOk (z0r c b p page f).1:=by
 unfold z0r;split
 · exact h
 · split
   · rename_i hc;obtain ⟨h1,h2,_⟩:=z68.1 hc;intro x hx;rcases List.mem_or_eq_of_mem_set hx with h3 | rfl
     · exact h x h3
     · have h4:=h _ (zo (d:=default) (show b.toNat<c.blocks.length by omega));unfold z6x;intro q hq;rcases List.mem_or_eq_of_mem_set hq with h5 | rfl
       · exact h4 q h5
       · split
         · exact ⟨hp.1,hp.2⟩
         · exact hf
   · exact h
theorem z04f (n:Int):smallT n∈smalls:=z00x (P:=(·∈smalls)) (fun g h=>h) n
end Clk
namespace Clk
open Go
def fresh (g:Geometry):Device :=
 ⟨g,⟨List.replicate g.blocks.toNat ⟨List.replicate g.pages.toNat z7w,0,0,false⟩,false,false,0⟩,⟨List.replicate g.sectors.toNat (-1),List.replicate g.sectors.toNat (-1)⟩,0,-1⟩
end Clk
namespace Clk
open Go
end Clk
namespace Clk
open Go
end Clk
namespace Clk
open Go
end Clk
namespace Clk
open Go
end Clk
namespace Clk
open Go
end Clk
namespace Clk
open Go
end Clk
namespace Clk
open Go
end Clk
namespace Clk
open Go
end Clk
namespace Clk
open Go
def z8v (c:Chip) (place:Int):Page×Bool :=
 if place<0 \/ (c.blocks.length:Int)<=place / 16 \/ 32<=place / 16 \/ ((c.blocks.getD (place / 16).toNat default).pages.length:Int)<=place % 16 then (z7w,false)
 else ((c.blocks.getD (place / 16).toNat default).pages.getD (place % 16).toNat default,true)
def I64 (n:Int):Prop := -9223372036854775808<=n /\ n<9223372036854775808
theorem z00z (c:Chip) {place:Int} (hp:I64 place):zi8 (c,place)=some (z8v c place):=by
 obtain ⟨p1,p2⟩:=hp;show zda c place=_;unfold zda z8v;by_cases c1:place<0
 · rw [zT c1,zC,if_pos (.inl c1)];rfl
 · rw [zF c1,zD,Int.tdiv_eq_ediv_of_nonneg (by omega),Int.tmod_eq_emod_of_nonneg (by omega),zf (n:=place / 16) (by omega) (by omega)];by_cases c2:min (c.blocks.length:Int) 32<=place / 16
   · rw [zT c2,zC,if_pos (by omega)];rfl
   · rw [zF c2,zD,zT (show 0<=place / 16 by omega),zT (show place / 16<(c.blocks.length:Int) by omega)];simp only [zC];by_cases c3:((c.blocks.getD (place / 16).toNat default).pages.length:Int)<=place % 16
     · rw [zT c3,zC,if_pos (by omega)];rfl
     · rw [zF c3,zD,zT (show 0<=place % 16 by omega),zT (show place % 16<((c.blocks.getD (place / 16).toNat default).pages.length:Int) by omega),if_neg (by omega)];rfl
theorem zbb (c:Chip) {place:Int} (hp:I64 place):z7a (c,place)=some (z8v c place):=by
 obtain ⟨p1,p2⟩:=hp;show zb1 c place=_;unfold zb1 z8v;by_cases c1:place<0
 · rw [zT c1,zC,if_pos (.inl c1)];rfl
 · rw [zF c1,zD,Int.tdiv_eq_ediv_of_nonneg (by omega),Int.tmod_eq_emod_of_nonneg (by omega),zf (n:=place / 16) (by omega) (by omega)];by_cases c2:(c.blocks.length:Int)<=place / 16
   · rw [zT c2,zC,if_pos (by omega)];rfl
   · rw [zF c2,zD];by_cases c4:32<=place / 16
     · rw [zT c4,zC,if_pos (by omega)];rfl
     · rw [zF c4,zD,zT (show 0<=place / 16 by omega),zT (show place / 16<(c.blocks.length:Int) by omega)];simp only [zC];by_cases c3:((c.blocks.getD (place / 16).toNat default).pages.length:Int)<=place % 16
       · rw [zT c3,zC,if_pos (by omega)];rfl
       · rw [zF c3,zD,zT (show 0<=place % 16 by omega),zT (show place % 16<((c.blocks.getD (place / 16).toNat default).pages.length:Int) by omega),if_neg (by omega)];rfl
end Clk
namespace Clk
open Go
def hasT (c:Chip) (t:Table) (s:Int):Str:=if s<0 \/ (t.map.length:Int)<=s then [] else (z8v c (t.map.getD s.toNat 0)).1.data
def MapR (t:Table):Prop:=∀ v∈t.map,I64 v
theorem z04g {c:Chip} {t:Table} (h:MapR t) (s:Int):zgr (c,t,s)=some (hasT c t s):=by
 show zgq c t s=_;unfold zgq hasT;by_cases c1:s<0
 · rw [zT c1,zC,if_pos (.inl c1)]
 · rw [zF c1,zD];by_cases c2:(t.map.length:Int)<=s
   · rw [zT c2,zC,if_pos (.inr c2)]
   · rw [zF c2,zD,zT (show 0<=s by omega),zT (show s<(t.map.length:Int) by omega),if_neg (by omega),z00z _ (h _ (zo (by omega))),z7];rfl
theorem zix {c:Chip} {t:Table} (h:MapR t) (s:Int):z9m (c,t,s)=some (hasT c t s):=by
 show zdb c t s=_;unfold zdb hasT;by_cases c1:s<0
 · rw [zT c1,zC,if_pos (.inl c1)]
 · rw [zF c1,zD];by_cases c2:(t.map.length:Int)<=s
   · rw [zT c2,zC,if_pos (.inr c2)]
   · rw [zF c2,zD,zT (show 0<=s by omega),zT (show s<(t.map.length:Int) by omega),if_neg (by omega),zbb _ (h _ (zo (by omega))),z7];rfl
def allD (d:Device):List Str:=(List.range d.table.map.length).map fun s:Nat=>hasT d.chip d.table s
theorem z07e {d:Device} (h:MapR d.table) (hl:d.table.map.length<4294967296):∀ (m N k:Nat) (i:Int),k+m=d.table.map.length->i=k->m<N->ze zbq N (i,d,((List.range k).map fun s:Nat=>hasT d.chip d.table s))=some (allD d)
 | m,0,_,_,_,_,h=>by omega
 | 0,N+1,k,i,h1,h2,_=>by
   rw [z6,zco];unfold z6t allD;dsimp only;rw [zF (by omega),zD,show k=d.table.map.length by omega]
 | m+1,N+1,k,i,h1,h2,h3=>by
   subst h2;rw [z6,zco];unfold z6t;simp only [List.length_map,List.length_range,List.length_cons,List.length_nil];rw [zT (show (k:Int)<(d.table.map.length:Int) by omega),zC,zix h,z7,zT (by omega),zT (by omega)];simp only [zC];have e:((List.range k).map fun s:Nat=>hasT d.chip d.table s)++[hasT d.chip d.table k]=((List.range (k+1)).map fun s:Nat=>hasT d.chip d.table s):=by
    simp only [List.range_succ,List.map_append,List.map_cons,List.map_nil]
   rw [e];exact z07e h hl m N (k+1) _ (by omega) (by rw [zf (by omega) (by omega)];omega) (by omega)
theorem z010 {d:Device} (h:MapR d.table) (hl:d.table.map.length<4294967296):z9n d=some (allD d):=by
 refine zy (d.table.map.length+1) fun N hN=>?_
 exact z07e h hl d.table.map.length N 0 0 (by omega) rfl (by omega)
def resT (d:Device):Int:=2+2*max (d.geometry.spare - badsT d.chip) 0
theorem z04h {c:Chip} (hc:z0f c):0<=badsT c /\ badsT c<4294967296:=by
 have:=z02m c.blocks;have:=hc.1;unfold badsT;omega
theorem zge {d:Device} (hc:z0f d.chip) (hg:0<=d.geometry.spare /\ d.geometry.spare<4294967296):z9o d=some (resT d):=by
 have:=z04h hc;show z5c d=_;unfold z5c resT;rw [z0an hc,z7,zf (n:=d.geometry.spare - badsT d.chip) (by omega) (by omega),zf (n:=2*max (d.geometry.spare - badsT d.chip) 0) (by omega) (by omega),zf (by omega) (by omega)]
end Clk
namespace Clk
open Go
def blk (c:Chip) (i:Nat):Block:=c.blocks.getD i default
def wrt (c:Chip) (v:Int):Prop:=0<=v /\ (v / 16).toNat<c.blocks.length /\ v % 16<(blk c (v / 16).toNat).next
theorem z3h {α:Type} {l:List α} {i j:Nat} {a d:α}:(l.set i a).getD j d=if i=j /\ i<l.length then a else l.getD j d:=by
 rw [zI,zI,List.getElem?_set];by_cases h:i=j
 · subst h;by_cases h2:i<l.length
   · simp [h2]
   · simp [h2]
 · simp [h]
theorem z0u {l:List Int} {i:Nat} {a b:Int}:(l.set i a).count b<=l.count b+(if a=b then 1 else 0):=by
 by_cases h:i<l.length
 · rw [List.count_set h];by_cases e:a=b
   · subst e;rw [if_pos rfl];simp only [beq_self_eq_true,if_true];omega
   · have e2:(a==b)=false:=by simpa using e
     rw [if_neg e,e2];simp only [Bool.false_eq_true,if_false];omega
 · rw [List.set_eq_of_length_le (by omega)];omega
theorem zc6 {l:List Int} {i:Nat} {a v:Int} (h:v∈l.set i a):v∈l \/ v=a:=(List.mem_or_eq_of_mem_set h)
theorem zuu {l:List Int} {i:Nat} {d:Int} (h:i<l.length):l.set i (l.getD i d)=l:=by
 rw [zI,zH h];exact List.set_getElem_self h
structure TaI (S:Nat) (c:Chip) (t:Table):Prop where
 lm:t.map.length=S
 lb:t.by_.length=S
 vm:∀ v∈t.map,v = -1 \/ wrt c v
 vb:∀ v∈t.by_,v = -1 \/ wrt c v
 cm:∀ v,0<=v->t.map.count v<=8
 cb:∀ v,0<=v->t.by_.count v<=8
 tw:∀ s s',s<S->s'<S->0<=t.map.getD s 0->t.by_.getD s' 0=t.map.getD s 0->t.map.getD s' 0=t.map.getD s 0
def Proper (r:Record) (t:Table):Prop :=
 (r.kind=1 /\ r.keys.length<=8) \/ (r.kind=2 /\ r.keys.length<=8 /\ r.values=r.keys.map fun k=>t.map.getD k.toNat 0) \/ ∃ k v,r.kind=2 /\ r.keys=[k] /\ r.values=[v] /\ (v = -1 \/ (v∈t.map /\ 0<=v /\ t.map.count v<8))
structure Mid (S:Nat) (c:Chip) (q:Int) (n:Nat) (t:Table):Prop where
 lm:t.map.length=S
 lb:t.by_.length=S
 vm:∀ v∈t.map,v = -1 \/ wrt c v
 vb:∀ v∈t.by_,v = -1 \/ wrt c v
 cm:∀ v,0<=v->v≠q->t.map.count v<=8
 cb:∀ v,0<=v->v≠q->t.by_.count v<=8
 cmq:t.map.count q<=n
 cbq:t.by_.count q<=n
 tw:∀ s s',s<S->s'<S->0<=t.map.getD s 0->t.by_.getD s' 0=t.map.getD s 0->t.map.getD s' 0=t.map.getD s 0
theorem Mid.done {S:Nat} {c:Chip} {q:Int} {n:Nat} {t:Table} (h:Mid S c q n t) (hn:n<=8):TaI S c t :=
 ⟨h.lm, h.lb, h.vm, h.vb, fun v hv => by by_cases e : v = q; · subst e; exact Nat.le_trans h.cmq hn
                                         · exact h.cm v hv e, fun v hv => by by_cases e : v = q; · subst e; exact Nat.le_trans h.cbq hn
                                                                             · exact h.cb v hv e,h.tw⟩
theorem Mid.more {S:Nat} {c:Chip} {q:Int} {n m:Nat} {t:Table} (h:Mid S c q n t) (hn:n<=m):Mid S c q m t:=⟨h.lm,h.lb,h.vm,h.vb,h.cm,h.cb,Nat.le_trans h.cmq hn,Nat.le_trans h.cbq hn,h.tw⟩
theorem TaI.mid {S:Nat} {c c':Chip} {q:Int} {t:Table} (h:TaI S c t) (hc:∀ v,wrt c v->wrt c' v) (hq:¬ wrt c q) (hq0:0<=q):Mid S c' q 0 t /\ q∉t.map /\ q∉t.by_:=by
 have n1:q∉t.map:=fun hm=>(h.vm q hm).elim (fun e=>by omega) hq
 have n2:q∉t.by_:=fun hm=>(h.vb q hm).elim (fun e=>by omega) hq
 exact ⟨⟨h.lm,h.lb,fun v hv=>(h.vm v hv).imp id (hc v),fun v hv=>(h.vb v hv).imp id (hc v),fun v h0 _=>h.cm v h0,fun v h0 _=>h.cb v h0,by rw [List.count_eq_zero.2 n1];exact Nat.le_refl _,by rw [List.count_eq_zero.2 n2];exact Nat.le_refl _,h.tw⟩,n1,n2⟩
theorem zgv {l:List Int} {s:Nat} (h:s<l.length):l.getD s 0∈l:=zo h
theorem tsA {S:Nat} {c:Chip} {q:Int} {n k:Nat} {t:Table} (hk:k<S) (hq:wrt c q) (h:Mid S c q n t) (hm:∀ s,s<S->t.by_.getD s 0=q->t.map.getD s 0=q) :
 Mid S c q (n+1) ⟨t.map.set k q,t.by_.set k q⟩ /\ ∀ s,s<S->(t.by_.set k q).getD s 0=q->(t.map.set k q).getD s 0=q:=by
 have hkm:k<t.map.length:=by rw [h.lm];exact hk
 have hkb:k<t.by_.length:=by rw [h.lb];exact hk
 refine ⟨⟨by simp [h.lm],by simp [h.lb],fun v hv=>?_,fun v hv=>?_,fun v h0 hne=>?_,fun v h0 hne=>?_,?_,?_,fun s s' hs hs' h0 e=>?_⟩,fun s hs e=>?_⟩
 · rcases zc6 hv with h1 | rfl
   · exact h.vm v h1
   · exact .inr hq
 · rcases zc6 hv with h1 | rfl
   · exact h.vb v h1
   · exact .inr hq
 · have:=z0u (l:=t.map) (i:=k) (a:=q) (b:=v);rw [if_neg (fun e=>hne e.symm)] at this;have:=h.cm v h0 hne;show (t.map.set k q).count v<=8;omega
 · have:=z0u (l:=t.by_) (i:=k) (a:=q) (b:=v);rw [if_neg (fun e=>hne e.symm)] at this;have:=h.cb v h0 hne;show (t.by_.set k q).count v<=8;omega
 · have:=z0u (l:=t.map) (i:=k) (a:=q) (b:=q);rw [if_pos rfl] at this;have:=h.cmq;show (t.map.set k q).count q<=_;omega
 · have:=z0u (l:=t.by_) (i:=k) (a:=q) (b:=q);rw [if_pos rfl] at this;have:=h.cbq;show (t.by_.set k q).count q<=_;omega
 · simp only [z3h] at h0 e ⊢;simp only [hkm,hkb,and_true] at h0 e ⊢;by_cases e1:k=s'
   · rw [if_pos e1] at e ⊢;exact e
   · rw [if_neg e1] at e ⊢;by_cases e2:k=s
     · rw [if_pos e2] at e h0 ⊢;exact hm s' hs' e
     · rw [if_neg e2] at e h0 ⊢;exact h.tw s s' hs hs' h0 e
 · simp only [z3h,hkm,hkb,and_true] at e ⊢;by_cases e1:k=s
   · rw [if_pos e1]
   · rw [if_neg e1] at e ⊢;exact hm s hs e
theorem tsB {S:Nat} {c:Chip} {q:Int} {n k:Nat} {t:Table} (hk:k<S) (hq:wrt c q) (h:Mid S c q n t) (hm:q∉t.map):Mid S c q (n+1) ⟨t.map,t.by_.set k q⟩:=by
 have hkb:k<t.by_.length:=by rw [h.lb];exact hk
 refine ⟨h.lm,by simp [h.lb],h.vm,fun v hv=>?_,h.cm,fun v h0 hne=>?_,Nat.le_succ_of_le h.cmq,?_,fun s s' hs hs' h0 e=>?_⟩
 · rcases zc6 hv with h1 | rfl
   · exact h.vb v h1
   · exact .inr hq
 · have:=z0u (l:=t.by_) (i:=k) (a:=q) (b:=v);rw [if_neg (fun e=>hne e.symm)] at this;have:=h.cb v h0 hne;show (t.by_.set k q).count v<=8;omega
 · have:=z0u (l:=t.by_) (i:=k) (a:=q) (b:=q);rw [if_pos rfl] at this;have:=h.cbq;show (t.by_.set k q).count q<=_;omega
 · simp only [z3h,hkb,and_true] at e;by_cases e1:k=s'
   · rw [if_pos e1] at e;exact absurd (e▸zgv (by rw [h.lm];exact hs)) hm
   · rw [if_neg e1] at e;exact h.tw s s' hs hs' h0 e
theorem tsC {S:Nat} {c:Chip} {q v0:Int} {k:Nat} {t:Table} (hk:k<S) (hq:wrt c q) (h:Mid S c q 0 t) (hm:q∉t.map) (hv:v0 = -1 \/ (v0∈t.map /\ 0<=v0 /\ t.map.count v0<8)):Mid S c q 1 ⟨t.map.set k v0,t.by_.set k q⟩:=by
 have hkm:k<t.map.length:=by rw [h.lm];exact hk
 have hkb:k<t.by_.length:=by rw [h.lb];exact hk
 have hv0:v0≠q:=by
  rcases hv with rfl | ⟨h1,_⟩
  · have:=hq.1;omega
  · rintro rfl;exact hm h1
 refine ⟨by simp [h.lm],by simp [h.lb],fun v hv'=>?_,fun v hv=>?_,fun v h0 hne=>?_,fun v h0 hne=>?_,?_,?_,fun s s' hs hs' h0 e=>?_⟩
 · rcases zc6 hv' with h1 | rfl
   · exact h.vm v h1
   · rcases hv with h1 | ⟨h1,_⟩
     · exact .inl h1
     · exact h.vm v h1
 · rcases zc6 hv with h1 | rfl
   · exact h.vb v h1
   · exact .inr hq
 · have hle:=z0u (l:=t.map) (i:=k) (a:=v0) (b:=v);have h8:=h.cm v h0 hne;show (t.map.set k v0).count v<=8;by_cases e:v0=v
   · rw [if_pos e] at hle;rcases hv with h1 | ⟨_,_,h1⟩
     · omega
     · rw [e] at h1;omega
   · rw [if_neg e] at hle;omega
 · have:=z0u (l:=t.by_) (i:=k) (a:=q) (b:=v);rw [if_neg (fun e=>hne e.symm)] at this;have:=h.cb v h0 hne;show (t.by_.set k q).count v<=8;omega
 · have:=z0u (l:=t.map) (i:=k) (a:=v0) (b:=q);rw [if_neg hv0] at this;have:=h.cmq;show (t.map.set k v0).count q<=_;omega
 · have:=z0u (l:=t.by_) (i:=k) (a:=q) (b:=q);rw [if_pos rfl] at this;have:=h.cbq;show (t.by_.set k q).count q<=_;omega
 · simp only [z3h] at h0 e ⊢;simp only [hkm,hkb,and_true] at h0 e ⊢;by_cases e1:k=s'
   · subst e1;rw [if_pos rfl] at e ⊢;by_cases e2:k=s
     · rw [if_pos e2] at e ⊢
     · rw [if_neg e2] at e ⊢;exact absurd (e▸zgv (by rw [h.lm];exact hs)) hm
   · rw [if_neg e1] at e ⊢;by_cases e2:k=s
     · rw [if_pos e2] at e h0 ⊢;rcases hv with h1 | ⟨h1,_,_⟩
       · omega
       · obtain ⟨s1,hs1,e3⟩:=List.getElem_of_mem h1;have e4:t.map.getD s1 0=v0:=by rw [zI,zH hs1,e3];rfl
         rw [<- e4] at e h0 ⊢;exact h.tw s1 s' (by rw [<- h.lm];exact hs1) hs' h0 e
     · rw [if_neg e2] at e h0 ⊢;exact h.tw s s' hs hs' h0 e
theorem z0dn {q:Int} {r:Record} (hr:r.kind=1) (i:Nat) {k:Nat} {t:Table} (hm:k<t.map.length) (hb:k<t.by_.length):app1 ⟨q,r⟩ i (k:Int) t=⟨t.map.set k q,t.by_.set k q⟩:=by
 unfold app1;rw [if_pos ⟨by omega,by omega,by omega⟩,if_pos hr];rfl
theorem z0ao {q:Int} {r:Record} (hr:r.kind=2) {i:Nat} (hi:i<r.values.length) {k:Nat} {t:Table} (hm:k<t.map.length) (hb:k<t.by_.length):app1 ⟨q,r⟩ i (k:Int) t=⟨t.map.set k (r.values.getD i 0),t.by_.set k q⟩:=by
 unfold app1;rw [if_pos ⟨by omega,by omega,by omega⟩,if_neg (by simp only;omega),if_pos ⟨hr,hi⟩];rfl
theorem zuv {f:Found} {i:Nat} {k:Int} {t:Table} (h:¬ (0<=k /\ k<t.map.length /\ k<t.by_.length)):app1 f i k t=t:=by
 unfold app1;rw [if_neg h]
theorem z02p {S:Nat} {c:Chip} {q:Int} {r:Record} (hr:r.kind=1) (hq:wrt c q):∀ (l:List Int) (i n:Nat) (t:Table),Mid S c q n t->(∀ s,s<S->t.by_.getD s 0=q->t.map.getD s 0=q) ->
 Mid S c q (n+l.length) (appL ⟨q,r⟩ i l t) /\ (∀ s:Nat,(s:Int)∉l->(appL ⟨q,r⟩ i l t).map.getD s 0=t.map.getD s 0 /\ (appL ⟨q,r⟩ i l t).by_.getD s 0=t.by_.getD s 0) /\
  (∀ s:Nat,s<S->(s:Int)∈l \/ (t.map.getD s 0=q /\ t.by_.getD s 0=q)->(appL ⟨q,r⟩ i l t).map.getD s 0=q /\ (appL ⟨q,r⟩ i l t).by_.getD s 0=q) /\ ∀ v,v∈(appL ⟨q,r⟩ i l t).map \/ v∈(appL ⟨q,r⟩ i l t).by_->v∈t.map \/ v∈t.by_ \/ v=q
 | [],i,n,t,h,hm=>⟨h,fun s _=>⟨rfl,rfl⟩,fun s _ h=>h.elim (fun h=>by cases h) id,fun v h=>h.imp id .inl⟩
 | k::l,i,n,t,h,hm=>by
   unfold appL;by_cases hk:0<=k /\ k<t.map.length /\ k<t.by_.length
   · obtain ⟨k',rfl⟩:∃ k':Nat,k=k':=⟨k.toNat,by omega⟩;have hkm:k'<t.map.length:=by omega
     have hkb:k'<t.by_.length:=by omega
     rw [z0dn hr i hkm hkb];obtain ⟨h1,h2⟩:=tsA (k:=k') (by rw [<- h.lm];exact hkm) hq h hm;obtain ⟨r1,r2,r3,r4⟩:=z02p hr hq l (i+1) (n+1) _ h1 h2;refine ⟨r1.more (by simp only [List.length_cons];omega),fun s hs=>?_,fun s hs hsl=>?_,fun v hv=>?_⟩
     · have hne:k'≠s:=fun e=>hs (by rw [e];exact List.mem_cons_self ..)
       obtain ⟨e1,e2⟩:=r2 s (fun h=>hs (List.mem_cons_of_mem _ h));rw [e1,e2];simp only [z3h];rw [if_neg (fun h=>hne h.1),if_neg (fun h=>hne h.1)];exact ⟨rfl,rfl⟩
     · refine r3 s hs ?_;by_cases e:k'=s
       · refine .inr ?_;simp only [z3h];rw [if_pos ⟨e,hkm⟩,if_pos ⟨e,hkb⟩];exact ⟨rfl,rfl⟩
       · rcases hsl with hsl | hsl
         · rcases List.mem_cons.1 hsl with h1 | h1
           · exact absurd (by omega) e
           · exact .inl h1
         · refine .inr ?_;simp only [z3h];rw [if_neg (fun h=>e h.1),if_neg (fun h=>e h.1)];exact hsl
     · rcases r4 v hv with h1 | h1 | h1
       · rcases zc6 h1 with h1 | h1
         · exact .inl h1
         · exact .inr (.inr h1)
       · rcases zc6 h1 with h1 | h1
         · exact .inr (.inl h1)
         · exact .inr (.inr h1)
       · exact .inr (.inr h1)
   · rw [zuv hk];obtain ⟨r1,r2,r3,r4⟩:=z02p hr hq l (i+1) n t h hm;refine ⟨r1.more (by simp only [List.length_cons];omega),fun s hs=>r2 s (fun h=>hs (List.mem_cons_of_mem _ h)),fun s hs hsl=>r3 s hs (hsl.imp (fun hm=>?_) id),r4⟩;rcases List.mem_cons.1 hm with h1 | h1
     · exact absurd ⟨by omega,by rw [h.lm];omega,by rw [h.lb];omega⟩ hk
     · exact h1
theorem z02q {S:Nat} {c:Chip} {q:Int} {r:Record} (hr:r.kind=2) (hq:wrt c q) (t0:Table) (hv:r.values=r.keys.map fun k=>t0.map.getD k.toNat 0):∀ (l:List Int) (i n:Nat) (t:Table),r.keys.drop i=l->t.map=t0.map->Mid S c q n t->q∉t.map ->
 Mid S c q (n+l.length) (appL ⟨q,r⟩ i l t) /\ (appL ⟨q,r⟩ i l t).map=t0.map /\ (∀ s:Nat,(s:Int)∉l->(appL ⟨q,r⟩ i l t).by_.getD s 0=t.by_.getD s 0) /\
  (∀ s:Nat,s<S->(s:Int)∈l \/ t.by_.getD s 0=q->(appL ⟨q,r⟩ i l t).by_.getD s 0=q) /\ ∀ v,v∈(appL ⟨q,r⟩ i l t).by_->v∈t.by_ \/ v=q
 | [],i,n,t,hd,e0,h,hm=>⟨h,e0,fun s _=>rfl,fun s _ h=>h.elim (fun h=>by cases h) id,fun v h=>.inl h⟩
 | k::l,i,n,t,hd,e0,h,hm=>by
   obtain ⟨g1,g2,g3⟩:=zr hd;unfold appL;by_cases hk:0<=k /\ k<t.map.length /\ k<t.by_.length
   · obtain ⟨k',rfl⟩:∃ k':Nat,k=k':=⟨k.toNat,by omega⟩;have hkm:k'<t.map.length:=by omega
     have hkb:k'<t.by_.length:=by omega
     have hvi:r.values.getD i 0=t.map.getD k' 0:=by
      have e1:r.keys[i]?=some (k':Int):=by
       have:=g2 0;rw [zI,zH g1] at this;rw [zH g1];exact congrArg some this
      rw [hv,zI,List.getElem?_map,e1,e0];rfl
     have hil:i<r.values.length:=by rw [hv,List.length_map];exact g1
     rw [z0ao hr hil hkm hkb,hvi,zuu hkm];obtain ⟨r1,r2,r3,r4,r5⟩:=z02q hr hq t0 hv l (i+1) (n+1) ⟨t.map,t.by_.set k' q⟩ g3 e0 (tsB (k:=k') (by rw [<- h.lm];exact hkm) hq h hm) hm;refine ⟨r1.more (by simp only [List.length_cons];omega),r2,fun s hs=>?_,fun s hs hsl=>?_,fun v hv=>?_⟩
     · have hne:k'≠s:=fun e=>hs (by rw [e];exact List.mem_cons_self ..)
       rw [r3 s (fun h=>hs (List.mem_cons_of_mem _ h))];simp only [z3h];rw [if_neg (fun h=>hne h.1)]
     · refine r4 s hs ?_;by_cases e:k'=s
       · refine .inr ?_;simp only [z3h];rw [if_pos ⟨e,hkb⟩]
       · rcases hsl with hsl | hsl
         · rcases List.mem_cons.1 hsl with h1 | h1
           · exact absurd (by omega) e
           · exact .inl h1
         · refine .inr ?_;simp only [z3h];rw [if_neg (fun h=>e h.1)];exact hsl
     · rcases r5 v hv with h1 | h1
       · exact zc6 h1
       · exact .inr h1
   · rw [zuv hk];obtain ⟨r1,r2,r3,r4,r5⟩:=z02q hr hq t0 hv l (i+1) n t g3 e0 h hm;refine ⟨r1.more (by simp only [List.length_cons];omega),r2,fun s hs=>r3 s (fun h=>hs (List.mem_cons_of_mem _ h)),fun s hs hsl=>r4 s hs (hsl.imp (fun hm=>?_) id),r5⟩;rcases List.mem_cons.1 hm with h1 | h1
     · exact absurd ⟨by omega,by rw [h.lm];omega,by rw [h.lb];omega⟩ hk
     · exact h1
theorem zyb {S:Nat} {c c':Chip} {t:Table} {q:Int} {r:Record} (h:TaI S c t) (hc:∀ v,wrt c v->wrt c' v) (hq:¬ wrt c q) (hq':wrt c' q) (hp:Proper r t) :
 TaI S c' (applyT t ⟨q,r⟩) /\ ∀ v,v∈(applyT t ⟨q,r⟩).map \/ v∈(applyT t ⟨q,r⟩).by_->v∈t.map \/ v∈t.by_ \/ v=q \/ v = -1:=by
 obtain ⟨hM,n1,n2⟩:=h.mid hc hq hq'.1;rcases hp with ⟨h1,h2⟩ | ⟨h1,h2,h3⟩ | ⟨k,v,h1,h2,h3,h4⟩
 · obtain ⟨r1,_,_,r4⟩:=z02p h1 hq' r.keys 0 0 t hM (fun s hs e=>absurd (e▸zgv (by rw [h.lb];exact hs)) n2);exact ⟨r1.done (by omega),fun v hv=>(r4 v hv).imp id fun h=>h.imp id .inl⟩
 · obtain ⟨r1,r2,_,_,r5⟩:=z02q h1 hq' t h3 r.keys 0 0 t rfl rfl hM n1;refine ⟨r1.done (by omega),fun v hv=>hv.elim (fun h=>.inl ?_) fun h=>.inr ((r5 v h).imp id .inl)⟩;have e:(applyT t ⟨q,r⟩).map=t.map:=r2;rw [e] at h;exact h
 · unfold applyT;simp only [h2];show TaI S c' (app1 ⟨q,r⟩ 0 k t) /\ ∀ v,v∈(app1 ⟨q,r⟩ 0 k t).map \/ v∈(app1 ⟨q,r⟩ 0 k t).by_->_;by_cases hk:0<=k /\ k<t.map.length /\ k<t.by_.length
   · obtain ⟨k',rfl⟩:∃ k':Nat,k=k':=⟨k.toNat,by omega⟩;rw [z0ao h1 (by rw [h3];simp) (by omega) (by omega),h3];refine ⟨(tsC (by rw [<- h.lm];omega) hq' hM n1 h4).done (by omega),fun u hu=>?_⟩;rcases hu with hu | hu
     · rcases zc6 hu with h5 | h5
       · exact .inl h5
       · rcases h4 with h6 | ⟨h6,_⟩
         · exact .inr (.inr (.inr (h5.trans h6)))
         · exact .inl (by rw [h5];exact h6)
     · rcases zc6 hu with h5 | h5
       · exact .inr (.inl h5)
       · exact .inr (.inr (.inl h5))
   · rw [zuv hk];exact ⟨hM.done (by omega),fun u hu=>hu.imp id .inl⟩
end Clk
namespace Clk
open Go
structure ChI (B P:Nat) (c:Chip) (o:Int):Prop where
 len:c.blocks.length=B
 off:c.off=false
 pg:∀ i,i<B->(blk c i).pages.length=P
 nx:∀ i,i<B->0<=(blk c i).next /\ (blk c i).next<=P
 wr:∀ i,i<B->anyW (blk c i).pages=decide (0<(blk c i).next)
 op:∀ i,i<B->(blk c i).bad=false->(i:Int)≠o->(blk c i).next=0 \/ (blk c i).next=P
 lo : -1<=o
theorem z02r {B P:Nat} {c:Chip} {o:Int} (h:ChI B P c o) (o':Int) {i:Nat} (hi:i<B) :
 z5t c o' i=if (blk c i).bad=true then 3 else if (i:Int)=o' /\ (blk c i).next<P then 1 else if 0<(blk c i).next then 2 else 0:=by
 unfold z5t;rw [if_neg (by rw [h.len];omega)];have ei:((i:Nat):Int).toNat=i:=by omega
 rw [ei];show (if (blk c i).bad=true then 3 else if (i:Int)=o' /\ 0<=(blk c i).next /\ (blk c i).next<((blk c i).pages.length:Nat) then 1 else fcT (blk c i) (blk c i).pages)=_;rw [h.pg i hi];have hn:=h.nx i hi;have hf:fcT (blk c i) (blk c i).pages=if 0<(blk c i).next then 2 else 0:=by
  unfold fcT;rw [h.wr i hi];by_cases e:0<(blk c i).next
  · rw [zT e,if_pos e];rfl
  · rw [zF e,if_neg e,if_pos (by omega)];rfl
 rw [hf];by_cases e:(blk c i).bad=true
 · rw [if_pos e,if_pos e]
 · rw [if_neg e,if_neg e];by_cases e2:(i:Int)=o' /\ (blk c i).next<P
   · rw [if_pos ⟨e2.1,hn.1,e2.2⟩,if_pos e2]
   · rw [if_neg (fun h=>e2 ⟨h.1,h.2.2⟩),if_neg e2]
theorem zyc {B P:Nat} {c:Chip} {o:Int} (h:ChI B P c o) (o':Int) (hr:restT c o'≠0):∃ i:Nat,i<B /\ o'=i /\ (blk c i).bad=false /\ (blk c i).next<P:=by
 obtain ⟨h1,h2,h3⟩:=znh hr;obtain ⟨_,_,h4,_,_,h5⟩:=state1 h1;obtain ⟨i,rfl⟩:∃ i:Nat,o'=i:=⟨o'.toNat,by omega⟩;have hi:i<B:=by rw [<- h.len];omega
 refine ⟨i,hi,rfl,h4,?_⟩;have:=h.pg i hi;have e:((i:Nat):Int).toNat=i:=by omega
 rw [e] at h5;have h6:(blk c i).next<((blk c i).pages.length:Nat):=h5;omega
theorem z07f {B P:Nat} {c:Chip} {o:Int} (h:ChI B P c o) {i:Nat} (hi:i<B) (hg:(blk c i).bad=false) (hr:restT c i=0):(blk c i).next=P:=by
 have hs:=z02r h i hi;rw [if_neg (by rw [hg];exact Bool.false_ne_true)] at hs;by_cases e:(blk c i).next<P
 · rw [if_pos ⟨rfl,e⟩] at hs;unfold restT at hr;rw [if_pos hs] at hr;have e2:((i:Nat):Int).toNat=i:=by omega
   rw [e2] at hr;have e3:((blk c i).pages.length:Int) - (blk c i).next=0:=hr;rw [h.pg i hi] at e3;omega
 · have:=(h.nx i hi).2;omega
theorem z07g {B P:Nat} {c:Chip} {o:Int} (h:ChI B P c o):(z5x c o<0->ChI B P c (-1)) /\ (0<=z5x c o->∃ i:Nat,i<B /\ z5x c o=i /\ (blk c i).bad=false /\ (blk c i).next<P /\ ChI B P c i):=by
 have hfull:restT c o=0->∀ i,i<B->(blk c i).bad=false->(blk c i).next=0 \/ (blk c i).next=P:=fun hr i hi hg=>by
  by_cases e:(i:Int)=o
  · rw [<- e] at hr;exact .inr (z07f h hi hg hr)
  · exact h.op i hi hg e
 unfold z5x;by_cases hr:restT c o=0
 · rw [if_pos hr];by_cases hr2:restT c (pickT c (-1))=0
   · rw [if_pos hr2];exact ⟨fun _=>⟨h.len,h.off,h.pg,h.nx,h.wr,fun i hi hg _=>hfull hr i hi hg,by omega⟩,fun h=>by omega⟩
   · rw [if_neg hr2];obtain ⟨i,hi,e,hg,hn⟩:=zyc h _ hr2;rw [e];exact ⟨fun h=>by omega,fun _=>⟨i,hi,rfl,hg,hn,⟨h.len,h.off,h.pg,h.nx,h.wr,fun j hj hg _=>hfull hr j hj hg,by omega⟩⟩⟩
 · rw [if_neg hr];obtain ⟨i,hi,e,hg,hn⟩:=zyc h _ hr;subst e;exact ⟨fun h=>by omega,fun _=>⟨i,hi,rfl,hg,hn,h⟩⟩
def zhp:List Block->Nat
 | []=>0
 | b::l=>(if b.bad=true then 0 else b.next.toNat)+zhp l
theorem zuw:∀ {l:List Block} {i:Nat} {y:Block},i<l.length->zhp (l.set i y)+(if (l.getD i default).bad=true then 0 else (l.getD i default).next.toNat)=zhp l+(if y.bad=true then 0 else y.next.toNat)
 | b::l,0,y,_=>by
   show zhp (y::l)+(if b.bad=true then 0 else b.next.toNat)=zhp (b::l)+_;unfold zhp;omega
 | b::l,i+1,y,h=>by
   have:=zuw (l:=l) (i:=i) (y:=y) (by simpa using h);show zhp (b::l.set i y)+(if (l.getD i default).bad=true then 0 else (l.getD i default).next.toNat)=zhp (b::l)+_;rw [zhp,zhp];omega
theorem zux:∀ {l:List Block} {i:Nat} {y:Block},i<l.length->(l.getD i default).bad=false->y.bad=false->gbL (l.set i y)=gbL l
 | b::l,0,y,_,h1,h2=>by
   have h1:b.bad=false:=h1;show gbL (y::l)=gbL (b::l);unfold gbL;rw [h1,h2]
 | b::l,i+1,y,h,h1,h2=>by
   have:=zux (l:=l) (i:=i) (y:=y) (by simpa using h) h1 h2;show gbL (b::l.set i y)=gbL (b::l);unfold gbL;rw [this]
theorem z02s:∀ {l:List Page} {i:Nat} {p:Page},i<l.length->p.written=true->anyW (l.set i p)=true
 | x::l,0,p,_,h=>by show (p.written||_)=true;rw [h];rfl
 | x::l,i+1,p,hi,h=>by
   show (x.written||anyW (l.set i p))=true;rw [z02s (by simpa using hi) h,Bool.or_true]
theorem zyd {B P:Nat} {c:Chip} {i:Nat} (hB:B<=32) (hP:P<=16) (h:ChI B P c i) (hi:i<B) (hg:(blk c i).bad=false) (hn:(blk c i).next<P) {page:Page} {f:Fate} (hf:f.kind=0 \/ f.kind=1) {o':Int} (ho:o'=i \/ (f.kind=1 /\ o' = -1)) :
 ChI B P (z0r c i (blk c i).next page f).1 o' /\ (z0r c i (blk c i).next page f).2=(if f.kind=0 then 0 else 53) /\ (∀ j,j<B->j≠i->blk (z0r c i (blk c i).next page f).1 j=blk c j) /\
 (f.kind=0->(blk (z0r c i (blk c i).next page f).1 i).bad=false /\ gbL (z0r c i (blk c i).next page f).1.blocks=gbL c.blocks /\ zhp (z0r c i (blk c i).next page f).1.blocks=zhp c.blocks+1) /\
 (∀ v,wrt c v->wrt (z0r c i (blk c i).next page f).1 v) /\ z4t i (blk c i).next=i*16+(blk c i).next /\ ¬ wrt c (i*16+(blk c i).next) /\ wrt (z0r c i (blk c i).next page f).1 (i*16+(blk c i).next):=by
 have hx:=h.nx i hi;have hlen:=h.len;have e0:((i:Nat):Int).toNat=i:=by omega
 have hcan:canProg c i (blk c i).next f=true:=by
  rw [z68,e0];refine ⟨by omega,by omega,hx.1,?_,hg,rfl,by omega,by omega⟩;have:=h.pg i hi;show (blk c i).next<((blk c i).pages.length:Nat);omega
 have hprog:z0r c i (blk c i).next page f=(⟨c.blocks.set i (z6x (blk c i) (blk c i).next page f),c.broken,decide (f.kind=2),w64 (c.ops+1)⟩,if f.kind=0 then 0 else if f.kind=1 then 53 else 52):=by
  unfold z0r;rw [if_neg (by rw [h.off];simp),if_pos hcan,e0];rfl
 have hw:w64 ((blk c i).next+1)=(blk c i).next+1:=zf (by omega) (by omega);have hbi:blk (z0r c i (blk c i).next page f).1 i=z6x (blk c i) (blk c i).next page f:=by
  rw [hprog];exact z0i (by omega)
 have hbj:∀ j,j<B->j≠i->blk (z0r c i (blk c i).next page f).1 j=blk c j:=fun j hj hne=>by
  rw [hprog];show (c.blocks.set i _).getD j default=_;rw [z3h,if_neg (fun h=>hne h.1.symm)];rfl
 have hnx:(z6x (blk c i) (blk c i).next page f).next=(blk c i).next+1:=hw;have hlen':(z0r c i (blk c i).next page f).1.blocks.length=B:=by rw [hprog];simp [hlen]
 have hmono:∀ v,wrt c v->wrt (z0r c i (blk c i).next page f).1 v:=fun v ⟨h1,h2,h3⟩=>by
  refine ⟨h1,by rw [hlen'];omega,?_⟩;by_cases e:(v / 16).toNat=i
  · rw [e] at h3 ⊢;rw [hbi,hnx];omega
  · rw [hbj _ (by omega) e];exact h3
 have hq:((i:Int)*16+(blk c i).next) / 16=i:=by omega
 have hq2:((i:Int)*16+(blk c i).next) % 16=(blk c i).next:=by omega
 refine ⟨⟨hlen',by rw [hprog];show decide (f.kind=2)=false;exact zF (by omega),fun j hj=>?_,fun j hj=>?_,fun j hj=>?_,fun j hj hgj hne=>?_,by omega⟩,?_,hbj,fun h0=>?_,hmono,?_,?_,?_⟩
 · by_cases e:j=i
   · rw [e,hbi];show (List.set _ _ _).length=P;rw [List.length_set];exact h.pg i hi
   · rw [hbj j hj e];exact h.pg j hj
 · by_cases e:j=i
   · rw [e,hbi,hnx];omega
   · rw [hbj j hj e];exact h.nx j hj
 · by_cases e:j=i
   · rw [e,hbi,hnx,zT (by omega)];refine z02s ?_ ?_
     · have:=h.pg i hi;omega
     · split <;> rfl
   · rw [hbj j hj e];exact h.wr j hj
 · by_cases e:j=i
   · rw [e,hbi] at hgj;have hk:f.kind≠1:=fun hk=>by
      have:decide (f.kind=1)=false:=hgj;rw [hk] at this;cases this
     rcases ho with ho | ⟨ho,_⟩
     · exact absurd (by rw [ho,e]) hne
     · exact absurd ho hk
   · rw [hbj j hj e] at hgj ⊢;exact h.op j hj hgj (by omega)
 · rw [hprog];show (if f.kind=0 then (0:Int) else if f.kind=1 then 53 else 52)=_;rcases hf with e | e
   · rw [if_pos e,if_pos e]
   · rw [if_neg (by omega),if_pos e,if_neg (by omega)]
 · have hb:(z6x (blk c i) (blk c i).next page f).bad=false:=zF (by omega);refine ⟨by rw [hbi];exact hb,?_,?_⟩
   · rw [hprog];exact zux (by omega) hg hb
   · rw [hprog];have:=zuw (l:=c.blocks) (i:=i) (y:=z6x (blk c i) (blk c i).next page f) (by omega);have e2:c.blocks.getD i default=blk c i:=rfl;rw [e2,hb,hg,hnx,if_neg Bool.false_ne_true,if_neg Bool.false_ne_true] at this;show zhp (c.blocks.set i _)=_;omega
 · unfold z4t;rw [if_neg (by omega)]
 · rintro ⟨_,_,h3⟩
   rw [hq,hq2,e0] at h3;omega
 · refine ⟨by omega,by rw [hq,e0,hlen'];exact hi,?_⟩;rw [hq,hq2,e0,hbi,hnx];omega
structure DvI (g:Geometry) (B P S:Nat) (d:Device):Prop where
 geo:d.geometry=g
 ch:ChI B P d.chip d.opn
 ta:TaI S d.chip d.table
 pk:PagesOk d.chip
structure Gm (g:Geometry) (B P S:Nat):Prop where
 b:g.blocks=B
 p:g.pages=P
 s:g.sectors=S
 b1:0<B
 b2:B<=32
 p1:0<P
 p2:P<=16
 s1:0<S
 s2:S<=64
 sp:0<=g.spare /\ g.spare<4294967296
def FOk (fs:List Fate):Prop:=∀ f∈fs,(f.kind=0 \/ f.kind=1) /\ f.tag.length<4294967296 /\ f.data.length<4294967296
theorem FOk.next {fs:List Fate} (h:FOk fs):((z0s fs).1.kind=0 \/ (z0s fs).1.kind=1) /\ ((z0s fs).1.tag.length<4294967296 /\ (z0s fs).1.data.length<4294967296) /\ FOk (z0s fs).2:=by
 cases fs with
 | nil=>exact ⟨.inl rfl,by decide,h⟩
 | cons f l=>exact ⟨(h f (List.mem_cons_self ..)).1,(h f (List.mem_cons_self ..)).2,fun x hx=>h x (List.mem_cons_of_mem _ hx)⟩
def stuck (P:Nat) (c:Chip) (b:Nat):Prop:=(blk c b).bad=true \/ (blk c b).next=P
structure PutR (g:Geometry) (B P S:Nat) (d:Device) (rec:Record) (r:Device×List Fate×Int):Prop where
 inv:DvI g B P S r.1
 fok:FOk r.2.1
 e:r.2.2=0 \/ r.2.2=40
 gb:gbL r.1.chip.blocks<=gbL d.chip.blocks
 st:∀ b,b<B->stuck P d.chip b->blk r.1.chip b=blk d.chip b
 full:r.2.2=40->r.1.table=d.table
 ok:r.2.2=0->∃ q,r.1.table=applyT d.table ⟨q,rec⟩ /\ 0<=q /\ (q / 16).toNat<B /\ (blk r.1.chip (q / 16).toNat).bad=false /\ ¬ stuck P d.chip (q / 16).toNat /\ (∀ v,wrt d.chip v->wrt r.1.chip v) /\ ¬ wrt d.chip q /\ wrt r.1.chip q
 same:gbL r.1.chip.blocks=gbL d.chip.blocks->(∀ b,b<B->(blk r.1.chip b).bad=(blk d.chip b).bad) /\ zhp r.1.chip.blocks<=zhp d.chip.blocks+1
theorem zye {g:Geometry} {B P S:Nat} (hG:Gm g B P S) {page:Page} (hpg:PageOk page) {rec:Record}:∀ (n:Nat) (fs:List Fate) (d:Device),DvI g B P S d->FOk fs->Proper rec d.table->gbL d.chip.blocks<n->PutR g B P S d rec (putL page rec n fs d)
 | 0,_,_,_,_,_,h=>by omega
 | n+1,fs,d,hI,hF,hp,hn=>by
   obtain ⟨o1,o2⟩:=z07g hI.ch;unfold putL;by_cases ho:z5x d.chip d.opn<0
   · rw [if_pos ho];exact ⟨⟨hI.geo,o1 ho,hI.ta,hI.pk⟩,hF,.inr rfl,Nat.le_refl _,fun _ _ _=>rfl,fun _=>rfl,fun h=>absurd h (show ¬ (40:Int)=0 by decide),fun _=>⟨fun _ _=>rfl,Nat.le_succ _⟩⟩
   · rw [if_neg ho];obtain ⟨i,hi,ei,hg,hnx,hC⟩:=o2 (by omega);obtain ⟨hk,hfl,hF2⟩:=hF.next;have hpk:=z00y hI.pk i (blk d.chip i).next hpg hfl;have e0:((i:Nat):Int).toNat=i:=by omega
     have er:rT page fs d=z0r d.chip i (blk d.chip i).next page (z0s fs).1:=by
      unfold rT nextOf;rw [ei,e0];rfl
     have en:nextOf d.chip (z5x d.chip d.opn)=(blk d.chip i).next:=by unfold nextOf;rw [ei,e0];rfl
     have hst:¬ stuck P d.chip i:=fun h=>by
      rcases h with h | h
      · rw [hg] at h;cases h
      · omega
     rw [er,ei];rcases hk with hk | hk
     · obtain ⟨p1,p2,p3,p4,p5,p6,p7,p8⟩:=zyd hG.b2 hG.p2 hC hi hg hnx (page:=page) (f:=(z0s fs).1) (.inl hk) (o':=i) (.inl rfl);obtain ⟨p41,p42,p43⟩:=p4 hk;rw [p2,if_pos hk,if_pos rfl];rw [ei] at en;rw [en,p6];obtain ⟨a1,_⟩:=zyb (q:=i*16+(blk d.chip i).next) (r:=rec) hI.ta p5 p7 p8 hp;have hq:((i:Int)*16+(blk d.chip i).next) / 16=i:=by have:=(hI.ch.nx i hi);have:=hG.p2;omega
       refine ⟨⟨hI.geo,p1,a1,hpk⟩,hF2,.inl rfl,by rw [p42];exact Nat.le_refl _,fun b hb hs=>p3 b hb (fun e=>by rw [e] at hs;exact hst hs),fun h=>(by cases h),fun _=>⟨_,rfl,p8.1,by rw [hq,e0];exact hi,by rw [hq,e0];exact p41,by rw [hq,e0];exact hst,p5,p7,p8⟩,fun _=>⟨fun b hb=>?_,by rw [p43];exact Nat.le_refl _⟩⟩;by_cases e:b=i
       · rw [e,hg];exact p41
       · exact congrArg Block.bad (p3 b hb e)
     · obtain ⟨p1,p2,p3,p4,p5,p6,p7,p8⟩:=zyd hG.b2 hG.p2 hC hi hg hnx (page:=page) (f:=(z0s fs).1) (.inr hk) (o' := -1) (.inr ⟨hk,rfl⟩);have p2':(z0r d.chip i (blk d.chip i).next page (z0s fs).1).2=53:=by rw [p2,if_neg (by omega)]
       have hgb:=zsa p2';rw [p2',if_neg (by decide),if_pos rfl];have hT:TaI S (z0r d.chip i (blk d.chip i).next page (z0s fs).1).1 d.table:=⟨hI.ta.lm,hI.ta.lb,fun v hv=>(hI.ta.vm v hv).imp id (p5 v),fun v hv=>(hI.ta.vb v hv).imp id (p5 v),hI.ta.cm,hI.ta.cb,hI.ta.tw⟩;have R:=zye hG hpg n (z0s fs).2 ⟨d.geometry,(z0r d.chip i (blk d.chip i).next page (z0s fs).1).1,d.table,d.seq,-1⟩ ⟨hI.geo,p1,hT,hpk⟩ hF2 hp (by show gbL (z0r _ _ _ _ _).1.blocks<n;omega);have hst':∀ b,b<B->stuck P d.chip b->blk (z0r d.chip i (blk d.chip i).next page (z0s fs).1).1 b=blk d.chip b:=fun b hb hs=>p3 b hb (fun e=>by rw [e] at hs;exact hst hs)
       have hst2:∀ b,b<B->stuck P d.chip b->stuck P (z0r d.chip i (blk d.chip i).next page (z0s fs).1).1 b:=fun b hb hs=>by
        have:=hst' b hb hs;unfold stuck at hs ⊢;rw [this];exact hs
       refine ⟨R.inv,R.fok,R.e,by have:=R.gb;exact Nat.le_trans this (by show gbL (z0r _ _ _ _ _).1.blocks<=_;omega),fun b hb hs=>(R.st b hb (hst2 b hb hs)).trans (hst' b hb hs),R.full,fun h=>?_,fun h=>?_⟩
       · obtain ⟨q,q1,q2,q3,q4,q5,q6,q7,q8⟩:=R.ok h;exact ⟨q,q1,q2,q3,q4,fun hs=>q5 (hst2 _ q3 hs),fun v hv=>q6 v (p5 v hv),fun h=>q7 (p5 q h),q8⟩
       · have:=R.gb;have e:gbL (z0r d.chip i (blk d.chip i).next page (z0s fs).1).1.blocks=gbL (Device.mk d.geometry (z0r d.chip i (blk d.chip i).next page (z0s fs).1).1 d.table d.seq (-1)).chip.blocks:=rfl;rw [<- e] at this;omega
theorem DvI.ok {g:Geometry} {B P S:Nat} (hG:Gm g B P S) {d:Device} (h:DvI g B P S d):DevOk d:=by
 refine ⟨⟨by rw [h.ch.len];have:=hG.b2;omega,fun b hb=>?_⟩,by unfold TabOk;rw [h.ta.lm,h.ta.lb];have:=hG.s2;omega⟩;obtain ⟨i,hi,rfl⟩:=List.getElem_of_mem hb;have:=h.ch.pg i (by rw [<- h.ch.len];exact hi);unfold blk at this;rw [zI,zH hi] at this;have h2:d.chip.blocks[i].pages.length=P:=this;rw [h2];have:=hG.p2;omega
theorem zuy {g:Geometry} {B P S:Nat} (hG:Gm g B P S) {w:Write} {fs:List Fate} {d:Device} (hI:DvI g B P S d) (hF:FOk fs) (hp:Proper w.record d.table) (hw:WriteOk w) :
 ∃ r,z2q (d,w,fs)=some r /\ ((r.2.2≠0 /\ r.1=d /\ r.2.1=fs) \/ PutR g B P S d (seqW d w).record r):=by
 refine ⟨_,zpx (hI.ok hG) hw,?_⟩;unfold putD;by_cases c:(makeT (seqW d w)).2≠0
 · rw [if_pos c];exact .inl ⟨c,rfl,rfl⟩
 · rw [if_neg c];refine .inr (zye hG (z09j (w:=seqW d w) hw) _ fs d hI hF hp ?_);have:=z07b d.chip.blocks;omega
end Clk
namespace Clk
open Go
theorem z011 {n:Int}:∀ (l:List Int) (i:Nat) (x:Int),x∈whL n i l↔∃ j:Nat,j<l.length /\ x=((i+j:Nat):Int) /\ l.getD j 0=n
 | [],i,x=>by simp [whL]
 | y::l,i,x=>by
   have ih:=z011 l (i+1) x (n:=n);unfold whL;constructor
   · intro h;split at h
     · rename_i e;rcases List.mem_cons.1 h with rfl | h
       · exact ⟨0,by simp,rfl,e⟩
       · obtain ⟨j,h1,h2,h3⟩:=ih.1 h;exact ⟨j+1,by simp only [List.length_cons];omega,by rw [h2];congr 1;omega,h3⟩
     · obtain ⟨j,h1,h2,h3⟩:=ih.1 h;exact ⟨j+1,by simp only [List.length_cons];omega,by rw [h2];congr 1;omega,h3⟩
   · rintro ⟨j,h1,h2,h3⟩
     cases j with
     | zero =>
       have h3:y=n:=h3;rw [if_pos h3,h2];exact List.mem_cons_self ..
     | succ j =>
       have:x∈whL n (i+1) l:=ih.2 ⟨j,by simpa using h1,by rw [h2];congr 1;omega,h3⟩;split
       · exact List.mem_cons_of_mem _ this
       · exact this
theorem zuz {n:Int}:∀ (l:List Int) (i:Nat),(whL n i l).length=l.count n
 | [],i=>rfl
 | y::l,i=>by
   unfold whL;rw [List.count_cons];by_cases e:y=n
   · rw [if_pos e,List.length_cons,zuz l (i+1),if_pos (by simpa using e)]
   · rw [if_neg e,zuz l (i+1),if_neg (by simpa using e)];rfl
theorem zgw {t:Table} {p:Int} (hp:0<=p) {x:Int}:x∈z0n t p↔∃ j:Nat,j<t.map.length /\ x=j /\ t.map.getD j 0=p:=by
 unfold z0n whichT;rw [if_pos hp,z011];simp
theorem zki {t:Table} {p:Int} (hp:0<=p) {x:Int}:x∈z7x t p↔∃ j:Nat,j<t.by_.length /\ x=j /\ t.by_.getD j 0=p:=by
 unfold z7x whichT;rw [if_pos hp,z011];simp
theorem zll {t:Table} {p:Int} (hp:0<=p):(z0n t p).length=t.map.count p:=by
 unfold z0n whichT;rw [if_pos hp,zuz]
theorem z02t {t:Table} {p:Int} (hp:0<=p):(z7x t p).length=t.by_.count p:=by
 unfold z7x whichT;rw [if_pos hp,zuz]
def z5v (l:List Int):List (List Int):=if l=[] then [] else [l]
theorem z07h {l:List Int} (h:l.length<=8):z5h l=some (z5v l):=by
 refine zy 2 fun N hN=>?_
 obtain ⟨N,rfl⟩:∃ M,N=M+2:=⟨N - 2,by omega⟩;show z8o (N+2) l=_;unfold z8o;rw [z6,z9v];unfold z4e;dsimp only;by_cases e:l=[]
 · subst e;rfl
 · have hl:0<l.length:=List.length_pos_iff.2 e;have hm:min (w64 (0+8)) (l.length:Int)=l.length:=by
    rw [show w64 (0+8)=8 by decide];omega
   have ht:((l.drop (Int.toNat 0)).take ((Int.toNat (l.length:Int)) - (Int.toNat 0)))=l:=by
    simp
   rw [hm,ht];simp only [List.length_singleton,List.length_nil,List.nil_append,Nat.zero_add];try (rw [zT (by omega)];simp only [zC])
   try (rw [zT (by omega)];simp only [zC])
   try (rw [zT (by omega)];simp only [zC])
   try (rw [zT (by omega)];simp only [zC])
   try (rw [zT (by omega)];simp only [zC])
   try (rw [zT (by omega)];simp only [zC])
   rw [z6,z9v];unfold z4e;dsimp only;rw [show w64 (0+8)=8 by decide];try (rw [zF (by omega)];simp only [zD])
   unfold z5v;rw [if_neg e]
theorem z0do {t:Table} {s:Nat} (h:s<t.map.length):zdf (t,(s:Int))=some (t.map.getD s 0):=by
 show zde t s=_;unfold zde;try (rw [zF (by omega)];simp only [zD])
 try (rw [zT (by omega)];simp only [zC])
 try (rw [zT (by omega)];simp only [zC])
 rfl
def inB (b:Nat) (v:Int):Prop:=0<=v /\ v / 16=b
instance (b:Nat) (v:Int):Decidable (inB b v):=by unfold inB;infer_instance
def z3q (t:Table) (b:Nat) (l:List Int):List Int:=l.filter fun s=>!decide (inB b (t.map.getD s.toNat 0))
theorem zv0 {t:Table} {b:Nat} (ht:t.map.length<4294967296) (hv:∀ v∈t.map,-1<=v /\ v<4294967296) {xs:List Int} (hx:xs.length<=8) (hs:∀ x∈xs,0<=x /\ x<t.map.length):∀ (l:List Int) (N k:Nat) (i:Int) (acc:List Int),xs.drop k=l->i=k->acc.length<=k->l.length<N->ze z7q N (xs,(b:Int),i,t,acc)=some (acc++z3q t b l)
 | l,0,_,_,_,_,_,_,h=>by omega
 | [],N+1,k,i,acc,h1,h2,h3,_=>by
   have:=z00 h1;rw [z6,z9w];unfold z4f;dsimp only;try (rw [zF (by omega)];simp only [zD])
   simp [z3q]
 | x::l,N+1,k,i,acc,h1,h2,h3,h4=>by
   obtain ⟨g1,g2,g3⟩:=zr h1;have hxm:x∈xs:=by rw [<- g2 0];exact zo g1
   obtain ⟨hx0,hx1⟩:=hs x hxm;obtain ⟨s,rfl⟩:∃ s:Nat,x=s:=⟨x.toNat,by omega⟩;have hsl:s<t.map.length:=by omega
   have hvs:=hv _ (zo (d:=0) hsl);rw [z6,z9w];unfold z4f;dsimp only;have ek:i.toNat=k:=by omega
   have ew:w64 (i+1)=((k+1:Nat):Int):=by rw [zf (by omega) (by omega)];omega
   simp only [ek,g2,ew];try (rw [zT (by omega)];simp only [zC])
   try (rw [zT (by omega)];simp only [zC])
   try (rw [zT (by omega)];simp only [zC])
   rw [z0do hsl,z7];have ih1:=zv0 (b:=b) ht hv hx hs l N (k+1) _ (acc++[(s:Int)]) g3 rfl (by simp;omega) (by simp only [List.length_cons] at h4;omega);have ih2:=zv0 (b:=b) ht hv hx hs l N (k+1) _ acc g3 rfl (by omega) (by simp only [List.length_cons] at h4;omega);have e1:[(s:Int)].length=1:=rfl;have hap:z3q t b ((s:Int)::l)=if inB b (t.map.getD s 0) then z3q t b l else (s:Int)::z3q t b l:=by
    unfold z3q;rw [List.filter_cons];have e2:((s:Int)).toNat=s:=by omega
    rw [e2];by_cases c:inB b (t.map.getD s 0)
    · rw [if_pos c,zT c];rfl
    · rw [if_neg c,zF c];rfl
   rw [hap];by_cases c1:t.map.getD s 0<0
   · rw [zT c1];simp only [zC];try (rw [zT (by omega)];simp only [zC])
     try (rw [zT (by omega)];simp only [zC])
     rw [ih1,if_neg (fun h=>by have:=h.1;omega)];simp
   · rw [zF c1];simp only [zD];have e3:w64 (Int.tdiv (t.map.getD s 0) 16)=t.map.getD s 0 / 16:=by
      rw [Int.tdiv_eq_ediv_of_nonneg (by omega)];exact zf (by omega) (by omega)
     rw [e3];by_cases c2:t.map.getD s 0 / 16=b
     · rw [zT c2,Bool.not_true,zD,ih2,if_pos ⟨by omega,c2⟩]
     · rw [zF c2,Bool.not_false,zC];try (rw [zT (by omega)];simp only [zC])
       try (rw [zT (by omega)];simp only [zC])
       rw [ih1,if_neg (fun h=>c2 h.2)];simp
theorem z0ck {t:Table} {b:Nat} (ht:t.map.length<4294967296) (hv:∀ v∈t.map,-1<=v /\ v<4294967296) {xs:List Int} (hx:xs.length<=8) (hs:∀ x∈xs,0<=x /\ x<t.map.length):z8p (t,xs,(b:Int))=some (z3q t b xs):=by
 refine zy (xs.length+1) fun N hN=>?_
 exact zv0 ht hv hx hs xs N 0 0 [] rfl rfl (Nat.le_refl _) (by omega)
def vals (t:Table) (l:List Int):List Int:=l.map fun s=>t.map.getD s.toNat 0
def dataM (c:Chip) (t:Table) (q:Int):List Write:=(z5v (z0n t q)).map fun l=>⟨(z8v c q).1.data,⟨1,0,l,[]⟩⟩
def chgM (t:Table) (b:Nat) (q:Int):List Write:=(z5v (z3q t b (z7x t q))).map fun l=>⟨[],⟨2,0,l,vals t l⟩⟩
def pageM (c:Chip) (t:Table) (b p:Nat):List Write:=dataM c t (b*16+p)++chgM t b (b*16+p)
def movesL (c:Chip) (t:Table) (b:Nat):Nat->Nat->List Write
 | 0,_=>[]
 | m+1,p=>pageM c t b p++movesL c t b m (p+1)
def movesT (c:Chip) (t:Table) (b:Nat):List Write:=movesL c t b 16 0
structure TOk (t:Table):Prop where
 l:t.map.length<4294967296
 lb:t.by_.length=t.map.length
 v:∀ v∈t.map,-1<=v /\ v<4294967296
 o:∀ p,0<=p->(z0n t p).length<=8
 s:∀ p,0<=p->(z7x t p).length<=8
theorem z02u {t:Table} (ht:t.map.length<4294967296) {ih1:(Int×Int×(List (List Int))×Int×Chip×Table×(List Write))->Option (List Write)} {v2 v3:Int} {c:Chip} {out:List Write} (ho:out.length<1000) {ss:List Int} (hss:ss.length<=8) (hs:∀ x∈ss,0<=x /\ x<t.map.length) :
 ∀ (l:List Int) (N k:Nat) (i:Int) (acc:List Int),ss.drop k=l->i=k->acc.length=k->l.length<N->ze (z7r ih1) N (v2,v3,[ss],0,i,c,t,out,acc)=ih1 (v2,v3,[ss],1,c,t,out++[⟨[],⟨2,0,ss,acc++vals t l⟩⟩])
 | l,0,_,_,_,_,_,_,h=>by omega
 | [],N+1,k,i,acc,h1,h2,h3,_=>by
   have:=z00 h1;rw [z6,z9x];unfold z4g;dsimp only;simp only [List.length_singleton,List.length_cons,List.length_nil,Int.toNat_zero,List.getD_cons_zero];try (rw [zT (by omega)];simp only [zC])
   try (rw [zT (by omega)];simp only [zC])
   try (rw [zF (by omega)];simp only [zD])
   try (rw [zT (by omega)];simp only [zC])
   try (rw [zT (by omega)];simp only [zC])
   try (rw [zT (by omega)];simp only [zC])
   try (rw [zT (by omega)];simp only [zC])
   rw [show w64 (0+1)=1 by decide];simp [vals]
 | x::l,N+1,k,i,acc,h1,h2,h3,h4=>by
   obtain ⟨g1,g2,g3⟩:=zr h1;have hxm:x∈ss:=by rw [<- g2 0];exact zo g1
   obtain ⟨hx0,hx1⟩:=hs x hxm;obtain ⟨s,rfl⟩:∃ s:Nat,x=s:=⟨x.toNat,by omega⟩;have hsl:s<t.map.length:=by omega
   rw [z6,z9x];unfold z4g;dsimp only;have ek:i.toNat=k:=by omega
   have ew:w64 (i+1)=((k+1:Nat):Int):=by rw [zf (by omega) (by omega)];omega
   simp only [List.length_singleton,List.length_cons,List.length_nil,Int.toNat_zero,List.getD_cons_zero,ek,g2,ew];try (rw [zT (by omega)];simp only [zC])
   try (rw [zT (by omega)];simp only [zC])
   try (rw [zT (by omega)];simp only [zC])
   try (rw [zT (by omega)];simp only [zC])
   try (rw [zT (by omega)];simp only [zC])
   try (rw [zT (by omega)];simp only [zC])
   try (rw [zT (by omega)];simp only [zC])
   rw [z0do hsl,z7];try (rw [zT (by omega)];simp only [zC])
   try (rw [zT (by omega)];simp only [zC])
   rw [z02u ht ho hss hs l N (k+1) _ (acc++[t.map.getD s 0]) g3 rfl (by simp;omega) (by simp only [List.length_cons] at h4;omega)];unfold vals;rw [List.map_cons,List.append_assoc,List.singleton_append];rfl
theorem z09k {t:Table} (ht:t.map.length<4294967296) {ih0:(Int×Int×Chip×Table×(List Write))->Option (List Write)} {v2 v3:Int} {c:Chip} {out:List Write} (ho:out.length<1000) {ss:List Int} (hss:ss.length<=8) (hs:∀ x∈ss,0<=x /\ x<t.map.length) {N:Nat} (hN:10<=N) :
 ze (z21 N ih0) N (v2,v3,z5v ss,0,c,t,out)=ih0 (v2,w64 (v3+1),c,t,out++(z5v ss).map fun l=>⟨[],⟨2,0,l,vals t l⟩⟩):=by
 obtain ⟨M,rfl⟩:∃ M,N=M+2:=⟨N - 2,by omega⟩;generalize hK:M+2=K;rw [<- hK,z6,z9y];unfold z4h z5v;dsimp only;by_cases e:ss=[]
 · subst e;rw [if_pos rfl];simp
 · rw [if_neg e];simp only [List.length_singleton,List.length_cons,List.length_nil];try (rw [zT (by omega)];simp only [zC])
   rw [hK,z02u ht ho hss hs ss K 0 0 [] rfl rfl rfl (by omega)];show ze (z21 K ih0) (M+1) _=_;rw [z6,z9y];unfold z4h;dsimp only;simp only [List.length_singleton,List.length_cons,List.length_nil];try (rw [zF (by omega)];simp only [zD])
   rfl
theorem z09l {t:Table} (ht:TOk t) {ih0:(Int×Int×Chip×Table×(List Write))->Option (List Write)} {b p:Nat} {q:Int} (hq:q=b*16+p) {c:Chip} {out:List Write} (ho:out.length<900) {N:Nat} (hN:10<=N) {pg:Page} (hpg:pg=(z8v c q).1) :
 ze (z7s N ih0) N ((b:Int),(p:Int),q,z5v (z0n t q),0,c,t,pg,out)=ih0 ((b:Int),w64 (p+1),c,t,out++pageM c t b p):=by
 have hq0:0<=q:=by omega
 have hsay:∀ x∈z7x t q,0<=x /\ x<t.map.length:=fun x hx=>by
  obtain ⟨j,h1,h2,_⟩:=(zki hq0).1 hx;have:=ht.lb;omega
 have hap:∀ x∈z3q t b (z7x t q),0<=x /\ x<t.map.length:=fun x hx=>hsay x (List.mem_filter.1 hx).1
 have hal:(z3q t b (z7x t q)).length<=8:=Nat.le_trans (List.length_filter_le ..) (ht.s q hq0);have tail:∀ out':List Write,out'.length<1000->(Option.bind (z79 (t,q)) fun r11 =>
  Option.bind (z8p (t,r11,(b:Int))) fun r12 =>
  Option.bind (z5h r12) fun r13 =>
  ze (z21 N ih0) N ((b:Int),(p:Int),r13,0,c,t,out'))=ih0 ((b:Int),w64 (p+1),c,t,out'++chgM t b q):=fun out' ho'=>by
  rw [z0al ⟨ht.l,by rw [ht.lb];exact ht.l⟩,z7,z0ck ht.l ht.v (ht.s q hq0) hsay,z7,z07h hal,z7];exact z09k ht.l ho' hal hap hN
 obtain ⟨M,rfl⟩:∃ M,N=M+2:=⟨N - 2,by omega⟩;generalize hK:M+2=K at tail ⊢;rw [<- hK,z6,z9z];unfold z4i;dsimp only;have hpm:pageM c t b p=dataM c t q++chgM t b q:=by unfold pageM;rw [hq]
 rw [hpm];unfold dataM z5v;by_cases e:z0n t q=[]
 · rw [if_pos e,hK];simp only [List.length_nil,List.map_nil,List.nil_append];try (rw [zF (by omega)];simp only [zD])
   exact tail out (by omega)
 · rw [if_neg e,hK];simp only [List.length_singleton,List.length_cons,List.length_nil,Int.toNat_zero,List.getD_cons_zero];try (rw [zT (by omega)];simp only [zC])
   try (rw [zT (by omega)];simp only [zC])
   try (rw [zT (by omega)];simp only [zC])
   try (rw [zT (by omega)];simp only [zC])
   try (rw [zT (by omega)];simp only [zC])
   rw [show w64 (0+1)=1 by decide,z6,z9z];unfold z4i;dsimp only;simp only [List.length_singleton,List.length_cons,List.length_nil];try (rw [zF (by omega)];simp only [zD])
   rw [tail _ (by simp;omega),<- hpg];simp
theorem zgx (l:List Int):(z5v l).length<=1:=by unfold z5v;split <;> simp
theorem zyf (c:Chip) (t:Table) (b p:Nat):(pageM c t b p).length<=2:=by
 unfold pageM dataM chgM;rw [List.length_append,List.length_map,List.length_map];have:=zgx (z0n t (b*16+p));have:=zgx (z3q t b (z7x t (b*16+p)));omega
theorem z02v {t:Table} (ht:TOk t) {c:Chip} {b:Nat} (hb:b<32) {M:Nat} (hM:10<=M):∀ (m N p:Nat) (i:Int) (out:List Write),p+m=16->i=p->out.length<=2*p->m<N->ze (z7t M) N ((b:Int),i,c,t,out)=some (out++movesL c t b m p)
 | m,0,_,_,_,_,_,_,h=>by omega
 | 0,N+1,p,i,out,h1,h2,h3,_=>by
   rw [z6,za0];unfold z4j movesL;dsimp only;try (rw [zF (by omega)];simp only [zD])
   rw [List.append_nil]
 | m+1,N+1,p,i,out,h1,h2,h3,h4=>by
   subst h2;rw [z6,za0];unfold z4j movesL;dsimp only;have hpl:z4t b p=b*16+p:=by unfold z4t;rw [if_neg (by omega)]
   rw [zT (by omega),zC,z8u,z7,hpl,zF (by omega),zD,zbb c ⟨by omega,by omega⟩,z7,zng ⟨ht.l,by rw [ht.lb];exact ht.l⟩,z7,z07h (ht.o _ (by omega)),z7,
    z09l ht rfl (by omega) hM rfl]
   have ew:w64 ((p:Int)+1)=((p+1:Nat):Int):=by rw [zf (by omega) (by omega)];omega
   have:=zyf c t b p;rw [ew,z02v ht hb hM m N (p+1) _ _ (by omega) rfl (by rw [List.length_append];omega) (by omega),List.append_assoc]
theorem z0cl {t:Table} (ht:TOk t) {c:Chip} {b:Nat} (hb:b<32):zdg (c,t,(b:Int))=some (movesT c t b):=by
 refine zy 20 fun N hN=>?_
 exact z02v ht hb (by omega) 16 N 0 0 [] (by omega) rfl (by simp) (by omega)
end Clk
namespace Clk
open Go
theorem z0ap {B P:Nat} {c:Chip} {o:Int} (h:ChI B P c o) (hB:B<=32) {v:Int} (hv:wrt c v):0<=v /\ v<512 /\ (v / 16).toNat<B:=by
 have h2:=hv.2.1;rw [h.len] at h2;exact ⟨hv.1,by have:=hv.1;omega,h2⟩
theorem DvI.tok {g:Geometry} {B P S:Nat} (hG:Gm g B P S) {d:Device} (h:DvI g B P S d):TOk d.table:=by
 have hs:=hG.s2;have r:∀ v,v = -1 \/ wrt d.chip v -> -1<=v /\ v<4294967296:=fun v hv=>hv.elim (fun e=>by omega) fun hw=>by have:=z0ap h.ch hG.b2 hw;omega
 exact ⟨by rw [h.ta.lm];omega,by rw [h.ta.lb,h.ta.lm],fun v hv=>r v (h.ta.vm v hv),fun p hp=>by rw [zll hp];exact h.ta.cm p hp,fun p hp=>by rw [z02t hp];exact h.ta.cb p hp⟩
theorem z07i {S:Nat} {c c':Chip} {t:Table} {q:Int} {r:Record} (h:TaI S c t) (hc:∀ v,wrt c v->wrt c' v) (hq:¬ wrt c q) (hq':wrt c' q) (hp:(r.kind=1 /\ r.keys.length<=8) \/ (r.kind=2 /\ r.keys.length<=8 /\ r.values=r.keys.map fun k=>t.map.getD k.toNat 0)) :
 (∀ s:Nat,(s:Int)∉r.keys->(applyT t ⟨q,r⟩).map.getD s 0=t.map.getD s 0 /\ (applyT t ⟨q,r⟩).by_.getD s 0=t.by_.getD s 0) /\
 ∀ s:Nat,s<S->(s:Int)∈r.keys->(applyT t ⟨q,r⟩).by_.getD s 0=q /\ ((r.kind=1 /\ (applyT t ⟨q,r⟩).map.getD s 0=q) \/ (r.kind=2 /\ (applyT t ⟨q,r⟩).map.getD s 0=t.map.getD s 0)):=by
 obtain ⟨hM,n1,n2⟩:=h.mid hc hq hq'.1;rcases hp with ⟨h1,h2⟩ | ⟨h1,h2,h3⟩
 · obtain ⟨_,r2,r3,_⟩:=z02p h1 hq' r.keys 0 0 t hM (fun s hs e=>absurd (e▸zgv (by rw [h.lb];exact hs)) n2);exact ⟨r2,fun s hs hm=>⟨(r3 s hs (.inl hm)).2,.inl ⟨h1,(r3 s hs (.inl hm)).1⟩⟩⟩
 · obtain ⟨_,r2,r3,r4,_⟩:=z02q h1 hq' t h3 r.keys 0 0 t rfl rfl hM n1;have e:(applyT t ⟨q,r⟩).map=t.map:=r2;exact ⟨fun s hs=>⟨by rw [e],r3 s hs⟩,fun s hs hm=>⟨r4 s hs (.inl hm),.inr ⟨h1,by rw [e]⟩⟩⟩
def GoodW (S:Nat) (t:Table) (b:Nat) (w:Write):Prop :=
 WriteOk w /\ w.record.keys.length<=8 /\ (∀ k∈w.record.keys,0<=k /\ k<S) /\ (w.record.kind=1 \/ (w.record.kind=2 /\ w.record.values=(w.record.keys.map fun k=>t.map.getD k.toNat 0) /\ ∀ k∈w.record.keys,¬ inB b (t.map.getD k.toNat 0)))
def Stage (S:Nat) (t0 t:Table) (b:Nat) (done:List Int):Prop:=∀ s:Nat,s<S->((s:Int)∈done->¬ inB b (t.map.getD s 0) /\ ¬ inB b (t.by_.getD s 0)) /\ ((s:Int)∉done->t.map.getD s 0=t0.map.getD s 0 /\ t.by_.getD s 0=t0.by_.getD s 0)
structure MoveR (g:Geometry) (B P S:Nat) (d:Device) (n:Nat) (b:Nat) (r:Device×List Fate×Int):Prop where
 inv:DvI g B P S r.1
 fok:FOk r.2.1
 gb:gbL r.1.chip.blocks<=gbL d.chip.blocks
 st:∀ b,b<B->stuck P d.chip b->blk r.1.chip b=blk d.chip b
 same:gbL r.1.chip.blocks=gbL d.chip.blocks->(∀ b,b<B->(blk r.1.chip b).bad=(blk d.chip b).bad) /\ zhp r.1.chip.blocks<=zhp d.chip.blocks+n /\ ∀ v,v∈r.1.table.map \/ v∈r.1.table.by_->(v∈d.table.map \/ v∈d.table.by_) \/ v = -1 \/ (0<=v /\ (v / 16).toNat<B /\ (blk r.1.chip (v / 16).toNat).bad=false)
theorem zsb {P:Nat} {c c':Chip} {b:Nat} (h:blk c' b=blk c b) (hs:stuck P c b):stuck P c' b:=by
 unfold stuck at hs ⊢;rw [h];exact hs
theorem z07j {g:Geometry} {B P S:Nat} (hG:Gm g B P S) {t0:Table} {b:Nat} (hb:b<B) {xs:List Write} (hxs:xs.length<4294967296):∀ (ws:List Write) (done:List Int) (k:Nat) (d:Device) (fs:List Fate),xs.drop k=ws->DvI g B P S d->FOk fs->stuck P d.chip b->Stage S t0 d.table b done ->
 (∀ w∈ws,GoodW S t0 b w)->ws.Pairwise (fun w w'=>∀ k∈w.record.keys,k∉w'.record.keys)->(∀ w∈ws,∀ k∈w.record.keys,k∉done) ->
 ∃ r,(∀ N (i:Int),i=k->ws.length<N->ze z0w N (fs,xs,0,i,d)=some r) /\ MoveR g B P S d ws.length b r /\ (r.2.2=0->∃ done',Stage S t0 r.1.table b done' /\ (∀ x∈done,x∈done') /\ ∀ w∈ws,∀ k∈w.record.keys,k∈done')
 | [],done,k,d,fs,h1,hI,hF,hs,hS,_,_,_=>by
   have hk:=z00 h1;refine ⟨(d,fs,0),fun N i hi hN=>?_,⟨hI,hF,Nat.le_refl _,fun _ _ _=>rfl,fun _=>⟨fun _ _=>rfl,Nat.le_refl _,fun v hv=>.inl hv⟩⟩,fun _=>⟨done,hS,fun _ h=>h,fun w hw=>by cases hw⟩⟩;obtain ⟨N,rfl⟩:∃ M,N=M+1:=⟨N - 1,by simp at hN;omega⟩;rw [z6,z5i];unfold z2s;dsimp only;rw [zF (by omega),zD]
 | w::ws,done,k,d,fs,h1,hI,hF,hs,hS,hW,hPw,hD=>by
   obtain ⟨g1,g2,g3⟩:=zr h1;obtain ⟨w1,w2,w3,w4⟩:=hW w (List.mem_cons_self ..);have hDw:=hD w (List.mem_cons_self ..);have hpr:(w.record.kind=1 /\ w.record.keys.length<=8) \/ (w.record.kind=2 /\ w.record.keys.length<=8 /\ w.record.values=w.record.keys.map fun k=>d.table.map.getD k.toNat 0):=by
    rcases w4 with h | ⟨h,hv,_⟩
    · exact .inl ⟨h,w2⟩
    · refine .inr ⟨h,w2,?_⟩;rw [hv];refine List.map_congr_left fun x hx=>?_
      obtain ⟨s,rfl⟩:∃ s:Nat,x=s:=⟨x.toNat,by have:=w3 x hx;omega⟩;have:=(hS s (by have:=w3 _ hx;omega)).2 (hDw _ hx);have e:((s:Int)).toNat=s:=by omega
      rw [e];exact this.1.symm
   obtain ⟨r,hr,hres⟩:=zuy hG hI hF (w:=w) (hpr.imp id .inl) w1;have hround:∀ N (i:Int),i=k->(w::ws).length<N->ze z0w N (fs,xs,0,i,d)=ze z0w (N - 1) (r.2.1,xs,r.2.2,((k+1:Nat):Int),r.1):=fun N i hi hN=>by
    obtain ⟨N,rfl⟩:∃ M,N=M+1:=⟨N - 1,by simp at hN;omega⟩;rw [z6,z5i];unfold z2s;dsimp only;have ek:i.toNat=k:=by omega
    rw [zT (by omega),zC,zT rfl,zC,zT (by omega),zC,ek,g2,hr,z7,zf (by omega) (by omega)];congr 1
    simp only [hi];rfl
   have hstop:r.2.2≠0->∀ N (i:Int),i=k->(w::ws).length<N->ze z0w N (fs,xs,0,i,d)=some r:=fun he N i hi hN=>by
    rw [hround N i hi hN];obtain ⟨N,rfl⟩:∃ M,N=M+2:=⟨N - 2,by simp only [List.length_cons] at hN;omega⟩;show ze z0w (N+1) _=_;rw [z6,z5i];unfold z2s;dsimp only;rw [zF he,zD];cases decide (((k+1:Nat):Int)<(xs.length:Int)) <;> rfl
   rcases hres with ⟨he,e1,e2⟩ | R
   · refine ⟨r,hstop he,?_,fun h=>absurd h he⟩;rw [show r=(d,fs,r.2.2) from Prod.ext e1 (Prod.ext e2 rfl)];exact ⟨hI,hF,Nat.le_refl _,fun _ _ _=>rfl,fun _=>⟨fun _ _=>rfl,Nat.le_add_right _ _,fun v hv=>.inl hv⟩⟩
   · rcases R.e with he | he
     · obtain ⟨q,q1,q2,q3,q4,q5,q6,q7,q8⟩:=R.ok he;have hrec:(seqW d w).record.kind=w.record.kind /\ (seqW d w).record.keys=w.record.keys /\ (seqW d w).record.values=w.record.values:=⟨rfl,rfl,rfl⟩;obtain ⟨p1,p2⟩:=z07i (r:=(seqW d w).record) hI.ta q6 q7 q8 hpr;obtain ⟨_,hrefs⟩:=zyb (r:=(seqW d w).record) hI.ta q6 q7 q8 (hpr.imp id .inl);rw [<- q1] at p1 p2 hrefs;have hqb:¬ inB b q:=fun h=>q5 (by
        have:(q / 16).toNat=b:=by have:=h.2;omega
        rw [this];exact hs)
       have hS':Stage S t0 r.1.table b (done++w.record.keys):=fun s hsS=>by
        obtain ⟨s1,s2⟩:=hS s hsS;refine ⟨fun hm=>?_,fun hm=>?_⟩
        · by_cases hk:(s:Int)∈w.record.keys
          · obtain ⟨p3,p4⟩:=p2 s hsS hk;rw [p3];refine ⟨?_,hqb⟩;rcases p4 with ⟨_,p4⟩ | ⟨p5,p4⟩
            · rw [p4];exact hqb
            · rw [p4,(s2 (hDw _ hk)).1];rcases w4 with w4 | ⟨_,_,w4⟩
              · exact absurd (w4.symm.trans p5) (by decide)
              · have:=w4 _ hk;have e:((s:Int)).toNat=s:=by omega
                rw [e] at this;exact this
          · obtain ⟨p3,p4⟩:=p1 s hk;rw [p3,p4];exact s1 ((List.mem_append.1 hm).resolve_right hk)
        · rw [List.mem_append] at hm;obtain ⟨p3,p4⟩:=p1 s (fun h=>hm (.inr h));rw [p3,p4];exact s2 (fun h=>hm (.inl h))
       rw [List.pairwise_cons] at hPw;have hbl:=R.st b hb hs;obtain ⟨r',hr',hM,hend⟩:=z07j hG hb hxs ws (done++w.record.keys) (k+1) r.1 r.2.1 g3 R.inv R.fok (zsb hbl hs) hS' (fun x hx=>hW x (List.mem_cons_of_mem _ hx)) hPw.2 (fun x hx y hy=>by
        rw [List.mem_append];rintro (h | h)
        · exact hD x (List.mem_cons_of_mem _ hx) y hy h
        · exact hPw.1 x hx y h hy)
       refine ⟨r',fun N i hi hN=>?_,⟨hM.inv,hM.fok,Nat.le_trans hM.gb R.gb,fun b' hb' hs'=>(hM.st b' hb' (zsb (R.st b' hb' hs') hs')).trans (R.st b' hb' hs'),fun hsame=>?_⟩,fun h0=>?_⟩
       · rw [hround N i hi hN,he];exact hr' (N - 1) _ rfl (by simp only [List.length_cons] at hN;omega)
       · have e1:gbL r'.1.chip.blocks=gbL r.1.chip.blocks:=by have:=hM.gb;have:=R.gb;omega
         have e2:gbL r.1.chip.blocks=gbL d.chip.blocks:=by omega
         obtain ⟨m1,m2,m3⟩:=hM.same e1;obtain ⟨m4,m5⟩:=R.same e2;refine ⟨fun b' hb'=>(m1 b' hb').trans (m4 b' hb'),by simp only [List.length_cons];omega,fun v hv=>?_⟩;rcases m3 v hv with h | h | h
         · rcases hrefs v h with h | h | h | h
           · exact .inl (.inl h)
           · exact .inl (.inr h)
           · refine .inr (.inr ?_);rw [h];exact ⟨q2,q3,(m1 _ q3).trans q4⟩
           · exact .inr (.inl h)
         · exact .inr (.inl h)
         · exact .inr (.inr h)
       · obtain ⟨done',f1,f2,f3⟩:=hend h0;refine ⟨done',f1,fun x hx=>f2 x (List.mem_append_left _ hx),fun x hx y hy=>?_⟩;rcases List.mem_cons.1 hx with rfl | hx
         · exact f2 y (List.mem_append_right _ hy)
         · exact f3 x hx y hy
     · refine ⟨r,hstop (by omega),⟨R.inv,R.fok,R.gb,R.st,fun hsame=>?_⟩,fun h=>by omega⟩;obtain ⟨m1,m2⟩:=R.same hsame;refine ⟨m1,by simp only [List.length_cons];omega,fun v hv=>.inl ?_⟩;rw [R.full he] at hv;exact hv
theorem zsc {l m:List Int} (h:m∈z5v l):m=l /\ l≠[]:=by
 unfold z5v at h;split at h
 · cases h
 · rename_i e;exact ⟨List.mem_singleton.1 h,e⟩
theorem zyg {c:Chip} {t:Table} {b p:Nat} {w:Write} (h:w∈pageM c t b p):(w=⟨(z8v c (b*16+p)).1.data,⟨1,0,z0n t (b*16+p),[]⟩⟩ /\ z0n t (b*16+p)≠[]) \/ (w=⟨[],⟨2,0,z3q t b (z7x t (b*16+p)),vals t (z3q t b (z7x t (b*16+p)))⟩⟩ /\ z3q t b (z7x t (b*16+p))≠[]):=by
 unfold pageM dataM chgM at h;rcases List.mem_append.1 h with h | h
 · obtain ⟨l,h1,rfl⟩:=List.mem_map.1 h;obtain ⟨rfl,h2⟩:=zsc h1;exact .inl ⟨rfl,h2⟩
 · obtain ⟨l,h1,rfl⟩:=List.mem_map.1 h;obtain ⟨rfl,h2⟩:=zsc h1;exact .inr ⟨rfl,h2⟩
def cls (t:Table) (b:Nat) (k:Int):Int:=if inB b (t.map.getD k.toNat 0) then 2*(t.map.getD k.toNat 0) else 2*(t.by_.getD k.toNat 0)+1
theorem zv1 {c:Chip} {t:Table} {b p:Nat} (hp:p<16) {w:Write} (h:w∈pageM c t b p):∃ x:Int,(x=0 /\ w.record.kind=1 \/ x=1 /\ w.record.kind=2) /\ ∀ k∈w.record.keys,cls t b k=2*(b*16+p)+x:=by
 rcases zyg h with ⟨rfl,_⟩ | ⟨rfl,_⟩
 · refine ⟨0,.inl ⟨rfl,rfl⟩,fun k hk=>?_⟩;obtain ⟨j,h1,rfl,h3⟩:=(zgw (t:=t) (p:=b*16+p) (by omega)).1 hk;unfold cls;have e:((j:Int)).toNat=j:=by omega
   rw [e,h3,if_pos ⟨by omega,by omega⟩];omega
 · refine ⟨1,.inr ⟨rfl,rfl⟩,fun k hk=>?_⟩;obtain ⟨hk1,hk2⟩:=List.mem_filter.1 hk;obtain ⟨j,h1,rfl,h3⟩:=(zki (t:=t) (p:=b*16+p) (by omega)).1 hk1;have hn:¬ inB b (t.map.getD ((j:Int)).toNat 0):=by simpa using hk2
   unfold cls;rw [if_neg hn];have e:((j:Int)).toNat=j:=by omega
   rw [e,h3]
theorem zlm {c:Chip} {t:Table} {b:Nat}:∀ (m p:Nat) {w:Write},w∈movesL c t b m p->∃ p',p<=p' /\ p'<p+m /\ w∈pageM c t b p'
 | 0,p,w,h=>by cases h
 | m+1,p,w,h=>by
   unfold movesL at h;rcases List.mem_append.1 h with h | h
   · exact ⟨p,by omega,by omega,h⟩
   · obtain ⟨p',h1,h2,h3⟩:=zlm m (p+1) h;exact ⟨p',by omega,by omega,h3⟩
theorem zyh {c:Chip} {t:Table} {b:Nat}:∀ (m p:Nat),p+m<=16->(movesL c t b m p).Pairwise (fun w w'=>∀ k∈w.record.keys,k∉w'.record.keys)
 | 0,p,_=>.nil
 | m+1,p,h=>by
   unfold movesL;rw [List.pairwise_append];refine ⟨?_,zyh m (p+1) (by omega),fun w hw w' hw' k hk hk'=>?_⟩
   · have hall:∀ w∈pageM c t b p,∃ x:Int,(x=0 /\ w.record.kind=1 \/ x=1 /\ w.record.kind=2) /\ ∀ k∈w.record.keys,cls t b k=2*(b*16+p)+x:=fun w hw=>zv1 (by omega) hw
     unfold pageM at hall ⊢;rw [List.pairwise_append];have one:∀ (l:List Int) (f:List Int->Write),((z5v l).map f).Pairwise (fun w w'=>∀ k∈w.record.keys,k∉w'.record.keys):=fun l f=>by
      unfold z5v;split <;> simp
     refine ⟨one _ _,one _ _,fun w hw w' hw' k hk hk'=>?_⟩;obtain ⟨x,hx,h1⟩:=hall w (List.mem_append_left _ hw);obtain ⟨x',hx',h1'⟩:=hall w' (List.mem_append_right _ hw');have e:=(h1 k hk).symm.trans (h1' k hk');have k1:w.record.kind=1:=by obtain ⟨l,_,rfl⟩:=List.mem_map.1 hw;rfl
     have k2:w'.record.kind=2:=by obtain ⟨l,_,rfl⟩:=List.mem_map.1 hw';rfl
     omega
   · obtain ⟨x,hx,h1⟩:=zv1 (by omega) hw;obtain ⟨p',h2,h3,h4⟩:=zlm m (p+1) hw';obtain ⟨x',hx',h1'⟩:=zv1 (by omega) h4;have e:=(h1 k hk).symm.trans (h1' k hk');omega
theorem z09m {c:Chip} {place:Int} (hc:PagesOk c):(z8v c place).1.data.length<4294967296:=by
 unfold z8v;split
 · simp [z7w]
 · rename_i h;have h1:(place / 16).toNat<c.blocks.length:=by omega
   have h2:(place % 16).toNat<(c.blocks.getD (place / 16).toNat default).pages.length:=by omega
   exact (hc _ (zo h1) _ (zo h2)).2
theorem z04i {g:Geometry} {B P S:Nat} (hG:Gm g B P S) {d:Device} (h:DvI g B P S d) (b:Nat) {w:Write} (hw:w∈movesT d.chip d.table b):GoodW S d.table b w:=by
 obtain ⟨p,h1,h2,h3⟩:=zlm 16 0 hw;have hT:=h.tok hG;have hlm:=h.ta.lm;have hlb:=h.ta.lb;rcases zyg h3 with ⟨rfl,_⟩ | ⟨rfl,_⟩
 · have hl:=hT.o (b*16+p) (by omega);refine ⟨⟨⟨by show (z0n d.table (b*16+p)).length<4294967296;omega,by show (0:Nat)<_;omega⟩,z09m h.pk⟩,hl,fun k hk=>?_,.inl rfl⟩;obtain ⟨j,h1,rfl,_⟩:=(zgw (t:=d.table) (p:=b*16+p) (by omega)).1 hk;omega
 · have hl:=hT.s (b*16+p) (by omega);have hl2:(z3q d.table b (z7x d.table (b*16+p))).length<=8:=Nat.le_trans (List.length_filter_le ..) hl;refine ⟨⟨⟨by show (z3q d.table b (z7x d.table (b*16+p))).length<4294967296;omega,by show (vals d.table (z3q d.table b (z7x d.table (b*16+p)))).length<4294967296;unfold vals;rw [List.length_map];omega⟩,by show (0:Nat)<_;omega⟩,hl2,fun k hk=>?_,.inr ⟨rfl,rfl,fun k hk=>?_⟩⟩
   · obtain ⟨hk1,hk2⟩:=List.mem_filter.1 hk;obtain ⟨j,h1,rfl,h3⟩:=(zki (t:=d.table) (p:=b*16+p) (by omega)).1 hk1;omega
   · obtain ⟨hk1,hk2⟩:=List.mem_filter.1 hk;simpa using hk2
theorem zln {c:Chip} {t:Table} {b:Nat}:∀ (m p:Nat) (p':Nat),p<=p'->p'<p+m->∀ w∈pageM c t b p',w∈movesL c t b m p
 | 0,p,p',h1,h2,w,hw=>by omega
 | m+1,p,p',h1,h2,w,hw=>by
   unfold movesL;by_cases e:p=p'
   · subst e;exact List.mem_append_left _ hw
   · exact List.mem_append_right _ (zln m (p+1) p' (by omega) (by omega) w hw)
theorem z07k {g:Geometry} {B P S:Nat} {d:Device} (h:DvI g B P S d) {b s:Nat} (hs:s<S) (hin:inB b (d.table.map.getD s 0) \/ inB b (d.table.by_.getD s 0)):∃ w∈movesT d.chip d.table b,(s:Int)∈w.record.keys:=by
 have hlm:=h.ta.lm;have hlb:=h.ta.lb;have mk:∀ {l:List Int} {x:Int},x∈l->z5v l=[l]:=fun {l x} hx=>by unfold z5v;rw [if_neg (fun e=>by rw [e] at hx;cases hx)]
 have e0:((s:Int)).toNat=s:=by omega
 by_cases hm:inB b (d.table.map.getD s 0)
 · have hk:(s:Int)∈z0n d.table (d.table.map.getD s 0):=(zgw hm.1).2 ⟨s,by omega,rfl,rfl⟩;obtain ⟨p,hp⟩:∃ p:Nat,d.table.map.getD s 0=(b*16+p:Int) /\ p<16:=⟨(d.table.map.getD s 0 % 16).toNat,by have:=hm.2;omega,by omega⟩;rw [hp.1] at hk;refine ⟨⟨(z8v d.chip (b*16+p)).1.data,⟨1,0,z0n d.table (b*16+p),[]⟩⟩,zln 16 0 p (by omega) (by omega) _ ?_,(show (s:Int)∈z0n d.table (b*16+p) from hk)⟩;unfold pageM dataM;rw [mk hk];exact List.mem_append_left _ (List.mem_singleton.2 rfl)
 · have hm2:=hin.resolve_left hm;have hk:(s:Int)∈z7x d.table (d.table.by_.getD s 0):=(zki hm2.1).2 ⟨s,by omega,rfl,rfl⟩;obtain ⟨p,hp⟩:∃ p:Nat,d.table.by_.getD s 0=(b*16+p:Int) /\ p<16:=⟨(d.table.by_.getD s 0 % 16).toNat,by have:=hm2.2;omega,by omega⟩;rw [hp.1] at hk;have hk2:(s:Int)∈z3q d.table b (z7x d.table (b*16+p)):=List.mem_filter.2 ⟨hk,by rw [e0,zF hm];rfl⟩;refine ⟨⟨[],⟨2,0,z3q d.table b (z7x d.table (b*16+p)),vals d.table (z3q d.table b (z7x d.table (b*16+p)))⟩⟩,zln 16 0 p (by omega) (by omega) _ ?_,hk2⟩;unfold pageM chgM;rw [mk hk2];exact List.mem_append_right _ (List.mem_singleton.2 rfl)
theorem zyi {g:Geometry} {B P S:Nat} (hG:Gm g B P S) {d:Device} {b:Nat} (hb:b<B) {fs:List Fate} (hI:DvI g B P S d) (hF:FOk fs) (hs:stuck P d.chip b) :
 ∃ r,zb6 (d,(b:Int),fs)=some r /\ MoveR g B P S d (movesT d.chip d.table b).length b r /\ (r.2.2=0->∀ v,v∈r.1.table.map \/ v∈r.1.table.by_->¬ inB b v):=by
 have hlen:(movesT d.chip d.table b).length<=32:=by
  have:∀ m p,(movesL d.chip d.table b m p).length<=2*m:=fun m=>by
   induction m with
   | zero=>intro p;exact Nat.le_refl _
   | succ m ih=>intro p;unfold movesL;rw [List.length_append];have:=zyf d.chip d.table b p;have:=ih (p+1);omega
  exact this 16 0
 obtain ⟨r,hr,hM,hend⟩:=z07j hG (t0:=d.table) hb (xs:=movesT d.chip d.table b) (by omega) (movesT d.chip d.table b) [] 0 d fs rfl hI hF hs (fun s _=>⟨fun h=>(List.not_mem_nil h).elim,fun _=>⟨rfl,rfl⟩⟩) (fun w hw=>z04i hG hI b hw) (zyh 16 0 (by omega)) (fun _ _ _ _ h=>(List.not_mem_nil h).elim);refine ⟨r,zy 40 fun N hN=>?_,hM,fun h0 v hv=>?_⟩
 · show zb5 N d b fs=_;unfold zb5;rw [z0cl (hI.tok hG) (by have:=hG.b2;omega),z7];exact hr N 0 rfl (by omega)
 · obtain ⟨done,hS,_,hall⟩:=hend h0;have key:∀ s:Nat,s<S->¬ inB b (r.1.table.map.getD s 0) /\ ¬ inB b (r.1.table.by_.getD s 0):=fun s hsS=>by
    obtain ⟨s1,s2⟩:=hS s hsS;by_cases hm:(s:Int)∈done
    · exact s1 hm
    · obtain ⟨e1,e2⟩:=s2 hm;rw [e1,e2];have hno:¬ (inB b (d.table.map.getD s 0) \/ inB b (d.table.by_.getD s 0)):=fun h=>by
       obtain ⟨w,hw,hk⟩:=z07k hI hsS h;exact hm (hall w hw _ hk)
      exact ⟨fun h=>hno (.inl h),fun h=>hno (.inr h)⟩
   rcases hv with hv | hv
   · obtain ⟨s,hs,rfl⟩:=List.getElem_of_mem hv;have:=(key s (by rw [<- hM.inv.ta.lm];exact hs)).1;rwa [zI,zH hs] at this
   · obtain ⟨s,hs,rfl⟩:=List.getElem_of_mem hv;have:=(key s (by rw [<- hM.inv.ta.lb];exact hs)).2;rwa [zI,zH hs] at this
end Clk
namespace Clk
open Go
def countL (t:Table) (b:Nat):Nat->Nat->Nat
 | 0,_=>0
 | m+1,p=>(if liveT t (b*16+p)=true then 1 else 0)+countL t b m (p+1)
def countT (t:Table) (b:Nat):Nat:=countL t b 16 0
theorem zv2 {t:Table} (ht:TabOk t) {b:Nat} (hb:b<32):∀ (m N p n:Nat) (i n':Int),p+m=16->i=p->n'=n->n<=p->m<N->ze z7u N ((b:Int),n',i,t)=some ((n+countL t b m p:Nat):Int)
 | m,0,_,_,_,_,_,_,_,_,h=>by omega
 | 0,N+1,p,n,i,n',h1,h2,h3,h4,_=>by
   rw [z6,za1];unfold z4k countL;dsimp only;rw [zF (by omega),zD,h3];rfl
 | m+1,N+1,p,n,i,n',h1,h2,h3,h4,h5=>by
   subst h2 h3;rw [z6,za1];unfold z4k countL;dsimp only;have e1:w64 (w64 ((b:Int)*16)+p)=b*16+p:=by
    rw [zf (n:=(b:Int)*16) (by omega) (by omega),zf (by omega) (by omega)]
   rw [zT (by omega),zC,zT (by omega),zC,zT (by omega),zC,e1,z0dm ht,z7,zf (n:=(p:Int)+1) (by omega) (by omega)];cases hl:liveT t (b*16+p) with
   | true =>
     rw [zC,if_pos rfl,zf (by omega) (by omega),zv2 ht hb m N (p+1) (n+1) _ _ (by omega) (by omega) (by omega) (by omega) (by omega)];congr 2;omega
   | false =>
     rw [zD,if_neg Bool.false_ne_true,zv2 ht hb m N (p+1) n _ _ (by omega) (by omega) (by omega) (by omega) (by omega)];congr 2;omega
theorem zkj {t:Table} (ht:TabOk t) {b:Nat} (hb:b<32):z8q (t,(b:Int))=some ((countT t b:Nat):Int):=by
 refine zy 20 fun N hN=>?_
 have h:=zv2 ht hb 16 N 0 0 0 0 rfl rfl rfl (Nat.le_refl _) (by omega);rw [Nat.zero_add] at h;exact h
def reffed (t:Table) (b:Nat):Bool:=t.map.any (fun v=>decide (inB b v))||t.by_.any (fun v=>decide (inB b v))
theorem zgy {t:Table} {b:Nat}:reffed t b=true↔∃ v,(v∈t.map \/ v∈t.by_) /\ inB b v:=by
 unfold reffed;rw [Bool.or_eq_true,List.any_eq_true,List.any_eq_true];constructor
 · rintro (⟨v,h1,h2⟩ | ⟨v,h1,h2⟩)
   · exact ⟨v,.inl h1,by simpa using h2⟩
   · exact ⟨v,.inr h1,by simpa using h2⟩
 · rintro ⟨v,h1 | h1,h2⟩
   · exact .inl ⟨v,h1,by simpa using h2⟩
   · exact .inr ⟨v,h1,by simpa using h2⟩
theorem z02w {t:Table} {q:Int} (hq:0<=q):liveT t q=true↔q∈t.map \/ q∈t.by_:=by
 unfold liveT;rw [Bool.or_eq_true,decide_eq_true_eq,decide_eq_true_eq,zll hq,z02t hq,List.count_pos_iff,List.count_pos_iff]
theorem zsd {t:Table} {b:Nat}:∀ (m p:Nat),0<countL t b m p↔∃ p',p<=p' /\ p'<p+m /\ liveT t (b*16+p')=true
 | 0,p=>by
   constructor
   · intro h;exact absurd h (by unfold countL;omega)
   · rintro ⟨p',h1,h2,_⟩;omega
 | m+1,p=>by
   unfold countL;have ih:=zsd (t:=t) (b:=b) m (p+1);constructor
   · intro h;by_cases c:liveT t (b*16+p)=true
     · exact ⟨p,Nat.le_refl _,by omega,c⟩
     · rw [if_neg c] at h;obtain ⟨p',h1,h2,h3⟩:=ih.1 (by omega);exact ⟨p',by omega,by omega,h3⟩
   · rintro ⟨p',h1,h2,h3⟩
     by_cases e:p'=p
     · subst e;rw [if_pos h3];omega
     · have:=ih.2 ⟨p',by omega,by omega,h3⟩;omega
theorem zmt {t:Table} {b:Nat}:0<countT t b↔reffed t b=true:=by
 unfold countT;rw [zsd,zgy];constructor
 · rintro ⟨p,_,h2,h3⟩
   exact ⟨_,(z02w (by omega)).1 h3,by omega,by omega⟩
 · rintro ⟨v,h1,h2,h3⟩
   refine ⟨(v % 16).toNat,by omega,by omega,?_⟩;have e:(b:Int)*16+((v % 16).toNat:Nat)=v:=by omega
   rw [e];exact (z02w h2).2 h1
def z7y (d:Device) (b:Nat):Bool:=(blk d.chip b).bad&&reffed d.table b
theorem z07l {g:Geometry} {B P S:Nat} (hG:Gm g B P S) {d:Device} (hI:DvI g B P S d):∀ (m N b:Nat) (i:Int),b+m=B->i=b->m<N->∃ v,(∀ N,m<N->ze z5k N ((b:Int),d)=some v) /\ ((v = -1 /\ ∀ b',b<=b'->b'<B->z7y d b'=false) \/ ∃ b':Nat,b'<B /\ v=b' /\ z7y d b'=true)
 | 0,_,b,i,h1,h2,_=>by
   refine ⟨-1,fun N hN=>?_,.inl ⟨rfl,fun b' _ _=>by omega⟩⟩;obtain ⟨N,rfl⟩:∃ M,N=M+1:=⟨N - 1,by omega⟩;rw [z6,zb7];unfold z5j;dsimp only;rw [hI.ch.len,zF (by omega),zD]
 | m+1,N0,b,i,h1,h2,h3=>by
   obtain ⟨v,hv,hs⟩:=z07l hG hI m (N0 - 1) (b+1) _ (by omega) rfl (by omega);have hB2:=hG.b2;have eb:((b:Int)).toNat=b:=by omega
   have round:∀ N,m+1<N->ze z5k N ((b:Int),d)=cond (blk d.chip b).bad (cond (decide (0<countT d.table b)) (some (b:Int)) (some v)) (some v):=fun N hN=>by
    obtain ⟨N,rfl⟩:∃ M,N=M+1:=⟨N - 1,by omega⟩;rw [z6,zb7];unfold z5j;dsimp only;rw [hI.ch.len,zT (by omega),zC,zT (by omega),zC,eb,zkj (hI.ok hG).2 (by omega),z7,zf (by omega) (by omega)];have:=hv N (by omega);rw [show ((b:Int)+1)=((b+1:Nat):Int) by omega,this];have e2:decide (0<((countT d.table b:Nat):Int))=decide (0<countT d.table b):=by rw [Bool.eq_iff_iff];simp
    rw [e2];rfl
   by_cases hl:z7y d b=true
   · refine ⟨b,fun N hN=>?_,.inr ⟨b,by omega,rfl,hl⟩⟩;unfold z7y at hl;rw [Bool.and_eq_true] at hl;rw [round N hN,hl.1,zC,zT (zmt.2 hl.2),zC]
   · have hl':z7y d b=false:=by simpa using hl
     refine ⟨v,fun N hN=>?_,?_⟩
     · rw [round N hN];unfold z7y at hl';cases hbad:(blk d.chip b).bad with
       | false=>rw [zD]
       | true =>
         rw [hbad,Bool.true_and] at hl';rw [zC,zF (fun h=>by rw [zmt.1 h] at hl';cases hl'),zD]
     · rcases hs with ⟨e,h⟩ | h
       · refine .inl ⟨e,fun b' h4 h5=>?_⟩;by_cases e2:b'=b
         · rw [e2];exact hl'
         · exact h b' (by omega) h5
       · exact .inr h
theorem z07m {g:Geometry} {B P S:Nat} (hG:Gm g B P S) {d:Device} (hI:DvI g B P S d):∃ v,z7c d=some v /\ ((v = -1 /\ ∀ b',b'<B->z7y d b'=false) \/ ∃ b':Nat,b'<B /\ v=b' /\ z7y d b'=true):=by
 obtain ⟨v,hv,hs⟩:=z07l hG hI B (B+1) 0 0 (by omega) rfl (by omega);exact ⟨v,zy (B+1) fun N hN=>hv N (by omega),hs.imp (fun h=>⟨h.1,fun b' hb'=>h.2 b' (Nat.zero_le _) hb'⟩) id⟩
def lostN (B:Nat) (d:Device):Nat:=(List.range B).countP (z7y d)
theorem zyj {α:Type} {p q:α->Bool}:∀ {l:List α},(∀ x∈l,p x=true->q x=true)->(∃ x∈l,q x=true /\ p x=false)->l.countP p<l.countP q
 | [],_,h=>by obtain ⟨x,hx,_⟩:=h;cases hx
 | a::l,h1,⟨x,hx,h2,h3⟩=>by
   rw [List.countP_cons,List.countP_cons];have hle:l.countP p<=l.countP q:=List.countP_mono_left fun x hx h=>h1 x (List.mem_cons_of_mem _ hx) h
   rcases List.mem_cons.1 hx with rfl | hx
   · rw [h2,h3,if_pos rfl,if_neg Bool.false_ne_true];omega
   · have:=zyj (fun x hx h=>h1 x (List.mem_cons_of_mem _ hx) h) ⟨x,hx,h2,h3⟩;have:=h1 a (List.mem_cons_self ..);by_cases c:p a=true
     · rw [if_pos c,if_pos (this c)];omega
     · rw [if_neg c];split <;> omega
theorem z02x (B:Nat) (d:Device):lostN B d<=B:=by
 unfold lostN;have:=List.countP_le_length (p:=z7y d) (l:=List.range B);rwa [List.length_range] at this
theorem zyk {g:Geometry} {B P S:Nat} {d:Device} {n b:Nat} {r:Device×List Fate×Int} (hM:MoveR g B P S d n b r) (hsame:gbL r.1.chip.blocks=gbL d.chip.blocks) {b':Nat} (hb':b'<B) (h:z7y r.1 b'=true):z7y d b'=true:=by
 obtain ⟨m1,_,m3⟩:=hM.same hsame;unfold z7y at h ⊢;rw [Bool.and_eq_true] at h ⊢;refine ⟨(m1 b' hb').symm.trans h.1,zgy.2 ?_⟩;obtain ⟨v,h1,h2⟩:=zgy.1 h.2;rcases m3 v h1 with h3 | h3 | ⟨h3,h4,h5⟩
 · exact ⟨v,h3,h2⟩
 · have:=h2.1;omega
 · have e:(v / 16).toNat=b':=by have:=h2.2;omega
   rw [e,h.1] at h5;cases h5
def Less (B:Nat) (d r:Device):Prop:=gbL r.chip.blocks<gbL d.chip.blocks \/ (gbL r.chip.blocks=gbL d.chip.blocks /\ lostN B r<lostN B d)
theorem Less.trans {B:Nat} {a b c:Device} (h:Less B b c) (k:Less B a b):Less B a c:=by
 unfold Less at *;omega
theorem zyl {g:Geometry} {B P S:Nat} (hG:Gm g B P S):∀ (m:Nat) (d:Device) (fs:List Fate) (b:Int),gbL d.chip.blocks*100+lostN B d<=m->DvI g B P S d->FOk fs->((b = -1 /\ ∀ b',b'<B->z7y d b'=false) \/ ∃ b':Nat,b'<B /\ b=b' /\ z7y d b'=true) ->
 ∃ r,(∀ N,m<N->ze z1k N (fs,b,d)=some r) /\ DvI g B P S r.1 /\ FOk r.2.1 /\ (r.2.2=0->(r.1=d \/ Less B d r.1))
 | m,d,fs,b,hm,hI,hF,.inl ⟨hb,hno⟩=>by
   refine ⟨(d,fs,0),fun N hN=>?_,hI,hF,fun _=>.inl rfl⟩;obtain ⟨N,rfl⟩:∃ M,N=M+1:=⟨N - 1,by omega⟩;rw [z6,z3s];unfold z3f;dsimp only;rw [hb,zF (by omega),zD]
 | m,d,fs,b,hm,hI,hF,.inr ⟨b',hb',e,hl⟩=>by
   have hbad:(blk d.chip b').bad=true:=by
    unfold z7y at hl;rw [Bool.and_eq_true] at hl;exact hl.1
   obtain ⟨r,hr,hM,hend⟩:=zyi hG hb' hI hF (fs:=fs) (.inl hbad);have round:∀ N,m<N->ze z1k N (fs,b,d)=cond (!(decide (r.2.2=0))) (some (r.1,r.2.1,r.2.2)) (Option.bind (z7c r.1) fun r5=>ze z1k (N - 1) (r.2.1,r5,r.1)):=fun N hN=>by
    obtain ⟨N,rfl⟩:∃ M,N=M+1:=⟨N - 1,by omega⟩;rw [z6,z3s];unfold z3f;dsimp only;rw [e,zT (by omega),zC,hr,z7];rfl
   by_cases he:r.2.2=0
   · have hless:Less B d r.1:=by
      have h1:=hM.gb;by_cases hsame:gbL r.1.chip.blocks=gbL d.chip.blocks
      · refine .inr ⟨hsame,?_⟩;unfold lostN;refine zyj (fun x hx h=>zyk hM hsame (List.mem_range.1 hx) h) ⟨b',List.mem_range.2 hb',hl,?_⟩;cases h2:z7y r.1 b' with
        | false=>rfl
        | true =>
          unfold z7y at h2;rw [Bool.and_eq_true] at h2;obtain ⟨v,h3,h4⟩:=zgy.1 h2.2;exact absurd h4 (hend he v h3)
      · exact .inl (by omega)
     have hlt:gbL r.1.chip.blocks*100+lostN B r.1<m:=by
      have:=z02x B r.1;have:=hG.b2;rcases hless with h | ⟨h1,h2⟩ <;> omega
     obtain ⟨v,hv,hs⟩:=z07m hG hM.inv;obtain ⟨r',h1,h2,h3,h4⟩:=zyl hG (m - 1) r.1 r.2.1 v (by omega) hM.inv hM.fok hs;refine ⟨r',fun N hN=>?_,h2,h3,fun h0=>.inr ?_⟩
     · rw [round N hN,zT he,Bool.not_true,zD,hv,z7,h1 (N - 1) (by omega)]
     · rcases h4 h0 with h5 | h5
       · rw [h5];exact hless
       · exact h5.trans hless
   · refine ⟨r,fun N hN=>?_,hM.inv,hM.fok,fun h=>absurd h he⟩;rw [round N hN,zF he,Bool.not_false,zC]
termination_by m=>m
decreasing_by omega
theorem zpy {g:Geometry} {B P S:Nat} (hG:Gm g B P S) {d:Device} {fs:List Fate} (hI:DvI g B P S d) (hF:FOk fs):∃ r,z0t (d,fs)=some r /\ DvI g B P S r.1 /\ FOk r.2.1 /\ (r.2.2=0->(r.1=d \/ Less B d r.1)):=by
 obtain ⟨v,hv,hs⟩:=z07m hG hI;obtain ⟨r,h1,h2⟩:=zyl hG _ d fs v (Nat.le_refl _) hI hF hs;refine ⟨r,zy (gbL d.chip.blocks*100+lostN B d+1) fun N hN=>?_,h2⟩;show z29 N d fs=_;unfold z29;rw [hv,z7];exact h1 N (by omega)
end Clk
namespace Clk
open Go
def VicOk (B P:Nat) (d:Device) (v:Int):Prop:=∃ i:Nat,i<B /\ v=i /\ z5t d.chip d.opn i=2 /\ countT d.table i<P
theorem zpz {g:Geometry} {B P S:Nat} (hG:Gm g B P S) {d:Device} (hI:DvI g B P S d):∀ (m i:Nat) (best cnt:Int),i+m=B->(best = -1 \/ VicOk B P d best)->∃ v,(∀ N,m<N->ze z1l N (d.opn,best,cnt,(i:Int),d.chip,d.table)=some v) /\ (v = -1 \/ VicOk B P d v)
 | 0,i,best,cnt,h1,hb=>by
   refine ⟨best,fun N hN=>?_,hb⟩;obtain ⟨N,rfl⟩:∃ M,N=M+1:=⟨N - 1,by omega⟩;rw [z6,z85];unfold zw;dsimp only;rw [hI.ch.len,zF (by omega),zD]
 | m+1,i,best,cnt,h1,hb=>by
   have hB2:=hG.b2;have ei:((i:Int)).toNat=i:=by omega
   have hpg:=hI.ch.pg i (by omega);unfold blk at hpg;obtain ⟨v1,hv1,hs1⟩:=zpz hG hI m (i+1) best cnt (by omega) hb;have hnx:w64 ((i:Int)+1)=((i+1:Nat):Int):=by rw [zf (by omega) (by omega)];rfl
   have round:∀ N,m+1<N->ze z1l N (d.opn,best,cnt,(i:Int),d.chip,d.table)=zw (ze z1l (N - 1)) d.opn best cnt i d.chip d.table:=fun N hN=>by
    obtain ⟨N,rfl⟩:∃ M,N=M+1:=⟨N - 1,by omega⟩;rw [z6,z85];rfl
   have dA:decide ((i:Int)<(B:Int))=true:=zT (by omega);have dB:decide ((i:Int)<32)=true:=zT (by omega);have dC:decide (0<=(i:Int))=true:=zT (by omega);have hstate:=z5u (hI.ok hG).1 d.opn i;have hcount:=zkj (hI.ok hG).2 (b:=i) (by omega);by_cases c1:z5t d.chip d.opn i=2
   · by_cases c2:countT d.table i<P
     · have hok:VicOk B P d i:=⟨i,by omega,rfl,c1,c2⟩;have dP:decide ((P:Int)<=((countT d.table i:Nat):Int))=false:=zF (by omega);obtain ⟨v2,hv2,hs2⟩:=zpz hG hI m (i+1) (i:Int) (countT d.table i) (by omega) (.inr hok);have hbest:best<0 \/ (0<=best /\ best<B):=by
        rcases hb with h | ⟨j,h1,h2,_⟩ <;> omega
       by_cases c3:best<0
       · refine ⟨v2,fun N hN=>?_,hs2⟩;rw [round N hN];unfold zw;have d3:decide (best<0)=true:=zT c3;simp only [hI.ch.len,hcount,hstate,z7,ei,hpg,hnx,dA,dB,dC,dP,decide_true,Bool.not_true,zD,zC,c1,d3,hv2 (N - 1) (by omega)]
       · have d3:decide (best<0)=false:=zF c3;have dD:decide (0<=best)=true:=zT (by omega);have dE:decide (best<(B:Int))=true:=zT (by omega);by_cases c4:((countT d.table i:Nat):Int)<cnt
         · refine ⟨v2,fun N hN=>?_,hs2⟩;rw [round N hN];unfold zw;have d4:decide (((countT d.table i:Nat):Int)<cnt)=true:=zT c4;simp only [hI.ch.len,hcount,hstate,z7,ei,hpg,hnx,dA,dB,dC,dP,decide_true,Bool.not_true,zD,zC,c1,d3,d4,hv2 (N - 1) (by omega)]
         · have d4:decide (((countT d.table i:Nat):Int)<cnt)=false:=zF c4;by_cases c5:((countT d.table i:Nat):Int)=cnt
           · have d5:decide (((countT d.table i:Nat):Int)=cnt)=true:=zT c5;by_cases c6:(d.chip.blocks.getD i default).erases<(d.chip.blocks.getD best.toNat default).erases
             · refine ⟨v2,fun N hN=>?_,hs2⟩;rw [round N hN];unfold zw;have d6:decide ((d.chip.blocks.getD i default).erases<(d.chip.blocks.getD best.toNat default).erases)=true:=zT c6;simp only [hI.ch.len,hcount,hstate,z7,ei,hpg,hnx,dA,dB,dC,dP,decide_true,Bool.not_true,zD,zC,c1,d3,d4,d5,d6,dD,dE,hv2 (N - 1) (by omega)]
             · refine ⟨v1,fun N hN=>?_,hs1⟩;rw [round N hN];unfold zw;have d6:decide ((d.chip.blocks.getD i default).erases<(d.chip.blocks.getD best.toNat default).erases)=false:=zF c6;simp only [hI.ch.len,hcount,hstate,z7,ei,hpg,hnx,dA,dB,dC,dP,decide_true,Bool.not_true,zD,zC,c1,d3,d4,d5,d6,dD,dE,hv1 (N - 1) (by omega)]
           · refine ⟨v1,fun N hN=>?_,hs1⟩;rw [round N hN];unfold zw;have d5:decide (((countT d.table i:Nat):Int)=cnt)=false:=zF c5;simp only [hI.ch.len,hcount,hstate,z7,ei,hpg,hnx,dA,dB,dC,dP,decide_true,Bool.not_true,zD,zC,c1,d3,d4,d5,hv1 (N - 1) (by omega)]
     · refine ⟨v1,fun N hN=>?_,hs1⟩;rw [round N hN];unfold zw;have dP:decide ((P:Int)<=((countT d.table i:Nat):Int))=true:=zT (by omega);simp only [hI.ch.len,hcount,hstate,z7,ei,hpg,hnx,dA,dB,dC,dP,decide_true,Bool.not_true,zD,zC,c1,hv1 (N - 1) (by omega)]
   · refine ⟨v1,fun N hN=>?_,hs1⟩;rw [round N hN];unfold zw;have d1:decide (z5t d.chip d.opn i=2)=false:=zF c1;simp only [hI.ch.len,hcount,hstate,z7,ei,hpg,hnx,dA,dB,dC,decide_true,Bool.not_true,zD,zC,d1,Bool.not_false,hv1 (N - 1) (by omega)]
theorem z09n {g:Geometry} {B P S:Nat} (hG:Gm g B P S) {d:Device} (hI:DvI g B P S d):∃ v,zbr (d.chip,d.table,d.opn)=some v /\ (v = -1 \/ VicOk B P d v):=by
 obtain ⟨v,hv,hs⟩:=zpz hG hI B 0 (-1) 0 (by omega) (.inl rfl);exact ⟨v,zy (B+1) fun N hN=>hv N (by omega),hs⟩
def manyL (c:Chip) (o st:Int):Nat->Nat->Nat
 | 0,_=>0
 | m+1,i=>(if z5t c o i=st then 1 else 0)+manyL c o st m (i+1)
def manyT (c:Chip) (o st:Int):Nat:=manyL c o st c.blocks.length 0
theorem z012 {c:Chip} (hc:z0f c) {o st:Int}:∀ (m N i n:Nat) (ii n':Int),i+m=c.blocks.length->ii=i->n'=n->n<=i->m<N->ze za2 N (o,st,n',ii,c)=some ((n+manyL c o st m i:Nat):Int)
 | m,0,_,_,_,_,_,_,_,_,h=>by omega
 | 0,N+1,i,n,ii,n',h1,h2,h3,h4,_=>by
   rw [z6,zb8];unfold z5l manyL;dsimp only;rw [zF (by omega),zD,h3];rfl
 | m+1,N+1,i,n,ii,n',h1,h2,h3,h4,h5=>by
   subst h2 h3;have:=hc.1;rw [z6,zb8];unfold z5l manyL;dsimp only;rw [zT (by omega),zC,z5u hc,z7,zf (n:=(i:Int)+1) (by omega) (by omega)];by_cases e:z5t c o i=st
   · rw [zT e,zC,if_pos e,zf (by omega) (by omega),z012 hc m N (i+1) (n+1) _ _ (by omega) (by omega) (by omega) (by omega) (by omega)];congr 2;omega
   · rw [zF e,zD,if_neg e,z012 hc m N (i+1) n _ _ (by omega) (by omega) (by omega) (by omega) (by omega)];congr 2;omega
theorem zmu {c:Chip} (hc:z0f c) (o st:Int):zf9 (c,o,st)=some ((manyT c o st:Nat):Int):=by
 refine zy (c.blocks.length+1) fun N hN=>?_
 have h:=z012 hc (o:=o) (st:=st) c.blocks.length N 0 0 0 0 (Nat.zero_add _) rfl rfl (Nat.le_refl _) (by omega);rw [Nat.zero_add] at h;exact h
theorem z02y:∀ (i:Nat) (l:List Page) (n:Int),anyW (clrT true n i l)=false
 | _,[],_=>rfl
 | i,p::l,n=>by
   unfold clrT;rw [if_pos (.inl rfl)];show (z7w.written||anyW (clrT true n (i+1) l))=false;rw [z02y (i+1) l n];rfl
theorem z09o {B P:Nat} {c:Chip} {o:Int} (hP:0<P) (hB:B<=32) (h:ChI B P c o) {i:Nat} (hi:i<B) (hg:(blk c i).bad=false) (hn:(blk c i).next=P) {f:Fate} (hf:f.kind=0 \/ f.kind=1) :
 ChI B P (zgu c i f).1 o /\ ((zgu c i f).2=0 /\ gbL (zgu c i f).1.blocks=gbL c.blocks /\ zhp (zgu c i f).1.blocks+P=zhp c.blocks /\ (∀ j,j<B->(blk (zgu c i f).1 j).bad=(blk c j).bad) \/ (zgu c i f).2=53 /\ gbL (zgu c i f).1.blocks+1=gbL c.blocks) /\
 ∀ v,wrt c v->¬ inB i v->wrt (zgu c i f).1 v:=by
 have hlen:=h.len;have e0:((i:Nat):Int).toNat=i:=by omega
 have hcan:canEra c i f=true:=by
  unfold canEra;have hg':(c.blocks.getD i default).bad=false:=hg;rw [e0,hg',zT (by omega),zT (by omega),zT (by omega),zT (by omega)];rfl
 have hera:zgu c i f=(⟨c.blocks.set i (z4l (blk c i) f),c.broken,decide (f.kind=2),w64 (c.ops+1)⟩,if f.kind=0 then 0 else if f.kind=1 then 53 else 52):=by
  unfold zgu;rw [if_neg (by rw [h.off];simp),if_pos hcan,e0];rfl
 have hbi:blk (zgu c i f).1 i=z4l (blk c i) f:=by rw [hera];exact z0i (by omega)
 have hbj:∀ j,j<B->j≠i->blk (zgu c i f).1 j=blk c j:=fun j hj hne=>by
  rw [hera];show (c.blocks.set i _).getD j default=_;rw [z3h,if_neg (fun h=>hne h.1.symm)];rfl
 have hlen':(zgu c i f).1.blocks.length=B:=by rw [hera];simp [hlen]
 have hoff:(zgu c i f).1.off=false:=by rw [hera];exact zF (by omega)
 have hw:∀ v,wrt c v->¬ inB i v->wrt (zgu c i f).1 v:=fun v ⟨h1,h2,h3⟩ hni=>by
  have hne:(v / 16).toNat≠i:=fun e=>hni ⟨h1,by omega⟩
  exact ⟨h1,by rw [hlen'];omega,by rw [hbj _ (by omega) hne];exact h3⟩
 have hpg:=h.pg i hi;have hus:=zuw (l:=c.blocks) (i:=i) (y:=z4l (blk c i) f) (by omega);have e2:c.blocks.getD i default=blk c i:=rfl;rw [e2,hg,if_neg Bool.false_ne_true,hn] at hus;rcases hf with hk | hk
 · have hb:z4l (blk c i) f=⟨clrT true f.n 0 (blk c i).pages,0,w64 ((blk c i).erases+1),(blk c i).bad⟩:=by
    unfold z4l;rw [if_neg (by omega),zT hk,if_neg (by omega)]
   refine ⟨⟨hlen',hoff,fun j hj=>?_,fun j hj=>?_,fun j hj=>?_,fun j hj hgj hne=>?_,h.lo⟩,.inl ⟨?_,?_,?_,fun j hj=>?_⟩,hw⟩
   · by_cases e:j=i
     · rw [e,hbi,hb];show (clrT _ _ _ _).length=P;rw [z02f];exact hpg
     · rw [hbj j hj e];exact h.pg j hj
   · by_cases e:j=i
     · rw [e,hbi,hb];exact ⟨Int.le_refl _,by show (0:Int)<=P;omega⟩
     · rw [hbj j hj e];exact h.nx j hj
   · by_cases e:j=i
     · rw [e,hbi,hb];exact z02y _ _ _
     · rw [hbj j hj e];exact h.wr j hj
   · by_cases e:j=i
     · rw [e,hbi,hb];exact .inl rfl
     · rw [hbj j hj e] at hgj ⊢;exact h.op j hj hgj hne
   · rw [hera];exact if_pos hk
   · rw [hera];exact zux (by omega) hg (by rw [hb];exact hg)
   · rw [hera];show zhp (c.blocks.set i (z4l (blk c i) f))+P=_;rw [hb] at hus ⊢;have e3:(if (blk c i).bad=true then 0 else (0:Int).toNat)=0:=by rw [hg];rfl
     have e4:(((P:Nat):Int)).toNat=P:=by omega
     rw [e3,e4] at hus;omega
   · by_cases e:j=i
     · rw [e,hbi,hb]
     · rw [hbj j hj e]
 · have hb:z4l (blk c i) f=⟨(blk c i).pages,(blk c i).next,(blk c i).erases,true⟩:=by
    unfold z4l;rw [if_pos hk]
   refine ⟨⟨hlen',hoff,fun j hj=>?_,fun j hj=>?_,fun j hj=>?_,fun j hj hgj hne=>?_,h.lo⟩,.inr ⟨?_,?_⟩,hw⟩
   · by_cases e:j=i
     · rw [e,hbi,hb];exact hpg
     · rw [hbj j hj e];exact h.pg j hj
   · by_cases e:j=i
     · rw [e,hbi,hb];exact h.nx i hi
     · rw [hbj j hj e];exact h.nx j hj
   · by_cases e:j=i
     · rw [e,hbi,hb];exact h.wr i hi
     · rw [hbj j hj e];exact h.wr j hj
   · by_cases e:j=i
     · rw [e,hbi,hb] at hgj;cases hgj
     · rw [hbj j hj e] at hgj ⊢;exact h.op j hj hgj hne
   · rw [hera];show (if f.kind=0 then (0:Int) else if f.kind=1 then 53 else 52)=53;rw [if_neg (by omega),if_pos hk]
   · rw [hera];exact z00w (by omega) hg (by rw [hb])
theorem zmv {g:Geometry} {B P S:Nat} (hG:Gm g B P S) {d:Device} (hI:DvI g B P S d) (b:Nat):∀ (m p:Nat),p+m<=16->(movesL d.chip d.table b m p).length<=countL d.table b m p
 | 0,p,_=>Nat.le_refl _
 | m+1,p,hpm=>by
   unfold movesL countL;rw [List.length_append];have ih:=zmv hG hI b m (p+1) (by omega);have hq:(0:Int)<=b*16+p:=by omega
   have hlm:=hI.ta.lm;have hlb:=hI.ta.lb;have hp:(pageM d.chip d.table b p).length<=if liveT d.table (b*16+p)=true then 1 else 0:=by
    unfold pageM dataM chgM;rw [List.length_append,List.length_map,List.length_map];have l1:=zgx (z0n d.table (b*16+p));have l2:=zgx (z3q d.table b (z7x d.table (b*16+p)));have n0:∀ l:List Int,l=[]->(z5v l).length=0:=fun l e=>by unfold z5v;rw [if_pos e];rfl
    by_cases ho:z0n d.table (b*16+p)=[]
    · rw [n0 _ ho];by_cases hs:z7x d.table (b*16+p)=[]
      · rw [n0 _ (by rw [hs];rfl)];split <;> omega
      · have:liveT d.table (b*16+p)=true:=by
         unfold liveT;rw [Bool.or_eq_true];exact .inr (zT (List.length_pos_iff.2 hs))
        rw [if_pos this];omega
    · have hlive:liveT d.table (b*16+p)=true:=by
       unfold liveT;rw [Bool.or_eq_true];exact .inl (zT (List.length_pos_iff.2 ho))
      rw [if_pos hlive,n0 (z3q d.table b (z7x d.table (b*16+p))) ?_]
      · omega
      · refine List.filter_eq_nil_iff.2 fun x hx=>?_
        obtain ⟨j,h1,rfl,h3⟩:=(zki hq).1 hx;obtain ⟨y,hy⟩:=List.exists_mem_of_ne_nil _ ho;obtain ⟨k,k1,rfl,k3⟩:=(zgw hq).1 hy;have:=hI.ta.tw k j (by omega) (by omega) (by rw [k3];exact hq) (by rw [h3,k3]);have e:((j:Int)).toNat=j:=by omega
        rw [e,this,k3];have h:inB b ((b:Int)*16+p):=⟨hq,by omega⟩;rw [zT h];simp
   omega
end Clk
namespace Clk
open Go
theorem z07n:∀ {l:List Block},(∀ b∈l,b.next<=16)->zhp l<=16*l.length
 | [],_=>Nat.le_refl _
 | b::l,h=>by
   have h1:=h b (List.mem_cons_self ..);have:=z07n (l:=l) fun x hx=>h x (List.mem_cons_of_mem _ hx)
   unfold zhp;rw [List.length_cons];split <;> omega
theorem DvI.used_lt {g:Geometry} {B P S:Nat} (hG:Gm g B P S) {d:Device} (h:DvI g B P S d):zhp d.chip.blocks<=512:=by
 have h1:=z07n (l:=d.chip.blocks) fun b hb=>by
  obtain ⟨i,hi,rfl⟩:=List.getElem_of_mem hb;have:=(h.ch.nx i (by rw [<- h.ch.len];exact hi)).2;have e:blk d.chip i=d.chip.blocks[i]:=by unfold blk;rw [zI,zH hi];rfl
  rw [e] at this;have:=hG.p2;omega
 have:=h.ch.len;have:=hG.b2;omega
def meas (B:Nat) (d:Device):Nat:=gbL d.chip.blocks*100000+lostN B d*1000+zhp d.chip.blocks
theorem z0cm {B:Nat} {a b:Device} (h1:zhp a.chip.blocks<=512) (h2:lostN B a<=32) (h:gbL a.chip.blocks<gbL b.chip.blocks \/ (gbL a.chip.blocks=gbL b.chip.blocks /\ (lostN B a<lostN B b \/ (lostN B a<=lostN B b /\ zhp a.chip.blocks<zhp b.chip.blocks)))):meas B a<meas B b:=by
 unfold meas;omega
theorem z09p {g:Geometry} {B P S:Nat} (hG:Gm g B P S) (m:Nat):∀ (d:Device) (fs:List Fate),meas B d<m->DvI g B P S d->FOk fs ->
 ∃ r,(∀ N,m<=N->ze z23 N (fs,d)=some r) /\ DvI g B P S r.1 /\ FOk r.2.1:=by
 induction m with
 | zero=>intro d fs hm _ _;omega
 | succ m ih =>
   intro d fs hm hI hF;obtain ⟨r3,hr3,hI3,hF3,hl3⟩:=zpy hG hI hF;have round:∀ N,m+1<=N->ze z23 N (fs,d)=z07 (ze z23 (N - 1)) fs d:=fun N hN=>by
    obtain ⟨N,rfl⟩:∃ M,N=M+1:=⟨N - 1,by omega⟩;rw [z6,za3];rfl
   by_cases h3:r3.2.2=0
   · have hsp:0<=r3.1.geometry.spare /\ r3.1.geometry.spare<4294967296:=by rw [hI3.geo];exact hG.sp
     have hmany:=zmu (hI3.ok hG).1 r3.1.opn 0;have hres:=zge (hI3.ok hG).1 hsp;have d3:decide (r3.2.2=0)=true:=zT h3;by_cases h4:resT r3.1<=((manyT r3.1.chip r3.1.opn 0:Nat):Int)
     · refine ⟨(r3.1,r3.2.1,r3.2.2),fun N hN=>?_,hI3,hF3⟩;rw [round N hN];unfold z07;have d4:decide (resT r3.1<=((manyT r3.1.chip r3.1.opn 0:Nat):Int))=true:=zT h4;simp only [hr3,z7,d3,Bool.not_true,zD,hmany,hres,d4,zC]
     · have d4:decide (resT r3.1<=((manyT r3.1.chip r3.1.opn 0:Nat):Int))=false:=zF h4;obtain ⟨v,hv,hvs⟩:=z09n hG hI3;rcases hvs with rfl | ⟨i,hi,rfl,hst,hcnt⟩
       · refine ⟨(r3.1,r3.2.1,40),fun N hN=>?_,hI3,hF3⟩;rw [round N hN];unfold z07;have d5:decide ((-1:Int)<0)=true:=rfl;simp only [hr3,z7,d3,Bool.not_true,zD,hmany,hres,d4,hv,d5,zC]
       · have hse:=z02r hI3.ch r3.1.opn hi;rw [hst] at hse;have hgood:(blk r3.1.chip i).bad=false:=by
          cases hb:(blk r3.1.chip i).bad with
          | false=>rfl
          | true=>rw [if_pos hb] at hse;omega
         rw [hgood,if_neg Bool.false_ne_true] at hse;have hnp:(blk r3.1.chip i).next=P:=by
          by_cases c:(i:Int)=r3.1.opn /\ (blk r3.1.chip i).next<P
          · rw [if_pos c] at hse;omega
          · rw [if_neg c] at hse;by_cases c2:0<(blk r3.1.chip i).next
            · by_cases c3:(i:Int)=r3.1.opn
              · have:=(hI3.ch.nx i hi).2;have:¬ (blk r3.1.chip i).next<P:=fun h=>c ⟨c3,h⟩
                omega
              · have:=hI3.ch.op i hi hgood c3;omega
            · rw [if_neg c2] at hse;omega
         obtain ⟨r7,hr7,hM,hend⟩:=zyi hG hi hI3 hF3 (.inr hnp);have d5:decide ((i:Int)<0)=false:=zF (by omega);by_cases h7:r7.2.2=0
         · have d7:decide (r7.2.2=0)=true:=zT h7;obtain ⟨hk,hfl,hF8⟩:=hM.fok.next;have hbl:=hM.st i hi (.inr hnp);have hend:=hend h7;obtain ⟨hC,hera,hwr⟩:=z09o hG.p1 hG.b2 hM.inv.ch hi (by rw [hbl];exact hgood) (by rw [hbl];exact hnp) (f:=(z0s r7.2.1).1) hk;have heraS:=zur (hM.inv.ok hG).1 (i:Int) (z0s r7.2.1).1;have hIE:DvI g B P S ⟨r7.1.geometry,(zgu r7.1.chip i (z0s r7.2.1).1).1,r7.1.table,r7.1.seq,r7.1.opn⟩ :=
            ⟨hM.inv.geo,hC,⟨hM.inv.ta.lm,hM.inv.ta.lb,fun v hv=>(hM.inv.ta.vm v hv).imp id fun h=>hwr v h (hend v (.inl hv)),fun v hv=>(hM.inv.ta.vb v hv).imp id fun h=>hwr v h (hend v (.inr hv)),hM.inv.ta.cm,hM.inv.ta.cb,hM.inv.ta.tw⟩,z04e hM.inv.pk _ _⟩
           have hlt:meas B ⟨r7.1.geometry,(zgu r7.1.chip i (z0s r7.2.1).1).1,r7.1.table,r7.1.seq,r7.1.opn⟩<meas B d:=by
            have b6:=hM.gb;have hlen:(movesT r3.1.chip r3.1.table i).length<=countT r3.1.table i:=zmv hG hI3 i 16 0 (Nat.le_refl _);refine z0cm (hIE.used_lt hG) (Nat.le_trans (z02x B _) hG.b2) ?_;show gbL (zgu r7.1.chip i (z0s r7.2.1).1).1.blocks<_ \/ (gbL (zgu r7.1.chip i (z0s r7.2.1).1).1.blocks=_ /\ (_<_ \/ (_<=_ /\ zhp (zgu r7.1.chip i (z0s r7.2.1).1).1.blocks<_)));have hE:gbL (zgu r7.1.chip i (z0s r7.2.1).1).1.blocks<gbL r3.1.chip.blocks \/ (gbL (zgu r7.1.chip i (z0s r7.2.1).1).1.blocks=gbL r3.1.chip.blocks /\ lostN B ⟨r7.1.geometry,(zgu r7.1.chip i (z0s r7.2.1).1).1,r7.1.table,r7.1.seq,r7.1.opn⟩<=lostN B r3.1 /\ zhp (zgu r7.1.chip i (z0s r7.2.1).1).1.blocks<zhp r3.1.chip.blocks):=by
             rcases hera with ⟨_,e1,e2,e3⟩ | ⟨_,e1⟩
             · by_cases hsame:gbL r7.1.chip.blocks=gbL r3.1.chip.blocks
               · obtain ⟨m1,m2,m3⟩:=hM.same hsame;refine .inr ⟨by omega,?_,by omega⟩;refine List.countP_mono_left fun x hx h=>?_
                 refine zyk hM hsame (List.mem_range.1 hx) ?_;unfold z7y at h ⊢;rw [e3 x (List.mem_range.1 hx)] at h;exact h
               · exact .inl (by omega)
             · exact .inl (by omega)
            have hR:gbL r3.1.chip.blocks<gbL d.chip.blocks \/ (gbL r3.1.chip.blocks=gbL d.chip.blocks /\ (lostN B r3.1<lostN B d \/ (lostN B r3.1=lostN B d /\ zhp r3.1.chip.blocks=zhp d.chip.blocks))):=by
             rcases hl3 h3 with h | h
             · rw [h];exact .inr ⟨rfl,.inr ⟨rfl,rfl⟩⟩
             · rcases h with h | ⟨h,h'⟩
               · exact .inl h
               · exact .inr ⟨h,.inl h'⟩
            omega
           obtain ⟨r,h1,h2⟩:=ih ⟨r7.1.geometry,(zgu r7.1.chip i (z0s r7.2.1).1).1,r7.1.table,r7.1.seq,r7.1.opn⟩ (z0s r7.2.1).2 (by omega) hIE hF8;refine ⟨r,fun N hN=>?_,h2⟩;rw [round N hN];unfold z07;simp only [hr3,z7,d3,Bool.not_true,zD,hmany,hres,d4,hv,d5,hr7,d7,zmr,heraS];have hrec:=h1 (N - 1) (by omega);rcases hera with ⟨e0,_⟩ | ⟨e0,_⟩
           · rw [zT e0,Bool.not_true,zD];exact hrec
           · rw [zF (by omega),Bool.not_false,zC,zT e0,Bool.not_true,zD];exact hrec
         · refine ⟨(r7.1,r7.2.1,r7.2.2),fun N hN=>?_,hM.inv,hM.fok⟩;rw [round N hN];unfold z07;have d7:decide (r7.2.2=0)=false:=zF h7;simp only [hr3,z7,d3,Bool.not_true,zD,hmany,hres,d4,hv,d5,hr7,d7,Bool.not_false,zC]
   · refine ⟨(r3.1,r3.2.1,r3.2.2),fun N hN=>?_,hI3,hF3⟩;rw [round N hN];unfold z07;have d3:decide (r3.2.2=0)=false:=zF h3;simp only [hr3,z7,d3,Bool.not_false,zC]
theorem z04j {g:Geometry} {B P S:Nat} (hG:Gm g B P S) {d:Device} {fs:List Fate} (hI:DvI g B P S d) (hF:FOk fs):∃ r,z3g (d,fs)=some r /\ DvI g B P S r.1 /\ FOk r.2.1:=by
 obtain ⟨r,h1,h2⟩:=z09p hG _ d fs (Nat.lt_succ_self _) hI hF;exact ⟨r,zy _ fun N hN=>h1 N hN,h2⟩
theorem z013 {g:Geometry} {B P S:Nat} (hG:Gm g B P S) {d:Device} (hI:DvI g B P S d) (data:Str):∀ (m i:Nat) (best:Int),i+m=S->(best = -1 \/ (best∈d.table.map /\ 0<=best /\ d.table.map.count best<8)) ->
 ∃ v,(∀ N,m<N->ze z0x N (data,best,(i:Int),d.chip,d.table)=some v) /\ (v = -1 \/ (v∈d.table.map /\ 0<=v /\ d.table.map.count v<8))
 | 0,i,best,h1,hb=>by
   refine ⟨best,fun N hN=>?_,hb⟩;obtain ⟨N,rfl⟩:∃ M,N=M+1:=⟨N - 1,by omega⟩;rw [z6,z2i];unfold z0k;dsimp only;rw [hI.ta.lm,zF (by omega),zD]
 | m+1,i,best,h1,hb=>by
   have hS2:=hG.s2;have ei:((i:Int)).toNat=i:=by omega
   have hlm:=hI.ta.lm;obtain ⟨v1,hv1,hs1⟩:=z013 hG hI data m (i+1) best (by omega) hb;have hnx:w64 ((i:Int)+1)=((i+1:Nat):Int):=by rw [zf (by omega) (by omega)];rfl
   have round:∀ N,m+1<N->ze z0x N (data,best,(i:Int),d.chip,d.table)=z0k (ze z0x (N - 1)) data best i d.chip d.table:=fun N hN=>by
    obtain ⟨N,rfl⟩:∃ M,N=M+1:=⟨N - 1,by omega⟩;rw [z6,z2i];rfl
   have dA:decide ((i:Int)<((S:Nat):Int))=true:=zT (by omega);have dC:decide (0<=(i:Int))=true:=zT (by omega);have hT:=hI.tok hG;have hmem:d.table.map.getD i 0∈d.table.map:=zo (by omega);have hrange:=hT.v _ hmem;have hpage:=zbb d.chip (place:=d.table.map.getD i 0) ⟨by omega,by omega⟩;have hown:=zng (hI.ok hG).2 (d.table.map.getD i 0);have stay:(z8v d.chip (d.table.map.getD i 0)).2=false \/ (z8v d.chip (d.table.map.getD i 0)).1.data≠data \/ ¬ (z0n d.table (d.table.map.getD i 0)).length<8 \/ (0<=best /\ ¬ d.table.map.getD i 0<best)->∀ N,m+1<N->ze z0x N (data,best,(i:Int),d.chip,d.table)=some v1:=fun h N hN=>by
    rw [round N hN];unfold z0k;simp only [hlm,dA,dC,ei,hpage,hown,z7,hnx,zC,hv1 (N - 1) (by omega)];cases h1:(z8v d.chip (d.table.map.getD i 0)).2 with
    | false=>rfl
    | true =>
      rw [zC];by_cases h2:(z8v d.chip (d.table.map.getD i 0)).1.data=data
      · rw [zT h2,zC];by_cases h3:(z0n d.table (d.table.map.getD i 0)).length<8
        · rw [zT (by omega),zC];rcases h with h | h | h | ⟨h,h'⟩
          · rw [h1] at h;cases h
          · exact absurd h2 h
          · exact absurd h3 h
          · rw [zF (by omega),zD,zF h',zD]
        · rw [zF (by omega),zD]
      · rw [zF h2,zD]
   by_cases h1:(z8v d.chip (d.table.map.getD i 0)).2=true
   · by_cases h2:(z8v d.chip (d.table.map.getD i 0)).1.data=data
     · by_cases h3:(z0n d.table (d.table.map.getD i 0)).length<8
       · by_cases h4:best<0 \/ d.table.map.getD i 0<best
         · have h0:0<=d.table.map.getD i 0:=by
            apply Int.not_lt.1
            intro h;unfold z8v at h1;rw [if_pos (.inl h)] at h1;cases h1
           obtain ⟨v2,hv2,hs2⟩:=z013 hG hI data m (i+1) (d.table.map.getD i 0) (by omega) (.inr ⟨hmem,h0,by rw [<- zll h0];exact h3⟩);refine ⟨v2,fun N hN=>?_,hs2⟩;rw [round N hN];unfold z0k;simp only [hlm,dA,dC,ei,hpage,hown,z7,hnx,zC,hv1 (N - 1) (by omega),hv2 (N - 1) (by omega),h1];rw [zT h2,zC,zT (by omega),zC];by_cases c:best<0
           · rw [zT c,zC]
           · rw [zF c,zD,zT (h4.resolve_left c),zC]
         · exact ⟨v1,stay (.inr (.inr (.inr ⟨by omega,fun h=>h4 (.inr h)⟩))),hs1⟩
       · exact ⟨v1,stay (.inr (.inr (.inl h3))),hs1⟩
     · exact ⟨v1,stay (.inr (.inl h2)),hs1⟩
   · exact ⟨v1,stay (.inl (by simpa using h1)),hs1⟩
theorem z0aq {g:Geometry} {B P S:Nat} (hG:Gm g B P S) {d:Device} (hI:DvI g B P S d) (data:Str):∃ v,z7d (d.chip,d.table,data)=some v /\ (v = -1 \/ (v∈d.table.map /\ 0<=v /\ d.table.map.count v<8)):=by
 obtain ⟨v,hv,hs⟩:=z013 hG hI data S 0 (-1) (by omega) (.inl rfl);exact ⟨v,zy (S+1) fun N hN=>hv N (by omega),hs⟩
theorem DvI.mapR {g:Geometry} {B P S:Nat} (hG:Gm g B P S) {d:Device} (hI:DvI g B P S d):MapR d.table:=fun v hv=>by
 have:=(hI.tok hG).v v hv;exact ⟨by omega,by omega⟩
theorem zym {g:Geometry} {B P S:Nat} (hG:Gm g B P S) {d:Device} (hI:DvI g B P S d) {s:Nat} (hs:s<S) {data:Str} (hdat:data.length<4294967296):∃ w need,z4s (d,(s:Int),data)=some (w,need) /\ Proper w.record d.table /\ WriteOk w:=by
 have hlm:=hI.ta.lm;have dA:decide ((s:Int)<((S:Nat):Int))=true:=zT (by omega);have dC:decide (0<=(s:Int))=true:=zT (by omega);by_cases e:data=[]
 · refine ⟨⟨[],⟨2,0,[(s:Int)],[-1]⟩⟩,decide (0<=d.table.map.getD s 0),?_,.inr (.inr ⟨s,-1,rfl,rfl,rfl,.inl rfl⟩),⟨by show (1:Nat)<_;decide,by show (1:Nat)<_;decide⟩,by show (0:Nat)<_;decide⟩;show z1o d s data=_;unfold z1o;rw [zT e,zC,hlm,dA,dC,zC,zC];rfl
 · obtain ⟨v,hv,hvs⟩:=z0aq hG hI data;by_cases h0:0<=v
   · have hvs:=hvs.resolve_left (by omega);refine ⟨⟨[],⟨2,0,[(s:Int)],[v]⟩⟩,!(decide (d.table.map.getD s 0=v)),?_,.inr (.inr ⟨s,v,rfl,rfl,rfl,.inr hvs⟩),⟨by show (1:Nat)<_;decide,by show (1:Nat)<_;decide⟩,by show (0:Nat)<_;decide⟩;show z1o d s data=_;unfold z1o;rw [zF e,zD,hv,z7,zT h0,zC,hlm,dA,dC,zC,zC];rfl
   · refine ⟨⟨data,⟨1,0,[(s:Int)],[]⟩⟩,!(decide (hasT d.chip d.table s=data)),?_,.inl ⟨rfl,by show (1:Nat)<=_;decide⟩,⟨by show (1:Nat)<_;decide,by show (0:Nat)<_;decide⟩,hdat⟩;show z1o d s data=_;unfold z1o;rw [zF e,zD,hv,z7,zF h0,zD,zix (hI.mapR hG),z7]
end Clk
namespace Clk
open Go
def FAny (fs:List Fate):Prop:=∀ f∈fs,(f.kind=0 \/ f.kind=1 \/ f.kind=2) /\ f.tag.length<4294967296 /\ f.data.length<4294967296
theorem z09q (n:Int):((fate1 n).kind=0 \/ (fate1 n).kind=1 \/ (fate1 n).kind=2) /\ (fate1 n).tag.length<4294967296 /\ (fate1 n).data.length<4294967296:=by
 unfold fate1;refine ⟨?_,?_,by show (4:Nat)<_;decide⟩
 · show (if 236<=n then (2:Int) else if 200<=n then 1 else 0)=0 \/ (if 236<=n then (2:Int) else if 200<=n then 1 else 0)=1 \/ (if 236<=n then (2:Int) else if 200<=n then 1 else 0)=2;split
   · exact .inr (.inr rfl)
   · split
     · exact .inr (.inl rfl)
     · exact .inl rfl
 · show ([[],[120],[2,1]].getD (Int.tmod n 3).toNat ([]:Str)).length<_;generalize (Int.tmod n 3).toNat=k;match k with
   | 0=>decide
   | 1=>decide
   | 2=>decide
   | k+3=>simp
theorem z07o {ll:List (List Int)} {d:Device} {ks:List Int} (hks:∀ n∈ks,0<=n /\ n<256):∀ (l:List Int) (k:Nat) (acc:List Fate),ks.drop k=l->k<=12->acc.length=k->FAny acc ->
 ∃ fs,FAny fs /\ fs.length<=12 /\ ∀ N M (i:Int),i=k->12 - k<N->ze (za5 M ll) N (ks,i,d,acc)=ze (z2w M) M (ll,0,d,fs)
 | [],k,acc,h1,h2,h3,h4=>by
   have:=z00 h1;refine ⟨acc,h4,by omega,fun N M i hi hN=>?_⟩;obtain ⟨N,rfl⟩:∃ K,N=K+1:=⟨N - 1,by omega⟩;rw [z6,z5s];unfold z2x;dsimp only;rw [zF (by omega),zD]
 | x::l,k,acc,h1,h2,h3,h4=>by
   obtain ⟨g1,g2,g3⟩:=zr h1;have hx:=hks x (by rw [<- g2 0];exact zo g1);by_cases hk:k<12
   · obtain ⟨fs,f1,f2,f3⟩:=z07o (ll:=ll) (d:=d) hks l (k+1) (acc++[fate1 x]) g3 (by omega) (by simp;omega) (fun f hf=>by
      rcases List.mem_append.1 hf with h | h
      · exact h4 f h
      · rw [List.mem_singleton.1 h];exact z09q x)
     refine ⟨fs,f1,f2,fun N M i hi hN=>?_⟩;obtain ⟨N,rfl⟩:∃ K,N=K+1:=⟨N - 1,by omega⟩;rw [z6,z5s];unfold z2x;have ek:i.toNat=k:=by omega
     have ew:w64 (i+1)=((k+1:Nat):Int):=by rw [zf (by omega) (by omega)];omega
     have hw:w64 x=x:=zf (by omega) (by omega);have hr:=f3 N M _ rfl (by omega);have ht:0<=Int.tmod x 3 /\ Int.tmod x 3<3:=⟨Int.tmod_nonneg _ hx.1,Int.tmod_lt_of_pos _ (by decide)⟩;have h8:w64 (Int.tdiv x 8)=Int.tdiv x 8:=by
      rw [Int.tdiv_eq_ediv_of_nonneg hx.1];exact zf (by omega) (by omega)
     simp only [ek,g2,ew,hw,h8,List.length_append,List.length_singleton,List.length_cons,List.length_nil,h3];have d1:decide (i<(ks.length:Int))=true:=zT (by omega);have d2:decide (i<12)=true:=zT (by omega);have d3:decide (0<=i)=true:=zT (by omega);have d4:decide (0<=Int.tmod x 3)=true:=zT ht.1;have d5:decide (Int.tmod x 3<((0+1+1+1:Nat):Int))=true:=zT (by omega);have d6:decide ((Int.tmod x 3).toNat<0+1+1+1)=true:=zT (by omega);have d7:decide ((k+(0+1))*48<=70368744177664)=true:=zT (by omega);have d8:decide (k+(0+1)<=70368744177664)=true:=zT (by omega);have d7':decide ((k+1)*48<=70368744177664)=true:=zT (by omega);have d8':decide (k+1<=70368744177664)=true:=zT (by omega);simp only [d1,d2,d3,d4,d5,d6,d7,d8,d7',d8',zC];by_cases c1:200<=x
     · rw [zT c1,zC];by_cases c2:236<=x
       · rw [zT c2,zC,<- hr];unfold fate1;rw [if_pos c2];rfl
       · rw [zF c2,zD,<- hr];unfold fate1;rw [if_neg c2,if_pos c1];rfl
     · have c2:¬ 236<=x:=by omega
       rw [zF c1,zD,zF c2,zD,<- hr];unfold fate1;rw [if_neg c2,if_neg c1];rfl
   · refine ⟨acc,h4,by omega,fun N M i hi hN=>?_⟩;obtain ⟨N,rfl⟩:∃ K,N=K+1:=⟨N - 1,by omega⟩;rw [z6,z5s];unfold z2x;dsimp only;rw [zT (by omega),zC,zF (by omega),zD]
theorem z014 {ll:List (List Int)} {d:Device}:∀ (m k:Nat) (fs:List Fate),k+m=fs.length->fs.length<=12->FAny fs->(∀ j,j<k->(fs.getD j default).kind≠2) ->
 ∃ fs',FOk fs' /\ ∀ N M (i:Int),i=k->m<N->ze (z2w M) N (ll,i,d,fs)=ze (z5p M) M (ll,fs',0,d)
 | 0,k,fs,h1,h2,h3,h4=>by
   refine ⟨fs,fun f hf=>?_,fun N M i hi hN=>?_⟩
   · obtain ⟨j,hj,rfl⟩:=List.getElem_of_mem hf;obtain ⟨f1,f2,f3⟩:=h3 _ (List.getElem_mem hj);have:=h4 j (by omega);rw [zI,zH hj] at this;have h5:fs[j].kind≠2:=this;exact ⟨by omega,f2,f3⟩
   · obtain ⟨N,rfl⟩:∃ K,N=K+1:=⟨N - 1,by omega⟩;rw [z6,z5r];unfold z2v;dsimp only;rw [zF (by omega),zD]
 | m+1,k,fs,h1,h2,h3,h4=>by
   by_cases c:(fs.getD k default).kind=2
   · have hset:FAny (fs.set k ⟨0,(fs.getD k default).data,(fs.getD k default).tag,(fs.getD k default).n⟩):=fun f hf=>by
      rcases List.mem_or_eq_of_mem_set hf with h | h
      · exact h3 f h
      · have:=h3 (fs.getD k default) (zo (by omega));rw [h];exact ⟨.inl rfl,this.2.1,this.2.2⟩
     obtain ⟨fs',f1,f2⟩:=z014 (ll:=ll) (d:=d) m (k+1) _ (by rw [List.length_set];omega) (by rw [List.length_set];exact h2) hset (fun j hj=>by
      rw [z3h];by_cases e:k=j
      · rw [if_pos ⟨e,by omega⟩];show (0:Int)≠2;decide
      · rw [if_neg (fun h=>e h.1)];exact h4 j (by omega))
     refine ⟨fs',f1,fun N M i hi hN=>?_⟩;obtain ⟨N,rfl⟩:∃ K,N=K+1:=⟨N - 1,by omega⟩;rw [z6,z5r];unfold z2v;have ek:i.toNat=k:=by omega
     have ew:w64 (i+1)=((k+1:Nat):Int):=by rw [zf (by omega) (by omega)];omega
     have d1:decide (i<(fs.length:Int))=true:=zT (by omega);have d2:decide (k<fs.length)=true:=zT (by omega);have d3:decide (0<=i)=true:=zT (by omega);simp only [ek,ew,d1,d2,d3,zC];rw [zT c,zC];exact f2 N M _ rfl (by omega)
   · obtain ⟨fs',f1,f2⟩:=z014 (ll:=ll) (d:=d) m (k+1) fs (by omega) h2 h3 (fun j hj=>by
      by_cases e:j=k
      · rw [e];exact c
      · exact h4 j (by omega))
     refine ⟨fs',f1,fun N M i hi hN=>?_⟩;obtain ⟨N,rfl⟩:∃ K,N=K+1:=⟨N - 1,by omega⟩;rw [z6,z5r];unfold z2v;have ek:i.toNat=k:=by omega
     have ew:w64 (i+1)=((k+1:Nat):Int):=by rw [zf (by omega) (by omega)];omega
     have d1:decide (i<(fs.length:Int))=true:=zT (by omega);have d2:decide (k<fs.length)=true:=zT (by omega);have d3:decide (0<=i)=true:=zT (by omega);simp only [ek,ew,d1,d2,d3,zC];rw [zF c,zD];exact f2 N M _ rfl (by omega)
def fewL:List Str:=[[],[97],[98],[97,98],[48,49,50,51,52,53,54,55,56,57,97,98,99,100,101,102],[99],[100,100]]
theorem z0en {k:Nat} (hk:k<7):∃ data:Str,zib (k:Int)=some data /\ data.length<4294967296:=by
 match k,hk with
 | 0,_=>exact ⟨fewL.getD 0 [],by kernel_rfl,by decide⟩
 | 1,_=>exact ⟨fewL.getD 1 [],by kernel_rfl,by decide⟩
 | 2,_=>exact ⟨fewL.getD 2 [],by kernel_rfl,by decide⟩
 | 3,_=>exact ⟨fewL.getD 3 [],by kernel_rfl,by decide⟩
 | 4,_=>exact ⟨fewL.getD 4 [],by kernel_rfl,by decide⟩
 | 5,_=>exact ⟨fewL.getD 5 [],by kernel_rfl,by decide⟩
 | 6,_=>exact ⟨fewL.getD 6 [],by kernel_rfl,by decide⟩
theorem z09r {g:Geometry} {B P S:Nat} (hG:Gm g B P S) {d:Device} (hI:DvI g B P S d) {fs:List Fate} (hF:FOk fs) {s:Nat} (hs:s<S) {data:Str} (hdat:data.length<4294967296) :
 ∃ r:Device×List Fate,DvI g B P S r.1 /\ FOk r.2 /\ ∀ (K:Device×List Fate->Option Device),(Option.bind (z4s (d,(s:Int),data)) fun r8 =>
  cond (!r8.2) (K (d,fs))
   (Option.bind (z3g (d,fs)) fun r9 =>
   Option.bind (z4s (r9.1,(s:Int),data)) fun r10 =>
   Option.bind (z2q (r9.1,r10.1,r9.2.1)) fun r11 =>
   Option.bind (z0t (r11.1,r11.2.1)) fun r12 =>
   K (r12.1,r12.2.1)))=K r:=by
 obtain ⟨w,need,hw,_,_⟩:=zym hG hI hs hdat;cases need with
 | false=>exact ⟨(d,fs),hI,hF,fun K=>by rw [hw,z7];rfl⟩
 | true =>
   obtain ⟨r9,h9,hI9,hF9⟩:=z04j hG hI hF;obtain ⟨w',need',hw',hp',hok'⟩:=zym hG hI9 hs hdat;obtain ⟨r11,h11,hres⟩:=zuy hG hI9 hF9 hp' hok';have h11I:DvI g B P S r11.1 /\ FOk r11.2.1:=by
    rcases hres with ⟨_,e1,e2⟩ | R
    · rw [e1,e2];exact ⟨hI9,hF9⟩
    · exact ⟨R.inv,R.fok⟩
   obtain ⟨r12,h12,hI12,hF12,_⟩:=zpy hG h11I.1 h11I.2;exact ⟨(r12.1,r12.2.1),hI12,hF12,fun K=>by rw [hw,z7,Bool.not_true,zD,h9,z7,hw',z7,h11,z7,h12,z7]⟩
theorem z07p {g:Geometry} {B P S:Nat} (hG:Gm g B P S) {ll:List (List Int)} (hll:∀ x∈ll,∀ n∈x,0<=n /\ n<256) (hl2:∀ x∈ll,x.length<9223372036854775808) {i:Nat} (hi:i<ll.length):∀ (m j:Nat) (d:Device) (fs:List Fate),j+2*m=4->DvI g B P S d->FOk fs ->
 ∃ fs' d',DvI g B P S d' /\ FOk fs' /\ ∀ ih0 N (i' j':Int),i'=i->j'=j->m<N->ze (z5n ih0) N (ll,fs,i',j',d)=ih0 (ll,fs',w64 ((i:Int)+1),d')
 | 0,j,d,fs,h1,hI,hF=>by
   refine ⟨fs,d,hI,hF,fun ih0 N i' j' e1 e2 hN=>?_⟩;obtain ⟨N,rfl⟩:∃ K,N=K+1:=⟨N - 1,by omega⟩;subst e1 e2;rw [z6,z5o];unfold z2t;dsimp only;rw [zT (by omega),zC,zT (by omega),zC,zF (p:=(j:Int)<4) (by omega),zD];cases decide (w64 ((j:Int)+1)<(((ll.getD (Int.toNat (i:Int)) []).length:Nat):Int)) <;> rfl
 | m+1,j,d,fs,h1,hI,hF=>by
   have ei:((i:Int)).toNat=i:=by omega
   have ej:((j:Int)).toNat=j:=by omega
   have ej1:w64 ((j:Int)+1)=((j+1:Nat):Int):=by rw [zf (by omega) (by omega)];rfl
   have ej2:w64 ((j:Int)+2)=((j+2:Nat):Int):=by rw [zf (by omega) (by omega)];rfl
   have ej1':(((j+1:Nat):Int)).toNat=j+1:=by omega
   obtain ⟨x,hx⟩:∃ x,ll.getD i []=x:=⟨_,rfl⟩;have hxm:x∈ll:=by rw [<- hx];exact zo hi
   have d1:decide (0<=(i:Int))=true:=zT (by omega);have d2:decide ((i:Int)<(ll.length:Int))=true:=zT (by omega);by_cases hlen:j+1<x.length
   · have ha:=hll x hxm (x.getD j 0) (zo (by omega));have hb:=hll x hxm (x.getD (j+1) 0) (zo hlen);have hsec:d.geometry.sectors=S:=by rw [hI.geo];exact hG.s
     have hS1:=hG.s1;have hS2:=hG.s2;obtain ⟨k,hk,hk7⟩:∃ k:Nat,Int.tmod (w64 (x.getD (j+1) 0)) 7=k /\ k<7:=by
      rw [zf (by omega) (by omega)];have h1:=Int.tmod_nonneg 7 hb.1;have h2:=Int.tmod_lt_of_pos (x.getD (j+1) 0) (b:=7) (by decide);exact ⟨(Int.tmod (x.getD (j+1) 0) 7).toNat,by omega,by omega⟩
     obtain ⟨s,hs,hsS⟩:∃ s:Nat,Int.tmod (w64 (x.getD j 0)) (S:Int)=s /\ s<S:=by
      rw [zf (by omega) (by omega)];have h1:=Int.tmod_nonneg (S:Int) ha.1;have h2:=Int.tmod_lt_of_pos (x.getD j 0) (b:=(S:Int)) (by omega);exact ⟨(Int.tmod (x.getD j 0) (S:Int)).toNat,by omega,by omega⟩
     obtain ⟨data,hdata,hdl⟩:=z0en hk7;obtain ⟨r,hrI,hrF,hr⟩:=z09r hG hI hF hsS hdl;obtain ⟨fs',d',r1,r2,r3⟩:=z07p hG hll hl2 hi m (j+2) r.1 r.2 (by omega) hrI hrF;refine ⟨fs',d',r1,r2,fun ih0 N i' j' e1 e2 hN=>?_⟩;obtain ⟨N,rfl⟩:∃ K,N=K+1:=⟨N - 1,by omega⟩;subst e1 e2;rw [z6,z5o];unfold z2t;have d3:decide (((j+1:Nat):Int)<(x.length:Int))=true:=zT (by omega);have d4:decide ((j:Int)<4)=true:=zT (by omega);have d5:decide (0<=(j:Int))=true:=zT (by omega);have d6:decide ((j:Int)<(x.length:Int))=true:=zT (by omega);have d7:decide ((S:Int)=0)=false:=zF (by omega);have d8:decide (0<=((j+1:Nat):Int))=true:=zT (by omega);simp only [ei,ej,ej1,ej2,ej1',hx,hsec,hs,hk,hdata,z7,d1,d2,d3,d4,d5,d6,d7,d8,Bool.not_false,zC];have:=hr (fun z=>ze (z5n ih0) N (ll,z.2,(i:Int),((j+2:Nat):Int),z.1));rw [r3 ih0 N i _ rfl rfl (by omega)] at this;exact this
   · refine ⟨fs,d,hI,hF,fun ih0 N i' j' e1 e2 hN=>?_⟩;obtain ⟨N,rfl⟩:∃ K,N=K+1:=⟨N - 1,by omega⟩;subst e1 e2;rw [z6,z5o];unfold z2t;have d3:decide (((j+1:Nat):Int)<(x.length:Int))=false:=zF (by omega);simp only [ei,ej1,hx,d1,d2,d3,zC,zD]
theorem z07q {g:Geometry} {B P S:Nat} (hG:Gm g B P S) {ll:List (List Int)} (hll:∀ x∈ll,∀ n∈x,0<=n /\ n<256) (hl2:∀ x∈ll,x.length<9223372036854775808):∀ (m i:Nat) (d:Device) (fs:List Fate),i+m=40->DvI g B P S d->FOk fs ->
 ∃ D,DvI g B P S D /\ ∀ N M (i':Int),i'=i->m<N->2<M->ze (z5p M) N (ll,fs,i',d)=some D
 | 0,i,d,fs,h1,hI,hF=>by
   refine ⟨d,hI,fun N M i' e1 hN hM=>?_⟩;obtain ⟨N,rfl⟩:∃ K,N=K+1:=⟨N - 1,by omega⟩;subst e1;rw [z6,z5q];unfold z2u;dsimp only;rw [zF (p:=(i:Int)<40) (by omega),zD];cases decide ((i:Int)<(ll.length:Int)) <;> rfl
 | m+1,i,d,fs,h1,hI,hF=>by
   by_cases hi:i<ll.length
   · obtain ⟨fs',d',r1,r2,r3⟩:=z07p hG hll hl2 hi 2 0 d fs rfl hI hF;obtain ⟨D,hD,hDr⟩:=z07q hG hll hl2 m (i+1) d' fs' (by omega) r1 r2;refine ⟨D,hD,fun N M i' e1 hN hM=>?_⟩;obtain ⟨N,rfl⟩:∃ K,N=K+1:=⟨N - 1,by omega⟩;subst e1;rw [z6,z5q];unfold z2u;dsimp only;rw [zT (by omega),zC,zT (by omega),zC,r3 _ M i 0 rfl rfl hM];exact hDr N M _ (by rw [zf (by omega) (by omega)];omega) (by omega) hM
   · refine ⟨d,hI,fun N M i' e1 hN hM=>?_⟩;obtain ⟨N,rfl⟩:∃ K,N=K+1:=⟨N - 1,by omega⟩;subst e1;rw [z6,z5q];unfold z2u;dsimp only;rw [zF (by omega),zD]
def initD (g:Geometry) (B P S:Nat):Device:=⟨g,⟨List.replicate B ⟨List.replicate P z7w,0,0,false⟩,false,false,0⟩,⟨List.replicate S (-1),List.replicate S (-1)⟩,0,-1⟩
theorem zv3 {α:Type} {n i:Nat} {a d:α} (h:i<n):(List.replicate n a).getD i d=a:=by
 rw [zI,List.getElem?_replicate,if_pos h];rfl
theorem zv4:∀ n,anyW (List.replicate n z7w)=false
 | 0=>rfl
 | n+1=>by rw [List.replicate_succ];show (z7w.written||anyW (List.replicate n z7w))=false;rw [zv4 n];rfl
theorem z09s {g:Geometry} {B P S:Nat} (hG:Gm g B P S):DvI g B P S (initD g B P S):=by
 have hb:∀ i,i<B->blk (initD g B P S).chip i=⟨List.replicate P z7w,0,0,false⟩:=fun i hi=>zv3 hi
 have hm:∀ v:Int,v∈List.replicate S (-1:Int)->v = -1:=fun v hv=>(List.mem_replicate.1 hv).2
 have hc:∀ v:Int,0<=v->(List.replicate S (-1:Int)).count v<=8:=fun v hv=>by
  rw [List.count_eq_zero.2 (fun h=>by have:=hm v h;omega)];omega
 refine ⟨rfl,⟨by show (List.replicate B _).length=B;simp,rfl,fun i hi=>by rw [hb i hi];simp,fun i hi=>by rw [hb i hi];exact ⟨Int.le_refl _,by show (0:Int)<=P;omega⟩,fun i hi=>by rw [hb i hi];exact zv4 P,fun i hi _ _=>by rw [hb i hi];exact .inl rfl,by show (-1:Int) <= -1;omega⟩,
  ⟨by show (List.replicate S _).length=S;simp,by show (List.replicate S _).length=S;simp,fun v hv=>.inl (hm v hv),fun v hv=>.inl (hm v hv),hc,hc,fun s s' hs _ h=>?_⟩,fun b hb p hp=>?_⟩
 · have h:0<=(List.replicate S (-1:Int)).getD s 0:=h;rw [zv3 hs] at h;omega
 · rw [(List.mem_replicate.1 hb).2] at hp;rw [(List.mem_replicate.1 hp).2];exact ⟨by decide,by decide⟩
theorem z09t {g:Geometry} (hg:g∈smalls):∃ B P S,Gm g B P S /\ (formatT g []).1=initD g B P S /\ (g.blocks - 2*g.spare - 3)*g.pages>2*g.sectors /\ 2<=P:=by
 simp only [smalls,List.mem_cons,List.not_mem_nil,or_false] at hg;rcases hg with rfl | rfl | rfl | rfl | rfl | rfl
 · exact ⟨8,4,5,⟨rfl,rfl,rfl,by decide,by decide,by decide,by decide,by decide,by decide,by decide⟩,by kernel_rfl,by decide,by decide⟩
 · exact ⟨5,4,3,⟨rfl,rfl,rfl,by decide,by decide,by decide,by decide,by decide,by decide,by decide⟩,by kernel_rfl,by decide,by decide⟩
 · exact ⟨12,3,5,⟨rfl,rfl,rfl,by decide,by decide,by decide,by decide,by decide,by decide,by decide⟩,by kernel_rfl,by decide,by decide⟩
 · exact ⟨6,6,8,⟨rfl,rfl,rfl,by decide,by decide,by decide,by decide,by decide,by decide,by decide⟩,by kernel_rfl,by decide,by decide⟩
 · exact ⟨16,2,4,⟨rfl,rfl,rfl,by decide,by decide,by decide,by decide,by decide,by decide,by decide⟩,by kernel_rfl,by decide,by decide⟩
 · exact ⟨10,5,12,⟨rfl,rfl,rfl,by decide,by decide,by decide,by decide,by decide,by decide,by decide⟩,by kernel_rfl,by decide,by decide⟩
theorem z0dp {n:Int} {l:List (List Int)} {k:List Int} (hn:0<=n /\ n<256) (hl:∀ x∈l,∀ n∈x,0<=n /\ n<256) (hl2:∀ x∈l,x.length<9223372036854775808) (hk:∀ x∈k,0<=x /\ x<256) :
 ∃ g B P S d,Gm g B P S /\ zfa (n,l,k)=some d /\ DvI g B P S d /\ (g.blocks - 2*g.spare - 3)*g.pages>2*g.sectors:=by
 obtain ⟨B,P,S,hG,hf,hcap,_⟩:=z09t (z04f n);have hI:=z09s hG;rw [<- hf] at hI;obtain ⟨fs1,f1,f2,f3⟩:=z07o (ll:=l) (d:=(formatT (smallT n) []).1) hk k 0 [] rfl (by omega) rfl (fun _ h=>by cases h);obtain ⟨fs2,f4,f5⟩:=z014 (ll:=l) (d:=(formatT (smallT n) []).1) fs1.length 0 fs1 (Nat.zero_add _) f2 f1 (fun _ h=>by omega);obtain ⟨D,hD,hr⟩:=z07q hG hl hl2 40 0 (formatT (smallT n) []).1 fs2 rfl hI f4;refine ⟨_,B,P,S,D,hG,zy 50 fun N hN=>?_,hD,hcap⟩;show zb9 N n l k=_;unfold zb9;rw [z07c hn.1 hn.2,z7,z02o (by decide),z7,f3 N N 0 rfl (by omega),f5 N N 0 rfl (by omega)];exact hr N N 0 rfl (by omega) (by omega)
end Clk
namespace Clk
open Go
theorem zv5 {c:Chip} (hc:z0f c) {o st:Int}:∀ (m N i n:Nat) (ii n':Int),i+m=c.blocks.length->ii=i->n'=n->n<=i->m<N->ze z7o N ((c.blocks.length:Int),ii,n',c,o,st)=some ((n+manyL c o st m i:Nat):Int)
 | m,0,_,_,_,_,_,_,_,_,h=>by omega
 | 0,N+1,i,n,ii,n',h1,h2,h3,h4,_=>by
   rw [z6,z9p];unfold z4d manyL;dsimp only;rw [zF (by omega),zD,h3];rfl
 | m+1,N+1,i,n,ii,n',h1,h2,h3,h4,h5=>by
   subst h2 h3;have:=hc.1;rw [z6,z9p];unfold z4d manyL;dsimp only;rw [zT (by omega),zC,zrh hc,z7,zf (n:=(i:Int)+1) (by omega) (by omega)];by_cases e:z5t c o i=st
   · rw [zT e,zC,if_pos e,zf (by omega) (by omega),zv5 hc m N (i+1) (n+1) _ _ (by omega) (by omega) (by omega) (by omega) (by omega)];congr 2;omega
   · rw [zF e,zD,if_neg e,zv5 hc m N (i+1) n _ _ (by omega) (by omega) (by omega) (by omega) (by omega)];congr 2;omega
theorem ze6 {c:Chip} (hc:z0f c) (o st:Int):z8m (c,o,st)=some ((manyT c o st:Nat):Int):=by
 refine zy (c.blocks.length+1) fun N hN=>?_
 have h:=zv5 hc (o:=o) (st:=st) c.blocks.length N 0 0 0 0 (Nat.zero_add _) rfl rfl (Nat.le_refl _) (by omega);rw [Nat.zero_add] at h;exact h
def wantB (t:Table) (b:Nat):Nat:=(nubL ((t.map++t.by_).filter fun x=>decide (inB b x))).length
theorem z02z {b:Nat} (hb:b<32):∀ l:List Int,keysF z78 b l=some (l.filter fun x=>decide (inB b x))
 | []=>rfl
 | x::l=>by
   unfold keysF;rw [zy4];simp only [z02z hb l];rw [List.filter_cons];by_cases hx:inB b x
   · have h0:=hx.1;have e:z4t b (Int.tmod x 16)=x:=by
      rw [Int.tmod_eq_emod_of_nonneg h0];unfold z4t;have:=hx.2;rw [if_neg (by omega)];omega
     rw [if_pos ⟨e,h0⟩,if_pos (by rw [zT hx])]
   · have hne:¬ (z4t b (Int.tmod x 16)=x /\ 0<=x):=fun ⟨h1,h2⟩=>hx ⟨h2,by
      rw [Int.tmod_eq_emod_of_nonneg h2] at h1;unfold z4t at h1;rw [if_neg (by omega)] at h1;omega⟩
     rw [if_neg hne,if_neg (by rw [zF hx];exact Bool.false_ne_true)]
structure TRg (t:Table):Prop where
 l:t.map.length+t.by_.length<4294967296
 r:∀ n∈t.map++t.by_,-9223372036854775808<=n /\ n<9223372036854775808
theorem zyn {t:Table} (ht:TRg t) {b:Nat} (hb:b<32):zb2 (t,(b:Int))=some ((wantB t b:Nat):Int):=by
 show cntF z78 (t,b)=_;unfold cntF;rw [if_pos ⟨by have:=ht.l;show t.map.length+t.by_.length<_;omega,ht.r⟩];simp only [z02z hb];rfl
theorem zkk:∀ (l acc:List Int),(l.foldl (fun acc x=>if x∈acc then acc else acc++[x]) acc).length<=acc.length+l.length
 | [],acc=>Nat.le_refl _
 | x::l,acc=>by
   have:=zkk l (if x∈acc then acc else acc++[x]);simp only [List.foldl_cons,List.length_cons];split at this
   · rename_i h;rw [if_pos h];omega
   · rename_i h;rw [if_neg h];rw [List.length_append,List.length_singleton] at this;omega
theorem z09u (l:List Int):(nubL l).length<=l.length:=by
 have:=zkk l [];rwa [List.length_nil,Nat.zero_add] at this
theorem z09v (t:Table) (b:Nat):wantB t b<=((t.map++t.by_).filter fun x=>decide (inB b x)).length:=z09u _
def wantS (t:Table):Nat->Nat->Nat
 | 0,_=>0
 | m+1,b=>wantB t b+wantS t m (b+1)
theorem z09w {t:Table} (ht:TRg t) (b:Nat):wantB t b<4294967296:=by
 have h1:=z09v t b;have h2:=List.length_filter_le (fun x=>decide (inB b x)) (t.map++t.by_);rw [List.length_append] at h2;have:=ht.l;omega
theorem zyo {t:Table} (ht:TRg t):∀ (m N b n:Nat) (b' n':Int),b+m=32->b'=b->n'=n->n<=b*4294967296->m<N->ze z5d N (n',b',t)=some ((n+wantS t m b:Nat):Int)
 | m,0,_,_,_,_,_,_,_,_,h=>by omega
 | 0,N+1,b,n,b',n',h1,h2,h3,h4,_=>by
   rw [z6,z7b];unfold z2h wantS;dsimp only;rw [zF (by omega),zD,h3];rfl
 | m+1,N+1,b,n,b',n',h1,h2,h3,h4,h5=>by
   subst h2 h3;have:=z09w ht b;rw [z6,z7b];unfold z2h wantS;dsimp only;rw [zT (by omega),zC,zyn ht (by omega),z7,zf (n:=(b:Int)+1) (by omega) (by omega),zf (by omega) (by omega),
    zyo ht m N (b+1) (n+wantB t b) _ _ (by omega) (by omega) (by omega) (by omega) (by omega)]
   congr 2;omega
theorem z09x {t:Table} (ht:TRg t):z5e t=some ((wantS t 32 0:Nat):Int):=by
 refine zy 40 fun N hN=>?_
 have h:=zyo ht 32 N 0 0 0 0 rfl rfl rfl (Nat.zero_le _) (by omega);rw [Nat.zero_add] at h;exact h
theorem z0ar {l:List Int} (hl:l.length<4294967296):∀ (m i:Nat) (best:Int),i+m=l.length->∃ r,(∀ N,m<N->ze z9q N (l,best,(i:Int))=some r) /\ r<=best /\ (r=best \/ r∈l)
 | 0,i,best,h1=>by
   refine ⟨best,fun N hN=>?_,Int.le_refl _,.inl rfl⟩;obtain ⟨N,rfl⟩:∃ M,N=M+1:=⟨N - 1,by omega⟩;rw [z6,zb3];unfold z5f;dsimp only;rw [zF (by omega),zD]
 | m+1,i,best,h1=>by
   obtain ⟨r,h2,h3,h4⟩:=z0ar hl m (i+1) (min best (l.getD i 0)) (by omega);refine ⟨r,fun N hN=>?_,by omega,?_⟩
   · obtain ⟨N,rfl⟩:∃ M,N=M+1:=⟨N - 1,by omega⟩;have ei:((i:Int)).toNat=i:=by omega
     rw [z6,zb3];unfold z5f;have d1:decide ((i:Int)<(l.length:Int))=true:=zT (by omega);have d2:decide (0<=(i:Int))=true:=zT (by omega);have ew:w64 ((i:Int)+1)=((i+1:Nat):Int):=by rw [zf (by omega) (by omega)];rfl
     simp only [ei,ew,d1,d2,zC,h2 N (by omega)]
   · rcases h4 with h4 | h4
     · by_cases c:best<=l.getD i 0
       · exact .inl (by omega)
       · refine .inr ?_;have:r=l.getD i 0:=by omega
         rw [this];exact zo (by omega)
     · exact .inr h4
theorem z0as {l:List Int} (hl:l.length<4294967296):∀ (m i:Nat) (best:Int),i+m=l.length->∃ r,(∀ N,m<N->ze z9r N (l,best,(i:Int))=some r) /\ best<=r /\ (r=best \/ r∈l)
 | 0,i,best,h1=>by
   refine ⟨best,fun N hN=>?_,Int.le_refl _,.inl rfl⟩;obtain ⟨N,rfl⟩:∃ M,N=M+1:=⟨N - 1,by omega⟩;rw [z6,zb4];unfold z5g;dsimp only;rw [zF (by omega),zD]
 | m+1,i,best,h1=>by
   obtain ⟨r,h2,h3,h4⟩:=z0as hl m (i+1) (max best (l.getD i 0)) (by omega);refine ⟨r,fun N hN=>?_,by omega,?_⟩
   · obtain ⟨N,rfl⟩:∃ M,N=M+1:=⟨N - 1,by omega⟩;have ei:((i:Int)).toNat=i:=by omega
     rw [z6,zb4];unfold z5g;have d1:decide ((i:Int)<(l.length:Int))=true:=zT (by omega);have d2:decide (0<=(i:Int))=true:=zT (by omega);have ew:w64 ((i:Int)+1)=((i+1:Nat):Int):=by rw [zf (by omega) (by omega)];rfl
     simp only [ei,ew,d1,d2,zC,h2 N (by omega)]
   · rcases h4 with h4 | h4
     · by_cases c:l.getD i 0<=best
       · exact .inl (by omega)
       · refine .inr ?_;have:r=l.getD i 0:=by omega
         rw [this];exact zo (by omega)
     · exact .inr h4
theorem z09y {l:List Int} (hl:l.length<4294967296) (hne:l≠[]):∃ a b,zf5 l=some a /\ zf7 l=some b /\ a<=b /\ a∈l /\ b∈l:=by
 have hpos:0<l.length:=List.length_pos_iff.2 hne;obtain ⟨a,a1,a2,a3⟩:=z0ar hl (l.length - 1) 1 (l.getD 0 0) (by omega);obtain ⟨b,b1,b2,b3⟩:=z0as hl (l.length - 1) 1 (l.getD 0 0) (by omega);have h0:l.getD 0 0∈l:=zo hpos;refine ⟨a,b,zy (l.length+1) fun N hN=>?_,zy (l.length+1) fun N hN=>?_,by omega,a3.elim (fun e=>by rw [e];exact h0) id,b3.elim (fun e=>by rw [e];exact h0) id⟩
 · unfold zf4;rw [zF (by omega),zD,zT (by omega),zC];exact a1 N (by omega)
 · unfold zf6;rw [zF (by omega),zD,zT (by omega),zC];exact b1 N (by omega)
theorem z015 {bs:List Block} (hb:bs.length<4294967296):∀ (m i:Nat) (acc:List Int),i+m=bs.length->acc.length<=i->(∀ x∈acc,∃ b∈bs,x=b.erases) ->
 ∃ r:Int×Int,(∀ N,m<N->ze z7p N (bs,(bs.length:Int),(i:Int),acc)=some r) /\ r.1<=r.2 /\ ((r.1=0 /\ r.2=0) \/ ((∃ b∈bs,r.1=b.erases) /\ ∃ b∈bs,r.2=b.erases))
 | 0,i,acc,h1,h2,h3=>by
   by_cases e:acc=[]
   · refine ⟨(0,0),fun N hN=>?_,Int.le_refl _,.inl ⟨rfl,rfl⟩⟩;obtain ⟨N,rfl⟩:∃ M,N=M+1:=⟨N - 1,by omega⟩;rw [z6,z1p];unfold z15;dsimp only;rw [zF (by omega),zD,e];rfl
   · obtain ⟨a,b,a1,b1,hab,ha,hb'⟩:=z09y (l:=acc) (by omega) e;have hpos:0<acc.length:=List.length_pos_iff.2 e;refine ⟨(a,b),fun N hN=>?_,hab,.inr ⟨h3 a ha,h3 b hb'⟩⟩;obtain ⟨N,rfl⟩:∃ M,N=M+1:=⟨N - 1,by omega⟩;rw [z6,z1p];unfold z15;dsimp only;rw [zF (by omega),zD,zF (by omega),zD,a1,z7,b1,z7]
 | m+1,i,acc,h1,h2,h3=>by
   have ei:((i:Int)).toNat=i:=by omega
   have ew:w64 ((i:Int)+1)=((i+1:Nat):Int):=by rw [zf (by omega) (by omega)];rfl
   have d1:decide ((i:Int)<(bs.length:Int))=true:=zT (by omega);have d2:decide (0<=(i:Int))=true:=zT (by omega);cases hbad:(bs.getD i default).bad with
   | true =>
     obtain ⟨r,r1,r2⟩:=z015 hb m (i+1) acc (by omega) (by omega) h3;refine ⟨r,fun N hN=>?_,r2⟩;obtain ⟨N,rfl⟩:∃ M,N=M+1:=⟨N - 1,by omega⟩;rw [z6,z1p];unfold z15;simp only [ei,ew,d1,d2,hbad,Bool.not_true,zC,zD,r1 N (by omega)]
   | false =>
     obtain ⟨r,r1,r2⟩:=z015 hb m (i+1) (acc++[(bs.getD i default).erases]) (by omega) (by simp;omega) (fun x hx=>by
      rcases List.mem_append.1 hx with h | h
      · exact h3 x h
      · exact ⟨_,zo (by omega),List.mem_singleton.1 h⟩)
     refine ⟨r,fun N hN=>?_,r2⟩;obtain ⟨N,rfl⟩:∃ M,N=M+1:=⟨N - 1,by omega⟩;rw [z6,z1p];unfold z15;have d3:decide ((acc.length+1)*8<=70368744177664)=true:=zT (by omega);have d4:decide (acc.length+1<=70368744177664)=true:=zT (by omega);simp only [ei,ew,d1,d2,d3,d4,hbad,List.length_singleton,Bool.not_false,zC,r1 N (by omega)]
theorem z0dq {c:Chip} (hc:z0f c):∃ r:Int×Int,z8n c=some r /\ r.1<=r.2 /\ ((r.1=0 /\ r.2=0) \/ ((∃ b∈c.blocks,r.1=b.erases) /\ ∃ b∈c.blocks,r.2=b.erases)):=by
 obtain ⟨r,r1,r2⟩:=z015 hc.1 c.blocks.length 0 [] (Nat.zero_add _) (Nat.le_refl _) (fun _ h=>by cases h);exact ⟨r,zy (c.blocks.length+1) fun N hN=>r1 N (by omega),r2⟩
end Clk
namespace Clk
open Go
def grpP (H:Nat->Str):List Int->Nat->List (Int×List Int)->List (Int×List Int)
 | [],_,G=>G
 | p::r,i,G=>grpP H r (i+1) (if H i=[] then G else addG p i G)
theorem z07r {HAS:Int->Option Str} {H:Nat->Str} (h:∀ i:Nat,HAS i=some (H i)):∀ (l:List Int) (i:Nat) (G:List (Int×List Int)),grpF HAS l i G=some (grpP H l i G)
 | [],_,_=>rfl
 | p::r,i,G=>by
   unfold grpF grpP;rw [h i];exact z07r h r (i+1) _
theorem zyp (p s:Int):∀ G:List (Int×List Int),((addG p s G).map (·.2)).flatten.Perm ((G.map (·.2)).flatten++[s])
 | []=>by simp [addG]
 | x::r=>by
   unfold addG;split
   · simp only [List.map_cons,List.flatten_cons,List.append_assoc];exact List.perm_append_comm.append_left x.2
   · simp only [List.map_cons,List.flatten_cons,List.append_assoc];exact (zyp p s r).append_left x.2
theorem zyq {p s:Int}:∀ {G:List (Int×List Int)} (x:Int×List Int),x∈addG p s G->x∈G \/ x=(p,[s]) \/ ∃ l,(p,l)∈G /\ x=(p,l++[s])
 | [],x,h=>by simp [addG] at h;exact .inr (.inl h)
 | y::r,x,h=>by
   unfold addG at h;split at h
   · rename_i e;rcases List.mem_cons.1 h with rfl | h
     · exact .inr (.inr ⟨y.2,by rw [<- e];simp,rfl⟩)
     · exact .inl (List.mem_cons_of_mem _ h)
   · rcases List.mem_cons.1 h with rfl | h
     · exact .inl (List.mem_cons_self ..)
     · rcases zyq x h with h1 | h1 | ⟨l,h1,h2⟩
       · exact .inl (List.mem_cons_of_mem _ h1)
       · exact .inr (.inl h1)
       · exact .inr (.inr ⟨l,List.mem_cons_of_mem _ h1,h2⟩)
def withD (H:Nat->Str) (i:Nat):List Int:=((List.range i).filter fun s=>decide (H s≠[])).map fun s:Nat=>(s:Int)
theorem zv6 {H:Nat->Str} {M:List Int}:∀ (l:List Int) (i:Nat) (G:List (Int×List Int)),M.drop i=l->i<=M.length->(G.map (·.2)).flatten.Perm (withD H i) ->
 (∀ x∈G,x.2≠[] /\ x.2.length<=(M.take i).count x.1 /\ ∀ s∈x.2,∃ j:Nat,j<i /\ s=j /\ M.getD j 0=x.1 /\ H j≠[]) ->
 ((grpP H l i G).map (·.2)).flatten.Perm (withD H M.length) /\ ∀ x∈grpP H l i G,x.2≠[] /\ x.2.length<=M.count x.1 /\ ∀ s∈x.2,∃ j:Nat,j<M.length /\ s=j /\ M.getD j 0=x.1 /\ H j≠[]
 | [],i,G,h1,hi,h2,h3=>by
   have:=z00 h1;have e:i=M.length:=by omega
   subst e;refine ⟨h2,fun x hx=>?_⟩;have:=h3 x hx;rw [List.take_length] at this;exact this
 | p::r,i,G,h1,hi,h2,h3=>by
   obtain ⟨g1,g2,g3⟩:=zr h1;unfold grpP;have htake:M.take (i+1)=M.take i++[p]:=by
    rw [List.take_add_one,zH g1];have:=g2 0;rw [zI,zH g1] at this;rw [show M[i]=p from this];rfl
   have hw:withD H (i+1)=withD H i++(if H i=[] then [] else [(i:Int)]):=by
    unfold withD;rw [List.range_succ,List.filter_append,List.map_append];congr 1
    by_cases e:H i=[]
    · rw [if_pos e,List.filter_cons_of_neg (by simp [e])];rfl
    · rw [if_neg e,List.filter_cons_of_pos (by simp [e])];rfl
   by_cases e:H i=[]
   · rw [if_pos e];refine zv6 r (i+1) G g3 (by omega) (by rw [hw,if_pos e,List.append_nil];exact h2) fun x hx=>?_
     obtain ⟨a,b,c⟩:=h3 x hx;refine ⟨a,by rw [htake,List.count_append];omega,fun s hs=>?_⟩;obtain ⟨j,j1,j2⟩:=c s hs;exact ⟨j,by omega,j2⟩
   · rw [if_neg e];refine zv6 r (i+1) _ g3 (by omega) (by rw [hw,if_neg e];exact (zyp p i G).trans (h2.append_right _)) fun x hx=>?_
     have hone:(M.take (i+1)).count p=(M.take i).count p+1:=by rw [htake,List.count_append];simp
     have hnew:∃ j:Nat,j<i+1 /\ (i:Int)=j /\ M.getD j 0=p /\ H j≠[]:=⟨i,by omega,rfl,g2 0,e⟩;rcases zyq x hx with h | rfl | ⟨l,h,rfl⟩
     · obtain ⟨a,b,c⟩:=h3 x h;refine ⟨a,by rw [htake,List.count_append];omega,fun s hs=>?_⟩;obtain ⟨j,j1,j2⟩:=c s hs;exact ⟨j,by omega,j2⟩
     · refine ⟨by simp,by show 1<=(M.take (i+1)).count p;omega,fun s hs=>?_⟩;rw [List.mem_singleton.1 hs];exact hnew
     · obtain ⟨a,b,c⟩:=h3 _ h;refine ⟨by simp,by show (l++[(i:Int)]).length<=(M.take (i+1)).count p;simp only [List.length_append,List.length_singleton];have:l.length<=(M.take i).count p:=b;omega,fun s hs=>?_⟩;rcases List.mem_append.1 hs with hs | hs
       · obtain ⟨j,j1,j2⟩:=c s hs;exact ⟨j,by omega,j2⟩
       · rw [List.mem_singleton.1 hs];exact hnew
theorem z016 {H:Nat->Str} {S s:Nat} (hs:s<S):(withD H S).count (s:Int)=if H s=[] then 0 else 1:=by
 unfold withD;have hnd:(((List.range S).filter fun s=>decide (H s≠[])).map fun s:Nat=>(s:Int)).Nodup:=by
  rw [List.Nodup,List.pairwise_map];exact (List.nodup_range.filter _).imp fun h=>by omega
 rw [hnd.count];by_cases e:H s=[]
 · rw [if_pos e,if_neg];intro h;obtain ⟨j,h1,h2⟩:=List.mem_map.1 h;have:j=s:=by omega
   subst this;have:=(List.mem_filter.1 h1).2;simp [e] at this
 · rw [if_neg e,if_pos];exact List.mem_map.2 ⟨s,List.mem_filter.2 ⟨List.mem_range.2 hs,by simpa using e⟩,rfl⟩
def cntOf (S:Nat) (done:List Int):List Int:=(List.range S).map fun s:Nat=>((done.count (s:Int):Nat):Int)
theorem zyr (S:Nat) (done:List Int):(cntOf S done).length=S:=by unfold cntOf;simp
theorem zys {S:Nat} {done:List Int} {s:Nat} (hs:s<S):(cntOf S done).getD s 0=((done.count (s:Int):Nat):Int):=by
 unfold cntOf;rw [zI,List.getElem?_map,List.getElem?_range hs];rfl
theorem z07s {S:Nat} {done:List Int} {s:Nat} (hs:s<S):(cntOf S done).set s (((done.count (s:Int):Nat):Int)+1)=cntOf S (done++[(s:Int)]):=by
 apply List.ext_getElem
 · simp [cntOf]
 · intro j h1 h2;have hj:j<S:=by simpa [cntOf] using h2
   rw [List.getElem_set];unfold cntOf;simp only [List.getElem_map,List.getElem_range,List.count_append];by_cases e:s=j
   · subst e;rw [if_pos rfl];simp
   · have hc0:List.count (j:Int) [(s:Int)]=0:=List.count_eq_zero.2 (fun h=>e (by have:=List.mem_singleton.1 h;omega));rw [if_neg e,hc0,Nat.add_zero]
structure RowOk (S:Nat) (H:List Str) (l:List Int):Prop where
 ne:l≠[]
 le:l.length<=8
 rng:∀ s∈l,0<=s /\ s<S
 same:∀ s∈l,H.getD s.toNat []=H.getD (l.getD 0 0).toNat []
theorem zyt {S:Nat} (hS:S<=64) {X:List (List Int)} {H:List Str} (hH:H.length=S) {i:Nat} (hi:i<X.length) {row:List Int} (hrow:X.getD i []=row) (hok:RowOk S H row) {ih0:(Bool×(List (List Int))×(List Str)×Int×(List Int))->Option Bool} {rest:List Int} :
 ∀ (l:List Int) (j:Nat) (done:List Int),row.drop j=l->(∀ s:Nat,s<S->(done++(l++rest)).count (s:Int)<=1)->∀ N,l.length<N->ze (z1q ih0) N (true,X,H,(i:Int),(j:Int),cntOf S done)=ih0 (true,X,H,w64 ((i:Int)+1),cntOf S (done++l))
 | [],j,done,h1,_,N,hN=>by
   have:=z00 h1;obtain ⟨N,rfl⟩:∃ M,N=M+1:=⟨N - 1,by simp at hN;omega⟩;have ei:((i:Int)).toNat=i:=by omega
   rw [z6,z3n];unfold z0o;have d1:decide (0<=(i:Int))=true:=zT (by omega);have d2:decide ((i:Int)<((X.length:Nat):Int))=true:=zT (by omega);have d3:decide ((j:Int)<(row.length:Int))=false:=zF (by omega);simp only [ei,hrow,d1,d2,d3,zC,zD,List.append_nil]
 | s::l,j,done,h1,hc,N,hN=>by
   obtain ⟨g1,g2,g3⟩:=zr h1;have hrl:=hok.le;obtain ⟨N,rfl⟩:∃ M,N=M+1:=⟨N - 1,by simp at hN;omega⟩;have hsm:s∈row:=by rw [<- g2 0];exact zo g1
   obtain ⟨s0,s1⟩:=hok.rng s hsm;have hsame:=hok.same s hsm;obtain ⟨s,rfl⟩:∃ k:Nat,s=k:=⟨s.toNat,by omega⟩;have hne:row≠[]:=hok.ne;have hpos:0<row.length:=List.length_pos_iff.2 hne;obtain ⟨h0,h0'⟩:=hok.rng (row.getD 0 0) (zo hpos);have ei:((i:Int)).toNat=i:=by omega
   have ej:((j:Int)).toNat=j:=by omega
   have es:((s:Int)).toNat=s:=by omega
   have ej1:w64 ((j:Int)+1)=((j+1:Nat):Int):=by rw [zf (by omega) (by omega)];rfl
   have hcs:=hc s (by omega);have hcnt:done.count (s:Int)<=1:=by
    rw [List.count_append] at hcs;omega
   have ec:w64 ((cntOf S done).getD s 0+1)=((done.count (s:Int):Nat):Int)+1:=by
    rw [zys (by omega),zf (by omega) (by omega)]
   rw [z6,z3n];unfold z0o;have d1:decide (0<=(i:Int))=true:=zT (by omega);have d2:decide ((i:Int)<((X.length:Nat):Int))=true:=zT (by omega);have d3:decide ((j:Int)<(row.length:Int))=true:=zT (by omega);have d4:decide (0<=(j:Int))=true:=zT (by omega);have d5:decide ((s:Int)<0)=false:=zF (by omega);have d6:decide (((S:Nat):Int)<=(s:Int))=false:=zF (by omega);have d7:decide (0<=(s:Int))=true:=zT (by omega);have d8:decide ((s:Int)<((S:Nat):Int))=true:=zT (by omega);have d9:decide (0<(row.length:Int))=true:=zT (by omega);have d10:decide (0<=row.getD 0 0)=true:=zT h0;have d11:decide (row.getD 0 0<((S:Nat):Int))=true:=zT h0';have d12:decide (s<S)=true:=zT (by omega);rw [es] at hsame;have d13:decide (H.getD s []=H.getD (row.getD 0 0).toNat [])=true:=zT hsame;simp only [ei,ej,hrow,g2,es,ej1,hH,zyr,ec,d1,d2,d3,d4,d5,d6,d7,d8,d9,d10,d11,d12,d13,Bool.not_true,zC,zD];rw [z07s (by omega),zyt hS hH hi hrow hok l (j+1) (done++[(s:Int)]) g3 (fun k hk=>by
    have:=hc k hk;simpa [List.append_assoc] using this) N (by simp only [List.length_cons] at hN;omega)]
   rw [List.append_assoc,List.singleton_append]
theorem zyu {S:Nat} (hS:S<=64) {H:List Str} (hH:H.length=S) {done:List Int} (hd:∀ s:Nat,s<S->done.count (s:Int)=if H.getD s []=[] then 0 else 1):∀ (m i N:Nat),i+m=S->m<N->ze z1r N (true,H,(i:Int),cntOf S done)=some true
 | m,i,0,_,h=>by omega
 | 0,i,N+1,h1,_=>by
   rw [z6,z3o];unfold z0p;dsimp only;rw [zF (by omega),zD]
 | m+1,i,N+1,h1,h2=>by
   have ei:((i:Int)).toNat=i:=by omega
   have ei1:w64 ((i:Int)+1)=((i+1:Nat):Int):=by rw [zf (by omega) (by omega)];rfl
   rw [z6,z3o];unfold z0p;have d1:decide (0<=(i:Int))=true:=zT (by omega);have d2:decide ((i:Int)<((S:Nat):Int))=true:=zT (by omega);have d3:decide (i<S)=true:=zT (by omega);have hdi:=hd i (by omega);have ih:=zyu hS hH hd m (i+1) N (by omega) (by omega);simp only [ei,ei1,hH,zyr,d1,d2,d3,zC,zys (show i<S by omega),ih];by_cases e:H.getD i []=[]
   · rw [if_pos e] at hdi;rw [zT e,zC,hdi];rfl
   · rw [if_neg e] at hdi;rw [zF e,zD,hdi];rfl
theorem zyv {S:Nat} (hS:S<=64) {X:List (List Int)} (hX:X.length<4294967296) {H:List Str} (hH:H.length=S) (hok:∀ l∈X,RowOk S H l) (hd:∀ s:Nat,s<S->X.flatten.count (s:Int)=if H.getD s []=[] then 0 else 1) {M:Nat} (hM:100<M) :
 ∀ (rows:List (List Int)) (i N:Nat) (done:List Int),X.drop i=rows->done++rows.flatten=X.flatten->rows.length<N->ze (z0e M) N (true,X,H,(i:Int),cntOf S done)=some true
 | rows,i,0,_,_,_,h=>by omega
 | [],i,N+1,done,h1,h2,_=>by
   have:=z00 h1;rw [z6,z3p];unfold z0q;dsimp only;rw [zF (by omega),zD];have e:done=X.flatten:=by simpa using h2
   rw [e];exact zyu hS hH hd S 0 M (by omega) (by omega)
 | row::rows,i,N+1,done,h1,h2,h3=>by
   obtain ⟨g1,g2,g3⟩:=zr h1;have hrm:row∈X:=by rw [<- g2 []];exact zo g1
   have hr:=hok row hrm;have hpos:0<row.length:=List.length_pos_iff.2 hr.ne;have hle:=hr.le;have ei:((i:Int)).toNat=i:=by omega
   have ei1:w64 ((i:Int)+1)=((i+1:Nat):Int):=by rw [zf (by omega) (by omega)];rfl
   rw [z6,z3p];unfold z0q;have d1:decide (0<=(i:Int))=true:=zT (by omega);have d2:decide ((i:Int)<((X.length:Nat):Int))=true:=zT (by omega);have d3:decide ((row.length:Int)<1)=false:=zF (by omega);have d4:decide (8<(row.length:Int))=false:=zF (by omega);simp only [ei,g2,d1,d2,d3,d4,zC,zD];have hfl:done++(row++rows.flatten)=X.flatten:=by rw [<- h2,List.flatten_cons]
   have:=zyt hS hH g1 (g2 []) hr (ih0:=ze (z0e M) N) (rest:=rows.flatten) row 0 done rfl (fun s hs=>by rw [hfl,hd s hs];split <;> omega) M (by omega);refine this.trans ?_;rw [ei1];exact zyv hS hX hH hok hd hM rows (i+1) N (done++row) g3 (by rw [<- h2,List.flatten_cons,List.append_assoc]) (by simp only [List.length_cons] at h3;omega)
theorem z0cn {c:Chip} {t:Table} {s:Nat} (h:t.map.getD s 0<0):hasT c t s=[]:=by
 unfold hasT;split
 · rfl
 · have e:((s:Int)).toNat=s:=by omega
   rw [e];unfold z8v;rw [if_pos (.inl h)];rfl
theorem zq0 {d:Device} (hm:MapR d.table) (hl:d.table.map.length<4294967296):z2r d=some ((grpP (fun s=>hasT d.chip d.table s) d.table.map 0 []).map (·.2)):=by
 show sharesF zgr d=_;unfold sharesF;rw [if_pos ⟨hl,fun n hn=>hm n hn⟩,z07r (H:=fun s=>hasT d.chip d.table s) (fun i=>z04g hm i)];rfl
theorem z04k {g:Geometry} {B P S:Nat} (hG:Gm g B P S) {d:Device} (hI:DvI g B P S d) (r1:Bool) (hr1:r1=true):∃ M0,∀ N,M0<=N->(Option.bind (z2r d) fun r3 =>
 Option.bind (z9n d) fun r4 =>
 cond (decide (0<=(r4.length:Int))) (cond (decide ((r4.length:Int)<=(r4.length:Int))) (cond (decide (((r4.length:Int)*8)<=70368744177664)) (cond (decide ((r4.length:Int)<=70368744177664)) (ze (z0e N) N (r1,r3,r4,0,(List.replicate (Int.toNat (r4.length:Int)) (0:Int)))) none) none) none) none)=some true:=by
 have hS2:=hG.s2;have hlm:=hI.ta.lm;have hmR:=hI.mapR hG;obtain ⟨hperm,hrows⟩:=zv6 (H:=fun s=>hasT d.chip d.table s) (M:=d.table.map) d.table.map 0 [] rfl (Nat.zero_le _) (by unfold withD;simp) (fun x hx=>by cases hx);obtain ⟨X,hX⟩:∃ X,X=(grpP (fun s=>hasT d.chip d.table s) d.table.map 0 []).map (·.2):=⟨_,rfl⟩;have hall:allD d=(List.range S).map fun s:Nat=>hasT d.chip d.table s:=by unfold allD;rw [hlm]
 have hHl:(allD d).length=S:=by rw [hall];simp
 have hHg:∀ s,s<S->(allD d).getD s []=hasT d.chip d.table s:=fun s hs=>by
  rw [hall,zI,List.getElem?_map,List.getElem?_range hs];rfl
 have hok:∀ l∈X,RowOk S (allD d) l:=fun l hl=>by
  rw [hX] at hl;obtain ⟨x,hx,rfl⟩:=List.mem_map.1 hl;obtain ⟨a,b,c⟩:=hrows x hx;have hat:∀ s∈x.2,0<=s /\ s<S /\ (allD d).getD s.toNat []=(z8v d.chip x.1).1.data:=fun s hs=>by
   obtain ⟨j,j1,rfl,j3,j4⟩:=c s hs;have ej:((j:Int)).toNat=j:=by omega
   refine ⟨by omega,by omega,?_⟩;rw [ej,hHg j (by omega)];unfold hasT;rw [if_neg (by omega),ej,j3]
  have hx0:0<=x.1:=by
   obtain ⟨s,hs⟩:=List.exists_mem_of_ne_nil _ a;obtain ⟨j,j1,rfl,j3,j4⟩:=c s hs;apply Int.not_lt.1
   intro h;exact j4 (z0cn (by rw [j3];exact h))
  have hhead:x.2.getD 0 0∈x.2:=zo (List.length_pos_iff.2 a);exact ⟨a,Nat.le_trans b (hI.ta.cm _ hx0),fun s hs=>⟨(hat s hs).1,(hat s hs).2.1⟩,fun s hs=>by rw [(hat s hs).2.2,(hat _ hhead).2.2]⟩
 have hd:∀ s:Nat,s<S->X.flatten.count (s:Int)=if (allD d).getD s []=[] then 0 else 1:=fun s hs=>by
  rw [hX,hperm.count_eq,z016 (by omega),hHg s hs]
 have hXl:X.length<4294967296:=by
  have h1:X.flatten.length=(withD (fun s=>hasT d.chip d.table s) S).length:=by rw [hX];rw [<- hlm];exact hperm.length_eq
  have h2:(withD (fun s=>hasT d.chip d.table s) S).length<=S:=by
   unfold withD;rw [List.length_map];have:=List.length_filter_le (fun s=>decide ((fun s:Nat=>hasT d.chip d.table s) s≠[])) (List.range S);rw [List.length_range] at this;exact this
  have h3:∀ Y:List (List Int),(∀ l∈Y,l≠[])->Y.length<=Y.flatten.length:=fun Y=>by
   induction Y with
   | nil=>intro _;exact Nat.le_refl _
   | cons y Y ih =>
     intro h;have:=ih (fun l hl=>h l (List.mem_cons_of_mem _ hl));have h4:0<y.length:=List.length_pos_iff.2 (h y (List.mem_cons_self ..));simp only [List.length_cons,List.flatten_cons,List.length_append];omega
  have:=h3 X fun l hl=>(hok l hl).ne
  omega
 refine ⟨X.length+200,fun N hN=>?_⟩;rw [zq0 hmR (by omega),z7,z010 hmR (by omega),z7,<- hX,hHl];rw [zT (by omega),zC,zT (by omega),zC,zT (by omega),zC,zT (by omega),zC,hr1];have e0:List.replicate (Int.toNat ((S:Nat):Int)) (0:Int)=cntOf S []:=by
  apply List.ext_getElem
  · simp [cntOf]
  · intro j h1 h2;simp [cntOf]
 rw [e0];exact zyv hS2 hXl hHl hok hd (by omega) X 0 N [] rfl rfl (by omega)
end Clk
namespace Clk
open Go
theorem DvI.trg {g:Geometry} {B P S:Nat} (hG:Gm g B P S) {d:Device} (h:DvI g B P S d):TRg d.table:=by
 have hS:=h.ta.lm;have hS':=h.ta.lb;have:=hG.s2;refine ⟨by omega,fun n hn=>?_⟩;have:n = -1 \/ wrt d.chip n:=(List.mem_append.1 hn).elim (h.ta.vm n) (h.ta.vb n);rcases this with e | e
 · omega
 · have:=z0ap h.ch hG.b2 e;omega
theorem zq1 {g:Geometry} {B P S:Nat} (hG:Gm g B P S) {d:Device} (hI:DvI g B P S d) (fs:List Fate) (hno:∀ b,b<B->z7y d b=false):z0t (d,fs)=some (d,fs,0):=by
 obtain ⟨v,hv,hs⟩:=z07m hG hI;have hv1:v = -1:=by
  rcases hs with ⟨e,_⟩ | ⟨b,hb,_,h⟩
  · exact e
  · rw [hno b hb] at h;cases h
 subst hv1;refine zy 1 fun N hN=>?_
 obtain ⟨N,rfl⟩:∃ M,N=M+1:=⟨N - 1,by omega⟩;show z29 (N+1) d fs=_;unfold z29;rw [hv,z7,z6,z3s];rfl
theorem z04l {g:Geometry} {B P S:Nat} (hG:Gm g B P S) {d:Device} (hI:DvI g B P S d) (fs:List Fate) (hno:∀ b,b<B->z7y d b=false) (hm:resT d<=((manyT d.chip d.opn 0:Nat):Int)):z3g (d,fs)=some (d,fs,0):=by
 have hr:=zq1 hG hI fs hno;have hsp:0<=d.geometry.spare /\ d.geometry.spare<4294967296:=by rw [hI.geo];exact hG.sp
 refine zy 1 fun N hN=>?_
 obtain ⟨N,rfl⟩:∃ M,N=M+1:=⟨N - 1,by omega⟩;show z8r (N+1) d fs=_;unfold z8r;rw [z6,za3];unfold z07;dsimp only;rw [hr,z7,zmu (hI.ok hG).1,z7,zge (hI.ok hG).1 hsp,z7,zT hm,zC];rfl
def twinL (c:Chip) (t:Table) (data:Str):Nat->Nat->Int->Int
 | 0,_,best=>best
 | m+1,i,best=>twinL c t data m (i+1) (if (z8v c (t.map.getD i 0)).2=true /\ (z8v c (t.map.getD i 0)).1.data=data /\ (z0n t (t.map.getD i 0)).length<8 /\ (best<0 \/ t.map.getD i 0<best) then t.map.getD i 0 else best)
theorem zv7 {g:Geometry} {B P S:Nat} (hG:Gm g B P S) {d:Device} (hI:DvI g B P S d) (data:Str):∀ (m N i:Nat) (best:Int),i+m=S->m<N->ze z0x N (data,best,(i:Int),d.chip,d.table)=some (twinL d.chip d.table data m i best)
 | m,0,_,_,_,h=>by omega
 | 0,N+1,i,best,h1,_=>by
   rw [z6,z2i];unfold z0k twinL;dsimp only;rw [hI.ta.lm,zF (by omega),zD]
 | m+1,N+1,i,best,h1,h2=>by
   have hS2:=hG.s2;have ei:((i:Int)).toNat=i:=by omega
   have hlm:=hI.ta.lm;have hnx:w64 ((i:Int)+1)=((i+1:Nat):Int):=by rw [zf (by omega) (by omega)];rfl
   have dA:decide ((i:Int)<((S:Nat):Int))=true:=zT (by omega);have dC:decide (0<=(i:Int))=true:=zT (by omega);have hmem:d.table.map.getD i 0∈d.table.map:=zo (by omega);have hrange:=(hI.tok hG).v _ hmem;have hpage:=zbb d.chip (place:=d.table.map.getD i 0) ⟨by omega,by omega⟩;have hown:=zng (hI.ok hG).2 (d.table.map.getD i 0);have ih1:=zv7 hG hI data m N (i+1) best (by omega) (by omega);have ih2:=zv7 hG hI data m N (i+1) (d.table.map.getD i 0) (by omega) (by omega);rw [z6,z2i];unfold z0k twinL;simp only [hlm,dA,dC,ei,hpage,hown,z7,hnx,zC,ih1,ih2];cases h1:(z8v d.chip (d.table.map.getD i 0)).2 with
   | false=>rw [zD,if_neg (fun h=>Bool.false_ne_true h.1)]
   | true =>
     rw [zC];by_cases h2:(z8v d.chip (d.table.map.getD i 0)).1.data=data
     · rw [zT h2,zC];by_cases h3:(z0n d.table (d.table.map.getD i 0)).length<8
       · rw [zT (by omega),zC];by_cases h4:best<0
         · rw [zT h4,zC,if_pos ⟨rfl,h2,h3,.inl h4⟩]
         · rw [zF h4,zD];by_cases h5:d.table.map.getD i 0<best
           · rw [zT h5,zC,if_pos ⟨rfl,h2,h3,.inr h5⟩]
           · rw [zF h5,zD,if_neg (fun h=>h.2.2.2.elim h4 h5)]
       · rw [zF (by omega),zD,if_neg (fun h=>h3 h.2.2.1)]
     · rw [zF h2,zD,if_neg (fun h=>h2 h.2.1)]
theorem z0co {g:Geometry} {B P S:Nat} (hG:Gm g B P S) {d:Device} (hI:DvI g B P S d) (data:Str):z7d (d.chip,d.table,data)=some (twinL d.chip d.table data S 0 (-1)) :=
 zy (S+1) fun N hN=>zv7 hG hI data S N 0 (-1) (by omega) (by omega)
def wantW (d:Device) (S s:Nat) (data:Str):Write:=if 0<=twinL d.chip d.table data S 0 (-1) then ⟨[],⟨2,0,[(s:Int)],[twinL d.chip d.table data S 0 (-1)]⟩⟩ else ⟨data,⟨1,0,[(s:Int)],[]⟩⟩
theorem z030 {g:Geometry} {B P S:Nat} (hG:Gm g B P S) {d:Device} (hI:DvI g B P S d) {s:Nat} (hs:s<S) {data:Str} (h1:data≠[]) (hdl:data.length<4294967296) (h2:hasT d.chip d.table s≠data) (hno:∀ b,b<B->z7y d b=false) (hm:resT d<=((manyT d.chip d.opn 0:Nat):Int)) {d':Device}
 (hp:putD d (wantW d S s data) []=(d',[],0)) (hno':∀ b,b<B->z7y d' b=false):za4 (d,(s:Int),data,[])=some (d',[],0) /\ DvI g B P S d':=by
 have hF:FOk []:=fun _ h=>by cases h
 have htw:=z0co hG hI data;obtain ⟨v,hv,hvs⟩:=z0aq hG hI data;have hve:twinL d.chip d.table data S 0 (-1)=v:=by rw [htw] at hv;exact Option.some.inj hv
 have hpr:Proper (wantW d S s data).record d.table /\ WriteOk (wantW d S s data):=by
  unfold wantW;split
  · rename_i h0;refine ⟨.inr (.inr ⟨s,v,rfl,rfl,by rw [hve],.inr (hvs.resolve_left (by omega))⟩),⟨by show (1:Nat)<_;decide,by show (1:Nat)<_;decide⟩,by show (0:Nat)<_;decide⟩
  · exact ⟨.inl ⟨rfl,by show (1:Nat)<=_;decide⟩,⟨by show (1:Nat)<_;decide,by show (0:Nat)<_;decide⟩,hdl⟩
 obtain ⟨r,hr,hres⟩:=zuy hG hI hF hpr.1 hpr.2;have hr2:=zpx (fs:=[]) (hI.ok hG) hpr.2;rw [hp] at hr2;have e:r=(d',[],0):=by rw [hr2] at hr;exact (Option.some.inj hr).symm
 have hI':DvI g B P S d':=by
  rcases hres with ⟨h,_,_⟩ | R
  · rw [e] at h;exact absurd rfl h
  · have:=R.inv;rw [e] at this;exact this
 refine ⟨?_,hI'⟩;have hwant:z6w (d,(s:Int),data)=some (wantW d S s data):=by
  show z6v d s data=_;unfold z6v wantW;rw [zF h1,zD,htw,z7];by_cases c:0<=twinL d.chip d.table data S 0 (-1)
  · rw [zT c,zC,if_pos c]
  · rw [zF c,zD,if_neg c]
 have hneed:zbs (d,(s:Int),data)=some true:=by
  show z6u d s data=_;unfold z6u;rw [zF h1,zD,zix (hI.mapR hG),z7,zF h2];rfl
 show zdh d s data []=_;unfold zdh;rw [hneed,z7,Bool.not_true,zD,z04l hG hI [] hno hm,z7];dsimp only;rw [zT rfl,Bool.not_true,zD,hwant,z7,hr2,z7];dsimp only;rw [zF (by decide),zD,zT rfl,Bool.not_true,zD,zq1 hG hI' [] hno',z7];rfl
end Clk
namespace Clk
open Go
def initDb (g:Geometry) (P S:Nat) (bs:List Bool):Device:=⟨g,⟨bs.map fun x=>⟨List.replicate P z7w,0,0,x⟩,false,false,0⟩,⟨List.replicate S (-1),List.replicate S (-1)⟩,0,-1⟩
theorem z04m {g:Geometry} {B P S:Nat} (hG:Gm g B P S) {bs:List Bool} (hl:bs.length=B):DvI g B P S (initDb g P S bs):=by
 have hb:∀ i,i<B->blk (initDb g P S bs).chip i=⟨List.replicate P z7w,0,0,bs.getD i false⟩:=fun i hi=>by
  unfold blk initDb;rw [zI,List.getElem?_map,zI,zH (by omega)];rfl
 have hm:∀ v:Int,v∈List.replicate S (-1:Int)->v = -1:=fun v hv=>(List.mem_replicate.1 hv).2
 have hc:∀ v:Int,0<=v->(List.replicate S (-1:Int)).count v<=8:=fun v hv=>by
  rw [List.count_eq_zero.2 (fun h=>by have:=hm v h;omega)];omega
 refine ⟨rfl,⟨by show (bs.map _).length=B;simp [hl],rfl,fun i hi=>by rw [hb i hi];simp,fun i hi=>by rw [hb i hi];exact ⟨Int.le_refl _,by show (0:Int)<=P;omega⟩,fun i hi=>by rw [hb i hi];exact zv4 P,fun i hi _ _=>by rw [hb i hi];exact .inl rfl,by show (-1:Int) <= -1;omega⟩,
  ⟨by show (List.replicate S _).length=S;simp,by show (List.replicate S _).length=S;simp,fun v hv=>.inl (hm v hv),fun v hv=>.inl (hm v hv),hc,hc,fun s s' hs _ h=>?_⟩,fun b hb p hp=>?_⟩
 · have h:0<=(List.replicate S (-1:Int)).getD s 0:=h;rw [zv3 hs] at h;omega
 · obtain ⟨x,_,rfl⟩:=List.mem_map.1 hb;rw [(List.mem_replicate.1 hp).2];exact ⟨by decide,by decide⟩
def ga:Geometry:=⟨8,4,5,1⟩
theorem zv8:Gm ga 8 4 5:=⟨rfl,rfl,rfl,by decide,by decide,by decide,by decide,by decide,by decide,by decide⟩
def dA0:Device:=initDb ga 4 5 [false,false,false,false,false,false,false,true]
theorem z0dr:(formatT ga [7]).1=dA0:=by kernel_rfl
def dA1:Device:=(putD dA0 (wantW dA0 5 1 [97]) []).1
def dA2:Device:=(putD dA1 (wantW dA1 5 2 [97]) []).1
def fineA (d:Device):Bool:=(List.range 8).all (fun b=>!(z7y d b))&&decide (resT d<=((manyT d.chip d.opn 0:Nat):Int))
theorem zq2 {d:Device} (h:fineA d=true):(∀ b,b<8->z7y d b=false) /\ resT d<=((manyT d.chip d.opn 0:Nat):Int):=by
 unfold fineA at h;rw [Bool.and_eq_true,List.all_eq_true,decide_eq_true_eq] at h;exact ⟨fun b hb=>by have:=h.1 b (List.mem_range.2 hb);simpa using this,h.2⟩
theorem z0eo:fineA dA0=true:=by kernel_rfl
theorem z0ep:fineA dA1=true:=by kernel_rfl
theorem z0eq:fineA dA2=true:=by kernel_rfl
theorem z0er:putD dA0 (wantW dA0 5 1 [97]) []=(dA1,[],0):=by kernel_rfl
theorem z0es:putD dA1 (wantW dA1 5 2 [97]) []=(dA2,[],0):=by kernel_rfl
theorem z0et:decide (hasT dA0.chip dA0.table ((1:Nat):Int)=[97])=false:=by kernel_rfl
theorem z0eu:decide (hasT dA1.chip dA1.table ((2:Nat):Int)=[97])=false:=by kernel_rfl
theorem z0at:za4 (dA0,((1:Nat):Int),[97],[])=some (dA1,[],0) /\ za4 (dA1,((2:Nat):Int),[97],[])=some (dA2,[],0) /\ DvI ga 8 4 5 dA2:=by
 have i0:DvI ga 8 4 5 dA0:=z04m zv8 rfl;obtain ⟨f0,g0⟩:=zq2 z0eo;obtain ⟨f1,g1⟩:=zq2 z0ep;obtain ⟨f2,g2⟩:=zq2 z0eq;obtain ⟨s1,i1⟩:=z030 zv8 i0 (s:=1) (by decide) (data:=[97]) (by decide) (by decide) (of_decide_eq_false z0et) f0 g0 z0er f1;obtain ⟨s2,i2⟩:=z030 zv8 i1 (s:=2) (by decide) (data:=[97]) (by decide) (by decide) (of_decide_eq_false z0eu) f1 g1 z0es f2;exact ⟨s1,s2,i2⟩
theorem z0ev:zlg (dA0,⟨2,1,0,[[97],[97]]⟩,[])=some (dA2,[],⟨0,[]⟩):=by
 obtain ⟨s1,s2,_⟩:=z0at;have hch:zdd (5,⟨2,1,0,[[97],[97]]⟩)=some 0:=zy 4 fun N hN=>by
  obtain ⟨N,rfl⟩:∃ M,N=M+4:=⟨N - 4,by omega⟩;rfl
 refine zy 4 fun N hN=>?_
 obtain ⟨N,rfl⟩:∃ M,N=M+4:=⟨N - 4,by omega⟩;show zgs (N+4) dA0 ⟨2,1,0,[[97],[97]]⟩ []=_;unfold zgs;have hoff:dA0.chip.off=false:=rfl;have hlen:(dA0.table.map.length:Int)=5:=rfl;rw [hoff,zD,hlen,hch,z7,zT rfl,Bool.not_true,zD];dsimp only;rw [zF (by decide),zD,zT rfl,Bool.not_true,zD,zF (by decide),zD];rw [z6,z7v];unfold z8s;dsimp only;rw [zT (by decide),zC,zT rfl,zC,zT (by decide),zC,zC];rw [show w64 (1+0)=((1:Nat):Int) by decide,show w64 (0+1)=1 by decide];rw [show ([[97],[97]]:List Str).getD (Int.toNat 0) []=[97] by rfl,s1,z7];rw [z6,z7v];unfold z8s;dsimp only;rw [zT (by decide),zC,zT rfl,zC,zT (by decide),zC,zC];rw [show w64 (1+1)=((2:Nat):Int) by decide];rw [show ([[97],[97]]:List Str).getD (Int.toNat 1) []=[97] by rfl,s2,z7];rw [z6,z7v];rfl
def repA:Bool:=decide (manyT dA2.chip dA2.opn 0=6)&&decide (manyT dA2.chip dA2.opn 2=0)&&decide (manyT dA2.chip dA2.opn 3=1)&&decide (wantS dA2.table 32 0=2)&&dA2.chip.blocks.all (fun b=>decide (b.erases=0))&&decide ((grpP (fun s=>hasT dA2.chip dA2.table s) dA2.table.map 0 []).map (·.2)=[[1,2]])
theorem z0cp:repA=true:=by kernel_rfl
theorem z07t:zdi ()=some true:=by
 obtain ⟨_,_,hI⟩:=z0at;have hR:=z0cp;unfold repA at hR;simp only [Bool.and_eq_true,decide_eq_true_eq,List.all_eq_true] at hR;obtain ⟨⟨⟨⟨⟨m0,m2⟩,m3⟩,mw⟩,me⟩,mg⟩:=hR;obtain ⟨r,hw,_,hr⟩:=z0dq (hI.ok zv8).1;obtain ⟨r1,r2⟩:=r;have hr0:r1=0 /\ r2=0:=by
  rcases hr with h | ⟨⟨b,hb,e1⟩,b',hb',e2⟩
  · exact h
  · have h1:r1=b.erases:=e1;have h2:r2=b'.erases:=e2;rw [me b hb] at h1;rw [me b' hb'] at h2;exact ⟨h1,h2⟩
 obtain ⟨rfl,rfl⟩:=hr0;have hof:zi9 dA2=some ⟨6,0,1,2,0,0,false⟩:=by
  show ofF z8m z5e z8n zd9 z9u dA2=_;unfold ofF;rw [ze6 (hI.ok zv8).1,ze6 (hI.ok zv8).1,ze6 (hI.ok zv8).1,z09x (hI.trg zv8),hw,m0,m2,m3,mw];rfl
 have hlm:=hI.ta.lm;have hsh:=zq0 (hI.mapR zv8) (by omega);rw [mg] at hsh;have hsm:smallT 0=ga:=rfl;have hfo:=z02o (g:=ga) (bad:=[7]) (by decide);show z8t=_;unfold z8t;rw [z07c (by decide) (by decide),z7,hsm,hfo,z7,z0dr,z0ev,z7];dsimp only;rw [hof,z7,hsh,z7,zxw (by show (2:Nat)<_;decide)];rfl
theorem zn5 {n:Int} {l:List (List Int)} {k:List Int} (hn:0<=n /\ n<256) (hl:∀ x∈l,∀ n∈x,0<=n /\ n<256) (hl2:∀ x∈l,x.length<9223372036854775808) (hk:∀ x∈k,0<=x /\ x<256):z3t (n,l,k)=some true:=by
 obtain ⟨g,B,P,S,d,hG,hu,hI,_⟩:=z0dp hn hl hl2 hk;obtain ⟨M0,hM⟩:=z04k hG hI true rfl;refine zy M0 fun N hN=>?_
 show z1b N n l k=_;unfold z1b;rw [z07t,z7,Bool.not_true,zD,hu,z7];exact hM N hN
end Clk
namespace Clk
open Go
theorem z07u {k:IntKind} {w:World} {a:Option Addr} {len cap:Nat} {zs:List Int} (h:IsRow k w a len cap zs):∀ n∈zs.take len,(Lit.int k n).wf=true:=by
 intro n hn;rcases h with ⟨_,_,_,rfl⟩ | ⟨_,_,_,_,_,_,h⟩
 · simp at hn
 · exact h n (List.mem_of_mem_take hn)
theorem z0cq {k:IntKind} {w:World} {a:Option Addr} {len cap:Nat} {zs:List Int} (h:IsRow k w a len cap zs):(zs.take len).length<9223372036854775808:=by
 rcases h with ⟨_,_,_,rfl⟩ | ⟨_,_,h1,h2,h3,_,_⟩
 · simp
 · have:maxLen=9223372036854775807:=rfl;simp only [List.length_take];omega
theorem z0cr {n:Int} (h:(Lit.int .u8 n).wf=true):0<=n /\ n<256:=by
 simp [Lit.wf,IntKind.min,IntKind.max,IntKind.signed,IntKind.bits] at h;omega
theorem litU8 {n:Int} (h:(Lit.int .u8 n).wf=true):0<=n /\ n<256:=z0cr h
theorem rowU8 {w:World} {a:Option Addr} {len cap:Nat} {zs:List Int} (h:IsRow .u8 w a len cap zs):∀ n∈zs.take len,0<=n /\ n<256:=fun n hn=>z0cr (z07u h n hn)
end Clk
namespace Clk
open Go
def IsRows (k:IntKind) (w:World) (a:Option Addr) (len cap:Nat) (zss:List (List Int)):Prop :=
 RelI w (fun _=>False) (encV (.list (.list (.int k))) zss) (.slice a len cap) /\ (∀ zs∈zss,∀ n∈zs,(Lit.int k n).wf=true) /\ ∀ zs∈zss,zs.length<9223372036854775808
theorem IsRows.rel {k:IntKind} {w:World} {a:Option Addr} {len cap:Nat} {zss:List (List Int)} (h:IsRows k w a len cap zss):RelI w (fun _=>False) (encV (.list (.list (.int k))) zss) (.slice a len cap):=h.1
theorem zv9 {k:IntKind} {w:World} {a:Addr} {len cap:Nat} (hl:len<=cap) (h:∀ i,i<len->∃ a' len' cap' z,w.cell? (a.add i)=some (.slice a' len' cap') /\ IsRow k w a' len' cap' z):∃ zss,IsRows k w (some a) len cap zss:=by
 have key:∀ i,∃ r:Option Addr×Nat×Nat×List Int,i<len->w.cell? (a.add i)=some (.slice r.1 r.2.1 r.2.2.1) /\ IsRow k w r.1 r.2.1 r.2.2.1 r.2.2.2:=fun i=>by
  by_cases hi:i<len
  · obtain ⟨a',l',c',z,h1,h2⟩:=h i hi;exact ⟨(a',l',c',z),fun _=>⟨h1,h2⟩⟩
  · exact ⟨(none,0,0,[]),fun h=>absurd h hi⟩
 let f:=fun i=>Classical.choose (key i)
 have hf:∀ i,i<len->w.cell? (a.add i)=some (.slice (f i).1 (f i).2.1 (f i).2.2.1) /\ IsRow k w (f i).1 (f i).2.1 (f i).2.2.1 (f i).2.2.2:=fun i hi=>Classical.choose_spec (key i) hi
 refine ⟨(List.range len).map fun i=>(f i).2.2.2.take (f i).2.1,?_,?_,?_⟩
 · have hget:∀ (i:Nat) row,(((List.range len).map fun i=>(f i).2.2.2.take (f i).2.1).map (z7z (.list (.int k))))[i]?=some row->i<len /\ row=[.rows (((f i).2.2.2.take (f i).2.1).map fun n=>[.int k n])]:=by
    intro i row q;simp only [List.getElem?_map,Option.map_eq_some_iff] at q;obtain ⟨zs,⟨j,q1,rfl⟩,rfl⟩:=q;have hi:=(zG.1 q1).1;simp only [List.length_range] at hi;rw [List.getElem?_range hi] at q1;cases q1;exact ⟨hi,rfl⟩
   have hlen:(((List.range len).map fun i=>(f i).2.2.2.take (f i).2.1).map (z7z (.list (.int k)))).length=len:=by simp
   have hspot:∀ i,i<len->a.spot=none /\ a.add i=⟨a.block,a.off+(i*1+0),none⟩:=by
    intro i hi;obtain ⟨hs0,_⟩:=zj9 (hf 0 (by omega)).1;have e0:a.add 0=a:=by simp [Addr.add]
    rw [e0] at hs0;refine ⟨hs0,?_⟩;by_cases hz:i=0
    · subst hz;rw [e0];obtain ⟨b,o,s⟩:=a;simp only at hs0;subst hs0;simp
    · simp [Addr.add,hz]
   have:=RelI.rows (w:=w) (N:=fun _=>False) (l:=((List.range len).map fun i=>(f i).2.2.2.take (f i).2.1).map (z7z (.list (.int k)))) (a:=some a) (c:=cap) (k:=1) (u:=fun i _=>.slice (f i).1 (f i).2.1 (f i).2.2.1) (by omega)
    (fun i row q=>by rw [(hget i row q).2];rfl)
    (fun h0=>by
      rw [hlen] at h0;obtain ⟨_,hb⟩:=zj9 (hf 0 h0).1;have e0:a.add 0=a:=by simp [Addr.add]
      rw [e0] at hb;exact ⟨a,rfl,(hspot 0 h0).1,fun h=>h,hb⟩)
    (fun ad i row j y e q1 q2=>by
      cases e;obtain ⟨hi,rfl⟩:=hget i row q1;have hj:j=0:=by cases j with | zero=>rfl | succ j=>simp at q2
      subst hj;rw [<- (hspot i hi).2];exact (hf i hi).1)
    (fun i row j y q1 q2=>by
      obtain ⟨hi,rfl⟩:=hget i row q1;have hj:j=0:=by cases j with | zero=>rfl | succ j=>simp at q2
      subst hj;simp only [List.getElem?_cons_zero,Option.some.injEq] at q2;subst q2;exact (hf i hi).2.rel)
   rw [hlen] at this;exact this
 · intro zs hz n hn;obtain ⟨i,hi,rfl⟩:=List.mem_map.1 hz;exact z07u (hf i (List.mem_range.1 hi)).2 n hn
 · intro zs hz;obtain ⟨i,hi,rfl⟩:=List.mem_map.1 hz;exact z0cq (hf i (List.mem_range.1 hi)).2
section
variable {H:Type} {enc:TypeId×Value->H} {P:Program} {w:World} {base:Nat} {spare:Nat->Bool} {held:Bool}
open Go.ChangeShapes Go.WideShapes
theorem z04n {t e f:TypeId} {k:IntKind} {fuel:Nat} {a:Option Addr} {len cap:Nat} {x:DataW H×List MemPlace} (ht:P.underlying t=some (.slice e)) (he:P.underlying e=some (.slice f)) (hf:P.underlying f=some (.int k)) (hce:P.cellsOf e=1) (hcf:P.cellsOf f=1)
 (hsp:∀ b,spare b=true) (h:DataW.trod enc P w base spare held fuel t [.slice a len cap]=some x):∃ zss,IsRows k w a len cap zss:=by
 rcases DataW.trod_slice ht h with ⟨h0,_⟩ | ⟨a1,len1,cap1,elems,rest,n,rfl,h1,_,hb,hl,hm,hlen,hel,_,_⟩
 · simp only [List.cons.injEq,Value.slice.injEq,and_true] at h0;obtain ⟨rfl,rfl,rfl⟩:=h0;refine ⟨[],?_,(fun zs h=>absurd h List.not_mem_nil),(fun zs h=>absurd h List.not_mem_nil)⟩;exact RelI.rows (l:=[]) (k:=1) (u:=fun _ _=>undef) (Nat.le_refl _) (fun _ _ h=>by simp at h) (fun h=>absurd h (by simp)) (fun _ _ _ _ _ _ h=>by simp at h) (fun _ _ _ _ h=>by simp at h)
 · simp only [List.cons.injEq,Value.slice.injEq,and_true] at h1;obtain ⟨rfl,rfl,rfl⟩:=h1;refine zv9 hl fun i hi=>?_
   have hi2:=hel i hi;rw [hce,Nat.mul_one,zH (by omega)] at hi2;obtain ⟨cs',hcs,hy⟩:=Option.bind_eq_some_iff.1 hi2;obtain ⟨v,rfl⟩:∃ v,cs'=[v]:=by
    have:=(World.cells?_some hcs).2.1;match cs',this with
    | [v],_=>exact ⟨v,rfl⟩
   have hcell:=cell_of_cells?_one hcs;rcases open_ints he hf hcf hy with ⟨h2,_⟩ | ⟨x',l',c',zs,h2,_,hl',hm',hz,_,hc',hw⟩
   · simp only [List.cons.injEq,and_true] at h2;subst h2;exact ⟨none,0,0,[],hcell,.inl ⟨rfl,rfl,rfl,rfl⟩⟩
   · simp only [List.cons.injEq,and_true] at h2;subst h2;exact ⟨some x',l',c',zs,hcell,.inr ⟨x',rfl,hl',hm',by rw [hz,hsp];rfl,hc',hw⟩⟩
end
end Clk
namespace Clk
open Go
theorem rowsU8 {w:World} {a:Option Addr} {len cap:Nat} {zss:List (List Int)} (h:IsRows .u8 w a len cap zss):(∀ x∈zss,∀ n∈x,0<=n /\ n<256) /\ ∀ x∈zss,x.length<9223372036854775808 :=
 ⟨fun x hx n hn=>z0cr (h.2.1 x hx n hn),fun x hx=>h.2.2 x hx⟩
end Clk
