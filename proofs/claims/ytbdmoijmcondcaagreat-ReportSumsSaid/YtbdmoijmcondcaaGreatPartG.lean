/- A part of the proof of ReportSums: an evaluator of the program's code that the kernel runs, its soundness, what the functions compute. -/
import Derived.Test.YtbdmoijmcondcaaGreatPartF
import Derived.KernelRfl
import Derived.ChangeSlices
set_option linter.unusedVariables false
set_option linter.unusedSimpArgs false
set_option maxRecDepth 1000000
namespace Clk
open Go
def z0g (c:Chip):Prop:=c.blocks.length<4294967296 /\ ∀ b∈c.blocks,b.pages.length<4294967296
theorem zr {α:Type} {l:List α} {i:Nat} {d:α} (h:i<l.length):l.getD i d∈l:=by
 rw [zI,zH h];exact List.getElem_mem h
theorem z0g.get {c:Chip} (h:z0g c) {i:Nat} (hi:i<c.blocks.length) (d:Block):(c.blocks.getD i d).pages.length<4294967296:=h.2 _ (zr hi)
theorem zs3 (acc:List Block) (n e:Int) (b:Bool) (p q:List Page):z16 (acc++[⟨q,n,e,b⟩]) acc.length p=acc++[⟨p,n,e,b⟩]:=by
 unfold z16;simp [zI]
theorem z06v {α:Type} {xs:List α} {k:Nat} {d:α} (h:k<xs.length):xs.take k++[xs.getD k d]=xs.take (k+1):=by
 rw [List.take_add_one,zH h,zI,zH h];rfl
theorem zco {R:Type} {c:Chip} (h:z0g c) {k:Nat} {i:Int} (hi:i=k) (hk:k<c.blocks.length) {ih:Int->List Block->Option R} {e:Option R} :
 cond (decide (i<(c.blocks.length:Int)))
  (cond (decide (0<=i)) (cond (decide (i<(c.blocks.length:Int))) (cond (decide ((0+(c.blocks.getD i.toNat default).pages.length)*40<=70368744177664)) (cond (decide (0+(c.blocks.getD i.toNat default).pages.length<=70368744177664)) (cond (decide (((c.blocks.take k).length+1)*48<=70368744177664)) (cond (decide ((c.blocks.take k).length+1<=70368744177664))
    (ih (w64 (i+1)) (z16 (c.blocks.take k++[(Block.mk [] (c.blocks.getD i.toNat default).next (c.blocks.getD i.toNat default).erases (c.blocks.getD i.toNat default).bad)]) (c.blocks.take k).length ([]++(c.blocks.getD i.toNat default).pages))) none) none) none) none) none) none) e=ih ((k+1:Nat):Int) (c.blocks.take (k+1)):=by
 subst hi;have h1:=h.1;have h2:=h.get hk default;simp only [Int.toNat_natCast,zs3,List.nil_append];rw [zT (show (k:Int)<c.blocks.length by omega),zT (show (0:Int)<=k by omega)];simp only [zC];rw [zT (by omega),zC,zT (by omega),zC,zT (by rw [List.length_take];omega),zC,zT (by rw [List.length_take];omega),zC,zf (by omega) (by omega),<- z06v (d:=default) hk];rfl
theorem zy2 {c:Chip} (h:z0g c):∀ (m N k:Nat) (i:Int),k+m=c.blocks.length->i=k->m<N->ze z3d N (i,c,c.blocks.take k)=some (⟨c.blocks,true,c.off,c.ops⟩,1)
 | m,0,_,_,_,_,h=>by omega
 | 0,N+1,k,i,h1,h2,_=>by
   rw [z6,z86];unfold z3c;simp only;rw [zF (by omega),zD,List.take_of_length_le (by omega)]
 | m+1,N+1,k,i,h1,h2,h3=>by
   rw [z6,z86];unfold z3c;rw [zco (ih:=fun i l=>ze z3d N (i,c,l)) h h2 (by omega)];exact zy2 h m N (k+1) _ (by omega) rfl (by omega)
def brkT (c:Chip):Chip×Int:=(⟨c.blocks,true,c.off,c.ops⟩,1)
theorem z024 {c:Chip} (h:z0g c):z01 c=some (brkT c):=by
 refine zy (c.blocks.length+1) fun N hN=>?_
 exact zy2 h c.blocks.length N 0 0 (by omega) rfl (by omega)
theorem z0dc {c:Chip} (h:z0g c):∀ (m N k:Nat) (i:Int),k+m=c.blocks.length->i=k->m<N->ze z8g N (i,c,c.blocks.take k)=some ⟨c.blocks,c.broken,false,c.ops⟩
 | m,0,_,_,_,_,h=>by omega
 | 0,N+1,k,i,h1,h2,_=>by
   rw [z6,ze7];unfold z8f;simp only;rw [zF (by omega),zD,List.take_of_length_le (by omega)]
 | m+1,N+1,k,i,h1,h2,h3=>by
   rw [z6,ze7];unfold z8f;rw [zco (ih:=fun i l=>ze z8g N (i,c,l)) h h2 (by omega)];exact z0dc h m N (k+1) _ (by omega) rfl (by omega)
def onT (c:Chip):Chip:=⟨c.blocks,c.broken,false,c.ops⟩
theorem s_On {c:Chip} (h:z0g c):zl7 c=some (onT c):=by
 refine zy (c.blocks.length+1) fun N hN=>?_
 exact z0dc h c.blocks.length N 0 0 (by omega) rfl (by omega)
def thereT (c:Chip) (b p:Int):Bool:=decide (0<=b)&&decide (b<c.blocks.length)&&decide (0<=p)&&decide (p<(c.blocks.getD b.toNat default).pages.length)
theorem z0c4 (c:Chip) (b p:Int):zd3 (c,b,p)=some (thereT c b p):=by
 show z8k c b p=_;unfold z8k thereT;cases decide (0<=b) with
 | false=>rfl
 | true=>cases decide (b<(c.blocks.length:Int)) with
   | false=>rfl
   | true=>cases decide (0<=p) <;> simp
def z71 (bl:Block) (p:Int) (page:Page) (f:Fate):Block :=
 ⟨bl.pages.set p.toNat (if f.kind=0 then ⟨true,page.data,page.tag⟩ else ⟨true,f.data,f.tag⟩),w64 (bl.next+1),bl.erases,decide (f.kind=1)⟩
def canProg (c:Chip) (b p:Int) (f:Fate):Bool :=
 thereT c b p&&!(c.blocks.getD b.toNat default).bad&&decide ((c.blocks.getD b.toNat default).next=p)&&decide (0<=f.kind)&&decide (f.kind<=2)
def z0r (c:Chip) (b p:Int) (page:Page) (f:Fate):Chip×Int :=
 if c.off then (c,52) else if canProg c b p f then
  (⟨c.blocks.set b.toNat (z71 (c.blocks.getD b.toNat default) p page f),c.broken,decide (f.kind=2),w64 (c.ops+1)⟩,if f.kind=0 then 0 else if f.kind=1 then 53 else 52)
 else brkT c
theorem z0k {α:Type} {l:List α} {i:Nat} {x d:α} (h:i<l.length):(l.set i x).getD i d=x:=by
 rw [zI,List.getElem?_set_self h];rfl
theorem z6c {c:Chip} {b p:Int} {f:Fate}:canProg c b p f=true↔0<=b /\ b<c.blocks.length /\ 0<=p /\ p<(c.blocks.getD b.toNat default).pages.length /\ (c.blocks.getD b.toNat default).bad=false /\ (c.blocks.getD b.toNat default).next=p /\ 0<=f.kind /\ f.kind<=2:=by
 unfold canProg thereT;simp only [Bool.and_eq_true,decide_eq_true_eq,Bool.not_eq_true'];constructor
 · rintro ⟨⟨⟨⟨⟨⟨⟨h1,h2⟩,h3⟩,h4⟩,h5⟩,h6⟩,h7⟩,h8⟩;exact ⟨h1,h2,h3,h4,h5,h6,h7,h8⟩
 · rintro ⟨h1,h2,h3,h4,h5,h6,h7,h8⟩;exact ⟨⟨⟨⟨⟨⟨⟨h1,h2⟩,h3⟩,h4⟩,h5⟩,h6⟩,h7⟩,h8⟩
theorem z00l {c:Chip} {b p:Int} {page:Page} {f:Fate} (hoff:c.off=false) (hc:canProg c b p f=true) {ih} {i:Int} (hi:i=c.blocks.length):z17 b p ih i page f c c.blocks=some (z0r c b p page f):=by
 have hc':=hc;obtain ⟨h1,h2,h3,h4,h5,h6,h7,h8⟩:=z6c.1 hc;have hb:b.toNat<c.blocks.length:=by omega
 have hp:p.toNat<(c.blocks.getD b.toNat default).pages.length:=by omega
 unfold z17 z0r;rw [zF (by omega),zD,hoff,if_neg (by simp),if_pos hc'];have hk:f.kind=0 \/ f.kind=1 \/ f.kind=2:=by omega
 generalize hbl:c.blocks.getD b.toNat default=bl at *;have e1:∀ v,z03 c.blocks b.toNat v=c.blocks.set b.toNat ⟨bl.pages,v,bl.erases,bl.bad⟩:=fun v=>by unfold z03;rw [hbl]
 have e2:∀ v y,ze6 (c.blocks.set b.toNat y) b.toNat v=c.blocks.set b.toNat ⟨y.pages,y.next,y.erases,v⟩:=fun v y=>by unfold ze6;rw [z0k hb,List.set_set]
 have e3:∀ v y,z16 (c.blocks.set b.toNat y) b.toNat v=c.blocks.set b.toNat ⟨v,y.next,y.erases,y.bad⟩:=fun v y=>by unfold z16;rw [z0k hb,List.set_set]
 simp only [e1,e2,e3,List.length_set,z0k hb,zT h1,zT h2,zT hb,zT h3,zT h4,zT hp,zC,decide_true];rcases hk with hk | hk | hk <;> simp [hk,z71,h5,hoff]
theorem zs4 {c:Chip} (h:z0g c) {b p:Int} {page:Page} {f:Fate} (hoff:c.off=false) (hc:canProg c b p f=true):∀ (m N k:Nat) (i:Int),k+m=c.blocks.length->i=k->m<N->ze (z2f b p) N (i,page,f,c,c.blocks.take k)=some (z0r c b p page f)
 | m,0,_,_,_,_,h=>by omega
 | 0,N+1,k,i,h1,h2,_=>by
   rw [z6,z79,List.take_of_length_le (by omega)];exact z00l hoff hc (by omega)
 | m+1,N+1,k,i,h1,h2,h3=>by
   rw [z6,z79];unfold z17;rw [zco (ih:=fun i l=>ze (z2f b p) N (i,page,f,c,l)) h h2 (by omega)];exact zs4 h hoff hc m N (k+1) _ (by omega) rfl (by omega)
theorem zs5 {c:Chip} (h:z0g c):∀ (m N k:Nat) (i:Int),k+m=c.blocks.length->i=k->m<N->ze z2e N (i,c,c.blocks.take k)=some (⟨c.blocks,c.broken,c.off,c.ops⟩,52)
 | m,0,_,_,_,_,h=>by omega
 | 0,N+1,k,i,h1,h2,_=>by
   rw [z6,z78];unfold z2d;simp only;rw [zF (by omega),zD,List.take_of_length_le (by omega)]
 | m+1,N+1,k,i,h1,h2,h3=>by
   rw [z6,z78];unfold z2d;rw [zco (ih:=fun i l=>ze z2e N (i,c,l)) h h2 (by omega)];exact zs5 h m N (k+1) _ (by omega) rfl (by omega)
theorem zpp {c:Chip} (h:z0g c) (b p:Int) (page:Page) (f:Fate):z57 (c,b,p,page,f)=some (z0r c b p page f):=by
 refine zy (c.blocks.length+1) fun N hN=>?_
 show z56 N c b p page f=_;unfold z56;cases hoff:c.off with
 | true =>
   rw [zC];have:=zs5 h c.blocks.length N 0 0 (by omega) rfl (by omega);rw [List.take_zero] at this;rw [this];unfold z0r;rw [if_pos hoff]
 | false =>
   rw [zD,z0c4,z7,z024 h];simp only [z7];have hbrk:canProg c b p f=false->z0r c b p page f=brkT c:=fun hc=>by unfold z0r;rw [hoff,if_neg (by simp),hc];rfl
   cases ht:thereT c b p with
   | false =>
     rw [hbrk (by unfold canProg;rw [ht];rfl)] <;> rfl
   | true =>
     have ht':=ht;unfold thereT at ht';simp only [Bool.and_eq_true,decide_eq_true_eq] at ht';obtain ⟨⟨⟨h1,h2⟩,h3⟩,h4⟩:=ht';rw [Bool.not_true,zD,zT h1,zT h2];simp only [zC];cases hbd:(c.blocks.getD b.toNat default).bad with
     | true =>
       rw [zC,hbrk (by unfold canProg;rw [hbd];simp)] <;> rfl
     | false =>
       rw [zD];by_cases hn:(c.blocks.getD b.toNat default).next=p
       · rw [zT hn,Bool.not_true,zD];by_cases hk1:f.kind<0
         · rw [zT hk1,zC,hbrk (by unfold canProg;rw [zF (show ¬ 0<=f.kind by omega)];simp)] <;> rfl
         · rw [zF hk1,zD];by_cases hk2:2<f.kind
           · rw [zT hk2,zC,hbrk (by unfold canProg;rw [zF (show ¬ f.kind<=2 by omega)];simp)] <;> rfl
           · rw [zF hk2,zD];have:=zs4 h (page:=page) (f:=f) hoff (z6c.2 ⟨h1,h2,h3,h4,hbd,hn,by omega,by omega⟩) c.blocks.length N 0 0 (by omega) rfl (by omega);rw [List.take_zero] at this;exact this
       · rw [zF hn,Bool.not_false,zC,hbrk (by unfold canProg;rw [zF hn];simp)] <;> rfl
end Clk
namespace Clk
open Go
def z7z:Page:=⟨false,[],[]⟩
def clrT (all:Bool) (n:Int):Nat->List Page->List Page
 | _,[]=>[]
 | i,p::l=>(if all=true \/ (i:Int)<n then z7z else p)::clrT all n (i+1) l
def z4j (bl:Block) (f:Fate):Block :=
 if f.kind=1 then ⟨bl.pages,bl.next,bl.erases,true⟩
 else ⟨clrT (decide (f.kind=0)) f.n 0 bl.pages,if f.kind=2 then bl.pages.length else 0,w64 (bl.erases+1),bl.bad⟩
def canEra (c:Chip) (b:Int) (f:Fate):Bool :=
 decide (0<=b)&&decide (b<c.blocks.length)&&!(c.blocks.getD b.toNat default).bad&&decide (0<=f.kind)&&decide (f.kind<=2)
def zgp (c:Chip) (b:Int) (f:Fate):Chip×Int :=
 if c.off then (c,52) else if canEra c b f then
  (⟨c.blocks.set b.toNat (z4j (c.blocks.getD b.toNat default) f),c.broken,decide (f.kind=2),w64 (c.ops+1)⟩,if f.kind=0 then 0 else if f.kind=1 then 53 else 52)
 else brkT c
theorem z025 (all:Bool) (n:Int):∀ (i:Nat) (l:List Page),(clrT all n i l).length=l.length
 | _,[]=>rfl
 | i,p::l=>by simp [clrT,z025 all n (i+1) l]
theorem z026 {C:List Block} {b:Nat} (hb:b<C.length) {f:Fate} (hk:f.kind=0 \/ f.kind=2) {nx e:Int} {bd brk off:Bool} {ops:Int}:∀ (l:List Page) (N k:Nat) (i:Int) (pre:List Page),pre.length=k->i=k->k+l.length<4294967296->l.length<N ->
 ze z48 N ((b:Int),i,f,C.set b ⟨pre++l,nx,e,bd⟩,brk,off,ops) =
  some (⟨C.set b ⟨pre++clrT (decide (f.kind=0)) f.n k l,if f.kind=2 then ((k+l.length:Nat):Int) else 0,e,bd⟩,brk,off||decide (f.kind=2),ops⟩,if f.kind=2 then 52 else 0)
 | l,0,_,_,_,_,_,_,h=>by omega
 | [],N+1,k,i,pre,h1,h2,h3,_=>by
   rw [z6,z9h];unfold z47;simp only [Int.toNat_natCast,List.length_set,z0k hb,zT hb,zC,decide_true,List.append_nil];rw [zF (show ¬ i<(pre.length:Int) by omega),zD];have e1:∀ v y,z03 (C.set b y) b v=C.set b ⟨y.pages,v,y.erases,y.bad⟩:=fun v y=>by unfold z03;rw [z0k hb,List.set_set]
   have e3:∀ v y,z16 (C.set b y) b v=C.set b ⟨v,y.next,y.erases,y.bad⟩:=fun v y=>by unfold z16;rw [z0k hb,List.set_set]
   simp only [e1,e3,List.length_set,zT hb,zC,clrT,List.append_nil,List.length_nil,Nat.add_zero];rcases hk with hk | hk <;> simp [hk,h1]
 | p::l,N+1,k,i,pre,h1,h2,h3,h4=>by
   subst h2;simp only [List.length_cons] at h3 h4;have hl:(pre++p::l).length=k+(l.length+1):=by simp [h1]
   have g3:∀ x,(pre++p::l).set k x=(pre++[x])++l:=fun x=>by subst h1;simp
   have e3:∀ v y,z16 (C.set b y) b v=C.set b ⟨v,y.next,y.erases,y.bad⟩:=fun v y=>by unfold z16;rw [z0k hb,List.set_set]
   have ih:=fun x=>z026 hb hk (nx:=nx) (e:=e) (bd:=bd) (brk:=brk) (off:=off) (ops:=ops) l N (k+1) (w64 (k+1)) (pre++[x]) (by simp [h1]) (by rw [zf (by omega) (by omega)];omega) (by omega) (by omega)
   rw [z6,z9h];unfold z47;simp only [Int.toNat_natCast,List.length_set,z0k hb,zT hb,zC,decide_true,e3,g3,hl];rw [zT (show (k:Int)<((k+(l.length+1):Nat):Int) by omega),zT (show (0:Int)<=k by omega),zT (show k<k+(l.length+1) by omega)];simp only [zC];have hp0:pre++p::l=(pre++[p])++l:=by simp
   rw [hp0,ih p];have hz:ze z48 N ((b:Int),w64 (k+1),f,C.set b ⟨pre++[Page.mk false [] []]++l,nx,e,bd⟩,brk,off,ops)=_:=ih z7z;rw [hz];rcases hk with hk | hk
   · simp [hk,clrT]
   · by_cases hn:(k:Int)<f.n
     · have hkl:k+1+l.length=k+(l.length+1):=by omega
       rw [hkl];simp [hk,clrT,hn]
     · have hkl:k+1+l.length=k+(l.length+1):=by omega
       rw [hkl];simp [hk,clrT,hn]
theorem z06w {c:Chip} (h:z0g c) {b:Int} {f:Fate} (hoff:c.off=false) (hc:canEra c b f=true) {M:Nat} (hM:∀ b∈c.blocks,b.pages.length<M) {ih} {i:Int} (hi:i=c.blocks.length):z1x M b ih i f c c.blocks=some (zgp c b f):=by
 have hc':=hc;unfold canEra at hc;simp only [Bool.and_eq_true,decide_eq_true_eq,Bool.not_eq_true'] at hc;obtain ⟨⟨⟨⟨h1,h2⟩,h5⟩,h7⟩,h8⟩:=hc;have hb:b.toNat<c.blocks.length:=by omega
 have hM':=hM _ (zr (d:=default) hb);have hl:=h.get hb default;unfold z1x zgp;rw [zF (by omega),zD,hoff,if_neg (by simp),if_pos hc'];have hk:f.kind=1 \/ (f.kind=0 \/ f.kind=2):=by omega
 generalize hbl:c.blocks.getD b.toNat default=bl at *;have e2:∀ v,ze6 c.blocks b.toNat v=c.blocks.set b.toNat ⟨bl.pages,bl.next,bl.erases,v⟩:=fun v=>by unfold ze6;rw [hbl]
 have e3:∀ v,bErases c.blocks b.toNat v=c.blocks.set b.toNat ⟨bl.pages,bl.next,v,bl.bad⟩:=fun v=>by unfold bErases;rw [hbl]
 simp only [e2,e3,zT h1,zT h2,zT hb,zC];rcases hk with hk | hk
 · simp [hk,z4j,hoff]
 · rw [zF (show ¬ f.kind=1 by omega),zD];have:=z026 hb hk (nx:=bl.next) (e:=w64 (bl.erases+1)) (bd:=bl.bad) (brk:=c.broken) (off:=false) (ops:=w64 (c.ops+1)) bl.pages M 0 0 [] rfl rfl (by omega) hM';rw [List.nil_append] at this;rw [this];have hk1:¬ f.kind=1:=by omega
   rcases hk with hk | hk <;> simp [hk,z4j]
theorem z027 {c:Chip} (h:z0g c) {b:Int} {f:Fate} (hoff:c.off=false) (hc:canEra c b f=true) {M:Nat} (hM:∀ b∈c.blocks,b.pages.length<M):∀ (m N k:Nat) (i:Int),k+m=c.blocks.length->i=k->m<N->ze (z49 M b) N (i,f,c,c.blocks.take k)=some (zgp c b f)
 | m,0,_,_,_,_,h=>by omega
 | 0,N+1,k,i,h1,h2,_=>by
   rw [z6,z9i,List.take_of_length_le (by omega)];exact z06w h hoff hc hM (by omega)
 | m+1,N+1,k,i,h1,h2,h3=>by
   rw [z6,z9i];unfold z1x;rw [zco (ih:=fun i l=>ze (z49 M b) N (i,f,c,l)) h h2 (by omega)];exact z027 h hoff hc hM m N (k+1) _ (by omega) rfl (by omega)
theorem z028 {c:Chip} (h:z0g c):∀ (m N k:Nat) (i:Int),k+m=c.blocks.length->i=k->m<N->ze z44 N (i,c,c.blocks.take k)=some (⟨c.blocks,c.broken,c.off,c.ops⟩,52)
 | m,0,_,_,_,_,h=>by omega
 | 0,N+1,k,i,h1,h2,_=>by
   rw [z6,z9g];unfold z43;simp only;rw [zF (by omega),zD,List.take_of_length_le (by omega)]
 | m+1,N+1,k,i,h1,h2,h3=>by
   rw [z6,z9g];unfold z43;rw [zco (ih:=fun i l=>ze z44 N (i,c,l)) h h2 (by omega)];exact z028 h m N (k+1) _ (by omega) rfl (by omega)
theorem zuq {c:Chip} (h:z0g c) (b:Int) (f:Fate):zd5 (c,b,f)=some (zgp c b f):=by
 refine zy (c.blocks.length+4294967297) fun N hN=>?_
 show z8l N c b f=_;unfold z8l;have hN2:4294967297<=N:=Nat.le_trans (Nat.le_add_left _ _) hN;have hN1:c.blocks.length<N:=by omega
 clear hN;cases hoff:c.off with
 | true =>
   rw [zC];have:=z028 h c.blocks.length N 0 0 (by omega) rfl hN1;rw [List.take_zero] at this;rw [this];unfold zgp;rw [if_pos hoff]
 | false =>
   rw [zD,z024 h];simp only [z7];have hbrk:canEra c b f=false->zgp c b f=brkT c:=fun hc=>by unfold zgp;rw [hoff,if_neg (by simp),hc];rfl
   by_cases h1:b<0
   · rw [zT h1,zC,hbrk (by unfold canEra;rw [zF (show ¬ 0<=b by omega)];simp)]
   · rw [zF h1,zD];by_cases h2:(c.blocks.length:Int)<=b
     · rw [zT h2,zC,hbrk (by unfold canEra;rw [zF (show ¬ b<c.blocks.length by omega)];simp)]
     · rw [zF h2,zD,zT (show 0<=b by omega),zT (show b<c.blocks.length by omega)];simp only [zC];cases hbd:(c.blocks.getD b.toNat default).bad with
       | true=>rw [zC,hbrk (by unfold canEra;rw [hbd];simp)]
       | false =>
         rw [zD];by_cases hk1:f.kind<0
         · rw [zT hk1,zC,hbrk (by unfold canEra;rw [zF (show ¬ 0<=f.kind by omega)];simp)]
         · rw [zF hk1,zD];by_cases hk2:2<f.kind
           · rw [zT hk2,zC,hbrk (by unfold canEra;rw [zF (show ¬ f.kind<=2 by omega)];simp)]
           · rw [zF hk2,zD];have hc:canEra c b f=true:=by
              unfold canEra;rw [hbd,zT (show 0<=b by omega),zT (show b<c.blocks.length by omega),zT (show 0<=f.kind by omega),zT (show f.kind<=2 by omega)];rfl
             have:=z027 h hoff hc (M:=N) (fun b hb=>by have:=h.2 b hb;omega) c.blocks.length N 0 0 (by omega) rfl hN1;rw [List.take_zero] at this;exact this
def zChip:Chip:=⟨[],false,false,0⟩
def newL (n:Int):List Int->List Block->Chip×Int
 | [],bs=>(⟨bs,false,false,0⟩,0)
 | x::l,bs=>if x<0 \/ n<=x then (zChip,1) else newL n l (ze6 bs x.toNat true)
def newT (blocks pages:Int) (bad:List Int):Chip×Int :=
 if blocks<1 \/ 32<blocks \/ pages<1 \/ 16<pages then (zChip,1) else newL blocks bad (List.replicate blocks.toNat ⟨List.replicate pages.toNat z7z,0,0,false⟩)
theorem z0a6 {n:Int} {bad:List Int} (hb:bad.length<4294967296):∀ (l:List Int) (N k:Nat) (i:Int) (bs:List Block),bad.drop k=l->i=k->(bs.length:Int)=n->l.length<N->ze zbm N (n,bad,i,false,false,0,bs)=some (newL n l bs)
 | l,0,_,_,_,_,_,_,h=>by omega
 | [],N+1,k,i,bs,h1,h2,h3,_=>by
   have:=z05 h1;rw [z6,zcl];unfold z6q;simp only [newL];rw [zF (by omega),zD]
 | x::l,N+1,k,i,bs,h1,h2,h3,h4=>by
   obtain ⟨g1,g2,g3⟩:=zw h1;subst h2;rw [z6,zcl];unfold z6q;simp only [Int.toNat_natCast,g2,newL];rw [zT (show (k:Int)<bad.length by omega),zT (show (0:Int)<=k by omega)];simp only [zC];by_cases c1:x<0
   · rw [zT c1,zC,if_pos (.inl c1)];rfl
   · rw [zF c1,zD];by_cases c2:n<=x
     · rw [zT c2,zC,if_pos (.inr c2)];rfl
     · rw [zF c2,zD,if_neg (by omega),zT (show 0<=x by omega),zC,zT (show x<(bs.length:Int) by omega),zC,zT (show x.toNat<bs.length by omega),zC];exact z0a6 hb l N (k+1) _ _ g3 (by rw [zf (by omega) (by omega)];omega) (by unfold ze6;simpa using h3) (by simp at h4;omega)
theorem z0a7 {n p:Int} {bad:List Int} (hb:bad.length<4294967296) (hn:n<=32) (hp:1<=p) (hp2:p<=16) {M:Nat} (hM:bad.length<M):∀ (m N k:Nat) (i:Int),(k:Int)+m=n->i=k->m<N->ze (zbn M) N (n,p,bad,i,false,false,0,List.replicate k ⟨List.replicate p.toNat z7z,0,0,false⟩)=some (newL n bad (List.replicate n.toNat ⟨List.replicate p.toNat z7z,0,0,false⟩))
 | m,0,_,_,_,_,h=>by omega
 | 0,N+1,k,i,h1,h2,_=>by
   rw [z6,zcm];unfold z6r;simp only;rw [zF (by omega),zD,show n.toNat=k by omega];exact z0a6 hb bad M 0 0 _ rfl rfl (by simp;omega) hM
 | m+1,N+1,k,i,h1,h2,h3=>by
   subst h2;rw [z6,zcm];unfold z6r;simp only [zs3];simp only [List.length_replicate];rw [zT (show (k:Int)<n by omega),zT (show 0<=p by omega),zT (show p<=p by omega),zT (show p*40<=70368744177664 by omega),zT (show p<=70368744177664 by omega),zT (show (k+1)*48<=70368744177664 by omega),zT (show k+1<=70368744177664 by omega)];simp only [zC];have e:List.replicate k (Block.mk (List.replicate p.toNat z7z) 0 0 false)++[⟨List.replicate p.toNat (default:Page),0,0,false⟩]=List.replicate (k+1) ⟨List.replicate p.toNat z7z,0,0,false⟩:=by
    rw [List.replicate_succ'];rfl
   rw [e];exact z0a7 hb hn hp hp2 hM m N (k+1) _ (by omega) (by rw [zf (by omega) (by omega)];omega) (by omega)
theorem z00m {n p:Int} {bad:List Int} (hb:bad.length<4294967296):zhz (n,p,bad)=some (newT n p bad):=by
 refine zy (bad.length+34) fun N hN=>?_
 show zd4 N n p bad=_;unfold zd4 newT;by_cases c1:n<1
 · rw [zT c1,zC,if_pos (.inl c1)];rfl
 · rw [zF c1,zD];by_cases c2:32<n
   · rw [zT c2,zC,if_pos (.inr (.inl c2))];rfl
   · rw [zF c2,zD];by_cases c3:p<1
     · rw [zT c3,zC,if_pos (.inr (.inr (.inl c3)))];rfl
     · rw [zF c3,zD];by_cases c4:16<p
       · rw [zT c4,zC,if_pos (.inr (.inr (.inr c4)))];rfl
       · rw [zF c4,zD,if_neg (by omega)];exact z0a7 hb (by omega) (by omega) (by omega) (M:=N) (by omega) n.toNat N 0 0 (by omega) rfl (by omega)
end Clk
namespace Clk
open Go
def z4s (b p:Int):Int:=if b<0 \/ 32<=b \/ p<0 \/ 16<=p then -1 else b*16+p
theorem z8w (b p:Int):z38 (b,p)=some (z4s b p):=by
 show z8d b p=_;unfold z8d z4s;by_cases c1:b<0
 · rw [zT c1,zC,if_pos (.inl c1)]
 · rw [zF c1,zD];by_cases c2:32<=b
   · rw [zT c2,zC,if_pos (.inr (.inl c2))]
   · rw [zF c2,zD];by_cases c3:p<0
     · rw [zT c3,zC,if_pos (.inr (.inr (.inl c3)))]
     · rw [zF c3,zD];by_cases c4:16<=p
       · rw [zT c4,zC,if_pos (.inr (.inr (.inr c4)))]
       · rw [zF c4,zD,if_neg (by omega),zf (n:=b*16) (by omega) (by omega),zf (by omega) (by omega)]
theorem zy3 (b p:Int):z7c (b,p)=some (z4s b p):=z8w b p
def aheadT (a b:Found):Bool:=decide (a.record.seq<b.record.seq)||(decide (a.record.seq=b.record.seq)&&decide (a.place<b.place))
theorem z0c5 (a b:Found):zd1 (a,b)=some (aheadT a b):=by
 show z8e a b=_;unfold z8e aheadT;cases decide (a.record.seq<b.record.seq) <;> cases decide (a.record.seq=b.record.seq) <;> rfl
def insT:List Found->Found->List Found
 | [],f=>[f]
 | x::l,f=>if aheadT f x=true then f::x::l else x::insT l f
theorem zur:∀ (l:List Found) (f:Found),(insT l f).length=l.length+1
 | [],f=>rfl
 | x::l,f=>by
   unfold insT;split
   · rfl
   · simp [zur l f]
theorem z06x {xs:List Found} {f:Found} (hs:xs.length<4294967296):∀ (l:List Found) (N k:Nat) (i:Int) (acc:List Found),xs.drop k=l->i=k->acc.length+l.length<4294967298->l.length<N->ze z6m N (xs,true,i,f,acc)=some (acc++l)
 | l,0,_,_,_,_,_,_,h=>by omega
 | [],N+1,k,i,acc,h1,h2,h3,_=>by
   have:=z05 h1;rw [z6,z3a];unfold z27;simp only [Bool.not_true,zD,List.append_nil];rw [zF (by omega),zD]
 | x::l,N+1,k,i,acc,h1,h2,h3,h4=>by
   obtain ⟨g1,g2,g3⟩:=zw h1;subst h2;simp only [List.length_cons] at h3 h4;rw [z6,z3a];unfold z27;simp only [Int.toNat_natCast,g2,Bool.not_true,zD,List.length_singleton];rw [zT (show (k:Int)<xs.length by omega),zT (show (0:Int)<=k by omega),zT (by omega),zT (by omega)];simp only [zC];rw [z06x hs l N (k+1) _ _ g3 (by rw [zf (by omega) (by omega)];omega) (by simp;omega) (by omega)];simp
theorem z0a8 {xs:List Found} {f:Found} (hs:xs.length<4294967296):∀ (l:List Found) (N k:Nat) (i:Int) (acc:List Found),xs.drop k=l->i=k->acc.length+l.length<4294967296->l.length<N->ze z6m N (xs,false,i,f,acc)=some (acc++insT l f)
 | l,0,_,_,_,_,_,_,h=>by omega
 | [],N+1,k,i,acc,h1,h2,h3,_=>by
   have:=z05 h1;rw [z6,z3a];unfold z27;simp only [Bool.not_false,zC,List.length_singleton,insT];rw [zF (show ¬ i<(xs.length:Int) by omega),zD,zT (by omega),zC,zT (by omega),zC]
 | x::l,N+1,k,i,acc,h1,h2,h3,h4=>by
   obtain ⟨g1,g2,g3⟩:=zw h1;subst h2;simp only [List.length_cons] at h3 h4;rw [z6,z3a];unfold z27;simp only [Int.toNat_natCast,g2,Bool.not_false,List.length_singleton,z0c5,z7,insT,List.length_append];rw [zT (show (k:Int)<xs.length by omega),zT (show (0:Int)<=k by omega)];simp only [zC];cases aheadT f x with
   | true =>
     rw [zC,zT (by omega),zC,zT (by omega),zC,zT (by omega),zC,zT (by omega),zC,if_pos rfl];rw [z06x hs l N (k+1) _ _ g3 (by rw [zf (by omega) (by omega)];omega) (by simp;omega) (by omega)];simp
   | false =>
     rw [zD,zT (by omega),zC,zT (by omega),zC,if_neg (by simp)];rw [z0a8 hs l N (k+1) _ _ g3 (by rw [zf (by omega) (by omega)];omega) (by simp;omega) (by omega)];simp
theorem z0eb {l:List Found} {f:Found} (hs:l.length<4294967296):zhx (l,f)=some (insT l f):=by
 refine zy (l.length+1) fun N hN=>?_
 have:=z0a8 (f:=f) hs l N 0 0 [] rfl rfl (by simpa using hs) (by omega);rw [List.nil_append] at this;exact this
def pagesT (b:Nat):Nat->List Page->List Found->List Found
 | _,[],out=>out
 | p,pg::l,out=>pagesT b (p+1) l (if (lookT pg).1=1 /\ 0<=z4s b p then insT out ⟨z4s b p,(lookT pg).2⟩ else out)
def blocksT:Nat->List Block->List Found->List Found
 | _,[],out=>out
 | b,x::l,out=>blocksT (b+1) l (pagesT b 0 x.pages out)
def allT (c:Chip):List Found:=blocksT 0 c.blocks []
def PagesOk (c:Chip):Prop:=∀ b∈c.blocks,∀ p∈b.pages,PageOk p
theorem zld (b:Nat):∀ (l:List Page) (p:Nat) (out:List Found),out.length<=min (16*b+min p 16) 512->(pagesT b p l out).length<=min (16*(b+1)) 512
 | [],p,out,h=>by
   unfold pagesT;omega
 | pg::l,p,out,h=>by
   unfold pagesT;refine zld b l (p+1) _ ?_;split
   · rename_i hc;have h2:=hc.2;unfold z4s at h2;split at h2
     · omega
     · rw [zur];omega
   · omega
theorem z092 {b p:Nat} (h:0<=z4s b p):b<32 /\ p<16:=by
 unfold z4s at h;split at h <;> omega
theorem z0a9 {ih0:List Found×Int×Chip->Option (List Found)} {c:Chip} (hc:z0g c) (hp:PagesOk c) {b:Nat} (hb:b<c.blocks.length) {bi:Int} (hbi:bi=b):∀ (l:List Page) (N p:Nat) (i:Int) (out:List Found),(c.blocks.getD b default).pages.drop p=l->i=p->out.length<=min (16*b+min p 16) 512->l.length<N->ze (zbj ih0) N (out,bi,i,c)=ih0 (pagesT b p l out,((b+1:Nat):Int),c)
 | l,0,_,_,_,_,_,_,h=>by omega
 | [],N+1,p,i,out,h1,h2,h3,_=>by
   have h4:=z05 h1;have h5:=hc.1;subst hbi;rw [z6,zcj];unfold z6n;simp only [Int.toNat_natCast,pagesT];rw [zT (show (0:Int)<=b by omega),zT (show (b:Int)<c.blocks.length by omega),zF (show ¬ i<((c.blocks.getD b default).pages.length:Int) by omega),zf (n:=(b:Int)+1) (by omega) (by omega)];rfl
 | pg::l,N+1,p,i,out,h1,h2,h3,h4=>by
   obtain ⟨g1,g2,g3⟩:=zw h1;have h5:=hc.1;have h6:=hc.get hb default;subst hbi;subst h2;have hpg:PageOk pg:=by
    have:=hp _ (zr (d:=default) hb) pg;apply this
    rw [<- g2 default];exact zr g1
   have e1:w64 ((p:Int)+1)=((p+1:Nat):Int):=by rw [zf (by omega) (by omega)];rfl
   have hol:out.length<4294967296:=by omega
   rw [z6,zcj];unfold z6n;simp only [Int.toNat_natCast,g2,zy0 hpg,z7,z8w,z0eb hol,e1];rw [zT (show (0:Int)<=b by omega),zT (show (b:Int)<c.blocks.length by omega),zT (show (p:Int)<((c.blocks.getD b default).pages.length:Int) by omega),zT (show (0:Int)<=p by omega)];simp only [zC];have ih:=fun out' h=>z0a9 (ih0:=ih0) hc hp hb (rfl:(b:Int)=b) l N (p+1) _ out' g3 rfl h (by simp at h4;omega)
   rw [pagesT];by_cases c1:(lookT pg).1=1
   · rw [zT c1,zC];by_cases c2:0<=z4s b p
     · have:=z092 c2;rw [zT c2,zC,if_pos ⟨c1,c2⟩];exact ih _ (by rw [zur];omega)
     · rw [zF c2,zD,if_neg (fun h=>c2 h.2)];exact ih _ (by omega)
   · rw [zF c1,zD,if_neg (fun h=>c1 h.1)];exact ih _ (by omega)
theorem z0aa {c:Chip} (hc:z0g c) (hp:PagesOk c) {M:Nat} (hM:4294967296<M):∀ (l:List Block) (N b:Nat) (i:Int) (out:List Found),c.blocks.drop b=l->i=b->out.length<=min (16*b) 512->l.length<N->ze (zbk M) N (out,i,c)=some (blocksT b l out)
 | l,0,_,_,_,_,_,_,h=>by omega
 | [],N+1,b,i,out,h1,h2,h3,_=>by
   have h4:=z05 h1;rw [z6,zck];unfold z6o;simp only [blocksT];rw [zF (by omega),zD]
 | x::l,N+1,b,i,out,h1,h2,h3,h4=>by
   obtain ⟨g1,g2,g3⟩:=zw h1;have h6:=hc.get g1 default;subst h2;rw [z6,zck];unfold z6o;simp only [blocksT];rw [zT (show (b:Int)<c.blocks.length by omega),zC,z0a9 hc hp g1 rfl _ M 0 0 out rfl rfl (by omega) (by rw [List.drop_zero];omega),List.drop_zero,g2];rw [g2] at h6;exact z0aa hc hp hM l N (b+1) _ _ g3 rfl (zld b _ 0 out (by omega)) (by simp at h4;omega)
theorem z0ec {c:Chip} (hc:z0g c) (hp:PagesOk c):zhy c=some (allT c):=by
 have:=hc.1;refine zy 4294967297 fun N hN=>?_
 exact z0aa hc hp (by omega) c.blocks N 0 0 [] rfl rfl (by simp) (by omega)
theorem zpq:∀ (l:List Block) (b:Nat) (out:List Found),out.length<=min (16*b) 512->(blocksT b l out).length<=512
 | [],b,out,h=>by unfold blocksT;omega
 | x::l,b,out,h=>by
   unfold blocksT;exact zpq l (b+1) _ (zld b _ 0 out (by omega))
theorem z093 (c:Chip):(allT c).length<=512:=zpq _ 0 [] (by simp)
def tabT (n:Int):Table:=⟨List.replicate (min n.toNat 64) (-1),List.replicate (min n.toNat 64) (-1)⟩
theorem zy4 {n:Int}:∀ (m N k:Nat) (i:Int),k+m=min n.toNat 64->i=k->m<N->ze zbd N (n,i,List.replicate k (-1),List.replicate k (-1))=some (tabT n)
 | m,0,_,_,_,_,h=>by omega
 | 0,N+1,k,i,h1,h2,_=>by
   rw [z6,zch];unfold z6f tabT;simp only;rw [show k=min n.toNat 64 by omega];by_cases c1:i<n
   · rw [zT c1,zC,zF (by omega),zD]
   · rw [zF c1,zD]
 | m+1,N+1,k,i,h1,h2,h3=>by
   subst h2;rw [z6,zch];unfold z6f;simp only [List.length_replicate,List.length_singleton];rw [zT (show (k:Int)<n by omega),zT (show (k:Int)<64 by omega),zT (by omega),zT (by omega)];simp only [zC];rw [<- List.replicate_succ'];exact zy4 m N (k+1) _ (by omega) (by rw [zf (by omega) (by omega)];omega) (by omega)
theorem z00n (n:Int):zhu n=some (tabT n):=by
 refine zy 65 fun N hN=>?_
 exact zy4 (min n.toNat 64) N 0 0 (by omega) rfl (by omega)
def TabOk (t:Table):Prop:=t.map.length<4294967296 /\ t.by_.length<4294967296
def app1 (f:Found) (i:Nat) (k:Int) (t:Table):Table :=
 if 0<=k /\ k<t.map.length /\ k<t.by_.length then
  if f.record.kind=1 then ⟨t.map.set k.toNat f.place,t.by_.set k.toNat f.place⟩
  else if f.record.kind=2 /\ i<f.record.values.length then ⟨t.map.set k.toNat (f.record.values.getD i 0),t.by_.set k.toNat f.place⟩
  else t
 else t
def appL (f:Found):Nat->List Int->Table->Table
 | _,[],t=>t
 | i,k::l,t=>appL f (i+1) l (app1 f i k t)
def applyT (t:Table) (f:Found):Table:=appL f 0 f.record.keys t
theorem z094 (f:Found) (i:Nat) (k:Int) (t:Table):(app1 f i k t).map.length=t.map.length /\ (app1 f i k t).by_.length=t.by_.length:=by
 unfold app1;split
 · split
   · simp
   · split <;> simp
 · simp
theorem z029 (f:Found):∀ (l:List Int) (i:Nat) (t:Table),(appL f i l t).map.length=t.map.length /\ (appL f i l t).by_.length=t.by_.length
 | [],i,t=>⟨rfl,rfl⟩
 | k::l,i,t=>by
   unfold appL;obtain ⟨h1,h2⟩:=z029 f l (i+1) (app1 f i k t);obtain ⟨h3,h4⟩:=z094 f i k t;exact ⟨h1.trans h3,h2.trans h4⟩
theorem z047 (t:Table) (f:Found):(applyT t f).map.length=t.map.length /\ (applyT t f).by_.length=t.by_.length:=z029 f _ 0 t
theorem z02a {f:Found} (hk:f.record.keys.length<4294967296) (hv:f.record.values.length<4294967296):∀ (l:List Int) (N i:Nat) (ii:Int) (t:Table),f.record.keys.drop i=l->ii=i->TabOk t->l.length<N->ze z7n N (ii,f,t.map,t.by_)=some (appL f i l t)
 | l,0,_,_,_,_,_,_,h=>by omega
 | [],N+1,i,ii,t,h1,h2,h3,_=>by
   have h4:=z05 h1;rw [z6,z99];unfold z40;simp only [appL];rw [zF (by omega),zD]
 | k::l,N+1,i,ii,t,h1,h2,h3,h4=>by
   obtain ⟨g1,g2,g3⟩:=zw h1;subst h2;have e1:w64 ((i:Int)+1)=((i+1:Nat):Int):=by rw [zf (by omega) (by omega)];rfl
   have ih:=fun t' h=>z02a hk hv l N (i+1) _ t' g3 rfl h (by simp at h4;omega)
   have ihs:=ih t h3;rw [z6,z99];unfold z40;simp only [Int.toNat_natCast,g2,e1,appL];rw [zT (show (i:Int)<f.record.keys.length by omega),zT (show (0:Int)<=i by omega)];simp only [zC];unfold app1;by_cases c1:k<0
   · rw [zT c1,zC,if_neg (by omega)];exact ihs
   · rw [zF c1,zD];by_cases c2:(t.map.length:Int)<=k
     · rw [zT c2,zC,if_neg (by omega)];exact ihs
     · rw [zF c2,zD];by_cases c3:(t.by_.length:Int)<=k
       · rw [zT c3,zC,if_neg (by omega)];exact ihs
       · rw [zF c3,zD,if_pos (by omega),zT (show 0<=k by omega),zT (show k<t.map.length by omega),zT (show k.toNat<t.map.length by omega),zT (show k<t.by_.length by omega),zT (show k.toNat<t.by_.length by omega)];simp only [zC];by_cases c4:f.record.kind=1
         · rw [zT c4,zC,if_pos c4];exact ih ⟨t.map.set k.toNat f.place,t.by_.set k.toNat f.place⟩ ⟨by simpa using h3.1,by simpa using h3.2⟩
         · rw [zF c4,zD,if_neg c4];by_cases c5:f.record.kind=2
           · rw [zT c5,zC];by_cases c6:i<f.record.values.length
             · rw [zT (show (i:Int)<f.record.values.length by omega),zC,zC,if_pos ⟨c5,c6⟩];exact ih ⟨t.map.set k.toNat (f.record.values.getD i 0),t.by_.set k.toNat f.place⟩ ⟨by simpa using h3.1,by simpa using h3.2⟩
             · rw [zF (show ¬ (i:Int)<f.record.values.length by omega),zD,if_neg (fun h=>c6 h.2)];exact ihs
           · rw [zF c5,zD,if_neg (fun h=>c5 h.1)];exact ihs
theorem zk9 {t:Table} {f:Found} (ht:TabOk t) (hr:RecOk f.record):z35 (t,f)=some (applyT t f):=by
 have h1:=ht.1;have h2:=ht.2;have h3:=hr.1;refine zy 4294967297 fun N hN=>?_
 show z8b N t f=_;unfold z8b;rw [zT (by omega),zC,zT (by omega),zC,zT (by omega),zC,zT (by omega),zC];exact z02a h3 hr.2 _ N 0 0 t rfl rfl ht (by omega)
end Clk
namespace Clk
open Go
def repL:List Found->Table->Int->Table×Int
 | [],t,s=>(t,s)
 | f::l,t,s=>repL l (applyT t f) (max s (w64 (f.record.seq+1)))
def replayT (c:Chip) (n:Int):Table×Int:=repL (allT c) (tabT n) 0
def zb9 (l:List Found):Prop:=∀ f∈l,RecOk f.record
theorem zg8 {s:Str} (h:s.length<4294967296):(zx s).1.length<4294967296 /\ (zx s).2.1.length<4294967296:=by
 have:=ze3 s;omega
theorem z0c6 {tag data:Str} (h:tag.length<4294967296):RecOk (decT tag data).1:=by
 obtain ⟨h1,h2⟩:=zg8 h;obtain ⟨h3,h4⟩:=zg8 h2;obtain ⟨h5,h6⟩:=zg8 h4;unfold decT;split
 · exact ⟨by simp [zRec],by simp [zRec]⟩
 · split
   · exact ⟨by simp [zRec],by simp [zRec]⟩
   · exact ⟨h3,by simp only [mvT,List.length_map];exact h5⟩
theorem z095 {p:Page} (h:PageOk p):RecOk (lookT p).2:=by
 unfold lookT;split
 · exact ⟨by simp [zRec],by simp [zRec]⟩
 · split
   · exact ⟨by simp [zRec],by simp [zRec]⟩
   · exact z0c6 h.1
theorem z06y:∀ {l:List Found} {f:Found},zb9 l->RecOk f.record->zb9 (insT l f)
 | [],f,_,h=>by intro g hg;simp [insT] at hg;subst hg;exact h
 | x::l,f,h1,h2=>by
   unfold insT;split
   · intro g hg;rcases List.mem_cons.1 hg with rfl | hg
     · exact h2
     · exact h1 g hg
   · intro g hg;rcases List.mem_cons.1 hg with rfl | hg
     · exact h1 _ List.mem_cons_self
     · exact z06y (fun g hg=>h1 g (List.mem_cons_of_mem _ hg)) h2 g hg
theorem zy5 (b:Nat):∀ (l:List Page) (p:Nat) (out:List Found),(∀ pg∈l,PageOk pg)->zb9 out->zb9 (pagesT b p l out)
 | [],p,out,_,h=>h
 | pg::l,p,out,h1,h2=>by
   unfold pagesT;refine zy5 b l (p+1) _ (fun q hq=>h1 q (List.mem_cons_of_mem _ hq)) ?_;split
   · exact z06y h2 (z095 (h1 pg List.mem_cons_self))
   · exact h2
theorem zs6:∀ (l:List Block) (b:Nat) (out:List Found),(∀ x∈l,∀ p∈x.pages,PageOk p)->zb9 out->zb9 (blocksT b l out)
 | [],b,out,_,h=>h
 | x::l,b,out,h1,h2=>by
   unfold blocksT;exact zs6 l (b+1) _ (fun y hy=>h1 y (List.mem_cons_of_mem _ hy)) (zy5 b _ 0 out (h1 x List.mem_cons_self) h2)
theorem z0c7 {c:Chip} (h:PagesOk c):zb9 (allT c):=zs6 _ 0 [] h (fun _ h=>by cases h)
theorem zy6 {xs:List Found} (hs:xs.length<4294967296) (hf:zb9 xs):∀ (l:List Found) (N k:Nat) (i s:Int) (t:Table),xs.drop k=l->i=k->TabOk t->l.length<N->ze z69 N (xs,s,i,t)=some (repL l t s)
 | l,0,_,_,_,_,_,_,_,h=>by omega
 | [],N+1,k,i,s,t,h1,h2,h3,_=>by
   have:=z05 h1;rw [z6,z85];unfold z3b;simp only [repL];rw [zF (by omega),zD]
 | f::l,N+1,k,i,s,t,h1,h2,h3,h4=>by
   obtain ⟨g1,g2,g3⟩:=zw h1;subst h2;have hr:RecOk f.record:=by rw [<- g2 default];exact hf _ (zr g1)
   obtain ⟨h5,h6⟩:=z047 t f;have h7:=h3.1;have h8:=h3.2;rw [z6,z85];unfold z3b;simp only [Int.toNat_natCast,g2,repL,zk9 h3 hr,z7];rw [zT (show (k:Int)<xs.length by omega),zT (show (0:Int)<=k by omega)];simp only [zC];exact zy6 hs hf l N (k+1) _ _ _ g3 (by rw [zf (by omega) (by omega)];omega) ⟨by omega,by omega⟩ (by simp at h4;omega)
theorem z0c8 (n:Int):TabOk (tabT n):=⟨by simp [tabT];omega,by simp [tabT];omega⟩
theorem z096 {c:Chip} (hc:z0g c) (hp:PagesOk c) (n:Int):zbl (c,n)=some (replayT c n):=by
 have:=z093 c;refine zy 4294967297 fun N hN=>?_
 show z6p N c n=_;unfold z6p;rw [z00n,z7,z0ec hc hp,z7];exact zy6 (by omega) (z0c7 hp) _ N 0 0 0 _ rfl rfl (z0c8 n) (by omega)
def whL (n:Int):Nat->List Int->List Int
 | _,[]=>[]
 | i,x::l=>if x=n then (i:Int)::whL n (i+1) l else whL n (i+1) l
def whichT (l:List Int) (n:Int):List Int:=if 0<=n then whL n 0 l else []
theorem zus {xs:List Int} {n:Int} (hn:0<=n) (hs:xs.length<4294967296):∀ (l:List Int) (N k:Nat) (i:Int) (acc:List Int),xs.drop k=l->i=k->acc.length<=k->l.length<N->ze z7q N (xs,n,i,acc)=some (acc++whL n k l)
 | l,0,_,_,_,_,_,_,h=>by omega
 | [],N+1,k,i,acc,h1,h2,h3,_=>by
   have:=z05 h1;rw [z6,z4l];unfold z1z;simp only [whL,List.append_nil];rw [zF (by omega),zD]
 | x::l,N+1,k,i,acc,h1,h2,h3,h4=>by
   obtain ⟨g1,g2,g3⟩:=zw h1;subst h2;have e1:w64 ((k:Int)+1)=((k+1:Nat):Int):=by rw [zf (by omega) (by omega)];rfl
   rw [z6,z4l];unfold z1z;simp only [Int.toNat_natCast,g2,whL,e1,List.length_singleton];rw [zT (show (k:Int)<xs.length by omega),zT (show (0:Int)<=k by omega),zT hn];simp only [zC];by_cases c:x=n
   · rw [zT c,zC,if_pos c,zT (by omega),zC,zT (by omega),zC];rw [zus hn hs l N (k+1) _ _ g3 rfl (by simp;omega) (by simp at h4;omega)];simp
   · rw [zF c,zD,if_neg c];exact zus hn hs l N (k+1) _ _ g3 rfl (by omega) (by simp at h4;omega)
theorem z06z {l:List Int} {n:Int} (hs:l.length<4294967296):z8p (l,n)=some (whichT l n):=by
 refine zy 4294967297 fun N hN=>?_
 show z8o N l n=_;unfold z8o whichT;by_cases hn:0<=n
 · rw [if_pos hn];have:=zus hn hs l N 0 0 [] rfl rfl (by simp) (by omega);rw [List.nil_append] at this;exact this
 · rw [if_neg hn];obtain ⟨M,rfl⟩:∃ M,N=M+1:=⟨N - 1,by omega⟩;rw [z6,z4l];unfold z1z;simp only [zF hn,zD];cases decide ((0:Int)<(l.length:Int)) <;> rfl
def z0q (t:Table) (p:Int):List Int:=whichT t.map p
def z80 (t:Table) (p:Int):List Int:=whichT t.by_ p
theorem zna {t:Table} (h:TabOk t) (p:Int):z3x (t,p)=some (z0q t p):=by
 show z6w t p=_;unfold z6w;rw [z06z h.1];rfl
theorem z0ab {t:Table} (h:TabOk t) (p:Int):z7d (t,p)=some (z80 t p):=by
 show zay t p=_;unfold zay;rw [z06z h.2];rfl
def liveT (t:Table) (p:Int):Bool:=decide (0<(z0q t p).length)||decide (0<(z80 t p).length)
theorem z070 (a b:Nat):decide ((a:Int)<(b:Int))=decide (a<b):=by rw [Bool.eq_iff_iff];simp
theorem z0dd {t:Table} (h:TabOk t) (p:Int):zez (t,p)=some (liveT t p):=by
 show zaz t p=_;unfold zaz liveT;rw [zna h,z7,z0ab h,z7,show (0:Int)=((0:Nat):Int) from rfl,z070,z070];cases decide (0<(z0q t p).length) <;> rfl
def anyW:List Page->Bool
 | []=>false
 | p::l=>p.written||anyW l
def fcT (bl:Block) (l:List Page):Int:=cond (anyW l) 2 (if bl.next=0 then 0 else 2)
def z0h (c:Chip) (opn b:Int):Int :=
 if b<0 \/ (c.blocks.length:Int)<=b then 3
 else if (c.blocks.getD b.toNat default).bad=true then 3
 else if b=opn /\ 0<=(c.blocks.getD b.toNat default).next /\ (c.blocks.getD b.toNat default).next<(c.blocks.getD b.toNat default).pages.length then 1
 else fcT (c.blocks.getD b.toNat default) (c.blocks.getD b.toNat default).pages
theorem z02b {bl:Block} (hs:bl.pages.length<4294967296):∀ (l:List Page) (N k:Nat) (i:Int),bl.pages.drop k=l->i=k->l.length<N->ze z1y N (i,bl)=some (fcT bl l)
 | l,0,_,_,_,_,h=>by omega
 | [],N+1,k,i,h1,h2,_=>by
   have:=z05 h1;rw [z6,z9j];unfold z4a;simp only [fcT,anyW,zD];rw [zF (by omega),zD];by_cases c:bl.next=0
   · rw [zT c,zC,if_pos c]
   · rw [zF c,zD,if_neg c]
 | p::l,N+1,k,i,h1,h2,h3=>by
   obtain ⟨g1,g2,g3⟩:=zw h1;subst h2;rw [z6,z9j];unfold z4a;simp only [Int.toNat_natCast,g2,fcT,anyW];rw [zT (show (k:Int)<bl.pages.length by omega),zT (show (0:Int)<=k by omega)];simp only [zC];cases p.written with
   | true=>rfl
   | false =>
     rw [zD,Bool.false_or];exact z02b hs l N (k+1) _ g3 (by rw [zf (by omega) (by omega)];omega) (by simp at h3;omega)
theorem z5x {c:Chip} (hc:z0g c) (o b:Int):z3e (c,o,b)=some (z0h c o b):=by
 refine zy 4294967297 fun N hN=>?_
 show z8m N c o b=_;unfold z8m z0h;by_cases c1:b<0
 · rw [zT c1,zC,if_pos (.inl c1)]
 · rw [zF c1,zD];by_cases c2:(c.blocks.length:Int)<=b
   · rw [zT c2,zC,if_pos (.inr c2)]
   · have hb:=hc.get (show b.toNat<c.blocks.length by omega) default;rw [zF c2,zD,if_neg (by omega),zT (show 0<=b by omega),zT (show b<c.blocks.length by omega)];simp only [zC];cases c3:(c.blocks.getD b.toNat default).bad with
     | true=>rfl
     | false =>
       rw [zD,if_neg (by simp),z02b hb _ N 0 0 rfl rfl (by rw [List.drop_zero];omega),List.drop_zero];generalize fcT (c.blocks.getD b.toNat default) (c.blocks.getD b.toNat default).pages=X;by_cases c4:b=o
       · rw [zT c4,zC];by_cases c5:0<=(c.blocks.getD b.toNat default).next
         · rw [zT c5,zC];by_cases c6:(c.blocks.getD b.toNat default).next<(c.blocks.getD b.toNat default).pages.length
           · rw [zT c6,zC,if_pos ⟨c4,c5,c6⟩]
           · rw [zF c6,zD,if_neg (fun h=>c6 h.2.2)]
         · rw [zF c5,zD,if_neg (fun h=>c5 h.2.1)]
       · rw [zF c4,zD,if_neg (fun h=>c4 h.1)]
theorem zy7 {xs:List Page} (hs:xs.length<4294967296):∀ (l:List Page) (N k:Nat) (i:Int),xs.drop k=l->i=k->l.length<N->ze z1j N (xs,(xs.length:Int),i)=some (cond (anyW l) 2 0)
 | l,0,_,_,_,_,h=>by omega
 | [],N+1,k,i,h1,h2,_=>by
   have:=z05 h1;rw [z6,z87];unfold z3f;simp only [anyW,zD];rw [zF (by omega),zD]
 | p::l,N+1,k,i,h1,h2,h3=>by
   obtain ⟨g1,g2,g3⟩:=zw h1;subst h2;rw [z6,z87];unfold z3f;simp only [Int.toNat_natCast,g2,anyW];rw [zT (show (k:Int)<xs.length by omega),zT (show (0:Int)<=k by omega)];simp only [zC];cases p.written with
   | true=>rfl
   | false =>
     rw [zD,Bool.false_or];exact zy7 hs l N (k+1) _ g3 (by rw [zf (by omega) (by omega)];omega) (by simp at h3;omega)
theorem z72 {c:Chip} (hc:z0g c) (o b:Int):z3w (c,o,b)=some (z0h c o b):=by
 refine zy 4294967297 fun N hN=>?_
 show z6t N c o b=_;unfold z6t z0h;by_cases c1:b<0
 · rw [zT c1,zC,if_pos (.inl c1)]
 · rw [zF c1,zD];by_cases c2:(c.blocks.length:Int)<=b
   · rw [zT c2,zC,if_pos (.inr c2)]
   · have hb:=hc.get (show b.toNat<c.blocks.length by omega) default;rw [zF c2,zD,if_neg (by omega),zT (show 0<=b by omega),zT (show b<c.blocks.length by omega)];simp only [zC];cases c3:(c.blocks.getD b.toNat default).bad with
     | true=>rfl
     | false =>
       rw [zD,if_neg (by simp),zy7 hb _ N 0 0 rfl rfl (by rw [List.drop_zero];omega),List.drop_zero];have hk:cond (!decide ((c.blocks.getD b.toNat default).next=0)) (some (2:Int)) (some (cond (anyW (c.blocks.getD b.toNat default).pages) 2 0))=some (fcT (c.blocks.getD b.toNat default) (c.blocks.getD b.toNat default).pages):=by
        unfold fcT;by_cases c7:(c.blocks.getD b.toNat default).next=0
        · rw [zT c7,Bool.not_true,zD,if_pos c7]
        · rw [zF c7,Bool.not_false,zC,if_neg c7];cases anyW (c.blocks.getD b.toNat default).pages <;> rfl
       rw [hk];generalize fcT (c.blocks.getD b.toNat default) (c.blocks.getD b.toNat default).pages=X;by_cases c4:b=o
       · rw [zT c4,zC];by_cases c5:0<=(c.blocks.getD b.toNat default).next
         · rw [zT c5,zC];by_cases c6:(c.blocks.getD b.toNat default).next<(c.blocks.getD b.toNat default).pages.length
           · rw [zT c6,zC,if_pos ⟨c4,c5,c6⟩]
           · rw [zF c6,zD,if_neg (fun h=>c6 h.2.2)]
         · rw [zF c5,zD,if_neg (fun h=>c5 h.2.1)]
       · rw [zF c4,zD,if_neg (fun h=>c4 h.1)]
def pickL (c:Chip) (o:Int):Nat->List Block->Int->Int
 | _,[],best=>best
 | i,x::l,best=>pickL c o (i+1) l (if z0h c o i=0 /\ (best<0 \/ x.erases<(c.blocks.getD best.toNat default).erases) then (i:Int) else best)
def pickT (c:Chip) (o:Int):Int:=pickL c o 0 c.blocks (-1)
theorem z071 {c:Chip} (hc:z0g c) {o:Int}:∀ (l:List Block) (N k:Nat) (i best:Int),c.blocks.drop k=l->i=k->best<k->l.length<N->ze z9k N (o,best,i,c)=some (pickL c o k l best)
 | l,0,_,_,_,_,_,_,h=>by omega
 | [],N+1,k,i,best,h1,h2,h3,_=>by
   have:=z05 h1;rw [z6,zas];unfold z58;simp only [pickL];rw [zF (by omega),zD]
 | x::l,N+1,k,i,best,h1,h2,h3,h4=>by
   obtain ⟨g1,g2,g3⟩:=zw h1;have hl:=hc.1;subst h2;have e1:w64 ((k:Int)+1)=((k+1:Nat):Int):=by rw [zf (by omega) (by omega)];rfl
   have ih:=fun b hb=>z071 hc (o:=o) l N (k+1) _ b g3 rfl hb (by simp at h4;omega)
   rw [z6,zas];unfold z58;simp only [Int.toNat_natCast,g2,pickL,e1,z5x hc,z7];rw [zT (show (k:Int)<c.blocks.length by omega),zC,ih best (by omega),ih k (by omega)];by_cases c1:z0h c o k=0
   · rw [zT c1,zC];by_cases c2:best<0
     · rw [zT c2,zC,if_pos ⟨c1,.inl c2⟩]
     · rw [zF c2,zD,zT (show (0:Int)<=k by omega),zT (show 0<=best by omega),zT (show best<c.blocks.length by omega)];simp only [zC];by_cases c3:x.erases<(c.blocks.getD best.toNat default).erases
       · rw [zT c3,zC,if_pos ⟨c1,.inr c3⟩]
       · rw [zF c3,zD,if_neg (by rintro ⟨_,h | h⟩;exact c2 h;exact c3 h)]
   · rw [zF c1,zD,if_neg (fun h=>c1 h.1)]
theorem zy8 {c:Chip} (hc:z0g c) (o:Int):zex (c,o)=some (pickT c o):=by
 have:=hc.1;refine zy 4294967297 fun N hN=>?_
 exact z071 hc c.blocks N 0 0 (-1) rfl rfl (by omega) (by omega)
def restT (c:Chip) (o:Int):Int:=if z0h c o o=1 then (c.blocks.getD o.toNat default).pages.length - (c.blocks.getD o.toNat default).next else 0
theorem state1 {c:Chip} {o b:Int} (h:z0h c o b=1):0<=b /\ b<c.blocks.length /\ (c.blocks.getD b.toNat default).bad=false /\ b=o /\ 0<=(c.blocks.getD b.toNat default).next /\ (c.blocks.getD b.toNat default).next<(c.blocks.getD b.toNat default).pages.length:=by
 unfold z0h at h;split at h
 · omega
 · split at h
   · omega
   · rename_i h1 h2;split at h
     · rename_i h3;exact ⟨by omega,by omega,by simpa using h2,h3⟩
     · unfold fcT at h;cases hx:anyW (c.blocks.getD b.toNat default).pages with
       | true=>rw [hx] at h;cases h
       | false =>
         rw [hx,zD] at h;split at h <;> omega
theorem zy9 {c:Chip} (hc:z0g c) (o:Int):z7a (c,o)=some (restT c o):=by
 have hl:=hc.1;show zar c o=_;unfold zar restT;by_cases h:z0h c o o=1
 · obtain ⟨h1,h2,h3,_,h4,h5⟩:=state1 h;have hb:=hc.get (show o.toNat<c.blocks.length by omega) default;rw [if_pos h,zF (show ¬ o<0 by omega),zD,zF (show ¬ (c.blocks.length:Int)<=o by omega),zD,z5x hc,z7,h,zT h1,zT h2,zf (by omega) (by omega)];rfl
 · rw [if_neg h];by_cases c1:o<0
   · rw [zT c1,zC]
   · rw [zF c1,zD];by_cases c2:(c.blocks.length:Int)<=o
     · rw [zT c2,zC]
     · rw [zF c2,zD,z5x hc,z7,zF h,Bool.not_false,zC]
theorem zut {c:Chip} (hc:z0g c) (o:Int):z59 (c,o)=some (restT c o):=by
 have hl:=hc.1;show z8n c o=_;unfold z8n restT;by_cases h:z0h c o o=1
 · obtain ⟨h1,h2,h3,_,h4,h5⟩:=state1 h;have hb:=hc.get (show o.toNat<c.blocks.length by omega) default;rw [if_pos h,zF (show ¬ o<0 by omega),zD,z72 hc,z7,h,zT h1,zT h2,zf (by omega) (by omega)];rfl
 · rw [if_neg h];by_cases c1:o<0
   · rw [zT c1,zC]
   · rw [zF c1,zD,z72 hc,z7,zF h,Bool.not_false,zC]
theorem znb {c:Chip} {o:Int} (h:restT c o≠0):z0h c o o=1 /\ 0<=o /\ o<c.blocks.length:=by
 unfold restT at h;split at h
 · rename_i h1;obtain ⟨h2,h3,_⟩:=state1 h1;exact ⟨h1,h2,h3⟩
 · exact absurd rfl h
def fitsT (g:Geometry):Bool :=
 decide (1<=g.blocks)&&decide (g.blocks<=32)&&decide (2<=g.pages)&&decide (g.pages<=16)&&decide (1<=g.sectors)&&decide (g.sectors<=64)&&decide (0<=g.spare)&&decide (g.spare<=32)&&decide (2*g.sectors<(g.blocks - 2*g.spare - 3)*g.pages)
theorem z0ac (g:Geometry):zaj g=some (fitsT g):=by
 show zai g=_;unfold zai fitsT;by_cases c1:1<=g.blocks
 · by_cases c2:g.blocks<=32
   · by_cases c3:2<=g.pages
     · by_cases c4:g.pages<=16
       · by_cases c5:1<=g.sectors
         · by_cases c6:g.sectors<=64
           · by_cases c7:0<=g.spare
             · by_cases c8:g.spare<=32
               · have hm : -16000<=(g.blocks - 2*g.spare - 3)*g.pages /\ (g.blocks - 2*g.spare - 3)*g.pages<=16000:=by
                  have h1 : -100<=g.blocks - 2*g.spare - 3:=by omega
                  have h2:g.blocks - 2*g.spare - 3<=100:=by omega
                  generalize g.blocks - 2*g.spare - 3=x at h1 h2;constructor
                  · have:=Int.mul_le_mul_of_nonneg_right h1 (show 0<=g.pages by omega);omega
                  · have:=Int.mul_le_mul_of_nonneg_right h2 (show 0<=g.pages by omega);omega
                 rw [zf (n:=2*g.sectors) (by omega) (by omega),zf (n:=2*g.spare) (by omega) (by omega),zf (n:=g.blocks - 2*g.spare) (by omega) (by omega),zf (n:=g.blocks - 2*g.spare - 3) (by omega) (by omega),zf (n:=(g.blocks - 2*g.spare - 3)*g.pages) (by omega) (by omega)];simp only [zT c1,zT c2,zT c3,zT c4,zT c5,zT c6,zT c7,zT c8,zC,Bool.true_and]
               · simp [c1,c2,c3,c4,c5,c6,c7,c8]
             · simp [c1,c2,c3,c4,c5,c6,c7]
           · simp [c1,c2,c3,c4,c5,c6]
         · simp [c1,c2,c3,c4,c5]
       · simp [c1,c2,c3,c4]
     · simp [c1,c2,c3]
   · simp [c1,c2]
 · simp [c1]
def badsL:List Block->Int
 | []=>0
 | b::l=>(if b.bad=true then 1 else 0)+badsL l
def badsT (c:Chip):Int:=badsL c.blocks
theorem z02c:∀ (l:List Block),0<=badsL l /\ badsL l<=l.length
 | []=>by simp [badsL]
 | b::l=>by have:=z02c l;unfold badsL;simp only [List.length_cons];split <;> omega
theorem z072 {c:Chip} (hc:z0g c):∀ (l:List Block) (N k:Nat) (i s:Int),c.blocks.drop k=l->i=k->0<=s->s<=k->l.length<N->ze z9n N (s,i,c)=some (s+badsL l)
 | l,0,_,_,_,_,_,_,_,h=>by omega
 | [],N+1,k,i,s,h1,h2,h3,h4,_=>by
   have:=z05 h1;rw [z6,zaw];unfold z5b;simp only [badsL,Int.add_zero];rw [zF (by omega),zD]
 | x::l,N+1,k,i,s,h1,h2,h3,h4,h5=>by
   obtain ⟨g1,g2,g3⟩:=zw h1;have hl:=hc.1;subst h2;have e1:w64 ((k:Int)+1)=((k+1:Nat):Int):=by rw [zf (by omega) (by omega)];rfl
   have ih:=fun s' h h'=>z072 hc l N (k+1) _ s' g3 rfl h h' (by simp at h5;omega)
   rw [z6,zaw];unfold z5b;simp only [Int.toNat_natCast,g2,badsL,e1];rw [zT (show (k:Int)<c.blocks.length by omega),zT (show (0:Int)<=k by omega)];simp only [zC];cases hb:x.bad with
   | true=>rw [zC,if_pos rfl,zf (n:=s+1) (by omega) (by omega),ih (s+1) (by omega) (by omega)];congr 1;omega
   | false=>rw [zD,if_neg (by simp),ih s (by omega) (by omega)];congr 1;omega
theorem z0ad {c:Chip} (hc:z0g c):zax c=some (badsT c):=by
 have:=hc.1;refine zy 4294967297 fun N hN=>?_
 have:=z072 hc c.blocks N 0 0 0 rfl rfl (by omega) (by omega) (by omega);rw [Int.zero_add] at this;exact this
def zDev:Device:=⟨⟨0,0,0,0⟩,⟨[],false,false,0⟩,⟨[],[]⟩,0,0⟩
def mtL (g:Geometry):Nat->List Block->Int->Option Int
 | _,[],o=>some o
 | i,b::l,o=>if (b.pages.length:Int)≠g.pages then none else mtL g (i+1) l (if o<0 /\ b.bad=false /\ 0<b.next /\ b.next<g.pages then (i:Int) else o)
def mountT (g:Geometry) (c:Chip):Device×Int :=
 if fitsT g=false \/ (c.blocks.length:Int)≠g.blocks then (zDev,1)
 else match mtL g 0 c.blocks (-1) with
  | none=>(zDev,1)
  | some o=>(⟨g,onT c,(replayT c g.sectors).1,(replayT c g.sectors).2,o⟩,0)
theorem z02d {g:Geometry} {c:Chip} (hc:z0g c) (hp:PagesOk c):∀ (l:List Block) (N k:Nat) (i o:Int),c.blocks.drop k=l->i=k->l.length<N->ze z7p N (o,i,g,c)=some (match mtL g k l o with
 | none=>(zDev,1)
 | some o=>(⟨g,onT c,(replayT c g.sectors).1,(replayT c g.sectors).2,o⟩,0))
 | l,0,_,_,_,_,_,h=>by omega
 | [],N+1,k,i,o,h1,h2,_=>by
   have:=z05 h1;rw [z6,z9f];unfold z42;simp only [mtL];rw [zF (by omega),zD,z096 hc hp,z7,s_On hc,z7]
 | x::l,N+1,k,i,o,h1,h2,h3=>by
   obtain ⟨g1,g2,g3⟩:=zw h1;have hl:=hc.1;subst h2;have e1:w64 ((k:Int)+1)=((k+1:Nat):Int):=by rw [zf (by omega) (by omega)];rfl
   have ih:=fun o'=>z02d (g:=g) hc hp l N (k+1) _ o' g3 rfl (by simp at h3;omega)
   rw [z6,z9f];unfold z42;simp only [Int.toNat_natCast,g2,mtL,e1];rw [zT (show (k:Int)<c.blocks.length by omega),zT (show (0:Int)<=k by omega)];simp only [zC,ih];by_cases c1:(x.pages.length:Int)=g.pages
   · rw [zT c1,Bool.not_true,zD,if_neg (by simp [c1])];by_cases c2:o<0
     · rw [zT c2,zC];cases c3:x.bad with
       | true=>rw [Bool.not_true,zD,if_neg (by simp)]
       | false =>
         rw [Bool.not_false,zC];by_cases c4:0<x.next
         · rw [zT c4,zC];by_cases c5:x.next<g.pages
           · rw [zT c5,zC,if_pos ⟨c2,rfl,c4,c5⟩]
           · rw [zF c5,zD,if_neg (fun h=>c5 h.2.2.2)]
         · rw [zF c4,zD,if_neg (fun h=>c4 h.2.2.1)]
     · rw [zF c2,zD,if_neg (fun h=>c2 h.1)]
   · rw [zF c1,Bool.not_false,zC,if_pos c1];rfl
theorem z0c9 {g:Geometry} {c:Chip} (hc:z0g c) (hp:PagesOk c):zd2 (g,c)=some (mountT g c):=by
 have:=hc.1;refine zy 4294967297 fun N hN=>?_
 show z8h N g c=_;unfold z8h mountT;rw [z0ac,z7];cases fitsT g with
 | false=>rfl
 | true =>
   rw [Bool.not_true,zD];by_cases c1:(c.blocks.length:Int)=g.blocks
   · rw [zT c1,Bool.not_true,zD,if_neg (by simp [c1])];exact z02d hc hp c.blocks N 0 0 (-1) rfl rfl (by omega)
   · rw [zF c1,Bool.not_false,zC,if_pos (.inr c1)];rfl
def formatT (g:Geometry) (bad:List Int):Device×Int :=
 if fitsT g=false \/ (newT g.blocks g.pages bad).2≠0 \/ g.spare<badsT (newT g.blocks g.pages bad).1 then (zDev,1) else mountT g (newT g.blocks g.pages bad).1
theorem z073 {n:Int} {m:Nat}:∀ (l:List Int) (bs:List Block),(∀ b∈bs,b.pages.length<=16 /\ ∀ p∈b.pages,p=z7z)->bs.length=m->(∀ b∈(newL n l bs).1.blocks,b.pages.length<=16 /\ ∀ p∈b.pages,p=z7z) /\ ((newL n l bs).1.blocks.length=m \/ (newL n l bs).1.blocks.length=0)
 | [],bs,h1,h2=>⟨h1,.inl h2⟩
 | x::l,bs,h1,h2=>by
   unfold newL;split
   · exact ⟨fun b hb=>by simp [zChip] at hb,.inr rfl⟩
   · refine z073 l _ (fun b hb=>?_) (by unfold ze6;simpa using h2);unfold ze6 at hb;by_cases hx:x.toNat<bs.length
     · rcases List.mem_or_eq_of_mem_set hb with h | rfl
       · exact h1 b h
       · exact h1 (bs.getD x.toNat default) (zr hx)
     · rw [List.set_eq_of_length_le (by omega)] at hb;exact h1 b hb
theorem z0ca (n p:Int) (bad:List Int):z0g (newT n p bad).1 /\ PagesOk (newT n p bad).1:=by
 unfold newT;split
 · exact ⟨⟨by simp [zChip],fun b hb=>by simp [zChip] at hb⟩,fun b hb=>by simp [zChip] at hb⟩
 · rename_i h;obtain ⟨h1,h2⟩:=z073 (n:=n) (m:=n.toNat) bad (List.replicate n.toNat ⟨List.replicate p.toNat z7z,0,0,false⟩) (fun b hb=>by
    obtain ⟨_,rfl⟩:=List.mem_replicate.1 hb;exact ⟨by simp;omega,fun q hq=>(List.mem_replicate.1 hq).2⟩) (by simp)
   refine ⟨⟨by omega,fun b hb=>by have:=(h1 b hb).1;omega⟩,fun b hb q hq=>?_⟩;rw [(h1 b hb).2 q hq];exact ⟨by simp [z7z],by simp [z7z]⟩
theorem z02e {g:Geometry} {bad:List Int} (hb:bad.length<4294967296):z6v (g,bad)=some (formatT g bad):=by
 obtain ⟨hc,hp⟩:=z0ca g.blocks g.pages bad;show z6u g bad=_;unfold z6u formatT;rw [z0ac,z7];cases fitsT g with
 | false=>rfl
 | true =>
   rw [Bool.not_true,zD,z00m hb,z7];by_cases c1:(newT g.blocks g.pages bad).2=0
   · rw [zT c1,Bool.not_true,zD,z0ad hc,z7];by_cases c2:g.spare<badsT (newT g.blocks g.pages bad).1
     · rw [zT c2,zC,if_pos (.inr (.inr c2))];rfl
     · rw [zF c2,zD,if_neg (by simp [c1];omega),z0c9 hc hp,z7]
   · rw [zF c1,Bool.not_false,zC,if_pos (.inr (.inl c1))];rfl
def DevOk (d:Device):Prop:=z0g d.chip /\ TabOk d.table
end Clk
namespace Clk
open Go
def zFate:Fate:=⟨0,[],[],0⟩
def z0s (l:List Fate):Fate×List Fate:=match l with
 | []=>(zFate,[])
 | f::l=>(f,l)
theorem zml (l:List Fate):z7b l=some (z0s l):=by
 show zat l=_;unfold zat;cases l with
 | nil=>rfl
 | cons f l =>
   rw [zF (by simp only [List.length_cons];omega),zD,zT (by simp only [List.length_cons];omega),zC,zT (by simp only [List.length_cons];omega),zC];rfl
def z60 (c:Chip) (o:Int):Int:=if restT c o=0 then (if restT c (pickT c (-1))=0 then -1 else pickT c (-1)) else o
theorem z097 {c:Chip} {o:Int} (h:0<=z60 c o):z60 c o<c.blocks.length:=by
 unfold z60 at h ⊢;split at h
 · rename_i h1;rw [if_pos h1];split at h
   · omega
   · rename_i h2;rw [if_neg h2];exact (znb h2).2.2
 · rename_i h1;rw [if_neg h1];exact (znb h1).2.2
def nextOf (c:Chip) (o:Int):Int:=(c.blocks.getD o.toNat default).next
def rT (page:Page) (fs:List Fate) (d:Device):Chip×Int:=z0r d.chip (z60 d.chip d.opn) (nextOf d.chip (z60 d.chip d.opn)) page (z0s fs).1
def putL (page:Page) (rec:Record):Nat->List Fate->Device->Device×List Fate×Int
 | 0,fs,d=>(⟨d.geometry,d.chip,d.table,d.seq,-1⟩,fs,40)
 | n+1,fs,d =>
   if z60 d.chip d.opn<0 then (⟨d.geometry,d.chip,d.table,d.seq,-1⟩,fs,40)
   else if (rT page fs d).2=0 then (⟨d.geometry,(rT page fs d).1,applyT d.table ⟨z4s (z60 d.chip d.opn) (nextOf d.chip (z60 d.chip d.opn)),rec⟩,w64 (d.seq+1),z60 d.chip d.opn⟩,(z0s fs).2,0)
   else if (rT page fs d).2=53 then putL page rec n (z0s fs).2 ⟨d.geometry,(rT page fs d).1,d.table,d.seq,-1⟩
   else (⟨d.geometry,(rT page fs d).1,d.table,d.seq,z60 d.chip d.opn⟩,(z0s fs).2,(rT page fs d).2)
def gbL:List Block->Nat
 | []=>0
 | b::l=>(if b.bad=true then 0 else 1)+gbL l
theorem z074:∀ (l:List Block),gbL l<=l.length
 | []=>Nat.le_refl _
 | b::l=>by have:=z074 l;unfold gbL;simp only [List.length_cons];split <;> omega
theorem z00o:∀ {l:List Block} {i:Nat} {y d:Block},i<l.length->(l.getD i d).bad=false->y.bad=true->gbL (l.set i y)+1=gbL l
 | [],i,y,d,h,_,_=>by simp at h
 | b::l,0,y,d,h,h1,h2=>by
   have h3:b.bad=false:=h1;simp only [List.set_cons_zero,gbL];rw [if_pos h2,if_neg (by simp [h3])];omega
 | b::l,i+1,y,d,h,h1,h2=>by
   have:=z00o (l:=l) (i:=i) (y:=y) (d:=d) (by simpa using h) (by simpa using h1) h2;simp only [List.set_cons_succ,gbL];omega
theorem z098 {c:Chip} (h:z0g c) (b p:Int) (page:Page) (f:Fate):z0g (z0r c b p page f).1:=by
 unfold z0r;split
 · exact h
 · split
   · rename_i hc;obtain ⟨h1,h2,_⟩:=z6c.1 hc;refine ⟨by simpa using h.1,fun x hx=>?_⟩;rcases List.mem_or_eq_of_mem_set hx with h3 | rfl
     · exact h.2 x h3
     · have:=h.get (show b.toNat<c.blocks.length by omega) default;simpa [z71] using this
   · exact h
theorem zs7 {c:Chip} {b p:Int} {page:Page} {f:Fate} (h:(z0r c b p page f).2=53):gbL (z0r c b p page f).1.blocks+1=gbL c.blocks:=by
 unfold z0r at h ⊢;split at h
 · simp at h
 · rename_i ho;rw [if_neg ho];split at h
   · rename_i hc;rw [if_pos hc];obtain ⟨h1,h2,h3,h4,h5,_⟩:=z6c.1 hc;have hk:f.kind=1:=by
      simp only at h;split at h
      · omega
      · split at h
        · assumption
        · omega
     exact z00o (show b.toNat<c.blocks.length by omega) h5 (by simp [z71,hk])
   · unfold brkT at h;simp at h
theorem zmm {w:Write} {page:Page} (hw:RecOk w.record):∀ (n N:Nat) (fs:List Fate) (d:Device),DevOk d->gbL d.chip.blocks<n->n<=N->ze z6s N (fs,d,w,page)=some (putL page w.record n fs d)
 | 0,_,_,_,_,h,_=>by omega
 | n+1,0,_,_,_,_,h=>by omega
 | n+1,N+1,fs,d,hd,h1,h2=>by
   have hc:=hd.1;rw [z6,zl8];unfold zbo;simp only [zy9 hc,zy8 hc,z7,zml,zpp hc,z8w,putL];have tail:∀ o:Int,z60 d.chip d.opn=o->0<=o ->
    (cond (decide (0<=o)) (cond (decide (o<(d.chip.blocks.length:Int))) (
      cond (decide ((z0r d.chip o (d.chip.blocks.getD o.toNat default).next page (z0s fs).1).2=0))
       (Option.bind (z35 (d.table,(Found.mk (z4s o (d.chip.blocks.getD o.toNat default).next) w.record))) fun r11 =>
       some ((Device.mk d.geometry (z0r d.chip o (d.chip.blocks.getD o.toNat default).next page (z0s fs).1).1 r11 (w64 (d.seq+1)) o),(z0s fs).2,(0:Int)))
       (cond (decide ((z0r d.chip o (d.chip.blocks.getD o.toNat default).next page (z0s fs).1).2=53))
         (ze z6s N ((z0s fs).2,(Device.mk d.geometry (z0r d.chip o (d.chip.blocks.getD o.toNat default).next page (z0s fs).1).1 d.table d.seq (-1)),w,page))
         (some ((Device.mk d.geometry (z0r d.chip o (d.chip.blocks.getD o.toNat default).next page (z0s fs).1).1 d.table d.seq o),(z0s fs).2,(z0r d.chip o (d.chip.blocks.getD o.toNat default).next page (z0s fs).1).2)))) none) none)=some (if z60 d.chip d.opn<0 then (⟨d.geometry,d.chip,d.table,d.seq,-1⟩,fs,40)
   else if (rT page fs d).2=0 then (⟨d.geometry,(rT page fs d).1,applyT d.table ⟨z4s (z60 d.chip d.opn) (nextOf d.chip (z60 d.chip d.opn)),w.record⟩,w64 (d.seq+1),z60 d.chip d.opn⟩,(z0s fs).2,0)
   else if (rT page fs d).2=53 then putL page w.record n (z0s fs).2 ⟨d.geometry,(rT page fs d).1,d.table,d.seq,-1⟩
   else (⟨d.geometry,(rT page fs d).1,d.table,d.seq,z60 d.chip d.opn⟩,(z0s fs).2,(rT page fs d).2)):=by
    intro o ho hnn;have hlt:=z097 (c:=d.chip) (o:=d.opn) (by rw [ho];exact hnn);have hr:rT page fs d=z0r d.chip o (d.chip.blocks.getD o.toNat default).next page (z0s fs).1:=by unfold rT nextOf;rw [ho]
    have hx:nextOf d.chip o=(d.chip.blocks.getD o.toNat default).next:=rfl;rw [ho] at hlt;rw [ho,if_neg (by omega),hx,hr,zT hnn,zC,zT hlt,zC,zk9 hd.2 hw,z7];by_cases c1:(z0r d.chip o (d.chip.blocks.getD o.toNat default).next page (z0s fs).1).2=0
    · rw [zT c1,zC,if_pos c1]
    · rw [zF c1,zD,if_neg c1];by_cases c2:(z0r d.chip o (d.chip.blocks.getD o.toNat default).next page (z0s fs).1).2=53
      · rw [zT c2,zC,if_pos c2];have hf:=zs7 c2;exact zmm hw n N _ _ ⟨z098 hc _ _ _ _,hd.2⟩ (by show gbL (z0r _ _ _ _ _).1.blocks<n;omega) (by omega)
      · rw [zF c2,zD,if_neg c2]
   by_cases h3:restT d.chip d.opn=0
   · rw [zT h3,zC];by_cases h4:pickT d.chip (-1)<0
     · have ho:z60 d.chip d.opn = -1:=by
        unfold z60;rw [if_pos h3,if_pos];unfold restT;rw [if_neg];intro h;have:=(state1 h).1;omega
       rw [zT h4,zC,ho,if_pos (by omega)]
     · rw [zF h4,zD];by_cases h5:restT d.chip (pickT d.chip (-1))=0
       · have ho:z60 d.chip d.opn = -1:=by unfold z60;rw [if_pos h3,if_pos h5]
         rw [zT h5,zC,ho,if_pos (by omega)]
       · rw [zF h5,zD];exact tail (pickT d.chip (-1)) (by unfold z60;rw [if_pos h3,if_neg h5]) (by omega)
   · have hp:=znb h3;rw [zF h3,zD,zF (show ¬ d.opn<0 by omega),zD,zD];exact tail d.opn (by unfold z60;rw [if_neg h3]) (by omega)
def seqW (d:Device) (w:Write):Write:=⟨w.data,⟨w.record.kind,d.seq,w.record.keys,w.record.values⟩⟩
def putD (d:Device) (w:Write) (fs:List Fate):Device×List Fate×Int :=
 if (makeT (seqW d w)).2≠0 then (d,fs,(makeT (seqW d w)).2) else putL (makeT (seqW d w)).1 (seqW d w).record (d.chip.blocks.length+1) fs d
theorem zpr {d:Device} {w:Write} {fs:List Fate} (hd:DevOk d) (hw:WriteOk w):z2q (d,w,fs)=some (putD d w fs):=by
 refine zy (d.chip.blocks.length+1) fun N hN=>?_
 show zd6 N d w fs=_;have hm:=zy1 (w:=seqW d w) hw;unfold seqW at hm;unfold zd6 putD;rw [hm,z7];show cond (!decide ((makeT (seqW d w)).2=0)) _ _=_;by_cases c1:(makeT (seqW d w)).2=0
 · rw [zT c1,Bool.not_true,zD,if_neg (by simp [c1])];have:=z074 d.chip.blocks;exact zmm (w:=seqW d w) hw.1 _ N fs d hd (by omega) hN
 · rw [zF c1,Bool.not_false,zC,if_pos c1];rfl
end Clk
namespace Clk
open Go
def smalls:List Geometry:=[⟨8,4,5,1⟩,⟨5,4,3,0⟩,⟨12,3,5,2⟩,⟨6,6,8,0⟩,⟨16,2,4,3⟩,⟨10,5,12,1⟩]
def smallT (n:Int):Geometry:=smalls.getD (n.toNat % 6) default
theorem z075 {n:Int} (h0:0<=n) (h1:n<256):z8j n=some (smallT n):=by
 show z8i n=_;unfold z8i;obtain ⟨k,rfl⟩:∃ k:Nat,n=k:=⟨n.toNat,by omega⟩;have e:Int.tmod (w64 (k:Int)) (([(Geometry.mk 8 4 5 1),(Geometry.mk 5 4 3 0),(Geometry.mk 12 3 5 2),(Geometry.mk 6 6 8 0),(Geometry.mk 16 2 4 3),(Geometry.mk 10 5 12 1)].length:Nat):Int)=((k % 6:Nat):Int):=by
  rw [zf (by omega) (by omega)];exact zgo k 6
 rw [e,zF (by decide),Bool.not_false,zC,zT (show (0:Int)<=((k % 6:Nat):Int) by omega),zC,zT (by simp only [List.length_cons,List.length_nil];omega),zC,zT (by simp only [List.length_cons,List.length_nil];omega),zC];rfl
theorem z00p {P:Geometry->Prop} (h:∀ g∈smalls,P g) (n:Int):P (smallT n):=h _ (zr (by show n.toNat % 6<6;omega))
def torn:Str:=[116,111,114,110]
def fate1 (n:Int):Fate:=⟨if 236<=n then 2 else if 200<=n then 1 else 0,torn,[[],[120],[2,1]].getD (Int.tmod n 3).toNat [],Int.tmod (Int.tdiv n 8) 5⟩
end Clk
namespace Clk
open Go
theorem z099 (r:Record) (data:Str):(encT r data).1.length<=204:=by
 unfold encT;split
 · simp
 · rename_i h;have:=zxz (r:=r) (by cases hr:rightT r with
    | true=>rfl
    | false=>exact absurd (.inl hr) h)
   simp only [List.length_append,bytes4,List.length_cons,List.length_nil];omega
theorem z09a {w:Write} (h:WriteOk w):PageOk (makeT w).1:=by
 have:=z099 w.record w.data;unfold makeT;split
 · exact ⟨by simp,by simp⟩
 · exact ⟨by simp only;omega,h.2⟩
theorem z076 (all:Bool) (n:Int):∀ (i:Nat) (l:List Page),(∀ p∈l,PageOk p)->∀ p∈clrT all n i l,PageOk p
 | _,[],_,p,hp=>by cases hp
 | i,q::l,h,p,hp=>by
   unfold clrT at hp;rcases List.mem_cons.1 hp with rfl | hp
   · split
     · exact ⟨by simp [z7z],by simp [z7z]⟩
     · exact h _ List.mem_cons_self
   · exact z076 all n (i+1) l (fun x hx=>h x (List.mem_cons_of_mem _ hx)) p hp
theorem z048 {c:Chip} (h:PagesOk c) (b:Int) (f:Fate):PagesOk (zgp c b f).1:=by
 unfold zgp;split
 · exact h
 · split
   · rename_i hc;unfold canEra at hc;simp only [Bool.and_eq_true,decide_eq_true_eq] at hc;intro x hx;rcases List.mem_or_eq_of_mem_set hx with h3 | rfl
     · exact h x h3
     · have:=h _ (zr (d:=default) (show b.toNat<c.blocks.length by omega));unfold z4j;split
       · exact this
       · exact z076 _ _ 0 _ this
   · exact h
theorem z00q {c:Chip} (h:PagesOk c) (b p:Int) {page:Page} {f:Fate} (hp:PageOk page) (hf:f.tag.length<4294967296 /\ f.data.length<4294967296):PagesOk (z0r c b p page f).1:=by
 unfold z0r;split
 · exact h
 · split
   · rename_i hc;obtain ⟨h1,h2,_⟩:=z6c.1 hc;intro x hx;rcases List.mem_or_eq_of_mem_set hx with h3 | rfl
     · exact h x h3
     · have h4:=h _ (zr (d:=default) (show b.toNat<c.blocks.length by omega));unfold z71;intro q hq;rcases List.mem_or_eq_of_mem_set hq with h5 | rfl
       · exact h4 q h5
       · split
         · exact ⟨hp.1,hp.2⟩
         · exact hf
   · exact h
theorem z049 (n:Int):smallT n∈smalls:=z00p (P:=(·∈smalls)) (fun g h=>h) n
end Clk
namespace Clk
open Go
def fresh (g:Geometry):Device :=
 ⟨g,⟨List.replicate g.blocks.toNat ⟨List.replicate g.pages.toNat z7z,0,0,false⟩,false,false,0⟩,⟨List.replicate g.sectors.toNat (-1),List.replicate g.sectors.toNat (-1)⟩,0,-1⟩
end Clk
namespace Clk
open Go
end Clk
namespace Clk
open Go
end Clk
namespace Clk
open Go
end Clk
namespace Clk
open Go
end Clk
namespace Clk
open Go
end Clk
namespace Clk
open Go
end Clk
namespace Clk
open Go
end Clk
namespace Clk
open Go
end Clk
namespace Clk
open Go
def pageT (c:Chip) (place:Int):Page×Bool :=
 if place<0 \/ (c.blocks.length:Int)<=place / 16 \/ 32<=place / 16 \/ ((c.blocks.getD (place / 16).toNat default).pages.length:Int)<=place % 16 then (z7z,false)
 else ((c.blocks.getD (place / 16).toNat default).pages.getD (place % 16).toNat default,true)
def I64 (n:Int):Prop := -9223372036854775808<=n /\ n<9223372036854775808
theorem z00r (c:Chip) {place:Int} (hp:I64 place):zi1 (c,place)=some (pageT c place):=by
 obtain ⟨p1,p2⟩:=hp;show zd7 c place=_;unfold zd7 pageT;by_cases c1:place<0
 · rw [zT c1,zC,if_pos (.inl c1)];rfl
 · rw [zF c1,zD,Int.tdiv_eq_ediv_of_nonneg (by omega),Int.tmod_eq_emod_of_nonneg (by omega),zf (n:=place / 16) (by omega) (by omega)];by_cases c2:min (c.blocks.length:Int) 32<=place / 16
   · rw [zT c2,zC,if_pos (by omega)];rfl
   · rw [zF c2,zD,zT (show 0<=place / 16 by omega),zT (show place / 16<(c.blocks.length:Int) by omega)];simp only [zC];by_cases c3:((c.blocks.getD (place / 16).toNat default).pages.length:Int)<=place % 16
     · rw [zT c3,zC,if_pos (by omega)];rfl
     · rw [zF c3,zD,zT (show 0<=place % 16 by omega),zT (show place % 16<((c.blocks.getD (place / 16).toNat default).pages.length:Int) by omega),if_neg (by omega)];rfl
theorem zba (c:Chip) {place:Int} (hp:I64 place):z7e (c,place)=some (pageT c place):=by
 obtain ⟨p1,p2⟩:=hp;show zb0 c place=_;unfold zb0 pageT;by_cases c1:place<0
 · rw [zT c1,zC,if_pos (.inl c1)];rfl
 · rw [zF c1,zD,Int.tdiv_eq_ediv_of_nonneg (by omega),Int.tmod_eq_emod_of_nonneg (by omega),zf (n:=place / 16) (by omega) (by omega)];by_cases c2:(c.blocks.length:Int)<=place / 16
   · rw [zT c2,zC,if_pos (by omega)];rfl
   · rw [zF c2,zD];by_cases c4:32<=place / 16
     · rw [zT c4,zC,if_pos (by omega)];rfl
     · rw [zF c4,zD,zT (show 0<=place / 16 by omega),zT (show place / 16<(c.blocks.length:Int) by omega)];simp only [zC];by_cases c3:((c.blocks.getD (place / 16).toNat default).pages.length:Int)<=place % 16
       · rw [zT c3,zC,if_pos (by omega)];rfl
       · rw [zF c3,zD,zT (show 0<=place % 16 by omega),zT (show place % 16<((c.blocks.getD (place / 16).toNat default).pages.length:Int) by omega),if_neg (by omega)];rfl
end Clk
namespace Clk
open Go
def hasT (c:Chip) (t:Table) (s:Int):Str:=if s<0 \/ (t.map.length:Int)<=s then [] else (pageT c (t.map.getD s.toNat 0)).1.data
def MapR (t:Table):Prop:=∀ v∈t.map,I64 v
theorem z04a {c:Chip} {t:Table} (h:MapR t) (s:Int):zgm (c,t,s)=some (hasT c t s):=by
 show zgl c t s=_;unfold zgl hasT;by_cases c1:s<0
 · rw [zT c1,zC,if_pos (.inl c1)]
 · rw [zF c1,zD];by_cases c2:(t.map.length:Int)<=s
   · rw [zT c2,zC,if_pos (.inr c2)]
   · rw [zF c2,zD,zT (show 0<=s by omega),zT (show s<(t.map.length:Int) by omega),if_neg (by omega),z00r _ (h _ (zr (by omega))),z7];rfl
theorem zps {c:Chip} {t:Table} (h:MapR t) (s:Int):z9o (c,t,s)=some (hasT c t s):=by
 show zd8 c t s=_;unfold zd8 hasT;by_cases c1:s<0
 · rw [zT c1,zC,if_pos (.inl c1)]
 · rw [zF c1,zD];by_cases c2:(t.map.length:Int)<=s
   · rw [zT c2,zC,if_pos (.inr c2)]
   · rw [zF c2,zD,zT (show 0<=s by omega),zT (show s<(t.map.length:Int) by omega),if_neg (by omega),zba _ (h _ (zr (by omega))),z7];rfl
def allD (d:Device):List Str:=(List.range d.table.map.length).map fun s:Nat=>hasT d.chip d.table s
def resT (d:Device):Int:=2+2*max (d.geometry.spare - badsT d.chip) 0
theorem z04b {c:Chip} (hc:z0g c):0<=badsT c /\ badsT c<4294967296:=by
 have:=z02c c.blocks;have:=hc.1;unfold badsT;omega
theorem zg9 {d:Device} (hc:z0g d.chip) (hg:0<=d.geometry.spare /\ d.geometry.spare<4294967296):z9p d=some (resT d):=by
 have:=z04b hc;show z5c d=_;unfold z5c resT;rw [z0ad hc,z7,zf (n:=d.geometry.spare - badsT d.chip) (by omega) (by omega),zf (n:=2*max (d.geometry.spare - badsT d.chip) 0) (by omega) (by omega),zf (by omega) (by omega)]
end Clk
namespace Clk
open Go
def blk (c:Chip) (i:Nat):Block:=c.blocks.getD i default
def wrt (c:Chip) (v:Int):Prop:=0<=v /\ (v / 16).toNat<c.blocks.length /\ v % 16<(blk c (v / 16).toNat).next
theorem z3i {α:Type} {l:List α} {i j:Nat} {a d:α}:(l.set i a).getD j d=if i=j /\ i<l.length then a else l.getD j d:=by
 rw [zI,zI,List.getElem?_set];by_cases h:i=j
 · subst h;by_cases h2:i<l.length
   · simp [h2]
   · simp [h2]
 · simp [h]
theorem z0u {l:List Int} {i:Nat} {a b:Int}:(l.set i a).count b<=l.count b+(if a=b then 1 else 0):=by
 by_cases h:i<l.length
 · rw [List.count_set h];by_cases e:a=b
   · subst e;rw [if_pos rfl];simp only [beq_self_eq_true,if_true];omega
   · have e2:(a==b)=false:=by simpa using e
     rw [if_neg e,e2];simp only [Bool.false_eq_true,if_false];omega
 · rw [List.set_eq_of_length_le (by omega)];omega
theorem zc5 {l:List Int} {i:Nat} {a v:Int} (h:v∈l.set i a):v∈l \/ v=a:=(List.mem_or_eq_of_mem_set h)
theorem zuu {l:List Int} {i:Nat} {d:Int} (h:i<l.length):l.set i (l.getD i d)=l:=by
 rw [zI,zH h];exact List.set_getElem_self h
structure TaI (S:Nat) (c:Chip) (t:Table):Prop where
 lm:t.map.length=S
 lb:t.by_.length=S
 vm:∀ v∈t.map,v = -1 \/ wrt c v
 vb:∀ v∈t.by_,v = -1 \/ wrt c v
 cm:∀ v,0<=v->t.map.count v<=8
 cb:∀ v,0<=v->t.by_.count v<=8
 tw:∀ s s',s<S->s'<S->0<=t.map.getD s 0->t.by_.getD s' 0=t.map.getD s 0->t.map.getD s' 0=t.map.getD s 0
def Proper (r:Record) (t:Table):Prop :=
 (r.kind=1 /\ r.keys.length<=8) \/ (r.kind=2 /\ r.keys.length<=8 /\ r.values=r.keys.map fun k=>t.map.getD k.toNat 0) \/ ∃ k v,r.kind=2 /\ r.keys=[k] /\ r.values=[v] /\ (v = -1 \/ (v∈t.map /\ 0<=v /\ t.map.count v<8))
structure Mid (S:Nat) (c:Chip) (q:Int) (n:Nat) (t:Table):Prop where
 lm:t.map.length=S
 lb:t.by_.length=S
 vm:∀ v∈t.map,v = -1 \/ wrt c v
 vb:∀ v∈t.by_,v = -1 \/ wrt c v
 cm:∀ v,0<=v->v≠q->t.map.count v<=8
 cb:∀ v,0<=v->v≠q->t.by_.count v<=8
 cmq:t.map.count q<=n
 cbq:t.by_.count q<=n
 tw:∀ s s',s<S->s'<S->0<=t.map.getD s 0->t.by_.getD s' 0=t.map.getD s 0->t.map.getD s' 0=t.map.getD s 0
theorem Mid.done {S:Nat} {c:Chip} {q:Int} {n:Nat} {t:Table} (h:Mid S c q n t) (hn:n<=8):TaI S c t :=
 ⟨h.lm, h.lb, h.vm, h.vb, fun v hv => by by_cases e : v = q; · subst e; exact Nat.le_trans h.cmq hn
                                         · exact h.cm v hv e, fun v hv => by by_cases e : v = q; · subst e; exact Nat.le_trans h.cbq hn
                                                                             · exact h.cb v hv e,h.tw⟩
theorem Mid.more {S:Nat} {c:Chip} {q:Int} {n m:Nat} {t:Table} (h:Mid S c q n t) (hn:n<=m):Mid S c q m t:=⟨h.lm,h.lb,h.vm,h.vb,h.cm,h.cb,Nat.le_trans h.cmq hn,Nat.le_trans h.cbq hn,h.tw⟩
theorem TaI.mid {S:Nat} {c c':Chip} {q:Int} {t:Table} (h:TaI S c t) (hc:∀ v,wrt c v->wrt c' v) (hq:¬ wrt c q) (hq0:0<=q):Mid S c' q 0 t /\ q∉t.map /\ q∉t.by_:=by
 have n1:q∉t.map:=fun hm=>(h.vm q hm).elim (fun e=>by omega) hq
 have n2:q∉t.by_:=fun hm=>(h.vb q hm).elim (fun e=>by omega) hq
 exact ⟨⟨h.lm,h.lb,fun v hv=>(h.vm v hv).imp id (hc v),fun v hv=>(h.vb v hv).imp id (hc v),fun v h0 _=>h.cm v h0,fun v h0 _=>h.cb v h0,by rw [List.count_eq_zero.2 n1];exact Nat.le_refl _,by rw [List.count_eq_zero.2 n2];exact Nat.le_refl _,h.tw⟩,n1,n2⟩
theorem zgq {l:List Int} {s:Nat} (h:s<l.length):l.getD s 0∈l:=zr h
theorem tsA {S:Nat} {c:Chip} {q:Int} {n k:Nat} {t:Table} (hk:k<S) (hq:wrt c q) (h:Mid S c q n t) (hm:∀ s,s<S->t.by_.getD s 0=q->t.map.getD s 0=q) :
 Mid S c q (n+1) ⟨t.map.set k q,t.by_.set k q⟩ /\ ∀ s,s<S->(t.by_.set k q).getD s 0=q->(t.map.set k q).getD s 0=q:=by
 have hkm:k<t.map.length:=by rw [h.lm];exact hk
 have hkb:k<t.by_.length:=by rw [h.lb];exact hk
 refine ⟨⟨by simp [h.lm],by simp [h.lb],fun v hv=>?_,fun v hv=>?_,fun v h0 hne=>?_,fun v h0 hne=>?_,?_,?_,fun s s' hs hs' h0 e=>?_⟩,fun s hs e=>?_⟩
 · rcases zc5 hv with h1 | rfl
   · exact h.vm v h1
   · exact .inr hq
 · rcases zc5 hv with h1 | rfl
   · exact h.vb v h1
   · exact .inr hq
 · have:=z0u (l:=t.map) (i:=k) (a:=q) (b:=v);rw [if_neg (fun e=>hne e.symm)] at this;have:=h.cm v h0 hne;show (t.map.set k q).count v<=8;omega
 · have:=z0u (l:=t.by_) (i:=k) (a:=q) (b:=v);rw [if_neg (fun e=>hne e.symm)] at this;have:=h.cb v h0 hne;show (t.by_.set k q).count v<=8;omega
 · have:=z0u (l:=t.map) (i:=k) (a:=q) (b:=q);rw [if_pos rfl] at this;have:=h.cmq;show (t.map.set k q).count q<=_;omega
 · have:=z0u (l:=t.by_) (i:=k) (a:=q) (b:=q);rw [if_pos rfl] at this;have:=h.cbq;show (t.by_.set k q).count q<=_;omega
 · simp only [z3i] at h0 e ⊢;simp only [hkm,hkb,and_true] at h0 e ⊢;by_cases e1:k=s'
   · rw [if_pos e1] at e ⊢;exact e
   · rw [if_neg e1] at e ⊢;by_cases e2:k=s
     · rw [if_pos e2] at e h0 ⊢;exact hm s' hs' e
     · rw [if_neg e2] at e h0 ⊢;exact h.tw s s' hs hs' h0 e
 · simp only [z3i,hkm,hkb,and_true] at e ⊢;by_cases e1:k=s
   · rw [if_pos e1]
   · rw [if_neg e1] at e ⊢;exact hm s hs e
theorem tsB {S:Nat} {c:Chip} {q:Int} {n k:Nat} {t:Table} (hk:k<S) (hq:wrt c q) (h:Mid S c q n t) (hm:q∉t.map):Mid S c q (n+1) ⟨t.map,t.by_.set k q⟩:=by
 have hkb:k<t.by_.length:=by rw [h.lb];exact hk
 refine ⟨h.lm,by simp [h.lb],h.vm,fun v hv=>?_,h.cm,fun v h0 hne=>?_,Nat.le_succ_of_le h.cmq,?_,fun s s' hs hs' h0 e=>?_⟩
 · rcases zc5 hv with h1 | rfl
   · exact h.vb v h1
   · exact .inr hq
 · have:=z0u (l:=t.by_) (i:=k) (a:=q) (b:=v);rw [if_neg (fun e=>hne e.symm)] at this;have:=h.cb v h0 hne;show (t.by_.set k q).count v<=8;omega
 · have:=z0u (l:=t.by_) (i:=k) (a:=q) (b:=q);rw [if_pos rfl] at this;have:=h.cbq;show (t.by_.set k q).count q<=_;omega
 · simp only [z3i,hkb,and_true] at e;by_cases e1:k=s'
   · rw [if_pos e1] at e;exact absurd (e▸zgq (by rw [h.lm];exact hs)) hm
   · rw [if_neg e1] at e;exact h.tw s s' hs hs' h0 e
theorem tsC {S:Nat} {c:Chip} {q v0:Int} {k:Nat} {t:Table} (hk:k<S) (hq:wrt c q) (h:Mid S c q 0 t) (hm:q∉t.map) (hv:v0 = -1 \/ (v0∈t.map /\ 0<=v0 /\ t.map.count v0<8)):Mid S c q 1 ⟨t.map.set k v0,t.by_.set k q⟩:=by
 have hkm:k<t.map.length:=by rw [h.lm];exact hk
 have hkb:k<t.by_.length:=by rw [h.lb];exact hk
 have hv0:v0≠q:=by
  rcases hv with rfl | ⟨h1,_⟩
  · have:=hq.1;omega
  · rintro rfl;exact hm h1
 refine ⟨by simp [h.lm],by simp [h.lb],fun v hv'=>?_,fun v hv=>?_,fun v h0 hne=>?_,fun v h0 hne=>?_,?_,?_,fun s s' hs hs' h0 e=>?_⟩
 · rcases zc5 hv' with h1 | rfl
   · exact h.vm v h1
   · rcases hv with h1 | ⟨h1,_⟩
     · exact .inl h1
     · exact h.vm v h1
 · rcases zc5 hv with h1 | rfl
   · exact h.vb v h1
   · exact .inr hq
 · have hle:=z0u (l:=t.map) (i:=k) (a:=v0) (b:=v);have h8:=h.cm v h0 hne;show (t.map.set k v0).count v<=8;by_cases e:v0=v
   · rw [if_pos e] at hle;rcases hv with h1 | ⟨_,_,h1⟩
     · omega
     · rw [e] at h1;omega
   · rw [if_neg e] at hle;omega
 · have:=z0u (l:=t.by_) (i:=k) (a:=q) (b:=v);rw [if_neg (fun e=>hne e.symm)] at this;have:=h.cb v h0 hne;show (t.by_.set k q).count v<=8;omega
 · have:=z0u (l:=t.map) (i:=k) (a:=v0) (b:=q);rw [if_neg hv0] at this;have:=h.cmq;show (t.map.set k v0).count q<=_;omega
 · have:=z0u (l:=t.by_) (i:=k) (a:=q) (b:=q);rw [if_pos rfl] at this;have:=h.cbq;show (t.by_.set k q).count q<=_;omega
 · simp only [z3i] at h0 e ⊢;simp only [hkm,hkb,and_true] at h0 e ⊢;by_cases e1:k=s'
   · subst e1;rw [if_pos rfl] at e ⊢;by_cases e2:k=s
     · rw [if_pos e2] at e ⊢
     · rw [if_neg e2] at e ⊢;exact absurd (e▸zgq (by rw [h.lm];exact hs)) hm
   · rw [if_neg e1] at e ⊢;by_cases e2:k=s
     · rw [if_pos e2] at e h0 ⊢;rcases hv with h1 | ⟨h1,_,_⟩
       · omega
       · obtain ⟨s1,hs1,e3⟩:=List.getElem_of_mem h1;have e4:t.map.getD s1 0=v0:=by rw [zI,zH hs1,e3];rfl
         rw [<- e4] at e h0 ⊢;exact h.tw s1 s' (by rw [<- h.lm];exact hs1) hs' h0 e
     · rw [if_neg e2] at e h0 ⊢;exact h.tw s s' hs hs' h0 e
theorem z0de {q:Int} {r:Record} (hr:r.kind=1) (i:Nat) {k:Nat} {t:Table} (hm:k<t.map.length) (hb:k<t.by_.length):app1 ⟨q,r⟩ i (k:Int) t=⟨t.map.set k q,t.by_.set k q⟩:=by
 unfold app1;rw [if_pos ⟨by omega,by omega,by omega⟩,if_pos hr];rfl
theorem z0ae {q:Int} {r:Record} (hr:r.kind=2) {i:Nat} (hi:i<r.values.length) {k:Nat} {t:Table} (hm:k<t.map.length) (hb:k<t.by_.length):app1 ⟨q,r⟩ i (k:Int) t=⟨t.map.set k (r.values.getD i 0),t.by_.set k q⟩:=by
 unfold app1;rw [if_pos ⟨by omega,by omega,by omega⟩,if_neg (by simp only;omega),if_pos ⟨hr,hi⟩];rfl
theorem zuv {f:Found} {i:Nat} {k:Int} {t:Table} (h:¬ (0<=k /\ k<t.map.length /\ k<t.by_.length)):app1 f i k t=t:=by
 unfold app1;rw [if_neg h]
theorem z02f {S:Nat} {c:Chip} {q:Int} {r:Record} (hr:r.kind=1) (hq:wrt c q):∀ (l:List Int) (i n:Nat) (t:Table),Mid S c q n t->(∀ s,s<S->t.by_.getD s 0=q->t.map.getD s 0=q) ->
 Mid S c q (n+l.length) (appL ⟨q,r⟩ i l t) /\ (∀ s:Nat,(s:Int)∉l->(appL ⟨q,r⟩ i l t).map.getD s 0=t.map.getD s 0 /\ (appL ⟨q,r⟩ i l t).by_.getD s 0=t.by_.getD s 0) /\
  (∀ s:Nat,s<S->(s:Int)∈l \/ (t.map.getD s 0=q /\ t.by_.getD s 0=q)->(appL ⟨q,r⟩ i l t).map.getD s 0=q /\ (appL ⟨q,r⟩ i l t).by_.getD s 0=q) /\ ∀ v,v∈(appL ⟨q,r⟩ i l t).map \/ v∈(appL ⟨q,r⟩ i l t).by_->v∈t.map \/ v∈t.by_ \/ v=q
 | [],i,n,t,h,hm=>⟨h,fun s _=>⟨rfl,rfl⟩,fun s _ h=>h.elim (fun h=>by cases h) id,fun v h=>h.imp id .inl⟩
 | k::l,i,n,t,h,hm=>by
   unfold appL;by_cases hk:0<=k /\ k<t.map.length /\ k<t.by_.length
   · obtain ⟨k',rfl⟩:∃ k':Nat,k=k':=⟨k.toNat,by omega⟩;have hkm:k'<t.map.length:=by omega
     have hkb:k'<t.by_.length:=by omega
     rw [z0de hr i hkm hkb];obtain ⟨h1,h2⟩:=tsA (k:=k') (by rw [<- h.lm];exact hkm) hq h hm;obtain ⟨r1,r2,r3,r4⟩:=z02f hr hq l (i+1) (n+1) _ h1 h2;refine ⟨r1.more (by simp only [List.length_cons];omega),fun s hs=>?_,fun s hs hsl=>?_,fun v hv=>?_⟩
     · have hne:k'≠s:=fun e=>hs (by rw [e];exact List.mem_cons_self ..)
       obtain ⟨e1,e2⟩:=r2 s (fun h=>hs (List.mem_cons_of_mem _ h));rw [e1,e2];simp only [z3i];rw [if_neg (fun h=>hne h.1),if_neg (fun h=>hne h.1)];exact ⟨rfl,rfl⟩
     · refine r3 s hs ?_;by_cases e:k'=s
       · refine .inr ?_;simp only [z3i];rw [if_pos ⟨e,hkm⟩,if_pos ⟨e,hkb⟩];exact ⟨rfl,rfl⟩
       · rcases hsl with hsl | hsl
         · rcases List.mem_cons.1 hsl with h1 | h1
           · exact absurd (by omega) e
           · exact .inl h1
         · refine .inr ?_;simp only [z3i];rw [if_neg (fun h=>e h.1),if_neg (fun h=>e h.1)];exact hsl
     · rcases r4 v hv with h1 | h1 | h1
       · rcases zc5 h1 with h1 | h1
         · exact .inl h1
         · exact .inr (.inr h1)
       · rcases zc5 h1 with h1 | h1
         · exact .inr (.inl h1)
         · exact .inr (.inr h1)
       · exact .inr (.inr h1)
   · rw [zuv hk];obtain ⟨r1,r2,r3,r4⟩:=z02f hr hq l (i+1) n t h hm;refine ⟨r1.more (by simp only [List.length_cons];omega),fun s hs=>r2 s (fun h=>hs (List.mem_cons_of_mem _ h)),fun s hs hsl=>r3 s hs (hsl.imp (fun hm=>?_) id),r4⟩;rcases List.mem_cons.1 hm with h1 | h1
     · exact absurd ⟨by omega,by rw [h.lm];omega,by rw [h.lb];omega⟩ hk
     · exact h1
theorem z02g {S:Nat} {c:Chip} {q:Int} {r:Record} (hr:r.kind=2) (hq:wrt c q) (t0:Table) (hv:r.values=r.keys.map fun k=>t0.map.getD k.toNat 0):∀ (l:List Int) (i n:Nat) (t:Table),r.keys.drop i=l->t.map=t0.map->Mid S c q n t->q∉t.map ->
 Mid S c q (n+l.length) (appL ⟨q,r⟩ i l t) /\ (appL ⟨q,r⟩ i l t).map=t0.map /\ (∀ s:Nat,(s:Int)∉l->(appL ⟨q,r⟩ i l t).by_.getD s 0=t.by_.getD s 0) /\
  (∀ s:Nat,s<S->(s:Int)∈l \/ t.by_.getD s 0=q->(appL ⟨q,r⟩ i l t).by_.getD s 0=q) /\ ∀ v,v∈(appL ⟨q,r⟩ i l t).by_->v∈t.by_ \/ v=q
 | [],i,n,t,hd,e0,h,hm=>⟨h,e0,fun s _=>rfl,fun s _ h=>h.elim (fun h=>by cases h) id,fun v h=>.inl h⟩
 | k::l,i,n,t,hd,e0,h,hm=>by
   obtain ⟨g1,g2,g3⟩:=zw hd;unfold appL;by_cases hk:0<=k /\ k<t.map.length /\ k<t.by_.length
   · obtain ⟨k',rfl⟩:∃ k':Nat,k=k':=⟨k.toNat,by omega⟩;have hkm:k'<t.map.length:=by omega
     have hkb:k'<t.by_.length:=by omega
     have hvi:r.values.getD i 0=t.map.getD k' 0:=by
      have e1:r.keys[i]?=some (k':Int):=by
       have:=g2 0;rw [zI,zH g1] at this;rw [zH g1];exact congrArg some this
      rw [hv,zI,List.getElem?_map,e1,e0];rfl
     have hil:i<r.values.length:=by rw [hv,List.length_map];exact g1
     rw [z0ae hr hil hkm hkb,hvi,zuu hkm];obtain ⟨r1,r2,r3,r4,r5⟩:=z02g hr hq t0 hv l (i+1) (n+1) ⟨t.map,t.by_.set k' q⟩ g3 e0 (tsB (k:=k') (by rw [<- h.lm];exact hkm) hq h hm) hm;refine ⟨r1.more (by simp only [List.length_cons];omega),r2,fun s hs=>?_,fun s hs hsl=>?_,fun v hv=>?_⟩
     · have hne:k'≠s:=fun e=>hs (by rw [e];exact List.mem_cons_self ..)
       rw [r3 s (fun h=>hs (List.mem_cons_of_mem _ h))];simp only [z3i];rw [if_neg (fun h=>hne h.1)]
     · refine r4 s hs ?_;by_cases e:k'=s
       · refine .inr ?_;simp only [z3i];rw [if_pos ⟨e,hkb⟩]
       · rcases hsl with hsl | hsl
         · rcases List.mem_cons.1 hsl with h1 | h1
           · exact absurd (by omega) e
           · exact .inl h1
         · refine .inr ?_;simp only [z3i];rw [if_neg (fun h=>e h.1)];exact hsl
     · rcases r5 v hv with h1 | h1
       · exact zc5 h1
       · exact .inr h1
   · rw [zuv hk];obtain ⟨r1,r2,r3,r4,r5⟩:=z02g hr hq t0 hv l (i+1) n t g3 e0 h hm;refine ⟨r1.more (by simp only [List.length_cons];omega),r2,fun s hs=>r3 s (fun h=>hs (List.mem_cons_of_mem _ h)),fun s hs hsl=>r4 s hs (hsl.imp (fun hm=>?_) id),r5⟩;rcases List.mem_cons.1 hm with h1 | h1
     · exact absurd ⟨by omega,by rw [h.lm];omega,by rw [h.lb];omega⟩ hk
     · exact h1
theorem zya {S:Nat} {c c':Chip} {t:Table} {q:Int} {r:Record} (h:TaI S c t) (hc:∀ v,wrt c v->wrt c' v) (hq:¬ wrt c q) (hq':wrt c' q) (hp:Proper r t) :
 TaI S c' (applyT t ⟨q,r⟩) /\ ∀ v,v∈(applyT t ⟨q,r⟩).map \/ v∈(applyT t ⟨q,r⟩).by_->v∈t.map \/ v∈t.by_ \/ v=q \/ v = -1:=by
 obtain ⟨hM,n1,n2⟩:=h.mid hc hq hq'.1;rcases hp with ⟨h1,h2⟩ | ⟨h1,h2,h3⟩ | ⟨k,v,h1,h2,h3,h4⟩
 · obtain ⟨r1,_,_,r4⟩:=z02f h1 hq' r.keys 0 0 t hM (fun s hs e=>absurd (e▸zgq (by rw [h.lb];exact hs)) n2);exact ⟨r1.done (by omega),fun v hv=>(r4 v hv).imp id fun h=>h.imp id .inl⟩
 · obtain ⟨r1,r2,_,_,r5⟩:=z02g h1 hq' t h3 r.keys 0 0 t rfl rfl hM n1;refine ⟨r1.done (by omega),fun v hv=>hv.elim (fun h=>.inl ?_) fun h=>.inr ((r5 v h).imp id .inl)⟩;have e:(applyT t ⟨q,r⟩).map=t.map:=r2;rw [e] at h;exact h
 · unfold applyT;simp only [h2];show TaI S c' (app1 ⟨q,r⟩ 0 k t) /\ ∀ v,v∈(app1 ⟨q,r⟩ 0 k t).map \/ v∈(app1 ⟨q,r⟩ 0 k t).by_->_;by_cases hk:0<=k /\ k<t.map.length /\ k<t.by_.length
   · obtain ⟨k',rfl⟩:∃ k':Nat,k=k':=⟨k.toNat,by omega⟩;rw [z0ae h1 (by rw [h3];simp) (by omega) (by omega),h3];refine ⟨(tsC (by rw [<- h.lm];omega) hq' hM n1 h4).done (by omega),fun u hu=>?_⟩;rcases hu with hu | hu
     · rcases zc5 hu with h5 | h5
       · exact .inl h5
       · rcases h4 with h6 | ⟨h6,_⟩
         · exact .inr (.inr (.inr (h5.trans h6)))
         · exact .inl (by rw [h5];exact h6)
     · rcases zc5 hu with h5 | h5
       · exact .inr (.inl h5)
       · exact .inr (.inr (.inl h5))
   · rw [zuv hk];exact ⟨hM.done (by omega),fun u hu=>hu.imp id .inl⟩
end Clk
namespace Clk
open Go
structure ChI (B P:Nat) (c:Chip) (o:Int):Prop where
 len:c.blocks.length=B
 off:c.off=false
 pg:∀ i,i<B->(blk c i).pages.length=P
 nx:∀ i,i<B->0<=(blk c i).next /\ (blk c i).next<=P
 wr:∀ i,i<B->anyW (blk c i).pages=decide (0<(blk c i).next)
 op:∀ i,i<B->(blk c i).bad=false->(i:Int)≠o->(blk c i).next=0 \/ (blk c i).next=P
 lo : -1<=o
theorem zka {B P:Nat} {c:Chip} {o:Int} (h:ChI B P c o) (o':Int) {i:Nat} (hi:i<B) :
 z0h c o' i=if (blk c i).bad=true then 3 else if (i:Int)=o' /\ (blk c i).next<P then 1 else if 0<(blk c i).next then 2 else 0:=by
 unfold z0h;rw [if_neg (by rw [h.len];omega)];have ei:((i:Nat):Int).toNat=i:=by omega
 rw [ei];show (if (blk c i).bad=true then 3 else if (i:Int)=o' /\ 0<=(blk c i).next /\ (blk c i).next<((blk c i).pages.length:Nat) then 1 else fcT (blk c i) (blk c i).pages)=_;rw [h.pg i hi];have hn:=h.nx i hi;have hf:fcT (blk c i) (blk c i).pages=if 0<(blk c i).next then 2 else 0:=by
  unfold fcT;rw [h.wr i hi];by_cases e:0<(blk c i).next
  · rw [zT e,if_pos e];rfl
  · rw [zF e,if_neg e,if_pos (by omega)];rfl
 rw [hf];by_cases e:(blk c i).bad=true
 · rw [if_pos e,if_pos e]
 · rw [if_neg e,if_neg e];by_cases e2:(i:Int)=o' /\ (blk c i).next<P
   · rw [if_pos ⟨e2.1,hn.1,e2.2⟩,if_pos e2]
   · rw [if_neg (fun h=>e2 ⟨h.1,h.2.2⟩),if_neg e2]
theorem zyb {B P:Nat} {c:Chip} {o:Int} (h:ChI B P c o) (o':Int) (hr:restT c o'≠0):∃ i:Nat,i<B /\ o'=i /\ (blk c i).bad=false /\ (blk c i).next<P:=by
 obtain ⟨h1,h2,h3⟩:=znb hr;obtain ⟨_,_,h4,_,_,h5⟩:=state1 h1;obtain ⟨i,rfl⟩:∃ i:Nat,o'=i:=⟨o'.toNat,by omega⟩;have hi:i<B:=by rw [<- h.len];omega
 refine ⟨i,hi,rfl,h4,?_⟩;have:=h.pg i hi;have e:((i:Nat):Int).toNat=i:=by omega
 rw [e] at h5;have h6:(blk c i).next<((blk c i).pages.length:Nat):=h5;omega
theorem zyc {B P:Nat} {c:Chip} {o:Int} (h:ChI B P c o) {i:Nat} (hi:i<B) (hg:(blk c i).bad=false) (hr:restT c i=0):(blk c i).next=P:=by
 have hs:=zka h i hi;rw [if_neg (by rw [hg];exact Bool.false_ne_true)] at hs;by_cases e:(blk c i).next<P
 · rw [if_pos ⟨rfl,e⟩] at hs;unfold restT at hr;rw [if_pos hs] at hr;have e2:((i:Nat):Int).toNat=i:=by omega
   rw [e2] at hr;have e3:((blk c i).pages.length:Int) - (blk c i).next=0:=hr;rw [h.pg i hi] at e3;omega
 · have:=(h.nx i hi).2;omega
theorem z077 {B P:Nat} {c:Chip} {o:Int} (h:ChI B P c o):(z60 c o<0->ChI B P c (-1)) /\ (0<=z60 c o->∃ i:Nat,i<B /\ z60 c o=i /\ (blk c i).bad=false /\ (blk c i).next<P /\ ChI B P c i):=by
 have hfull:restT c o=0->∀ i,i<B->(blk c i).bad=false->(blk c i).next=0 \/ (blk c i).next=P:=fun hr i hi hg=>by
  by_cases e:(i:Int)=o
  · rw [<- e] at hr;exact .inr (zyc h hi hg hr)
  · exact h.op i hi hg e
 unfold z60;by_cases hr:restT c o=0
 · rw [if_pos hr];by_cases hr2:restT c (pickT c (-1))=0
   · rw [if_pos hr2];exact ⟨fun _=>⟨h.len,h.off,h.pg,h.nx,h.wr,fun i hi hg _=>hfull hr i hi hg,by omega⟩,fun h=>by omega⟩
   · rw [if_neg hr2];obtain ⟨i,hi,e,hg,hn⟩:=zyb h _ hr2;rw [e];exact ⟨fun h=>by omega,fun _=>⟨i,hi,rfl,hg,hn,⟨h.len,h.off,h.pg,h.nx,h.wr,fun j hj hg _=>hfull hr j hj hg,by omega⟩⟩⟩
 · rw [if_neg hr];obtain ⟨i,hi,e,hg,hn⟩:=zyb h _ hr;subst e;exact ⟨fun h=>by omega,fun _=>⟨i,hi,rfl,hg,hn,h⟩⟩
def zhi:List Block->Nat
 | []=>0
 | b::l=>(if b.bad=true then 0 else b.next.toNat)+zhi l
theorem zuw:∀ {l:List Block} {i:Nat} {y:Block},i<l.length->zhi (l.set i y)+(if (l.getD i default).bad=true then 0 else (l.getD i default).next.toNat)=zhi l+(if y.bad=true then 0 else y.next.toNat)
 | b::l,0,y,_=>by
   show zhi (y::l)+(if b.bad=true then 0 else b.next.toNat)=zhi (b::l)+_;unfold zhi;omega
 | b::l,i+1,y,h=>by
   have:=zuw (l:=l) (i:=i) (y:=y) (by simpa using h);show zhi (b::l.set i y)+(if (l.getD i default).bad=true then 0 else (l.getD i default).next.toNat)=zhi (b::l)+_;rw [zhi,zhi];omega
theorem zux:∀ {l:List Block} {i:Nat} {y:Block},i<l.length->(l.getD i default).bad=false->y.bad=false->gbL (l.set i y)=gbL l
 | b::l,0,y,_,h1,h2=>by
   have h1:b.bad=false:=h1;show gbL (y::l)=gbL (b::l);unfold gbL;rw [h1,h2]
 | b::l,i+1,y,h,h1,h2=>by
   have:=zux (l:=l) (i:=i) (y:=y) (by simpa using h) h1 h2;show gbL (b::l.set i y)=gbL (b::l);unfold gbL;rw [this]
theorem z02h:∀ {l:List Page} {i:Nat} {p:Page},i<l.length->p.written=true->anyW (l.set i p)=true
 | x::l,0,p,_,h=>by show (p.written||_)=true;rw [h];rfl
 | x::l,i+1,p,hi,h=>by
   show (x.written||anyW (l.set i p))=true;rw [z02h (by simpa using hi) h,Bool.or_true]
theorem zyd {B P:Nat} {c:Chip} {i:Nat} (hB:B<=32) (hP:P<=16) (h:ChI B P c i) (hi:i<B) (hg:(blk c i).bad=false) (hn:(blk c i).next<P) {page:Page} {f:Fate} (hf:f.kind=0 \/ f.kind=1) {o':Int} (ho:o'=i \/ (f.kind=1 /\ o' = -1)) :
 ChI B P (z0r c i (blk c i).next page f).1 o' /\ (z0r c i (blk c i).next page f).2=(if f.kind=0 then 0 else 53) /\ (∀ j,j<B->j≠i->blk (z0r c i (blk c i).next page f).1 j=blk c j) /\
 (f.kind=0->(blk (z0r c i (blk c i).next page f).1 i).bad=false /\ gbL (z0r c i (blk c i).next page f).1.blocks=gbL c.blocks /\ zhi (z0r c i (blk c i).next page f).1.blocks=zhi c.blocks+1) /\
 (∀ v,wrt c v->wrt (z0r c i (blk c i).next page f).1 v) /\ z4s i (blk c i).next=i*16+(blk c i).next /\ ¬ wrt c (i*16+(blk c i).next) /\ wrt (z0r c i (blk c i).next page f).1 (i*16+(blk c i).next):=by
 have hx:=h.nx i hi;have hlen:=h.len;have e0:((i:Nat):Int).toNat=i:=by omega
 have hcan:canProg c i (blk c i).next f=true:=by
  rw [z6c,e0];refine ⟨by omega,by omega,hx.1,?_,hg,rfl,by omega,by omega⟩;have:=h.pg i hi;show (blk c i).next<((blk c i).pages.length:Nat);omega
 have hprog:z0r c i (blk c i).next page f=(⟨c.blocks.set i (z71 (blk c i) (blk c i).next page f),c.broken,decide (f.kind=2),w64 (c.ops+1)⟩,if f.kind=0 then 0 else if f.kind=1 then 53 else 52):=by
  unfold z0r;rw [if_neg (by rw [h.off];simp),if_pos hcan,e0];rfl
 have hw:w64 ((blk c i).next+1)=(blk c i).next+1:=zf (by omega) (by omega);have hbi:blk (z0r c i (blk c i).next page f).1 i=z71 (blk c i) (blk c i).next page f:=by
  rw [hprog];exact z0k (by omega)
 have hbj:∀ j,j<B->j≠i->blk (z0r c i (blk c i).next page f).1 j=blk c j:=fun j hj hne=>by
  rw [hprog];show (c.blocks.set i _).getD j default=_;rw [z3i,if_neg (fun h=>hne h.1.symm)];rfl
 have hnx:(z71 (blk c i) (blk c i).next page f).next=(blk c i).next+1:=hw;have hlen':(z0r c i (blk c i).next page f).1.blocks.length=B:=by rw [hprog];simp [hlen]
 have hmono:∀ v,wrt c v->wrt (z0r c i (blk c i).next page f).1 v:=fun v ⟨h1,h2,h3⟩=>by
  refine ⟨h1,by rw [hlen'];omega,?_⟩;by_cases e:(v / 16).toNat=i
  · rw [e] at h3 ⊢;rw [hbi,hnx];omega
  · rw [hbj _ (by omega) e];exact h3
 have hq:((i:Int)*16+(blk c i).next) / 16=i:=by omega
 have hq2:((i:Int)*16+(blk c i).next) % 16=(blk c i).next:=by omega
 refine ⟨⟨hlen',by rw [hprog];show decide (f.kind=2)=false;exact zF (by omega),fun j hj=>?_,fun j hj=>?_,fun j hj=>?_,fun j hj hgj hne=>?_,by omega⟩,?_,hbj,fun h0=>?_,hmono,?_,?_,?_⟩
 · by_cases e:j=i
   · rw [e,hbi];show (List.set _ _ _).length=P;rw [List.length_set];exact h.pg i hi
   · rw [hbj j hj e];exact h.pg j hj
 · by_cases e:j=i
   · rw [e,hbi,hnx];omega
   · rw [hbj j hj e];exact h.nx j hj
 · by_cases e:j=i
   · rw [e,hbi,hnx,zT (by omega)];refine z02h ?_ ?_
     · have:=h.pg i hi;omega
     · split <;> rfl
   · rw [hbj j hj e];exact h.wr j hj
 · by_cases e:j=i
   · rw [e,hbi] at hgj;have hk:f.kind≠1:=fun hk=>by
      have:decide (f.kind=1)=false:=hgj;rw [hk] at this;cases this
     rcases ho with ho | ⟨ho,_⟩
     · exact absurd (by rw [ho,e]) hne
     · exact absurd ho hk
   · rw [hbj j hj e] at hgj ⊢;exact h.op j hj hgj (by omega)
 · rw [hprog];show (if f.kind=0 then (0:Int) else if f.kind=1 then 53 else 52)=_;rcases hf with e | e
   · rw [if_pos e,if_pos e]
   · rw [if_neg (by omega),if_pos e,if_neg (by omega)]
 · have hb:(z71 (blk c i) (blk c i).next page f).bad=false:=zF (by omega);refine ⟨by rw [hbi];exact hb,?_,?_⟩
   · rw [hprog];exact zux (by omega) hg hb
   · rw [hprog];have:=zuw (l:=c.blocks) (i:=i) (y:=z71 (blk c i) (blk c i).next page f) (by omega);have e2:c.blocks.getD i default=blk c i:=rfl;rw [e2,hb,hg,hnx,if_neg Bool.false_ne_true,if_neg Bool.false_ne_true] at this;show zhi (c.blocks.set i _)=_;omega
 · unfold z4s;rw [if_neg (by omega)]
 · rintro ⟨_,_,h3⟩
   rw [hq,hq2,e0] at h3;omega
 · refine ⟨by omega,by rw [hq,e0,hlen'];exact hi,?_⟩;rw [hq,hq2,e0,hbi,hnx];omega
structure DvI (g:Geometry) (B P S:Nat) (d:Device):Prop where
 geo:d.geometry=g
 ch:ChI B P d.chip d.opn
 ta:TaI S d.chip d.table
 pk:PagesOk d.chip
structure Gm (g:Geometry) (B P S:Nat):Prop where
 b:g.blocks=B
 p:g.pages=P
 s:g.sectors=S
 b1:0<B
 b2:B<=32
 p1:0<P
 p2:P<=16
 s1:0<S
 s2:S<=64
 sp:0<=g.spare /\ g.spare<4294967296
def FOk (fs:List Fate):Prop:=∀ f∈fs,(f.kind=0 \/ f.kind=1) /\ f.tag.length<4294967296 /\ f.data.length<4294967296
theorem FOk.next {fs:List Fate} (h:FOk fs):((z0s fs).1.kind=0 \/ (z0s fs).1.kind=1) /\ ((z0s fs).1.tag.length<4294967296 /\ (z0s fs).1.data.length<4294967296) /\ FOk (z0s fs).2:=by
 cases fs with
 | nil=>exact ⟨.inl rfl,by decide,h⟩
 | cons f l=>exact ⟨(h f (List.mem_cons_self ..)).1,(h f (List.mem_cons_self ..)).2,fun x hx=>h x (List.mem_cons_of_mem _ hx)⟩
def stuck (P:Nat) (c:Chip) (b:Nat):Prop:=(blk c b).bad=true \/ (blk c b).next=P
structure PutR (g:Geometry) (B P S:Nat) (d:Device) (rec:Record) (r:Device×List Fate×Int):Prop where
 inv:DvI g B P S r.1
 fok:FOk r.2.1
 e:r.2.2=0 \/ r.2.2=40
 gb:gbL r.1.chip.blocks<=gbL d.chip.blocks
 st:∀ b,b<B->stuck P d.chip b->blk r.1.chip b=blk d.chip b
 full:r.2.2=40->r.1.table=d.table
 ok:r.2.2=0->∃ q,r.1.table=applyT d.table ⟨q,rec⟩ /\ 0<=q /\ (q / 16).toNat<B /\ (blk r.1.chip (q / 16).toNat).bad=false /\ ¬ stuck P d.chip (q / 16).toNat /\ (∀ v,wrt d.chip v->wrt r.1.chip v) /\ ¬ wrt d.chip q /\ wrt r.1.chip q
 same:gbL r.1.chip.blocks=gbL d.chip.blocks->(∀ b,b<B->(blk r.1.chip b).bad=(blk d.chip b).bad) /\ zhi r.1.chip.blocks<=zhi d.chip.blocks+1
theorem zye {g:Geometry} {B P S:Nat} (hG:Gm g B P S) {page:Page} (hpg:PageOk page) {rec:Record}:∀ (n:Nat) (fs:List Fate) (d:Device),DvI g B P S d->FOk fs->Proper rec d.table->gbL d.chip.blocks<n->PutR g B P S d rec (putL page rec n fs d)
 | 0,_,_,_,_,_,h=>by omega
 | n+1,fs,d,hI,hF,hp,hn=>by
   obtain ⟨o1,o2⟩:=z077 hI.ch;unfold putL;by_cases ho:z60 d.chip d.opn<0
   · rw [if_pos ho];exact ⟨⟨hI.geo,o1 ho,hI.ta,hI.pk⟩,hF,.inr rfl,Nat.le_refl _,fun _ _ _=>rfl,fun _=>rfl,fun h=>absurd h (show ¬ (40:Int)=0 by decide),fun _=>⟨fun _ _=>rfl,Nat.le_succ _⟩⟩
   · rw [if_neg ho];obtain ⟨i,hi,ei,hg,hnx,hC⟩:=o2 (by omega);obtain ⟨hk,hfl,hF2⟩:=hF.next;have hpk:=z00q hI.pk i (blk d.chip i).next hpg hfl;have e0:((i:Nat):Int).toNat=i:=by omega
     have er:rT page fs d=z0r d.chip i (blk d.chip i).next page (z0s fs).1:=by
      unfold rT nextOf;rw [ei,e0];rfl
     have en:nextOf d.chip (z60 d.chip d.opn)=(blk d.chip i).next:=by unfold nextOf;rw [ei,e0];rfl
     have hst:¬ stuck P d.chip i:=fun h=>by
      rcases h with h | h
      · rw [hg] at h;cases h
      · omega
     rw [er,ei];rcases hk with hk | hk
     · obtain ⟨p1,p2,p3,p4,p5,p6,p7,p8⟩:=zyd hG.b2 hG.p2 hC hi hg hnx (page:=page) (f:=(z0s fs).1) (.inl hk) (o':=i) (.inl rfl);obtain ⟨p41,p42,p43⟩:=p4 hk;rw [p2,if_pos hk,if_pos rfl];rw [ei] at en;rw [en,p6];obtain ⟨a1,_⟩:=zya (q:=i*16+(blk d.chip i).next) (r:=rec) hI.ta p5 p7 p8 hp;have hq:((i:Int)*16+(blk d.chip i).next) / 16=i:=by have:=(hI.ch.nx i hi);have:=hG.p2;omega
       refine ⟨⟨hI.geo,p1,a1,hpk⟩,hF2,.inl rfl,by rw [p42];exact Nat.le_refl _,fun b hb hs=>p3 b hb (fun e=>by rw [e] at hs;exact hst hs),fun h=>(by cases h),fun _=>⟨_,rfl,p8.1,by rw [hq,e0];exact hi,by rw [hq,e0];exact p41,by rw [hq,e0];exact hst,p5,p7,p8⟩,fun _=>⟨fun b hb=>?_,by rw [p43];exact Nat.le_refl _⟩⟩;by_cases e:b=i
       · rw [e,hg];exact p41
       · exact congrArg Block.bad (p3 b hb e)
     · obtain ⟨p1,p2,p3,p4,p5,p6,p7,p8⟩:=zyd hG.b2 hG.p2 hC hi hg hnx (page:=page) (f:=(z0s fs).1) (.inr hk) (o' := -1) (.inr ⟨hk,rfl⟩);have p2':(z0r d.chip i (blk d.chip i).next page (z0s fs).1).2=53:=by rw [p2,if_neg (by omega)]
       have hgb:=zs7 p2';rw [p2',if_neg (by decide),if_pos rfl];have hT:TaI S (z0r d.chip i (blk d.chip i).next page (z0s fs).1).1 d.table:=⟨hI.ta.lm,hI.ta.lb,fun v hv=>(hI.ta.vm v hv).imp id (p5 v),fun v hv=>(hI.ta.vb v hv).imp id (p5 v),hI.ta.cm,hI.ta.cb,hI.ta.tw⟩;have R:=zye hG hpg n (z0s fs).2 ⟨d.geometry,(z0r d.chip i (blk d.chip i).next page (z0s fs).1).1,d.table,d.seq,-1⟩ ⟨hI.geo,p1,hT,hpk⟩ hF2 hp (by show gbL (z0r _ _ _ _ _).1.blocks<n;omega);have hst':∀ b,b<B->stuck P d.chip b->blk (z0r d.chip i (blk d.chip i).next page (z0s fs).1).1 b=blk d.chip b:=fun b hb hs=>p3 b hb (fun e=>by rw [e] at hs;exact hst hs)
       have hst2:∀ b,b<B->stuck P d.chip b->stuck P (z0r d.chip i (blk d.chip i).next page (z0s fs).1).1 b:=fun b hb hs=>by
        have:=hst' b hb hs;unfold stuck at hs ⊢;rw [this];exact hs
       refine ⟨R.inv,R.fok,R.e,by have:=R.gb;exact Nat.le_trans this (by show gbL (z0r _ _ _ _ _).1.blocks<=_;omega),fun b hb hs=>(R.st b hb (hst2 b hb hs)).trans (hst' b hb hs),R.full,fun h=>?_,fun h=>?_⟩
       · obtain ⟨q,q1,q2,q3,q4,q5,q6,q7,q8⟩:=R.ok h;exact ⟨q,q1,q2,q3,q4,fun hs=>q5 (hst2 _ q3 hs),fun v hv=>q6 v (p5 v hv),fun h=>q7 (p5 q h),q8⟩
       · have:=R.gb;have e:gbL (z0r d.chip i (blk d.chip i).next page (z0s fs).1).1.blocks=gbL (Device.mk d.geometry (z0r d.chip i (blk d.chip i).next page (z0s fs).1).1 d.table d.seq (-1)).chip.blocks:=rfl;rw [<- e] at this;omega
theorem DvI.ok {g:Geometry} {B P S:Nat} (hG:Gm g B P S) {d:Device} (h:DvI g B P S d):DevOk d:=by
 refine ⟨⟨by rw [h.ch.len];have:=hG.b2;omega,fun b hb=>?_⟩,by unfold TabOk;rw [h.ta.lm,h.ta.lb];have:=hG.s2;omega⟩;obtain ⟨i,hi,rfl⟩:=List.getElem_of_mem hb;have:=h.ch.pg i (by rw [<- h.ch.len];exact hi);unfold blk at this;rw [zI,zH hi] at this;have h2:d.chip.blocks[i].pages.length=P:=this;rw [h2];have:=hG.p2;omega
theorem zuy {g:Geometry} {B P S:Nat} (hG:Gm g B P S) {w:Write} {fs:List Fate} {d:Device} (hI:DvI g B P S d) (hF:FOk fs) (hp:Proper w.record d.table) (hw:WriteOk w) :
 ∃ r,z2q (d,w,fs)=some r /\ ((r.2.2≠0 /\ r.1=d /\ r.2.1=fs) \/ PutR g B P S d (seqW d w).record r):=by
 refine ⟨_,zpr (hI.ok hG) hw,?_⟩;unfold putD;by_cases c:(makeT (seqW d w)).2≠0
 · rw [if_pos c];exact .inl ⟨c,rfl,rfl⟩
 · rw [if_neg c];refine .inr (zye hG (z09a (w:=seqW d w) hw) _ fs d hI hF hp ?_);have:=z074 d.chip.blocks;omega
end Clk
namespace Clk
open Go
theorem z00s {n:Int}:∀ (l:List Int) (i:Nat) (x:Int),x∈whL n i l↔∃ j:Nat,j<l.length /\ x=((i+j:Nat):Int) /\ l.getD j 0=n
 | [],i,x=>by simp [whL]
 | y::l,i,x=>by
   have ih:=z00s l (i+1) x (n:=n);unfold whL;constructor
   · intro h;split at h
     · rename_i e;rcases List.mem_cons.1 h with rfl | h
       · exact ⟨0,by simp,rfl,e⟩
       · obtain ⟨j,h1,h2,h3⟩:=ih.1 h;exact ⟨j+1,by simp only [List.length_cons];omega,by rw [h2];congr 1;omega,h3⟩
     · obtain ⟨j,h1,h2,h3⟩:=ih.1 h;exact ⟨j+1,by simp only [List.length_cons];omega,by rw [h2];congr 1;omega,h3⟩
   · rintro ⟨j,h1,h2,h3⟩
     cases j with
     | zero =>
       have h3:y=n:=h3;rw [if_pos h3,h2];exact List.mem_cons_self ..
     | succ j =>
       have:x∈whL n (i+1) l:=ih.2 ⟨j,by simpa using h1,by rw [h2];congr 1;omega,h3⟩;split
       · exact List.mem_cons_of_mem _ this
       · exact this
theorem zuz {n:Int}:∀ (l:List Int) (i:Nat),(whL n i l).length=l.count n
 | [],i=>rfl
 | y::l,i=>by
   unfold whL;rw [List.count_cons];by_cases e:y=n
   · rw [if_pos e,List.length_cons,zuz l (i+1),if_pos (by simpa using e)]
   · rw [if_neg e,zuz l (i+1),if_neg (by simpa using e)];rfl
theorem zgr {t:Table} {p:Int} (hp:0<=p) {x:Int}:x∈z0q t p↔∃ j:Nat,j<t.map.length /\ x=j /\ t.map.getD j 0=p:=by
 unfold z0q whichT;rw [if_pos hp,z00s];simp
theorem zkb {t:Table} {p:Int} (hp:0<=p) {x:Int}:x∈z80 t p↔∃ j:Nat,j<t.by_.length /\ x=j /\ t.by_.getD j 0=p:=by
 unfold z80 whichT;rw [if_pos hp,z00s];simp
theorem zle {t:Table} {p:Int} (hp:0<=p):(z0q t p).length=t.map.count p:=by
 unfold z0q whichT;rw [if_pos hp,zuz]
theorem z02i {t:Table} {p:Int} (hp:0<=p):(z80 t p).length=t.by_.count p:=by
 unfold z80 whichT;rw [if_pos hp,zuz]
def z5y (l:List Int):List (List Int):=if l=[] then [] else [l]
theorem z078 {l:List Int} (h:l.length<=8):z5k l=some (z5y l):=by
 refine zy 2 fun N hN=>?_
 obtain ⟨N,rfl⟩:∃ M,N=M+2:=⟨N - 2,by omega⟩;show z8q (N+2) l=_;unfold z8q;rw [z6,z9u];unfold z4c;dsimp only;by_cases e:l=[]
 · subst e;rfl
 · have hl:0<l.length:=List.length_pos_iff.2 e;have hm:min (w64 (0+8)) (l.length:Int)=l.length:=by
    rw [show w64 (0+8)=8 by decide];omega
   have ht:((l.drop (Int.toNat 0)).take ((Int.toNat (l.length:Int)) - (Int.toNat 0)))=l:=by
    simp
   rw [hm,ht];simp only [List.length_singleton,List.length_nil,List.nil_append,Nat.zero_add];try (rw [zT (by omega)];simp only [zC])
   try (rw [zT (by omega)];simp only [zC])
   try (rw [zT (by omega)];simp only [zC])
   try (rw [zT (by omega)];simp only [zC])
   try (rw [zT (by omega)];simp only [zC])
   try (rw [zT (by omega)];simp only [zC])
   rw [z6,z9u];unfold z4c;dsimp only;rw [show w64 (0+8)=8 by decide];try (rw [zF (by omega)];simp only [zD])
   unfold z5y;rw [if_neg e]
theorem z0df {t:Table} {s:Nat} (h:s<t.map.length):zdd (t,(s:Int))=some (t.map.getD s 0):=by
 show zdc t s=_;unfold zdc;try (rw [zF (by omega)];simp only [zD])
 try (rw [zT (by omega)];simp only [zC])
 try (rw [zT (by omega)];simp only [zC])
 rfl
def inB (b:Nat) (v:Int):Prop:=0<=v /\ v / 16=b
instance (b:Nat) (v:Int):Decidable (inB b v):=by unfold inB;infer_instance
def z3p (t:Table) (b:Nat) (l:List Int):List Int:=l.filter fun s=>!decide (inB b (t.map.getD s.toNat 0))
theorem zv0 {t:Table} {b:Nat} (ht:t.map.length<4294967296) (hv:∀ v∈t.map,-1<=v /\ v<4294967296) {xs:List Int} (hx:xs.length<=8) (hs:∀ x∈xs,0<=x /\ x<t.map.length):∀ (l:List Int) (N k:Nat) (i:Int) (acc:List Int),xs.drop k=l->i=k->acc.length<=k->l.length<N->ze z7t N (xs,(b:Int),i,t,acc)=some (acc++z3p t b l)
 | l,0,_,_,_,_,_,_,h=>by omega
 | [],N+1,k,i,acc,h1,h2,h3,_=>by
   have:=z05 h1;rw [z6,z9v];unfold z4d;dsimp only;try (rw [zF (by omega)];simp only [zD])
   simp [z3p]
 | x::l,N+1,k,i,acc,h1,h2,h3,h4=>by
   obtain ⟨g1,g2,g3⟩:=zw h1;have hxm:x∈xs:=by rw [<- g2 0];exact zr g1
   obtain ⟨hx0,hx1⟩:=hs x hxm;obtain ⟨s,rfl⟩:∃ s:Nat,x=s:=⟨x.toNat,by omega⟩;have hsl:s<t.map.length:=by omega
   have hvs:=hv _ (zr (d:=0) hsl);rw [z6,z9v];unfold z4d;dsimp only;have ek:i.toNat=k:=by omega
   have ew:w64 (i+1)=((k+1:Nat):Int):=by rw [zf (by omega) (by omega)];omega
   simp only [ek,g2,ew];try (rw [zT (by omega)];simp only [zC])
   try (rw [zT (by omega)];simp only [zC])
   try (rw [zT (by omega)];simp only [zC])
   rw [z0df hsl,z7];have ih1:=zv0 (b:=b) ht hv hx hs l N (k+1) _ (acc++[(s:Int)]) g3 rfl (by simp;omega) (by simp only [List.length_cons] at h4;omega);have ih2:=zv0 (b:=b) ht hv hx hs l N (k+1) _ acc g3 rfl (by omega) (by simp only [List.length_cons] at h4;omega);have e1:[(s:Int)].length=1:=rfl;have hap:z3p t b ((s:Int)::l)=if inB b (t.map.getD s 0) then z3p t b l else (s:Int)::z3p t b l:=by
    unfold z3p;rw [List.filter_cons];have e2:((s:Int)).toNat=s:=by omega
    rw [e2];by_cases c:inB b (t.map.getD s 0)
    · rw [if_pos c,zT c];rfl
    · rw [if_neg c,zF c];rfl
   rw [hap];by_cases c1:t.map.getD s 0<0
   · rw [zT c1];simp only [zC];try (rw [zT (by omega)];simp only [zC])
     try (rw [zT (by omega)];simp only [zC])
     rw [ih1,if_neg (fun h=>by have:=h.1;omega)];simp
   · rw [zF c1];simp only [zD];have e3:w64 (Int.tdiv (t.map.getD s 0) 16)=t.map.getD s 0 / 16:=by
      rw [Int.tdiv_eq_ediv_of_nonneg (by omega)];exact zf (by omega) (by omega)
     rw [e3];by_cases c2:t.map.getD s 0 / 16=b
     · rw [zT c2,Bool.not_true,zD,ih2,if_pos ⟨by omega,c2⟩]
     · rw [zF c2,Bool.not_false,zC];try (rw [zT (by omega)];simp only [zC])
       try (rw [zT (by omega)];simp only [zC])
       rw [ih1,if_neg (fun h=>c2 h.2)];simp
theorem z0cb {t:Table} {b:Nat} (ht:t.map.length<4294967296) (hv:∀ v∈t.map,-1<=v /\ v<4294967296) {xs:List Int} (hx:xs.length<=8) (hs:∀ x∈xs,0<=x /\ x<t.map.length):z8r (t,xs,(b:Int))=some (z3p t b xs):=by
 refine zy (xs.length+1) fun N hN=>?_
 exact zv0 ht hv hx hs xs N 0 0 [] rfl rfl (Nat.le_refl _) (by omega)
def vals (t:Table) (l:List Int):List Int:=l.map fun s=>t.map.getD s.toNat 0
def dataM (c:Chip) (t:Table) (q:Int):List Write:=(z5y (z0q t q)).map fun l=>⟨(pageT c q).1.data,⟨1,0,l,[]⟩⟩
def chgM (t:Table) (b:Nat) (q:Int):List Write:=(z5y (z3p t b (z80 t q))).map fun l=>⟨[],⟨2,0,l,vals t l⟩⟩
def pageM (c:Chip) (t:Table) (b p:Nat):List Write:=dataM c t (b*16+p)++chgM t b (b*16+p)
def movesL (c:Chip) (t:Table) (b:Nat):Nat->Nat->List Write
 | 0,_=>[]
 | m+1,p=>pageM c t b p++movesL c t b m (p+1)
def movesT (c:Chip) (t:Table) (b:Nat):List Write:=movesL c t b 16 0
structure TOk (t:Table):Prop where
 l:t.map.length<4294967296
 lb:t.by_.length=t.map.length
 v:∀ v∈t.map,-1<=v /\ v<4294967296
 o:∀ p,0<=p->(z0q t p).length<=8
 s:∀ p,0<=p->(z80 t p).length<=8
theorem z02j {t:Table} (ht:t.map.length<4294967296) {ih1:(Int×Int×(List (List Int))×Int×Chip×Table×(List Write))->Option (List Write)} {v2 v3:Int} {c:Chip} {out:List Write} (ho:out.length<1000) {ss:List Int} (hss:ss.length<=8) (hs:∀ x∈ss,0<=x /\ x<t.map.length) :
 ∀ (l:List Int) (N k:Nat) (i:Int) (acc:List Int),ss.drop k=l->i=k->acc.length=k->l.length<N->ze (z7u ih1) N (v2,v3,[ss],0,i,c,t,out,acc)=ih1 (v2,v3,[ss],1,c,t,out++[⟨[],⟨2,0,ss,acc++vals t l⟩⟩])
 | l,0,_,_,_,_,_,_,h=>by omega
 | [],N+1,k,i,acc,h1,h2,h3,_=>by
   have:=z05 h1;rw [z6,z9w];unfold z4e;dsimp only;simp only [List.length_singleton,List.length_cons,List.length_nil,Int.toNat_zero,List.getD_cons_zero];try (rw [zT (by omega)];simp only [zC])
   try (rw [zT (by omega)];simp only [zC])
   try (rw [zF (by omega)];simp only [zD])
   try (rw [zT (by omega)];simp only [zC])
   try (rw [zT (by omega)];simp only [zC])
   try (rw [zT (by omega)];simp only [zC])
   try (rw [zT (by omega)];simp only [zC])
   rw [show w64 (0+1)=1 by decide];simp [vals]
 | x::l,N+1,k,i,acc,h1,h2,h3,h4=>by
   obtain ⟨g1,g2,g3⟩:=zw h1;have hxm:x∈ss:=by rw [<- g2 0];exact zr g1
   obtain ⟨hx0,hx1⟩:=hs x hxm;obtain ⟨s,rfl⟩:∃ s:Nat,x=s:=⟨x.toNat,by omega⟩;have hsl:s<t.map.length:=by omega
   rw [z6,z9w];unfold z4e;dsimp only;have ek:i.toNat=k:=by omega
   have ew:w64 (i+1)=((k+1:Nat):Int):=by rw [zf (by omega) (by omega)];omega
   simp only [List.length_singleton,List.length_cons,List.length_nil,Int.toNat_zero,List.getD_cons_zero,ek,g2,ew];try (rw [zT (by omega)];simp only [zC])
   try (rw [zT (by omega)];simp only [zC])
   try (rw [zT (by omega)];simp only [zC])
   try (rw [zT (by omega)];simp only [zC])
   try (rw [zT (by omega)];simp only [zC])
   try (rw [zT (by omega)];simp only [zC])
   try (rw [zT (by omega)];simp only [zC])
   rw [z0df hsl,z7];try (rw [zT (by omega)];simp only [zC])
   try (rw [zT (by omega)];simp only [zC])
   rw [z02j ht ho hss hs l N (k+1) _ (acc++[t.map.getD s 0]) g3 rfl (by simp;omega) (by simp only [List.length_cons] at h4;omega)];unfold vals;rw [List.map_cons,List.append_assoc,List.singleton_append];rfl
theorem z09b {t:Table} (ht:t.map.length<4294967296) {ih0:(Int×Int×Chip×Table×(List Write))->Option (List Write)} {v2 v3:Int} {c:Chip} {out:List Write} (ho:out.length<1000) {ss:List Int} (hss:ss.length<=8) (hs:∀ x∈ss,0<=x /\ x<t.map.length) {N:Nat} (hN:10<=N) :
 ze (z20 N ih0) N (v2,v3,z5y ss,0,c,t,out)=ih0 (v2,w64 (v3+1),c,t,out++(z5y ss).map fun l=>⟨[],⟨2,0,l,vals t l⟩⟩):=by
 obtain ⟨M,rfl⟩:∃ M,N=M+2:=⟨N - 2,by omega⟩;generalize hK:M+2=K;rw [<- hK,z6,z9x];unfold z4f z5y;dsimp only;by_cases e:ss=[]
 · subst e;rw [if_pos rfl];simp
 · rw [if_neg e];simp only [List.length_singleton,List.length_cons,List.length_nil];try (rw [zT (by omega)];simp only [zC])
   rw [hK,z02j ht ho hss hs ss K 0 0 [] rfl rfl rfl (by omega)];show ze (z20 K ih0) (M+1) _=_;rw [z6,z9x];unfold z4f;dsimp only;simp only [List.length_singleton,List.length_cons,List.length_nil];try (rw [zF (by omega)];simp only [zD])
   rfl
theorem z09c {t:Table} (ht:TOk t) {ih0:(Int×Int×Chip×Table×(List Write))->Option (List Write)} {b p:Nat} {q:Int} (hq:q=b*16+p) {c:Chip} {out:List Write} (ho:out.length<900) {N:Nat} (hN:10<=N) {pg:Page} (hpg:pg=(pageT c q).1) :
 ze (z7v N ih0) N ((b:Int),(p:Int),q,z5y (z0q t q),0,c,t,pg,out)=ih0 ((b:Int),w64 (p+1),c,t,out++pageM c t b p):=by
 have hq0:0<=q:=by omega
 have hsay:∀ x∈z80 t q,0<=x /\ x<t.map.length:=fun x hx=>by
  obtain ⟨j,h1,h2,_⟩:=(zkb hq0).1 hx;have:=ht.lb;omega
 have hap:∀ x∈z3p t b (z80 t q),0<=x /\ x<t.map.length:=fun x hx=>hsay x (List.mem_filter.1 hx).1
 have hal:(z3p t b (z80 t q)).length<=8:=Nat.le_trans (List.length_filter_le ..) (ht.s q hq0);have tail:∀ out':List Write,out'.length<1000->(Option.bind (z7d (t,q)) fun r11 =>
  Option.bind (z8r (t,r11,(b:Int))) fun r12 =>
  Option.bind (z5k r12) fun r13 =>
  ze (z20 N ih0) N ((b:Int),(p:Int),r13,0,c,t,out'))=ih0 ((b:Int),w64 (p+1),c,t,out'++chgM t b q):=fun out' ho'=>by
  rw [z0ab ⟨ht.l,by rw [ht.lb];exact ht.l⟩,z7,z0cb ht.l ht.v (ht.s q hq0) hsay,z7,z078 hal,z7];exact z09b ht.l ho' hal hap hN
 obtain ⟨M,rfl⟩:∃ M,N=M+2:=⟨N - 2,by omega⟩;generalize hK:M+2=K at tail ⊢;rw [<- hK,z6,z9y];unfold z4g;dsimp only;have hpm:pageM c t b p=dataM c t q++chgM t b q:=by unfold pageM;rw [hq]
 rw [hpm];unfold dataM z5y;by_cases e:z0q t q=[]
 · rw [if_pos e,hK];simp only [List.length_nil,List.map_nil,List.nil_append];try (rw [zF (by omega)];simp only [zD])
   exact tail out (by omega)
 · rw [if_neg e,hK];simp only [List.length_singleton,List.length_cons,List.length_nil,Int.toNat_zero,List.getD_cons_zero];try (rw [zT (by omega)];simp only [zC])
   try (rw [zT (by omega)];simp only [zC])
   try (rw [zT (by omega)];simp only [zC])
   try (rw [zT (by omega)];simp only [zC])
   try (rw [zT (by omega)];simp only [zC])
   rw [show w64 (0+1)=1 by decide,z6,z9y];unfold z4g;dsimp only;simp only [List.length_singleton,List.length_cons,List.length_nil];try (rw [zF (by omega)];simp only [zD])
   rw [tail _ (by simp;omega),<- hpg];simp
theorem zgs (l:List Int):(z5y l).length<=1:=by unfold z5y;split <;> simp
theorem zyf (c:Chip) (t:Table) (b p:Nat):(pageM c t b p).length<=2:=by
 unfold pageM dataM chgM;rw [List.length_append,List.length_map,List.length_map];have:=zgs (z0q t (b*16+p));have:=zgs (z3p t b (z80 t (b*16+p)));omega
theorem z02k {t:Table} (ht:TOk t) {c:Chip} {b:Nat} (hb:b<32) {M:Nat} (hM:10<=M):∀ (m N p:Nat) (i:Int) (out:List Write),p+m=16->i=p->out.length<=2*p->m<N->ze (z7w M) N ((b:Int),i,c,t,out)=some (out++movesL c t b m p)
 | m,0,_,_,_,_,_,_,h=>by omega
 | 0,N+1,p,i,out,h1,h2,h3,_=>by
   rw [z6,z9z];unfold z4h movesL;dsimp only;try (rw [zF (by omega)];simp only [zD])
   rw [List.append_nil]
 | m+1,N+1,p,i,out,h1,h2,h3,h4=>by
   subst h2;rw [z6,z9z];unfold z4h movesL;dsimp only;have hpl:z4s b p=b*16+p:=by unfold z4s;rw [if_neg (by omega)]
   rw [zT (by omega),zC,z8w,z7,hpl,zF (by omega),zD,zba c ⟨by omega,by omega⟩,z7,zna ⟨ht.l,by rw [ht.lb];exact ht.l⟩,z7,z078 (ht.o _ (by omega)),z7,
    z09c ht rfl (by omega) hM rfl]
   have ew:w64 ((p:Int)+1)=((p+1:Nat):Int):=by rw [zf (by omega) (by omega)];omega
   have:=zyf c t b p;rw [ew,z02k ht hb hM m N (p+1) _ _ (by omega) rfl (by rw [List.length_append];omega) (by omega),List.append_assoc]
theorem z0cc {t:Table} (ht:TOk t) {c:Chip} {b:Nat} (hb:b<32):zde (c,t,(b:Int))=some (movesT c t b):=by
 refine zy 20 fun N hN=>?_
 exact z02k ht hb (by omega) 16 N 0 0 [] (by omega) rfl (by simp) (by omega)
end Clk
namespace Clk
open Go
theorem z0af {B P:Nat} {c:Chip} {o:Int} (h:ChI B P c o) (hB:B<=32) {v:Int} (hv:wrt c v):0<=v /\ v<512 /\ (v / 16).toNat<B:=by
 have h2:=hv.2.1;rw [h.len] at h2;exact ⟨hv.1,by have:=hv.1;omega,h2⟩
theorem DvI.tok {g:Geometry} {B P S:Nat} (hG:Gm g B P S) {d:Device} (h:DvI g B P S d):TOk d.table:=by
 have hs:=hG.s2;have r:∀ v,v = -1 \/ wrt d.chip v -> -1<=v /\ v<4294967296:=fun v hv=>hv.elim (fun e=>by omega) fun hw=>by have:=z0af h.ch hG.b2 hw;omega
 exact ⟨by rw [h.ta.lm];omega,by rw [h.ta.lb,h.ta.lm],fun v hv=>r v (h.ta.vm v hv),fun p hp=>by rw [zle hp];exact h.ta.cm p hp,fun p hp=>by rw [z02i hp];exact h.ta.cb p hp⟩
theorem z079 {S:Nat} {c c':Chip} {t:Table} {q:Int} {r:Record} (h:TaI S c t) (hc:∀ v,wrt c v->wrt c' v) (hq:¬ wrt c q) (hq':wrt c' q) (hp:(r.kind=1 /\ r.keys.length<=8) \/ (r.kind=2 /\ r.keys.length<=8 /\ r.values=r.keys.map fun k=>t.map.getD k.toNat 0)) :
 (∀ s:Nat,(s:Int)∉r.keys->(applyT t ⟨q,r⟩).map.getD s 0=t.map.getD s 0 /\ (applyT t ⟨q,r⟩).by_.getD s 0=t.by_.getD s 0) /\
 ∀ s:Nat,s<S->(s:Int)∈r.keys->(applyT t ⟨q,r⟩).by_.getD s 0=q /\ ((r.kind=1 /\ (applyT t ⟨q,r⟩).map.getD s 0=q) \/ (r.kind=2 /\ (applyT t ⟨q,r⟩).map.getD s 0=t.map.getD s 0)):=by
 obtain ⟨hM,n1,n2⟩:=h.mid hc hq hq'.1;rcases hp with ⟨h1,h2⟩ | ⟨h1,h2,h3⟩
 · obtain ⟨_,r2,r3,_⟩:=z02f h1 hq' r.keys 0 0 t hM (fun s hs e=>absurd (e▸zgq (by rw [h.lb];exact hs)) n2);exact ⟨r2,fun s hs hm=>⟨(r3 s hs (.inl hm)).2,.inl ⟨h1,(r3 s hs (.inl hm)).1⟩⟩⟩
 · obtain ⟨_,r2,r3,r4,_⟩:=z02g h1 hq' t h3 r.keys 0 0 t rfl rfl hM n1;have e:(applyT t ⟨q,r⟩).map=t.map:=r2;exact ⟨fun s hs=>⟨by rw [e],r3 s hs⟩,fun s hs hm=>⟨r4 s hs (.inl hm),.inr ⟨h1,by rw [e]⟩⟩⟩
def GoodW (S:Nat) (t:Table) (b:Nat) (w:Write):Prop :=
 WriteOk w /\ w.record.keys.length<=8 /\ (∀ k∈w.record.keys,0<=k /\ k<S) /\ (w.record.kind=1 \/ (w.record.kind=2 /\ w.record.values=(w.record.keys.map fun k=>t.map.getD k.toNat 0) /\ ∀ k∈w.record.keys,¬ inB b (t.map.getD k.toNat 0)))
def Stage (S:Nat) (t0 t:Table) (b:Nat) (done:List Int):Prop:=∀ s:Nat,s<S->((s:Int)∈done->¬ inB b (t.map.getD s 0) /\ ¬ inB b (t.by_.getD s 0)) /\ ((s:Int)∉done->t.map.getD s 0=t0.map.getD s 0 /\ t.by_.getD s 0=t0.by_.getD s 0)
structure MoveR (g:Geometry) (B P S:Nat) (d:Device) (n:Nat) (b:Nat) (r:Device×List Fate×Int):Prop where
 inv:DvI g B P S r.1
 fok:FOk r.2.1
 gb:gbL r.1.chip.blocks<=gbL d.chip.blocks
 st:∀ b,b<B->stuck P d.chip b->blk r.1.chip b=blk d.chip b
 same:gbL r.1.chip.blocks=gbL d.chip.blocks->(∀ b,b<B->(blk r.1.chip b).bad=(blk d.chip b).bad) /\ zhi r.1.chip.blocks<=zhi d.chip.blocks+n /\ ∀ v,v∈r.1.table.map \/ v∈r.1.table.by_->(v∈d.table.map \/ v∈d.table.by_) \/ v = -1 \/ (0<=v /\ (v / 16).toNat<B /\ (blk r.1.chip (v / 16).toNat).bad=false)
theorem zs8 {P:Nat} {c c':Chip} {b:Nat} (h:blk c' b=blk c b) (hs:stuck P c b):stuck P c' b:=by
 unfold stuck at hs ⊢;rw [h];exact hs
theorem z07a {g:Geometry} {B P S:Nat} (hG:Gm g B P S) {t0:Table} {b:Nat} (hb:b<B) {xs:List Write} (hxs:xs.length<4294967296):∀ (ws:List Write) (done:List Int) (k:Nat) (d:Device) (fs:List Fate),xs.drop k=ws->DvI g B P S d->FOk fs->stuck P d.chip b->Stage S t0 d.table b done ->
 (∀ w∈ws,GoodW S t0 b w)->ws.Pairwise (fun w w'=>∀ k∈w.record.keys,k∉w'.record.keys)->(∀ w∈ws,∀ k∈w.record.keys,k∉done) ->
 ∃ r,(∀ N (i:Int),i=k->ws.length<N->ze z0w N (fs,xs,0,i,d)=some r) /\ MoveR g B P S d ws.length b r /\ (r.2.2=0->∃ done',Stage S t0 r.1.table b done' /\ (∀ x∈done,x∈done') /\ ∀ w∈ws,∀ k∈w.record.keys,k∈done')
 | [],done,k,d,fs,h1,hI,hF,hs,hS,_,_,_=>by
   have hk:=z05 h1;refine ⟨(d,fs,0),fun N i hi hN=>?_,⟨hI,hF,Nat.le_refl _,fun _ _ _=>rfl,fun _=>⟨fun _ _=>rfl,Nat.le_refl _,fun v hv=>.inl hv⟩⟩,fun _=>⟨done,hS,fun _ h=>h,fun w hw=>by cases hw⟩⟩;obtain ⟨N,rfl⟩:∃ M,N=M+1:=⟨N - 1,by simp at hN;omega⟩;rw [z6,z5l];unfold z2t;dsimp only;rw [zF (by omega),zD]
 | w::ws,done,k,d,fs,h1,hI,hF,hs,hS,hW,hPw,hD=>by
   obtain ⟨g1,g2,g3⟩:=zw h1;obtain ⟨w1,w2,w3,w4⟩:=hW w (List.mem_cons_self ..);have hDw:=hD w (List.mem_cons_self ..);have hpr:(w.record.kind=1 /\ w.record.keys.length<=8) \/ (w.record.kind=2 /\ w.record.keys.length<=8 /\ w.record.values=w.record.keys.map fun k=>d.table.map.getD k.toNat 0):=by
    rcases w4 with h | ⟨h,hv,_⟩
    · exact .inl ⟨h,w2⟩
    · refine .inr ⟨h,w2,?_⟩;rw [hv];refine List.map_congr_left fun x hx=>?_
      obtain ⟨s,rfl⟩:∃ s:Nat,x=s:=⟨x.toNat,by have:=w3 x hx;omega⟩;have:=(hS s (by have:=w3 _ hx;omega)).2 (hDw _ hx);have e:((s:Int)).toNat=s:=by omega
      rw [e];exact this.1.symm
   obtain ⟨r,hr,hres⟩:=zuy hG hI hF (w:=w) (hpr.imp id .inl) w1;have hround:∀ N (i:Int),i=k->(w::ws).length<N->ze z0w N (fs,xs,0,i,d)=ze z0w (N - 1) (r.2.1,xs,r.2.2,((k+1:Nat):Int),r.1):=fun N i hi hN=>by
    obtain ⟨N,rfl⟩:∃ M,N=M+1:=⟨N - 1,by simp at hN;omega⟩;rw [z6,z5l];unfold z2t;dsimp only;have ek:i.toNat=k:=by omega
    rw [zT (by omega),zC,zT rfl,zC,zT (by omega),zC,ek,g2,hr,z7,zf (by omega) (by omega)];congr 1
    simp only [hi];rfl
   have hstop:r.2.2≠0->∀ N (i:Int),i=k->(w::ws).length<N->ze z0w N (fs,xs,0,i,d)=some r:=fun he N i hi hN=>by
    rw [hround N i hi hN];obtain ⟨N,rfl⟩:∃ M,N=M+2:=⟨N - 2,by simp only [List.length_cons] at hN;omega⟩;show ze z0w (N+1) _=_;rw [z6,z5l];unfold z2t;dsimp only;rw [zF he,zD];cases decide (((k+1:Nat):Int)<(xs.length:Int)) <;> rfl
   rcases hres with ⟨he,e1,e2⟩ | R
   · refine ⟨r,hstop he,?_,fun h=>absurd h he⟩;rw [show r=(d,fs,r.2.2) from Prod.ext e1 (Prod.ext e2 rfl)];exact ⟨hI,hF,Nat.le_refl _,fun _ _ _=>rfl,fun _=>⟨fun _ _=>rfl,Nat.le_add_right _ _,fun v hv=>.inl hv⟩⟩
   · rcases R.e with he | he
     · obtain ⟨q,q1,q2,q3,q4,q5,q6,q7,q8⟩:=R.ok he;have hrec:(seqW d w).record.kind=w.record.kind /\ (seqW d w).record.keys=w.record.keys /\ (seqW d w).record.values=w.record.values:=⟨rfl,rfl,rfl⟩;obtain ⟨p1,p2⟩:=z079 (r:=(seqW d w).record) hI.ta q6 q7 q8 hpr;obtain ⟨_,hrefs⟩:=zya (r:=(seqW d w).record) hI.ta q6 q7 q8 (hpr.imp id .inl);rw [<- q1] at p1 p2 hrefs;have hqb:¬ inB b q:=fun h=>q5 (by
        have:(q / 16).toNat=b:=by have:=h.2;omega
        rw [this];exact hs)
       have hS':Stage S t0 r.1.table b (done++w.record.keys):=fun s hsS=>by
        obtain ⟨s1,s2⟩:=hS s hsS;refine ⟨fun hm=>?_,fun hm=>?_⟩
        · by_cases hk:(s:Int)∈w.record.keys
          · obtain ⟨p3,p4⟩:=p2 s hsS hk;rw [p3];refine ⟨?_,hqb⟩;rcases p4 with ⟨_,p4⟩ | ⟨p5,p4⟩
            · rw [p4];exact hqb
            · rw [p4,(s2 (hDw _ hk)).1];rcases w4 with w4 | ⟨_,_,w4⟩
              · exact absurd (w4.symm.trans p5) (by decide)
              · have:=w4 _ hk;have e:((s:Int)).toNat=s:=by omega
                rw [e] at this;exact this
          · obtain ⟨p3,p4⟩:=p1 s hk;rw [p3,p4];exact s1 ((List.mem_append.1 hm).resolve_right hk)
        · rw [List.mem_append] at hm;obtain ⟨p3,p4⟩:=p1 s (fun h=>hm (.inr h));rw [p3,p4];exact s2 (fun h=>hm (.inl h))
       rw [List.pairwise_cons] at hPw;have hbl:=R.st b hb hs;obtain ⟨r',hr',hM,hend⟩:=z07a hG hb hxs ws (done++w.record.keys) (k+1) r.1 r.2.1 g3 R.inv R.fok (zs8 hbl hs) hS' (fun x hx=>hW x (List.mem_cons_of_mem _ hx)) hPw.2 (fun x hx y hy=>by
        rw [List.mem_append];rintro (h | h)
        · exact hD x (List.mem_cons_of_mem _ hx) y hy h
        · exact hPw.1 x hx y h hy)
       refine ⟨r',fun N i hi hN=>?_,⟨hM.inv,hM.fok,Nat.le_trans hM.gb R.gb,fun b' hb' hs'=>(hM.st b' hb' (zs8 (R.st b' hb' hs') hs')).trans (R.st b' hb' hs'),fun hsame=>?_⟩,fun h0=>?_⟩
       · rw [hround N i hi hN,he];exact hr' (N - 1) _ rfl (by simp only [List.length_cons] at hN;omega)
       · have e1:gbL r'.1.chip.blocks=gbL r.1.chip.blocks:=by have:=hM.gb;have:=R.gb;omega
         have e2:gbL r.1.chip.blocks=gbL d.chip.blocks:=by omega
         obtain ⟨m1,m2,m3⟩:=hM.same e1;obtain ⟨m4,m5⟩:=R.same e2;refine ⟨fun b' hb'=>(m1 b' hb').trans (m4 b' hb'),by simp only [List.length_cons];omega,fun v hv=>?_⟩;rcases m3 v hv with h | h | h
         · rcases hrefs v h with h | h | h | h
           · exact .inl (.inl h)
           · exact .inl (.inr h)
           · refine .inr (.inr ?_);rw [h];exact ⟨q2,q3,(m1 _ q3).trans q4⟩
           · exact .inr (.inl h)
         · exact .inr (.inl h)
         · exact .inr (.inr h)
       · obtain ⟨done',f1,f2,f3⟩:=hend h0;refine ⟨done',f1,fun x hx=>f2 x (List.mem_append_left _ hx),fun x hx y hy=>?_⟩;rcases List.mem_cons.1 hx with rfl | hx
         · exact f2 y (List.mem_append_right _ hy)
         · exact f3 x hx y hy
     · refine ⟨r,hstop (by omega),⟨R.inv,R.fok,R.gb,R.st,fun hsame=>?_⟩,fun h=>by omega⟩;obtain ⟨m1,m2⟩:=R.same hsame;refine ⟨m1,by simp only [List.length_cons];omega,fun v hv=>.inl ?_⟩;rw [R.full he] at hv;exact hv
theorem zs9 {l m:List Int} (h:m∈z5y l):m=l /\ l≠[]:=by
 unfold z5y at h;split at h
 · cases h
 · rename_i e;exact ⟨List.mem_singleton.1 h,e⟩
theorem zyg {c:Chip} {t:Table} {b p:Nat} {w:Write} (h:w∈pageM c t b p):(w=⟨(pageT c (b*16+p)).1.data,⟨1,0,z0q t (b*16+p),[]⟩⟩ /\ z0q t (b*16+p)≠[]) \/ (w=⟨[],⟨2,0,z3p t b (z80 t (b*16+p)),vals t (z3p t b (z80 t (b*16+p)))⟩⟩ /\ z3p t b (z80 t (b*16+p))≠[]):=by
 unfold pageM dataM chgM at h;rcases List.mem_append.1 h with h | h
 · obtain ⟨l,h1,rfl⟩:=List.mem_map.1 h;obtain ⟨rfl,h2⟩:=zs9 h1;exact .inl ⟨rfl,h2⟩
 · obtain ⟨l,h1,rfl⟩:=List.mem_map.1 h;obtain ⟨rfl,h2⟩:=zs9 h1;exact .inr ⟨rfl,h2⟩
def cls (t:Table) (b:Nat) (k:Int):Int:=if inB b (t.map.getD k.toNat 0) then 2*(t.map.getD k.toNat 0) else 2*(t.by_.getD k.toNat 0)+1
theorem zv1 {c:Chip} {t:Table} {b p:Nat} (hp:p<16) {w:Write} (h:w∈pageM c t b p):∃ x:Int,(x=0 /\ w.record.kind=1 \/ x=1 /\ w.record.kind=2) /\ ∀ k∈w.record.keys,cls t b k=2*(b*16+p)+x:=by
 rcases zyg h with ⟨rfl,_⟩ | ⟨rfl,_⟩
 · refine ⟨0,.inl ⟨rfl,rfl⟩,fun k hk=>?_⟩;obtain ⟨j,h1,rfl,h3⟩:=(zgr (t:=t) (p:=b*16+p) (by omega)).1 hk;unfold cls;have e:((j:Int)).toNat=j:=by omega
   rw [e,h3,if_pos ⟨by omega,by omega⟩];omega
 · refine ⟨1,.inr ⟨rfl,rfl⟩,fun k hk=>?_⟩;obtain ⟨hk1,hk2⟩:=List.mem_filter.1 hk;obtain ⟨j,h1,rfl,h3⟩:=(zkb (t:=t) (p:=b*16+p) (by omega)).1 hk1;have hn:¬ inB b (t.map.getD ((j:Int)).toNat 0):=by simpa using hk2
   unfold cls;rw [if_neg hn];have e:((j:Int)).toNat=j:=by omega
   rw [e,h3]
theorem zlf {c:Chip} {t:Table} {b:Nat}:∀ (m p:Nat) {w:Write},w∈movesL c t b m p->∃ p',p<=p' /\ p'<p+m /\ w∈pageM c t b p'
 | 0,p,w,h=>by cases h
 | m+1,p,w,h=>by
   unfold movesL at h;rcases List.mem_append.1 h with h | h
   · exact ⟨p,by omega,by omega,h⟩
   · obtain ⟨p',h1,h2,h3⟩:=zlf m (p+1) h;exact ⟨p',by omega,by omega,h3⟩
theorem zyh {c:Chip} {t:Table} {b:Nat}:∀ (m p:Nat),p+m<=16->(movesL c t b m p).Pairwise (fun w w'=>∀ k∈w.record.keys,k∉w'.record.keys)
 | 0,p,_=>.nil
 | m+1,p,h=>by
   unfold movesL;rw [List.pairwise_append];refine ⟨?_,zyh m (p+1) (by omega),fun w hw w' hw' k hk hk'=>?_⟩
   · have hall:∀ w∈pageM c t b p,∃ x:Int,(x=0 /\ w.record.kind=1 \/ x=1 /\ w.record.kind=2) /\ ∀ k∈w.record.keys,cls t b k=2*(b*16+p)+x:=fun w hw=>zv1 (by omega) hw
     unfold pageM at hall ⊢;rw [List.pairwise_append];have one:∀ (l:List Int) (f:List Int->Write),((z5y l).map f).Pairwise (fun w w'=>∀ k∈w.record.keys,k∉w'.record.keys):=fun l f=>by
      unfold z5y;split <;> simp
     refine ⟨one _ _,one _ _,fun w hw w' hw' k hk hk'=>?_⟩;obtain ⟨x,hx,h1⟩:=hall w (List.mem_append_left _ hw);obtain ⟨x',hx',h1'⟩:=hall w' (List.mem_append_right _ hw');have e:=(h1 k hk).symm.trans (h1' k hk');have k1:w.record.kind=1:=by obtain ⟨l,_,rfl⟩:=List.mem_map.1 hw;rfl
     have k2:w'.record.kind=2:=by obtain ⟨l,_,rfl⟩:=List.mem_map.1 hw';rfl
     omega
   · obtain ⟨x,hx,h1⟩:=zv1 (by omega) hw;obtain ⟨p',h2,h3,h4⟩:=zlf m (p+1) hw';obtain ⟨x',hx',h1'⟩:=zv1 (by omega) h4;have e:=(h1 k hk).symm.trans (h1' k hk');omega
theorem z09d {c:Chip} {place:Int} (hc:PagesOk c):(pageT c place).1.data.length<4294967296:=by
 unfold pageT;split
 · simp [z7z]
 · rename_i h;have h1:(place / 16).toNat<c.blocks.length:=by omega
   have h2:(place % 16).toNat<(c.blocks.getD (place / 16).toNat default).pages.length:=by omega
   exact (hc _ (zr h1) _ (zr h2)).2
theorem z04c {g:Geometry} {B P S:Nat} (hG:Gm g B P S) {d:Device} (h:DvI g B P S d) (b:Nat) {w:Write} (hw:w∈movesT d.chip d.table b):GoodW S d.table b w:=by
 obtain ⟨p,h1,h2,h3⟩:=zlf 16 0 hw;have hT:=h.tok hG;have hlm:=h.ta.lm;have hlb:=h.ta.lb;rcases zyg h3 with ⟨rfl,_⟩ | ⟨rfl,_⟩
 · have hl:=hT.o (b*16+p) (by omega);refine ⟨⟨⟨by show (z0q d.table (b*16+p)).length<4294967296;omega,by show (0:Nat)<_;omega⟩,z09d h.pk⟩,hl,fun k hk=>?_,.inl rfl⟩;obtain ⟨j,h1,rfl,_⟩:=(zgr (t:=d.table) (p:=b*16+p) (by omega)).1 hk;omega
 · have hl:=hT.s (b*16+p) (by omega);have hl2:(z3p d.table b (z80 d.table (b*16+p))).length<=8:=Nat.le_trans (List.length_filter_le ..) hl;refine ⟨⟨⟨by show (z3p d.table b (z80 d.table (b*16+p))).length<4294967296;omega,by show (vals d.table (z3p d.table b (z80 d.table (b*16+p)))).length<4294967296;unfold vals;rw [List.length_map];omega⟩,by show (0:Nat)<_;omega⟩,hl2,fun k hk=>?_,.inr ⟨rfl,rfl,fun k hk=>?_⟩⟩
   · obtain ⟨hk1,hk2⟩:=List.mem_filter.1 hk;obtain ⟨j,h1,rfl,h3⟩:=(zkb (t:=d.table) (p:=b*16+p) (by omega)).1 hk1;omega
   · obtain ⟨hk1,hk2⟩:=List.mem_filter.1 hk;simpa using hk2
theorem zlg {c:Chip} {t:Table} {b:Nat}:∀ (m p:Nat) (p':Nat),p<=p'->p'<p+m->∀ w∈pageM c t b p',w∈movesL c t b m p
 | 0,p,p',h1,h2,w,hw=>by omega
 | m+1,p,p',h1,h2,w,hw=>by
   unfold movesL;by_cases e:p=p'
   · subst e;exact List.mem_append_left _ hw
   · exact List.mem_append_right _ (zlg m (p+1) p' (by omega) (by omega) w hw)
theorem z07b {g:Geometry} {B P S:Nat} {d:Device} (h:DvI g B P S d) {b s:Nat} (hs:s<S) (hin:inB b (d.table.map.getD s 0) \/ inB b (d.table.by_.getD s 0)):∃ w∈movesT d.chip d.table b,(s:Int)∈w.record.keys:=by
 have hlm:=h.ta.lm;have hlb:=h.ta.lb;have mk:∀ {l:List Int} {x:Int},x∈l->z5y l=[l]:=fun {l x} hx=>by unfold z5y;rw [if_neg (fun e=>by rw [e] at hx;cases hx)]
 have e0:((s:Int)).toNat=s:=by omega
 by_cases hm:inB b (d.table.map.getD s 0)
 · have hk:(s:Int)∈z0q d.table (d.table.map.getD s 0):=(zgr hm.1).2 ⟨s,by omega,rfl,rfl⟩;obtain ⟨p,hp⟩:∃ p:Nat,d.table.map.getD s 0=(b*16+p:Int) /\ p<16:=⟨(d.table.map.getD s 0 % 16).toNat,by have:=hm.2;omega,by omega⟩;rw [hp.1] at hk;refine ⟨⟨(pageT d.chip (b*16+p)).1.data,⟨1,0,z0q d.table (b*16+p),[]⟩⟩,zlg 16 0 p (by omega) (by omega) _ ?_,(show (s:Int)∈z0q d.table (b*16+p) from hk)⟩;unfold pageM dataM;rw [mk hk];exact List.mem_append_left _ (List.mem_singleton.2 rfl)
 · have hm2:=hin.resolve_left hm;have hk:(s:Int)∈z80 d.table (d.table.by_.getD s 0):=(zkb hm2.1).2 ⟨s,by omega,rfl,rfl⟩;obtain ⟨p,hp⟩:∃ p:Nat,d.table.by_.getD s 0=(b*16+p:Int) /\ p<16:=⟨(d.table.by_.getD s 0 % 16).toNat,by have:=hm2.2;omega,by omega⟩;rw [hp.1] at hk;have hk2:(s:Int)∈z3p d.table b (z80 d.table (b*16+p)):=List.mem_filter.2 ⟨hk,by rw [e0,zF hm];rfl⟩;refine ⟨⟨[],⟨2,0,z3p d.table b (z80 d.table (b*16+p)),vals d.table (z3p d.table b (z80 d.table (b*16+p)))⟩⟩,zlg 16 0 p (by omega) (by omega) _ ?_,hk2⟩;unfold pageM chgM;rw [mk hk2];exact List.mem_append_right _ (List.mem_singleton.2 rfl)
theorem zyi {g:Geometry} {B P S:Nat} (hG:Gm g B P S) {d:Device} {b:Nat} (hb:b<B) {fs:List Fate} (hI:DvI g B P S d) (hF:FOk fs) (hs:stuck P d.chip b) :
 ∃ r,zb5 (d,(b:Int),fs)=some r /\ MoveR g B P S d (movesT d.chip d.table b).length b r /\ (r.2.2=0->∀ v,v∈r.1.table.map \/ v∈r.1.table.by_->¬ inB b v):=by
 have hlen:(movesT d.chip d.table b).length<=32:=by
  have:∀ m p,(movesL d.chip d.table b m p).length<=2*m:=fun m=>by
   induction m with
   | zero=>intro p;exact Nat.le_refl _
   | succ m ih=>intro p;unfold movesL;rw [List.length_append];have:=zyf d.chip d.table b p;have:=ih (p+1);omega
  exact this 16 0
 obtain ⟨r,hr,hM,hend⟩:=z07a hG (t0:=d.table) hb (xs:=movesT d.chip d.table b) (by omega) (movesT d.chip d.table b) [] 0 d fs rfl hI hF hs (fun s _=>⟨fun h=>(List.not_mem_nil h).elim,fun _=>⟨rfl,rfl⟩⟩) (fun w hw=>z04c hG hI b hw) (zyh 16 0 (by omega)) (fun _ _ _ _ h=>(List.not_mem_nil h).elim);refine ⟨r,zy 40 fun N hN=>?_,hM,fun h0 v hv=>?_⟩
 · show zb4 N d b fs=_;unfold zb4;rw [z0cc (hI.tok hG) (by have:=hG.b2;omega),z7];exact hr N 0 rfl (by omega)
 · obtain ⟨done,hS,_,hall⟩:=hend h0;have key:∀ s:Nat,s<S->¬ inB b (r.1.table.map.getD s 0) /\ ¬ inB b (r.1.table.by_.getD s 0):=fun s hsS=>by
    obtain ⟨s1,s2⟩:=hS s hsS;by_cases hm:(s:Int)∈done
    · exact s1 hm
    · obtain ⟨e1,e2⟩:=s2 hm;rw [e1,e2];have hno:¬ (inB b (d.table.map.getD s 0) \/ inB b (d.table.by_.getD s 0)):=fun h=>by
       obtain ⟨w,hw,hk⟩:=z07b hI hsS h;exact hm (hall w hw _ hk)
      exact ⟨fun h=>hno (.inl h),fun h=>hno (.inr h)⟩
   rcases hv with hv | hv
   · obtain ⟨s,hs,rfl⟩:=List.getElem_of_mem hv;have:=(key s (by rw [<- hM.inv.ta.lm];exact hs)).1;rwa [zI,zH hs] at this
   · obtain ⟨s,hs,rfl⟩:=List.getElem_of_mem hv;have:=(key s (by rw [<- hM.inv.ta.lb];exact hs)).2;rwa [zI,zH hs] at this
end Clk
namespace Clk
open Go
def countL (t:Table) (b:Nat):Nat->Nat->Nat
 | 0,_=>0
 | m+1,p=>(if liveT t (b*16+p)=true then 1 else 0)+countL t b m (p+1)
def countT (t:Table) (b:Nat):Nat:=countL t b 16 0
theorem zv2 {t:Table} (ht:TabOk t) {b:Nat} (hb:b<32):∀ (m N p n:Nat) (i n':Int),p+m=16->i=p->n'=n->n<=p->m<N->ze z7x N ((b:Int),n',i,t)=some ((n+countL t b m p:Nat):Int)
 | m,0,_,_,_,_,_,_,_,_,h=>by omega
 | 0,N+1,p,n,i,n',h1,h2,h3,h4,_=>by
   rw [z6,za0];unfold z4i countL;dsimp only;rw [zF (by omega),zD,h3];rfl
 | m+1,N+1,p,n,i,n',h1,h2,h3,h4,h5=>by
   subst h2 h3;rw [z6,za0];unfold z4i countL;dsimp only;have e1:w64 (w64 ((b:Int)*16)+p)=b*16+p:=by
    rw [zf (n:=(b:Int)*16) (by omega) (by omega),zf (by omega) (by omega)]
   rw [zT (by omega),zC,zT (by omega),zC,zT (by omega),zC,e1,z0dd ht,z7,zf (n:=(p:Int)+1) (by omega) (by omega)];cases hl:liveT t (b*16+p) with
   | true =>
     rw [zC,if_pos rfl,zf (by omega) (by omega),zv2 ht hb m N (p+1) (n+1) _ _ (by omega) (by omega) (by omega) (by omega) (by omega)];congr 2;omega
   | false =>
     rw [zD,if_neg Bool.false_ne_true,zv2 ht hb m N (p+1) n _ _ (by omega) (by omega) (by omega) (by omega) (by omega)];congr 2;omega
theorem zkc {t:Table} (ht:TabOk t) {b:Nat} (hb:b<32):z8s (t,(b:Int))=some ((countT t b:Nat):Int):=by
 refine zy 20 fun N hN=>?_
 have h:=zv2 ht hb 16 N 0 0 0 0 rfl rfl rfl (Nat.le_refl _) (by omega);rw [Nat.zero_add] at h;exact h
def reffed (t:Table) (b:Nat):Bool:=t.map.any (fun v=>decide (inB b v))||t.by_.any (fun v=>decide (inB b v))
theorem zgt {t:Table} {b:Nat}:reffed t b=true↔∃ v,(v∈t.map \/ v∈t.by_) /\ inB b v:=by
 unfold reffed;rw [Bool.or_eq_true,List.any_eq_true,List.any_eq_true];constructor
 · rintro (⟨v,h1,h2⟩ | ⟨v,h1,h2⟩)
   · exact ⟨v,.inl h1,by simpa using h2⟩
   · exact ⟨v,.inr h1,by simpa using h2⟩
 · rintro ⟨v,h1 | h1,h2⟩
   · exact .inl ⟨v,h1,by simpa using h2⟩
   · exact .inr ⟨v,h1,by simpa using h2⟩
theorem z02l {t:Table} {q:Int} (hq:0<=q):liveT t q=true↔q∈t.map \/ q∈t.by_:=by
 unfold liveT;rw [Bool.or_eq_true,decide_eq_true_eq,decide_eq_true_eq,zle hq,z02i hq,List.count_pos_iff,List.count_pos_iff]
theorem zsa {t:Table} {b:Nat}:∀ (m p:Nat),0<countL t b m p↔∃ p',p<=p' /\ p'<p+m /\ liveT t (b*16+p')=true
 | 0,p=>by
   constructor
   · intro h;exact absurd h (by unfold countL;omega)
   · rintro ⟨p',h1,h2,_⟩;omega
 | m+1,p=>by
   unfold countL;have ih:=zsa (t:=t) (b:=b) m (p+1);constructor
   · intro h;by_cases c:liveT t (b*16+p)=true
     · exact ⟨p,Nat.le_refl _,by omega,c⟩
     · rw [if_neg c] at h;obtain ⟨p',h1,h2,h3⟩:=ih.1 (by omega);exact ⟨p',by omega,by omega,h3⟩
   · rintro ⟨p',h1,h2,h3⟩
     by_cases e:p'=p
     · subst e;rw [if_pos h3];omega
     · have:=ih.2 ⟨p',by omega,by omega,h3⟩;omega
theorem zmn {t:Table} {b:Nat}:0<countT t b↔reffed t b=true:=by
 unfold countT;rw [zsa,zgt];constructor
 · rintro ⟨p,_,h2,h3⟩
   exact ⟨_,(z02l (by omega)).1 h3,by omega,by omega⟩
 · rintro ⟨v,h1,h2,h3⟩
   refine ⟨(v % 16).toNat,by omega,by omega,?_⟩;have e:(b:Int)*16+((v % 16).toNat:Nat)=v:=by omega
   rw [e];exact (z02l h2).2 h1
def z81 (d:Device) (b:Nat):Bool:=(blk d.chip b).bad&&reffed d.table b
theorem z07c {g:Geometry} {B P S:Nat} (hG:Gm g B P S) {d:Device} (hI:DvI g B P S d):∀ (m N b:Nat) (i:Int),b+m=B->i=b->m<N->∃ v,(∀ N,m<N->ze z5n N ((b:Int),d)=some v) /\ ((v = -1 /\ ∀ b',b<=b'->b'<B->z81 d b'=false) \/ ∃ b':Nat,b'<B /\ v=b' /\ z81 d b'=true)
 | 0,_,b,i,h1,h2,_=>by
   refine ⟨-1,fun N hN=>?_,.inl ⟨rfl,fun b' _ _=>by omega⟩⟩;obtain ⟨N,rfl⟩:∃ M,N=M+1:=⟨N - 1,by omega⟩;rw [z6,zb6];unfold z5m;dsimp only;rw [hI.ch.len,zF (by omega),zD]
 | m+1,N0,b,i,h1,h2,h3=>by
   obtain ⟨v,hv,hs⟩:=z07c hG hI m (N0 - 1) (b+1) _ (by omega) rfl (by omega);have hB2:=hG.b2;have eb:((b:Int)).toNat=b:=by omega
   have round:∀ N,m+1<N->ze z5n N ((b:Int),d)=cond (blk d.chip b).bad (cond (decide (0<countT d.table b)) (some (b:Int)) (some v)) (some v):=fun N hN=>by
    obtain ⟨N,rfl⟩:∃ M,N=M+1:=⟨N - 1,by omega⟩;rw [z6,zb6];unfold z5m;dsimp only;rw [hI.ch.len,zT (by omega),zC,zT (by omega),zC,eb,zkc (hI.ok hG).2 (by omega),z7,zf (by omega) (by omega)];have:=hv N (by omega);rw [show ((b:Int)+1)=((b+1:Nat):Int) by omega,this];have e2:decide (0<((countT d.table b:Nat):Int))=decide (0<countT d.table b):=by rw [Bool.eq_iff_iff];simp
    rw [e2];rfl
   by_cases hl:z81 d b=true
   · refine ⟨b,fun N hN=>?_,.inr ⟨b,by omega,rfl,hl⟩⟩;unfold z81 at hl;rw [Bool.and_eq_true] at hl;rw [round N hN,hl.1,zC,zT (zmn.2 hl.2),zC]
   · have hl':z81 d b=false:=by simpa using hl
     refine ⟨v,fun N hN=>?_,?_⟩
     · rw [round N hN];unfold z81 at hl';cases hbad:(blk d.chip b).bad with
       | false=>rw [zD]
       | true =>
         rw [hbad,Bool.true_and] at hl';rw [zC,zF (fun h=>by rw [zmn.1 h] at hl';cases hl'),zD]
     · rcases hs with ⟨e,h⟩ | h
       · refine .inl ⟨e,fun b' h4 h5=>?_⟩;by_cases e2:b'=b
         · rw [e2];exact hl'
         · exact h b' (by omega) h5
       · exact .inr h
theorem z07d {g:Geometry} {B P S:Nat} (hG:Gm g B P S) {d:Device} (hI:DvI g B P S d):∃ v,z7g d=some v /\ ((v = -1 /\ ∀ b',b'<B->z81 d b'=false) \/ ∃ b':Nat,b'<B /\ v=b' /\ z81 d b'=true):=by
 obtain ⟨v,hv,hs⟩:=z07c hG hI B (B+1) 0 0 (by omega) rfl (by omega);exact ⟨v,zy (B+1) fun N hN=>hv N (by omega),hs.imp (fun h=>⟨h.1,fun b' hb'=>h.2 b' (Nat.zero_le _) hb'⟩) id⟩
def lostN (B:Nat) (d:Device):Nat:=(List.range B).countP (z81 d)
theorem zyj {α:Type} {p q:α->Bool}:∀ {l:List α},(∀ x∈l,p x=true->q x=true)->(∃ x∈l,q x=true /\ p x=false)->l.countP p<l.countP q
 | [],_,h=>by obtain ⟨x,hx,_⟩:=h;cases hx
 | a::l,h1,⟨x,hx,h2,h3⟩=>by
   rw [List.countP_cons,List.countP_cons];have hle:l.countP p<=l.countP q:=List.countP_mono_left fun x hx h=>h1 x (List.mem_cons_of_mem _ hx) h
   rcases List.mem_cons.1 hx with rfl | hx
   · rw [h2,h3,if_pos rfl,if_neg Bool.false_ne_true];omega
   · have:=zyj (fun x hx h=>h1 x (List.mem_cons_of_mem _ hx) h) ⟨x,hx,h2,h3⟩;have:=h1 a (List.mem_cons_self ..);by_cases c:p a=true
     · rw [if_pos c,if_pos (this c)];omega
     · rw [if_neg c];split <;> omega
theorem z02m (B:Nat) (d:Device):lostN B d<=B:=by
 unfold lostN;have:=List.countP_le_length (p:=z81 d) (l:=List.range B);rwa [List.length_range] at this
theorem zyk {g:Geometry} {B P S:Nat} {d:Device} {n b:Nat} {r:Device×List Fate×Int} (hM:MoveR g B P S d n b r) (hsame:gbL r.1.chip.blocks=gbL d.chip.blocks) {b':Nat} (hb':b'<B) (h:z81 r.1 b'=true):z81 d b'=true:=by
 obtain ⟨m1,_,m3⟩:=hM.same hsame;unfold z81 at h ⊢;rw [Bool.and_eq_true] at h ⊢;refine ⟨(m1 b' hb').symm.trans h.1,zgt.2 ?_⟩;obtain ⟨v,h1,h2⟩:=zgt.1 h.2;rcases m3 v h1 with h3 | h3 | ⟨h3,h4,h5⟩
 · exact ⟨v,h3,h2⟩
 · have:=h2.1;omega
 · have e:(v / 16).toNat=b':=by have:=h2.2;omega
   rw [e,h.1] at h5;cases h5
def Less (B:Nat) (d r:Device):Prop:=gbL r.chip.blocks<gbL d.chip.blocks \/ (gbL r.chip.blocks=gbL d.chip.blocks /\ lostN B r<lostN B d)
theorem Less.trans {B:Nat} {a b c:Device} (h:Less B b c) (k:Less B a b):Less B a c:=by
 unfold Less at *;omega
theorem zyl {g:Geometry} {B P S:Nat} (hG:Gm g B P S):∀ (m:Nat) (d:Device) (fs:List Fate) (b:Int),gbL d.chip.blocks*100+lostN B d<=m->DvI g B P S d->FOk fs->((b = -1 /\ ∀ b',b'<B->z81 d b'=false) \/ ∃ b':Nat,b'<B /\ b=b' /\ z81 d b'=true) ->
 ∃ r,(∀ N,m<N->ze z1k N (fs,b,d)=some r) /\ DvI g B P S r.1 /\ FOk r.2.1 /\ (r.2.2=0->(r.1=d \/ Less B d r.1))
 | m,d,fs,b,hm,hI,hF,.inl ⟨hb,hno⟩=>by
   refine ⟨(d,fs,0),fun N hN=>?_,hI,hF,fun _=>.inl rfl⟩;obtain ⟨N,rfl⟩:∃ M,N=M+1:=⟨N - 1,by omega⟩;rw [z6,z3r];unfold z3g;dsimp only;rw [hb,zF (by omega),zD]
 | m,d,fs,b,hm,hI,hF,.inr ⟨b',hb',e,hl⟩=>by
   have hbad:(blk d.chip b').bad=true:=by
    unfold z81 at hl;rw [Bool.and_eq_true] at hl;exact hl.1
   obtain ⟨r,hr,hM,hend⟩:=zyi hG hb' hI hF (fs:=fs) (.inl hbad);have round:∀ N,m<N->ze z1k N (fs,b,d)=cond (!(decide (r.2.2=0))) (some (r.1,r.2.1,r.2.2)) (Option.bind (z7g r.1) fun r5=>ze z1k (N - 1) (r.2.1,r5,r.1)):=fun N hN=>by
    obtain ⟨N,rfl⟩:∃ M,N=M+1:=⟨N - 1,by omega⟩;rw [z6,z3r];unfold z3g;dsimp only;rw [e,zT (by omega),zC,hr,z7];rfl
   by_cases he:r.2.2=0
   · have hless:Less B d r.1:=by
      have h1:=hM.gb;by_cases hsame:gbL r.1.chip.blocks=gbL d.chip.blocks
      · refine .inr ⟨hsame,?_⟩;unfold lostN;refine zyj (fun x hx h=>zyk hM hsame (List.mem_range.1 hx) h) ⟨b',List.mem_range.2 hb',hl,?_⟩;cases h2:z81 r.1 b' with
        | false=>rfl
        | true =>
          unfold z81 at h2;rw [Bool.and_eq_true] at h2;obtain ⟨v,h3,h4⟩:=zgt.1 h2.2;exact absurd h4 (hend he v h3)
      · exact .inl (by omega)
     have hlt:gbL r.1.chip.blocks*100+lostN B r.1<m:=by
      have:=z02m B r.1;have:=hG.b2;rcases hless with h | ⟨h1,h2⟩ <;> omega
     obtain ⟨v,hv,hs⟩:=z07d hG hM.inv;obtain ⟨r',h1,h2,h3,h4⟩:=zyl hG (m - 1) r.1 r.2.1 v (by omega) hM.inv hM.fok hs;refine ⟨r',fun N hN=>?_,h2,h3,fun h0=>.inr ?_⟩
     · rw [round N hN,zT he,Bool.not_true,zD,hv,z7,h1 (N - 1) (by omega)]
     · rcases h4 h0 with h5 | h5
       · rw [h5];exact hless
       · exact h5.trans hless
   · refine ⟨r,fun N hN=>?_,hM.inv,hM.fok,fun h=>absurd h he⟩;rw [round N hN,zF he,Bool.not_false,zC]
termination_by m=>m
decreasing_by omega
theorem zpt {g:Geometry} {B P S:Nat} (hG:Gm g B P S) {d:Device} {fs:List Fate} (hI:DvI g B P S d) (hF:FOk fs):∃ r,z0t (d,fs)=some r /\ DvI g B P S r.1 /\ FOk r.2.1 /\ (r.2.2=0->(r.1=d \/ Less B d r.1)):=by
 obtain ⟨v,hv,hs⟩:=z07d hG hI;obtain ⟨r,h1,h2⟩:=zyl hG _ d fs v (Nat.le_refl _) hI hF hs;refine ⟨r,zy (gbL d.chip.blocks*100+lostN B d+1) fun N hN=>?_,h2⟩;show z28 N d fs=_;unfold z28;rw [hv,z7];exact h1 N (by omega)
end Clk
namespace Clk
open Go
def VicOk (B P:Nat) (d:Device) (v:Int):Prop:=∃ i:Nat,i<B /\ v=i /\ z0h d.chip d.opn i=2 /\ countT d.table i<P
theorem zpu {g:Geometry} {B P S:Nat} (hG:Gm g B P S) {d:Device} (hI:DvI g B P S d):∀ (m i:Nat) (best cnt:Int),i+m=B->(best = -1 \/ VicOk B P d best)->∃ v,(∀ N,m<N->ze z1l N (d.opn,best,cnt,(i:Int),d.chip,d.table)=some v) /\ (v = -1 \/ VicOk B P d v)
 | 0,i,best,cnt,h1,hb=>by
   refine ⟨best,fun N hN=>?_,hb⟩;obtain ⟨N,rfl⟩:∃ M,N=M+1:=⟨N - 1,by omega⟩;rw [z6,z88];unfold zu;dsimp only;rw [hI.ch.len,zF (by omega),zD]
 | m+1,i,best,cnt,h1,hb=>by
   have hB2:=hG.b2;have ei:((i:Int)).toNat=i:=by omega
   have hpg:=hI.ch.pg i (by omega);unfold blk at hpg;obtain ⟨v1,hv1,hs1⟩:=zpu hG hI m (i+1) best cnt (by omega) hb;have hnx:w64 ((i:Int)+1)=((i+1:Nat):Int):=by rw [zf (by omega) (by omega)];rfl
   have round:∀ N,m+1<N->ze z1l N (d.opn,best,cnt,(i:Int),d.chip,d.table)=zu (ze z1l (N - 1)) d.opn best cnt i d.chip d.table:=fun N hN=>by
    obtain ⟨N,rfl⟩:∃ M,N=M+1:=⟨N - 1,by omega⟩;rw [z6,z88];rfl
   have dA:decide ((i:Int)<(B:Int))=true:=zT (by omega);have dB:decide ((i:Int)<32)=true:=zT (by omega);have dC:decide (0<=(i:Int))=true:=zT (by omega);have hstate:=z5x (hI.ok hG).1 d.opn i;have hcount:=zkc (hI.ok hG).2 (b:=i) (by omega);by_cases c1:z0h d.chip d.opn i=2
   · by_cases c2:countT d.table i<P
     · have hok:VicOk B P d i:=⟨i,by omega,rfl,c1,c2⟩;have dP:decide ((P:Int)<=((countT d.table i:Nat):Int))=false:=zF (by omega);obtain ⟨v2,hv2,hs2⟩:=zpu hG hI m (i+1) (i:Int) (countT d.table i) (by omega) (.inr hok);have hbest:best<0 \/ (0<=best /\ best<B):=by
        rcases hb with h | ⟨j,h1,h2,_⟩ <;> omega
       by_cases c3:best<0
       · refine ⟨v2,fun N hN=>?_,hs2⟩;rw [round N hN];unfold zu;have d3:decide (best<0)=true:=zT c3;simp only [hI.ch.len,hcount,hstate,z7,ei,hpg,hnx,dA,dB,dC,dP,decide_true,Bool.not_true,zD,zC,c1,d3,hv2 (N - 1) (by omega)]
       · have d3:decide (best<0)=false:=zF c3;have dD:decide (0<=best)=true:=zT (by omega);have dE:decide (best<(B:Int))=true:=zT (by omega);by_cases c4:((countT d.table i:Nat):Int)<cnt
         · refine ⟨v2,fun N hN=>?_,hs2⟩;rw [round N hN];unfold zu;have d4:decide (((countT d.table i:Nat):Int)<cnt)=true:=zT c4;simp only [hI.ch.len,hcount,hstate,z7,ei,hpg,hnx,dA,dB,dC,dP,decide_true,Bool.not_true,zD,zC,c1,d3,d4,hv2 (N - 1) (by omega)]
         · have d4:decide (((countT d.table i:Nat):Int)<cnt)=false:=zF c4;by_cases c5:((countT d.table i:Nat):Int)=cnt
           · have d5:decide (((countT d.table i:Nat):Int)=cnt)=true:=zT c5;by_cases c6:(d.chip.blocks.getD i default).erases<(d.chip.blocks.getD best.toNat default).erases
             · refine ⟨v2,fun N hN=>?_,hs2⟩;rw [round N hN];unfold zu;have d6:decide ((d.chip.blocks.getD i default).erases<(d.chip.blocks.getD best.toNat default).erases)=true:=zT c6;simp only [hI.ch.len,hcount,hstate,z7,ei,hpg,hnx,dA,dB,dC,dP,decide_true,Bool.not_true,zD,zC,c1,d3,d4,d5,d6,dD,dE,hv2 (N - 1) (by omega)]
             · refine ⟨v1,fun N hN=>?_,hs1⟩;rw [round N hN];unfold zu;have d6:decide ((d.chip.blocks.getD i default).erases<(d.chip.blocks.getD best.toNat default).erases)=false:=zF c6;simp only [hI.ch.len,hcount,hstate,z7,ei,hpg,hnx,dA,dB,dC,dP,decide_true,Bool.not_true,zD,zC,c1,d3,d4,d5,d6,dD,dE,hv1 (N - 1) (by omega)]
           · refine ⟨v1,fun N hN=>?_,hs1⟩;rw [round N hN];unfold zu;have d5:decide (((countT d.table i:Nat):Int)=cnt)=false:=zF c5;simp only [hI.ch.len,hcount,hstate,z7,ei,hpg,hnx,dA,dB,dC,dP,decide_true,Bool.not_true,zD,zC,c1,d3,d4,d5,hv1 (N - 1) (by omega)]
     · refine ⟨v1,fun N hN=>?_,hs1⟩;rw [round N hN];unfold zu;have dP:decide ((P:Int)<=((countT d.table i:Nat):Int))=true:=zT (by omega);simp only [hI.ch.len,hcount,hstate,z7,ei,hpg,hnx,dA,dB,dC,dP,decide_true,Bool.not_true,zD,zC,c1,hv1 (N - 1) (by omega)]
   · refine ⟨v1,fun N hN=>?_,hs1⟩;rw [round N hN];unfold zu;have d1:decide (z0h d.chip d.opn i=2)=false:=zF c1;simp only [hI.ch.len,hcount,hstate,z7,ei,hpg,hnx,dA,dB,dC,decide_true,Bool.not_true,zD,zC,d1,Bool.not_false,hv1 (N - 1) (by omega)]
theorem z09e {g:Geometry} {B P S:Nat} (hG:Gm g B P S) {d:Device} (hI:DvI g B P S d):∃ v,zbq (d.chip,d.table,d.opn)=some v /\ (v = -1 \/ VicOk B P d v):=by
 obtain ⟨v,hv,hs⟩:=zpu hG hI B 0 (-1) 0 (by omega) (.inl rfl);exact ⟨v,zy (B+1) fun N hN=>hv N (by omega),hs⟩
def z0n (c:Chip) (o st:Int):Nat->Nat->Nat
 | 0,_=>0
 | m+1,i=>(if z0h c o i=st then 1 else 0)+z0n c o st m (i+1)
def manyT (c:Chip) (o st:Int):Nat:=z0n c o st c.blocks.length 0
theorem z00t {c:Chip} (hc:z0g c) {o st:Int}:∀ (m N i n:Nat) (ii n':Int),i+m=c.blocks.length->ii=i->n'=n->n<=i->m<N->ze za1 N (o,st,n',ii,c)=some ((n+z0n c o st m i:Nat):Int)
 | m,0,_,_,_,_,_,_,_,_,h=>by omega
 | 0,N+1,i,n,ii,n',h1,h2,h3,h4,_=>by
   rw [z6,zb7];unfold z5o z0n;dsimp only;rw [zF (by omega),zD,h3];rfl
 | m+1,N+1,i,n,ii,n',h1,h2,h3,h4,h5=>by
   subst h2 h3;have:=hc.1;rw [z6,zb7];unfold z5o z0n;dsimp only;rw [zT (by omega),zC,z5x hc,z7,zf (n:=(i:Int)+1) (by omega) (by omega)];by_cases e:z0h c o i=st
   · rw [zT e,zC,if_pos e,zf (by omega) (by omega),z00t hc m N (i+1) (n+1) _ _ (by omega) (by omega) (by omega) (by omega) (by omega)];congr 2;omega
   · rw [zF e,zD,if_neg e,z00t hc m N (i+1) n _ _ (by omega) (by omega) (by omega) (by omega) (by omega)];congr 2;omega
theorem zmo {c:Chip} (hc:z0g c) (o st:Int):zf5 (c,o,st)=some ((manyT c o st:Nat):Int):=by
 refine zy (c.blocks.length+1) fun N hN=>?_
 have h:=z00t hc (o:=o) (st:=st) c.blocks.length N 0 0 0 0 (Nat.zero_add _) rfl rfl (Nat.le_refl _) (by omega);rw [Nat.zero_add] at h;exact h
theorem z02n:∀ (i:Nat) (l:List Page) (n:Int),anyW (clrT true n i l)=false
 | _,[],_=>rfl
 | i,p::l,n=>by
   unfold clrT;rw [if_pos (.inl rfl)];show (z7z.written||anyW (clrT true n (i+1) l))=false;rw [z02n (i+1) l n];rfl
theorem z09f {B P:Nat} {c:Chip} {o:Int} (hP:0<P) (hB:B<=32) (h:ChI B P c o) {i:Nat} (hi:i<B) (hg:(blk c i).bad=false) (hn:(blk c i).next=P) {f:Fate} (hf:f.kind=0 \/ f.kind=1) :
 ChI B P (zgp c i f).1 o /\ ((zgp c i f).2=0 /\ gbL (zgp c i f).1.blocks=gbL c.blocks /\ zhi (zgp c i f).1.blocks+P=zhi c.blocks /\ (∀ j,j<B->(blk (zgp c i f).1 j).bad=(blk c j).bad) \/ (zgp c i f).2=53 /\ gbL (zgp c i f).1.blocks+1=gbL c.blocks) /\
 ∀ v,wrt c v->¬ inB i v->wrt (zgp c i f).1 v:=by
 have hlen:=h.len;have e0:((i:Nat):Int).toNat=i:=by omega
 have hcan:canEra c i f=true:=by
  unfold canEra;have hg':(c.blocks.getD i default).bad=false:=hg;rw [e0,hg',zT (by omega),zT (by omega),zT (by omega),zT (by omega)];rfl
 have hera:zgp c i f=(⟨c.blocks.set i (z4j (blk c i) f),c.broken,decide (f.kind=2),w64 (c.ops+1)⟩,if f.kind=0 then 0 else if f.kind=1 then 53 else 52):=by
  unfold zgp;rw [if_neg (by rw [h.off];simp),if_pos hcan,e0];rfl
 have hbi:blk (zgp c i f).1 i=z4j (blk c i) f:=by rw [hera];exact z0k (by omega)
 have hbj:∀ j,j<B->j≠i->blk (zgp c i f).1 j=blk c j:=fun j hj hne=>by
  rw [hera];show (c.blocks.set i _).getD j default=_;rw [z3i,if_neg (fun h=>hne h.1.symm)];rfl
 have hlen':(zgp c i f).1.blocks.length=B:=by rw [hera];simp [hlen]
 have hoff:(zgp c i f).1.off=false:=by rw [hera];exact zF (by omega)
 have hw:∀ v,wrt c v->¬ inB i v->wrt (zgp c i f).1 v:=fun v ⟨h1,h2,h3⟩ hni=>by
  have hne:(v / 16).toNat≠i:=fun e=>hni ⟨h1,by omega⟩
  exact ⟨h1,by rw [hlen'];omega,by rw [hbj _ (by omega) hne];exact h3⟩
 have hpg:=h.pg i hi;have hus:=zuw (l:=c.blocks) (i:=i) (y:=z4j (blk c i) f) (by omega);have e2:c.blocks.getD i default=blk c i:=rfl;rw [e2,hg,if_neg Bool.false_ne_true,hn] at hus;rcases hf with hk | hk
 · have hb:z4j (blk c i) f=⟨clrT true f.n 0 (blk c i).pages,0,w64 ((blk c i).erases+1),(blk c i).bad⟩:=by
    unfold z4j;rw [if_neg (by omega),zT hk,if_neg (by omega)]
   refine ⟨⟨hlen',hoff,fun j hj=>?_,fun j hj=>?_,fun j hj=>?_,fun j hj hgj hne=>?_,h.lo⟩,.inl ⟨?_,?_,?_,fun j hj=>?_⟩,hw⟩
   · by_cases e:j=i
     · rw [e,hbi,hb];show (clrT _ _ _ _).length=P;rw [z025];exact hpg
     · rw [hbj j hj e];exact h.pg j hj
   · by_cases e:j=i
     · rw [e,hbi,hb];exact ⟨Int.le_refl _,by show (0:Int)<=P;omega⟩
     · rw [hbj j hj e];exact h.nx j hj
   · by_cases e:j=i
     · rw [e,hbi,hb];exact z02n _ _ _
     · rw [hbj j hj e];exact h.wr j hj
   · by_cases e:j=i
     · rw [e,hbi,hb];exact .inl rfl
     · rw [hbj j hj e] at hgj ⊢;exact h.op j hj hgj hne
   · rw [hera];exact if_pos hk
   · rw [hera];exact zux (by omega) hg (by rw [hb];exact hg)
   · rw [hera];show zhi (c.blocks.set i (z4j (blk c i) f))+P=_;rw [hb] at hus ⊢;have e3:(if (blk c i).bad=true then 0 else (0:Int).toNat)=0:=by rw [hg];rfl
     have e4:(((P:Nat):Int)).toNat=P:=by omega
     rw [e3,e4] at hus;omega
   · by_cases e:j=i
     · rw [e,hbi,hb]
     · rw [hbj j hj e]
 · have hb:z4j (blk c i) f=⟨(blk c i).pages,(blk c i).next,(blk c i).erases,true⟩:=by
    unfold z4j;rw [if_pos hk]
   refine ⟨⟨hlen',hoff,fun j hj=>?_,fun j hj=>?_,fun j hj=>?_,fun j hj hgj hne=>?_,h.lo⟩,.inr ⟨?_,?_⟩,hw⟩
   · by_cases e:j=i
     · rw [e,hbi,hb];exact hpg
     · rw [hbj j hj e];exact h.pg j hj
   · by_cases e:j=i
     · rw [e,hbi,hb];exact h.nx i hi
     · rw [hbj j hj e];exact h.nx j hj
   · by_cases e:j=i
     · rw [e,hbi,hb];exact h.wr i hi
     · rw [hbj j hj e];exact h.wr j hj
   · by_cases e:j=i
     · rw [e,hbi,hb] at hgj;cases hgj
     · rw [hbj j hj e] at hgj ⊢;exact h.op j hj hgj hne
   · rw [hera];show (if f.kind=0 then (0:Int) else if f.kind=1 then 53 else 52)=53;rw [if_neg (by omega),if_pos hk]
   · rw [hera];exact z00o (by omega) hg (by rw [hb])
theorem zmp {g:Geometry} {B P S:Nat} (hG:Gm g B P S) {d:Device} (hI:DvI g B P S d) (b:Nat):∀ (m p:Nat),p+m<=16->(movesL d.chip d.table b m p).length<=countL d.table b m p
 | 0,p,_=>Nat.le_refl _
 | m+1,p,hpm=>by
   unfold movesL countL;rw [List.length_append];have ih:=zmp hG hI b m (p+1) (by omega);have hq:(0:Int)<=b*16+p:=by omega
   have hlm:=hI.ta.lm;have hlb:=hI.ta.lb;have hp:(pageM d.chip d.table b p).length<=if liveT d.table (b*16+p)=true then 1 else 0:=by
    unfold pageM dataM chgM;rw [List.length_append,List.length_map,List.length_map];have l1:=zgs (z0q d.table (b*16+p));have l2:=zgs (z3p d.table b (z80 d.table (b*16+p)));have n0:∀ l:List Int,l=[]->(z5y l).length=0:=fun l e=>by unfold z5y;rw [if_pos e];rfl
    by_cases ho:z0q d.table (b*16+p)=[]
    · rw [n0 _ ho];by_cases hs:z80 d.table (b*16+p)=[]
      · rw [n0 _ (by rw [hs];rfl)];split <;> omega
      · have:liveT d.table (b*16+p)=true:=by
         unfold liveT;rw [Bool.or_eq_true];exact .inr (zT (List.length_pos_iff.2 hs))
        rw [if_pos this];omega
    · have hlive:liveT d.table (b*16+p)=true:=by
       unfold liveT;rw [Bool.or_eq_true];exact .inl (zT (List.length_pos_iff.2 ho))
      rw [if_pos hlive,n0 (z3p d.table b (z80 d.table (b*16+p))) ?_]
      · omega
      · refine List.filter_eq_nil_iff.2 fun x hx=>?_
        obtain ⟨j,h1,rfl,h3⟩:=(zkb hq).1 hx;obtain ⟨y,hy⟩:=List.exists_mem_of_ne_nil _ ho;obtain ⟨k,k1,rfl,k3⟩:=(zgr hq).1 hy;have:=hI.ta.tw k j (by omega) (by omega) (by rw [k3];exact hq) (by rw [h3,k3]);have e:((j:Int)).toNat=j:=by omega
        rw [e,this,k3];have h:inB b ((b:Int)*16+p):=⟨hq,by omega⟩;rw [zT h];simp
   omega
end Clk
namespace Clk
open Go
theorem z07e:∀ {l:List Block},(∀ b∈l,b.next<=16)->zhi l<=16*l.length
 | [],_=>Nat.le_refl _
 | b::l,h=>by
   have h1:=h b (List.mem_cons_self ..);have:=z07e (l:=l) fun x hx=>h x (List.mem_cons_of_mem _ hx)
   unfold zhi;rw [List.length_cons];split <;> omega
theorem DvI.used_lt {g:Geometry} {B P S:Nat} (hG:Gm g B P S) {d:Device} (h:DvI g B P S d):zhi d.chip.blocks<=512:=by
 have h1:=z07e (l:=d.chip.blocks) fun b hb=>by
  obtain ⟨i,hi,rfl⟩:=List.getElem_of_mem hb;have:=(h.ch.nx i (by rw [<- h.ch.len];exact hi)).2;have e:blk d.chip i=d.chip.blocks[i]:=by unfold blk;rw [zI,zH hi];rfl
  rw [e] at this;have:=hG.p2;omega
 have:=h.ch.len;have:=hG.b2;omega
def meas (B:Nat) (d:Device):Nat:=gbL d.chip.blocks*100000+lostN B d*1000+zhi d.chip.blocks
theorem z0cd {B:Nat} {a b:Device} (h1:zhi a.chip.blocks<=512) (h2:lostN B a<=32) (h:gbL a.chip.blocks<gbL b.chip.blocks \/ (gbL a.chip.blocks=gbL b.chip.blocks /\ (lostN B a<lostN B b \/ (lostN B a<=lostN B b /\ zhi a.chip.blocks<zhi b.chip.blocks)))):meas B a<meas B b:=by
 unfold meas;omega
theorem z09g {g:Geometry} {B P S:Nat} (hG:Gm g B P S) (m:Nat):∀ (d:Device) (fs:List Fate),meas B d<m->DvI g B P S d->FOk fs ->
 ∃ r,(∀ N,m<=N->ze z21 N (fs,d)=some r) /\ DvI g B P S r.1 /\ FOk r.2.1:=by
 induction m with
 | zero=>intro d fs hm _ _;omega
 | succ m ih =>
   intro d fs hm hI hF;obtain ⟨r3,hr3,hI3,hF3,hl3⟩:=zpt hG hI hF;have round:∀ N,m+1<=N->ze z21 N (fs,d)=z08 (ze z21 (N - 1)) fs d:=fun N hN=>by
    obtain ⟨N,rfl⟩:∃ M,N=M+1:=⟨N - 1,by omega⟩;rw [z6,za2];rfl
   by_cases h3:r3.2.2=0
   · have hsp:0<=r3.1.geometry.spare /\ r3.1.geometry.spare<4294967296:=by rw [hI3.geo];exact hG.sp
     have hmany:=zmo (hI3.ok hG).1 r3.1.opn 0;have hres:=zg9 (hI3.ok hG).1 hsp;have d3:decide (r3.2.2=0)=true:=zT h3;by_cases h4:resT r3.1<=((manyT r3.1.chip r3.1.opn 0:Nat):Int)
     · refine ⟨(r3.1,r3.2.1,r3.2.2),fun N hN=>?_,hI3,hF3⟩;rw [round N hN];unfold z08;have d4:decide (resT r3.1<=((manyT r3.1.chip r3.1.opn 0:Nat):Int))=true:=zT h4;simp only [hr3,z7,d3,Bool.not_true,zD,hmany,hres,d4,zC]
     · have d4:decide (resT r3.1<=((manyT r3.1.chip r3.1.opn 0:Nat):Int))=false:=zF h4;obtain ⟨v,hv,hvs⟩:=z09e hG hI3;rcases hvs with rfl | ⟨i,hi,rfl,hst,hcnt⟩
       · refine ⟨(r3.1,r3.2.1,40),fun N hN=>?_,hI3,hF3⟩;rw [round N hN];unfold z08;have d5:decide ((-1:Int)<0)=true:=rfl;simp only [hr3,z7,d3,Bool.not_true,zD,hmany,hres,d4,hv,d5,zC]
       · have hse:=zka hI3.ch r3.1.opn hi;rw [hst] at hse;have hgood:(blk r3.1.chip i).bad=false:=by
          cases hb:(blk r3.1.chip i).bad with
          | false=>rfl
          | true=>rw [if_pos hb] at hse;omega
         rw [hgood,if_neg Bool.false_ne_true] at hse;have hnp:(blk r3.1.chip i).next=P:=by
          by_cases c:(i:Int)=r3.1.opn /\ (blk r3.1.chip i).next<P
          · rw [if_pos c] at hse;omega
          · rw [if_neg c] at hse;by_cases c2:0<(blk r3.1.chip i).next
            · by_cases c3:(i:Int)=r3.1.opn
              · have:=(hI3.ch.nx i hi).2;have:¬ (blk r3.1.chip i).next<P:=fun h=>c ⟨c3,h⟩
                omega
              · have:=hI3.ch.op i hi hgood c3;omega
            · rw [if_neg c2] at hse;omega
         obtain ⟨r7,hr7,hM,hend⟩:=zyi hG hi hI3 hF3 (.inr hnp);have d5:decide ((i:Int)<0)=false:=zF (by omega);by_cases h7:r7.2.2=0
         · have d7:decide (r7.2.2=0)=true:=zT h7;obtain ⟨hk,hfl,hF8⟩:=hM.fok.next;have hbl:=hM.st i hi (.inr hnp);have hend:=hend h7;obtain ⟨hC,hera,hwr⟩:=z09f hG.p1 hG.b2 hM.inv.ch hi (by rw [hbl];exact hgood) (by rw [hbl];exact hnp) (f:=(z0s r7.2.1).1) hk;have heraS:=zuq (hM.inv.ok hG).1 (i:Int) (z0s r7.2.1).1;have hIE:DvI g B P S ⟨r7.1.geometry,(zgp r7.1.chip i (z0s r7.2.1).1).1,r7.1.table,r7.1.seq,r7.1.opn⟩ :=
            ⟨hM.inv.geo,hC,⟨hM.inv.ta.lm,hM.inv.ta.lb,fun v hv=>(hM.inv.ta.vm v hv).imp id fun h=>hwr v h (hend v (.inl hv)),fun v hv=>(hM.inv.ta.vb v hv).imp id fun h=>hwr v h (hend v (.inr hv)),hM.inv.ta.cm,hM.inv.ta.cb,hM.inv.ta.tw⟩,z048 hM.inv.pk _ _⟩
           have hlt:meas B ⟨r7.1.geometry,(zgp r7.1.chip i (z0s r7.2.1).1).1,r7.1.table,r7.1.seq,r7.1.opn⟩<meas B d:=by
            have b6:=hM.gb;have hlen:(movesT r3.1.chip r3.1.table i).length<=countT r3.1.table i:=zmp hG hI3 i 16 0 (Nat.le_refl _);refine z0cd (hIE.used_lt hG) (Nat.le_trans (z02m B _) hG.b2) ?_;show gbL (zgp r7.1.chip i (z0s r7.2.1).1).1.blocks<_ \/ (gbL (zgp r7.1.chip i (z0s r7.2.1).1).1.blocks=_ /\ (_<_ \/ (_<=_ /\ zhi (zgp r7.1.chip i (z0s r7.2.1).1).1.blocks<_)));have hE:gbL (zgp r7.1.chip i (z0s r7.2.1).1).1.blocks<gbL r3.1.chip.blocks \/ (gbL (zgp r7.1.chip i (z0s r7.2.1).1).1.blocks=gbL r3.1.chip.blocks /\ lostN B ⟨r7.1.geometry,(zgp r7.1.chip i (z0s r7.2.1).1).1,r7.1.table,r7.1.seq,r7.1.opn⟩<=lostN B r3.1 /\ zhi (zgp r7.1.chip i (z0s r7.2.1).1).1.blocks<zhi r3.1.chip.blocks):=by
             rcases hera with ⟨_,e1,e2,e3⟩ | ⟨_,e1⟩
             · by_cases hsame:gbL r7.1.chip.blocks=gbL r3.1.chip.blocks
               · obtain ⟨m1,m2,m3⟩:=hM.same hsame;refine .inr ⟨by omega,?_,by omega⟩;refine List.countP_mono_left fun x hx h=>?_
                 refine zyk hM hsame (List.mem_range.1 hx) ?_;unfold z81 at h ⊢;rw [e3 x (List.mem_range.1 hx)] at h;exact h
               · exact .inl (by omega)
             · exact .inl (by omega)
            have hR:gbL r3.1.chip.blocks<gbL d.chip.blocks \/ (gbL r3.1.chip.blocks=gbL d.chip.blocks /\ (lostN B r3.1<lostN B d \/ (lostN B r3.1=lostN B d /\ zhi r3.1.chip.blocks=zhi d.chip.blocks))):=by
             rcases hl3 h3 with h | h
             · rw [h];exact .inr ⟨rfl,.inr ⟨rfl,rfl⟩⟩
             · rcases h with h | ⟨h,h'⟩
               · exact .inl h
               · exact .inr ⟨h,.inl h'⟩
            omega
           obtain ⟨r,h1,h2⟩:=ih ⟨r7.1.geometry,(zgp r7.1.chip i (z0s r7.2.1).1).1,r7.1.table,r7.1.seq,r7.1.opn⟩ (z0s r7.2.1).2 (by omega) hIE hF8;refine ⟨r,fun N hN=>?_,h2⟩;rw [round N hN];unfold z08;simp only [hr3,z7,d3,Bool.not_true,zD,hmany,hres,d4,hv,d5,hr7,d7,zml,heraS];have hrec:=h1 (N - 1) (by omega);rcases hera with ⟨e0,_⟩ | ⟨e0,_⟩
           · rw [zT e0,Bool.not_true,zD];exact hrec
           · rw [zF (by omega),Bool.not_false,zC,zT e0,Bool.not_true,zD];exact hrec
         · refine ⟨(r7.1,r7.2.1,r7.2.2),fun N hN=>?_,hM.inv,hM.fok⟩;rw [round N hN];unfold z08;have d7:decide (r7.2.2=0)=false:=zF h7;simp only [hr3,z7,d3,Bool.not_true,zD,hmany,hres,d4,hv,d5,hr7,d7,Bool.not_false,zC]
   · refine ⟨(r3.1,r3.2.1,r3.2.2),fun N hN=>?_,hI3,hF3⟩;rw [round N hN];unfold z08;have d3:decide (r3.2.2=0)=false:=zF h3;simp only [hr3,z7,d3,Bool.not_false,zC]
theorem z04d {g:Geometry} {B P S:Nat} (hG:Gm g B P S) {d:Device} {fs:List Fate} (hI:DvI g B P S d) (hF:FOk fs):∃ r,z3h (d,fs)=some r /\ DvI g B P S r.1 /\ FOk r.2.1:=by
 obtain ⟨r,h1,h2⟩:=z09g hG _ d fs (Nat.lt_succ_self _) hI hF;exact ⟨r,zy _ fun N hN=>h1 N hN,h2⟩
theorem z00u {g:Geometry} {B P S:Nat} (hG:Gm g B P S) {d:Device} (hI:DvI g B P S d) (data:Str):∀ (m i:Nat) (best:Int),i+m=S->(best = -1 \/ (best∈d.table.map /\ 0<=best /\ d.table.map.count best<8)) ->
 ∃ v,(∀ N,m<N->ze z0x N (data,best,(i:Int),d.chip,d.table)=some v) /\ (v = -1 \/ (v∈d.table.map /\ 0<=v /\ d.table.map.count v<8))
 | 0,i,best,h1,hb=>by
   refine ⟨best,fun N hN=>?_,hb⟩;obtain ⟨N,rfl⟩:∃ M,N=M+1:=⟨N - 1,by omega⟩;rw [z6,z2h];unfold z0m;dsimp only;rw [hI.ta.lm,zF (by omega),zD]
 | m+1,i,best,h1,hb=>by
   have hS2:=hG.s2;have ei:((i:Int)).toNat=i:=by omega
   have hlm:=hI.ta.lm;obtain ⟨v1,hv1,hs1⟩:=z00u hG hI data m (i+1) best (by omega) hb;have hnx:w64 ((i:Int)+1)=((i+1:Nat):Int):=by rw [zf (by omega) (by omega)];rfl
   have round:∀ N,m+1<N->ze z0x N (data,best,(i:Int),d.chip,d.table)=z0m (ze z0x (N - 1)) data best i d.chip d.table:=fun N hN=>by
    obtain ⟨N,rfl⟩:∃ M,N=M+1:=⟨N - 1,by omega⟩;rw [z6,z2h];rfl
   have dA:decide ((i:Int)<((S:Nat):Int))=true:=zT (by omega);have dC:decide (0<=(i:Int))=true:=zT (by omega);have hT:=hI.tok hG;have hmem:d.table.map.getD i 0∈d.table.map:=zr (by omega);have hrange:=hT.v _ hmem;have hpage:=zba d.chip (place:=d.table.map.getD i 0) ⟨by omega,by omega⟩;have hown:=zna (hI.ok hG).2 (d.table.map.getD i 0);have stay:(pageT d.chip (d.table.map.getD i 0)).2=false \/ (pageT d.chip (d.table.map.getD i 0)).1.data≠data \/ ¬ (z0q d.table (d.table.map.getD i 0)).length<8 \/ (0<=best /\ ¬ d.table.map.getD i 0<best)->∀ N,m+1<N->ze z0x N (data,best,(i:Int),d.chip,d.table)=some v1:=fun h N hN=>by
    rw [round N hN];unfold z0m;simp only [hlm,dA,dC,ei,hpage,hown,z7,hnx,zC,hv1 (N - 1) (by omega)];cases h1:(pageT d.chip (d.table.map.getD i 0)).2 with
    | false=>rfl
    | true =>
      rw [zC];by_cases h2:(pageT d.chip (d.table.map.getD i 0)).1.data=data
      · rw [zT h2,zC];by_cases h3:(z0q d.table (d.table.map.getD i 0)).length<8
        · rw [zT (by omega),zC];rcases h with h | h | h | ⟨h,h'⟩
          · rw [h1] at h;cases h
          · exact absurd h2 h
          · exact absurd h3 h
          · rw [zF (by omega),zD,zF h',zD]
        · rw [zF (by omega),zD]
      · rw [zF h2,zD]
   by_cases h1:(pageT d.chip (d.table.map.getD i 0)).2=true
   · by_cases h2:(pageT d.chip (d.table.map.getD i 0)).1.data=data
     · by_cases h3:(z0q d.table (d.table.map.getD i 0)).length<8
       · by_cases h4:best<0 \/ d.table.map.getD i 0<best
         · have h0:0<=d.table.map.getD i 0:=by
            apply Int.not_lt.1
            intro h;unfold pageT at h1;rw [if_pos (.inl h)] at h1;cases h1
           obtain ⟨v2,hv2,hs2⟩:=z00u hG hI data m (i+1) (d.table.map.getD i 0) (by omega) (.inr ⟨hmem,h0,by rw [<- zle h0];exact h3⟩);refine ⟨v2,fun N hN=>?_,hs2⟩;rw [round N hN];unfold z0m;simp only [hlm,dA,dC,ei,hpage,hown,z7,hnx,zC,hv1 (N - 1) (by omega),hv2 (N - 1) (by omega),h1];rw [zT h2,zC,zT (by omega),zC];by_cases c:best<0
           · rw [zT c,zC]
           · rw [zF c,zD,zT (h4.resolve_left c),zC]
         · exact ⟨v1,stay (.inr (.inr (.inr ⟨by omega,fun h=>h4 (.inr h)⟩))),hs1⟩
       · exact ⟨v1,stay (.inr (.inr (.inl h3))),hs1⟩
     · exact ⟨v1,stay (.inr (.inl h2)),hs1⟩
   · exact ⟨v1,stay (.inl (by simpa using h1)),hs1⟩
theorem z0ag {g:Geometry} {B P S:Nat} (hG:Gm g B P S) {d:Device} (hI:DvI g B P S d) (data:Str):∃ v,z7h (d.chip,d.table,data)=some v /\ (v = -1 \/ (v∈d.table.map /\ 0<=v /\ d.table.map.count v<8)):=by
 obtain ⟨v,hv,hs⟩:=z00u hG hI data S 0 (-1) (by omega) (.inl rfl);exact ⟨v,zy (S+1) fun N hN=>hv N (by omega),hs⟩
theorem DvI.mapR {g:Geometry} {B P S:Nat} (hG:Gm g B P S) {d:Device} (hI:DvI g B P S d):MapR d.table:=fun v hv=>by
 have:=(hI.tok hG).v v hv;exact ⟨by omega,by omega⟩
theorem zym {g:Geometry} {B P S:Nat} (hG:Gm g B P S) {d:Device} (hI:DvI g B P S d) {s:Nat} (hs:s<S) {data:Str} (hdat:data.length<4294967296):∃ w need,z4r (d,(s:Int),data)=some (w,need) /\ Proper w.record d.table /\ WriteOk w:=by
 have hlm:=hI.ta.lm;have dA:decide ((s:Int)<((S:Nat):Int))=true:=zT (by omega);have dC:decide (0<=(s:Int))=true:=zT (by omega);by_cases e:data=[]
 · refine ⟨⟨[],⟨2,0,[(s:Int)],[-1]⟩⟩,decide (0<=d.table.map.getD s 0),?_,.inr (.inr ⟨s,-1,rfl,rfl,rfl,.inl rfl⟩),⟨by show (1:Nat)<_;decide,by show (1:Nat)<_;decide⟩,by show (0:Nat)<_;decide⟩;show z1o d s data=_;unfold z1o;rw [zT e,zC,hlm,dA,dC,zC,zC];rfl
 · obtain ⟨v,hv,hvs⟩:=z0ag hG hI data;by_cases h0:0<=v
   · have hvs:=hvs.resolve_left (by omega);refine ⟨⟨[],⟨2,0,[(s:Int)],[v]⟩⟩,!(decide (d.table.map.getD s 0=v)),?_,.inr (.inr ⟨s,v,rfl,rfl,rfl,.inr hvs⟩),⟨by show (1:Nat)<_;decide,by show (1:Nat)<_;decide⟩,by show (0:Nat)<_;decide⟩;show z1o d s data=_;unfold z1o;rw [zF e,zD,hv,z7,zT h0,zC,hlm,dA,dC,zC,zC];rfl
   · refine ⟨⟨data,⟨1,0,[(s:Int)],[]⟩⟩,!(decide (hasT d.chip d.table s=data)),?_,.inl ⟨rfl,by show (1:Nat)<=_;decide⟩,⟨by show (1:Nat)<_;decide,by show (0:Nat)<_;decide⟩,hdat⟩;show z1o d s data=_;unfold z1o;rw [zF e,zD,hv,z7,zF h0,zD,zps (hI.mapR hG),z7]
end Clk
namespace Clk
open Go
def FAny (fs:List Fate):Prop:=∀ f∈fs,(f.kind=0 \/ f.kind=1 \/ f.kind=2) /\ f.tag.length<4294967296 /\ f.data.length<4294967296
theorem z09h (n:Int):((fate1 n).kind=0 \/ (fate1 n).kind=1 \/ (fate1 n).kind=2) /\ (fate1 n).tag.length<4294967296 /\ (fate1 n).data.length<4294967296:=by
 unfold fate1;refine ⟨?_,?_,by show (4:Nat)<_;decide⟩
 · show (if 236<=n then (2:Int) else if 200<=n then 1 else 0)=0 \/ (if 236<=n then (2:Int) else if 200<=n then 1 else 0)=1 \/ (if 236<=n then (2:Int) else if 200<=n then 1 else 0)=2;split
   · exact .inr (.inr rfl)
   · split
     · exact .inr (.inl rfl)
     · exact .inl rfl
 · show ([[],[120],[2,1]].getD (Int.tmod n 3).toNat ([]:Str)).length<_;generalize (Int.tmod n 3).toNat=k;match k with
   | 0=>decide
   | 1=>decide
   | 2=>decide
   | k+3=>simp
theorem z07f {ll:List (List Int)} {d:Device} {ks:List Int} (hks:∀ n∈ks,0<=n /\ n<256):∀ (l:List Int) (k:Nat) (acc:List Fate),ks.drop k=l->k<=12->acc.length=k->FAny acc ->
 ∃ fs,FAny fs /\ fs.length<=12 /\ ∀ N M (i:Int),i=k->12 - k<N->ze (za4 M ll) N (ks,i,d,acc)=ze (z2x M) M (ll,0,d,fs)
 | [],k,acc,h1,h2,h3,h4=>by
   have:=z05 h1;refine ⟨acc,h4,by omega,fun N M i hi hN=>?_⟩;obtain ⟨N,rfl⟩:∃ K,N=K+1:=⟨N - 1,by omega⟩;rw [z6,z5v];unfold z2y;dsimp only;rw [zF (by omega),zD]
 | x::l,k,acc,h1,h2,h3,h4=>by
   obtain ⟨g1,g2,g3⟩:=zw h1;have hx:=hks x (by rw [<- g2 0];exact zr g1);by_cases hk:k<12
   · obtain ⟨fs,f1,f2,f3⟩:=z07f (ll:=ll) (d:=d) hks l (k+1) (acc++[fate1 x]) g3 (by omega) (by simp;omega) (fun f hf=>by
      rcases List.mem_append.1 hf with h | h
      · exact h4 f h
      · rw [List.mem_singleton.1 h];exact z09h x)
     refine ⟨fs,f1,f2,fun N M i hi hN=>?_⟩;obtain ⟨N,rfl⟩:∃ K,N=K+1:=⟨N - 1,by omega⟩;rw [z6,z5v];unfold z2y;have ek:i.toNat=k:=by omega
     have ew:w64 (i+1)=((k+1:Nat):Int):=by rw [zf (by omega) (by omega)];omega
     have hw:w64 x=x:=zf (by omega) (by omega);have hr:=f3 N M _ rfl (by omega);have ht:0<=Int.tmod x 3 /\ Int.tmod x 3<3:=⟨Int.tmod_nonneg _ hx.1,Int.tmod_lt_of_pos _ (by decide)⟩;have h8:w64 (Int.tdiv x 8)=Int.tdiv x 8:=by
      rw [Int.tdiv_eq_ediv_of_nonneg hx.1];exact zf (by omega) (by omega)
     simp only [ek,g2,ew,hw,h8,List.length_append,List.length_singleton,List.length_cons,List.length_nil,h3];have d1:decide (i<(ks.length:Int))=true:=zT (by omega);have d2:decide (i<12)=true:=zT (by omega);have d3:decide (0<=i)=true:=zT (by omega);have d4:decide (0<=Int.tmod x 3)=true:=zT ht.1;have d5:decide (Int.tmod x 3<((0+1+1+1:Nat):Int))=true:=zT (by omega);have d6:decide ((Int.tmod x 3).toNat<0+1+1+1)=true:=zT (by omega);have d7:decide ((k+(0+1))*48<=70368744177664)=true:=zT (by omega);have d8:decide (k+(0+1)<=70368744177664)=true:=zT (by omega);have d7':decide ((k+1)*48<=70368744177664)=true:=zT (by omega);have d8':decide (k+1<=70368744177664)=true:=zT (by omega);simp only [d1,d2,d3,d4,d5,d6,d7,d8,d7',d8',zC];by_cases c1:200<=x
     · rw [zT c1,zC];by_cases c2:236<=x
       · rw [zT c2,zC,<- hr];unfold fate1;rw [if_pos c2];rfl
       · rw [zF c2,zD,<- hr];unfold fate1;rw [if_neg c2,if_pos c1];rfl
     · have c2:¬ 236<=x:=by omega
       rw [zF c1,zD,zF c2,zD,<- hr];unfold fate1;rw [if_neg c2,if_neg c1];rfl
   · refine ⟨acc,h4,by omega,fun N M i hi hN=>?_⟩;obtain ⟨N,rfl⟩:∃ K,N=K+1:=⟨N - 1,by omega⟩;rw [z6,z5v];unfold z2y;dsimp only;rw [zT (by omega),zC,zF (by omega),zD]
theorem z00v {ll:List (List Int)} {d:Device}:∀ (m k:Nat) (fs:List Fate),k+m=fs.length->fs.length<=12->FAny fs->(∀ j,j<k->(fs.getD j default).kind≠2) ->
 ∃ fs',FOk fs' /\ ∀ N M (i:Int),i=k->m<N->ze (z2x M) N (ll,i,d,fs)=ze (z5s M) M (ll,fs',0,d)
 | 0,k,fs,h1,h2,h3,h4=>by
   refine ⟨fs,fun f hf=>?_,fun N M i hi hN=>?_⟩
   · obtain ⟨j,hj,rfl⟩:=List.getElem_of_mem hf;obtain ⟨f1,f2,f3⟩:=h3 _ (List.getElem_mem hj);have:=h4 j (by omega);rw [zI,zH hj] at this;have h5:fs[j].kind≠2:=this;exact ⟨by omega,f2,f3⟩
   · obtain ⟨N,rfl⟩:∃ K,N=K+1:=⟨N - 1,by omega⟩;rw [z6,z5u];unfold z2w;dsimp only;rw [zF (by omega),zD]
 | m+1,k,fs,h1,h2,h3,h4=>by
   by_cases c:(fs.getD k default).kind=2
   · have hset:FAny (fs.set k ⟨0,(fs.getD k default).data,(fs.getD k default).tag,(fs.getD k default).n⟩):=fun f hf=>by
      rcases List.mem_or_eq_of_mem_set hf with h | h
      · exact h3 f h
      · have:=h3 (fs.getD k default) (zr (by omega));rw [h];exact ⟨.inl rfl,this.2.1,this.2.2⟩
     obtain ⟨fs',f1,f2⟩:=z00v (ll:=ll) (d:=d) m (k+1) _ (by rw [List.length_set];omega) (by rw [List.length_set];exact h2) hset (fun j hj=>by
      rw [z3i];by_cases e:k=j
      · rw [if_pos ⟨e,by omega⟩];show (0:Int)≠2;decide
      · rw [if_neg (fun h=>e h.1)];exact h4 j (by omega))
     refine ⟨fs',f1,fun N M i hi hN=>?_⟩;obtain ⟨N,rfl⟩:∃ K,N=K+1:=⟨N - 1,by omega⟩;rw [z6,z5u];unfold z2w;have ek:i.toNat=k:=by omega
     have ew:w64 (i+1)=((k+1:Nat):Int):=by rw [zf (by omega) (by omega)];omega
     have d1:decide (i<(fs.length:Int))=true:=zT (by omega);have d2:decide (k<fs.length)=true:=zT (by omega);have d3:decide (0<=i)=true:=zT (by omega);simp only [ek,ew,d1,d2,d3,zC];rw [zT c,zC];exact f2 N M _ rfl (by omega)
   · obtain ⟨fs',f1,f2⟩:=z00v (ll:=ll) (d:=d) m (k+1) fs (by omega) h2 h3 (fun j hj=>by
      by_cases e:j=k
      · rw [e];exact c
      · exact h4 j (by omega))
     refine ⟨fs',f1,fun N M i hi hN=>?_⟩;obtain ⟨N,rfl⟩:∃ K,N=K+1:=⟨N - 1,by omega⟩;rw [z6,z5u];unfold z2w;have ek:i.toNat=k:=by omega
     have ew:w64 (i+1)=((k+1:Nat):Int):=by rw [zf (by omega) (by omega)];omega
     have d1:decide (i<(fs.length:Int))=true:=zT (by omega);have d2:decide (k<fs.length)=true:=zT (by omega);have d3:decide (0<=i)=true:=zT (by omega);simp only [ek,ew,d1,d2,d3,zC];rw [zF c,zD];exact f2 N M _ rfl (by omega)
def fewL:List Str:=[[],[97],[98],[97,98],[48,49,50,51,52,53,54,55,56,57,97,98,99,100,101,102],[99],[100,100]]
theorem z0ed {k:Nat} (hk:k<7):∃ data:Str,zi4 (k:Int)=some data /\ data.length<4294967296:=by
 match k,hk with
 | 0,_=>exact ⟨fewL.getD 0 [],by kernel_rfl,by decide⟩
 | 1,_=>exact ⟨fewL.getD 1 [],by kernel_rfl,by decide⟩
 | 2,_=>exact ⟨fewL.getD 2 [],by kernel_rfl,by decide⟩
 | 3,_=>exact ⟨fewL.getD 3 [],by kernel_rfl,by decide⟩
 | 4,_=>exact ⟨fewL.getD 4 [],by kernel_rfl,by decide⟩
 | 5,_=>exact ⟨fewL.getD 5 [],by kernel_rfl,by decide⟩
 | 6,_=>exact ⟨fewL.getD 6 [],by kernel_rfl,by decide⟩
theorem z09i {g:Geometry} {B P S:Nat} (hG:Gm g B P S) {d:Device} (hI:DvI g B P S d) {fs:List Fate} (hF:FOk fs) {s:Nat} (hs:s<S) {data:Str} (hdat:data.length<4294967296) :
 ∃ r:Device×List Fate,DvI g B P S r.1 /\ FOk r.2 /\ ∀ (K:Device×List Fate->Option Device),(Option.bind (z4r (d,(s:Int),data)) fun r8 =>
  cond (!r8.2) (K (d,fs))
   (Option.bind (z3h (d,fs)) fun r9 =>
   Option.bind (z4r (r9.1,(s:Int),data)) fun r10 =>
   Option.bind (z2q (r9.1,r10.1,r9.2.1)) fun r11 =>
   Option.bind (z0t (r11.1,r11.2.1)) fun r12 =>
   K (r12.1,r12.2.1)))=K r:=by
 obtain ⟨w,need,hw,_,_⟩:=zym hG hI hs hdat;cases need with
 | false=>exact ⟨(d,fs),hI,hF,fun K=>by rw [hw,z7];rfl⟩
 | true =>
   obtain ⟨r9,h9,hI9,hF9⟩:=z04d hG hI hF;obtain ⟨w',need',hw',hp',hok'⟩:=zym hG hI9 hs hdat;obtain ⟨r11,h11,hres⟩:=zuy hG hI9 hF9 hp' hok';have h11I:DvI g B P S r11.1 /\ FOk r11.2.1:=by
    rcases hres with ⟨_,e1,e2⟩ | R
    · rw [e1,e2];exact ⟨hI9,hF9⟩
    · exact ⟨R.inv,R.fok⟩
   obtain ⟨r12,h12,hI12,hF12,_⟩:=zpt hG h11I.1 h11I.2;exact ⟨(r12.1,r12.2.1),hI12,hF12,fun K=>by rw [hw,z7,Bool.not_true,zD,h9,z7,hw',z7,h11,z7,h12,z7]⟩
theorem z07g {g:Geometry} {B P S:Nat} (hG:Gm g B P S) {ll:List (List Int)} (hll:∀ x∈ll,∀ n∈x,0<=n /\ n<256) (hl2:∀ x∈ll,x.length<9223372036854775808) {i:Nat} (hi:i<ll.length):∀ (m j:Nat) (d:Device) (fs:List Fate),j+2*m=4->DvI g B P S d->FOk fs ->
 ∃ fs' d',DvI g B P S d' /\ FOk fs' /\ ∀ ih0 N (i' j':Int),i'=i->j'=j->m<N->ze (z5q ih0) N (ll,fs,i',j',d)=ih0 (ll,fs',w64 ((i:Int)+1),d')
 | 0,j,d,fs,h1,hI,hF=>by
   refine ⟨fs,d,hI,hF,fun ih0 N i' j' e1 e2 hN=>?_⟩;obtain ⟨N,rfl⟩:∃ K,N=K+1:=⟨N - 1,by omega⟩;subst e1 e2;rw [z6,z5r];unfold z2u;dsimp only;rw [zT (by omega),zC,zT (by omega),zC,zF (p:=(j:Int)<4) (by omega),zD];cases decide (w64 ((j:Int)+1)<(((ll.getD (Int.toNat (i:Int)) []).length:Nat):Int)) <;> rfl
 | m+1,j,d,fs,h1,hI,hF=>by
   have ei:((i:Int)).toNat=i:=by omega
   have ej:((j:Int)).toNat=j:=by omega
   have ej1:w64 ((j:Int)+1)=((j+1:Nat):Int):=by rw [zf (by omega) (by omega)];rfl
   have ej2:w64 ((j:Int)+2)=((j+2:Nat):Int):=by rw [zf (by omega) (by omega)];rfl
   have ej1':(((j+1:Nat):Int)).toNat=j+1:=by omega
   obtain ⟨x,hx⟩:∃ x,ll.getD i []=x:=⟨_,rfl⟩;have hxm:x∈ll:=by rw [<- hx];exact zr hi
   have d1:decide (0<=(i:Int))=true:=zT (by omega);have d2:decide ((i:Int)<(ll.length:Int))=true:=zT (by omega);by_cases hlen:j+1<x.length
   · have ha:=hll x hxm (x.getD j 0) (zr (by omega));have hb:=hll x hxm (x.getD (j+1) 0) (zr hlen);have hsec:d.geometry.sectors=S:=by rw [hI.geo];exact hG.s
     have hS1:=hG.s1;have hS2:=hG.s2;obtain ⟨k,hk,hk7⟩:∃ k:Nat,Int.tmod (w64 (x.getD (j+1) 0)) 7=k /\ k<7:=by
      rw [zf (by omega) (by omega)];have h1:=Int.tmod_nonneg 7 hb.1;have h2:=Int.tmod_lt_of_pos (x.getD (j+1) 0) (b:=7) (by decide);exact ⟨(Int.tmod (x.getD (j+1) 0) 7).toNat,by omega,by omega⟩
     obtain ⟨s,hs,hsS⟩:∃ s:Nat,Int.tmod (w64 (x.getD j 0)) (S:Int)=s /\ s<S:=by
      rw [zf (by omega) (by omega)];have h1:=Int.tmod_nonneg (S:Int) ha.1;have h2:=Int.tmod_lt_of_pos (x.getD j 0) (b:=(S:Int)) (by omega);exact ⟨(Int.tmod (x.getD j 0) (S:Int)).toNat,by omega,by omega⟩
     obtain ⟨data,hdata,hdl⟩:=z0ed hk7;obtain ⟨r,hrI,hrF,hr⟩:=z09i hG hI hF hsS hdl;obtain ⟨fs',d',r1,r2,r3⟩:=z07g hG hll hl2 hi m (j+2) r.1 r.2 (by omega) hrI hrF;refine ⟨fs',d',r1,r2,fun ih0 N i' j' e1 e2 hN=>?_⟩;obtain ⟨N,rfl⟩:∃ K,N=K+1:=⟨N - 1,by omega⟩;subst e1 e2;rw [z6,z5r];unfold z2u;have d3:decide (((j+1:Nat):Int)<(x.length:Int))=true:=zT (by omega);have d4:decide ((j:Int)<4)=true:=zT (by omega);have d5:decide (0<=(j:Int))=true:=zT (by omega);have d6:decide ((j:Int)<(x.length:Int))=true:=zT (by omega);have d7:decide ((S:Int)=0)=false:=zF (by omega);have d8:decide (0<=((j+1:Nat):Int))=true:=zT (by omega);simp only [ei,ej,ej1,ej2,ej1',hx,hsec,hs,hk,hdata,z7,d1,d2,d3,d4,d5,d6,d7,d8,Bool.not_false,zC];have:=hr (fun z=>ze (z5q ih0) N (ll,z.2,(i:Int),((j+2:Nat):Int),z.1));rw [r3 ih0 N i _ rfl rfl (by omega)] at this;exact this
   · refine ⟨fs,d,hI,hF,fun ih0 N i' j' e1 e2 hN=>?_⟩;obtain ⟨N,rfl⟩:∃ K,N=K+1:=⟨N - 1,by omega⟩;subst e1 e2;rw [z6,z5r];unfold z2u;have d3:decide (((j+1:Nat):Int)<(x.length:Int))=false:=zF (by omega);simp only [ei,ej1,hx,d1,d2,d3,zC,zD]
theorem z07h {g:Geometry} {B P S:Nat} (hG:Gm g B P S) {ll:List (List Int)} (hll:∀ x∈ll,∀ n∈x,0<=n /\ n<256) (hl2:∀ x∈ll,x.length<9223372036854775808):∀ (m i:Nat) (d:Device) (fs:List Fate),i+m=40->DvI g B P S d->FOk fs ->
 ∃ D,DvI g B P S D /\ ∀ N M (i':Int),i'=i->m<N->2<M->ze (z5s M) N (ll,fs,i',d)=some D
 | 0,i,d,fs,h1,hI,hF=>by
   refine ⟨d,hI,fun N M i' e1 hN hM=>?_⟩;obtain ⟨N,rfl⟩:∃ K,N=K+1:=⟨N - 1,by omega⟩;subst e1;rw [z6,z5t];unfold z2v;dsimp only;rw [zF (p:=(i:Int)<40) (by omega),zD];cases decide ((i:Int)<(ll.length:Int)) <;> rfl
 | m+1,i,d,fs,h1,hI,hF=>by
   by_cases hi:i<ll.length
   · obtain ⟨fs',d',r1,r2,r3⟩:=z07g hG hll hl2 hi 2 0 d fs rfl hI hF;obtain ⟨D,hD,hDr⟩:=z07h hG hll hl2 m (i+1) d' fs' (by omega) r1 r2;refine ⟨D,hD,fun N M i' e1 hN hM=>?_⟩;obtain ⟨N,rfl⟩:∃ K,N=K+1:=⟨N - 1,by omega⟩;subst e1;rw [z6,z5t];unfold z2v;dsimp only;rw [zT (by omega),zC,zT (by omega),zC,r3 _ M i 0 rfl rfl hM];exact hDr N M _ (by rw [zf (by omega) (by omega)];omega) (by omega) hM
   · refine ⟨d,hI,fun N M i' e1 hN hM=>?_⟩;obtain ⟨N,rfl⟩:∃ K,N=K+1:=⟨N - 1,by omega⟩;subst e1;rw [z6,z5t];unfold z2v;dsimp only;rw [zF (by omega),zD]
def initD (g:Geometry) (B P S:Nat):Device:=⟨g,⟨List.replicate B ⟨List.replicate P z7z,0,0,false⟩,false,false,0⟩,⟨List.replicate S (-1),List.replicate S (-1)⟩,0,-1⟩
theorem zv3 {α:Type} {n i:Nat} {a d:α} (h:i<n):(List.replicate n a).getD i d=a:=by
 rw [zI,List.getElem?_replicate,if_pos h];rfl
theorem zv4:∀ n,anyW (List.replicate n z7z)=false
 | 0=>rfl
 | n+1=>by rw [List.replicate_succ];show (z7z.written||anyW (List.replicate n z7z))=false;rw [zv4 n];rfl
theorem z09j {g:Geometry} {B P S:Nat} (hG:Gm g B P S):DvI g B P S (initD g B P S):=by
 have hb:∀ i,i<B->blk (initD g B P S).chip i=⟨List.replicate P z7z,0,0,false⟩:=fun i hi=>zv3 hi
 have hm:∀ v:Int,v∈List.replicate S (-1:Int)->v = -1:=fun v hv=>(List.mem_replicate.1 hv).2
 have hc:∀ v:Int,0<=v->(List.replicate S (-1:Int)).count v<=8:=fun v hv=>by
  rw [List.count_eq_zero.2 (fun h=>by have:=hm v h;omega)];omega
 refine ⟨rfl,⟨by show (List.replicate B _).length=B;simp,rfl,fun i hi=>by rw [hb i hi];simp,fun i hi=>by rw [hb i hi];exact ⟨Int.le_refl _,by show (0:Int)<=P;omega⟩,fun i hi=>by rw [hb i hi];exact zv4 P,fun i hi _ _=>by rw [hb i hi];exact .inl rfl,by show (-1:Int) <= -1;omega⟩,
  ⟨by show (List.replicate S _).length=S;simp,by show (List.replicate S _).length=S;simp,fun v hv=>.inl (hm v hv),fun v hv=>.inl (hm v hv),hc,hc,fun s s' hs _ h=>?_⟩,fun b hb p hp=>?_⟩
 · have h:0<=(List.replicate S (-1:Int)).getD s 0:=h;rw [zv3 hs] at h;omega
 · rw [(List.mem_replicate.1 hb).2] at hp;rw [(List.mem_replicate.1 hp).2];exact ⟨by decide,by decide⟩
theorem z09k {g:Geometry} (hg:g∈smalls):∃ B P S,Gm g B P S /\ (formatT g []).1=initD g B P S /\ (g.blocks - 2*g.spare - 3)*g.pages>2*g.sectors /\ 2<=P:=by
 simp only [smalls,List.mem_cons,List.not_mem_nil,or_false] at hg;rcases hg with rfl | rfl | rfl | rfl | rfl | rfl
 · exact ⟨8,4,5,⟨rfl,rfl,rfl,by decide,by decide,by decide,by decide,by decide,by decide,by decide⟩,by kernel_rfl,by decide,by decide⟩
 · exact ⟨5,4,3,⟨rfl,rfl,rfl,by decide,by decide,by decide,by decide,by decide,by decide,by decide⟩,by kernel_rfl,by decide,by decide⟩
 · exact ⟨12,3,5,⟨rfl,rfl,rfl,by decide,by decide,by decide,by decide,by decide,by decide,by decide⟩,by kernel_rfl,by decide,by decide⟩
 · exact ⟨6,6,8,⟨rfl,rfl,rfl,by decide,by decide,by decide,by decide,by decide,by decide,by decide⟩,by kernel_rfl,by decide,by decide⟩
 · exact ⟨16,2,4,⟨rfl,rfl,rfl,by decide,by decide,by decide,by decide,by decide,by decide,by decide⟩,by kernel_rfl,by decide,by decide⟩
 · exact ⟨10,5,12,⟨rfl,rfl,rfl,by decide,by decide,by decide,by decide,by decide,by decide,by decide⟩,by kernel_rfl,by decide,by decide⟩
theorem z0dg {n:Int} {l:List (List Int)} {k:List Int} (hn:0<=n /\ n<256) (hl:∀ x∈l,∀ n∈x,0<=n /\ n<256) (hl2:∀ x∈l,x.length<9223372036854775808) (hk:∀ x∈k,0<=x /\ x<256) :
 ∃ g B P S d,Gm g B P S /\ zf6 (n,l,k)=some d /\ DvI g B P S d /\ (g.blocks - 2*g.spare - 3)*g.pages>2*g.sectors:=by
 obtain ⟨B,P,S,hG,hf,hcap,_⟩:=z09k (z049 n);have hI:=z09j hG;rw [<- hf] at hI;obtain ⟨fs1,f1,f2,f3⟩:=z07f (ll:=l) (d:=(formatT (smallT n) []).1) hk k 0 [] rfl (by omega) rfl (fun _ h=>by cases h);obtain ⟨fs2,f4,f5⟩:=z00v (ll:=l) (d:=(formatT (smallT n) []).1) fs1.length 0 fs1 (Nat.zero_add _) f2 f1 (fun _ h=>by omega);obtain ⟨D,hD,hr⟩:=z07h hG hl hl2 40 0 (formatT (smallT n) []).1 fs2 rfl hI f4;refine ⟨_,B,P,S,D,hG,zy 50 fun N hN=>?_,hD,hcap⟩;show zb8 N n l k=_;unfold zb8;rw [z075 hn.1 hn.2,z7,z02e (by decide),z7,f3 N N 0 rfl (by omega),f5 N N 0 rfl (by omega)];exact hr N N 0 rfl (by omega) (by omega)
end Clk
namespace Clk
open Go
theorem zv5 {c:Chip} (hc:z0g c) {o st:Int}:∀ (m N i n:Nat) (ii n':Int),i+m=c.blocks.length->ii=i->n'=n->n<=i->m<N->ze z7r N ((c.blocks.length:Int),ii,n',c,o,st)=some ((n+z0n c o st m i:Nat):Int)
 | m,0,_,_,_,_,_,_,_,_,h=>by omega
 | 0,N+1,i,n,ii,n',h1,h2,h3,h4,_=>by
   rw [z6,z9r];unfold z4b z0n;dsimp only;rw [zF (by omega),zD,h3];rfl
 | m+1,N+1,i,n,ii,n',h1,h2,h3,h4,h5=>by
   subst h2 h3;have:=hc.1;rw [z6,z9r];unfold z4b z0n;dsimp only;rw [zT (by omega),zC,z72 hc,z7,zf (n:=(i:Int)+1) (by omega) (by omega)];by_cases e:z0h c o i=st
   · rw [zT e,zC,if_pos e,zf (by omega) (by omega),zv5 hc m N (i+1) (n+1) _ _ (by omega) (by omega) (by omega) (by omega) (by omega)];congr 2;omega
   · rw [zF e,zD,if_neg e,zv5 hc m N (i+1) n _ _ (by omega) (by omega) (by omega) (by omega) (by omega)];congr 2;omega
theorem z3j {c:Chip} (hc:z0g c) (o st:Int):z18 (c,o,st)=some ((manyT c o st:Nat):Int):=by
 refine zy (c.blocks.length+1) fun N hN=>?_
 have h:=zv5 hc (o:=o) (st:=st) c.blocks.length N 0 0 0 0 (Nat.zero_add _) rfl rfl (Nat.le_refl _) (by omega);rw [Nat.zero_add] at h;exact h
def wantB (t:Table) (b:Nat):Nat:=(nubL ((t.map++t.by_).filter fun x=>decide (inB b x))).length
theorem z02o {b:Nat} (hb:b<32):∀ l:List Int,keysF z7c b l=some (l.filter fun x=>decide (inB b x))
 | []=>rfl
 | x::l=>by
   unfold keysF;rw [zy3];simp only [z02o hb l];rw [List.filter_cons];by_cases hx:inB b x
   · have h0:=hx.1;have e:z4s b (Int.tmod x 16)=x:=by
      rw [Int.tmod_eq_emod_of_nonneg h0];unfold z4s;have:=hx.2;rw [if_neg (by omega)];omega
     rw [if_pos ⟨e,h0⟩,if_pos (by rw [zT hx])]
   · have hne:¬ (z4s b (Int.tmod x 16)=x /\ 0<=x):=fun ⟨h1,h2⟩=>hx ⟨h2,by
      rw [Int.tmod_eq_emod_of_nonneg h2] at h1;unfold z4s at h1;rw [if_neg (by omega)] at h1;omega⟩
     rw [if_neg hne,if_neg (by rw [zF hx];exact Bool.false_ne_true)]
structure TRg (t:Table):Prop where
 l:t.map.length+t.by_.length<4294967296
 r:∀ n∈t.map++t.by_,-9223372036854775808<=n /\ n<9223372036854775808
theorem zmq {t:Table} (ht:TRg t) {b:Nat} (hb:b<32):zb1 (t,(b:Int))=some ((wantB t b:Nat):Int):=by
 show cntF z7c (t,b)=_;unfold cntF;rw [if_pos ⟨by have:=ht.l;show t.map.length+t.by_.length<_;omega,ht.r⟩];simp only [z02o hb];rfl
theorem zkd:∀ (l acc:List Int),(l.foldl (fun acc x=>if x∈acc then acc else acc++[x]) acc).length<=acc.length+l.length
 | [],acc=>Nat.le_refl _
 | x::l,acc=>by
   have:=zkd l (if x∈acc then acc else acc++[x]);simp only [List.foldl_cons,List.length_cons];split at this
   · rename_i h;rw [if_pos h];omega
   · rename_i h;rw [if_neg h];rw [List.length_append,List.length_singleton] at this;omega
theorem z09l (l:List Int):(nubL l).length<=l.length:=by
 have:=zkd l [];rwa [List.length_nil,Nat.zero_add] at this
theorem z02p (t:Table) (b:Nat):wantB t b<=((t.map++t.by_).filter fun x=>decide (inB b x)).length:=z09l _
def wantS (t:Table):Nat->Nat->Nat
 | 0,_=>0
 | m+1,b=>wantB t b+wantS t m (b+1)
theorem z09m {t:Table} (ht:TRg t) (b:Nat):wantB t b<4294967296:=by
 have h1:=z02p t b;have h2:=List.length_filter_le (fun x=>decide (inB b x)) (t.map++t.by_);rw [List.length_append] at h2;have:=ht.l;omega
theorem zyn {t:Table} (ht:TRg t):∀ (m N b n:Nat) (b' n':Int),b+m=32->b'=b->n'=n->n<=b*4294967296->m<N->ze z5d N (n',b',t)=some ((n+wantS t m b:Nat):Int)
 | m,0,_,_,_,_,_,_,_,_,h=>by omega
 | 0,N+1,b,n,b',n',h1,h2,h3,h4,_=>by
   rw [z6,z7f];unfold z2g wantS;dsimp only;rw [zF (by omega),zD,h3];rfl
 | m+1,N+1,b,n,b',n',h1,h2,h3,h4,h5=>by
   subst h2 h3;have:=z09m ht b;rw [z6,z7f];unfold z2g wantS;dsimp only;rw [zT (by omega),zC,zmq ht (by omega),z7,zf (n:=(b:Int)+1) (by omega) (by omega),zf (by omega) (by omega),
    zyn ht m N (b+1) (n+wantB t b) _ _ (by omega) (by omega) (by omega) (by omega) (by omega)]
   congr 2;omega
theorem z02q {t:Table} (ht:TRg t):z2r t=some ((wantS t 32 0:Nat):Int):=by
 refine zy 40 fun N hN=>?_
 have h:=zyn ht 32 N 0 0 0 0 rfl rfl rfl (Nat.zero_le _) (by omega);rw [Nat.zero_add] at h;exact h
theorem z02r (t:Table):∀ (m b:Nat),wantS t m b<=((t.map++t.by_).filter fun x=>decide (0<=x /\ (b:Int)<=x / 16 /\ x / 16<((b+m:Nat):Int))).length
 | 0,b=>Nat.zero_le _
 | m+1,b=>by
   unfold wantS;have h1:=z02p t b;have h2:=z02r t m (b+1);have key:∀ l:List Int,(l.filter fun x=>decide (inB b x)).length+(l.filter fun x=>decide (0<=x /\ ((b+1:Nat):Int)<=x / 16 /\ x / 16<((b+1+m:Nat):Int))).length<=(l.filter fun x=>decide (0<=x /\ (b:Int)<=x / 16 /\ x / 16<((b+(m+1):Nat):Int))).length:=fun l=>by
    induction l with
    | nil=>exact Nat.le_refl _
    | cons x l ih =>
      simp only [List.filter_cons];by_cases c1:inB b x
      · have c2:¬ (0<=x /\ ((b+1:Nat):Int)<=x / 16 /\ x / 16<((b+1+m:Nat):Int)):=by have:=c1.2;omega
        have c3:0<=x /\ (b:Int)<=x / 16 /\ x / 16<((b+(m+1):Nat):Int):=by have:=c1.2;have:=c1.1;omega
        rw [zT c1,zF c2,zT c3,if_pos rfl,if_neg Bool.false_ne_true,if_pos rfl,List.length_cons,List.length_cons];omega
      · rw [zF c1,if_neg Bool.false_ne_true];by_cases c2:0<=x /\ ((b+1:Nat):Int)<=x / 16 /\ x / 16<((b+1+m:Nat):Int)
        · have c3:0<=x /\ (b:Int)<=x / 16 /\ x / 16<((b+(m+1):Nat):Int):=by omega
          rw [zT c2,zT c3,if_pos rfl,if_pos rfl,List.length_cons,List.length_cons];omega
        · rw [zF c2,if_neg Bool.false_ne_true];split
          · rw [List.length_cons];omega
          · exact ih
   have:=key (t.map++t.by_);omega
theorem z00w (t:Table):wantS t 32 0<=t.map.length+t.by_.length:=by
 have h1:=z02r t 32 0;have h2:=List.length_filter_le (fun x=>decide (0<=x /\ ((0:Nat):Int)<=x / 16 /\ x / 16<((0+32:Nat):Int))) (t.map++t.by_);rw [List.length_append] at h2;omega
theorem z0ah {l:List Int} (hl:l.length<4294967296):∀ (m i:Nat) (best:Int),i+m=l.length->∃ r,(∀ N,m<N->ze z9s N (l,best,(i:Int))=some r) /\ r<=best /\ (r=best \/ r∈l)
 | 0,i,best,h1=>by
   refine ⟨best,fun N hN=>?_,Int.le_refl _,.inl rfl⟩;obtain ⟨N,rfl⟩:∃ M,N=M+1:=⟨N - 1,by omega⟩;rw [z6,zb2];unfold z5e;dsimp only;rw [zF (by omega),zD]
 | m+1,i,best,h1=>by
   obtain ⟨r,h2,h3,h4⟩:=z0ah hl m (i+1) (min best (l.getD i 0)) (by omega);refine ⟨r,fun N hN=>?_,by omega,?_⟩
   · obtain ⟨N,rfl⟩:∃ M,N=M+1:=⟨N - 1,by omega⟩;have ei:((i:Int)).toNat=i:=by omega
     rw [z6,zb2];unfold z5e;have d1:decide ((i:Int)<(l.length:Int))=true:=zT (by omega);have d2:decide (0<=(i:Int))=true:=zT (by omega);have ew:w64 ((i:Int)+1)=((i+1:Nat):Int):=by rw [zf (by omega) (by omega)];rfl
     simp only [ei,ew,d1,d2,zC,h2 N (by omega)]
   · rcases h4 with h4 | h4
     · by_cases c:best<=l.getD i 0
       · exact .inl (by omega)
       · refine .inr ?_;have:r=l.getD i 0:=by omega
         rw [this];exact zr (by omega)
     · exact .inr h4
theorem z0ai {l:List Int} (hl:l.length<4294967296):∀ (m i:Nat) (best:Int),i+m=l.length->∃ r,(∀ N,m<N->ze z9t N (l,best,(i:Int))=some r) /\ best<=r /\ (r=best \/ r∈l)
 | 0,i,best,h1=>by
   refine ⟨best,fun N hN=>?_,Int.le_refl _,.inl rfl⟩;obtain ⟨N,rfl⟩:∃ M,N=M+1:=⟨N - 1,by omega⟩;rw [z6,zb3];unfold z5f;dsimp only;rw [zF (by omega),zD]
 | m+1,i,best,h1=>by
   obtain ⟨r,h2,h3,h4⟩:=z0ai hl m (i+1) (max best (l.getD i 0)) (by omega);refine ⟨r,fun N hN=>?_,by omega,?_⟩
   · obtain ⟨N,rfl⟩:∃ M,N=M+1:=⟨N - 1,by omega⟩;have ei:((i:Int)).toNat=i:=by omega
     rw [z6,zb3];unfold z5f;have d1:decide ((i:Int)<(l.length:Int))=true:=zT (by omega);have d2:decide (0<=(i:Int))=true:=zT (by omega);have ew:w64 ((i:Int)+1)=((i+1:Nat):Int):=by rw [zf (by omega) (by omega)];rfl
     simp only [ei,ew,d1,d2,zC,h2 N (by omega)]
   · rcases h4 with h4 | h4
     · by_cases c:l.getD i 0<=best
       · exact .inl (by omega)
       · refine .inr ?_;have:r=l.getD i 0:=by omega
         rw [this];exact zr (by omega)
     · exact .inr h4
theorem z09n {l:List Int} (hl:l.length<4294967296) (hne:l≠[]):∃ a b,zf2 l=some a /\ zf4 l=some b /\ a<=b /\ a∈l /\ b∈l:=by
 have hpos:0<l.length:=List.length_pos_iff.2 hne;obtain ⟨a,a1,a2,a3⟩:=z0ah hl (l.length - 1) 1 (l.getD 0 0) (by omega);obtain ⟨b,b1,b2,b3⟩:=z0ai hl (l.length - 1) 1 (l.getD 0 0) (by omega);have h0:l.getD 0 0∈l:=zr hpos;refine ⟨a,b,zy (l.length+1) fun N hN=>?_,zy (l.length+1) fun N hN=>?_,by omega,a3.elim (fun e=>by rw [e];exact h0) id,b3.elim (fun e=>by rw [e];exact h0) id⟩
 · unfold zf1;rw [zF (by omega),zD,zT (by omega),zC];exact a1 N (by omega)
 · unfold zf3;rw [zF (by omega),zD,zT (by omega),zC];exact b1 N (by omega)
theorem z00x {bs:List Block} (hb:bs.length<4294967296):∀ (m i:Nat) (acc:List Int),i+m=bs.length->acc.length<=i->(∀ x∈acc,∃ b∈bs,x=b.erases) ->
 ∃ r:Int×Int,(∀ N,m<N->ze z7s N (bs,(bs.length:Int),(i:Int),acc)=some r) /\ r.1<=r.2 /\ ((r.1=0 /\ r.2=0) \/ ((∃ b∈bs,r.1=b.erases) /\ ∃ b∈bs,r.2=b.erases))
 | 0,i,acc,h1,h2,h3=>by
   by_cases e:acc=[]
   · refine ⟨(0,0),fun N hN=>?_,Int.le_refl _,.inl ⟨rfl,rfl⟩⟩;obtain ⟨N,rfl⟩:∃ M,N=M+1:=⟨N - 1,by omega⟩;rw [z6,z1p];unfold z15;dsimp only;rw [zF (by omega),zD,e];rfl
   · obtain ⟨a,b,a1,b1,hab,ha,hb'⟩:=z09n (l:=acc) (by omega) e;have hpos:0<acc.length:=List.length_pos_iff.2 e;refine ⟨(a,b),fun N hN=>?_,hab,.inr ⟨h3 a ha,h3 b hb'⟩⟩;obtain ⟨N,rfl⟩:∃ M,N=M+1:=⟨N - 1,by omega⟩;rw [z6,z1p];unfold z15;dsimp only;rw [zF (by omega),zD,zF (by omega),zD,a1,z7,b1,z7]
 | m+1,i,acc,h1,h2,h3=>by
   have ei:((i:Int)).toNat=i:=by omega
   have ew:w64 ((i:Int)+1)=((i+1:Nat):Int):=by rw [zf (by omega) (by omega)];rfl
   have d1:decide ((i:Int)<(bs.length:Int))=true:=zT (by omega);have d2:decide (0<=(i:Int))=true:=zT (by omega);cases hbad:(bs.getD i default).bad with
   | true =>
     obtain ⟨r,r1,r2⟩:=z00x hb m (i+1) acc (by omega) (by omega) h3;refine ⟨r,fun N hN=>?_,r2⟩;obtain ⟨N,rfl⟩:∃ M,N=M+1:=⟨N - 1,by omega⟩;rw [z6,z1p];unfold z15;simp only [ei,ew,d1,d2,hbad,Bool.not_true,zC,zD,r1 N (by omega)]
   | false =>
     obtain ⟨r,r1,r2⟩:=z00x hb m (i+1) (acc++[(bs.getD i default).erases]) (by omega) (by simp;omega) (fun x hx=>by
      rcases List.mem_append.1 hx with h | h
      · exact h3 x h
      · exact ⟨_,zr (by omega),List.mem_singleton.1 h⟩)
     refine ⟨r,fun N hN=>?_,r2⟩;obtain ⟨N,rfl⟩:∃ M,N=M+1:=⟨N - 1,by omega⟩;rw [z6,z1p];unfold z15;have d3:decide ((acc.length+1)*8<=70368744177664)=true:=zT (by omega);have d4:decide (acc.length+1<=70368744177664)=true:=zT (by omega);simp only [ei,ew,d1,d2,d3,d4,hbad,List.length_singleton,Bool.not_false,zC,r1 N (by omega)]
theorem z0aj {c:Chip} (hc:z0g c):∃ r:Int×Int,z5g c=some r /\ r.1<=r.2 /\ ((r.1=0 /\ r.2=0) \/ ((∃ b∈c.blocks,r.1=b.erases) /\ ∃ b∈c.blocks,r.2=b.erases)):=by
 obtain ⟨r,r1,r2⟩:=z00x hc.1 c.blocks.length 0 [] (Nat.zero_add _) (Nat.le_refl _) (fun _ h=>by cases h);exact ⟨r,zy (c.blocks.length+1) fun N hN=>r1 N (by omega),r2⟩
end Clk
namespace Clk
open Go
def grpP (H:Nat->Str):List Int->Nat->List (Int×List Int)->List (Int×List Int)
 | [],_,G=>G
 | p::r,i,G=>grpP H r (i+1) (if H i=[] then G else addG p i G)
theorem z07i {HAS:Int->Option Str} {H:Nat->Str} (h:∀ i:Nat,HAS i=some (H i)):∀ (l:List Int) (i:Nat) (G:List (Int×List Int)),grpF HAS l i G=some (grpP H l i G)
 | [],_,_=>rfl
 | p::r,i,G=>by
   unfold grpF grpP;rw [h i];exact z07i h r (i+1) _
structure RowOk (S:Nat) (H:List Str) (l:List Int):Prop where
 ne:l≠[]
 le:l.length<=8
 rng:∀ s∈l,0<=s /\ s<S
 same:∀ s∈l,H.getD s.toNat []=H.getD (l.getD 0 0).toNat []
theorem z00y {d:Device} (hm:MapR d.table) (hl:d.table.map.length<4294967296):z9q d=some ((grpP (fun s=>hasT d.chip d.table s) d.table.map 0 []).map (·.2)):=by
 show sharesF zgm d=_;unfold sharesF;rw [if_pos ⟨hl,fun n hn=>hm n hn⟩,z07i (H:=fun s=>hasT d.chip d.table s) (fun i=>z04a hm i)];rfl
end Clk
namespace Clk
open Go
theorem z0ce (x:Int):z9l x=some false:=by
 unfold z9l zi0;simp
theorem zyo (a b:Int):∃ r,z5h (a,b)=some r:=by
 unfold z5h zd9;simp only [z0ce,z7,zD];cases decide (a<b) with
 | true=>exact ⟨_,rfl⟩
 | false=>cases decide (b<a) with
   | true=>exact ⟨_,rfl⟩
   | false=>exact ⟨_,rfl⟩
theorem s_Or (a b:Int):∃ r,zt8 [a,b]=some r:=by
 have h:∃ r,∀ N,3<=N->zjh N [a,b]=some r:=by
  by_cases ha:a=0
  · by_cases hb:b=0
    · refine ⟨0,fun N hN=>?_⟩;obtain ⟨N,rfl⟩:∃ M,N=M+3:=⟨N - 3,by omega⟩;rw [ha,hb];rfl
    · refine ⟨b,fun N hN=>?_⟩;obtain ⟨N,rfl⟩:∃ M,N=M+3:=⟨N - 3,by omega⟩;unfold zjh;rw [ha,z6,zbp];show ze zi2 (N+2) (0,[0,b],2,1)=_;rw [z6,zbp];unfold zda;have d:decide (b=0)=false:=zF hb;show cond (!(decide (b=0))) (some b) _=_;rw [d];rfl
  · refine ⟨a,fun N hN=>?_⟩;obtain ⟨N,rfl⟩:∃ M,N=M+3:=⟨N - 3,by omega⟩;unfold zjh;rw [z6,zbp];unfold zda;have d:decide (a=0)=false:=zF ha;show cond (!(decide (a=0))) (some a) _=_;rw [d];rfl
 obtain ⟨r,hr⟩:=h;exact ⟨r,zy 3 fun N hN=>hr N hN⟩
theorem z09o (a b:Rank):∃ r,z4m (a,b)=some r:=by
 obtain ⟨x,hx⟩:=zyo a.wanted b.wanted;obtain ⟨y,hy⟩:=zyo a.erases b.erases;obtain ⟨z,hz⟩:=s_Or x y;refine ⟨decide (z<0),?_⟩;show z1q a b=_;unfold z1q;rw [hx,z7,hy,z7,hz,z7]
theorem zlh {g:Geometry} {B P S:Nat} (hG:Gm g B P S) {d:Device} (hI:DvI g B P S d) (hT:TRg d.table):∀ (m i:Nat) (best:Int) (rk:Rank),i+m=B->∃ v,(∀ N,m<N->ze z5i N (((B:Nat):Int),(i:Int),d.chip,d.table,best,rk,d.chip,d.opn,2)=some v) /\ (v<0->best<0 /\ ∀ j,i<=j->j<B->z0h d.chip d.opn j=2->P<=wantB d.table j)
 | 0,i,best,rk,h1=>by
   refine ⟨best,fun N hN=>?_,fun h=>⟨h,fun j _ _=>by omega⟩⟩;obtain ⟨N,rfl⟩:∃ M,N=M+1:=⟨N - 1,by omega⟩;rw [z6,z0e];unfold z04;dsimp only;rw [zF (by omega),zD]
 | m+1,i,best,rk,h1=>by
   have hB2:=hG.b2;have ei:((i:Int)).toNat=i:=by omega
   have hpg:=hI.ch.pg i (by omega);unfold blk at hpg;have hlen:=hI.ch.len;have hnx:w64 ((i:Int)+1)=((i+1:Nat):Int):=by rw [zf (by omega) (by omega)];rfl
   have hstate:=z72 (hI.ok hG).1 d.opn i;have hcount:=zmq hT (b:=i) (by omega);have dA:decide ((i:Int)<((B:Nat):Int))=true:=zT (by omega);have dB:decide (32<=(i:Int))=false:=zF (by omega);have dC:decide (0<=(i:Int))=true:=zT (by omega);obtain ⟨v1,hv1,hs1⟩:=zlh hG hI hT m (i+1) best rk (by omega);by_cases c1:z0h d.chip d.opn i=2
   · have d1:decide (z0h d.chip d.opn i=2)=true:=zT c1;by_cases c2:wantB d.table i<P
     · have dP:decide (((wantB d.table i:Nat):Int)<((P:Nat):Int))=true:=zT (by omega);obtain ⟨v2,hv2,hs2⟩:=zlh hG hI hT m (i+1) (i:Int) ⟨((wantB d.table i:Nat):Int),(d.chip.blocks.getD i default).erases⟩ (by omega);by_cases c3:best<0
       · have d3:decide (best<0)=true:=zT c3;refine ⟨v2,fun N hN=>?_,fun h=>absurd (hs2 h).1 (by omega)⟩;obtain ⟨N,rfl⟩:∃ M,N=M+1:=⟨N - 1,by omega⟩;rw [z6,z0e];unfold z04;simp only [hlen,hcount,hstate,z7,ei,hpg,hnx,dA,dB,dC,d1,dP,d3,zC,zD,hv2 N (by omega)]
       · have d3:decide (best<0)=false:=zF c3;obtain ⟨r,hr⟩:=z09o ⟨((wantB d.table i:Nat):Int),(d.chip.blocks.getD i default).erases⟩ rk;cases r with
         | true =>
           refine ⟨v2,fun N hN=>?_,fun h=>absurd (hs2 h).1 (by omega)⟩;obtain ⟨N,rfl⟩:∃ M,N=M+1:=⟨N - 1,by omega⟩;rw [z6,z0e];unfold z04;simp only [hlen,hcount,hstate,z7,ei,hpg,hnx,dA,dB,dC,d1,dP,d3,zC,zD,hr,hv2 N (by omega)]
         | false =>
           refine ⟨v1,fun N hN=>?_,fun h=>absurd (hs1 h).1 c3⟩;obtain ⟨N,rfl⟩:∃ M,N=M+1:=⟨N - 1,by omega⟩;rw [z6,z0e];unfold z04;simp only [hlen,hcount,hstate,z7,ei,hpg,hnx,dA,dB,dC,d1,dP,d3,zC,zD,hr,hv1 N (by omega)]
     · have dP:decide (((wantB d.table i:Nat):Int)<((P:Nat):Int))=false:=zF (by omega);refine ⟨v1,fun N hN=>?_,fun h=>⟨(hs1 h).1,fun j h2 h3 h4=>?_⟩⟩
       · obtain ⟨N,rfl⟩:∃ M,N=M+1:=⟨N - 1,by omega⟩;rw [z6,z0e];unfold z04;simp only [hlen,hcount,hstate,z7,ei,hpg,hnx,dA,dB,dC,d1,dP,zC,zD,hv1 N (by omega)]
       · by_cases e:j=i
         · rw [e];omega
         · exact (hs1 h).2 j (by omega) h3 h4
   · have d1:decide (z0h d.chip d.opn i=2)=false:=zF c1;refine ⟨v1,fun N hN=>?_,fun h=>⟨(hs1 h).1,fun j h2 h3 h4=>?_⟩⟩
     · obtain ⟨N,rfl⟩:∃ M,N=M+1:=⟨N - 1,by omega⟩;rw [z6,z0e];unfold z04;simp only [hstate,z7,hnx,dA,d1,zC,zD,hv1 N (by omega)]
     · by_cases e:j=i
       · rw [e] at h4;exact absurd h4 c1
       · exact (hs1 h).2 j (by omega) h3 h4
theorem z07j {g:Geometry} {B P S:Nat} (hG:Gm g B P S) {d:Device} (hI:DvI g B P S d) (hT:TRg d.table):∃ v,z2s (d.chip,d.table,d.opn)=some v /\ (v<0->∀ j,j<B->z0h d.chip d.opn j=2->P<=wantB d.table j):=by
 obtain ⟨v,hv,hs⟩:=zlh hG hI hT B 0 (-1) ⟨0,0⟩ (by omega);refine ⟨v,zy (B+1) fun N hN=>?_,fun h j hj=>(hs h).2 j (Nat.zero_le _) hj⟩;show z5j N d.chip d.table d.opn=_;unfold z5j;rw [hI.ch.len];exact hv N (by omega)
theorem DvI.trg {g:Geometry} {B P S:Nat} (hG:Gm g B P S) {d:Device} (h:DvI g B P S d):TRg d.table:=by
 have hS:=h.ta.lm;have hS':=h.ta.lb;have:=hG.s2;refine ⟨by omega,fun n hn=>?_⟩;have:n = -1 \/ wrt d.chip n:=(List.mem_append.1 hn).elim (h.ta.vm n) (h.ta.vb n);rcases this with e | e
 · omega
 · have:=z0af h.ch hG.b2 e;omega
theorem zpv {g:Geometry} {B P S:Nat} (hG:Gm g B P S) {d:Device} (hI:DvI g B P S d) (fs:List Fate) (hno:∀ b,b<B->z81 d b=false):z0t (d,fs)=some (d,fs,0):=by
 obtain ⟨v,hv,hs⟩:=z07d hG hI;have hv1:v = -1:=by
  rcases hs with ⟨e,_⟩ | ⟨b,hb,_,h⟩
  · exact e
  · rw [hno b hb] at h;cases h
 subst hv1;refine zy 1 fun N hN=>?_
 obtain ⟨N,rfl⟩:∃ M,N=M+1:=⟨N - 1,by omega⟩;show z28 (N+1) d fs=_;unfold z28;rw [hv,z7,z6,z3r];rfl
theorem z04e {g:Geometry} {B P S:Nat} (hG:Gm g B P S) {d:Device} (hI:DvI g B P S d) (fs:List Fate) (hno:∀ b,b<B->z81 d b=false) (hm:resT d<=((manyT d.chip d.opn 0:Nat):Int)):z3h (d,fs)=some (d,fs,0):=by
 have hr:=zpv hG hI fs hno;have hsp:0<=d.geometry.spare /\ d.geometry.spare<4294967296:=by rw [hI.geo];exact hG.sp
 refine zy 1 fun N hN=>?_
 obtain ⟨N,rfl⟩:∃ M,N=M+1:=⟨N - 1,by omega⟩;show z8t (N+1) d fs=_;unfold z8t;rw [z6,za2];unfold z08;dsimp only;rw [hr,z7,zmo (hI.ok hG).1,z7,zg9 (hI.ok hG).1 hsp,z7,zT hm,zC];rfl
def twinL (c:Chip) (t:Table) (data:Str):Nat->Nat->Int->Int
 | 0,_,best=>best
 | m+1,i,best=>twinL c t data m (i+1) (if (pageT c (t.map.getD i 0)).2=true /\ (pageT c (t.map.getD i 0)).1.data=data /\ (z0q t (t.map.getD i 0)).length<8 /\ (best<0 \/ t.map.getD i 0<best) then t.map.getD i 0 else best)
theorem zv6 {g:Geometry} {B P S:Nat} (hG:Gm g B P S) {d:Device} (hI:DvI g B P S d) (data:Str):∀ (m N i:Nat) (best:Int),i+m=S->m<N->ze z0x N (data,best,(i:Int),d.chip,d.table)=some (twinL d.chip d.table data m i best)
 | m,0,_,_,_,h=>by omega
 | 0,N+1,i,best,h1,_=>by
   rw [z6,z2h];unfold z0m twinL;dsimp only;rw [hI.ta.lm,zF (by omega),zD]
 | m+1,N+1,i,best,h1,h2=>by
   have hS2:=hG.s2;have ei:((i:Int)).toNat=i:=by omega
   have hlm:=hI.ta.lm;have hnx:w64 ((i:Int)+1)=((i+1:Nat):Int):=by rw [zf (by omega) (by omega)];rfl
   have dA:decide ((i:Int)<((S:Nat):Int))=true:=zT (by omega);have dC:decide (0<=(i:Int))=true:=zT (by omega);have hmem:d.table.map.getD i 0∈d.table.map:=zr (by omega);have hrange:=(hI.tok hG).v _ hmem;have hpage:=zba d.chip (place:=d.table.map.getD i 0) ⟨by omega,by omega⟩;have hown:=zna (hI.ok hG).2 (d.table.map.getD i 0);have ih1:=zv6 hG hI data m N (i+1) best (by omega) (by omega);have ih2:=zv6 hG hI data m N (i+1) (d.table.map.getD i 0) (by omega) (by omega);rw [z6,z2h];unfold z0m twinL;simp only [hlm,dA,dC,ei,hpage,hown,z7,hnx,zC,ih1,ih2];cases h1:(pageT d.chip (d.table.map.getD i 0)).2 with
   | false=>rw [zD,if_neg (fun h=>Bool.false_ne_true h.1)]
   | true =>
     rw [zC];by_cases h2:(pageT d.chip (d.table.map.getD i 0)).1.data=data
     · rw [zT h2,zC];by_cases h3:(z0q d.table (d.table.map.getD i 0)).length<8
       · rw [zT (by omega),zC];by_cases h4:best<0
         · rw [zT h4,zC,if_pos ⟨rfl,h2,h3,.inl h4⟩]
         · rw [zF h4,zD];by_cases h5:d.table.map.getD i 0<best
           · rw [zT h5,zC,if_pos ⟨rfl,h2,h3,.inr h5⟩]
           · rw [zF h5,zD,if_neg (fun h=>h.2.2.2.elim h4 h5)]
       · rw [zF (by omega),zD,if_neg (fun h=>h3 h.2.2.1)]
     · rw [zF h2,zD,if_neg (fun h=>h2 h.2.1)]
theorem z0cf {g:Geometry} {B P S:Nat} (hG:Gm g B P S) {d:Device} (hI:DvI g B P S d) (data:Str):z7h (d.chip,d.table,data)=some (twinL d.chip d.table data S 0 (-1)) :=
 zy (S+1) fun N hN=>zv6 hG hI data S N 0 (-1) (by omega) (by omega)
def wantW (d:Device) (S s:Nat) (data:Str):Write:=if 0<=twinL d.chip d.table data S 0 (-1) then ⟨[],⟨2,0,[(s:Int)],[twinL d.chip d.table data S 0 (-1)]⟩⟩ else ⟨data,⟨1,0,[(s:Int)],[]⟩⟩
theorem z02s {g:Geometry} {B P S:Nat} (hG:Gm g B P S) {d:Device} (hI:DvI g B P S d) {s:Nat} (hs:s<S) {data:Str} (h1:data≠[]) (hdl:data.length<4294967296) (h2:hasT d.chip d.table s≠data) (hno:∀ b,b<B->z81 d b=false) (hm:resT d<=((manyT d.chip d.opn 0:Nat):Int)) {d':Device}
 (hp:putD d (wantW d S s data) []=(d',[],0)) (hno':∀ b,b<B->z81 d' b=false):za3 (d,(s:Int),data,[])=some (d',[],0) /\ DvI g B P S d':=by
 have hF:FOk []:=fun _ h=>by cases h
 have htw:=z0cf hG hI data;obtain ⟨v,hv,hvs⟩:=z0ag hG hI data;have hve:twinL d.chip d.table data S 0 (-1)=v:=by rw [htw] at hv;exact Option.some.inj hv
 have hpr:Proper (wantW d S s data).record d.table /\ WriteOk (wantW d S s data):=by
  unfold wantW;split
  · rename_i h0;refine ⟨.inr (.inr ⟨s,v,rfl,rfl,by rw [hve],.inr (hvs.resolve_left (by omega))⟩),⟨by show (1:Nat)<_;decide,by show (1:Nat)<_;decide⟩,by show (0:Nat)<_;decide⟩
  · exact ⟨.inl ⟨rfl,by show (1:Nat)<=_;decide⟩,⟨by show (1:Nat)<_;decide,by show (0:Nat)<_;decide⟩,hdl⟩
 obtain ⟨r,hr,hres⟩:=zuy hG hI hF hpr.1 hpr.2;have hr2:=zpr (fs:=[]) (hI.ok hG) hpr.2;rw [hp] at hr2;have e:r=(d',[],0):=by rw [hr2] at hr;exact (Option.some.inj hr).symm
 have hI':DvI g B P S d':=by
  rcases hres with ⟨h,_,_⟩ | R
  · rw [e] at h;exact absurd rfl h
  · have:=R.inv;rw [e] at this;exact this
 refine ⟨?_,hI'⟩;have hwant:z6z (d,(s:Int),data)=some (wantW d S s data):=by
  show z6y d s data=_;unfold z6y wantW;rw [zF h1,zD,htw,z7];by_cases c:0<=twinL d.chip d.table data S 0 (-1)
  · rw [zT c,zC,if_pos c]
  · rw [zF c,zD,if_neg c]
 have hneed:zbr (d,(s:Int),data)=some true:=by
  show z6x d s data=_;unfold z6x;rw [zF h1,zD,zps (hI.mapR hG),z7,zF h2];rfl
 show zdf d s data []=_;unfold zdf;rw [hneed,z7,Bool.not_true,zD,z04e hG hI [] hno hm,z7];dsimp only;rw [zT rfl,Bool.not_true,zD,hwant,z7,hr2,z7];dsimp only;rw [zF (by decide),zD,zT rfl,Bool.not_true,zD,zpv hG hI' [] hno',z7];rfl
end Clk
namespace Clk
open Go
def initDb (g:Geometry) (P S:Nat) (bs:List Bool):Device:=⟨g,⟨bs.map fun x=>⟨List.replicate P z7z,0,0,x⟩,false,false,0⟩,⟨List.replicate S (-1),List.replicate S (-1)⟩,0,-1⟩
theorem z04f {g:Geometry} {B P S:Nat} (hG:Gm g B P S) {bs:List Bool} (hl:bs.length=B):DvI g B P S (initDb g P S bs):=by
 have hb:∀ i,i<B->blk (initDb g P S bs).chip i=⟨List.replicate P z7z,0,0,bs.getD i false⟩:=fun i hi=>by
  unfold blk initDb;rw [zI,List.getElem?_map,zI,zH (by omega)];rfl
 have hm:∀ v:Int,v∈List.replicate S (-1:Int)->v = -1:=fun v hv=>(List.mem_replicate.1 hv).2
 have hc:∀ v:Int,0<=v->(List.replicate S (-1:Int)).count v<=8:=fun v hv=>by
  rw [List.count_eq_zero.2 (fun h=>by have:=hm v h;omega)];omega
 refine ⟨rfl,⟨by show (bs.map _).length=B;simp [hl],rfl,fun i hi=>by rw [hb i hi];simp,fun i hi=>by rw [hb i hi];exact ⟨Int.le_refl _,by show (0:Int)<=P;omega⟩,fun i hi=>by rw [hb i hi];exact zv4 P,fun i hi _ _=>by rw [hb i hi];exact .inl rfl,by show (-1:Int) <= -1;omega⟩,
  ⟨by show (List.replicate S _).length=S;simp,by show (List.replicate S _).length=S;simp,fun v hv=>.inl (hm v hv),fun v hv=>.inl (hm v hv),hc,hc,fun s s' hs _ h=>?_⟩,fun b hb p hp=>?_⟩
 · have h:0<=(List.replicate S (-1:Int)).getD s 0:=h;rw [zv3 hs] at h;omega
 · obtain ⟨x,_,rfl⟩:=List.mem_map.1 hb;rw [(List.mem_replicate.1 hp).2];exact ⟨by decide,by decide⟩
def ga:Geometry:=⟨8,4,5,1⟩
theorem zv7:Gm ga 8 4 5:=⟨rfl,rfl,rfl,by decide,by decide,by decide,by decide,by decide,by decide,by decide⟩
def dA0:Device:=initDb ga 4 5 [false,false,false,false,false,false,false,true]
theorem z0dh:(formatT ga [7]).1=dA0:=by kernel_rfl
def dA1:Device:=(putD dA0 (wantW dA0 5 1 [97]) []).1
def dA2:Device:=(putD dA1 (wantW dA1 5 2 [97]) []).1
def fineA (d:Device):Bool:=(List.range 8).all (fun b=>!(z81 d b))&&decide (resT d<=((manyT d.chip d.opn 0:Nat):Int))
theorem zpw {d:Device} (h:fineA d=true):(∀ b,b<8->z81 d b=false) /\ resT d<=((manyT d.chip d.opn 0:Nat):Int):=by
 unfold fineA at h;rw [Bool.and_eq_true,List.all_eq_true,decide_eq_true_eq] at h;exact ⟨fun b hb=>by have:=h.1 b (List.mem_range.2 hb);simpa using this,h.2⟩
theorem z0ee:fineA dA0=true:=by kernel_rfl
theorem z0ef:fineA dA1=true:=by kernel_rfl
theorem z0eg:fineA dA2=true:=by kernel_rfl
theorem z0eh:putD dA0 (wantW dA0 5 1 [97]) []=(dA1,[],0):=by kernel_rfl
theorem z0ei:putD dA1 (wantW dA1 5 2 [97]) []=(dA2,[],0):=by kernel_rfl
theorem z0ej:decide (hasT dA0.chip dA0.table ((1:Nat):Int)=[97])=false:=by kernel_rfl
theorem z0ek:decide (hasT dA1.chip dA1.table ((2:Nat):Int)=[97])=false:=by kernel_rfl
theorem z0ak:za3 (dA0,((1:Nat):Int),[97],[])=some (dA1,[],0) /\ za3 (dA1,((2:Nat):Int),[97],[])=some (dA2,[],0) /\ DvI ga 8 4 5 dA2:=by
 have i0:DvI ga 8 4 5 dA0:=z04f zv7 rfl;obtain ⟨f0,g0⟩:=zpw z0ee;obtain ⟨f1,g1⟩:=zpw z0ef;obtain ⟨f2,g2⟩:=zpw z0eg;obtain ⟨s1,i1⟩:=z02s zv7 i0 (s:=1) (by decide) (data:=[97]) (by decide) (by decide) (of_decide_eq_false z0ej) f0 g0 z0eh f1;obtain ⟨s2,i2⟩:=z02s zv7 i1 (s:=2) (by decide) (data:=[97]) (by decide) (by decide) (of_decide_eq_false z0ek) f1 g1 z0ei f2;exact ⟨s1,s2,i2⟩
theorem z0el:zl9 (dA0,⟨2,1,0,[[97],[97]]⟩,[])=some (dA2,[],⟨0,[]⟩):=by
 obtain ⟨s1,s2,_⟩:=z0ak;have hch:zdb (5,⟨2,1,0,[[97],[97]]⟩)=some 0:=zy 4 fun N hN=>by
  obtain ⟨N,rfl⟩:∃ M,N=M+4:=⟨N - 4,by omega⟩;rfl
 refine zy 4 fun N hN=>?_
 obtain ⟨N,rfl⟩:∃ M,N=M+4:=⟨N - 4,by omega⟩;show zgn (N+4) dA0 ⟨2,1,0,[[97],[97]]⟩ []=_;unfold zgn;have hoff:dA0.chip.off=false:=rfl;have hlen:(dA0.table.map.length:Int)=5:=rfl;rw [hoff,zD,hlen,hch,z7,zT rfl,Bool.not_true,zD];dsimp only;rw [zF (by decide),zD,zT rfl,Bool.not_true,zD,zF (by decide),zD];rw [z6,z7y];unfold z8u;dsimp only;rw [zT (by decide),zC,zT rfl,zC,zT (by decide),zC,zC];rw [show w64 (1+0)=((1:Nat):Int) by decide,show w64 (0+1)=1 by decide];rw [show ([[97],[97]]:List Str).getD (Int.toNat 0) []=[97] by rfl,s1,z7];rw [z6,z7y];unfold z8u;dsimp only;rw [zT (by decide),zC,zT rfl,zC,zT (by decide),zC,zC];rw [show w64 (1+1)=((2:Nat):Int) by decide];rw [show ([[97],[97]]:List Str).getD (Int.toNat 1) []=[97] by rfl,s2,z7];rw [z6,z7y];rfl
def repA:Bool:=decide (manyT dA2.chip dA2.opn 0=6)&&decide (manyT dA2.chip dA2.opn 2=0)&&decide (manyT dA2.chip dA2.opn 3=1)&&decide (wantS dA2.table 32 0=2)&&dA2.chip.blocks.all (fun b=>decide (b.erases=0))&&decide ((grpP (fun s=>hasT dA2.chip dA2.table s) dA2.table.map 0 []).map (·.2)=[[1,2]])
theorem z0cg:repA=true:=by kernel_rfl
theorem z07k:zdg ()=some true:=by
 obtain ⟨_,_,hI⟩:=z0ak;have hR:=z0cg;unfold repA at hR;simp only [Bool.and_eq_true,decide_eq_true_eq,List.all_eq_true] at hR;obtain ⟨⟨⟨⟨⟨m0,m2⟩,m3⟩,mw⟩,me⟩,mg⟩:=hR;obtain ⟨r,hw,_,hr⟩:=z0aj (hI.ok zv7).1;obtain ⟨r1,r2⟩:=r;have hr0:r1=0 /\ r2=0:=by
  rcases hr with h | ⟨⟨b,hb,e1⟩,b',hb',e2⟩
  · exact h
  · have h1:r1=b.erases:=e1;have h2:r2=b'.erases:=e2;rw [me b hb] at h1;rw [me b' hb'] at h2;exact ⟨h1,h2⟩
 obtain ⟨rfl,rfl⟩:=hr0;have hof:z6a dA2=some ⟨6,0,1,2,0,0,false⟩:=by
  show ofF z18 z2r z5g z59 z2s dA2=_;unfold ofF;rw [z3j (hI.ok zv7).1,z3j (hI.ok zv7).1,z3j (hI.ok zv7).1,z02q (hI.trg zv7),hw,m0,m2,m3,mw];rfl
 have hlm:=hI.ta.lm;have hsh:=z00y (hI.mapR zv7) (by omega);rw [mg] at hsh;have hsm:smallT 0=ga:=rfl;have hfo:=z02e (g:=ga) (bad:=[7]) (by decide);show z8v=_;unfold z8v;rw [z075 (by decide) (by decide),z7,hsm,hfo,z7,z0dh,z0el,z7];dsimp only;rw [hof,z7,hsh,z7,zxv (by show (2:Nat)<_;decide)];rfl
end Clk
namespace Clk
open Go
theorem z02t {c:Chip} {o:Int}:∀ (m i:Nat),(∀ j,i<=j->j<i+m->z0h c o j=0 \/ z0h c o j=1 \/ z0h c o j=2 \/ z0h c o j=3)->z0n c o 0 m i+z0n c o 1 m i+z0n c o 2 m i+z0n c o 3 m i=m
 | 0,i,_=>rfl
 | m+1,i,h=>by
   have ih:=z02t m (i+1) fun j h1 h2=>h j (by omega) (by omega)
   have h0:=h i (Nat.le_refl _) (by omega);unfold z0n;rcases h0 with e | e | e | e <;> rw [e] <;> simp <;> omega
theorem zyp {c:Chip} {o st:Int}:∀ (m i:Nat),(∀ j,i<=j->j<i+m->z0h c o j≠st)->z0n c o st m i=0
 | 0,i,_=>rfl
 | m+1,i,h=>by
   unfold z0n;rw [if_neg (h i (Nat.le_refl _) (by omega)),zyp m (i+1) fun j h1 h2=>h j (by omega) (by omega)]
theorem z02u {B P:Nat} {c:Chip} {o:Int} (h:ChI B P c o):∀ (m i:Nat),i+m<=B->z0n c o 1 m i<=1 /\ ((o<i \/ ((i+m:Nat):Int)<=o)->z0n c o 1 m i=0)
 | 0,i,_=>⟨Nat.zero_le _,fun _=>rfl⟩
 | m+1,i,hm=>by
   obtain ⟨h1,h2⟩:=z02u h m (i+1) (by omega);have hs:=zka h o (i:=i) (by omega);unfold z0n;by_cases e:(i:Int)=o
   · have h3:=h2 (.inl (by omega));rw [h3];refine ⟨by split <;> omega,fun h4=>by omega⟩
   · have hne:z0h c o i≠1:=by
      rw [hs];split
      · decide
      · rw [if_neg (fun h=>e h.1)];split <;> decide
     rw [if_neg hne];exact ⟨by omega,fun h4=>by rw [h2 (by omega)]⟩
theorem zpx {c:Chip} {o:Int} {t:Table} {P:Nat}:∀ (m i:Nat),(∀ j,i<=j->j<i+m->z0h c o j=2->P<=wantB t j)->P*z0n c o 2 m i<=wantS t m i
 | 0,i,_=>by unfold z0n;omega
 | m+1,i,h=>by
   have ih:=zpx m (i+1) fun j h1 h2=>h j (by omega) (by omega)
   unfold z0n wantS;by_cases e:z0h c o i=2
   · have:=h i (Nat.le_refl _) (by omega) e;rw [if_pos e,Nat.mul_add,Nat.mul_one];omega
   · rw [if_neg e,Nat.zero_add];omega
theorem zsb (t:Table):∀ (m k b:Nat),m<=k->wantS t m b<=wantS t k b
 | 0,k,b,_=>Nat.zero_le _
 | m+1,k,b,h=>by
   obtain ⟨k,rfl⟩:∃ j,k=j+1:=⟨k - 1,by omega⟩;unfold wantS;have:=zsb t m k (b+1) (by omega);omega
theorem zre {n:Int} {l:List (List Int)} {k:List Int} (hn:0<=n /\ n<256) (hl:∀ x∈l,∀ n∈x,0<=n /\ n<256) (hl2:∀ x∈l,x.length<9223372036854775808) (hk:∀ x∈k,0<=x /\ x<256):z5w (n,l,k)=some true:=by
 obtain ⟨g,B,P,S,d,hG,hu,hI,hcap⟩:=z0dg hn hl hl2 hk;have hB2:=hG.b2;have hS2:=hG.s2;have hP2:=hG.p2;have hlen:=hI.ch.len;have hlm:=hI.ta.lm;have hlb:=hI.ta.lb;have hgeo:=hI.geo;have hc:=(hI.ok hG).1;have hst:∀ j,j<B->z0h d.chip d.opn j=0 \/ z0h d.chip d.opn j=1 \/ z0h d.chip d.opn j=2 \/ z0h d.chip d.opn j=3:=fun j hj=>by
  rw [zka hI.ch d.opn hj];split
  · exact .inr (.inr (.inr rfl))
  · split
    · exact .inr (.inl rfl)
    · split
      · exact .inr (.inr (.inl rfl))
      · exact .inl rfl
 have hsum:=z02t (c:=d.chip) (o:=d.opn) B 0 fun j _ hj=>hst j (by omega)
 have hone:=(z02u hI.ch B 0 (by omega)).1;have hwant:=z00w d.table;obtain ⟨r,hw,hw2,_⟩:=z0aj hc;obtain ⟨r1,r2⟩:=r;have hm:∀ st,manyT d.chip d.opn st=z0n d.chip d.opn st B 0:=fun st=>by unfold manyT;rw [hlen]
 obtain ⟨ro,hof,hro⟩:∃ ro,z6a d=some ⟨((z0n d.chip d.opn 0 B 0:Nat):Int),((z0n d.chip d.opn 2 B 0:Nat):Int),((z0n d.chip d.opn 3 B 0:Nat):Int),((wantS d.table 32 0:Nat):Int),r1,r2,ro⟩ /\ (ro=true->z0n d.chip d.opn 0 B 0=0 /\ restT d.chip d.opn=0 /\ ∀ j,j<B->z0h d.chip d.opn j=2->P<=wantB d.table j):=by
  have e0:z18 (d.chip,d.opn,0)=some ((z0n d.chip d.opn 0 B 0:Nat):Int):=by rw [z3j hc,hm]
  have e2:z18 (d.chip,d.opn,2)=some ((z0n d.chip d.opn 2 B 0:Nat):Int):=by rw [z3j hc,hm]
  have e3:z18 (d.chip,d.opn,3)=some ((z0n d.chip d.opn 3 B 0:Nat):Int):=by rw [z3j hc,hm]
  have key:z6a d=ofF z18 z2r z5g z59 z2s d:=rfl;rw [key];unfold ofF;simp only [e0,e2,e3,z02q (hI.trg hG),hw];by_cases c0:((z0n d.chip d.opn 0 B 0:Nat):Int)≠0
  · rw [if_pos c0];exact ⟨false,rfl,fun h=>by cases h⟩
  · rw [if_neg c0];simp only [zut hc];by_cases c1:restT d.chip d.opn≠0
    · rw [if_pos c1];exact ⟨false,rfl,fun h=>by cases h⟩
    · rw [if_neg c1];obtain ⟨v,hv,hvs⟩:=z07j hG hI (hI.trg hG);simp only [hv];exact ⟨decide (v<0),rfl,fun h=>⟨by omega,Classical.not_not.1 c1,hvs (of_decide_eq_true h)⟩⟩
 have hgood:d.geometry.spare<((z0n d.chip d.opn 3 B 0:Nat):Int) \/ ro=false:=by
  cases ro with
  | false=>exact .inr rfl
  | true =>
    refine .inl ?_;obtain ⟨z0,z1,z2⟩:=hro rfl;have hno1:z0n d.chip d.opn 1 B 0=0:=zyp B 0 fun j _ hj=>by
     intro h1;have hj':j<B:=by omega
     have hs:=zka hI.ch d.opn hj';rw [h1] at hs;have hbad:(blk d.chip j).bad=false:=by
      cases hb:(blk d.chip j).bad with
      | false=>rfl
      | true=>rw [if_pos hb] at hs;omega
     rw [if_neg (by rw [hbad];exact Bool.false_ne_true)] at hs;by_cases c2:(j:Int)=d.opn /\ (blk d.chip j).next<P
     · have:=zyc hI.ch hj' hbad (by rw [c2.1];exact z1);omega
     · rw [if_neg c2] at hs;split at hs <;> omega
    have hcl:=zpx (c:=d.chip) (o:=d.opn) (t:=d.table) (P:=P) B 0 fun j _ hj h2=>z2 j (by omega) h2
    have hmono:=zsb d.table B 32 0 hB2;have h1:P*z0n d.chip d.opn 2 B 0<=2*S:=by omega
    have h2:z0n d.chip d.opn 2 B 0+z0n d.chip d.opn 3 B 0=B:=by omega
    rw [hG.b,hG.p,hG.s] at hcap;rw [hgeo];apply Int.not_le.1
    intro h3;have hspare:=hG.sp;obtain ⟨sp,hsp⟩:∃ sp:Nat,g.spare=sp:=⟨g.spare.toNat,by omega⟩;rw [hsp] at h3 hcap;have h4:(B:Int) - 2*sp - 3<=((z0n d.chip d.opn 2 B 0:Nat):Int):=by omega
    have h5:((B:Int) - 2*sp - 3)*(P:Int)<=((z0n d.chip d.opn 2 B 0:Nat):Int)*(P:Int):=Int.mul_le_mul_of_nonneg_right h4 (by omega);have h6:((z0n d.chip d.opn 2 B 0:Nat):Int)*(P:Int)=((P*z0n d.chip d.opn 2 B 0:Nat):Int):=by rw [Int.natCast_mul,Int.mul_comm]
    omega
 show z2i n l k=_;unfold z2i;rw [z07k,z7,Bool.not_true,zD,hu,z7,hof,z7];simp only [zC];have hw64:w64 (w64 (((z0n d.chip d.opn 0 B 0:Nat):Int)+((z0n d.chip d.opn 2 B 0:Nat):Int))+((z0n d.chip d.opn 3 B 0:Nat):Int))=((z0n d.chip d.opn 0 B 0:Nat):Int)+((z0n d.chip d.opn 2 B 0:Nat):Int)+((z0n d.chip d.opn 3 B 0:Nat):Int):=by
  rw [zf (n:=((z0n d.chip d.opn 0 B 0:Nat):Int)+((z0n d.chip d.opn 2 B 0:Nat):Int)) (by omega) (by omega),zf (by omega) (by omega)]
 have hblocks:d.geometry.blocks=B:=by rw [hgeo];exact hG.b
 have hsec:d.geometry.sectors=S:=by rw [hgeo];exact hG.s
 have e1:w64 (d.geometry.blocks - 1)=(B:Int) - 1:=by rw [hblocks];exact zf (by omega) (by omega)
 have e2:w64 (2*d.geometry.sectors)=2*(S:Int):=by rw [hsec];exact zf (by omega) (by omega)
 have dl:decide (((wantS d.table 32 0:Nat):Int)<=2*(S:Int))=true:=zT (by omega);have dw:decide (r1<=r2)=true:=zT hw2;have tail:cond (decide (d.geometry.spare<((z0n d.chip d.opn 3 B 0:Nat):Int))) (some true) (some (!ro))=some true:=by
  rcases hgood with h | h
  · rw [zT h,zC]
  · rw [h];cases decide (d.geometry.spare<((z0n d.chip d.opn 3 B 0:Nat):Int)) <;> rfl
 rw [hw64,e1,e2,dl,dw,hblocks];simp only [zC,tail];by_cases c:((z0n d.chip d.opn 0 B 0:Nat):Int)+((z0n d.chip d.opn 2 B 0:Nat):Int)+((z0n d.chip d.opn 3 B 0:Nat):Int)=(B:Int)
 · rw [zT c,zC]
 · rw [zF c,zD,zT (by omega),zC]
end Clk
namespace Clk
open Go
theorem z07l {k:IntKind} {w:World} {a:Option Addr} {len cap:Nat} {zs:List Int} (h:IsRow k w a len cap zs):∀ n∈zs.take len,(Lit.int k n).wf=true:=by
 intro n hn;rcases h with ⟨_,_,_,rfl⟩ | ⟨_,_,_,_,_,_,h⟩
 · simp at hn
 · exact h n (List.mem_of_mem_take hn)
theorem z0ch {k:IntKind} {w:World} {a:Option Addr} {len cap:Nat} {zs:List Int} (h:IsRow k w a len cap zs):(zs.take len).length<9223372036854775808:=by
 rcases h with ⟨_,_,_,rfl⟩ | ⟨_,_,h1,h2,h3,_,_⟩
 · simp
 · have:maxLen=9223372036854775807:=rfl;simp only [List.length_take];omega
theorem z0ci {n:Int} (h:(Lit.int .u8 n).wf=true):0<=n /\ n<256:=by
 simp [Lit.wf,IntKind.min,IntKind.max,IntKind.signed,IntKind.bits] at h;omega
theorem litU8 {n:Int} (h:(Lit.int .u8 n).wf=true):0<=n /\ n<256:=z0ci h
theorem rowU8 {w:World} {a:Option Addr} {len cap:Nat} {zs:List Int} (h:IsRow .u8 w a len cap zs):∀ n∈zs.take len,0<=n /\ n<256:=fun n hn=>z0ci (z07l h n hn)
end Clk
namespace Clk
open Go
def IsRows (k:IntKind) (w:World) (a:Option Addr) (len cap:Nat) (zss:List (List Int)):Prop :=
 RelI w (fun _=>False) (encV (.list (.list (.int k))) zss) (.slice a len cap) /\ (∀ zs∈zss,∀ n∈zs,(Lit.int k n).wf=true) /\ ∀ zs∈zss,zs.length<9223372036854775808
theorem IsRows.rel {k:IntKind} {w:World} {a:Option Addr} {len cap:Nat} {zss:List (List Int)} (h:IsRows k w a len cap zss):RelI w (fun _=>False) (encV (.list (.list (.int k))) zss) (.slice a len cap):=h.1
theorem zv8 {k:IntKind} {w:World} {a:Addr} {len cap:Nat} (hl:len<=cap) (h:∀ i,i<len->∃ a' len' cap' z,w.cell? (a.add i)=some (.slice a' len' cap') /\ IsRow k w a' len' cap' z):∃ zss,IsRows k w (some a) len cap zss:=by
 have key:∀ i,∃ r:Option Addr×Nat×Nat×List Int,i<len->w.cell? (a.add i)=some (.slice r.1 r.2.1 r.2.2.1) /\ IsRow k w r.1 r.2.1 r.2.2.1 r.2.2.2:=fun i=>by
  by_cases hi:i<len
  · obtain ⟨a',l',c',z,h1,h2⟩:=h i hi;exact ⟨(a',l',c',z),fun _=>⟨h1,h2⟩⟩
  · exact ⟨(none,0,0,[]),fun h=>absurd h hi⟩
 let f:=fun i=>Classical.choose (key i)
 have hf:∀ i,i<len->w.cell? (a.add i)=some (.slice (f i).1 (f i).2.1 (f i).2.2.1) /\ IsRow k w (f i).1 (f i).2.1 (f i).2.2.1 (f i).2.2.2:=fun i hi=>Classical.choose_spec (key i) hi
 refine ⟨(List.range len).map fun i=>(f i).2.2.2.take (f i).2.1,?_,?_,?_⟩
 · have hget:∀ (i:Nat) row,(((List.range len).map fun i=>(f i).2.2.2.take (f i).2.1).map (z82 (.list (.int k))))[i]?=some row->i<len /\ row=[.rows (((f i).2.2.2.take (f i).2.1).map fun n=>[.int k n])]:=by
    intro i row q;simp only [List.getElem?_map,Option.map_eq_some_iff] at q;obtain ⟨zs,⟨j,q1,rfl⟩,rfl⟩:=q;have hi:=(zG.1 q1).1;simp only [List.length_range] at hi;rw [List.getElem?_range hi] at q1;cases q1;exact ⟨hi,rfl⟩
   have hlen:(((List.range len).map fun i=>(f i).2.2.2.take (f i).2.1).map (z82 (.list (.int k)))).length=len:=by simp
   have hspot:∀ i,i<len->a.spot=none /\ a.add i=⟨a.block,a.off+(i*1+0),none⟩:=by
    intro i hi;obtain ⟨hs0,_⟩:=zj2 (hf 0 (by omega)).1;have e0:a.add 0=a:=by simp [Addr.add]
    rw [e0] at hs0;refine ⟨hs0,?_⟩;by_cases hz:i=0
    · subst hz;rw [e0];obtain ⟨b,o,s⟩:=a;simp only at hs0;subst hs0;simp
    · simp [Addr.add,hz]
   have:=RelI.rows (w:=w) (N:=fun _=>False) (l:=((List.range len).map fun i=>(f i).2.2.2.take (f i).2.1).map (z82 (.list (.int k)))) (a:=some a) (c:=cap) (k:=1) (u:=fun i _=>.slice (f i).1 (f i).2.1 (f i).2.2.1) (by omega)
    (fun i row q=>by rw [(hget i row q).2];rfl)
    (fun h0=>by
      rw [hlen] at h0;obtain ⟨_,hb⟩:=zj2 (hf 0 h0).1;have e0:a.add 0=a:=by simp [Addr.add]
      rw [e0] at hb;exact ⟨a,rfl,(hspot 0 h0).1,fun h=>h,hb⟩)
    (fun ad i row j y e q1 q2=>by
      cases e;obtain ⟨hi,rfl⟩:=hget i row q1;have hj:j=0:=by cases j with | zero=>rfl | succ j=>simp at q2
      subst hj;rw [<- (hspot i hi).2];exact (hf i hi).1)
    (fun i row j y q1 q2=>by
      obtain ⟨hi,rfl⟩:=hget i row q1;have hj:j=0:=by cases j with | zero=>rfl | succ j=>simp at q2
      subst hj;simp only [List.getElem?_cons_zero,Option.some.injEq] at q2;subst q2;exact (hf i hi).2.rel)
   rw [hlen] at this;exact this
 · intro zs hz n hn;obtain ⟨i,hi,rfl⟩:=List.mem_map.1 hz;exact z07l (hf i (List.mem_range.1 hi)).2 n hn
 · intro zs hz;obtain ⟨i,hi,rfl⟩:=List.mem_map.1 hz;exact z0ch (hf i (List.mem_range.1 hi)).2
section
variable {H:Type} {enc:TypeId×Value->H} {P:Program} {w:World} {base:Nat} {spare:Nat->Bool} {held:Bool}
open Go.ChangeShapes Go.WideShapes
theorem z04g {t e f:TypeId} {k:IntKind} {fuel:Nat} {a:Option Addr} {len cap:Nat} {x:DataW H×List MemPlace} (ht:P.underlying t=some (.slice e)) (he:P.underlying e=some (.slice f)) (hf:P.underlying f=some (.int k)) (hce:P.cellsOf e=1) (hcf:P.cellsOf f=1)
 (hsp:∀ b,spare b=true) (h:DataW.trod enc P w base spare held fuel t [.slice a len cap]=some x):∃ zss,IsRows k w a len cap zss:=by
 rcases DataW.trod_slice ht h with ⟨h0,_⟩ | ⟨a1,len1,cap1,elems,rest,n,rfl,h1,_,hb,hl,hm,hlen,hel,_,_⟩
 · simp only [List.cons.injEq,Value.slice.injEq,and_true] at h0;obtain ⟨rfl,rfl,rfl⟩:=h0;refine ⟨[],?_,(fun zs h=>absurd h List.not_mem_nil),(fun zs h=>absurd h List.not_mem_nil)⟩;exact RelI.rows (l:=[]) (k:=1) (u:=fun _ _=>undef) (Nat.le_refl _) (fun _ _ h=>by simp at h) (fun h=>absurd h (by simp)) (fun _ _ _ _ _ _ h=>by simp at h) (fun _ _ _ _ h=>by simp at h)
 · simp only [List.cons.injEq,Value.slice.injEq,and_true] at h1;obtain ⟨rfl,rfl,rfl⟩:=h1;refine zv8 hl fun i hi=>?_
   have hi2:=hel i hi;rw [hce,Nat.mul_one,zH (by omega)] at hi2;obtain ⟨cs',hcs,hy⟩:=Option.bind_eq_some_iff.1 hi2;obtain ⟨v,rfl⟩:∃ v,cs'=[v]:=by
    have:=(World.cells?_some hcs).2.1;match cs',this with
    | [v],_=>exact ⟨v,rfl⟩
   have hcell:=cell_of_cells?_one hcs;rcases open_ints he hf hcf hy with ⟨h2,_⟩ | ⟨x',l',c',zs,h2,_,hl',hm',hz,_,hc',hw⟩
   · simp only [List.cons.injEq,and_true] at h2;subst h2;exact ⟨none,0,0,[],hcell,.inl ⟨rfl,rfl,rfl,rfl⟩⟩
   · simp only [List.cons.injEq,and_true] at h2;subst h2;exact ⟨some x',l',c',zs,hcell,.inr ⟨x',rfl,hl',hm',by rw [hz,hsp];rfl,hc',hw⟩⟩
end
end Clk
namespace Clk
open Go
theorem rowsU8 {w:World} {a:Option Addr} {len cap:Nat} {zss:List (List Int)} (h:IsRows .u8 w a len cap zss):(∀ x∈zss,∀ n∈x,0<=n /\ n<256) /\ ∀ x∈zss,x.length<9223372036854775808 :=
 ⟨fun x hx n hn=>z0ci (h.2.1 x hx n hn),fun x hx=>h.2.2 x hx⟩
end Clk
