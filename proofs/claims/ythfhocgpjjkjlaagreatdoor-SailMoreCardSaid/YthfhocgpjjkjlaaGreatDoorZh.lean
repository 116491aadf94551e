import Derived.Test.YthfhocgpjjkjlaaGreatDoorZc
import Derived.Conc.DeferLaws
import Derived.Conc.TokenWalk
import Derived.Below
import Derived.Laws.AppendOwn
import Derived.Test.YthfhocgpjjkjlaaGreatDoorChecked
import Derived.KernelRfl
import Derived.StepT
import Derived.Conc.AppendEvents3
import Derived.Conc.AppendWalk
set_option maxRecDepth 100000
set_option maxHeartbeats 4000000
set_option linter.all false
noncomputable section
open Go renaming undef->D,World->H,Value->Ha,execOp->Hn,Frame->Kf,Oper->Kp,TypeId->Lk,stepG->Lq,Code->Ly,Value->M,Program->Ps,Goroutine->QP,heap_alloc_old->QR,Operand->ae,MemOp->al,yielded->aw,FuncId->ba
open Go.Proofs.Tryz renaming prog->F
open Option renaming none->I,some->Y
namespace Go.Co
open Go.Conc
section
variable{v:M}
section
variable{P:Ps}{main:Bool}{Stop:(Nat->Prop)->(Nat->Prop)->QP->H->Prop}{V O:Nat->Prop}{w:H}{b:Kf}{a:Act}{k:List Item}{cs:List Kf}{ops:Array Kp}{i:Nat}{rest:List Nat}{o:Kp}
def jV(w:H):IT V O w w #[] V O:=⟨rfl,rfl,rfl,qN _,λ_ _ _=>rfl,λb=>⟨.inl,λh=>h.elim id λh=>zz⟩,λb=>⟨.inl,λh=>h.elim id λh=>zz⟩,by simp⟩
def Df(w w':H){es:Array Event}(a:w'.heap=w.heap)(g:w'.tape=w.tape)(d:w'.os=w.os)(f:w'.output=w.output)(c:∀e∈es,Ng V O e):IT V O w w' es V O:=
 ⟨g,d,f,by rw[a];exact qN _,λ_ _ _=>by rw[a],λb=>⟨.inl,λh=>h.elim id λh=>by rw[a]at h;omega⟩,λb=>⟨.inl,λh=>h.elim id λh=>by rw[a]at h;omega⟩,c⟩
def WalkE.ctl{fr da:Kf}{cs dp:List Kf}(h:∀w,Lq P main (G fr cs) w=.go (G da dp) w #[])(next:WalkE P main Stop V O (G da dp) w):WalkE P main Stop V O (G fr cs) w:=
 WalkE.step rfl λbj a=>⟨_,bj, #[],V,O,h bj,⟨_,_,rfl⟩,jV bj,next.rely a⟩
def oD{e:Event}(h:e∈listed P b.fn a o w):e∈(Hn a.eval o).events P w #[]:=mem_listed h
def WalkE.value(v:M)(f:ops[i]?=Y o)(j:Region.wanted o (aw ops a.tmps)=true)(hk:b.kind≠.early)
  (g:∀bj,aH V w bj->(Hn a.eval o).run P bj=.ok (.value v) bj)(d:∀bj,aH V w bj->∀e∈(Hn a.eval o).events P bj #[],Ng V O e)
  (next:WalkE P main Stop V O (G (b.at (a.put o.dst v) (.inRegion ops rest::k)) cs) w):WalkE P main Stop V O (G (b.at a (.inRegion ops (i::rest)::k)) cs) w:=
 WalkE.step rfl λbj c=>⟨_,bj,_,V,O,stepG_value f j hk (g bj c),⟨_,_,rfl⟩,Df bj bj rfl rfl rfl rfl (λe h=>d bj c e (oD h)),next.rely c⟩
def WalkE.make(c:Obj)(v:Nat->M)(l:ops[i]?=Y o)(n:Region.wanted o (aw ops a.tmps)=true)(hk:b.kind≠.early)
  (m:∀bj,aH V w bj->(Hn a.eval o).run P bj=.ok (.value (v bj)) (bj.alloc c))(j:∀bj,aH V w bj->∀e∈(Hn a.eval o).events P bj #[],Ng V O e)
  (next:∀bj,aH V w bj->WalkE P main Stop (λx=>V x\/x=bj.heap.size) (λx=>O x\/x=bj.heap.size) (G (b.at (a.put o.dst (v bj)) (.inRegion ops rest::k)) cs) (bj.alloc c)):WalkE P main Stop V O (G (b.at a (.inRegion ops (i::rest)::k)) cs) w:=
 WalkE.step rfl λbj d=>by
  have f:∀x,(bj.heap.size<=x/\x<(bj.alloc c).heap.size)↔x=bj.heap.size:=λx=>by simp;omega
  refine⟨_,bj.alloc c,_,(λx=>V x\/x=bj.heap.size),(λx=>O x\/x=bj.heap.size),stepG_value l n hk (m bj d),⟨_,_,rfl⟩,⟨rfl,rfl,rfl,by simp,λx g _=>(by first|exact QR bj c x g|exact QR bj c g),λx=>by rw[f],λx=>by rw[f],λe h=>(j bj d e (oD h)).mono (λ_=>.inl) λ_=>.inl⟩,next bj d⟩
def WalkE.store(ad:Addr)(v:M)(d:O ad.block)(p:V ad.block)(g:ops[i]?=Y o)(m:Region.wanted o (aw ops a.tmps)=true)(hk:b.kind≠.early)
  (j:∀bj,aH V w bj->(Hn a.eval o).run P bj=.ok .skip (bj.setCell ad v))(f:∀bj,aH V w bj->∀e∈(Hn a.eval o).events P bj #[],Ng V O e)
  (next:∀bj,aH V w bj->WalkE P main Stop V O (G (b.at (a.put o.dst D) (.inRegion ops rest::k)) cs) (bj.setCell ad v)):WalkE P main Stop V O (G (b.at a (.inRegion ops (i::rest)::k)) cs) w:=
 WalkE.step rfl λbj c=>by
  have l:(bj.setCell ad v).heap.size=bj.heap.size:=by simp[H.setCell]
  refine⟨_,bj.setCell ad v,_,V,O,stepG_none g m hk (j bj c),⟨_,_,rfl⟩,⟨rfl,rfl,rfl,by rw[l];exact qN _,λx _ n=>Go.RowKit.Below.heap_setCell bj ad v x (λe=>n (by rw[e];exact d)),λx=>⟨.inl,λh=>h.elim id λh=>zz⟩,λx=>⟨.inl,λh=>h.elim id λh=>zz⟩,λe h=>f bj c e (oD h)⟩,next bj c⟩
def WalkE.enter{f:ba}{args:Array M}(d:ops[i]?=Y o)(h:Region.wanted o (aw ops a.tmps)=true)(hk:b.kind≠.early)
  (e:∀bj,(Hn a.eval o).run P bj=.ok (.enter f args) bj)(c:∀bj,(Hn a.eval o).events P bj #[]= #[])
  (next:WalkE P main Stop V O (G (Kf.enter P f args .normal) (b.at a (.inRegion ops (i::rest)::k)::cs)) w):WalkE P main Stop V O (G (b.at a (.inRegion ops (i::rest)::k)) cs) w:=
 WalkE.step rfl λbj g=>⟨_,bj,_,V,O,by rw[stepG_enter d h hk (e bj),listed_none (c bj)],⟨_,_,rfl⟩,jV bj,next.rely g⟩
def WalkE.leave{fn:Func}{todo:List Item}{c:Kf}(h:b.kind=.normal)(e:a.defers=[])(g:P.funcs[b.fn]?=Y fn)
  (i:∀bj,aH V w bj->(results fn a.tmps).run P bj=.ok v bj)(f:∀bj,aH V w bj->(results fn a.tmps).events P bj #[]= #[])
  (next:WalkE P main Stop V O (G (c.finish v) cs) w):WalkE P main Stop V O (G {b.at a todo with mode:=.returning} (c::cs)) w:=
 WalkE.step rfl λbj d=>⟨_,bj, #[],V,O,stepG_leave h e g (i bj d) (f bj d),⟨_,_,rfl⟩,jV bj,next.rely d⟩
def bu{bj:H}(h:aH V w bj){ad:Addr}(b:V ad.block)(a:w.cell? ad=Y v):bj.cell? ad=Y v:=by
 unfold H.cell? at a|-;rw[h.keep _ b];exact a
end
end
section
variable{n d t:Nat}{f:Nat->M}{v:M}{x:ae}
def fa(n:Nat)(f:Nat->M):Act:=⟨(Array.range n).map f,[]⟩
def ah(f:Nat->M)(d:Nat)(v:M):Nat->M:=λi=>if i=d then v else f i
def cw(b:d<n):(fa n f).put (Y d) v=fa n (ah f d v):=by
 unfold fa Act.put;simp only[Act.mk.injEq,and_true];refine Array.ext_getElem? λi=>?_;simp only[fc,mf,Array.getElem?_range,Array.size_map,Array.size_range];by_cases h:d=i
 .subst h;simp[b,ah]
 .have a:¬i=d:=λe=>h e.symm;simp only[h,if_false];by_cases hi:i<n
  .simp[hi,ah,a]
  .simp[hi]
def IW:(fa n f).put I v=fa n f:=rfl
def fe(h:t<n):(fa n f).eval (.tmp t)=f t:=by
 simp[fa,Act.eval,zQ,h]
theorem ft {n t:Nat} {f:Nat->M} {v:M} (e:f t=v) (h:t<n:=by omega):(fa n f).eval (.tmp t)=v:=(fe h).tn e
def au(f:Nat->M)(d:Nat)(v:M):ah f d v d=v:=qWB rfl
def cu(f:Nat->M){d i:Nat}(v:M)(h:i≠d):ah f d v i=f i:=qVB h
theorem ndd {f:Nat->M} {d i:Nat} {v a:M} (e:f i=a) (h:Nat.beq i d=false:=by exact rfl):ah f d v i=a:=(qVB (Nat.ne_of_beq_eq_false h)).tn e
theorem nf {f:Nat->M} {d i:Nat} {v:M} (h:i≠d:=by omega):ah f d v i=f i:=qVB h
theorem nk {p:Prop} (h:p:=by(repeat (refine(cu _ _ ?_).tn ?_;omega));exact rfl):p:=h
theorem nt {f:Nat->M} {d i:Nat} {v a:M} (e:f i=a) (h:i≠d:=by omega):ah f d v i=a:=(qVB h).tn e
def ej(h:t<n):(fa n f).tmps[t]?=Y (f t):=by simp[fa,h]
def xM{ops:Array Kp}{j d:Nat}{t:Bool}(h:(ops[j]?).bind (·.dst)=Y d)(a:d<n)(b:f d=.bool t):aw ops (fa n f).tmps j=Y t:=by
 unfold aw;rw[h];simp only[Option.bind_some,ej a,b]
def iu{A:Array M}{k n:Nat}(h:A.size+k=n):A++Array.replicate k D=(Array.range n).map λi=>A.getD i D:=by
 refine Array.ext_getElem? λi=>?_;simp only[Array.getElem?_append,Array.getElem?_replicate,mf,Array.getElem?_range,zQ];by_cases a:i<A.size
 .have:i<n:=zz;simp[a,this]
 .by_cases h2:i<n
  .have:i-A.size<k:=zz;simp[a,h2,this]
  .have:¬i-A.size<k:=zz;simp[a,h2,this]
section
variable{P:Ps}{main:Bool}{Stop:(Nat->Prop)->(Nat->Prop)->QP->H->Prop}{V O:Nat->Prop}{w:H}{b:Kf}{k:List Item}{cs:List Kf}{ops:Array Kp}{i:Nat}{rest:List Nat}{o:Kp}{n d:Nat}{f:Nat->M}
def bY{y:Nat->Option Bool}(h:o.guard=I):Region.wanted o y=true:=by unfold Region.wanted;rw[h]
theorem wnn {y:Nat->Option Bool} (h:o.guard=I:=by exact rfl):Region.wanted o y=true:=bY h
def WalkE.jh(v:M)(j:ops[i]?=Y o)(c:o.dst=Y d)(a:d<n)(h:o.guard=I)(hk:b.kind≠.early)
  (l:∀bj,aH V w bj->(Hn (fa n f).eval o).run P bj=.ok (.value v) bj)(g:∀bj,aH V w bj->∀e∈(Hn (fa n f).eval o).events P bj #[],Ng V O e)
  (next:WalkE P main Stop V O (G (b.at (fa n (ah f d v)) (.inRegion ops rest::k)) cs) w):WalkE P main Stop V O (G (b.at (fa n f) (.inRegion ops (i::rest)::k)) cs) w:=by
 refine WalkE.value v j (bY h) hk l g ?_;rw[c,cw a];exact next
def WalkE.oa(a:Obj)(v:Nat->M)(m:ops[i]?=Y o)(g:o.dst=Y d)(c:d<n)(l:o.guard=I)(hk:b.kind≠.early)
  (p:∀bj,aH V w bj->(Hn (fa n f).eval o).run P bj=.ok (.value (v bj)) (bj.alloc a))(j:∀bj,aH V w bj->∀e∈(Hn (fa n f).eval o).events P bj #[],Ng V O e)
  (next:∀bj,aH V w bj->WalkE P main Stop (λx=>V x\/x=bj.heap.size) (λx=>O x\/x=bj.heap.size) (G (b.at (fa n (ah f d (v bj))) (.inRegion ops rest::k)) cs) (bj.alloc a)):WalkE P main Stop V O (G (b.at (fa n f) (.inRegion ops (i::rest)::k)) cs) w:=by
 refine WalkE.make a v m (bY l) hk p j λbj h=>?_;rw[g,cw c];exact next bj h
def WalkE.xN(ad:Addr)(v:M)(a:O ad.block)(c:V ad.block)(l:ops[i]?=Y o)(d:o.dst=I)(j:o.guard=I)(hk:b.kind≠.early)
  (m:∀bj,aH V w bj->(Hn (fa n f).eval o).run P bj=.ok .skip (bj.setCell ad v))(g:∀bj,aH V w bj->∀e∈(Hn (fa n f).eval o).events P bj #[],Ng V O e)
  (next:∀bj,aH V w bj->WalkE P main Stop V O (G (b.at (fa n f) (.inRegion ops rest::k)) cs) (bj.setCell ad v)):WalkE P main Stop V O (G (b.at (fa n f) (.inRegion ops (i::rest)::k)) cs) w:=by
 refine WalkE.store ad v a c l (bY j) hk m g λbj h=>?_;rw[d,IW];exact next bj h
def WalkE.gR(v:M)(m:ops[i]?=Y o)(c:o.op=.move x\/o.op=.assign x)(p:(fa n f).eval x=v)(j:o.dst=Y d)(g:d<n)(l:o.guard=I)(hk:b.kind≠.early)
  (next:WalkE P main Stop V O (G (b.at (fa n (ah f d v)) (.inRegion ops rest::k)) cs) w):WalkE P main Stop V O (G (b.at (fa n f) (.inRegion ops (i::rest)::k)) cs) w:=by
 refine WalkE.jh v m j g l hk (λbj _=>?_) (λbj _ e a=>?_) next
 .unfold Hn;rcases c with h|h<;>simp only[h,p]<;>rfl
 .exfalso;unfold Hn at a;rcases c with h|h<;>simp[h]at a
def OneCell(P:Ps)(t:Lk):Prop:=∀(w:H) (ad:Addr) (v:M),w.cell? ad=Y v->(Instr.loadAt t (.pointer (Y ad))).run P w=.ok v w/\(Instr.loadAt t (.pointer (Y ad))).events P w #[]= #[⟨.cell ad,false,false⟩]
def WalkE.Rm{t:Lk}(ad:Addr)(v:M)(j:OneCell P t)(u:ops[i]?=Y o)(m:o.op=.load t x)(p:(fa n f).eval x=.pointer (Y ad))(c:V ad.block)(l:w.cell? ad=Y v)(r:o.dst=Y d)(q:d<n)(s:o.guard=I)(hk:b.kind≠.early)
  (next:WalkE P main Stop V O (G (b.at (fa n (ah f d v)) (.inRegion ops rest::k)) cs) w):WalkE P main Stop V O (G (b.at (fa n f) (.inRegion ops (i::rest)::k)) cs) w:=by
 refine WalkE.jh v u r q s hk (λbj g=>?_) (λbj g e a=>?_) next
 .unfold Hn;simp only[m,p];have:=(j bj ad v (bu g c l)).1;simp[this]
 .unfold Hn at a;simp only[m,p]at a;have h2:=(j bj ad v (bu g c l));simp[h2.1,h2.2]at a;subst a;exact⟨rfl,c,λh=>by cases h⟩
end
end
section
variable{c x y:Ly}{id:Nat}{ops:Array Kp}
section
variable{P:Ps}{main:Bool}{Stop:(Nat->Prop)->(Nat->Prop)->QP->H->Prop}{V O:Nat->Prop}{w:H}{b:Kf}{a:Act}{k:List Item}{cs:List Kf}
def WalkE.cond{c:ae}{t:Bool}(h:a.eval c=.bool t)(next:WalkE P main Stop V O (G (b.at a (.code (if t then x else y)::k)) cs) w):WalkE P main Stop V O (G (b.at a (.code (.cond c x y)::k)) cs) w:=WalkE.ctl (λ_=>stepG_cond h) next
def WalkE.seq(next:WalkE P main Stop V O (G (b.at a (.code x::.code y::k)) cs) w):WalkE P main Stop V O (G (b.at a (.code (.seq x y)::k)) cs) w:=WalkE.ctl (λ_=>stepG_seq) next
def WalkE.reg{l:List Nat}(hl:List.range ops.size=l)(next:WalkE P main Stop V O (G (b.at a (.inRegion ops l::k)) cs) w):WalkE P main Stop V O (G (b.at a (.code (.region id ops false)::k)) cs) w:=WalkE.ctl (λ_=>stepG_region) (by rw[hl];exact next)
def WalkE.aT(next:WalkE P main Stop V O (G (b.at a k) cs) w):WalkE P main Stop V O (G (b.at a (.inRegion ops []::k)) cs) w:=WalkE.ctl (λ_=>stepG_region_end) next
def WalkE.skip(next:WalkE P main Stop V O (G (b.at a k) cs) w):WalkE P main Stop V O (G (b.at a (.code .skip::k)) cs) w:=WalkE.ctl (λ_=>stepG_skip) next
def WalkE.block(next:WalkE P main Stop V O (G (b.at a (.code c::.inBlock id::k)) cs) w):WalkE P main Stop V O (G (b.at a (.code (.block id c)::k)) cs) w:=WalkE.ctl (λ_=>stepG_block) next
def WalkE.inBlock(next:WalkE P main Stop V O (G (b.at a k) cs) w):WalkE P main Stop V O (G (b.at a (.inBlock id::k)) cs) w:=WalkE.ctl (λ_=>stepG_inBlock) next
def WalkE.loop(next:WalkE P main Stop V O (G (b.at a (.code c::.inLoop c::k)) cs) w):WalkE P main Stop V O (G (b.at a (.code (.loop c)::k)) cs) w:=WalkE.ctl (λ_=>stepG_loop) next
def WalkE.inLoop(next:WalkE P main Stop V O (G (b.at a (.code c::.inLoop c::k)) cs) w):WalkE P main Stop V O (G (b.at a (.inLoop c::k)) cs) w:=WalkE.ctl (λ_=>stepG_inLoop) next
def WalkE.exit{k':List Item}(h:exitTo id k=Y k')(next:WalkE P main Stop V O (G (b.at a k') cs) w):WalkE P main Stop V O (G (b.at a (.code (.exit id)::k)) cs) w:=WalkE.ctl (λ_=>stepG_exit h) next
def WalkE.ret(next:WalkE P main Stop V O (G {b.at a (.code .ret::k)with mode:=.returning} cs) w):WalkE P main Stop V O (G (b.at a (.code .ret::k)) cs) w:=WalkE.ctl (λ_=>by simp[G,Lq,Lq.exec,Kf.at]) next
def gS(b:∀x,V x->x<w.heap.size)(a:Obj):aH V w (w.alloc a):=⟨rfl,rfl,rfl,by simp,λx c=>(by first|exact QR w a x (b x c)|exact QR w a (b x c))⟩
def nB{ad:Addr}(h:¬V ad.block)(v:M):aH V w (w.setCell ad v):=⟨rfl,rfl,rfl,by simp[H.setCell],λx a=>Go.RowKit.Below.heap_setCell w ad v x λe=>h (by rw[<- e];exact a)⟩
def aH.cX{bj:H}(h:aH V w bj)(a:∀x,V x->x<w.heap.size):∀x,V x->x<bj.heap.size:=λx b=>qP (a x b) h.size
end
end
variable{b k n N:Nat}{v:M}{xs:Array M}{e e0:Lk}{P:Ps}{T:P3}{V V' O V0 O0:Nat->Prop}{w bj w0 W:H}{ρ0 Z:Ren}
section
variable{hB:Base T V w e0}
def Shown.mono(h:Shown T V w b)(c:∀x,V x->V' x)(hk:∀x,V x->bj.heap[x]?=w.heap[x]?):Shown T V' bj b:=by
 obtain⟨a,h2⟩:=h;refine⟨c b a,?_⟩;unfold oB IsMap at h2|-;rw[hk b a];exact h2
def Flat.mono(h:Flat T V w v)(d:∀x,V x->V' x)(hk:∀x,V x->bj.heap[x]?=w.heap[x]?):Flat T V' bj v:=by
 rcases h with h|⟨a,n,c,rfl,e,b⟩|⟨r,rfl,b⟩|h
 .exact .inl h
 .exact .inr (.inl ⟨a,n,c,rfl,e,b.mono d hk⟩)
 .exact .inr (.inr (.inl ⟨r,rfl,b.mono d hk⟩))
 .exact .inr (.inr (.inr h))
def bV.mono(h:bV T V w b k)(d:∀x,V x->V' x)(hk:∀x,V x->bj.heap[x]?=w.heap[x]?):bV T V' bj b k:=by
 obtain⟨a,c,e,z,h2,f,g⟩:=h;exact⟨d b a,c,e,z,(hk b a).tn h2,f,λj v i l=>(g j v i l).mono d hk⟩
def bV.rely(h:bV T V w b k)(a:aH V w bj):bV T V bj b k:=h.mono (λ_=>id) a.keep
def Base.rely(h:Base T V w e0)(a:aH V w bj):Base T V bj e0:=⟨h.v0,let⟨c,z,x⟩:=h.cells;⟨c,z,(a.keep 0 h.v0).tn x⟩,h.glob⟩
def Base.mono(h:Base T V w e0)(a:∀x,V x->V' x)(hk:∀x,V x->bj.heap[x]?=w.heap[x]?):Base T V' bj e0:=⟨a 0 h.v0,let⟨c,z,x⟩:=h.cells;⟨c,z,(hk 0 h.v0).tn x⟩,h.glob⟩
def cR(k:IntKind)(n:Int):jU (.int k n):=λ_=>.int k n
def sN(b:Bool):jU (.bool b):=λ_=>.bool b
def eR(v:M):Prop:=∀(Z:Ren) (v':M),VR Z v v'->v'=v
def aG(k:IntKind)(n:Int):eR (.int k n):=λ_ _ h=>by cases h;rfl
def dQ(b:Bool):eR (.bool b):=λ_ _ h=>by cases h;rfl
def qV(h:∀x∈xs,eR x):eR (.agg xs):=λZ v' r=>by
 cases r with
 | agg s c=>
  congr 1;refine(Array.ext_getElem? λi=>?_).symm
  cases hi:xs[i]? with
  | none=>
   rw[Array.getElem?_eq_none_iff]at hi;exact(Array.getElem?_eq_none_iff.2 (by rw[<- s];exact hi)).symm
  | some x=>
   have b:=(ec.1 hi).1;have a:=fi (xs:=_) (by rw[<- s];exact b:i<_);rw[a];exact cd Y (h x (kq hi) Z _ (c i _ _ hi a)).symm
def KU(h:∀x∈xs,jU x):jU (.agg xs):=λZ=>.agg rfl λi x y a b=>by rw[a]at b;cases b;exact h x (kq a) Z
def ir.block(f:ir T P N V0 O0 w0 ρ0 Z W w V O){b b' s:Nat}{c:Array M}{z:Nat×Nat}(g:W.heap[b]?=Y (.cells c e z))(k:Z b=Y (b',s))(j:Z.cls b=false):
  ∃c' l,w.heap[b']?=Y (.cells c' e l)/\∀(i:Nat) v,c[i]?=Y v->∃v',c'[i+s]?=Y v'/\VR Z v v':=by
 obtain⟨m,p,o,a,h2,d,-⟩:=f.mem.hr.plain g j;rw[k]at a;cases a
 cases d with
 | cells h n=>exact⟨_,_,h2,h⟩
def ir.map(m:ir T P N V0 O0 w0 ρ0 Z W w V O){r r':Nat}{es:Array MapEntry}(p:W.heap[r]?=Y (.map es k))(q:Z r=Y (r',0))(n:∀x∈es,eR x.key/\eR x.val):w.heap[r']?=Y (.map es k):=by
 obtain⟨s,u,t,e,h2,a,-⟩:=m.mem.hr r _ p;rw[q]at e;cases e;revert a;generalize Z.cls r=cl;intro a
 cases a with
 | plain a=>
  cases a with
  | @map _ c _ f he=>
   rw[h2];congr 2;refine(Array.ext_getElem? λi=>?_).symm
   cases hi:es[i]? with
   | none=>
    rw[Array.getElem?_eq_none_iff]at hi;exact(Array.getElem?_eq_none_iff.2 (by rw[<- f];exact hi)).symm
   | some x=>
    have o:=(ec.1 hi).1;have h:=fi (xs:=c) (by rw[<- f];exact o:i<c.size);rw[h];obtain⟨j,l,d⟩:=he i x _ hi h;have g:=n x (kq hi);have e1:=g.1 Z _ j;have b:=g.2 Z _ l;congr 1;cases x;generalize c[i]=y at e1 b d;cases y;simp only at e1 b d|-;rw[e1,b,d]
def sq(T:P3)(V:Nat->Prop)(w:H)(v:M)(size n:Nat)(xs:List M):Prop:=
 xs.length=n*size/\((v=.slice I 0 0/\n=0)\/∃g a,v=.slice (Y ⟨g,0,I⟩) n a/\n<=a/\a<=maxLen/\bV T V w g (n*size)/\∀j x,xs[j]?=Y x->w.cell? ⟨g,j,I⟩=Y x)
def ir.row(l:ir T P N V0 O0 w0 ρ0 Z W w V O){B:Nat}{size n:Nat}{v v':M}{xs:List M}(h:W.ownsRow B e size v n xs)(K:N<=B)(f:VR Z v v')(C:∀x∈xs,eR x/\jU x):
  sq T V w v' size n xs/\∀A n' c,v=.slice A n' c->∃E,v'=.slice E n' c:=by
 obtain⟨d,⟨rfl,rfl⟩|⟨g,o,p,rfl,U,Q,t,a1,a4,a3⟩⟩:=h
 .cases f;exact⟨⟨d,.inl ⟨rfl,rfl⟩⟩,λA n' c e=>by cases e;exact⟨_,rfl⟩⟩
 .cases f with
  | @slice _ _ G _ _ L=>
   obtain⟨-, z,s,m,u,R⟩:=L;have a2:=(l.mem.sep g _ s (qO K U) m).1;subst a2;obtain⟨c',z',k,h2⟩:=l.block Q m R;obtain⟨J,off,a5⟩:=G;simp only at z u k;subst z u;have hle:n*size<=o*size:=Nat.mul_le_mul_right _ t;have q:∀j x,xs[j]?=Y x->c'[j]?=Y x:=λj x a=>by
    have b:j<n*size:=by rw[<- d];exact(List.getElem?_eq_some_iff.1 a).1
    have:p[j]?=Y x:=by
     rw[<- a3,List.getElem?_take,qWB b]at a;simpa using a
    obtain⟨y,i,r⟩:=h2 j x this;have:=(C x (List.mem_of_getElem? a)).1 Z y r;rw[this]at i;simpa using i
   refine⟨⟨d,.inr ⟨J,o,rfl,t,a1,⟨l.see _ _ _ m,c',e,z',k,?_,λj v a f=>?_⟩,λj x a=>?_⟩⟩,λA n' c e=>by cases e;exact⟨_,rfl⟩⟩
   .refine q6A λb=>?_;have S:c'.size<p.size:=zz;obtain⟨y,i,-⟩:=h2 c'.size _ (fi S);simp at i
   .have b:j<xs.length:=by rw[d];exact a
    have:=q j _ (iv b);rw[f]at this;cases this;exact .inl (C _ (List.getElem_mem b)).2
   .unfold H.cell?;dsimp only;rw[k];exact q j x a
end
def qd{A:Array M}(h:A.size=n):∃f:Nat->M,A=(Array.range n).map f/\∀i,f i=A.getD i D:=by
 refine⟨λi=>A.getD i D,?_,λ_=>rfl⟩;subst h;refine Array.ext_getElem? λi=>?_;simp only[mf,Array.getElem?_range];by_cases hi:i<A.size
 .simp[hi]
 .simp[hi]
open Go.Proofs
def KV:List Nat:=[4,6,7,9,10,11,12,13,14,15,16,17,18,19,20,22,23,24,25,26,27,29,30,31,32,33,34,35,36,37,38,39,40,41,42,43,44,45,46,47,48,49,50,51,52,53,54,56,57,58,59,60,61,62,63,64,65,66,72,73,74,75,76,77,78,79,80,81,82,83,84,85,86,87,88,89,90,109,110,111,112,113,114,115,116,117,118,119,120,121,122,128,129,130,131,132,133,134,151,152,153,154,155,156]
def aaZ:Nat->List Nat
 | 3=>[4,9,25,32,90,103,109]
 | 4=>[1]
 | 5=>[1,19,27,352]
 | 6=>[1]
 | 7=>[1,2,3,4,6,7,16,18,27]
 | 9=>[1,3,8,14,20]
 | 10=>[1,12,18,25,28,29,33,36,37,41,46,52,55,56,58,59,62,63,69,72,73,78,81,82,84,85,88,93,100,103,104,110,113,114]
 | 11=>[0]
 | 12=>[3,4,8,9]
 | 13=>[2,3,6,7,9,20,22,23,26,27,31,39,41,46,49]
 | 14=>[1,4,8,17,22,25]
 | 16=>[2,3,6,10,20,25,28,29]
 | 17=>[3,4,5,8,20]
 | 18=>[2,3,7,18,24]
 | 19=>[1,4,17,22,28]
 | 20=>[2,3,4,6,8,10,23,27,32,34,40,50,54]
 | 21=>[1,5,6,7,9,19,27,39,44,46]
 | 22=>[4]
 | 23=>[1,6,11,21,26,32,37,48,60,65,66,68,69,71]
 | 24=>[2,4,7,22,29,34,35]
 | 25=>[2,8]
 | 26=>[1,7,16,22,42,44,47,48]
 | 27=>[1,19,29]
 | 28=>[1,5,6,7,10,20,43,48]
 | 29=>[2,3,4,6,12]
 | 30=>[1]
 | 31=>[1,3,4,6,7]
 | 32=>[2,3]
 | 33=>[2,3,5,6]
 | 34=>[1]
 | 36=>[15]
 | 37=>[1,4,9,15,21,27,28,30,31,36,38,44,45,50,51,57,58,60,61,67,68,73,74,76,77]
 | 38=>[2,6]
 | 39=>[2,6]
 | 40=>[2,3,4,5,8]
 | 41=>[2,6,7]
 | 42=>[3,4,6,7,13,14,17,19,21,27,29,30,34,36,37,41,42,46,47,50,51,59,60,63,64,69,70,77]
 | 43=>[2,3,4,7,8,13,16]
 | 44=>[2,4,7,9,24,29,32,33,38,43,45,51,60,62]
 | 45=>[1]
 | 47=>[18,23,37,42,49,51]
 | 48=>[19,23]
 | 49=>[1,2]
 | 50=>[2,6,7]
 | 51=>[2,7]
 | 52=>[1,2,3]
 | 53=>[1,2]
 | 54=>[1,2]
 | 55=>[0,1,2,3,6,11,17]
 | 56=>[4,6,8,13]
 | 57=>[2,3,5,7,11,13,17,19]
 | 58=>[4,6,8,13]
 | 59=>[2,3,5,7]
 | 61=>[1,2,3,6,9,12,15,16,17,18]
 | 62=>[1,2]
 | 63=>[2,6,7]
 | 64=>[3,17,18,19]
 | 65=>[3,8,9,10,13,15,16,17,19,22,27,28,29,32,35,36,37,39]
 | 66=>[1,2,3,5,6]
 | 68=>[0,1,2,3,4,7,10,11,12,18,29,30,35,36]
 | 70=>[0,1]
 | 72=>[4,6,8,13]
 | 73=>[2,3,5,7,11,13,17,19]
 | 74=>[14,22]
 | 75=>[1,2,3]
 | 76=>[3,4,6,11,14,15,16,18,19,21,22,23,26,29,36,37,42,43,49,50]
 | 78=>[1,2,3,7,10,13]
 | 79=>[14]
 | 80=>[3,8,12,14,19]
 | 81=>[14,25,30]
 | 82=>[2,3,4,7,10,16,23,26,31,34,35]
 | 84=>[79,83]
 | 86=>[14]
 | 110=>[14]
 | 111=>[2,12,25]
 | 112=>[22,27,41,45,47,48]
 | 113=>[43,47,49,50]
 | 114=>[7,57,61,63,64]
 | 115=>[9]
 | 116=>[20,24,26,27]
 | 117=>[23,28,50,54,56,57,70,75,87,91,93,94,108,113,125,129,131,132]
 | 119=>[17,21,23,24,35,39,52,56,71,75,77,78]
 | 120=>[18,22,24,25,36,40,52,56,72,76,78,79,87,91,93,94,105,109,121,125,141,145,147,148,159,163,165,166]
 | 129=>[26,33,43,49,65,71,73,74]
 | 131=>[0,3,4,6,7,11,12,13,15,16,20,21,22,24,25,29,30,31]
 | 132=>[2,13]
 | 133=>[4,15,23,31]
 | 134=>[3,12,16,19,20,23]
 | 151=>[1,3,4,9,10,16,17,23,24,30,31,32,34,35,36,42,43]
 | 152=>[1,3,4,5,10,11,12,18,19,20,22,23,24,30,31,32,37,38,39,41,42,43]
 | 153=>[1,4,5,6,11,12,17,21,26]
 | 154=>[1,4,5,6,10,11,16,19,21,22,23,26,27,28,34,40,42,43,44]
 | 155=>[1,4,5,6,10,11,16,19,25]
 | 156=>[3,8,12,14,19]
 | _=>[]
def aa0:Nat->List (Nat×Nat)
 | 7=>[(22,1)]
 | 16=>[(13,1)]
 | 17=>[(12,1)]
 | 18=>[(11,1)]
 | 20=>[(15,1)]
 | 21=>[(25,0)]
 | 28=>[(28,0),(30,0)]
 | 31=>[(9,1)]
 | 32=>[(4,1),(5,1)]
 | 33=>[(8,1)]
 | 44=>[(1,1),(23,1)]
 | 66=>[(8,1)]
 | 75=>[(6,3),(12,3)]
 | 76=>[(51,3)]
 | 77=>[(1,1),(6,1)]
 | 110=>[(1,1),(11,1)]
 | _=>[]
def YZ:Nat->List Nat
 | 75=>[4]
 | 76=>[5]
 | _=>[]
def xO(f i:Nat):Kd:=if(aaZ f).contains i then .addr else match(aa0 f).find? (·.1==i)with|some p=>.clo p.2|none=>if(YZ f).contains i then .addrM else .val
def TA:P3:= {has:=λf=>KV.contains f,kind:=xO,ar:=λf=>if f=76 then 3 else 1,ret:=λf=>if f=32 then .clo 1 else .val,mar:=3,glob:=λg=>g==0,rdm:=false}
def TR(r:Ly):P3:= {TA with rest:=r}
def Y0(r:Ly):KV.all (λf=>dX (TR r) F f)=true:=by kernel_rfl
def I1(r:Ly)(f:ba)(h:(TR r).has f=true):dX (TR r) F f=true:=by
 have a:KV.contains f=true:=h;exact List.all_eq_true.1 (Y0 r) f (by simpa using a)
def Sd(r:Ly)(g:Nat)(h:(TR r).glob g=true):g=0:=by
 have a:(g==0)=true:=h;simpa using a
def TB:P3:= {has:=λ_=>false,kind:=xO,ar:=λ_=>0,ret:=λ_=>.val,mar:=0,glob:=λ_=>false,rdm:=true}
variable{α β:Type}
def cI{α:Type}(P:Ps):Sem α->Prop
 | .pure _=>True
 | .load m _ k=>m=.plain/\∀v,cI P (k v)
 | .store m _ _ k=>m=.plain/\cI P k
 | .new _ k=>∀n,cI P (k n)
 | .shape _ k=>∀s,cI P (k s)
 | .freeze _ _ k=>cI P k
 | .frozen _ k=>∀b,cI P (k b)
 | .getObj _ _=>False
 | .setObj _ _ _=>False
 | .choose _ k=>∀n,cI P (k n)
 | .sys _ _=>False
 | .program k=>cI P (k P)
 | .mark _ k=>cI P k
 | .halt _=>True
def Ej{s:Sem α}{f:α->Sem β}(d:cI P s)(e:∀a,cI P (f a)):cI P (s.bind f):=by
 induction s with
 | pure a=>exact e a
 | load m a k b=>exact⟨d.1,λv=>b v (d.2 v)⟩
 | store m a v k b=>exact⟨d.1,b d.2⟩
 | new o k b=>exactλn=>b n (d n)
 | shape r k b=>exactλn=>b n (d n)
 | freeze a n k b=>exact b d
 | frozen a k b=>exactλn=>b n (d n)
 | getObj r k b=>exact d.elim
 | setObj r o k b=>exact d.elim
 | choose q k b=>exactλn=>b n (d n)
 | sys c k b=>exact d.elim
 | program k b=>exact b P d
 | mark m k b=>exact b d
 | halt h=>exact qYB
def eo{s:Sem α}{f:α->Sem β}(c:cI P s)(b:∀a,cI P (f a)):cI P (s>>=f):=Ej c b
def G6(a:α):cI P (pure a:Sem α):=qYB
def G7{s:Sem α}(f:cI P s):∀(w:H) (es:Array Event),∀e∈(s.runT P w es).2,e∈es\/∀ad,e.loc=.cell ad->e.sync=false:=by
 induction s with
 | pure a=>exactλw es e b=>.inl b
 | load m a k d=>
  intro w es e b;obtain⟨rfl,f⟩:=f;simp only[Sem.runT]at b;split at b
  .rcases d _ (f _) _ _ e b with h|h
   .rcases Array.mem_push.1 h with h|rfl
    .exact .inl h
    .exact .inr λ_ _=>rfl
   .exact .inr h
  .split at b
   .rcases d _ (f _) _ _ e b with h|h
    .rcases q9A.1 h with h|h
     .exact .inl h
     .refine .inr λad _=>?_;simp only[hZ,Array.mem_map]at h;obtain⟨x, -, rfl⟩:=h;rfl
    .exact .inr h
   .exact .inl b
 | store m a v k d=>
  intro w es e b;obtain⟨rfl,f⟩:=f
  have main:∀(g:∀cs,v≠.agg cs) (i:∀cs,v≠.tuple cs),(Sem.store .plain a v k).runT P w es=match w.cell? a with
    | some _=>if w.frozen? a then(.halt (.unsupported (.unsafePointer "a write to bytes that a string shares")) w,es)else k.runT P (w.setCell a v) (es.push ⟨.cell a,true,Mode.plain==.atomic⟩)
    | none=>match w.farStore P a v (Mode.plain==.atomic)with
     | .ok (w,j)=>k.runT P w (es++j.toArray.map (⟨.cell ·, true,Mode.plain==.atomic⟩))
     | .error h=>(.halt h w,es):=by
   intro g i;cases v<;>first|rfl|exact mi rfl (g _)|exact mi rfl (i _)
  by_cases g:∃cs,v=.agg cs
  .obtain⟨cs,rfl⟩:=g;exact .inl b
  by_cases i:∃cs,v=.tuple cs
  .obtain⟨cs,rfl⟩:=i;exact .inl b
  rw[main (λcs e=>g ⟨cs,e⟩) (λcs e=>i ⟨cs,e⟩)]at b;split at b
  .split at b
   .exact .inl b
   .rcases d f _ _ e b with h|h
    .rcases Array.mem_push.1 h with h|rfl
     .exact .inl h
     .exact .inr λ_ _=>rfl
    .exact .inr h
  .split at b
   .rcases d f _ _ e b with h|h
    .rcases q9A.1 h with h|h
     .exact .inl h
     .refine .inr λad _=>?_;simp only[hZ,Array.mem_map]at h;obtain⟨x, -, rfl⟩:=h;rfl
    .exact .inr h
   .exact .inl b
 | new o k d=>exactλw es e b=>d _ (f _) _ _ e b
 | shape r k d=>exactλw es e b=>d _ (f _) _ _ e b
 | freeze a n k d=>exactλw es e b=>d f _ _ e b
 | frozen a k d=>exactλw es e b=>d _ (f _) _ _ e b
 | getObj r k d=>exact f.elim
 | setObj r o k d=>exact f.elim
 | choose q k d=>
  intro w es e b;simp only[Sem.runT]at b;split at b<;>exact d _ (f _) _ _ e b
 | sys c k d=>exact f.elim
 | program k d=>exactλw es e b=>d P f _ _ e b
 | mark m k d=>
  intro w es e b;rcases d f _ _ e b with h|h
  .rcases Array.mem_push.1 h with h|rfl
   .exact .inl h
   .exact .inr λad h=>by cases h
  .exact .inr h
 | halt h=>exactλw es e b=>.inl b
def uT(t:Lk):cI P (underlying t):=by
 unfold underlying;refine eo (s:=program) qYB λp=>?_;split<;>exact qYB
def EP(t:Lk):cI P (typeInfo t):=by
 unfold typeInfo;refine eo (s:=program) qYB λp=>?_;split<;>exact qYB
def BI(t:Lk):cI P (sizeOf t):=eo (EP t) λ_=>trivial
def wH(t:Lk):cI P (zeroValue t):=by
 unfold zeroValue;refine eo (EP t) λi=>?_;split<;>exact qYB
def kI(a:Addr):∀(n i:Nat) (b:Array M),cI P (loadCellsFrom a i n b)
 | 0,_,_=>trivial
 | n+1,i,b=>eo (s:=load (a.add i)) ⟨rfl,λ_=>trivial⟩ λv=>kI a n (i+1) (b.push v)
def uU(size n:Nat)(v:M):cI P (Builtin.firstCells size n v):=by
 unfold Builtin.firstCells;split
 .exact kI _ _ _ _
 all_goals exact qYB
def nX(a:Addr):∀(vs:List M) (i:Nat),cI P (storeCells a vs i)
 | [],_=>trivial
 | v::rest,i=>eo (s:=store (a.add i) v) ⟨rfl,qYB⟩ λ_=>nX a rest (i+1)
def BJ(e:Lk)(cs:Array M):cI P (newRow e cs):=eo (s:=newObj _) (λ_=>trivial) λ_=>trivial
def zY(n:Nat):cI P (askRoom n):=by
 unfold askRoom;split<;>exact qYB
def vR(a:Addr)(n:Nat):cI P (Builtin.holdsCells a n):=by
 unfold Builtin.holdsCells;refine eo (s:=shape _) (λ_=>trivial) λx=>?_;split<;>exact qYB
def BK(q:Question):cI P (choose q):=λ_=>trivial
def AL{c:Prop}[Decidable c]{a b:Sem α}(d:cI P a)(e:cI P b):cI P (if c then a else b):=by
 split
 .exact d
 .exact e
def BM(a:Addr):cI P (frozen a):=λ_=>trivial
def yF(size a n:Nat)(base:Option Addr)(x:M):cI P (Builtin.mayShare size a n base x):=by
 unfold Builtin.mayShare;repeat' (first|assumption|exact qYB|(exact vR _ _)|(exact BM _)|apply eo|apply AL|intro _|dsimp only|split)
def Ek(v:M):cI P (asInt v):=by
 unfold asInt asIntOf;repeat' (first|assumption|exact qYB|apply eo|intro _|dsimp only|split)
def El(v:M):cI P (Builtin.lenOf v):=by
 unfold Builtin.lenOf;split<;>exact qYB
def OY(e:RuntimeError):cI P (runtimePanic e:Sem α):=by
 unfold runtimePanic;repeat' (first|assumption|exact qYB|apply eo|intro _|dsimp only|split)
def BN(ts:Array Lk)(ty:Lk)(xs:Array Ha):cI P (Builtin.append_ ts ty xs):=by
 unfold Builtin.append_
 repeat' (first|assumption|exact G6 _|(exact uT _)|(exact BI _)|(exact EP _)|(exact wH _)|(exact uU _ _ _)|(exact nX _ _ _)|(exact BJ _ _)|(exact zY _)|(exact BK _)|(exact vR _ _)|(exact Ek _)|(exact El _)|(exact OY _)|(exact yF _ _ _ _ _)|apply eo|apply AL|intro _|dsimp only|split|exact qYB)
def TJ(k:Nat->Nat->Kd)(r:Ly):P3:= {TA with kind:=λf i=>if KV.contains f then xO f i else k f i,rest:=r}
def Zk(k:Nat->Nat->Kd)(r:Ly):KV.all (λf=>dX (TJ k r) F f)=true:=by kernel_rfl
def Eo(k:Nat->Nat->Kd)(r:Ly)(f:ba)(h:(TJ k r).has f=true):dX (TJ k r) F f=true:=by
 have a:KV.contains f=true:=h;exact List.all_eq_true.1 (Zk k r) f (by simpa using a)
end Go.Co
