import Derived.Conc.DeferLaws
import Derived.Conc.TokenWalk
import Derived.Below
import Derived.Laws.AppendOwn
import Derived.Test.YtimmnfbjckbneaaGreatDoorChecked
import Derived.KernelRfl
import Derived.StepT
import Derived.Conc.AppendEvents3
import Derived.Conc.AppendWalk
import Derived.Test.YtimmnfbjckbneaaGreatDoorZc
import Derived.Test.YtimmnfbjckbneaaGreatDoorZj
set_option maxRecDepth 100000
set_option maxHeartbeats 4000000
set_option linter.all false
noncomputable section
open Go renaming undef->D,World->H,Value->Ha,execOp->Hn,Frame->Kf,Oper->Kp,TypeId->Lk,stepG->Lq,Code->Ly,Value->M,Program->Ps,Goroutine->QP,heap_alloc_old->QR,resolve->ab,Operand->ae,MemOp->al,yielded->aw,FuncId->ba
open Go.Proofs.Tryz renaming prog->F
open Option renaming none->I,some->Y
namespace Go
def tx{p:Prop}(h:p:=by
 first|have _:=ø;refine WalkE.jh v r q m hg hk (λbj a=>?_) (λbj a e c=>?_) next|have _:=å;refine WalkE.value v r hw hk (λbj a=>?_) (λbj a e c=>?_) (by rw[q,cw m];exact next)|have y:=λbj (a:aH V w bj)=>Ml (w:=bj) (b:=bk) λi x hi=>bu a l (h i x hi);refine WalkE.jh bk.v r q m hg hk (λbj a=>?_) (λbj a e c=>?_) next
 .unfold Hn;simp only[s,u];first|have _:=æ;simp[(y bj a).1]|have:=(h1 bj ad v (bu a l hc)).1;simp[this]
 .unfold Hn at c;simp only[s,u]at c;first|have _:=æ;have h2:=y bj a;simp[h2.1]at c;obtain⟨j,rfl⟩:=h2.2 e c|have h2:=(h1 bj ad v (bu a l hc));simp[h2.1,h2.2]at c;subst c
  exact⟨rfl,l,λh=>by cases h⟩):p:=h
def vx{p:Prop}(h:p:=by
 obtain⟨n,h2,o,q⟩:=h;refine⟨n,h2,o,λm=>?_⟩;obtain⟨a,off,c,j,f⟩:=q m
 first
 |have _:=ø
  refine⟨a,off,c,by rw[show(tp (gw T V e0 w) τ d).heap.size=w.heap.size from dW];exact j,λk hk=>?_⟩;exact(dO ((g _ c).2.2.2 m) (by show off+k<off+l.length;omega)).tn (f k hk)
 |have _:=å
  have b:=(g _ c).2.1;have i:a<bj.heap.size:=by
   have:bj.heap[a]?=w.heap[a]?:=hk a b;rw[km j]at this;exact(du.1 this).1
  exact⟨a,off,c,i,λk e=>⟨aV (hk a b) (f k e).1,aV (hk a b) (f k e).2⟩⟩
 |have _:=æ
  have b:=(g _ c).2.1;have i:a<bj.heap.size:=by
   have:bj.heap[a]?=w.heap[a]?:=hk a b;rw[km j]at this;exact(du.1 this).1
  exact⟨a,off,c,i,λk e=>⟨aV (hk a b) (f k e).1,aV (hk a b) (f k e).2.1,aV (hk a b) (f k e).2.2⟩⟩
 |have b:=(g _ c).2.1
  have i:a<bj.heap.size:=by
   have:bj.heap[a]?=w.heap[a]?:=hk a b;rw[km j]at this;exact(du.1 this).1
  exact⟨a,off,c,i,λk e=>aV (hk a b) (f k e)⟩):p:=h
def H5{p:Prop}(h:p:=by
 first|have _:=ø;obtain⟨i,h2,j,m⟩:=h.at_.U|obtain⟨i,h2,j,m⟩:=h.at_.E
 refine⟨i,h2,j,λg=>?_⟩;obtain⟨a,off,c,n,f⟩:=m g;first|have _:=ø;have e:bV T V w a (off+l.U.length*2):=(h.U _ c).2.2.2 zz|have e:bV T V w a (off+l.E.length*2):=(h.E _ c).2.2.2 zz
 exact⟨a,off,c,by rw[o];exact n,λk hk=>⟨(dO e zz).tn (f k hk).1,(dO e zz).tn (f k hk).2⟩⟩):p:=h
def xaB{p:Prop}(h:p:=by
 first
 |revert ø;intro ø
  skip
 |obtain⟨v',w',b8,r1,r2, -, r4⟩:=gU (P:=P) w B t o.type e inf z size bytes Z hi a1 W S b2 b1 v l xs a9 ⟨g,0,I⟩ m c cur.toList (by simpa using U) (λj u c4=>by
   have e:(⟨g,0,I⟩:Addr).add j=⟨g,j,I⟩:=by
    unfold Addr.add;split
    .rename_i h0;rw[h0]
    .rw[kl]
   rw[e];unfold H.cell?;dsimp only;rw[a6];simpa using c4) L N T hB
  refine Pc v' a7 a3 a2 q ?_ (hK v' w' r1 r2 r4)
 unfold Hn;simp only[a8,ab,invoke,builtin,Sem.run_bind,Sem.run_pure,Result.andThen_ok,zM,a0,a,b8]):p:=h
def xbs{p:Prop}(h:p:=by
 unfold Hn;rcases a with h|h<;>simp only[h,l]<;>rfl):p:=h
end Go
namespace Go.Co
open Go.Conc
section
variable{v:M}
section
variable{P:Ps}{main:Bool}{Stop:(Nat->Prop)->(Nat->Prop)->QP->H->Prop}{V O:Nat->Prop}{w:H}{b:Kf}{a:Act}{k:List Item}{cs:List Kf}{ops:Array Kp}{i:Nat}{rest:List Nat}{o:Kp}
def jV(w:H):IT V O w w #[] V O:=⟨rfl,rfl,rfl,dj _,λ_ _ _=>rfl,λb=>⟨.inl,λh=>h.elim id λh=>zz⟩,λb=>⟨.inl,λh=>h.elim id λh=>zz⟩,by simp⟩
def Df(w w':H){es:Array Event}(a:w'.heap=w.heap)(g:w'.tape=w.tape)(d:w'.os=w.os)(f:w'.output=w.output)(c:∀e∈es,Ng V O e):IT V O w w' es V O:=
 ⟨g,d,f,by rw[a];exact dj _,λ_ _ _=>by rw[a],λb=>⟨.inl,λh=>h.elim id λh=>by rw[a]at h;omega⟩,λb=>⟨.inl,λh=>h.elim id λh=>by rw[a]at h;omega⟩,c⟩
def WalkE.ctl{fr da:Kf}{cs dp:List Kf}(h:∀w,Lq P main (G fr cs) w=.go (G da dp) w #[])(next:WalkE P main Stop V O (G da dp) w):WalkE P main Stop V O (G fr cs) w:=
 WalkE.step rfl λbj a=>⟨_,bj, #[],V,O,h bj,⟨_,_,rfl⟩,jV bj,next.rely a⟩
def oD{e:Event}(h:e∈listed P b.fn a o w):e∈(Hn a.eval o).events P w #[]:=mem_listed h
def WalkE.value(v:M)(f:ops[i]?=Y o)(j:Region.wanted o (aw ops a.tmps)=true)(hk:b.kind≠.early)
  (g:∀bj,aH V w bj->(Hn a.eval o).run P bj=.ok (.value v) bj)(d:∀bj,aH V w bj->∀e∈(Hn a.eval o).events P bj #[],Ng V O e)
  (next:WalkE P main Stop V O (G (b.at (a.put o.dst v) (.inRegion ops rest::k)) cs) w):WalkE P main Stop V O (G (b.at a (.inRegion ops (i::rest)::k)) cs) w:=
 WalkE.step rfl λbj c=>⟨_,bj,_,V,O,stepG_value f j hk (g bj c),⟨_,_,rfl⟩,Df bj bj rfl rfl rfl rfl (λe h=>d bj c e (oD h)),next.rely c⟩
def WalkE.make(c:Obj)(v:Nat->M)(l:ops[i]?=Y o)(n:Region.wanted o (aw ops a.tmps)=true)(hk:b.kind≠.early)
  (m:∀bj,aH V w bj->(Hn a.eval o).run P bj=.ok (.value (v bj)) (bj.alloc c))(j:∀bj,aH V w bj->∀e∈(Hn a.eval o).events P bj #[],Ng V O e)
  (next:∀bj,aH V w bj->WalkE P main Stop (λx=>V x\/x=bj.heap.size) (λx=>O x\/x=bj.heap.size) (G (b.at (a.put o.dst (v bj)) (.inRegion ops rest::k)) cs) (bj.alloc c)):WalkE P main Stop V O (G (b.at a (.inRegion ops (i::rest)::k)) cs) w:=
 WalkE.step rfl λbj d=>by
  have f:∀x,(bj.heap.size<=x/\x<(bj.alloc c).heap.size)↔x=bj.heap.size:=λx=>by simp;omega
  refine⟨_,bj.alloc c,_,(λx=>V x\/x=bj.heap.size),(λx=>O x\/x=bj.heap.size),stepG_value l n hk (m bj d),⟨_,_,rfl⟩,⟨rfl,rfl,rfl,by simp,λx g _=>(by first|exact QR bj c x g|exact QR bj c g),λx=>by rw[f],λx=>by rw[f],λe h=>(j bj d e (oD h)).mono (λ_=>.inl) λ_=>.inl⟩,next bj d⟩
def WalkE.store(ad:Addr)(v:M)(d:O ad.block)(p:V ad.block)(g:ops[i]?=Y o)(m:Region.wanted o (aw ops a.tmps)=true)(hk:b.kind≠.early)
  (j:∀bj,aH V w bj->(Hn a.eval o).run P bj=.ok .skip (bj.setCell ad v))(f:∀bj,aH V w bj->∀e∈(Hn a.eval o).events P bj #[],Ng V O e)
  (next:∀bj,aH V w bj->WalkE P main Stop V O (G (b.at (a.put o.dst D) (.inRegion ops rest::k)) cs) (bj.setCell ad v)):WalkE P main Stop V O (G (b.at a (.inRegion ops (i::rest)::k)) cs) w:=
 WalkE.step rfl λbj c=>by
  have l:(bj.setCell ad v).heap.size=bj.heap.size:=by simp[H.setCell]
  refine⟨_,bj.setCell ad v,_,V,O,stepG_none g m hk (j bj c),⟨_,_,rfl⟩,⟨rfl,rfl,rfl,by rw[l];exact dj _,λx _ n=>Go.RowKit.Below.heap_setCell bj ad v x (λe=>n (by rw[e];exact d)),λx=>⟨.inl,λh=>h.elim id λh=>zz⟩,λx=>⟨.inl,λh=>h.elim id λh=>zz⟩,λe h=>f bj c e (oD h)⟩,next bj c⟩
def WalkE.enter{f:ba}{args:Array M}(d:ops[i]?=Y o)(h:Region.wanted o (aw ops a.tmps)=true)(hk:b.kind≠.early)
  (e:∀bj,(Hn a.eval o).run P bj=.ok (.enter f args) bj)(c:∀bj,(Hn a.eval o).events P bj #[]= #[])
  (next:WalkE P main Stop V O (G (Kf.enter P f args .normal) (b.at a (.inRegion ops (i::rest)::k)::cs)) w):WalkE P main Stop V O (G (b.at a (.inRegion ops (i::rest)::k)) cs) w:=
 WalkE.step rfl λbj g=>⟨_,bj,_,V,O,by rw[stepG_enter d h hk (e bj),listed_none (c bj)],⟨_,_,rfl⟩,jV bj,next.rely g⟩
def WalkE.leave{fn:Func}{todo:List Item}{c:Kf}(h:b.kind=.normal)(e:a.defers=[])(g:P.funcs[b.fn]?=Y fn)
  (i:∀bj,aH V w bj->(results fn a.tmps).run P bj=.ok v bj)(f:∀bj,aH V w bj->(results fn a.tmps).events P bj #[]= #[])
  (next:WalkE P main Stop V O (G (c.finish v) cs) w):WalkE P main Stop V O (G {b.at a todo with mode:=.returning} (c::cs)) w:=
 WalkE.step rfl λbj d=>⟨_,bj, #[],V,O,stepG_leave h e g (i bj d) (f bj d),⟨_,_,rfl⟩,jV bj,next.rely d⟩
def bu{bj:H}(h:aH V w bj){ad:Addr}(b:V ad.block)(a:w.cell? ad=Y v):bj.cell? ad=Y v:=by
 unfold H.cell? at a|-;rw[h.keep _ b];exact a
end
end
section
variable{n d t:Nat}{f:Nat->M}{v:M}{x:ae}
def fa(n:Nat)(f:Nat->M):Act:=⟨(Array.range n).map f,[]⟩
def ah(f:Nat->M)(d:Nat)(v:M):Nat->M:=λi=>if i=d then v else f i
def cw(b:d<n):(fa n f).put (Y d) v=fa n (ah f d v):=by
 unfold fa Act.put;simp only[Act.mk.injEq,and_true];refine Array.ext_getElem? λi=>?_;simp only[ma,mn,Array.getElem?_range,Array.size_map,Array.size_range];by_cases h:d=i
 .subst h;simp[b,ah]
 .have a:¬i=d:=λe=>h e.symm;simp only[h,if_false];by_cases hi:i<n
  .simp[hi,ah,a]
  .simp[hi]
def IW:(fa n f).put I v=fa n f:=rfl
theorem fe(h:t<n):(fa n f).eval (.tmp t)=f t:=by
 simp[fa,Act.eval,zQ,h]
theorem ft {n t:Nat} {f:Nat->M} {v:M} (e:f t=v) (h:t<n:=by omega):(fa n f).eval (.tmp t)=v:=(fe h).tn e
def au(f:Nat->M)(d:Nat)(v:M):ah f d v d=v:=dE rfl
theorem cu(f:Nat->M){d i:Nat}(v:M)(h:i≠d):ah f d v i=f i:=cd h
theorem ndd {f:Nat->M} {d i:Nat} {v a:M} (e:f i=a) (h:Nat.beq i d=false:=by exact rfl):ah f d v i=a:=(cd (Nat.ne_of_beq_eq_false h)).tn e
theorem nf {f:Nat->M} {d i:Nat} {v:M} (h:i≠d:=by omega):ah f d v i=f i:=cd h
theorem nk {p:Prop} (h:p:=by(repeat (refine(cu _ _ ?_).tn ?_;omega));exact rfl):p:=h
theorem nt {f:Nat->M} {d i:Nat} {v a:M} (e:f i=a) (h:i≠d:=by omega):ah f d v i=a:=(cd h).tn e
def ej(h:t<n):(fa n f).tmps[t]?=Y (f t):=by simp[fa,h]
def xM{ops:Array Kp}{j d:Nat}{t:Bool}(h:(ops[j]?).bind (·.dst)=Y d)(a:d<n)(b:f d=.bool t):aw ops (fa n f).tmps j=Y t:=by
 unfold aw;rw[h];simp only[Option.bind_some,ej a,b]
def iu{A:Array M}{k n:Nat}(h:A.size+k=n):A++Array.replicate k D=(Array.range n).map λi=>A.getD i D:=by
 refine Array.ext_getElem? λi=>?_;simp only[Array.getElem?_append,Array.getElem?_replicate,mn,Array.getElem?_range,zQ];by_cases a:i<A.size
 .have:i<n:=zz;simp[a,this]
 .by_cases h2:i<n
  .have:i-A.size<k:=zz;simp[a,h2,this]
  .have:¬i-A.size<k:=zz;simp[a,h2,this]
section
variable{P:Ps}{main:Bool}{Stop:(Nat->Prop)->(Nat->Prop)->QP->H->Prop}{V O:Nat->Prop}{w:H}{b:Kf}{k:List Item}{cs:List Kf}{ops:Array Kp}{i:Nat}{rest:List Nat}{o:Kp}{n d:Nat}{f:Nat->M}
def bY{y:Nat->Option Bool}(h:o.guard=I):Region.wanted o y=true:=by unfold Region.wanted;rw[h]
theorem wnn {y:Nat->Option Bool} (h:o.guard=I:=by exact rfl):Region.wanted o y=true:=bY h
def WalkE.jh(v:M)(j:ops[i]?=Y o)(c:o.dst=Y d)(a:d<n)(h:o.guard=I)(hk:b.kind≠.early)
  (l:∀bj,aH V w bj->(Hn (fa n f).eval o).run P bj=.ok (.value v) bj)(g:∀bj,aH V w bj->∀e∈(Hn (fa n f).eval o).events P bj #[],Ng V O e)
  (next:WalkE P main Stop V O (G (b.at (fa n (ah f d v)) (.inRegion ops rest::k)) cs) w):WalkE P main Stop V O (G (b.at (fa n f) (.inRegion ops (i::rest)::k)) cs) w:=by
 refine WalkE.value v j (bY h) hk l g ?_;rw[c,cw a];exact next
def WalkE.oa(a:Obj)(v:Nat->M)(m:ops[i]?=Y o)(g:o.dst=Y d)(c:d<n)(l:o.guard=I)(hk:b.kind≠.early)
  (p:∀bj,aH V w bj->(Hn (fa n f).eval o).run P bj=.ok (.value (v bj)) (bj.alloc a))(j:∀bj,aH V w bj->∀e∈(Hn (fa n f).eval o).events P bj #[],Ng V O e)
  (next:∀bj,aH V w bj->WalkE P main Stop (λx=>V x\/x=bj.heap.size) (λx=>O x\/x=bj.heap.size) (G (b.at (fa n (ah f d (v bj))) (.inRegion ops rest::k)) cs) (bj.alloc a)):WalkE P main Stop V O (G (b.at (fa n f) (.inRegion ops (i::rest)::k)) cs) w:=by
 refine WalkE.make a v m (bY l) hk p j λbj h=>?_;rw[g,cw c];exact next bj h
def WalkE.xN(ad:Addr)(v:M)(a:O ad.block)(c:V ad.block)(l:ops[i]?=Y o)(d:o.dst=I)(j:o.guard=I)(hk:b.kind≠.early)
  (m:∀bj,aH V w bj->(Hn (fa n f).eval o).run P bj=.ok .skip (bj.setCell ad v))(g:∀bj,aH V w bj->∀e∈(Hn (fa n f).eval o).events P bj #[],Ng V O e)
  (next:∀bj,aH V w bj->WalkE P main Stop V O (G (b.at (fa n f) (.inRegion ops rest::k)) cs) (bj.setCell ad v)):WalkE P main Stop V O (G (b.at (fa n f) (.inRegion ops (i::rest)::k)) cs) w:=by
 refine WalkE.store ad v a c l (bY j) hk m g λbj h=>?_;rw[d,IW];exact next bj h
def WalkE.gR(v:M)(j:ops[i]?=Y o)(a:o.op=.move x\/o.op=.assign x)(l:(fa n f).eval x=v)(g:o.dst=Y d)(c:d<n)(q:o.guard=I)(hk:b.kind≠.early)
  (next:WalkE P main Stop V O (G (b.at (fa n (ah f d v)) (.inRegion ops rest::k)) cs) w):WalkE P main Stop V O (G (b.at (fa n f) (.inRegion ops (i::rest)::k)) cs) w:=by
 refine WalkE.jh v j g c q hk (λbj _=>?_) (λbj _ e m=>?_) next
 .exact xbs
 .exfalso;unfold Hn at m;rcases a with h|h<;>simp[h]at m
def OneCell(P:Ps)(t:Lk):Prop:=∀(w:H) (ad:Addr) (v:M),w.cell? ad=Y v->(Instr.loadAt t (.pointer (Y ad))).run P w=.ok v w/\(Instr.loadAt t (.pointer (Y ad))).events P w #[]= #[⟨.cell ad,false,false⟩]
def WalkE.vC{t:Lk}(ad:Addr)(v:M)(h1:OneCell P t)(r:ops[i]?=Y o)(s:o.op=.load t x)(u:(fa n f).eval x=.pointer (Y ad))(l:V ad.block)(hc:w.cell? ad=Y v)(q:o.dst=Y d)(m:d<n)(hg:o.guard=I)(hk:b.kind≠.early)
  (next:WalkE P main Stop V O (G (b.at (fa n (ah f d v)) (.inRegion ops rest::k)) cs) w):WalkE P main Stop V O (G (b.at (fa n f) (.inRegion ops (i::rest)::k)) cs) w:=by
 have ø:=0;exact tx
end
end
section
variable{c x y:Ly}{id:Nat}{ops:Array Kp}
section
variable{P:Ps}{main:Bool}{Stop:(Nat->Prop)->(Nat->Prop)->QP->H->Prop}{V O:Nat->Prop}{w:H}{b:Kf}{a:Act}{k:List Item}{cs:List Kf}
def WalkE.cond{c:ae}{t:Bool}(h:a.eval c=.bool t)(next:WalkE P main Stop V O (G (b.at a (.code (if t then x else y)::k)) cs) w):WalkE P main Stop V O (G (b.at a (.code (.cond c x y)::k)) cs) w:=WalkE.ctl (λ_=>stepG_cond h) next
def WalkE.seq(next:WalkE P main Stop V O (G (b.at a (.code x::.code y::k)) cs) w):WalkE P main Stop V O (G (b.at a (.code (.seq x y)::k)) cs) w:=WalkE.ctl (λ_=>stepG_seq) next
def WalkE.reg{l:List Nat}(c:List.range ops.size=l)(next:WalkE P main Stop V O (G (b.at a (.inRegion ops l::k)) cs) w):WalkE P main Stop V O (G (b.at a (.code (.region id ops false)::k)) cs) w:=WalkE.ctl (λ_=>stepG_region) (by rw[c];exact next)
def WalkE.aT(next:WalkE P main Stop V O (G (b.at a k) cs) w):WalkE P main Stop V O (G (b.at a (.inRegion ops []::k)) cs) w:=WalkE.ctl (λ_=>stepG_region_end) next
def WalkE.skip(next:WalkE P main Stop V O (G (b.at a k) cs) w):WalkE P main Stop V O (G (b.at a (.code .skip::k)) cs) w:=WalkE.ctl (λ_=>stepG_skip) next
def WalkE.block(next:WalkE P main Stop V O (G (b.at a (.code c::.inBlock id::k)) cs) w):WalkE P main Stop V O (G (b.at a (.code (.block id c)::k)) cs) w:=WalkE.ctl (λ_=>stepG_block) next
def WalkE.inBlock(next:WalkE P main Stop V O (G (b.at a k) cs) w):WalkE P main Stop V O (G (b.at a (.inBlock id::k)) cs) w:=WalkE.ctl (λ_=>stepG_inBlock) next
def WalkE.loop(next:WalkE P main Stop V O (G (b.at a (.code c::.inLoop c::k)) cs) w):WalkE P main Stop V O (G (b.at a (.code (.loop c)::k)) cs) w:=WalkE.ctl (λ_=>stepG_loop) next
def WalkE.inLoop(next:WalkE P main Stop V O (G (b.at a (.code c::.inLoop c::k)) cs) w):WalkE P main Stop V O (G (b.at a (.inLoop c::k)) cs) w:=WalkE.ctl (λ_=>stepG_inLoop) next
def WalkE.exit{k':List Item}(h:exitTo id k=Y k')(next:WalkE P main Stop V O (G (b.at a k') cs) w):WalkE P main Stop V O (G (b.at a (.code (.exit id)::k)) cs) w:=WalkE.ctl (λ_=>stepG_exit h) next
def WalkE.ret(next:WalkE P main Stop V O (G {b.at a (.code .ret::k)with mode:=.returning} cs) w):WalkE P main Stop V O (G (b.at a (.code .ret::k)) cs) w:=WalkE.ctl (λ_=>by simp[G,Lq,Lq.exec,Kf.at]) next
def gS(b:∀x,V x->x<w.heap.size)(a:Obj):aH V w (w.alloc a):=⟨rfl,rfl,rfl,by simp,λx c=>(by first|exact QR w a x (b x c)|exact QR w a (b x c))⟩
def nB{ad:Addr}(h:¬V ad.block)(v:M):aH V w (w.setCell ad v):=⟨rfl,rfl,rfl,by simp[H.setCell],λx a=>Go.RowKit.Below.heap_setCell w ad v x λe=>h (by rw[<- e];exact a)⟩
def aH.cX{bj:H}(h:aH V w bj)(a:∀x,V x->x<w.heap.size):∀x,V x->x<bj.heap.size:=λx b=>iv (a x b) h.size
end
end
variable{b k b' s size n N:Nat}{v:M}{xs:Array M}{e e0:Lk}{P:Ps}{T:gq}{V V' O V0 O0:Nat->Prop}{w bj w0 W:H}{ρ0 Z:Ren}
section
variable{hB:Base T V w e0}
def Shown.mono(h:Shown T V w b)(c:∀x,V x->V' x)(hk:∀x,V x->bj.heap[x]?=w.heap[x]?):Shown T V' bj b:=by
 obtain⟨a,h2⟩:=h;refine⟨c b a,?_⟩;unfold oB IsMap at h2|-;rw[hk b a];exact h2
def Flat.mono(h:Flat T V w v)(d:∀x,V x->V' x)(hk:∀x,V x->bj.heap[x]?=w.heap[x]?):Flat T V' bj v:=by
 rcases h with h|⟨a,n,c,rfl,e,b⟩|⟨r,rfl,b⟩|h
 .exact .inl h
 .exact .inr (.inl ⟨a,n,c,rfl,e,b.mono d hk⟩)
 .exact .inr (.inr (.inl ⟨r,rfl,b.mono d hk⟩))
 .exact .inr (.inr (.inr h))
theorem bV.mono(h:bV T V w b k)(d:∀x,V x->V' x)(hk:∀x,V x->bj.heap[x]?=w.heap[x]?):bV T V' bj b k:=by
 obtain⟨a,c,e,z,h2,f,g⟩:=h;exact⟨d b a,c,e,z,(hk b a).tn h2,f,λj v i l=>(g j v i l).mono d hk⟩
def bV.rely(h:bV T V w b k)(a:aH V w bj):bV T V bj b k:=h.mono (λ_=>id) a.keep
theorem Base.rely(h:Base T V w e0)(a:aH V w bj):Base T V bj e0:=⟨h.v0,let⟨c,z,x⟩:=h.cells;⟨c,z,(a.keep 0 h.v0).tn x⟩,h.glob⟩
theorem Base.mono(h:Base T V w e0)(a:∀x,V x->V' x)(hk:∀x,V x->bj.heap[x]?=w.heap[x]?):Base T V' bj e0:=⟨a 0 h.v0,let⟨c,z,x⟩:=h.cells;⟨c,z,(hk 0 h.v0).tn x⟩,h.glob⟩
def cR(k:IntKind)(n:Int):jU (.int k n):=λ_=>.int k n
def sN(b:Bool):jU (.bool b):=λ_=>.bool b
def eR(v:M):Prop:=∀(Z:Ren) (v':M),VR Z v v'->v'=v
def aG(k:IntKind)(n:Int):eR (.int k n):=λ_ _ h=>by cases h;rfl
def dQ(b:Bool):eR (.bool b):=λ_ _ h=>by cases h;rfl
def qV(h:∀x∈xs,eR x):eR (.agg xs):=λZ v' r=>by
 cases r with
 | agg s c=>
  congr 1;refine(Array.ext_getElem? λi=>?_).symm
  cases hi:xs[i]? with
  | none=>
   rw[Array.getElem?_eq_none_iff]at hi;exact(Array.getElem?_eq_none_iff.2 (by rw[<- s];exact hi)).symm
  | some x=>
   have b:=(du.1 hi).1;have a:=km (xs:=_) (by rw[<- s];exact b:i<_);rw[a];exact eh Y (h x (il hi) Z _ (c i _ _ hi a)).symm
def KU(h:∀x∈xs,jU x):jU (.agg xs):=λZ=>.agg rfl λi x y a b=>by rw[a]at b;cases b;exact h x (il a) Z
def ir.block(f:ir T P N V0 O0 w0 ρ0 Z W w V O){c:Array M}{z:Nat×Nat}(g:W.heap[b]?=Y (.cells c e z))(k:Z b=Y (b',s))(j:Z.cls b=false):
  ∃c' l,w.heap[b']?=Y (.cells c' e l)/\∀(i:Nat) v,c[i]?=Y v->∃v',c'[i+s]?=Y v'/\VR Z v v':=by
 obtain⟨m,p,o,a,h2,d,-⟩:=f.mem.hr.plain g j;rw[k]at a;cases a
 cases d with
 | cells h n=>exact⟨_,_,h2,h⟩
def ir.cell(j:ir T P N V0 O0 w0 ρ0 Z W w V O){b i b' s:Nat}(a:W (b,i)=Y v)(l:Z b=Y (b',s))(k:Z.cls b=false):∃v',w (b',i+s)=Y v'/\VR Z v v':=by
 unfold H.cell? at a;dsimp only at a
 cases d:W.heap[b]? with
 | none=>rw[d]at a;cases a
 | some o=>
  rw[d]at a
  cases o with
  | cells c e z=>
   obtain⟨c',m,f,h2⟩:=j.block d l k;obtain⟨v',g,h⟩:=h2 i v a;refine⟨v',?_,h⟩;unfold H.cell?;dsimp only;rw[f];exact g
  | _=>cases a
def ir.map(m:ir T P N V0 O0 w0 ρ0 Z W w V O){r r':Nat}{es:Array MapEntry}(p:W.heap[r]?=Y (.map es k))(q:Z r=Y (r',0))(n:∀x∈es,eR x.key/\eR x.val):w.heap[r']?=Y (.map es k):=by
 obtain⟨s,u,t,e,h2,a,-⟩:=m.mem.hr r _ p;rw[q]at e;cases e;revert a;generalize Z.cls r=cl;intro a
 cases a with
 | plain a=>
  cases a with
  | @map _ c _ f he=>
   rw[h2];congr 2;refine(Array.ext_getElem? λi=>?_).symm
   cases hi:es[i]? with
   | none=>
    rw[Array.getElem?_eq_none_iff]at hi;exact(Array.getElem?_eq_none_iff.2 (by rw[<- f];exact hi)).symm
   | some x=>
    have o:=(du.1 hi).1;have h:=km (xs:=c) (by rw[<- f];exact o:i<c.size);rw[h];obtain⟨j,l,d⟩:=he i x _ hi h;have g:=n x (il hi);have e1:=g.1 Z _ j;have b:=g.2 Z _ l;congr 1;cases x;generalize c[i]=y at e1 b d;cases y;simp only at e1 b d|-;rw[e1,b,d]
def sq(T:gq)(V:Nat->Prop)(w:H)(v:M)(size n:Nat)(xs:List M):Prop:=
 xs.length=n*size/\((v=.slice I 0 0/\n=0)\/∃g a,v=.slice (Y ⟨g,0,I⟩) n a/\n<=a/\a<=maxLen/\bV T V w g (n*size)/\∀j x,xs[j]?=Y x->w.cell? ⟨g,j,I⟩=Y x)
def sq.mono{xs:List M}(h:sq T V w v size n xs)(i:∀x,V x->V' x)(hk:∀x,V x->bj.heap[x]?=w.heap[x]?):sq T V' bj v size n xs:=by
 obtain⟨a,h|⟨g,c,d,h2,e,b,f⟩⟩:=h
 .exact⟨a,.inl h⟩
 .refine⟨a,.inr ⟨g,c,d,h2,e,b.mono i hk,λj x k=>?_⟩⟩;have:=f j x k;unfold H.cell? at this|-;rw[hk g b.1];exact this
def ir.row(l:ir T P N V0 O0 w0 ρ0 Z W w V O){B:Nat}{v v':M}{xs:List M}(h:W.ownsRow B e size v n xs)(J:N<=B)(f:VR Z v v')(C:∀x∈xs,eR x/\jU x):
  sq T V w v' size n xs/\∀A n' c,v=.slice A n' c->∃E,v'=.slice E n' c:=by
 obtain⟨d,⟨rfl,rfl⟩|⟨g,o,p,rfl,S,L,t,U,a3,a2⟩⟩:=h
 .cases f;exact⟨⟨d,.inl ⟨rfl,rfl⟩⟩,λA n' c e=>by cases e;exact⟨_,rfl⟩⟩
 .cases f with
  | @slice _ _ G _ _ K=>
   obtain⟨-, z,s,m,u,Q⟩:=K;have a1:=(l.mem.sep g _ s (ec J S) m).1;subst a1;obtain⟨c',z',k,h2⟩:=l.block L m Q;obtain⟨bk,off,a4⟩:=G;simp only at z u k;subst z u;have hle:n*size<=o*size:=Nat.mul_le_mul_right _ t;have q:∀j x,xs[j]?=Y x->c'[j]?=Y x:=λj x a=>by
    have b:j<n*size:=by rw[<- d];exact(List.getElem?_eq_some_iff.1 a).1
    have:p[j]?=Y x:=by
     rw[<- a2,List.getElem?_take,dE b]at a;simpa using a
    obtain⟨y,i,r⟩:=h2 j x this;have:=(C x (List.mem_of_getElem? a)).1 Z y r;rw[this]at i;simpa using i
   refine⟨⟨d,.inr ⟨bk,o,rfl,t,U,⟨l.see _ _ _ m,c',e,z',k,?_,λj v a f=>?_⟩,λj x a=>?_⟩⟩,λA n' c e=>by cases e;exact⟨_,rfl⟩⟩
   .refine mr λb=>?_;have R:c'.size<p.size:=zz;obtain⟨y,i,-⟩:=h2 c'.size _ (km R);simp at i
   .have b:j<xs.length:=by rw[d];exact a
    have:=q j _ (fg b);rw[f]at this;cases this;exact .inl (C _ (List.getElem_mem b)).2
   .unfold H.cell?;dsimp only;rw[k];exact q j x a
end
def qd{A:Array M}(h:A.size=n):∃f:Nat->M,A=(Array.range n).map f/\∀i,f i=A.getD i D:=by
 refine⟨λi=>A.getD i D,?_,λ_=>rfl⟩;subst h;refine Array.ext_getElem? λi=>?_;simp only[mn,Array.getElem?_range];by_cases hi:i<A.size
 .simp[hi]
 .simp[hi]
open Go.Proofs
def KV:List Nat:=[4,6,7,8,9,10,11,12,13,14,15,16,17,18,19,20,21,23,24,25,26,27,28,29,31,32,33,34,35,36,37,38,39,40,41,42,43,44,45,46,47,48,49,50,51,52,53,54,55,57,58,59,60,61,62,63,64,65,66,67,68,74,75,76,77,78,79,80,81,82,83,84,85,86,87,88,89,90,91,92,93,94,113,114,115,116,117,118,119,120,121,122,123,124,125,126,132,133,134,135,136,137,138,155,156,157,158,159,160]
def aaZ:Nat->List Nat
 | 3=>[3,4,18]
 | 4=>[1,3,8,14,20]
 | 5=>[1,19,27,352]
 | 6=>[3,4,8,9]
 | 7=>[3,4]
 | 8=>[2,3,6,7,9,20,22,23,26,27,31,39,41,46,49]
 | 9=>[2,3]
 | 10=>[1]
 | 11=>[1,12,18,25,28,29,33,36,37,41,46,52,55,56,58,59,62,63,69,72,73,78,81,82,84,85,88,93,100,103,104,110,113,114]
 | 12=>[19,23]
 | 13=>[0]
 | 14=>[1]
 | 15=>[1,4,8,17,22,25]
 | 17=>[2,3,6,10,20,25,28,29]
 | 18=>[3,4,5,8,20]
 | 19=>[2,3,7,18,24]
 | 20=>[1,4,17,22,28]
 | 21=>[2,3,4,6,8,10,23,27,32,34,40,50,54]
 | 22=>[1,5,6,7,9,19,27,39,44,46]
 | 23=>[4]
 | 24=>[1,2,3,4,6,7,16,18,27]
 | 25=>[1,6,11,21,26,32,37,48,60,65,66,68,69,71]
 | 26=>[2,4,7,22,29,34,35]
 | 27=>[2,8]
 | 28=>[1,7,16,22,42,44,47,48]
 | 29=>[1,19,29]
 | 30=>[1,5,6,7,10,20,43,48]
 | 31=>[2,3,4,6,12]
 | 32=>[2,3,4,5,8]
 | 33=>[2,6,7]
 | 34=>[3,4,6,7,13,14,17,19,21,27,29,30,34,36,37,41,42,46,47,50,51,59,60,63,64,69,70,77]
 | 35=>[1]
 | 36=>[2,3,5,9,11]
 | 37=>[2,6]
 | 38=>[3,4,10]
 | 39=>[2,3,4,7,8,13,16]
 | 40=>[2,3,5,6]
 | 41=>[2,3,7,13,15,18,21,23,24,26,27,31,34]
 | 42=>[1,4,9,15,21,27,28,30,31,36,38,44,45,50,51,57,58,60,61,67,68,73,74,76,77]
 | 44=>[2,6]
 | 45=>[1,3,4,6,7]
 | 46=>[2,4,7,9,24,29,32,33,38,43,45,51,60,62]
 | 47=>[1]
 | 49=>[18,23,37,42,49,51]
 | 50=>[1,2]
 | 51=>[2,6,7]
 | 52=>[2,7]
 | 53=>[1,2,3]
 | 54=>[1,2]
 | 55=>[1,2]
 | 56=>[0,1,2,3,6,11,17]
 | 57=>[4,6,8,13]
 | 58=>[2,3,5,7,11,13,17,19]
 | 59=>[2,3]
 | 60=>[4,6,8,13]
 | 61=>[2,3,5,7]
 | 63=>[1,2,3,6,9,12,15,16,17,18]
 | 64=>[1,2]
 | 65=>[2,6,7]
 | 66=>[3,17,18,19]
 | 67=>[3,8,9,10,13,15,16,17,19,22,27,28,29,32,35,36,37,39]
 | 68=>[1,2,3,5,6]
 | 70=>[0,1,2,3,4,7,10,11,12,18,29,30,35,36]
 | 72=>[0,1]
 | 74=>[4,6,8,13]
 | 75=>[2,3,5,7,11,13,17,19]
 | 76=>[14,22]
 | 77=>[2,3,4,7,10,16,23,26,31,34,35]
 | 79=>[14,25,30]
 | 80=>[4,5,9,12,15,17,19,25,27,32,35,39,43,47,53]
 | 82=>[1,2,3,7,10,13]
 | 83=>[14]
 | 84=>[2,3,6,8,14,17,21,23,26]
 | 85=>[3,8,12,14,19]
 | 86=>[79,83]
 | 88=>[1,2,3]
 | 89=>[3,4,6,11,14,15,16,18,19,21,22,23,26,29,36,37,42,43,49,50]
 | 90=>[14]
 | 114=>[2,12,25]
 | 115=>[14]
 | 116=>[22,27,41,45,47,48]
 | 117=>[43,47,49,50]
 | 118=>[7,57,61,63,64]
 | 119=>[9]
 | 120=>[20,24,26,27]
 | 121=>[23,28,50,54,56,57,70,75,87,91,93,94,108,113,125,129,131,132]
 | 123=>[17,21,23,24,35,39,52,56,71,75,77,78]
 | 124=>[18,22,24,25,36,40,52,56,72,76,78,79,87,91,93,94,105,109,121,125,141,145,147,148,159,163,165,166]
 | 133=>[26,33,43,49,65,71,73,74]
 | 135=>[0,3,4,6,7,11,12,13,15,16,20,21,22,24,25,29,30,31]
 | 136=>[2,13]
 | 137=>[4,15,23,31]
 | 138=>[3,12,16,19,20,23]
 | 155=>[1,3,4,9,10,16,17,23,24,30,31,32,34,35,36,42,43]
 | 156=>[1,3,4,5,10,11,12,18,19,20,22,23,24,30,31,32,37,38,39,41,42,43]
 | 157=>[1,4,5,6,11,12,17,21,26]
 | 158=>[1,4,5,6,10,11,16,19,21,22,23,26,27,28,34,40,42,43,44]
 | 159=>[1,4,5,6,10,11,16,19,25]
 | 160=>[3,8,12,14,19]
 | _=>[]
def aa0:Nat->List (Nat×Nat)
 | 17=>[(13,1)]
 | 18=>[(12,1)]
 | 19=>[(11,1)]
 | 21=>[(15,1)]
 | 22=>[(25,0)]
 | 24=>[(22,1)]
 | 30=>[(28,0),(30,0)]
 | 40=>[(8,1)]
 | 45=>[(9,1)]
 | 46=>[(1,1),(23,1)]
 | 59=>[(4,1),(5,1)]
 | 68=>[(8,1)]
 | 81=>[(1,1),(6,1)]
 | 88=>[(6,3),(12,3)]
 | 89=>[(51,3)]
 | 115=>[(1,1),(11,1)]
 | _=>[]
def YZ:Nat->List Nat
 | 88=>[4]
 | 89=>[5]
 | _=>[]
def xO(f i:Nat):Kd:=if(aaZ f).contains i then .addr else match(aa0 f).find? (·.1==i)with|some p=>.clo p.2|none=>if(YZ f).contains i then .addrM else .val
def TA:gq:= {has:=λf=>KV.contains f,kind:=xO,ar:=λf=>if f=89 then 3 else 1,ret:=λf=>if f=59 then .clo 1 else .val,mar:=3,glob:=λg=>g==0,rdm:=false}
def TR(r:Ly):gq:= {TA with rest:=r}
def Y0(r:Ly):KV.all (λf=>dX (TR r) F f)=true:=by kernel_rfl
def I1(r:Ly)(f:ba)(h:(TR r).has f=true):dX (TR r) F f=true:=by
 have a:KV.contains f=true:=h;exact List.all_eq_true.1 (Y0 r) f (by simpa using a)
def Sd(r:Ly)(g:Nat)(h:(TR r).glob g=true):g=0:=by
 have a:(g==0)=true:=h;simpa using a
def TB:gq:= {has:=λ_=>false,kind:=xO,ar:=λ_=>0,ret:=λ_=>.val,mar:=0,glob:=λ_=>false,rdm:=true}
end Go.Co
namespace Go.Proofs.YtimmnfbjckbneaaGreatDoor
open Go.RowKit Go.Co
variable{w bj:H}{b m:Nat}{s:Sl}{T' T:gq}{V V':Nat->Prop}{e0:Lk}{l:bN}
def cM(T:gq)(V:Nat->Prop)(w:H)(s:Sl)(m:Nat):Prop:=∀a,s.A=Y a->a.spot=I/\V a.block/\oB w a.block/\(0<m->bV T V w a.block (a.off+m))
def By(h:oB w b)(hk:bj.heap[b]?=w.heap[b]?):oB bj b:=by unfold oB at h |-; rw[hk];exact h
def cM.mono{T:gq}{V V':Nat->Prop}(h:cM T V w s m)(b:∀x,V x->V' x)(hk:∀x,V x->bj.heap[x]?=w.heap[x]?):cM T V' bj s m:=λa c=>
 let⟨h1,h2,h3,h4⟩:=h a c
 ⟨h1,b _ h2,By h3 (hk _ h2),λd=>(h4 d).mono b hk⟩
structure cy(T:gq)(V:Nat->Prop)(w:H)(b:aC)(l:bN):Prop where
 at_:aI w b l
 C:cM T V w b.C l.C.length
 U:cM T V w b.U (l.U.length*2)
 E:cM T V w b.E (l.E.length*2)
 W:cM T V w b.W (l.W.length*3)
def aV{b i:Nat}{v:M}(hk:bj.heap[b]?=w.heap[b]?)(h:w (b,i)=Y v):bj (b,i)=Y v:=by
 unfold H.cell? at h |-; rw[hk];exact h
section
variable{b:aC}
def LJ{l:List Int}(h:aN w s l)(g:cM T V w s l.length)(hk:∀x,V x->bj.heap[x]?=w.heap[x]?):aN bj s l:=vx
def yl{l:List (Int×Int)}(h:bp w s l)(g:cM T V w s (l.length*2))(hk:∀x,V x->bj.heap[x]?=w.heap[x]?):bp bj s l:=by
 have å:=0;exact vx
def LK{l:List (Int×Int×Bool)}(h:fL w s l)(g:cM T V w s (l.length*3))(hk:∀x,V x->bj.heap[x]?=w.heap[x]?):fL bj s l:=by
 have æ:=0;exact vx
def cy.mono(h:cy T V w b l)(a:∀x,V x->V' x)(hk:∀x,V x->bj.heap[x]?=w.heap[x]?):cy T V' bj b l:=
 ⟨⟨LJ h.at_.C h.C hk,yl h.at_.U h.U hk,yl h.at_.E h.E hk,LK h.at_.W h.W hk⟩,h.C.mono a hk,h.U.mono a hk,h.E.mono a hk,h.W.mono a hk⟩
theorem cy.gw(h:cy T V w b l)(q:Nat->Question->Nat)(d:Nat):aI (tp (gw T V e0 w) q d) b l:=by
 have o:(tp (Co.gw T V e0 w) q d).heap.size=w.heap.size:=dW;refine⟨?_,?_,?_,?_⟩
 .obtain⟨i,h2,j,m⟩:=h.at_.C;refine⟨i,h2,j,λg=>?_⟩;obtain⟨a,off,c,n,f⟩:=m g;have e:bV T V w a (off+l.C.length):=(h.C _ c).2.2.2 g;exact⟨a,off,c,by rw[o];exact n,λk hk=>(dO e zz).tn (f k hk)⟩
 .have ø:=0;exact H5
 .exact H5
 .obtain⟨i,h2,j,m⟩:=h.at_.W;refine⟨i,h2,j,λg=>?_⟩;obtain⟨a,off,c,n,f⟩:=m g;have e:bV T V w a (off+l.W.length*3):=(h.W _ c).2.2.2 zz;exact⟨a,off,c,by rw[o];exact n,λk hk=>⟨(dO e zz).tn (f k hk).1,(dO e zz).tn (f k hk).2.1,(dO e zz).tn (f k hk).2.2⟩⟩
def cM.flat(h:cM T V w s m):Flat T' V w (.slice s.A s.n s.c):=by
 obtain⟨A,n,c⟩:=s
 cases A with
 | none=>exact .inl λ_=>.nilSlice n c
 | some a=>
  obtain⟨b,h2,d,-⟩:=h a rfl;exact .inr (.inl ⟨a,n,c,rfl,b,h2,.inl d⟩)
def wE(b:aC):Array M:= #[.int .i64 b.S,.int .i64 b.D,.int .i64 b.L,.int .i64 b.lo,.int .i64 b.hi,.slice b.C.A b.C.n b.C.c,.int .i64 b.rf,.int .i64 b.rh,.int .i64 b.cf,.int .i64 b.ch,.slice b.U.A b.U.n b.U.c,.slice b.E.A b.E.n b.E.c,.slice b.W.A b.W.n b.W.c]
def rj(h:cy T V w b l):∀v∈wE b,Flat T' V w v:=by
 intro v a;simp only[wE,kj,fc,hZ,or_false]at a;rcases a with rfl|rfl|rfl|rfl|rfl|rfl|rfl|rfl|rfl|rfl|rfl|rfl|rfl
 all_goals first|exact .inl (cR _ _)|exact h.C.flat|exact h.U.flat|exact h.E.flat|exact h.W.flat
theorem dD(h:cy T V w b l){hB:Base T V w e0}:VR (gr hB) b.v b.v:=
 .agg rfl λi x y a c=>by
  have e:Y x=Y y:=a.symm.tn c;cases e;exact jg (rj h x (il a))
structure dJ(T:gq)(V:Nat->Prop)(w:H):Prop where
 at_:aD w
 flat:bV T V w 0 5
def dJ.mono(h:dJ T V w)(g:∀x,V x->V' x)(hk:∀x,V x->bj.heap[x]?=w.heap[x]?):dJ T V' bj:=by
 have a:=hk 0 h.flat.1;obtain⟨b,h2,c,d,e,f⟩:=h.at_;refine⟨⟨?_,aV a h2,aV a c,aV a d,aV a e,aV a f⟩,h.flat.mono g hk⟩;rw[km b]at a;exact(du.1 a).1
theorem dJ.gw(h:dJ T V w)(a:Nat->Question->Nat)(d:Nat):aD (tp (gw T V e0 w) a d):=by
 obtain⟨b,h2,c,e,g,j⟩:=h.at_;have f:∀i v,i<5->w (0,i)=Y v->(tp (Co.gw T V e0 w) a d).cell? (0,i)=Y v:=λi v hi k=>(dO h.flat hi).tn k;exact⟨by rw[show(tp (Co.gw T V e0 w) a d).heap.size=w.heap.size from dW];exact b,f _ _ zz h2,f _ _ zz c,f _ _ zz e,f _ _ zz g,f _ _ zz j⟩
end
end Go.Proofs.YtimmnfbjckbneaaGreatDoor
namespace Go.Co
open Go.Conc
variable{α β:Type}{P:Ps}
def cI{α:Type}(P:Ps):Sem α->Prop
 | .pure _=>True
 | .load m _ k=>m=.plain/\∀v,cI P (k v)
 | .store m _ _ k=>m=.plain/\cI P k
 | .new _ k=>∀n,cI P (k n)
 | .shape _ k=>∀s,cI P (k s)
 | .freeze _ _ k=>cI P k
 | .frozen _ k=>∀b,cI P (k b)
 | .getObj _ _=>False
 | .setObj _ _ _=>False
 | .choose _ k=>∀n,cI P (k n)
 | .sys _ _=>False
 | .program k=>cI P (k P)
 | .mark _ k=>cI P k
 | .halt _=>True
def Ej{s:Sem α}{f:α->Sem β}(d:cI P s)(e:∀a,cI P (f a)):cI P (s.bind f):=by
 induction s with
 | pure a=>exact e a
 | load m a k b=>exact⟨d.1,λv=>b v (d.2 v)⟩
 | store m a v k b=>exact⟨d.1,b d.2⟩
 | new o k b=>exactλn=>b n (d n)
 | shape r k b=>exactλn=>b n (d n)
 | freeze a n k b=>exact b d
 | frozen a k b=>exactλn=>b n (d n)
 | getObj r k b=>exact d.elim
 | setObj r o k b=>exact d.elim
 | choose q k b=>exactλn=>b n (d n)
 | sys c k b=>exact d.elim
 | program k b=>exact b P d
 | mark m k b=>exact b d
 | halt h=>exact db
def eo{s:Sem α}{f:α->Sem β}(c:cI P s)(b:∀a,cI P (f a)):cI P (s>>=f):=Ej c b
def G6(a:α):cI P (pure a:Sem α):=db
def G7{s:Sem α}(f:cI P s):∀(w:H) (es:Array Event),∀e∈(s.runT P w es).2,e∈es\/∀ad,e.loc=.cell ad->e.sync=false:=by
 induction s with
 | pure a=>exactλw es e b=>.inl b
 | load m a k d=>
  intro w es e b;obtain⟨rfl,f⟩:=f;simp only[Sem.runT]at b;split at b
  .rcases d _ (f _) _ _ e b with h|h
   .rcases Array.mem_push.1 h with h|rfl
    .exact .inl h
    .exact .inr λ_ _=>rfl
   .exact .inr h
  .split at b
   .rcases d _ (f _) _ _ e b with h|h
    .rcases mf.1 h with h|h
     .exact .inl h
     .refine .inr λad _=>?_;simp only[kj,Array.mem_map]at h;obtain⟨x, -, rfl⟩:=h;rfl
    .exact .inr h
   .exact .inl b
 | store m a v k d=>
  intro w es e b;obtain⟨rfl,f⟩:=f
  have main:∀(g:∀cs,v≠.agg cs) (i:∀cs,v≠.tuple cs),(Sem.store .plain a v k).runT P w es=match w.cell? a with
    | some _=>if w.frozen? a then(.halt (.unsupported (.unsafePointer "a write to bytes that a string shares")) w,es)else k.runT P (w.setCell a v) (es.push ⟨.cell a,true,Mode.plain==.atomic⟩)
    | none=>match w.farStore P a v (Mode.plain==.atomic)with
     | .ok (w,j)=>k.runT P w (es++j.toArray.map (⟨.cell ·, true,Mode.plain==.atomic⟩))
     | .error h=>(.halt h w,es):=by
   intro g i;cases v<;>first|rfl|exact dC rfl (g _)|exact dC rfl (i _)
  by_cases g:∃cs,v=.agg cs
  .obtain⟨cs,rfl⟩:=g;exact .inl b
  by_cases i:∃cs,v=.tuple cs
  .obtain⟨cs,rfl⟩:=i;exact .inl b
  rw[main (λcs e=>g ⟨cs,e⟩) (λcs e=>i ⟨cs,e⟩)]at b;split at b
  .split at b
   .exact .inl b
   .rcases d f _ _ e b with h|h
    .rcases Array.mem_push.1 h with h|rfl
     .exact .inl h
     .exact .inr λ_ _=>rfl
    .exact .inr h
  .split at b
   .rcases d f _ _ e b with h|h
    .rcases mf.1 h with h|h
     .exact .inl h
     .refine .inr λad _=>?_;simp only[kj,Array.mem_map]at h;obtain⟨x, -, rfl⟩:=h;rfl
    .exact .inr h
   .exact .inl b
 | new o k d=>exactλw es e b=>d _ (f _) _ _ e b
 | shape r k d=>exactλw es e b=>d _ (f _) _ _ e b
 | freeze a n k d=>exactλw es e b=>d f _ _ e b
 | frozen a k d=>exactλw es e b=>d _ (f _) _ _ e b
 | getObj r k d=>exact f.elim
 | setObj r o k d=>exact f.elim
 | choose q k d=>
  intro w es e b;simp only[Sem.runT]at b;split at b<;>exact d _ (f _) _ _ e b
 | sys c k d=>exact f.elim
 | program k d=>exactλw es e b=>d P f _ _ e b
 | mark m k d=>
  intro w es e b;rcases d f _ _ e b with h|h
  .rcases Array.mem_push.1 h with h|rfl
   .exact .inl h
   .exact .inr λad h=>by cases h
  .exact .inr h
 | halt h=>exactλw es e b=>.inl b
def uT(t:Lk):cI P (underlying t):=by
 unfold underlying;refine eo (s:=program) db λp=>?_;split<;>exact db
def l9(t:Lk):cI P (typeInfo t):=by
 unfold typeInfo;refine eo (s:=program) db λp=>?_;split<;>exact db
def BI(t:Lk):cI P (sizeOf t):=eo (l9 t) λ_=>trivial
def wH(t:Lk):cI P (zeroValue t):=by
 unfold zeroValue;refine eo (l9 t) λi=>?_;split<;>exact db
def kI(a:Addr):∀(n i:Nat) (b:Array M),cI P (loadCellsFrom a i n b)
 | 0,_,_=>trivial
 | n+1,i,b=>eo (s:=load (a.add i)) ⟨rfl,λ_=>trivial⟩ λv=>kI a n (i+1) (b.push v)
def uU(size n:Nat)(v:M):cI P (Builtin.firstCells size n v):=by
 unfold Builtin.firstCells;split
 .exact kI _ _ _ _
 all_goals exact db
def nX(a:Addr):∀(vs:List M) (i:Nat),cI P (storeCells a vs i)
 | [],_=>trivial
 | v::rest,i=>eo (s:=store (a.add i) v) ⟨rfl,db⟩ λ_=>nX a rest (i+1)
def BJ(e:Lk)(cs:Array M):cI P (newRow e cs):=eo (s:=newObj _) (λ_=>trivial) λ_=>trivial
def zY(n:Nat):cI P (askRoom n):=by
 unfold askRoom;split<;>exact db
def vR(a:Addr)(n:Nat):cI P (Builtin.holdsCells a n):=by
 unfold Builtin.holdsCells;refine eo (s:=shape _) (λ_=>trivial) λx=>?_;split<;>exact db
def BK(q:Question):cI P (choose q):=λ_=>trivial
def AL{c:Prop}[Decidable c]{a b:Sem α}(d:cI P a)(e:cI P b):cI P (if c then a else b):=by
 split
 .exact d
 .exact e
def BM(a:Addr):cI P (frozen a):=λ_=>trivial
def yF(size a n:Nat)(base:Option Addr)(x:M):cI P (Builtin.mayShare size a n base x):=by
 unfold Builtin.mayShare;repeat' (first|assumption|exact db|(exact vR _ _)|(exact BM _)|apply eo|apply AL|intro _|dsimp only|split)
def Ek(v:M):cI P (asInt v):=by
 unfold asInt asIntOf;repeat' (first|assumption|exact db|apply eo|intro _|dsimp only|split)
def El(v:M):cI P (Builtin.lenOf v):=by
 unfold Builtin.lenOf;split<;>exact db
def OY(e:RuntimeError):cI P (runtimePanic e:Sem α):=by
 unfold runtimePanic;repeat' (first|assumption|exact db|apply eo|intro _|dsimp only|split)
def BN(ts:Array Lk)(ty:Lk)(xs:Array Ha):cI P (Builtin.append_ ts ty xs):=by
 unfold Builtin.append_
 repeat' (first|assumption|exact G6 _|(exact uT _)|(exact BI _)|(exact l9 _)|(exact wH _)|(exact uU _ _ _)|(exact nX _ _ _)|(exact BJ _ _)|(exact zY _)|(exact BK _)|(exact vR _ _)|(exact Ek _)|(exact El _)|(exact OY _)|(exact yF _ _ _ _ _)|apply eo|apply AL|intro _|dsimp only|split|exact db)
end Go.Co
namespace Go.Proofs.YtimmnfbjckbneaaGreatDoor
open Go.RowKit Go.Co Go.Conc
variable{size i n d:Nat}{v:M}{xs:List M}{P:Ps}{main:Bool}{Stop:(Nat->Prop)->(Nat->Prop)->QP->H->Prop}{V O:Nat->Prop}{w:H}{b:Kf}{k:List Item}{cs:List Kf}{ops:Array Kp}{rest:List Nat}{o:Kp}{f:Nat->M}
theorem dL{w bj:H}{B e size n:Nat}(h:w.ownsRow B e size v n xs)(hk:∀g,v.ownBlock=Y g->bj.heap[g]?=w.heap[g]?):bj.ownsRow B e size v n xs:=by
 obtain⟨a,h|⟨g,b,c,rfl,d,h2,f⟩⟩:=h
 .exact⟨a,.inl h⟩
 .exact⟨a,.inr ⟨g,b,c,rfl,d,(hk g rfl).tn h2,f⟩⟩
theorem WalkE.Jp{s x:ae}{t e:Lk}{inf:TypeInfo}{z:M}{size bytes:Nat}(a7:ops[i]?=Y o)(a8:o.op=.call {callee:=.builtin .append,args:= #[s,x],argTypes:= #[t,t]})
  (Z:P.underlying t=Y (.slice e))(hi:P.info? e=Y inf)(a1:inf.zero=Y z)(W:inf.size=size)(S:inf.bytes=bytes)(b2:z.cells.size=size)(b1:0<size){l:Nat}(a0:(fa n f).eval s=v)(a9:w.ownsRow 0 e size v l xs)(R:∀g,v.ownBlock=Y g->V g/\O g)
  {ad:Addr}{m c:Nat}{news:List M}(a:(fa n f).eval x=.slice (Y ad) m c)(U:news.length=m*size)(b3:V ad.block)(a6:∀j u,news[j]?=Y u->w.cell? (ad.add j)=Y u)(L:∀u∈news,u.oneCell'=true)
  (N:l+m<=maxLen)(T:(l+m)*bytes<=140737488355328)(c1:∀x,V x->x<w.heap.size)(a3:o.dst=Y d)(a2:d<n)(q:o.guard=I)(hk:b.kind≠.early)
  (next:∀v' w' V' O',(∀x,V x->V' x)->w'.ownsRow 0 e size v' (l+m) (xs++news)->(∀g,v'.ownBlock=Y g->V' g/\O' g/\(v.ownBlock=Y g\/w.heap.size<=g))->(∀x,V' x->V x\/(w.heap.size<=x/\x<w'.heap.size))->(∀x,V x->¬(v.ownBlock=Y x)->w'.heap[x]?=w.heap[x]?)->w'.tape=w.tape/\w'.os=w.os/\w'.output=w.output/\w.heap.size<=w'.heap.size->
   WalkE P main Stop V' O' (G (b.at (fa n (ah f d v')) (.inRegion ops rest::k)) cs) w'):WalkE P main Stop V O (G (b.at (fa n f) (.inRegion ops (i::rest)::k)) cs) w:=by
 refine WalkE.step rfl λbj r=>?_;have b7:=dL a9 λg q=>r.keep g (R g q).1;have b6:∀j u,news[j]?=Y u->bj.cell? (ad.add j)=Y u:=λj u c8=>bu r (by rw[addBlock];exact b3) (a6 j u c8);obtain⟨v',w',b8,h2,A, -, C⟩:=gU (P:=P) bj 0 t o.type e inf z size bytes Z hi a1 W S b2 b1 v l xs b7 ad m c news U b6 L N T (fi _);have c7:(Hn (fa n f).eval o).run P bj=.ok (.value v') w':=by
  have ø:=0;exact xaB
 have c2:(Hn (fa n f).eval o).events P bj #[]=(Builtin.append_ #[t,t] o.type #[v,.slice (Y ad) m c]).events P bj #[]:=events_append_op s x t a8 a0 a #[];have b9:=stepG_value (main:=main) (k:=k) (cs:=cs) (b:=b) (rest:=rest) a7 (bY q) hk c7;rw[a3,cw a2]at b9;have b4:∀x,x<bj.heap.size->¬(v.ownBlock=Y x)->w'.heap[x]?=bj.heap[x]?:=λx a a5=>A.block x a λe=>a5 e.symm;refine⟨_,w',_,(λx=>V x\/(bj.heap.size<=x/\x<w'.heap.size)),(λx=>O x\/(bj.heap.size<=x/\x<w'.heap.size)),b9,⟨_,_,rfl⟩,⟨A.tape,A.os,A.output,A.size,λx a b0=>b4 x a λe=>b0 (R x e).2,λx=>dq,λx=>dq,λJ c3=>?_⟩,?_⟩
 .have a4:=mem_listed c3;rw[c2]at a4;have c6:=G7 (BN (P:=P) #[t,t] o.type #[v,.slice (Y ad) m c]) bj #[] J a4;rcases events_append_where (P:=P) bj 0 t o.type e inf z size bytes Z hi a1 W S v l xs b7 ad m c news U b6 L N T J a4 with⟨a',e1,E⟩|⟨mk,rfl,c5⟩
  .have b':J.sync=false:=(c6.resolve_left ss) a' e1;obtain⟨c9,wr,c'⟩:=J;simp only at e1 b' E;subst e1 b';rcases E with⟨E,e3⟩|E
   .exact⟨rfl,by rw[e3];exact .inl b3,λh=>by rw[show wr=false from E]at h;cases h⟩
   .have:=R _ E.symm;exact⟨rfl,.inl this.1,λ_=>.inl this.2⟩
  .exact c5
 .refine next v' w' _ _ (λx a=>.inl a) h2 (λg q=>?_) (λx a=>a.imp id λh=>⟨ec r.size h.1,h.2⟩) (λx a a5=>?_) ⟨A.tape.tn r.tape,A.os.tn r.os,A.output.tn r.output,ec r.size A.size⟩
  .rcases C with C|C
   .have:=R g (C.symm.tn q);exact⟨.inl this.1,.inl this.2,.inl (C.symm.tn q)⟩
   .rw[C]at q;cases q;have b5:bj.heap.size<w'.heap.size:=by
     have:=(h2.lt bj.heap.size C).2;exact this
    exact⟨.inr ⟨dj _,b5⟩,.inr ⟨dj _,b5⟩,.inr r.size⟩
  .exact(b4 x (r.cX c1 x a) a5).tn (r.keep x a)
end Go.Proofs.YtimmnfbjckbneaaGreatDoor
namespace Go.Co
open Go.Proofs
def TJ(k:Nat->Nat->Kd)(r:Ly):gq:= {TA with kind:=λf i=>if KV.contains f then xO f i else k f i,rest:=r}
def Zk(k:Nat->Nat->Kd)(r:Ly):KV.all (λf=>dX (TJ k r) F f)=true:=by kernel_rfl
def Eo(k:Nat->Nat->Kd)(r:Ly)(f:ba)(h:(TJ k r).has f=true):dX (TJ k r) F f=true:=by
 have a:KV.contains f=true:=h;exact List.all_eq_true.1 (Zk k r) f (by simpa using a)
end Go.Co
