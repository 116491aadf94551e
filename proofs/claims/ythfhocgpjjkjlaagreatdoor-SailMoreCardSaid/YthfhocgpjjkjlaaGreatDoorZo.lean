import Derived.Test.YthfhocgpjjkjlaaGreatDoorZf
import Derived.Test.YthfhocgpjjkjlaaGreatDoorZn
import Derived.Conc.SmallLaws
import Derived.StillTailTactics
import Derived.BigQuiet
set_option maxRecDepth 100000
set_option maxHeartbeats 4000000
set_option linter.all false
noncomputable section
open Go renaming World->Cl,undef->D,World->H,execOp->Hn,Frame->Kf,Oper->Kp,TypeId->Lk,stepG->Lq,Code->Ly,Value->M,Calls->PH,Program->Ps,Goroutine->QP,heap_alloc_old->QR,heap_alloc_new->Sp,resolve->ab,Operand->ae,MemOp->al,FuncId->ba,bodyPost_ret->bd
open Go.Proofs.Tryz renaming prog->F
open Go.Lib renaming hid->Hm
open Option renaming none->I,some->Y
open Go.RowKit renaming Hid->PQ,Below->X
open Go.ConcN renaming upd_same->Sx
namespace Go.Proofs.YthfhocgpjjkjlaaGreatDoor
open Go.RowKit Go.Co
variable{w bj:H}{b m:Nat}{s:Sl}{T' T:P3}{V V':Nat->Prop}{e0:Lk}{l:pK}
def cM(T:P3)(V:Nat->Prop)(w:H)(s:Sl)(m:Nat):Prop:=∀a,s.A=Y a->a.spot=I/\V a.block/\oB w a.block/\(0<m->bV T V w a.block (a.off+m))
def By(h:oB w b)(hk:bj.heap[b]?=w.heap[b]?):oB bj b:=by unfold oB at h |-; rw[hk];exact h
def cM.mono{T:P3}{V V':Nat->Prop}(h:cM T V w s m)(b:∀x,V x->V' x)(hk:∀x,V x->bj.heap[x]?=w.heap[x]?):cM T V' bj s m:=λa c=>
 let⟨h1,h2,h3,h4⟩:=h a c
 ⟨h1,b _ h2,By h3 (hk _ h2),λd=>(h4 d).mono b hk⟩
structure cy(T:P3)(V:Nat->Prop)(w:H)(b:aC)(l:pK):Prop where
 at_:aI w b l
 C:cM T V w b.C l.C.length
 U:cM T V w b.U (l.U.length*2)
 E:cM T V w b.E (l.E.length*2)
 W:cM T V w b.W (l.W.length*3)
def aV{b i:Nat}{v:M}(hk:bj.heap[b]?=w.heap[b]?)(h:w (b,i)=Y v):bj (b,i)=Y v:=by
 unfold H.cell? at h |-; rw[hk];exact h
section
variable{b:aC}
def LJ{l:List Int}(h:eC w s l)(m:cM T V w s l.length)(hk:∀x,V x->bj.heap[x]?=w.heap[x]?):eC bj s l:=by
 obtain⟨e,h2,f,g⟩:=h;refine⟨e,h2,f,λd=>?_⟩;obtain⟨a,off,b,i,j⟩:=g d;have c:=(m _ b).2.1;have o:a<bj.heap.size:=by
  have:bj.heap[a]?=w.heap[a]?:=hk a c;rw[fi i]at this;exact(ec.1 this).1
 exact⟨a,off,b,o,λk n=>aV (hk a c) (j k n)⟩
def yl{l:List (Int×Int)}(h:Cf w s l)(n:cM T V w s (l.length*2))(hk:∀x,V x->bj.heap[x]?=w.heap[x]?):Cf bj s l:=by
 obtain⟨g,h2,i,j⟩:=h;refine⟨g,h2,i,λf=>?_⟩;obtain⟨a,off,c,m,d⟩:=j f;have b:=(n _ c).2.1;have o:a<bj.heap.size:=by
  have:bj.heap[a]?=w.heap[a]?:=hk a b;rw[fi m]at this;exact(ec.1 this).1
 exact⟨a,off,c,o,λk e=>⟨aV (hk a b) (d k e).1,aV (hk a b) (d k e).2⟩⟩
def ab4{l:List (Int×Int×Bool)}(h:fL w s l)(n:cM T V w s (l.length*3))(hk:∀x,V x->bj.heap[x]?=w.heap[x]?):fL bj s l:=by
 obtain⟨g,h2,i,j⟩:=h;refine⟨g,h2,i,λf=>?_⟩;obtain⟨a,off,e,m,c⟩:=j f;have b:=(n _ e).2.1;have o:a<bj.heap.size:=by
  have:bj.heap[a]?=w.heap[a]?:=hk a b;rw[fi m]at this;exact(ec.1 this).1
 exact⟨a,off,e,o,λk d=>⟨aV (hk a b) (c k d).1,aV (hk a b) (c k d).2.1,aV (hk a b) (c k d).2.2⟩⟩
def cy.mono(h:cy T V w b l)(a:∀x,V x->V' x)(hk:∀x,V x->bj.heap[x]?=w.heap[x]?):cy T V' bj b l:=
 ⟨⟨LJ h.at_.C h.C hk,yl h.at_.U h.U hk,yl h.at_.E h.E hk,ab4 h.at_.W h.W hk⟩,h.C.mono a hk,h.U.mono a hk,h.E.mono a hk,h.W.mono a hk⟩
def cy.gw(h:cy T V w b l)(p:Nat->Question->Nat)(d:Nat):aI (tp (gw T V e0 w) p d) b l:=by
 have o:(tp (Co.gw T V e0 w) p d).heap.size=w.heap.size:=dW;refine⟨?_,?_,?_,?_⟩
 .obtain⟨i,h2,j,m⟩:=h.at_.C;refine⟨i,h2,j,λg=>?_⟩;obtain⟨a,off,c,n,e⟩:=m g;have f:bV T V w a (off+l.C.length):=(h.C _ c).2.2.2 g;exact⟨a,off,c,by rw[o];exact n,λk hk=>(dO f zz).tn (e k hk)⟩
 .obtain⟨i,h2,j,m⟩:=h.at_.U;refine⟨i,h2,j,λg=>?_⟩;obtain⟨a,off,c,n,e⟩:=m g;have f:bV T V w a (off+l.U.length*2):=(h.U _ c).2.2.2 zz;exact⟨a,off,c,by rw[o];exact n,λk hk=>⟨(dO f zz).tn (e k hk).1,(dO f zz).tn (e k hk).2⟩⟩
 .obtain⟨i,h2,j,m⟩:=h.at_.E;refine⟨i,h2,j,λg=>?_⟩;obtain⟨a,off,c,n,e⟩:=m g;have f:bV T V w a (off+l.E.length*2):=(h.E _ c).2.2.2 zz;exact⟨a,off,c,by rw[o];exact n,λk hk=>⟨(dO f zz).tn (e k hk).1,(dO f zz).tn (e k hk).2⟩⟩
 .obtain⟨i,h2,j,m⟩:=h.at_.W;refine⟨i,h2,j,λg=>?_⟩;obtain⟨a,off,c,n,e⟩:=m g;have f:bV T V w a (off+l.W.length*3):=(h.W _ c).2.2.2 zz;exact⟨a,off,c,by rw[o];exact n,λk hk=>⟨(dO f zz).tn (e k hk).1,(dO f zz).tn (e k hk).2.1,(dO f zz).tn (e k hk).2.2⟩⟩
def cM.flat(h:cM T V w s m):Flat T' V w (.slice s.A s.n s.c):=by
 obtain⟨A,n,c⟩:=s
 cases A with
 | none=>exact .inl λ_=>.nilSlice n c
 | some a=>
  obtain⟨b,h2,d,-⟩:=h a rfl;exact .inr (.inl ⟨a,n,c,rfl,b,h2,.inl d⟩)
def wE(b:aC):Array M:= #[.int .i64 b.S,.int .i64 b.D,.int .i64 b.L,.int .i64 b.lo,.int .i64 b.hi,.slice b.C.A b.C.n b.C.c,.int .i64 b.rf,.int .i64 b.rh,.int .i64 b.cf,.int .i64 b.ch,.slice b.U.A b.U.n b.U.c,.slice b.E.A b.E.n b.E.c,.slice b.W.A b.W.n b.W.c]
def rj(h:cy T V w b l):∀v∈wE b,Flat T' V w v:=by
 intro v a;simp only[wE,hZ,dq,fp,or_false]at a;rcases a with rfl|rfl|rfl|rfl|rfl|rfl|rfl|rfl|rfl|rfl|rfl|rfl|rfl
 all_goals first|exact .inl (cR _ _)|exact h.C.flat|exact h.U.flat|exact h.E.flat|exact h.W.flat
def dD(h:cy T V w b l){hB:Base T V w e0}:VR (gr hB) b.v b.v:=
 .agg rfl λi x y a c=>by
  have e:Y x=Y y:=a.symm.tn c;cases e;exact jg (rj h x (kq a))
structure dJ(T:P3)(V:Nat->Prop)(w:H):Prop where
 at_:aD w
 flat:bV T V w 0 5
def dJ.mono(h:dJ T V w)(g:∀x,V x->V' x)(hk:∀x,V x->bj.heap[x]?=w.heap[x]?):dJ T V' bj:=by
 have a:=hk 0 h.flat.1;obtain⟨b,h2,c,d,e,f⟩:=h.at_;refine⟨⟨?_,aV a h2,aV a c,aV a d,aV a e,aV a f⟩,h.flat.mono g hk⟩;rw[fi b]at a;exact(ec.1 a).1
def dJ.gw(h:dJ T V w)(a:Nat->Question->Nat)(d:Nat):aD (tp (gw T V e0 w) a d):=by
 obtain⟨b,h2,c,e,g,j⟩:=h.at_;have f:∀i v,i<5->w (0,i)=Y v->(tp (Co.gw T V e0 w) a d).cell? (0,i)=Y v:=λi v hi k=>(dO h.flat hi).tn k;exact⟨by rw[show(tp (Co.gw T V e0 w) a d).heap.size=w.heap.size from dW];exact b,f _ _ zz h2,f _ _ zz c,f _ _ zz e,f _ _ zz g,f _ _ zz j⟩
end
end Go.Proofs.YthfhocgpjjkjlaaGreatDoor
namespace Go.Co
open Go.Conc
variable{P:Ps}{main:Bool}{Stop:(Nat->Prop)->(Nat->Prop)->QP->H->Prop}{T:P3}{w:H}
def cutAt:Nat->Ly->Ly
 | n+1,.seq a b=>.seq a (cutAt n b)
 | _,_=>.refuse "cut"
def RI:Nat->Ly->Ly
 | n+1,.seq _ b=>RI n b
 | _,c=>c
def XL(T:P3)(P:Ps)(c:Nat->Kd):Nat->Ly->Bool
 | n+1,.seq a b=>ez T P c a&&XL T P c n b
 | n,_=>n==0
def VA{κ:Nat->Kd}:∀{n:Nat} {c:Ly},XL T P κ n c=true->T.rest=RI n c->wC T P κ (cutAt n c) c
 | 0,c,_,d=>by
  have:c=T.rest:=by rw[d];cases c<;>rfl
  rw[this];have e:cutAt 0 T.rest=.refuse "cut" := by cases T.rest<;>rfl
  rw[e];exact .stop
 | n+1,c,h,d=>by
  cases c with
  | seq a b=>
   rw[XL,du]at h;exact .seqR h.1 (VA h.2 d)
  | _=>simp[XL]at h
def aal{N:Nat}{ρ0 ρ1:Ren}{W0 w0:H}{V0 V O O0:Nat->Prop}{f:ba}{c c':Ly}{tm0 tm:Array M}{k:List Item}{cs:List Kf}{Q1:Array M->H->Prop}
  (a4:∀f,T.has f=true->dX T P f=true)(hc:wC T P (T.kind f) c c')(a2:ir T P N V0 O0 w0 ρ0 ρ1 W0 w V O)(a0:KR (T.kind f) ρ1 tm0 tm)
  (b1:∀j,nA P c (λ_ _=>False) (λa W=>a.defers=[]/\Q1 a.tmps W) ⟨tm0,[]⟩ (tp W0 j W0.drawn))
  (a3:∀Z x b i bj p q,Q1 x b->KR (T.kind f) Z x i->ir T P N V0 O0 w0 ρ0 Z b bj p q->WalkE P main Stop p q (G ((bs .normal f).at ⟨i,[]⟩ (.code T.rest::k)) cs) bj):
  WalkE P main Stop V O (G ((bs .normal f).at ⟨tm,[]⟩ (.code c'::k)) cs) w:=by
 let Post:Kf->H->Prop:=λfr W=>∃a:Act,a.defers=[]/\fr=(bs .normal f).at a [.code (.refuse "cut")]/\Q1 a.tmps W
 let s:LS:=⟨(bs .normal f).at ⟨tm0,[]⟩ [.code c],[c0],W0⟩
 have u:oz P true Post s:=by
  intro j;obtain⟨a,b,⟨m,-⟩|⟨⟨l,o⟩,a5⟩⟩:=b1 j (bs .normal f) [c0]
  .exact m.elim
  .exact⟨j,λ_ _=>rfl,_,b,steps_iff.1 a5,⟨rfl,rfl,.inr rfl⟩,a,l,rfl,o⟩
 have d:Nh T P N k [] (cs,.normal) V0 O0 w0 ρ0 ρ1 s ((bs .normal f).at ⟨tm,[]⟩ (.code c'::k)) cs w V O:=
  ⟨a2,.bottom (co:=(cs,.normal)) ⟨rfl,a0,⟨[.code c'],rfl,.cons (.cut hc) .nil⟩,⟨[],rfl,.nil⟩,rfl,.inl rfl,⟨rfl,λe=>by cases e⟩,.none⟩ rfl rfl⟩
 refine(lift (Stop:=λV O g bj=>WalkE P main Stop V O g bj) a4 (λh=>by cases h) (λZ eI b da bj V O d b7 a'=>?_) (kN u) d u).bind λV O g w h=>h;obtain⟨a,l,rfl,o⟩:=a';obtain⟨k0,b6,m,a6,-⟩:=d.stk.top;obtain⟨a8,a7, -, b8,a9⟩:=a6 rfl;subst a8 a7;obtain⟨f',i,b5,y,b4,b3,v⟩:=da;obtain⟨J,h2,⟨t,K,L⟩,⟨t',R,S⟩,U, -, -, h9⟩:=m;have e1:f'=f:=J;have z:b3=.normal:=a9;have A:b4=.run:=U;have B:v=I:=by
  have a1:RD Z I v:=h9;cases a1;rfl
 have C:b5=.code T.rest::k0:=by
  have Q:L2 (xH T P f Z) [.code (.refuse "cut")] t:=L
  cases Q with
  | cons b2 hl=>
   cases hl
   cases b2 with
   | code n=>simp[ez]at n
   | cut n=>
    cases n with
    | stop=>exact K
    | deadzz h=>exact mi rfl h
 have E:y=[]:=by
  have r:L2 (FK Z) a.defers t':=S;rw[l]at r;cases r;exact R
 subst e1 z A B C E;exact a3 Z a.tmps b i bj V O o h2 d.m
end Go.Co
namespace Go.Proofs.YthfhocgpjjkjlaaGreatDoor
open Go.RowKit Go.Co Go.Conc
variable{V V' O:Nat->Prop}{w bj:H}{x:Nat×Nat×Nat}{m i j:Nat}{l d' d:List Int}{T T':P3}{v:M}{s' s:Sl}{e0:Lk}{ws:List (Nat×Nat×Nat)}{b b3:aC}{sh:Int}{Z:Ren}
def jz(s:Sl)(m:Nat):Nat×Nat×Nat:=match s.A with|some a=>(a.block,a.off,m)|none=>(0,0,0)
def MH(N:Nat)(s:Sl):Sl:=⟨s.A.map λ_=>(N,0),s.n,s.c⟩
def jb(V:Nat->Prop)(w:H)(s:Sl)(m:Nat):Prop:=∀a,s.A=Y a->a.spot=I/\sr V w (a.block,a.off,m)
end Go.Proofs.YthfhocgpjjkjlaaGreatDoor
open Go in
open Go.Proofs.YthfhocgpjjkjlaaGreatDoor in
open Go.RowKit Go.Co Go.Conc in
def Go.Co.sr.mono{V V':Nat->Prop}{w bj:Cl}{x:Nat×Nat×Nat}(h:sr V w x)(hV:∀x,V x->V' x)(hk:∀x,V x->bj.heap[x]?=w.heap[x]?):sr V' bj x:=
 ⟨hV _ h.1,let⟨c,e,z,h1,h2⟩:=h.2;⟨c,e,z,(hk _ h.1).tn h1,h2⟩⟩
namespace Go.Proofs.YthfhocgpjjkjlaaGreatDoor
open Go.RowKit Go.Co Go.Conc
variable{V V' O:Nat->Prop}{w bj:H}{x:Nat×Nat×Nat}{m i j:Nat}{l d' d:List Int}{T T':P3}{v:M}{s' s:Sl}{e0:Lk}{ws:List (Nat×Nat×Nat)}{b b3:aC}{sh:Int}{Z:Ren}
def jb.mono{s:Sl}(h:jb V w s m)(c:∀x,V x->V' x)(hk:∀x,V x->bj.heap[x]?=w.heap[x]?):jb V' bj s m:=λa b=>⟨(h a b).1,(h a b).2.mono c hk⟩
def qJ(hB:Base TA V w e0)(h:jb V w s m):sr V w (jz s m):=by
 unfold jz
 cases b:s.A with
 | some a=>exact(h a b).2
 | none=>exact⟨hB.v0,let⟨c,z,x⟩:=hB.cells;⟨c,e0,z,x,λj d=>mi d (Nat.not_lt_zero _)⟩⟩
def nZ(f:ws[j]?=Y x)(h:sr V w x)(hi:i<x.2.2)(k:Nat->Question->Nat)(b:Nat):(tp (wK TA V e0 w ws) k b).cell? (w.heap.size+j,i)=w (x.1,x.2.1+i):=by
 obtain⟨-, c,e,z,a,g⟩:=h;show(wK TA V e0 w ws).cell? _=_;unfold H.cell?;rw[IY f,IZ a,a];show(c.extract x.2.1 (x.2.1+x.2.2))[i]?=c[x.2.1+i]?;obtain⟨v,d,-⟩:=g i hi;have l:=(ec.1 d).1;rw[Array.getElem?_extract,qWB zz]
def qK(b:Nat->Question->Nat)(a:Nat):(tp (wK TA V e0 w ws) b a).heap.size=w.heap.size+ws.length:=qf
def EO(h:eC w s l)(i:jb V w s l.length)(c:ws[j]?=Y (jz s l.length))(e:Nat->Question->Nat)(d:Nat):eC (tp (wK TA V e0 w ws) e d) (MH (w.heap.size+j) s) l:=by
 have o:=(List.getElem?_eq_some_iff.1 c).1;refine⟨h.1,h.2.1,h.2.2.1,λf=>?_⟩;obtain⟨b,off,a,n,g⟩:=h.2.2.2 f;have m:jz s l.length=(b,off,l.length):=by unfold jz;rw[a]
 rw[m]at c;refine⟨w.heap.size+j,0,by unfold MH;rw[a];rfl,by rw[qK];omega,λk hk=>?_⟩;rw[kx];exact(nZ c (i _ a).2 hk e d).tn (g k hk)
def AV{l:List (Int×Int)}(h:Cf w s l)(g:jb V w s (l.length*2))(c:ws[j]?=Y (jz s (l.length*2)))(e:Nat->Question->Nat)(d:Nat):Cf (tp (wK TA V e0 w ws) e d) (MH (w.heap.size+j) s) l:=by
 have o:=(List.getElem?_eq_some_iff.1 c).1;refine⟨h.1,h.2.1,h.2.2.1,λi=>?_⟩;obtain⟨b,off,a,n,f⟩:=h.2.2.2 i;have m:jz s (l.length*2)=(b,off,l.length*2):=by unfold jz;rw[a]
 rw[m]at c;refine⟨w.heap.size+j,0,by unfold MH;rw[a];rfl,by rw[qK];omega,λk hk=>?_⟩;rw[kx];exact⟨(nZ c (g _ a).2 (by show k*2<l.length*2;omega) e d).tn (f k hk).1,(nZ c (g _ a).2 (by show k*2+1<l.length*2;omega) e d).tn (f k hk).2⟩
def PZ{l:List (Int×Int×Bool)}(h:fL w s l)(g:jb V w s (l.length*3))(c:ws[j]?=Y (jz s (l.length*3)))(e:Nat->Question->Nat)(d:Nat):fL (tp (wK TA V e0 w ws) e d) (MH (w.heap.size+j) s) l:=by
 have o:=(List.getElem?_eq_some_iff.1 c).1;refine⟨h.1,h.2.1,h.2.2.1,λi=>?_⟩;obtain⟨b,off,a,n,f⟩:=h.2.2.2 i;have m:jz s (l.length*3)=(b,off,l.length*3):=by unfold jz;rw[a]
 rw[m]at c;refine⟨w.heap.size+j,0,by unfold MH;rw[a];rfl,by rw[qK];omega,λk hk=>?_⟩;rw[kx];exact⟨(nZ c (g _ a).2 (by show k*3<l.length*3;omega) e d).tn (f k hk).1,(nZ c (g _ a).2 (by show k*3+1<l.length*3;omega) e d).tn (f k hk).2.1,(nZ c (g _ a).2 (by show k*3+2<l.length*3;omega) e d).tn (f k hk).2.2⟩
def yV{hB:Base T V w e0}(d:jb V w s m)(c:ws[j]?=Y (jz s m)):VR (Bj hB ws) (.slice (MH (w.heap.size+j) s).A s.n s.c) (.slice s.A s.n s.c):=by
 unfold MH
 cases b:s.A with
 | none=>exact .nilSlice _ _
 | some a=>
  have e:jz s m=(a.block,a.off,m):=by unfold jz;rw[b]
  rw[e]at c;exact .slice _ _ ⟨rfl,(d a b).1,a.off,I0 c,by simp,rfl⟩
def mh(h:dJ TA V w)(hB:Base TA V w e0)(b:Nat->Question->Nat)(a:Nat):aD (tp (wK TA V e0 w ws) b a):=by
 obtain⟨k,h2,c,d,e,g⟩:=h.gw b a;have j:=hB.shown.lt;have f:∀i:Nat,(tp (wK TA V e0 w ws) b a).cell? (0,i)=(tp (gw TA V e0 w) b a).cell? (0,i):=λi=>by
  show(wK TA V e0 w ws).cell? _=(gw TA V e0 w).cell? _;unfold H.cell?;rw[IX j]
 exact⟨by rw[qK];omega,(f _).tn h2,(f _).tn c,(f _).tn d,(f _).tn e,(f _).tn g⟩
structure uD(V:Nat->Prop)(w:H)(b:aC)(l:pK)(s:Sl)(d:List Int):Prop where
 at_:aI w b l
 dt:eC w s d
 C:jb V w b.C l.C.length
 U:jb V w b.U (l.U.length*2)
 E:jb V w b.E (l.E.length*2)
 W:jb V w b.W (l.W.length*3)
 D:jb V w s d.length
def mA(b:aC)(l:pK)(s:Sl)(d:List Int):List (Nat×Nat×Nat):=[jz b.C l.C.length,jz b.U (l.U.length*2),jz b.E (l.E.length*2),jz b.W (l.W.length*3),jz s d.length]
def bX(N:Nat)(b:aC):aC:= {b with C:=MH (N+0) b.C,U:=MH (N+1) b.U,E:=MH (N+2) b.E,W:=MH (N+3) b.W}
def sX(N:Nat)(s:Sl):Sl:=MH (N+4) s
def wY{a:Addr}(h:w.cell? a=Y v):a.block<w.heap.size:=by
 unfold H.cell? at h
 cases b:w.heap[a.block]? with
 | none=>rw[b]at h;simp at h
 | some o=>exact(ec.1 b).1
def jb.ints(i:jb V w s l.length)(h:eC w s l)(hk:∀x,V x->bj.heap[x]?=w.heap[x]?):eC bj s l:=by
 refine⟨h.1,h.2.1,h.2.2.1,λb=>?_⟩;obtain⟨a,off,c,j,f⟩:=h.2.2.2 b;have e:=(i _ c).2.1;have d:=λk g=>aV (hk a e) (f k g);exact⟨a,off,c,wY (d 0 b),d⟩
def jb.pairs{l:List (Int×Int)}(i:jb V w s m)(h:Cf w s l)(hk:∀x,V x->bj.heap[x]?=w.heap[x]?):Cf bj s l:=by
 refine⟨h.1,h.2.1,h.2.2.1,λb=>?_⟩;obtain⟨a,off,c,j,e⟩:=h.2.2.2 b;have d:=(i _ c).2.1;have f:∀k,k<l.length->_/\_:=λk g=>⟨aV (hk a d) (e k g).1,aV (hk a d) (e k g).2⟩;exact⟨a,off,c,wY (f 0 b).1,f⟩
def jb.abd{l:List (Int×Int×Bool)}(i:jb V w s m)(h:fL w s l)(hk:∀x,V x->bj.heap[x]?=w.heap[x]?):fL bj s l:=by
 refine⟨h.1,h.2.1,h.2.2.1,λe=>?_⟩;obtain⟨a,off,f,j,c⟩:=h.2.2.2 e;have b:=(i _ f).2.1;have g:∀k,k<l.length->_/\_/\_:=λk d=>⟨aV (hk a b) (c k d).1,aV (hk a b) (c k d).2.1,aV (hk a b) (c k d).2.2⟩;exact⟨a,off,f,wY (g 0 e).1,g⟩
section
variable{l:pK}
def uD.mono(h:uD V w b l s d)(a:∀x,V x->V' x)(hk:∀x,V x->bj.heap[x]?=w.heap[x]?):uD V' bj b l s d:=
 ⟨⟨h.C.ints h.at_.C hk,h.U.pairs h.at_.U hk,h.E.pairs h.at_.E hk,h.W.abd h.at_.W hk⟩,h.D.ints h.dt hk,h.C.mono a hk,h.U.mono a hk,h.E.mono a hk,h.W.mono a hk,h.D.mono a hk⟩
def uD.okD(h:uD V w b l s d)(hB:Base TA V w e0)(c:jb V w s' d'.length):∀x∈mA b l s' d',sr V w x:=by
 intro x a;simp only[mA,dq,fp,or_false]at a;rcases a with rfl|rfl|rfl|rfl|rfl
 .exact qJ hB h.C
 .exact qJ hB h.U
 .exact qJ hB h.E
 .exact qJ hB h.W
 .exact qJ hB c
def uD.ok(h:uD V w b l s d)(hB:Base TA V w e0):∀x∈mA b l s d,sr V w x:=h.okD hB h.D
def uD.book(h:uD V w b l s d)(c:Nat->Question->Nat)(a:Nat):aI (tp (wK TA V e0 w (mA b l s' d')) c a) (bX w b) l:=
 ⟨EO h.at_.C h.C rfl c a,AV h.at_.U h.U rfl c a,AV h.at_.E h.E rfl c a,PZ h.at_.W h.W rfl c a⟩
def uD.lone(h:uD V w b l s d)(c:Nat->Question->Nat)(a:Nat):aI (tp (wK TA V e0 w (mA b l s d)) c a) (bX w b) l/\eC (tp (wK TA V e0 w (mA b l s d)) c a) (sX w s) d:=
 ⟨h.book c a,EO h.dt h.D rfl c a⟩
def uD.RH(h:uD V w b l s d){hB:Base T V w e0}:VR (Bj hB (mA b l s' d')) (bX w b).v b.v:=by
 refine .agg rfl λi x y a c=>?_
 match i,a,c with
 | 0,a,c|1,a,c|2,a,c|3,a,c|4,a,c|6,a,c|7,a,c|8,a,c|9,a,c=>cases a;cases c;exact .int _ _
 | 5,a,c=>cases a;cases c;exact yV h.C rfl
 | 10,a,c=>cases a;cases c;exact yV h.U rfl
 | 11,a,c=>cases a;cases c;exact yV h.E rfl
 | 12,a,c=>cases a;cases c;exact yV h.W rfl
end
def acR{Z:Ren}{A:Option Addr}{n c:Nat}{v v':M}(h:VR Z (.slice A n c) v)(a:VR Z (.slice A n c) v'):v=v':=by
 cases h with
 | nilSlice=>cases a;rfl
 | @slice _ _ k _ _ m=>
  cases a with
  | @slice _ _ a2 _ _ h2=>
   obtain⟨-, b,s,d,f,-⟩:=m;obtain⟨-, g,z,i,j,-⟩:=h2;obtain⟨o,q,t⟩:=k;obtain⟨p,r,s2⟩:=a2;dsimp only at b g d f i j;have e:=d.symm.tn i;simp only[fg,Prod.mk.injEq]at e;obtain⟨e1,l⟩:=e;subst b g e1 l f j;rfl
section
variable{l:pK}
def Vz(f:VR Z b3.v b.v){x:M}(g:(wE b)[i]?=Y x):∃a,(wE b3)[i]?=Y a/\∀v',VR Z a v'->v'=x:=by
 obtain⟨a,d⟩:∃a,(wE b3)[i]?=Y a:=⟨_,fi (show i<(wE b3).size from(ec.1 g).1)⟩;refine⟨a,d,λv' h=>?_⟩;have e:VR Z a x:=by
  unfold aC.v at f
  cases f with
  | agg _ j=>exact j i a x d g
 have:(∃n,a=.int .i64 n)\/∃A n c,a=.slice A n c:=by
  match i,d with
  | 0,h|1,h|2,h|3,h|4,h|6,h|7,h|8,h|9,h=>exact .inl ⟨_,(km h).symm⟩
  | 5,h|10,h|11,h|12,h=>exact .inr ⟨_,_,_,(km h).symm⟩
 rcases this with⟨n,rfl⟩|⟨A,n,c,rfl⟩
 .exact(aG _ _ Z _ h).tn (aG _ _ Z _ e).symm
 .exact acR h e
def jb.flat(h:jb V w s m):Flat T' V w (.slice s.A s.n s.c):=by
 obtain⟨A,n,c⟩:=s
 cases A with
 | none=>exact .inl λ_=>.nilSlice n c
 | some a=>
  obtain⟨b,h2,x,e,z,d,-⟩:=h a rfl;exact .inr (.inl ⟨a,n,c,rfl,b,h2,.inl ⟨x,e,z,d⟩⟩)
def uD.flat(h:uD V w b l s d):∀v∈wE b,Flat T' V w v:=by
 intro v a;simp only[wE,hZ,dq,fp,or_false]at a;rcases a with rfl|rfl|rfl|rfl|rfl|rfl|rfl|rfl|rfl|rfl|rfl|rfl|rfl
 all_goals first|exact .inl (cR _ _)|exact h.C.flat|exact h.U.flat|exact h.E.flat|exact h.W.flat
def Tm(h:cM T V w s m)(k:∀a,s.A=Y a->∀j,j<m->∃v,w (a.block,a.off+j)=Y v/\jU v):jb V w s m:=λa f=>by
 obtain⟨g,h2,⟨c,e,z,d⟩,-⟩:=h a f;refine⟨g,h2,c,e,z,d,λj l=>?_⟩;obtain⟨v,b,i⟩:=k a f j l;refine⟨v,?_,i⟩;unfold H.cell? at b;dsimp only at b;rw[d]at b;exact b
def cy.win(h:cy T V w b l):uD V w b l iy []:=by
 refine⟨h.at_,⟨rfl,qT _,qT _,λn=>mi n (dj _)⟩,Tm h.C λa d j i=>?_,Tm h.U λa d j i=>?_,Tm h.E λa d j i=>?_,Tm h.W λa d j i=>?_,λa d=>by cases d⟩
 .obtain⟨k,off,c, -, f⟩:=h.at_.C.2.2.2 zz;rw[d]at c;cases c;exact⟨_,f j i,cR _ _⟩
 .obtain⟨k,off,c, -, f⟩:=h.at_.U.2.2.2 zz;rw[d]at c;cases c;obtain⟨c0,g⟩:=f (j/2) zz;rcases Nat.mod_two_eq_zero_or_one j with e|e
  .exact⟨_,by rw[show off+j=off+j/2*2 by omega];exact c0,cR _ _⟩
  .exact⟨_,by rw[show off+j=off+(j/2*2+1) by omega];exact g,cR _ _⟩
 .obtain⟨k,off,c, -, f⟩:=h.at_.E.2.2.2 zz;rw[d]at c;cases c;obtain⟨c0,g⟩:=f (j/2) zz;rcases Nat.mod_two_eq_zero_or_one j with e|e
  .exact⟨_,by rw[show off+j=off+j/2*2 by omega];exact c0,cR _ _⟩
  .exact⟨_,by rw[show off+j=off+(j/2*2+1) by omega];exact g,cR _ _⟩
 .obtain⟨k,off,c, -, f⟩:=h.at_.W.2.2.2 zz;rw[d]at c;cases c;obtain⟨c0,g,m⟩:=f (j/3) zz;rcases(show j%3=0\/j%3=1\/j%3=2 by omega)with e|e|e
  .exact⟨_,by rw[show off+j=off+j/3*3 by omega];exact c0,cR _ _⟩
  .exact⟨_,by rw[show off+j=off+(j/3*3+1) by omega];exact g,cR _ _⟩
  .exact⟨_,by rw[show off+j=off+(j/3*3+2) by omega];exact m,sN _⟩
end
def bF:Ly:=match Tryz.f68.body with|some (.seq _ x)=>x|_=>.skip
def iN:Ly:=match bF with|.seq _ (.seq _ (.seq _ (.seq _ (.seq _ (.cond _ x _)))))=>x|_=>.skip
def bD:Ly:=match bF with|.seq a (.seq b (.seq c (.seq d (.seq e (.cond f _ y)))))=>.seq a (.seq b (.seq c (.seq d (.seq e (.cond f (.refuse "cut") y)))))|_=>.skip
def GI{T:Go.Co.P3}(o:T.rest=iN)(g:Nat->Go.Co.Kd)
  (h:∀a b c d e f y,bD=.seq a (.seq b (.seq c (.seq d (.seq e (.cond f (.refuse "cut") y)))))->Go.Co.ez T F g a=true/\Go.Co.ez T F g b=true/\Go.Co.ez T F g c=true/\Go.Co.ez T F g d=true/\Go.Co.ez T F g e=true/\Go.Co.Nj T g .val f=true/\Go.Co.ez T F g y=true):
  Go.Co.wC T F g bD bF:=by
 obtain⟨i,h2,j,k,l,m,n⟩:=h _ _ _ _ _ _ _ rfl;have p:Go.Co.wC T F g (.refuse "cut") iN:=by rw[<- o];exact .stop
 exact .seqR i (.seqR h2 (.seqR j (.seqR k (.seqR l (.condL m n p)))))
def bg:Ly:=match Tryz.f21.body with|some (.seq _ (.seq _ (.seq _ r)))=>r|_=>.skip
def wQ:Ly:=match Tryz.f21.body with|some c=>c|_=>.skip
def Bz:Ly:=match Tryz.f21.body with|some (.seq a (.seq b (.seq c _)))=>.seq a (.seq b (.seq c (.refuse "cut")))|_=>.skip
def GJ:Go.Co.wC (Go.Co.TR bg) F (Go.Co.xO 21) Bz wQ:=by
 have a:Go.Co.wC (Go.Co.TR bg) F (Go.Co.xO 21) (.refuse "cut") bg:=.stop;exact .seqR kr (.seqR kr (.seqR kr a))
def kept(i:Nat):M:=if i<5 then .int .i64 0 else D
def Jg(b:aC)(e:List (Int×(Nat->Bool)))(LL:List gM)(W:H)(a:Act)(d:H):Prop:=
 a.defers=[]/\a.tmps.size=48/\∃A c r gk,a.tmps[1]?=Y (.pointer (Y (W.heap.size,0)))/\a.tmps[5]?=Y (.pointer (Y (gk,0)))/\aK d W.heap.size 31 b/\
  d.heap[gk]?=Y (.cells (iG b ⟨A,e.length,c⟩ (Y r)) 99 (0,0))/\W.heap.size<gk/\W.heap.size<=r/\
  d.ownsRow W.heap.size 82 13 (.slice A e.length c) e.length (Gf e)/\jm d r LL/\X W W d/\∀i,(2<=i/\i<5)\/i=9\/(38<=i/\i<48)->a.tmps[i]?=Y (kept i)
theorem Oy(b:aC)(l:pK)(W:H)(hl:aI W b l)(g:aD W)(h:cP b l true=0):
  Go.Co.nA F Bz (λ_ _=>False) (Jg b (aJ b l b.D.toNat) (fN b l) W) ⟨#[b.v,D,D,D,D,D,D,D,D,D,D,D,D,D,D,D,D,D,D,D,D,D,D,D,D,D,D,D,D,D,D,D,D,D,D,D,D,D,D,D,D,D,D,D,D,D,D,D],[]⟩ W:=by
 have j:=λa (m:aI a b l) (h2:aD a)=>qp b l 45 #[] lT true a m h2 (λ_=>gW b a) h;have d:=j (W.alloc (aE b 31)) (aq hl (aE b 31)) (ai g (aE b 31));clear j hl g h;unfold jo at d;generalize aJ b l b.D.toNat=s at d|-;generalize fN b l=LL at d|-;unfold aE uC aC.v at d;unfold Bz Tryz.f21;dsimp only;unfold aC.v;refine Go.Co.mG ?_;go_wp2;refine Go.Co.mG ?_;go_wp2_with (go_at_call 44;refine d.mono ?_;clear d;rintro e a ⟨A,c,r,rfl,o,k,p,f⟩);refine Go.Co.mG ?_;go_wp2;have q:=f.size;simp only[aa]at q p;have n:r<a.heap.size:=(ec.1 k).1;refine Go.Co.Dc ⟨rfl,rfl,A,c,r,a.heap.size,rfl,rfl,?_,Sp _ _,zz,zz,?_,?_,?_,λi hi=>?_⟩
 .exact(QR _ _ zz).tn ((f.block _ ss).tn (Sp _ _))
 .exact dy (by rw[aa];omega) (H.ownsRow.alloc o _)
 .exact(QR _ _ n).tn k
 .exact aP (aY f) (qN _) _
 .have:i=2\/i=3\/i=4\/i=9\/i=38\/i=39\/i=40\/i=41\/i=42\/i=43\/i=44\/i=45\/i=46\/i=47:=zz;rcases this with rfl|rfl|rfl|rfl|rfl|rfl|rfl|rfl|rfl|rfl|rfl|rfl|rfl|rfl<;>rfl
end Go.Proofs.YthfhocgpjjkjlaaGreatDoor
namespace Go.Co
open Go.Conc
variable{P:Ps}{w:H}{Z:Ren}{p:Kd}
def Oz{c:Ly}{Q0 Q1 Q0' Q1':Act->H->Prop}{a:Act}(h:nA P c Q0 Q1 a w)(e:∀a w,Q0 a w->Q0' a w)(f:∀a w,Q1 a w->Q1' a w):nA P c Q0' Q1' a w:=λb cs=>by
 obtain⟨d,w',h⟩:=h b cs;exact⟨d,w',h.imp (λx=>⟨e _ _ x.1,x.2⟩) λx=>⟨f _ _ x.1,x.2⟩⟩
def qw:dM Z p D D:=.tuple rfl λi x y h=>by simp at h
def sV{y:M}(h:dM Z p D y)(c:p≠.junk):y=D:=by
 generalize a:D=u at h
 cases h with
 | junk=>exact mi rfl c
 | tuple s d=>
  have b:M.tuple #[]=.tuple _:=a;simp only[M.tuple.injEq]at b;subst b;have:_=(#[]:Array M):=Array.eq_empty_of_size_eq_zero s.symm;rw[this]
 | _=>cases a
def KR.at_{κ:Nat->Kd}{xs ys:Array M}(h:KR κ Z xs ys){i:Nat}{x:M}(a:xs[i]?=Y x):dM Z (κ i) x (ys.getD i D):=by
 have c:i<ys.size:=by rw[<- h.1];exact(ec.1 a).1
 have b:=fi c;rw[Array.getD_eq_getD_getElem?,b];exact h.2 i x _ a b
def ir.ptr{T:P3}{N:Nat}{V0 O0:Nat->Prop}{w0 w:H}{ρ0 Z:Ren}{W:H}{V O:Nat->Prop}(f:ir T P N V0 O0 w0 ρ0 Z W w V O){g:Nat}{v':M}(k:N<=g)(h:dM Z .addr (.pointer (Y (g,0))) v'):∃g',v'=.pointer (Y (g',0))/\Z g=Y (g',0)/\Z.cls g=false:=by
 cases h with
 | @ptr _ d i=>
  obtain⟨-, c,s,a,b,j⟩:=i;have l:=(f.mem.sep g _ s k a).1;subst l;obtain⟨e,off,m⟩:=d;simp only at c b a;subst c b;exact⟨e,rfl,a,j⟩
end Go.Co
namespace Go.Proofs.YthfhocgpjjkjlaaGreatDoor
open Go.RowKit Go.Co Go.Conc
variable{Z:Ren}{v' v:M}{T:P3}{V:Nat->Prop}{w:H}{g n:Nat}{b:aC}{e0:Lk}{l:pK}
def jJ{hB:Base T V w e0}(hle:(gr hB).le Z){s:Sl}{m:Nat}(h:cM T V w s m)(r:VR Z (.slice s.A s.n s.c) v'):v'=.slice s.A s.n s.c:=by
 obtain⟨_|a,n,c⟩:=s
 .cases r;rfl
 .cases r with
 | @slice _ _ f _ _ j=>
  obtain⟨d,h2,i,-⟩:=h a rfl;obtain⟨-, e,s,k,b,-⟩:=j;have:=hle.at_ _ _ (mH (hB:=hB) ⟨h2,.inl i⟩);rw[k]at this;simp only[fg,Prod.mk.injEq]at this;obtain⟨l,off,q⟩:=a;obtain⟨o,p,t⟩:=f;simp only at e b d this;obtain⟨e1,g⟩:=this;subst e d e1 g;simp only[Nat.add_zero]at b;subst b;rfl
def ym{hB:Base T V w e0}(hle:(gr hB).le Z){p:Nat}(f:Shown T V w p)(r:dM Z .addr (.pointer (Y (p,0))) v'):v'=.pointer (Y (p,0)):=by
 cases r with
 | @ptr _ c e=>
  obtain⟨-, b,s,g,a,-⟩:=e;have:=hle.at_ _ _ (mH (hB:=hB) f);rw[g]at this;simp only[fg,Prod.mk.injEq]at this;obtain⟨h,i,j⟩:=c;simp only at b a this;obtain⟨e1,d⟩:=this;subst b e1 d;simp only[Nat.add_zero]at a;subst a;rfl
end Go.Proofs.YthfhocgpjjkjlaaGreatDoor
open Go in
open Go.Proofs.YthfhocgpjjkjlaaGreatDoor in
open Go.RowKit Go.Co Go.Conc in
def Go.Co.bV.isCells{T:P3}{V:Nat->Prop}{w:Cl}{g k:Nat}(h:bV T V w g k):oB w g:=let⟨_,c,e,z,x,_⟩:=h;⟨c,e,z,x⟩
namespace Go.Proofs.YthfhocgpjjkjlaaGreatDoor
open Go.RowKit Go.Co Go.Conc
variable{Z:Ren}{v' v:M}{T:P3}{V:Nat->Prop}{w:H}{g n:Nat}{b:aC}{e0:Lk}{l:pK}
def jQ{g i:Nat}(b:V g)(h:w (g,i)=Y v):Shown T V w g:=⟨b,.inl (by
 unfold H.cell? at h;dsimp only at h
 cases a:w.heap[g]? with
 | none=>rw[a]at h;cases h
 | some o=>
  rw[a]at h
  cases o with
  | cells c e z=>exact⟨c,e,z,a⟩
  | _=>cases h)⟩
structure oT(V:Nat->Prop)(w:H)(b:aC)(n:Nat)(LL:List gM)(g gk:Nat):Prop where
 book:bV TB V w g 13
 bookC:∀i x,(wE b)[i]?=Y x->w.cell? ⟨g,i,I⟩=Y x
 kn:bV TB V w gk 15
 all:∃A c,w.cell? ⟨gk,13,I⟩=Y (.slice A n c)
 lit:∃r,w.cell? ⟨gk,14,I⟩=Y (.map (Y r))/\jm w r LL/\Shown TB V w r
def oT.mono{V V':Nat->Prop}{w bj:H}{LL:List gM}{g gk:Nat}(h:oT V w b n LL g gk)(a:∀x,V x->V' x)(hk:∀x,V x->bj.heap[x]?=w.heap[x]?):oT V' bj b n LL g gk:=
 ⟨h.book.mono a hk,λi x d=>aV (hk g h.book.1) (h.bookC i x d),h.kn.mono a hk,let⟨A,c,x⟩:=h.all;⟨A,c,aV (hk gk h.kn.1) x⟩,
  let⟨r,x1,x2,x3⟩:=h.lit;⟨r,aV (hk gk h.kn.1) x1,(hk r x3.1).tn x2,x3.mono a hk⟩⟩
def GK(p:Int×Int):eR (gG p):=qV λx a=>by
 simp only[hZ,dq,fp,or_false]at a;rcases a with rfl|rfl<;>exact aG _ _
def GL(p:Int×Int):jU (gG p):=KU λx a=>by
 simp only[hZ,dq,fp,or_false]at a;rcases a with rfl|rfl<;>exact cR _ _
def D2{L:List gM}{x:MapEntry}(h:x∈(jl L).toArray):∃p n i,x= {key:=gG p,val:=.int .i64 n,born:=i}:=by
 simp only[hZ,jl,List.mem_mapIdx]at h;obtain⟨i,hi,rfl⟩:=h;exact⟨_,_,_,rfl⟩
def LM(L:List (Int×(Nat->Bool))):∀x∈Gf L,eR x/\jU x:=by
 intro x b;simp only[Gf,List.mem_flatMap]at b;obtain⟨a, -, b⟩:=b;simp only[zC]at b;simp only[dq,fp,or_false]at b;rcases b with rfl|rfl|rfl|rfl|rfl|rfl|rfl|rfl|rfl|rfl|rfl|rfl|rfl
 all_goals first|exact⟨aG _ _,cR _ _⟩|exact⟨dQ _,sN _⟩
def Y8(v:M): #[v]++Array.replicate 47 D= #[v,D,D,D,D,D,D,D,D,D,D,D,D,D,D,D,D,D,D,D,D,D,D,D,D,D,D,D,D,D,D,D,D,D,D,D,D,D,D,D,D,D,D,D,D,D,D,D]:=by
 simp only[Array.replicate_succ,Array.replicate_zero,List.push_toArray,List.append_toArray,List.nil_append,List.cons_append]
def SH(v:M):Kf.enter F 21 #[v] .normal=(bs .normal 21).at ⟨#[v]++Array.replicate 47 D,[]⟩ [.code wQ]:=by
 have a:Tryz.f21.body=Y wQ:=rfl;rw[Conc.enter_at (c:=wQ) #[v] Tryz.func21 a,Tryz.ntmps21];rfl
def VB{κ:Nat->Kd}(h:dM Z (κ 0) v v'):KR κ Z (#[v]++Array.replicate n D) (#[v']++Array.replicate n D):=by
 refine⟨by simp,λi x y a b=>?_⟩;rw[Array.getElem?_append]at a b;by_cases hi:i<1
 .obtain rfl:i=0:=zz;simp at a b;subst a b;exact h
 .rw[qVB (by simpa using hi),Array.getElem?_replicate]at a b;split at a
  .rename_i c;cases a;rw[qWB (by simpa using c)]at b;cases b;exact qw
  .cases a
def GM{Stop:(Nat->Prop)->(Nat->Prop)->QP->H->Prop}{V O:Nat->Prop}{e0:Lk}{l:pK}{cs:List Kf}(hB:Base TA V w e0)(c3:∀x,V x->x<w.heap.size)
  (z:uD V w b l iy [])(b':dJ TA V w)(h:cP b l true=0)
  (b0:∀f bj q t g gk,f 1=.pointer (Y ⟨g,0,I⟩)->f 5=.pointer (Y ⟨gk,0,I⟩)->(∀i,(2<=i/\i<5)\/i=9\/(38<=i/\i<48)->f i=kept i)->oT q bj b (aJ b l b.D.toNat).length (fN b l) g gk->
   (∀x,q x↔V x\/(q x/\t x/\w.heap.size<=x))->(∀x,t x↔O x\/(q x/\t x/\w.heap.size<=x))->aH V w bj->(∀x,q x->x<bj.heap.size)->
   WalkE F true Stop q t (G ((bs .normal 21).at ⟨(Array.range 48).map f,[]⟩ [.code bg]) cs) bj):
  WalkE F true Stop V O (G (Kf.enter F 21 #[b.v] .normal) cs) w:=by
 rw[SH];have a5:Base (TR bg) V w e0:=⟨hB.v0,hB.cells,hB.glob⟩;have a6:=Sc (T:=TR bg) (P:=F) (hB:=a5) (O:=O) (z.ok hB) c3;have m:=z.RH (hB:=a5) (s':=iy) (d':=[]);have hl:=λs b4=>z.book (e0:=e0) (s':=iy) (d':=[]) s b4;generalize mA b l iy []=b3 at a6 m hl;refine aal (T:=TR bg) (Q1:=λtm W'=>∃s,Jg (bX w.heap.size b) (aJ b l b.D.toNat) (fN b l) (tp (wK TA V e0 w b3) s w.drawn) ⟨tm,[]⟩ W') (I1 _) GJ a6 (VB m) (λs=>?_) (λZ e8 W1 d8 bj q t c' C d=>?_)
 .rw[Y8];exact Oz (Oy (bX w.heap.size b) l _ (hl s w.drawn) (mh b' hB s w.drawn) h) (λ_ _ h=>h.elim) λa W' S=>⟨S.1,s,by obtain⟨tm,df⟩:=a;obtain rfl:df=[]:=S.1;exact S⟩
 .obtain⟨s, -, d5,A,c,r,gk,o,y,a8,c8,c4,d1,a0,c9,e6,d6⟩:=c';rw[qK]at o a8 c4 d1 a0;obtain⟨f,b5,Q⟩:=qd (A:=d8) (n:=48) (by rw[<- C.1];exact d5);have k1:dM Z .addr (.pointer (Y ⟨w.heap.size+b3.length,0,I⟩)) (f 1):=by rw[Q];exact C.at_ o
  have k5:dM Z .addr (.pointer (Y ⟨gk,0,I⟩)) (f 5):=by rw[Q];exact C.at_ y
  obtain⟨g',e1,r1,c1⟩:=d.ptr (qN _) k1;obtain⟨b8,e5,r5,c5⟩:=d.ptr zz k5;have c2:∀x,V x->q x:=λx k=>(d.hV x).2 (.inl k);have a7:=z.mono c2 d.keep;obtain⟨cb,d9,a9,c6⟩:=d.block (e:=31) (c:=wE (bX w.heap.size b)) a8 r1 c1;obtain⟨u,d0,N,R⟩:=d.block c8 r5 c5;have m:=m.mono d.le;have same:∀(i:Nat) x,(wE b)[i]?=Y x->cb[i]?=Y x:=λi x k=>by
   obtain⟨J,L,W⟩:=Vz m k;obtain⟨v',o,h2⟩:=c6 i J L;rw[<- W _ h2];exact o
  have d7:∀(i:Nat) x,(wE b)[i]?=Y x->u[i]?=Y x:=λi x k=>by
   obtain⟨J,L,W⟩:=Vz m k;have e7:i<13:=(ec.1 k).1;have h4:(iG (bX w.heap.size b) ⟨A,(aJ b l b.D.toNat).length,c⟩ (Y r))[i]?=Y J:=by
    revert L;have:i=0\/i=1\/i=2\/i=3\/i=4\/i=5\/i=6\/i=7\/i=8\/i=9\/i=10\/i=11\/i=12:=zz;rcases this with rfl|rfl|rfl|rfl|rfl|rfl|rfl|rfl|rfl|rfl|rfl|rfl|rfl<;>exact id
   obtain⟨v',o,h2⟩:=R i J h4;rw[<- W _ h2];exact o
  obtain⟨e9,a4,b9⟩:=R 13 (.slice A (aJ b l b.D.toNat).length c) rfl;obtain⟨vr,U,d2⟩:=R 14 (.map (Y r)) rfl;obtain⟨d3,d4⟩:=d.row a0 (qN _) b9 (LM _);obtain⟨A',rfl⟩:=d4 _ _ _ rfl;have b7:Flat TB q bj (.slice A' (aJ b l b.D.toNat).length c):=by
   obtain⟨-, ⟨o,-⟩|⟨e4,e3,o, -, -, h2,-⟩⟩:=d3
   .rw[o];exact .inl λ_=>.nilSlice 0 0
   .exact .inr (.inl ⟨_,_,_,o,rfl,h2.1,.inl h2.isCells⟩)
  cases d2 with
  | @map _ _ E b2=>
   have a':jm bj E (fN b l):=d.map c9 b2 λx k=>by
    obtain⟨p,n,i,rfl⟩:=D2 k;exact⟨GK p,aG _ _⟩
   have b1:Shown TB q bj E:=⟨d.see _ _ _ b2,.inr ⟨rfl,_,_,a',λx k=>by
    obtain⟨p,n,i,rfl⟩:=D2 k;exact⟨GL p,cR _ _⟩⟩⟩
   have K:∀{a3 i:Nat} {a2:Array M} {b6:Lk} {e2:Nat×Nat} {x:M},bj.heap[a3]?=Y (.cells a2 b6 e2)->a2[i]?=Y x->bj.cell? ⟨a3,i,I⟩=Y x:=λo h2=>by
    unfold H.cell?;dsimp only;rw[o];exact h2
   have a1:∀j,j<13->∃x,(wE b)[j]?=Y x:=λj B=>⟨_,fi (show j<(wE b).size from B)⟩;refine b5▸b0 f bj q t g' b8 e1 e5 (λi hi=>(by
    have hk:=C.at_ (d6 i hi);rw[<- Q]at hk;by_cases y:i<5
    .have e:kept i=.int .i64 0:=qWB y;rw[e]at hk|-;have m:dM Z .val (.int .i64 0) (f i):=by
      have:i=2\/i=3\/i=4:=zz;rcases this with rfl|rfl|rfl<;>exact hk
     exact aG _ _ _ _ m
    .have e:kept i=D:=qVB y;rw[e]at hk|-;exact sV hk (by have:i=9\/i=38\/i=39\/i=40\/i=41\/i=42\/i=43\/i=44\/i=45\/i=46\/i=47:=zz;rcases this with rfl|rfl|rfl|rfl|rfl|rfl|rfl|rfl|rfl|rfl|rfl<;>exactλh=>by cases h))) ⟨⟨d.see _ _ _ r1,cb,31,d9,a9,?_,λj v B m=>?_⟩,λi x k=>K a9 (same i x k),⟨d.see _ _ _ r5,u,99,d0,N,(ec.1 U).1,λj v B m=>?_⟩,⟨A',c,K N a4⟩,⟨E,K N U,a',b1⟩⟩ d.hV d.hO ⟨d.tape,d.os,d.output,d.size,d.keep⟩ d.vb
   .obtain⟨x,k⟩:=a1 12 zz;exact(ec.1 (same 12 x k)).1
   .obtain⟨x,k⟩:=a1 j B;rw[same j x k]at m;exact km m▸a7.flat x (kq k)
   .by_cases c7:j<13
    .obtain⟨x,k⟩:=a1 j c7;rw[d7 j x k]at m;exact km m▸a7.flat x (kq k)
    .have:j=13\/j=14:=zz;rcases this with rfl|rfl
     .rw[show u[13]?=Y _ from a4]at m;cases m;exact b7
     .rw[show u[14]?=Y _ from U]at m;cases m;exact .inr (.inr (.inl ⟨E,rfl,b1⟩))
def BA:Ly:=match Tryz.f55.body with|some (.seq _ (.seq x _))=>x|_=>.skip
def iZ(LL:List gM)(n:Nat)(h:Int)(S:Nat):Nat:=((List.range S).filter λk:Nat=>assoc LL (h,(k:Int))==(n:Int)).length
def GN(LL:List gM)(n:Nat)(h:Int)(k:Nat):iZ LL n h (k+1)=if assoc LL (h,(k:Int))=n then iZ LL n h k+1 else iZ LL n h k:=by
 unfold iZ;rw[List.range_succ,qBB,kl];by_cases a:assoc LL (h,(k:Int))=n<;>simp[List.filter_cons,a]
def OB(LL:List gM)(n:Nat)(h:Int)(k:Nat):iZ LL n h k<=k:=by
 unfold iZ;exact qO (nn _ _) ss
theorem D3(S:Nat)(s:Sl)(LL:List gM)(h:Int)(g gk b gc r:Nat)(J:S<=1000)(a2:s.n<=100000)(W:H)(x:g<W)(z:gk<W)(y:b<W)
  (c0:W (g,0)=Y (.int .i64 S))(o:W (gk,13)=Y (.slice s.A s.n s.c))(t:W (gk,14)=Y (.map (Y r)))(ch:W (b,0)=Y (.int .i64 h))(u:jm W r LL):
  Ly.wp F BA (λe a V=>e=.normal/\a.defers=[]/\(a.tmps[3]?=Y (.pointer (Y (gc,0)))/\a.tmps[2]?=Y (.pointer (Y (b,0)))/\a.tmps[4]?=Y (.int .i64 (iZ LL s.n h S))/\a.tmps.size=28))
   ⟨#[.pointer (Y (g,0)),.pointer (Y (gk,0)),.pointer (Y (b,0)),.pointer (Y (gc,0)),.int .i64 0,D,D,D,D,D,D,D,D,D,D,D,D,D,D,D,D,D,D,D,D,D,D,D],[]⟩ W:=by
 have R:=Hm c0;have B:=Hm o;have C:=Hm t;have G:=Hm ch;have n:=Hm u;have T:=Hm x;have m:=Hm z;have E:=Hm y;have U:=Hm J;clear o t ch u x z y;unfold BA Tryz.f55;dsimp only;go_wp2;go_loopw [4,8] (λP Q wr=>∃k:Nat,k<=S/\Q=.int .i64 k/\P=.int .i64 (iZ LL s.n h k)/\X W.heap.size W wr) (λ_ v _=>S-(intOf v).toNat)
 case atStart=>exact⟨0,zz,rfl,rfl,X.refl _ _⟩
 case round=>
  obtain⟨k,hk,rfl,rfl,c⟩:=hrel;have Z:=OB LL s.n h k;have A:=GN LL s.n h k;by_cases a1:k<S
  .obtain⟨j,i⟩:∃j,wr.drew=j:=⟨_,rfl⟩;have w:X W W j:=by rw[<- i];exact X.drew c
   have a3:wr.drew (gk,13)=Y (.slice s.A s.n s.c):=(c.cell (p:=⟨gk,13,I⟩) m.out).tn B.out;have a4:wr.drew (gk,14)=Y (.map (Y r)):=(c.cell (p:=⟨gk,14,I⟩) m.out).tn C.out;have a5:wr.drew (b,0)=Y (.int .i64 h):=(c.cell (p:=⟨b,0,I⟩) E.out).tn G.out;have O:r<W.heap.size:=(ec.1 n.out).1;have N:(Instr.lookup 97 (.map (Y r)) (.agg #[.int .i64 h,.int .i64 k]) false).run F wr.drew=.ok (.int .i64 (assoc LL (h,k))) wr.drew:=gd (L:=LL) ((w.block _ O).tn n.out|>λq=>by rw[i];exact q) (h,k);have l:=Hm c;have f:=Hm A;clear i w c A;generalize assoc LL (h,(k:Int))=a at N f;by_cases d:a=(s.n:Int)
   .have K:(a==(s.n:Int))=true:=by simpa using d
    go_wp2_with (first|go_region|go_quiet (fail));refine⟨⟨k+1,zz,by go_num,?_,X.drew l.out⟩,by simp[intOf];omega⟩;rw[f.out,qWB d];go_num
   .have K:(a==(s.n:Int))=false:=by simpa using d
    go_wp2_with (first|go_region|go_quiet (fail));refine⟨⟨k+1,zz,by go_num,?_,X.drew l.out⟩,by simp[intOf];omega⟩;rw[f.out,qVB d]
  .obtain rfl:k=S:=zz;go_wp2
def GV:Ly:=match Tryz.f55.body with|some c=>c|_=>.skip
def tc:Ly:=match Tryz.f55.body with|some (.seq _ (.seq _ r))=>r|_=>.skip
def fP:Kf:= { (default:Kf)with fn:=F.funcs.size,defers:=[],mode:=.panicking [goexitEntry]}
def uR(g gk a gc:Nat):Array M:= #[.pointer (Y (g,0)),.pointer (Y (gk,0)),.pointer (Y (a,0)),.pointer (Y (gc,0))]
def call56(g gk a gc:Nat):Deferred:= {target:=.fn (.func 55) (uR g gk a gc),args:= #[]}
def yA(g gk a gc:Nat):Kf:= { (default:Kf)with fn:=F.funcs.size,defers:=[call56 g gk a gc],mode:=.panicking [goexitEntry]}
def f56(g gk a gc:Nat):Nat->M:=λi=>(uR g gk a gc).getD i D
def Ef(g gk a gc:Nat)(w:H):Lq F false (G (yA g gk a gc) []) w=.go (G ((bs .deferred 55).at (fa 28 (f56 g gk a gc)) [.code GV]) [fP]) w #[]:=by
 have e:=iu (A:=uR g gk a gc) (k:=24) (n:=28) rfl;simp[yA,call56,Lq,unwind,callDeferred,invoke,callFunc,Tryz.func55,Tryz.f55,seen,GStep.after,G,Kf.enter,Kf.at,fP,GV,bs,fa,f56];exact e
def GW(base S n:Nat)(LL:List gM)(i:Nat)(v:M)(_:H):Prop:=v=.agg #[.int .i64 ((i-base:Nat):Int),.int .i64 (iZ LL n ((i-base:Nat):Int) S)]
def pP:Array Kp:=match tc with|.region _ ops _=>ops|_=> #[]
theorem aa9:OneCell F 3:=λw ad v h=>⟨by go_simp,by simp[go_sem,h]⟩
theorem OV:OneCell F 108:=λw ad v h=>⟨by go_simp,by simp[go_sem,h]⟩
def aba:ez TB F (xO 55) BA=true:=by kernel_rfl
def GX{V O:Nat->Prop}{w:H}{e0:Lk}{b:aC}{n:Nat}{LL:List gM}{g gk gh gc h C:Nat}(hB:Base TB V w e0)(q:∀x,V x->x<w.heap.size)(b8:0<=b.S/\b.S<=12)(b2:n<=100000)(j:oT V w b n LL g gk)
  (k:bV TB V w gh 1)(E:w.cell? ⟨gh,0,I⟩=Y (.int .i64 h))(s:V gc)(u:w.cell? ⟨gc,0,I⟩=Y (.chan (Y C))):
  WalkE F false (λV' O' g' w'=>(∀x,V x->V' x)/\∃f,f 24=.chan (Y C)/\f 25=.int .i64 h/\f 26=.int .i64 (iZ LL n h b.S.toNat)/\g'=G ((bs .deferred 55).at (fa 28 f) [.inRegion pP [3,4]]) [fP]) V O (G (yA g gk gh gc) []) w:=by
 refine WalkE.ctl (λw=>Ef g gk gh gc w) ?_;have a6:GV=.seq (.region 0 #[{dst:=Y 4,op:=.assign (.const (.int .i64 0)),type:=3,pos:= "sail.go:420", after:= #[],guard:=I}] false) (.seq BA tc):=rfl;rw[a6];refine WalkE.ctl (λw=>stepG_seq) ?_;refine WalkE.ctl (λw=>stepG_region) ?_;refine WalkE.gR (.int .i64 0) rfl (.inr rfl) rfl rfl zz rfl sb ?_;refine WalkE.ctl (λw=>stepG_region_end) ?_;refine WalkE.ctl (λw=>stepG_seq) ?_;refine qc (T:=TB) (hB:=hB) (Q:=λe a L=>e=.normal/\a.defers=[]/\(a.tmps[3]?=Y (.pointer (Y ⟨gc,0,I⟩))/\a.tmps[2]?=Y (.pointer (Y ⟨gh,0,I⟩))/\a.tmps[4]?=Y (.int .i64 (iZ LL n h b.S.toNat))/\a.tmps.size=28))
  (Q':=λtm L=>tm[3]?=Y (.pointer (Y ⟨gc,0,I⟩))/\tm[2]?=Y (.pointer (Y ⟨gh,0,I⟩))/\tm[4]?=Y (.int .i64 (iZ LL n h b.S.toNat))/\tm.size=28) (λf m=>by cases m) aba ss q ⟨rfl,λi x y o J=>?_⟩ (λK=>?_) (λe a W h=>⟨h.1,h.2.1,h.2.2⟩) (λZ b' W1 b6 bj B N b3 t l=>?_)
 .rw[o]at J;obtain rfl:=km J;have a0:i<28:=by have:=(ec.1 o).1;simpa[fa]using this
  have b5:x=ah (f56 g gk gh gc) 4 (.int .i64 0) i:=by
   have:=ej (n:=28) (f:=ah (f56 g gk gh gc) 4 (.int .i64 0)) a0;rw[show(fa 28 (ah (f56 g gk gh gc) 4 (.int .i64 0))).tmps[i]?=Y x from o]at this;exact km this
  subst b5;have P:∀{p:Nat},Shown TB V w p->dM (gr hB) .addr (.pointer (Y ⟨p,0,I⟩)) (.pointer (Y ⟨p,0,I⟩)):=λh=>.ptr ⟨rfl,rfl,0,mH h,rfl,rfl⟩;have:i=0\/i=1\/i=2\/i=3\/i=4\/5<=i:=zz;rcases this with rfl|rfl|rfl|rfl|rfl|h5
  .exact P j.book.shown
  .exact P j.kn.shown
  .exact P k.shown
  .exact P (jQ s u)
  .exact .int _ _
  .rw[nf];have:f56 g gk gh gc i=D:=by
    unfold f56;rw[Array.getD_eq_getD_getElem?,Array.getElem?_eq_none (by show 4<=i;omega)];rfl
   rw[this];exact qw
 .have S:(Array.range 28).map (ah (f56 g gk gh gc) 4 (.int .i64 0))= #[.pointer (Y ⟨g,0,I⟩),.pointer (Y ⟨gk,0,I⟩),.pointer (Y ⟨gh,0,I⟩),.pointer (Y ⟨gc,0,I⟩),.int .i64 0,D,D,D,D,D,D,D,D,D,D,D,D,D,D,D,D,D,D,D,D,D,D,D]:=by kernel_rfl
  rw[S];obtain⟨A,c,a5⟩:=j.all;obtain⟨r,a',b1,b4⟩:=j.lit;have z:(tp (gw TB V e0 w) K w.drawn).heap.size=w.heap.size:=dW;have a7:=j.bookC 0 (.int .i64 b.S) rfl;have a4:b.S=(b.S.toNat:Int):=zz;exact D3 b.S.toNat ⟨A,n,c⟩ LL h g gk gh gc r zz b2 (tp (gw TB V e0 w) K w.drawn) (by rw[z];exact q _ j.book.1) (by rw[z];exact q _ j.kn.1) (by rw[z];exact q _ k.1)
   (by rw[<- a4];exact(dO j.book zz).tn a7) ((dO j.kn zz).tn a5) ((dO j.kn zz).tn a') ((dO k zz).tn E) (Wv b4 b1)
 .obtain⟨q3,q2,q4,q5⟩:=b3;obtain⟨f,a1,m⟩:=qd (A:=b6) (n:=28) (by rw[<- t.1];exact q5);have v:∀x,V x->B x:=λx o=>(l.hV x).2 (.inl o);have U:f 3=.pointer (Y ⟨gc,0,I⟩):=ym l.le (jQ s u) (by rw[m];exact t.at_ q3);have R:f 2=.pointer (Y ⟨gh,0,I⟩):=ym l.le k.shown (by rw[m];exact t.at_ q2);have e4:f 4=.int .i64 (iZ LL n h b.S.toNat):=by
   exact aG _ _ Z _ (by rw[m];exact t.at_ q4)
  have a8:bj.cell? ⟨gc,0,I⟩=Y (.chan (Y C)):=aV (l.keep gc s) u;have a9:bj.cell? ⟨gh,0,I⟩=Y (.int .i64 h):=aV (l.keep gh k.1) E;subst a1;have a3:tc=.region 7 pP false:=rfl;rw[a3];refine WalkE.ctl (λw=>stepG_region) ?_;have a2:List.range pP.size=[0,1,2,3,4]:=rfl;rw[a2];change WalkE F false _ B N (G ((bs .deferred 55).at (fa 28 f) _) _) bj;refine WalkE.Rm (d:=24) ⟨gc,0,I⟩ (.chan (Y C)) OV rfl rfl (ft U) (v _ s) a8 rfl zz rfl sb ?_;refine WalkE.Rm (d:=25) ⟨gh,0,I⟩ (.int .i64 h) aa9 rfl rfl (ft R) (v _ k.1) a9 rfl zz rfl sb ?_;refine WalkE.gR (d:=26) (.int .i64 (iZ LL n h b.S.toNat)) rfl (.inl rfl) (ft e4) rfl zz rfl sb ?_;exact WalkE.stop λb7 b9=>⟨v,_,rfl,rfl,rfl,rfl⟩
variable{b:Kf}{a:Act}{i:Nat}
def Eg{α:Type}(f:Nat->α)(i:Nat):Go.ConcN.upd f i (f i)=f:=by
 funext k;by_cases e:k=i
 .subst e;exact Go.ConcN.upd_same _ _ _
 .exact Go.ConcN.upd_ne _ _ e
def nT(J:Gh)(i:Nat):grow J i (J.V i) (J.O i)=J:=by
 unfold grow;rw[Eg,Eg]
def nV{ops:Array Kp}{rest:List Nat}{k:List Item}{cs:List Kf}(v:M):Conc.served (G (b.at a (.inRegion ops (i::rest)::k)) cs) v=G (b.at (a.put ((ops[i]?).bind (·.dst)) v) (.inRegion ops rest::k)) cs:=by
 show G ((b.at a (.inRegion ops (i::rest)::k)).finish v) cs=_;rw[Kf.finish_at]
def uS{fn:Func}(g:b.kind=.deferred)(e:a.defers=[])(f:F.funcs[b.fn]?=Y fn)(c:fn.results= #[])(w:H):Lq F false (G {b.at a []with mode:=.returning} [fP]) w=.go (G fP []) w #[]:=by
 have d:=results_none c a.tmps F w;have h2:=events_results_none (P:=F) (w:=w) c a.tmps;simp[G,Lq,unwind,doReturn,Kf.at,g,e,f,d,h2,fP,seen,GStep.after];rfl
def OW(w:H):∃g',Lq F false (G fP []) w=.go g' w #[]/\g'.status=.finished/\g'= { (G fP [])with status:=.finished}:=by
 have a:∀m,Kf.catches F { (default:Kf)with fn:=F.funcs.size,defers:=[],mode:=m}=false:=λm=>by
  simp[Kf.catches];rfl
 have b:=a (.panicking [goexitEntry]);simp only[G,Lq,unwind,fP];exact⟨_,(qVB (λh=>by rw[b]at h;cases h)).tn (qWB rfl),rfl,rfl⟩
def yB:QuitsD F 1 0 (G fP []):=by
 have h:∀w,∃g',Lq F false (G fP []) w=.go g' w #[]/\g'.status=.finished/\g'= { (G fP [])with status:=.finished}:=OW;refine .inr ⟨rfl, { (G fP [])with status:=.finished}, #[],by simp,λw=>?_,⟨rfl,rfl⟩⟩;obtain⟨g',a, -, h2⟩:=h w;rw[a,h2]
def GY(f:Nat->M):∃q,QuitsD F q 0 (Conc.served (G ((bs .deferred 55).at (fa 28 f) [.inRegion pP [4]]) [fP]) D):=by
 have e:Conc.served (G ((bs .deferred 55).at (fa 28 f) [.inRegion pP [4]]) [fP]) D=G ((bs .deferred 55).at (fa 28 f) [.inRegion pP []]) [fP]:=nV _;rw[e];exact⟨4,QuitsD.ctl rfl (λw=>stepG_region_end) (QuitsD.ctl rfl (λw=>stepG_end) (QuitsD.ctl rfl (λw=>uS rfl rfl Tryz.func55 rfl w) yB))⟩
theorem L1(hi:0<i){J:Gh}{w:H}{e0:Lk}{b:aC}{n:Nat}{LL:List gM}{g gk gh gc:Nat}(E:J.st i=.run)(Z:J.df i=0)(B:J.md=.best)(a6:J.pay=GW J.base b.S.toNat n LL)
  (hB:Base TB (J.V i) w e0)(U:∀x,J.V i x->x<w.heap.size)(S:0<=b.S/\b.S<=12)(a5:n<=100000)(T:oT (J.V i) w b n LL g gk)
  (a4:bV TB (J.V i) w gh 1)(W:w.cell? ⟨gh,0,I⟩=Y (.int .i64 ((i-J.base:Nat):Int)))(a3:J.V i gc)(V:w.cell? ⟨gc,0,I⟩=Y (.chan (Y J.C))):
  bZ fI F i (G (yA g gk gh gc) []) J w:=by
 refine bZ.walk hi (GX hB U S a5 T a4 W a3 V) (O:=J.O i) (λ_=>il) (λ_=>il) (.inl E) (λV' O' g' w' σ' a9 b2 b1 hk=>?_);obtain⟨b4,f,Q,u,y,rfl⟩:=a9;have K:σ'.st i=.run:=hk.st.tn E;refine bZ.stepT hi (.inl K) (λσ1 bj L b3=>?_);have a':σ1.st i=.run:=L.kin.st.tn K;have d:=hk.tn L.kin;let v:M:=.agg #[.int .i64 ((i-J.base:Nat):Int),.int .i64 (iZ LL n ((i-J.base:Nat):Int) b.S.toNat)]
 have hex:∀w:H,(Hn (fa 28 f).eval (pP.getD 3 default)).run F w=.ok (.value v) w:=λw=>by
  have j:(fa 28 f).eval (.tmp 25)=_:=ft u;have m:(fa 28 f).eval (.tmp 26)=_:=ft y;simp only[pP,tc,Tryz.f55,zQ,Hn,zM,j,m];go_simp;rfl
 have a2:∀w:H,(Hn (fa 28 f).eval (pP.getD 3 default)).events F w #[]= #[]:=λw=>by
  have j:(fa 28 f).eval (.tmp 25)=_:=ft u;have m:(fa 28 f).eval (.tmp 26)=_:=ft y;simp only[pP,tc,Tryz.f55,zQ,Hn,zM,j,m];simp[go_sem]
 have q:=stepG_value (P:=F) (main:=false) (b:=bs .deferred 55) (a:=fa 28 f) (k:=[]) (cs:=[fP]) (w:=bj) (ops:=pP) (i:=3) (rest:=[4]) (o:=pP.getD 3 default) (v:=v) (w':=bj) rfl rfl sb (hex bj);rw[listed_none (a2 bj)]at q;have a7:(fa 28 f).put (pP.getD 3 default).dst v=fa 28 (ah f 27 v):=cw zz;rw[a7]at q;refine⟨_,_,bj, #[],σ1.V i,σ1.O i,q,jV bj,λt A=>?_⟩;rw[nT]at A|-;have C:=A.offer (i:=i) (v:=v) zz a' (d.df.tn Z) (λx a0=>by obtain⟨a,l,c,e,-⟩:=a0;have N:M.agg _=M.slice (Y a) l c:=e;cases N) (by rw[d.pay,a6];rfl) (λh=>by rw[d.md,B]at h;cases h);refine⟨_,C.1,C.2,by rw[yS];simp,?_⟩;have r:(fa 28 (ah f 27 v)).eval (.tmp 24)=.chan (Y J.C):=ft (nt Q);have s:(fa 28 (ah f 27 v)).eval (.tmp 27)=v:=ft (au _ _ _);refine bZ.Ze hi (J:=offers σ1 i v) (v:=v) (z:=.tuple #[]) (d.md.tn B) (yS i v) (λp _=>?_) (GY _);have R:(offers σ1 i v).C=J.C:=d.C;have a8:(Hn (fa 28 (ah f 27 v)).eval (pP.getD 4 default)).run F p=.ok (.comm #[scase J.C v (.tuple #[])] true .send) p:=by
  simp only[pP,tc,Tryz.f55,zQ,Hn,r,s];rfl
 have a1:(Hn (fa 28 (ah f 27 v)).eval (pP.getD 4 default)).events F p #[]= #[]:=by
  simp only[pP,tc,Tryz.f55,zQ,Hn,r,s];rfl
 rw[stepG_comm (o:=pP.getD 4 default) rfl rfl sb a8,listed_none a1,R]
variable{f:Nat->M}{gk gc m k:Nat}
structure Idle(J:Gh)(w:H):Prop where
 md:J.md=.idle
 df:J.df 0=0
 cD:J.cD 0
 all:∀x,J.V 0 x↔J.O 0 x
 cX:∀x,J.V 0 x->x<w.heap.size
def l8:Array Kp:=match bg with|.seq (.region _ ops _) _=>ops|_=> #[]
def dz:Ly:=match bg with|.seq _ r=>r|_=>.skip
def Zj(w:H):(Instr.makeChan 108 (.int .i64 0)).run F w=.ok (.chan (Y w)) (w.alloc (.chan 0 #[] false 0 0 false)):=by
 have h:(F.info? 110).map (·.bytes)=Y 16:=by kernel_rfl
 obtain⟨i,hi,a⟩:=Option.map_eq_some_iff.1 h;simpa using run_makeChan (P:=F) (w:=w) (t:=108) (by kernel_rfl:F.underlying 108=Y (.chan .both 110)) hi .i64 0 zz (by rw[a];omega)
def WT(w:H)(es:Array Event):(Instr.makeChan 108 (.int .i64 0)).events F w es=es:=by
 have h:(F.info? 110).map (·.bytes)=Y 16:=by kernel_rfl
 obtain⟨i,hi,a⟩:=Option.map_eq_some_iff.1 h;simpa using events_makeChan (P:=F) (w:=w) (t:=108) (by kernel_rfl:F.underlying 108=Y (.chan .both 110)) hi .i64 0 zz (by rw[a];omega) es
def Eh:Array Kp:=match dz with|.seq (.seq (.region _ ops _) _) _=>ops|_=> #[]
def ee:Ly:=match dz with|.seq (.seq _ (.block _ (.loop c))) _=>c|_=>.skip
def aaO:Ly:=match dz with|.seq _ r=>r|_=>.skip
def yC:Array Kp:=match ee with|.seq (.region _ ops _) _=>ops|_=> #[]
def yD:Array Kp:=match ee with|.seq _ (.seq _ (.seq (.block _ (.seq (.region _ ops _) _)) _))=>ops|_=> #[]
def mM:Array Kp:=match ee with|.seq _ (.seq _ (.seq (.block _ (.seq _ (.region _ ops _))) _))=>ops|_=> #[]
def yE:Array Kp:=match ee with|.seq _ (.seq _ (.seq _ (.region _ ops _)))=>ops|_=> #[]
def SV:bg=.seq (.region 4 l8 false) dz:=rfl
def OX:dz=.seq (.seq (.region 5 Eh false) (.block 0 (.loop ee))) aaO:=rfl
def Ei:ee=.seq (.region 6 yC false) (.seq (.cond (.tmp 23) .skip (.exit 0)) (.seq (.block 1 (.seq (.region 7 yD false) (.region 8 mM false))) (.region 9 yE false))):=rfl
structure Jo(f:Nat->M)(g gk gc m k:Nat):Prop where
 f1:f 1=(g,0)
 f5:f 5=(gk,0)
 f6:f 6=(gc,0)
 f21:f 21=m
 f22:f 22=k
 un:∀i,(2<=i/\i<5)\/i=9\/(38<=i/\i<48)->f i=kept i
def Jo.set(h:Jo f g gk gc m k){d:Nat}(v:M)(a:d≠1/\d≠5/\d≠6/\d≠21/\d≠22/\d≠9/\4<d/\d<38):Jo (ah f d v) g gk gc m k:=
 ⟨nt h.f1,nt h.f5,nt h.f6,nt h.f21,nt h.f22,λi hi=>nt (h.un i hi)⟩
theorem GZ{V O:Nat->Prop}{w:H}{cs:List Kf}{K:List Item}(y:Jo f g gk gc m k)(hk:k<m)(a3:m<=1000)(J:∀x,V x->x<w.heap.size):
  WalkE F true (λV' O' g' w'=>∃f' a,g'=G ((bs .normal 21).at (fa 48 f') (.inRegion mM [1]::.inBlock 1::.code (.region 9 yE false)::.inLoop ee::K)) cs/\Jo f' g gk gc m k/\f' 25=.func (.func 55) #[] (uR g gk a gc)/\
   bV TB V' w' a 1/\w'.cell? ⟨a,0,I⟩=Y (.int .i64 k)/\(∀x,V x->V' x)/\aH V w w'/\∀x,V' x->x<w'.heap.size)
   V O (G ((bs .normal 21).at (fa 48 f) (.code ee::.inLoop ee::K)) cs) w:=by
 rw[show(Item.code ee)=.code (.seq (.region 6 yC false) (.seq (.cond (.tmp 23) .skip (.exit 0)) (.seq (.block 1 (.seq (.region 7 yD false) (.region 8 mM false))) (.region 9 yE false))))from cd _ Ei];refine WalkE.seq (WalkE.reg (l:=[0]) rfl ?_);have C:(fa 48 f).eval (.tmp 22)=_:=ft y.f22;have a21:(fa 48 f).eval (.tmp 21)=_:=ft y.f21;refine WalkE.jh (d:=23) (.bool true) rfl rfl zz rfl sb (λbj b=>?_) (λbj b=>?_) ?_
 .simp only[yC,ee,dz,bg,Tryz.f21,zE,Hn,C,a21];go_simp
 .intro e c;simp only[yC,ee,dz,bg,Tryz.f21,zE,Hn,C,a21]at c;simp[go_sem]at c
 refine WalkE.aT (WalkE.seq (WalkE.cond (t:=true) (ft (au _ _ _)) (WalkE.skip (WalkE.seq (WalkE.block (WalkE.seq (WalkE.reg (l:=[0,1,2]) rfl ?_)))))));have P:=y.set (d:=23) (.bool true) zz;refine WalkE.gR (d:=24) (.int .i64 k) rfl (.inl rfl) (ft P.f22) rfl zz rfl sb ?_;have a1:=P.set (d:=24) (.int .i64 k) zz;refine WalkE.oa (d:=7) (.cells #[.int .i64 0] 3) (λn=>.pointer (Y ⟨n,0,I⟩)) rfl rfl zz rfl sb (λbj b=>?_) (λbj b=>?_) (λbj A=>?_)
 .simp only[yD,ee,dz,bg,Tryz.f21,zE,Hn];go_simp
 .intro e c;simp only[yD,ee,dz,bg,Tryz.f21,zE,Hn]at c;simp[go_sem]at c
 have o:=a1.set (d:=7) (.pointer (Y ⟨bj.heap.size,0,I⟩)) zz;obtain⟨a,z⟩:∃a,bj.heap.size=a:=⟨_,rfl⟩;rw[z]at o|-;have Z:(bj.alloc (.cells #[.int .i64 0] 3)).heap[a]?=Y (.cells #[.int .i64 0] 3 (0,0)):=by rw[<- z];exact Sp _ _
 have u:(fa 48 (ah (ah (ah f 23 (.bool true)) 24 (.int .i64 k)) 7 (.pointer (Y ⟨a,0,I⟩)))).eval (.tmp 7)=.pointer (Y ⟨a,0,I⟩):=ft (au _ _ _);have E:(fa 48 (ah (ah (ah f 23 (.bool true)) 24 (.int .i64 k)) 7 (.pointer (Y ⟨a,0,I⟩)))).eval (.tmp 24)=.int .i64 k:=ft (nt (au _ _ _));have p:∀{q:H},aH (λx=>V x\/x=a) ((bj.alloc (.cells #[.int .i64 0] 3))) q->q.heap[a]?=Y (.cells #[.int .i64 0] 3 (0,0)):=λb=>(b.keep a (.inr rfl)).tn Z;refine WalkE.xN ⟨a,0,I⟩ (.int .i64 k) (.inr rfl) (.inr rfl) rfl rfl rfl sb (λi b=>?_) (λi b=>?_) (λi B=>?_)
 .have L:=one_cell (p b);have R:i.frozen? ⟨a,0,I⟩=false:=by simp[H.frozen?,p b]
  simp only[yD,ee,dz,bg,Tryz.f21,zE,Hn,u,E];go_simp
 .intro e c;have L:=one_cell (p b);have R:i.frozen? ⟨a,0,I⟩=false:=by simp[H.frozen?,p b]
  simp only[yD,ee,dz,bg,Tryz.f21,zE,Hn,u,E]at c;simp[go_sem,L,R]at c;subst c;exact⟨rfl,.inr rfl,λ_=>.inr rfl⟩
 refine WalkE.aT (WalkE.reg (l:=[0,1]) rfl ?_);have N:(i.setCell ⟨a,0,I⟩ (.int .i64 k)).heap[a]?=Y (.cells #[.int .i64 k] 3 (0,0)):=one_setCell (p B);refine WalkE.jh (d:=25) (.func (.func 55) #[] (uR g gk a gc)) rfl rfl zz rfl sb (λq b=>?_) (λq b=>?_) ?_
 .have S:(fa 48 (ah (ah (ah f 23 (.bool true)) 24 (.int .i64 k)) 7 (.pointer (Y ⟨a,0,I⟩)))).eval (.tmp 1)=_:=ft o.f1;have T:(fa 48 (ah (ah (ah f 23 (.bool true)) 24 (.int .i64 k)) 7 (.pointer (Y ⟨a,0,I⟩)))).eval (.tmp 5)=_:=ft o.f5;have U:(fa 48 (ah (ah (ah f 23 (.bool true)) 24 (.int .i64 k)) 7 (.pointer (Y ⟨a,0,I⟩)))).eval (.tmp 6)=_:=ft o.f6;simp only[mM,ee,dz,bg,Tryz.f21,zE,Hn,zM,u,S,T,U];rfl
 .intro e c;simp only[mM,ee,dz,bg,Tryz.f21,zE,Hn]at c;simp[go_sem]at c
 refine WalkE.stop λq s=>⟨_,a,rfl,o.set _ zz,au _ _ _,?_,?_,λx h=>.inl h,?_,?_⟩
 .refine⟨.inr rfl, #[.int .i64 k],3,(0,0),(s.keep a (.inr rfl)).tn N,qN _,λj v a2 Q=>?_⟩;obtain rfl:j=0:=zz;simp at Q;subst Q;exact .inl (cR _ _)
 .exact one_cell ((s.keep a (.inr rfl)).tn N)
 .have r:=A.cX J;exact((A.tn (gS r _)).tn ((B.mono λx=>.inl).tn (nB (λh=>dj _ (by have:=r a h;rw[z]at this;exact this)) _))).tn (s.mono λx=>.inl)
 .have r:=A.cX J;have W:∀x,V x\/x=a->x<(bj.alloc (.cells #[.int .i64 0] 3)).heap.size:=λx h=>by
   rw[aa];rcases h with h|rfl
   .have:=r x h;omega
   .omega
  exact s.cX λx h=>by
   have:=B.cX W x h;simpa[H.setCell]using this
variable{K:List Item}{cs:List Kf}{O V0:Nat->Prop}{w0 w':H}{b:aC}{LL:List gM}{base:Nat}{J σ':Gh}
structure BL(V0:Nat->Prop)(w0:H)(b:aC)(n:Nat)(LL:List gM)(g gk gc base:Nat)(J:Gh)(w:H):Prop where
 md:J.md=.best
 df:J.df 0=0
 cD:J.cD 0
 bas:J.base=base
 pay:J.pay=GW base b.S.toNat n LL
 cz:J.cz=I
 at_:oT (J.V 0) w b n LL g gk
 ch:w (gc,0)=Y (.chan (Y J.C))
 chV:J.V 0 gc
 cX:∀x,J.V 0 x->x<w.heap.size
 b0:∃e0,Base TB (J.V 0) w e0
 old:∀x,V0 x->J.V 0 x
 keep:aH V0 w0 w
def BL.kQ(h:BL V0 w0 b n LL g gk gc base J w)(d:Jk J σ')(i:σ'.df 0=0)(j:σ'.cD 0)(f:σ'.cz=I)(a:∀x,J.V 0 x->σ'.V 0 x)(c:aH (J.V 0) w w')(e:∀x,σ'.V 0 x->x<w'.heap.size):BL V0 w0 b n LL g gk gc base σ' w':=
 ⟨d.md.tn h.md,i,j,d.base.tn h.bas,d.pay.tn h.pay,f,h.at_.mono a c.keep,by rw[d.C];exact bu c h.chV h.ch,a _ h.chV,e,let⟨e0,x⟩:=h.b0;⟨e0,x.mono a c.keep⟩,λx k=>a x (h.old x k),h.keep.tn (c.mono h.old)⟩
def BL.walk(h:BL V0 w0 b n LL g gk gc base J w)(hk:Fs 0 J σ')(a:∀x,J.V 0 x->σ'.V 0 x)(d:aH (J.V 0) w w')(c:∀x,σ'.V 0 x->x<w'.heap.size):BL V0 w0 b n LL g gk gc base σ' w':=
 h.kQ hk.SQ (hk.df.tn h.df) (hk.cD.2 h.cD) ((hk.main rfl).2.2.2.tn h.cz) a d c
def SX{g gk gh gc:Nat}(c:f 25=.func (.func 55) #[] (uR g gk gh gc))(w:H):
  Lq F true (G ((bs .normal 21).at (fa 48 f) (.inRegion mM [1]::K)) cs) w=.spawn (G ((bs .normal 21).at (fa 48 f) (.inRegion mM []::K)) cs) (G (yA g gk gh gc) []) w #[]:=by
 have a:(fa 48 f).eval (.tmp 25)=_:=ft c;have d:(Hn (fa 48 f).eval (mM.getD 1 default)).run F w=.ok (.spawn (call56 g gk gh gc)) w:=by
  simp only[mM,ee,dz,bg,Tryz.f21,zQ,Hn,ab,a];simp[Deferred.ofValue,call56]
 have b:(Hn (fa 48 f).eval (mM.getD 1 default)).events F w #[]= #[]:=by
  simp only[mM,ee,dz,bg,Tryz.f21,zQ,Hn,ab,a];simp[Deferred.ofValue]
 rw[stepG_spawn (o:=mM.getD 1 default) rfl rfl sb d rfl,listed_none b];rfl
theorem L4(b:Jo f g gk gc m m)(n:m<=1000)(j:∀x,V x->x<w.heap.size):
  WalkE F true (λV' k g' w'=>∃f',g'=G ((bs .normal 21).at (fa 48 f') K) cs/\Jo f' g gk gc m m/\(∀x,V x->V' x)/\aH V w w'/\∀x,V' x->x<w'.heap.size)
   V O (G ((bs .normal 21).at (fa 48 f) (.code ee::.inLoop ee::.inBlock 0::K)) cs) w:=by
 rw[show(Item.code ee)=.code (.seq (.region 6 yC false) (.seq (.cond (.tmp 23) .skip (.exit 0)) (.seq (.block 1 (.seq (.region 7 yD false) (.region 8 mM false))) (.region 9 yE false))))from cd _ Ei];refine WalkE.seq (WalkE.reg (l:=[0]) rfl ?_);have c:(fa 48 f).eval (.tmp 22)=_:=ft b.f22;have a21:(fa 48 f).eval (.tmp 21)=_:=ft b.f21;refine WalkE.jh (d:=23) (.bool false) rfl rfl zz rfl sb (λbj a=>?_) (λbj a=>?_) ?_
 .simp only[yC,ee,dz,bg,Tryz.f21,zE,Hn,c,a21];go_simp
 .intro e i;simp only[yC,ee,dz,bg,Tryz.f21,zE,Hn,c,a21]at i;simp[go_sem]at i
 refine WalkE.aT (WalkE.seq (WalkE.cond (t:=false) (ft (au _ _ _)) (WalkE.exit (k':=K) rfl ?_)));exact WalkE.stop λbj a=>⟨_,rfl,b.set _ zz,λ_ h=>h,a,a.cX j⟩
theorem G0{g gk gc m k:Nat}(n:Jo f g gk gc m k)(hk:k<m)(q:m<=1000)(o:∀x,V x->x<w.heap.size):
  WalkE F true (λV' p g' w'=>∃f',g'=G ((bs .normal 21).at (fa 48 f') (.code ee::.inLoop ee::K)) cs/\Jo f' g gk gc m (k+1)/\(∀x,V x->V' x)/\aH V w w'/\∀x,V' x->x<w'.heap.size)
   V O (G ((bs .normal 21).at (fa 48 f) (.inRegion mM []::.inBlock 1::.code (.region 9 yE false)::.inLoop ee::K)) cs) w:=by
 refine WalkE.aT (WalkE.inBlock (WalkE.reg (l:=[0,1]) rfl ?_));have c:(fa 48 f).eval (.tmp 22)=_:=ft n.f22;refine WalkE.jh (d:=26) (.int .i64 (k+1:Nat)) rfl rfl zz rfl sb (λbj b=>?_) (λbj b=>?_) ?_
 .simp only[yE,ee,dz,bg,Tryz.f21,zE,Hn,c];go_simp;rw[IntKind.wrap_i64];omega
 .intro e j;simp only[yE,ee,dz,bg,Tryz.f21,zE,Hn,c]at j;simp[go_sem]at j
 refine WalkE.gR (d:=22) (.int .i64 (k+1:Nat)) rfl (.inl rfl) (ft (au _ _ _)) rfl zz rfl sb ?_;refine WalkE.aT (WalkE.inLoop ?_);refine WalkE.stop λbj b=>⟨_,rfl,?_,λ_ h=>h,b,b.cX o⟩;have a:=n.set (d:=26) (.int .i64 (k+1:Nat)) zz;exact⟨nt a.f1,nt a.f5,nt a.f6,nt a.f21,au _ _ _,λi hi=>nt (a.un i hi)⟩
def L5{post:M->H->Prop}{V0:Nat->Prop}{w0:H}{b:aC}{n:Nat}{LL:List gM}{g gk gc base m:Nat}(z:m<=1000)(W:0<=b.S/\b.S<=12)(a6:n<=100000)
  (next:∀f J w,Jo f g gk gc m m->BL V0 w0 b n LL g gk gc base J w->J.num=base+m->J.got=[]->aQ fI F post (G ((bs .normal 21).at (fa 48 f) K) cs) J w):
  ∀(j k:Nat),k+j=m->∀f J w,Jo f g gk gc m k->BL V0 w0 b n LL g gk gc base J w->J.num=base+k->J.got=[]->
   aQ fI F post (G ((bs .normal 21).at (fa 48 f) (.code ee::.inLoop ee::.inBlock 0::K)) cs) J w:=by
 intro j
 induction j with
 | zero=>
  intro k hk f J w t p A v;obtain rfl:k=m:=zz;refine aQ.walk (L4 t z p.cX) (O:=J.O 0) (λ_=>il) (λ_=>il) (λV' L g' w' σ' B r V e=>?_);obtain⟨f',rfl,u,s,h2,l⟩:=B;exact next f' σ' w' u (p.walk e (λx c=>(r x).2 (s x c)) h2 (λx c=>l x ((r x).1 c))) ((e.main rfl).1.tn A) ((e.main rfl).2.2.1.tn v)
 | succ j b2=>
  intro k hk f J w t p A v;refine aQ.walk (GZ t zz z p.cX) (O:=J.O 0) (λ_=>il) (λ_=>il) (λV' L g' w' σ' B r V e=>?_);obtain⟨f',b8,rfl,u,Q,E,Z,s,h2,l⟩:=B;have e1:V'=σ'.V 0:=funext λx=>propext (r x).symm;subst e1;have a:=p.walk e s h2 l;have a7:σ'.num=base+k:=(e.main rfl).1.tn A;refine aQ.OU a.df a.cz (.inl a.md) (λbj _=>SX Q bj) (λσ2 N a9 d b1 a2 o _ i _=>?_) (λσ2 N d o _ i a8 a3 a1 _ a5 a0=>?_)
  .have h:σ2.V σ'.num=σ'.V 0:=funext λx=>propext (o x);obtain⟨e0,U⟩:=a.b0;have q:σ2.base=base:=i.base.tn a.bas;refine L1 a9 (b:=b) (n:=n) (LL:=LL) b1 a2 (i.md.tn a.md) (by rw[q];exact i.pay.tn a.pay) (e0:=e0) (by rw[h];exact U.rely d) (λx c=>d.cX l x (by rw[<- h];exact c)) W a6 (by rw[h];exact a.at_.mono (λ_=>id) d.keep) (by rw[h];exact E.rely d) ?_ (by rw[h];exact a.chV) (by rw[i.C];exact bu d a.chV a.ch);rw[q,a7,show base+k-base=k by omega];exact bu d E.1 Z
  .have h:σ2.V 0=σ'.V 0:=funext λx=>propext (o x);have q:=a.kQ i a3 (a0.2 a.cD) a1 (λx c=>(o x).2 c) d (λx c=>d.cX l x ((o x).1 c));refine aQ.walk (G0 u zz z q.cX) (O:=σ2.O 0) (λ_=>il) (λ_=>il) (λb6 b5 b7 b3 b4 a' C b9 y=>?_);obtain⟨P,rfl,a4,R,S,T⟩:=a';exact b2 (k+1) zz P b4 b3 a4 (q.walk y (λx c=>(C x).2 (R x c)) S (λx c=>T x ((C x).1 c))) ((y.main rfl).1.tn (a8.tn zz)) ((y.main rfl).2.2.1.tn (a5.tn ((e.main rfl).2.2.1.tn v)))
def cy.tr{T T':P3}(h:cy T V w b l)(e:∀b k,bV T V w b k->bV T' V w b k):cy T' V w b l:=
 ⟨h.at_,λa c=>let⟨h1,h2,h3,h4⟩:=h.C a c;⟨h1,h2,h3,λd=>e _ _ (h4 d)⟩,λa c=>let⟨h1,h2,h3,h4⟩:=h.U a c;⟨h1,h2,h3,λd=>e _ _ (h4 d)⟩,λa c=>let⟨h1,h2,h3,h4⟩:=h.E a c;⟨h1,h2,h3,λd=>e _ _ (h4 d)⟩,λa c=>let⟨h1,h2,h3,h4⟩:=h.W a c;⟨h1,h2,h3,λd=>e _ _ (h4 d)⟩⟩
end Go.Proofs.YthfhocgpjjkjlaaGreatDoor
open Go in
open Go.Proofs.YthfhocgpjjkjlaaGreatDoor in
open Go.RowKit Go.Co Go.Conc in
variable{g:Nat} in
variable{b:aC} in
variable{b:Kf} in
variable{b:aC} in
def Go.Co.Base.tb{V:Nat->Prop}{w:Cl}{e0:Lk}(h:Base TA V w e0):Base TB V w e0:=⟨h.v0,h.cells,λg hg=>by cases hg⟩
namespace Go.Proofs.YthfhocgpjjkjlaaGreatDoor
open Go.RowKit Go.Co Go.Conc
variable{Z:Ren}{v' v:M}{T:P3}{V:Nat->Prop}{w:H}{g n:Nat}{b:aC}{e0:Lk}{l:pK}
variable{b:Kf}{a:Act}{i:Nat}
variable{f:Nat->M}{gk gc m k:Nat}
variable{K:List Item}{cs:List Kf}{O V0:Nat->Prop}{w0 w':H}{b:aC}{LL:List gM}{base:Nat}{J σ':Gh}
structure Main(J:Gh)(w:H):Prop where
 idle:Idle J w
 checks:dJ TA (J.V 0) w
 b0:∃e0,Base TA (J.V 0) w e0
def XA(V:Nat->Prop)(w:H)(cs:List Kf)(b:aC)(n:Nat)(LL:List gM)(V' a:Nat->Prop)(g':QP)(w':H):Prop:=
 ∃f g gk,g'=G ((bs .normal 21).at (fa 48 f) [.inRegion l8 [0,1,2],.code dz]) cs/\f 1=(g,0)/\f 5=(gk,0)/\(∀i,(2<=i/\i<5)\/i=9\/(38<=i/\i<48)->f i=kept i)/\oT V' w' b n LL g gk/\
  (∀x,V x->V' x)/\(∀x,V' x->a x)/\aH V w w'/\∀x,V' x->x<w'.heap.size
def L6(hB:Base TA V w e0)(p:∀x,V x->x<w.heap.size)(k:∀x,V x->O x)
  (n:uD V w b l iy [])(j:dJ TA V w)(h:cP b l true=0):
  WalkE F true (XA V w cs b (aJ b l b.D.toNat).length (fN b l)) V O (G (Kf.enter F 21 #[b.v] .normal) cs) w:=by
 refine GM (e0:=e0) hB p n j h (λf bj s t g gk e1 i r m c e q o=>?_);rw[SV];refine WalkE.seq (WalkE.reg (l:=[0,1,2]) rfl ?_);exact WalkE.stop λu d=>⟨f,g,gk,rfl,e1,i,r,m.mono (λ_=>id) d.keep,λx a=>(c x).2 (.inl a),λx a=>by
  rcases(c x).1 a with h|h
  .exact(e x).2 (.inl (k x h))
  .exact(e x).2 (.inr h),q.tn (d.mono λx a=>(c x).2 (.inl a)),d.cX o⟩
def G5(f:Nat->M){K:List Item}(w:H):
  Lq F true (G ((bs .normal 21).at (fa 48 f) (.inRegion l8 [0,1,2]::K)) cs) w=.go (G ((bs .normal 21).at (fa 48 (ah f 18 (.chan (Y w)))) (.inRegion l8 [1,2]::K)) cs) (w.alloc (.chan 0 #[] false 0 0 false)) #[]:=by
 have a:=Zj w;have c:=WT w;have d:(Hn (fa 48 f).eval (l8.getD 0 default)).run F w=.ok (.value (.chan (Y w))) (w.alloc (.chan 0 #[] false 0 0 false)):=by
  simp only[l8,bg,Tryz.f21,zQ,Hn];have e:(fa 48 f).eval (.const (.int .i64 0))=.int .i64 0:=rfl;simp[e,a]
 have b:(Hn (fa 48 f).eval (l8.getD 0 default)).events F w #[]= #[]:=by
  simp only[l8,bg,Tryz.f21,zQ,Hn];have e:(fa 48 f).eval (.const (.int .i64 0))=.int .i64 0:=rfl;simp[e,a,c]
 rw[stepG_value (o:=l8.getD 0 default) rfl rfl sb d,listed_none b];rw[show(fa 48 f).put (l8.getD 0 default).dst (.chan (Y w.heap.size))=fa 48 (ah f 18 (.chan (Y w.heap.size)))from cw zz]
theorem U4:OneCell F 27:=λw ad v h=>⟨by go_simp,by simp[go_sem,h]⟩
theorem WU{f:Nat->M}{g gk C:Nat}(q:f 1=.pointer (Y ⟨g,0,I⟩))(Q:f 5=.pointer (Y ⟨gk,0,I⟩))(L:f 18=.chan (Y C))(a1:∀i,(2<=i/\i<5)\/i=9\/(38<=i/\i<48)->f i=kept i)(U:∀x,V x->x<w.heap.size)
  (A:V g)(R:w.cell? ⟨g,10,I⟩=Y (.slice b.U.A b.U.n b.U.c)):
  WalkE F true (λV' O' g' w'=>∃f' gc,g'=G ((bs .normal 21).at (fa 48 f') (.code ee::.inLoop ee::.inBlock 0::[.code aaO])) cs/\Jo f' g gk gc b.U.n 0/\V' gc/\w'.cell? ⟨gc,0,I⟩=Y (.chan (Y C))/\(∀x,V x->V' x)/\aH V w w'/\∀x,V' x->x<w'.heap.size)
   V O (G ((bs .normal 21).at (fa 48 f) [.inRegion l8 [1,2],.code dz]) cs) w:=by
 refine WalkE.oa (d:=6) (.cells #[.chan I] 108) (λn=>.pointer (Y ⟨n,0,I⟩)) rfl rfl zz rfl sb (λbj a=>?_) (λbj a=>?_) (λbj J=>?_)
 .simp only[l8,bg,Tryz.f21,zE,Hn];go_simp
 .intro e c;simp only[l8,bg,Tryz.f21,zE,Hn]at c;simp[go_sem]at c
 obtain⟨gc,s⟩:∃gc,bj.heap.size=gc:=⟨_,rfl⟩;rw[s];have r:=J.cX U;have W:(bj.alloc (.cells #[.chan I] 108)).heap[gc]?=Y (.cells #[.chan I] 108 (0,0)):=by rw[<- s];exact Sp _ _
 have y:(fa 48 (ah f 6 (.pointer (Y ⟨gc,0,I⟩)))).eval (.tmp 6)=.pointer (Y ⟨gc,0,I⟩):=ft (au _ _ _);have v:(fa 48 (ah f 6 (.pointer (Y ⟨gc,0,I⟩)))).eval (.tmp 18)=.chan (Y C):=ft (nt L);have m:∀{k:H},aH (λx=>V x\/x=gc) ((bj.alloc (.cells #[.chan I] 108))) k->k.heap[gc]?=Y (.cells #[.chan I] 108 (0,0)):=λa=>(a.keep gc (.inr rfl)).tn W;refine WalkE.xN ⟨gc,0,I⟩ (.chan (Y C)) (.inr rfl) (.inr rfl) rfl rfl rfl sb (λj a=>?_) (λj a=>?_) (λj t=>?_)
 .have z:=Go.Proofs.YthfhocgpjjkjlaaGreatDoor.one_cell (m a);have K:j.frozen? ⟨gc,0,I⟩=false:=by simp[H.frozen?,m a]
  simp only[l8,bg,Tryz.f21,zE,Hn,y,v];go_simp
 .intro e c;have z:=Go.Proofs.YthfhocgpjjkjlaaGreatDoor.one_cell (m a);have K:j.frozen? ⟨gc,0,I⟩=false:=by simp[H.frozen?,m a]
  simp only[l8,bg,Tryz.f21,zE,Hn,y,v]at c;simp[go_sem,z,K]at c;subst c;exact⟨rfl,.inr rfl,λ_=>.inr rfl⟩
 have Z:(j.setCell ⟨gc,0,I⟩ (.chan (Y C))).heap[gc]?=Y (.cells #[.chan (Y C)] 108 (0,0)):=one_setCell (m t);have E:aH V w (j.setCell ⟨gc,0,I⟩ (.chan (Y C))):=(J.tn (gS r _)).tn ((t.mono λx=>.inl).tn (nB (λh=>dj _ (by have:=r gc h;rw[s]at this;exact this)) _));have T:∀x,V x\/x=gc->x<(j.setCell ⟨gc,0,I⟩ (.chan (Y C))).heap.size:=λx h=>by
  have:∀x,V x\/x=gc->x<(bj.alloc (.cells #[.chan I] 108)).heap.size:=λx h=>by
   rw[aa];rcases h with h|rfl
   .have:=r x h;omega
   .omega
  have:=t.cX this x h;simpa[H.setCell]using this
 rw[OX];refine WalkE.aT (WalkE.seq (WalkE.seq (WalkE.reg (l:=[0,1,2,3]) rfl ?_)));have S:=bu E (ad:=⟨g,10,I⟩) A R;have p:(ah f 6 (.pointer (Y ⟨gc,0,I⟩))) 1=_:=nt q;refine WalkE.jh (d:=19) (.pointer (Y ⟨g,10,I⟩)) rfl rfl zz rfl sb (λk a=>?_) (λk a=>?_) ?_
 .have o:(fa 48 (ah f 6 (.pointer (Y ⟨gc,0,I⟩)))).eval (.tmp 1)=_:=ft p;simp only[Eh,dz,bg,Tryz.f21,zE,Hn,o];go_simp
 .intro e c;have o:(fa 48 (ah f 6 (.pointer (Y ⟨gc,0,I⟩)))).eval (.tmp 1)=_:=ft p;simp only[Eh,dz,bg,Tryz.f21,zE,Hn,o]at c;simp[go_sem]at c
 refine WalkE.Rm (d:=20) ⟨g,10,I⟩ (.slice b.U.A b.U.n b.U.c) U4 rfl rfl (ft (au _ _ _)) (.inl A) S rfl zz rfl sb ?_;refine WalkE.jh (d:=21) (.int .i64 b.U.n) rfl rfl zz rfl sb (λk a=>?_) (λk a=>?_) ?_
 .have a20:(fa 48 (ah (ah (ah f 6 (.pointer (Y ⟨gc,0,I⟩))) 19 (.pointer (Y ⟨g,10,I⟩))) 20 (.slice b.U.A b.U.n b.U.c))).eval (.tmp 20)=_:=ft (au _ _ _);simp only[Eh,dz,bg,Tryz.f21,zE,Hn,ab,zM,a20];go_simp
 .intro e c;have a20:(fa 48 (ah (ah (ah f 6 (.pointer (Y ⟨gc,0,I⟩))) 19 (.pointer (Y ⟨g,10,I⟩))) 20 (.slice b.U.A b.U.n b.U.c))).eval (.tmp 20)=_:=ft (au _ _ _);simp only[Eh,dz,bg,Tryz.f21,zE,Hn,ab,zM,a20]at c;simp[go_sem]at c
 refine WalkE.gR (d:=22) (.int .i64 0) rfl (.inl rfl) rfl rfl zz rfl sb ?_;refine WalkE.aT (WalkE.block (WalkE.loop ?_));refine WalkE.stop λk u=>⟨_,gc,rfl,?_,.inr rfl,Go.Proofs.YthfhocgpjjkjlaaGreatDoor.one_cell ((u.keep gc (.inr rfl)).tn Z),λx h=>.inl h,E.tn (u.mono λx=>.inl),u.cX T⟩;have B:∀{x:Nat},x≠19->x≠20->x≠21->x≠22->(ah (ah (ah (ah (ah f 6 (.pointer (Y ⟨gc,0,I⟩))) 19 (.pointer (Y ⟨g,10,I⟩))) 20 (.slice b.U.A b.U.n b.U.c)) 21 (.int .i64 b.U.n)) 22 (.int .i64 0)) x=ah f 6 (.pointer (Y ⟨gc,0,I⟩)) x:=λq h2 N P=>by
  rw[cu _ _ P,cu _ _ N,cu _ _ h2,cu _ _ q]
 exact⟨(B zz zz zz zz).tn p,(B zz zz zz zz).tn (nt Q),(B zz zz zz zz).tn (au _ _ _),nt (au _ _ _),au _ _ _,λi hi=>(B zz zz zz zz).tn (nt (a1 i hi))⟩
section
open Go.ConcN (upd upd_same upd_ne)
def U5{V:Nat->Prop}(h:uD V w b l iy [])(d:cP b l true=0):b.U.n<=1000/\(0<=b.S/\b.S<=12)/\(aJ b l b.D.toNat).length<=100000:=by
 obtain⟨a, -,-⟩:=Yt d;obtain⟨g,c,j,k,m,n,o,p,q,e,i⟩:=cS (bP a).1;refine⟨by have:=h.at_.U;have a:=this.1;have f:=this.2.2.1;omega,⟨zz,c⟩,?_⟩;have:=nH (b:=b) (C:=l.C) (most:=b.D.toNat) c e zz;exact qO (qO (nn _ _) this) zz
def BH{post:M->H->Prop}{J:Gh}{cs:List Kf}(k:Main J w)(N:uD (J.V 0) w b l iy [])(h:cP b l true=0)
  (next:∀f σ' w' g gk gc base,Jo f g gk gc b.U.n b.U.n->BL (J.V 0) w b (aJ b l b.D.toNat).length (fN b l) g gk gc base σ' w'->σ'.num=base+b.U.n->σ'.got=[]->aQ fI F post (G ((bs .normal 21).at (fa 48 f) [.code aaO]) cs) σ' w'):
  aQ fI F post (G (Kf.enter F 21 #[b.v] .normal) cs) J w:=by
 obtain⟨a0,a2,b1⟩:=U5 N h;obtain⟨e0,hB⟩:=k.b0;refine aQ.walk (L6 hB k.idle.cX (λx a=>(k.idle.all x).1 a) N k.checks h) (O:=J.O 0) (λ_=>il) (λ_=>il) (λV' O' g' bj σ1 b3 a3 b6 hk=>?_);obtain⟨f,g,gk,rfl,h1,h5,b5,a5,u,b9,b2,b8⟩:=b3;have e1:V'=σ1.V 0:=funext λx=>propext (a3 x).symm;subst e1;refine aQ.stepT (λσ2 d o s=>?_);have n:∀x,σ1.V 0 x->σ2.V 0 x:=λx=>(o.V x).2;obtain⟨C,B⟩:∃C,d.heap.size=C:=⟨_,rfl⟩;have Q:∀x,(d.heap.size<=x/\x<(d.alloc (.chan 0 #[] false 0 0 false)).heap.size)↔x=C:=λx=>by rw[aa];omega
 refine⟨_,_,d.alloc (.chan 0 #[] false 0 0 false), #[],(λx=>σ2.V 0 x\/x=C),(λx=>σ2.O 0 x\/x=C),G5 f d,⟨rfl,rfl,rfl,by simp,λx a _=>QR d _ a,λx=>by rw[Q],λx=>by rw[Q],by simp⟩,λt E=>?_⟩;have S:σ2.md=.idle:=(hk.tn o.kin).md.tn k.idle.md;have P:=E.begin (b:=C) (tm:=false) S (by rw[qA];exact .inr rfl) (by rw[<- B];exact Sp _ _) (md:=.best) ss (GW σ2.num b.S.toNat (aJ b l b.D.toNat).length (fN b l)) (λi v w w' _ h=>h);refine⟨_,P.1,P.2,?_⟩;have a8:σ2.cz=I:=(E.p.qz S).2.2.1;have m:∀x,(Co.begun (grow σ2 0 (λx=>σ2.V 0 x\/x=C) (λx=>σ2.O 0 x\/x=C)) C .best (GW σ2.num b.S.toNat (aJ b l b.D.toNat).length (fN b l))).V 0 x↔σ2.V 0 x:=λx=>by
  simp only[Co.begun,Sx,sY];constructor
  .rintro⟨h|h,h'⟩
   .exact h
   .exact mi h h'
  .intro h;exact⟨.inl h,by have:=s x h;omega⟩
 have z:aH (σ2.V 0) d (d.alloc (.chan 0 #[] false 0 0 false)):=gS s _;have T:aH (σ1.V 0) bj (d.alloc (.chan 0 #[] false 0 0 false)):=o.w.tn (z.mono n);have R:=hk.tn o.kin;obtain⟨c,e⟩:∃c,Co.begun (grow σ2 0 (λx=>σ2.V 0 x\/x=C) (λx=>σ2.O 0 x\/x=C)) C .best (GW σ2.num b.S.toNat (aJ b l b.D.toNat).length (fN b l))=c:=⟨_,rfl⟩;have q1:c.md=.best:=by rw[<- e];rfl
 have q2:c.df 0=0:=by rw[<- e];exact R.df.tn k.idle.df
 have q3:c.cD 0:=by rw[<- e];exact R.cD.2 k.idle.cD
 have q4:c.base=σ2.num:=by rw[<- e];rfl
 have q5:c.pay=GW σ2.num b.S.toNat (aJ b l b.D.toNat).length (fN b l):=by rw[<- e];rfl
 have q6:c.cz=I:=by rw[<- e];exact a8
 have q7:c.C=C:=by rw[<- e];rfl
 have q8:c.num=σ2.num:=by rw[<- e];rfl
 have q9:c.got=[]:=by rw[<- e];rfl
 rw[e]at m|-;rw[B];have a6:∀x,c.V 0 x->x<(d.alloc (.chan 0 #[] false 0 0 false)).heap.size:=λx a=>z.cX s x ((m x).1 a);have r:oT (c.V 0) (d.alloc (.chan 0 #[] false 0 0 false)) b (aJ b l b.D.toNat).length (fN b l) g gk:=a5.mono (λx a=>(m x).2 (n x a)) T.keep;refine aQ.walk (WU (b:=b) (g:=g) (gk:=gk) (C:=C) (nt h1) (nt h5) (au _ _ _) (λi hi=>nt (b5 i hi)) a6 r.book.1 (r.bookC 10 _ rfl)) (O:=c.O 0) (λ_=>il) (λ_=>il) (λV4 O4 g4 y p b4 q b7 j=>?_);obtain⟨f',gc,rfl,a9,a',a7,h6,A,h8⟩:=b4;have K:∀x,c.V 0 x->p.V 0 x:=λx a=>(q x).2 (h6 x a);have L:∀x,J.V 0 x->p.V 0 x:=λx a=>K x ((m x).2 (n x (u x a)));have U:aH (J.V 0) w y:=b2.tn ((T.mono u).tn (A.mono λx a=>(m x).2 (n x (u x a))));have a1:BL (J.V 0) w b (aJ b l b.D.toNat).length (fN b l) g gk gc σ2.num p y:=
  ⟨j.md.tn q1,j.df.tn q2,j.cD.2 q3,j.base.tn q4,j.pay.tn q5,(j.main rfl).2.2.2.tn q6,r.mono K A.keep,by rw[j.C,q7];exact a7,(q _).2 a',λx a=>h8 x ((q x).1 a),
   ⟨e0,(hB.tb).mono L U.keep⟩,L,U⟩
 exact L5 a0 a2 b1 (λf σ' w' V W Z a4=>next f σ' w' g gk gc _ V W Z a4) b.U.n 0 zz f' p y a9 a1 ((j.main rfl).1.tn q8) ((j.main rfl).2.2.1.tn q9)
end
variable{C:Nat}
def WV:Array Kp:=match aaO with|.seq (.region _ ops _) _=>ops|_=> #[]
def yG:Array Kp:=match aaO with|.seq _ (.seq (.seq (.region _ ops _) _) _)=>ops|_=> #[]
def eY:Ly:=match aaO with|.seq _ (.seq (.seq _ (.block _ (.loop c))) _)=>c|_=>.skip
def qC:Ly:=match aaO with|.seq _ (.seq _ r)=>r|_=>.skip
def tf:Array Kp:=match eY with|.seq (.region _ ops _) _=>ops|_=> #[]
def iC:Array Kp:=match eY with|.seq _ (.seq _ (.seq (.block _ (.region _ ops _)) _))=>ops|_=> #[]
def qD:Array Kp:=match eY with|.seq _ (.seq _ (.seq _ (.region _ ops _)))=>ops|_=> #[]
def L8:aaO=.seq (.region 10 WV false) (.seq (.seq (.region 11 yG false) (.block 2 (.loop eY))) qC):=rfl
def aaJ:eY=.seq (.region 12 tf false) (.seq (.cond (.tmp 31) .skip (.exit 2)) (.seq (.block 3 (.region 13 iC false)) (.region 14 qD false))):=rfl
structure Xv(f:Nat->M)(gc m k:Nat)(v:M):Prop where
 f6:f 6=(gc,0)
 f8:f 8=v
 f29:f 29=m
 f30:f 30=k
 un:∀i,(2<=i/\i<5)\/i=9\/(38<=i/\i<48)->f i=kept i
def Xv.set(h:Xv f gc m k v){d:Nat}(u:M)(a:d≠6/\d≠8/\d≠29/\d≠30/\d≠9/\4<d/\d<38):Xv (ah f d u) gc m k v:=
 ⟨nt h.f6,nt h.f8,nt h.f29,nt h.f30,λi hi=>nt (h.un i hi)⟩
theorem G8{b:aC}{g gk gc m:Nat}(k:Jo f g gk gc m m)(u:∀x,V x->x<w.heap.size)(v:V g)(t:w.cell? ⟨g,10,I⟩=Y (.slice b.U.A b.U.n b.U.c)):
  WalkE F true (λV' z g' w'=>∃f',g'=G ((bs .normal 21).at (fa 48 f') [.code eY,.inLoop eY,.inBlock 2,.code qC]) cs/\Xv f' gc b.U.n 0 (.slice I 0 0)/\(∀x,V x->V' x)/\aH V w w'/\∀x,V' x->x<w'.heap.size)
   V O (G ((bs .normal 21).at (fa 48 f) [.code aaO]) cs) w:=by
 rw[L8];refine WalkE.seq (WalkE.reg (l:=[0]) rfl ?_);refine WalkE.gR (d:=8) (.slice I 0 0) rfl (.inr rfl) rfl rfl zz rfl sb ?_;refine WalkE.aT (WalkE.seq (WalkE.seq (WalkE.reg (l:=[0,1,2,3]) rfl ?_)));have o:(ah f 8 (.slice I 0 0)) 1=_:=nt k.f1;refine WalkE.jh (d:=27) (.pointer (Y ⟨g,10,I⟩)) rfl rfl zz rfl sb (λc n=>?_) (λc n=>?_) ?_
 .have h:(fa 48 (ah f 8 (.slice I 0 0))).eval (.tmp 1)=_:=ft o;simp only[yG,aaO,dz,bg,Tryz.f21,zE,Hn,h];go_simp
 .intro e a;have h:(fa 48 (ah f 8 (.slice I 0 0))).eval (.tmp 1)=_:=ft o;simp only[yG,aaO,dz,bg,Tryz.f21,zE,Hn,h]at a;simp[go_sem]at a
 refine WalkE.Rm (d:=28) ⟨g,10,I⟩ (.slice b.U.A b.U.n b.U.c) U4 rfl rfl (ft (au _ _ _)) v t rfl zz rfl sb ?_;refine WalkE.jh (d:=29) (.int .i64 b.U.n) rfl rfl zz rfl sb (λc n=>?_) (λc n=>?_) ?_
 .have j:(fa 48 (ah (ah (ah f 8 (.slice I 0 0)) 27 (.pointer (Y ⟨g,10,I⟩))) 28 (.slice b.U.A b.U.n b.U.c))).eval (.tmp 28)=_:=ft (au _ _ _);simp only[yG,aaO,dz,bg,Tryz.f21,zE,Hn,ab,zM,j];go_simp
 .intro e a;have j:(fa 48 (ah (ah (ah f 8 (.slice I 0 0)) 27 (.pointer (Y ⟨g,10,I⟩))) 28 (.slice b.U.A b.U.n b.U.c))).eval (.tmp 28)=_:=ft (au _ _ _);simp only[yG,aaO,dz,bg,Tryz.f21,zE,Hn,ab,zM,j]at a;simp[go_sem]at a
 refine WalkE.gR (d:=30) (.int .i64 0) rfl (.inl rfl) rfl rfl zz rfl sb ?_;refine WalkE.aT (WalkE.block (WalkE.loop ?_));refine WalkE.stop λc p=>⟨_,rfl,?_,λx y=>y,p,p.cX u⟩;have B:∀{x:Nat},x≠27->x≠28->x≠29->x≠30->(ah (ah (ah (ah (ah f 8 (.slice I 0 0)) 27 (.pointer (Y ⟨g,10,I⟩))) 28 (.slice b.U.A b.U.n b.U.c)) 29 (.int .i64 b.U.n)) 30 (.int .i64 0)) x=ah f 8 (.slice I 0 0) x:=λq h2 r s=>by
  rw[cu _ _ s,cu _ _ r,cu _ _ h2,cu _ _ q]
 exact⟨(B zz zz zz zz).tn (nt k.f6),(B zz zz zz zz).tn (au _ _ _),nt (au _ _ _),au _ _ _,λi hi=>(B zz zz zz zz).tn (nt (k.un i hi))⟩
theorem He(a:Xv f gc m k v)(hk:k<m)(s:m<=1000)(o:∀x,V x->x<w.heap.size)(q:V gc)(p:w.cell? ⟨gc,0,I⟩=Y (.chan (Y C))):
  WalkE F true (λV' n g' w'=>∃f',g'=G ((bs .normal 21).at (fa 48 f') (.inRegion iC [2,3,4,5]::.inBlock 3::.code (.region 14 qD false)::.inLoop eY::K)) cs/\Xv f' gc m k v/\f' 32=v/\f' 33=.chan (Y C)/\V'=V/\n=O/\aH V w w'/\∀x,V' x->x<w'.heap.size)
   V O (G ((bs .normal 21).at (fa 48 f) (.code eY::.inLoop eY::K)) cs) w:=by
 rw[show(Item.code eY)=.code (.seq (.region 12 tf false) (.seq (.cond (.tmp 31) .skip (.exit 2)) (.seq (.block 3 (.region 13 iC false)) (.region 14 qD false))))from cd _ aaJ];refine WalkE.seq (WalkE.reg (l:=[0]) rfl ?_);have c:(fa 48 f).eval (.tmp 30)=_:=ft a.f30;have b:(fa 48 f).eval (.tmp 29)=_:=ft a.f29;refine WalkE.jh (d:=31) (.bool true) rfl rfl zz rfl sb (λbj r=>?_) (λbj r=>?_) ?_
 .simp only[tf,eY,aaO,dz,bg,Tryz.f21,zE,Hn,c,b];go_simp
 .intro e g;simp only[tf,eY,aaO,dz,bg,Tryz.f21,zE,Hn,c,b]at g;simp[go_sem]at g
 refine WalkE.aT (WalkE.seq (WalkE.cond (t:=true) (ft (au _ _ _)) (WalkE.skip (WalkE.seq (WalkE.block (WalkE.reg (l:=[0,1,2,3,4,5]) rfl ?_))))));have h:=a.set (d:=31) (.bool true) zz;refine WalkE.gR (d:=32) v rfl (.inl rfl) (ft h.f8) rfl zz rfl sb ?_;have i:=h.set (d:=32) v zz;refine WalkE.Rm (d:=33) ⟨gc,0,I⟩ (.chan (Y C)) OV rfl rfl (ft i.f6) q p rfl zz rfl sb ?_;exact WalkE.stop λu j=>⟨_,rfl,i.set (d:=33) _ zz,nt (au _ _ _),au _ _ _,rfl,rfl,j,j.cX o⟩
def WW(d:f 33=.chan (Y C))(w:H):
  Lq F true (G ((bs .normal 21).at (fa 48 f) (.inRegion iC [2,3,4,5]::K)) cs) w=.comm (G ((bs .normal 21).at (fa 48 f) (.inRegion iC [2,3,4,5]::K)) cs) #[rcase C (.agg #[.int .i64 0,.int .i64 0])] true (.recv false) w #[]:=by
 have a:(fa 48 f).eval (.tmp 33)=_:=ft d;have c:(zeroValue 110).run F w=.ok (.agg #[.int .i64 0,.int .i64 0]) w:=by kernel_rfl
 have h:(zeroValue 110).events F w #[]= #[]:=by kernel_rfl
 have b:(underlying 108).run F w=.ok (.chan .both 110) w:=by kernel_rfl
 have g:(Hn (fa 48 f).eval (iC.getD 2 default)).run F w=.ok (.comm #[rcase C (.agg #[.int .i64 0,.int .i64 0])] true (.recv false)) w:=by
  simp only[iC,eY,aaO,dz,bg,Tryz.f21,zQ,Hn,a];simp[c,b,rcase]
 have e:(Hn (fa 48 f).eval (iC.getD 2 default)).events F w #[]= #[]:=by
  simp only[iC,eY,aaO,dz,bg,Tryz.f21,zQ,Hn,a];simp[c,b,h]
 rw[stepG_comm (o:=iC.getD 2 default) rfl rfl sb g,listed_none e]
def SY:(F.info? 110).map (λi=>(i.zero,i.size,i.bytes))=Y (Y (.agg #[.int .i64 0,.int .i64 0]),2,16):=by kernel_rfl
theorem Hf{V O:Nat->Prop}{w:H}{cs:List Kf}{K:List Item}{f:Nat->M}{gc m k:Nat}{v:M}{a c:Int}{xs:List M}(a4:Xv f gc m k v)(W:f 32=v)(Z:f 34=.agg #[.int .i64 a,.int .i64 c])(hk:k<m)(b1:m<=1000)(a2:∀x,V x->x<w.heap.size)
  (a6:w.ownsRow 0 110 2 v k xs)(A:∀g,v.ownBlock=Y g->V g/\O g):
  WalkE F true (λV' N g' w'=>∃f' v',g'=G ((bs .normal 21).at (fa 48 f') (.code eY::.inLoop eY::K)) cs/\Xv f' gc m (k+1) v'/\w'.ownsRow 0 110 2 v' (k+1) (xs++[.int .i64 a,.int .i64 c])/\(∀g,v'.ownBlock=Y g->V' g/\N g/\(v.ownBlock=Y g\/w.heap.size<=g))/\(∀x,V x->V' x)/\(∀x,V x->¬(v.ownBlock=Y x)->w'.heap[x]?=w.heap[x]?)/\
   (w'.tape=w.tape/\w'.os=w.os/\w'.output=w.output/\w.heap.size<=w'.heap.size)/\∀x,V' x->x<w'.heap.size)
   V O (G ((bs .normal 21).at (fa 48 f) (.inRegion iC [3,4,5]::.inBlock 3::.code (.region 14 qD false)::.inLoop eY::K)) cs) w:=by
 have Q:(fa 48 f).eval (.tmp 34)=_:=ft Z;refine WalkE.oa (d:=35) (.cells #[.int .i64 a,.int .i64 c] 110) (λn=>.slice (Y ⟨n,0,I⟩) 1 1) rfl rfl zz rfl sb (λbj L=>?_) (λbj L=>?_) (λbj p=>?_)
 .simp only[iC,eY,aaO,dz,bg,Tryz.f21,zE,Hn,zM,Q];go_simp
 .intro e s;simp only[iC,eY,aaO,dz,bg,Tryz.f21,zE,Hn,zM,Q]at s;simp[go_sem]at s
 obtain⟨q,J⟩:∃q,bj.heap.size=q:=⟨_,rfl⟩;rw[J];have E:=p.cX a2;have a0:(bj.alloc (.cells #[.int .i64 a,.int .i64 c] 110)).heap[q]?=Y (.cells #[.int .i64 a,.int .i64 c] 110 (0,0)):=by rw[<- J];exact Sp _ _
 have a7:(bj.alloc (.cells #[.int .i64 a,.int .i64 c] 110)).ownsRow 0 110 2 v k xs:=dL a6 λg o=>(QR _ _ (E g (A g o).1)).tn (p.keep g (A g o).1);have R:∀x,V x\/x=q->x<(bj.alloc (.cells #[.int .i64 a,.int .i64 c] 110)).heap.size:=λx b=>by
  rw[aa];rcases b with b|rfl
  .have:=E x b;omega
  .omega
 obtain⟨inf,hi,S⟩:=Option.map_eq_some_iff.1 SY;simp only[Prod.mk.injEq]at S;obtain⟨a',a8,a3⟩:=S;refine WalkE.Jp (d:=36) (t:=111) (e:=110) (inf:=inf) (z:=.agg #[.int .i64 0,.int .i64 0]) (size:=2) (bytes:=16) (v:=v) (l:=k) (xs:=xs) (ad:=⟨q,0,I⟩) (m:=1) (c:=1) (news:=[.int .i64 a,.int .i64 c]) rfl rfl kr hi a' a8 a3 rfl zz
  (ft (nt W)) a7 (λg o=>⟨.inl (A g o).1,.inl (A g o).2⟩) (ft (au _ _ _)) rfl (.inr rfl) (λj u a9=>?_) (by simp[M.oneCell']) (by show k+1<=9223372036854775807;omega) zz R rfl zz rfl sb (λv' w' V' N T q2 C q4 q5 y=>?_)
 .have:=nI bj #[.int .i64 a,.int .i64 c] 110 j u a9;rw[J]at this;exact this
 have B:=(a4.set (d:=35) (.slice (Y ⟨q,0,I⟩) 1 1) zz).set (d:=36) v' zz;refine WalkE.gR (d:=8) v' rfl (.inr rfl) (ft (au _ _ _)) rfl zz rfl sb ?_;refine WalkE.aT (WalkE.inBlock (WalkE.reg (l:=[0,1]) rfl ?_));have P:(fa 48 (ah (ah (ah f 35 (.slice (Y ⟨q,0,I⟩) 1 1)) 36 v') 8 v')).eval (.tmp 30)=_:=ft (nt B.f30);refine WalkE.jh (d:=37) (.int .i64 (k+1:Nat)) rfl rfl zz rfl sb (λU L=>?_) (λU L=>?_) ?_
 .simp only[qD,eY,aaO,dz,bg,Tryz.f21,zE,Hn,P];go_simp;rw[IntKind.wrap_i64];omega
 .intro e s;simp only[qD,eY,aaO,dz,bg,Tryz.f21,zE,Hn,P]at s;simp[go_sem]at s
 refine WalkE.gR (d:=30) (.int .i64 (k+1:Nat)) rfl (.inl rfl) (ft (au _ _ _)) rfl zz rfl sb ?_;refine WalkE.aT (WalkE.inLoop (WalkE.stop λU r=>?_));have a1:∀x,V' x->x<w'.heap.size:=λx b=>(q4 x b).elim (λh=>qP (R x h) y.2.2.2) (·.2);refine⟨_,v',rfl,⟨nt (nt (nt B.f6)),nt (nt (au _ _ _)),nt (nt (nt B.f29)),au _ _ _,λi hi=>nt (nt (nt (B.un i hi)))⟩,
  dL q2 λg o=>r.keep g (C g o).1,λg o=>⟨(C g o).1,(C g o).2.1,(C g o).2.2.imp id λh=>?_⟩,λx b=>T x (.inl b),λx b a5=>?_,⟨r.tape.tn (y.1.tn p.tape),r.os.tn (y.2.1.tn p.os),r.output.tn (y.2.2.1.tn p.output),?_⟩,r.cX a1⟩
 .have:=p.size;rw[aa]at h;omega
 .exact(r.keep x (T x (.inl b))).tn ((q5 x (.inl b) a5).tn ((QR _ _ (E x b)).tn (p.keep x b)))
 .have h1:=p.size;have h2:=y.2.2.2;have h3:=r.size;rw[aa]at h2;omega
def rF:∀(l s:List Nat),l.Nodup->(∀x∈l,x∈s)->l.length<=s.length
 | [],_,_,_=>qT _
 | a::l,s,b,d=>by
  obtain⟨g,s2,rfl⟩:=List.append_of_mem (d a ss);rw[List.nodup_cons]at b;have:=rF l (g++s2) b.2 λx f=>by
   have c:=d x (by simp[f]);have:x≠a:=λe=>b.1 (e▸f);simp only[nm,dq]at c|-;rcases c with h|h|h
   .exact .inl h
   .exact mi h this
   .exact .inr h
  simp at this|-;omega
def OZ{l:List Nat}(c:l.Nodup)(d:∀x∈l,base<=x/\x<base+m)(hl:l.length=m){k:Nat}(b:base<=k)(h2:k<base+m):k∈l:=by
 refine Classical.byContradiction λh=>?_;have:=rF (k::l) (List.range' base m) (by rw[List.nodup_cons];exact⟨h,c⟩) λx a=>by
  simp only[List.mem_range'_1];rcases dq.1 a with rfl|a
  .exact⟨b,h2⟩
  .exact d x a
 simp at this;omega
def th(base S n:Nat)(LL:List gM)(got:List (Nat×M)):List (Int×Int):=got.map λp=>(((p.1-base:Nat):Int),(iZ LL n ((p.1-base:Nat):Int) S:Int))
structure CL(Vb:Nat->Prop)(wh:H)(C base m S n:Nat)(LL:List gM)(v:M)(J:Gh)(w:H):Prop where
 md:J.md=.best
 df:J.df 0=0
 cD:J.cD 0
 bas:J.base=base
 pay:J.pay=GW base S n LL
 cz:J.cz=I
 num:J.num=base+m
 C:J.C=C
 sub:∀x,Vb x->J.V 0 x
 keep:aH Vb wh w
 cX:∀x,J.V 0 x->x<w.heap.size
 row:w.ownsRow 0 110 2 v J.got.length ((th base S n LL J.got).flatMap pG)
 own:∀g,v.ownBlock=Y g->J.V 0 g/\J.O 0 g/\wh.heap.size<=g
 nodup:(J.got.map (·.1)).Nodup
 range:∀p∈J.got,base<=p.1/\p.1<base+m
theorem Ma{V O:Nat->Prop}{w:H}{f:Nat->M}{v:M}(b:Xv f gc m m v)(k:m<=1000)(j:∀x,V x->x<w.heap.size):
  WalkE F true (λV' i g' w'=>∃f',g'=G ((bs .normal 21).at (fa 48 f') K) cs/\Xv f' gc m m v/\V'=V/\i=O/\aH V w w'/\∀x,V' x->x<w'.heap.size)
   V O (G ((bs .normal 21).at (fa 48 f) (.code eY::.inLoop eY::.inBlock 2::K)) cs) w:=by
 rw[show(Item.code eY)=.code (.seq (.region 12 tf false) (.seq (.cond (.tmp 31) .skip (.exit 2)) (.seq (.block 3 (.region 13 iC false)) (.region 14 qD false))))from cd _ aaJ];refine WalkE.seq (WalkE.reg (l:=[0]) rfl ?_);have g:(fa 48 f).eval (.tmp 30)=_:=ft b.f30;have c:(fa 48 f).eval (.tmp 29)=_:=ft b.f29;refine WalkE.jh (d:=31) (.bool false) rfl rfl zz rfl sb (λbj a=>?_) (λbj a=>?_) ?_
 .simp only[tf,eY,aaO,dz,bg,Tryz.f21,zE,Hn,g,c];go_simp
 .intro e h;simp only[tf,eY,aaO,dz,bg,Tryz.f21,zE,Hn,g,c]at h;simp[go_sem]at h
 refine WalkE.aT (WalkE.seq (WalkE.cond (t:=false) (ft (au _ _ _)) (WalkE.exit (k':=K) rfl ?_)));exact WalkE.stop λbj a=>⟨_,rfl,b.set _ zz,rfl,rfl,a,a.cX j⟩
def Mb{post:M->H->Prop}{Vb:Nat->Prop}{wh:H}{C base m S n gc:Nat}{LL:List gM}(Z:m<=1000)(b5:∀x,Vb x->x<wh.heap.size)(a8:Vb gc)(b9:wh.cell? ⟨gc,0,I⟩=Y (.chan (Y C)))
  (next:∀f J w v,Xv f gc m m v->CL Vb wh C base m S n LL v J w->J.got.length=m->aQ fI F post (G ((bs .normal 21).at (fa 48 f) K) cs) J w):
  ∀(j k:Nat),k+j=m->∀f J w v,Xv f gc m k v->CL Vb wh C base m S n LL v J w->J.got.length=k->
   aQ fI F post (G ((bs .normal 21).at (fa 48 f) (.code eY::.inLoop eY::.inBlock 2::K)) cs) J w:=by
 intro j
 induction j with
 | zero=>
  intro k hk f J w v V b A;obtain rfl:k=m:=zz;refine aQ.walk (Ma V Z b.cX) (O:=J.O 0) (λ_=>il) (λ_=>il) (λV' O' g' w' σ' a2 y R d=>?_);obtain⟨f',rfl,W,rfl,rfl,h2,h3⟩:=a2;have s:=(d.main rfl).2.2.1;refine next f' σ' w' v W ⟨d.md.tn b.md,d.df.tn b.df,d.cD.2 b.cD,d.base.tn b.bas,d.pay.tn b.pay,(d.main rfl).2.2.2.tn b.cz,(d.main rfl).1.tn b.num,d.C.tn b.C,λx i=>(y x).2 (b.sub x i),b.keep.tn (h2.mono b.sub),λx i=>h3 x ((y x).1 i),?_,λg o=>?_,by rw[s];exact b.nodup,by rw[s];exact b.range⟩ (by rw[s];exact A)
  .rw[s];exact dL b.row λg o=>h2.keep g (b.own g o).1
  .exact⟨(y g).2 (b.own g o).1,(R g).2 (b.own g o).2.1,(b.own g o).2.2⟩
 | succ j d2=>
  intro k hk f J w v V b A;have b':w.cell? ⟨gc,0,I⟩=Y (.chan (Y C)):=bu b.keep a8 b9;refine aQ.walk (He V zz Z b.cX (b.sub gc a8) b') (O:=J.O 0) (λ_=>il) (λ_=>il) (λV' O' g' w' σ' a2 y R d=>?_);obtain⟨f',rfl,W,b1,b2,rfl,rfl,h2,h3⟩:=a2;have s:=(d.main rfl).2.2.1;have a1:σ'.num=base+m:=(d.main rfl).1.tn b.num;have U:σ'.base=base:=d.base.tn b.bas;have a9:=d.pay.tn b.pay;have a6:σ'.C=C:=d.C.tn b.C;refine aQ.Zg (d.md.tn b.md) (d.df.tn b.df) (by rw[s,A,a1,U];omega) (z:=.agg #[.int .i64 0,.int .i64 0]) (ok:=false) (dp:=cs) (frv:=λu=>(bs .normal 21).at (fa 48 (ah f' 34 u)) (.inRegion iC [3,4,5]::.inBlock 3::.code (.region 14 qD false)::.inLoop eY::.inBlock 2::K))
   (λbj _=>by rw[a6];exact WW b2 bj) (λu=>?_) (λσ2 a4 t u h4 h5 h6 h7 h8 h9 a0 a5 Q c1 c5 b0 _ c9 d3=>?_)
  .rw[nV];rw[show(fa 48 f').put ((iC[2]?).bind (·.dst)) (recvd false u true)=fa 48 (ah f' 34 u)from cw zz]
  .rw[a9]at h7;have b3:u=.agg #[.int .i64 ((t-base:Nat):Int),.int .i64 (iZ LL n ((t-base:Nat):Int) S)]:=h7;subst b3;have B:∀x,σ2.V 0 x↔J.V 0 x:=λx=>by
    rw[h9 x,y x];exact⟨λh=>h.resolve_right (λh=>by obtain⟨a,l,c,e,-⟩:=h;cases e),.inl⟩
   have a':∀x,σ2.O 0 x↔J.O 0 x:=λx=>(a0 x).tn (R x);have e1:σ2.V 0=J.V 0:=funext λx=>propext (B x);have e2:σ'.V 0=J.V 0:=funext λx=>propext (y x);rw[e2]at a5;have P:aH (J.V 0) w a4:=h2.tn a5;have b7:∀x,σ2.V 0 x->x<a4.heap.size:=λx i=>P.cX b.cX x ((B x).1 i);have c2:Xv (ah f' 34 (.agg #[.int .i64 ((t-base:Nat):Int),.int .i64 (iZ LL n ((t-base:Nat):Int) S)])) gc m k v:=W.set _ zz;refine aQ.walk (Hf (k:=k) c2 (nt b1) (au _ _ _) zz Z b7 (by rw[<- A];exact dL b.row λg o=>P.keep g (b.own g o).1) (λg o=>⟨(B g).2 (b.own g o).1,(a' g).2 (b.own g o).2.1⟩)) (O:=σ2.O 0) (λ_=>il) (λ_=>il) (λV3 O3 g3 w3 a3 c8 T b4 q=>?_);obtain⟨f3,v3,rfl,c3,c7,c6,d1,c4,⟨t1,t2,t3,t4⟩,b8⟩:=c8;have N:a3.got=J.got++[(t,.agg #[.int .i64 ((t-base:Nat):Int),.int .i64 (iZ LL n ((t-base:Nat):Int) S)])]:=(q.main rfl).2.2.1.tn (h8.tn (by rw[s]));have c':∀x,Vb x->a3.V 0 x:=λx i=>(T x).2 (d1 x ((B x).2 (b.sub x i)));refine d2 (k+1) zz f3 a3 w3 v3 c3 ⟨q.md.tn (Q.md.tn (d.md.tn b.md)),q.df.tn c1,q.cD.2 (c9.2 (d.cD.2 b.cD)),q.base.tn (Q.base.tn U),q.pay.tn (Q.pay.tn a9),(q.main rfl).2.2.2.tn (b0.tn ((d.main rfl).2.2.2.tn b.cz)),(q.main rfl).1.tn (c5.tn a1),q.C.tn (Q.C.tn a6),c',?_,λx i=>b8 x ((T x).1 i),?_,λg o=>?_,?_,?_⟩ (by rw[N];simp[A])
   .have E:=b.keep.tn (P.mono b.sub);refine⟨t1.tn E.tape,t2.tn E.os,t3.tn E.output,qO E.size t4,λx i=>?_⟩;refine(c4 x ((B x).2 (b.sub x i)) λe=>?_).tn (E.keep x i);have h1:=(b.own x e).2.2;have h2:=b5 x i;omega
   .rw[N];simp only[th,mr,zM,List.flatMap_append,kl,ed,lA,A];exact c7
   .obtain⟨q1,q2,L⟩:=c6 g o;refine⟨(T g).2 q1,(b4 g).2 q2,?_⟩;rcases L with L|L
    .exact(b.own g L).2.2
    .exact qO (qO b.keep.size P.size) L
   .rw[N,mr,List.nodup_append];refine⟨b.nodup,by simp,λa b6 c a7=>?_⟩;simp only[zM,q8A]at a7;subst a7;rintro rfl;obtain⟨p,r,e⟩:=List.mem_map.1 b6;obtain⟨p1,p2⟩:=p;simp only at e;subst e;exact h6 p2 (by rw[s];exact r)
   .intro p r;rw[N]at r;rcases nm.1 r with r|r
    .exact b.range p r
    .simp only[q8A]at r;subst r;exact⟨by rw[<- U];exact h4,by rw[<- a1];exact h5⟩
def uV:Ly:=match qC with|.seq c _=>c|_=>.skip
def yH:Ly:=match qC with|.seq _ (.seq c _)=>c|_=>.skip
def aR(R:Act->H->Prop):Exit->Act->H->Prop
 | .normal,a,w=>R a w
 | _,_,_=>False
def aR.elim{R:Act->H->Prop}{e:Exit}{a:Act}(h:aR R e a w):e=.normal/\R a w:=by
 cases e<;>first|exact⟨rfl,h⟩|exact False.elim h
def WX{g n c:Nat}{L:List (Int×Int)}{s:Nat}(m:n=L.length)(p:n<=c)(hl:L.length<=1000)(f:g<w.heap.size)(q:s<=n)(h:∀j x,(L.flatMap pG)[j]?=Y x->w.cell? ⟨g,j,I⟩=Y x)(d:Int×Int):
  Y4 w ⟨Y ⟨g,s*2,I⟩,n-s,c-s⟩ (L.drop s) d:=by
 refine⟨by simp[m],by simp;omega,by simp;omega,λo=>⟨g,s*2,rfl,f,λk hk=>?_⟩⟩;have l:s+k<L.length:=by simp at hk;omega
 have e:∀j,j<2->w.cell? ⟨g,s*2+k*2+j,I⟩=(pG ((L.drop s).getD k d))[j]?:=λj i=>by
  have a:=fO pG 2 (λ_=>rfl) d L (s+k) j l i;have h2:(L.drop s).getD k d=L.getD (s+k) d:=by simp[List.getD_eq_getElem?_getD]
  rw[h2]
  cases b:(pG (L.getD (s+k) d))[j]? with
  | none=>
   rw[List.getElem?_eq_none_iff]at b;have:(pG (L.getD (s+k) d)).length=2:=rfl;omega
  | some x=>
   rw[b]at a;have:=h _ x a;rw[show s*2+k*2+j=(s+k)*2+j by omega];exact this
 exact⟨e 0 zz,e 1 zz⟩
theorem Hg(one:Int×Int)(L:List (Int×Int))(g n c:Nat)(W:H)(B:n=L.length+1)(K:n<=c)(S:c<=9223372036854775807)(hl:L.length<1000)(f:g<W.heap.size)(h:∀j x,((one::L).flatMap pG)[j]?=Y x->W.cell? ⟨g,j,I⟩=Y x):
  Ly.wp F uV (aR λa u=>a.defers=[]/\(a.tmps.size=48/\(∀i,(2<=i/\i<5)\/(44<=i/\i<48)->a.tmps[i]?=Y (kept i))/\∃l,a.tmps[9]?=Y (.pointer (Y ⟨l,0,I⟩))/\W.heap.size<=l/\u.heap[l]?=Y (.cells #[.int .i64 (dR jB one L).1,.int .i64 (dR jB one L).2] 110 (0,0))/\X W.heap.size W u))
   ⟨#[D,D,.int .i64 0,.int .i64 0,.int .i64 0,D,D,D,.slice (Y ⟨g,0,I⟩) n c,D,D,D,D,D,D,D,D,D,D,D,D,D,D,D,D,D,D,D,D,D,D,D,D,D,D,D,D,D,D,D,D,D,D,D,D,D,D,D],[]⟩ W:=by
 have E:W.cell? ⟨g,0,I⟩=Y (.int .i64 one.1):=h 0 _ rfl;have G:W.cell? ⟨g,1,I⟩=Y (.int .i64 one.2):=h 1 _ rfl;have A:=λw' (b:X W.heap.size W w')=>WX (w:=w') (g:=g) (n:=n) (c:=c) (L:=one::L) (s:=1) B K so (qP f b.size) zz (λj x N=>(b.cell (p:=⟨g,j,I⟩) f).tn (h j x N)) (0,0);have o:∀w',X W.heap.size W w'->PH F 56 #[.func (.func 57) #[] #[],.agg #[.int .i64 one.1,.int .i64 one.2],.slice (if c=1 then Y ⟨g,0,I⟩else Y ⟨g,2,I⟩) (n-1) (c-1)] w' λe O=>e=.returned (.agg #[.int .i64 (dR jB one L).1,.int .i64 (dR jB one L).2])/\X w'.heap.size w' O:=λw' b=>by
  by_cases d:c=1
  .rw[qWB d];have m:L=[]:=List.length_eq_zero_iff.1 zz;exact Jb jB (λ_=>True) one (0,0) ⟨Y ⟨g,0,I⟩,n-1,c-1⟩ L w' ⟨by show n-1=L.length;omega,by rw[m];exact qT _,by rw[m];exact qT _,λv=>by rw[m]at v;exact mi v (dj 0)⟩ qYB (λ_ _=>trivial) (λx y t _ _ _=>DG x y t)
  .rw[qVB d];exact Jb jB (λ_=>True) one (0,0) ⟨Y ⟨g,2,I⟩,n-1,c-1⟩ L w' (A w' b) qYB (λ_ _=>trivial) (λx y t _ _ _=>DG x y t)
 obtain⟨z,C⟩:∃z,dR jB one L=z:=⟨_,rfl⟩;rw[C]at o|-;have J:PQ (∀w',X W.heap.size W w'->w'.cell? ⟨g,0,I⟩=Y (.int .i64 one.1)/\w'.cell? ⟨g,1,I⟩=Y (.int .i64 one.2)/\g<w'.heap.size/\X W.heap.size W w'):=λw' b=>⟨(b.cell (p:=⟨_,_,I⟩) f).tn E,(b.cell (p:=⟨_,_,I⟩) f).tn G,by have:=b.size;omega,b⟩;have Q:(1:Int)<=(n:Int):=zz;have R:0<n:=zz;clear A h E G C B;unfold uV qC aaO dz bg Tryz.f21;dsimp only;obtain⟨V,Z,r2,r3⟩:=J.out W (X.refl _ _);by_cases d:c=1;all_goals simp only[d,if_true,if_false]at o
 all_goals
  go_region_with (go_at_call 56;(with_reducible refine(o _ bf).mono ?_);rintro e r ⟨rfl,k⟩;obtain⟨T,U⟩:=aU k;have P:=k.size;have q:X W.heap.size W r:=X.tn bf (k.mono ss);(first|(have a1:W.heap.size<r.heap.size:=(by simp only[aa,H.size_drew]at P;omega))|skip))
 all_goals
  first
   | exact⟨rfl,rfl,(λi hi=>(by have:i=2\/i=3\/i=4\/i=44\/i=45\/i=46\/i=47:=zz;rcases this with rfl|rfl|rfl|rfl|rfl|rfl|rfl<;>rfl)),r.heap.size,rfl,q.size,Sp _ _,aP q (qN _) _⟩
   | exact⟨rfl,rfl,(λi hi=>(by have:i=2\/i=3\/i=4\/i=44\/i=45\/i=46\/i=47:=zz;rcases this with rfl|rfl|rfl|rfl|rfl|rfl|rfl<;>rfl)),W.heap.size,rfl,qN _,(Gs _ _ ((k.block W.heap.size (by simp only[H.size_drew,aa];exact q7A _)).tn (Sp _ _))).1,jH (jH q (qN _) _) (qN _) _⟩
theorem Hh(z:Int×Int)(g:Nat)(W:H)(c:W (g,0)=Y (.int .i64 z.1))(d:W (g,1)=Y (.int .i64 z.2)):
  Ly.wp F yH (aR λa b=>a.defers=[]/\(a.tmps.size=48/\a.tmps[2]?=Y (.int .i64 z.1)/\a.tmps[3]?=Y (.int .i64 z.2)/\a.tmps[4]?=Y (.int .i64 0)))
   ⟨#[D,D,.int .i64 0,.int .i64 0,.int .i64 0,D,D,D,D,.pointer (Y (g,0)),D,D,D,D,D,D,D,D,D,D,D,D,D,D,D,D,D,D,D,D,D,D,D,D,D,D,D,D,D,D,D,D,D,D,D,D,D,D],[]⟩ W:=by
 unfold yH qC aaO dz bg Tryz.f21;dsimp only;go_quiet (fail);exact⟨rfl,rfl,rfl,rfl,rfl⟩
variable{x y:Int×Int}{S sz:Nat}{got:List (Nat×M)}
section
open Go.ConcN (upd upd_same upd_ne)
def Ep:jB x y=true↔y.2<x.2\/(x.2=y.2/\x.1<y.1):=by simp[jB]
def wU:jB x y=false↔¬(y.2<x.2\/(x.2=y.2/\x.1<y.1)):=by rw[<- Ep];simp
def uh:List (Int×Int)->Int×Int
 | []=>(0,0)
 | a::r=>dR jB a r
def abi:∀(L:List (Int×Int)) (one:Int×Int),dR jB one L∈one::L/\∀y∈one::L,jB y (dR jB one L)=false
 | [],one=>⟨by simp[dR],λy a=>by
   simp at a;subst a;rw[wU];simp[dR]⟩
 | x::L,one=>by
  have e:dR jB one (x::L)=dR jB (if jB x one=true then x else one) L:=rfl;obtain⟨b,h2⟩:=abi L (if jB x one=true then x else one);rw[<- e]at b h2;generalize dR jB one (x::L)=z at b h2;by_cases c:jB x one=true
  .rw[qWB c]at b h2;refine⟨by simp only[dq]at b |-; exact .inr b,λy a=>?_⟩;rcases dq.1 a with rfl|a
   .have d:=h2 x ss;rw[wU]at d|-;rw[Ep]at c;omega
   .exact h2 y a
  .rw[qVB c]at b h2;refine⟨by simp only[dq]at b |-; exact b.imp id .inr,λy a=>?_⟩;rcases dq.1 a with rfl|a
   .exact h2 y ss
   .rcases dq.1 a with rfl|a
    .have d:=h2 one ss;have f:jB y one=false:=by simpa using c
     rw[wU]at d f|-;omega
    .exact h2 y (by simp[a])
def Pa{l l':List (Int×Int)}(h:l≠[])(b:∀x,x∈l↔x∈l'):uh l=uh l':=by
 have g:l'≠[]:=λe=>by
  obtain⟨a,m⟩:=List.exists_mem_of_ne_nil l h;have:=(b a).1 m;rw[e]at this;cases this
 obtain⟨a,r,rfl⟩:=List.exists_cons_of_ne_nil h;obtain⟨c,d,rfl⟩:=List.exists_cons_of_ne_nil g;obtain⟨i,h2⟩:=abi r a;obtain⟨j,k⟩:=abi d c;have e1:=k _ ((b _).1 i);have f:=h2 _ ((b _).2 j);show dR jB a r=dR jB c d;rw[wU]at e1 f;exact Prod.ext zz zz
def BO(m S n:Nat)(LL:List gM):List (Int×Int):=(List.range m).map λh:Nat=>((h:Int),(iZ LL n (h:Int) S:Int))
def Pb(c:(got.map (·.1)).Nodup)(b:∀p∈got,base<=p.1/\p.1<base+m)(hl:got.length=m)(x:Int×Int):x∈th base S n LL got↔x∈BO m S n LL:=by
 unfold th BO;simp only[List.mem_map,List.mem_range];constructor
 .rintro⟨p,a,rfl⟩;exact⟨p.1-base,by have:=b p a;omega,rfl⟩
 .rintro⟨h,f,rfl⟩;have:=OZ (base:=base) (m:=m) c (λx d=>by
   obtain⟨p,a,rfl⟩:=List.mem_map.1 d;exact b p a) (by rw[lj];exact hl) (k:=base+h) zz zz
  obtain⟨p,a,e⟩:=List.mem_map.1 this;exact⟨p,a,by rw[e,show base+h-base=h by omega]⟩
def Mc(c:0<m)(a:(got.map (·.1)).Nodup)(b:∀p∈got,base<=p.1/\p.1<base+m)(hl:got.length=m):uh (th base S n LL got)=uh (BO m S n LL):=
 Pa (λe=>by
  have:(th base S n LL got).length=got.length:=by simp[th]
  rw[e]at this;simp at this;omega) (Pb a b hl)
def uW{sz x:Nat}:(settled J sz).V 0 x↔x<sz/\¬J.hid x:=by simp only[settled,Sx]
def Me{sz x:Nat}:(settled J sz).O 0 x↔x<sz/\¬J.hid x:=by simp only[settled,Sx]
def SZ:Ly:=.seq yH .ret
def Mf:qC=.seq uV SZ:=rfl
def Er{post:M->H->Prop}{Vb:Nat->Prop}{wh:H}{C base m S n:Nat}{v:M}{w:H}{f:Nat->M}{cs:List Kf}(a:CL Vb wh C base m S n LL v J w)(c:J.got.length=m)(s:f 8=v)
  (next:∀σ' w',Idle σ' w'->(∀x,Vb x->σ'.V 0 x)->aH Vb wh w'->w'.ownsRow 0 110 2 v m ((th base S n LL J.got).flatMap pG)->(∀g,v.ownBlock=Y g->σ'.V 0 g)->aQ fI F post (G ((bs .normal 21).at (fa 48 f) [.code uV,.code SZ]) cs) σ' w'):
  aQ fI F post (G ((bs .normal 21).at (fa 48 f) [.code qC]) cs) J w:=by
 rw[Mf];refine aQ.stepT (λσ1 bj d o=>⟨_,_,bj, #[],σ1.V 0,σ1.O 0,stepG_seq,jV bj,λt e=>?_⟩);rw[nT]at e|-;have hk:=d.kin;obtain⟨q,u,r,y⟩:=hk.main rfl;have l:=e.SU (hk.md.tn a.md) (λk i h2=>by
  rw[r];have:=OZ (base:=base) (m:=m) a.nodup (λx b=>by
   obtain⟨p,h,rfl⟩:=List.mem_map.1 b;exact a.range p h) (by rw[lj];exact c) (k:=k) (by rw[hk.base,a.bas]at i;exact i) (by rw[q,a.num]at h2;exact h2)
  obtain⟨p,h,rfl⟩:=List.mem_map.1 this;exact⟨p.2,h⟩)
 refine⟨_,l.1,l.2,?_⟩;have j:∀x,J.V 0 x->(settled σ1 bj).V 0 x:=λx b=>by
  have:=(d.V x).2 b;exact uW.2 ⟨o x this,e.m.nhid 0 x this⟩
 exact next _ bj ⟨rfl,hk.df.tn a.df,rfl,λx=>by rw[uW,Me],λx b=>(uW.1 b).1⟩ (λx b=>j x (a.sub x b)) (a.keep.tn (d.w.mono a.sub)) (by rw[<- c];exact dL a.row λg c=>d.w.keep g (a.own g c).1) (λg c=>j g (a.own g c).1)
def pQ(_ i:Nat):Kd:=if i=9\/i=39 then .addr else if i=8\/i=38\/(40<=i/\i<48)\/(2<=i/\i<5)then .val else .junk
def U6(_ i:Nat):Kd:=if i=9\/i=44\/i=46 then .addr else if i=2\/i=3\/i=4\/i=45\/i=47 then .val else .junk
def WY:ez (TJ pQ .skip) F ((TJ pQ .skip).kind 21) uV=true:=by kernel_rfl
def WZ:ez (TJ U6 .skip) F ((TJ U6 .skip).kind 21) yH=true:=by kernel_rfl
end
variable{k:Kd}
section
open Go.ConcN (upd upd_same upd_ne)
end
end Go.Proofs.YthfhocgpjjkjlaaGreatDoor
open Go in
open Go.Proofs.YthfhocgpjjkjlaaGreatDoor in
open Go.RowKit Go.Co Go.Conc in
open Go.ConcN (upd upd_same upd_ne) in
def Go.Co.Base.tj{k:Nat->Nat->Kd}{r:Ly}{V:Nat->Prop}{w:Cl}{e0:Lk}(h:Base TA V w e0):Base (TJ k r) V w e0:=⟨h.v0,h.cells,h.glob⟩
namespace Go.Proofs.YthfhocgpjjkjlaaGreatDoor
open Go.RowKit Go.Co Go.Conc
variable{Z:Ren}{v' v:M}{T:P3}{V:Nat->Prop}{w:H}{g n:Nat}{b:aC}{e0:Lk}{l:pK}
variable{b:Kf}{a:Act}{i:Nat}
variable{f:Nat->M}{gk gc m k:Nat}
variable{K:List Item}{cs:List Kf}{O V0:Nat->Prop}{w0 w':H}{b:aC}{LL:List gM}{base:Nat}{J σ':Gh}
variable{C:Nat}
variable{x y:Int×Int}{S sz:Nat}{got:List (Nat×M)}
variable{k:Kd}
section
open Go.ConcN (upd upd_same upd_ne)
def Jq(h:i<5):kept i=.int .i64 0:=qWB h
def Jr(h:¬i<5):kept i=D:=qVB h
def Js(Z:Ren)(i:Nat)(h:i<5->k=.val):dM Z k (kept i) (kept i):=by
 by_cases a:i<5
 .rw[Jq a,h a];exact .int _ _
 .rw[Jr a];exact qw
def Mg{x:M}(r:dM Z k (kept i) x)(h:i<5->k=.val)(b:k≠.junk):x=kept i:=by
 by_cases a:i<5
 .rw[Jq a]at r|-;rw[h a]at r;exact aG _ _ _ _ r
 .rw[Jr a]at r|-;exact sV r b
def Jt:∀L:List (Int×Int),(L.flatMap pG).length=L.length*2
 | []=>rfl
 | a::L=>by rw[lv,kl,Jt L,ed];simp only[pG,ed,lA];omega
def S0(g n c:Nat)(i:Nat):M:=if i=8 then .slice (Y (g,0)) n c else if 2<=i/\i<5 then .int .i64 0 else D
def S1(g:Nat)(i:Nat):M:=if i=9 then .pointer (Y (g,0))else if 2<=i/\i<5 then .int .i64 0 else D
def Es{κ:Nat->Kd}{f g:Nat->M}(h:∀i,i<n->dM Z (κ i) (f i) (g i)):KR κ Z ((Array.range n).map f) ((Array.range n).map g):=by
 refine⟨by simp,λi x y c d=>?_⟩;have a:i<n:=by have:=(ec.1 c).1;simpa using this
 have e1:=ej (n:=n) (f:=f) a;have b:=ej (n:=n) (f:=g) a;rw[show(fa n f).tmps[i]?=Y x from c]at e1;rw[show(fa n g).tmps[i]?=Y y from d]at b;have e:=km e1;have j:=km b;rw[e,j];exact h i a
def BP(h:(2<=i/\i<5)\/(44<=i/\i<48)):pQ 21 i=.val:=by
 unfold pQ;rw[qVB zz,qWB zz]
def Mh{Stop:(Nat->Prop)->(Nat->Prop)->QP->H->Prop}{V O:Nat->Prop}{g n c:Nat}{L:List (Int×Int)}{c0:Kf}{cs:List Kf}(hB:Base TA V w e0)(a':∀x,V x->x<w.heap.size)
  (h8:f 8=.slice (Y ⟨g,0,I⟩) n c)(d8:∀i,(2<=i/\i<5)\/i=9\/(38<=i/\i<48)->f i=kept i)(b4:n=L.length)(d1:L≠[])(hl:L.length<=1000)(c4:n<=c)(c5:c<=9223372036854775807)(a1:bV TA V w g (n*2))
  (c6:∀j x,(L.flatMap pG)[j]?=Y x->w.cell? ⟨g,j,I⟩=Y x)
  (a9:∀m E bj,(∀x,m x↔V x\/(m x/\E x/\w.heap.size<=x))->(∀x,E x↔O x\/(m x/\E x/\w.heap.size<=x))->aH V w bj->(∀x,m x->x<bj.heap.size)->
   WalkE F true Stop m E (G (c0.finish (.tuple #[.int .i64 (uh L).1,.int .i64 (uh L).2,.int .i64 0])) cs) bj):
  WalkE F true Stop V O (G ((bs .normal 21).at (fa 48 f) [.code uV,.code SZ]) (c0::cs)) w:=by
 obtain⟨one,C,rfl⟩:=List.exists_cons_of_ne_nil d1;obtain⟨z,b6⟩:∃z,uh (one::C)=z:=⟨_,rfl⟩;have d0:dR jB one C=z:=b6;rw[b6]at a9;have c':n=C.length+1:=b4;have d':Shown TA V w g:=a1.shown;have b':(Array.range 48).map (S0 g n c)= #[D,D,.int .i64 0,.int .i64 0,.int .i64 0,D,D,D,.slice (Y ⟨g,0,I⟩) n c,D,D,D,D,D,D,D,D,D,D,D,D,D,D,D,D,D,D,D,D,D,D,D,D,D,D,D,D,D,D,D,D,D,D,D,D,D,D,D]:=by kernel_rfl
 refine qc (T:=TJ pQ .skip) (hB:=hB.tj) (tm0:=(Array.range 48).map (S0 g n c)) (Q:=aR λa u=>∃t,a.defers=[]/\(a.tmps.size=48/\(∀i,(2<=i/\i<5)\/(44<=i/\i<48)->a.tmps[i]?=Y (kept i))/\∃o,a.tmps[9]?=Y (.pointer (Y ⟨o,0,I⟩))/\w.heap.size<=o/\u.heap[o]?=Y (.cells #[.int .i64 z.1,.int .i64 z.2] 110 (0,0))/\X w.heap.size (tp (gw (TJ pQ .skip) V e0 w) t w.drawn) u))
  (Q':=λtm u=>tm.size=48/\(∀i,(2<=i/\i<5)\/(44<=i/\i<48)->tm[i]?=Y (kept i))/\∃o,tm[9]?=Y (.pointer (Y ⟨o,0,I⟩))/\w.heap.size<=o/\u.heap[o]?=Y (.cells #[.int .i64 z.1,.int .i64 z.2] 110 (0,0)))
  (Eo _ _) WY ss a' (Es λi hi=>?_) (λt=>?_) (λe a W h=>?_) (λZ e5 W1 e1 bj m E d2 a3 d=>?_)
 .show dM (gr hB.tj) (pQ 21 i) (S0 g n c i) (f i);by_cases J:i=8
  .subst J;rw[h8];have k8:pQ 21 8=.val:=by unfold pQ;simp
   rw[k8];have d9:Shown (TJ pQ .skip) V w g:=d';exact .slice n c ⟨rfl,rfl,0,mH d9,rfl,rfl⟩
  .by_cases R:(2<=i/\i<5)\/i=9\/(38<=i/\i<48)
   .rw[d8 i R];have:S0 g n c i=kept i:=by
     unfold S0 kept;rw[qVB J];by_cases s:i<5
     .rw[qWB zz,qWB s]
     .rw[qVB zz,qVB s]
    rw[this];exact Js _ i λh=>BP zz
   .have:pQ 21 i=.junk:=by
     unfold pQ;rw[qVB zz,qVB zz]
    rw[this];exact .junk
 .rw[b'];have b7:(tp (gw (TJ pQ .skip) V e0 w) t w.drawn).heap.size=w.heap.size:=dW;have:=Hg one C g n c (tp (gw (TJ pQ .skip) V e0 w) t w.drawn) c' c4 c5 (by simp at hl;omega) (by rw[b7];exact a' _ a1.1) (λj x P=>?_)
  .rw[d0,b7]at this;intro b k cs;obtain⟨e,a,W,h,d4⟩:=this b k cs;obtain⟨rfl,h⟩:=h.elim;exact⟨.normal,a,W,⟨t,h⟩,d4⟩
  .have b3:j<n*2:=by
    have y:=(List.getElem?_eq_some_iff.1 P).1;rw[show((one::C).flatMap pG).length=n*2 from(Jt _).tn (by rw[b4])]at y;exact y
   have c7:bV (TJ pQ .skip) V w g (n*2):=a1;exact(dO c7 b3).tn (c6 j x P)
 .obtain⟨rfl,t,y,h2,h3,o,h4,s,h6,-⟩:=h.elim;exact⟨rfl,y,h2,h3,o,h4,s,h6⟩
 .obtain⟨q1,q2,o,q3,q4,q5⟩:=d2;obtain⟨f',c1,b1⟩:=qd (A:=e1) (n:=48) (by rw[<- a3.1];exact q1);have k9:dM Z .addr (.pointer (Y ⟨o,0,I⟩)) (f' 9):=by rw[b1];exact a3.at_ q3
  obtain⟨r,e9,r9,c9⟩:=d.ptr q4 k9;have c8:∀i,(2<=i/\i<5)\/(44<=i/\i<48)->f' i=kept i:=λi hi=>Mg (k:=pQ 21 i) (by rw[b1];exact a3.at_ (q2 i hi)) (λ_=>BP hi) (by rw[BP hi];simp);obtain⟨cb,e3,a0,b2⟩:=d.block q5 r9 c9;obtain⟨v0,b5,d5⟩:=b2 0 _ rfl;obtain⟨v1,a4,d6⟩:=b2 1 _ rfl;have b8:=aG _ _ _ _ d5;have b9:=aG _ _ _ _ d6;subst b8 b9;have c3:∀x,m x->x<bj.heap.size:=d.vb;have S:∀x,V x->m x:=λx P=>(d.hV x).2 (.inl P);have a8:Base TA m bj e0:=hB.mono S d.keep;have a6:∀{i:Nat} {x:M},cb[i]?=Y x->bj.cell? ⟨r,i,I⟩=Y x:=λh2=>by
   unfold H.cell?;dsimp only;rw[a0];exact h2
  have e4:1<cb.size:=(ec.1 a4).1;have a2:bV (TJ U6 .skip) m bj r 2:=⟨d.see _ _ _ r9,cb,110,e3,a0,zz,λj v b3 N=>by
   have:j=0\/j=1:=zz;rcases this with rfl|rfl
   .rw[show cb[0]?=_ from b5]at N;cases N;exact .inl (cR _ _)
   .rw[show cb[1]?=_ from a4]at N;cases N;exact .inl (cR _ _)⟩
  subst c1;have b0:(Array.range 48).map (S1 r)= #[D,D,.int .i64 0,.int .i64 0,.int .i64 0,D,D,D,D,.pointer (Y ⟨r,0,I⟩),D,D,D,D,D,D,D,D,D,D,D,D,D,D,D,D,D,D,D,D,D,D,D,D,D,D,D,D,D,D,D,D,D,D,D,D,D,D]:=by kernel_rfl
  rw[show Item.code SZ=.code (.seq yH .ret)from rfl];refine WalkE.seq (b:=bs .normal 21) (a:=⟨(Array.range 48).map f',[]⟩) ?_;refine qc (T:=TJ U6 .skip) (hB:=a8.tj) (tm0:=(Array.range 48).map (S1 r)) (Q:=aR λa u=>a.defers=[]/\(a.tmps.size=48/\a.tmps[2]?=Y (.int .i64 z.1)/\a.tmps[3]?=Y (.int .i64 z.2)/\a.tmps[4]?=Y (.int .i64 0)))
   (Q':=λtm u=>tm.size=48/\tm[2]?=Y (.int .i64 z.1)/\tm[3]?=Y (.int .i64 z.2)/\tm[4]?=Y (.int .i64 0))
   (Eo _ _) WZ ss c3 (Es λi hi=>?_) (λt=>?_) (λe a W h=>?_) (λa5 e6 W2 e2 a7 V2 O2 d3 K l=>?_)
  .show dM (gr a8.tj) (U6 21 i) (S1 r i) (f' i);by_cases J:i=9
   .subst J;rw[e9];exact .ptr ⟨rfl,rfl,0,mH a2.shown,rfl,rfl⟩
   .by_cases R:(2<=i/\i<5)\/(44<=i/\i<48)
    .rw[c8 i R];have:S1 r i=kept i:=by
      unfold S1 kept;rw[qVB J];by_cases s:i<5
      .rw[qWB zz,qWB s]
      .rw[qVB zz,qVB s]
     rw[this];refine Js _ i λh=>?_;unfold U6;rw[qVB zz,qWB zz]
    .have:U6 21 i=.junk:=by
      unfold U6;rw[qVB zz,qVB zz]
     rw[this];exact .junk
  .rw[b0];exact Hh z r _ ((dO a2 zz).tn (a6 b5)) ((dO a2 zz).tn (a6 a4))
  .obtain⟨rfl,y,h2⟩:=h.elim;exact⟨rfl,y,h2⟩
  .obtain⟨s1,s2,s3,s4⟩:=d3;obtain⟨f2,c2,U⟩:=qd (A:=e2) (n:=48) (by rw[<- K.1];exact s1);have m2:f2 2=.int .i64 z.1:=aG _ _ a5 _ (by rw[U];exact K.at_ s2);have m3:f2 3=.int .i64 z.2:=aG _ _ a5 _ (by rw[U];exact K.at_ s3);have m4:f2 4=.int .i64 0:=aG _ _ a5 _ (by rw[U];exact K.at_ s4);subst c2;refine WalkE.ret (b:=bs .normal 21) (a:=⟨(Array.range 48).map f2,[]⟩) ?_;have d7:∀B:H,(results Tryz.f21 ((Array.range 48).map f2)).run F B=.ok (.tuple #[.int .i64 z.1,.int .i64 z.2,.int .i64 0]) B:=λB=>by
    have t2:((Array.range 48).map f2)[2]?=Y (f2 2):=ej (n:=48) (f:=f2) zz;have t3:((Array.range 48).map f2)[3]?=Y (f2 3):=ej (n:=48) (f:=f2) zz;have t4:((Array.range 48).map f2)[4]?=Y (f2 4):=ej (n:=48) (f:=f2) zz;generalize(Array.range 48).map f2=A at t2 t3 t4;unfold results Tryz.f21;simp[t2,t3,t4,m2,m3,m4]
   refine WalkE.leave (fn:=Tryz.f21) (v:=.tuple #[.int .i64 z.1,.int .i64 z.2,.int .i64 0]) rfl rfl Tryz.func21 (λB _=>d7 B) (λB _=>?_) ?_
   .generalize(Array.range 48).map f2=A;unfold results Tryz.f21;simp
   .exact a9 V2 O2 a7 (λx=>⟨λh=>by
     rcases(l.hV x).1 h with p|p
     .rcases(d.hV x).1 p with q|q
      .exact .inl q
      .exact .inr ⟨h,(l.hO x).2 (.inl q.2.1),q.2.2⟩
     .exact .inr ⟨h,p.2.1,qO d.size p.2.2⟩,λh=>h.elim (λh=>(l.hV x).2 (.inl (S x h))) (·.1)⟩)
     (λx=>⟨λh=>by
     rcases(l.hO x).1 h with p|p
     .rcases(d.hO x).1 p with q|q
      .exact .inl q
      .exact .inr ⟨(l.hV x).2 (.inl q.1),h,q.2.2⟩
     .exact .inr ⟨p.1,h,qO d.size p.2.2⟩,λh=>h.elim (λh=>(l.hO x).2 (.inl ((d.hO x).2 (.inl h)))) (·.2.1)⟩)
     ((⟨d.tape,d.os,d.output,d.size,d.keep⟩:aH V w bj).tn ((⟨l.tape,l.os,l.output,l.size,l.keep⟩:aH m bj a7).mono S)) l.vb
end
variable{bits k:Nat}{W:List (Int×Int×Bool)}
def dh(bits k:Nat):List Int:=((List.range k).filter λi=>bits.testBit i).map λi:Nat=>(i:Int)
def iJ(W:List (Int×Int×Bool))(bits k:Nat):List (Int×Int×Bool):=((List.range k).filter λi=>bits.testBit i).map λi:Nat=>W.getD i (0,0,false)
def AM(h:bits.testBit k=true):dh bits (k+1)=dh bits k++[(k:Int)]:=by
 unfold dh;rw[List.range_succ,qBB,mr];simp[h]
def Et(h:bits.testBit k=false):dh bits (k+1)=dh bits k:=by
 unfold dh;rw[List.range_succ,qBB,mr];simp[h]
def AN(h:bits.testBit k=true):iJ W bits (k+1)=iJ W bits k++[W.getD k (0,0,false)]:=by
 unfold iJ;rw[List.range_succ,qBB,mr];simp[h]
def Eu(h:bits.testBit k=false):iJ W bits (k+1)=iJ W bits k:=by
 unfold iJ;rw[List.range_succ,qBB,mr];simp[h]
def W4:∀bits:Nat,bits<16->∀k:Nat,k<4->(Go.bits BinOp.and IntKind.i64 ((bits:Int)/2^min k 64) 1==1)=Nat.testBit bits k:=by decide
end Go.Proofs.YthfhocgpjjkjlaaGreatDoor
namespace Go.Proofs.YthfhocgpjjkjlaaGreatDoor
open Go.RowKit Go.Co
section
variable{W wr w:H}{b:aC}{l:pK}{bits k B size n:Nat}{i5 i12:Sl}{K:Act->H->Prop}{Q:Exit->Act->H->Prop}{v:M}{xs:List M}
structure gZ(W:H)(b:aC)(l:pK)(bits k:Nat)(i5 i12:Sl)(wr:H):Prop where
 n5:i5.n=(dh bits k).length
 n12:i12.n=(iJ l.W bits k).length
 row5:wr.ownsRow (W.heap.size+1) 3 1 (.slice i5.A i5.n i5.c) i5.n ((dh bits k).map (M.int .i64))
 row12:wr.ownsRow (W.heap.size+1) 72 3 (.slice i12.A i12.n i12.c) i12.n ((iJ l.W bits k).flatMap rO)
 box:aK wr W.heap.size 75 {b with W:=i12}
 dis:∀g,M.ownBlock (.slice i5.A i5.n i5.c)=Y g->M.ownBlock (.slice i12.A i12.n i12.c)≠Y g
 low:X W W wr
def gZ.alloc(h:gZ W b l bits k i5 i12 wr)(o:Obj):gZ W b l bits k i5 i12 (wr.alloc o):=
 ⟨h.n5,h.n12,h.row5.alloc o,h.row12.alloc o,(QR _ _ h.box.lt).tn h.box,h.dis,h.low.alloc h.low.size o⟩
def gZ.drew(h:gZ W b l bits k i5 i12 wr):gZ W b l bits k i5 i12 wr.drew:=
 ⟨h.n5,h.n12,h.row5,h.row12,h.box,h.dis,lH h.low⟩
def oZ:Array Kp:=match bD with|.seq _ (.seq _ (.seq _ (.seq (.seq _ (.block _ (.loop (.seq _ (.seq _ (.seq (.block _ (.seq _ (.seq _ (.cond _ (.region _ ops _) _)))) _)))))) _)))=>ops|_=> #[]
section
variable{P:Ps}{ops:Array Kp}{R:Act->H->Prop}{md:Region.Mode}{S:H->Prop}{late:Nat->Bool}{n d i k:Nat}{f:Nat->M}{oi:Kp}{w w':H}{L:Array Bool}
def uj(v:M)(hi:ops[i]?=Y oi)(b:oi.dst=Y d)(g:d<n)(e:oi.guard=I)(l:Region.noSelect ops=true)(c:Region.free md ops L i=true)(j:(Region.ready md ops L).contains i=true)(m:nN md ops late i=true)
  (o:∀w',S w'->(Hn (fa n f).eval oi).run P w'=.ok (.value v) w')(a:S w)
  (h:wpAnyL P md ops (aR R) S late k (L.setIfInBounds i true) (fa n (ah f d v)) w):wpAnyL P md ops (aR R) S late (k+1) L (fa n f) w:=
 qQ (v:=v) hi l c j m (λ_ _ _ h=>h) (.inl ⟨bY e,o⟩) a (by rw[b,cw g];exact h)
def Pc(v:M)(hi:ops[i]?=Y oi)(a:oi.dst=Y d)(c:d<n)(b:oi.guard=I)(e:(Hn (fa n f).eval oi).run P w=.ok (.value v) w')(h:K (fa n (ah f d v)) w'):wpOp P ops Q i K (fa n f) w:=by
 unfold wpOp;simp only[hi,bY b,if_true,Kp.wp,e,Kp.upon];rw[a,cw c];exact .inl h
def TE(hi:ops[i]?=Y oi)(a:oi.dst=I)(b:oi.guard=I)(c:(Hn (fa n f).eval oi).run P w=.ok .skip w')(h:K (fa n f) w'):wpOp P ops Q i K (fa n f) w:=by
 unfold wpOp;simp only[hi,bY b,if_true,Kp.wp,c,Kp.upon];rw[a];exact .inl h
def bl{a:Act}(b:List Nat)(c:Region.ready md ops L=b)(f:b≠[])(h:∀i∈b,wpOp P ops Q i (λd w'=>(late i=false->S w')/\wpAnyL P md ops Q S late k (L.setIfInBounds i true) d w') a w):wpAnyL P md ops Q S late (k+1) L a w:=by
 refine⟨λe=>mi (c.symm.tn e) f,λi hi=>h i (c▸hi)⟩
end
structure St(f0:Nat->M)(W:H)(b:aC)(l:pK)(bits k:Nat)(i5 i12:Sl)(x:Int×Int×Bool)(p7:Nat)(p2 p8 p3:Bool)(f:Nat->M)(w:H):Prop where
 keep:∀i,i≠5->¬(25<=i/\i<=36)->f i=f0 i
 c4:f 4=(W.heap.size,0)
 c25:f 25=.slice i5.A i5.n i5.c
 c26:f 26=k
 c31:f 31=.slice i12.A i12.n i12.c
 c32:f 32=.agg #[.int .i64 x.1,.int .i64 x.2.1,.bool x.2.2]
 n5:i5.n=(dh bits k).length
 n12:i12.n=(iJ l.W bits k).length
 v5:p3=false->w.ownsRow (W.heap.size+1) 3 1 (.slice i5.A i5.n i5.c) i5.n ((dh bits k).map (M.int .i64))
 v12:w.ownsRow (W.heap.size+1) 72 3 (.slice i12.A i12.n i12.c) i12.n ((iJ l.W bits k).flatMap rO)
 dis:∀g,M.ownBlock (.slice i5.A i5.n i5.c)=Y g->M.ownBlock (.slice i12.A i12.n i12.c)≠Y g
 n2:p2=true->∃u,f 27=.slice (Y (u,0)) 1 1/\w.heap[u]?=Y (.cells #[.int .i64 k] 3 (0,0))/\M.ownBlock (.slice i5.A i5.n i5.c)≠Y u/\M.ownBlock (.slice i12.A i12.n i12.c)≠Y u
 n8:p8=true->∃u,f 33=.slice (Y (u,0)) 1 1/\w.heap[u]?=Y (.cells #[.int .i64 x.1,.int .i64 x.2.1,.bool x.2.2] 72 (0,0))/\M.ownBlock (.slice i5.A i5.n i5.c)≠Y u/\M.ownBlock (.slice i12.A i12.n i12.c)≠Y u
 n3:p3=true->∃j:Sl,f 28=.slice j.A j.n j.c/\j.n=i5.n+1/\w.ownsRow (W.heap.size+1) 3 1 (.slice j.A j.n j.c) j.n ((dh bits k++[(k:Int)]).map (M.int .i64))/\∀g,M.ownBlock (.slice j.A j.n j.c)=Y g->M.ownBlock (.slice i12.A i12.n i12.c)≠Y g
 box:aK w W.heap.size 75 {b with W:=i12}
 h7:w.heap[p7]?=Y (.cells #[.int .i64 x.1,.int .i64 x.2.1,.bool x.2.2] 72 (0,0))
 d7:M.ownBlock (.slice i5.A i5.n i5.c)≠Y p7/\M.ownBlock (.slice i12.A i12.n i12.c)≠Y p7
 lt5:∀u,w.heap.size<=u->M.ownBlock (.slice i5.A i5.n i5.c)≠Y u
 low:X W W w
section
variable{f0:Nat->M}{W:H}{b:aC}{l:pK}{bits k:Nat}{i5 i12:Sl}{x:Int×Int×Bool}{p7:Nat}{p2 p8 p3:Bool}{f:Nat->M}{w:H}
def St.S(h:St f0 W b l bits k i5 i12 x p7 p2 p8 p3 f w):aK w W 75 {b with W:=i12}/\w.heap[p7]?=Y (.cells #[.int .i64 x.1,.int .i64 x.2.1,.bool x.2.2] 72 (0,0)):=⟨h.box,h.h7⟩
def iU{B e size n:Nat}(h:w.ownsRow B e size v n xs){u:Nat}(a:u<B\/w.heap.size<=u):v.ownBlock≠Y u:=λe=>by
 have:=h.lt u e;omega
def St.alloc(h:St f0 W b l bits k i5 i12 x p7 p2 p8 p3 f w)(o:Obj):St f0 W b l bits k i5 i12 x p7 p2 p8 p3 f (w.alloc o):=
 ⟨h.keep,h.c4,h.c25,h.c26,h.c31,h.c32,h.n5,h.n12,λe=>(h.v5 e).alloc o,h.v12.alloc o,h.dis,
  λe=>let⟨u,a,c,d⟩:=h.n2 e;⟨u,a,(QR _ _ (ec.1 c).1).tn c,d⟩,
  λe=>let⟨u,a,c,d⟩:=h.n8 e;⟨u,a,(QR _ _ (ec.1 c).1).tn c,d⟩,
  λe=>let⟨u,a,c,d,g⟩:=h.n3 e;⟨u,a,c,d.alloc o,g⟩,(QR _ _ h.box.lt).tn h.box,(QR _ _ (ec.1 h.h7).1).tn h.h7,h.d7,λu i=>h.lt5 u (by rw[aa]at i;omega),h.low.alloc h.low.size o⟩
def St.abS(h:St f0 W b l bits k i5 i12 x p7 p2 p8 p3 f w):M.ownBlock (.slice i5.A i5.n i5.c)≠Y w.heap.size/\M.ownBlock (.slice i12.A i12.n i12.c)≠Y w.heap.size:=⟨h.lt5 _ (qN _),iU h.v12 (.inr (qN _))⟩
def mN{w w':H}{row:Option Nat}(h:X B W w)(a:w.grownBy w' row)(c:∀g,row=Y g->B<=g)(hB:B<=W.heap.size):X B W w':=
 ⟨a.os.tn h.os,a.tape.tn h.tape,a.output.tn h.output,qO h.size a.size,λg b=>(a.block g (qP b (qO hB h.size)) (λe=>by have:=c g e.symm;omega)).tn (h.block g b)⟩
def W6{P:Ps}{ops:Array Kp}{i n d:Nat}{o:Kp}{s y:ae}{t e:Lk}{inf:TypeInfo}{z:M}{B size bytes:Nat}(G:ops[i]?=Y o)(J:o.op=.call {callee:=.builtin .append,args:= #[s,y],argTypes:= #[t,t]})
  (T:P.underlying t=Y (.slice e))(hi:P.info? e=Y inf)(V:inf.zero=Y z)(R:inf.size=size)(p:inf.bytes=bytes)(W:z.cells.size=size)(S:0<size){l:Nat}(O:(fa n f).eval s=v)(L:w.ownsRow B e size v l xs){g m c:Nat}{cur:Array M}{e':Lk}{zz0x:Nat×Nat}(U:(fa n f).eval y=.slice (Y ⟨g,0,I⟩) m c)(E:w.heap[g]?=Y (.cells cur e' zz0x))(hl:cur.size=m*size)(b:∀u∈cur.toList,u.oneCell'=true)
  (h:l+m<=maxLen)(q:(l+m)*bytes<=140737488355328)(hB:B<=w.heap.size)(x:o.dst=Y d)(r:d<n)(A:o.guard=I)
  (k:∀v' w',w'.ownsRow B e size v' (l+m) (xs++cur.toList)->w.grownBy w' v.ownBlock->(v'.ownBlock=v.ownBlock\/v'.ownBlock=Y w.heap.size)->K (fa n (ah f d v')) w'):wpOp P ops Q i K (fa n f) w:=by
 obtain⟨v',w',N,Z,r2, -, r4⟩:=gU (P:=P) w B t o.type e inf z size bytes T hi V R p W S v l xs L ⟨g,0,I⟩ m c cur.toList (by simpa using hl) (λj u C=>by
  have e:(⟨g,0,I⟩:Addr).add j=⟨g,j,I⟩:=by
   unfold Addr.add;split
   .rename_i a;rw[a]
   .rw[kx]
  rw[e];unfold H.cell?;dsimp only;rw[E];simpa using C) b h q hB
 refine Pc v' G x r A ?_ (k v' w' Z r2 r4);unfold Hn;simp only[J,ab,invoke,builtin,Sem.run_bind,Sem.run_pure,Result.andThen_ok,zM,O,U,N]
def Zl:(F.info? 3).map (λi=>(i.zero,i.size,i.bytes))=Y (Y (.int .i64 0),1,8):=by kernel_rfl
def Pd:(F.info? 72).map (λi=>(i.zero,i.size,i.bytes))=Y (Y (.agg #[.int .i64 0,.int .i64 0,.bool false]),3,24):=by kernel_rfl
variable{K:Act->H->Prop}{Q:Exit->Act->H->Prop}
theorem St.s2(h:St f0 W b l bits k i5 i12 x p7 false p8 p3 f w)(n:∀f w,St f0 W b l bits k i5 i12 x p7 true p8 p3 f w->K (fa 43 f) w):wpOp F oZ Q 2 K (fa 43 f) w:=by
 have j:(fa 43 f).eval (.tmp 26)=_:=ft h.c26;refine Pc (d:=27) (w':=w.alloc (.cells #[.int .i64 k] 3)) (.slice (Y ⟨w.heap.size,0,I⟩) 1 1) rfl rfl zz rfl ?_ (n _ _ ?_)
 .simp only[oZ,bD,bF,Tryz.f68,zQ,zE,Hn,zM,j];go_simp
 .have g:=h.alloc (.cells #[.int .i64 k] 3);exact⟨λi m h2=>nt (g.keep i m h2),nt g.c4,nt g.c25,nt g.c26,nt g.c31,nt g.c32,g.n5,g.n12,g.v5,g.v12,g.dis,
   λ_=>⟨w.heap.size,au _ _ _,Sp _ _,h.abS⟩,λe=>let⟨u,a,c⟩:=g.n8 e;⟨u,nt a,c⟩,λe=>let⟨u,a,c⟩:=g.n3 e;⟨u,nt a,c⟩,g.box,g.h7,g.d7,g.lt5,g.low⟩
theorem St.s8(h:St f0 W b l bits k i5 i12 x p7 p2 false p3 f w)(n:∀f w,St f0 W b l bits k i5 i12 x p7 p2 true p3 f w->K (fa 43 f) w):wpOp F oZ Q 8 K (fa 43 f) w:=by
 have j:(fa 43 f).eval (.tmp 32)=_:=ft h.c32;refine Pc (d:=33) (w':=w.alloc (.cells #[.int .i64 x.1,.int .i64 x.2.1,.bool x.2.2] 72)) (.slice (Y ⟨w.heap.size,0,I⟩) 1 1) rfl rfl zz rfl ?_ (n _ _ ?_)
 .simp only[oZ,bD,bF,Tryz.f68,zQ,zE,Hn,zM,j];go_simp
 .have g:=h.alloc (.cells #[.int .i64 x.1,.int .i64 x.2.1,.bool x.2.2] 72);exact⟨λi m h2=>nt (g.keep i m h2),nt g.c4,nt g.c25,nt g.c26,nt g.c31,nt g.c32,g.n5,g.n12,g.v5,g.v12,g.dis,
   λe=>let⟨u,a,c⟩:=g.n2 e;⟨u,nt a,c⟩,λ_=>⟨w.heap.size,au _ _ _,Sp _ _,h.abS⟩,λe=>let⟨u,a,c⟩:=g.n3 e;⟨u,nt a,c⟩,g.box,g.h7,g.d7,g.lt5,g.low⟩
def St.s3(S:i5.n<=1000)(h:St f0 W b l bits k i5 i12 x p7 true p8 false f w)(G:∀f w,St f0 W b l bits k i5 i12 x p7 true p8 true f w->K (fa 43 f) w):wpOp F oZ Q 3 K (fa 43 f) w:=by
 obtain⟨inf,hi,v⟩:=Option.map_eq_some_iff.1 Zl;simp only[Prod.mk.injEq]at v;obtain⟨R,O,J⟩:=v;obtain⟨u,s,p,y,P⟩:=h.n2 rfl;have T:=h.low.size;have L:=(h.v5 rfl).lt;refine W6 (d:=28) (t:=24) (e:=3) (B:=W.heap.size+1) (z:=.int .i64 0) (size:=1) (bytes:=8) rfl rfl kr hi R O J rfl zz (ft h.c25) (h.v5 rfl) (ft s) p rfl (by simp[M.oneCell']) (by show i5.n+1<=9223372036854775807;omega) zz (by have:=h.box.lt;omega) rfl zz rfl (λv' w' C q m=>G _ _ ?_);obtain⟨A,c,rfl⟩:=gi C;have hk:∀g o,w.heap[g]?=Y o->M.ownBlock (.slice i5.A i5.n i5.c)≠Y g->w'.heap[g]?=Y o:=λg o n N=>(q.block g (ec.1 n).1 (Ne.symm N)).tn n;refine⟨λi E h2=>nt (h.keep i E h2),nt h.c4,nt h.c25,nt h.c26,nt h.c31,nt h.c32,h.n5,h.n12,(λe=>by cases e),h.v12.kept q ?_,h.dis,
   λ_=>⟨u,nt s,hk _ _ p y,y,P⟩,λe=>let⟨u,a,c,d,g⟩:=h.n8 e;⟨u,nt a,hk _ _ c d,d,g⟩,
   λ_=>⟨⟨A,i5.n+1,c⟩,au _ _ _,rfl,by simpa using C,λg j r=>?_⟩,hk _ _ h.box (iU (h.v5 rfl) (.inl zz)),hk _ _ h.h7 h.d7.1,h.d7,λu p=>h.lt5 u (qO q.size p),mN h.low q (λg j=>by have:=L g j;omega) (qN _)⟩
 .cases n:M.ownBlock (.slice i12.A i12.n i12.c)with
  | none=>exact .inl rfl
  | some g=>exact .inr λe=>h.dis g e.symm n
 .rcases m with m|m
  .rw[m]at j;exact h.dis g j r
  .rw[m]at j;cases j;exact h.abS.2 r
end
end
variable{f0 f:Nat->M}{W w:H}{b:aC}{l:pK}{bits k p7:Nat}{i5 i12:Sl}{x:Int×Int×Bool}{K:Act->H->Prop}{Q:Exit->Act->H->Prop}
structure TF(f0:Nat->M)(W:H)(b:aC)(l:pK)(bits k:Nat)(i12:Sl)(x:Int×Int×Bool)(p7:Nat)(j5 j12:Sl)(f:Nat->M)(w:H):Prop where
 keep:∀i,i≠5->¬(25<=i/\i<=36)->f i=f0 i
 c4:f 4=(W.heap.size,0)
 c28:f 28=.slice j5.A j5.n j5.c
 c34:f 34=.slice j12.A j12.n j12.c
 n5:j5.n=(dh bits (k+1)).length
 n12:j12.n=(iJ l.W bits (k+1)).length
 r5:w.ownsRow (W.heap.size+1) 3 1 (.slice j5.A j5.n j5.c) j5.n ((dh bits (k+1)).map (M.int .i64))
 r12:w.ownsRow (W.heap.size+1) 72 3 (.slice j12.A j12.n j12.c) j12.n ((iJ l.W bits (k+1)).flatMap rO)
 box:aK w W.heap.size 75 {b with W:=i12}
 h7:w.heap[p7]?=Y (.cells #[.int .i64 x.1,.int .i64 x.2.1,.bool x.2.2] 72 (0,0))
 dis:∀g,M.ownBlock (.slice j5.A j5.n j5.c)=Y g->M.ownBlock (.slice j12.A j12.n j12.c)≠Y g
 low:X W W w
def St.s9(a2:i12.n<=1000)(n:bits.testBit k=true)(V:l.W.getD k (0,0,false)=x)(h:St f0 W b l bits k i5 i12 x p7 true true true f w)(L:∀f w j5 a1,TF f0 W b l bits k i12 x p7 j5 a1 f w->K (fa 43 f) w):wpOp F oZ Q 9 K (fa 43 f) w:=by
 obtain⟨inf,hi,s⟩:=Option.map_eq_some_iff.1 Pd;simp only[Prod.mk.injEq]at s;obtain⟨Z,T,N⟩:=s;obtain⟨u,G,U,a5,a4⟩:=h.n8 rfl;obtain⟨j,E,O,y,v⟩:=h.n3 rfl;have a3:=h.low.size;have R:=h.v12.lt;refine W6 (d:=34) (t:=29) (e:=72) (B:=W.heap.size+1) (z:=.agg #[.int .i64 0,.int .i64 0,.bool false]) (size:=3) (bytes:=24) rfl rfl kr hi Z T N rfl zz (ft h.c31) h.v12 (ft G) U rfl (by simp[M.oneCell']) (by show i12.n+1<=9223372036854775807;omega) zz (by have:=h.box.lt;omega) rfl zz rfl (λv' w' C r a=>?_);obtain⟨A,c,rfl⟩:=gi C;have hk:∀g o,w.heap[g]?=Y o->M.ownBlock (.slice i12.A i12.n i12.c)≠Y g->w'.heap[g]?=Y o:=λg o q S=>(r.block g (ec.1 q).1 (Ne.symm S)).tn q;have P:j.n=(dh bits (k+1)).length:=by rw[AM n,kl,O,h.n5];rfl
 refine L _ _ j ⟨A,i12.n+1,c⟩ ⟨λi J h2=>nt (h.keep i J h2),nt h.c4,nt E,au _ _ _,P,?_,?_,?_,hk _ _ h.box (iU h.v12 (.inl zz)),hk _ _ h.h7 h.d7.2,λg p m=>?_,mN h.low r (λg p=>by have:=R g p;omega) (qN _)⟩
 .rw[AN n,kl,show i12.n=_ from h.n12];rfl
 .rw[AM n];refine y.kept r ?_
  cases q:M.ownBlock (.slice j.A j.n j.c)with
  | none=>exact .inl rfl
  | some g=>exact .inr λe=>v g q e.symm
 .rw[AN n,List.flatMap_append,V];have:[x].flatMap rO=[.int .i64 x.1,.int .i64 x.2.1,.bool x.2.2]:=rfl;rw[this];exact C
 .rcases a with a|a
  .rw[a]at m;exact v g p m
  .rw[a]at m;cases m;exact iU y (.inr (qN _)) p
def rR:F.follows .mixedOrders=true:=by kernel_rfl
theorem TF.tail{S:H->Prop}(e:S w){L:Array Bool}(t:L= #[true,true,true,true,true,true,true,true,true,true,false,false,false,false]){j5 j12:Sl}(h:TF f0 W b l bits k i12 x p7 j5 j12 f w):
  wpAnyL F .any oZ (aR λn w'=>∃f' c v,n=fa 43 f'/\(∀i,i≠5->¬(25<=i/\i<=36)->f' i=f0 i)/\f' 5=.slice c.A c.n c.c/\gZ W b l bits (k+1) c v w') S (λi=>decide (13<=i)) 4 L (fa 43 f) w:=by
 subst t;have o:(fa 43 f).eval (.tmp 28)=_:=ft h.c28;refine bl [10] kr ss (λi hi=>?_);obtain rfl:=q8A.1 hi;refine Pc (d:=5) (w':=w) (.slice j5.A j5.n j5.c) rfl rfl zz rfl ?_ ⟨λ_=>e,?_⟩
 .simp only[oZ,bD,bF,Tryz.f68,zQ,zE,Hn,zM,o];go_simp
 have s:(fa 43 (ah f 5 (.slice j5.A j5.n j5.c))).eval (.tmp 4)=_:=ft (nt h.c4);refine bl [11] kr ss (λi hi=>?_);obtain rfl:=q8A.1 hi;refine Pc (d:=35) (w':=w) (.pointer (Y ⟨W.heap.size,0,I⟩)) rfl rfl zz rfl ?_ ⟨λ_=>e,?_⟩
 .simp only[oZ,bD,bF,Tryz.f68,zQ,zE,Hn,zM,s];go_simp
 have q:(fa 43 (ah (ah f 5 (.slice j5.A j5.n j5.c)) 35 (.pointer (Y (W.heap.size,0))))).eval (.tmp 35)=_:=ft (au _ _ _);refine bl [12] kr ss (λi hi=>?_);obtain rfl:=q8A.1 hi;refine Pc (d:=36) (w':=w) (.pointer (Y ⟨W.heap.size,12,I⟩)) rfl rfl zz rfl ?_ ⟨λ_=>e,?_⟩
 .simp only[oZ,bD,bF,Tryz.f68,zQ,zE,Hn,zM,q];go_simp
 have r:(fa 43 (ah (ah (ah f 5 (.slice j5.A j5.n j5.c)) 35 (.pointer (Y (W.heap.size,0)))) 36 (.pointer (Y (W.heap.size,12))))).eval (.tmp 36)=_:=ft (au _ _ _);have p:(fa 43 (ah (ah (ah f 5 (.slice j5.A j5.n j5.c)) 35 (.pointer (Y (W.heap.size,0)))) 36 (.pointer (Y (W.heap.size,12))))).eval (.tmp 34)=_:=ft (nt (nt (nt h.c34)));refine bl [13] kr ss (λi hi=>?_);obtain rfl:=q8A.1 hi;have y:=(aM h.box).2.2.2.2.2.2.2.2.2.2.2.2;have z:=dx h.box 12;refine TE (w':=w.setCell ⟨W.heap.size,12,I⟩ (.slice j12.A j12.n j12.c)) rfl rfl rfl ?_ ⟨λh=>mi h dd,?_⟩
 .simp only[oZ,bD,bF,Tryz.f68,zQ,zE,Hn,zM,r,p];go_simp
 refine cH kr ?_ _;have u:aK (w.setCell (W.heap.size,12) (.slice j12.A j12.n j12.c)) W 75 {b with W:=j12}:=by
  have:=bJ (i:=12) h.box (.slice j12.A j12.n j12.c);simp only[zS]at this;exact this
 have m:∀g,g≠W.heap.size->(w.setCell (W.heap.size,12) (.slice j12.A j12.n j12.c)).heap[g]?=w.heap[g]?:=λg a=>X.heap_setCell w _ _ g a;refine⟨_,j5,j12,rfl,λi j h2=>?_,?_,h.n5,h.n12,dL h.r5 λg a=>m g (by have:=h.r5.lt g a;omega),dL h.r12 λg a=>m g (by have:=h.r12.lt g a;omega),u,h.dis,jH h.low (qN _) _⟩
 .rw[nf,nf,cu _ _ j];exact h.keep i j h2
 .rw[nf,nf,au]
def Hi{w:H}{g:Nat}{a b c:M}{e:Lk}{z:Nat×Nat}(h:w.heap[g]?=Y (.cells #[a,b,c] e z)):w (g,0)=Y a/\w (g,1)=Y b/\w (g,2)=Y c:=by
 unfold H.cell?;dsimp only;rw[h];exact⟨rfl,rfl,rfl⟩
theorem Zm(s:i5.n<=1000)(r:i12.n<=1000)(q:bits.testBit k=true)(v:l.W.getD k (0,0,false)=x)(z:gZ W b l bits k i5 i12 w)(y:w.heap[p7]?=Y (.cells #[.int .i64 x.1,.int .i64 x.2.1,.bool x.2.2] 72 (0,0)))
  (R:M.ownBlock (.slice i5.A i5.n i5.c)≠Y p7/\M.ownBlock (.slice i12.A i12.n i12.c)≠Y p7)(n:f 4=.pointer (Y ⟨W.heap.size,0,I⟩))(U:f 5=.slice i5.A i5.n i5.c)(f6:f 6=.int .i64 k)(V:f 7=.pointer (Y ⟨p7,0,I⟩)):
  Ly.wp F (.region 8 oZ true) (aR λJ w'=>∃f' o a1,J=fa 43 f'/\(∀i,i≠5->¬(25<=i/\i<=36)->f' i=f i)/\f' 5=.slice o.A o.n o.c/\gZ W b l bits (k+1) o a1 w') (fa 43 f) w:=by
 refine bK (S:=λw'=>aK w' W.heap.size 75 {b with W:=i12}/\w'.heap[p7]?=Y (.cells #[.int .i64 x.1,.int .i64 x.2.1,.bool x.2.2] 72 (0,0))) (λi=>decide (13<=i)) rR ?_;have e:=z.drew;have p:w.drew.heap[p7]?=Y (.cells #[.int .i64 x.1,.int .i64 x.2.1,.bool x.2.2] 72 (0,0)):=y;generalize w.drew=w at e p|-;clear z y;have m:=And.intro e.box p;change wpAnyL _ _ _ _ _ _ 14 (Array.replicate 14 false) _ _;have O:(fa 43 f).eval (.tmp 5)=_:=ft U;refine uj (i:=0) (d:=25) (.slice i5.A i5.n i5.c) rfl rfl zz rfl kr kr kr kr (λj c=>?_) m ?_
 .simp only[oZ,bD,bF,Tryz.f68,zQ,zE,Hn,zM,O];go_simp
 have P:(fa 43 (ah f 25 (.slice i5.A i5.n i5.c))).eval (.tmp 6)=_:=ft (nt (f6));refine uj (i:=1) (d:=26) (.int .i64 k) rfl rfl zz rfl kr kr kr kr (λj c=>?_) m ?_
 .simp only[oZ,bD,bF,Tryz.f68,zQ,zE,Hn,zM,P];go_simp
 have N:(fa 43 (ah (ah f 25 (.slice i5.A i5.n i5.c)) 26 (.int .i64 k))).eval (.tmp 4)=_:=ft (nt (nt (n)));refine uj (i:=4) (d:=29) (.pointer (Y ⟨W.heap.size,0,I⟩)) rfl rfl zz rfl kr kr kr kr (λj c=>?_) m ?_
 .simp only[oZ,bD,bF,Tryz.f68,zQ,zE,Hn,zM,N];go_simp
 have K:(fa 43 (ah (ah (ah f 25 (.slice i5.A i5.n i5.c)) 26 (.int .i64 k)) 29 (.pointer (Y ⟨W.heap.size,0,I⟩)))).eval (.tmp 29)=_:=ft (au _ _ _);refine uj (i:=5) (d:=30) (.pointer (Y ⟨W.heap.size,12,I⟩)) rfl rfl zz rfl kr kr kr kr (λj c=>?_) m ?_
 .simp only[oZ,bD,bF,Tryz.f68,zQ,zE,Hn,zM,K];go_simp
 have L:(fa 43 (ah (ah (ah (ah f 25 (.slice i5.A i5.n i5.c)) 26 (.int .i64 k)) 29 (.pointer (Y ⟨W.heap.size,0,I⟩))) 30 (.pointer (Y ⟨W.heap.size,12,I⟩)))).eval (.tmp 30)=_:=ft (au _ _ _);refine uj (i:=6) (d:=31) (.slice i12.A i12.n i12.c) rfl rfl zz rfl kr kr kr kr (λj c=>?_) m ?_
 .have a3:=(aM c.1).2.2.2.2.2.2.2.2.2.2.2.2;simp only[oZ,bD,bF,Tryz.f68,zQ,zE,Hn,zM,L];go_simp
 have Q:(fa 43 (ah (ah (ah (ah (ah f 25 (.slice i5.A i5.n i5.c)) 26 (.int .i64 k)) 29 (.pointer (Y ⟨W.heap.size,0,I⟩))) 30 (.pointer (Y ⟨W.heap.size,12,I⟩))) 31 (.slice i12.A i12.n i12.c))).eval (.tmp 7)=_:=ft (nt (nt (nt (nt (nt (V))))));refine uj (i:=7) (d:=32) (.agg #[.int .i64 x.1,.int .i64 x.2.1,.bool x.2.2]) rfl rfl zz rfl kr kr kr kr (λj c=>?_) m ?_
 .obtain⟨y0,y1,y2⟩:=Hi c.2;simp only[oZ,bD,bF,Tryz.f68,zQ,zE,Hn,zM,Q];go_simp
 have t:St f W b l bits k i5 i12 x p7 false false false (ah (ah (ah (ah (ah (ah f 25 (.slice i5.A i5.n i5.c)) 26 (.int .i64 k)) 29 (.pointer (Y ⟨W.heap.size,0,I⟩))) 30 (.pointer (Y ⟨W.heap.size,12,I⟩))) 31 (.slice i12.A i12.n i12.c)) 32 (.agg #[.int .i64 x.1,.int .i64 x.2.1,.bool x.2.2])) w:=by
  refine⟨λi c h2=>?_,nt (nt (nt (nt (nt (nt (n)))))),nt (nt (nt (nt (nt (au _ _ _))))),nt (nt (nt (nt (au _ _ _)))),nt (au _ _ _),au _ _ _,e.n5,e.n12,λ_=>e.row5,e.row12,e.dis,λh=>(by cases h),λh=>(by cases h),λh=>(by cases h),e.box,p,R,λu Z=>iU e.row5 (.inr Z),e.low⟩;rw[nf,nf,nf,nf,nf,nf]
 generalize ah (ah (ah (ah (ah (ah f 25 (.slice i5.A i5.n i5.c)) 26 (.int .i64 k)) 29 (.pointer (Y ⟨W.heap.size,0,I⟩))) 30 (.pointer (Y ⟨W.heap.size,12,I⟩))) 31 (.slice i12.A i12.n i12.c)) 32 (.agg #[.int .i64 x.1,.int .i64 x.2.1,.bool x.2.2])=a2 at t|-;refine bl [2,8] kr ss (λi hi=>?_);have:i=2\/i=8:=by simpa using hi
 rcases this with rfl|rfl
 .refine t.s2 λT j c=>⟨λ_=>c.S,?_⟩;refine bl [3,8] kr ss (λi hi=>?_);have:i=3\/i=8:=by simpa using hi
  rcases this with rfl|rfl
  .refine c.s3 s λf2 C h2=>⟨λ_=>h2.S,?_⟩;refine bl [8] kr ss (λi hi=>?_);obtain rfl:=q8A.1 hi;refine h2.s8 λf3 E g=>⟨λ_=>g.S,?_⟩;refine bl [9] kr ss (λi hi=>?_);obtain rfl:=q8A.1 hi;exact g.s9 r q v λn G B A a=>⟨λ_=>⟨a.box,a.h7⟩,a.tail ⟨a.box,a.h7⟩ kr⟩
  .refine c.s8 λf2 C h2=>⟨λ_=>h2.S,?_⟩;refine bl [3] kr ss (λi hi=>?_);obtain rfl:=q8A.1 hi;refine h2.s3 s λf3 E g=>⟨λ_=>g.S,?_⟩;refine bl [9] kr ss (λi hi=>?_);obtain rfl:=q8A.1 hi;exact g.s9 r q v λn G B A a=>⟨λ_=>⟨a.box,a.h7⟩,a.tail ⟨a.box,a.h7⟩ kr⟩
 .refine t.s8 λT j c=>⟨λ_=>c.S,?_⟩;refine bl [2] kr ss (λi hi=>?_);obtain rfl:=q8A.1 hi;refine c.s2 λf2 C h2=>⟨λ_=>h2.S,?_⟩;refine bl [3] kr ss (λi hi=>?_);obtain rfl:=q8A.1 hi;refine h2.s3 s λf3 E g=>⟨λ_=>g.S,?_⟩;refine bl [9] kr ss (λi hi=>?_);obtain rfl:=q8A.1 hi;exact g.s9 r q v λn G B A a=>⟨λ_=>⟨a.box,a.h7⟩,a.tail ⟨a.box,a.h7⟩ kr⟩
variable{P:Ps}{ops:Array Kp}{n d i g gb gc:Nat}{oi:Kp}{w':H}{rest:List Nat}
def oF(v:M)(hi:ops[i]?=Y oi)(a:oi.dst=Y d)(c:d<n)(b:oi.guard=I)(e:(Hn (fa n f).eval oi).run P w=.ok (.value v) w')(h:wpOps P ops Q rest (fa n (ah f d v)) w'):wpOps P ops Q (i::rest) (fa n f) w:=by
 rw[wpOps_cons];exact Pc v hi a c b e h
def oS(hi:ops[i]?=Y oi)(a:oi.dst=I)(b:oi.guard=I)(c:(Hn (fa n f).eval oi).run P w=.ok .skip w')(h:wpOps P ops Q rest (fa n f) w'):wpOps P ops Q (i::rest) (fa n f) w:=by
 rw[wpOps_cons];exact TE hi a b c h
def Ev{x:ae}(v:M)(hi:ops[i]?=Y oi)(g:oi.op=.move x\/oi.op=.assign x)(j:(fa n f).eval x=v)(a:oi.dst=Y d)(c:d<n)(b:oi.guard=I)(h:wpOps P ops Q rest (fa n (ah f d v)) w):wpOps P ops Q (i::rest) (fa n f) w:=
 oF v hi a c b (by rcases g with e|e<;>simp[Hn,e,j]) h
def wF{id:Nat}{a:Act}{l:List Nat}(hl:List.range ops.size=l)(h:wpOps P ops Q l a w):(Ly.region id ops false).wp P Q a w:=wp_region (hl▸h)
def me:Ly:=match bD with|.seq _ (.seq _ (.seq _ (.seq x _)))=>x|_=>.skip
def zF:Ly:=match me with|.seq _ (.block _ (.loop c))=>c|_=>.skip
def S2:Array Kp:=match me with|.seq (.region _ ops _) _=>ops|_=> #[]
def W7:Array Kp:=match zF with|.seq (.region _ ops _) _=>ops|_=> #[]
def Pe:Array Kp:=match zF with|.seq _ (.seq _ (.seq (.block _ (.seq (.region _ ops _) _)) _))=>ops|_=> #[]
def Pf:Array Kp:=match zF with|.seq _ (.seq _ (.seq (.block _ (.seq _ (.seq (.region _ ops _) _))) _))=>ops|_=> #[]
def W8:Array Kp:=match zF with|.seq _ (.seq _ (.seq _ (.region _ ops _)))=>ops|_=> #[]
def S3:me=.seq (.region 4 S2 false) (.block 0 (.loop zF)):=rfl
def Pg:zF=.seq (.region 5 W7 false) (.seq (.cond (.tmp 16) .skip (.exit 0)) (.seq (.block 1 (.seq (.region 6 Pe false) (.seq (.region 7 Pf false) (.cond (.tmp 24) (.region 8 oZ true) .skip)))) (.region 9 W8 false))):=rfl
structure PF(f:Nat->M)(g gb gc s:Nat)(b:aC)(k:Nat)(i5:Sl):Prop where
 f1:f 1=(g,0)
 f2:f 2=(gb,0)
 f3:f 3=(gc,0)
 f4:f 4=(s,0)
 f5:f 5=.slice i5.A i5.n i5.c
 f13:f 13=.slice b.W.A b.W.n b.W.c
 f14:f 14=b.W.n
 f15:f 15=k
def PF.set{f:Nat->M}{g gb gc s:Nat}{b:aC}{k:Nat}{i5:Sl}(h:PF f g gb gc s b k i5){d:Nat}(v:M)(a:5<d/\d≠13/\d≠14/\d≠15):PF (ah f d v) g gb gc s b k i5:=
 ⟨nt h.f1,nt h.f2,nt h.f3,nt h.f4,nt h.f5,nt h.f13,nt h.f14,nt h.f15⟩
def Zn(W:H)(b:aC)(l:pK)(bits g gb gc k:Nat)(a:Act)(w:H):Prop:=∃f i5 i12,a=fa 43 f/\PF f g gb gc W.heap.size b k i5/\gZ W b l bits k i5 i12 w
theorem Hl(hl:aI W b l)(e4:l.W.length<=4)(d9:bits<16)(c':gb<W.heap.size)(c6:W.cell? ⟨gb,0,I⟩=Y (.int .i64 bits))(hk:k<l.W.length)(L:PF f g gb gc W.heap.size b k i5)(o:gZ W b l bits k i5 i12 w):
  Ly.wp F zF (aR (Zn W b l bits g gb gc (k+1))) (fa 43 f) w:=by
 have e3:b.W.n=l.W.length:=hl.W.1;obtain⟨c,j,d8,a4,c8⟩:=hl.W.2.2.2 zz;obtain⟨R,S,T⟩:=c8 k hk;obtain⟨x,d1⟩:∃x,l.W.getD k (0,0,false)=x:=⟨_,rfl⟩;rw[d1]at R S T;have y0:w.cell? ⟨c,j+k*3,I⟩=Y (.int .i64 x.1):=(o.low.cell (p:=⟨c,j+k*3,I⟩) a4).tn R;have y1:w.cell? ⟨c,j+k*3+1,I⟩=Y (.int .i64 x.2.1):=(o.low.cell (p:=⟨c,j+k*3+1,I⟩) a4).tn S;have y2:w.cell? ⟨c,j+k*3+2,I⟩=Y (.bool x.2.2):=(o.low.cell (p:=⟨c,j+k*3+2,I⟩) a4).tn T;have e2:w.cell? ⟨gb,0,I⟩=Y (.int .i64 bits):=(o.low.cell (p:=⟨gb,0,I⟩) c').tn c6;clear c8 R S T;rw[Pg];refine wp_seq (wF (l:=[0]) rfl ?_);have S0:(fa 43 f).eval (.tmp 15)=_:=ft L.f15;have d2:(fa 43 f).eval (.tmp 14)=_:=ft L.f14;refine oF (d:=16) (w':=w) (.bool true) rfl rfl zz rfl ?_ ?_
 .simp only[W7,zF,me,bD,bF,Tryz.f68,zE,Hn,S0,d2];go_simp
 refine wp_seq (wp_cond_true (ft (au _ _ _)) (wp_skip ?_));have N:=L.set (d:=16) (.bool true) zz;generalize ah f 16 (.bool true)=f1 at N|-;refine wp_seq (wp_block (wp_seq (wF (l:=[0,1,2,3,4,5]) rfl ?_)));refine Ev (d:=17) (.int .i64 k) rfl (.inl rfl) (ft N.f15) rfl zz rfl ?_;have C:=N.set (d:=17) (.int .i64 k) zz;have s:ah f1 17 (.int .i64 k) 17=.int .i64 k:=au _ _ _;generalize ah f1 17 (.int .i64 k)=f2 at C s|-;have b8:(fa 43 f2).eval (.tmp 13)=_:=ft C.f13;have d3:(fa 43 f2).eval (.tmp 15)=_:=ft C.f15;refine oF (d:=18) (w':=w) (.pointer (Y ⟨c,j+k*3,I⟩)) rfl rfl zz rfl ?_ ?_
 .rw[d8]at b8;simp only[Pe,zF,me,bD,bF,Tryz.f68,zE,Hn,b8,d3];go_simp
 have a6:=C.set (d:=18) (.pointer (Y ⟨c,j+k*3,I⟩)) zz;have U:ah f2 18 (.pointer (Y ⟨c,j+k*3,I⟩)) 17=.int .i64 k:=nt s;have V:ah f2 18 (.pointer (Y ⟨c,j+k*3,I⟩)) 18=_:=au _ _ _;generalize ah f2 18 (.pointer (Y ⟨c,j+k*3,I⟩))=f3 at a6 U V|-;have d4:(fa 43 f3).eval (.tmp 18)=_:=ft V;refine oF (d:=19) (w':=w) (.agg #[.int .i64 x.1,.int .i64 x.2.1,.bool x.2.2]) rfl rfl zz rfl ?_ ?_
 .simp only[Pe,zF,me,bD,bF,Tryz.f68,zE,Hn,d4];go_simp
 have a7:=a6.set (d:=19) (.agg #[.int .i64 x.1,.int .i64 x.2.1,.bool x.2.2]) zz;have s:ah f3 19 (.agg #[.int .i64 x.1,.int .i64 x.2.1,.bool x.2.2]) 17=.int .i64 k:=nt U;have Z:ah f3 19 (.agg #[.int .i64 x.1,.int .i64 x.2.1,.bool x.2.2]) 19=_:=au _ _ _;generalize ah f3 19 (.agg #[.int .i64 x.1,.int .i64 x.2.1,.bool x.2.2])=J at a7 s Z|-;clear L N C a6 U V;refine oF (d:=7) (w':=w.alloc (.cells #[.int .i64 0,.int .i64 0,.bool false] 72)) (.pointer (Y ⟨w.heap.size,0,I⟩)) rfl rfl zz rfl ?_ ?_
 .simp only[Pe,zF,me,bD,bF,Tryz.f68,zE,Hn];go_simp
 have a8:=a7.set (d:=7) (.pointer (Y ⟨w.heap.size,0,I⟩)) zz;have a1:ah J 7 (.pointer (Y ⟨w.heap.size,0,I⟩)) 17=.int .i64 k:=nt s;have a2:ah J 7 (.pointer (Y ⟨w.heap.size,0,I⟩)) 19=_:=nt Z;have g7:ah J 7 (.pointer (Y ⟨w.heap.size,0,I⟩)) 7=_:=au _ _ _;generalize ah J 7 (.pointer (Y ⟨w.heap.size,0,I⟩))=K at a8 a1 a2 g7|-;refine Ev (d:=6) (.int .i64 k) rfl (.inr rfl) (ft a1) rfl zz rfl ?_;have O:=a8.set (d:=6) (.int .i64 k) zz;have h6:ah K 6 (.int .i64 k) 6=_:=au _ _ _;have h19:ah K 6 (.int .i64 k) 19=_:=nt a2;have A:ah K 6 (.int .i64 k) 7=_:=nt g7;generalize ah K 6 (.int .i64 k)=f6 at O h6 h19 A|-;clear a7 a8 s Z a1 a2 g7;have c7:(fa 43 f6).eval (.tmp 7)=_:=ft A;have b9:(fa 43 f6).eval (.tmp 19)=_:=ft h19;refine oS (w':=w.alloc (.cells #[.int .i64 x.1,.int .i64 x.2.1,.bool x.2.2] 72)) rfl rfl rfl ?_ ?_
 .simp only[Pe,zF,me,bD,bF,Tryz.f68,zE,Hn,c7,b9];go_simp
 obtain⟨n,P⟩:∃n,w.alloc (.cells #[.int .i64 x.1,.int .i64 x.2.1,.bool x.2.2] 72)=n:=⟨_,rfl⟩;obtain⟨G,b2⟩:∃G,w.heap.size=G:=⟨_,rfl⟩;have h:gZ W b l bits k i5 i12 n:=P▸o.alloc _;have d6:n.heap[G]?=Y (.cells #[.int .i64 x.1,.int .i64 x.2.1,.bool x.2.2] 72 (0,0)):=by rw[<- P,<- b2];exact Sp _ _
 have e5:n.cell? ⟨gb,0,I⟩=Y (.int .i64 bits):=(h.low.cell (p:=⟨gb,0,I⟩) c').tn c6;have d7:M.ownBlock (.slice i5.A i5.n i5.c)≠Y G/\M.ownBlock (.slice i12.A i12.n i12.c)≠Y G:=⟨iU o.row5 (.inr zz),iU o.row12 (.inr zz)⟩;rw[P];rw[b2]at A;clear P b2 y0 y1 y2 e2 o h19 c7 b9;refine wp_seq (wF (l:=[0,1,2,3,4]) rfl ?_);have c2:(fa 43 f6).eval (.tmp 2)=_:=ft O.f2;refine oF (d:=20) (w':=n) (.int .i64 bits) rfl rfl zz rfl ?_ ?_
 .simp only[Pf,zF,me,bD,bF,Tryz.f68,zE,Hn,c2];go_simp
 have a9:=O.set (d:=20) (.int .i64 bits) zz;have Q:ah f6 20 (.int .i64 bits) 6=_:=nt h6;have k7:ah f6 20 (.int .i64 bits) 7=_:=nt A;have zG:ah f6 20 (.int .i64 bits) 20=_:=au _ _ _;generalize ah f6 20 (.int .i64 bits)=y at a9 Q k7 zG|-;clear O h6 A c2;refine Ev (d:=21) (.int .i64 k) rfl (.inl rfl) (ft Q) rfl zz rfl ?_;have a':=a9.set (d:=21) (.int .i64 k) zz;have m6:ah y 21 (.int .i64 k) 6=_:=nt Q;have m7:ah y 21 (.int .i64 k) 7=_:=nt k7;have b3:ah y 21 (.int .i64 k) 20=_:=nt zG;have b4:ah y 21 (.int .i64 k) 21=_:=au _ _ _;generalize ah y 21 (.int .i64 k)=t at a' m6 m7 b3 b4|-;clear a9 Q k7 zG;have b':(fa 43 t).eval (.tmp 20)=_:=ft b3;have b0:(fa 43 t).eval (.tmp 21)=_:=ft b4;refine oF (d:=22) (w':=n) (.int .i64 ((bits:Int)/2^min k 64)) rfl rfl zz rfl ?_ ?_
 .simp only[Pf,zF,me,bD,bF,Tryz.f68,zE,Hn,b',b0];go_simp;rw[show min k 64=k by omega]
 have a0:=a'.set (d:=22) (.int .i64 ((bits:Int)/2^min k 64)) zz;have n6:ah t 22 (.int .i64 ((bits:Int)/2^min k 64)) 6=_:=nt m6;have n7:ah t 22 (.int .i64 ((bits:Int)/2^min k 64)) 7=_:=nt m7;have b5:ah t 22 (.int .i64 ((bits:Int)/2^min k 64)) 22=_:=au _ _ _;generalize ah t 22 (.int .i64 ((bits:Int)/2^min k 64))=z at a0 n6 n7 b5|-;clear a' m6 m7 b3 b4 b' b0;have c1:(fa 43 z).eval (.tmp 22)=_:=ft b5;refine oF (d:=23) (w':=n) (.int .i64 (Go.bits BinOp.and IntKind.i64 ((bits:Int)/2^min k 64) 1)) rfl rfl zz rfl ?_ ?_
 .simp only[Pf,zF,me,bD,bF,Tryz.f68,zE,Hn,c1];go_simp
 have a5:=a0.set (d:=23) (.int .i64 (Go.bits BinOp.and IntKind.i64 ((bits:Int)/2^min k 64) 1)) zz;have o6:ah z 23 (.int .i64 (Go.bits BinOp.and IntKind.i64 ((bits:Int)/2^min k 64) 1)) 6=_:=nt n6;have o7:ah z 23 (.int .i64 (Go.bits BinOp.and IntKind.i64 ((bits:Int)/2^min k 64) 1)) 7=_:=nt n7;have b6:ah z 23 (.int .i64 (Go.bits BinOp.and IntKind.i64 ((bits:Int)/2^min k 64) 1)) 23=_:=au _ _ _;generalize ah z 23 (.int .i64 (Go.bits BinOp.and IntKind.i64 ((bits:Int)/2^min k 64) 1))=v at a5 o6 o7 b6|-;clear a0 n6 n7 b5 c1;have c3:(fa 43 v).eval (.tmp 23)=_:=ft b6;refine oF (d:=24) (w':=n) (.bool (Go.bits BinOp.and IntKind.i64 ((bits:Int)/2^min k 64) 1==1)) rfl rfl zz rfl ?_ ?_
 .simp only[Pf,zF,me,bD,bF,Tryz.f68,zE,Hn,c3];go_simp
 rw[W4 bits d9 k zz];have i:=a5.set (d:=24) (.bool (bits.testBit k)) zz;have q6:ah v 24 (.bool (bits.testBit k)) 6=_:=nt o6;have q7:ah v 24 (.bool (bits.testBit k)) 7=_:=nt o7;have b7:ah v 24 (.bool (bits.testBit k)) 24=_:=au _ _ _;generalize ah v 24 (.bool (bits.testBit k))=c4 at i q6 q7 b7|-;clear a5 o6 o7 b6 c3;have c5:∀(f':Nat->M) (u E:Sl) (w':H),PF f' g gb gc W.heap.size b k u->gZ W b l bits (k+1) u E w'->Ly.wp F (.region 9 W8 false) (aR (Zn W b l bits g gb gc (k+1))) (fa 43 f') w':=λf' u E w' c9 b1=>by
  refine wF (l:=[0,1]) rfl ?_;have e1:(fa 43 f').eval (.tmp 15)=_:=ft c9.f15;refine oF (d:=37) (w':=w') (.int .i64 (k+1:Nat)) rfl rfl zz rfl ?_ ?_
  .simp only[W8,zF,me,bD,bF,Tryz.f68,zE,Hn,e1];go_simp;rw[IntKind.wrap_i64];omega
  refine Ev (d:=15) (.int .i64 (k+1:Nat)) rfl (.inl rfl) (ft (au _ _ _)) rfl zz rfl ?_;have q:=c9.set (d:=37) (.int .i64 (k+1:Nat)) zz;exact⟨_,u,E,rfl,⟨nt q.f1,nt q.f2,nt q.f3,nt q.f4,nt q.f5,nt q.f13,nt q.f14,au _ _ _⟩,b1⟩
 by_cases a3:bits.testBit k=true
 .refine wp_cond_true (ft (b7.tn (by rw[a3]))) ?_;have hle:∀m,(dh bits m).length<=m:=λm=>by
   unfold dh;rw[lj];exact qO (nn _ _) ss
  have d0:∀m,(iJ l.W bits m).length<=m:=λm=>by
   unfold iJ;rw[lj];exact qO (nn _ _) ss
  have h8:=Zm (f:=c4) (by rw[h.n5];have:=hle k;omega) (by rw[h.n12];have:=d0 k;omega) a3 d1 h d6 d7 i.f4 i.f5 q6 q7;refine wp_mono h8 λe a w' d'=>?_;obtain⟨rfl,f',u,E,rfl,r,d5,b1⟩:=d'.elim;refine c5 f' u E w' ⟨?_,?_,?_,?_,d5,?_,?_,?_⟩ b1
  .exact(r 1 zz zz).tn i.f1
  .exact(r 2 zz zz).tn i.f2
  .exact(r 3 zz zz).tn i.f3
  .exact(r 4 zz zz).tn i.f4
  .exact(r 13 zz zz).tn i.f13
  .exact(r 14 zz zz).tn i.f14
  .exact(r 15 zz zz).tn i.f15
 .have B:bits.testBit k=false:=by simpa using a3
  refine wp_cond_false (ft (b7.tn (by rw[B]))) (wp_skip ?_);exact c5 c4 i5 i12 n i ⟨by rw[Et B];exact h.n5,by rw[Eu B];exact h.n12,by rw[Et B];exact h.row5,by rw[Eu B];exact h.row12,h.box,h.dis,h.low⟩
end Go.Proofs.YthfhocgpjjkjlaaGreatDoor
