import Derived.Test.YtfcgpihkimpkcaaGreatDoorZe
set_option maxRecDepth 100000
set_option maxHeartbeats 4000000
set_option linter.all false
noncomputable section
open Go renaming undef->D,World->H,Frame->Kf,stepG->Lq,Value->M,Program->Ps,Trace->Th,MemOp->al,FuncId->ba,deafBehind->bc
open Option renaming none->I,some->Y
open Go.ConcN renaming upd_ne->Sh,upd_same->Sx
namespace Go
def pw{p:Prop}(h:p:=by
 refine aQ.recv (c:=J.C) (z:=z) (ok:=ok) ⟨rfl,λ(σ1:Gh) bj t a8 (d:FI σ1 bj t)=>?_⟩;have a:=a8.2 (.inl rfl);first|have _:=ø;have i:σ1.md=.best:=a.kin.md.tn U|have i:σ1.md=.clash:=a.kin.md.tn U
 obtain⟨l,m2,m,A⟩:=a.kin.main rfl;first|have _:=å;skip|obtain⟨L,N,B,b4,b5,b6⟩:=d.p.best i
 obtain⟨R,s,tm,n⟩:=d.p.chan (by rw[i];simp)
 first
 |have _:=ø
  rw[B,a.kin.C]at n;refine⟨a.kin.C,⟨a.kin.df.tn C,.inl ⟨i,by rw[l,m,a.kin.base];exact y⟩⟩,W bj a.w,λ_=>⟨⟨s,s,tm,n⟩,λj v a2 E a3 s r tm f1 p1 f2 p2 a4=>.inl ⟨?_,λh=>dC h (kq 0),?_⟩⟩,λf=>?_⟩
 |have o:σ1.df 0=0:=a.kin.df.tn C
  refine⟨a.kin.C,⟨o,.inr ⟨i,c,A.tn hcz⟩⟩,W bj a.w,λf=>⟨⟨s,s,tm,?_⟩,λj v a2 E a3 s r tm f1 p1 f2 p2 a4=>.inl ⟨?_,λh=>dC h (kq 0),?_⟩⟩,λf=>⟨⟨s,s,tm,?_⟩,settled {σ1 with kn:=λk=>if k=0 then σ1.kn 0 else .top} bj.heap.size,rfl,?_,λj a2 E=>?_,?_,.inl ⟨?_,λh=>dC h (kq 0),?_⟩⟩⟩
  .have u:σ1.cl=false:=by have Q:¬σ1.cl=true:=f;simpa using Q
   rw[u,a.kin.C]at n;exact n
 .rw[V];rfl
 .rw[V];have q:=kX.1 a3;show aQ fI P post (G (frv v) dp) (jD σ1 j) _;rw[js q];obtain⟨o1,Z,o3⟩:=d.p.off j v q;have T:j≠0:=zz;first|have _:=ø;refine next _ _ j v (mr λy=>?_) (by rw[<- l];exact E) (λx K=>?_) ?_ (by simp only[handed];rw[m]) (λb=>?_) (λb=>?_) (oY a.w λS=>d.m.nhid 0 J.C ((a.V _).2 S) (by rw[<- a.kin.C];exact R)) (a.kin.SQ.tn ⟨rfl,rfl,rfl,rfl,rfl,rfl⟩) (a.kin.df.tn C) l A m2 a.kin.cD (λb g=>?_)|refine next _ _ j v (mr λy=>?_) (by rw[<- l];exact E) (λe=>?_) (λx K=>(d.s i).off j v q ((d.s i).got j x (by rw[m];exact K))) ?_ (by simp only[handed];rw[m]) (λb=>?_) (λb=>?_) (oY a.w λS=>d.m.nhid 0 J.C ((a.V _).2 S) (by rw[<- a.kin.C];exact R)) (a.kin.SQ.tn ⟨rfl,rfl,rfl,rfl,rfl,rfl⟩) o l A (λb g=>?_)
  .rw[<- a.kin.base]at y;have:=d.p.old j T y;rw[q]at this;cases this
  first
  |have _:=å
   (·have u:σ1.cl=false:=by have Q:¬σ1.cl=true:=f;simpa using Q
     rcases(d.p.czl c (A.tn hcz)).2.2.2.2 u with O|O<;>rw[<- e,q]at O<;>cases O)
  |·rw[<- m]at K
    have:=(b5 j x K).2.2;rw[q]at this;cases this
  .rw[<- a.kin.pay];refine d.p.paid _ _ _ _ (λb g=>?_) o3;rw[fW,cd];intro e;exact d.m.nhid j b (Z b g) (by rw[<- e,<- a.kin.C];exact R)
  .simp only[handed,if_true];rw[a.V b]
  .simp only[handed,cd (λe:0=j=>T e.symm)];exact a.O b
  .have:=d.m.cX j b (Z b g);first|have _:=å;exact⟨by simp only[H.setChan,qLB];exact this,λh=>d.m.dis j 0 b T (Z b g) ((a.O b).2 h)⟩|simp only[H.setChan,qLB];exact this
 first
 |have _:=ø
  .have:σ1.cl=true:=f;rw[B]at this;cases this
 |·have u:σ1.cl=true:=f
   rw[u,a.kin.C]at n;exact n
  .have:=(d.closed f o (G fr cs).frame.fn (G fr cs).frame.place).1;rw[show(MemAct.recvClosed σ1.C)=MemAct.recvClosed J.C from by rw[a.kin.C]]at this;exact this
  .exact(d.closed f o 0 "").2.rely j zz
  .exact(d.closed f o 0 "").2.same
  .rw[hservedz];rfl
  .rw[hservedz];refine nextz _ _ (λk L N B=>?_) rfl o m l rfl (λb g=>?_) (λb=>?_) a.w (λb g=>?_)
   .have a5:k≠0:=by have:=d.p.basep.1;rw[a.kin.base]at this;omega
    have a7:=(d.p.kG f k a5).1;rw[<- a.kin.pay,<- m];refine(d.s i).due k (by rw[a.kin.base];exact L) (by rw[l];exact N) (Classical.byContradiction λa6=>?_);rcases(d.s i).go k (by rw[a.kin.base];exact L) (by rw[l];exact N) (λe=>B (jx (e.symm.tn (A.tn hcz)))) a6 with e|⟨v,e⟩<;>rw[a7]at e<;>cases e
   .have e:(settled {σ1 with kn:=λk=>if k=0 then σ1.kn 0 else .top} bj.heap.size).O 0 b↔b<bj.heap.size/\¬σ1.hid b:=by simp only[settled,Sx]
    have a1:=(a.V b).2 g;exact e.2 ⟨d.m.cX 0 b a1,d.m.nhid 0 b a1⟩
   .simp only[settled,Sx]
   .have e:(settled {σ1 with kn:=λk=>if k=0 then σ1.kn 0 else .top} bj.heap.size).V 0 b↔b<bj.heap.size/\¬σ1.hid b:=by simp only[settled,Sx]
    exact(e.1 g).1):p:=h
def wy{p:Prop}(h:p:=by
 refine aQ.spawn ⟨rfl,λ(σ1:Gh) bj t x (m:FI σ1 bj t)=>?_⟩;have a:=x.2 (.inl rfl);obtain⟨d,m2,v,s⟩:=a.kin.main rfl;have e:=m.m.num;first|have _:=ø;have S:BF σ1 .run I (λk=>σ1.cD k/\k≠σ1.num):=⟨a.kin.df.tn f,s.tn l,.inl ⟨rfl,rfl,λ_=>dq,by rw[a.kin.md,m2];exact o⟩⟩|have S:BF σ1 .wait (Y σ1.num) (λk=>k=σ1.num):=⟨a.kin.df.tn f,s.tn l,.inr ⟨rfl,rfl,λ_=>dq,a.kin.cD.2 hsay,a.kin.md.tn o,m2.tn hpd⟩⟩
 have i:=m.born S (G fr cs).frame.fn (G frc csc).frame.fn (G fr cs).frame.place
 first
 |have _:=ø
  have q:∀j,j<σ1.num->(de σ1 .run I (λk=>σ1.cD k/\k≠σ1.num)).st j=σ1.st j:=λj g=>cg zz;refine⟨G da dp,G frc csc,de σ1 .run I (λk=>σ1.cD k/\k≠σ1.num),r bj a.w,rfl,rfl,rfl,i.1,i.2,λj g=>⟨id,?_⟩,id,?_,?_,.inl ⟨rfl,λh=>dC h (kq 0),?_⟩⟩
  .show(de σ1 .run I (λk=>σ1.cD k/\k≠σ1.num)).st j=.quit↔σ1.st j=.quit;rw[q j g]
  .show¬(de σ1 .run I (λk=>σ1.cD k/\k≠σ1.num)).st σ1.num=.quit;rw[iI];simp
 |have q:∀j,j<σ1.num->(de σ1 .wait (Y σ1.num) (λk=>k=σ1.num)).st j=σ1.st j:=λj g=>cg zz;refine⟨G da dp,G frc csc,de σ1 .wait (Y σ1.num) (λk=>k=σ1.num),r bj a.w,rfl,rfl,rfl,i.1,i.2,λj g=>⟨id,?_⟩,id,?_,?_,.inl ⟨rfl,λh=>dC h (kq 0),?_⟩⟩
  .show(de σ1 .wait (Y σ1.num) (λk=>k=σ1.num)).st j=.quit↔σ1.st j=.quit;rw[q j g]
  .show¬(de σ1 .wait (Y σ1.num) (λk=>k=σ1.num)).st σ1.num=.quit;rw[iI];simp
 .show bZ fI P σ1.num (G frc csc) _ bj
  first
  |have _:=ø
   have:=child (de σ1 .run I (λk=>σ1.cD k/\k≠σ1.num)) bj (by rw[<- d];exact e) a.w (by rw[<- d];exact iI) (by rw[<- d];exact Sx _ _ _) (λb=>?_) (λb=>by rw[<- d];exact Jn b) (a.kin.SQ.tn ⟨rfl,rfl,rfl,rfl,rfl,rfl⟩) (by rw[<- d];show¬upd σ1.snt σ1.num False σ1.num;rw[Sx];exact id)
   .exact Eq.mpr (eh (λn=>bZ fI P n (G frc csc) (de σ1 .run I (λk=>σ1.cD k/\k≠σ1.num)) bj) d) this
   .rw[<- d,show(de σ1 .run I (λk=>σ1.cD k/\k≠σ1.num)).V σ1.num=σ1.V 0 from Sx _ _ _];exact a.V b
  |have:=child (de σ1 .wait (Y σ1.num) (λk=>k=σ1.num)) bj (by rw[<- d];exact e) a.w (by rw[<- d];exact iI) (by rw[<- d];exact Sx _ _ _) (by rw[<- d];exact Sx _ _ _) d.symm (by rw[<- d];rfl) (λh=>by obtain⟨c,u,-⟩:=m.p.sem h;rw[s.tn l]at u;cases u) (λb=>?_) (λb=>by rw[<- d];exact Jn b) (a.kin.SQ.tn ⟨rfl,rfl,rfl,rfl,rfl,rfl⟩)
   .exact Eq.mpr (eh (λn=>bZ fI P n (G frc csc) (de σ1 .wait (Y σ1.num) (λk=>k=σ1.num)) bj) d) this
   .rw[<- d,show(de σ1 .wait (Y σ1.num) (λk=>k=σ1.num)).V σ1.num=σ1.V 0 from Sx _ _ _];exact a.V b
 first
 |have _:=ø
  .exact next _ _ a.w (λb=>(Jl e b).tn (a.V b)) (λb=>Jm e b) (a.kin.SQ.tn ⟨rfl,rfl,rfl,rfl,rfl,rfl⟩) (by rw[<- d];rfl) ((Sh _ _ zz).tn (a.kin.df.tn f)) rfl rfl v (by rw[<- a.kin.cD];exact⟨(·.1),λh=>⟨h,zz⟩⟩)
 |·exact next _ _ a.w (λb=>(Jl e b).tn (a.V b)) (λb=>Jm e b) (a.kin.SQ.tn ⟨rfl,rfl,rfl,rfl,rfl,rfl⟩) (by rw[<- d];rfl) ((Sh _ _ zz).tn (a.kin.df.tn f)) (by rw[<- d];rfl) v):p:=h
def yn{p:Prop}(h:p:=by
 refine bZ.send (c:=J.C) (v:=v) (z:=z) ⟨hi,λ(σ1:Gh) bj t K (e:FI σ1 bj t)=>?_⟩;have u:i≠0:=zz;have a:=K.2 (.inr (by rw[n];simp));have d:σ1.st i=.off v:=a.kin.st.tn n;first|have _:=ø;have f:σ1.md=.best:=a.kin.md.tn k|have f:σ1.md=.clash:=a.kin.md.tn k
 have j:=OT e u d;first|have _:=ø;obtain⟨-, s,tm,g⟩:=e.p.chan (by rw[f];simp)|obtain⟨A,s,tm,g⟩:=e.p.chan (by rw[f];simp)
 rw[j,a.kin.C]at g
 first
 |have _:=ø
  refine⟨a.kin.C,by show¬σ1.cl=true;rw[j];simp,kX.2 d,⟨s,s,tm,g⟩,o bj a.w,λE s r tm x L y N C=>.inr ⟨hi,?_,?_⟩⟩
  .show(jD σ1 i).st i=.quit;rw[js d,iz,dE f]
  .obtain⟨q,m⟩:=m;refine⟨q,db,?_⟩;rw[deaf_quiet iS,e.t.deaf i (.inr (by rw[d];simp)),(e.p.off i v d).1];exact m
 |refine⟨a.kin.C,by show¬σ1.cl=true;rw[j];simp,kX.2 d,⟨s,s,tm,g⟩,o bj a.w,λE s r tm x L y N C=>.inl ⟨?_,λ_=>?_,?_⟩⟩
  .rw[hserved];rfl
  .show¬(jD σ1 i).st i=.quit;rw[js d,iz,cd (by rw[f];simp)];simp
  .rw[hserved];show bZ fI P i (G da dp) (jD σ1 i) _;rw[js d];have l:σ1.md≠.best:=by rw[f];simp
   refine next _ _ (by rw[iz,cd l]) (e.p.off i v d).1 (λb=>?_) (λb=>?_) (oY a.w λB=>e.m.nhid i J.C ((a.V _).2 B) (by rw[<- a.kin.C];exact A)) (a.kin.SQ.tn ⟨rfl,rfl,rfl,rfl,rfl,rfl⟩) (by show upd σ1.snt i True i;rw[Sx];trivial)
   .simp only[handed,cd u,dE,ne_eq,l,not_false_eq_true,true_and];exact a.V b
   .simp only[handed,dE,ne_eq,l,not_false_eq_true,true_and];rw[a.O b]):p:=h
def xbb{p:Prop}(h:p:=by
 have e:({J with kn:=λk=>if k=0 then J.kn 0 else .top}:Gh).st k=.quit:=u k;rw[e]at h2;first|have _:=ø;(rcases h2 with h2|⟨v,h2⟩|h2|h2<;>cases h2)|(rcases h2 with h2|h2<;>cases h2)):p:=h
end Go
namespace Go.Co
open Go.Conc
section
open Go.ConcN (upd upd_same upd_ne sumTo sumTo_congr)
variable{ad:Addr}{wr:Bool}
section
variable{P:Ps}{post:M->H->Prop}{J σ' σ0:Gh}{t u:Th}{w w' w0:H}{sz i:Nat}{pt:Pt}{fr da:Kf}{cs dp:List Kf}
def fq(d:Nat){es:Array Event}(h:∀e∈es,∃ad wr,e=yx ad wr):bc d es=d:=deafBehind_still (λe a=>by
 obtain⟨ad,wr,rfl⟩:=h e a;exact⟨by simp[yx],by simp[yx]⟩) d
def AK(d:Nat)(ad:Addr):bc d (semEvents ad)=d:=by simp[bc,semEvents]
def Ft(Wg:Nat):Array Event:= #[yx (jX Wg) false,yx (jX Wg) true]
def kY(Wg:Nat):∀e∈Ft Wg,∃ad wr,e=yx ad wr:=by
 intro e a;simp only[Ft,kj,fc,hZ,or_false]at a;rcases a with rfl|rfl<;>exact⟨_,_,rfl⟩
def one_cell:∀e∈ #[yx ad wr],∃ad wr,e=yx ad wr:=by
 intro e a;obtain rfl:e=yx ad wr:=by simpa using a
 exact⟨_,_,rfl⟩
def BG(Wg:Nat)(s:Prop):∀e∈Ft Wg,jE Wg s e:=by
 intro e a;simp only[Ft,kj,fc,hZ,or_false]at a;rcases a with rfl|rfl<;>exact .inl ⟨_,_,rfl,rfl⟩
def ug{Wg:Nat}(s:Prop)(h:ad.block=Wg):∀e∈ #[yx ad wr],jE Wg s e:=by
 intro e a;obtain rfl:e=yx ad wr:=by simpa using a
 exact .inl ⟨_,_,h,rfl⟩
def Jj(Wg:Nat)(s:Prop):∀e∈semEvents (wG Wg),jE Wg s e:=by
 intro e a;simp only[semEvents,kj,fc,hZ,or_false]at a;rcases a with rfl|rfl|rfl|rfl
 .exact .inr (.inr (.inl rfl))
 .exact .inl ⟨_,_,rfl,rfl⟩
 .exact .inl ⟨_,_,rfl,rfl⟩
 .exact .inr (.inr (.inr (.inl rfl)))
theorem SW.release(hi:0<i)(c:σ0.md=.clash)(l:σ0.snt i)(g:pt.st=.run)(j:pt.df=0)(m:∀w,Cs σ0.ty σ0.Wg w->Lq P (i==0) (G fr cs) w=.go (G da dp) w #[jd (.releaseMerge (jX σ0.Wg))])
  (next:SW P post i (gO i σ0 w0 {st:=.rel,kn:=.rel,df:=0,pend:=0}) (G da dp)):SW P post i (gO i σ0 w0 pt) (G fr cs):=
 SW.kQ (gO.rQ w0 c pt) λJ w t hF a k=>by
  have b:i≠0:=zz;have d:J.df i=0:=hF.df.tn j;have f:=m w k;rw[<- hF.c.Wg]at f;refine jv f (a.release b (hF.c.md.tn c) (hF.st.tn g) (hF.c.snt.2 l) d _ _) .inl (by rw[hF.deaf a,d];simp[bc,jd]) (.inl ⟨λ_=>by simp,next _ _ (hF.zD (fv:= {st:=.rel,kn:=.rel,df:=0,pend:=0}) a c (.refl _ _) (.inr ⟨b,by simp,by simp⟩) (Sx _ _ _) (λe=>dC e b) (λ_ h=>by cases h) (λ_ h=>by cases h))⟩)
theorem SW.sub(hi:0<i)(p:σ0.md=.clash)(T:pt.st=.rel)(hk:pt.kn=.rel)(U:0<pt.df)
  (S:∀w (v u:Nat),u<=1->v<2000000000->w.heap[σ0.Wg]?=Y (eG σ0.ty (((v:Int)+1)*4294967296+(u:Int)) 0)->∃da dp,Lq P (i==0) (G fr cs) w=.go (G da dp) (w.setCell (jX σ0.Wg) (.int .u64 ((v:Int)*4294967296+(u:Int)))) (Ft σ0.Wg)/\
   ((v=0/\u=1)->SW P post i (gO i σ0 w0 {st:=.last,kn:=.rel,df:=pt.df,pend:=0,gl:=Y .last}) (G da dp))/\(¬(v=0/\u=1)->∃q,QuitsD P q pt.df (G da dp))):SW P post i (gO i σ0 w0 pt) (G fr cs):=
 SW.kQ (gO.rQ w0 p pt) λJ w t hF l W=>by
  have o:i≠0:=zz;have r:=hF.st.tn T;have K:=hF.who.n l;have C:0<J.df i:=by rw[hF.df];exact U
  have Z:1<=cnt J:=by
   have:=yy (f:=J.st) K;rw[r]at this;exact this
  have s:=l.p.wg;have a:=l.p.count;have hle:∀x gw,counted x=0->cnt (dg J i x gw J.kn J.pend (bc (J.df i) (Ft σ0.Wg)))+1=cnt J:=λx gw L=>by
   have:=ue (J:=J) (i:=i) (x:=x) (gw:=gw) (kn:=J.kn) (pend:=J.pend) (d:=bc (J.df i) (Ft σ0.Wg)) K;rw[r,L]at this;have e1:counted .rel=1:=rfl;omega
  have B:bc (J.df i) (Ft σ0.Wg)=pt.df:=by rw[fq _ (kY _),hF.df]
  have z:=hF.deaf l (G fr cs).frame.fn (G fr cs).frame.place (Ft σ0.Wg);have E:=l7 hF.c (BG σ0.Wg (σ0.cD i));have Q:(∀k,J.st k≠.last)->∀x,x≠.last->∀k,upd J.st i x k≠.last:=λh x L k hk=>by
   by_cases e:k=i
   .subst e;rw[Sx]at hk;exact L hk
   .rw[Sh _ _ e]at hk;exact h k hk
  have y:∀v,jK J.Wg w (w.setCell (jX σ0.Wg) v):=λv=>by rw[hF.c.Wg];exact gB (Wg:=σ0.Wg) (ad:=jX σ0.Wg) rfl w
  unfold nQ at s;unfold gX at a
  cases b:J.gw with
  | none=>exact dC b (l.p.grp (hF.c.md.tn p))
  | idle c=>
   rw[b]at s a;obtain⟨v,rfl⟩:∃v,c=v+1:=⟨c-1,zz⟩;have m:=s.1;rw[hF.c.Wg,hF.c.ty]at m;obtain⟨da,dp,A, -, s3⟩:=S w v 0 zz zz (by rw[m,show(((v+1:Nat):Int)*4294967296)=((v:Int)+1)*4294967296+((0:Nat):Int) by omega]);have n:=l.OP (w':=w.setCell (jX σ0.Wg) (.int .u64 ((v:Int)*4294967296+((0:Nat):Int)))) o (hF.c.md.tn p) (.inl r) (x:=.quit) (.inl rfl) E (qB (kY _)) C (gw:=.idle v) ss
    ⟨by rw[show({J with gw:=Gw.idle v}:Gh).Wg=σ0.Wg from hF.c.Wg,show({J with gw:=Gw.idle v}:Gh).ty=σ0.ty from hF.c.ty,nS m,show((v:Int)*4294967296+((0:Nat):Int))=(v:Int)*4294967296 by omega],zz⟩
    ⟨by have N:=a.1;have e1:=hle .quit (.idle v) rfl;show v=J.pend+_;omega,Q a.2 _ ss⟩ (by rw[b];exact dq) (by rw[b];simp[nR]) (by rw[b];simp) (λj _=>a.2 j) (y _) (G fr cs).frame.fn (G fr cs).frame.place
   exact jv A n (λe=>by cases e) z (.inr ⟨hi,rfl,by rw[B];exact s3 zz⟩)
  | wait c=>
   rw[b]at s a;obtain⟨v,rfl⟩:∃v,c=v+1:=⟨c-1,zz⟩;have m:=s.1;rw[hF.c.Wg,hF.c.ty]at m;obtain⟨da,dp,A,s2,s3⟩:=S w v 1 zz zz (by rw[m,show(((v+1:Nat):Int)*4294967296+1)=((v:Int)+1)*4294967296+((1:Nat):Int) by omega]);have R:∀j,j≠i->J.st j≠.last:=λj _=>a.2.2 j;by_cases V:v=0
   .subst V;have n:=l.OP (w':=w.setCell (jX σ0.Wg) (.int .u64 (((0:Nat):Int)*4294967296+((1:Nat):Int)))) o (hF.c.md.tn p) (.inl r) (x:=.last) (.inr rfl) E (qB (kY _)) C (gw:=.last) ss
     (by show _=_;rw[show({J with gw:=Gw.last}:Gh).Wg=σ0.Wg from hF.c.Wg,show({J with gw:=Gw.last}:Gh).ty=σ0.ty from hF.c.ty,nS m,show(((0:Nat):Int)*4294967296+((1:Nat):Int))=1 by omega])
     ⟨by have N:=a.1;have e1:=hle .last .last rfl;omega,i,o,K,Sx _ _ _,λj O=>Classical.byContradiction λe=>a.2.2 j (by rw[show(dg J i .last .last J.kn J.pend (bc (J.df i) (Ft σ0.Wg))).st j=J.st j from Sh _ _ e]at O;exact O)⟩ (by rw[b];exact dq) (by rw[b];simp[nR]) (by rw[b];simp) R (y _) (G fr cs).frame.fn (G fr cs).frame.place
    rw[B]at n z;refine jv A n (λe=>by cases e) z (.inl ⟨λ_=>by simp,s2 ⟨rfl,rfl⟩ _ _ (hF.zD (fv:= {st:=.last,kn:=.rel,df:=pt.df,pend:=0,gl:=Y .last}) l p (y _) (.inr ⟨o,by simp,by simp⟩) (hF.kn.tn hk) (λe=>dC e o) (λg h=>by cases h;exact⟨rfl,.inl rfl⟩) (λ_ h=>by cases h))⟩)
   .have n:=l.OP (w':=w.setCell (jX σ0.Wg) (.int .u64 ((v:Int)*4294967296+((1:Nat):Int)))) o (hF.c.md.tn p) (.inl r) (x:=.quit) (.inl rfl) E (qB (kY _)) C (gw:=.wait v) ss
     ⟨by rw[show({J with gw:=Gw.wait v}:Gh).Wg=σ0.Wg from hF.c.Wg,show({J with gw:=Gw.wait v}:Gh).ty=σ0.ty from hF.c.ty,nS m,show((v:Int)*4294967296+((1:Nat):Int))=(v:Int)*4294967296+1 by omega],zz⟩
     ⟨by have N:=a.1;have e1:=hle .quit (.wait v) rfl;omega,zz,Q a.2.2 _ ss⟩ (by rw[b];exact dq) (by rw[b];simp[nR]) (by rw[b];simp) R (y _) (G fr cs).frame.fn (G fr cs).frame.place
    exact jv A n (λe=>by cases e) z (.inr ⟨hi,rfl,by rw[B];exact s3 zz⟩)
  | _=>rw[b]at a;have:=a.1;omega
def SW.OQ(c:σ0.md=.clash)(e:pt.gl=Y .last)(f:0<pt.df)(g:∀w,w.heap[σ0.Wg]?=Y (eG σ0.ty 1 0)->Lq P (i==0) (G fr cs) w=.go (G da dp) w #[yx (jX σ0.Wg) false])
  (next:SW P post i (gO i σ0 w0 pt) (G da dp)):SW P post i (gO i σ0 w0 pt) (G fr cs):=
 SW.kQ (gO.rQ w0 c pt) λJ w t hF b h=>by
  have d:=(hF.gl _ e).1;have a:=b.p.wg;unfold nQ at a;rw[d]at a;rw[hF.c.Wg,hF.c.ty]at a;exact hF.cD b c (ug (σ0.cD i) rfl) (.inr (.inr (.inl ⟨qB one_cell,f⟩))) (g w a) ⟨rfl,rfl,(fq _ one_cell).symm,rfl⟩ hF.gl hF.sm hF.cb next
theorem SW.WR(hi:0<i)(m:σ0.md=.clash)(s:pt.st=.last)(B:pt.gl=Y .last)(hk:pt.kn=.rel)(C:0<pt.df)(E:∀w,w.heap[σ0.Wg]?=Y (eG σ0.ty 1 0)->Lq P (i==0) (G fr cs) w=.go (G da dp) (w.setCell (jX σ0.Wg) (.int .u64 0)) #[yx (jX σ0.Wg) true])
  (next:SW P post i (gO i σ0 w0 {st:=.last,kn:=.rel,df:=pt.df,pend:=0,gl:=Y .zero}) (G da dp)):SW P post i (gO i σ0 w0 pt) (G fr cs):=
 SW.kQ (gO.rQ w0 m pt) λJ w t hF a O=>by
  have l:i≠0:=zz;have c:=(hF.gl _ B).1;have b:=a.p.wg;have f:=a.p.count;unfold nQ at b;unfold gX at f;rw[c]at b f;have n:=hF.st.tn s;rw[hF.c.Wg,hF.c.ty]at b;obtain⟨y,k,K,L,N,o⟩:=f;have A:i=k:=o i n;have r:=gB (Wg:=J.Wg) (ad:=jX σ0.Wg) (v:=.int .u64 0) (by rw[hF.c.Wg];rfl) w;have p:=a.OP l (hF.c.md.tn m) (.inr n) (x:=.last) (.inr rfl) (l7 hF.c (ug (σ0.cD i) (ad:=jX σ0.Wg) (wr:=true) rfl)) (qB one_cell) (by rw[hF.df];exact C) (gw:=.zero) ss
   (by show _=_;rw[show({J with gw:=Gw.zero}:Gh).Wg=σ0.Wg from hF.c.Wg,show({J with gw:=Gw.zero}:Gh).ty=σ0.ty from hF.c.ty,nS b])
   (Eb (J:=J) (i:=i) (gw:=.zero) (pend:=J.pend) (kn:=J.kn) (d:=bc (J.df i) #[yx (jX σ0.Wg) true]) ⟨y,k,K,L,N,o⟩|>λh=>by rw[n]at h;exact h) (by rw[c];exact dq) (by rw[c];simp[nR]) (by rw[c];simp) (λj z e=>z ((o j e).tn A.symm)) r (G fr cs).frame.fn (G fr cs).frame.place
  have u:bc (J.df i) #[yx (jX σ0.Wg) true]=pt.df:=by rw[fq _ one_cell,hF.df]
  have q:=hF.deaf a (G fr cs).frame.fn (G fr cs).frame.place #[yx (jX σ0.Wg) true];rw[u]at p q;exact jv (E w b) p (λe=>by cases e) q (.inl ⟨λ_=>by simp,next _ _ (hF.zD (fv:= {st:=.last,kn:=.rel,df:=pt.df,pend:=0,gl:=Y .zero}) a m r (.inr ⟨l,by simp,by simp⟩) (hF.kn.tn hk) (λe=>dC e l) (λg h=>by cases h;exact⟨rfl,.inl rfl⟩) (λ_ h=>by cases h))⟩)
theorem SW.aa8(hi:0<i)(m:σ0.md=.clash)(o:pt.st=.last)(z:pt.gl=Y .zero)(A:0<pt.df)(K:mayWake P (G fr cs)=true)(C:∀w,w.heap[σ0.Wg]?=Y (eG σ0.ty 0 0)->Lq P (i==0) (G fr cs) w=.go (G da dp) (w.setCell (wG σ0.Wg) (.int .u32 1)) (semEvents (wG σ0.Wg)))
  (B:∃q,QuitsD P q pt.df (G da dp)):SW P post i (gO i σ0 w0 pt) (G fr cs):=
 SW.kQ (gO.rQ w0 m pt) λJ w t hF b L=>by
  have y:i≠0:=zz;have f:=(hF.gl _ z).1;have c:=b.p.wg;have g:=b.p.count;unfold nQ at c;unfold gX at g;rw[f]at c g;have n:=hF.st.tn o;rw[hF.c.Wg,hF.c.ty]at c;obtain⟨r,k,N,O,Q,h⟩:=g;have l:i=k:=h i n;have E:=gB (Wg:=J.Wg) (ad:=wG σ0.Wg) (v:=.int .u32 1) (by rw[hF.c.Wg];rfl) w;have s:cnt (dg J i .quit .up J.kn J.pend (bc (J.df i) (semEvents (wG σ0.Wg))))=0:=by
   have:=ue (J:=J) (i:=i) (x:=.quit) (gw:=.up) (kn:=J.kn) (pend:=J.pend) (d:=bc (J.df i) (semEvents (wG σ0.Wg))) (hF.who.n b);have e1:counted .quit=0:=rfl;rw[r,e1]at this;omega
  have p:=b.OP y (hF.c.md.tn m) (.inr n) (x:=.quit) (.inl rfl) (l7 hF.c (Jj σ0.Wg (σ0.cD i))) (WN _) (by rw[hF.df];exact A) (gw:=.up) ss
   (by show _=_;rw[show({J with gw:=Gw.up}:Gh).Wg=σ0.Wg from hF.c.Wg,show({J with gw:=Gw.up}:Gh).ty=σ0.ty from hF.c.ty,Ed c])
   ⟨s,λj a=>by
    by_cases e:j=i
    .subst e;rw[ju]at a;cases a
    .rw[eP e]at a;exact e ((h j a).tn l.symm)⟩ (by rw[f];exact dq) (by rw[f];simp[nR]) (by rw[f];simp) (λj a e=>a ((h j e).tn l.symm)) E (G fr cs).frame.fn (G fr cs).frame.place
  have u:=hF.deaf b (G fr cs).frame.fn (G fr cs).frame.place (semEvents (wG σ0.Wg));exact jv (C w c) p (λ_=>.inr K) u (.inr ⟨hi,rfl,by rw[AK,hF.df];exact B⟩)
end
end
variable{P:Ps}{post:M->H->Prop}{J σ' σ0:Gh}{t u:Th}{w w' w0:H}{sz i:Nat}{pt:Pt}{fr da:Kf}{cs dp:List Kf}
section
open Go.ConcN (upd upd_same upd_ne sumTo sumTo_congr)
def yz{f:Nat->Nat}{b:Nat}(a:∀k,k<b->f k=0)(c:∀k,f k<=1):∀n,sumTo n f<=n-b
 | 0=>by simp[sumTo]
 | n+1=>by
  have e:=yz a c n;simp only[sumTo];by_cases d:n<b
  .have:=a n d;omega
  .have:=c n;omega
def Ee(x:St):counted x<=1:=by cases x<;>simp[counted]
def FI.Gn(h:FI J w t):cnt J<=J.num-J.base:=by
 refine yz (λk hk=>?_) (λk=>Ee _) _;by_cases e:k=0
 .subst e;rw[h.p.st0];rfl
 .rw[h.p.old k e hk];rfl
def FI.idle(h:FI J w t)(d:J.md=.clash)(b:¬fV J.gw):∃c,J.gw=.idle c:=by
 cases a:J.gw with
 | none=>exact dC a (h.p.grp d)
 | idle c=>exact⟨c,rfl⟩
 | _=>rw[a]at b;exact dC db b
theorem SW.add1(k:σ0.md=.clash)(B:pt.pend=0)(Q:σ0.num<σ0.base+1999999990)(C:pt.st=.quit)(z:pt.gl=I)(K:pt.sm=I)(u:pt.cb=I)
  (L:∀w (v:Nat),v<2000000000->w.heap[σ0.Wg]?=Y (eG σ0.ty ((v:Int)*4294967296) 0)->∃da dp,Lq P (0==0) (G fr cs) w=.go (G da dp) (w.setCell (jX σ0.Wg) (.int .u64 (((v:Int)+1)*4294967296))) (Ft σ0.Wg)/\SW P post 0 (gO 0 σ0 w0 {pt with pend:=1}) (G da dp)):
  SW P post 0 (gO 0 σ0 w0 pt) (G fr cs):=
 SW.kQ (gO.rQ w0 k pt) λJ w t hF a O=>by
  have i:J.cz=I:=hF.who.elim (·.2) λx=>dC rfl x.1;have R:J.pend=0:=(hF.pend rfl).tn B;have l:=a.p.wg;have d:=a.p.count;obtain⟨c,y⟩:=a.idle (hF.c.md.tn k) λE=>by obtain⟨c,o,-⟩:=a.p.sem E;rw[i]at o;cases o
  unfold nQ at l;unfold gX at d;rw[y]at l d;have m:=l.1;rw[hF.c.Wg,hF.c.ty]at m;obtain⟨da,dp,N,s2⟩:=L w c l.2 m;have r:jK J.Wg w (w.setCell (jX σ0.Wg) (.int .u64 (((c:Int)+1)*4294967296))):=by rw[hF.c.Wg];exact gB (Wg:=σ0.Wg) (ad:=jX σ0.Wg) rfl w
  have hle:=a.Gn;rw[(hF.c.main rfl).1,hF.c.base]at hle;have q:=a.SP hF.who (hF.c.md.tn k) (l7 hF.c (BG σ0.Wg (σ0.cD 0))) (.inl rfl) (gw:=.idle (c+1)) (pend:=1) ss
   ⟨by rw[show({J with gw:=Gw.idle (c+1)}:Gh).Wg=σ0.Wg from hF.c.Wg,show({J with gw:=Gw.idle (c+1)}:Gh).ty=σ0.ty from hF.c.ty,nS m,show(((c+1:Nat):Int)*4294967296)=((c:Int)+1)*4294967296 by omega],by have:=d.1;omega⟩
   ⟨by have:=d.1;show c+1=1+cnt J;omega,d.2⟩ (λh=>dC i h) (λh=>dC rfl h) (λh=>h.elim) (λc f=>by rw[i]at f;cases f) (λj _ f=>by rw[i]at f;cases f) (λj _ A=>dC A (d.2 j)) r (G fr cs).frame.fn (G fr cs).frame.place
  have s:=hF.deaf a (G fr cs).frame.fn (G fr cs).frame.place (Ft σ0.Wg);have p:bc (J.df 0) (Ft σ0.Wg)=pt.df:=by rw[fq _ (kY _),hF.df]
  rw[p,hF.st]at q;rw[p]at s;exact jv N q (λe=>by cases e) s (.inl ⟨λh=>dC h (kq 0),s2 _ _ (hF.zD (fv:= {pt with pend:=1}) a k r (.inl ⟨rfl,C⟩) hF.kn (λ_=>rfl) (λg h=>by rw[show({pt with pend:=1}:Pt).gl=I from z]at h;cases h) (λb h=>by rw[show({pt with pend:=1}:Pt).sm=I from K]at h;cases h) (λn h=>by rw[show({pt with pend:=1}:Pt).cb=I from u]at h;cases h))⟩)
theorem SW.Zb{n:Nat}(d:σ0.md=.clash)(hk:pt.kn=.no)(p:pt.sm=Y false)(o:pt.cb=Y n)
  (r:∀w (v:Nat),v<2000000000->w.heap[σ0.Wg]?=Y (eG σ0.ty ((v:Int)*4294967296) 0)->∃da dp,Lq P (i==0) (G fr cs) w=.go (G da dp) w #[yx (jX σ0.Wg) false]/\
   (v=0->SW P post i (gO i σ0 w0 {pt with gl:=Y (.idle 0)}) (G da dp))/\(v≠0->v<=n->SW P post i (gO i σ0 w0 {pt with cb:=Y v}) (G da dp))):SW P post i (gO i σ0 w0 pt) (G fr cs):=
 SW.kQ (gO.rQ w0 d pt) λJ w t hF a s=>by
  obtain⟨l,q⟩:=hF.sm _ p;obtain⟨c,b⟩:=a.idle (hF.c.md.tn d) λh=>by have:=q.1 h;cases this
  have e:=a.p.wg;unfold nQ at e;rw[b]at e;have k:=e.1;rw[hF.c.Wg,hF.c.ty]at k;obtain⟨da,dp,m,s2,s3⟩:=r w c e.2 k;have j:=ug (Wg:=σ0.Wg) (σ0.cD i) (ad:=jX σ0.Wg) (wr:=false) rfl;by_cases f:c=0
  .subst f;exact hF.cD a d j (.inr (.inl hk)) m (fv:= {pt with gl:=Y (.idle 0)}) ⟨rfl,rfl,(fq _ one_cell).symm,rfl⟩ (λg h=>by cases h;exact⟨b,.inr ⟨l,rfl⟩⟩) hF.sm hF.cb (s2 rfl)
  .exact hF.cD a d j (.inr (.inl hk)) m (fv:= {pt with cb:=Y c}) ⟨rfl,rfl,(fq _ one_cell).symm,rfl⟩ hF.gl hF.sm (λn h=>by cases h;exact⟨l,by rw[b];exact dj _⟩) (s3 f (by have:=(hF.cb n o).2;rw[b]at this;exact this))
def SW.Zc(c:σ0.md=.clash)(hk:pt.kn=.no)(f:pt.gl=Y (.idle 0))(g:∀w,w.heap[σ0.Wg]?=Y (eG σ0.ty 0 0)->Lq P (i==0) (G fr cs) w=.go (G da dp) w #[yx (jX σ0.Wg) false])
  (next:SW P post i (gO i σ0 w0 pt) (G da dp)):SW P post i (gO i σ0 w0 pt) (G fr cs):=
 SW.kQ (gO.rQ w0 c pt) λJ w t hF b h=>by
  have e:=(hF.gl _ f).1;have a:=b.p.wg;unfold nQ at a;rw[e]at a;have d:=a.1;rw[hF.c.Wg,hF.c.ty]at d;exact hF.cD b c (ug (σ0.cD i) rfl) (.inr (.inl hk)) (g w (by rw[d];simp)) ⟨rfl,rfl,(fq _ one_cell).symm,rfl⟩ hF.gl hF.sm hF.cb next
def FI.OS(h:FI J w t){c:Nat}(a:J.cz=Y c):J.pend=0:=(h.p.czl c a).2.2.2.1
theorem SW.Xy{vs:Nat}(V:vs≠0)(hi:0<i)(k:σ0.md=.clash)(m:pt.st=.wait)(hk:pt.kn=.no)(Q:pt.sm=Y false)(N:pt.gl=I)(L:pt.cb=Y vs)
  (S:∀w (v:Nat),v<2000000000->w.heap[σ0.Wg]?=Y (eG σ0.ty ((v:Int)*4294967296) 0)->
   (v=vs->∃da dp,Lq P (i==0) (G fr cs) w=.go (G da dp) (w.setCell (jX σ0.Wg) (.int .u64 ((v:Int)*4294967296+1))) (Ft σ0.Wg)/\SW P post i (gO i σ0 w0 {pt with sm:=Y true,cb:=I}) (G da dp))/\
   (v<vs->∃da dp,Lq P (i==0) (G fr cs) w=.go (G da dp) w #[yx (jX σ0.Wg) false]/\SW P post i (gO i σ0 w0 {pt with cb:=Y v}) (G da dp))):SW P post i (gO i σ0 w0 pt) (G fr cs):=
 SW.kQ (gO.rQ w0 k pt) λJ w t hF a U=>by
  obtain⟨d,R⟩:=hF.sm _ Q;obtain⟨c,o⟩:=a.idle (hF.c.md.tn k) λh=>by have:=R.1 h;cases this
  have B:i≠0:=zz;have l:=a.p.wg;have f:=a.p.count;unfold nQ at l;unfold gX at f;rw[o]at l f;have q:=l.1;rw[hF.c.Wg,hF.c.ty]at q;obtain⟨T,s2⟩:=S w c l.2 q;have C:J.st i=.wait:=hF.st.tn m;by_cases K:c=vs
  .obtain⟨da,dp,s3,r⟩:=T K;have x:jK J.Wg w (w.setCell (jX σ0.Wg) (.int .u64 ((c:Int)*4294967296+1))):=by rw[hF.c.Wg];exact gB (Wg:=σ0.Wg) (ad:=jX σ0.Wg) rfl w
   have O:=a.OS d;have u:=a.SP hF.who (hF.c.md.tn k) (l7 hF.c (BG σ0.Wg (σ0.cD i))) (.inr (.inl (hF.kn.tn hk))) (gw:=.wait c) (pend:=J.pend) ss
    ⟨by rw[show({J with gw:=Gw.wait c}:Gh).Wg=σ0.Wg from hF.c.Wg,show({J with gw:=Gw.wait c}:Gh).ty=σ0.ty from hF.c.ty,nS q],l.2⟩
    ⟨by have:=f.1;show c=cnt J;omega,zz,f.2⟩ (λ_=>O) (λ_=>rfl) (λ_=>⟨i,d,C⟩) (λc' y z=>by rw[d]at y;cases y;rw[C]at z;cases z) (λj p E=>by rw[d]at E;cases E;exact dC rfl p) (λj _ p=>dC p (f.2 j)) x (G fr cs).frame.fn (G fr cs).frame.place
   have A:=hF.deaf a (G fr cs).frame.fn (G fr cs).frame.place (Ft σ0.Wg);have s:bc (J.df i) (Ft σ0.Wg)=pt.df:=by rw[fq _ (kY _),hF.df]
   rw[s,hF.st]at u;rw[s]at A;exact jv s3 u (λe=>by cases e) A (.inl ⟨λ_=>by rw[m];simp,r _ _ (hF.zD (fv:= {pt with sm:=Y true,cb:=I}) a k x (.inr ⟨B,by show pt.st≠_;rw[m];simp,by intro v;show pt.st≠_;rw[m];simp⟩) hF.kn (λe=>dC e B) (λg h=>by rw[show({pt with sm:=Y true,cb:=I}:Pt).gl=I from N]at h;cases h) (λb h=>by cases h;exact⟨d,by simp[fV]⟩))⟩)
  .obtain⟨da,dp,s3,r⟩:=s2 (by have:=(hF.cb vs L).2;rw[o]at this;simp only[nR]at this;omega);exact hF.cD a k (ug (σ0.cD i) rfl) (.inr (.inl hk)) s3 (fv:= {pt with cb:=Y c}) ⟨rfl,rfl,(fq _ one_cell).symm,rfl⟩ hF.gl hF.sm (λn h=>by cases h;exact⟨d,by rw[o];exact dj _⟩) r
theorem SW.sem(hi:0<i)(L:σ0.md=.clash)(p:pt.st=.wait)(hk:pt.kn=.no)(U:pt.sm=Y true)(O:pt.cb=I)
  (W:∀w a,w.heap[σ0.Wg]?=Y (eG σ0.ty a 0)->Lq P (i==0) (G fr cs) w=.go {G fr cs with status:=.blocked} w #[])
  (a1:∀w,w.heap[σ0.Wg]?=Y (eG σ0.ty 0 1)->Lq P (i==0) (G fr cs) w=.go (G da dp) (w.setCell (wG σ0.Wg) (.int .u32 0)) (semEvents (wG σ0.Wg)))
  (next:SW P post i (gO i σ0 w0 {pt with gl:=Y (.idle 0),sm:=Y false}) (G da dp)):SW P post i (gO i σ0 w0 pt) (G fr cs):=by
 intro a3 a2 A;have K:i≠0:=zz;have Q:(i==0)=false:=by simp;omega
 refine .inr ⟨hi,bZ.sem ⟨hi,λ(J:Gh) w t hrel (l:FI J w t)=>?_⟩⟩;have hF:=A.rely (hrel.2 A.who.live);obtain⟨r,V⟩:=hF.sm _ U;have o:fV J.gw:=V.2 rfl;have Z:J.st i=.wait:=hF.st.tn p;have f:=l.p.wg;have m:=l.p.count;unfold nQ at f;unfold gX at m;refine⟨⟨Z,o⟩,λu=>?_,λu=>?_⟩
 .rw[<- Q];have:∃a,w.heap[J.Wg]?=Y (eG J.ty a 0):=by
   cases k:J.gw with
   | none=>rw[k]at o;exact o.elim
   | idle c=>rw[k]at o;exact o.elim
   | wait c=>rw[k]at f;exact⟨_,f.1⟩
   | last=>rw[k]at f;exact⟨_,f⟩
   | zero=>rw[k]at f;exact⟨_,f⟩
   | up=>exact dC k u
  obtain⟨a,B⟩:=this;rw[hF.c.Wg,hF.c.ty]at B;exact W w a B
 .have k:J.gw=.up:=u;rw[k]at f m;have x:=f;rw[hF.c.Wg,hF.c.ty]at x;have C:jK J.Wg w (w.setCell (wG σ0.Wg) (.int .u32 0)):=by rw[hF.c.Wg];exact gB (Wg:=σ0.Wg) (ad:=wG σ0.Wg) rfl w
  have T:=l.OS r;have z:=l.SP hF.who (hF.c.md.tn L) (l7 hF.c (Jj σ0.Wg (σ0.cD i))) (.inr (.inl (hF.kn.tn hk))) (gw:=.idle 0) (pend:=J.pend) ss
   ⟨by rw[show({J with gw:=Gw.idle 0}:Gh).Wg=σ0.Wg from hF.c.Wg,show({J with gw:=Gw.idle 0}:Gh).ty=σ0.ty from hF.c.ty,Ed x];simp,zz⟩
   ⟨by have:=m.1;show 0=J.pend+cnt J;omega,m.2⟩ (λ_=>T) (λ_=>rfl) (λh=>h.elim) (λ_ _ _=>rfl) (λj s N=>by rw[r]at N;cases N;exact dC rfl s) (λj _ s=>dC s (m.2 j)) C (G fr cs).frame.fn (G fr cs).frame.place
  have E:=hF.deaf l (G fr cs).frame.fn (G fr cs).frame.place (semEvents (wG σ0.Wg));have y:bc (J.df i) (semEvents (wG σ0.Wg))=pt.df:=by rw[AK,hF.df]
  rw[y,hF.st]at z;rw[y]at E;have S:=jv (post:=λ_ _=>True) (a1 w x) z (λe=>by cases e) E (.inl ⟨λ_=>by rw[p];simp,(.inr ⟨hi,(next _ _ (hF.zD (fv:= {pt with gl:=Y (.idle 0),sm:=Y false}) l L C (.inr ⟨K,by show pt.st≠_;rw[p];simp,by intro v;show pt.st≠_;rw[p];simp⟩) hF.kn (λe=>dC e K) (λg h=>by cases h;exact⟨rfl,.inr ⟨r,rfl⟩⟩) (λb h=>by cases h;exact⟨r,by simp[fV]⟩) (λn h=>by rw[show({pt with gl:=Y (.idle 0),sm:=Y false}:Pt).cb=I from O]at h;cases h))).work hi⟩)⟩);refine S.imp λg J w t R=>?_;rcases R with⟨a,b,c⟩|⟨a,b,q, -, d⟩
  .exact .inl ⟨a,b,c.work hi⟩
  .exact .inr ⟨a,b,q,db,d⟩
end
section
open Go.ConcN (upd upd_same upd_ne sumTo sumTo_congr)
def FI.Zd(h:FI J w t)(d:J.cz=Y i)(g:J.gw=.idle 0):∀k,k≠i->J.st k=.quit:=by
 have b:=h.p.count;unfold gX at b;rw[g]at b;intro k hk;have e:k<J.num->counted (J.st k)=0:=λc=>by have:=yy (f:=J.st) c;unfold cnt at b;omega
 by_cases c:k<J.num
 .have:=e c
  cases a:J.st k with
  | quit=>rfl
  | run=>rw[a]at this;cases this
  | off v=>rw[a]at this;cases this
  | rel=>rw[a]at this;cases this
  | last=>exact dC a (b.2 k)
  | wait=>have:=h.p.wz k (.inl a);rw[d]at this;cases this;exact dC rfl hk
  | done=>have:=h.p.wz k (.inr a);rw[d]at this;cases this;exact dC rfl hk
 .exact h.m.out k (mr c)
def Fu(kn:Nat->Kn)(k:Nat):Kn:=if k=0 then kn k else match kn k with|.rel=>.cl|y=>y
def FI.acquire(h:FI J w t)(hi0:i≠0)(K:J.md=.clash)(hst:J.st i=.wait)(l:J.cz=Y i)(a4:J.gw=.idle 0)(hdf:J.df i=0)(fn:ba)(pos:String):
  FI (dg J i .done (.idle 0) (Fu J.kn) J.pend 0) w (t++al.ofEvents i fn pos #[jd (.acquire (jX J.Wg))])/\∀j,j≠i->jr j J w (dg J i .done (.idle 0) (Fu J.kn) J.pend 0) w:=by
 have ï:=0;exact qt
theorem SW.acq(hi:0<i)(c:σ0.md=.clash)(j:pt.st=.wait)(k:pt.df=0)(l:pt.gl=Y (.idle 0))(o:σ0.cz=Y i)(n:∀w,Cs σ0.ty σ0.Wg w->Lq P (i==0) (G fr cs) w=.go (G da dp) w #[jd (.acquire (jX σ0.Wg))])
  (next:SW P post i (gO i σ0 w0 {st:=.done,kn:=.no,df:=0,pend:=0}) (G da dp)):SW P post i (gO i σ0 w0 pt) (G fr cs):=
 SW.kQ (gO.rQ w0 c pt) λJ w t hF b m=>by
  have a:i≠0:=zz;have d:J.df i=0:=hF.df.tn k;have f:=n w m;rw[<- hF.c.Wg]at f;have g:=hF.st.tn j;refine jv f (b.acquire a (hF.c.md.tn c) g (hF.c.z o) (hF.gl _ l).1 d _ _) (λe=>by cases e) (by rw[hF.deaf b,d];simp[bc,jd]) (.inl ⟨λ_=>by simp,next _ _ (hF.zD (fv:= {st:=.done,kn:=.no,df:=0,pend:=0}) b c (.refl _ _) (.inr ⟨a,by simp,by simp⟩) ?_ (λe=>dC e a) (λ_ h=>by cases h) (λ_ h=>by cases h))⟩);simp[Fu,a,b.p.kR i a (.inr (.inr (.inl g)))]
def pN(kn:Nat->Kn)(k:Nat):Kn:=if k=0 then kn k else match kn k with|.no=>.sh|.cl=>.sh|y=>y
def pI(J:Gh)(i:Nat):Gh:= {dg J i .quit (.idle 0) (pN J.kn) J.pend 0 with cl:=true}
def Fv(c:Nat):Array Event:= #[⟨.obj c,false,true⟩,⟨.obj c,true,true⟩]
def FI.close(h:FI J w t)(hi0:i≠0)(K:J.md=.clash)(hst:J.st i=.done)(hdf:J.df i=0){s:Nat}{tm:Bool}(r:w.heap[J.C]?=Y (.chan 0 #[] false s s tm))(fn:ba)(pos:String):
  FI (pI J i) (w.setChan J.C 0 #[] true s s tm) (t++al.ofEvents i fn pos (Fv J.C))/\∀j,j≠i->jr j J w (pI J i) (w.setChan J.C 0 #[] true s s tm):=by
 have æ:=0;exact qt
theorem bZ.close(hi:0<i)(r:J.md=.clash)(b:J.st i=.done)(o:J.df i=0)(y:mayWake P (G fr cs)=true)
  (v:∀bj,aH (J.V i) w bj->∀s tm,bj.heap[J.C]?=Y (.chan 0 #[] false s s tm)->Lq P false (G fr cs) bj=.go (G da dp) (bj.setChan J.C 0 #[] true s s tm) (Fv J.C))(g:∃q,QuitsD P q 0 (G da dp)):bZ fI P i (G fr cs) J w:=by
 refine bZ.own λ(σ1:Gh) bj t u (c:FI σ1 bj t)=>?_;have l:i≠0:=zz;have a:=u.2 (.inr (by rw[b];simp));have n:Cu i σ1:=.inr ⟨l,by rw[a.kin.st,b];simp,by rw[a.kin.st,b];simp⟩;have m:σ1.md=.clash:=a.kin.md.tn r;obtain⟨-, s,tm,e⟩:=c.p.chan (by rw[m];simp);rw[n.cl c]at e;have x:=v bj a.w s tm (by rw[<- a.kin.C];exact e);have k:σ1.df i=0:=a.kin.df.tn o;have d:=c.close l m (a.kin.st.tn b) k e (G fr cs).frame.fn (G fr cs).frame.place;have p:(i==0)=false:=by simp;omega
 rw[a.kin.C]at d;refine⟨G da dp,_,Fv J.C,pI σ1 i,by rw[p];exact x,.inl rfl,rfl,d.1,λj f _=>d.2 j f,⟨λ_ _ h=>(by cases h),λ_=>.inr y,λj f=>?_⟩,.inr ⟨hi,Sx _ _ _,?_⟩⟩
 .show(pI σ1 i).st j=.quit↔σ1.st j=.quit;rw[show(pI σ1 i).st j=σ1.st j from Sh _ _ f]
 .obtain⟨q,g⟩:=g;refine⟨q,db,?_⟩;rw[Deaf_own,c.t.deaf i n.live,k];simpa[bc,Fv]using g
end
variable{c:Nat}{v z:M}{ok:Bool}{frv:M->Kf}
section
open Go.ConcN (upd upd_same upd_ne sumTo sumTo_congr)
structure Jk(J σ':Gh):Prop where
 md:σ'.md=J.md
 C:σ'.C=J.C
 Wg:σ'.Wg=J.Wg
 ty:σ'.ty=J.ty
 base:σ'.base=J.base
 pay:σ'.pay=J.pay
def Jk.refl(J:Gh):Jk J J:=⟨rfl,rfl,rfl,rfl,rfl,rfl⟩
theorem Jk.tn{a b c:Gh}(h:Jk a b)(k:Jk b c):Jk a c:=⟨k.md.tn h.md,k.C.tn h.C,k.Wg.tn h.Wg,k.ty.tn h.ty,k.base.tn h.base,k.pay.tn h.pay⟩
def Fs.SQ(h:Fs i J σ'):Jk J σ':=⟨h.md,h.C,h.Wg,h.ty,h.base,h.pay⟩
theorem oY{V:Nat->Prop}{w bj:H}(h:aH V w bj)(a:¬V c){cap:Nat}{buf:Array M}{b:Bool}{s r:Nat}{tm:Bool}:aH V w (bj.setChan c cap buf b s r tm):=
 h.tn ⟨rfl,rfl,rfl,by simp[H.setChan],λx d=>by rw[fW,cd (λe=>a (by rw[e];exact d))]⟩
def OT(h:FI J w t)(b:i≠0)(c:J.st i=.off v):J.cl=false:=by
 cases a:J.cl with
 | false=>rfl
 | true=>have:=(h.p.kG a i b).1;rw[c]at this;cases this
def bZ.Ze(hi:0<i)(k:J.md=.best)(n:J.st i=.off v)(o:∀bj,aH (J.V i) w bj->Lq P false (G fr cs) bj=.comm (G fr cs) #[scase J.C v z] true .send bj #[])(m:∃q,QuitsD P q 0 (Conc.served (G fr cs) D)):bZ fI P i (G fr cs) J w:=by
 have ø:=0;exact yn
def bZ.Zf(hi:0<i)(k:J.md=.clash)(n:J.st i=.off v)(o:∀bj,aH (J.V i) w bj->Lq P false (G fr cs) bj=.comm (G fr cs) #[scase J.C v z] true .send bj #[])(hserved:Conc.served (G fr cs) D=G da dp)
  (next:∀(σ':Gh) w',σ'.st i=.run->σ'.df i=0->(∀b,σ'.V i b↔J.V i b)->(∀b,σ'.O i b↔J.O i b/\¬sB v b)->aH (J.V i) w w'->Jk J σ'->σ'.snt i->bZ fI P i (G da dp) σ' w'):bZ fI P i (G fr cs) J w:=yn
def aQ.Zg(U:J.md=.best)(C:J.df 0=0)(y:J.got.length<J.num-J.base)(W:∀bj,aH (J.V 0) w bj->Lq P true (G fr cs) bj=.comm (G fr cs) #[rcase J.C z] true (.recv ok) bj #[])(V:∀v,Conc.served (G fr cs) (recvd ok v true)=G (frv v) dp)
  (next:∀(σ':Gh) w' j v,J.base<=j->j<J.num->(∀x,(j,x)∉J.got)->J.pay j v w'->σ'.got=J.got++[(j,v)]->(∀b,σ'.V 0 b↔J.V 0 b\/sB v b)->(∀b,σ'.O 0 b↔J.O 0 b)->aH (J.V 0) w w'->Jk J σ'->σ'.df 0=0->σ'.num=J.num->σ'.cz=J.cz->σ'.pend=J.pend->(σ'.cD 0↔J.cD 0)->(∀b,sB v b->b<w'.heap.size)->aQ fI P post (G (frv v) dp) σ' w'):aQ fI P post (G fr cs) J w:=by
 have ø:=0;exact pw
theorem FI.closed(h:FI J w t)(A:J.cl=true)(N:J.df 0=0)(fn:ba)(pos:String):
  FI (settled {J with kn:=λk=>if k=0 then J.kn 0 else .top} w.heap.size) w (t++#[{g:=0,fn,pos,act:=.recvClosed J.C}])/\yu 0 J w (settled {J with kn:=λk=>if k=0 then J.kn 0 else .top} w.heap.size):=by
 have s:∀k,k≠0->J.st k=.quit:=λk hk=>(h.p.kG A k hk).1;have u:∀k,J.st k=.quit:=λk=>by
  by_cases e:k=0
  .rw[e];exact h.p.st0
  .exact s k e
 obtain⟨R,a1⟩:=h.p.clz A;have E:J.md=.clash:=(h.p.czl R a1).2.2.1;obtain⟨V,-⟩:=h.p.chan (by rw[E];simp);have W:=h.m.hbnd _ V;have K:Deaf t 0=0:=(h.t.deaf 0 (.inl rfl)).tn N;have G:(#[{g:=0,fn,pos,act:=.recvClosed J.C}]:Th)[0]?=Y {g:=0,fn,pos,act:=.recvClosed J.C}:=rfl;have l:∀op∈(#[{g:=0,fn,pos,act:=.recvClosed J.C}]:Th),op= {g:=0,fn,pos,act:=.recvClosed J.C}:=λop d=>by simpa using d
 have Q:∀op∈(#[{g:=0,fn,pos,act:=.recvClosed J.C}]:Th),op.act≠.mark .disable/\op.act≠.mark .enable:=λop d=>by rw[l op d];exact⟨by simp,by simp⟩
 have i:TI (dg J 0 .quit J.gw (λk=>if k=0 then J.kn 0 else .top) J.pend 0) (t++#[{g:=0,fn,pos,act:=.recvClosed J.C}]) w.heap.size:=by
  refine h.t.zD h.m (.inl rfl) h.m.num (λop d=>by rw[l op d]) (by rw[deaf_quiet Q];exact K) (λop d a o=>by rw[l op d]at o;cases o) (.inl rfl) (λop d=>by rw[l op d];exact W) (λop d a=>by rw[l op d];simp) λk hk=>?_;have P:∀(x:Nat) (op:al) (a:Touch),(#[{g:=0,fn,pos,act:=.recvClosed J.C}]:Th)[x]?=Y op->op.g=k->op.act.touch?=Y a->a.loc.isMemory=true->Loose (t++#[{g:=0,fn,pos,act:=.recvClosed J.C}]) (t.size+x):=λx op a f h2 _ _=>by
   have:=l op (il f);rw[this]at h2;exact dC h2.symm hk
  have r:=h.t.hand k hk;rcases(h.p.kG A k hk).2 with e|e
  .unfold ja at r|-;rw[e]at r;have S:({J with kn:=λk=>if k=0 then J.kn 0 else .top}:Gh).kn k=.top:=by simp[hk]
   rw[S];obtain⟨q,q1,q2,q3⟩:=r;exact(q3.app P).hk ⟨t.size+0,_,gp G,rfl,.inr (GQ (wS q1) (kT G) (rB q2) (heard_new Q G K))⟩
  .exact r.app (by simp[hk,e]) rfl rfl rfl (.inr P)
 have Z:FI {J with kn:=λk=>if k=0 then J.kn 0 else .top} w (t++#[{g:=0,fn,pos,act:=.recvClosed J.C}]):=by
  have y:∀k,k≠0->({J with kn:=λk=>if k=0 then J.kn 0 else .top}:Gh).kn k=.top:=λk hk=>by simp[hk]
  refine⟨⟨h.m.num,h.m.own,h.m.cX,h.m.dis,h.m.nhid,h.m.hbnd,h.m.dead,h.m.out⟩,⟨i.clean,i.low,λk hk=>?_,i.above,i.norel,λk hk j a o C=>?_,λk hk=>(i.hand k hk).same rfl rfl rfl rfl,i.says,i.atom⟩,⟨h.p.st0,h.p.off,h.p.paid,h.p.chan,h.p.group,h.p.wg,h.p.count,(λz=>by have L:J.md=.best:=z;rw[E]at L;cases L),h.p.basep,h.p.clz,h.p.old,h.p.wz,h.p.czl,h.p.sem,λk f h2=>?_,λk f h2=>?_,λk f h2=>?_,λk f h2=>?_,λc f h2=>?_,λk f h2=>?_,λ_ k hk=>⟨s k hk,.inr (y k hk)⟩,λC=>?_,h.p.doneW,h.p.grp⟩,h.s.same rfl rfl rfl rfl rfl rfl rfl rfl⟩
  .have B:k=0:=hk.elim id λe=>dC (u k) e;subst B;rw[i.deaf 0 (.inl rfl)];exact(Sx J.df 0 0).tn N.symm
  .have B:k=0:=hk.elim id λe=>dC (u k) e;subst B;refine(i.know 0 (.inl rfl) j a o C).imp id λ⟨b,z,a2⟩=>⟨b,z,?_⟩;rcases a2 with⟨m,n,T,U⟩|⟨m,n⟩|⟨m,n⟩
   .exact .inl ⟨m,n,λe=>T ((OM (.inl rfl) b).2 e),U⟩
   .exact .inr (.inl ⟨λe=>m ((GU (.inl rfl) b).2 e),n⟩)
   .exact .inr (.inr ⟨m,n⟩)
  .rw[y k f]at h2;cases h2
  .have ø:=0;exact xbb
  .exact xbb
  .rw[y k f]at h2;cases h2
  .have e:({J with kn:=λk=>if k=0 then J.kn 0 else .top}:Gh).st c=.quit:=u c;rw[e]at h2;cases h2
  .rw[y k f]at h2;cases h2
  .have O:J.md=.idle:=C;rw[E]at O;cases O
 have:=Z.settle s (λk hk=>by simp[hk]);exact⟨this.1,rE s rfl rfl (λh=>by cases h) (λh=>by cases h)⟩
def aQ.Zh(U:J.md=.clash)(C:J.df 0=0)(hcz:J.cz=Y c){frz:Kf}(W:∀bj,aH (J.V 0) w bj->Lq P true (G fr cs) bj=.comm (G fr cs) #[rcase J.C z] true (.recv ok) bj #[])
  (V:∀v,Conc.served (G fr cs) (recvd ok v true)=G (frv v) dp)(hservedz:Conc.served (G fr cs) (recvd ok z false)=G frz dp)
  (next:∀(σ':Gh) w' j v,J.base<=j->j<J.num->j≠c->(∀x,(j,x)∉J.got)->J.pay j v w'->σ'.got=J.got++[(j,v)]->(∀b,σ'.V 0 b↔J.V 0 b\/sB v b)->(∀b,σ'.O 0 b↔J.O 0 b)->aH (J.V 0) w w'->Jk J σ'->σ'.df 0=0->σ'.num=J.num->σ'.cz=J.cz->(∀b,sB v b->b<w'.heap.size/\¬J.O 0 b)->aQ fI P post (G (frv v) dp) σ' w')
  (nextz:∀(σ':Gh) w',(∀k,J.base<=k->k<J.num->k≠c->(∀v w,¬J.pay k v w)\/∃v,(k,v)∈J.got)->σ'.md=.idle->σ'.df 0=0->σ'.got=J.got->σ'.num=J.num->(σ'.cD 0)->(∀b,J.V 0 b->σ'.O 0 b)->(∀b,σ'.V 0 b↔σ'.O 0 b)->aH (J.V 0) w w'->(∀b,σ'.V 0 b->b<w'.heap.size)->aQ fI P post (G frz dp) σ' w'):aQ fI P post (G fr cs) J w:=by
 have å:=0;exact pw
end
variable{x:St}{fl:Option Nat}{eK:Nat->Prop}{frc:Kf}{csc:List Kf}
section
open Go.ConcN (upd upd_same upd_ne sumTo sumTo_congr)
def Jl(a:0<J.num)(b:Nat):(de J x fl eK).V 0 b↔J.V 0 b:=by rw[show(de J x fl eK).V 0=J.V 0 from Sh _ _ zz]
theorem Jm(a:0<J.num)(b:Nat):¬(de J x fl eK).O 0 b:=by
 have:(de J x fl eK).O 0=λ_=>False:=(Sh _ _ zz).tn (Sx _ _ _);rw[this];exact id
def Jn(b:Nat):¬(de J x fl eK).O J.num b:=by
 have:(de J x fl eK).O J.num=λ_=>False:=Sx _ _ _;rw[this];exact id
def aQ.OU(f:J.df 0=0)(l:J.cz=I)(o:J.md=.best\/(J.md=.clash/\J.pend=1))(r:∀bj,aH (J.V 0) w bj->Lq P true (G fr cs) bj=.spawn (G da dp) (G frc csc) bj #[])
  (child:∀(σ':Gh) w',0<J.num->aH (J.V 0) w w'->σ'.st J.num=.run->σ'.df J.num=0->(∀b,σ'.V J.num b↔J.V 0 b)->(∀b,¬σ'.O J.num b)->Jk J σ'->¬σ'.snt J.num->bZ fI P J.num (G frc csc) σ' w')
  (next:∀(σ':Gh) w',aH (J.V 0) w w'->(∀b,σ'.V 0 b↔J.V 0 b)->(∀b,¬σ'.O 0 b)->Jk J σ'->σ'.num=J.num+1->σ'.df 0=0->σ'.cz=I->σ'.pend=0->σ'.got=J.got->(σ'.cD 0↔J.cD 0)->aQ fI P post (G da dp) σ' w'):aQ fI P post (G fr cs) J w:=by
 have ø:=0;exact wy
def aQ.WS(f:J.df 0=0)(l:J.cz=I)(o:J.md=.clash)(hpd:J.pend=0)(hsay:J.cD 0)(r:∀bj,aH (J.V 0) w bj->Lq P true (G fr cs) bj=.spawn (G da dp) (G frc csc) bj #[])
  (child:∀(σ':Gh) w',0<J.num->aH (J.V 0) w w'->σ'.st J.num=.wait->σ'.kn J.num=.no->σ'.df J.num=0->σ'.cD J.num->σ'.cz=Y J.num->¬fV σ'.gw->(∀b,σ'.V J.num b↔J.V 0 b)->(∀b,¬σ'.O J.num b)->Jk J σ'->bZ fI P J.num (G frc csc) σ' w')
  (next:∀(σ':Gh) w',aH (J.V 0) w w'->(∀b,σ'.V 0 b↔J.V 0 b)->(∀b,¬σ'.O 0 b)->Jk J σ'->σ'.num=J.num+1->σ'.df 0=0->σ'.cz=Y J.num->σ'.got=J.got->aQ fI P post (G da dp) σ' w'):aQ fI P post (G fr cs) J w:=wy
def FI.SU(h:FI J w t)(i:J.md=.best)(g:∀k,J.base<=k->k<J.num->∃v,(k,v)∈J.got):FI (settled J w) w t/\yu 0 J w (settled J w):=by
 obtain⟨l,b,m,n,c,d⟩:=h.p.best i;have a:=λk hk=>by
  by_cases f:k<J.base
  .exact h.p.old k hk f
  .by_cases h2:k<J.num
   .obtain⟨v,j⟩:=g k zz h2;exact(c k v j).2.2
   .exact h.m.out k zz
 refine h.settle a λk hk=>(d k hk).resolve_left λe=>?_;rcases h.p.kA k hk e with(e1|⟨v,e1⟩)|e1
 .rw[a k hk]at e1;cases e1
 .rw[a k hk]at e1;cases e1
 .rw[b]at e1;cases e1
theorem FI.over(h:FI J w t)(n:J.md=.idle):t.HandedOver:=by
 obtain⟨-, -, -, -, s⟩:=h.p.qz n;intro j g l i m;obtain⟨op,d,k⟩:=Option.map_eq_some_iff.1 l;obtain⟨x,o,r,q⟩:=m;have f:=h.t.hand g i;unfold ja at f;rw[(s g i).2]at f;have c:op.act.touch?=Y x:=by simpa[Th.act?,d]using o
 rcases f j op x d k c r with⟨p,z,a,h2,b⟩|⟨v,ad,wr,a,h2,b⟩
 .refine⟨p,by simp[Th.g?,a,h2],?_⟩;rcases b with rfl|b
  .rw[d]at a;cases a;exact dC (k.symm.tn h2) i
  .exact b
 .rw[d]at a;cases a;rw[h2]at c;simp only[MemAct.touch?,fp]at c;subst c;rcases q with e|⟨g',e1,u⟩
  .exact dC rfl e
  .rw[l]at e1;cases e1;rw[k]at b;omega
theorem aQ.Zi(f:J.md=.idle)(h:∀bj,aH (J.V 0) w bj->∃v,Lq P true (G fr cs) bj=.ended (.done v) bj #[]/\post v bj):aQ fI P post (G fr cs) J w:=by
 refine aQ.ends ⟨rfl,λ(σ1:Gh) bj t g (a:FI σ1 bj t)=>?_⟩;have c:=g.2 (.inl rfl);have b:=c.kin.md.tn f;obtain⟨v,d,h2⟩:=h bj c.w;have e:t++al.ofEvents 0 (G fr cs).frame.fn (G fr cs).frame.place #[]=t:=by rw[show al.ofEvents 0 (G fr cs).frame.fn (G fr cs).frame.place #[]= #[]from rfl];exact Array.append_empty
 refine⟨v, #[],d,?_,?_,λj i _=>((a.p.qz b).2.2.2.2 j zz).1,h2⟩
 .rw[e];exact a.t.clean
 .rw[e];exact a.over b
def Xz:Gh:= {num:=1,st:=λ_=>.quit,V:=λ_ _=>False,O:=λ_ _=>False,df:=λ_=>0,hid:=λ_=>False,cD:=λk=>k=0,kn:=λ_=>.top,C:=0,cl:=false,ty:=0,Wg:=0,gw:=.none,md:=.idle,base:=1,cz:=I,pend:=0,pay:=λ_ _ _=>True,got:=[],snt:=λ_=>False}
def start(w:H):Gh:= {Xz with V:=λk b=>k=0/\b<w.heap.size,O:=λk b=>k=0/\b<w.heap.size}
theorem L0(w:H):FI (start w) w #[]:=by
 have f:∀(j:Nat) a,touchAt #[] j=Y a->False:=λj a h=>by obtain⟨op,e,-⟩:=touch_of h;simp at e
 refine⟨⟨Nat.one_pos,λ_ _ h=>h,λ_ _ h=>h.2,λk j b l h g=>l (h.1.tn g.1.symm),λ_ _ _ h=>h,λ_ h=>h.elim,λk hk _ b h=>hk h.1,λ_ _=>rfl⟩,⟨λo=>?_,by simp,λk _=>rfl,λ_ _=>rfl,by simp,λk _ j a d _=>(f j a d).elim,λk hk j op a e=>(by simp at e),λa b d i=>d.tn i.symm,λj a d=>(f j a d).elim⟩,⟨rfl,λk v h=>(by cases h),λ_ _ _ _ _ h=>h,λh=>dC rfl h,λh=>dC rfl h,db,db,λh=>(by cases h),⟨Nat.one_pos,dj 1⟩,λh=>(by cases h),λ_ _ _=>rfl,λk h=>(by rcases h with h|h<;>cases h),λc h=>(by cases h),λh=>h.elim,λk _ h=>(by cases h),λk _ h=>(by rcases h with h|⟨_,h⟩|h|h<;>cases h),λk _ h=>(by rcases h with h|h<;>cases h),λk _ h=>(by cases h),λc h=>(by cases h),λk _ h=>(by cases h),λh=>(by cases h),λ_=>⟨rfl,rfl,rfl,rfl,λk _=>⟨rfl,rfl⟩⟩,λc h=>(by cases h),λh=>(by cases h)⟩,λm=>(by cases m)⟩;rintro⟨a,b, -, ⟨x,y,n, -,-⟩,-⟩;exact f a x n
end
end Go.Co
