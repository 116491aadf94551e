import Derived.Test.YthfhocgpjjkjlaaGreatDoorZe
set_option maxRecDepth 100000
set_option maxHeartbeats 4000000
set_option linter.all false
noncomputable section
open Go renaming undef->D,World->H,Frame->Kf,stepG->Lq,Value->M,Program->Ps,Trace->Th,MemOp->al,FuncId->ba,deafBehind->bc
open Option renaming none->I,some->Y
open Go.ConcN renaming upd_ne->Sh,upd_same->Sx
namespace Go.Co
open Go.Conc
section
open Go.ConcN (upd upd_same upd_ne sumTo sumTo_congr)
variable{ad:Addr}{wr:Bool}
section
variable{P:Ps}{post:M->H->Prop}{J σ' σ0:Gh}{t u:Th}{w w' w0:H}{sz i:Nat}{pt:Pt}{fr da:Kf}{cs dp:List Kf}
def fq(d:Nat){es:Array Event}(h:∀e∈es,∃ad wr,e=yx ad wr):bc d es=d:=deafBehind_still (λe a=>by
 obtain⟨ad,wr,rfl⟩:=h e a;exact⟨by simp[yx],by simp[yx]⟩) d
def AK(d:Nat)(ad:Addr):bc d (semEvents ad)=d:=by simp[bc,semEvents]
def Ft(Wg:Nat):Array Event:= #[yx (jX Wg) false,yx (jX Wg) true]
def kY(Wg:Nat):∀e∈Ft Wg,∃ad wr,e=yx ad wr:=by
 intro e a;simp only[Ft,hZ,dq,fp,or_false]at a;rcases a with rfl|rfl<;>exact⟨_,_,rfl⟩
def one_cell:∀e∈ #[yx ad wr],∃ad wr,e=yx ad wr:=by
 intro e a;obtain rfl:e=yx ad wr:=by simpa using a
 exact⟨_,_,rfl⟩
def BG(Wg:Nat)(s:Prop):∀e∈Ft Wg,jE Wg s e:=by
 intro e a;simp only[Ft,hZ,dq,fp,or_false]at a;rcases a with rfl|rfl<;>exact .inl ⟨_,_,rfl,rfl⟩
def ug{Wg:Nat}(s:Prop)(h:ad.block=Wg):∀e∈ #[yx ad wr],jE Wg s e:=by
 intro e a;obtain rfl:e=yx ad wr:=by simpa using a
 exact .inl ⟨_,_,h,rfl⟩
def Jj(Wg:Nat)(s:Prop):∀e∈semEvents (wG Wg),jE Wg s e:=by
 intro e a;simp only[semEvents,hZ,dq,fp,or_false]at a;rcases a with rfl|rfl|rfl|rfl
 .exact .inr (.inr (.inl rfl))
 .exact .inl ⟨_,_,rfl,rfl⟩
 .exact .inl ⟨_,_,rfl,rfl⟩
 .exact .inr (.inr (.inr (.inl rfl)))
def SW.release(hi:0<i)(c:σ0.md=.clash)(k:σ0.snt i)(g:pt.st=.run)(j:pt.df=0)(l:∀w,Cs σ0.ty σ0.Wg w->Lq P (i==0) (G fr cs) w=.go (G da dp) w #[jd (.releaseMerge (jX σ0.Wg))])
  (next:SW P post i (gO i σ0 w0 {st:=.rel,kn:=.rel,df:=0,pend:=0}) (G da dp)):SW P post i (gO i σ0 w0 pt) (G fr cs):=
 SW.kQ (gO.rQ w0 c pt) λJ w t hF a hl=>by
  have b:i≠0:=zz;have d:=hF.df.tn j;have f:=l w hl;rw[<- hF.c.Wg]at f;refine jv f (a.release b (hF.c.md.tn c) (hF.st.tn g) (hF.c.snt.2 k) d _ _) .inl (by rw[hF.deaf a,d];simp[bc,jd]) (.inl ⟨λ_=>by simp,next _ _ (hF.zD a c (.refl _ _) (.inr ⟨b,by simp,by simp⟩) (Sx _ _ _) (λe=>mi e b) (λ_ h=>by cases h) (λ_ h=>by cases h))⟩)
def SW.sub(hi:0<i)(p:σ0.md=.clash)(T:pt.st=.rel)(hk:pt.kn=.rel)(U:0<pt.df)
  (S:∀w (v u:Nat),u<=1->v<2000000000->w.heap[σ0.Wg]?=Y (eG σ0.ty (((v:Int)+1)*4294967296+(u:Int)) 0)->∃da dp,Lq P (i==0) (G fr cs) w=.go (G da dp) (w.setCell (jX σ0.Wg) (.int .u64 ((v:Int)*4294967296+(u:Int)))) (Ft σ0.Wg)/\
   ((v=0/\u=1)->SW P post i (gO i σ0 w0 {st:=.last,kn:=.rel,df:=pt.df,pend:=0,gl:=Y .last}) (G da dp))/\(¬(v=0/\u=1)->∃q,QuitsD P q pt.df (G da dp))):SW P post i (gO i σ0 w0 pt) (G fr cs):=
 SW.kQ (gO.rQ w0 p pt) λJ w t hF l hl=>by
  have o:i≠0:=zz;have r:=hF.st.tn T;have K:=hF.who.n l;have C:0<J.df i:=by rw[hF.df];exact U
  have W:1<=cnt J:=by
   have:=yy (f:=J.st) K;rw[r]at this;exact this
  have s:=l.p.wg;have a:=l.p.count;have hle:∀x gw,counted x=0->cnt (dg J i x gw J.kn J.pend (bc (J.df i) (Ft σ0.Wg)))+1=cnt J:=λx gw L=>by
   have:=ue (J:=J) (i:=i) (x:=x) (gw:=gw) (kn:=J.kn) (pend:=J.pend) (d:=bc (J.df i) (Ft σ0.Wg)) K;rw[r,L]at this;have e1:counted .rel=1:=rfl;omega
  have B:bc (J.df i) (Ft σ0.Wg)=pt.df:=by rw[fq _ (kY _),hF.df]
  have z:=hF.deaf l (G fr cs).frame.fn (G fr cs).frame.place (Ft σ0.Wg);have E:=l7 hF.c (BG σ0.Wg (σ0.cD i));have Q:(∀k,J.st k≠.last)->∀x,x≠.last->∀k,upd J.st i x k≠.last:=λh x L k hk=>by
   by_cases e:k=i
   .subst e;rw[Sx]at hk;exact L hk
   .rw[Sh _ _ e]at hk;exact h k hk
  have y:∀v,jK J.Wg w (w.setCell (jX σ0.Wg) v):=λv=>by rw[hF.c.Wg];exact Qx (Wg:=σ0.Wg) (ad:=jX σ0.Wg) rfl w
  unfold nQ at s;unfold gX at a
  cases b:J.gw with
  | none=>exact mi b (l.p.grp (hF.c.md.tn p))
  | idle c=>
   rw[b]at s a;obtain⟨v,rfl⟩:∃v,c=v+1:=⟨c-1,zz⟩;have m:=s.1;rw[hF.c.Wg,hF.c.ty]at m;obtain⟨da,dp,A, -, s3⟩:=S w v 0 zz zz (by rw[m,show(((v+1:Nat):Int)*4294967296)=((v:Int)+1)*4294967296+((0:Nat):Int) by omega]);have n:=l.OP (w':=w.setCell (jX σ0.Wg) (.int .u64 ((v:Int)*4294967296+((0:Nat):Int)))) o (hF.c.md.tn p) (.inl r) (x:=.quit) (.inl rfl) E (qB (kY _)) C (gw:=.idle v) ss
    ⟨by rw[show({J with gw:=Gw.idle v}:Gh).Wg=σ0.Wg from hF.c.Wg,show({J with gw:=Gw.idle v}:Gh).ty=σ0.ty from hF.c.ty,nS m,show((v:Int)*4294967296+((0:Nat):Int))=(v:Int)*4294967296 by omega],zz⟩
    ⟨by have N:=a.1;have e1:=hle .quit (.idle v) rfl;show v=J.pend+_;omega,Q a.2 _ ss⟩ (by rw[b];exact il) (by rw[b];simp[nR]) (by rw[b];simp) (λj _=>a.2 j) (y _) (G fr cs).frame.fn (G fr cs).frame.place
   exact jv A n (λe=>by cases e) z (.inr ⟨hi,rfl,by rw[B];exact s3 zz⟩)
  | wait c=>
   rw[b]at s a;obtain⟨v,rfl⟩:∃v,c=v+1:=⟨c-1,zz⟩;have m:=s.1;rw[hF.c.Wg,hF.c.ty]at m;obtain⟨da,dp,A,s2,s3⟩:=S w v 1 zz zz (by rw[m,show(((v+1:Nat):Int)*4294967296+1)=((v:Int)+1)*4294967296+((1:Nat):Int) by omega]);have R:∀j,j≠i->J.st j≠.last:=λj _=>a.2.2 j;by_cases V:v=0
   .subst V;have n:=l.OP (w':=w.setCell (jX σ0.Wg) (.int .u64 (((0:Nat):Int)*4294967296+((1:Nat):Int)))) o (hF.c.md.tn p) (.inl r) (x:=.last) (.inr rfl) E (qB (kY _)) C (gw:=.last) ss
     (by show _=_;rw[show({J with gw:=Gw.last}:Gh).Wg=σ0.Wg from hF.c.Wg,show({J with gw:=Gw.last}:Gh).ty=σ0.ty from hF.c.ty,nS m,show(((0:Nat):Int)*4294967296+((1:Nat):Int))=1 by omega])
     ⟨by have N:=a.1;have e1:=hle .last .last rfl;omega,i,o,K,Sx _ _ _,λj O=>Classical.byContradiction λe=>a.2.2 j (by rw[show(dg J i .last .last J.kn J.pend (bc (J.df i) (Ft σ0.Wg))).st j=J.st j from Sh _ _ e]at O;exact O)⟩ (by rw[b];exact il) (by rw[b];simp[nR]) (by rw[b];simp) R (y _) (G fr cs).frame.fn (G fr cs).frame.place
    rw[B]at n z;refine jv A n (λe=>by cases e) z (.inl ⟨λ_=>by simp,s2 ⟨rfl,rfl⟩ _ _ (hF.zD (fv:= {st:=.last,kn:=.rel,df:=pt.df,pend:=0,gl:=Y .last}) l p (y _) (.inr ⟨o,by simp,by simp⟩) (hF.kn.tn hk) (λe=>mi e o) (λg h=>by cases h;exact⟨rfl,.inl rfl⟩) (λ_ h=>by cases h))⟩)
   .have n:=l.OP (w':=w.setCell (jX σ0.Wg) (.int .u64 ((v:Int)*4294967296+((1:Nat):Int)))) o (hF.c.md.tn p) (.inl r) (x:=.quit) (.inl rfl) E (qB (kY _)) C (gw:=.wait v) ss
     ⟨by rw[show({J with gw:=Gw.wait v}:Gh).Wg=σ0.Wg from hF.c.Wg,show({J with gw:=Gw.wait v}:Gh).ty=σ0.ty from hF.c.ty,nS m,show((v:Int)*4294967296+((1:Nat):Int))=(v:Int)*4294967296+1 by omega],zz⟩
     ⟨by have N:=a.1;have e1:=hle .quit (.wait v) rfl;omega,zz,Q a.2.2 _ ss⟩ (by rw[b];exact il) (by rw[b];simp[nR]) (by rw[b];simp) R (y _) (G fr cs).frame.fn (G fr cs).frame.place
    exact jv A n (λe=>by cases e) z (.inr ⟨hi,rfl,by rw[B];exact s3 zz⟩)
  | _=>rw[b]at a;have:=a.1;omega
def SW.OQ(c:σ0.md=.clash)(hl:pt.gl=Y .last)(e:0<pt.df)(f:∀w,w.heap[σ0.Wg]?=Y (eG σ0.ty 1 0)->Lq P (i==0) (G fr cs) w=.go (G da dp) w #[yx (jX σ0.Wg) false])
  (next:SW P post i (gO i σ0 w0 pt) (G da dp)):SW P post i (gO i σ0 w0 pt) (G fr cs):=
 SW.kQ (gO.rQ w0 c pt) λJ w t hF b g=>by
  have d:=(hF.gl _ hl).1;have a:=b.p.wg;unfold nQ at a;rw[d]at a;rw[hF.c.Wg,hF.c.ty]at a;exact hF.cD b c (ug (σ0.cD i) rfl) (.inr (.inr (.inl ⟨qB one_cell,e⟩))) (f w a) ⟨rfl,rfl,(fq _ one_cell).symm,rfl⟩ hF.gl hF.sm hF.cb next
def SW.WR(hi:0<i)(m:σ0.md=.clash)(s:pt.st=.last)(hl:pt.gl=Y .last)(hk:pt.kn=.rel)(B:0<pt.df)(C:∀w,w.heap[σ0.Wg]?=Y (eG σ0.ty 1 0)->Lq P (i==0) (G fr cs) w=.go (G da dp) (w.setCell (jX σ0.Wg) (.int .u64 0)) #[yx (jX σ0.Wg) true])
  (next:SW P post i (gO i σ0 w0 {st:=.last,kn:=.rel,df:=pt.df,pend:=0,gl:=Y .zero}) (G da dp)):SW P post i (gO i σ0 w0 pt) (G fr cs):=
 SW.kQ (gO.rQ w0 m pt) λJ w t hF a N=>by
  have l:i≠0:=zz;have c:=(hF.gl _ hl).1;have b:=a.p.wg;have f:=a.p.count;unfold nQ at b;unfold gX at f;rw[c]at b f;have n:=hF.st.tn s;rw[hF.c.Wg,hF.c.ty]at b;obtain⟨y,k,E,K,L,o⟩:=f;have A:i=k:=o i n;have r:=Qx (Wg:=J.Wg) (ad:=jX σ0.Wg) (v:=.int .u64 0) (by rw[hF.c.Wg];rfl) w;have p:=a.OP l (hF.c.md.tn m) (.inr n) (x:=.last) (.inr rfl) (l7 hF.c (ug (σ0.cD i) (ad:=jX σ0.Wg) (wr:=true) rfl)) (qB one_cell) (by rw[hF.df];exact B) (gw:=.zero) ss
   (by show _=_;rw[show({J with gw:=Gw.zero}:Gh).Wg=σ0.Wg from hF.c.Wg,show({J with gw:=Gw.zero}:Gh).ty=σ0.ty from hF.c.ty,nS b])
   (Ym (J:=J) (i:=i) (gw:=.zero) (pend:=J.pend) (kn:=J.kn) (d:=bc (J.df i) #[yx (jX σ0.Wg) true]) ⟨y,k,E,K,L,o⟩|>λh=>by rw[n]at h;exact h) (by rw[c];exact il) (by rw[c];simp[nR]) (by rw[c];simp) (λj z e=>z ((o j e).tn A.symm)) r (G fr cs).frame.fn (G fr cs).frame.place
  have u:bc (J.df i) #[yx (jX σ0.Wg) true]=pt.df:=by rw[fq _ one_cell,hF.df]
  have q:=hF.deaf a (G fr cs).frame.fn (G fr cs).frame.place #[yx (jX σ0.Wg) true];rw[u]at p q;exact jv (C w b) p (λe=>by cases e) q (.inl ⟨λ_=>by simp,next _ _ (hF.zD (fv:= {st:=.last,kn:=.rel,df:=pt.df,pend:=0,gl:=Y .zero}) a m r (.inr ⟨l,by simp,by simp⟩) (hF.kn.tn hk) (λe=>mi e l) (λg h=>by cases h;exact⟨rfl,.inl rfl⟩) (λ_ h=>by cases h))⟩)
def SW.aa8(hi:0<i)(m:σ0.md=.clash)(o:pt.st=.last)(hl:pt.gl=Y .zero)(z:0<pt.df)(E:mayWake P (G fr cs)=true)(B:∀w,w.heap[σ0.Wg]?=Y (eG σ0.ty 0 0)->Lq P (i==0) (G fr cs) w=.go (G da dp) (w.setCell (wG σ0.Wg) (.int .u32 1)) (semEvents (wG σ0.Wg)))
  (A:∃q,QuitsD P q pt.df (G da dp)):SW P post i (gO i σ0 w0 pt) (G fr cs):=
 SW.kQ (gO.rQ w0 m pt) λJ w t hF b K=>by
  have y:i≠0:=zz;have f:=(hF.gl _ hl).1;have c:=b.p.wg;have g:=b.p.count;unfold nQ at c;unfold gX at g;rw[f]at c g;have n:=hF.st.tn o;rw[hF.c.Wg,hF.c.ty]at c;obtain⟨r,k,L,N,O,h⟩:=g;have l:i=k:=h i n;have C:=Qx (Wg:=J.Wg) (ad:=wG σ0.Wg) (v:=.int .u32 1) (by rw[hF.c.Wg];rfl) w;have s:cnt (dg J i .quit .up J.kn J.pend (bc (J.df i) (semEvents (wG σ0.Wg))))=0:=by
   have:=ue (J:=J) (i:=i) (x:=.quit) (gw:=.up) (kn:=J.kn) (pend:=J.pend) (d:=bc (J.df i) (semEvents (wG σ0.Wg))) (hF.who.n b);have e1:counted .quit=0:=rfl;rw[r,e1]at this;omega
  have p:=b.OP y (hF.c.md.tn m) (.inr n) (x:=.quit) (.inl rfl) (l7 hF.c (Jj σ0.Wg (σ0.cD i))) (WN _) (by rw[hF.df];exact z) (gw:=.up) ss
   (by show _=_;rw[show({J with gw:=Gw.up}:Gh).Wg=σ0.Wg from hF.c.Wg,show({J with gw:=Gw.up}:Gh).ty=σ0.ty from hF.c.ty,Yn c])
   ⟨s,λj a=>by
    by_cases e:j=i
    .subst e;rw[ju]at a;cases a
    .rw[eP e]at a;exact e ((h j a).tn l.symm)⟩ (by rw[f];exact il) (by rw[f];simp[nR]) (by rw[f];simp) (λj a e=>a ((h j e).tn l.symm)) C (G fr cs).frame.fn (G fr cs).frame.place
  have u:=hF.deaf b (G fr cs).frame.fn (G fr cs).frame.place (semEvents (wG σ0.Wg));exact jv (B w c) p (λ_=>.inr E) u (.inr ⟨hi,rfl,by rw[AK,hF.df];exact A⟩)
end
end
variable{P:Ps}{post:M->H->Prop}{J σ' σ0:Gh}{t u:Th}{w w' w0:H}{sz i:Nat}{pt:Pt}{fr da:Kf}{cs dp:List Kf}
section
open Go.ConcN (upd upd_same upd_ne sumTo sumTo_congr)
def yz{f:Nat->Nat}{b:Nat}(a:∀k,k<b->f k=0)(c:∀k,f k<=1):∀n,sumTo n f<=n-b
 | 0=>by simp[sumTo]
 | n+1=>by
  have e:=yz a c n;simp only[sumTo];by_cases d:n<b
  .have:=a n d;omega
  .have:=c n;omega
def Ee(x:St):counted x<=1:=by cases x<;>simp[counted]
def FI.Gn(h:FI J w t):cnt J<=J.num-J.base:=by
 refine yz (λk hk=>?_) (λk=>Ee _) _;by_cases e:k=0
 .subst e;rw[h.p.st0];rfl
 .rw[h.p.old k e hk];rfl
def FI.idle(h:FI J w t)(d:J.md=.clash)(b:¬fV J.gw):∃c,J.gw=.idle c:=by
 cases a:J.gw with
 | none=>exact mi a (h.p.grp d)
 | idle c=>exact⟨c,rfl⟩
 | _=>rw[a]at b;exact mi qYB b
def SW.add1(k:σ0.md=.clash)(B:pt.pend=0)(O:σ0.num<σ0.base+1999999990)(C:pt.st=.quit)(z:pt.gl=I)(K:pt.sm=I)(u:pt.cb=I)
  (L:∀w (v:Nat),v<2000000000->w.heap[σ0.Wg]?=Y (eG σ0.ty ((v:Int)*4294967296) 0)->∃da dp,Lq P (0==0) (G fr cs) w=.go (G da dp) (w.setCell (jX σ0.Wg) (.int .u64 (((v:Int)+1)*4294967296))) (Ft σ0.Wg)/\SW P post 0 (gO 0 σ0 w0 {pt with pend:=1}) (G da dp)):
  SW P post 0 (gO 0 σ0 w0 pt) (G fr cs):=
 SW.kQ (gO.rQ w0 k pt) λJ w t hF a hl=>by
  have i:J.cz=I:=hF.who.elim (·.2) λx=>mi rfl x.1;have Q:J.pend=0:=(hF.pend rfl).tn B;have l:=a.p.wg;have d:=a.p.count;obtain⟨c,y⟩:=a.idle (hF.c.md.tn k) λE=>by obtain⟨c,o,-⟩:=a.p.sem E;rw[i]at o;cases o
  unfold nQ at l;unfold gX at d;rw[y]at l d;have m:=l.1;rw[hF.c.Wg,hF.c.ty]at m;obtain⟨da,dp,N,s2⟩:=L w c l.2 m;have r:jK J.Wg w (w.setCell (jX σ0.Wg) (.int .u64 (((c:Int)+1)*4294967296))):=by rw[hF.c.Wg];exact Qx (Wg:=σ0.Wg) (ad:=jX σ0.Wg) rfl w
  have hle:=a.Gn;rw[(hF.c.main rfl).1,hF.c.base]at hle;have q:=a.SP hF.who (hF.c.md.tn k) (l7 hF.c (BG σ0.Wg (σ0.cD 0))) (.inl rfl) (gw:=.idle (c+1)) (pend:=1) ss
   ⟨by rw[show({J with gw:=Gw.idle (c+1)}:Gh).Wg=σ0.Wg from hF.c.Wg,show({J with gw:=Gw.idle (c+1)}:Gh).ty=σ0.ty from hF.c.ty,nS m,show(((c+1:Nat):Int)*4294967296)=((c:Int)+1)*4294967296 by omega],by have:=d.1;omega⟩
   ⟨by have:=d.1;show c+1=1+cnt J;omega,d.2⟩ (λh=>mi i h) (λh=>mi rfl h) (λh=>h.elim) (λc f=>by rw[i]at f;cases f) (λj _ f=>by rw[i]at f;cases f) (λj _ A=>mi A (d.2 j)) r (G fr cs).frame.fn (G fr cs).frame.place
  have s:=hF.deaf a (G fr cs).frame.fn (G fr cs).frame.place (Ft σ0.Wg);have p:bc (J.df 0) (Ft σ0.Wg)=pt.df:=by rw[fq _ (kY _),hF.df]
  rw[p,hF.st]at q;rw[p]at s;exact jv N q (λe=>by cases e) s (.inl ⟨λh=>mi h (dj 0),s2 _ _ (hF.zD (fv:= {pt with pend:=1}) a k r (.inl ⟨rfl,C⟩) hF.kn (λ_=>rfl) (λg h=>by rw[show({pt with pend:=1}:Pt).gl=I from z]at h;cases h) (λb h=>by rw[show({pt with pend:=1}:Pt).sm=I from K]at h;cases h) (λn h=>by rw[show({pt with pend:=1}:Pt).cb=I from u]at h;cases h))⟩)
def SW.Zb{n:Nat}(d:σ0.md=.clash)(hk:pt.kn=.no)(p:pt.sm=Y false)(o:pt.cb=Y n)
  (r:∀w (v:Nat),v<2000000000->w.heap[σ0.Wg]?=Y (eG σ0.ty ((v:Int)*4294967296) 0)->∃da dp,Lq P (i==0) (G fr cs) w=.go (G da dp) w #[yx (jX σ0.Wg) false]/\
   (v=0->SW P post i (gO i σ0 w0 {pt with gl:=Y (.idle 0)}) (G da dp))/\(v≠0->v<=n->SW P post i (gO i σ0 w0 {pt with cb:=Y v}) (G da dp))):SW P post i (gO i σ0 w0 pt) (G fr cs):=
 SW.kQ (gO.rQ w0 d pt) λJ w t hF a hl=>by
  obtain⟨l,q⟩:=hF.sm _ p;obtain⟨c,b⟩:=a.idle (hF.c.md.tn d) λh=>by have:=q.1 h;cases this
  have e:=a.p.wg;unfold nQ at e;rw[b]at e;have k:=e.1;rw[hF.c.Wg,hF.c.ty]at k;obtain⟨da,dp,m,s2,s3⟩:=r w c e.2 k;have j:=ug (σ0.cD i) (ad:=jX σ0.Wg) (wr:=false) rfl;by_cases f:c=0
  .subst f;exact hF.cD a d j (.inr (.inl hk)) m (fv:= {pt with gl:=Y (.idle 0)}) ⟨rfl,rfl,(fq _ one_cell).symm,rfl⟩ (λg h=>by cases h;exact⟨b,.inr ⟨l,rfl⟩⟩) hF.sm hF.cb (s2 rfl)
  .exact hF.cD a d j (.inr (.inl hk)) m (fv:= {pt with cb:=Y c}) ⟨rfl,rfl,(fq _ one_cell).symm,rfl⟩ hF.gl hF.sm (λn h=>by cases h;exact⟨l,by rw[b];exact qN _⟩) (s3 f (by have:=(hF.cb n o).2;rw[b]at this;exact this))
def SW.Zc(c:σ0.md=.clash)(hk:pt.kn=.no)(f:pt.gl=Y (.idle 0))(g:∀w,w.heap[σ0.Wg]?=Y (eG σ0.ty 0 0)->Lq P (i==0) (G fr cs) w=.go (G da dp) w #[yx (jX σ0.Wg) false])
  (next:SW P post i (gO i σ0 w0 pt) (G da dp)):SW P post i (gO i σ0 w0 pt) (G fr cs):=
 SW.kQ (gO.rQ w0 c pt) λJ w t hF b hl=>by
  have e:=(hF.gl _ f).1;have a:=b.p.wg;unfold nQ at a;rw[e]at a;have d:=a.1;rw[hF.c.Wg,hF.c.ty]at d;exact hF.cD b c (ug (σ0.cD i) rfl) (.inr (.inl hk)) (g w (by rw[d];simp)) ⟨rfl,rfl,(fq _ one_cell).symm,rfl⟩ hF.gl hF.sm hF.cb next
def FI.OS(h:FI J w t){c:Nat}(a:J.cz=Y c):J.pend=0:=(h.p.czl c a).2.2.2.1
def SW.Xy{vs:Nat}(U:vs≠0)(hi:0<i)(k:σ0.md=.clash)(m:pt.st=.wait)(hk:pt.kn=.no)(Q:pt.sm=Y false)(N:pt.gl=I)(L:pt.cb=Y vs)
  (S:∀w (v:Nat),v<2000000000->w.heap[σ0.Wg]?=Y (eG σ0.ty ((v:Int)*4294967296) 0)->
   (v=vs->∃da dp,Lq P (i==0) (G fr cs) w=.go (G da dp) (w.setCell (jX σ0.Wg) (.int .u64 ((v:Int)*4294967296+1))) (Ft σ0.Wg)/\SW P post i (gO i σ0 w0 {pt with sm:=Y true,cb:=I}) (G da dp))/\
   (v<vs->∃da dp,Lq P (i==0) (G fr cs) w=.go (G da dp) w #[yx (jX σ0.Wg) false]/\SW P post i (gO i σ0 w0 {pt with cb:=Y v}) (G da dp))):SW P post i (gO i σ0 w0 pt) (G fr cs):=
 SW.kQ (gO.rQ w0 k pt) λJ w t hF a hl=>by
  obtain⟨d,R⟩:=hF.sm _ Q;obtain⟨c,o⟩:=a.idle (hF.c.md.tn k) λh=>by have:=R.1 h;cases this
  have B:i≠0:=zz;have l:=a.p.wg;have f:=a.p.count;unfold nQ at l;unfold gX at f;rw[o]at l f;have q:=l.1;rw[hF.c.Wg,hF.c.ty]at q;obtain⟨T,s2⟩:=S w c l.2 q;have C:J.st i=.wait:=hF.st.tn m;by_cases K:c=vs
  .obtain⟨da,dp,s3,r⟩:=T K;have x:jK J.Wg w (w.setCell (jX σ0.Wg) (.int .u64 ((c:Int)*4294967296+1))):=by rw[hF.c.Wg];exact Qx (Wg:=σ0.Wg) (ad:=jX σ0.Wg) rfl w
   have O:=a.OS d;have u:=a.SP hF.who (hF.c.md.tn k) (l7 hF.c (BG σ0.Wg (σ0.cD i))) (.inr (.inl (hF.kn.tn hk))) (gw:=.wait c) (pend:=J.pend) ss
    ⟨by rw[show({J with gw:=Gw.wait c}:Gh).Wg=σ0.Wg from hF.c.Wg,show({J with gw:=Gw.wait c}:Gh).ty=σ0.ty from hF.c.ty,nS q],l.2⟩
    ⟨by have:=f.1;show c=cnt J;omega,zz,f.2⟩ (λ_=>O) (λ_=>rfl) (λ_=>⟨i,d,C⟩) (λc' y z=>by rw[d]at y;cases y;rw[C]at z;cases z) (λj p E=>by rw[d]at E;cases E;exact mi rfl p) (λj _ p=>mi p (f.2 j)) x (G fr cs).frame.fn (G fr cs).frame.place
   have A:=hF.deaf a (G fr cs).frame.fn (G fr cs).frame.place (Ft σ0.Wg);have s:bc (J.df i) (Ft σ0.Wg)=pt.df:=by rw[fq _ (kY _),hF.df]
   rw[s,hF.st]at u;rw[s]at A;exact jv s3 u (λe=>by cases e) A (.inl ⟨λ_=>by rw[m];simp,r _ _ (hF.zD (fv:= {pt with sm:=Y true,cb:=I}) a k x (.inr ⟨B,by show pt.st≠_;rw[m];simp,by intro v;show pt.st≠_;rw[m];simp⟩) hF.kn (λe=>mi e B) (λg h=>by rw[show({pt with sm:=Y true,cb:=I}:Pt).gl=I from N]at h;cases h) (λb h=>by cases h;exact⟨d,by simp[fV]⟩))⟩)
  .obtain⟨da,dp,s3,r⟩:=s2 (by have:=(hF.cb vs L).2;rw[o]at this;simp only[nR]at this;omega);exact hF.cD a k (ug (σ0.cD i) rfl) (.inr (.inl hk)) s3 (fv:= {pt with cb:=Y c}) ⟨rfl,rfl,(fq _ one_cell).symm,rfl⟩ hF.gl hF.sm (λn h=>by cases h;exact⟨d,by rw[o];exact qN _⟩) r
def SW.sem(hi:0<i)(L:σ0.md=.clash)(p:pt.st=.wait)(hk:pt.kn=.no)(U:pt.sm=Y true)(O:pt.cb=I)
  (W:∀w a,w.heap[σ0.Wg]?=Y (eG σ0.ty a 0)->Lq P (i==0) (G fr cs) w=.go {G fr cs with status:=.blocked} w #[])
  (a1:∀w,w.heap[σ0.Wg]?=Y (eG σ0.ty 0 1)->Lq P (i==0) (G fr cs) w=.go (G da dp) (w.setCell (wG σ0.Wg) (.int .u32 0)) (semEvents (wG σ0.Wg)))
  (next:SW P post i (gO i σ0 w0 {pt with gl:=Y (.idle 0),sm:=Y false}) (G da dp)):SW P post i (gO i σ0 w0 pt) (G fr cs):=by
 intro a3 a2 A;have K:i≠0:=zz;have Q:(i==0)=false:=by simp;omega
 refine .inr ⟨hi,bZ.sem ⟨hi,λ(J:Gh) w t hrel (l:FI J w t)=>?_⟩⟩;have hF:=A.rely (hrel.2 A.who.live);obtain⟨r,V⟩:=hF.sm _ U;have o:fV J.gw:=V.2 rfl;have Z:J.st i=.wait:=hF.st.tn p;have f:=l.p.wg;have m:=l.p.count;unfold nQ at f;unfold gX at m;refine⟨⟨Z,o⟩,λu=>?_,λu=>?_⟩
 .rw[<- Q];have:∃a,w.heap[J.Wg]?=Y (eG J.ty a 0):=by
   cases k:J.gw with
   | none=>rw[k]at o;exact o.elim
   | idle c=>rw[k]at o;exact o.elim
   | wait c=>rw[k]at f;exact⟨_,f.1⟩
   | last=>rw[k]at f;exact⟨_,f⟩
   | zero=>rw[k]at f;exact⟨_,f⟩
   | up=>exact mi k u
  obtain⟨a,B⟩:=this;rw[hF.c.Wg,hF.c.ty]at B;exact W w a B
 .have k:J.gw=.up:=u;rw[k]at f m;have x:=f;rw[hF.c.Wg,hF.c.ty]at x;have C:jK J.Wg w (w.setCell (wG σ0.Wg) (.int .u32 0)):=by rw[hF.c.Wg];exact Qx (Wg:=σ0.Wg) (ad:=wG σ0.Wg) rfl w
  have T:=l.OS r;have z:=l.SP hF.who (hF.c.md.tn L) (l7 hF.c (Jj σ0.Wg (σ0.cD i))) (.inr (.inl (hF.kn.tn hk))) (gw:=.idle 0) (pend:=J.pend) ss
   ⟨by rw[show({J with gw:=Gw.idle 0}:Gh).Wg=σ0.Wg from hF.c.Wg,show({J with gw:=Gw.idle 0}:Gh).ty=σ0.ty from hF.c.ty,Yn x];simp,zz⟩
   ⟨by have:=m.1;show 0=J.pend+cnt J;omega,m.2⟩ (λ_=>T) (λ_=>rfl) (λh=>h.elim) (λ_ _ _=>rfl) (λj s N=>by rw[r]at N;cases N;exact mi rfl s) (λj _ s=>mi s (m.2 j)) C (G fr cs).frame.fn (G fr cs).frame.place
  have E:=hF.deaf l (G fr cs).frame.fn (G fr cs).frame.place (semEvents (wG σ0.Wg));have y:bc (J.df i) (semEvents (wG σ0.Wg))=pt.df:=by rw[AK,hF.df]
  rw[y,hF.st]at z;rw[y]at E;have S:=jv (post:=λ_ _=>True) (a1 w x) z (λe=>by cases e) E (.inl ⟨λ_=>by rw[p];simp,(.inr ⟨hi,(next _ _ (hF.zD (fv:= {pt with gl:=Y (.idle 0),sm:=Y false}) l L C (.inr ⟨K,by show pt.st≠_;rw[p];simp,by intro v;show pt.st≠_;rw[p];simp⟩) hF.kn (λe=>mi e K) (λg h=>by cases h;exact⟨rfl,.inr ⟨r,rfl⟩⟩) (λb h=>by cases h;exact⟨r,by simp[fV]⟩) (λn h=>by rw[show({pt with gl:=Y (.idle 0),sm:=Y false}:Pt).cb=I from O]at h;cases h))).work hi⟩)⟩);refine S.imp λg J w t R=>?_;rcases R with⟨a,b,c⟩|⟨a,b,q, -, d⟩
  .exact .inl ⟨a,b,c.work hi⟩
  .exact .inr ⟨a,b,q,qYB,d⟩
end
section
open Go.ConcN (upd upd_same upd_ne sumTo sumTo_congr)
def FI.Zd(h:FI J w t)(d:J.cz=Y i)(g:J.gw=.idle 0):∀k,k≠i->J.st k=.quit:=by
 have b:=h.p.count;unfold gX at b;rw[g]at b;intro k hk;have e:k<J.num->counted (J.st k)=0:=λc=>by have:=yy (f:=J.st) c;unfold cnt at b;omega
 by_cases c:k<J.num
 .have:=e c
  cases a:J.st k with
  | quit=>rfl
  | run=>rw[a]at this;cases this
  | off v=>rw[a]at this;cases this
  | rel=>rw[a]at this;cases this
  | last=>exact mi a (b.2 k)
  | wait=>have:=h.p.wz k (.inl a);rw[d]at this;cases this;exact mi rfl hk
  | done=>have:=h.p.wz k (.inr a);rw[d]at this;cases this;exact mi rfl hk
 .exact h.m.out k (q6A c)
def Fu(kn:Nat->Kn)(k:Nat):Kn:=if k=0 then kn k else match kn k with|.rel=>.cl|y=>y
def FI.acquire(h:FI J w t)(q:i≠0)(V:J.md=.clash)(r:J.st i=.wait)(f:J.cz=Y i)(T:J.gw=.idle 0)(a4:J.df i=0)(fn:ba)(pos:String):
  FI (dg J i .done (.idle 0) (Fu J.kn) J.pend 0) w (t++al.ofEvents i fn pos #[jd (.acquire (jX J.Wg))])/\∀j,j≠i->jr j J w (dg J i .done (.idle 0) (Fu J.kn) J.pend 0) w:=by
 have m:Cu i J:=.inr ⟨q,by rw[r];simp,by rw[r];simp⟩;have W:=m.n h;obtain⟨S,a9⟩:=h.p.group (h.p.grp V);have B:=h.Zd f T;have U:J.kn i=.no:=h.p.kR i q (.inr (.inr (.inl r)));have K:=h.p.wg;have z:=h.p.count;unfold nQ at K;unfold gX at z;rw[T]at K z;have a2:∀k,k≠0->k≠i->J.kn k=.rel\/J.kn k=.top:=λk b h2=>by
  cases hk:J.kn k with
  | rel=>exact .inl rfl
  | top=>exact .inr rfl
  | no=>
   rcases h.p.kA k b hk with(e|⟨v,e⟩)|e
   .rw[B k h2]at e;cases e
   .rw[B k h2]at e;cases e
   .rw[f]at e;cases e;exact mi rfl h2
  | cl=>
   obtain⟨c,P,Q⟩:=h.p.kC k b hk;rw[f]at P;cases P;rw[r]at Q;cases Q
  | sh=>have:=h.p.kF k b hk;rw[m.cl h]at this;cases this
 have a5:∀e∈ #[jd (.acquire (jX J.Wg))],jE J.Wg (J.cD i) e:=λe E=>by
  obtain rfl:e=jd (.acquire (jX J.Wg)):=by simpa using E
  exact .inr (.inr (.inr (.inr (.inl rfl))))
 obtain⟨o1,o2,o3,o4⟩:=wT (i:=i) (J:=J) (s:=J.cD i) id S (h.m.hbnd _ S) a5 fn pos;have a1:Deaf t i=J.df i:=h.t.deaf i m.live;have R:Deaf t i=0:=a1.tn a4;have O:(al.ofEvents i fn pos #[jd (.acquire (jX J.Wg))])[0]?=Y {g:=i,fn,pos,act:=.mark (.acquire (jX J.Wg))}:=by rw[ofEvents_one];rfl
 have a8:Fu J.kn 0=J.kn 0:=by simp[Fu]
 have L:Fu J.kn i=.no:=by simp[Fu,q,U]
 have C:∀k,k≠0->k≠i->(J.kn k=.rel/\Fu J.kn k=.cl)\/(J.kn k=.top/\Fu J.kn k=.top):=λk b h2=>by
  rcases a2 k b h2 with e|e
  .exact .inl ⟨e,by simp[Fu,b,e]⟩
  .exact .inr ⟨e,by simp[Fu,b,e]⟩
 have N:∀k y,k≠i->y≠.quit->upd J.st i .done k=y->False:=λk y e a7 hk=>by rw[Sh _ _ e,B k e]at hk;exact a7 hk.symm
 have a3:cnt (dg J i .done (.idle 0) (Fu J.kn) J.pend 0)=cnt J:=by
  have:=ue (J:=J) (i:=i) (x:=.done) (gw:=.idle 0) (kn:=Fu J.kn) (pend:=J.pend) (d:=0) W;rw[r]at this;have e1:counted .done=0:=rfl;have u:counted .wait=0:=rfl;omega
 refine h.zD (d:=0) ⟨V,m.cl h,W,m.live,λe=>mi e q,λ_=>m.SO q,by simp,by simp,K,⟨by rw[a3];exact z.1,λk hk=>?_⟩,λ_=>h.OS f,λ_=>rfl,λ_=>f,λ_=>.inr rfl,λa6=>a6.elim,λk b h2=>?_,λk b h2=>?_,λk b h2=>?_,λk b h2=>?_,λc o a' k b h2=>?_,λk b h2=>?_,λ_ _ _=>rfl,λj A o=>?_,λj A hl=>?_,λj A hl=>mi hl (z.2 j),λ_ h _=>mi f h⟩ (.refl _ _) o1 (by rw[Deaf_own,R];simp[bc,jd]) o2 (.inr (.inl U)) o3 o4 λk hk=>?_
 .by_cases e:k=i
  .subst e;rw[ju]at hk;cases hk
  .exact N k _ e ss hk
 .by_cases e:k=i
  .exact .inr (by rw[e];exact f)
  .rcases C k b e with⟨-, n⟩|⟨-, n⟩<;>rw[n]at h2<;>cases h2
 .by_cases e:k=i
  .rw[e];exact L
  .rcases h2 with h2|⟨v,h2⟩|h2|h2<;>exact(N k _ e ss h2).elim
 .by_cases e:k=i
  .subst e;rw[Sx]at h2;rcases h2 with h2|h2<;>cases h2
  .rcases h2 with h2|h2<;>exact(N k _ e ss h2).elim
 .exact⟨i,f,Sx _ _ _⟩
 .rw[f]at o;cases o;exact(C k b h2).imp (·.2) (·.2)
 .by_cases e:k=i
  .subst e;rw[L]at h2;cases h2
  .rcases C k b e with⟨-, n⟩|⟨-, n⟩<;>rw[n]at h2<;>cases h2
 .rw[f]at o;cases o;exact mi rfl A
 .rcases hl with rfl|hl
  .exact a8
  .exact mi (B j A) hl
 .by_cases e:k=i
  .unfold ja;rw[show({J with kn:=Fu J.kn}:Gh).kn k=.no from by rw[e];exact L];trivial
  .have Z:∀(x:Nat) (op:al) (a:Touch),(al.ofEvents i fn pos #[jd (.acquire (jX J.Wg))])[x]?=Y op->op.g=k->op.act.touch?=Y a->a.loc.isMemory=true->Loose (t++al.ofEvents i fn pos #[jd (.acquire (jX J.Wg))]) (t.size+x):=λx op a b h2 _ _=>mi ((o1 op (kq b)).symm.tn h2).symm e;rcases C k hk e with⟨e1,u⟩|⟨e1,u⟩
   .have G:=h.t.hand k hk;unfold ja at G|-;rw[e1]at G;rw[show({J with kn:=Fu J.kn}:Gh).kn k=.cl from u];obtain⟨p,p1,p2,p3⟩:=G;refine⟨t.size+0,_,P5 O,f.symm,(p3.app Z).on (.inr (LZ (qP (lt_of_act? p1) (la _ _)) (wS p1) (kT O) (λop l a=>?_) (rB p2) (heard_new (λop l=>?_) O R)))⟩
    .rcases q9A.1 l with l|l
     .exact h.t.norel op l a
     .exact o4 op l a
    .obtain⟨e,E,rfl⟩:=Go.Conc.mem_ofEvents (g:=i) (fn:=fn) (pos:=pos) l;obtain rfl:e=jd (.acquire (jX J.Wg)):=by simpa using E
     exact⟨by simp[jd,MemAct.ofEvent],by simp[jd,MemAct.ofEvent]⟩
   .exact(h.t.hand k hk).app (show Fu J.kn k=J.kn k from u.tn e1.symm) rfl rfl rfl (.inr Z)
def SW.acq(hi:0<i)(c:σ0.md=.clash)(j:pt.st=.wait)(k:pt.df=0)(l:pt.gl=Y (.idle 0))(n:σ0.cz=Y i)(m:∀w,Cs σ0.ty σ0.Wg w->Lq P (i==0) (G fr cs) w=.go (G da dp) w #[jd (.acquire (jX σ0.Wg))])
  (next:SW P post i (gO i σ0 w0 {st:=.done,kn:=.no,df:=0,pend:=0}) (G da dp)):SW P post i (gO i σ0 w0 pt) (G fr cs):=
 SW.kQ (gO.rQ w0 c pt) λJ w t hF b hl=>by
  have a:i≠0:=zz;have d:=hF.df.tn k;have f:=m w hl;rw[<- hF.c.Wg]at f;have g:=hF.st.tn j;refine jv f (b.acquire a (hF.c.md.tn c) g (hF.c.z n) (hF.gl _ l).1 d _ _) (λe=>by cases e) (by rw[hF.deaf b,d];simp[bc,jd]) (.inl ⟨λ_=>by simp,next _ _ (hF.zD b c (.refl _ _) (.inr ⟨a,by simp,by simp⟩) ?_ (λe=>mi e a) (λ_ h=>by cases h) (λ_ h=>by cases h))⟩);simp[Fu,a,b.p.kR i a (.inr (.inr (.inl g)))]
def pN(kn:Nat->Kn)(k:Nat):Kn:=if k=0 then kn k else match kn k with|.no=>.sh|.cl=>.sh|y=>y
def pI(J:Gh)(i:Nat):Gh:= {dg J i .quit (.idle 0) (pN J.kn) J.pend 0 with cl:=true}
def Fv(c:Nat):Array Event:= #[⟨.obj c,false,true⟩,⟨.obj c,true,true⟩]
def FI.close(h:FI J w t)(N:i≠0)(O:J.md=.clash)(p:J.st i=.done)(b9:J.df i=0){s:Nat}{tm:Bool}(a7:w.heap[J.C]?=Y (.chan 0 #[] false s s tm))(fn:ba)(pos:String):
  FI (pI J i) (w.setChan J.C 0 #[] true s s tm) (t++al.ofEvents i fn pos (Fv J.C))/\∀j,j≠i->jr j J w (pI J i) (w.setChan J.C 0 #[] true s s tm):=by
 have a1:Cu i J:=.inr ⟨N,by rw[p];simp,by rw[p];simp⟩;have W:=a1.n h;have r:=h.p.wz i (.inr p);have a8:=h.p.doneW i r p;obtain⟨b7,a5⟩:=h.p.group (h.p.grp O);obtain⟨K,-⟩:=h.p.chan (by rw[O];simp);have a3:=h.m.hbnd _ K;have b3:=h.Zd r a8;have a0:J.kn i=.no:=h.p.kR i N (.inr (.inr (.inr p)));have b8:=h.p.kD i r p;have Q:=h.p.wg;have T:=h.p.count;unfold nQ at Q;unfold gX at T;rw[a8]at Q T;have Z:(w.setChan J.C 0 #[] true s s tm).heap.size=w.heap.size:=by simp[H.setChan]
 have a9:∀b,b≠J.C->(w.setChan J.C 0 #[] true s s tm).heap[b]?=w.heap[b]?:=λb C=>by rw[fW,qVB (λe=>C e.symm)]
 have b6:Deaf t i=J.df i:=h.t.deaf i a1.live;have a4:Deaf t i=0:=b6.tn b9;have S:al.ofEvents i fn pos (Fv J.C)= #[{g:=i,fn,pos,act:=.access ⟨.obj J.C,false,true⟩}, {g:=i,fn,pos,act:=.close J.C}]:=by rw[ofEvents_eq];simp[Fv,MemAct.ofEvent]
 have o1:∀op∈al.ofEvents i fn pos (Fv J.C),op.g=i:=λop l=>by
  obtain⟨e, -, rfl⟩:=Go.Conc.mem_ofEvents (g:=i) (fn:=fn) (pos:=pos) l;rfl
 have P:∀op∈al.ofEvents i fn pos (Fv J.C),op.act=.access ⟨.obj J.C,false,true⟩\/op.act=.close J.C:=λop l=>by
  rw[S]at l;simp only[hZ,dq,fp,or_false]at l;rcases l with rfl|rfl
  .exact .inl rfl
  .exact .inr rfl
 have E:(al.ofEvents i fn pos (Fv J.C))[1]?=Y {g:=i,fn,pos,act:=.close J.C}:=by rw[S];rfl
 have d2:(al.ofEvents i fn pos (Fv J.C)).size=2:=by rw[S];rfl
 have c':pN J.kn 0=J.kn 0:=by simp[pN]
 have b4:pN J.kn i=.sh:=by simp[pN,N,a0]
 have b5:∀k,k≠0->k≠i->(J.kn k=.cl/\pN J.kn k=.sh)\/(J.kn k=.top/\pN J.kn k=.top):=λk f h2=>by
  rcases b8 k f h2 with e|e
  .exact .inl ⟨e,by simp[pN,f,e]⟩
  .exact .inr ⟨e,by simp[pN,f,e]⟩
 have a2:∀k,k≠0->pN J.kn k=.sh\/pN J.kn k=.top:=λk f=>by
  by_cases e:k=i
  .rw[e];exact .inl b4
  .exact(b5 k f e).imp (·.2) (·.2)
 have A:∀k,(pI J i).st k=.quit:=λk=>by
  by_cases e:k=i
  .rw[e];exact Sx _ _ _
  .exact(Sh _ _ e).tn (b3 k e)
 have u:∀k y,y≠.quit->(pI J i).st k=y->False:=λk y c8 e=>by rw[A k]at e;exact c8 e.symm
 have b':∀j,j≠i->Live J j->j=0:=λj o hl=>hl.elim id λe=>mi (b3 j o) e;have m:TI (dg J i .quit (.idle 0) (pN J.kn) J.pend 0) (t++al.ofEvents i fn pos (Fv J.C)) w.heap.size:=by
  refine h.t.zD h.m a1.live W o1 ?_ (λop l a L d3=>?_) (.inr (.inl a0)) (λop l=>?_) (λop l a=>?_) λk hk=>?_
  .rw[Deaf_own,a4];simp[bc,Fv]
  .rcases P op l with e|e<;>rw[e]at L
   .simp only[MemAct.touch?,fg]at L;subst L;exact⟨J.C,rfl,.inr (.inl ⟨K,rfl⟩)⟩
   .cases L
  .rcases P op l with e|e<;>rw[e]<;>exact a3
  .rcases P op l with e|e<;>rw[e]<;>simp
  .have a':(t++al.ofEvents i fn pos (Fv J.C)).heard (t.size+1):=heard_new (λop l=>by
    rcases P op l with e|e<;>rw[e]<;>exact⟨by simp,by simp⟩) E a4
   by_cases e:k=i
   .unfold ja;rw[show({J with kn:=pN J.kn}:Gh).kn k=.sh from by rw[e];exact b4];refine⟨t.size+1,kT E,a',OK (P5 E) e.symm rfl λj op c6 _=>?_⟩;have:=(ec.1 c6).1;rw[qUB,d2]at this;omega
   .have b2:∀(x:Nat) (op:al) (a:Touch),(al.ofEvents i fn pos (Fv J.C))[x]?=Y op->op.g=k->op.act.touch?=Y a->a.loc.isMemory=true->Loose (t++al.ofEvents i fn pos (Fv J.C)) (t.size+x):=λx op a f h2 _ _=>mi ((o1 op (kq f)).symm.tn h2).symm e;rcases b5 k hk e with⟨e1,G⟩|⟨e1,G⟩
    .have V:=h.t.hand k hk;unfold ja at V|-;rw[e1]at V;rw[show({J with kn:=pN J.kn}:Gh).kn k=.sh from G];obtain⟨q,z,q1,q2,q3⟩:=V;have c9:z.g=i:=by rw[r]at q2;exact km q2
     have b0:=lt_size_of_getElem? q1;have d1:(t++al.ofEvents i fn pos (Fv J.C))[q]?=Y z:=by rw[getElem?_append_old b0];exact q1
     exact⟨t.size+1,kT E,a',(q3.app b2).on (.inr (hb_po zz d1 (P5 E) c9))⟩
    .exact(h.t.hand k hk).app (show pN J.kn k=J.kn k from G.tn e1.symm) rfl rfl rfl (.inr b2)
 have n:=h.m.zD (x:=.quit) (gw:=.idle 0) (kn:=pN J.kn) (pend:=J.pend) (d:=0) W;refine⟨⟨by rw[Z];exact⟨n.num,n.own,n.cX,n.dis,n.nhid,n.hbnd,n.dead,n.out⟩,by rw[Z];exact⟨m.clean,m.low,m.deaf,m.above,m.norel,m.know,λk hk=>(m.hand k hk).same rfl rfl rfl rfl,m.says,m.atom⟩,?_,h.s.kQ i rfl rfl rfl rfl rfl rfl rfl (λk hk=>Sh _ _ hk) (λv=>by rw[A i];simp) (λ_ _ _ R=>mi r R)⟩,λj o=>⟨λ_ _=>A j,λhl=>?_⟩⟩
 .refine⟨A 0,λk v hk=>(u k _ ss hk).elim,h.p.paid,λ_=>⟨K,s,tm,?_⟩,λ_=>⟨b7,a5⟩,?_,?_,λC=>?_,h.p.basep,λ_=>⟨i,r⟩,λk _ _=>A k,λk hk=>?_,λc a7=>?_,λc7=>c7.elim,λk f h2=>?_,λk f h2=>?_,λk f h2=>?_,λk f h2=>?_,λc _ U=>(u c _ ss U).elim,λ_ _ _=>rfl,λ_ k hk=>⟨A k,a2 k hk⟩,λc5=>?_,λc _ U=>(u c _ ss U).elim,λ_=>by simp[pI,dg]⟩
  .show(w.setChan J.C 0 #[] true s s tm).heap[J.C]?=Y (.chan 0 #[] true s s tm);rw[fW,qWB rfl,qWB a3]
  .exact⟨(a9 _ a5).tn Q.1,Q.2⟩
  .refine⟨?_,λk hk=>u k _ ss hk⟩;have e:cnt (pI J i)=cnt (dg J i .quit (.idle 0) (pN J.kn) J.pend 0):=rfl;have:=ue (J:=J) (i:=i) (x:=.quit) (gw:=.idle 0) (kn:=pN J.kn) (pend:=J.pend) (d:=0) W;rw[p]at this;have e1:counted .quit=0:=rfl;have G:counted .done=0:=rfl;have e3:=T.1;show 0=J.pend+cnt (pI J i);omega
  .have a6:J.md=.best:=C;rw[O]at a6;cases a6
  .rcases hk with hk|hk<;>exact(u k _ ss hk).elim
  .obtain⟨c1,c2,c3,c4,-⟩:=h.p.czl c a7;exact⟨c1,c2,c3,c4,λe=>by cases e⟩
  .have B:pN J.kn k=.no:=h2;rcases a2 k f with e|e<;>rw[e]at B<;>cases B
  .rcases h2 with h2|⟨v,h2⟩|h2|h2<;>exact(u k _ ss h2).elim
  .rcases h2 with h2|h2<;>exact(u k _ ss h2).elim
  .have B:pN J.kn k=.cl:=h2;rcases a2 k f with e|e<;>rw[e]at B<;>cases B
  .have b1:J.md=.idle:=c5;rw[O]at b1;cases b1
 .obtain rfl:=b' j o hl;refine⟨⟨rfl,rfl,rfl,Nat.le_of_eq Z.symm,λb C=>a9 b λe=>h.m.nhid 0 b C (by rw[e];exact K)⟩,λb=>by rw[show(pI J i).V 0=J.V 0 from Sh _ _ o],λb=>by rw[show(pI J i).O 0=J.O 0 from Sh _ _ o],⟨Sh _ _ o,Sh _ _ o,il,c',rfl,rfl,rfl,rfl,rfl,rfl,λ_=>⟨rfl,rfl,rfl,rfl⟩,λR=>?_,λhl=>?_,il⟩⟩
  .rw[r]at R;exact mi (km R) N
  .rw[h.p.st0]at hl;cases hl
def bZ.close(hi:0<i)(r:J.md=.clash)(b:J.st i=.done)(o:J.df i=0)(y:mayWake P (G fr cs)=true)
  (v:∀bj,aH (J.V i) w bj->∀s tm,bj.heap[J.C]?=Y (.chan 0 #[] false s s tm)->Lq P false (G fr cs) bj=.go (G da dp) (bj.setChan J.C 0 #[] true s s tm) (Fv J.C))(g:∃q,QuitsD P q 0 (G da dp)):bZ fI P i (G fr cs) J w:=by
 refine bZ.own λ(σ1:Gh) bj t u (c:FI σ1 bj t)=>?_;have l:i≠0:=zz;have a:=u.2 (.inr (by rw[b];simp));have n:Cu i σ1:=.inr ⟨l,by rw[a.kin.st,b];simp,by rw[a.kin.st,b];simp⟩;have m:=a.kin.md.tn r;obtain⟨-, s,tm,e⟩:=c.p.chan (by rw[m];simp);rw[n.cl c]at e;have x:=v bj a.w s tm (by rw[<- a.kin.C];exact e);have k:=a.kin.df.tn o;have d:=c.close l m (a.kin.st.tn b) k e (G fr cs).frame.fn (G fr cs).frame.place;have p:(i==0)=false:=by simp;omega
 rw[a.kin.C]at d;refine⟨G da dp,_,Fv J.C,pI σ1 i,by rw[p];exact x,.inl rfl,rfl,d.1,λj f _=>d.2 j f,⟨λ_ _ h=>(by cases h),λ_=>.inr y,λj f=>?_⟩,.inr ⟨hi,Sx _ _ _,?_⟩⟩
 .show(pI σ1 i).st j=.quit↔σ1.st j=.quit;rw[show(pI σ1 i).st j=σ1.st j from Sh _ _ f]
 .obtain⟨q,g⟩:=g;refine⟨q,qYB,?_⟩;rw[Deaf_own,c.t.deaf i n.live,k];simpa[bc,Fv]using g
end
variable{c:Nat}{v z:M}{ok:Bool}{frv:M->Kf}
section
open Go.ConcN (upd upd_same upd_ne sumTo sumTo_congr)
structure Jk(J σ':Gh):Prop where
 md:σ'.md=J.md
 C:σ'.C=J.C
 Wg:σ'.Wg=J.Wg
 ty:σ'.ty=J.ty
 base:σ'.base=J.base
 pay:σ'.pay=J.pay
def Jk.tn{a b c:Gh}(h:Jk a b)(k:Jk b c):Jk a c:=⟨k.md.tn h.md,k.C.tn h.C,k.Wg.tn h.Wg,k.ty.tn h.ty,k.base.tn h.base,k.pay.tn h.pay⟩
def Fs.SQ(h:Fs i J σ'):Jk J σ':=⟨h.md,h.C,h.Wg,h.ty,h.base,h.pay⟩
def oY{V:Nat->Prop}{w bj:H}(h:aH V w bj)(a:¬V c){cap:Nat}{buf:Array M}{b:Bool}{s r:Nat}{tm:Bool}:aH V w (bj.setChan c cap buf b s r tm):=
 h.tn ⟨rfl,rfl,rfl,by simp[H.setChan],λx d=>by rw[fW,qVB (λe=>a (by rw[e];exact d))]⟩
def OT(h:FI J w t)(b:i≠0)(c:J.st i=.off v):J.cl=false:=by
 cases a:J.cl with
 | false=>rfl
 | true=>have:=(h.p.kG a i b).1;rw[c]at this;cases this
def bZ.Ze(hi:0<i)(l:J.md=.best)(j:J.st i=.off v)(n:∀bj,aH (J.V i) w bj->Lq P false (G fr cs) bj=.comm (G fr cs) #[scase J.C v z] true .send bj #[])(e:∃q,QuitsD P q 0 (Conc.served (G fr cs) D)):bZ fI P i (G fr cs) J w:=by
 refine bZ.send (c:=J.C) (v:=v) (z:=z) ⟨hi,λ(σ1:Gh) bj t m (d:FI σ1 bj t)=>?_⟩;have k:i≠0:=zz;have a:=m.2 (.inr (by rw[j];simp));have b:σ1.st i=.off v:=a.kin.st.tn j;have h:σ1.md=.best:=a.kin.md.tn l;have g:=OT d k b;obtain⟨-, s,tm,f⟩:=d.p.chan (by rw[h];simp);rw[g,a.kin.C]at f;refine⟨a.kin.C,by show¬σ1.cl=true;rw[g];simp,kX.2 b,⟨s,s,tm,f⟩,n bj a.w,λu s r tm o x f2 y p=>.inr ⟨hi,?_,?_⟩⟩
 .show(jD σ1 i).st i=.quit;rw[js b,iz,qWB h]
 .obtain⟨q,e⟩:=e;refine⟨q,qYB,?_⟩;rw[deaf_quiet iS,d.t.deaf i (.inr (by rw[b];simp)),(d.p.off i v b).1];exact e
def bZ.Zf(hi:0<i)(p:J.md=.clash)(m:J.st i=.off v)(u:∀bj,aH (J.V i) w bj->Lq P false (G fr cs) bj=.comm (G fr cs) #[scase J.C v z] true .send bj #[])(l:Conc.served (G fr cs) D=G da dp)
  (next:∀(σ':Gh) w',σ'.st i=.run->σ'.df i=0->(∀b,σ'.V i b↔J.V i b)->(∀b,σ'.O i b↔J.O i b/\¬sB v b)->aH (J.V i) w w'->Jk J σ'->σ'.snt i->bZ fI P i (G da dp) σ' w'):bZ fI P i (G fr cs) J w:=by
 refine bZ.send (c:=J.C) (v:=v) (z:=z) ⟨hi,λ(σ1:Gh) bj t q (e:FI σ1 bj t)=>?_⟩;have k:i≠0:=zz;have a:=q.2 (.inr (by rw[m];simp));have d:σ1.st i=.off v:=a.kin.st.tn m;have f:σ1.md=.clash:=a.kin.md.tn p;have j:=OT e k d;obtain⟨n,s,tm,h⟩:=e.p.chan (by rw[f];simp);rw[j,a.kin.C]at h;refine⟨a.kin.C,by show¬σ1.cl=true;rw[j];simp,kX.2 d,⟨s,s,tm,h⟩,u bj a.w,λA s r tm x B f2 C y=>.inl ⟨?_,λ_=>?_,?_⟩⟩
 .rw[l];rfl
 .show¬(jD σ1 i).st i=.quit;rw[js d,iz,qVB (by rw[f];simp)];simp
 .rw[l];show bZ fI P i (G da dp) (jD σ1 i) _;rw[js d];have g:σ1.md≠.best:=by rw[f];simp
  refine next _ _ (by rw[iz,qVB g]) (e.p.off i v d).1 (λb=>?_) (λb=>?_) (oY a.w λo=>e.m.nhid i J.C ((a.V _).2 o) (by rw[<- a.kin.C];exact n)) (a.kin.SQ.tn ⟨rfl,rfl,rfl,rfl,rfl,rfl⟩) (by show upd σ1.snt i True i;rw[Sx];trivial)
  .simp only[handed,qVB k,qWB,ne_eq,g,not_false_eq_true,true_and];exact a.V b
  .simp only[handed,qWB,ne_eq,g,not_false_eq_true,true_and];rw[a.O b]
def aQ.Zg(L:J.md=.best)(q:J.df 0=0)(f:J.got.length<J.num-J.base)(R:∀bj,aH (J.V 0) w bj->Lq P true (G fr cs) bj=.comm (G fr cs) #[rcase J.C z] true (.recv ok) bj #[])(y:∀v,Conc.served (G fr cs) (recvd ok v true)=G (frv v) dp)
  (next:∀(σ':Gh) w' j v,J.base<=j->j<J.num->(∀x,(j,x)∉J.got)->J.pay j v w'->σ'.got=J.got++[(j,v)]->(∀b,σ'.V 0 b↔J.V 0 b\/sB v b)->(∀b,σ'.O 0 b↔J.O 0 b)->aH (J.V 0) w w'->Jk J σ'->σ'.df 0=0->σ'.num=J.num->σ'.cz=J.cz->σ'.pend=J.pend->(σ'.cD 0↔J.cD 0)->(∀b,sB v b->b<w'.heap.size)->aQ fI P post (G (frv v) dp) σ' w'):aQ fI P post (G fr cs) J w:=by
 refine aQ.recv (c:=J.C) (z:=z) (ok:=ok) ⟨rfl,λ(σ1:Gh) bj t O (d:FI σ1 bj t)=>?_⟩;have a:=O.2 (.inl rfl);have k:σ1.md=.best:=a.kin.md.tn L;obtain⟨l,m2,m,S⟩:=a.kin.main rfl;obtain⟨U,V,n,W,C,Z⟩:=d.p.best k;obtain⟨o,s,tm,p⟩:=d.p.chan (by rw[k];simp);rw[n,a.kin.C]at p;refine⟨a.kin.C,⟨a.kin.df.tn q,.inl ⟨k,by rw[l,m,a.kin.base];exact f⟩⟩,R bj a.w,λ_=>⟨⟨s,s,tm,p⟩,λj v a2 K N s r tm f1 p1 f2 p2 a1=>.inl ⟨?_,λh=>mi h (dj 0),?_⟩⟩,λQ=>?_⟩
 .rw[y];rfl
 .rw[y];have g:=kX.1 N;show aQ fI P post (G (frv v) dp) (jD σ1 j) _;rw[js g];obtain⟨o1,B,T⟩:=d.p.off j v g;have u:j≠0:=zz;refine next _ _ j v (q6A λf=>?_) (by rw[<- l];exact K) (λx A=>?_) ?_ (by simp only[handed];rw[m]) (λb=>?_) (λb=>?_) (oY a.w λE=>d.m.nhid 0 J.C ((a.V _).2 E) (by rw[<- a.kin.C];exact o)) (a.kin.SQ.tn ⟨rfl,rfl,rfl,rfl,rfl,rfl⟩) (a.kin.df.tn q) l S m2 a.kin.cD (λb i=>?_)
  .rw[<- a.kin.base]at f;have:=d.p.old j u f;rw[g]at this;cases this
  .rw[<- m]at A;have:=(C j x A).2.2;rw[g]at this;cases this
  .rw[<- a.kin.pay];refine d.p.paid _ _ _ _ (λb i=>?_) T;rw[fW,qVB];intro e;exact d.m.nhid j b (B b i) (by rw[<- e,<- a.kin.C];exact o)
  .simp only[handed,if_true];rw[a.V b]
  .simp only[handed,qVB (λe:0=j=>u e.symm)];exact a.O b
  .have:=d.m.cX j b (B b i);simp only[H.setChan,mn];exact this
 .have:σ1.cl=true:=Q;rw[n]at this;cases this
def FI.closed(h:FI J w t)(z:J.cl=true)(L:J.df 0=0)(fn:ba)(pos:String):
  FI (settled {J with kn:=λk=>if k=0 then J.kn 0 else .top} w.heap.size) w (t++#[{g:=0,fn,pos,act:=.recvClosed J.C}])/\yu 0 J w (settled {J with kn:=λk=>if k=0 then J.kn 0 else .top} w.heap.size):=by
 have s:∀k,k≠0->J.st k=.quit:=λk hk=>(h.p.kG z k hk).1;have o:∀k,J.st k=.quit:=λk=>by
  by_cases e:k=0
  .rw[e];exact h.p.st0
  .exact s k e
 obtain⟨Q,Z⟩:=h.p.clz z;have C:J.md=.clash:=(h.p.czl Q Z).2.2.1;obtain⟨U,-⟩:=h.p.chan (by rw[C];simp);have V:=h.m.hbnd _ U;have G:Deaf t 0=0:=(h.t.deaf 0 (.inl rfl)).tn L;have E:(#[{g:=0,fn,pos,act:=.recvClosed J.C}]:Th)[0]?=Y {g:=0,fn,pos,act:=.recvClosed J.C}:=rfl;have l:∀op∈(#[{g:=0,fn,pos,act:=.recvClosed J.C}]:Th),op= {g:=0,fn,pos,act:=.recvClosed J.C}:=λop d=>by simpa using d
 have P:∀op∈(#[{g:=0,fn,pos,act:=.recvClosed J.C}]:Th),op.act≠.mark .disable/\op.act≠.mark .enable:=λop d=>by rw[l op d];exact⟨by simp,by simp⟩
 have i:TI (dg J 0 .quit J.gw (λk=>if k=0 then J.kn 0 else .top) J.pend 0) (t++#[{g:=0,fn,pos,act:=.recvClosed J.C}]) w.heap.size:=by
  refine h.t.zD h.m (.inl rfl) h.m.num (λop d=>by rw[l op d]) (by rw[deaf_quiet P];exact G) (λop d a p=>by rw[l op d]at p;cases p) (.inl rfl) (λop d=>by rw[l op d];exact V) (λop d a=>by rw[l op d];simp) λk hk=>?_;have O:∀(x:Nat) (op:al) (a:Touch),(#[{g:=0,fn,pos,act:=.recvClosed J.C}]:Th)[x]?=Y op->op.g=k->op.act.touch?=Y a->a.loc.isMemory=true->Loose (t++#[{g:=0,fn,pos,act:=.recvClosed J.C}]) (t.size+x):=λx op a f h2 _ _=>by
   have:=l op (kq f);rw[this]at h2;exact mi h2.symm hk
  have r:=h.t.hand k hk;rcases(h.p.kG z k hk).2 with e|e
  .unfold ja at r|-;rw[e]at r;have R:({J with kn:=λk=>if k=0 then J.kn 0 else .top}:Gh).kn k=.top:=by simp[hk]
   rw[R];obtain⟨q,q1,q2,q3⟩:=r;exact(q3.app O).hk ⟨t.size+0,_,P5 E,rfl,.inr (GQ (wS q1) (kT E) (rB q2) (heard_new P E G))⟩
  .exact r.app (by simp[hk,e]) rfl rfl rfl (.inr O)
 have W:FI {J with kn:=λk=>if k=0 then J.kn 0 else .top} w (t++#[{g:=0,fn,pos,act:=.recvClosed J.C}]):=by
  have u:∀k,k≠0->({J with kn:=λk=>if k=0 then J.kn 0 else .top}:Gh).kn k=.top:=λk hk=>by simp[hk]
  refine⟨⟨h.m.num,h.m.own,h.m.cX,h.m.dis,h.m.nhid,h.m.hbnd,h.m.dead,h.m.out⟩,⟨i.clean,i.low,λk hk=>?_,i.above,i.norel,λk hk j a p B=>?_,λk hk=>(i.hand k hk).same rfl rfl rfl rfl,i.says,i.atom⟩,⟨h.p.st0,h.p.off,h.p.paid,h.p.chan,h.p.group,h.p.wg,h.p.count,(λy=>by have K:J.md=.best:=y;rw[C]at K;cases K),h.p.basep,h.p.clz,h.p.old,h.p.wz,h.p.czl,h.p.sem,λk f h2=>?_,λk f h2=>?_,λk f h2=>?_,λk f h2=>?_,λc f h2=>?_,λk f h2=>?_,λ_ k hk=>⟨s k hk,.inr (u k hk)⟩,λB=>?_,h.p.doneW,h.p.grp⟩,h.s.same rfl rfl rfl rfl rfl rfl rfl rfl⟩
  .have A:k=0:=hk.elim id λe=>mi (o k) e;subst A;rw[i.deaf 0 (.inl rfl)];exact(Sx J.df 0 0).tn L.symm
  .have A:k=0:=hk.elim id λe=>mi (o k) e;subst A;refine(i.know 0 (.inl rfl) j a p B).imp id λ⟨b,y,a1⟩=>⟨b,y,?_⟩;rcases a1 with⟨m,n,S,T⟩|⟨m,n⟩|⟨m,n⟩
   .exact .inl ⟨m,n,λe=>S ((OM (.inl rfl) b).2 e),T⟩
   .exact .inr (.inl ⟨λe=>m ((GU (.inl rfl) b).2 e),n⟩)
   .exact .inr (.inr ⟨m,n⟩)
  .rw[u k f]at h2;cases h2
  .have e:({J with kn:=λk=>if k=0 then J.kn 0 else .top}:Gh).st k=.quit:=o k;rw[e]at h2;rcases h2 with h2|⟨v,h2⟩|h2|h2<;>cases h2
  .have e:({J with kn:=λk=>if k=0 then J.kn 0 else .top}:Gh).st k=.quit:=o k;rw[e]at h2;rcases h2 with h2|h2<;>cases h2
  .rw[u k f]at h2;cases h2
  .have e:({J with kn:=λk=>if k=0 then J.kn 0 else .top}:Gh).st c=.quit:=o c;rw[e]at h2;cases h2
  .rw[u k f]at h2;cases h2
  .have N:J.md=.idle:=B;rw[C]at N;cases N
 have:=W.settle s (λk hk=>by simp[hk]);exact⟨this.1,rE s rfl rfl (λh=>by cases h) (λh=>by cases h)⟩
def aQ.Zh(a2:J.md=.clash)(W:J.df 0=0)(B:J.cz=Y c){frz:Kf}(a7:∀bj,aH (J.V 0) w bj->Lq P true (G fr cs) bj=.comm (G fr cs) #[rcase J.C z] true (.recv ok) bj #[])
  (S:∀v,Conc.served (G fr cs) (recvd ok v true)=G (frv v) dp)(T:Conc.served (G fr cs) (recvd ok z false)=G frz dp)
  (next:∀(σ':Gh) w' j v,J.base<=j->j<J.num->j≠c->(∀x,(j,x)∉J.got)->J.pay j v w'->σ'.got=J.got++[(j,v)]->(∀b,σ'.V 0 b↔J.V 0 b\/sB v b)->(∀b,σ'.O 0 b↔J.O 0 b)->aH (J.V 0) w w'->Jk J σ'->σ'.df 0=0->σ'.num=J.num->σ'.cz=J.cz->(∀b,sB v b->b<w'.heap.size/\¬J.O 0 b)->aQ fI P post (G (frv v) dp) σ' w')
  (a9:∀(σ':Gh) w',(∀k,J.base<=k->k<J.num->k≠c->(∀v w,¬J.pay k v w)\/∃v,(k,v)∈J.got)->σ'.md=.idle->σ'.df 0=0->σ'.got=J.got->σ'.num=J.num->(σ'.cD 0)->(∀b,J.V 0 b->σ'.O 0 b)->(∀b,σ'.V 0 b↔σ'.O 0 b)->aH (J.V 0) w w'->(∀b,σ'.V 0 b->b<w'.heap.size)->aQ fI P post (G frz dp) σ' w'):aQ fI P post (G fr cs) J w:=by
 refine aQ.recv (c:=J.C) (z:=z) (ok:=ok) ⟨rfl,λ(σ1:Gh) bj t a6 (d:FI σ1 bj t)=>?_⟩;have a:=a6.2 (.inl rfl);have l:σ1.md=.clash:=a.kin.md.tn a2;obtain⟨o,m2,q,u⟩:=a.kin.main rfl;obtain⟨N,s,tm,p⟩:=d.p.chan (by rw[l];simp);have i:σ1.df 0=0:=a.kin.df.tn W;refine⟨a.kin.C,⟨i,.inr ⟨l,c,u.tn B⟩⟩,a7 bj a.w,λg=>⟨⟨s,s,tm,?_⟩,λj v Z Q a4 s r tm f1 p1 f2 p2 a'=>.inl ⟨?_,λh=>mi h (dj 0),?_⟩⟩,λg=>⟨⟨s,s,tm,?_⟩,settled {σ1 with kn:=λk=>if k=0 then σ1.kn 0 else .top} bj.heap.size,rfl,?_,λj Z Q=>?_,?_,.inl ⟨?_,λh=>mi h (dj 0),?_⟩⟩⟩
 .have m:σ1.cl=false:=by have A:¬σ1.cl=true:=g;simpa using A
  rw[m,a.kin.C]at p;exact p
 .rw[S];rfl
 .rw[S];have n:=kX.1 a4;show aQ fI P post (G (frv v) dp) (jD σ1 j) _;rw[js n];obtain⟨o1,E,o3⟩:=d.p.off j v n;have C:j≠0:=zz;refine next _ _ j v (q6A λR=>?_) (by rw[<- o];exact Q) (λe=>?_) (λx a8=>(d.s l).off j v n ((d.s l).got j x (by rw[q];exact a8))) ?_ (by simp only[handed];rw[q]) (λb=>?_) (λb=>?_) (oY a.w λV=>d.m.nhid 0 J.C ((a.V _).2 V) (by rw[<- a.kin.C];exact N)) (a.kin.SQ.tn ⟨rfl,rfl,rfl,rfl,rfl,rfl⟩) i o u (λb f=>?_)
  .rw[<- a.kin.base]at R;have:=d.p.old j C R;rw[n]at this;cases this
  .have m:σ1.cl=false:=by have A:¬σ1.cl=true:=g;simpa using A
   rcases(d.p.czl c (u.tn B)).2.2.2.2 m with y|y<;>rw[<- e,n]at y<;>cases y
  .rw[<- a.kin.pay];refine d.p.paid _ _ _ _ (λb f=>?_) o3;rw[fW,qVB];intro e;exact d.m.nhid j b (E b f) (by rw[<- e,<- a.kin.C];exact N)
  .simp only[handed,if_true];rw[a.V b]
  .simp only[handed,qVB (λe:0=j=>C e.symm)];exact a.O b
  .have:=d.m.cX j b (E b f);exact⟨by simp only[H.setChan,mn];exact this,λh=>d.m.dis j 0 b C (E b f) ((a.O b).2 h)⟩
 .have m:σ1.cl=true:=g;rw[m,a.kin.C]at p;exact p
 .have:=(d.closed g i (G fr cs).frame.fn (G fr cs).frame.place).1;rw[show(MemAct.recvClosed σ1.C)=MemAct.recvClosed J.C from by rw[a.kin.C]]at this;exact this
 .exact(d.closed g i 0 "").2.rely j zz
 .exact(d.closed g i 0 "").2.same
 .rw[T];rfl
 .rw[T];refine a9 _ _ (λk K L U=>?_) rfl i q o rfl (λb f=>?_) (λb=>?_) a.w (λb f=>?_)
  .have a1:k≠0:=by have:=d.p.basep.1;rw[a.kin.base]at this;omega
   have a5:=(d.p.kG g k a1).1;rw[<- a.kin.pay,<- q];refine(d.s l).due k (by rw[a.kin.base];exact K) (by rw[o];exact L) (Classical.byContradiction λa3=>?_);rcases(d.s l).go k (by rw[a.kin.base];exact K) (by rw[o];exact L) (λe=>U (km (e.symm.tn (u.tn B)))) a3 with e|⟨v,e⟩<;>rw[a5]at e<;>cases e
  .have e:(settled {σ1 with kn:=λk=>if k=0 then σ1.kn 0 else .top} bj.heap.size).O 0 b↔b<bj.heap.size/\¬σ1.hid b:=by simp only[settled,Sx]
   have O:=(a.V b).2 f;exact e.2 ⟨d.m.cX 0 b O,d.m.nhid 0 b O⟩
  .simp only[settled,Sx]
  .have e:(settled {σ1 with kn:=λk=>if k=0 then σ1.kn 0 else .top} bj.heap.size).V 0 b↔b<bj.heap.size/\¬σ1.hid b:=by simp only[settled,Sx]
   exact(e.1 f).1
end
variable{x:St}{fl:Option Nat}{eK:Nat->Prop}{frc:Kf}{csc:List Kf}
section
open Go.ConcN (upd upd_same upd_ne sumTo sumTo_congr)
def Jl(a:0<J.num)(b:Nat):(de J x fl eK).V 0 b↔J.V 0 b:=by rw[show(de J x fl eK).V 0=J.V 0 from Sh _ _ zz]
def Jm(a:0<J.num)(b:Nat):¬(de J x fl eK).O 0 b:=by
 have:(de J x fl eK).O 0=λ_=>False:=(Sh _ _ zz).tn (Sx _ _ _);rw[this];exact id
def Jn(b:Nat):¬(de J x fl eK).O J.num b:=by
 have:(de J x fl eK).O J.num=λ_=>False:=Sx _ _ _;rw[this];exact id
def aQ.OU(g:J.df 0=0)(l:J.cz=I)(m:J.md=.best\/(J.md=.clash/\J.pend=1))(q:∀bj,aH (J.V 0) w bj->Lq P true (G fr cs) bj=.spawn (G da dp) (G frc csc) bj #[])
  (child:∀(σ':Gh) w',0<J.num->aH (J.V 0) w w'->σ'.st J.num=.run->σ'.df J.num=0->(∀b,σ'.V J.num b↔J.V 0 b)->(∀b,¬σ'.O J.num b)->Jk J σ'->¬σ'.snt J.num->bZ fI P J.num (G frc csc) σ' w')
  (next:∀(σ':Gh) w',aH (J.V 0) w w'->(∀b,σ'.V 0 b↔J.V 0 b)->(∀b,¬σ'.O 0 b)->Jk J σ'->σ'.num=J.num+1->σ'.df 0=0->σ'.cz=I->σ'.pend=0->σ'.got=J.got->(σ'.cD 0↔J.cD 0)->aQ fI P post (G da dp) σ' w'):aQ fI P post (G fr cs) J w:=by
 refine aQ.spawn ⟨rfl,λ(σ1:Gh) bj t o (e:FI σ1 bj t)=>?_⟩;have a:=o.2 (.inl rfl);obtain⟨c,m2,r,s⟩:=a.kin.main rfl;have d:=e.m.num;have S:BF σ1 .run I (λk=>σ1.cD k/\k≠σ1.num):=⟨a.kin.df.tn g,s.tn l,.inl ⟨rfl,rfl,λ_=>il,by rw[a.kin.md,m2];exact m⟩⟩;have f:=e.born S (G fr cs).frame.fn (G frc csc).frame.fn (G fr cs).frame.place;have p:∀j,j<σ1.num->(de σ1 .run I (λk=>σ1.cD k/\k≠σ1.num)).st j=σ1.st j:=λj i=>cg zz;refine⟨G da dp,G frc csc,de σ1 .run I (λk=>σ1.cD k/\k≠σ1.num),q bj a.w,rfl,rfl,rfl,f.1,f.2,λj i=>⟨id,?_⟩,id,?_,?_,.inl ⟨rfl,λh=>mi h (dj 0),?_⟩⟩
 .show(de σ1 .run I (λk=>σ1.cD k/\k≠σ1.num)).st j=.quit↔σ1.st j=.quit;rw[p j i]
 .show¬(de σ1 .run I (λk=>σ1.cD k/\k≠σ1.num)).st σ1.num=.quit;rw[iI];simp
 .show bZ fI P σ1.num (G frc csc) _ bj;have:=child (de σ1 .run I (λk=>σ1.cD k/\k≠σ1.num)) bj (by rw[<- c];exact d) a.w (by rw[<- c];exact iI) (by rw[<- c];exact Sx _ _ _) (λb=>?_) (λb=>by rw[<- c];exact Jn b) (a.kin.SQ.tn ⟨rfl,rfl,rfl,rfl,rfl,rfl⟩) (by rw[<- c];show¬upd σ1.snt σ1.num False σ1.num;rw[Sx];exact id)
  .exact Eq.mpr (cd (λn=>bZ fI P n (G frc csc) (de σ1 .run I (λk=>σ1.cD k/\k≠σ1.num)) bj) c) this
  .rw[<- c,show(de σ1 .run I (λk=>σ1.cD k/\k≠σ1.num)).V σ1.num=σ1.V 0 from Sx _ _ _];exact a.V b
 .exact next _ _ a.w (λb=>(Jl d b).tn (a.V b)) (λb=>Jm d b) (a.kin.SQ.tn ⟨rfl,rfl,rfl,rfl,rfl,rfl⟩) (by rw[<- c];rfl) ((Sh _ _ zz).tn (a.kin.df.tn g)) rfl rfl r (by rw[<- a.kin.cD];exact⟨(·.1),λh=>⟨h,zz⟩⟩)
def aQ.WS(m:J.df 0=0)(l:J.cz=I)(q:J.md=.clash)(r:J.pend=0)(u:J.cD 0)(x:∀bj,aH (J.V 0) w bj->Lq P true (G fr cs) bj=.spawn (G da dp) (G frc csc) bj #[])
  (child:∀(σ':Gh) w',0<J.num->aH (J.V 0) w w'->σ'.st J.num=.wait->σ'.kn J.num=.no->σ'.df J.num=0->σ'.cD J.num->σ'.cz=Y J.num->¬fV σ'.gw->(∀b,σ'.V J.num b↔J.V 0 b)->(∀b,¬σ'.O J.num b)->Jk J σ'->bZ fI P J.num (G frc csc) σ' w')
  (next:∀(σ':Gh) w',aH (J.V 0) w w'->(∀b,σ'.V 0 b↔J.V 0 b)->(∀b,¬σ'.O 0 b)->Jk J σ'->σ'.num=J.num+1->σ'.df 0=0->σ'.cz=Y J.num->σ'.got=J.got->aQ fI P post (G da dp) σ' w'):aQ fI P post (G fr cs) J w:=by
 refine aQ.spawn ⟨rfl,λ(σ1:Gh) bj t s (e:FI σ1 bj t)=>?_⟩;have a:=s.2 (.inl rfl);obtain⟨d,m2,y,p⟩:=a.kin.main rfl;have f:=e.m.num;have S:BF σ1 .wait (Y σ1.num) (λk=>k=σ1.num):=⟨a.kin.df.tn m,p.tn l,.inr ⟨rfl,rfl,λ_=>il,a.kin.cD.2 u,a.kin.md.tn q,m2.tn r⟩⟩;have i:=e.born S (G fr cs).frame.fn (G frc csc).frame.fn (G fr cs).frame.place;have v:∀j,j<σ1.num->(de σ1 .wait (Y σ1.num) (λk=>k=σ1.num)).st j=σ1.st j:=λj o=>cg zz;refine⟨G da dp,G frc csc,de σ1 .wait (Y σ1.num) (λk=>k=σ1.num),x bj a.w,rfl,rfl,rfl,i.1,i.2,λj o=>⟨id,?_⟩,id,?_,?_,.inl ⟨rfl,λh=>mi h (dj 0),?_⟩⟩
 .show(de σ1 .wait (Y σ1.num) (λk=>k=σ1.num)).st j=.quit↔σ1.st j=.quit;rw[v j o]
 .show¬(de σ1 .wait (Y σ1.num) (λk=>k=σ1.num)).st σ1.num=.quit;rw[iI];simp
 .show bZ fI P σ1.num (G frc csc) _ bj;have:=child (de σ1 .wait (Y σ1.num) (λk=>k=σ1.num)) bj (by rw[<- d];exact f) a.w (by rw[<- d];exact iI) (by rw[<- d];exact Sx _ _ _) (by rw[<- d];exact Sx _ _ _) d.symm (by rw[<- d];rfl) (λh=>by obtain⟨c,g,-⟩:=e.p.sem h;rw[p.tn l]at g;cases g) (λb=>?_) (λb=>by rw[<- d];exact Jn b) (a.kin.SQ.tn ⟨rfl,rfl,rfl,rfl,rfl,rfl⟩)
  .exact Eq.mpr (cd (λn=>bZ fI P n (G frc csc) (de σ1 .wait (Y σ1.num) (λk=>k=σ1.num)) bj) d) this
  .rw[<- d,show(de σ1 .wait (Y σ1.num) (λk=>k=σ1.num)).V σ1.num=σ1.V 0 from Sx _ _ _];exact a.V b
 .exact next _ _ a.w (λb=>(Jl f b).tn (a.V b)) (λb=>Jm f b) (a.kin.SQ.tn ⟨rfl,rfl,rfl,rfl,rfl,rfl⟩) (by rw[<- d];rfl) ((Sh _ _ zz).tn (a.kin.df.tn m)) (by rw[<- d];rfl) y
def FI.SU(h:FI J w t)(i:J.md=.best)(g:∀k,J.base<=k->k<J.num->∃v,(k,v)∈J.got):FI (settled J w) w t/\yu 0 J w (settled J w):=by
 obtain⟨l,b,m,n,c,d⟩:=h.p.best i;have a:=λk hk=>by
  by_cases f:k<J.base
  .exact h.p.old k hk f
  .by_cases h2:k<J.num
   .obtain⟨v,j⟩:=g k zz h2;exact(c k v j).2.2
   .exact h.m.out k zz
 refine h.settle a λk hk=>(d k hk).resolve_left λe=>?_;rcases h.p.kA k hk e with(e1|⟨v,e1⟩)|e1
 .rw[a k hk]at e1;cases e1
 .rw[a k hk]at e1;cases e1
 .rw[b]at e1;cases e1
def FI.over(h:FI J w t)(n:J.md=.idle):t.HandedOver:=by
 obtain⟨-, -, -, -, s⟩:=h.p.qz n;intro j g l i m;obtain⟨op,d,k⟩:=Option.map_eq_some_iff.1 l;obtain⟨x,o,r,q⟩:=m;have f:=h.t.hand g i;unfold ja at f;rw[(s g i).2]at f;have c:op.act.touch?=Y x:=by simpa[Th.act?,d]using o
 rcases f j op x d k c r with⟨p,z,a,h2,b⟩|⟨v,ad,wr,a,h2,b⟩
 .refine⟨p,by simp[Th.g?,a,h2],?_⟩;rcases b with rfl|b
  .rw[d]at a;cases a;exact mi (k.symm.tn h2) i
  .exact b
 .rw[d]at a;cases a;rw[h2]at c;simp only[MemAct.touch?,fg]at c;subst c;rcases q with e|⟨g',e1,u⟩
  .exact mi rfl e
  .rw[l]at e1;cases e1;rw[k]at b;omega
def aQ.Zi(f:J.md=.idle)(h:∀bj,aH (J.V 0) w bj->∃v,Lq P true (G fr cs) bj=.ended (.done v) bj #[]/\post v bj):aQ fI P post (G fr cs) J w:=by
 refine aQ.ends ⟨rfl,λ(σ1:Gh) bj t g (a:FI σ1 bj t)=>?_⟩;have c:=g.2 (.inl rfl);have b:=c.kin.md.tn f;obtain⟨v,d,h2⟩:=h bj c.w;have e:t++al.ofEvents 0 (G fr cs).frame.fn (G fr cs).frame.place #[]=t:=by rw[show al.ofEvents 0 (G fr cs).frame.fn (G fr cs).frame.place #[]= #[]from rfl];exact Array.append_empty
 refine⟨v, #[],d,?_,?_,λj i _=>((a.p.qz b).2.2.2.2 j zz).1,h2⟩
 .rw[e];exact a.t.clean
 .rw[e];exact a.over b
def Xz:Gh:= {num:=1,st:=λ_=>.quit,V:=λ_ _=>False,O:=λ_ _=>False,df:=λ_=>0,hid:=λ_=>False,cD:=λk=>k=0,kn:=λ_=>.top,C:=0,cl:=false,ty:=0,Wg:=0,gw:=.none,md:=.idle,base:=1,cz:=I,pend:=0,pay:=λ_ _ _=>True,got:=[],snt:=λ_=>False}
def start(w:H):Gh:= {Xz with V:=λk b=>k=0/\b<w.heap.size,O:=λk b=>k=0/\b<w.heap.size}
def L0(w:H):FI (start w) w #[]:=by
 have f:∀(j:Nat) a,touchAt #[] j=Y a->False:=λj a h=>by obtain⟨op,e,-⟩:=touch_of h;simp at e
 refine⟨⟨Nat.one_pos,λ_ _ h=>h,λ_ _ h=>h.2,λk j b l h g=>l (h.1.tn g.1.symm),λ_ _ _ h=>h,λ_ h=>h.elim,λk hk _ b h=>hk h.1,λ_ _=>rfl⟩,⟨λo=>?_,by simp,λk _=>rfl,λ_ _=>rfl,by simp,λk _ j a d _=>(f j a d).elim,λk hk j op a e=>(by simp at e),λa b d i=>d.tn i.symm,λj a d=>(f j a d).elim⟩,⟨rfl,λk v h=>(by cases h),λ_ _ _ _ _ h=>h,λh=>mi rfl h,λh=>mi rfl h,qYB,qYB,λh=>(by cases h),⟨Nat.one_pos,qN 1⟩,λh=>(by cases h),λ_ _ _=>rfl,λk h=>(by rcases h with h|h<;>cases h),λc h=>(by cases h),λh=>h.elim,λk _ h=>(by cases h),λk _ h=>(by rcases h with h|⟨_,h⟩|h|h<;>cases h),λk _ h=>(by rcases h with h|h<;>cases h),λk _ h=>(by cases h),λc h=>(by cases h),λk _ h=>(by cases h),λh=>(by cases h),λ_=>⟨rfl,rfl,rfl,rfl,λk _=>⟨rfl,rfl⟩⟩,λc h=>(by cases h),λh=>(by cases h)⟩,λm=>(by cases m)⟩;rintro⟨a,b, -, ⟨x,y,n, -,-⟩,-⟩;exact f a x n
end
end Go.Co
