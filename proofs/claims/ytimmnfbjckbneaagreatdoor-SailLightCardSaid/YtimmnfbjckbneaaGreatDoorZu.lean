/- SailLight holds of the given program, for every book, state and hour (the texts: Jl Jm Jn Jo Jp Jq Jr Js Jt Ju). -/
import Derived.Test.YtimmnfbjckbneaaGreatDoorRows
import Derived.ProofKit
import Derived.LaidMore
import Derived.Conc.LeavingOf
import Derived.Deep.SlicePairs
import Derived.Deep.Slices
import Derived.Deep.Strs
import Derived.OpenShut
import Derived.Conc.Holds
import Derived.Stop.Joined
import Derived.Test.YtimmnfbjckbneaaGreatDoorTie
import Derived.Test.YtimmnfbjckbneaaGreatDoorCards
import Derived.SevenTiedAt
import Derived.Test.YtimmnfbjckbneaaGreatDoorZt
set_option maxRecDepth 100000
set_option maxHeartbeats 4000000
set_option linter.all false
noncomputable section
open Go renaming World->Cl,undef->D,World->H,execOp->Hn,Frame->Kf,Oper->Kp,TypeId->Lk,stepG->Lq,Code->Ly,Value->M,Calls->PH,Goroutine->QP,heap_alloc_old->QR,heap_alloc_new->Sp,Operand->ae,MemOp->al,yielded->aw,FuncId->ba,bodyPost_ret->bd
open Go.Proofs.Tryz renaming prog->F
open Option renaming none->I,some->Y
open Go.RowKit renaming Below->X
namespace Go
def pD{p:Prop}(h:p:=by
 first|have _:=ø;(rcases hp h with c|⟨a,J,r,n,K,L,S,T,U,V,c,a3,G⟩)|have _:=å;(rcases open_slice Tryz.underlying29 h with⟨c,-⟩|⟨a,J,r,m,n,D,a5,c, -, a3, -, Q, -, G⟩)|(rcases open_slice1 Tryz.underlying24 kr h with⟨c,-⟩|⟨a,J,r,m,n,b1,D,a5,c, -, a3, -, Q, -, G⟩)
 .simp only[ll,lA,and_true]at c;exact⟨[],⟨c.2.1,fi _,fi _,λh=>dC h (kq 0)⟩,vl g λa u=>by rw[c.1]at u;cases u⟩
 .simp only[ll,lA,and_true]at c;obtain⟨O,rfl,rfl⟩:=c;obtain⟨w,P, -,-⟩:=g a O
  first
  |have _:=ø
   have f:∀i,i<s.n->∃z d:Int,W (a.block,a.off+i*2)=Y (.int .i64 z)/\W (a.block,a.off+i*2+1)=Y (.int .i64 d):=λi hi=>by
    obtain⟨h2,a1,y,a6⟩:=G i zz;obtain⟨z,A, -,-⟩:=DataW.trod_int Tryz.underlying3 y;obtain⟨d,a2, -,-⟩:=DataW.trod_int Tryz.underlying3 a6;simp only[ll,and_true]at A a2;rw[xe w,A]at h2;rw[xe w,a2]at a1;exact⟨z,d,h2,a1⟩
   refine⟨(List.range s.n).map λi=>(Fh (W.cell? ⟨a.block,a.off+i*2,I⟩),Fh (W.cell? ⟨a.block,a.off+i*2+1,I⟩)),⟨by simp,by simpa using E,by simp;omega,λ_=>⟨a.block,a.off,?_,tA.1 P,λk hk=>?_⟩⟩,vl g λN u j C=>?_⟩
  |have _:=æ
   simp only[if_true]at Q;have f:∀i,i<s.n->∃z:Int,W (a.block,a.off+i)=Y (.int .i64 z):=λi hi=>by
    obtain⟨h2,y⟩:=G i zz;obtain⟨z,A, -,-⟩:=DataW.trod_int Tryz.underlying3 y;simp only[ll,and_true]at A;rw[xe w,A]at h2;exact⟨z,h2⟩
   refine⟨(List.range s.n).map λi=>Fh (W.cell? ⟨a.block,a.off+i,I⟩),⟨by simp,by simpa using E,by simp;omega,λ_=>⟨a.block,a.off,?_,tA.1 P,λk hk=>?_⟩⟩,vl g λN u j C=>?_⟩
  |simp only[if_true]at Q
   have a9:F.cellsOf 72=3:=by kernel_rfl
   have a7:F.cellsOf 3=1:=by kernel_rfl
   have a8:F.cellsOf 4=1:=by kernel_rfl
   have f:∀i,i<s.n->∃(z d:Int) (q:Bool),W (a.block,a.off+i*3)=Y (.int .i64 z)/\W (a.block,a.off+i*3+1)=Y (.int .i64 d)/\W (a.block,a.off+i*3+2)=Y (.bool q):=λi hi=>by
    obtain⟨dp,h2,y⟩:=G i zz;rw[a9]at h2;obtain⟨-, a0,B⟩:=Cl.cells?_some h2;obtain⟨y0,y1,y2,k, -, -, Z,g1,g2⟩:=trod_struct3 Tryz.underlying72 y
    match dp,a0,B with
    | [c0,c1,c2],_,B=>
     simp only[a7,a8,List.drop_zero,List.drop_succ_cons,List.take_succ_cons,List.take_zero]at Z g1 g2;obtain⟨z0,q0, -,-⟩:=DataW.trod_int Tryz.underlying3 Z;obtain⟨z1,q1, -,-⟩:=DataW.trod_int Tryz.underlying3 g1;obtain⟨z2,q2,-⟩:=DataW.trod_bool Tryz.underlying4 g2;simp only[ll,and_true]at q0 q1 q2;subst q0 q1 q2;have k0:=B 0 zz;have k1:=B 1 zz;have k2:=B 2 zz;rw[xe w]at k0 k1 k2;exact⟨z0,z1,z2,k0,k1,k2⟩
   refine⟨(List.range s.n).map λi=>(Fh (W.cell? ⟨a.block,a.off+i*3,I⟩),Fh (W.cell? ⟨a.block,a.off+i*3+1,I⟩),VW (W.cell? ⟨a.block,a.off+i*3+2,I⟩)),⟨by simp,by simpa using E,by simp;omega,λ_=>⟨a.block,a.off,?_,tA.1 P,λk hk=>?_⟩⟩,vl g λN u j C=>?_⟩
  .rw[O];obtain⟨b2,b3,b4⟩:=a;simp only at w;rw[w]
  .have v:k<s.n:=by simpa using hk
   first|have _:=ø;obtain⟨z,d,b,o⟩:=f k v;simp[List.getD,v,b,o,Fh]|have _:=å;obtain⟨z,d,q,b,o,R⟩:=f k v;simp[List.getD,v,b,o,R,Fh,VW]|obtain⟨z,b⟩:=f k v;simp[List.getD,v,b,Fh]
  .obtain rfl:a=N:=jx (O.symm.tn u)
   first
   |have _:=æ
    obtain⟨z,b⟩:=f j (by simpa using C);exact⟨_,b,cR _ _⟩
   |have _:=ø
    have a':j<s.n*2:=by simpa using C
    obtain⟨z,d,b,o⟩:=f (j/2) zz;rcases(show j=j/2*2\/j=j/2*2+1 from zz)with e|e
    .rw[e];exact⟨_,b,cR _ _⟩
    .rw[e];exact⟨_,o,cR _ _⟩
   |have a':j<s.n*3:=by simpa using C
    obtain⟨z,d,q,b,o,R⟩:=f (j/3) zz;rcases(show j=j/3*3\/j=j/3*3+1\/j=j/3*3+2 from zz)with e|e|e
    .rw[e];exact⟨_,b,cR _ _⟩
    .rw[e];exact⟨_,o,cR _ _⟩
    .rw[e];exact⟨_,R,sN _⟩):p:=h
def ti{p:Prop}(h:p:=by
 first|have _:=ø;rw[decide_eq_true K,dE rfl]|refine WalkE.pN (d:=18) rfl rfl zz (Ce (j:=2) (g:=17) rfl rfl zz rfl) ?_;refine WalkE.pN (d:=19) rfl rfl zz (Ce (j:=2) (g:=17) rfl rfl zz rfl) ?_;refine WalkE.pN (d:=20) rfl rfl zz (Ce (j:=2) (g:=17) rfl rfl zz rfl) ?_;refine WalkE.pN (d:=21) rfl rfl zz (Ce (j:=2) (g:=17) rfl rfl zz rfl) ?_;refine WalkE.cj (d:=22) (a:=true) (.bool true) rfl rfl (ft rfl) ((dE rfl).tn rfl) rfl zz wnn hk ?_;refine WalkE.aT ?_;refine WalkE.cond (t:=true) (ft rfl) ?_;rw[dE rfl]
 refine WalkE.seq (WalkE.reg (l:=[0,1]) rfl ?_);refine WalkE.enter (f:=5) (args:= #[]) rfl wnn hk (λbj=>(kJ (fn:=5) (args:= #[]) rfl ss rfl λ_=>⟨rfl,rfl⟩).1) (λbj=>(kJ (fn:=5) (args:= #[]) rfl ss rfl λ_=>⟨rfl,rfl⟩).2) ?_;exact N _ _ _ _ k.co J):p:=h
def xa{p:Prop}(h:p:=by
 have n:=(List.getElem?_eq_some_iff.1 e).1;refine⟨h.1,h.2.1,h.2.2.1,λi=>?_⟩;obtain⟨b,off,d,m,hc⟩:=h.2.2.2 i;first|have _:=ø;have g:jz s (l.length*2)=(b,off,l.length*2):=by unfold jz;rw[d]|have _:=å;have g:jz s (l.length*3)=(b,off,l.length*3):=by unfold jz;rw[d]|have g:jz s l.length=(b,off,l.length):=by unfold jz;rw[d]
 rw[g]at e;refine⟨w.heap.size+j,0,by unfold MH;rw[d];rfl,by rw[qK];omega,λk hk=>?_⟩;rw[kl];first|have _:=ø;exact⟨(nZ e (f _ d).2 (by show k*2<l.length*2;omega) c a).tn (hc k hk).1,(nZ e (f _ d).2 (by show k*2+1<l.length*2;omega) c a).tn (hc k hk).2⟩|have _:=å;exact⟨(nZ e (f _ d).2 (by show k*3<l.length*3;omega) c a).tn (hc k hk).1,(nZ e (f _ d).2 (by show k*3+1<l.length*3;omega) c a).tn (hc k hk).2.1,(nZ e (f _ d).2 (by show k*3+2<l.length*3;omega) c a).tn (hc k hk).2.2⟩|exact(nZ e (f _ d).2 hk c a).tn (hc k hk)):p:=h
def xaG{p:Prop}(h:p:=by
 simp only[fc,hZ,or_false]at k;have hk:(bs .normal 3).kind≠.early:=by simp[bs]
 first
 |have _:=ø
  rcases k with rfl|rfl
  (all_goals
    iterate 2 (first|refine WalkE.av (d:=66) (.bool q) rfl (.inl rfl) (ft e11) rfl zz (az (j:=15) (g:=65) rfl rfl zz e65) hk ?_|refine WalkE.av (d:=67) (.bool q) rfl (.inl rfl) (ft e13) rfl zz (az (j:=15) (g:=65) rfl rfl zz e65) hk ?_)
    exact next _ (λi hi=>nk) e65 rfl rfl)
 |have _:=å
  rcases k with rfl|rfl
  (all_goals
    iterate 2 (first|refine WalkE.av (d:=71) (.int .i64 x) rfl (.inl rfl) (ft e12) rfl zz (az (j:=20) (g:=70) rfl rfl zz e70) hk ?_|refine WalkE.av (d:=72) (.int .i64 x) rfl (.inl rfl) (ft e14) rfl zz (az (j:=20) (g:=70) rfl rfl zz e70) hk ?_)
    exact next _ (λi hi=>nk) e70 rfl rfl)
 |have _:=æ
  rcases k with rfl|rfl
  (all_goals
    iterate 2 (first|refine WalkE.av (d:=56) (y) rfl (.inl rfl) (ft e7) rfl zz (az (j:=5) (g:=55) rfl rfl zz e55) hk ?_|refine WalkE.av (d:=57) (z) rfl (.inl rfl) (ft e9) rfl zz (az (j:=5) (g:=55) rfl rfl zz e55) hk ?_)
    exact next _ (λi hi=>nk) e55 rfl rfl)
 |have _:=ë
  rcases k with rfl|rfl
  (all_goals
    iterate 2 (first|refine WalkE.av (d:=61) (.int .i64 x) rfl (.inl rfl) (ft e8) rfl zz (az (j:=10) (g:=60) rfl rfl zz e60) hk ?_|refine WalkE.av (d:=62) (.int .i64 x) rfl (.inl rfl) (ft e10) rfl zz (az (j:=10) (g:=60) rfl rfl zz e60) hk ?_)
    exact next _ (λi hi=>nk) e60 rfl rfl)
 |have o:=c.co.refl
  rcases k with rfl|rfl|rfl
  all_goals
   iterate 4 (first|refine WalkE.dV (d:=50) c.box c.gV rfl rfl (ft e3) rfl zz rfl hk ?_|refine WalkE.dV (d:=52) c.box c.gV rfl rfl (ft e3) rfl zz rfl hk ?_|(refine cr.qL (d:=51) (fn:=10) (args:= #[(bX _ b).v]) (eQ:= #[b.v]) (v:=.int .i64 (ay b l)) c.co m rfl rfl (mY (ft rfl)) rfl zz wnn hk (λ_=>⟨rfl,rfl⟩) rfl rfl (λe0 hB=>vg (by exact m.RH)) (aG _ _) (λe0 hB r=>(cG (bX _ b) l _ (m.lone (e0:=e0) r _).1 (mh c.co.checks hB r _)).mono λe W q=>q.1) λE B A C n=>?_;have c:=c.bH n;have m:=m.bH n;have o:=o.tn n)|(refine cr.qL (d:=53) (fn:=11) (args:= #[(bX _ b).v]) (eQ:= #[b.v]) (v:=.int .i64 (ay b l)) c.co m rfl rfl (mY (ft rfl)) rfl zz wnn hk (λ_=>⟨rfl,rfl⟩) rfl rfl (λe0 hB=>vg (by exact m.RH)) (aG _ _) (λe0 hB r=>(mm (bX _ b) l _ (m.lone (e0:=e0) r _).1).mono λe W q=>q.1) λE B A C n=>?_;have c:=c.bH n;have m:=m.bH n;have o:=o.tn n))
   exact next _ _ _ _ o (λi hi=>nk) rfl rfl):p:=h
def xaS{p:Prop}(h:p:=by
 refine⟨h.1,h.2.1,h.2.2.1,λe=>?_⟩;obtain⟨a,off,f,j,hc⟩:=h.2.2.2 e;have d:=(g _ f).2.1;first|have _:=ø;have b:=λk c=>i.intro (aV (hk a d) (hc k c).1) (aV (hk a d) (hc k c).2);exact⟨a,off,f,wY (b 0 e).1,b⟩|have _:=å;have b:=λk c=>i.intro (aV (hk a d) (hc k c).1) (i.intro (aV (hk a d) (hc k c).2.1) (aV (hk a d) (hc k c).2.2));exact⟨a,off,f,wY (b 0 e).1,b⟩|have b:=λk c=>aV (hk a d) (hc k c);exact⟨a,off,f,wY (b 0 e),b⟩):p:=h
def xbh{p:Prop}(h:p:=by
 have hk:(bs .normal 3).kind≠.early:=by simp[bs]
 first|have _:=ø;refine WalkE.Hr (d:=54) (a:=x) (c:=x) true rfl rfl (ft e51) (ft e53) ss rfl zz wnn hk ?_;refine WalkE.av (d:=55) (.bool true) rfl (.inl rfl) (ft rfl) rfl zz wnn hk ?_|have _:=å;refine WalkE.Zq (d:=68) true rfl rfl (ft e66) (ft e67) ss rfl zz (az (j:=15) (g:=65) rfl rfl zz e65) hk ?_;refine WalkE.cj (d:=69) (a:=true) (.bool true) rfl rfl (ft e65) ((dE rfl).tn (ft rfl)) rfl zz wnn hk ?_;refine WalkE.av (d:=70) (.bool true) rfl (.inl rfl) (ft rfl) rfl zz wnn hk ?_|have _:=æ;refine WalkE.Hr (d:=73) true rfl rfl (ft e71) (ft e72) ss rfl zz (az (j:=20) (g:=70) rfl rfl zz e70) hk ?_;refine WalkE.cj (d:=74) (a:=true) (.bool true) rfl rfl (ft e70) ((dE rfl).tn (ft rfl)) rfl zz wnn hk ?_;refine WalkE.av (d:=75) (.bool true) rfl (.inl rfl) (ft rfl) rfl zz wnn hk ?_|refine WalkE.Hr (d:=63) true rfl rfl (ft e61) (ft e62) ss rfl zz (az (j:=10) (g:=60) rfl rfl zz e60) hk ?_;refine WalkE.cj (d:=64) (a:=true) (.bool true) rfl rfl (ft e60) ((dE rfl).tn (ft rfl)) rfl zz wnn hk ?_;refine WalkE.av (d:=65) (.bool true) rfl (.inl rfl) (ft rfl) rfl zz wnn hk ?_
 exact next _ (λi hi=>nk) rfl):p:=h
def xbx{p:Prop}(h:p:=by
 generalize(fa 78 f).tmps=A at e;unfold results Tryz.f3;simp[e]):p:=h
end Go
namespace Go.Proofs.YtimmnfbjckbneaaGreatDoor
open Go.RowKit Go.Co Go.Conc
variable{V V' O:Nat->Prop}{w bj:H}{x:Nat×Nat×Nat}{m j i n:Nat}{l ds:List Int}{a v b a' b':M}{κ:Nat->Kd}{Z:Ren}{e0:Lk}{ws:List (Nat×Nat×Nat)}{s:Sl}{sh:Int}{main:Bool}{Stop:(Nat->Prop)->(Nat->Prop)->QP->H->Prop}{k:List Item}{cs:List Kf}{ops:Array Kp}{rest:List Nat}{o:Kp}{f:Nat->M}{fn:ba}{xs:Array ae}{ts:Array Lk}{args eQ:Array M}{bk:aC}
def jz(s:Sl)(m:Nat):Nat×Nat×Nat:=match s.A with|some a=>(a.block,a.off,m)|none=>(0,0,0)
def MH(N:Nat)(s:Sl):Sl:=⟨s.A.map λ_=>(N,0),s.n,s.c⟩
def jb(V:Nat->Prop)(w:H)(s:Sl)(m:Nat):Prop:=∀a,s.A=Y a->a.spot=I/\sr V w (a.block,a.off,m)
end Go.Proofs.YtimmnfbjckbneaaGreatDoor
open Go in
open Go.Proofs.YtimmnfbjckbneaaGreatDoor in
open Go.RowKit Go.Co Go.Conc in
variable{n:Nat} in
variable{o:Kp} in
theorem Go.Co.sr.mono{V V':Nat->Prop}{w bj:Cl}{x:Nat×Nat×Nat}(h:sr V w x)(hV:∀x,V x->V' x)(hk:∀x,V x->bj.heap[x]?=w.heap[x]?):sr V' bj x:=
 ⟨hV _ h.1,let⟨c,e,z,h1,h2⟩:=h.2;⟨c,e,z,(hk _ h.1).tn h1,h2⟩⟩
namespace Go.Proofs.YtimmnfbjckbneaaGreatDoor
open Go.RowKit Go.Co Go.Conc
variable{V V' O:Nat->Prop}{w bj:H}{x:Nat×Nat×Nat}{m j i n:Nat}{l ds:List Int}{a v b a' b':M}{κ:Nat->Kd}{Z:Ren}{e0:Lk}{ws:List (Nat×Nat×Nat)}{s:Sl}{sh:Int}{main:Bool}{Stop:(Nat->Prop)->(Nat->Prop)->QP->H->Prop}{k:List Item}{cs:List Kf}{ops:Array Kp}{rest:List Nat}{o:Kp}{f:Nat->M}{fn:ba}{xs:Array ae}{ts:Array Lk}{args eQ:Array M}{bk:aC}
def jb.mono{s:Sl}(h:jb V w s m)(c:∀x,V x->V' x)(hk:∀x,V x->bj.heap[x]?=w.heap[x]?):jb V' bj s m:=λa b=>⟨(h a b).1,(h a b).2.mono c hk⟩
def qJ(hB:Base TA V w e0)(h:jb V w s m):sr V w (jz s m):=by
 unfold jz
 cases b:s.A with
 | some a=>exact(h a b).2
 | none=>exact⟨hB.v0,let⟨c,z,x⟩:=hB.cells;⟨c,e0,z,x,λj d=>dC d (Nat.not_lt_zero _)⟩⟩
def nZ{i:Nat}(d:ws[j]?=Y x)(g:sr V w x)(hi:i<x.2.2)(h:Nat->Question->Nat)(a:Nat):(tp (wK TA V e0 w ws) h a).cell? (w.heap.size+j,i)=w (x.1,x.2.1+i):=by
 obtain⟨-, c,e,z,hc,f⟩:=g;show(wK TA V e0 w ws).cell? _=_;unfold H.cell?;dsimp only;rw[IY d,IZ hc,hc];show(c.extract x.2.1 (x.2.1+x.2.2))[i]?=c[x.2.1+i]?;obtain⟨v,b,-⟩:=f i hi;have k:=(du.1 b).1;rw[Array.getElem?_extract,dE zz]
def qK(b:Nat->Question->Nat)(a:Nat):(tp (wK TA V e0 w ws) b a).heap.size=w.heap.size+ws.length:=qf
def EO(h:aN w s l)(f:jb V w s l.length)(e:ws[j]?=Y (jz s l.length))(c:Nat->Question->Nat)(a:Nat):aN (tp (wK TA V e0 w ws) c a) (MH (w.heap.size+j) s) l:=xa
def AV{l:List (Int×Int)}(h:bp w s l)(f:jb V w s (l.length*2))(e:ws[j]?=Y (jz s (l.length*2)))(c:Nat->Question->Nat)(a:Nat):bp (tp (wK TA V e0 w ws) c a) (MH (w.heap.size+j) s) l:=by
 have ø:=0;exact xa
def PZ{l:List (Int×Int×Bool)}(h:fL w s l)(f:jb V w s (l.length*3))(e:ws[j]?=Y (jz s (l.length*3)))(c:Nat->Question->Nat)(a:Nat):fL (tp (wK TA V e0 w ws) c a) (MH (w.heap.size+j) s) l:=by
 have å:=0;exact xa
def yV{hB:Base TA V w e0}(d:jb V w s m)(c:ws[j]?=Y (jz s m)):VR (Bj hB ws) (.slice (MH (w.heap.size+j) s).A s.n s.c) (.slice s.A s.n s.c):=by
 unfold MH
 cases b:s.A with
 | none=>exact .nilSlice _ _
 | some a=>
  have e:jz s m=(a.block,a.off,m):=by unfold jz;rw[b]
  rw[e]at c;exact .slice _ _ ⟨rfl,(d a b).1,a.off,I0 c,by simp,rfl⟩
theorem mh(h:dJ TA V w)(hB:Base TA V w e0)(b:Nat->Question->Nat)(a:Nat):aD (tp (wK TA V e0 w ws) b a):=by
 obtain⟨k,h2,c,d,e,g⟩:=h.gw (e0:=e0) b a;have j:=hB.shown.lt;have f:∀i,(tp (wK TA V e0 w ws) b a).cell? ⟨0,i,I⟩=(tp (gw TA V e0 w) b a).cell? ⟨0,i,I⟩:=λi=>by
  show(wK TA V e0 w ws).cell? _=(gw TA V e0 w).cell? _;unfold H.cell?;dsimp only;rw[IX j]
 exact⟨by rw[qK];omega,(f _).tn h2,(f _).tn c,(f _).tn d,(f _).tn e,(f _).tn g⟩
structure uD(V:Nat->Prop)(w:H)(b:aC)(l:bN)(s:Sl)(d:List Int):Prop where
 at_:aI w b l
 dt:aN w s d
 C:jb V w b.C l.C.length
 U:jb V w b.U (l.U.length*2)
 E:jb V w b.E (l.E.length*2)
 W:jb V w b.W (l.W.length*3)
 D:jb V w s d.length
def mA(b:aC)(l:bN)(s:Sl)(d:List Int):List (Nat×Nat×Nat):=[jz b.C l.C.length,jz b.U (l.U.length*2),jz b.E (l.E.length*2),jz b.W (l.W.length*3),jz s d.length]
def bX(N:Nat)(b:aC):aC:= {b with C:=MH (N+0) b.C,U:=MH (N+1) b.U,E:=MH (N+2) b.E,W:=MH (N+3) b.W}
def sX(N:Nat)(s:Sl):Sl:=MH (N+4) s
def wY{a:Addr}(h:w.cell? a=Y v):a.block<w.heap.size:=by
 unfold H.cell? at h
 cases b:w.heap[a.block]? with
 | none=>rw[b]at h;simp at h
 | some o=>exact(du.1 b).1
section
variable{b:aC}{l:bN}{d:List Int}
def jb.ints{l:List Int}(g:jb V w s l.length)(h:aN w s l)(hk:∀x,V x->bj.heap[x]?=w.heap[x]?):aN bj s l:=by
 refine⟨h.1,h.2.1,h.2.2.1,λb=>?_⟩;obtain⟨a,off,c,i,hc⟩:=h.2.2.2 b;have e:=(g _ c).2.1;have d:=λk f=>aV (hk a e) (hc k f);exact⟨a,off,c,wY (d 0 b),d⟩
def jb.pairs{l:List (Int×Int)}(g:jb V w s m)(h:bp w s l)(hk:∀x,V x->bj.heap[x]?=w.heap[x]?):bp bj s l:=by
 refine⟨h.1,h.2.1,h.2.2.1,λb=>?_⟩;obtain⟨a,off,c,i,hc⟩:=h.2.2.2 b;have d:=(g _ c).2.1;have e:=λk f=>And.intro (aV (hk a d) (hc k f).1) (aV (hk a d) (hc k f).2);exact⟨a,off,c,wY (e 0 b).1,e⟩
def jb.abd{l:List (Int×Int×Bool)}(hw:jb V w s m)(h:fL w s l)(hk:∀x,V x->bj.heap[x]?=w.heap[x]?):fL bj s l:=by
 refine⟨h.1,h.2.1,h.2.2.1,λh0=>?_⟩;obtain⟨bb,off,hA,hb,hc⟩:=h.2.2.2 h0;have hV:=(hw _ hA).2.1;have hc':=λk hk'=>And.intro (aV (hk bb hV) (hc k hk').1) (And.intro (aV (hk bb hV) (hc k hk').2.1) (aV (hk bb hV) (hc k hk').2.2));exact⟨bb,off,hA,wY (hc' 0 h0).1,hc'⟩
def uD.mono(h:uD V w b l s d)(a:∀x,V x->V' x)(hk:∀x,V x->bj.heap[x]?=w.heap[x]?):uD V' bj b l s d:=
 ⟨⟨h.C.ints h.at_.C hk,h.U.pairs h.at_.U hk,h.E.pairs h.at_.E hk,h.W.abd h.at_.W hk⟩,h.D.ints h.dt hk,h.C.mono a hk,h.U.mono a hk,h.E.mono a hk,h.W.mono a hk,h.D.mono a hk⟩
def uD.bH{bm bo:Nat->Prop}(h:uD V w b l s d)(a:dU V O w bm bo bj):uD bm bj b l s d:=h.mono a.vv a.rely.keep
def uD.ok(h:uD V w b l s d)(hB:Base TA V w e0):∀x∈mA b l s d,sr V w x:=by
 intro x a;simp only[mA,fc,hZ,or_false]at a;rcases a with rfl|rfl|rfl|rfl|rfl
 .exact qJ hB h.C
 .exact qJ hB h.U
 .exact qJ hB h.E
 .exact qJ hB h.W
 .exact qJ hB h.D
def uD.lone(h:uD V w b l s d)(c:Nat->Question->Nat)(a:Nat):aI (tp (wK TA V e0 w (mA b l s d)) c a) (bX w b) l/\aN (tp (wK TA V e0 w (mA b l s d)) c a) (sX w s) d:=
 ⟨⟨EO h.at_.C h.C rfl c a,AV h.at_.U h.U rfl c a,AV h.at_.E h.E rfl c a,PZ h.at_.W h.W rfl c a⟩,EO h.dt h.D rfl c a⟩
def uD.RH(h:uD V w b l s d){hB:Base TA V w e0}:VR (Bj hB (mA b l s d)) (bX w b).v b.v:=by
 have e:VR (Bj hB (mA b l s d)) (.slice (bX w b).C.A b.C.n b.C.c) (.slice b.C.A b.C.n b.C.c):=yV h.C rfl;have g:VR (Bj hB (mA b l s d)) (.slice (bX w b).U.A b.U.n b.U.c) (.slice b.U.A b.U.n b.U.c):=yV h.U rfl;have f:VR (Bj hB (mA b l s d)) (.slice (bX w b).E.A b.E.n b.E.c) (.slice b.E.A b.E.n b.E.c):=yV h.E rfl;have j:VR (Bj hB (mA b l s d)) (.slice (bX w b).W.A b.W.n b.W.c) (.slice b.W.A b.W.n b.W.c):=yV h.W rfl;refine .agg rfl λi x y a c=>?_
 match i,a,c with
 | 0,a,c=>cases a;cases c;exact .int _ _
 | 1,a,c=>cases a;cases c;exact .int _ _
 | 2,a,c=>cases a;cases c;exact .int _ _
 | 3,a,c=>cases a;cases c;exact .int _ _
 | 4,a,c=>cases a;cases c;exact .int _ _
 | 5,a,c=>cases a;cases c;exact e
 | 6,a,c=>cases a;cases c;exact .int _ _
 | 7,a,c=>cases a;cases c;exact .int _ _
 | 8,a,c=>cases a;cases c;exact .int _ _
 | 9,a,c=>cases a;cases c;exact .int _ _
 | 10,a,c=>cases a;cases c;exact g
 | 11,a,c=>cases a;cases c;exact f
 | 12,a,c=>cases a;cases c;exact j
def uD.Tu(h:uD V w b l s d){hB:Base TA V w e0}:VR (Bj hB (mA b l s d)) (aF sh (sX w s)) (aF sh s):=by
 have e:VR (Bj hB (mA b l s d)) (.slice (sX w s).A s.n s.c) (.slice s.A s.n s.c):=yV h.D rfl;refine .agg rfl λi x y a c=>?_
 match i,a,c with
 | 0,a,c=>cases a;cases c;exact .int _ _
 | 1,a,c=>cases a;cases c;exact e
end
section
variable{b:Kf}{n d:Nat}{l:bN}
def cr.Vf{R:M->H->Prop}(hC:cr V O w)(hin:uD V w bk l s ds)(c:ops[i]?=Y o)(hop:o.op=.call {callee:=.value (.func fn),args:=xs,argTypes:=ts})(ha:xs.map (fa n f).eval=eQ)(z:o.dst=Y d)(y:d<n)(r:Region.wanted o (aw ops (fa n f).tmps)=true)(hk:b.kind≠.early)
  (hcf:∀w,(callFunc fn eQ).run F w=.ok (.enter fn eQ) w/\(callFunc fn eQ).events F w #[]= #[])(q:TA.has fn=true)(B:TA.ret fn=.val)(m:∀e0 (hB:Base TA V w e0),KR (TA.kind fn) (Bj hB (mA bk l s ds)) args eQ)
  (hc:∀e0 (_:Base TA V w e0) u,PH F fn args (tp (wK TA V e0 w (mA bk l s ds)) u w.drawn) λe W=>∃v,e=.returned v/\R v W)
  (next:∀e0 (hB:Base TA V w e0) Z v W v' bj bm bo,R v W->VR Z v v'->ir TA F (w.heap.size+(mA bk l s ds).length) V O w (Bj hB (mA bk l s ds)) Z W bj bm bo->cr bm bo bj->dU V O w bm bo bj->WalkE F main Stop bm bo (G (b.at (fa n (ah f d v')) (.inRegion ops rest::k)) cs) bj):WalkE F main Stop V O (G (b.at (fa n f) (.inRegion ops (i::rest)::k)) cs) w:=xar
def cr.qL(j:cr V O w)(B:uD V w bk l s ds)(C:ops[i]?=Y o)(E:o.op=.call {callee:=.value (.func fn),args:=xs,argTypes:=ts})(q:xs.map (fa n f).eval=eQ)(y:o.dst=Y d)(x:d<n)(N:Region.wanted o (aw ops (fa n f).tmps)=true)(hk:b.kind≠.early)
  (t:∀w,(callFunc fn eQ).run F w=.ok (.enter fn eQ) w/\(callFunc fn eQ).events F w #[]= #[])(z:TA.has fn=true)(J:TA.ret fn=.val)(r:∀e0 (hB:Base TA V w e0),KR (TA.kind fn) (Bj hB (mA bk l s ds)) args eQ)
  (K:eR v)(hc:∀e0 (_:Base TA V w e0) g,PH F fn args (tp (wK TA V e0 w (mA bk l s ds)) g w.drawn) λe _=>e=.returned v)
  (next:∀bj a c,cr a c bj->dU V O w a c bj->WalkE F main Stop a c (G (b.at (fa n (ah f d v)) (.inRegion ops rest::k)) cs) bj):WalkE F main Stop V O (G (b.at (fa n f) (.inRegion ops (i::rest)::k)) cs) w:=
 j.Vf B (R:=λu _=>u=v) C E q y x N hk t z J r (λe0 hB g=>(hc e0 hB g).mono λe W h=>⟨v,h,rfl⟩) λe0 hB Z u W v' bj a c p L P m A=>by
  subst p;rw[K Z v' L];exact next bj a c m A
def cr.EP{L:List Int}{r:Int}(p:cr V O w)(N:uD V w bk l s ds)(P:ops[i]?=Y o)(Q:o.op=.call {callee:=.value (.func fn),args:=xs,argTypes:=ts})(x:xs.map (fa n f).eval=eQ)(E:o.dst=Y d)(C:d<n)(a1:Region.wanted o (aw ops (fa n f).tmps)=true)(hk:b.kind≠.early)
  (B:∀w,(callFunc fn eQ).run F w=.ok (.enter fn eQ) w/\(callFunc fn eQ).events F w #[]= #[])(J:TA.has fn=true)(T:TA.ret fn=.val)(z:∀e0 (hB:Base TA V w e0),KR (TA.kind fn) (Bj hB (mA bk l s ds)) args eQ)
  (hc:∀e0 (_:Base TA V w e0) j,PH F fn args (tp (wK TA V e0 w (mA bk l s ds)) j w.drawn) (ji (tp (wK TA V e0 w (mA bk l s ds)) j w.drawn).heap.size L r (tp (wK TA V e0 w (mA bk l s ds)) j w.drawn)))
  (next:∀y bj a g,cr a g bj->dU V O w a g bj->dK a bj y L->WalkE F main Stop a g (G (b.at (fa n (ah f d (.tuple #[y,.int .i64 r]))) (.inRegion ops rest::k)) cs) bj):WalkE F main Stop V O (G (b.at (fa n f) (.inRegion ops (i::rest)::k)) cs) w:=
 p.Vf N (R:=λu W=>∃y,u=.tuple #[y,.int .i64 r]/\W.ownsRow (w.heap.size+(mA bk l s ds).length) 3 1 y L.length (L.map (M.int .i64))) P Q x E C a1 hk B J T z (λe0 hB j=>(hc e0 hB j).mono λe W h=>by
   obtain⟨A,c,m,h2,-⟩:=h;rw[qK]at h2;exact⟨_,m,_,rfl,h2⟩) λe0 hB Z u W v' bj a g v U t q K=>by
  obtain⟨y,rfl,S⟩:=v;obtain⟨y',r',rfl,m,h2⟩:=Xl U;obtain rfl:=aG _ _ Z _ h2;exact next y' bj a g q K (t.row S (dj _) m (rG L)).1.PN
def P3{κ:Nat->Kd}{Z:Ren}{a b a' b':M}(e:dM Z (κ 0) a a')(f:dM Z (κ 1) b b'):KR κ Z #[a,b] #[a',b']:=⟨rfl,λi x y c d=>by
 match i,c,d with
 | 0,c,d=>cases c;cases d;exact e
 | 1,c,d=>cases c;cases d;exact f⟩
def vg(d:dM Z (κ 0) a a'):KR κ Z #[a] #[a']:=⟨rfl,λi x y b c=>by
 match i,b,c with
 | 0,b,c=>cases b;cases c;exact d⟩
def ES{a b c a' b' c':M}(f:dM Z (κ 0) a a')(g:dM Z (κ 1) b b')(h2:dM Z (κ 2) c c'):KR κ Z #[a,b,c] #[a',b',c']:=⟨rfl,λi x y d e=>by
 match i,d,e with
 | 0,d,e=>cases d;cases e;exact f
 | 1,d,e=>cases d;cases e;exact g
 | 2,d,e=>cases d;cases e;exact h2⟩
end
variable{g d d0 d1:Nat}{x:ae}{b:aC}{bm bo:Nat->Prop}{o0 o1:Kp}
section
variable{b:Kf}
def Ce{j g:Nat}{t:Bool}(b:o.guard=Y (j,t))(c:(ops[j]?).bind (·.dst)=Y g)(d:g<n)(a:f g=.bool (!t)):Region.wanted o (aw ops (fa n f).tmps)=false:=jc b c d a
def WalkE.pN(e:ops[i]?=Y o)(c:o.dst=Y d)(a:d<n)(g:Region.wanted o (aw ops (fa n f).tmps)=false)
  (next:WalkE F main Stop V O (G (b.at (fa n (ah f d D)) (.inRegion ops rest::k)) cs) w):WalkE F main Stop V O (G (b.at (fa n f) (.inRegion ops (i::rest)::k)) cs) w:=
 WalkE.ctl (λ_=>stepG_unwanted e g) (by rw[c,cw a];exact next)
def WalkE.Yk{t:Lk}(ad:Addr)(v:M)(h1:OneCell F t)(r:ops[i]?=Y o)(s:o.op=.load t x)(u:(fa n f).eval x=.pointer (Y ad))(l:V ad.block)(hc:w.cell? ad=Y v)(q:o.dst=Y d)(m:d<n)(hw:Region.wanted o (aw ops (fa n f).tmps)=true)(hk:b.kind≠.early)
  (next:WalkE F main Stop V O (G (b.at (fa n (ah f d v)) (.inRegion ops rest::k)) cs) w):WalkE F main Stop V O (G (b.at (fa n f) (.inRegion ops (i::rest)::k)) cs) w:=by
 have å:=0;exact tx
theorem WalkE.Cf(a:V g)(l:w (g,0)=Y (.int .i64 sh))(m:w (g,1)=Y (.slice s.A s.n s.c))(v:ops[i]?=Y o)(p:o.op=.load 33 x)(q:(fa n f).eval x=.pointer (Y (g,0)))(u:o.dst=Y d)(t:d<n)(y:Region.wanted o (aw ops (fa n f).tmps)=true)(hk:b.kind≠.early)
  (next:WalkE F main Stop V O (G (b.at (fa n (ah f d (aF sh s))) (.inRegion ops rest::k)) cs) w):WalkE F main Stop V O (G (b.at (fa n f) (.inRegion ops (i::rest)::k)) cs) w:=by
 refine WalkE.value (aF sh s) v y hk (λbj c=>qM p q (bu c a l) (bu c a m) ⟨rfl⟩) (λbj c e j=>?_) (by rw[u,cw t];exact next);have c0:=bu c a l;have r:=bu c a m;unfold Hn at j;simp only[p,q]at j;simp[go_sem,c0,r]at j;rcases j with rfl|rfl<;>exact⟨rfl,a,λh=>by cases h⟩
theorem Fg{Z:ae->M}(a:o.op=.fieldAddr 33 x 1)(b:Z x=.pointer (Y (g,0))):(Hn Z o).run F w=.ok (.value (.pointer (Y (g,1)))) w/\(Hn Z o).events F w #[]= #[]:=xaU
theorem Rl{bk:aC}(b:o.op=.box 31 x)(a:(fa n f).eval x=bk.v):(Hn (fa n f).eval o).events F w #[]= #[]:=by
 unfold aC.v at a;unfold Hn;simp only[b,a];simp[go_sem]
theorem Rm(b:o.op=.box 33 x)(a:(fa n f).eval x=aF sh s):(Hn (fa n f).eval o).events F w #[]= #[]:=by
 unfold aF at a;unfold Hn;simp only[b,a];simp[go_sem]
end
theorem aaJ:OneCell F 24:=λw ad v h=>⟨by go_simp,by simp[go_sem,h]⟩
def Nk(V:Nat->Prop)(w:H)(s:Sl):Prop:=cM TA V w s 0
structure Um(V:Nat->Prop)(w:H)(b:aC):Prop where
 C:Nk V w b.C
 U:Nk V w b.U
 E:Nk V w b.E
 W:Nk V w b.W
section
variable{b:aC}
def Um.mono(h:Um V w b)(a:∀x,V x->V' x)(hk:∀x,V x->bj.heap[x]?=w.heap[x]?):Um V' bj b:=⟨cM.mono h.C a hk,cM.mono h.U a hk,cM.mono h.E a hk,cM.mono h.W a hk⟩
theorem Um.vr(h:Um V w b){hB:Base TA V w e0}:VR (gr hB) b.v b.v:=by
 have c:VR (gr hB) (.slice b.C.A b.C.n b.C.c) (.slice b.C.A b.C.n b.C.c):=jg (cM.flat h.C);have f:VR (gr hB) (.slice b.U.A b.U.n b.U.c) (.slice b.U.A b.U.n b.U.c):=jg (cM.flat h.U);have d:VR (gr hB) (.slice b.E.A b.E.n b.E.c) (.slice b.E.A b.E.n b.E.c):=jg (cM.flat h.E);have g:VR (gr hB) (.slice b.W.A b.W.n b.W.c) (.slice b.W.A b.W.n b.W.c):=jg (cM.flat h.W);refine .agg rfl λi x y a j=>?_;have e:Y x=Y y:=a.symm.tn j;cases e
 match i,a with
 | 0,a=>cases a;exact .int _ _
 | 1,a=>cases a;exact .int _ _
 | 2,a=>cases a;exact .int _ _
 | 3,a=>cases a;exact .int _ _
 | 4,a=>cases a;exact .int _ _
 | 5,a=>cases a;exact c
 | 6,a=>cases a;exact .int _ _
 | 7,a=>cases a;exact .int _ _
 | 8,a=>cases a;exact .int _ _
 | 9,a=>cases a;exact .int _ _
 | 10,a=>cases a;exact f
 | 11,a=>cases a;exact d
 | 12,a=>cases a;exact g
end
structure J9(V O:Nat->Prop)(w:H)(g g2:Nat)(b:aC)(sh:Int)(s:Sl):Prop where
 co:cr V O w
 gV:V g
 box:∀i v,(wE b)[i]?=Y v->w.cell? ⟨g,i,I⟩=Y v
 g2V:V g2
 y0:w.cell? ⟨g2,0,I⟩=Y (.int .i64 sh)
 y1:w.cell? ⟨g2,1,I⟩=Y (.slice s.A s.n s.c)
def J9.bH{V O bm bo:Nat->Prop}{w bj:H}{g g2:Nat}(h:J9 V O w g g2 b sh s)(a:dU V O w bm bo bj):J9 bm bo bj g g2 b sh s:=
 ⟨h.co.bH a,a.vv _ h.gV,λi v c=>aV (a.rely.keep _ h.gV) (h.box i v c),a.vv _ h.g2V,aV (a.rely.keep _ h.g2V) h.y0,aV (a.rely.keep _ h.g2V) h.y1⟩
def Uo(h:aK w g 31 b):∀i v,(wE b)[i]?=Y v->w.cell? ⟨g,i,I⟩=Y v:=λi v a=>by
 unfold H.cell?;dsimp only;rw[show w.heap[g]?=_ from h];exact a
section
variable{b:Kf}
theorem cr.boxes(o:cr V O w)(m:f 0=bk.v)(x:f 1=aF sh s)(E:ops[0]?=Y o0)(J:ops[1]?=Y o1)(r:o0.op=.box 31 (.tmp 0))(t:o1.op=.box 33 (.tmp 1))(y:o0.dst=Y d0)(z:o1.dst=Y d1)(K:d0<n)(L:d1<n)(B:o0.guard=I)(C:o1.guard=I)(N:d0≠d1)(h2:1<d0)(R:1<d1)(hk:b.kind≠.early)
  (next:∀f' bj bm bo g l,J9 bm bo bj g l bk sh s->dU V O w bm bo bj->f' d0=.pointer (Y ⟨g,0,I⟩)->f' d1=.pointer (Y ⟨l,0,I⟩)->(∀i,i≠d0->i≠d1->f' i=f i)->WalkE F main Stop bm bo (G (b.at (fa n f') (.inRegion ops rest::k)) cs) bj):WalkE F main Stop V O (G (b.at (fa n f) (.inRegion ops (0::1::rest)::k)) cs) w:=by
 refine WalkE.make (aE bk 31) (λg=>.pointer (Y ⟨g,0,I⟩)) E (bY B) hk (λbj _=>B8 r (ag zz m)) (λbj _ e h=>by rw[Rl r (ag zz m)]at h;simp at h) λbj P=>?_;rw[y,cw K];have A:=((dU.refl (O:=O) o.cX).step P).make (aE bk 31);have Q:aK (bj.alloc (aE bk 31)) bj.heap.size 31 bk:=Sp _ _;have e1:=(cu f (d:=d0) (.pointer (Y ⟨bj.heap.size,0,I⟩)) (i:=1) zz).tn x;refine WalkE.make (.cells #[.int .i64 sh,.slice s.A s.n s.c] 33) (λg=>.pointer (Y ⟨g,0,I⟩)) J (bY C) hk (λj _=>JF t (ag zz e1)) (λj _ e h=>by rw[Rm t (ag zz e1)]at h;simp at h) λj u=>?_;rw[z,cw L];have p:=(A.step u).make (.cells #[.int .i64 sh,.slice s.A s.n s.c] 33);have v:aK j bj.heap.size 31 bk:=(u.keep _ (.inr rfl)).tn Q;have q:=Sp j (.cells #[.int .i64 sh,.slice s.A s.n s.c] 33);refine next _ _ _ _ bj.heap.size j.heap.size ⟨o.bH p,.inl (.inr rfl),Uo ((QR _ _ v.lt).tn v),.inr rfl,?_,?_⟩ p ((cu _ _ N).tn (au _ _ _)) (au _ _ _) λi a c=>(cu _ _ c).tn (cu _ _ a)
 .rw[H.cell?,q];rfl
 .rw[H.cell?,q];rfl
end
variable{r ka kb g2:Nat}{K:List Item}{l:bN}{h:Int}
def pL:Ly:=match Tryz.f3.body with|some c=>c|_=>.skip
def abS:Array Kp:=br [0] pL
def abT:Array Kp:=br [1,0,0] pL
def Up:Array Kp:=br [1,0,1,4,0] pL
def aaK:Array Kp:=br [1,1,0] pL
def aaL:Array Kp:=br [1,1,1,0] pL
def aaM:Array Kp:=br [1,1,1,1,0] pL
def aaN:Array Kp:=br [1,1,1,1,1,0] pL
def eC:Array Kp:=br [1,1,1,1,1,1,0] pL
def Tp(u:(r=3/\ops=aaK/\ka=7/\kb=8)\/(r=4/\ops=aaL/\ka=9/\kb=10))(c:J9 V O w g g2 b sh s)(a:uD V w b l s ds)(x:f 2=h)(o:f 3=(g,0))(p:f 4=(g2,0))
  (next:∀f' bj e j,dU V O w e j bj->(∀i,i<15->i≠ka->i≠kb->f' i=f i)->∀y,dK e bj y (cT b l sh ds h).1->f' ka=y->f' kb=.int .i64 (cT b l sh ds h).2->WalkE F main Stop e j (G ((bs .normal 3).at (fa 78 f') K) cs) bj):
  WalkE F main Stop V O (G ((bs .normal 3).at (fa 78 f) (.code (.region r ops false)::K)) cs) w:=by
 rcases u with⟨rfl,rfl,rfl,rfl⟩|⟨rfl,rfl,rfl,rfl⟩
 all_goals
  have hk:(bs .normal 3).kind≠.early:=by simp[bs]
  refine WalkE.reg (l:=[0,1,2,3,4,5,6,7,8]) rfl ?_;refine WalkE.dV c.box c.gV rfl rfl (ft o) rfl zz rfl hk ?_;refine WalkE.Cf c.g2V c.y0 c.y1 rfl rfl (ft p) rfl zz wnn hk ?_;refine wss ?_
  (first|refine cr.EP (fn:=6) (args:= #[(bX w.heap.size b).v,aF sh (sX w.heap.size s),.int .i64 h]) (eQ:= #[b.v,aF sh s,.int .i64 h]) (L:=(cT b l sh ds h).1) (r:=(cT b l sh ds h).2) c.co a rfl rfl (Is (ft rfl) (ft rfl) (ft rfl)) rfl zz wnn hk (λ_=>⟨rfl,rfl⟩) rfl rfl (λe0 hB=>ES (by exact a.RH) (by exact a.Tu) (by exact .int _ _)) (λe0 hB d=>oH (bX w.heap.size b) l sh (sX w.heap.size s) ds h _ (a.lone (e0:=e0) d w.drawn).1 (mh c.co.checks hB d w.drawn) (a.lone (e0:=e0) d w.drawn).2) λy v n m t k r=>?_|refine cr.EP (fn:=7) (args:= #[(bX w.heap.size b).v,aF sh (sX w.heap.size s),.int .i64 h]) (eQ:= #[b.v,aF sh s,.int .i64 h]) (L:=(cT b l sh ds h).1) (r:=(cT b l sh ds h).2) c.co a rfl rfl (Is (ft rfl) (ft rfl) (ft rfl)) rfl zz wnn hk (λ_=>⟨rfl,rfl⟩) rfl rfl (λe0 hB=>ES (by exact a.RH) (by exact a.Tu) (by exact .int _ _)) (λe0 hB d=>by have q:=Ov (bX w.heap.size b) l sh (sX w.heap.size s) ds h _ (a.lone (e0:=e0) d w.drawn).1 (a.lone (e0:=e0) d w.drawn).2;rw[QD (bX w.heap.size b) l sh ds h a.at_.U.1]at q;exact q) λy v n m t k r=>?_)
  refine wss ?_;exact WalkE.aT (next _ _ _ _ k (λi hi n1 z=>nk) _ r rfl rfl)
def Tq(x:(r=5/\ops=aaM/\ka=11/\kb=12)\/(r=6/\ops=aaN/\ka=13/\kb=14))(c:J9 V O w g g2 b sh s)(a:uD V w b l s ds)(z:f 2=h)(p:f 3=(g,0))(t:f 4=(g2,0))
  (next:∀f' bj j k,dU V O w j k bj->(∀i,i<15->i≠ka->i≠kb->f' i=f i)->f' ka=.bool (dI b l sh ds).1->f' kb=.int .i64 (dI b l sh ds).2->WalkE F main Stop j k (G ((bs .normal 3).at (fa 78 f') K) cs) bj):
  WalkE F main Stop V O (G ((bs .normal 3).at (fa 78 f) (.code (.region r ops false)::K)) cs) w:=by
 rcases x with⟨rfl,rfl,rfl,rfl⟩|⟨rfl,rfl,rfl,rfl⟩
 all_goals
  have hk:(bs .normal 3).kind≠.early:=by simp[bs]
  refine WalkE.reg (l:=[0,1,2,3,4,5,6,7]) rfl ?_;refine WalkE.dV c.box c.gV rfl rfl (ft p) rfl zz rfl hk ?_;refine WalkE.Cf c.g2V c.y0 c.y1 rfl rfl (ft t) rfl zz wnn hk ?_
  (first|refine cr.qL (fn:=8) (args:= #[(bX w.heap.size b).v,aF sh (sX w.heap.size s)]) (eQ:= #[b.v,aF sh s]) (v:=.tuple #[.bool (dI b l sh ds).1,.int .i64 (dI b l sh ds).2]) c.co a rfl rfl (oh (ft rfl) (ft rfl)) rfl zz wnn hk (λ_=>⟨rfl,rfl⟩) rfl rfl (λe0 hB=>P3 (by exact a.RH) (by exact a.Tu)) (zg (dQ _) (aG _ _)) (λe0 hB d=>(pE (bX w.heap.size b) l sh (sX w.heap.size s) ds _ (a.lone (e0:=e0) d w.drawn).1 (mh c.co.checks hB d w.drawn) (a.lone (e0:=e0) d w.drawn).2).mono λe W q=>q.1) λy o n u m=>?_|refine cr.qL (fn:=9) (args:= #[(bX w.heap.size b).v,aF sh (sX w.heap.size s)]) (eQ:= #[b.v,aF sh s]) (v:=.tuple #[.bool (dI b l sh ds).1,.int .i64 (dI b l sh ds).2]) c.co a rfl rfl (oh (ft rfl) (ft rfl)) rfl zz wnn hk (λ_=>⟨rfl,rfl⟩) rfl rfl (λe0 hB=>P3 (by exact a.RH) (by exact a.Tu)) (zg (dQ _) (aG _ _)) (λe0 hB d=>(Ca (bX w.heap.size b) l sh (sX w.heap.size s) ds _ (a.lone (e0:=e0) d w.drawn).1 (a.lone (e0:=e0) d w.drawn).2).mono λe W q=>by rw[QF]at q;exact q.1) λy o n u m=>?_)
  refine wss ?_;exact WalkE.aT (next _ _ _ _ m (λi hi n1 A=>nk) rfl rfl)
variable{L:List Int}{a:List Nat}{y z:M}{x:Int}{q:Bool}
def Ym:List (List Nat):=[[],[0],[],[2,1],[1,3],[4,3],[5],[5],[6,7,5,5],[5,8],[9,8],[10],[10],[11,12,10],[10,13],[14,10],[15],[15],[16,17,15],[15,18],[19,15],[20],[20],[21,22,20],[20,23],[24,20],[25,25],[25,26],[27,26,0,1,2,3,4,5,6,7,8,9,10,11,12,13,14,15,16,17,18,19,20,21,22,23,24,25,26,27]]
def ek:List Nat:=[23,24,25,26,27,28]
def Rn:List (List Nat):=[[0,1,2,3],[0,2,1,3],[2,0,1,3]].flatMap λa=>[[6,7],[7,6]].flatMap λb=>[[11,12],[12,11]].flatMap λc=>[[16,17],[17,16]].flatMap λd=>[[21,22],[22,21]].map λe=>a++([4,5]++(b++([8,9,10]++(c++([13,14,15]++(d++([18,19,20]++(e++ek))))))))
def Uq:jM .any eC=Ym:=by kernel_rfl
def Ur:MY Ym Ym.length 0=Rn:=by kernel_rfl
def MZ:iK .any eC eC.size (Array.replicate eC.size false)=Rn:=uA Uq Ur
section
variable{b:Kf}
def cr.Ro{y z:M}(q:cr V O w)(K:dK V w y L)(E:dK V w z L)(s:L.length<=1000)(A:ops[i]?=Y o)(B:o.op=.call {callee:=.value (.func 12),args:=xs,argTypes:=ts})(t:xs.map (fa n f).eval= #[y,z])(x:o.dst=Y d)(u:d<n)(C:Region.wanted o (aw ops (fa n f).tmps)=true)(hk:b.kind≠.early)
  (next:∀bj a c,cr a c bj->dU V O w a c bj->WalkE F main Stop a c (G (b.at (fa n (ah f d (.bool true))) (.inRegion ops rest::k)) cs) bj):WalkE F main Stop V O (G (b.at (fa n f) (.inRegion ops (i::rest)::k)) cs) w:=xaE
end
section
variable{b:aC}
def Yi(k:a∈[[0,1,2,3],[0,2,1,3],[2,0,1,3]])(c:J9 V O w g g2 b sh s)(m:uD V w b l s ds)(e3:f 3=(g,0))
  (next:∀f' bj t u,dU V O w t u bj->(∀i,i<15->f' i=f i)->f' 51=.int .i64 (ay b l)->f' 53=.int .i64 (ay b l)->WalkE F main Stop t u (G ((bs .normal 3).at (fa 78 f') (.inRegion eC rest::K)) cs) bj):
  WalkE F main Stop V O (G ((bs .normal 3).at (fa 78 f) (.inRegion eC (a++rest)::K)) cs) w:=xaG
def Yl(e51:f 51=x)(e53:f 53=x)
  (next:∀f',(∀i,i<15->f' i=f i)->f' 55=.bool true->WalkE F main Stop V O (G ((bs .normal 3).at (fa 78 f') (.inRegion eC rest::K)) cs) w):
  WalkE F main Stop V O (G ((bs .normal 3).at (fa 78 f) (.inRegion eC (4::5::rest)::K)) cs) w:=by
 have ø:=0;exact xbh
def ZJ(k:a∈[[6,7],[7,6]])(e7:f 7=y)(e9:f 9=z)(e55:f 55=true)
  (next:∀f',(∀i,i<15->f' i=f i)->f' 55=.bool true->f' 56=y->f' 57=z->WalkE F main Stop V O (G ((bs .normal 3).at (fa 78 f') (.inRegion eC rest::K)) cs) w):
  WalkE F main Stop V O (G ((bs .normal 3).at (fa 78 f) (.inRegion eC (a++rest)::K)) cs) w:=by
 have æ:=0;exact xaG
theorem ZK(n:L.length<=1000)(e:cr V O w)(o:dK V w y L)(p:dK V w z L)(h:f 55=true)(k:f 56=y)(l:f 57=z)
  (next:∀f' bj b c,cr b c bj->dU V O w b c bj->(∀i,i<15->f' i=f i)->f' 60=.bool true->WalkE F main Stop b c (G ((bs .normal 3).at (fa 78 f') (.inRegion eC rest::K)) cs) bj):
  WalkE F main Stop V O (G ((bs .normal 3).at (fa 78 f) (.inRegion eC (8::9::10::rest)::K)) cs) w:=by
 have hk:(bs .normal 3).kind≠.early:=by simp[bs]
 refine cr.Ro (d:=58) e o p n rfl rfl (oh (ft k) (ft l)) rfl zz (az (j:=5) (g:=55) rfl rfl zz h) hk λs r q e m=>?_;refine WalkE.cj (d:=59) (a:=true) (.bool true) rfl rfl (ft h) ((dE rfl).tn (ft rfl)) rfl zz wnn hk ?_;refine WalkE.av (d:=60) (.bool true) rfl (.inl rfl) (ft rfl) rfl zz wnn hk ?_;exact next _ _ _ _ e m (λi hi=>nk) rfl
def ZL(k:a∈[[11,12],[12,11]])(e8:f 8=x)(e10:f 10=x)(e60:f 60=true)
  (next:∀f',(∀i,i<15->f' i=f i)->f' 60=.bool true->f' 61=.int .i64 x->f' 62=.int .i64 x->WalkE F main Stop V O (G ((bs .normal 3).at (fa 78 f') (.inRegion eC rest::K)) cs) w):
  WalkE F main Stop V O (G ((bs .normal 3).at (fa 78 f) (.inRegion eC (a++rest)::K)) cs) w:=by
 have ë:=0;exact xaG
def ZM(e61:f 61=x)(e62:f 62=x)(e60:f 60=true)
  (next:∀f',(∀i,i<15->f' i=f i)->f' 65=.bool true->WalkE F main Stop V O (G ((bs .normal 3).at (fa 78 f') (.inRegion eC rest::K)) cs) w):
  WalkE F main Stop V O (G ((bs .normal 3).at (fa 78 f) (.inRegion eC (13::14::15::rest)::K)) cs) w:=xbh
def ZN(k:a∈[[16,17],[17,16]])(e11:f 11=q)(e13:f 13=q)(e65:f 65=true)
  (next:∀f',(∀i,i<15->f' i=f i)->f' 65=.bool true->f' 66=.bool q->f' 67=.bool q->WalkE F main Stop V O (G ((bs .normal 3).at (fa 78 f') (.inRegion eC rest::K)) cs) w):
  WalkE F main Stop V O (G ((bs .normal 3).at (fa 78 f) (.inRegion eC (a++rest)::K)) cs) w:=by
 have ø:=0;exact xaG
def Z3(e66:f 66=q)(e67:f 67=q)(e65:f 65=true)
  (next:∀f',(∀i,i<15->f' i=f i)->f' 70=.bool true->WalkE F main Stop V O (G ((bs .normal 3).at (fa 78 f') (.inRegion eC rest::K)) cs) w):
  WalkE F main Stop V O (G ((bs .normal 3).at (fa 78 f) (.inRegion eC (18::19::20::rest)::K)) cs) w:=by
 have å:=0;exact xbh
def Z4(k:a∈[[21,22],[22,21]])(e12:f 12=x)(e14:f 14=x)(e70:f 70=true)
  (next:∀f',(∀i,i<15->f' i=f i)->f' 70=.bool true->f' 71=.int .i64 x->f' 72=.int .i64 x->WalkE F main Stop V O (G ((bs .normal 3).at (fa 78 f') (.inRegion eC rest::K)) cs) w):
  WalkE F main Stop V O (G ((bs .normal 3).at (fa 78 f) (.inRegion eC (a++rest)::K)) cs) w:=by
 have å:=0;exact xaG
def Z5(e71:f 71=x)(e72:f 72=x)(e70:f 70=true)
  (next:∀f',(∀i,i<15->f' i=f i)->f' 75=.bool true->WalkE F main Stop V O (G ((bs .normal 3).at (fa 78 f') (.inRegion eC rest::K)) cs) w):
  WalkE F main Stop V O (G ((bs .normal 3).at (fa 78 f) (.inRegion eC (23::24::25::rest)::K)) cs) w:=by
 have æ:=0;exact xbh
end
def qT(b:aC)(sh:Int)(s:Sl)(h:Int):Array M:= #[b.v,aF sh s,.int .i64 h]
def Xv(b:aC)(sh:Int)(s:Sl)(h:Int):Nat->M:=λi=>(qT b sh s h).getD i D
def Yn(b:aC)(sh:Int)(s:Sl)(h:Int):Kf.enter F 3 (qT b sh s h) .normal=(bs .normal 3).at (fa 78 (Xv b sh s h)) [.code pL]:=by
 rw[enter_at (c:=pL) (qT b sh s h) Tryz.func3 rfl];have:qT b sh s h++Array.replicate (Tryz.f3.ntmps-(qT b sh s h).size) D=(Array.range 78).map (Xv b sh s h):=iu (A:=qT b sh s h) (k:=75) (n:=78) rfl;rw[this];rfl
def M0:Ly:=dk [1,1] pL
def Yo:Ly:=dk [1] M0
def Yp:Ly:=dk [1] Yo
def Yq:Ly:=dk [1] Yp
def Yr:Ly:=dk [1] Yq
def Us:pL=.seq (.region 0 abS false) (.seq (.seq (.region 1 abT false) (.cond (.tmp 22) (.seq (.region 2 Up false) (.ret)) (.skip))) M0):=rfl
def Ut:M0=.seq (.region 3 aaK false) Yo:=rfl
def Uu:Yo=.seq (.region 4 aaL false) Yp:=rfl
def Uv:Yp=.seq (.region 5 aaM false) Yq:=rfl
def Uw:Yq=.seq (.region 6 aaN false) Yr:=rfl
def Ux:Yr=.seq (.region 7 eC true) .ret:=rfl
theorem Z6(m:J9 V O w g g2 b sh s)(C:uD V w b l s ds)(a9:(cT b l sh ds h).1.length<=1000)(S:f 3=(g,0)){y z:M}(o:dK V w y (cT b l sh ds h).1)(p:dK V w z (cT b l sh ds h).1)(e7:f 7=y)(e9:f 9=z){x8 x12:Int}{q:Bool}(e8:f 8=x8)(L:f 10=x8)(N:f 11=q)(Q:f 13=q)(P:f 12=x12)(R:f 14=x12)
  (next:∀f' bj t u,cr t u bj->dU V O w t u bj->f' 75=.bool true->WalkE F main Stop t u (G (Kf.enter F 5 #[] .normal) ((bs .normal 3).at (fa 78 f') (.inRegion eC [26,27,28]::[.code .ret])::cs)) bj):
  WalkE F main Stop V O (G ((bs .normal 3).at (fa 78 f) [.code Yr]) cs) w:=by
 have hk:(bs .normal 3).kind≠.early:=by simp[bs]
 rw[Ux];refine WalkE.seq (WalkE.draw MZ λl' k bj b3=>?_);have n:=m.co.refl.step b3;have m:=m.bH n;have C:=C.bH n;have o:=o.bH n;have p:=p.bH n;obtain⟨a,a',k⟩:=List.mem_flatMap.1 k;obtain⟨J,a0,k⟩:=List.mem_flatMap.1 k;obtain⟨c,hc,k⟩:=List.mem_flatMap.1 k;obtain⟨d,b1,k⟩:=List.mem_flatMap.1 k;obtain⟨e,b2,rfl⟩:=List.mem_map.1 k;refine Yi a' m C S λf1 w1 V1 O1 r k1 T U=>?_;have m:=m.bH r;have o:=o.bH r;have p:=p.bH r;have a7:=n.tn r;refine Yl (rest:=J++([8,9,10]++(c++([13,14,15]++(d++([18,19,20]++(e++ek))))))) T U λf2 k2 v=>?_;have K:∀i,i<15->f2 i=f i:=λi hi=>(k2 i hi).tn (k1 i hi);refine ZJ a0 ((K 7 zz).tn e7) ((K 9 zz).tn e9) v λf3 k3 v W Z=>?_;refine ZK (rest:=c++([13,14,15]++(d++([18,19,20]++(e++ek))))) a9 m.co o p v W Z λf4 w4 V4 O4 a8 g4 k4 x=>?_;have K:∀i,i<15->f4 i=f i:=λi hi=>(k4 i hi).tn ((k3 i hi).tn (K i hi));refine ZL hc ((K 8 zz).tn e8) ((K 10 zz).tn L) x λf5 k5 x a1 a2=>?_;refine ZM (rest:=d++([18,19,20]++(e++ek))) a1 a2 x λf6 k6 A=>?_;have K:∀i,i<15->f6 i=f i:=λi hi=>(k6 i hi).tn ((k5 i hi).tn (K i hi));refine ZN b1 ((K 11 zz).tn N) ((K 13 zz).tn Q) A λf7 k7 A a3 a4=>?_;refine Z3 (rest:=e++ek) a3 a4 A λf8 k8 B=>?_;have K:∀i,i<15->f8 i=f i:=λi hi=>(k8 i hi).tn ((k7 i hi).tn (K i hi));refine Z4 b2 ((K 12 zz).tn P) ((K 14 zz).tn R) B λf9 k9 B a5 a6=>?_;refine Z5 (rest:=[26,27,28]) a5 a6 B λb4 b5 E=>?_;refine WalkE.enter (f:=5) (args:= #[]) rfl (az (j:=25) (g:=75) rfl rfl zz E) hk (λbj=>(kJ (fn:=5) (args:= #[]) rfl ss rfl λ_=>⟨rfl,rfl⟩).1) (λbj=>(kJ (fn:=5) (args:= #[]) rfl ss rfl λ_=>⟨rfl,rfl⟩).2) ?_;exact next _ _ _ _ a8 (a7.tn g4) E
theorem Uy(P:cr V O w)(B:Um V w b)
  (N:∀f' bj n o,cr n o bj->dU V O w n o bj->WalkE F main Stop n o (G (Kf.enter F 5 #[] .normal) ((bs .normal 3).at (fa 78 f') (.inRegion Up [0,1]::[.code .ret,.code M0])::cs)) bj)
  (S:mX b=false->s.n<=20->∀f' bj n o g g2,J9 n o bj g g2 b sh s->dU V O w n o bj->f' 2=.int .i64 h->f' 3=.pointer (Y (g,0))->f' 4=.pointer (Y (g2,0))->WalkE F main Stop n o (G ((bs .normal 3).at (fa 78 f') [.code M0]) cs) bj):
  WalkE F main Stop V O (G (Kf.enter F 3 (qT b sh s h) .normal) cs) w:=by
 have hk:(bs .normal 3).kind≠.early:=by simp[bs]
 rw[Yn,Us];refine WalkE.seq (WalkE.reg (l:=[0,1,2]) rfl ?_);refine cr.boxes (d0:=3) (d1:=4) (bk:=b) (sh:=sh) (s:=s) P rfl rfl rfl rfl rfl rfl rfl rfl zz zz rfl rfl zz zz zz hk λy w1 Z T g g2 k A r u R=>?_;have z:y 2=.int .i64 h:=R 2 zz zz;have B:=B.mono A.vv A.rely.keep;refine WalkE.av (d:=6) (.bool false) rfl (.inr rfl) rfl rfl zz wnn hk (WalkE.aT ?_);have z:=(cu y (d:=6) (.bool false) (i:=2) zz).tn z;have r:=(cu y (d:=6) (.bool false) (i:=3) zz).tn r;have u:=(cu y (d:=6) (.bool false) (i:=4) zz).tn u;generalize ah y 6 (.bool false)=L at z r u|-;refine WalkE.seq (WalkE.seq (WalkE.reg (l:=[0,1,2,3,4,5,6,7]) rfl ?_));refine WalkE.dV (d:=15) k.box k.gV rfl rfl (ft r) rfl zz rfl hk ?_;refine cr.jZ (d:=16) (fn:=4) (args:= #[b.v]) (v:=.bool (mX b)) k.co rfl rfl (mY (ft rfl)) rfl zz wnn hk (λ_=>⟨rfl,rfl⟩) rfl rfl (λe0 hB=>jy (by exact B.vr)) (dQ _) (λe0 τ=>(ME b _).mono λe W q=>q.1) λw2 V2 U a1 E=>?_;have k:=k.bH E;have J:=A.tn E;refine WalkE.av (d:=17) (.bool (mX b)) rfl (.inl rfl) (ft rfl) rfl zz wnn hk ?_;cases Q:mX b
 .have C:(fa 78 (ah (ah (ah L 15 b.v) 16 (.bool false)) 17 (.bool false))).eval (.tmp 4)=.pointer (Y (g2,0)):=ft u;refine WalkE.pv (d:=18) (.pointer (Y ⟨g2,1,I⟩)) rfl rfl zz (az (j:=2) (g:=17) rfl rfl zz rfl) hk (λbj=>(Fg (x:=.tmp 4) rfl C).1) (λbj=>(Fg (x:=.tmp 4) rfl C).2) ?_;refine WalkE.Yk (d:=19) ⟨g2,1,I⟩ (.slice s.A s.n s.c) aaJ rfl rfl (ft rfl) k.g2V k.y1 rfl zz (az (j:=2) (g:=17) rfl rfl zz rfl) hk ?_;refine WalkE.Xb (d:=20) (m:=s.n) rfl rfl (ft rfl) rfl rfl zz (az (j:=2) (g:=17) rfl rfl zz rfl) hk ?_;refine WalkE.Xa (d:=21) (a:=s.n) (c:=20) (decide ((20:Int)<s.n)) rfl rfl (ft rfl) rfl rfl rfl zz (az (j:=2) (g:=17) rfl rfl zz rfl) hk ?_;refine WalkE.cj (d:=22) (a:=false) (.bool (decide ((20:Int)<s.n))) rfl rfl (ft rfl) ((cd Bool.false_ne_true).tn (ft rfl)) rfl zz wnn hk ?_;refine WalkE.aT ?_;refine WalkE.cond (t:=decide ((20:Int)<s.n)) (ft rfl) ?_;by_cases K:(20:Int)<s.n
  .have ø:=0;exact ti
  .rw[decide_eq_false K,cd Bool.false_ne_true];refine WalkE.skip (S Q zz _ _ _ _ g g2 k J ?_ ?_ ?_)
   .exact z
   .exact r
   .exact u
 .exact ti
def ab5(g:QP):Prop:=∃f k,g=G { (bs .normal 3).at (fa 78 f) k with mode:=.returning} []/\f 6=true
def M1{f:Nat->M}{k:List Item}(h:f 6=true)(w:H):Lq F true (G { (bs .normal 3).at (fa 78 f) k with mode:=.returning} []) w=.ended (.done (.bool true)) w #[]:=by
 have e:(fa 78 f).tmps[6]?=Y (.bool true):=by rw[ej zz,h]
 have b:(results Tryz.f3 (fa 78 f).tmps).run F w=.ok (.bool true) w:=by
  exact xbx
 have h2:(results Tryz.f3 (fa 78 f).tmps).events F w #[]= #[]:=by
  exact xbx
 have d:F.funcs[3]?=Y Tryz.f3:=Tryz.func3;have c:(fa 78 f).defers=[]:=rfl;generalize fa 78 f=a at b h2 c|-;simp[c,G,Lq,unwind,doReturn,Kf.at,bs,d,b,h2,seen,GStep.after];done
def Ends(c0:Kf):Prop:=∀(a c:Nat->Prop) (b:H),WalkE F true (λd _ g2 e=>ab5 g2/\(∀x,a x->d x)/\aH a b e) a c (G (c0.finish (.bool true)) []) b
def Iv(f:Nat->M):Ends ((bs .normal 3).at (fa 78 f) (.inRegion Up [0,1]::[.code .ret,.code M0])):=λc b e=>by
 have hk:(bs .normal 3).kind≠.early:=by simp[bs]
 rw[Kf.finish_at,show(Up[0]?).bind (·.dst)=Y 23 from rfl,cw zz];refine WalkE.av (d:=6) (.bool true) rfl (.inr rfl) (ft rfl) rfl zz wnn hk (WalkE.aT (WalkE.ret (WalkE.stop λg a=>⟨⟨_,_,rfl,rfl⟩,λ_=>id,a⟩)))
theorem Iw(f:Nat->M)(h:f 75=true):Ends ((bs .normal 3).at (fa 78 f) (.inRegion eC [26,27,28]::[.code .ret])):=λe c g=>by
 have hk:(bs .normal 3).kind≠.early:=by simp[bs]
 rw[Kf.finish_at,show(eC[26]?).bind (·.dst)=Y 76 from rfl,cw zz];refine WalkE.cj (d:=77) (a:=true) (.bool true) rfl rfl (ft h) ((dE rfl).tn (ft rfl)) rfl zz wnn hk ?_;refine WalkE.av (d:=6) (.bool true) rfl (.inr rfl) (ft rfl) rfl zz wnn hk (WalkE.aT (WalkE.ret (WalkE.stop λi b=>⟨⟨_,_,rfl,rfl⟩,λ_=>id,b⟩)))
def M3(b:aC)(l:bN)(sh:Int)(ds:List Int)(h:Int):(cT b l sh ds h).1.length<=1000:=by
 unfold cT;split
 .simp
 .split
  .simp
  .split
   .simp
   .exact ec (kO _ _) zz
theorem Rq{post:M->H->Prop}{J:Gh}{w:H}{b:aC}{sh h:Int}{s:Sl}(a1:Main J w)(b6:Um (J.V 0) w b)
  (a:mX b=false->s.n<=20->∃l ds,uD (J.V 0) w b l s ds)
  (b5:∀w',aH (J.V 0) w w'->post (.bool true) w'):aQ fI F post (G (Kf.enter F 3 (qT b sh s h) .normal) []) J w:=by
 refine aQ.walk (Stop:=λV' O' g' w'=>∃c0,g'=G (Kf.enter F 5 #[] .normal) [c0]/\cr V' O' w'/\(∀x,J.V 0 x->V' x)/\aH (J.V 0) w w'/\Ends c0) (V:=J.V 0) (O:=J.O 0) ?_ (λ_=>dq) (λ_=>dq) (λL W g1 w1 σ1 C a2 b3 hk=>?_)
 .refine Uy a1.co b6 (λf w1 L W a8 c=>WalkE.stop λT B=>⟨_,rfl,a8.rely B,c.vv,(c.step B).rely,Iv f⟩) λb7 C f1 w1 L W g g2 e c i d j=>?_;obtain⟨l,ds,a⟩:=a b7 C;have a:=a.bH c;rw[Ut];refine WalkE.seq (Tp (.inl ⟨rfl,rfl,rfl,rfl⟩) e a i d j λf2 T V2 O2 Q S y q m n=>?_);have e:=e.bH Q;have a:=a.bH Q;have c:=c.tn Q;have i:=(S 2 zz zz zz).tn i;have d:=(S 3 zz zz zz).tn d;have j:=(S 4 zz zz zz).tn j;rw[Uu];refine WalkE.seq (Tp (.inr ⟨rfl,rfl,rfl,rfl⟩) e a i d j λf3 w3 V3 O3 u E z K t r=>?_);have q:=q.bH u;have e:=e.bH u;have a:=a.bH u;have c:=c.tn u;have i:=(E 2 zz zz zz).tn i;have d:=(E 3 zz zz zz).tn d;have j:=(E 4 zz zz zz).tn j;have m:=(E 7 zz zz zz).tn m;have n:=(E 8 zz zz zz).tn n;rw[Uv];refine WalkE.seq (Tq (.inl ⟨rfl,rfl,rfl,rfl⟩) e a i d j λf4 U V4 O4 v o N P=>?_);have q:=q.bH v;have K:=K.bH v;have e:=e.bH v;have a:=a.bH v;have c:=c.tn v;have i:=(o 2 zz zz zz).tn i;have d:=(o 3 zz zz zz).tn d;have j:=(o 4 zz zz zz).tn j;have m:=(o 7 zz zz zz).tn m;have n:=(o 8 zz zz zz).tn n;have t:=(o 9 zz zz zz).tn t;have r:=(o 10 zz zz zz).tn r;rw[Uw];refine WalkE.seq (Tq (.inr ⟨rfl,rfl,rfl,rfl⟩) e a i d j λf5 w5 V5 O5 A p a5 a6=>?_);have q:=q.bH A;have K:=K.bH A;have e:=e.bH A;have a:=a.bH A;have c:=c.tn A;have d:=(p 3 zz zz zz).tn d;have m:=(p 7 zz zz zz).tn m;have n:=(p 8 zz zz zz).tn n;have t:=(p 9 zz zz zz).tn t;have r:=(p 10 zz zz zz).tn r;have N:=(p 11 zz zz zz).tn N;have P:=(p 12 zz zz zz).tn P;exact Z6 e a (M3 _ _ _ _ _) d q K m t n r N a5 P a6 λf6 w6 V6 O6 a' Z a7=>WalkE.stop λw7 B=>⟨_,rfl,a'.rely B,(c.tn Z).vv,((c.tn Z).step B).rely,Iw f6 a7⟩
 .obtain⟨c0,rfl,a9,a3,b9,a0⟩:=C;have b1:=a9.main a1 hk a2 b3;obtain rfl:L=σ1.V 0:=funext λb=>propext (a2 b).symm;refine Rj b1 λσ2 T b2 c2 b'=>?_;refine aQ.walk (a0 (σ2.V 0) (σ2.O 0) T) (λ_=>dq) (λ_=>dq) (λV3 O3 u w3 c5 C b4 c4 b8=>?_);obtain⟨⟨f,k,rfl,h6⟩,c3,b0⟩:=C;refine aQ.Zi (b8.md.tn b2.idle.md) λU c1=>⟨_,M1 h6 U,b5 U ?_⟩;have a4:∀x,J.V 0 x->σ2.V 0 x:=λx R=>c2 x (a3 x R);exact((b9.tn (b'.mono a3)).tn (b0.mono a4)).tn (c1.mono λx R=>(b4 x).2 (c3 x (a4 x R)))
open Go.ChangeShapes Go.WideShapes Go.ChangeAt Go.Deep
section
variable{W:Cl}{t:Nat}
abbrev V0(W:Cl):Nat->Prop:=(Go.Co.start W).V 0
def tA{b:Nat}:V0 W b↔b<W.heap.size:=⟨λh=>h.2,λh=>⟨rfl,h⟩⟩
def mq{base t e:Nat}{v:M}(g:F.underlying t=Y (.slice e))(h:Cell.okWide F W .any base t v):∃s:Sl,v=.slice s.A s.n s.c/\Nk (V0 W) W s/\(s.A=I->s.n=0)/\s.n<=s.c:=by
 unfold Cell.okWide at h;rw[g]at h;unfold Cell.ok at h;rw[g]at h
 cases v with
 | slice A n c=>
  cases A with
  | none=>
   cases n with
   | zero=>
    cases c with
    | zero=>exact⟨⟨I,0,0⟩,rfl,(λa f=>(by cases f)),λ_=>rfl,dj _⟩
    | succ c=>simp at h
   | succ n=>simp at h
  | some a=>
   simp only at h;obtain⟨j, -, k⟩:=h;obtain⟨-, l,row,cells,b,-⟩:=k;refine⟨⟨Y a,n,c⟩,rfl,λi f=>?_,λe=>(by cases e),j⟩;obtain rfl:a=i:=jx f;unfold Cl.shape? at b
   cases d:W.heap[a.block]? with
   | none=>rw[d]at b;cases b
   | some o=>
    rw[d]at b
    cases o with
    | cells c e z=>exact⟨l,tA.2 (du.1 d).1,⟨c,e,z,d⟩,λh=>dC h (kq 0)⟩
    | _=>cases b
 | _=>simp at h
def Fh:Option M->Int
 | some (.int _ n)=>n
 | _=>0
def VW:Option M->Bool
 | some (.bool b)=>b
 | _=>false
def vl{s:Sl}{m:Nat}(i:Nk (V0 W) W s)(hc:∀a,s.A=Y a->∀j,j<m->∃v,W (a.block,a.off+j)=Y v/\jU v):jb (V0 W) W s m:=λa f=>by
 obtain⟨g,h2,⟨c,e,z,d⟩,-⟩:=i a f;refine⟨g,h2,c,e,z,d,λj k=>?_⟩;obtain⟨v,b,h⟩:=hc a f j k;unfold Cl.cell? at b;dsimp only at b;rw[d]at b;exact⟨v,b,h⟩
section
variable{H:Type}{enc:Lk×M->H}{W:Cl}{s:Sl}{fuel:Nat}{x:DataW H×List MemPlace}
abbrev TD(enc:Lk×M->H)(W:Cl)(fuel:Nat)(t:Lk)(cs:List M):Option (DataW H×List MemPlace):=DataW.trod enc F W 0 (λ_=>true) true fuel t cs
def xe{a:Addr}(h:a.spot=I)(i:Nat):a.add i=⟨a.block,a.off+i,I⟩:=by
 obtain⟨b,o,c⟩:=a;simp only at h;subst h;simp[Addr.add]
def Ka(g:Nk (V0 W) W s)(E:s.n<=s.c)(a4:s.n<=20)(h:TD enc W fuel 24 [.slice s.A s.n s.c]=Y x):∃l,aN W s l/\jb (V0 W) W s l.length:=by
 have æ:=0;exact pD
def Fi(hp:∀{fuel x},TD enc W fuel t [.slice s.A s.n s.c]=Y x->([M.slice s.A s.n s.c]=[.slice I 0 0])\/∃(a:Addr) (J r n:Nat) (K L:Nat->M) (S T:Nat->DataW H) (U V:Nat->List MemPlace),[M.slice s.A s.n s.c]=[.slice (Y a) J r]/\J<=r/\
   ∀i,i<r->W.cell? (a.add (i*2))=Y (K i)/\W.cell? (a.add (i*2+1))=Y (L i)/\TD enc W n 3 [K i]=Y (S i,U i)/\TD enc W n 3 [L i]=Y (T i,V i))
  (g:Nk (V0 W) W s)(E:s.n<=s.c)(a4:s.n<=20)(h:TD enc W fuel t [.slice s.A s.n s.c]=Y x):∃l,bp W s l/\jb (V0 W) W s (l.length*2):=by
 have ø:=0;exact pD
def Iy(k:Nk (V0 W) W s)(p:s.n<=s.c)(q:s.n<=20)(h:TD enc W fuel 27 [.slice s.A s.n s.c]=Y x):∃l,bp W s l/\jb (V0 W) W s (l.length*2):=
 Fi (t:=27) (λh=>by
  rcases open_slice_pairs Tryz.underlying27 Tryz.underlying94 kr rfl rfl kr kr h with⟨b,-⟩|⟨a,u,v,m,n,i,j,d,e,f,g,b, -, o, -, c, -, r⟩
  .exact .inl b
  .simp only[if_true]at c;subst c;exact .inr ⟨a,u,_,n,i,j,d,e,f,g,b,o,r⟩) k p q h
def Iz(k:Nk (V0 W) W s)(p:s.n<=s.c)(q:s.n<=20)(h:TD enc W fuel 28 [.slice s.A s.n s.c]=Y x):∃l,bp W s l/\jb (V0 W) W s (l.length*2):=
 Fi (t:=28) (λh=>by
  rcases open_slice_pairs Tryz.underlying28 Tryz.underlying96 kr rfl rfl kr kr h with⟨b,-⟩|⟨a,u,v,m,n,i,j,d,e,f,g,b, -, o, -, c, -, r⟩
  .exact .inl b
  .simp only[if_true]at c;subst c;exact .inr ⟨a,u,_,n,i,j,d,e,f,g,b,o,r⟩) k p q h
def Uz(g:Nk (V0 W) W s)(E:s.n<=s.c)(a4:s.n<=20)(h:TD enc W fuel 29 [.slice s.A s.n s.c]=Y x):∃l,fL W s l/\jb (V0 W) W s (l.length*3):=by
 have å:=0;exact pD
end
end
def UB:F.cellTypes F.depth 31=Y [3,3,3,3,3,24,3,3,3,3,27,28,29]:=by kernel_rfl
def UC:F.cellTypes F.depth 33=Y [3,24]:=by kernel_rfl
def Ys:F.cellsOf 31=13:=by kernel_rfl
def Yt:F.cellsOf 33=2:=by kernel_rfl
def Kb:F.cellsOf 3=1:=by kernel_rfl
def Yu:F.cellsOf 23=2:=by kernel_rfl
def Yv:F.cellsOf 26=2:=by kernel_rfl
def Rr:F.cellsOf 24=1:=by kernel_rfl
def Yw:F.cellsOf 27=1:=by kernel_rfl
def Yx:F.cellsOf 28=1:=by kernel_rfl
def Yy:F.cellsOf 29=1:=by kernel_rfl
section
variable{H:Type}{enc:Lk×M->H}{W:Cl}{base:Nat}{v:M}{d:DataW H}{p:List MemPlace}
def zv{t fuel:Nat}{f0 f1:Field}{c0 c1:M}{x:DataW H×List MemPlace}(g:F.underlying t=Y (.struct #[f0,f1]))(i:f0.offset=0)(j:f1.offset=1)(k:f0.type=3)(l:f1.type=3)(h:TD enc W fuel t [c0,c1]=Y x):∃a b:Int,c0=.int .i64 a/\c1=.int .i64 b:=by
 obtain⟨m,o,n, -, -, c,d⟩:=trod_struct2 g h;rw[i,k,Kb]at c;rw[j,l,Kb]at d;obtain⟨a,e, -,-⟩:=DataW.trod_int Tryz.underlying3 c;obtain⟨b,f, -,-⟩:=DataW.trod_int Tryz.underlying3 d;simp at e f;exact⟨a,b,e,f⟩
def IA(a:M.okWide F W .any base 33 v)(m:DataW.Trod enc F W 0 (λ_=>true) true 33 v d p):∃(sh:Int) (s:Sl),v=aF sh s/\Nk (V0 W) W s/\(s.n<=20->∃ds,aN W s ds/\jb (V0 W) W s ds.length):=by
 unfold M.okWide at a;rw[Tryz.underlying33]at a;obtain⟨⟨cs⟩,rfl,g,q,i, -, k⟩:=a;rw[Yt]at g;rw[UC]at i;cases i
 match cs,g with
 | [c0,b],_=>
  obtain⟨fuel,h⟩:=m;replace h:TD enc W fuel 33 [c0,b]=Y (d,p):=h;obtain⟨r,t,n, -, -, c,e⟩:=trod_struct2 Tryz.underlying33 h;obtain⟨u,o,hc⟩:=k 1 b rfl;cases o;obtain⟨s,rfl,f, -, hle⟩:=mq Tryz.underlying24 hc;simp only[Kb,Rr,List.drop_zero,List.drop_succ_cons,List.take_succ_cons,List.take_zero]at c e;obtain⟨sh,j, -,-⟩:=DataW.trod_int Tryz.underlying3 c;simp only[ll,and_true]at j;subst j;exact⟨sh,s,rfl,f,λl=>Ka f hle l e⟩
def M4(J:M.okWide F W .any base 31 v)(a':DataW.Trod enc F W 0 (λ_=>true) true 31 v d p):∃b:aC,v=b.v/\Um (V0 W) W b/\(mX b=false->∃l,aI W b l/\jb (V0 W) W b.C l.C.length/\jb (V0 W) W b.U (l.U.length*2)/\jb (V0 W) W b.E (l.E.length*2)/\jb (V0 W) W b.W (l.W.length*3)):=by
 unfold M.okWide at J;rw[Tryz.underlying31]at J;obtain⟨⟨cs⟩,rfl,a7,b6,a8, -, m⟩:=J;rw[Ys]at a7;rw[UB]at a8;cases a8
 match cs,a7 with
 | [c0,a,c2,c3,c4,P,c,e,f,g,K,N,O],_=>
  obtain⟨fuel,h⟩:=a';replace h:TD enc W fuel 31 [c0,a,c2,c3,c4,P,c,e,f,g,K,N,O]=Y (d,p):=h;obtain⟨xs,n, -, -, -, a9,j⟩:=DataW.trod_struct Tryz.underlying31 h;have get:∀i,i<10->∃y,xs[i]?=Y y:=λi hi=>⟨_,fg (by rw[a9];exact hi)⟩;obtain⟨u,k,hc⟩:=m 5 P rfl;cases k;obtain⟨C,rfl,a3, -, lC⟩:=mq Tryz.underlying24 hc;obtain⟨u,k,hc⟩:=m 10 K rfl;cases k;obtain⟨U,rfl,a5, -, a0⟩:=mq Tryz.underlying27 hc;obtain⟨u,k,hc⟩:=m 11 N rfl;cases k;obtain⟨E,rfl,a4, -, lE⟩:=mq Tryz.underlying28 hc;obtain⟨u,k,hc⟩:=m 12 O rfl;cases k;obtain⟨X,rfl,a6, -, b3⟩:=mq Tryz.underlying29 hc;clear m hc;have o:TD enc W n 3 ((List.drop 0 [c0,a,c2,c3,c4,.slice C.A C.n C.c,c,e,f,g,.slice U.A U.n U.c,.slice E.A E.n E.c,.slice X.A X.n X.c]).take (F.cellsOf 3))=xs[0]?:=j 0 _ rfl;have q:TD enc W n 3 ((List.drop 1 [c0,a,c2,c3,c4,.slice C.A C.n C.c,c,e,f,g,.slice U.A U.n U.c,.slice E.A E.n E.c,.slice X.A X.n X.c]).take (F.cellsOf 3))=xs[1]?:=j 1 _ rfl;have r:TD enc W n 3 ((List.drop 2 [c0,a,c2,c3,c4,.slice C.A C.n C.c,c,e,f,g,.slice U.A U.n U.c,.slice E.A E.n E.c,.slice X.A X.n X.c]).take (F.cellsOf 3))=xs[2]?:=j 2 _ rfl;have s:TD enc W n 23 ((List.drop 3 [c0,a,c2,c3,c4,.slice C.A C.n C.c,c,e,f,g,.slice U.A U.n U.c,.slice E.A E.n E.c,.slice X.A X.n X.c]).take (F.cellsOf 23))=xs[3]?:=j 3 _ rfl;have t:TD enc W n 24 ((List.drop 5 [c0,a,c2,c3,c4,.slice C.A C.n C.c,c,e,f,g,.slice U.A U.n U.c,.slice E.A E.n E.c,.slice X.A X.n X.c]).take (F.cellsOf 24))=xs[4]?:=j 4 _ rfl;have w:TD enc W n 26 ((List.drop 6 [c0,a,c2,c3,c4,.slice C.A C.n C.c,c,e,f,g,.slice U.A U.n U.c,.slice E.A E.n E.c,.slice X.A X.n X.c]).take (F.cellsOf 26))=xs[5]?:=j 5 _ rfl;have x:TD enc W n 26 ((List.drop 8 [c0,a,c2,c3,c4,.slice C.A C.n C.c,c,e,f,g,.slice U.A U.n U.c,.slice E.A E.n E.c,.slice X.A X.n X.c]).take (F.cellsOf 26))=xs[6]?:=j 6 _ rfl;have z:TD enc W n 27 ((List.drop 10 [c0,a,c2,c3,c4,.slice C.A C.n C.c,c,e,f,g,.slice U.A U.n U.c,.slice E.A E.n E.c,.slice X.A X.n X.c]).take (F.cellsOf 27))=xs[7]?:=j 7 _ rfl;have A:TD enc W n 28 ((List.drop 11 [c0,a,c2,c3,c4,.slice C.A C.n C.c,c,e,f,g,.slice U.A U.n U.c,.slice E.A E.n E.c,.slice X.A X.n X.c]).take (F.cellsOf 28))=xs[8]?:=j 8 _ rfl;have B:TD enc W n 29 ((List.drop 12 [c0,a,c2,c3,c4,.slice C.A C.n C.c,c,e,f,g,.slice U.A U.n U.c,.slice E.A E.n E.c,.slice X.A X.n X.c]).take (F.cellsOf 29))=xs[9]?:=j 9 _ rfl;clear j;simp only[Kb,Yu,Rr,Yv,Yw,Yx,Yy,List.drop_zero,List.drop_succ_cons,List.take_succ_cons,List.take_zero]at o q r s t w x z A B;obtain⟨y0,e0⟩:=get 0 zz;obtain⟨y1,e1⟩:=get 1 zz;obtain⟨y2,Q⟩:=get 2 zz;obtain⟨y3,R⟩:=get 3 zz;obtain⟨y4,T⟩:=get 4 zz;obtain⟨y5,V⟩:=get 5 zz;obtain⟨y6,Z⟩:=get 6 zz;obtain⟨y7,e7⟩:=get 7 zz;obtain⟨y8,e8⟩:=get 8 zz;obtain⟨y9,e9⟩:=get 9 zz;rw[e0]at o;rw[e1]at q;rw[Q]at r;rw[R]at s;rw[T]at t;rw[V]at w;rw[Z]at x;rw[e7]at z;rw[e8]at A;rw[e9]at B;clear get e0 e1 Q R T V Z e7 e8 e9 a9;obtain⟨S,q0, -,-⟩:=DataW.trod_int Tryz.underlying3 o;obtain⟨D,q1, -,-⟩:=DataW.trod_int Tryz.underlying3 q;obtain⟨L,q2, -,-⟩:=DataW.trod_int Tryz.underlying3 r;obtain⟨lo,hi,q3,q4⟩:=zv Tryz.underlying23 rfl rfl rfl rfl s;obtain⟨rf,rh,q6,q7⟩:=zv Tryz.underlying26 rfl rfl rfl rfl w;obtain⟨cf,ch,q8,q9⟩:=zv Tryz.underlying26 rfl rfl rfl rfl x;simp only[ll,and_true]at q0 q1 q2;subst q0 q1 q2 q3 q4 q6 q7 q8 q9;refine⟨⟨S,D,L,lo,hi,C,rf,rh,cf,ch,U,E,X⟩,rfl,⟨a3,a5,a4,a6⟩,λG=>?_⟩;unfold mX at G;simp only[Bool.or_eq_false_iff,decide_eq_false_iff_not]at G;obtain⟨⟨⟨n1,n2⟩,n3⟩,n4⟩:=G;obtain⟨b4,a1,a2⟩:=Ka a3 lC zz t;obtain⟨b5,b1,b2⟩:=Iy a5 a0 zz z;obtain⟨le,d1,d2⟩:=Iz a4 lE zz A;obtain⟨lx,f1,f2⟩:=Uz a6 b3 zz B;exact⟨⟨b4,b5,le,lx⟩,⟨a1,b1,d1,f1⟩,a2,b2,d2,f2⟩
end
abbrev zy:List (String×DataW Unit):=[("velarium/sail.checks", Rows.laid_velarium_sail_checks)]
def UD:F.globalNamed "velarium/sail.checks" = Y 0:=by kernel_rfl
def UE:(F.globals[0]?).map (·.type)=Y 91:=by kernel_rfl
def Yz:F.cellsOf 90=1:=by kernel_rfl
def YA:F.cellsOf 91=5:=by kernel_rfl
theorem UF{W:Cl}(h:laidMetH F zy W):aD W:=by
 obtain⟨g,t,cs,fuel,p,o,y,c,w⟩:=h.funcs (ib.2 rfl);obtain rfl:=jx (UD.symm.tn o);obtain rfl:=jx (UE.symm.tn y);obtain⟨xs,m, -, z,q,x,a⟩:=DataW.trod_array Tryz.underlying91 w;rw[YA]at q;obtain⟨l⟩:=cs
 match l,q,a,c with
 | [c0,S,c2,c3,c4],_,a,c=>
  have b:xs.map (·.1)=[.held [40,118,101,108,97,114,105,117,109,47,115,97,105,108,46,104,97,108,108,41,46,103,108,97,115,115],.held [40,118,101,108,97,114,105,117,109,47,115,97,105,108,46,104,97,108,108,41,46,99,108,111,116,104,115],.held [40,118,101,108,97,114,105,117,109,47,115,97,105,108,46,104,97,108,108,41,46,115,117,110,115],.held [40,118,101,108,97,114,105,117,109,47,115,97,105,108,46,104,97,108,108,41,46,101,121,101,115],.held [40,118,101,108,97,114,105,117,109,47,115,97,105,108,46,104,97,108,108,41,46,119,97,116,99,104,101,115]]:=by
   have:=eh Prod.fst z;injection this with h
   exact h.symm
  match xs,x,b,a with
  | [A,B,C,E,G],_,b,a=>
   simp only[zM,ll,and_true]at b;obtain⟨r,n1,s,u,v⟩:=b;have d:=a 0 zz;have e:=a 1 zz;have f:=a 2 zz;have j:=a 3 zz;have k:=a 4 zz;simp only[Yz,Nat.mul_one,List.drop_zero,List.drop_succ_cons,List.take_succ_cons,List.take_zero,zQ]at d e f j k;obtain⟨a0,b0⟩:=A;obtain⟨J,O⟩:=B;obtain⟨K,P⟩:=C;obtain⟨L,Q⟩:=E;obtain⟨N,R⟩:=G;simp only at r n1 s u v;subst r n1 s u v;obtain rfl:=func_of_trod (f0:=155) Tryz.underlying90 kr d;obtain rfl:=func_of_trod (f0:=156) Tryz.underlying90 kr e;obtain rfl:=func_of_trod (f0:=157) Tryz.underlying90 kr f;obtain rfl:=func_of_trod (f0:=158) Tryz.underlying90 kr j;obtain rfl:=func_of_trod (f0:=159) Tryz.underlying90 kr k;have hc:=λi=>Cl.var?_cell o c i;have n:W (0,0)=_:=hc 0;exact⟨wY n,n,hc 1,hc 2,hc 3,hc 4⟩
variable{W:H}
def UG(g:Nat)(h:TA.glob g=true):g=0:=Sd .skip g h
theorem UH(h:aD W):Main (Go.Co.start W) W:=by
 have k:V0 W 0:=tA.2 h.1;obtain⟨c,e,z,hc⟩:∃c e z,W.heap[0]?=Y (.cells c e z):=by
  have b:=h.2.1;unfold H.cell? at b;dsimp only at b
  cases l:W.heap[0]? with
  | none=>rw[l]at b;simp at b
  | some o=>
   rw[l]at b
   cases o with
   | cells c e z=>exact⟨c,e,z,rfl⟩
   | _=>simp at b
 have g:∀i v,W.cell? ⟨0,i,I⟩=Y v->c[i]?=Y v:=λi v a=>by
  unfold H.cell? at a;dsimp only at a;rw[hc]at a;exact a
 obtain⟨-, c0,n,p,q,r⟩:=id h;have y:=g _ _ c0;have A:=g _ _ n;have B:=g _ _ p;have C:=g _ _ q;have m:=g _ _ r;have d:∀{j f:Nat} {v:M},c[j]?=Y (.func (.func f) #[] #[])->c[j]?=Y v->TA.has f=true->TA.ret f=.val->Flat TA (V0 W) W v:=λb h2 s t=>by
  cases b.symm.tn h2;exact .inr (.inr (.inr ⟨_,rfl,s,t⟩))
 refine⟨⟨rfl,rfl,rfl,λx=>dq,λx w=>tA.1 w⟩,⟨h,k,c,e,z,hc,?_,λj v u a=>?_⟩,e,k,⟨c,z,hc⟩,UG⟩
 .have:=(du.1 m).1;omega
 .match j,u,a with
  | 0,_,a=>exact d y a rfl rfl
  | 1,_,a=>exact d A a rfl rfl
  | 2,_,a=>exact d B a rfl rfl
  | 3,_,a=>exact d C a rfl rfl
  | 4,_,a=>exact d m a rfl rfl
def IB{post:M->H->Prop}{b:aC}{sh h:Int}{s:Sl}(a:aD W)(d:Um (V0 W) W b)
  (e:mX b=false->s.n<=20->∃l ds,uD (V0 W) W b l s ds)(c:∀w',aH (V0 W) W w'->post (.bool true) w'):
  ∃n last o w' t',runNT F (n+1) (solo (G (Kf.enter F 3 (qT b sh s h) .normal) []) W) #[]=(.ended o w',t')/\runN F n (solo (G (Kf.enter F 3 (qT b sh s h) .normal) []) W)=.next last/\step F last=.ended o w'/\Go.Conc.Good F post last o w' t':=
 LX (Q:=fI) ua (J:=Go.Co.start W) rfl (L0 W) rfl rfl (Rq (UH a) d e c)
def aaP:ownKnob F.godebug=I:=by kernel_rfl
def laidOut:laidOutB F=true:=by kernel_rfl
def Rt(os:Os)(args:Array M):laidMetH F zy ((H.doorLaid F 100 os).forCall (λ_ _=>0) ⟨#[],args,[]⟩).memory:=
 laidMetH_of_parts3 (fuel:=8) (laidMet_of_run' 8 kr kr) kr kr
abbrev YB:aC:=⟨0,0,0,0,0,⟨I,0,0⟩,0,0,0,0,⟨I,0,0⟩,⟨I,0,0⟩,⟨I,0,0⟩⟩
def Ru{W w:H}(h:aH (V0 W) W w):X W W w:=⟨h.os,h.tape,h.output,h.size,λk hk=>h.keep k (tA.2 hk)⟩
def ab6(os:Os)(H:Type)(enc:Lk×M->H):∃(w:Cl) (tape:Tape) (i:Input),w.os=os/\(w.forCall tape i).Shaped F/\i.vars=[]/\Input.okWide F (w.forCall tape i) .any w 3 i/\
   ((Rows.sailLightSpec.pre enc F Tryz.f3 [] false (w.forCall tape i).memory i.args/\laidMetH F zy (w.forCall tape i).memory)/\sizedMet enc F Tryz.f3 (OpenSpec.ofChange Rows.sailLightSpec) false (w.forCall tape i).memory i.args)/\({}:Assume).holds F (lone (Kf.enter F 3 i.args .normal) [] (w.forCall tape i)):=
 ChangeSpec.witness_shaped (enc:=enc) (C:=Tryz.checked) (os:=os) (X:=λw _=>laidMetH F zy w) false (Cl.doorLaid F 100 os) (qT YB 0 ⟨I,0,0⟩ 0) 8 rfl (Cl.shaped_of_RefB kr kr) kr kr kr (Rt os _)
def aaQ{H:Type}{enc:Lk×M->H}{W:Cl}{base:Nat}{args:Array M}{ds gs:List (DataW H)}{before:List MemPlace}
  (c:∀(j:Nat) t v,Tryz.f3.params[j]?=Y t->args[j]?=Y v->M.okWide F W .any base t v)
  (i:DataW.Whole enc F Tryz.f3.params.toList Rows.sailLightSpec.vars false W args.toList ds gs before)(K:laidMetH F zy W):
  ∃n last o w' t',runNT F (n+1) (solo (G (Kf.enter F 3 args .normal) []) W) #[]=(.ended o w',t')/\runN F n (solo (G (Kf.enter F 3 args .normal) []) W)=.next last/\step F last=.ended o w'/\
   Go.Conc.Good F (λv w=>Rows.sailLightSpec.post enc F Tryz.f3 false true false false W args v w) last o w' t':=by
 have k:=i;obtain⟨p,q,g,L,rfl, -,-⟩:=i;have f:DataW.TrodAll enc F W 0 (λ_=>true) true Tryz.f3.params.toList args.toList ds p:=g;rw[Tryz.params3]at f c;obtain⟨T,U,V,d0,d1,Z,r,u,p2,rfl,rfl,rfl,d,e,h2⟩:=trodAll_three f;obtain⟨rfl,rfl⟩:=trodVars_none L;obtain⟨b,rfl,O,N⟩:=M4 (c 0 31 T rfl rfl) d;obtain⟨sh,s,rfl,a1,S⟩:=IA (c 1 33 U rfl rfl) e;obtain⟨h,rfl,rfl,rfl,wh⟩:=open_int Tryz.underlying3 (c 2 3 V rfl rfl) h2;clear g;have m:∀x∈r++u++[],x.block<W.heap.size:=λx a=>by
  refine k.lt x ?_;simp only[List.append_nil]at a|-;exact a
 refine IB (UF K) O (λP Q=>?_) (λw' R=>?_)
 .obtain⟨l,e1,z,A,B,C⟩:=N P;obtain⟨ds,E,J⟩:=S Q;exact⟨l,ds,e1,E,z,A,B,C,J⟩
 .have hB:=Ru R;have a0:=X.trod laidOut kr (of_decide_eq_true kr) d hB (λx a=>m x (by simp[a]));have y:=X.trod laidOut kr (of_decide_eq_true kr) e hB (λx a=>m x (by simp[a]));refine⟨_,_,_,[],r++(u++[]),[],k,trodAll_mk1 (shut_bool Tryz.underlying4 _),trodAll_mk3 a0 y (shut_int Tryz.underlying3 wh),rfl,hB.frame _,λh=>by cases h⟩
theorem lifted(os:Os)(n:os.Started)(H:Type)(enc:Lk×M->H):
  ReturnsInLeavingWide {} Tryz.checked os 3 .any (λw args=>(Rows.sailLightSpec.pre enc F Tryz.f3 [] false w args/\laidMetH F zy w)/\sizedMet enc F Tryz.f3 (OpenSpec.ofChange Rows.sailLightSpec) false w args)
   (Rows.sailLightSpec.post enc F Tryz.f3 false true false false):=by
 refine returnsInLeavingWide_of_good (C:=Tryz.checked) aaP n (ab6 os H enc) ?_;intro w tape i _ _ _ hok hpre _;obtain⟨_,_,_,b,h,_,_,_,_,k⟩:=hok;obtain rfl:b=Tryz.f3:=jx (h.symm.tn Tryz.func3);obtain⟨⟨⟨ds,gs,p,l,hc⟩,f⟩,q⟩:=hpre;have m:=DataW.Whole.of_heap (w':=w.forCall tape i) (by rfl) l;have g:laidMetH F zy (w.forCall tape i):=laidMetH.of_heap (by rfl) f;obtain⟨a,last,o,w',t',c,h2,d,e⟩:=aaQ k m g;exact⟨a,last,o,w',t',c,h2,d,e.mono λv j=>ChangeSpec.post_blind j⟩
open Go
theorem sailLight_holds:Rows.SailLightSaid:=
 OpenClaim.holds_of_wide_leaving 3 Tryz.f3 rfl rfl rfl rfl rfl rfl rfl ⟨rfl,rfl,rfl,rfl,rfl⟩ rfl rfl rfl rfl rfl kr Tryz.func3 kr
  (of_decide_eq_true kr) (by unfold Func.isWrapper;first|(rw[dE (by decide +kernel)];kernel_rfl)|(rw[cd (by decide +kernel)];exact⟨rfl,rfl⟩))
  (λos a H enc _=>lifted os a H enc)
theorem sailLight_card:Rows.SailLightCardSaid:=by
 have g:∀f fn,Tryz.pinned.checked.prog.funcNamed Rows.sailLightRow.func=Y f->Tryz.pinned.checked.prog.funcs[f]?=Y fn->false=Tryz.pinned.checked.prog.looks []/\∀(j:Nat) t,fn.params[j]?=Y t->Tryz.pinned.checked.prog.wantsStandIn t=false:=λf fn c d=>by
  obtain rfl:f=3:=jx ((show F.funcNamed "velarium/velariumlaw05.SailLight" = Y 3 by kernel_rfl).symm.tn c) |>.symm;obtain rfl:fn=Tryz.f3:=(jx (Tryz.func3.symm.tn d)).symm;exact⟨by kernel_rfl,λj t a=>by
   rw[Tryz.params3]at a;have b:t=31\/t=33\/t=3:=by
    rcases j with _|_|_|j
    .exact .inl (by simpa using a.symm)
    .exact .inr (.inl (by simpa using a.symm))
    .exact .inr (.inr (by simpa using a.symm))
    .simp at a
   rcases b with rfl|rfl|rfl
   .exact(show F.wantsStandIn 31=false by kernel_rfl)
   .exact(show F.wantsStandIn 33=false by kernel_rfl)
   .exact(show F.wantsStandIn 3=false by kernel_rfl)⟩
 have k:Rows.sailLightRow.wfByText (OpenSpec.ofChange Rows.sailLightSpec)=true:=by kernel_rfl
 have e:true=Rows.sailLightRow.goesBy Tryz.pinned.checked.prog:=by kernel_rfl
 have i:Tryz.pinned.checked.prog.mainIs=Y (true, "13d2a8aa782bfb0c3fcefb8c36b32d87700c50755c284c36f44a79e45db71eb1".toList):=by kernel_rfl
 exact⟨Claim7.tied_new_at .later [.funcs] true (Claim7.new_of_sixth sailLight_holds (true, "13d2a8aa782bfb0c3fcefb8c36b32d87700c50755c284c36f44a79e45db71eb1") false rfl ⟨rfl,rfl⟩ i rfl g) k,(λ_ h=>by cases h),sailLight_row_tie,(λh=>by cases h),e⟩
end Go.Proofs.YtimmnfbjckbneaaGreatDoor
