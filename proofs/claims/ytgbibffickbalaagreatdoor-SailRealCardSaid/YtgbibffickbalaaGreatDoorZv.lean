import Derived.Test.YtgbibffickbalaaGreatDoorZu
set_option maxRecDepth 100000
set_option maxHeartbeats 4000000
set_option linter.all false
noncomputable section
open Go.Proofs.Tryz renaming prog->F
open Go renaming World->H,Code->Ly,Value->M,Calls->PH,heap_alloc_new->Sp
open Go.Lib renaming hid->Hm
open Go.RowKit renaming Below->X
open Option renaming some->Y
namespace Go.Proofs.YtgbibffickbalaaGreatDoor
open Go.RowKit Go.Co
variable{w0 w:H}{b:aC}{l:bN}{sh i at_:Int}{d:Sl}{ds:List Int}{g9 t:Nat}{f:Nat->M}{x y A:Ly}{Q0 Q1:Act->H->Prop}{keep:Nat->Prop}{p:(Nat->M)->H->Prop}
def Qy{p:Prop}(h:p:=by(repeat (first|assumption|(apply Eq.tn;(apply_assumption -symm -exfalso<;>omega))))):p:=h
def blk{w w':H}{g:Nat}{o:Obj}(h:w.heap[g]?=Y o)(a:X w w w'):w'.heap[g]?=Y o:=(a.block _ (ec.1 h).1).tn h
def rmq{p:Prop}(h:p:=by(repeat (first|assumption|(apply ES.up;rotate_left;assumption)|(apply blk;rotate_left;assumption)))):p:=h
def aaK{x y:Ly}{R:Act->H->Prop}{a:Act}{w:H}{Q0 Q1:Act->H->Prop}(h:Ly.wp F x (aR R) a w)(next:∀b w',R b w'->nA F y Q0 Q1 b w'):nA F (.seq x y) Q0 Q1 a w:=
 mG (wp_mono h λe a w' c=>by
  obtain⟨rfl,h⟩:=c.elim;exact⟨rfl,next a w' h⟩)
def Iw(h:Rz w0 b l sh d ds g9 i at_ f w)(g:Ly.wp F x (aR (Rw w f keep p)) (fa 236 f) w)(next:∀f' w',X w w w'->(∀j,keep j->f' j=f j)->Rz w0 b l sh d ds g9 i at_ f' w'->p f' w'->nA F y Q0 Q1 (fa 236 f') w')(hk:∀j,j<12->keep j:=by(intro j c;omega)):nA F (.seq x y) Q0 Q1 (fa 236 f) w:=
 aaK g λa w' ⟨f',e,hB,k,q⟩=>by
  subst e;exact next f' w' hB k (h.go hB λj c=>k j (hk j c)) q
def abq(h:Rz w0 b l sh d ds g9 i at_ f w)(e:t<236)(g:Ly.wp F x (aR (Rs 236 w f (λj=>j<35) λf'=>f' t=.bool false)) (fa 236 f) w)(next:∀f' w',X w w w'->(∀j,j<35->f' j=f j)->Rz w0 b l sh d ds g9 i at_ f' w'->nA F y Q0 Q1 (fa 236 f') w'):nA F (.seq (.seq x (.cond (.tmp t) A .skip)) y) Q0 Q1 (fa 236 f) w:=
 mG (bn w _ _ g λf' w' a h2 c=>wp_cond_false (ag e c) (wp_skip ⟨rfl,next f' w' a h2 (h.go a λj k=>h2 j zz)⟩))
def Rl3:Ly:=RI 2 qQ
def acT(w0:H)(tm:Array M)(W:H):Prop:=∃(f:Nat->M) (sh a e lo hi:Int) (d:Sl) (g9 c p:Nat) (b:List Int),tm=(fa 236 f).tmps/\f 9=(g9,0)/\W.heap[g9]?=Y (MZ sh (.slice d.A d.n d.c))/\w0.heap.size<g9/\f 10=p/\ES W w0.heap.size (f 25) b/\b.length<=400/\f 33=a/\f 27=(c,0)/\w0.heap.size<=c/\W.heap[c]?=Y (.cells #[.int .i64 lo,.int .i64 hi] 23 (0,0))/\f 30=true/\f 29=e/\((p:Int)∈b->a=0)/\lo<=a/\a<=hi/\e<=d.n
def Xv{b:aC}{l:bN}{w0:H}{s:Sl}(u:aI w0 b l)(S:aD w0)(hc:ay b l=0)(a9:Ca w0 s){stp hour:Int}(r:0<=stp/\stp<=255)(h2:0<=hour/\hour<=255)
  {f:Nat->M}(e1:f 1=.slice s.A s.n s.c)(G:f 2=.int .u8 stp)(J:f 3=.int .u8 hour)(m:f 4=(w0.heap.size,0)):
  nA F (cutAt 17 Rl3) (λ_ _=>False) (λa W=>a.defers=[]/\acT w0 a.tmps W) (fa 236 f) (w0.alloc (aE b 31)):=by
 obtain⟨t1,t2,t3,t4,t5,t6,t7,t8,t9,d9,-⟩:=cS (bP hc).1;obtain⟨u1,u2⟩:=UU (bP hc).2.2.1;have T:b.U.n=l.U.length:=u.U.1;have a1:X w0 w0 (w0.alloc (aE b 31)):=(X.refl _ _).alloc (qN _) _;have a':aK (w0.alloc (aE b 31)) w0 31 b:=Sp _ _;refine aaK (acZ hc u a9 a1 a' e1 m) λa w1 A=>?_;obtain⟨f1,sh,ds,d,g9,rfl,R,a0,o,n,b1,a7,j,a2,a4⟩:=A;have r1:=j.lo;have r2:=j.hi;refine aaK (ac0 hc zz zz u R a0 b1 a7 a2 a4 ((o 4 zz zz).tn m) n) λa w2 A=>?_;obtain⟨f2,W,rfl,t,v,q,a8,Z,a3⟩:=A;have i:=VC (sh:=sh) hc W (d:=IB ds);have m:=(q 4 zz).tn ((o 4 zz zz).tn m);have n:=(q 9 zz).tn n;obtain⟨p,a5,C⟩:∃p:Nat,stp%b.S=p/\(p:Int)<b.S:=by
  have r:=Int.emod_nonneg stp (b:=b.S) zz;have h2:=Int.emod_lt_of_pos stp (b:=b.S) zz;exact⟨(stp%b.S).toNat,zz,zz⟩
 obtain⟨at_,U,B⟩:∃x:Nat,hour%b.U.n=x/\x<l.U.length:=by
  have r:=Int.emod_nonneg hour (b:=b.U.n) zz;have h2:=Int.emod_lt_of_pos hour (b:=b.U.n) zz;exact⟨(hour%b.U.n).toNat,zz,zz⟩
 have c:=Xu (b:= {b with W:=W}) (l:= {l with W:=Cf b l sh (IB ds) l.W}) (sh:=sh) (ds:=ds) (p:=p) (at_:=at_) i ⟨j.lo,j.hi,j.up,j.st,j.len⟩ (VB hc W) C B T (by show l.U.length<=1000;omega);refine aaK (ac1 (b:= {b with W:=W}) r h2 (by show 0<b.S/\b.S<=1000;omega) (by show 0<b.U.n/\b.U.n<=1000;omega) v ((q 2 zz).tn ((o 2 zz zz).tn G)) ((q 3 zz).tn ((o 3 zz zz).tn J)) m) λa w3 ⟨f3,c3,hB,k,w,y⟩=>?_;subst c3;have w:f3 10=.int .i64 p:=w.tn (by show M.int .i64 (stp%b.S)=_;rw[a5]);have y:f3 11=.int .i64 at_:=y.tn (by show M.int .i64 (hour%b.U.n)=_;rw[U]);have h:Rz w0 {b with W:=W} {l with W:=Cf b l sh (IB ds) l.W} sh d (IB ds) g9 p at_ f3 w3:=⟨t.tn (hB.mono t.size),(hB.block _ v.lt).tn v,blk a8 hB,b1,Z.below hB,a3.below hB,(S.below t).below hB,(k 4 zz).tn m,(k 9 zz).tn n,w,y⟩;have c7:aI w3 {b with W:=W} {l with W:=Cf b l sh (IB ds) l.W}:=h.bk;clear hB R t a1 a' a0 v a7 a8 a2 a3 Z k o q a4 e1 G J m n w y u S a9 c7;have a6:(p:Int)<({b with W:=W}:aC).S:=C;have V:at_<({l with W:=Cf b l sh (IB ds) l.W}:bN).U.length:=B;generalize({b with W:=W}:aC)=e at h c i a6;generalize({l with W:=Cf b l sh (IB ds) l.W}:bN)=g at h c i V;have P: -3<=sh:=zz;have Q:sh<=3:=zz;have h4:e.U.n=g.U.length:=h.bk.U.1;have E:ax (p:Int) 0 (e.S-1)=true:=cq.2 ⟨zz,zz⟩;have q2:ax (at_:Int) 0 (e.U.n-1)=true:=cq.2 ⟨zz,zz⟩;have q3:mW e at_ p=true:=by unfold mW;rw[E,q2];rfl
 clear hc C B a5 U r1 r2 t1 t2 t3 t4 t5 t6 t7 t8 t9 d9 u1 u2 r h2 j T;refine Iw h (ac2 h) λf4 w4 g7 k4 h ⟨b4,b5⟩=>?_;refine Iw h (ac3 h i) λf5 w5 g8 k5 h ⟨e3,b6⟩=>?_;refine Iw h (ac5 h (c.ask _ rfl)) λf6 w6 g' k6 h ⟨b7,i1⟩=>?_;refine Iw h (ac4 h (c.ask _ E)) λf7 w7 g0 k7 h ⟨e4,b8⟩=>?_;refine Iw h (acJ h (c.ask _ q3)) λf8 w8 h1 k8 h ⟨e5,b9⟩=>?_;refine Iw h (acM h (c.ask _ q2)) λO w9 h3 k9 h ⟨b',i2,i3⟩=>?_;refine Iw h (acL h (c.ask _ rfl)) λc4 i9 f' h6 h ⟨b0,d3⟩=>?_;refine Iw h (acN h (c.ask _ E)) λe8 i' f0 h7 h ⟨c6,c1,e6,d2,h5⟩=>?_;refine Iw h (acK h i) λe9 i0 g1 h8 h ⟨e7,c2,K⟩=>?_;rw[c.is_]at b4 b5;rw[c.n0]at b6;rw[c.x0]at b7;rw[c.u0]at b8;rw[c.v0]at b9;rw[c.i0]at b';rw[c.k0]at b0;rw[c.h0]at c1;rw[c.f0]at K;rw[c.f]at c2;refine abq h zz (acO Qy Qy Qy Qy Qy Qy Qy Qy K) λe' j1 g2 h9 h=>?_;refine Iw h (acP i P Q V h) λc5 j2 g3 h' h i4=>?_;refine Iw h acQ λe0 j3 g4 pQ h L=>?_;refine Iw h (acR i P Q a6 h L) λf9 z g5 U6 h L=>?_;have d4:ES z w0 (f6 16) (iM e g).1:=rmq;have d5:ES z w0 (O 22) (DF e g at_).1:=rmq;have d6:ES z w0 (O 23) (DF e g at_).2.1:=rmq;have d8:ES z w0 (c5 32) (ie (oN e g (sh,eM (IB ds)) at_) e.S.toNat):=rmq;obtain⟨i5,j4,c8⟩:=d4.ints c.xl;obtain⟨i6,j5,c9⟩:=d5.ints (by have:=c.il.1;omega);obtain⟨i7,j',c'⟩:=d6.ints (by have:=c.il.2;omega);obtain⟨i8,k1,d1⟩:=d8.ints (by
  have:=kO (oN e g (sh,eM (IB ds)) at_) e.S.toNat;have:=(cS (bP i).1).2.1;omega)
 refine abq h zz (acS h Qy Qy c.n Qy c8 c.x Qy c.u Qy d1 Qy c.v Qy c9 Qy c' c.i1 c.i2 c.il.1 c.il.2) λN d' g6 h0 h=>?_;have d7:ES d' w0 (c4 25) (qq e g).1:=rmq;obtain⟨b2,b3,e2,-⟩:=id d3;have d0:N 25=.slice b2 (qq e g).1.length b3:=Qy;exact Dc ⟨rfl,N,sh,pF e g (sh,eM (IB ds)) p g.U.length,(zV e g).1,(qs e g p).1.1,(qs e g p).1.2,d,g9,c6,p,(qq e g).1,rfl,h.e9,h.st,h.lt,h.e10,by rw[d0,<- e2];exact d7,c.kl,Qy,Qy,d2,rmq,Qy,Qy,λhk=>by rw[c.k hk];rfl,c.h.1,c.h.2,by rw[h.dt.1,lj];exact c.f1⟩
theorem Qt(b:aC)(w:H)(f:mX b=true):
  PH F 4 #[b.v] w λe w'=>e=.returned (.bool false)/\X w w w':=by
 have a:=λd=>ME b d;simp only[f]at a;unfold aC.v at a|-;go_enter Tryz.func4,Tryz.ntmps4;go_wp2_with (go_at_call 23;refine(a _).mono ?_;rintro e d ⟨rfl,c⟩;obtain⟨g,h⟩:=aU c);go_ret;exact⟨rfl,di c⟩
theorem Qu(b:aC)(l:bN)(w:H)(j:mX b=false)(k:aI w b l):
  PH F 4 #[b.v] w λe w'=>e=.returned (.bool (ay b l==0))/\X w w w':=by
 have h:=Hm k;have d:=λa=>ME b a;have f:=λa (i:aI a b l)=>mm b l a i;simp only[j]at d;generalize ay b l=r at f|-;unfold aC.v at d f|-;go_enter Tryz.func4,Tryz.ntmps4;go_wp2_with (first|(go_at_call 23;refine(d _).mono ?_;rintro e a ⟨rfl,c⟩;obtain⟨m,o⟩:=aU c)|(go_at_call 24;refine(f _ ((aq h.out _).below c)).mono ?_;rintro e q ⟨rfl,g⟩;obtain⟨n,p⟩:=aU g));go_ret;exact⟨rfl,di (c.tn (g.mono c.size))⟩
end Go.Proofs.YtgbibffickbalaaGreatDoor
