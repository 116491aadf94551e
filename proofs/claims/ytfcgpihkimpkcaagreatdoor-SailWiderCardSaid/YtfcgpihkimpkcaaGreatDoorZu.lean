import Derived.Test.YtfcgpihkimpkcaaGreatDoorZp
import Derived.Test.YtfcgpihkimpkcaaGreatDoorChecked
set_option maxRecDepth 100000
set_option maxHeartbeats 4000000
set_option linter.all false
noncomputable section
open Go renaming undef->D,World->H,execOp->Hn,Frame->Kf,Oper->Kp,TypeId->Lk,Code->Ly,Value->M,Calls->PH,Program->Ps,Goroutine->QP,heap_alloc_old->QR,heap_alloc_new->Sp,resolve->ab,Operand->ae,yielded->aw,FuncId->ba,bodyPost_ret->bd
open Go.Proofs.Tryz renaming prog->F,prog->Hb
open Go.Lib renaming hid->Hm
open Option renaming none->I,some->Y
open Go.RowKit renaming Below->X
namespace Go
def sT{p:Prop}(h:p:=by
 first|have _:=ø;refine wp_block (wp_loop (λa w=>∃(k:Nat) (f':Nat->M),k<=l.length/\a=fa 119 f'/\f' 1=.pointer (Y ⟨g,0,I⟩)/\f' 4=.int .i64 k/\X u.heap.size u w/\nD b.S l=nD b.S (l.drop k)) (λa _=>l.length-(intOf (a.tmps.getD 4 D)).toNat) ⟨0,f,fi _,rfl,K,h4,hB,rfl⟩ λa w1 Q=>?_);obtain⟨k,P,hk,rfl,e1,E,hB,d⟩:=Q;rw[Qm];have a2:b.U.n=l.length:=C.1|have _:=å;refine wp_block (wp_loop (λa w=>∃(k:Nat) (f':Nat->M),k<=l.length/\a=fa 119 f'/\f' 1=.pointer (Y ⟨g,0,I⟩)/\f' 5=.int .i64 k/\X u.heap.size u w/\nF b.rf b.ch l=nF b.rf b.ch (l.drop k)) (λa _=>l.length-(intOf (a.tmps.getD 5 D)).toNat) ⟨0,f,fi _,rfl,K,h5,hB,rfl⟩ λa w1 Q=>?_);obtain⟨k,P,hk,rfl,e1,G,hB,d⟩:=Q;rw[Qn];have a2:b.E.n=l.length:=C.1|refine wp_block (wp_loop (λa w=>∃(k:Nat) (f':Nat->M),k<=l.length/\a=fa 119 f'/\f' 1=.pointer (Y ⟨g,0,I⟩)/\f' 6=.int .i64 k/\X u.heap.size u w/\qi b.S b.U.n l=qi b.S b.U.n (l.drop k)) (λa _=>l.length-(intOf (a.tmps.getD 6 D)).toNat) ⟨0,f,fi _,rfl,K,h6,hB,rfl⟩ λa w1 Q=>?_);obtain⟨k,P,hk,rfl,e1,U,hB,d⟩:=Q;rw[Qo];have a2:b.W.n=l.length:=C.1
 have a9:l.length<=1000:=C.2.2.1;first|have _:=ø;by_cases a1:k<b.U.n|have _:=å;by_cases a1:k<b.E.n|by_cases a1:k<b.W.n
 .have t:k<l.length:=zz;obtain⟨a7,off,V,b2,W⟩:=C.2.2.2 zz;first|have _:=ø;rw[V]at x10;obtain⟨c0,O⟩:=W k t;have c:=Al b.S l k t;generalize(l.getD k (0,0)).1=x at c c0;generalize(l.getD k (0,0)).2=y at c O;refine wp_seq (bn u (· < 7) (λf'=>f' 21=.bool true) rr λJ T hB s q=>wp_cond_true (ag zz q) (wp_skip ?_))|have _:=å;rw[V]at x11;obtain⟨c0,O⟩:=W k t;have c:=Am b.rf b.ch l k t;generalize(l.getD k (0,0)).1=x at c c0;generalize(l.getD k (0,0)).2=y at c O;refine wp_seq (bn u (· < 7) (λf'=>f' 49=.bool true) rr λJ T hB s q=>wp_cond_true (ag zz q) (wp_skip ?_))|rw[V]at x12;obtain⟨c0,O,c2⟩:=W k t;have c:=Dh b.S b.U.n l k t;generalize(l.getD k (0,0,false)).1=x at c c0;generalize(l.getD k (0,0,false)).2.1=y at c O;generalize(l.getD k (0,0,false)).2.2=z at c2;refine wp_seq (bn u (· < 7) (λf'=>f' 96=.bool true) rr λJ T hB s q=>wp_cond_true (ag zz q) (wp_skip ?_))
  have e1:=(s 1 zz).tn e1;first|have _:=ø;have E:=(s 4 zz).tn E|have _:=å;have G:=(s 5 zz).tn G|have U:=(s 6 zz).tn U
  refine wp_seq (wp_block ?_)
  first
  |have _:=æ
   cases e:ax x 0 (b.U.n-1)
   .refine bn u (· < 7) (λf'=>f' 118=.bool true) rr λf3 B hB r j=>wp_cond_true (ag zz j) ?_;refine bn u (λi=>i<7/\i≠2) (λf'=>f' 2=.int .i64 6) rr λm N hB L o=>wp_ret ?_;exact .inr ⟨rfl,by rw[d,c,dE (by simp[e])];decide,m,rfl,hB,by rw[d,c,dE (by simp[e])];exact o⟩
   .cases n:ax y 0 (b.S-1)
    .refine bn u (· < 7) (λf'=>f' 118=.bool true) rr λf3 B hB r j=>wp_cond_true (ag zz j) ?_;refine bn u (λi=>i<7/\i≠2) (λf'=>f' 2=.int .i64 6) rr λm N hB L o=>wp_ret ?_;exact .inr ⟨rfl,by rw[d,c,dE (by simp[e,n])];decide,m,rfl,hB,by rw[d,c,dE (by simp[e,n])];exact o⟩
    .refine bn u (· < 7) (λf'=>f' 118=.bool false) rr λf5 w5 hB v S=>wp_cond_false (ag zz S) (wp_skip ?_);have e1:=(v 1 zz).tn e1;have U:=(v 6 zz).tn U;refine To u (λi=>i<7/\i≠6) (λf'=>f' 6=.int .i64 (k+1)) rr λf6 w6 hB R A=>?_;refine⟨⟨k+1,f6,t,rfl,(R 1 zz).tn e1,A.tn ss,hB,d.tn (c.tn (by rw[cd (by simp[e,n])]))⟩,?_⟩;rw[sF (k:=k+1) zz (A.tn ss),sF (k:=k) zz ‹P 6=_›];omega
  |have _:=ø
   refine wp_seq ?_;cases e:ax x 0 (b.S-1)
   .refine bn u (· < 7) (λf'=>f' 32=.bool true) rr λf3 B hB r j=>wp_cond_true (ag zz j) ?_;refine bn u (λi=>i<7/\i≠2) (λf'=>f' 2=.int .i64 6) rr λm N hB L o=>wp_ret ?_;exact .inr ⟨rfl,by rw[d,c,dE e];decide,m,rfl,hB,by rw[d,c,dE e];exact o⟩
   .refine bn u (· < 7) (λf'=>f' 32=.bool false) rr λf3 B hB r j=>wp_cond_false (ag zz j) (wp_skip ?_);have e1:=(r 1 zz).tn e1;have E:=(r 4 zz).tn E;cases n:ax y (-9) 9
    .refine bn u (· < 7) (λf'=>f' 40=.bool true) rr λf3 B hB r j=>wp_cond_true (ag zz j) ?_;refine bn u (λi=>i<7/\i≠2) (λf'=>f' 2=.int .i64 1) rr λm N hB L o=>wp_ret ?_;exact .inr ⟨rfl,by rw[d,c,cd (by simp[e]),dE n];decide,m,rfl,hB,by rw[d,c,cd (by simp[e]),dE n];exact o⟩
    .refine bn u (· < 7) (λf'=>f' 40=.bool false) rr λf5 w5 hB v S=>wp_cond_false (ag zz S) (wp_skip ?_);have e1:=(v 1 zz).tn e1;have E:=(v 4 zz).tn E;refine To u (λi=>i<7/\i≠4) (λf'=>f' 4=.int .i64 (k+1)) rr λf6 w6 hB R A=>?_;refine⟨⟨k+1,f6,t,rfl,(R 1 zz).tn e1,A.tn ss,hB,d.tn (c.tn (by rw[cd (by simp[e]),cd (by simp[n])]))⟩,?_⟩;rw[sF (k:=k+1) zz (A.tn ss),sF (k:=k) zz ‹P 4=_›];omega
  |refine wp_seq ?_
   cases e:ax x (1-b.rf) (b.rf-1)
   .refine bn u (· < 7) (λf'=>f' 77=.bool true) rr λf3 B hB r j=>wp_cond_true (ag zz j) ?_;refine bn u (λi=>i<7/\i≠2) (λf'=>f' 2=.int .i64 1) rr λm N hB L o=>wp_ret ?_;exact .inr ⟨rfl,by rw[d,c,dE (by simp[e])];decide,m,rfl,hB,by rw[d,c,dE (by simp[e])];exact o⟩
   .cases n:ax y 0 60
    .refine bn u (· < 7) (λf'=>f' 77=.bool true) rr λf3 B hB r j=>wp_cond_true (ag zz j) ?_;refine bn u (λi=>i<7/\i≠2) (λf'=>f' 2=.int .i64 1) rr λm N hB L o=>wp_ret ?_;exact .inr ⟨rfl,by rw[d,c,dE (by simp[e,n])];decide,m,rfl,hB,by rw[d,c,dE (by simp[e,n])];exact o⟩
    .refine bn u (· < 7) (λf'=>f' 77=.bool false) rr λf3 B hB r j=>wp_cond_false (ag zz j) (wp_skip ?_);have e1:=(r 1 zz).tn e1;have G:=(r 5 zz).tn G;by_cases Z:b.ch<=y
     .refine bn u (· < 7) (λf'=>f' 87=.bool true) rr λf3 B hB r j=>wp_cond_true (ag zz j) ?_;refine bn u (λi=>i<7/\i≠2) (λf'=>f' 2=.int .i64 7) rr λm N hB L o=>wp_ret ?_;exact .inr ⟨rfl,by rw[d,c,cd (by simp[e,n]),dE Z];decide,m,rfl,hB,by rw[d,c,cd (by simp[e,n]),dE Z];exact o⟩
     .refine bn u (· < 7) (λf'=>f' 87=.bool false) rr λf5 w5 hB v S=>wp_cond_false (ag zz S) (wp_skip ?_);have e1:=(v 1 zz).tn e1;have G:=(v 5 zz).tn G;refine To u (λi=>i<7/\i≠5) (λf'=>f' 5=.int .i64 (k+1)) rr λf6 w6 hB R A=>?_;refine⟨⟨k+1,f6,t,rfl,(R 1 zz).tn e1,A.tn ss,hB,d.tn (c.tn (by rw[cd (by simp[e,n]),cd Z]))⟩,?_⟩;rw[sF (k:=k+1) zz (A.tn ss),sF (k:=k) zz ‹P 5=_›];omega
 .have a8:k=l.length:=zz;first|have _:=ø;refine wp_seq (bn u (· < 7) (λf'=>f' 21=.bool false) rr λJ T hB s q=>wp_cond_false (ag zz q) (wp_exit ?_))|have _:=å;refine wp_seq (bn u (· < 7) (λf'=>f' 49=.bool false) rr λJ T hB s q=>wp_cond_false (ag zz q) (wp_exit ?_))|refine wp_seq (bn u (· < 7) (λf'=>f' 96=.bool false) rr λJ T hB s q=>wp_cond_false (ag zz q) (wp_exit ?_))
  exact .inl ⟨rfl,by rw[d,lv zz];rfl,J,rfl,hB,(s 1 zz).tn (e1.tn K.symm)⟩):p:=h
def xbN{p:Prop}(h:p:=by
 have hB:=X.refl w.heap.size w;obtain⟨t,u,z,A,B,C,E,G,J,K,v,x,y⟩:=aM h.bx;have r:=h.bx.lt;first|have _:=ø;have e:=h.e2|have j:=h.e3
 have n:=h.e5;have d:=h.e15;first|have _:=ø;refine wF (l:=[0,1,2,3,4,5,6,7,8,9,10,11,12,13]) rfl ?_;refine Tw ?_;refine lS rfl rfl wnn (MZ (.inl rfl) rfl (Ls rfl) (Ls rfl) (.inl ⟨_,rfl⟩) (aM h.oxzz).2.2.2.2.2.2.2.2.1 (dx h.oxzz _)) ?_;exact Z6 λk=>lE ⟨_,rfl,k,h.cell (ZJ h.oxzz _) k⟩|refine wF (l:=[0,1,2,3,4,5,6,7,8,9]) rfl ?_;refine Tw ?_;refine lS rfl rfl wnn (MZ (.inl rfl) rfl (Ls rfl) (Ls rfl) (.inl ⟨_,rfl⟩) (aM h.oxzz).2.2.2.2.2.2.1 (dx h.oxzz _)) ?_;exact Z6 λk=>lE ⟨_,rfl,k,h.cell (ZH h.oxzz _) k,hs.keep λg q _=>X.heap_setCell w _ _ g (by show g≠g2;omega)⟩):p:=h
def xaA{p:Prop}(h:p:=by
 obtain⟨rfl⟩:=d;unfold Hn;simp only[c,e,f];go_simp;rw[Go.IntWalk.i64_in _ h]):p:=h
def xaH{p:Prop}(h:p:=by
 unfold Hn;simp only[b,ab,c,a,Deferred.ofValue];simp[go_sem,invoke,hc]):p:=h
def xbP{p:Prop}(h:p:=by
 obtain⟨rfl⟩:=e;first|have _:=ø;skip|unfold Sm at h
 unfold Hn;simp only[b,c];go_simp;rw[Go.IntWalk.i64_in _ zz]):p:=h
def xbR{p:Prop}(h:p:=by
 kernel_rfl):p:=h
def xbz{p:Prop}(h:p:=by
 obtain⟨rfl⟩:=b;unfold Hn;simp only[a,c];go_simp):p:=h
end Go
namespace Go.Co
open Go.Conc
variable{P:Ps}{main:Bool}{Stop:(Nat->Prop)->(Nat->Prop)->QP->H->Prop}{T:gq}{w:H}
def cutAt:Nat->Ly->Ly
 | n+1,.seq a b=>.seq a (cutAt n b)
 | _,_=>.refuse "cut"
def JH:Nat->Ly->Ly
 | n+1,.seq _ b=>JH n b
 | _,c=>c
def Ro(T:gq)(P:Ps)(c:Nat->Kd):Nat->Ly->Bool
 | n+1,.seq a b=>ez T P c a&&Ro T P c n b
 | n,_=>n==0
def QC{κ:Nat->Kd}:∀{n:Nat} {c:Ly},Ro T P κ n c=true->T.rest=JH n c->wC T P κ (cutAt n c) c
 | 0,c,_,d=>by
  have:c=T.rest:=by rw[d];cases c<;>rfl
  rw[this];have e:cutAt 0 T.rest=.refuse "cut" := by cases T.rest<;>rfl
  rw[e];exact .stop
 | n+1,c,h,d=>by
  cases c with
  | seq a b=>
   rw[Ro,ed]at h;exact .seqR h.1 (QC h.2 d)
  | _=>simp[Ro]at h
def VA{N:Nat}{ρ0 ρ1:Ren}{W0 w0:H}{V0 V O O0:Nat->Prop}{f:ba}{c c':Ly}{tm0 tm:Array M}{k:List Item}{cs:List Kf}{Q1:Array M->H->Prop}
  (a4:∀f,T.has f=true->dX T P f=true)(hc:wC T P (T.kind f) c c')(a2:ir T P N V0 O0 w0 ρ0 ρ1 W0 w V O)(b1:KR (T.kind f) ρ1 tm0 tm)
  (b2:∀j,nA P c (λ_ _=>False) (λa W=>a.defers=[]/\Q1 a.tmps W) ⟨tm0,[]⟩ (tp W0 j W0.drawn))
  (a3:∀Z x b i bj p q,Q1 x b->KR (T.kind f) Z x i->ir T P N V0 O0 w0 ρ0 Z b bj p q->WalkE P main Stop p q (G ((bs .normal f).at ⟨i,[]⟩ (.code T.rest::k)) cs) bj):
  WalkE P main Stop V O (G ((bs .normal f).at ⟨tm,[]⟩ (.code c'::k)) cs) w:=by
 let Post:Kf->H->Prop:=λfr W=>∃a:Act,a.defers=[]/\fr=(bs .normal f).at a [.code (.refuse "cut")]/\Q1 a.tmps W
 let s:LS:=⟨(bs .normal f).at ⟨tm0,[]⟩ [.code c],[c0],W0⟩
 have u:oz P true Post s:=by
  intro j;obtain⟨a,b,⟨m,-⟩|⟨⟨l,o⟩,a5⟩⟩:=b2 j (bs .normal f) [c0]
  .exact m.elim
  .exact⟨j,λ_ _=>rfl,_,b,steps_iff.1 a5,⟨rfl,rfl,.inr rfl⟩,a,l,rfl,o⟩
 have d:Nh T P N k [] (cs,.normal) V0 O0 w0 ρ0 ρ1 s ((bs .normal f).at ⟨tm,[]⟩ (.code c'::k)) cs w V O:=
  ⟨a2,.bottom (co:=(cs,.normal)) ⟨rfl,b1,⟨[.code c'],rfl,.cons (.cut hc) .nil⟩,⟨[],rfl,.nil⟩,rfl,.inl rfl,⟨rfl,λe=>by cases e⟩,.none⟩ rfl rfl⟩
 refine(lift (Stop:=λV O g bj=>WalkE P main Stop V O g bj) a4 (λh=>by cases h) (λZ eI b da bj V O d b8 a0=>?_) (kN u) d u).bind λV O g w h=>h;obtain⟨a,l,rfl,o⟩:=a0;obtain⟨k0,b7,m,a6,-⟩:=d.stk.top;obtain⟨a8,a7, -, b9,a9⟩:=a6 rfl;subst a8 a7;obtain⟨f',i,b6,y,b5,b4,v⟩:=da;obtain⟨J,h2,⟨t,K,L⟩,⟨t',R,S⟩,U, -, -, h9⟩:=m;have e1:f'=f:=J;have z:b4=.normal:=a9;have A:b5=.run:=U;have B:v=I:=by
  have a1:RD Z I v:=h9;cases a1;rfl
 have C:b6=.code T.rest::k0:=by
  have Q:L2 (xH T P f Z) [.code (.refuse "cut")] t:=L
  cases Q with
  | cons b3 a'=>
   cases a'
   cases b3 with
   | code n=>simp[ez]at n
   | cut n=>cases n;exact K
 have E:y=[]:=by
  have r:L2 (FK Z) a.defers t':=S;rw[l]at r;cases r;exact R
 subst e1 z A B C E;exact a3 Z a.tmps b i bj V O o h2 d.m
end Go.Co
namespace Go.Proofs.YtfcgpihkimpkcaaGreatDoor
open Go.RowKit Go.Co
variable{K R:Act->H->Prop}{fn:ba}{args:Array M}{v:M}{E S:H->Prop}{w w':H}{ops:Array Kp}{n d j i g k off m cp z:Nat}{f:Nat->M}{oi o:Kp}{rest:List Nat}{Q:Exit->Act->H->Prop}{md:Region.Mode}{late:Nat->Bool}{L:Array Bool}{Z:ae->M}{x y c:ae}{a b:Int}{t':Lk}{r q p:Bool}
section
variable{t:Bool}
def eE(b:oi.guard=Y (j,t))(c:(ops[j]?).bind (·.dst)=Y g)(d:g<n)(a:f g=.bool t):Region.wanted oi (aw ops (fa n f).tmps)=true:=by
 unfold Region.wanted;rw[b];simp only[xM c d a,beq_self_eq_true]
def jc(b:oi.guard=Y (j,t))(c:(ops[j]?).bind (·.dst)=Y g)(d:g<n)(a:f g=.bool (!t)):Region.wanted oi (aw ops (fa n f).tmps)=false:=by
 unfold Region.wanted;rw[b];simp only[xM c d a];cases t<;>rfl
def ZE(v:M)(hi:ops[i]?=Y oi)(a:oi.dst=Y d)(b:d<n)(c:Region.wanted oi (aw ops (fa n f).tmps)=true)(e:(Hn (fa n f).eval oi).run F w=.ok (.value v) w')(h:K (fa n (ah f d v)) w'):wpOp F ops Q i K (fa n f) w:=by
 unfold wpOp;simp only[hi,c,if_true,Kp.wp,e,Kp.upon];rw[a,cw b];exact .inl h
def Vg(hi:ops[i]?=Y oi)(a:oi.dst=Y d)(c:d<n)(j:Region.wanted oi (aw ops (fa n f).tmps)=true)(k:(Hn (fa n f).eval oi).run F w=.ok (.enter fn args) w)
  (hc:PH F fn args w λe w'=>e=.returned v/\E w')(h:∀w',E w'->K (fa n (ah f d v)) w'):wpOp F ops Q i K (fa n f) w:=by
 unfold wpOp;simp only[hi,j,if_true,Kp.wp,k,Kp.upon_enter];refine .inl (hc.mono λe w' b=>?_);obtain⟨rfl,g⟩:=b;show K ((fa n f).put oi.dst v) w';rw[a,cw c];exact h w' g
def ZG(hi:ops[i]?=Y oi)(a:oi.dst=Y d)(b:d<n)(c:Region.wanted oi (aw ops (fa n f).tmps)=false)(h:K (fa n (ah f d D)) w):wpOp F ops Q i K (fa n f) w:=by
 unfold wpOp;simp only[hi,c,kx,if_false];rw[a,cw b];exact h
def abf(hi:ops[i]?=Y oi)(a:oi.dst=I)(b:Region.wanted oi (aw ops (fa n f).tmps)=true)(c:(Hn (fa n f).eval oi).run F w=.ok .skip w')(h:K (fa n f) w'):wpOp F ops Q i K (fa n f) w:=by
 unfold wpOp;simp only[hi,b,if_true,Kp.wp,c,Kp.upon];rw[a];exact .inl h
def lV(v:M)(hi:ops[i]?=Y oi)(a:oi.dst=Y d)(b:d<n)(c:Region.wanted oi (aw ops (fa n f).tmps)=true)(e:(Hn (fa n f).eval oi).run F w=.ok (.value v) w')(h:wpOps F ops Q rest (fa n (ah f d v)) w'):wpOps F ops Q (i::rest) (fa n f) w:=by
 rw[wpOps_cons];exact ZE v hi a b c e h
def lN(hi:ops[i]?=Y oi)(a:oi.dst=Y d)(b:d<n)(c:Region.wanted oi (aw ops (fa n f).tmps)=false)(h:wpOps F ops Q rest (fa n (ah f d D)) w):wpOps F ops Q (i::rest) (fa n f) w:=by
 rw[wpOps_cons];exact ZG hi a b c h
def lS(hi:ops[i]?=Y oi)(a:oi.dst=I)(b:Region.wanted oi (aw ops (fa n f).tmps)=true)(c:(Hn (fa n f).eval oi).run F w=.ok .skip w')(h:wpOps F ops Q rest (fa n f) w'):wpOps F ops Q (i::rest) (fa n f) w:=by
 rw[wpOps_cons];exact abf hi a b c h
def lC(hi:ops[i]?=Y oi)(a:oi.dst=Y d)(b:d<n)(c:Region.wanted oi (aw ops (fa n f).tmps)=true)(g:(Hn (fa n f).eval oi).run F w=.ok (.enter fn args) w)
  (hc:PH F fn args w λe w'=>e=.returned v/\E w')(h:∀w',E w'->wpOps F ops Q rest (fa n (ah f d v)) w'):wpOps F ops Q (i::rest) (fa n f) w:=by
 rw[wpOps_cons];exact Vg hi a b c g hc h
def lE(h:Q .normal (fa n f) w):wpOps F ops Q [] (fa n f) w:=h
def tV(v:M)(hi:ops[i]?=Y oi)(b:oi.dst=Y d)(g:d<n)(m:Region.wanted oi (aw ops (fa n f).tmps)=true)(l:Region.noSelect ops=true)(c:Region.free md ops L i=true)(j:(Region.ready md ops L).contains i=true)(e:nN md ops late i=true)
  (o:∀w',S w'->(Hn (fa n f).eval oi).run F w'=.ok (.value v) w')(a:S w)
  (h:wpAnyL F md ops (aR R) S late k (L.setIfInBounds i true) (fa n (ah f d v)) w):wpAnyL F md ops (aR R) S late (k+1) L (fa n f) w:=
 dN (v:=v) hi l c j e (λ_ _ _ h=>h) (.inl ⟨m,o⟩) a (by rw[b,cw g];exact h)
def tN(hi:ops[i]?=Y oi)(b:oi.dst=Y d)(g:d<n)(m:Region.wanted oi (aw ops (fa n f).tmps)=false)(l:Region.noSelect ops=true)(c:Region.free md ops L i=true)(j:(Region.ready md ops L).contains i=true)(e:nN md ops late i=true)(a:S w)
  (h:wpAnyL F md ops (aR R) S late k (L.setIfInBounds i true) (fa n (ah f d D)) w):wpAnyL F md ops (aR R) S late (k+1) L (fa n f) w:=
 dN (v:=D) hi l c j e (λ_ _ _ h=>h) (.inr ⟨m,rfl⟩) a (by rw[b,cw g];exact h)
def tC(j:Region.ready md ops L=[i])(hi:ops[i]?=Y oi)(b:oi.dst=Y d)(g:d<n)(l:Region.wanted oi (aw ops (fa n f).tmps)=true)(o:(Hn (fa n f).eval oi).run F w=.ok (.enter fn args) w)
  (hc:PH F fn args w λe w'=>e=.returned v/\E w')(h:∀w',E w'->S w'/\wpAnyL F md ops (aR R) S late k (L.setIfInBounds i true) (fa n (ah f d v)) w'):wpAnyL F md ops (aR R) S late (k+1) L (fa n f) w:=by
 refine bl [i] j ss λm c=>?_;obtain rfl:=ib.1 c;exact Vg hi b g l o hc λw' a=>⟨λ_=>(h w' a).1,(h w' a).2⟩
end
def gy(n:Nat){F:Func}{c:Ly}{A:Array M}{R:Ending->H->Prop}(b:Hb.funcs[fn]?=Y F)(a:F.body=Y c)(d:A.size+(F.ntmps-A.size)=n)(h:∀f:Nat->M,(∀i,f i=A.getD i D)->Ly.wp Hb c (bodyPost Hb F R) (fa n f) w):PH Hb fn A w R:=by
 refine calls_of_wp b a ?_;rw[iu d];exact h _ λ_=>rfl
theorem Ib{g:Nat}{b:aC}(h:aK w g 31 b):(Instr.loadAt 31 (.pointer (Y (g,0)))).run F w=.ok b.v w:=by
 obtain⟨a,c,i,j,k,l,m,n,o,p,d,e,f⟩:=aM h;unfold aC.v;go_simp
def ag{n t:Nat}{f:Nat->M}(h:t<n)(e:f t=v):(fa n f).eval (.tmp t)=v:=(fe h).tn e
def ZK(s:Nat):List Nat:=if s=31 then[0,1,2,3,5,6,8,10,11,12]else if s=80 then[0,1,2]else if s=33\/s=23\/s=26\/s=100\/s=55 then[0,1]else[]
def Sm(x:Int):Prop:= -9223372036854775808<=x/\x<=9223372036854775807
structure yW(x y:M):Prop where h:x=y
def ZL(t:Nat):Option Nat:=if t=27\/t=28 then Y 2 else if t=29 then Y 3 else I
def TG:BinOp->Option (Int->Int->Bool)
 | .lss=>Y λa b=>decide (a<b)
 | .leq=>Y λa b=>decide (a<=b)
 | .gtr=>Y λa b=>decide (b<a)
 | .geq=>Y λa b=>decide (b<=a)
 | .eql=>Y λa b=>a==b
 | .neq=>Y λa b=>a != b
 | _=>I
section
variable{t t':Lk}
def bq(a:o.op=.move x\/o.op=.assign x)(b:Z x=v):(Hn Z o).run F w=.ok (.value v) w:=by
 unfold Hn;rcases a with h|h<;>simp only[h,b]<;>rfl
theorem dm{xs:Array ae}{ts:Array Lk}(b:o.op=.call {callee:=.value (.func fn),args:=xs,argTypes:=ts})(a:xs.map Z=args)(c:Z (.func fn)=.func (.func fn) #[] #[])
  (hc:(callFunc fn args).run F w=.ok (.enter fn args) w):(Hn Z o).run F w=.ok (.enter fn args) w:=xaH
theorem j0(a:o.op=.unOp .not t x)(c:Z x=.bool r)(b:yW (.bool (!r)) v):(Hn Z o).run F w=.ok (.value v) w:=xbz
theorem aa6(a:o.op=.pick c x y)(hc:Z c=.bool r)(b:(if r then Z x else Z y)=v):(Hn Z o).run F w=.ok (.value v) w:=by
 subst b;unfold Hn;simp only[a,hc];cases r<;>go_simp
theorem abc(a:o.op=.binOp .eql 4 x y 4)(d:Z x=.bool r)(e:Z y=.bool q)(b:(r==q)=p)(c:yW (.bool p) v):(Hn Z o).run F w=.ok (.value v) w:=by
 subst b;obtain⟨rfl⟩:=c;unfold Hn;simp only[a,d,e];go_simp
theorem Vh(a:o.op=.binOp .neq 4 x y 4)(d:Z x=.bool r)(e:Z y=.bool q)(b:(r != q)=p)(c:yW (.bool p) v):(Hn Z o).run F w=.ok (.value v) w:=by
 subst b;obtain⟨rfl⟩:=c;unfold Hn;simp only[a,d,e];cases r<;>cases q<;>go_simp
theorem Sr{op:BinOp}{F:Int->Int->Bool}(c:o.op=.binOp op t x y t')(hF:TG op=Y F)(f:Z x=.int .i64 a)(g:Z y=.int .i64 b)(d:F a b=r)(e:yW (.bool r) v):(Hn Z o).run Hb w=.ok (.value v) w:=by
 subst d;obtain⟨rfl⟩:=e;unfold Hn;simp only[c,f,g];cases op<;>cases hF<;>go_simp
def gE{B:aC}(b:o.op=.load 31 x)(d:Z x=.pointer (Y (g,0)))(a:aK w g 31 B)(c:yW (B.v) v):(Hn Z o).run F w=.ok (.value v) w:=by
 have h:=(Ib a);obtain⟨rfl⟩:=c;unfold Hn;simp only[b,d];simp[h]
theorem qM{sh:Int}{s:Sl}(a:o.op=.load 33 x)(c:Z x=.pointer (Y (g,0)))(d:w (g,0)=Y (.int .i64 sh))(e:w (g,1)=Y (.slice s.A s.n s.c))(b:yW (aF sh s) v):(Hn Z o).run F w=.ok (.value v) w:=by
 obtain⟨rfl⟩:=b;unfold Hn aF;simp only[a,c];go_simp
theorem Xo{h s:Int}(a:o.op=.load 80 x)(c:Z x=.pointer (Y (g,off)))(d:w (g,off)=Y (.int .i64 h))(e:w (g,off+1)=Y (.int .i64 s))(h2:w (g,off+2)=Y (.bool r))(b:yW (.agg #[.int .i64 h,.int .i64 s,.bool r]) v):(Hn Z o).run F w=.ok (.value v) w:=xbz
theorem TH{s:Nat}(b:o.op=.fieldAddr s x k)(a:(ZK s)[k]?=Y z)(c:Z x=.pointer (Y (g,off)))(d:yW (.pointer (Y (g,off+z))) v):(Hn Z o).run F w=.ok (.value v) w:=by
 obtain⟨rfl⟩:=d;unfold Hn;simp only[b,c];clear b c;unfold ZK at a;repeat' split at a
 .subst s;iterate 10 (rcases k with _|k; · cases a;go_simp)
  cases a
 .subst s;iterate 3 (rcases k with _|k; · cases a;go_simp)
  cases a
 .rename_i h;iterate 2 (rcases k with _|k; · cases a;rcases h with rfl|rfl|rfl|rfl|rfl<;>go_simp)
  cases a
 .cases a
theorem abe(b:o.op=.load t x)(a:[3,4,24,27,28,29,36].contains t=true)(c:Z x=.pointer (Y (g,off)))(hc:w (g,off)=Y v):(Hn Z o).run F w=.ok (.value v) w:=by
 unfold Hn;simp only[b,c];simp at a;rcases a with rfl|rfl|rfl|rfl|rfl|rfl|rfl<;>go_simp
theorem Xp(a:o.op=.indexAddr 24 x y)(c:Z x=.slice (Y (g,off)) m cp)(d:Z y=.int .i64 k)(hk:k<m)(b:yW (.pointer (Y (g,off+k))) v):(Hn Z o).run F w=.ok (.value v) w:=by
 obtain⟨rfl⟩:=b;unfold Hn;simp only[a,c,d];go_simp
theorem Vj(b:o.op=.indexAddr t x y)(a:ZL t=Y z)(d:Z x=.slice (Y (g,off)) m cp)(e:Z y=.int .i64 k)(hk:k<m)(c:yW (.pointer (Y (g,off+k*z))) v):(Hn Z o).run F w=.ok (.value v) w:=by
 obtain⟨rfl⟩:=c;unfold Hn;simp only[b,d,e];unfold ZL at a;split at a
 .rename_i h;cases a;rcases h with rfl|rfl<;>go_simp
 .split at a
  .rename_i h;cases a;subst h;go_simp
  .cases a
theorem SF{A:Option Addr}(b:o.op=.call {callee:=.builtin .len,args:= #[x],argTypes:= #[t]})(a:[24,27,28,29].contains t=true)(c:o.type=3)(e:Z x=.slice A m cp)(d:yW (.int .i64 m) v):(Hn Z o).run F w=.ok (.value v) w:=by
 obtain⟨rfl⟩:=d;unfold Hn;simp only[b,ab,zM,e,c];simp at a;rcases a with rfl|rfl|rfl|rfl<;>go_simp
theorem AW(c:o.op=.binOp .sub 3 x y 3)(e:Z x=.int .i64 a)(f:Z y=.int .i64 b)(h:Sm (a-b))(d:yW (.int .i64 (a-b)) v):(Hn Z o).run F w=.ok (.value v) w:=xaA
theorem XM{z:ae}{c:Int}(d:o.op=.call {callee:=.builtin .max,args:= #[x,y,z],argTypes:= #[3,3,3]})(e:o.type=3)(g:Z x=.int .i64 a)(h:Z y=.int .i64 b)(i:Z z=.int .i64 c)(f:yW (.int .i64 (max (max a b) c)) v):(Hn Z o).run F w=.ok (.value v) w:=by
 obtain⟨rfl⟩:=f;unfold Hn;simp only[d,ab,zM,g,h,i,e];go_simp;repeat (first|omega|split)
theorem E4(c:o.op=.binOp .add 3 x y 3)(e:Z x=.int .i64 a)(f:Z y=.int .i64 b)(h:Sm (a+b))(d:yW (.int .i64 (a+b)) v):(Hn Z o).run F w=.ok (.value v) w:=xaA
end
section
variable{n id N:Nat}{w:H}{f:Nat->M}{p:Prop}{Z:ae->M}{x y z:ae}{a b c v:M}{r:Bool}{Q:Exit->Act->H->Prop}
def Rs(n:Nat)(u:H)(f:Nat->M)(keep:Nat->Prop)(p:(Nat->M)->Prop)(a:Act)(w:H):Prop:=∃f',a=fa n f'/\X u u w/\(∀i,keep i->f' i=f i)/\p f'
def Rs.mk{u w:H}{f f':Nat->M}{keep:Nat->Prop}{p:(Nat->M)->Prop}(a:X u u w)(hk:∀i,keep i->f' i=f i)(b:p f'):aR (Rs n u f keep p) .normal (fa n f') w:=⟨f',rfl,a,hk,b⟩
def XF(b:Z x=a):(#[x]).map Z= #[a]:=by simp[b]
def MJ(c:Z x=a)(d:Z y=b):(#[x,y]).map Z= #[a,b]:=by simp[c,d]
def MK(d:Z x=a)(e:Z y=b)(h2:Z z=c):(#[x,y,z]).map Z= #[a,b,c]:=by simp[d,e,h2]
def XG{x y z u:ae}{a b c d:M}(e:Z x=a)(f:Z y=b)(h2:Z z=c)(g:Z u=d):(#[x,y,z,u]).map Z= #[a,b,c,d]:=by simp[e,f,h2,g]
def fG:Ly:=match Tryz.f14.body with|some c=>c|_=>.skip
def ZI:Array Kp:=br [0] fG
def Vo:Array Kp:=br [1,0,0] fG
def P6:Array Kp:=br [1,0,1,0] fG
def Vp:Array Kp:=br [1,0,1,1,4,0] fG
def P7:Array Kp:=br [1,1,0,0] fG
def Vq:Array Kp:=br [1,1,0,1,4,0] fG
def Vr:Array Kp:=br [1,1,1,0,0] fG
def ux:Ly:=dk [1,1,1,0,1,2,3] fG
def P8:Array Kp:=br [0,0] ux
def P9:Array Kp:=br [1,0,2,0,0] ux
def Qa:Array Kp:=br [1,0,2,0,1,4,0] ux
def Ig:Array Kp:=br [1,0,2,1,0] ux
def Qb:Array Kp:=br [1,0,2,1,1,4,0] ux
def Vt:Array Kp:=br [1,1] ux
def Ih:Array Kp:=br [1,1,1,1,0,0] fG
def Qc:Array Kp:=br [1,1,1,1,0,1,4,0] fG
def Qd:Array Kp:=br [1,1,1,1,1,0,0] fG
def uy:Ly:=dk [1,1,1,1,1,0,1,2,3] fG
def Ii:Array Kp:=br [0,0] uy
def B6:Array Kp:=br [1,0,2,0,0] uy
def Qe:Array Kp:=br [1,0,2,0,1,4,0] uy
def Ij:Array Kp:=br [1,0,2,1,0] uy
def Qf:Array Kp:=br [1,0,2,1,1,4,0] uy
def Qg:Array Kp:=br [1,1] uy
def Ik:Array Kp:=br [1,1,1,1,1,1,0,0] fG
def Qh:Array Kp:=br [1,1,1,1,1,1,0,1,4,0] fG
def Qi:Array Kp:=br [1,1,1,1,1,1,1,0,0] fG
def za:Ly:=dk [1,1,1,1,1,1,1,0,1,2,3] fG
def Il:Array Kp:=br [0,0] za
def B7:Array Kp:=br [1,0,2,0] za
def Qj:Array Kp:=br [1,0,2,1,4,0] za
def Qk:Array Kp:=br [1,1] za
def Ql:Array Kp:=br [1,1,1,1,1,1,1,1,0] fG
def ML:fG=.seq (.region 0 ZI false) (.seq (.seq (.region 1 Vo false) (.seq (.region 2 P6 false) (.cond (.tmp 10) (.seq (.region 3 Vp false) (.ret)) (.skip)))) (.seq (.seq (.region 4 P7 false) (.cond (.tmp 16) (.seq (.region 5 Vq false) (.ret)) (.skip))) (.seq (.seq (.region 6 Vr false) (.block 0 (.loop ux))) (.seq (.seq (.region 13 Ih false) (.cond (.tmp 44) (.seq (.region 14 Qc false) (.ret)) (.skip))) (.seq (.seq (.region 15 Qd false) (.block 2 (.loop uy))) (.seq (.seq (.region 22 Ik false) (.cond (.tmp 91) (.seq (.region 23 Qh false) (.ret)) (.skip))) (.seq (.seq (.region 24 Qi false) (.block 4 (.loop za))) (.seq (.region 29 Ql false) (.ret))))))))):=rfl
def Qm:ux=.seq (.seq (.region 7 P8 false) (.cond (.tmp 21) (.skip) (.exit 0))) (.seq (.block 1 (.seq (.seq (.region 9 P9 true) (.cond (.tmp 32) (.seq (.region 10 Qa false) (.ret)) (.skip))) (.seq (.region 11 Ig false) (.cond (.tmp 40) (.seq (.region 12 Qb false) (.ret)) (.skip))))) (.region 8 Vt false)):=rfl
def Qn:uy=.seq (.seq (.region 16 Ii false) (.cond (.tmp 49) (.skip) (.exit 2))) (.seq (.block 3 (.seq (.seq (.region 18 B6 true) (.cond (.tmp 77) (.seq (.region 19 Qe false) (.ret)) (.skip))) (.seq (.region 20 Ij true) (.cond (.tmp 87) (.seq (.region 21 Qf false) (.ret)) (.skip))))) (.region 17 Qg false)):=rfl
def Qo:za=.seq (.seq (.region 25 Il false) (.cond (.tmp 96) (.skip) (.exit 4))) (.seq (.block 5 (.seq (.region 27 B7 true) (.cond (.tmp 118) (.seq (.region 28 Qj false) (.ret)) (.skip)))) (.region 26 Qk false)):=rfl
def Oh{d i:Nat}(e:f i=a)(h:Nat.beq i d=false:=by exact rfl):ah f d v i=a:=(cd (Nat.ne_of_beq_eq_false h)).tn e
def Ls{n t:Nat}(e:f t=v)(h:t<n:=by omega):(fa n f).eval (.tmp t)=v:=(fe h).tn e
def Tv:(fa n f).eval (.const v)=v:=rfl
def vq{x:M}:yW x x:=⟨rfl⟩
def XH{x:Bool}:x=x:=rfl
def dT[Decidable p](h:p)(e:true=r):decide p=r:=(decide_eq_true h).tn e
def dF[Decidable p](h:¬p)(e:false=r):decide p=r:=(decide_eq_false h).tn e
structure At(j:Nat)(p:Prop):Prop where h:p
structure Ac(j:Nat)(p:Prop):Prop where h:p
section
variable{ops:Array Kp}{oi:Kp}{i d n k j:Nat}{rest:List Nat}{f:Nat->M}{u w:H}{Q:Exit->Act->H->Prop}{md:Region.Mode}{L:Array Bool}{late:Nat->Bool}{R:Act->H->Prop}{fn:ba}{xs:Array ae}{ts:Array Lk}{v v':M}{args:Array M}
def XI(hi:ops[i]?=Y oi)(a:oi.dst=Y d)(c:Region.wanted oi (aw ops (fa n f).tmps)=true)(hB:X u u w)(h:∃v,(∀w',X u u w'->(Hn (fa n f).eval oi).run F w'=.ok (.value v) w')/\wpOps F ops Q rest (fa n (ah f d v)) w)(b:d<n:=by omega):wpOps F ops Q (i::rest) (fa n f) w:=let⟨v,hy,h⟩:=h;lV v hi a b c (hy w hB) h
def XJ(hi:ops[i]?=Y oi)(a:oi.dst=Y d)(c:Region.wanted oi (aw ops (fa n f).tmps)=false)(h:wpOps F ops Q rest (fa n (ah f d D)) w)(b:d<n:=by omega):wpOps F ops Q (i::rest) (fa n f) w:=lN hi a b c h
def Lv(o:Kp):Bool:=match o.op with|.call c=>(match c.callee with|.builtin _=>true|_=>false)|_=>true
def XO(_:Nat.blt j ops.size=true)(h:At (j+1) (wpAnyL F md ops (aR R) (λa=>X u u a) late k L (fa n f) w)):At j (wpAnyL F md ops (aR R) (λa=>X u u a) late k L (fa n f) w):=⟨h.h⟩
def XP(_:L.getD j true=false)(hi:ops[j]?=Y oi)(_:Lv oi=true)(b:oi.dst=Y d)(m:Region.wanted oi (aw ops (fa n f).tmps)=true)(hB:X u u w)
  (h:∃v,(∀w',X u u w'->(Hn (fa n f).eval oi).run F w'=.ok (.value v) w')/\At (j+1) (wpAnyL F md ops (aR R) (λa=>X u u a) late k (L.setIfInBounds j true) (fa n (ah f d v)) w))
  (g:d<n:=by omega)(l:Region.noSelect ops=true:=by kernel_rfl)(c:Region.free md ops L j=true:=by kernel_rfl)(i:(Region.ready md ops L).contains j=true:=by kernel_rfl)(e:nN md ops late j=true:=by kernel_rfl):At j (wpAnyL F md ops (aR R) (λa=>X u u a) late (k+1) L (fa n f) w):=let⟨v,hy,h⟩:=h;⟨tV v hi b g m l c i e hy hB h.h⟩
def XQ(_:L.getD j true=false)(hi:ops[j]?=Y oi)(b:oi.dst=Y d)(m:Region.wanted oi (aw ops (fa n f).tmps)=false)(hB:X u u w)
  (h:At (j+1) (wpAnyL F md ops (aR R) (λa=>X u u a) late k (L.setIfInBounds j true) (fa n (ah f d D)) w))
  (g:d<n:=by omega)(l:Region.noSelect ops=true:=by kernel_rfl)(c:Region.free md ops L j=true:=by kernel_rfl)(i:(Region.ready md ops L).contains j=true:=by kernel_rfl)(e:nN md ops late j=true:=by kernel_rfl):At j (wpAnyL F md ops (aR R) (λa=>X u u a) late (k+1) L (fa n f) w):=⟨tN hi b g m l c i e hB h.h⟩
def adc(_:Nat.blt j ops.size=true)(h:Ac (j+1) (wpAnyL F md ops (aR R) (λa=>X u u a) late k L (fa n f) w)):Ac j (wpAnyL F md ops (aR R) (λa=>X u u a) late k L (fa n f) w):=⟨h.h⟩
def Xs(fn:ba)(xs:Array ae)(a:Act)(u w:H)(p:M->H->Prop):Prop:=∃args v,xs.map a.eval=args/\(callFunc fn args).run F w=.ok (.enter fn args) w/\PH F fn args w (λe w'=>e=.returned v/\X w w w')/\∀w',X u u w'->p v w'
def XR(hi:ops[i]?=Y oi)(e:oi.op=.call {callee:=.value (.func fn),args:=xs,argTypes:=ts})(b:oi.dst=Y d)(g:Region.wanted oi (aw ops (fa n f).tmps)=true)(hB:X u u w)
  (h:Xs fn xs (fa n f) u w λv w'=>wpOps F ops Q rest (fa n (ah f d v)) w')(c:d<n:=by omega):wpOps F ops Q (i::rest) (fa n f) w:=
 let⟨_,_,ha,hf,hc,h⟩:=h;lC hi b c g (dm e ha rfl hf) hc λw' a=>h w' (hB.tn (a.mono hB.size))
def XS(_:L.getD j true=false)(hi:ops[j]?=Y oi)(g:oi.op=.call {callee:=.value (.func fn),args:=xs,argTypes:=ts})(c:oi.dst=Y d)(l:Region.wanted oi (aw ops (fa n f).tmps)=true)(hB:X u.heap.size u w)
  (h:Xs fn xs (fa n f) u w λv w'=>At (j+1) (wpAnyL F md ops (aR R) (λa=>X u.heap.size u a) late k (L.setIfInBounds j true) (fa n (ah f d v)) w'))(e:d<n:=by omega)(i:Region.ready md ops L=[j]:=by kernel_rfl):Ac j (wpAnyL F md ops (aR R) (λa=>X u.heap.size u a) late (k+1) L (fa n f) w):=
 let⟨_,_,ha,hf,hc,h⟩:=h;⟨tC i hi c e l (dm g ha rfl hf) hc λw' b=>⟨hB.tn (b.mono hB.size),(h w' (hB.tn (b.mono hB.size))).h⟩⟩
def kE(h:PH F fn args w λe w'=>e=.returned v/\w=w')(e:v=v'):PH F fn args w λe w'=>e=.returned v'/\X w w w':=h.mono λ_ _ h=>⟨e▸h.1,h.2▸X.refl _ _⟩
def kB(h:PH F fn args w λe w'=>e=.returned v/\X w w w')(e:v=v'):PH F fn args w λe w'=>e=.returned v'/\X w w w':=h.mono λ_ _ h=>⟨e▸h.1,h.2⟩
def ic(m:Nat){l:List Nat}{a:Act}(c:ops.size=m)(b:List.range m=l)(h:wpOps F ops Q l a w):Ly.wp F (.region id ops false) Q a w:=wF (by rw[c];exact b) h
def vB{a b:Bool}(h:a=b):M.bool a=.bool b:=h▸rfl
def vI{a b:Int}(h:a=b):M.int .i64 a=.int .i64 b:=h▸rfl
def Tn(hB:X u.heap.size u w){a:Act}(h:X u.heap.size u w.drew->At 0 (wpAnyL F .any ops Q (λb=>X u.heap.size u b) (λ_=>false) ops.size (Array.replicate ops.size false) a w.drew)):(Ly.region id ops true).wp F Q a w:=bK _ rR (h hB.drew).h
def XT{a:Act}(h:aR R .normal a w)(b:Region.ready md ops L=[]:=by kernel_rfl):Ac j (wpAnyL F md ops (aR R) (λc=>X u u c) late k L a w):=⟨cH b h k⟩
def Xt(h:Ac 0 p):At j p:=⟨h.h⟩
end
section
variable{Z:ae->M}{o:Kp}{w:H}{x y:ae}{v:M}{a c:Int}{t g i:Nat}
theorem Rq{k:Nat}{vs:Array M}(c:o.op=.extract x k)(d:Z x=.tuple vs)(a:vs[k]?=Y v):(Hn Z o).run F w=.ok (.value v) w:=by
 have b:=(du.1 a).1;unfold Hn;simp only[c,d];simp[go_sem,b,(du.1 a).2]
theorem Nj(b:o.op=.convert 5 3 x)(c:Z x=.int .u8 a)(h:0<=a/\a<=255)(e:yW (.int .i64 a) v):(Hn Z o).run F w=.ok (.value v) w:=by
 have ø:=0;exact xbP
theorem RI(d:o.op=.binOp .rem 3 x y 3)(f:Z x=.int .i64 a)(g:Z y=.int .i64 c)(b:0<=a/\a<=1000)(hc:0<c/\c<=1000)(e:yW (.int .i64 (a%c)) v):(Hn Z o).run F w=.ok (.value v) w:=by
 obtain⟨rfl⟩:=e;unfold Hn;simp only[d,f,g];go_simp;rw[cd zz,Int.tmod_eq_emod_of_nonneg b.1]
theorem abg(b:o.op=.call {callee:=.builtin .min,args:= #[x,y],argTypes:= #[3,3]})(d:o.type=3)(f:Z x=.int .i64 a)(g:Z y=.int .i64 c)(e:yW (.int .i64 (min a c)) v):(Hn Z o).run F w=.ok (.value v) w:=by
 obtain⟨rfl⟩:=e;unfold Hn;simp only[b,ab,zM,f,g,d];go_simp;repeat (first|omega|split)
theorem XK(b:o.op=.unOp .neg 3 x)(c:Z x=.int .i64 a)(h:Sm (-a))(e:yW (.int .i64 (-a)) v):(Hn Z o).run F w=.ok (.value v) w:=xbP
theorem abh(b:o.op=.build 55 #[(1,x)])(c:Z x=.int .i64 a)(e:yW (.agg #[.int .i64 0,.int .i64 a]) v):(Hn Z o).run F w=.ok (.value v) w:=by
 obtain⟨rfl⟩:=e;unfold Hn;simp only[b,zM,c];go_simp
theorem abk{off:Nat}(b:o.op=.load 55 x)(d:Z x=.pointer (Y (g,off)))(f:w (g,off)=Y (.int .i64 a))(h:w (g,off+1)=Y (.int .i64 c))(e:yW (.agg #[.int .i64 a,.int .i64 c]) v):(Hn Z o).run F w=.ok (.value v) w:=by
 obtain⟨rfl⟩:=e;unfold Hn;simp only[b,d];go_simp
end
structure Qz(q:Prop):Prop where h:q
def Tw{p q:Prop}(d:q)(h:Qz q->p:=by intro hqq;(repeat (first|((first|refine XI rfl rfl ?_ hB ?_|refine XP rfl rfl rfl rfl ?_ hB ?_);(first|exact bY rfl|(refine eE rfl rfl ?_ ?_;omega;focus ((repeat (first|exact au _ _ _|assumption|refine Oh ?_));done)));refine⟨?_,λf e=>?_,?_⟩;rotate_left;focus ((first|refine bq (.inl rfl) ?_|refine bq (.inr rfl) ?_|(refine TH (g:=?_) (off:=?_) rfl rfl ?_ ?_;rotate_left 2)|(refine abe (g:=?_) (off:=?_) rfl rfl ?_ ?_;rotate_left 2)|(refine aa6 (r:=?_) rfl ?_ ?_;rotate_left 1)|(refine abc (r:=?_) (q:=?_) (p:=?_) rfl ?_ ?_ ?_ ?_;rotate_left 3)|(refine Vh (r:=?_) (q:=?_) (p:=?_) rfl ?_ ?_ ?_ ?_;rotate_left 3)|(refine Sr (a:=?_) (b:=?_) (r:=?_) rfl rfl ?_ ?_ ?_ ?_;rotate_left 3)|(refine j0 (r:=?_) rfl ?_ ?_;rotate_left 1)|(refine Vj (g:=?_) (off:=?_) (m:=?_) (cp:=?_) (k:=?_) rfl rfl ?_ ?_ ?_ ?_;rotate_left 5)|(refine Xp (g:=?_) (off:=?_) (m:=?_) (cp:=?_) (k:=?_) rfl ?_ ?_ ?_ ?_;rotate_left 5)|(refine SF (A:=?_) (m:=?_) (cp:=?_) rfl rfl rfl ?_ ?_;rotate_left 3)|(refine E4 (a:=?_) (b:=?_) rfl ?_ ?_ ?_ ?_;rotate_left 2)|(refine AW (a:=?_) (b:=?_) rfl ?_ ?_ ?_ ?_;rotate_left 2)|(refine gE (g:=?_) (B:=?_) rfl ?_ ?_ ?_;rotate_left 2)|(refine qM (g:=?_) (sh:=?_) (s:=?_) rfl ?_ ?_ ?_ ?_;rotate_left 3)|(refine Xo (g:=?_) (off:=?_) (h:=?_) (s:=?_) (r:=?_) rfl ?_ ?_ ?_ ?_ ?_;rotate_left 5)|(refine XM (a:=?_) (b:=?_) (c:=?_) rfl rfl ?_ ?_ ?_ ?_;rotate_left 3)|(refine Nj (a:=?_) rfl ?_ ?_ ?_;rotate_left 1)|(refine RI (a:=?_) (c:=?_) rfl ?_ ?_ ?_ ?_ ?_;rotate_left 2)|(refine abg (a:=?_) (c:=?_) rfl rfl ?_ ?_ ?_;rotate_left 2)|(refine XK (a:=?_) rfl ?_ ?_ ?_;rotate_left 1)|(refine abh (a:=?_) rfl ?_ ?_;rotate_left 1)|(refine abk (g:=?_) (off:=?_) (a:=?_) (c:=?_) rfl ?_ ?_ ?_ ?_;rotate_left 4));all_goals first|(refine Ls ?_;(repeat (first|exact au _ _ _|assumption|refine Oh ?_));done)|exact Tv|(refine(dE rfl).tn ?_;first|(refine Ls ?_;(repeat (first|exact au _ _ _|assumption|refine Oh ?_));done)|exact Tv)|(refine(cd Bool.false_ne_true).tn ?_;first|(refine Ls ?_;(repeat (first|exact au _ _ _|assumption|refine Oh ?_));done)|exact Tv)|assumption|(refine Eq.tn (Below.cell (B:=?_) (w:=?_) ?_ ?_) ?_;rotate_left 2;assumption;assumption;assumption)|(refine Eq.tn (Below.block (B:=?_) (w:=?_) ?_ _ ?_) ?_;rotate_left 2;assumption;assumption;assumption)|(refine dT ?_ ?_;omega;exact rfl)|(refine dF ?_ ?_;omega;exact rfl)|(unfold Sm;omega)|omega|exact vq|exact XH))|((first|refine XJ rfl rfl ?_ ?_|refine XQ rfl rfl rfl ?_ hB ?_);(focus refine jc rfl rfl ?_ ?_;omega;(repeat (first|exact au _ _ _|assumption|refine Oh ?_));done))|refine XO rfl ?_));exact hqq.h):p:=h ⟨d⟩
def rr(h:p:=by((first|(refine Tn hB ?_;intro hB)|refine ic 1 rfl rfl ?_|refine ic 2 rfl rfl ?_|refine ic 3 rfl rfl ?_|refine ic 4 rfl rfl ?_|refine ic 5 rfl rfl ?_|refine ic 6 rfl rfl ?_|refine ic 7 rfl rfl ?_|refine ic 8 rfl rfl ?_|refine ic 9 rfl rfl ?_|refine ic 10 rfl rfl ?_|refine ic 11 rfl rfl ?_|refine ic 12 rfl rfl ?_|refine ic 13 rfl rfl ?_|refine ic 14 rfl rfl ?_|refine ic 15 rfl rfl ?_|refine ic 16 rfl rfl ?_|refine ic 17 rfl rfl ?_|refine ic 18 rfl rfl ?_|refine ic 19 rfl rfl ?_|refine ic 20 rfl rfl ?_|refine ic 21 rfl rfl ?_|refine ic 22 rfl rfl ?_|refine ic 23 rfl rfl ?_|refine ic 24 rfl rfl ?_|refine ic 25 rfl rfl ?_|refine ic 26 rfl rfl ?_|refine ic 27 rfl rfl ?_|refine ic 28 rfl rfl ?_|refine ic 29 rfl rfl ?_|refine ic 30 rfl rfl ?_|refine ic 31 rfl rfl ?_|refine ic 32 rfl rfl ?_|refine ic 33 rfl rfl ?_);refine Tw ?_;(try refine Xt ?_);(repeat (first|(((first|refine XR rfl rfl rfl ?_ hB ?_|refine XS rfl rfl rfl rfl ?_ hB ?_);(first|exact bY rfl|(refine eE rfl rfl ?_ ?_;omega;focus ((repeat (first|exact au _ _ _|assumption|refine Oh ?_));done)));refine⟨?_,?_,?_,?_,?_,λe hB=>?_⟩;rotate_left 2;(focus ((first|(refine XF (a:=?_) ?_;rotate_left 1)|(refine MJ (a:=?_) (b:=?_) ?_ ?_;rotate_left 2)|(refine MK (a:=?_) (b:=?_) (c:=?_) ?_ ?_ ?_;rotate_left 3)|(refine XG (a:=?_) (b:=?_) (c:=?_) (d:=?_) ?_ ?_ ?_ ?_;rotate_left 4));all_goals first|(refine Ls ?_;(repeat (first|exact au _ _ _|assumption|refine Oh ?_));done)|exact Tv));exact rfl;(first|exact hc _ hB|exact hcon _ hB|exact hcon2 _ hB|exact hcon3 _ hB|((first|refine kE (bz _ _ _ _) ?_|(refine kB (rH _ _ ?_ ?_ _) ?_;assumption;assumption)|(refine kB (rI _ _ ?_ _) ?_;assumption));(first|(refine vB (b:=?_) ?_;rotate_left;assumption)|(refine vI (b:=?_) ?_;rotate_left;assumption)|exact rfl))));refine Tw ?_;(try refine Xt ?_))|refine adc rfl ?_));(first|refine XT ?_|refine lE ?_);refine Rs.mk hB (λi hi=>?_) ?_;(focus ((repeat (refine(cu _ _ ?_).tn ?_;omega));exact rfl));(first|exact rfl|exact⟨rfl,rfl⟩|exact db|(simp;done)))):p:=h
def bn{x y:Ly}(u:H)(keep:Nat->Prop)(p:(Nat->M)->Prop)(h:Ly.wp F x (aR (Rs N u f keep p)) (fa N f) w)(next:∀f' w',X u u w'->(∀i,keep i->f' i=f i)->p f'->Ly.wp F y Q (fa N f') w'):Ly.wp F (.seq x y) Q (fa N f) w:=
 wp_seq (wp_mono h λe a w' d=>by
  obtain⟨rfl,f',rfl,b,h2,c⟩:=d.elim;exact next f' w' b h2 c)
def To{x:Ly}(u:H)(keep:Nat->Prop)(p:(Nat->M)->Prop)(h:Ly.wp F x (aR (Rs N u f keep p)) (fa N f) w)(next:∀f' w',X u.heap.size u w'->(∀i,keep i->f' i=f i)->p f'->Q .normal (fa N f') w'):Ly.wp F x Q (fa N f) w:=
 wp_mono h λe a w' d=>by
  obtain⟨rfl,f',rfl,b,h2,c⟩:=d.elim;exact next f' w' b h2 c
end
variable{l:List (Int×Int)}{N:Nat}{u:H}{keep:Nat->Prop}{p:(Nat->M)->Prop}{x y:Ly}{b:aC}
def sF{n t k:Nat}{f:Nat->M}(h:t<n)(e:f t=.int .i64 k):(intOf ((fa n f).tmps.getD t D)).toNat=k:=by
 rw[Array.getD_eq_getD_getElem?,ej h,e];simp[intOf]
def Lp(N:Nat)(u:H)(f:Nat->M)(R:Int)(e:Exit)(a:Act)(w:H):Prop:=(e=.normal/\R=0/\∃f',a=fa N f'/\X u u w/\f' 1=f 1)\/(e=.ret/\R≠0/\∃f',a=fa N f'/\X u u w/\f' 2=.int .i64 R)
def TK(a4:aK u g 31 b)(a5: -1000<=b.S)(a6:b.S<=1000)(K:f 1=(g,0))(a3:g<u)(x10:u (g,10)=Y (.slice b.U.A b.U.n b.U.c))(C:bp u b.U l)(h4:f 4=.int .i64 (0:Nat))(hB:X u u w):
  Ly.wp F (.block 0 (.loop ux)) (Lp 119 u f (nD b.S l)) (fa 119 f) w:=by
 have ø:=0;exact sT
def TL(x6:u (g,6)=Y (.int .i64 b.rf))(a':2<=b.rf)(a0:b.rf<=30)(x9:u (g,9)=Y (.int .i64 b.ch))(K:f 1=(g,0))(a3:g<u)(x11:u (g,11)=Y (.slice b.E.A b.E.n b.E.c))(C:bp u b.E l)(h5:f 5=.int .i64 (0:Nat))(hB:X u u w):
  Ly.wp F (.block 2 (.loop uy)) (Lp 119 u f (nF b.rf b.ch l)) (fa 119 f) w:=by
 have å:=0;exact sT
def TM{l:List (Int×Int×Bool)}(a4:aK u g 31 b)(b1:b.U.n<=1000)(a5: -1000<=b.S)(a6:b.S<=1000)(K:f 1=(g,0))(a3:g<u)(x12:u (g,12)=Y (.slice b.W.A b.W.n b.W.c))(C:fL u b.W l)(h6:f 6=.int .i64 (0:Nat))(hB:X u u w):
  Ly.wp F (.block 4 (.loop za)) (Lp 119 u f (qi b.S b.U.n l)) (fa 119 f) w:=by
 have æ:=0;exact sT
variable{x:ae}
theorem B8{b:aC}(c:o.op=.box 31 x)(a:Z x=b.v):(Hn Z o).run F w=.ok (.value (.pointer (Y (w.heap.size,0)))) (w.alloc (aE b 31)):=by
 unfold aC.v at a;unfold Hn;simp only[c,a];unfold aE;go_simp;try rfl
def ZO{f:Nat->M}{r:Int}{w:H}(h:f 2=r):(results Tryz.f14 (fa 119 f).tmps).run F w=.ok (.int .i64 r) w:=by
 have e:(fa 119 f).tmps[2]?=Y (.int .i64 r):=by rw[ej zz,h]
 generalize(fa 119 f).tmps=A at e;unfold results Tryz.f14;simp[e]
def mm(b:aC)(l:bN)(w:H)(j:aI w b l):
  PH F 14 #[b.v] w λe w'=>e=.returned (.int .i64 (ay b l))/\X w w w':=by
 refine gy 119 Tryz.func14 (c:=fG) rfl rfl λf a2=>?_;have f0:f 0=b.v:=a2 _;clear a2;rw[ML];refine wp_seq (wF (l:=[0,1]) rfl ?_);refine lV (d:=1) (.pointer (Y ⟨w.heap.size,0,I⟩)) rfl rfl zz wnn (B8 rfl (ag (t:=0) zz f0)) ?_;refine lV (d:=2) (.int .i64 0) rfl rfl zz wnn (bq (.inr rfl) rfl) ?_;refine lE ?_;have x:aK (w.alloc (aE b 31)) w 31 b:=Sp _ _;have B:X w w (w.alloc (aE b 31)):=(X.refl _ _).alloc (dj _) _;have a6:(w.alloc (aE b 31)).heap.size=w.heap.size+1:=aa _ _;have j:=j.below B;have e1:ah (ah f 1 (.pointer (Y (w.heap.size,0)))) 2 (.int .i64 0) 1=.pointer (Y (w.heap.size,0)):=rfl;generalize ah (ah f 1 (.pointer (Y ⟨w.heap.size,0,I⟩))) 2 (.int .i64 0)=f1 at e1|-;generalize w.alloc (aE b 31)=u at x B a6 j|-;have E:(w:Nat)<u:=zz;generalize P:w.heap.size=g at e1 x E;have hB:X u u u:=X.refl _ _;have n:∀{f' w'},X u u w'->∀{r},f' 2=.int .i64 r->ay b l=r->bodyPost F Tryz.f14 (λe w'=>e=.returned (.int .i64 (ay b l))/\X g w w') .ret (fa 119 f') w':=λhB r h2 k=>by
  subst k;exact bd (v:=.int .i64 (ay b l)) (ZO h2) rfl ⟨rfl,P▸B.tn (hB.mono B.size)⟩
 obtain⟨r,k⟩:∃r,dZ b l.C=r:=⟨_,rfl⟩;have hc:=λw1 (h:X u.heap.size u w1)=>kB (Ic b l.C w1 (j.C.below h)) (vI k);refine wp_seq (bn u (λi=>i<7/\i≠3) (λf'=>f' 3=.int .i64 r) rr λf2 w2 hB k2 q2=>?_);have e1:=(k2 1 zz).tn e1;clear hc;cases K:(r != 0);rotate_left
 .refine bn u (· < 7) (λf'=>f' 10=.bool true) rr λf3 V hB p o=>wp_cond_true (ag zz o) ?_;have e3:=(p 3 zz).tn q2;refine bn u (λi=>i<7/\i≠2) (λf'=>f' 2=.int .i64 r) rr λW w4 hB R z=>wp_ret ?_;refine n hB z ?_;have C:r≠0:=by simpa using K
  rw[<- k]at C|-;unfold dZ at C|-;unfold ay;split
  .rfl
  .rename_i P;rw[cd P]at C;rw[dE C]
 .have a5:r=0:=by simpa using K
  refine bn u (· < 7) (λf'=>f' 10=.bool false) rr λf3 V hB p o=>wp_cond_false (ag zz o) (wp_skip ?_);have e1:=(p 1 zz).tn e1;rw[a5]at k;clear k2 p q2 o K;have Q:cA b l.C=0:=by
   by_cases h:cA b l.C=0
   .exact h
   .unfold dZ at k;rw[dE h]at k;exact dC k h
  have a1:cZ b=0:=by unfold dZ at k;rw[cd (by simp[Q])]at k;exact k
  obtain⟨t1,t2,t3,t4,t5,t6,t7,t8,t9,b4,b5⟩:=cS Q;obtain⟨u1,u2,u3,u4,u5,u6,u7,u8,u9⟩:=wL a1;have HK:ay b l=if fH b.S l.U≠0 then fH b.S l.U else if fT b.rf b.ch l.E≠0 then fT b.rf b.ch l.E else ki b.S l.U.length l.W:=by
   rw[ay,cd (by simp[Q]),cd (by simp[a1])]
  obtain⟨x0,x1,x2,x3,x4,x5,x6,x7,x8,x9,a7,a8,a9⟩:=aM x;have O:b.U.n=l.U.length:=j.U.1;have b1:l.U.length<=1000:=j.U.2.2.1;have a0:b.E.n=l.E.length:=j.E.1;have b3:b.W.n=l.W.length:=j.W.1;refine wp_seq ?_;cases hF:ax (b.U.n:Nat) 1 4
  .refine bn u (· < 7) (λf'=>f' 16=.bool true) rr λf3 V hB p o=>wp_cond_true (ag zz o) ?_;refine bn u (λi=>i<7/\i≠2) (λf'=>f' 2=.int .i64 2) rr λW w4 hB R z=>wp_ret (n hB z ?_);have:fH b.S l.U=2:=by rw[fH,<- O,cd (by simp[hF])]
   rw[HK,this];rfl
  .refine bn u (· < 7) (λf'=>f' 16=.bool false) rr λf3 V hB p o=>wp_cond_false (ag zz o) (wp_skip ?_);have e1:=(p 1 zz).tn e1;have a3:fH b.S l.U=nD b.S l.U:=by rw[fH,<- O,dE hF]
   rw[a3]at HK;refine wp_seq (bn u (λi=>i<7/\i≠4) (λf'=>f' 4=.int .i64 0) rr λW w4 hB R z=>?_);have e1:=(R 1 zz).tn e1;refine wp_mono (TK x zz zz e1 E a7 j.U z hB) λe a w5 y=>?_;rcases y with⟨rfl,L,f5,rfl,hB,S⟩|⟨rfl,L,f5,rfl,hB,S⟩;rotate_left
   .exact n hB S (by rw[HK,dE L])
   have e1:=S.tn e1;rw[cd (by simp[L])]at HK;refine wp_seq ?_;by_cases a':3<b.E.n
   .refine bn u (· < 7) (λf'=>f' 44=.bool true) rr λf6 w6 hB k6 T=>wp_cond_true (ag zz T) ?_;refine bn u (λi=>i<7/\i≠2) (λf'=>f' 2=.int .i64 2) rr λA G hB q m=>wp_ret (n hB m ?_);have:fT b.rf b.ch l.E=2:=by rw[fT,dE zz]
    rw[HK,this];rfl
   .refine bn u (· < 7) (λf'=>f' 44=.bool false) rr λf6 w6 hB k6 T=>wp_cond_false (ag zz T) (wp_skip ?_);have e1:=(k6 1 zz).tn e1;have a4:fT b.rf b.ch l.E=nF b.rf b.ch l.E:=by rw[fT,cd zz]
    rw[a4]at HK;refine wp_seq (bn u (λi=>i<7/\i≠5) (λf'=>f' 5=.int .i64 0) rr λA G hB q m=>?_);have e1:=(q 1 zz).tn e1;refine wp_mono (TL x6 zz zz x9 e1 E a8 j.E m hB) λe a w8 y=>?_;rcases y with⟨rfl,N,J,rfl,hB,s⟩|⟨rfl,N,J,rfl,hB,s⟩;rotate_left
    .exact n hB s (by rw[HK,dE N])
    have e1:=s.tn e1;rw[cd (by simp[N])]at HK;refine wp_seq ?_;by_cases b2:4<b.W.n
    .refine bn u (· < 7) (λf'=>f' 91=.bool true) rr λf9 w9 hB k9 U=>wp_cond_true (ag zz U) ?_;refine bn u (λi=>i<7/\i≠2) (λf'=>f' 2=.int .i64 2) rr λA G hB q m=>wp_ret (n hB m ?_);rw[HK,ki,dE zz]
    .refine bn u (· < 7) (λf'=>f' 91=.bool false) rr λf9 w9 hB k9 U=>wp_cond_false (ag zz U) (wp_skip ?_);have e1:=(k9 1 zz).tn e1;rw[ki,cd zz,<- O]at HK;refine wp_seq (bn u (λi=>i<7/\i≠6) (λf'=>f' 6=.int .i64 0) rr λA G hB q m=>?_);have e1:=(q 1 zz).tn e1;refine wp_mono (TM x zz zz zz e1 E a9 j.W m hB) λe a w8 y=>?_;rcases y with⟨rfl,Z,J,rfl,hB,s⟩|⟨rfl,Z,J,rfl,hB,s⟩;rotate_left
     .exact n hB s HK
     refine bn u (λi=>i<7/\i≠2) (λf'=>f' 2=.int .i64 0) rr λA G hB q m=>wp_ret (n hB m ?_);rw[HK,Z]
open Go.Conc
def mO:Ly:=match Tryz.f6.body with|some c=>c|_=>.skip
def lR:Ly:=dk [1,1,1,1,1,1,1,1,1,1] mO
def Ca:Ly:=dk [1,1,1,1,1,1,1,1,1,1] lR
def abp:Array Kp:=br [0] mO
def XL:Array Kp:=br [1,0,0] mO
def IB:Array Kp:=br [1,0,1,4,0] mO
def XN:Array Kp:=br [1,1,0] mO
def XY:Array Kp:=br [1,1,1,0] mO
def Yi:Array Kp:=br [1,1,1,1,0] mO
def Yk:Array Kp:=br [1,1,1,1,1,0] mO
def Yl:Array Kp:=br [1,1,1,1,1,1,0] mO
def Ym:Array Kp:=br [1,1,1,1,1,1,1,0,0] mO
def abq:Array Kp:=br [1,1,1,1,1,1,1,0,1,4,0] mO
def Tm:Array Kp:=br [1,1,1,1,1,1,1,1,0] mO
def E3:Array Kp:=br [1,1,1,1,1,1,1,1,1,0] mO
def Tp:Array Kp:=br [0] lR
def Tq:Array Kp:=br [1,0] lR
def Tu:Array Kp:=br [1,1,0,0] lR
def Yr:Array Kp:=br [1,1,0,1,4,0] lR
def TN:Array Kp:=br [1,1,1,0] lR
def TO:Array Kp:=br [1,1,1,1,0] lR
def TP:Array Kp:=br [1,1,1,1,1,0,0] lR
def Yt:Array Kp:=br [1,1,1,1,1,0,1,4,0] lR
def TQ:Array Kp:=br [1,1,1,1,1,1,0] lR
def TS:Array Kp:=br [1,1,1,1,1,1,1,0] lR
def TT:Array Kp:=br [1,1,1,1,1,1,1,1,0,0] lR
def Zq:Array Kp:=br [1,1,1,1,1,1,1,1,0,1,4,0] lR
def Up:Array Kp:=br [1,1,1,1,1,1,1,1,1,0] lR
def Uq:Array Kp:=br [0] Ca
def Us:Array Kp:=br [1,0,0] Ca
def P5:Array Kp:=br [1,0,1,4,0] Ca
def Ut:Array Kp:=br [1,1,0] Ca
def Uu:Array Kp:=br [1,1,1,0] Ca
def Uv:Array Kp:=br [1,1,1,1,0] Ca
def Uw:Array Kp:=br [1,1,1,1,1,0] Ca
def Cf:Array Kp:=br [1,1,1,1,1,1,0] Ca
variable{t:Nat}
variable{x y uB:Int}{p:Bool}
theorem Qt(b:aC)(w:H)(d:mX b=true):
  PH F 22 #[b.v] w λe w'=>e=.returned (.bool false)/\X w w w':=by
 have a:=λf=>ME b f;simp only[d]at a;clear d;unfold aC.v at a|-;go_enter Tryz.func22,Tryz.ntmps22;go_wp2_with (go_at_call 7;refine(a _).mono ?_;rintro e f ⟨rfl,c⟩;obtain⟨g,h⟩:=aU c);go_ret;exact⟨rfl,di c⟩
theorem Qu(b:aC)(l:bN)(w:H)(h:mX b=false)(i:aI w b l):
  PH F 22 #[b.v] w λe w'=>e=.returned (.bool (ay b l==0))/\X w w w':=by
 have j:=Hm i;have d:=λa=>ME b a;have f:=λa (k:aI a b l)=>mm b l a k;simp only[h]at d;clear h i;generalize ay b l=r at f|-;unfold aC.v at d f|-;go_enter Tryz.func22,Tryz.ntmps22;go_wp2_with (first|(go_at_call 7;refine(d _).mono ?_;rintro e a ⟨rfl,c⟩;obtain⟨m,o⟩:=aU c)|(go_at_call 14;refine(f _ ((aq j.out _).below c)).mono ?_;rintro e q ⟨rfl,g⟩;obtain⟨n,p⟩:=aU g));go_ret;exact⟨rfl,di (c.tn (g.mono c.size))⟩
variable{c:Int}{A:Ly}{Q0 Q1:Act->H->Prop}
section
variable{x y:ae}
theorem ZF(a:o.op=.alloc 31):(Hn Z o).run F w=.ok (.value (.pointer (Y (w.heap.size,0)))) (w.alloc (aE bI 31)):=by
 unfold Hn;simp only[a];go_simp;try rfl
theorem MZ(c:t=3\/t=28)(b:o.op=.store t x y)(d:Z x=.pointer (Y (g,i)))(e:Z y=v)(a:(∃n,v=.int .i64 n)\/∃A m k,v=.slice A m k){v0:M}(hc:w (g,i)=Y v0)(f:w.frozen? (g,i)=false):(Hn Z o).run F w=.ok .skip (w.setCell (g,i) v):=by
 unfold Hn;simp only[b,d,e];rcases c with rfl|rfl<;>rcases a with⟨n,rfl⟩|⟨A,m,k,rfl⟩<;>go_simp
theorem Yn(b:o.op=.buildSlice 28 1 #[(0,x)])(d:Z x=.agg #[.int .i64 a,.int .i64 c]):(Hn Z o).run F w=.ok (.value (.slice (Y (w.heap.size,0)) 1 1)) (w.alloc (.cells #[.int .i64 a,.int .i64 c] 55)):=by
 unfold Hn;simp only[b,zM,d];go_simp
theorem abr(a:o.op=.buildSlice 28 0 #[]):(Hn Z o).run F w=.ok (.value (.slice (Y (w.heap.size,0)) 0 0)) (w.alloc (.cells #[] 55)):=by
 unfold Hn;simp only[a,zM];go_simp
end
def ZH(h:aK w g 31 b)(x:Int):aK (w.setCell (g,6) (.int .i64 x)) g 31 {b with rf:=x}:=by
 have:=bJ (i:=6) h (.int .i64 x);simp only[zS]at this;exact this
def ZJ(h:aK w g 31 b)(x:Int):aK (w.setCell (g,8) (.int .i64 x)) g 31 {b with cf:=x}:=by
 have:=bJ (i:=8) h (.int .i64 x);simp only[zS]at this;exact this
def Yo(h:aK w g 31 b)(s:Sl):aK (w.setCell (g,11) (.slice s.A s.n s.c)) g 31 {b with E:=s}:=by
 have:=bJ (i:=11) h (.slice s.A s.n s.c);simp only[zS]at this;exact this
section
variable{x y A:Ly}
def E5(u:H)(keep:Nat->Prop)(p:(Nat->M)->Prop)(h:Ly.wp F x (aR (Rs n u f keep p)) (fa n f) w)(next:∀f' w',X u u w'->(∀i,keep i->f' i=f i)->p f'->nA F y Q0 Q1 (fa n f') w'):nA F (.seq x y) Q0 Q1 (fa n f) w:=
 mG (wp_mono h λe a w' d=>by
  obtain⟨rfl,f',rfl,b,h2,c⟩:=d.elim;exact⟨rfl,next f' w' b h2 c⟩)
def J9(u:H)(keep:Nat->Prop)(c:t<n)(h:Ly.wp F x (aR (Rs n u f keep λf'=>f' t=.bool false)) (fa n f) w)(next:∀f' w',X u u w'->(∀i,keep i->f' i=f i)->nA F y Q0 Q1 (fa n f') w'):nA F (.seq (.seq x (.cond (.tmp t) A .skip)) y) Q0 Q1 (fa n f) w:=
 mG (bn u keep _ h λf' w' a h2 b=>wp_cond_false (ag c b) (wp_skip ⟨rfl,next f' w' a h2⟩))
end
def lW{ops:Array Kp}{oi:Kp}{i d n:Nat}{rest:List Nat}{Q:Exit->Act->H->Prop}{f:Nat->M}{w w':H}{v:M}(hi:ops[i]?=Y oi)(a:oi.dst=Y d)(e:(Hn (fa n f).eval oi).run F w=.ok (.value v) w')(h:wpOps F ops Q rest (fa n (ah f d v)) w')(b:d<n:=by omega)(c:oi.guard=I:=by rfl):wpOps F ops Q (i::rest) (fa n f) w:=lV v hi a b (bY c) e h
def r7(i:Nat)(hi:ops[i]?=Y oi)(b:oi.dst=Y d)(o:∀w',X u u w'->(Hn (fa n f).eval oi).run F w'=.ok (.value v) w')(hB:X u u w)(h:wpAnyL F .any ops (aR R) (λa=>X u u a) late k (L.setIfInBounds i true) (fa n (ah f d v)) w)
  (m:oi.guard=I:=by rfl)(g:d<n:=by omega)(l:Region.noSelect ops=true:=by kernel_rfl)(c:Region.free .any ops L i=true:=by kernel_rfl)(j:(Region.ready .any ops L).contains i=true:=by kernel_rfl)(e:nN .any ops late i=true:=by kernel_rfl):wpAnyL F .any ops (aR R) (λa=>X u u a) late (k+1) L (fa n f) w:=
 tV v hi b g (bY m) l c j e o hB h
def VC(i:Nat)(hi:ops[i]?=Y oi)(b:oi.dst=Y d)(m:(Hn (fa n f).eval oi).run F w=.ok (.value v) w')(hB:X u u w')(h:wpAnyL F .any ops (aR R) (λa=>X u u a) late k (L.setIfInBounds i true) (fa n (ah f d v)) w')
  (l:oi.guard=I:=by rfl)(e:d<n:=by omega)(g:Region.ready .any ops L=[i]:=by kernel_rfl):wpAnyL F .any ops (aR R) (λa=>X u u a) late (k+1) L (fa n f) w:=
 bl [i] g ss λj c=>by
  obtain rfl:=ib.1 c;exact Pc v hi b e l m ⟨λ_=>hB,h⟩
def abt(i:Nat)(hi:ops[i]?=Y oi)(a:oi.dst=I)(m:(Hn (fa n f).eval oi).run F w=.ok .skip w')(c:late i=true)(h:aR R .normal (fa n f) w')
  (l:oi.guard=I:=by rfl)(d:Region.ready .any ops L=[i]:=by kernel_rfl)(g:Region.ready .any ops (L.setIfInBounds i true)=[]:=by kernel_rfl):wpAnyL F .any ops (aR R) (λo=>X u u o) late (k+1) L (fa n f) w:=
 bl [i] d ss λj b=>by
  obtain rfl:=ib.1 b;exact TE hi a l m ⟨λe=>(by rw[c]at e;cases e),cH g h _⟩
variable{o:aC}{l:bN}{i:Int}
def EP{r s a c d:Nat}{ops:Array Kp}(k:(f 11=i/\((r=4/\ops=XY/\s=5/\a=12/\c=13/\d=14)\/(r=7/\ops=Yl/\s=15/\a=16/\c=17/\d=18)\/(r=13/\ops=Tq/\s=15/\a=16/\c=17/\d=18)\/(r=17/\ops=TO/\s=15/\a=16/\c=17/\d=14)))\/(i=0/\r=21/\ops=TS/\s=15/\a=19/\c=20/\d=18))
  (hB:X u u w)(n:aK w g 31 o)(h:aI w o l)(b:aD w)(es:f s=.pointer (Y (g,0))):
  Ly.wp F (.region r ops false) (aR (Rs 257 u f (λj=>j<25/\j≠a/\j≠c/\j≠d) λf'=>f' a=.bool (sv o l i).1/\f' c=.bool (sv o l i).2.1/\f' d=.int .i64 (sv o l i).2.2)) (fa 257 f) w:=by
 have hc:=Cb o l i w h b;rcases k with⟨e,⟨rfl,rfl,rfl,rfl,rfl,rfl⟩|⟨rfl,rfl,rfl,rfl,rfl,rfl⟩|⟨rfl,rfl,rfl,rfl,rfl,rfl⟩|⟨rfl,rfl,rfl,rfl,rfl,rfl⟩⟩|⟨rfl,rfl,rfl,rfl,rfl,rfl,rfl⟩
 all_goals
  first|refine wF (l:=[0,1,2,3,4,5,6,7,8,9]) rfl ?_|refine wF (l:=[0,1,2,3,4,5,6,7,8]) rfl ?_
  refine lV o.v rfl rfl zz wnn (gE rfl (Ls es) n vq) ?_
  (try refine lV (.int .i64 i) rfl rfl zz wnn (bq (.inl rfl) (Ls (nt e))) ?_)
  refine lC rfl rfl zz wnn (dm rfl (MJ (Ls rfl) (by first|exact Ls rfl|rfl)) rfl rfl) hc λq m=>?_;refine lV _ rfl rfl zz wnn (bq (.inl rfl) (Ls (au _ _ _))) ?_;refine lV (.bool (sv o l _).1) rfl rfl zz wnn (Rq rfl (Ls rfl) rfl) ?_;refine lV (.bool (sv o l _).2.1) rfl rfl zz wnn (Rq rfl (Ls rfl) rfl) ?_;refine lV (.int .i64 (sv o l _).2.2) rfl rfl zz wnn (Rq rfl (Ls rfl) rfl) ?_;iterate 3 (refine lV _ rfl rfl zz wnn (bq (.inr rfl) (Ls rfl)) ?_)
  refine lE (Rs.mk (hB.tn (m.mono hB.size)) (λj p=>?_) ⟨rfl,rfl,rfl⟩);repeat (refine(cu _ _ ?_).tn ?_;omega)
  rfl
variable{w0:H}{o':aC}{a2 a3 a4:Int}{g2:Nat}{f':Nat->M}
structure qQ(w0:H)(b:aC)(i a2 a3 a4:Int)(g2:Nat)(o:aC)(f:Nat->M)(w:H):Prop where
 low:X w0 w0 w
 bx:aK w w0.heap.size 31 b
 lt:w0.heap.size<g2
 oxzz:aK w g2 31 o
 e2:f 2=.int .u8 a2
 e3:f 3=.int .u8 a3
 e4:f 4=.int .u8 a4
 e5:f 5=(w0.heap.size,0)
 e11:f 11=i
 e15:f 15=(g2,0)
def qQ.step(h:qQ w0 b i a2 a3 a4 g2 o f w)(a:X w w w')(k:∀j,j<16->(j<12\/j=15)->f' j=f j):qQ w0 b i a2 a3 a4 g2 o f' w':=
 ⟨h.low.tn (a.mono h.low.size),(a.block _ h.bx.lt).tn h.bx,h.lt,(a.block _ h.oxzz.lt).tn h.oxzz,(k 2 zz zz).tn h.e2,(k 3 zz zz).tn h.e3,(k 4 zz zz).tn h.e4,(k 5 zz zz).tn h.e5,(k 11 zz zz).tn h.e11,(k 15 zz zz).tn h.e15⟩
def qQ.set(h:qQ w0 b i a2 a3 a4 g2 o f w)(a:X w0 w0 w')(hk:w'.heap[w0.heap.size]?=w.heap[w0.heap.size]?)(c:aK w' g2 31 o')(k:∀j,j<25->f' j=f j):qQ w0 b i a2 a3 a4 g2 o' f' w':=
 ⟨a,hk.tn h.bx,h.lt,c,(k 2 zz).tn h.e2,(k 3 zz).tn h.e3,(k 4 zz).tn h.e4,(k 5 zz).tn h.e5,(k 11 zz).tn h.e11,(k 15 zz).tn h.e15⟩
def Yp(f:Nat->M)(S:(Nat->M)->H->Prop)(a:Act)(w:H):Prop:=∃f',a=fa 257 f'/\(∀j,j<25->f' j=f j)/\S f' w
def qQ.cell(h:qQ w0 b i a2 a3 a4 g2 o f w){j:Nat}{v:M}(a:aK (w.setCell (g2,j) v) g2 31 o')(k:∀j,j<25->f' j=f j):qQ w0 b i a2 a3 a4 g2 o' f' (w.setCell (g2,j) v):=
 h.set (jH h.low (q9A h.lt) _) (X.heap_setCell w _ _ _ (Nat.ne_of_lt h.lt)) a k
def Z6{P:Prop}{f f':Nat->Value}(h:(∀j,j<25->f' j=f j)->P)(k:∀j,j<25->f' j=f j:=by(intro j a;(repeat (refine(cu _ _ ?_).tn ?_;omega));rfl)):P:=h k
def acd(h:qQ w0 b i a2 a3 a4 g2 o f w)(a:0<=a2/\a2<=255)(c:0<=b.rf/\b.rf<=1000)(hc:0<=b.cf/\b.cf<=1000):
  Ly.wp F (.region 6 Yk false) (aR (Yp f λf' w'=>qQ w0 b i a2 a3 a4 g2 {o with cf:=min b.rf (b.cf+a2%8)} f' w')) (fa 257 f) w:=by
 have ø:=0;exact xbN
def Ux(h:qQ w0 b i a2 a3 a4 g2 o f w)(k:∀j,j<25->f' j=f j):qQ w0 b i a2 a3 a4 g2 b f' (uq g2 b w):=by
 obtain⟨a,h2,c⟩:=pq b h.oxzz;exact h.set (h.low.tn (h2.below h.low.size λx d=>by have:=h.lt;omega)) (h2.block _ h.bx.lt (Nat.ne_of_lt h.lt)) a k
def ace(g:X w0 w0 w)(c:aK w w0 31 b)(k:f 2=.int .u8 a2)(m:f 3=.int .u8 a3)(n:f 4=.int .u8 a4)(d:f 5=(w0.heap.size,0))(h:f 11=i):
  Ly.wp F (.region 5 Yi false) (aR λa w'=>∃f',a=fa 257 f'/\(∀j,j<25->j≠15->f' j=f j)/\∃g2,qQ w0 b i a2 a3 a4 g2 b f' w') (fa 257 f) w:=by
 refine wF (l:=[0,1,2]) rfl ?_;refine lV b.v rfl rfl zz wnn (gE rfl (Ls d) c vq) ?_;refine lV (.pointer (Y ⟨w.heap.size,0,I⟩)) rfl rfl zz wnn (ZF rfl) ?_;have e:aK (w.alloc (aE bI 31)) w 31 bI:=Sp _ _;have p:aK (w.alloc (aE bI 31)) w0 31 b:=(QR _ _ c.lt).tn c;refine lS rfl rfl wnn (rJ rfl (Ls rfl) (Ls rfl) e).1 ?_;have o:qQ w0 b i a2 a3 a4 w bI (ah (ah f 48 b.v) 15 (.pointer (Y (w.heap.size,0)))) (w.alloc (aE bI 31)):=⟨g.alloc g.size _,p,c.lt,e,k,m,n,d,h,rfl⟩;exact lE ⟨_,rfl,λj q h2=>(cu _ _ h2).tn nf,_,Ux o λ_ _=>rfl⟩
def abu(h:qQ w0 b i a2 a3 a4 g2 o f w):Ly.wp F (.region 10 Tm false) (aR (Yp f λf' w'=>qQ w0 b i a2 a3 a4 g2 b f' w')) (fa 257 f) w:=by
 refine wF (l:=[0,1]) rfl ?_;refine lV b.v rfl rfl zz wnn (gE rfl (Ls h.e5) h.bx vq) ?_;refine lS rfl rfl wnn (rJ rfl (Ls (nt h.e15)) (Ls rfl) h.oxzz).1 ?_;exact lE ⟨_,rfl,λj a=>nf,Ux h λj a=>nf⟩
end Go.Proofs.YtfcgpihkimpkcaaGreatDoor
namespace Go.Proofs.YtfcgpihkimpkcaaGreatDoor
open Go.RowKit Go.Co
def ze(w:H)(B:Nat)(s:Sl)(L:List (Int×Int)):Prop:=∃g c a,s=⟨Y (g,0),L.length,c⟩/\B<=g/\w.heap[g]?=Y (.cells a 55 (0,0))/\L.length<=c/\L.length<=1000/\∀k,k<L.length->a[k*2]?=Y (.int .i64 (L.getD k (0,0)).1)/\a[k*2+1]?=Y (.int .i64 (L.getD k (0,0)).2)
def cell_of{w:H}{g i:Nat}{cur:Array M}{e:Lk}{z:Nat×Nat}(h:w.heap[g]?=Y (.cells cur e z)):w (g,i)=cur[i]?:=by
 unfold H.cell?;dsimp only;rw[h];simp
section
variable{w w':H}{B:Nat}{s:Sl}{L:List (Int×Int)}
def ze.pairs(h:ze w B s L):bp w s L:=by
 obtain⟨g,c,f,rfl,h2,a,b,d,e⟩:=h;exact⟨rfl,b,d,λ_=>⟨g,0,rfl,(du.1 a).1,λk hk=>by rw[cell_of a,cell_of a,kl];exact e k hk⟩⟩
def ze.keep(h:ze w B s L)(hk:∀g,B<=g->g<w.heap.size->w'.heap[g]?=w.heap[g]?):ze w' B s L:=by
 obtain⟨g,c,b,d,h2,a,e⟩:=h;exact⟨g,c,b,d,h2,(hk g h2 (du.1 a).1).tn a,e⟩
def ze.of{v:M}(h:w.ownsRow B 55 2 v L.length (L.flatMap pG))(f:0<L.length)(c:L.length<=1000):∃s,v=.slice s.A s.n s.c/\ze w B s L:=by
 have e:=h;obtain⟨-, ⟨rfl,b⟩|⟨g,a,d,rfl,b,h2,i,-⟩⟩:=e
 .omega
 .obtain⟨-, -, -, j⟩:=tX (s:=⟨Y ⟨g,0,I⟩,L.length,a⟩) h rfl c;obtain⟨g',off,e1, -, hc⟩:=j f;cases e1;refine⟨⟨Y ⟨g,0,I⟩,L.length,a⟩,rfl,g,a,d,rfl,b,h2,i,c,λk hk=>?_⟩;have:=hc k hk;rw[cell_of h2,cell_of h2,kl]at this;exact this
def ze.set(h:ze w B s L){i:Nat}(hi:i<L.length)(x:Int):∃g,s.A=Y ⟨g,0,I⟩/\B<=g/\(∃v,w (g,i*2)=Y v)/\w.frozen? (g,i*2)=false/\ze (w.setCell (g,i*2) (.int .i64 x)) B s (L.set i (x,(L.getD i (0,0)).2)):=by
 obtain⟨g,c,l,rfl,h2,b,d,f,a⟩:=h;refine⟨g,rfl,h2,⟨_,(cell_of b).tn (a i hi).1⟩,by simp[H.frozen?,b],g,c,_,by rw[List.length_set],h2,bJ b _,by rw[List.length_set];exact d,by rw[List.length_set];exact f,λk hk=>?_⟩;rw[List.length_set]at hk;have j:=(du.1 (a i hi).1).1;rw[ma,ma,cd (show¬i*2=k*2+1 by omega)];by_cases e:i=k
 .subst e;rw[dE rfl,dE j,(a i hi).2];simp[List.getD,hi]
 .rw[cd zz,(a k hk).1,(a k hk).2];simp[List.getD,e]
def abA:(F.info? 55).map (λi=>(i.zero,i.size,i.bytes))=Y (Y (.agg #[.int .i64 0,.int .i64 0]),2,16):=xbR
end
section
variable{w0 w w':H}{b o o':aC}{l:bN}{i a2 a3 a4:Int}{g2:Nat}{f f':Nat->M}{s:Sl}{L:List (Int×Int)}
def abS(h:qQ w0 b i a2 a3 a4 g2 o f w)(n:bp w b.E L)(u:0<L.length):
  Ly.wp F (.region 11 E3 false) (aR (Yp f λf' w'=>∃s,qQ w0 b i a2 a3 a4 g2 {o with E:=s} f' w'/\ze w' (g2+1) s L)) (fa 257 f) w:=by
 obtain⟨inf,hi,m⟩:=Option.map_eq_some_iff.1 abA;simp only[Prod.mk.injEq]at m;obtain⟨T,S,z⟩:=m;have q:=h.oxzz.lt;refine wF (l:=[0,1,2,3,4,5]) rfl ?_;refine lW rfl rfl (abr rfl) ?_;have j:aK (w.alloc (.cells #[] 55)) w0 31 b:=(QR _ _ h.bx.lt).tn h.bx;have O:aK (w.alloc (.cells #[] 55)) g2 31 o:=(QR _ _ h.oxzz.lt).tn h.oxzz;have K:X w0 w0 (w.alloc (.cells #[] 55)):=h.low.alloc h.low.size _;have p:bp (w.alloc (.cells #[] 55)) b.E L:=n.below ((X.refl _ _).alloc (dj _) _);have v:(w.alloc (.cells #[] 55)).ownsRow (g2+1) 55 2 (.slice (Y (w.heap.size,0)) 0 0) 0 []:=⟨rfl,.inr ⟨_,0, #[],rfl,q,Sp _ _,dj _,fi _,rfl,rfl⟩⟩;have V:(w.alloc (.cells #[] 55)).heap.size=w.heap.size+1:=aa _ _;refine lW rfl rfl (TH rfl rfl (Ls (nt h.e5)) vq) ?_;refine lW rfl rfl (abe rfl rfl (Ls rfl) (aM j).2.2.2.2.2.2.2.2.2.2.2.1) ?_;obtain⟨A,U,B,C⟩:=p.cells;have N:=p.1;obtain⟨a,x,G⟩:=C zz;obtain⟨v',w',Q,r,t, -, r4⟩:=gU (P:=F) (w.alloc (.cells #[] 55)) (g2+1) 28 28 55 inf _ 2 16 kr hi T S z rfl zz (.slice (Y ⟨w.heap.size,0,I⟩) 0 0) 0 [] v a b.E.n b.E.c _ A G B (by rw[kl];show b.E.n<=9223372036854775807;omega) zz zz;refine lV (oi:=E3.getD 3 default) (w':=w') v' rfl rfl zz wnn ?_ ?_
 .unfold Hn;simp only[show(E3.getD 3 default).op=.call {callee:=.builtin .append,args:= #[.tmp 90,.tmp 92],argTypes:= #[28,28]} from rfl,show(E3.getD 3 default).type=28 from rfl,ab,invoke,builtin,Sem.run_bind,Sem.run_pure,Result.andThen_ok,List.map_toArray,List.map_cons,List.map_nil,fe (show 90<257 by omega),fe (show 92<257 by omega),au,cu _ _ (show(90:Nat)≠91 by omega),cu _ _ (show(90:Nat)≠92 by omega),x,Q]
 rw[List.nil_append,kl,N]at r;obtain⟨s,rfl,R⟩:=ze.of r u n.2.2.1;have hk:∀g,g<w.heap.size->w'.heap[g]?=(w.alloc (.cells #[] 55)).heap[g]?:=λg c=>t.block g zz (λe=>by cases e;exact kq _ c);have y:aK w' w0 31 b:=(hk _ h.bx.lt).tn j;have d:aK w' g2 31 o:=(hk _ q).tn O;have J:X w0 w0 w':=mN K t (λg c=>by cases c;exact h.low.size) (dj _);refine lW rfl rfl (TH rfl rfl (Ls (nt (nt (nt (nt h.e15))))) vq) ?_;refine lS rfl rfl wnn (MZ (.inr rfl) rfl (Ls rfl) (Ls rfl) (.inr ⟨_,_,_,rfl⟩) (aM d).2.2.2.2.2.2.2.2.2.2.2.1 (dx d _)) ?_;exact Z6 λk=>lE ⟨_,rfl,k,s,(h.set (f':=f) J (y.tn h.bx.symm) d λ_ _=>rfl).cell (Yo d s) k,R.keep λg c _=>X.heap_setCell w' _ _ g (by show g≠g2;omega)⟩
end
variable{w0 w w':H}{b o o':aC}{l:bN}{m g2:Nat}{a2 a3 a4:Int}{f f':Nat->M}{s:Sl}{L:List (Int×Int)}
def abT(h:qQ w0 b m a2 a3 a4 g2 {o with E:=s} f w)(J:ze w (g2+1) s L)(A:bp w b.E L)(p:m<L.length)(P:Sm (-(L.getD m (0,0)).1)):
  Ly.wp F (.region 12 Tp true) (aR (Yp f λf' w'=>qQ w0 b m a2 a3 a4 g2 {o with E:=s} f' w'/\ze w' (g2+1) s (L.set m (-(L.getD m (0,0)).1,(L.getD m (0,0)).2)))) (fa 257 f) w:=by
 refine bK (S:=λc=>X w.heap.size w c) (λi=>decide (12<=i)) rR ?_;have hB:X w w w.drew:=X.drew (X.refl _ _);have e:=h.step (f':=f) hB λ_ _ _=>rfl;have j:=J.keep (w':=w.drew) λg _ z=>hB.block g z;generalize w.drew=W at hB e j|-;obtain⟨x0,x1,x2,x3,x4,x5,x6,x7,x8,x9,a8,q,a9⟩:=aM h.bx;obtain⟨y0,y1,y2,y3,y4,y5,y6,y7,y8,y9,a',l,a0⟩:=aM h.oxzz;obtain⟨a5, -, Z,G⟩:=A;obtain⟨U,a7,u,T,x⟩:=G zz;obtain⟨v,a1⟩:=x m p;obtain⟨d,K,V,⟨v0,O⟩,y,N⟩:=j.set p (-(L.getD m (0,0)).1);have a6:s.n=L.length:=j.pairs.1;rw[u]at q;dsimp only at l;rw[K]at l;have R:=h.bx.lt;have Q:=h.oxzz.lt;have B:m<b.E.n:=zz;have C:m<s.n:=zz;have t:=h.e5;have r:=h.e15;have n:=h.e11;refine r7 0 rfl rfl (λc a=>TH rfl rfl (Ls r) vq) hB ?_;refine r7 1 rfl rfl (λc a=>abe rfl rfl (Ls rfl) ((a.cell Q).tn l)) hB ?_;refine r7 2 rfl rfl (λc a=>bq (.inl rfl) (Ls n)) hB ?_;refine r7 3 rfl rfl (λc a=>TH rfl rfl (Ls t) vq) hB ?_;refine r7 4 rfl rfl (λc a=>abe rfl rfl (Ls rfl) ((a.cell R).tn q)) hB ?_;refine r7 5 rfl rfl (λc a=>bq (.inl rfl) (Ls n)) hB ?_;refine r7 6 rfl rfl (λc a=>Vj rfl rfl (Ls rfl) (Ls rfl) B vq) hB ?_;refine r7 7 rfl rfl (λc a=>TH rfl rfl (Ls rfl) vq) hB ?_;refine r7 8 rfl rfl (λc a=>abe rfl rfl (Ls rfl) ((a.cell T).tn v)) hB ?_;refine r7 9 rfl rfl (λc a=>XK rfl (Ls rfl) P vq) hB ?_;refine VC 10 rfl rfl (Vj rfl rfl (Ls rfl) (Ls rfl) C vq) hB ?_;refine VC 11 rfl rfl (TH rfl rfl (Ls rfl) vq) hB ?_;refine abt 12 rfl rfl (MZ (.inl rfl) rfl (Ls rfl) (Ls rfl) (.inl ⟨_,rfl⟩) (by rw[Nat.add_zero,kl];exact O) (by rw[Nat.add_zero,kl];exact y)) rfl ?_;have e0:((d,0+m*2+0):Addr)=⟨d,m*2,I⟩:=by rw[Nat.add_zero,kl]
 rw[e0];exact Z6 λk=>⟨_,rfl,k,e.set (jH e.low (by have:=h.lt;omega) _) (X.heap_setCell W _ _ _ (by show w0.heap.size≠d;have:=h.lt;omega)) ((X.heap_setCell W _ _ _ (by show g2≠d;omega)).tn e.oxzz) k,N⟩
def abU(h:qQ w0 b m a2 a3 a4 g2 {o with E:=s} f w)(c:ze w (g2+1) s L)(g:m<L.length):
  Ly.wp F (.region 16 TN false) (aR (Yp f λf' w'=>qQ w0 b m a2 a3 a4 g2 {o with E:=s} f' w'/\ze w' (g2+1) s (L.set m (0,(L.getD m (0,0)).2)))) (fa 257 f) w:=by
 obtain⟨x,y,y2,B,y4,C,G,J,K,N,z,d,A⟩:=aM h.oxzz;obtain⟨a,i,r,⟨v,n⟩,e,j⟩:=c.set g 0;have t:s.n=L.length:=c.pairs.1;dsimp only at d;rw[i]at d;have hB:=X.refl w.heap.size w;have u:=h.oxzz.lt;have q:=h.e15;have p:=h.e11;refine wF (l:=[0,1,2,3,4,5]) rfl ?_;refine Tw ?_;refine lS rfl rfl wnn (MZ (.inl rfl) rfl (Ls rfl) rfl (.inl ⟨_,rfl⟩) (by rw[Nat.add_zero,kl];exact n) (by rw[Nat.add_zero,kl];exact e)) ?_;have e0:((a,0+m*2+0):Addr)=⟨a,m*2,I⟩:=by rw[Nat.add_zero,kl]
 rw[e0];exact Z6 λk=>lE ⟨_,rfl,k,h.set (jH h.low (by have:=h.lt;omega) _) (X.heap_setCell w _ _ _ (by show w0.heap.size≠a;have:=h.lt;omega)) ((X.heap_setCell w _ _ _ (by show g2≠a;omega)).tn h.oxzz) k,j⟩
def row_one(h:qQ w0 b m a2 a3 a4 g2 o f w)(x y:Int):qQ w0 b m a2 a3 a4 g2 {o with E:=⟨Y (w.heap.size,0),1,1⟩} f ((w.alloc (.cells #[.int .i64 x,.int .i64 y] 55)).setCell (g2,11) (.slice (Y (w.heap.size,0)) 1 1))/\ze ((w.alloc (.cells #[.int .i64 x,.int .i64 y] 55)).setCell (g2,11) (.slice (Y (w.heap.size,0)) 1 1)) (g2+1) ⟨Y (w.heap.size,0),1,1⟩ [(x,y)]:=by
 have a:=h.step (f':=f) ((X.refl _ _).alloc (dj _) (.cells #[.int .i64 x,.int .i64 y] 55)) λ_ _ _=>rfl;refine⟨a.cell (Yo a.oxzz ⟨Y ⟨w.heap.size,0,I⟩,1,1⟩) λ_ _=>rfl,w.heap.size,1,_,rfl,h.oxzz.lt,(X.heap_setCell _ _ _ _ (by show w.heap.size≠g2;have:=h.oxzz.lt;omega)).tn (Sp _ _),dj _,by simp,λk hk=>?_⟩;obtain rfl:k=0:=by simp at hk;exact hk
 exact⟨rfl,rfl⟩
def abV(h:qQ w0 b m a2 a3 a4 g2 o f w)(g:bp w b.E L)(i:m<L.length):
  Ly.wp F (.region 24 Up false) (aR (Yp f λf' w'=>∃s,qQ w0 b m a2 a3 a4 g2 {o with E:=s} f' w'/\ze w' (g2+1) s [L.getD m (0,0)])) (fa 257 f) w:=by
 obtain⟨G,J,O,P,Q,R,S,T,U,V,K,p,N⟩:=aM h.bx;obtain⟨z, -, u,n⟩:=g;obtain⟨t,C,d,B,e⟩:=n zz;obtain⟨v,x⟩:=e m i;rw[d]at p;have hB:=X.refl w.heap.size w;have A:=h.bx.lt;have r:=h.e5;have q:=h.e11;refine wF (l:=[0,1,2,3,4,5,6,7]) rfl ?_;refine Tw ?_;refine lW rfl rfl (Yn rfl (Ls rfl)) ?_;refine lW rfl rfl (TH rfl rfl (Ls (nt (nt (nt (nt (nt (nt h.e15))))))) vq) ?_;obtain⟨c,h2⟩:=row_one h (L.getD m (0,0)).1 (L.getD m (0,0)).2;have a:aK (w.alloc (.cells #[.int .i64 (L.getD m (0,0)).1,.int .i64 (L.getD m (0,0)).2] 55)) g2 31 o:=(QR _ _ h.oxzz.lt).tn h.oxzz;refine lS rfl rfl wnn (MZ (.inr rfl) rfl (Ls rfl) (Ls rfl) (.inr ⟨_,_,_,rfl⟩) (aM a).2.2.2.2.2.2.2.2.2.2.2.1 (dx a _)) ?_;exact Z6 λk=>lE ⟨_,rfl,k,_,c.step (X.refl _ _) λj y _=>k j zz,h2⟩
def abW(h:qQ w0 b m a2 a3 a4 g2 o f w)(y:bp w b.E L)(z:m<L.length)(g:0<=a4/\a4<=255)(hc:0<=b.ch/\b.ch<=1000)(N:0<=(L.getD m (0,0)).2/\(L.getD m (0,0)).2<=1000):
  Ly.wp F (.region 20 TQ true) (aR (Yp f λf' w'=>∃s,qQ w0 b m a2 a3 a4 g2 {o with E:=s} f' w'/\ze w' (g2+1) s [(0,min (b.ch-1) ((L.getD m (0,0)).2+a4%8))])) (fa 257 f) w:=by
 refine bK (S:=λc=>X w.heap.size w c) (λi=>decide (18<=i)) rR ?_;have hB:X w w w.drew:=X.drew (X.refl _ _);have d:=h.step (f':=f) hB λ_ _ _=>rfl;generalize w.drew=W at hB d|-;obtain⟨R,T,Z,x3,x4,x5,x6,x7,x8,C,U,p,V⟩:=aM h.bx;obtain⟨P, -, J,A⟩:=y;obtain⟨G,Q,u,B,x⟩:=A zz;obtain⟨K,v⟩:=x m z;rw[u]at p;have n:=h.bx.lt;have e:=h.e5;have r:=h.e15;have q:=h.e11;have t:=h.e4;refine r7 0 rfl rfl (λc a=>TH rfl rfl (Ls e) vq) hB ?_;refine r7 1 rfl rfl (λc a=>TH rfl rfl (Ls rfl) vq) hB ?_;refine r7 2 rfl rfl (λc a=>abe rfl rfl (Ls rfl) ((a.cell n).tn C)) hB ?_;refine r7 3 rfl rfl (λc a=>AW rfl (Ls rfl) rfl (by unfold Sm;omega) vq) hB ?_;refine r7 4 rfl rfl (λc a=>TH rfl rfl (Ls e) vq) hB ?_;refine r7 5 rfl rfl (λc a=>abe rfl rfl (Ls rfl) ((a.cell n).tn p)) hB ?_;refine r7 6 rfl rfl (λc a=>bq (.inl rfl) (Ls q)) hB ?_;refine r7 7 rfl rfl (λc a=>Vj rfl rfl (Ls rfl) (Ls rfl) (show m<b.E.n by omega) vq) hB ?_;refine r7 8 rfl rfl (λc a=>TH rfl rfl (Ls rfl) vq) hB ?_;refine r7 9 rfl rfl (λc a=>abe rfl rfl (Ls rfl) ((a.cell B).tn v)) hB ?_;refine r7 10 rfl rfl (λc a=>bq (.inl rfl) (Ls t)) hB ?_;refine r7 11 rfl rfl (λc a=>Nj rfl (Ls rfl) g vq) hB ?_;refine r7 12 rfl rfl (λc a=>RI rfl (Ls rfl) rfl ⟨g.1,zz⟩ zz vq) hB ?_;refine r7 13 rfl rfl (λc a=>E4 rfl (Ls rfl) (Ls rfl) (by unfold Sm;omega) vq) hB ?_;refine r7 14 rfl rfl (λc a=>abg rfl rfl (Ls rfl) (Ls rfl) vq) hB ?_;refine r7 15 rfl rfl (λc a=>abh rfl (Ls rfl) vq) hB ?_;refine VC 16 rfl rfl (Yn rfl (Ls rfl)) (hB.alloc hB.size _) ?_;refine VC 17 rfl rfl (TH rfl rfl (Ls r) vq) (hB.alloc hB.size _) ?_;obtain⟨a,h2⟩:=row_one d 0 (min (b.ch-1) ((L.getD m (0,0)).2+a4%8));have l:aK (W.alloc (.cells #[.int .i64 0,.int .i64 (min (b.ch-1) ((L.getD m (0,0)).2+a4%8))] 55)) g2 31 o:=(QR _ _ d.oxzz.lt).tn d.oxzz;refine abt 18 rfl rfl (MZ (.inr rfl) rfl (Ls rfl) (Ls rfl) (.inr ⟨_,_,_,rfl⟩) (aM l).2.2.2.2.2.2.2.2.2.2.2.1 (dx l _)) rfl ?_;exact Z6 λk=>⟨_,rfl,k,_,a.step (X.refl _ _) λj O _=>k j zz,h2⟩
def abX(h:qQ w0 b m a2 a3 a4 g2 o f w)(a:0<=a3/\a3<=255)(c:0<=b.rf/\b.rf<=1000)(hs:ze w (g2+1) s L):
  Ly.wp F (.region 25 Uq false) (aR (Yp f λf' w'=>qQ w0 b m a2 a3 a4 g2 {o with rf:=b.rf-a3%8} f' w'/\ze w' (g2+1) s L)) (fa 257 f) w:=xbN
variable{p q L R:Bool}
def acf{eye:Int}{n g c:Nat}{A:Option Addr}(e:w (g,11)=Y (.slice A n c))(b:0<=eye/\eye<=255)(i:0<n/\n<=1000)(e1:f 1=.int .u8 eye)(d:f 5=(g,0)):
  Ly.wp F (.region 3 XN false) (aR λa w'=>w'=w/\∃f',a=fa 257 f'/\(∀j,j<25->j≠11->f' j=f j)/\f' 11=.int .i64 (eye%n)) (fa 257 f) w:=by
 refine wF (l:=[0,1,2,3,4,5,6]) rfl ?_;refine lW rfl rfl (bq (.inl rfl) (Ls e1)) ?_;refine lW rfl rfl (Nj rfl (Ls rfl) b vq) ?_;refine lW rfl rfl (TH rfl rfl (Ls (nt (nt d))) vq) ?_;refine lW rfl rfl (abe rfl rfl (Ls rfl) e) ?_;refine lW rfl rfl (SF rfl rfl rfl (Ls rfl) vq) ?_;refine lW rfl rfl (RI rfl (Ls rfl) (Ls rfl) ⟨b.1,zz⟩ zz vq) ?_;refine lW rfl rfl (bq (.inr rfl) (Ls rfl)) ?_;refine lE ⟨rfl,_,rfl,λj h h2=>?_,rfl⟩;repeat (refine(cu _ _ ?_).tn ?_;omega)
 rfl
def acg(d:f 14=(0:Int))(h:f 18=(0:Int))(e:f 16=p)(b:f 12=L)(g:f 17=q)(c:f 13=R)(a:p=true->L=true)(h2:q=true->R=true):
  Ly.wp F (.region 8 Ym false) (aR (Rs 257 w f (· < 25) λf'=>f' 88=.bool false)) (fa 257 f) w:=by
 have hB:=X.refl w.heap.size w;cases p<;>cases q<;>(try (obtain rfl:=a rfl))<;>(try (obtain rfl:=h2 rfl))<;>exact rr
def abY(e:f 18=(0:Int))(c:f 16=p)(b:f 13=p)(d:f 17=q)(a:f 12=q):
  Ly.wp F (.region 14 Tu false) (aR (Rs 257 w f (· < 25) λf'=>f' 125=.bool false)) (fa 257 f) w:=by
 have hB:=X.refl w.heap.size w;cases p<;>cases q<;>exact rr
def abZ(a:f 14=(0:Int))(b:f 16=p)(c:f 17=p):
  Ly.wp F (.region 18 TP false) (aR (Rs 257 w f (· < 25) λf'=>f' 144=.bool false)) (fa 257 f) w:=by
 have hB:=X.refl w.heap.size w;cases p<;>exact rr
def ab0(b:f 18=(0:Int))(c:f 19=q)(d:f 20=q)(a:f 16=p)(h:q=true->p=true):
  Ly.wp F (.region 22 TT false) (aR (Rs 257 w f (· < 25) λf'=>f' 182=.bool false)) (fa 257 f) w:=by
 have hB:=X.refl w.heap.size w;cases q<;>(try (obtain rfl:=h rfl))<;>exact rr
def pL(b:aC)(c:Int):∀(E:List (Int×Int)) (uB:Int),c<qG b uB E↔c<uB\/∃e∈E,c<vY b e (-1)\/c<vY b e 1
 | [],uB=>by simp[qG]
 | e::r,uB=>by
  rw[qG,pL b c r];simp only[fc,exists_eq_or_imp];constructor
  .rintro(h|h)
   .have:c<uB\/c<vY b e (-1)\/c<vY b e 1:=zz;rcases this with h|h
    .exact .inl h
    .exact .inr (.inl h)
   .exact .inr (.inr h)
  .rintro(h|h|h)
   .exact .inl zz
   .exact .inl zz
   .exact .inr h
def QD{b:aC}{E:List (Int×Int)}(d:0<=b.cf)(hc:b.ch<b.rh)(c:∀e∈E,Qs b e):(∃e∈E,Ve b e=true)↔b.cf<qG b 0 E:=by
 rw[pL];constructor
 .rintro⟨e,a,h⟩;exact .inr ⟨e,a,(MP hc (c e a)).1 h⟩
 .rintro(h|⟨e,a,h⟩)
  .omega
  .exact⟨e,a,(MP hc (c e a)).2 h⟩
def JG{b:aC}{l:bN}(m:ay b l=0){x:Int}(i:0<=x)(j:x<=b.rf):ay {b with cf:=x} l=0:=by
 obtain⟨g,k,s,r,n⟩:=bP m;obtain⟨a,c,d,e,o,p,f,h,q⟩:=wL k;have hc:cZ {b with cf:=x}=0:=by
  unfold cZ;rw[dE ⟨cq.2 ⟨a,c⟩,cq.2 ⟨d,e⟩,cq.2 ⟨i,j⟩,cq.2 ⟨f,h⟩⟩,cd (by show¬b.rh<=b.ch;omega)]
 have t:cA {b with cf:=x} l.C=0:=g;unfold ay;rw[cd zz,cd zz,cd (by show¬fH b.S l.U≠0;omega),cd (by show¬fT b.rf b.ch l.E≠0;omega)];exact n
variable{e:Int×Int}{y:Int}
def ES{m:Nat}(c:ay b l=0)(a:m<l.E.length):sv b l m=(jC b (l.E.getD m (0,0)) (-1),jC b (l.E.getD m (0,0)) 1,0):=by
 unfold sv;rw[cd zz,cd (by rw[Bool.not_eq_false,cq];omega)];rfl
def M0(a:ay b l=0):ve b l=(qG b 0 l.E,0):=by
 unfold ve;rw[cd zz]
def E7(b:aC)(x y:Int):jC b (-x,y) (-1)=jC b (x,y) 1/\jC b (-x,y) 1=jC b (x,y) (-1):=by
 have h:∀s,I6 b.rf b.rh b.ch (-x,y) (-s)= -I6 b.rf b.rh b.ch (x,y) s:=λs=>by
  simp only[I6,Int.mul_sub,Int.sub_mul,Int.neg_mul];omega
 have a:=h 1;have h2:=h (-1);rw[Int.neg_neg]at h2;unfold jC nJ;rw[a,h2,Int.neg_neg,Int.neg_neg];constructor<;>(rw[decide_eq_decide];dsimp only;omega)
def JF{s c:Int}(h:b.cf<=c)(d:e.2<=b.rh)(a:jC {b with cf:=c} e s=true):jC b e s=true:=by
 unfold jC at a|-;rw[decide_eq_true_iff]at a|-;have:b.cf*(b.rh-e.2)<=c*(b.rh-e.2):=Int.mul_le_mul_of_nonneg_right h zz;exact Int.lt_of_le_of_lt this a
def M1(h:y<=b.ch)(a:0<=b.rf):nJ b.rf b.rh b.ch (0,y) (-1)=b.rf*(b.ch-y):=by
 have:=Int.mul_nonneg a (show 0<=b.ch-y by omega);unfold nJ I6;simp only[Int.zero_mul,Int.sub_zero,Int.zero_add,Int.neg_mul,Int.one_mul,Int.neg_neg];omega
def Uy{y z:Int}(i:y<=z)(h2:z<=b.ch)(h:b.cf<=b.rf)(c:0<=b.rf)(a:jC b (0,z) (-1)=true):jC b (0,y) (-1)=true:=by
 unfold jC at a|-;rw[decide_eq_true_iff]at a|-;rw[M1 h2 c]at a;rw[M1 zz c];have d:=Int.mul_nonneg (show 0<=z-y by omega) (show 0<=b.rf-b.cf by omega);simp only[Int.mul_sub,Int.sub_mul]at d a|-;have e1:=Int.mul_comm z b.rf;have e:=Int.mul_comm y b.rf;have f:=Int.mul_comm z b.cf;have g:=Int.mul_comm y b.cf;omega
def Qx{x:Int}(l:x<=b.rf)(g:0<=x)(hc:b.ch<b.rh)(a:Qs {b with rf:=x} e):qG {b with rf:=x} 0 [e]<=qG b 0 [e]:=by
 have f:Qs b e:=⟨by have:=a.l;dsimp only at this;omega,by have:=a.h;dsimp only at this;omega,a.q⟩;have key:∀c,c<qG {b with rf:=x} 0 [e]->c<qG b 0 [e]:=λc h=>by
  rw[pL]at h|-;refine h.imp id ?_;clear h;rintro⟨d,j,h⟩;obtain rfl:=ib.1 j;refine⟨d,by simp,?_⟩;rw[vZ hc f,vZ hc f];rw[vZ (b:= {b with rf:=x}) hc a,vZ (b:= {b with rf:=x}) hc a]at h;have k:d.2<b.ch:=a.q;dsimp only at h;have i:=Int.mul_nonneg (show 0<=b.rf-x by omega) (show 0<=b.ch-d.2 by omega);have h2:=Int.mul_nonneg g (show 0<=b.ch-d.2 by omega);simp only[nJ,I6]at h|-;generalize c*(b.rh-d.2)=z at h|-;simp only[Int.mul_sub,Int.sub_mul,Int.neg_mul,Int.one_mul]at h i h2|-;omega
 have h:=key (qG {b with rf:=x} 0 [e]-1) zz;omega
def QF{rf ch:Int}:∀{E:List (Int×Int)},(∀e∈E,1-rf<=e.1/\e.1<=rf-1/\0<=e.2/\e.2<=60/\e.2<ch)->nF rf ch E=0
 | [],_=>rfl
 | (a,h)::r,b=>by
  obtain⟨c,h2,d,f,g⟩:=b (a,h) ss;dsimp only at c h2 d f g;rw[nF,cd (by rw[Bool.not_eq_false,ed,cq,cq];omega),cd zz];exact QF λe i=>b e (by simp[i])
def MM{s:Sl}{E:List (Int×Int)}(d:ay b l=0)(j:E.length<=3)(a:∀e∈E,1-b.rf<=e.1/\e.1<=b.rf-1/\0<=e.2/\e.2<=60/\e.2<b.ch):ay {b with E:=s} {l with E:=E}=0:=by
 obtain⟨g,c,k, -, f⟩:=bP d;have h:fT b.rf b.ch E=0:=by
  unfold fT;rw[cd zz];exact QF a
 have i:cA {b with E:=s} l.C=0:=g;have hc:cZ {b with E:=s}=0:=c;unfold ay;rw[cd (by show¬cA {b with E:=s} l.C≠0;omega),cd zz,cd (by show¬fH b.S l.U≠0;omega),cd (by show¬fT b.rf b.ch E≠0;omega)];exact f
def Iv(c:ay b l=0):l.E.length<=3/\∀e∈l.E,1-b.rf<=e.1/\e.1<=b.rf-1/\0<=e.2/\e.2<=60/\e.2<b.ch:=by
 obtain⟨-, -, -, a,-⟩:=bP c;unfold fT at a;split at a
 .omega
 .exact⟨zz,N8 a⟩
variable{L:List (Int×Int)}
def Vz:Ly:=JH 2 mO
def ach:cutAt 19 Vz=.seq (.region 3 XN false) (.seq (.region 4 XY false) (.seq (.region 5 Yi false) (.seq (.region 6 Yk false) (.seq (.region 7 Yl false) (.seq (.seq (.region 8 Ym false) (.cond (.tmp 88) (.seq (.region 9 abq false) (.ret)) (.skip))) (.seq (.region 10 Tm false) (.seq (.region 11 E3 false) (.seq (.region 12 Tp true) (.seq (.region 13 Tq false) (.seq (.seq (.region 14 Tu false) (.cond (.tmp 125) (.seq (.region 15 Yr false) (.ret)) (.skip))) (.seq (.region 16 TN false) (.seq (.region 17 TO false) (.seq (.seq (.region 18 TP false) (.cond (.tmp 144) (.seq (.region 19 Yt false) (.ret)) (.skip))) (.seq (.region 20 TQ true) (.seq (.region 21 TS false) (.seq (.seq (.region 22 TT false) (.cond (.tmp 182) (.seq (.region 23 Zq false) (.ret)) (.skip))) (.seq (.region 24 Up false) (.seq (.region 25 Uq false) (.refuse "cut"))))))))))))))))))):=rfl
def ab1(w0:H)(b:aC)(e:Int×Int)(x:Int)(tm:Array M)(W:H):Prop:=∃f a s,tm=(fa 257 f).tmps/\f 5=(w0.heap.size,0)/\f 15=(a,0)/\w0.heap.size<a/\aK W w0.heap.size 31 b/\aK W a 31 {b with E:=s,rf:=x}/\ze W (a+1) s [e]
def Iw{x y:Ly}{R:Act->H->Prop}{a:Act}{w:H}{Q0 Q1:Act->H->Prop}(h:Ly.wp F x (aR R) a w)(next:∀b w',R b w'->nA F y Q0 Q1 b w'):nA F (.seq x y) Q0 Q1 a w:=
 mG (wp_mono h λe a w' c=>by
  obtain⟨rfl,h⟩:=c.elim;exact⟨rfl,next a w' h⟩)
def M3(a:m<L.length)(x:Int×Int):(L.set m x).getD m (0,0)=x:=by simp[List.getD,a]
def UC{x y:Int×Int}(h:y∈L.set m x):y=x\/y∈L:=by
 rcases List.mem_or_eq_of_mem_set h with h|h
 .exact .inr h
 .exact .inl h
def Qy{b:aC}{l:bN}{w0:H}(q:aI w0 b l)(G:aD w0)(hc:ay b l=0)(t:m<l.E.length){eye a2 a3 a4:Int}(h1:0<=eye/\eye<=255)(h2:0<=a2/\a2<=255)(h3:0<=a3/\a3<=255)(h4:0<=a4/\a4<=255)(hi:eye%b.E.n=m)
  {f:Nat->M}(e1:f 1=.int .u8 eye)(R:f 2=.int .u8 a2)(S:f 3=.int .u8 a3)(T:f 4=.int .u8 a4)(C:f 5=(w0.heap.size,0)):
  nA F (cutAt 19 Vz) (λ_ _=>False) (λa W=>a.defers=[]/\ab1 w0 b (l.E.getD m (0,0)) (b.rf-a3%8) a.tmps W) (fa 257 f) (w0.alloc (aE b 31)):=by
 obtain⟨-, a0, -, -,-⟩:=bP hc;obtain⟨c1,c2,c3,c4,c5,c6,c7,c8,c9⟩:=wL a0;obtain⟨a8,a1⟩:=Iv hc;have a5:l.E.getD m (0,0)∈l.E:=by rw[show l.E.getD m (0,0)=l.E[m] by simp[List.getD,fg t]];exact List.getElem_mem t
 generalize B:l.E.getD m (0,0)=e at a5|-;obtain⟨q1,q2,q3,q4,q5⟩:=a1 e a5;have d7:b.E.n=l.E.length:=q.E.1;have O:X w0 w0 (w0.alloc (aE b 31)):=(X.refl _ _).alloc (dj _) _;have A:aK (w0.alloc (aE b 31)) w0 31 b:=Sp _ _;have a9:∀{w},X w0 w0 w->∀{c:Int},aI w {b with cf:=c} l:=λv=>⟨(q.below v).C,(q.below v).U,(q.below v).E,(q.below v).W⟩;have U:∀{w},X w0 w0 w->∀s L,bp w s L->aI w {b with E:=s} {l with E:=L}:=λv s L h=>⟨(q.below v).C,(q.below v).U,h,(q.below v).W⟩;rw[ach];refine Iw (acf (aM A).2.2.2.2.2.2.2.2.2.2.2.1 h1 zz e1 C) λa w1 i=>?_;obtain⟨rfl,f1,rfl,P,Q⟩:=i;rw[hi]at Q;have R:=(P 2 zz zz).tn R;have S:=(P 3 zz zz).tn S;have T:=(P 4 zz zz).tn T;have C:=(P 5 zz zz).tn C;refine E5 _ _ _ (EP (.inl ⟨Q,.inl ⟨rfl,rfl,rfl,rfl,rfl,rfl⟩⟩) (X.refl _ _) A (q.below O) (G.below O) C) λf2 w2 hB k p=>?_;rw[ES hc t,B]at p;obtain⟨n,o,u⟩:=p;have b4:=O.tn (hB.mono O.size);refine Iw (ace b4 ((hB.block _ A.lt).tn A) ((k 2 zz).tn R) ((k 3 zz).tn S) ((k 4 zz).tn T) ((k 5 zz).tn C) ((k 11 zz).tn Q)) λa w3 i=>?_;obtain⟨f3,rfl,Z,g2,d⟩:=i;have n:=(Z 12 zz zz).tn n;have o:=(Z 13 zz zz).tn o;have u:=(Z 14 zz zz).tn u;refine Iw (acd d h2 ⟨zz,zz⟩ ⟨zz,zz⟩) λa w4 i=>?_;obtain⟨f4,rfl,k,d⟩:=i;have n:=(k 12 zz).tn n;have o:=(k 13 zz).tn o;have u:=(k 14 zz).tn u;obtain⟨cf,a'⟩:∃cf,min b.rf (b.cf+a2%8)=cf:=⟨_,rfl⟩;rw[a']at d;refine E5 _ _ _ (EP (.inl ⟨d.e11,.inr (.inl ⟨rfl,rfl,rfl,rfl,rfl,rfl⟩)⟩) (X.refl _ _) d.oxzz (a9 d.low) (G.below d.low) d.e15) λf5 w5 hB k p=>?_;rw[ES (JG hc zz zz) t,B]at p;obtain⟨r,K,N⟩:=p;have d:=d.step hB λj _ h=>k j zz;have n:=(k 12 zz).tn n;have o:=(k 13 zz).tn o;have u:=(k 14 zz).tn u;refine J9 w5 _ zz (acg u N r n K o (λh=>JF zz zz h) (λh=>JF zz zz h)) λf6 w6 hB k=>?_;have d:=d.step hB λj _ _=>k j zz;have n:=(k 12 zz).tn n;have o:=(k 13 zz).tn o;refine Iw (abu d) λa w7 i=>?_;obtain⟨f7,rfl,k,d⟩:=i;have n:=(k 12 zz).tn n;have o:=(k 13 zz).tn o;refine Iw (abS d (q.below d.low).E zz) λa w8 i=>?_;obtain⟨f8,rfl,k,s,d,i⟩:=i;have n:=(k 12 zz).tn n;have o:=(k 13 zz).tn o;refine Iw (abT d i (q.below d.low).E t (by rw[B];unfold Sm;omega)) λa w9 i=>?_;obtain⟨f9,rfl,k,d,i⟩:=i;rw[B]at i;have n:=(k 12 zz).tn n;have o:=(k 13 zz).tn o;have b2:∀{x:Int×Int},(1-b.rf<=x.1/\x.1<=b.rf-1/\0<=x.2/\x.2<=60/\x.2<b.ch)->∀{s},ay {b with E:=s} {l with E:=l.E.set m x}=0:=λA=>MM hc (by rw[List.length_set];exact a8) λy J=>by
  rcases UC J with rfl|J
  .exact A
  .exact a1 y J
 have a6:∀{x:Int×Int},(1-b.rf<=x.1/\x.1<=b.rf-1/\0<=x.2/\x.2<=60/\x.2<b.ch)->∀{s},sv {b with E:=s} {l with E:=l.E.set m x} m=(jC b x (-1),jC b x 1,0):=λ{x} A {s}=>by
  have h:=ES (m:=m) (b2 A (s:=s)) (by show m<(l.E.set m x).length;rw[List.length_set];exact t);dsimp only at h;rw[M3 t]at h;exact h
 refine E5 _ _ _ (EP (.inl ⟨d.e11,.inr (.inr (.inl ⟨rfl,rfl,rfl,rfl,rfl,rfl⟩))⟩) (X.refl _ _) d.oxzz (U d.low _ _ i.pairs) (G.below d.low) d.e15) λb' b7 hB k p=>?_;rw[a6 (x:=(-e.1,e.2)) ⟨by dsimp only;omega,by dsimp only;omega,q3,q4,q5⟩]at p;obtain⟨r,K,N⟩:=p;have d:=d.step hB λj _ h=>k j zz;have i:=i.keep λg _ V=>hB.block g V;have n:=(k 12 zz).tn n;have o:=(k 13 zz).tn o;obtain⟨n1,n2⟩:=E7 b e.1 e.2;refine J9 b7 _ zz (abY N (r.tn (eh M.bool n1)) o (K.tn (eh M.bool n2)) n) λb0 d8 hB k=>?_;have d:=d.step hB λj _ _=>k j zz;have i:=i.keep λg _ V=>hB.block g V;refine Iw (abU d i (by rw[List.length_set];exact t)) λa d9 i=>?_;obtain⟨c',rfl,k,d,i⟩:=i;rw[M3 t,List.set_set]at i;refine E5 _ _ _ (EP (.inl ⟨d.e11,.inr (.inr (.inr ⟨rfl,rfl,rfl,rfl,rfl,rfl⟩))⟩) (X.refl _ _) d.oxzz (U d.low _ _ i.pairs) (G.below d.low) d.e15) λd1 b8 hB k p=>?_;rw[a6 (x:=(0,e.2)) ⟨by dsimp only;omega,by dsimp only;omega,q3,q4,q5⟩]at p;obtain⟨r,K,u⟩:=p;have d:=d.step hB λj _ h=>k j zz;obtain⟨n1,n2⟩:=E7 b 0 e.2;refine J9 b8 _ zz (abZ u r (K.tn (eh M.bool n2))) λd2 d' hB k=>?_;have d:=d.step hB λj _ _=>k j zz;have r:=(k 16 zz).tn r;refine Iw (abW d (q.below d.low).E t h4 ⟨zz,zz⟩ (by rw[B];omega)) λa d0 i=>?_;obtain⟨d3,rfl,k,s,d,i⟩:=i;rw[B]at i;have r:=(k 16 zz).tn r;obtain⟨z,b3⟩:∃z,min (b.ch-1) (e.2+a4%8)=z:=⟨_,rfl⟩;rw[b3]at i;have b1:sv {b with E:=s} {l with E:=[(0,z)]} 0=(jC b (0,z) (-1),jC b (0,z) 1,0):=ES (m:=0) (MM hc ss λy J=>by
  obtain rfl:=ib.1 J;dsimp only;omega) ss
 refine E5 _ _ _ (EP (.inr ⟨rfl,rfl,rfl,rfl,rfl,rfl,rfl⟩) (X.refl _ _) d.oxzz (U d.low _ _ i.pairs) (G.below d.low) d.e15) λd4 b9 hB k p=>?_;rw[b1]at p;obtain⟨b5,b6,N⟩:=p;have d:=d.step hB λj _ h=>k j zz;have r:=(k 16 zz).tn r;obtain⟨n3,n4⟩:=E7 b 0 z;refine J9 b9 _ zz (ab0 N b5 (b6.tn (eh M.bool n4)) r λh=>Uy zz zz c6 zz h) λd5 e2 hB k=>?_;have d:=d.step hB λj _ _=>k j zz;refine Iw (abV d (q.below d.low).E t) λa e3 i=>?_;obtain⟨d6,rfl,k,s,d,i⟩:=i;rw[B]at i;refine Iw (abX d h3 ⟨zz,zz⟩ i) λa e4 i=>?_;obtain⟨a7,rfl,k,d,i⟩:=i;exact Dc ⟨rfl,a7,g2,s,rfl,d.e5,d.e15,d.lt,d.bx,d.oxzz,i⟩
variable{u:H}{g k:Nat}{x uB:Int}
end Go.Proofs.YtfcgpihkimpkcaaGreatDoor
