import Derived.Test.YtimmnfbjckbneaaGreatDoorZr
set_option maxRecDepth 100000
set_option maxHeartbeats 4000000
set_option linter.all false
noncomputable section
open Option renaming some->Ax,none->I,some->Y
open Go renaming undef->D,World->H,execOp->Hn,Oper->Kp,TypeId->Lk,Code->Ly,Value->M,Calls->PH,heap_alloc_old->QR,heap_alloc_new->Sp,resolve->ab,Operand->ae,yielded->aw,FuncId->ba,bodyPost_ret->bd
open Go.Proofs.Tryz renaming prog->F,prog->Hb
open Go.RowKit renaming Below->Hd,Below->X
namespace Go
def sT{p:Prop}(h:p:=by
 first|have _:=ø;refine wp_block (wp_loop (λa w=>∃(k:Nat) (f':Nat->M),k<=l.length/\a=fa 119 f'/\f' 1=.pointer (Y ⟨g,0,I⟩)/\f' 4=.int .i64 k/\X u.heap.size u w/\nD b.S l=nD b.S (l.drop k)) (λa _=>l.length-(intOf (a.tmps.getD 4 D)).toNat) ⟨0,f,fi _,rfl,K,h4,hB,rfl⟩ λa w1 Q=>?_);obtain⟨k,P,hk,rfl,e1,E,hB,d⟩:=Q;rw[Qm];have a2:b.U.n=l.length:=C.1|have _:=å;refine wp_block (wp_loop (λa w=>∃(k:Nat) (f':Nat->M),k<=l.length/\a=fa 119 f'/\f' 1=.pointer (Y ⟨g,0,I⟩)/\f' 5=.int .i64 k/\X u.heap.size u w/\nF b.rf b.ch l=nF b.rf b.ch (l.drop k)) (λa _=>l.length-(intOf (a.tmps.getD 5 D)).toNat) ⟨0,f,fi _,rfl,K,h5,hB,rfl⟩ λa w1 Q=>?_);obtain⟨k,P,hk,rfl,e1,G,hB,d⟩:=Q;rw[Qn];have a2:b.E.n=l.length:=C.1|refine wp_block (wp_loop (λa w=>∃(k:Nat) (f':Nat->M),k<=l.length/\a=fa 119 f'/\f' 1=.pointer (Y ⟨g,0,I⟩)/\f' 6=.int .i64 k/\X u.heap.size u w/\qi b.S b.U.n l=qi b.S b.U.n (l.drop k)) (λa _=>l.length-(intOf (a.tmps.getD 6 D)).toNat) ⟨0,f,fi _,rfl,K,h6,hB,rfl⟩ λa w1 Q=>?_);obtain⟨k,P,hk,rfl,e1,U,hB,d⟩:=Q;rw[Qo];have a2:b.W.n=l.length:=C.1
 have a9:l.length<=1000:=C.2.2.1;first|have _:=ø;by_cases a1:k<b.U.n|have _:=å;by_cases a1:k<b.E.n|by_cases a1:k<b.W.n
 .have t:k<l.length:=zz;obtain⟨a7,off,V,b2,W⟩:=C.2.2.2 zz;first|have _:=ø;rw[V]at x10;obtain⟨c0,O⟩:=W k t;have c:=Al b.S l k t;generalize(l.getD k (0,0)).1=x at c c0;generalize(l.getD k (0,0)).2=y at c O;refine wp_seq (bn u (· < 7) (λf'=>f' 21=.bool true) rr λJ T hB s q=>wp_cond_true (ag zz q) (wp_skip ?_))|have _:=å;rw[V]at x11;obtain⟨c0,O⟩:=W k t;have c:=Am b.rf b.ch l k t;generalize(l.getD k (0,0)).1=x at c c0;generalize(l.getD k (0,0)).2=y at c O;refine wp_seq (bn u (· < 7) (λf'=>f' 49=.bool true) rr λJ T hB s q=>wp_cond_true (ag zz q) (wp_skip ?_))|rw[V]at x12;obtain⟨c0,O,c2⟩:=W k t;have c:=Dh b.S b.U.n l k t;generalize(l.getD k (0,0,false)).1=x at c c0;generalize(l.getD k (0,0,false)).2.1=y at c O;generalize(l.getD k (0,0,false)).2.2=z at c2;refine wp_seq (bn u (· < 7) (λf'=>f' 96=.bool true) rr λJ T hB s q=>wp_cond_true (ag zz q) (wp_skip ?_))
  have e1:=(s 1 zz).tn e1;first|have _:=ø;have E:=(s 4 zz).tn E|have _:=å;have G:=(s 5 zz).tn G|have U:=(s 6 zz).tn U
  refine wp_seq (wp_block ?_)
  first
  |have _:=æ
   cases e:ax x 0 (b.U.n-1)
   .refine bn u (· < 7) (λf'=>f' 118=.bool true) rr λf3 B hB r j=>wp_cond_true (ag zz j) ?_;refine bn u (λi=>i<7/\i≠2) (λf'=>f' 2=.int .i64 6) rr λm N hB L o=>wp_ret ?_;exact .inr ⟨rfl,by rw[d,c,dE (by simp[e])];decide,m,rfl,hB,by rw[d,c,dE (by simp[e])];exact o⟩
   .cases n:ax y 0 (b.S-1)
    .refine bn u (· < 7) (λf'=>f' 118=.bool true) rr λf3 B hB r j=>wp_cond_true (ag zz j) ?_;refine bn u (λi=>i<7/\i≠2) (λf'=>f' 2=.int .i64 6) rr λm N hB L o=>wp_ret ?_;exact .inr ⟨rfl,by rw[d,c,dE (by simp[e,n])];decide,m,rfl,hB,by rw[d,c,dE (by simp[e,n])];exact o⟩
    .refine bn u (· < 7) (λf'=>f' 118=.bool false) rr λf5 w5 hB v S=>wp_cond_false (ag zz S) (wp_skip ?_);have e1:=(v 1 zz).tn e1;have U:=(v 6 zz).tn U;refine To u (λi=>i<7/\i≠6) (λf'=>f' 6=.int .i64 (k+1)) rr λf6 w6 hB R A=>?_;refine⟨⟨k+1,f6,t,rfl,(R 1 zz).tn e1,A.tn ss,hB,d.tn (c.tn (by rw[cd (by simp[e,n])]))⟩,?_⟩;rw[sF (k:=k+1) zz (A.tn ss),sF (k:=k) zz ‹P 6=_›];omega
  |have _:=ø
   refine wp_seq ?_;cases e:ax x 0 (b.S-1)
   .refine bn u (· < 7) (λf'=>f' 32=.bool true) rr λf3 B hB r j=>wp_cond_true (ag zz j) ?_;refine bn u (λi=>i<7/\i≠2) (λf'=>f' 2=.int .i64 6) rr λm N hB L o=>wp_ret ?_;exact .inr ⟨rfl,by rw[d,c,dE e];decide,m,rfl,hB,by rw[d,c,dE e];exact o⟩
   .refine bn u (· < 7) (λf'=>f' 32=.bool false) rr λf3 B hB r j=>wp_cond_false (ag zz j) (wp_skip ?_);have e1:=(r 1 zz).tn e1;have E:=(r 4 zz).tn E;cases n:ax y (-9) 9
    .refine bn u (· < 7) (λf'=>f' 40=.bool true) rr λf3 B hB r j=>wp_cond_true (ag zz j) ?_;refine bn u (λi=>i<7/\i≠2) (λf'=>f' 2=.int .i64 1) rr λm N hB L o=>wp_ret ?_;exact .inr ⟨rfl,by rw[d,c,cd (by simp[e]),dE n];decide,m,rfl,hB,by rw[d,c,cd (by simp[e]),dE n];exact o⟩
    .refine bn u (· < 7) (λf'=>f' 40=.bool false) rr λf5 w5 hB v S=>wp_cond_false (ag zz S) (wp_skip ?_);have e1:=(v 1 zz).tn e1;have E:=(v 4 zz).tn E;refine To u (λi=>i<7/\i≠4) (λf'=>f' 4=.int .i64 (k+1)) rr λf6 w6 hB R A=>?_;refine⟨⟨k+1,f6,t,rfl,(R 1 zz).tn e1,A.tn ss,hB,d.tn (c.tn (by rw[cd (by simp[e]),cd (by simp[n])]))⟩,?_⟩;rw[sF (k:=k+1) zz (A.tn ss),sF (k:=k) zz ‹P 4=_›];omega
  |refine wp_seq ?_
   cases e:ax x (1-b.rf) (b.rf-1)
   .refine bn u (· < 7) (λf'=>f' 77=.bool true) rr λf3 B hB r j=>wp_cond_true (ag zz j) ?_;refine bn u (λi=>i<7/\i≠2) (λf'=>f' 2=.int .i64 1) rr λm N hB L o=>wp_ret ?_;exact .inr ⟨rfl,by rw[d,c,dE (by simp[e])];decide,m,rfl,hB,by rw[d,c,dE (by simp[e])];exact o⟩
   .cases n:ax y 0 60
    .refine bn u (· < 7) (λf'=>f' 77=.bool true) rr λf3 B hB r j=>wp_cond_true (ag zz j) ?_;refine bn u (λi=>i<7/\i≠2) (λf'=>f' 2=.int .i64 1) rr λm N hB L o=>wp_ret ?_;exact .inr ⟨rfl,by rw[d,c,dE (by simp[e,n])];decide,m,rfl,hB,by rw[d,c,dE (by simp[e,n])];exact o⟩
    .refine bn u (· < 7) (λf'=>f' 77=.bool false) rr λf3 B hB r j=>wp_cond_false (ag zz j) (wp_skip ?_);have e1:=(r 1 zz).tn e1;have G:=(r 5 zz).tn G;by_cases Z:b.ch<=y
     .refine bn u (· < 7) (λf'=>f' 87=.bool true) rr λf3 B hB r j=>wp_cond_true (ag zz j) ?_;refine bn u (λi=>i<7/\i≠2) (λf'=>f' 2=.int .i64 7) rr λm N hB L o=>wp_ret ?_;exact .inr ⟨rfl,by rw[d,c,cd (by simp[e,n]),dE Z];decide,m,rfl,hB,by rw[d,c,cd (by simp[e,n]),dE Z];exact o⟩
     .refine bn u (· < 7) (λf'=>f' 87=.bool false) rr λf5 w5 hB v S=>wp_cond_false (ag zz S) (wp_skip ?_);have e1:=(v 1 zz).tn e1;have G:=(v 5 zz).tn G;refine To u (λi=>i<7/\i≠5) (λf'=>f' 5=.int .i64 (k+1)) rr λf6 w6 hB R A=>?_;refine⟨⟨k+1,f6,t,rfl,(R 1 zz).tn e1,A.tn ss,hB,d.tn (c.tn (by rw[cd (by simp[e,n]),cd Z]))⟩,?_⟩;rw[sF (k:=k+1) zz (A.tn ss),sF (k:=k) zz ‹P 5=_›];omega
 .have a8:k=l.length:=zz;first|have _:=ø;refine wp_seq (bn u (· < 7) (λf'=>f' 21=.bool false) rr λJ T hB s q=>wp_cond_false (ag zz q) (wp_exit ?_))|have _:=å;refine wp_seq (bn u (· < 7) (λf'=>f' 49=.bool false) rr λJ T hB s q=>wp_cond_false (ag zz q) (wp_exit ?_))|refine wp_seq (bn u (· < 7) (λf'=>f' 96=.bool false) rr λJ T hB s q=>wp_cond_false (ag zz q) (wp_exit ?_))
  exact .inl ⟨rfl,by rw[d,lv zz];rfl,J,rfl,hB,(s 1 zz).tn (e1.tn K.symm)⟩):p:=h
def xaj{p:Prop}(h:p:=by
 first|have _:=ø;refine wp_block (wp_loop (λa w=>∃(k:Nat) (f':Nat->M),k<=l.W.length/\a=fa 29 f'/\f' 2=.pointer (Ax ⟨g,0,I⟩)/\f' 3=.pointer (Ax ⟨g2,0,I⟩)/\f' 5=.int .i64 k/\Hd u.heap.size u w/\MO b.S b.L sh d l.U l.W=MO b.S b.L sh d l.U (l.W.drop k)) (λa _=>l.W.length-(intOf (a.tmps.getD 5 D)).toNat) ⟨0,f,fi _,rfl,c,j,o,hB,rfl⟩ λa w1 a5=>?_)|refine wp_block (wp_loop (λa w=>∃(k:Nat) (f':Nat->M),k<=d.length/\a=fa 43 f'/\f' 2=.pointer (Ax ⟨g,0,I⟩)/\f' 3=.pointer (Ax ⟨g2,0,I⟩)/\f' 5=.int .i64 k/\Hd u.heap.size u w/\Ni C d=Ni C (d.drop k)) (λa _=>d.length-(intOf (a.tmps.getD 5 D)).toNat) ⟨0,f,fi _,rfl,c,j,o,hB,rfl⟩ λa w1 a5=>?_);have E2:=c;have E3:=j
 clear c j o hB;obtain⟨k,f1,hk,rfl,c,j,o,hB,L⟩:=a5;first|have _:=ø;rw[Qu]|rw[Qw]
 obtain⟨x0,x1,x2,x3,x4,x5,x6,x7,x8,x9,c3,c4,b4⟩:=aM h2.bx;have b7:=h2.lg;first|have _:=ø;have b2:b.W.n=l.W.length:=N.W.1;have a0:l.W.length<=1000:=N.W.2.2.1;by_cases b1:k<b.W.n|have b8:=h2.lg2;have b2:s.n=d.length:=O.1;have a0:d.length<=1000:=O.2.2.1;have y1:=h2.y1;by_cases b1:k<s.n
 .first|have _:=å;have B:k<d.length:=zz;obtain⟨W,off,Z,b3,a2⟩:=O.2.2.2 zz;rw[Z]at y1;have c0:=a2 k B;have v:=TQ C d k B;generalize d.getD k 0=X at v c0;refine wp_seq (bn u (· < 6) (λf'=>f' 10=.bool true) rr λJ m hB y q=>wp_cond_true (ag zz q) (wp_skip ?_))|have B:k<l.W.length:=zz;obtain⟨W,off,Z,b3,a2⟩:=N.W.2.2.2 zz;rw[Z]at b4;obtain⟨c0,c1,c2⟩:=a2 k B;obtain⟨p1,p2,p3,p4⟩:=Gb (bP hc).2.2.2.2 k B;have v:=TN b.S b.L sh d l.U l.W k B;generalize(l.W.getD k (0,0,false)).1=X at v c0 p1 p2;generalize(l.W.getD k (0,0,false)).2.1=Y at v c1 p3 p4;generalize(l.W.getD k (0,0,false)).2.2=z at v c2;obtain⟨h,rfl⟩:∃h:Nat,X=(h:Int):=⟨X.toNat,zz⟩;obtain⟨t,rfl⟩:∃t:Nat,Y=(t:Int):=⟨Y.toNat,zz⟩;rw[qNB]at v;refine wp_seq (bn u (· < 7) (λf'=>f' 11=.bool true) rr λJ m hB y q=>wp_cond_true (ag zz q) (wp_skip ?_))
  have c:=(y 2 zz).tn c;have j:=(y 3 zz).tn j;have o:=(y 5 zz).tn o
  first
  |have _:=å
   refine wp_seq (wp_block ?_);obtain⟨r,Q⟩:∃r,decide (X∈C)=r:=⟨_,rfl⟩;rw[Q]at v;have hcon:∀n,Hd u u n->PH F 83 #[.slice b.C.A b.C.n b.C.c,.int .i64 X] n λe G=>e=.returned (.bool r)/\Hd n n G:=λn S=>
    (yS X b.C C n (N.below S)).mono λe G P=>⟨by rw[<- Q];exact P.1,by rw[P.2];exact Hd.refl _ _⟩
   refine bn u (· < 6) (λf'=>f' 20=.bool r) rr λf3 x hB k3 V=>?_;have c:=(k3 2 zz).tn c;have j:=(k3 3 zz).tn j;have o:=(k3 5 zz).tn o;cases r
   .refine wp_cond_false (ag zz V) (wp_skip ?_);refine To u (λi=>i<6/\i≠5) (λf'=>f' 5=.int .i64 (k+1)) rr λf6 w6 hB E A=>?_;refine⟨⟨k+1,f6,B,rfl,(E 2 zz).tn c,(E 3 zz).tn j,A.tn ss,hB,L.tn (v.tn ss)⟩,?_⟩;rw[sF (k:=k+1) zz (A.tn ss),sF (k:=k) zz ‹f1 5=_›];omega
   .refine wp_cond_true (ag zz V) (bn u (λi=>i<6/\i≠4) (λf'=>f' 4=.bool false) rr λf6 w6 hB E A=>wp_ret ?_);exact .inr ⟨rfl,by rw[L,v];rfl,f6,rfl,hB,A⟩
  |clear y q
   refine wp_seq (wp_block (wp_seq (wF (l:=[0,1,2,3,4,5,6]) rfl ?_)));refine Tw ?_;refine lV (d:=6) (.pointer (Ax ⟨m.heap.size,0,I⟩)) rfl rfl zz wnn (XX rfl) ?_;have a3:(m.alloc (.cells #[.int .i64 0,.int .i64 0,.bool false] 72)).heap[m.heap.size]?=Ax (.cells #[.int .i64 0,.int .i64 0,.bool false] 72 (0,0)):=Sp _ _;have b6:=hB.size;have hB:=hB.alloc hB.size (.cells #[.int .i64 0,.int .i64 0,.bool false] 72);refine lS rfl rfl wnn (XY rfl (ag (t:=6) zz rfl) (ag (t:=18) zz rfl) a3) ?_;obtain⟨T,a6⟩:=TP (.int .i64 h) (.int .i64 t) (.bool z) a3;have hB:=hB.tn (a6.below hB.size λq a4=>zz);refine lE ?_;obtain⟨f3,K⟩:∃f3,f3=ah (ah (ah (ah (ah (ah J 14 (.pointer (Ax ⟨g,12,I⟩))) 15 (.slice (Ax ⟨W,off,I⟩) b.W.n b.W.c)) 16 (.int .i64 k)) 17 (.pointer (Ax ⟨W,off+k*3,I⟩))) 18 (.agg #[.int .i64 h,.int .i64 t,.bool z])) 6 (.pointer (Ax ⟨m.heap.size,0,I⟩)):=⟨_,rfl⟩;rw[<- K];have e6:f3 6=.pointer (Ax (m.heap.size,0)):=by rw[K];rfl
   have a7:f3 2=.pointer (Ax (g,0)):=by rw[K];exact c
   have a8:f3 3=.pointer (Ax (g2,0)):=by rw[K];exact j
   have a9:f3 5=.int .i64 k:=by rw[K];exact o
   clear K;clear c j o a6 a3;generalize(((m.alloc (.cells #[.int .i64 0,.int .i64 0,.bool false] 72)).setCell ⟨m.heap.size,0,I⟩ (.int .i64 h)).setCell ⟨m.heap.size,1,I⟩ (.int .i64 t)).setCell ⟨m.heap.size,2,I⟩ (.bool z)=x at T hB|-;generalize m.heap.size=gw at T e6;have b0:gw<x.heap.size:=(du.1 T).1;obtain⟨v0,v1,v2⟩:=Hi T;obtain⟨q1,q2,V,q4⟩:=kP (bP hc).2.2.1 h zz;obtain⟨t1,t2,t3,t4,t5,t6,-⟩:=cS (bP hc).1;obtain⟨r,Q⟩:∃r,qQ b.S b.L sh d (l.U.getD h (0,0)).1 (l.U.getD h (0,0)).2 t=r:=⟨_,rfl⟩;have hcon:∀n,Hd x x n->PH F 80 #[b.v,aF sh s,.int .i64 h,.int .i64 t] n λe G=>e=.returned (.bool r)/\Hd n n G:=λn S=>
    (E5 b t1 t2 t5 t6 sh hs1 hs2 s d l.U h zz _ _ rfl q1 q2 V q4 t zz n ((O.below hB).below S) ((N.U.below hB).below S)).mono λe G P=>⟨by rw[<- Q];exact P.1,P.2⟩
   rw[Q]at v;have b5:aK x g 31 b:=(hB.block _ h2.lg).tn h2.bx;have b':g<x.heap.size:=iv h2.lg hB.size;have b9:g2<x.heap.size:=iv h2.lg2 hB.size;have y0:=(hB.cell (p:=⟨g2,0,I⟩) h2.lg2).tn h2.y0;have y1:=(hB.cell (p:=⟨g2,1,I⟩) h2.lg2).tn h2.y1;have R:=hB;have hB:Hd x x x:=Hd.refl _ _;cases a4:(r != z)
   .refine bn x (· < 7) (λf'=>f' 28=.bool false) rr λf5 G a1 U q5=>wp_cond_false (ag zz q5) (wp_skip ?_);have hB:=R.tn (a1.mono R.size);have o:=(U 5 zz).tn a9;refine To u (λi=>i<7/\i≠5) (λf'=>f' 5=.int .i64 (k+1)) rr λf6 w6 hB E A=>?_;refine⟨⟨k+1,f6,B,rfl,(E 2 zz).tn ((U 2 zz).tn a7),(E 3 zz).tn ((U 3 zz).tn a8),A.tn ss,hB,L.tn (v.tn (by rw[a4];simp))⟩,?_⟩;rw[sF (k:=k+1) zz (A.tn ss),sF (k:=k) zz ‹f1 5=_›];omega
   .refine bn x (· < 7) (λf'=>f' 28=.bool true) rr λf5 G a1 U q5=>wp_cond_true (ag zz q5) ?_;have hB:=R.tn (a1.mono R.size);refine bn u (λi=>i<7/\i≠4) (λf'=>f' 4=.bool false) rr λf6 w6 hB E A=>wp_ret ?_;exact .inr ⟨rfl,by rw[L,v,a4];rfl,f6,rfl,hB,A⟩
 first
 |have _:=ø
  .have a':k=l.W.length:=zz;refine wp_seq (bn u (· < 7) (λf'=>f' 11=.bool false) rr λJ m hB y q=>wp_cond_false (ag zz q) (wp_exit ?_));exact .inl ⟨rfl,by rw[L,lv zz];rfl,J,rfl,hB,λ_ h=>h.elim⟩
 |·have a':k=d.length:=zz
   refine wp_seq (bn u (· < 6) (λf'=>f' 10=.bool false) rr λJ m hB y q=>wp_cond_false (ag zz q) (wp_exit ?_));exact .inl ⟨rfl,by rw[L,lv zz];rfl,J,rfl,hB,λi hi=>by
    rcases hi with rfl|rfl
    .exact(y 2 zz).tn (c.tn E2.symm)
    .exact(y 3 zz).tn (j.tn E3.symm)⟩):p:=h
def xak{p:Prop}(h:p:=by
 unfold wpOp;simp only[hi,j,if_true,Kp.wp,k,Kp.upon_enter];refine .inl (hc.mono λe w' c=>?_);first|have _:=ø;obtain⟨rfl,a⟩:=c|obtain⟨v,rfl,a⟩:=c
 show K ((fa n f).put oi.dst v) w';rw[b,cw g];first|have _:=ø;exact h w' a|exact h v w' a):p:=h
def xaz{p:Prop}(h:p:=by
 first|have _:=ø;unfold VC dI|unfold Nj cT;rw[hU]
 by_cases hc:ay b l≠0
 .rw[dE hc,dE hc]
 .rw[cd hc,cd hc];by_cases f:cN b.S sh d≠0
  .rw[dE f,dE f]
  .rw[cd f,cd f]
   first
   |have _:=ø
    have c:ay b l=0:=zz;have t:cN b.S sh d=0:=zz;obtain⟨o,E,q,G,i⟩:=bP c;obtain⟨z,m,O,P,Q,R,T,A,U,L,N⟩:=cS o;obtain⟨-, -, r⟩:=tM t;have u:∀x∈l.W,0<=x.1/\x.1<l.U.length/\0<=x.2.1/\x.2.1<b.S:=by
     unfold ki at i;split at i
     .omega
     .exact N5 i
    unfold RI;rw[TS A,TT m (wM r),E8 (λk hk=>(kP q k hk).1) u];congr 1;cases Ni l.C d<;>cases ax sh b.lo b.hi<;>simp
   |by_cases a:ax hour 0 (l.U.length-1)=false
    .rw[dE a,dE a]
    .rw[cd a,cd a];have c:ay b l=0:=zz;obtain⟨z,m,-⟩:=cS (bP c).1;have s:ax hour 0 (l.U.length-1)=true:=by simpa using a
     obtain⟨B,C⟩:=cq.1 s;obtain⟨h,rfl⟩:∃h:Nat,hour=(h:Int):=⟨hour.toNat,zz⟩;rw[qNB];obtain⟨j,v,w,y⟩:=kP (bP c).2.2.1 h zz;generalize l.U.getD h (0,0)=p at j v w y;have e:ie (λn=>qQ b.S b.L sh d p.1 p.2 n) b.S.toNat=ie (eT b.S b.L sh (eM d) p) 12:=by
      rw[QB (g:=eT b.S b.L sh (eM d) p) λn K=>QC j zz];have:=E7 (g:=eT b.S b.L sh (eM d) p) (S:=b.S.toNat) (12-b.S.toNat) λn J h2=>by
       unfold eT;split
       .rfl
       .rw[decide_eq_false zz,Bool.false_and]
      rw[show b.S.toNat+(12-b.S.toNat)=12 from by omega]at this;exact this.symm
     rw[e]):p:=h
def xaA{p:Prop}(h:p:=by
 obtain⟨rfl⟩:=d;unfold Hn;simp only[c,e,f];go_simp;rw[Go.IntWalk.i64_in _ h]):p:=h
def xaH{p:Prop}(h:p:=by
 unfold Hn;simp only[b,ab,c,a,Deferred.ofValue];simp[go_sem,invoke,hc]):p:=h
def xbz{p:Prop}(h:p:=by
 obtain⟨rfl⟩:=b;unfold Hn;simp only[a,c];go_simp):p:=h
end Go
namespace Go.Proofs.YtimmnfbjckbneaaGreatDoor
open Go.RowKit Go.Co
variable{K R:Act->H->Prop}{fn:ba}{args:Array M}{v:M}{E S:H->Prop}{w w':H}{ops:Array Kp}{n d j i g k off m cp z:Nat}{f:Nat->M}{oi o:Kp}{rest:List Nat}{Q:Exit->Act->H->Prop}{md:Region.Mode}{late:Nat->Bool}{L:Array Bool}{Z:ae->M}{x y c:ae}{a b:Int}{t':Lk}{r q p:Bool}
section
variable{t:Bool}
def eE(b:oi.guard=Y (j,t))(c:(ops[j]?).bind (·.dst)=Y g)(d:g<n)(a:f g=.bool t):Region.wanted oi (aw ops (fa n f).tmps)=true:=xaZ
def jc(b:oi.guard=Y (j,t))(c:(ops[j]?).bind (·.dst)=Y g)(d:g<n)(a:f g=.bool (!t)):Region.wanted oi (aw ops (fa n f).tmps)=false:=by
 unfold Region.wanted;rw[b];simp only[xM c d a];cases t<;>rfl
def ZE(v:M)(hi:ops[i]?=Y oi)(a:oi.dst=Y d)(b:d<n)(c:Region.wanted oi (aw ops (fa n f).tmps)=true)(e:(Hn (fa n f).eval oi).run F w=.ok (.value v) w')(h:K (fa n (ah f d v)) w'):wpOp F ops Q i K (fa n f) w:=by
 unfold wpOp;simp only[hi,c,if_true,Kp.wp,e,Kp.upon];rw[a,cw b];exact .inl h
def Vg(hi:ops[i]?=Y oi)(b:oi.dst=Y d)(g:d<n)(j:Region.wanted oi (aw ops (fa n f).tmps)=true)(k:(Hn (fa n f).eval oi).run F w=.ok (.enter fn args) w)
  (hc:PH F fn args w λe w'=>e=.returned v/\E w')(h:∀w',E w'->K (fa n (ah f d v)) w'):wpOp F ops Q i K (fa n f) w:=by
 have ø:=0;exact xak
def ZF{E:M->H->Prop}(hi:ops[i]?=Y oi)(b:oi.dst=Y d)(g:d<n)(j:Region.wanted oi (aw ops (fa n f).tmps)=true)(k:(Hn (fa n f).eval oi).run F w=.ok (.enter fn args) w)
  (hc:PH F fn args w λe w'=>∃v,e=.returned v/\E v w')(h:∀v w',E v w'->K (fa n (ah f d v)) w'):wpOp F ops Q i K (fa n f) w:=xak
def ZG(hi:ops[i]?=Y oi)(a:oi.dst=Y d)(b:d<n)(c:Region.wanted oi (aw ops (fa n f).tmps)=false)(h:K (fa n (ah f d D)) w):wpOp F ops Q i K (fa n f) w:=by
 unfold wpOp;simp only[hi,c,kx,if_false];rw[a,cw b];exact h
def ZH(hi:ops[i]?=Y oi)(a:oi.dst=I)(b:Region.wanted oi (aw ops (fa n f).tmps)=true)(c:(Hn (fa n f).eval oi).run F w=.ok .skip w')(h:K (fa n f) w'):wpOp F ops Q i K (fa n f) w:=by
 unfold wpOp;simp only[hi,b,if_true,Kp.wp,c,Kp.upon];rw[a];exact .inl h
def lV(v:M)(hi:ops[i]?=Y oi)(a:oi.dst=Y d)(b:d<n)(c:Region.wanted oi (aw ops (fa n f).tmps)=true)(e:(Hn (fa n f).eval oi).run F w=.ok (.value v) w')(h:wpOps F ops Q rest (fa n (ah f d v)) w'):wpOps F ops Q (i::rest) (fa n f) w:=by
 rw[wpOps_cons];exact ZE v hi a b c e h
def lN(hi:ops[i]?=Y oi)(a:oi.dst=Y d)(b:d<n)(c:Region.wanted oi (aw ops (fa n f).tmps)=false)(h:wpOps F ops Q rest (fa n (ah f d D)) w):wpOps F ops Q (i::rest) (fa n f) w:=by
 rw[wpOps_cons];exact ZG hi a b c h
def lS(hi:ops[i]?=Y oi)(a:oi.dst=I)(b:Region.wanted oi (aw ops (fa n f).tmps)=true)(c:(Hn (fa n f).eval oi).run F w=.ok .skip w')(h:wpOps F ops Q rest (fa n f) w'):wpOps F ops Q (i::rest) (fa n f) w:=by
 rw[wpOps_cons];exact ZH hi a b c h
def lC(hi:ops[i]?=Y oi)(a:oi.dst=Y d)(b:d<n)(c:Region.wanted oi (aw ops (fa n f).tmps)=true)(g:(Hn (fa n f).eval oi).run F w=.ok (.enter fn args) w)
  (hc:PH F fn args w λe w'=>e=.returned v/\E w')(h:∀w',E w'->wpOps F ops Q rest (fa n (ah f d v)) w'):wpOps F ops Q (i::rest) (fa n f) w:=by
 rw[wpOps_cons];exact Vg hi a b c g hc h
def lR{E:M->H->Prop}(hi:ops[i]?=Y oi)(a:oi.dst=Y d)(b:d<n)(c:Region.wanted oi (aw ops (fa n f).tmps)=true)(g:(Hn (fa n f).eval oi).run F w=.ok (.enter fn args) w)
  (hc:PH F fn args w λe w'=>∃v,e=.returned v/\E v w')(h:∀v w',E v w'->wpOps F ops Q rest (fa n (ah f d v)) w'):wpOps F ops Q (i::rest) (fa n f) w:=by
 rw[wpOps_cons];exact ZF hi a b c g hc h
def lE(h:Q .normal (fa n f) w):wpOps F ops Q [] (fa n f) w:=h
def tV(v:M)(hi:ops[i]?=Y oi)(b:oi.dst=Y d)(g:d<n)(m:Region.wanted oi (aw ops (fa n f).tmps)=true)(l:Region.noSelect ops=true)(c:Region.free md ops L i=true)(j:(Region.ready md ops L).contains i=true)(e:nN md ops late i=true)
  (o:∀w',S w'->(Hn (fa n f).eval oi).run F w'=.ok (.value v) w')(a:S w)
  (h:wpAnyL F md ops (aR R) S late k (L.setIfInBounds i true) (fa n (ah f d v)) w):wpAnyL F md ops (aR R) S late (k+1) L (fa n f) w:=
 dN (v:=v) hi l c j e (λ_ _ _ h=>h) (.inl ⟨m,o⟩) a (by rw[b,cw g];exact h)
def tN(hi:ops[i]?=Y oi)(b:oi.dst=Y d)(g:d<n)(m:Region.wanted oi (aw ops (fa n f).tmps)=false)(l:Region.noSelect ops=true)(c:Region.free md ops L i=true)(j:(Region.ready md ops L).contains i=true)(e:nN md ops late i=true)(a:S w)
  (h:wpAnyL F md ops (aR R) S late k (L.setIfInBounds i true) (fa n (ah f d D)) w):wpAnyL F md ops (aR R) S late (k+1) L (fa n f) w:=
 dN (v:=D) hi l c j e (λ_ _ _ h=>h) (.inr ⟨m,rfl⟩) a (by rw[b,cw g];exact h)
def tC(j:Region.ready md ops L=[i])(hi:ops[i]?=Y oi)(b:oi.dst=Y d)(g:d<n)(l:Region.wanted oi (aw ops (fa n f).tmps)=true)(o:(Hn (fa n f).eval oi).run F w=.ok (.enter fn args) w)
  (hc:PH F fn args w λe w'=>e=.returned v/\E w')(h:∀w',E w'->S w'/\wpAnyL F md ops (aR R) S late k (L.setIfInBounds i true) (fa n (ah f d v)) w'):wpAnyL F md ops (aR R) S late (k+1) L (fa n f) w:=by
 refine bl [i] j ss λm c=>?_;obtain rfl:=ib.1 c;exact Vg hi b g l o hc λw' a=>⟨λ_=>(h w' a).1,(h w' a).2⟩
end
def gy(n:Nat){F:Func}{c:Ly}{A:Array M}{R:Ending->H->Prop}(b:Hb.funcs[fn]?=Y F)(a:F.body=Y c)(d:A.size+(F.ntmps-A.size)=n)(h:∀f:Nat->M,(∀i,f i=A.getD i D)->Ly.wp Hb c (bodyPost Hb F R) (fa n f) w):PH Hb fn A w R:=by
 refine calls_of_wp b a ?_;rw[iu d];exact h _ λ_=>rfl
theorem Ib{g:Nat}{b:aC}(h:aK w g 31 b):(Instr.loadAt 31 (.pointer (Y (g,0)))).run F w=.ok b.v w:=by
 obtain⟨a,c,i,j,k,l,m,n,o,p,d,e,f⟩:=aM h;unfold aC.v;go_simp
theorem ag{n t:Nat}{f:Nat->M}(h:t<n)(e:f t=v):(fa n f).eval (.tmp t)=v:=(fe h).tn e
def faL(s:Nat):List Nat:=if s=31 then[0,1,2,3,5,6,8,10,11,12]else if s=72 then[0,1,2]else if s=33\/s=23\/s=26\/s=94\/s=96 then[0,1]else[]
def Sm(x:Int):Prop:= -9223372036854775808<=x/\x<=9223372036854775807
structure yW(x y:M):Prop where h:x=y
def ixT(t:Nat):Option Nat:=if t=27\/t=28 then Y 2 else if t=29 then Y 3 else I
def TG:BinOp->Option (Int->Int->Bool)
 | .lss=>Y λa b=>decide (a<b)
 | .leq=>Y λa b=>decide (a<=b)
 | .gtr=>Y λa b=>decide (b<a)
 | .geq=>Y λa b=>decide (b<=a)
 | .eql=>Y λa b=>a==b
 | .neq=>Y λa b=>a != b
 | _=>I
section
variable{t t':Lk}
def bq(a:o.op=.move x\/o.op=.assign x)(l:Z x=v):(Hn Z o).run F w=.ok (.value v) w:=xbs
theorem dm{xs:Array ae}{ts:Array Lk}(b:o.op=.call {callee:=.value (.func fn),args:=xs,argTypes:=ts})(a:xs.map Z=args)(c:Z (.func fn)=.func (.func fn) #[] #[])
  (hc:(callFunc fn args).run F w=.ok (.enter fn args) w):(Hn Z o).run F w=.ok (.enter fn args) w:=xaH
theorem j0(a:o.op=.unOp .not t x)(c:Z x=.bool r)(b:yW (.bool (!r)) v):(Hn Z o).run F w=.ok (.value v) w:=xbz
theorem aa6(a:o.op=.pick c x y)(hc:Z c=.bool r)(b:(if r then Z x else Z y)=v):(Hn Z o).run F w=.ok (.value v) w:=by
 subst b;unfold Hn;simp only[a,hc];cases r<;>go_simp
theorem abc(a:o.op=.binOp .eql 4 x y 4)(d:Z x=.bool r)(e:Z y=.bool q)(b:(r==q)=p)(c:yW (.bool p) v):(Hn Z o).run F w=.ok (.value v) w:=by
 subst b;obtain⟨rfl⟩:=c;unfold Hn;simp only[a,d,e];go_simp
theorem Vh(a:o.op=.binOp .neq 4 x y 4)(d:Z x=.bool r)(e:Z y=.bool q)(b:(r != q)=p)(c:yW (.bool p) v):(Hn Z o).run F w=.ok (.value v) w:=by
 subst b;obtain⟨rfl⟩:=c;unfold Hn;simp only[a,d,e];cases r<;>cases q<;>go_simp
theorem Sr{op:BinOp}{F:Int->Int->Bool}(c:o.op=.binOp op t x y t')(hF:TG op=Y F)(f:Z x=.int .i64 a)(g:Z y=.int .i64 b)(d:F a b=r)(e:yW (.bool r) v):(Hn Z o).run Hb w=.ok (.value v) w:=by
 subst d;obtain⟨rfl⟩:=e;unfold Hn;simp only[c,f,g];cases op<;>cases hF<;>go_simp
def gE{B:aC}(b:o.op=.load 31 x)(d:Z x=.pointer (Y (g,0)))(a:aK w g 31 B)(c:yW (B.v) v):(Hn Z o).run F w=.ok (.value v) w:=by
 have h:=(Ib a);obtain⟨rfl⟩:=c;unfold Hn;simp only[b,d];simp[h]
theorem qM{sh:Int}{s:Sl}(a:o.op=.load 33 x)(c:Z x=.pointer (Y (g,0)))(d:w (g,0)=Y (.int .i64 sh))(e:w (g,1)=Y (.slice s.A s.n s.c))(b:yW (aF sh s) v):(Hn Z o).run F w=.ok (.value v) w:=by
 obtain⟨rfl⟩:=b;unfold Hn aF;simp only[a,c];go_simp
theorem Xo{h s:Int}(a:o.op=.load 72 x)(c:Z x=.pointer (Y (g,off)))(d:w (g,off)=Y (.int .i64 h))(e:w (g,off+1)=Y (.int .i64 s))(h2:w (g,off+2)=Y (.bool r))(b:yW (.agg #[.int .i64 h,.int .i64 s,.bool r]) v):(Hn Z o).run F w=.ok (.value v) w:=xbz
theorem TH{s:Nat}(b:o.op=.fieldAddr s x k)(a:(faL s)[k]?=Y z)(c:Z x=.pointer (Y (g,off)))(d:yW (.pointer (Y (g,off+z))) v):(Hn Z o).run F w=.ok (.value v) w:=by
 obtain⟨rfl⟩:=d;unfold Hn;simp only[b,c];clear b c;unfold faL at a;repeat' split at a
 .subst s;iterate 10 (rcases k with _|k; · cases a;go_simp)
  cases a
 .subst s;iterate 3 (rcases k with _|k; · cases a;go_simp)
  cases a
 .rename_i h;iterate 2 (rcases k with _|k; · cases a;rcases h with rfl|rfl|rfl|rfl|rfl<;>go_simp)
  cases a
 .cases a
theorem abe(b:o.op=.load t x)(a:[3,4,24,27,28,29,36].contains t=true)(c:Z x=.pointer (Y (g,off)))(hc:w (g,off)=Y v):(Hn Z o).run F w=.ok (.value v) w:=by
 unfold Hn;simp only[b,c];simp at a;rcases a with rfl|rfl|rfl|rfl|rfl|rfl|rfl<;>go_simp
theorem Xp(a:o.op=.indexAddr 24 x y)(c:Z x=.slice (Y (g,off)) m cp)(d:Z y=.int .i64 k)(hk:k<m)(b:yW (.pointer (Y (g,off+k))) v):(Hn Z o).run F w=.ok (.value v) w:=by
 obtain⟨rfl⟩:=b;unfold Hn;simp only[a,c,d];go_simp
theorem Vj(b:o.op=.indexAddr t x y)(a:ixT t=Y z)(d:Z x=.slice (Y (g,off)) m cp)(e:Z y=.int .i64 k)(hk:k<m)(c:yW (.pointer (Y (g,off+k*z))) v):(Hn Z o).run F w=.ok (.value v) w:=by
 obtain⟨rfl⟩:=c;unfold Hn;simp only[b,d,e];unfold ixT at a;split at a
 .rename_i h;cases a;rcases h with rfl|rfl<;>go_simp
 .split at a
  .rename_i h;cases a;subst h;go_simp
  .cases a
theorem SF{A:Option Addr}(b:o.op=.call {callee:=.builtin .len,args:= #[x],argTypes:= #[t]})(a:[24,27,28,29].contains t=true)(c:o.type=3)(e:Z x=.slice A m cp)(d:yW (.int .i64 m) v):(Hn Z o).run F w=.ok (.value v) w:=by
 obtain⟨rfl⟩:=d;unfold Hn;simp only[b,ab,zM,e,c];simp at a;rcases a with rfl|rfl|rfl|rfl<;>go_simp
theorem AW(c:o.op=.binOp .sub 3 x y 3)(e:Z x=.int .i64 a)(f:Z y=.int .i64 b)(h:Sm (a-b))(d:yW (.int .i64 (a-b)) v):(Hn Z o).run F w=.ok (.value v) w:=xaA
theorem E4(c:o.op=.binOp .add 3 x y 3)(e:Z x=.int .i64 a)(f:Z y=.int .i64 b)(h:Sm (a+b))(d:yW (.int .i64 (a+b)) v):(Hn Z o).run F w=.ok (.value v) w:=xaA
end
variable{id N:Nat}{p:Prop}{z:ae}{a b c v':M}{u:H}{xs:Array ae}{ts:Array Lk}
def Rs(n:Nat)(u:H)(f:Nat->M)(keep:Nat->Prop)(p:(Nat->M)->Prop)(a:Act)(w:H):Prop:=∃f',a=fa n f'/\X u u w/\(∀i,keep i->f' i=f i)/\p f'
def Rs.mk{u w:H}{f f':Nat->M}{keep:Nat->Prop}{p:(Nat->M)->Prop}(a:X u u w)(hk:∀i,keep i->f' i=f i)(b:p f'):aR (Rs n u f keep p) .normal (fa n f') w:=⟨f',rfl,a,hk,b⟩
def XF(b:Z x=a):(#[x]).map Z= #[a]:=by simp[b]
def MJ(c:Z x=a)(d:Z y=b):(#[x,y]).map Z= #[a,b]:=by simp[c,d]
def MK(d:Z x=a)(e:Z y=b)(h2:Z z=c):(#[x,y,z]).map Z= #[a,b,c]:=by simp[d,e,h2]
def XG{x y z u:ae}{a b c d:M}(e:Z x=a)(f:Z y=b)(h2:Z z=c)(g:Z u=d):(#[x,y,z,u]).map Z= #[a,b,c,d]:=by simp[e,f,h2,g]
def fG:Ly:=match Tryz.f11.body with|some c=>c|_=>.skip
def ZI:Array Kp:=br [0] fG
def Vo:Array Kp:=br [1,0,0] fG
def P6:Array Kp:=br [1,0,1,0] fG
def Vp:Array Kp:=br [1,0,1,1,4,0] fG
def P7:Array Kp:=br [1,1,0,0] fG
def Vq:Array Kp:=br [1,1,0,1,4,0] fG
def Vr:Array Kp:=br [1,1,1,0,0] fG
def ux:Ly:=dk [1,1,1,0,1,2,3] fG
def P8:Array Kp:=br [0,0] ux
def P9:Array Kp:=br [1,0,2,0,0] ux
def Qa:Array Kp:=br [1,0,2,0,1,4,0] ux
def Ig:Array Kp:=br [1,0,2,1,0] ux
def Qb:Array Kp:=br [1,0,2,1,1,4,0] ux
def Vt:Array Kp:=br [1,1] ux
def Ih:Array Kp:=br [1,1,1,1,0,0] fG
def Qc:Array Kp:=br [1,1,1,1,0,1,4,0] fG
def Qd:Array Kp:=br [1,1,1,1,1,0,0] fG
def uy:Ly:=dk [1,1,1,1,1,0,1,2,3] fG
def Ii:Array Kp:=br [0,0] uy
def B6:Array Kp:=br [1,0,2,0,0] uy
def Qe:Array Kp:=br [1,0,2,0,1,4,0] uy
def Ij:Array Kp:=br [1,0,2,1,0] uy
def Qf:Array Kp:=br [1,0,2,1,1,4,0] uy
def Qg:Array Kp:=br [1,1] uy
def Ik:Array Kp:=br [1,1,1,1,1,1,0,0] fG
def Qh:Array Kp:=br [1,1,1,1,1,1,0,1,4,0] fG
def Qi:Array Kp:=br [1,1,1,1,1,1,1,0,0] fG
def za:Ly:=dk [1,1,1,1,1,1,1,0,1,2,3] fG
def Il:Array Kp:=br [0,0] za
def B7:Array Kp:=br [1,0,2,0] za
def Qj:Array Kp:=br [1,0,2,1,4,0] za
def Qk:Array Kp:=br [1,1] za
def Ql:Array Kp:=br [1,1,1,1,1,1,1,1,0] fG
def ML:fG=.seq (.region 0 ZI false) (.seq (.seq (.region 1 Vo false) (.seq (.region 2 P6 false) (.cond (.tmp 10) (.seq (.region 3 Vp false) (.ret)) (.skip)))) (.seq (.seq (.region 4 P7 false) (.cond (.tmp 16) (.seq (.region 5 Vq false) (.ret)) (.skip))) (.seq (.seq (.region 6 Vr false) (.block 0 (.loop ux))) (.seq (.seq (.region 13 Ih false) (.cond (.tmp 44) (.seq (.region 14 Qc false) (.ret)) (.skip))) (.seq (.seq (.region 15 Qd false) (.block 2 (.loop uy))) (.seq (.seq (.region 22 Ik false) (.cond (.tmp 91) (.seq (.region 23 Qh false) (.ret)) (.skip))) (.seq (.seq (.region 24 Qi false) (.block 4 (.loop za))) (.seq (.region 29 Ql false) (.ret))))))))):=rfl
def Qm:ux=.seq (.seq (.region 7 P8 false) (.cond (.tmp 21) (.skip) (.exit 0))) (.seq (.block 1 (.seq (.seq (.region 9 P9 true) (.cond (.tmp 32) (.seq (.region 10 Qa false) (.ret)) (.skip))) (.seq (.region 11 Ig false) (.cond (.tmp 40) (.seq (.region 12 Qb false) (.ret)) (.skip))))) (.region 8 Vt false)):=rfl
def Qn:uy=.seq (.seq (.region 16 Ii false) (.cond (.tmp 49) (.skip) (.exit 2))) (.seq (.block 3 (.seq (.seq (.region 18 B6 true) (.cond (.tmp 77) (.seq (.region 19 Qe false) (.ret)) (.skip))) (.seq (.region 20 Ij true) (.cond (.tmp 87) (.seq (.region 21 Qf false) (.ret)) (.skip))))) (.region 17 Qg false)):=rfl
def Qo:za=.seq (.seq (.region 25 Il false) (.cond (.tmp 96) (.skip) (.exit 4))) (.seq (.block 5 (.seq (.region 27 B7 true) (.cond (.tmp 118) (.seq (.region 28 Qj false) (.ret)) (.skip)))) (.region 26 Qk false)):=rfl
theorem Oh{d i:Nat}(e:f i=a)(h:Nat.beq i d=false:=by exact rfl):ah f d v i=a:=(cd (Nat.ne_of_beq_eq_false h)).tn e
theorem Ls{n t:Nat}(e:f t=v)(h:t<n:=by omega):(fa n f).eval (.tmp t)=v:=(fe h).tn e
def Tv:(fa n f).eval (.const v)=v:=rfl
def vq{x:M}:yW x x:=⟨rfl⟩
def XH{x:Bool}:x=x:=rfl
theorem dT[Decidable p](h:p)(e:true=r):decide p=r:=(decide_eq_true h).tn e
theorem dF[Decidable p](h:¬p)(e:false=r):decide p=r:=(decide_eq_false h).tn e
structure At(j:Nat)(p:Prop):Prop where h:p
structure Ac(j:Nat)(p:Prop):Prop where h:p
def XI(hi:ops[i]?=Y oi)(a:oi.dst=Y d)(c:Region.wanted oi (aw ops (fa n f).tmps)=true)(hB:X u u w)(h:∃v,(∀w',X u u w'->(Hn (fa n f).eval oi).run F w'=.ok (.value v) w')/\wpOps F ops Q rest (fa n (ah f d v)) w)(b:d<n:=by omega):wpOps F ops Q (i::rest) (fa n f) w:=let⟨v,hy,h⟩:=h;lV v hi a b c (hy w hB) h
def XJ(hi:ops[i]?=Y oi)(a:oi.dst=Y d)(c:Region.wanted oi (aw ops (fa n f).tmps)=false)(h:wpOps F ops Q rest (fa n (ah f d D)) w)(b:d<n:=by omega):wpOps F ops Q (i::rest) (fa n f) w:=lN hi a b c h
def Lv(o:Kp):Bool:=match o.op with|.call c=>(match c.callee with|.builtin _=>true|_=>false)|_=>true
def XO(_:Nat.blt j ops.size=true)(h:At (j+1) (wpAnyL F md ops (aR R) (λa=>X u u a) late k L (fa n f) w)):At j (wpAnyL F md ops (aR R) (λa=>X u u a) late k L (fa n f) w):=⟨h.h⟩
def XP(_:L.getD j true=false)(hi:ops[j]?=Y oi)(_:Lv oi=true)(b:oi.dst=Y d)(m:Region.wanted oi (aw ops (fa n f).tmps)=true)(hB:X u u w)
  (h:∃v,(∀w',X u u w'->(Hn (fa n f).eval oi).run F w'=.ok (.value v) w')/\At (j+1) (wpAnyL F md ops (aR R) (λa=>X u u a) late k (L.setIfInBounds j true) (fa n (ah f d v)) w))
  (g:d<n:=by omega)(l:Region.noSelect ops=true:=by kernel_rfl)(c:Region.free md ops L j=true:=by kernel_rfl)(i:(Region.ready md ops L).contains j=true:=by kernel_rfl)(e:nN md ops late j=true:=by kernel_rfl):At j (wpAnyL F md ops (aR R) (λa=>X u u a) late (k+1) L (fa n f) w):=let⟨v,hy,h⟩:=h;⟨tV v hi b g m l c i e hy hB h.h⟩
def XQ(_:L.getD j true=false)(hi:ops[j]?=Y oi)(b:oi.dst=Y d)(m:Region.wanted oi (aw ops (fa n f).tmps)=false)(hB:X u u w)
  (h:At (j+1) (wpAnyL F md ops (aR R) (λa=>X u u a) late k (L.setIfInBounds j true) (fa n (ah f d D)) w))
  (g:d<n:=by omega)(l:Region.noSelect ops=true:=by kernel_rfl)(c:Region.free md ops L j=true:=by kernel_rfl)(i:(Region.ready md ops L).contains j=true:=by kernel_rfl)(e:nN md ops late j=true:=by kernel_rfl):At j (wpAnyL F md ops (aR R) (λa=>X u u a) late (k+1) L (fa n f) w):=⟨tN hi b g m l c i e hB h.h⟩
def adc(_:Nat.blt j ops.size=true)(h:Ac (j+1) (wpAnyL F md ops (aR R) (λa=>X u u a) late k L (fa n f) w)):Ac j (wpAnyL F md ops (aR R) (λa=>X u u a) late k L (fa n f) w):=⟨h.h⟩
def Xs(fn:ba)(xs:Array ae)(a:Act)(u w:H)(p:M->H->Prop):Prop:=∃args v,xs.map a.eval=args/\(callFunc fn args).run F w=.ok (.enter fn args) w/\PH F fn args w (λe w'=>e=.returned v/\X w w w')/\∀w',X u u w'->p v w'
theorem XR(hi:ops[i]?=Y oi)(e:oi.op=.call {callee:=.value (.func fn),args:=xs,argTypes:=ts})(b:oi.dst=Y d)(g:Region.wanted oi (aw ops (fa n f).tmps)=true)(hB:X u u w)
  (h:Xs fn xs (fa n f) u w λv w'=>wpOps F ops Q rest (fa n (ah f d v)) w')(c:d<n:=by omega):wpOps F ops Q (i::rest) (fa n f) w:=
 let⟨_,_,ha,hf,hc,h⟩:=h;lC hi b c g (dm e ha rfl hf) hc λw' a=>h w' (hB.tn (a.mono hB.size))
theorem XS(_:L.getD j true=false)(hi:ops[j]?=Y oi)(g:oi.op=.call {callee:=.value (.func fn),args:=xs,argTypes:=ts})(c:oi.dst=Y d)(l:Region.wanted oi (aw ops (fa n f).tmps)=true)(hB:X u.heap.size u w)
  (h:Xs fn xs (fa n f) u w λv w'=>At (j+1) (wpAnyL F md ops (aR R) (λa=>X u.heap.size u a) late k (L.setIfInBounds j true) (fa n (ah f d v)) w'))(e:d<n:=by omega)(i:Region.ready md ops L=[j]:=by kernel_rfl):Ac j (wpAnyL F md ops (aR R) (λa=>X u.heap.size u a) late (k+1) L (fa n f) w):=
 let⟨_,_,ha,hf,hc,h⟩:=h;⟨tC i hi c e l (dm g ha rfl hf) hc λw' b=>⟨hB.tn (b.mono hB.size),(h w' (hB.tn (b.mono hB.size))).h⟩⟩
def kE(h:PH F fn args w λe w'=>e=.returned v/\w=w')(e:v=v'):PH F fn args w λe w'=>e=.returned v'/\X w w w':=h.mono λ_ _ h=>⟨e▸h.1,h.2▸X.refl _ _⟩
def kB(h:PH F fn args w λe w'=>e=.returned v/\X w w w')(e:v=v'):PH F fn args w λe w'=>e=.returned v'/\X w w w':=h.mono λ_ _ h=>⟨e▸h.1,h.2⟩
def ic(m:Nat){l:List Nat}{a:Act}(c:ops.size=m)(b:List.range m=l)(h:wpOps F ops Q l a w):Ly.wp F (.region id ops false) Q a w:=wF (by rw[c];exact b) h
def vB{a b:Bool}(h:a=b):M.bool a=.bool b:=h▸rfl
def vI{a b:Int}(h:a=b):M.int .i64 a=.int .i64 b:=h▸rfl
def Tn(hB:X u.heap.size u w){a:Act}(h:X u.heap.size u w.drew->At 0 (wpAnyL F .any ops Q (λb=>X u.heap.size u b) (λ_=>false) ops.size (Array.replicate ops.size false) a w.drew)):(Ly.region id ops true).wp F Q a w:=bK _ rR (h hB.drew).h
def XT{a:Act}(h:aR R .normal a w)(b:Region.ready md ops L=[]:=by kernel_rfl):Ac j (wpAnyL F md ops (aR R) (λc=>X u u c) late k L a w):=⟨cH b h k⟩
def Xt(h:Ac 0 p):At j p:=⟨h.h⟩
structure Qz(q:Prop):Prop where h:q
theorem Tw{p q:Prop}(c:q)(h:Qz q->p:=by intro hqq;(repeat (first|((first|refine XI rfl rfl ?_ hB ?_|refine XP rfl rfl rfl rfl ?_ hB ?_);(first|exact bY rfl|(refine eE rfl rfl ?_ ?_;omega;focus ((repeat (first|exact au _ _ _|assumption|refine Oh ?_));done)));refine⟨?_,λe d=>?_,?_⟩;rotate_left;focus ((first|refine bq (.inl rfl) ?_|refine bq (.inr rfl) ?_|(refine TH (g:=?_) (off:=?_) rfl rfl ?_ ?_;rotate_left 2)|(refine abe (g:=?_) (off:=?_) rfl rfl ?_ ?_;rotate_left 2)|(refine aa6 (r:=?_) rfl ?_ ?_;rotate_left 1)|(refine abc (r:=?_) (q:=?_) (p:=?_) rfl ?_ ?_ ?_ ?_;rotate_left 3)|(refine Vh (r:=?_) (q:=?_) (p:=?_) rfl ?_ ?_ ?_ ?_;rotate_left 3)|(refine Sr (a:=?_) (b:=?_) (r:=?_) rfl rfl ?_ ?_ ?_ ?_;rotate_left 3)|(refine j0 (r:=?_) rfl ?_ ?_;rotate_left 1)|(refine Vj (g:=?_) (off:=?_) (m:=?_) (cp:=?_) (k:=?_) rfl rfl ?_ ?_ ?_ ?_;rotate_left 5)|(refine Xp (g:=?_) (off:=?_) (m:=?_) (cp:=?_) (k:=?_) rfl ?_ ?_ ?_ ?_;rotate_left 5)|(refine SF (A:=?_) (m:=?_) (cp:=?_) rfl rfl rfl ?_ ?_;rotate_left 3)|(refine E4 (a:=?_) (b:=?_) rfl ?_ ?_ ?_ ?_;rotate_left 2)|(refine AW (a:=?_) (b:=?_) rfl ?_ ?_ ?_ ?_;rotate_left 2)|(refine gE (g:=?_) (B:=?_) rfl ?_ ?_ ?_;rotate_left 2)|(refine qM (g:=?_) (sh:=?_) (s:=?_) rfl ?_ ?_ ?_ ?_;rotate_left 3)|(refine Xo (g:=?_) (off:=?_) (h:=?_) (s:=?_) (r:=?_) rfl ?_ ?_ ?_ ?_ ?_;rotate_left 5));all_goals first|(refine Ls ?_;(repeat (first|exact au _ _ _|assumption|refine Oh ?_));done)|exact Tv|(refine(dE rfl).tn ?_;first|(refine Ls ?_;(repeat (first|exact au _ _ _|assumption|refine Oh ?_));done)|exact Tv)|(refine(cd Bool.false_ne_true).tn ?_;first|(refine Ls ?_;(repeat (first|exact au _ _ _|assumption|refine Oh ?_));done)|exact Tv)|assumption|(refine Eq.tn (Below.cell (B:=?_) (w:=?_) ?_ ?_) ?_;rotate_left 2;assumption;assumption;assumption)|(refine Eq.tn (Below.block (B:=?_) (w:=?_) ?_ _ ?_) ?_;rotate_left 2;assumption;assumption;assumption)|(refine dT ?_ ?_;omega;exact rfl)|(refine dF ?_ ?_;omega;exact rfl)|(unfold Sm;omega)|omega|exact vq|exact XH))|((first|refine XJ rfl rfl ?_ ?_|refine XQ rfl rfl rfl ?_ hB ?_);(focus refine jc rfl rfl ?_ ?_;omega;(repeat (first|exact au _ _ _|assumption|refine Oh ?_));done))|refine XO rfl ?_));exact hqq.h):p:=h ⟨c⟩
theorem rr(h:p:=by((first|(refine Tn hB ?_;intro hB)|refine ic 1 rfl rfl ?_|refine ic 2 rfl rfl ?_|refine ic 3 rfl rfl ?_|refine ic 4 rfl rfl ?_|refine ic 5 rfl rfl ?_|refine ic 6 rfl rfl ?_|refine ic 7 rfl rfl ?_|refine ic 8 rfl rfl ?_|refine ic 9 rfl rfl ?_|refine ic 10 rfl rfl ?_|refine ic 11 rfl rfl ?_|refine ic 12 rfl rfl ?_|refine ic 13 rfl rfl ?_|refine ic 14 rfl rfl ?_|refine ic 15 rfl rfl ?_|refine ic 16 rfl rfl ?_|refine ic 17 rfl rfl ?_|refine ic 18 rfl rfl ?_|refine ic 19 rfl rfl ?_|refine ic 20 rfl rfl ?_|refine ic 21 rfl rfl ?_|refine ic 22 rfl rfl ?_|refine ic 23 rfl rfl ?_|refine ic 24 rfl rfl ?_|refine ic 25 rfl rfl ?_|refine ic 26 rfl rfl ?_|refine ic 27 rfl rfl ?_|refine ic 28 rfl rfl ?_|refine ic 29 rfl rfl ?_|refine ic 30 rfl rfl ?_|refine ic 31 rfl rfl ?_|refine ic 32 rfl rfl ?_|refine ic 33 rfl rfl ?_);refine Tw ?_;(try refine Xt ?_);(repeat (first|(((first|refine XR rfl rfl rfl ?_ hB ?_|refine XS rfl rfl rfl rfl ?_ hB ?_);(first|exact bY rfl|(refine eE rfl rfl ?_ ?_;omega;focus ((repeat (first|exact au _ _ _|assumption|refine Oh ?_));done)));refine⟨?_,?_,?_,?_,?_,λe hB=>?_⟩;rotate_left 2;(focus ((first|(refine XF (a:=?_) ?_;rotate_left 1)|(refine MJ (a:=?_) (b:=?_) ?_ ?_;rotate_left 2)|(refine MK (a:=?_) (b:=?_) (c:=?_) ?_ ?_ ?_;rotate_left 3)|(refine XG (a:=?_) (b:=?_) (c:=?_) (d:=?_) ?_ ?_ ?_ ?_;rotate_left 4));all_goals first|(refine Ls ?_;(repeat (first|exact au _ _ _|assumption|refine Oh ?_));done)|exact Tv));exact rfl;(first|exact hc _ hB|exact hcon _ hB|exact hcon2 _ hB|exact hcon3 _ hB|((first|refine kE (bz _ _ _ _) ?_|(refine kB (rH _ _ ?_ ?_ _) ?_;assumption;assumption)|(refine kB (rI _ _ ?_ _) ?_;assumption));(first|(refine vB (b:=?_) ?_;rotate_left;assumption)|(refine vI (b:=?_) ?_;rotate_left;assumption)|exact rfl))));refine Tw ?_;(try refine Xt ?_))|refine adc rfl ?_));(first|refine XT ?_|refine lE ?_);refine Rs.mk hB (λi hi=>?_) ?_;(focus ((repeat (refine(cu _ _ ?_).tn ?_;omega));exact rfl));(first|exact rfl|exact⟨rfl,rfl⟩|exact db|(simp;done)))):p:=h
def bn{x y:Ly}(u:H)(keep:Nat->Prop)(p:(Nat->M)->Prop)(h:Ly.wp F x (aR (Rs N u f keep p)) (fa N f) w)(next:∀f' w',X u u w'->(∀i,keep i->f' i=f i)->p f'->Ly.wp F y Q (fa N f') w'):Ly.wp F (.seq x y) Q (fa N f) w:=
 wp_seq (wp_mono h λe a w' d=>by
  obtain⟨rfl,f',rfl,b,h2,c⟩:=d.elim;exact next f' w' b h2 c)
def To{x:Ly}(u:H)(keep:Nat->Prop)(p:(Nat->M)->Prop)(h:Ly.wp F x (aR (Rs N u f keep p)) (fa N f) w)(next:∀f' w',X u.heap.size u w'->(∀i,keep i->f' i=f i)->p f'->Q .normal (fa N f') w'):Ly.wp F x Q (fa N f) w:=
 wp_mono h λe a w' d=>by
  obtain⟨rfl,f',rfl,b,h2,c⟩:=d.elim;exact next f' w' b h2 c
variable{l:List (Int×Int)}{keep:Nat->Prop}{p:(Nat->M)->Prop}{x y:Ly}{b:aC}
def sF{n t k:Nat}{f:Nat->M}(h:t<n)(e:f t=.int .i64 k):(intOf ((fa n f).tmps.getD t D)).toNat=k:=by
 rw[Array.getD_eq_getD_getElem?,ej h,e];simp[intOf]
def Lp(N:Nat)(u:H)(f:Nat->M)(R:Int)(e:Exit)(a:Act)(w:H):Prop:=(e=.normal/\R=0/\∃f',a=fa N f'/\X u u w/\f' 1=f 1)\/(e=.ret/\R≠0/\∃f',a=fa N f'/\X u u w/\f' 2=.int .i64 R)
def TK(a4:aK u g 31 b)(a5: -1000<=b.S)(a6:b.S<=1000)(K:f 1=(g,0))(a3:g<u)(x10:u (g,10)=Y (.slice b.U.A b.U.n b.U.c))(C:bp u b.U l)(h4:f 4=.int .i64 (0:Nat))(hB:X u u w):
  Ly.wp F (.block 0 (.loop ux)) (Lp 119 u f (nD b.S l)) (fa 119 f) w:=by
 have ø:=0;exact sT
def TL(x6:u (g,6)=Y (.int .i64 b.rf))(a':2<=b.rf)(a0:b.rf<=30)(x9:u (g,9)=Y (.int .i64 b.ch))(K:f 1=(g,0))(a3:g<u)(x11:u (g,11)=Y (.slice b.E.A b.E.n b.E.c))(C:bp u b.E l)(h5:f 5=.int .i64 (0:Nat))(hB:X u u w):
  Ly.wp F (.block 2 (.loop uy)) (Lp 119 u f (nF b.rf b.ch l)) (fa 119 f) w:=by
 have å:=0;exact sT
def TM{l:List (Int×Int×Bool)}(a4:aK u g 31 b)(b1:b.U.n<=1000)(a5: -1000<=b.S)(a6:b.S<=1000)(K:f 1=(g,0))(a3:g<u)(x12:u (g,12)=Y (.slice b.W.A b.W.n b.W.c))(C:fL u b.W l)(h6:f 6=.int .i64 (0:Nat))(hB:X u u w):
  Ly.wp F (.block 4 (.loop za)) (Lp 119 u f (qi b.S b.U.n l)) (fa 119 f) w:=by
 have æ:=0;exact sT
variable{x:ae}
theorem B8{b:aC}(c:o.op=.box 31 x)(a:Z x=b.v):(Hn Z o).run F w=.ok (.value (.pointer (Y (w.heap.size,0)))) (w.alloc (aE b 31)):=by
 unfold aC.v at a;unfold Hn;simp only[c,a];unfold aE;go_simp;try rfl
theorem JF{sh:Int}{s:Sl}(b:o.op=.box 33 x)(a:Z x=aF sh s):(Hn Z o).run F w=.ok (.value (.pointer (Y (w.heap.size,0)))) (w.alloc (.cells #[.int .i64 sh,.slice s.A s.n s.c] 33)):=by
 unfold aF at a;unfold Hn;simp only[b,a];go_simp;try rfl
def ZO{f:Nat->M}{r:Int}{w:H}(h:f 2=r):(results Tryz.f11 (fa 119 f).tmps).run F w=.ok (.int .i64 r) w:=by
 have e:(fa 119 f).tmps[2]?=Y (.int .i64 r):=by rw[ej zz,h]
 generalize(fa 119 f).tmps=A at e;unfold results Tryz.f11;simp[e]
theorem mm(b:aC)(l:bN)(w:H)(j:aI w b l):
  PH F 11 #[b.v] w λe w'=>e=.returned (.int .i64 (ay b l))/\X w w w':=by
 refine gy 119 Tryz.func11 (c:=fG) rfl rfl λf a2=>?_;have f0:f 0=b.v:=a2 _;clear a2;rw[ML];refine wp_seq (wF (l:=[0,1]) rfl ?_);refine lV (d:=1) (.pointer (Y ⟨w.heap.size,0,I⟩)) rfl rfl zz wnn (B8 rfl (ag (t:=0) zz f0)) ?_;refine lV (d:=2) (.int .i64 0) rfl rfl zz wnn (bq (.inr rfl) rfl) ?_;refine lE ?_;have x:aK (w.alloc (aE b 31)) w 31 b:=Sp _ _;have B:X w w (w.alloc (aE b 31)):=(X.refl _ _).alloc (dj _) _;have a6:(w.alloc (aE b 31)).heap.size=w.heap.size+1:=aa _ _;have j:=j.below B;have e1:ah (ah f 1 (.pointer (Y (w.heap.size,0)))) 2 (.int .i64 0) 1=.pointer (Y (w.heap.size,0)):=rfl;generalize ah (ah f 1 (.pointer (Y ⟨w.heap.size,0,I⟩))) 2 (.int .i64 0)=f1 at e1|-;generalize w.alloc (aE b 31)=u at x B a6 j|-;have E:(w:Nat)<u:=zz;generalize P:w.heap.size=g at e1 x E;have hB:X u u u:=X.refl _ _;have n:∀{f' w'},X u u w'->∀{r},f' 2=.int .i64 r->ay b l=r->bodyPost F Tryz.f11 (λe w'=>e=.returned (.int .i64 (ay b l))/\X g w w') .ret (fa 119 f') w':=λhB r h2 k=>by
  subst k;exact bd (v:=.int .i64 (ay b l)) (ZO h2) rfl ⟨rfl,P▸B.tn (hB.mono B.size)⟩
 obtain⟨r,k⟩:∃r,dZ b l.C=r:=⟨_,rfl⟩;have hc:=λw1 (h:X u.heap.size u w1)=>kB (Ic b l.C w1 (j.C.below h)) (vI k);refine wp_seq (bn u (λi=>i<7/\i≠3) (λf'=>f' 3=.int .i64 r) rr λf2 w2 hB k2 q2=>?_);have e1:=(k2 1 zz).tn e1;clear hc;cases K:(r != 0);rotate_left
 .refine bn u (· < 7) (λf'=>f' 10=.bool true) rr λf3 V hB p o=>wp_cond_true (ag zz o) ?_;have e3:=(p 3 zz).tn q2;refine bn u (λi=>i<7/\i≠2) (λf'=>f' 2=.int .i64 r) rr λW w4 hB R z=>wp_ret ?_;refine n hB z ?_;have C:r≠0:=by simpa using K
  rw[<- k]at C|-;unfold dZ at C|-;unfold ay;split
  .rfl
  .rename_i P;rw[cd P]at C;rw[dE C]
 .have a5:r=0:=by simpa using K
  refine bn u (· < 7) (λf'=>f' 10=.bool false) rr λf3 V hB p o=>wp_cond_false (ag zz o) (wp_skip ?_);have e1:=(p 1 zz).tn e1;rw[a5]at k;clear k2 p q2 o K;have Q:cA b l.C=0:=by
   by_cases h:cA b l.C=0
   .exact h
   .unfold dZ at k;rw[dE h]at k;exact dC k h
  have a1:cZ b=0:=by unfold dZ at k;rw[cd (by simp[Q])]at k;exact k
  obtain⟨t1,t2,t3,t4,t5,t6,t7,t8,t9,b4,b5⟩:=cS Q;obtain⟨u1,u2,u3,u4,u5,u6,u7,u8,u9⟩:=wL a1;have HK:ay b l=if fH b.S l.U≠0 then fH b.S l.U else if fT b.rf b.ch l.E≠0 then fT b.rf b.ch l.E else ki b.S l.U.length l.W:=by
   rw[ay,cd (by simp[Q]),cd (by simp[a1])]
  obtain⟨x0,x1,x2,x3,x4,x5,x6,x7,x8,x9,a7,a8,a9⟩:=aM x;have O:b.U.n=l.U.length:=j.U.1;have b1:l.U.length<=1000:=j.U.2.2.1;have a0:b.E.n=l.E.length:=j.E.1;have b3:b.W.n=l.W.length:=j.W.1;refine wp_seq ?_;cases hF:ax (b.U.n:Nat) 1 4
  .refine bn u (· < 7) (λf'=>f' 16=.bool true) rr λf3 V hB p o=>wp_cond_true (ag zz o) ?_;refine bn u (λi=>i<7/\i≠2) (λf'=>f' 2=.int .i64 2) rr λW w4 hB R z=>wp_ret (n hB z ?_);have:fH b.S l.U=2:=by rw[fH,<- O,cd (by simp[hF])]
   rw[HK,this];rfl
  .refine bn u (· < 7) (λf'=>f' 16=.bool false) rr λf3 V hB p o=>wp_cond_false (ag zz o) (wp_skip ?_);have e1:=(p 1 zz).tn e1;have a3:fH b.S l.U=nD b.S l.U:=by rw[fH,<- O,dE hF]
   rw[a3]at HK;refine wp_seq (bn u (λi=>i<7/\i≠4) (λf'=>f' 4=.int .i64 0) rr λW w4 hB R z=>?_);have e1:=(R 1 zz).tn e1;refine wp_mono (TK x zz zz e1 E a7 j.U z hB) λe a w5 y=>?_;rcases y with⟨rfl,L,f5,rfl,hB,S⟩|⟨rfl,L,f5,rfl,hB,S⟩;rotate_left
   .exact n hB S (by rw[HK,dE L])
   have e1:=S.tn e1;rw[cd (by simp[L])]at HK;refine wp_seq ?_;by_cases a':3<b.E.n
   .refine bn u (· < 7) (λf'=>f' 44=.bool true) rr λf6 w6 hB k6 T=>wp_cond_true (ag zz T) ?_;refine bn u (λi=>i<7/\i≠2) (λf'=>f' 2=.int .i64 2) rr λA G hB q m=>wp_ret (n hB m ?_);have:fT b.rf b.ch l.E=2:=by rw[fT,dE zz]
    rw[HK,this];rfl
   .refine bn u (· < 7) (λf'=>f' 44=.bool false) rr λf6 w6 hB k6 T=>wp_cond_false (ag zz T) (wp_skip ?_);have e1:=(k6 1 zz).tn e1;have a4:fT b.rf b.ch l.E=nF b.rf b.ch l.E:=by rw[fT,cd zz]
    rw[a4]at HK;refine wp_seq (bn u (λi=>i<7/\i≠5) (λf'=>f' 5=.int .i64 0) rr λA G hB q m=>?_);have e1:=(q 1 zz).tn e1;refine wp_mono (TL x6 zz zz x9 e1 E a8 j.E m hB) λe a w8 y=>?_;rcases y with⟨rfl,N,J,rfl,hB,s⟩|⟨rfl,N,J,rfl,hB,s⟩;rotate_left
    .exact n hB s (by rw[HK,dE N])
    have e1:=s.tn e1;rw[cd (by simp[N])]at HK;refine wp_seq ?_;by_cases b2:4<b.W.n
    .refine bn u (· < 7) (λf'=>f' 91=.bool true) rr λf9 w9 hB k9 U=>wp_cond_true (ag zz U) ?_;refine bn u (λi=>i<7/\i≠2) (λf'=>f' 2=.int .i64 2) rr λA G hB q m=>wp_ret (n hB m ?_);rw[HK,ki,dE zz]
    .refine bn u (· < 7) (λf'=>f' 91=.bool false) rr λf9 w9 hB k9 U=>wp_cond_false (ag zz U) (wp_skip ?_);have e1:=(k9 1 zz).tn e1;rw[ki,cd zz,<- O]at HK;refine wp_seq (bn u (λi=>i<7/\i≠6) (λf'=>f' 6=.int .i64 0) rr λA G hB q m=>?_);have e1:=(q 1 zz).tn e1;refine wp_mono (TM x zz zz zz e1 E a9 j.W m hB) λe a w8 y=>?_;rcases y with⟨rfl,Z,J,rfl,hB,s⟩|⟨rfl,Z,J,rfl,hB,s⟩;rotate_left
     .exact n hB s HK
     refine bn u (λi=>i<7/\i≠2) (λf'=>f' 2=.int .i64 0) rr λA G hB q m=>wp_ret (n hB m ?_);rw[HK,Z]
def qR:Ly:=match Tryz.f84.body with|some c=>c|_=>.skip
def ZP:Array Kp:=br [0] qR
def Vu:Array Kp:=br [1,0,0] qR
def vZ:Ly:=dk [1,0,1,2,3] qR
def Qs:Array Kp:=br [0,0] vZ
def ZQ:Array Kp:=br [1,0,2,0] vZ
def Qt:Array Kp:=br [1,0,2,1,0] vZ
def Vv:Array Kp:=br [1,0,2,1,1,4,0] vZ
def Vw:Array Kp:=br [1,1] vZ
def Vx:Array Kp:=br [1,1,0] qR
def MM:qR=.seq (.region 0 ZP false) (.seq (.seq (.region 1 Vu false) (.block 0 (.loop vZ))) (.seq (.region 7 Vx false) (.ret))):=rfl
def Qu:vZ=.seq (.seq (.region 2 Qs false) (.cond (.tmp 11) (.skip) (.exit 0))) (.seq (.block 1 (.seq (.region 4 ZQ false) (.seq (.region 5 Qt true) (.cond (.tmp 28) (.seq (.region 6 Vv false) (.ret)) (.skip))))) (.region 3 Vw false)):=rfl
def qS:Ly:=match Tryz.f41.body with|some c=>c|_=>.skip
def ZR:Array Kp:=br [0] qS
def Vy:Array Kp:=br [1,0,0] qS
def ze:Ly:=dk [1,0,1,2,3] qS
def Qv:Array Kp:=br [0,0] ze
def Vz:Array Kp:=br [1,0,2,0] ze
def VA:Array Kp:=br [1,0,2,1,4,0] ze
def VB:Array Kp:=br [1,1] ze
def JG:Array Kp:=br [1,1,0] qS
def MN:qS=.seq (.region 0 ZR false) (.seq (.seq (.region 1 Vy false) (.block 0 (.loop ze))) (.seq (.region 6 JG false) (.ret))):=rfl
def Qw:ze=.seq (.seq (.region 2 Qv false) (.cond (.tmp 10) (.skip) (.exit 0))) (.seq (.block 1 (.seq (.region 4 Vz true) (.cond (.tmp 20) (.seq (.region 5 VA false) (.ret)) (.skip)))) (.region 3 VB false)):=rfl
def pK:Ly:=match Tryz.f9.body with|some c=>c|_=>.skip
def abf:Array Kp:=br [0] pK
def ZS:Array Kp:=br [1,0,0] pK
def XK:Array Kp:=br [1,0,1,0] pK
def ZT:Array Kp:=br [1,0,1,1,4,0] pK
def ZU:Array Kp:=br [1,1,0,0] pK
def XL:Array Kp:=br [1,1,0,1,0] pK
def ZV:Array Kp:=br [1,1,0,1,1,4,0] pK
def ZW:Array Kp:=br [1,1,1,0] pK
def Qx:pK=.seq (.region 0 abf false) (.seq (.seq (.region 1 ZS false) (.seq (.region 2 XK false) (.cond (.tmp 11) (.seq (.region 3 ZT false) (.ret)) (.skip)))) (.seq (.seq (.region 4 ZU false) (.seq (.region 5 XL false) (.cond (.tmp 17) (.seq (.region 6 ZV false) (.ret)) (.skip)))) (.seq (.region 7 ZW false) (.ret)))):=rfl
def mO:Ly:=match Tryz.f7.body with|some c=>c|_=>.skip
def abg:Array Kp:=br [0] mO
def ZX:Array Kp:=br [1,0,0] mO
def XM:Array Kp:=br [1,0,1,0] mO
def ZY:Array Kp:=br [1,0,1,1,4,0] mO
def ZZ:Array Kp:=br [1,1,0,0] mO
def XN:Array Kp:=br [1,1,0,1,0] mO
def Z0:Array Kp:=br [1,1,0,1,1,4,0] mO
def Z1:Array Kp:=br [1,1,1,0,0] mO
def Z2:Array Kp:=br [1,1,1,0,1,4,0] mO
def abh:Array Kp:=br [1,1,1,1,0] mO
def Qy:mO=.seq (.region 0 abg false) (.seq (.seq (.region 1 ZX false) (.seq (.region 2 XM false) (.cond (.tmp 13) (.seq (.region 3 ZY false) (.ret)) (.skip)))) (.seq (.seq (.region 4 ZZ false) (.seq (.region 5 XN false) (.cond (.tmp 19) (.seq (.region 6 Z0 false) (.ret)) (.skip)))) (.seq (.seq (.region 7 Z1 false) (.cond (.tmp 24) (.seq (.region 8 Z2 false) (.ret)) (.skip))) (.seq (.region 9 abh false) (.ret))))):=rfl
variable{v0 v1 v2:M}{d0 d1:Nat}{sh:Int}{s:Sl}{o0 o1:Kp}{y:ae}
def MO(S L sh:Int)(d:List Int)(U:List (Int×Int)):List (Int×Int×Bool)->Bool
 | []=>true
 | x::r=>if(qQ S L sh d (U.getD x.1.toNat (0,0)).1 (U.getD x.1.toNat (0,0)).2 x.2.1 != x.2.2)=true then false else MO S L sh d U r
def TN(S L sh:Int)(d:List Int)(U:List (Int×Int))(l:List (Int×Int×Bool))(k:Nat)(hk:k<l.length):MO S L sh d U (l.drop k)=
  if(qQ S L sh d (U.getD (l.getD k (0,0,false)).1.toNat (0,0)).1 (U.getD (l.getD k (0,0,false)).1.toNat (0,0)).2 (l.getD k (0,0,false)).2.1 != (l.getD k (0,0,false)).2.2)=true then false else MO S L sh d U (l.drop (k+1)):=xaT
structure Tx(w u:H)(g g2:Nat)(b:aC)(sh:Int)(s:Sl):Prop where
 bx:aK u g 31 b
 lg:g<u.heap.size
 lg2:g2<u.heap.size
 y0:u (g2,0)=Y (.int .i64 sh)
 y1:u (g2,1)=Y (.slice s.A s.n s.c)
 low:X w w u
theorem TO(w:H)(b:aC)(sh:Int)(s:Sl):Tx w ((w.alloc (aE b 31)).alloc (.cells #[.int .i64 sh,.slice s.A s.n s.c] 33)) w (w.alloc (aE b 31)).heap.size b sh s:=by
 have a:aK (w.alloc (aE b 31)) w 31 b:=Sp _ _;have h2:=Sp (w.alloc (aE b 31)) (.cells #[.int .i64 sh,.slice s.A s.n s.c] 33);have c:X w w (w.alloc (aE b 31)):=(X.refl _ _).alloc (dj _) _;refine⟨(QR _ _ a.lt).tn a,?_,?_,?_,?_,c.alloc c.size _⟩
 .simp only[aa];omega
 .simp only[aa];omega
 .rw[H.cell?,h2];rfl
 .rw[H.cell?,h2];rfl
theorem B9(e:f 0=b.v)(h:f 1=aF sh s)(o:ops[0]?=Y o0)(p:ops[1]?=Y o1)(v:o0.op=.box 31 (.tmp 0))(x:o1.op=.box 33 (.tmp 1))(j:o0.dst=Y d0)(k:o1.dst=Y d1)(q:d0<n)(r:d1<n)(l:o0.guard=I)(m:o1.guard=I)(t:d0≠d1)(h2:1<d0)(y:1<d1)
  (next:∀f' u g d,Tx w u g d b sh s->f' d0=.pointer (Y (g,0))->f' d1=.pointer (Y (d,0))->(∀i,i≠d0->i≠d1->f' i=f i)->wpOps F ops Q rest (fa n f') u):wpOps F ops Q (0::1::rest) (fa n f) w:=by
 refine lV (.pointer (Y ⟨w.heap.size,0,I⟩)) o j q (bY l) (B8 v (ag zz e)) ?_;refine lV (.pointer (Y ⟨(w.alloc (aE b 31)).heap.size,0,I⟩)) p k r (bY m) (JF (s:=s) (sh:=sh) x (ag zz (nt h))) ?_;exact next _ _ _ _ (TO w b sh s) ((cu _ _ t).tn (au _ _ _)) (au _ _ _) λi a c=>(cu _ _ c).tn (cu _ _ a)
def TP{t:Lk}(a b u2:M)(h:w.heap[g]?=Y (.cells #[v0,v1,v2] t (0,0))):(((w.setCell (g,0) a).setCell (g,1) b).setCell (g,2) u2).heap[g]?=Y (.cells #[a,b,u2] t (0,0))/\aS (λx=>x≠g) w (((w.setCell (g,0) a).setCell (g,1) b).setCell (g,2) u2):=by
 have æ:=0;exact vy
theorem XX(a:o.op=.alloc 72):(Hn Z o).run F w=.ok (.value (.pointer (Y (w.heap.size,0)))) (w.alloc (.cells #[.int .i64 0,.int .i64 0,.bool false] 72)):=by
 unfold Hn;simp only[a];go_simp;try rfl
theorem XY{h t:Int}{z:Bool}(b:o.op=.store 72 x y)(c:Z x=.pointer (Y ⟨g,0,I⟩))(d:Z y=.agg #[.int .i64 h,.int .i64 t,.bool z])(a:w.heap[g]?=Y (.cells #[v0,v1,v2] 72 (0,0))):
  (Hn Z o).run F w=.ok .skip (((w.setCell ⟨g,0,I⟩ (.int .i64 h)).setCell ⟨g,1,I⟩ (.int .i64 t)).setCell ⟨g,2,I⟩ (.bool z)):=by
 have c0:w.cell? ⟨g,0,I⟩=Y v0:=by unfold H.cell?;dsimp only;rw[a];rfl
 have e:w.cell? ⟨g,1,I⟩=Y v1:=by unfold H.cell?;dsimp only;rw[a];rfl
 have f:w.cell? ⟨g,2,I⟩=Y v2:=by unfold H.cell?;dsimp only;rw[a];rfl
 have j:∀i,w.frozen? ⟨g,i,I⟩=false:=λi=>by simp[H.frozen?,a]
 clear a;unfold Hn;simp only[b,c,d];clear b c d;go_simp
def Xu(N:Nat)(u:H)(f:Nat->M)(R:Bool)(keep:Nat->Prop)(e:Exit)(a:Act)(w:H):Prop:=(e=.normal/\R=true/\∃f',a=fa N f'/\X u u w/\∀i,keep i->f' i=f i)\/(e=.ret/\R=false/\∃f',a=fa N f'/\X u u w/\f' 4=.bool false)
def Gx{w u:H}{g g2:Nat}{b:aC}{l:bN}{sh:Int}{s:Sl}{d:List Int}(hc:ay b l=0)(hs1: -3<=sh)(hs2:sh<=3)(h2:Tx w u g g2 b sh s)(N:aI u b l)(O:aN u s d)
  (c:f 2=(g,0))(j:f 3=(g2,0))(o:f 5=.int .i64 (0:Nat)){w1:H}(hB:X u u w1):
  Ly.wp F (.block 0 (.loop vZ)) (Xu 29 u f (MO b.S b.L sh d l.U l.W) (λ_=>False)) (fa 29 f) w1:=by
 have ø:=0;exact xaj
def aaj{r:Bool}(h:f 4=r):(results Tryz.f84 (fa 29 f).tmps).run F w=.ok (.bool r) w:=by
 have e:(fa 29 f).tmps[4]?=Y (.bool r):=by rw[ej zz,h]
 generalize(fa 29 f).tmps=A at e;unfold results Tryz.f84;simp[e]
theorem Im(b:aC)(l:bN)(sh:Int)(s:Sl)(d:List Int)(w:H)(hc:ay b l=0)(B: -3<=sh)(C:sh<=3)(o:aI w b l)(m:aN w s d):
  PH F 84 #[b.v,aF sh s] w λe w'=>e=.returned (.bool (MO b.S b.L sh d l.U l.W))/\X w w w':=by
 refine gy 29 Tryz.func84 (c:=qR) rfl rfl λf n=>?_;have f0:f 0=b.v:=n _;have t:f 1=aF sh s:=n _;clear n;rw[MM];refine wp_seq (wF (l:=[0,1,2]) rfl (B9 (d0:=2) (d1:=3) f0 t rfl rfl rfl rfl rfl rfl zz zz rfl rfl zz zz zz λf' u g L h2 h j hk=>?_));refine lV (d:=4) (.bool false) rfl rfl zz wnn (bq (.inr rfl) rfl) (lE ?_);have h:=(cu f' (d:=4) (.bool false) (i:=2) zz).tn h;have j:=(cu f' (d:=4) (.bool false) (i:=3) zz).tn j;generalize ah f' 4 (.bool false)=K at h j|-;have o:=o.below h2.low;have m:=m.below h2.low;have hB:X u u u:=X.refl _ _;have p:∀{f' w'},X u u w'->∀{r},f' 4=.bool r->MO b.S b.L sh d l.U l.W=r->bodyPost F Tryz.f84 (λe w'=>e=.returned (.bool (MO b.S b.L sh d l.U l.W))/\X w w w') .ret (fa 29 f') w':=λhB r y A=>by
  subst A;exact bd (v:=.bool _) (aaj y) rfl ⟨rfl,h2.low.tn (hB.mono h2.low.size)⟩
 refine wp_seq (bn u (λi=>i<7/\i≠5) (λf'=>f' 5=.int .i64 0) rr λf3 O hB q E=>?_);refine wp_mono (Gx hc B C h2 o m ((q 2 zz).tn h) ((q 3 zz).tn j) E hB) λe a P z=>?_;rcases z with⟨rfl,k,x,rfl,hB,-⟩|⟨rfl,k,x,rfl,hB,G⟩
 .exact bn u (λi=>i<7/\i≠4) (λf'=>f' 4=.bool true) rr λf6 Q hB N J=>wp_ret (p hB J k)
 .exact p hB G k
variable{x:Int}
def Ni(C:List Int):List Int->Bool
 | []=>true
 | x::r=>if decide (x∈C)=true then false else Ni C r
def TQ(C l:List Int)(k:Nat)(hk:k<l.length):Ni C (l.drop k)=if decide (l.getD k 0∈C)=true then false else Ni C (l.drop (k+1)):=xbu
def QA{w u:H}{g g2:Nat}{b:aC}{C:List Int}{sh:Int}{s:Sl}{d:List Int}(h2:Tx w u g g2 b sh s)(N:aN u b.C C)(O:aN u s d)
  (c:f 2=(g,0))(j:f 3=(g2,0))(o:f 5=.int .i64 (0:Nat)){w1:H}(hB:X u u w1):
  Ly.wp F (.block 0 (.loop ze)) (Xu 43 u f (Ni C d) (λi=>i=2\/i=3)) (fa 43 f) w1:=by
 have å:=0;exact xaj
def RI(b:aC)(l:bN)(sh:Int)(d:List Int):Bool:=Ni l.C d&&(ax sh b.lo b.hi&&(decide ((d.length:Int)<=b.D)&&MO b.S b.L sh d l.U l.W))
def aak(h:f 4=r):(results Tryz.f41 (fa 43 f).tmps).run F w=.ok (.bool r) w:=by
 have e:(fa 43 f).tmps[4]?=Y (.bool r):=by rw[ej zz,h]
 generalize(fa 43 f).tmps=A at e;unfold results Tryz.f41;simp[e]
theorem Io(b:aC)(l:bN)(sh:Int)(s:Sl)(d:List Int)(w:H)(hc:ay b l=0)(O: -3<=sh)(P:sh<=3)(q:aI w b l)(n:aN w s d):
  PH F 41 #[b.v,aF sh s] w λe w'=>e=.returned (.bool (RI b l sh d))/\X w w w':=by
 refine gy 43 Tryz.func41 (c:=qS) rfl rfl λf t=>?_;have f0:f 0=b.v:=t _;have G:f 1=aF sh s:=t _;clear t;rw[MN];refine wp_seq (wF (l:=[0,1,2]) rfl (B9 (d0:=2) (d1:=3) f0 G rfl rfl rfl rfl rfl rfl zz zz rfl rfl zz zz zz λf' u g U h2 h j hk=>?_));refine lV (d:=4) (.bool false) rfl rfl zz wnn (bq (.inr rfl) rfl) (lE ?_);have h:=(cu f' (d:=4) (.bool false) (i:=2) zz).tn h;have j:=(cu f' (d:=4) (.bool false) (i:=3) zz).tn j;generalize ah f' 4 (.bool false)=T at h j|-;have q:=q.below h2.low;have n:=n.below h2.low;have hB:X u u u:=X.refl _ _;have⟨V,W,Z,y0,y1,_⟩:=h2;have p:∀{f' w'},X u u w'->∀{r},f' 4=.bool r->RI b l sh d=r->bodyPost F Tryz.f41 (λe w'=>e=.returned (.bool (RI b l sh d))/\X w w w') .ret (fa 43 f') w':=λhB r K N=>by
  subst N;exact bd (v:=.bool _) (aak K) rfl ⟨rfl,h2.low.tn (hB.mono h2.low.size)⟩
 refine wp_seq (bn u (λi=>i<6/\i≠5) (λf'=>f' 5=.int .i64 0) rr λf3 w3 hB B Q=>?_);have h:=(B 2 zz).tn h;have j:=(B 3 zz).tn j;refine wp_mono (QA h2 q.C n h j Q hB) λe a k L=>?_;rcases L with⟨rfl,m,J,rfl,hB,z⟩|⟨rfl,m,J,rfl,hB,R⟩;rotate_left
 .exact p hB R (by unfold RI;rw[m];rfl)
 have h:=(z 2 (.inl rfl)).tn h;have j:=(z 3 (.inr rfl)).tn j;obtain⟨x0,x1,x2,x3,x4,x5,x6,x7,x8,x9,a1,a2,a3⟩:=aM h2.bx;have A:s.n=d.length:=n.1;cases x:ax sh b.lo b.hi
 .exact bn u (λi=>i<6/\i≠4) (λf'=>f' 4=.bool false) rr λf6 E hB C o=>wp_ret (p hB o (by unfold RI;rw[m,x];rfl))
 .by_cases hk:(s.n:Int)<=b.D
  .have hcon:∀k,X u u k->PH F 84 #[b.v,aF sh s] k λe S=>e=.returned (.bool (MO b.S b.L sh d l.U l.W))/\X k k S:=λk y=>Im b l sh s d k hc O P (q.below y) (n.below y);exact bn u (λi=>i<6/\i≠4) (λf'=>f' 4=.bool (MO b.S b.L sh d l.U l.W)) rr λf6 E hB C o=>wp_ret (p hB o (by unfold RI;rw[m,x,<- A,decide_eq_true hk];rfl))
  .exact bn u (λi=>i<6/\i≠4) (λf'=>f' 4=.bool false) rr λf6 E hB C o=>wp_ret (p hB o (by unfold RI;rw[m,x,<- A,decide_eq_false hk];rfl))
def VC(b:aC)(l:bN)(sh:Int)(d:List Int):Bool×Int:=if ay b l≠0 then(false,ay b l)else if cN b.S sh d≠0 then(false,cN b.S sh d)else(RI b l sh d,0)
def abu(h:f 4=r)(b:f 5=x):(results Tryz.f9 (fa 22 f).tmps).run F w=.ok (.tuple #[.bool r,.int .i64 x]) w:=by
 have e:(fa 22 f).tmps[4]?=Y (.bool r):=by rw[ej zz,h]
 have a:(fa 22 f).tmps[5]?=Y (.int .i64 x):=by rw[ej zz,b]
 generalize(fa 22 f).tmps=A at e a;unfold results Tryz.f9;simp[e,a]
theorem Ca(b:aC)(l:bN)(sh:Int)(s:Sl)(d:List Int)(w:H)(p:aI w b l)(o:aN w s d):
  PH F 9 #[b.v,aF sh s] w (wN (VC b l sh d) w):=by
 refine gy 22 Tryz.func9 (c:=pK) rfl rfl λf A=>?_;have f0:f 0=b.v:=A _;have N:f 1=aF sh s:=A _;clear A;rw[Qx];refine wp_seq (wF (l:=[0,1,2,3]) rfl (B9 (d0:=2) (d1:=3) f0 N rfl rfl rfl rfl rfl rfl zz zz rfl rfl zz zz zz λf' u g g2 h2 h j hk=>?_));refine lV (d:=4) (.bool false) rfl rfl zz wnn (bq (.inr rfl) rfl) ?_;refine lV (d:=5) (.int .i64 0) rfl rfl zz wnn (bq (.inr rfl) rfl) (lE ?_);have h:=((cu (ah f' 4 (.bool false)) (d:=5) (.int .i64 0) (i:=2) zz).tn nf).tn h;have j:=((cu (ah f' 4 (.bool false)) (d:=5) (.int .i64 0) (i:=3) zz).tn nf).tn j;generalize ah (ah f' 4 (.bool false)) 5 (.int .i64 0)=f2 at h j|-;have p:=p.below h2.low;have o:=o.below h2.low;have hB:X u u u:=X.refl _ _;have⟨a1,a2,a3,y0,y1,_⟩:=h2;have z:∀{f' w'},X u u w'->∀{r x},f' 4=.bool r->f' 5=.int .i64 x->VC b l sh d=(r,x)->bodyPost F Tryz.f9 (wN (VC b l sh d) w) .ret (fa 22 f') w':=λhB r x R S T=>by
  rw[T];exact bd (v:=.tuple #[.bool r,.int .i64 x]) (abu R S) rfl ⟨rfl,h2.low.tn (hB.mono h2.low.size)⟩
 have hcon:∀a,X u u a->PH F 11 #[b.v] a λe k=>e=.returned (.int .i64 (ay b l))/\X a a k:=λa m=>mm b l a (p.below m);refine wp_seq (bn u (λi=>i<8/\i≠6) (λf'=>f' 6=.int .i64 (ay b l)) rr λf3 w3 hB L V=>?_);have h:=(L 2 zz).tn h;have j:=(L 3 zz).tn j;cases J:(ay b l != 0);rotate_left
 .refine bn u (· < 8) (λf'=>f' 11=.bool true) rr λO a hB q C=>wp_cond_true (ag zz C) ?_;have e6:=(q 6 zz).tn V;refine bn u (λi=>i<8/\i≠4/\i≠5) (λf'=>f' 4=.bool false/\f' 5=.int .i64 (ay b l)) rr λP k hB B y=>wp_ret (z hB y.1 y.2 ?_);unfold VC;rw[dE (by simpa using J)]
 .have hc:ay b l=0:=by simpa using J
  refine bn u (· < 8) (λf'=>f' 11=.bool false) rr λO a hB q C=>wp_cond_false (ag zz C) (wp_skip ?_);have h:=(q 2 zz).tn h;have j:=(q 3 zz).tn j;obtain⟨t1,t2,-⟩:=cS (bP hc).1;have hcon2:∀a,X u u a->PH F 36 #[b.v,aF sh s] a λe k=>e=.returned (.int .i64 (cN b.S sh d))/\X a a k:=λa m=>pJ b zz zz sh s d a (o.below m);refine wp_seq (bn u (λi=>i<8/\i≠7) (λf'=>f' 7=.int .i64 (cN b.S sh d)) rr λP k hB B y=>?_);have h:=(B 2 zz).tn h;have j:=(B 3 zz).tn j;cases K:(cN b.S sh d != 0);rotate_left
  .refine bn u (· < 8) (λf'=>f' 17=.bool true) rr λf6 w6 hB t E=>wp_cond_true (ag zz E) ?_;have e7:=(t 7 zz).tn y;refine bn u (λi=>i<8/\i≠4/\i≠5) (λf'=>f' 4=.bool false/\f' 5=.int .i64 (cN b.S sh d)) rr λQ w7 hB U n=>wp_ret (z hB n.1 n.2 ?_);unfold VC;rw[cd (by simp[hc]),dE (by simpa using K)]
  .have G:cN b.S sh d=0:=by simpa using K
   refine bn u (· < 8) (λf'=>f' 17=.bool false) rr λf6 w6 hB t E=>wp_cond_false (ag zz E) (wp_skip ?_);have h:=(t 2 zz).tn h;have j:=(t 3 zz).tn j;obtain⟨W,Z,-⟩:=tM G;have hcon3:∀a,X u u a->PH F 41 #[b.v,aF sh s] a λe k=>e=.returned (.bool (RI b l sh d))/\X a a k:=λa m=>Io b l sh s d a hc W Z (p.below m) (o.below m);refine bn u (λi=>i<8/\i≠4/\i≠5) (λf'=>f' 4=.bool (RI b l sh d)/\f' 5=.int .i64 0) rr λQ w7 hB U n=>wp_ret (z hB n.1 n.2 ?_);unfold VC;rw[cd (by simp[hc]),cd (by simp[G])]
def Nj(b:aC)(l:bN)(sh:Int)(d:List Int)(a:Int):List Int×Int:=if ay b l≠0 then([],ay b l)else if cN b.S sh d≠0 then([],cN b.S sh d)else if ax a 0 (b.U.n-1)=false then([],6)
 else(ie (λn=>qQ b.S b.L sh d (l.U.getD a.toNat (0,0)).1 (l.U.getD a.toNat (0,0)).2 n) b.S.toNat,0)
def aal{A:Option Addr}{n c:Nat}(h:f 6=.slice A n c)(b:f 7=x):(results Tryz.f7 (fa 29 f).tmps).run F w=.ok (.tuple #[.slice A n c,.int .i64 x]) w:=by
 have e:(fa 29 f).tmps[6]?=Y (.slice A n c):=by rw[ej zz,h]
 have a:(fa 29 f).tmps[7]?=Y (.int .i64 x):=by rw[ej zz,b]
 generalize(fa 29 f).tmps=B at e a;unfold results Tryz.f7;simp[e,a]
theorem Ov(b:aC)(l:bN)(sh:Int)(s:Sl)(d:List Int)(o:Int)(w:H)(y:aI w b l)(O:aN w s d):
  PH F 7 #[b.v,aF sh s,.int .i64 o] w λe w'=>ji w (Nj b l sh d o).1 (Nj b l sh d o).2 w e w':=by
 refine gy 29 Tryz.func7 (c:=mO) rfl rfl λf P=>?_;have f0:f 0=b.v:=P _;have f1:f 1=aF sh s:=P _;have Z:f 2=o:=P _;clear P;rw[Qy];refine wp_seq (wF (l:=[0,1,2,3]) rfl (B9 (d0:=3) (d1:=4) f0 f1 rfl rfl rfl rfl rfl rfl zz zz rfl rfl zz zz zz λf' u g g2 h2 k m hk=>?_));have j:=(hk 2 zz zz).tn Z;refine lV (d:=6) (.slice I 0 0) rfl rfl zz wnn (bq (.inr rfl) rfl) ?_;refine lV (d:=7) (.int .i64 0) rfl rfl zz wnn (bq (.inr rfl) rfl) (lE ?_);have j:=((cu (ah f' 6 (.slice I 0 0)) (d:=7) (.int .i64 0) (i:=2) zz).tn nf).tn j;have k:=((cu (ah f' 6 (.slice I 0 0)) (d:=7) (.int .i64 0) (i:=3) zz).tn nf).tn k;have m:=((cu (ah f' 6 (.slice I 0 0)) (d:=7) (.int .i64 0) (i:=4) zz).tn nf).tn m;generalize ah (ah f' 6 (.slice I 0 0)) 7 (.int .i64 0)=Z at j k m|-;have y:=y.below h2.low;have O:=O.below h2.low;have hB:X u u u:=X.refl _ _;have⟨b3,b4,b5,y0,y1,_⟩:=h2;have T:∀{f' w'},X u u w'->∀{x},f' 6=.slice I 0 0->f' 7=.int .i64 x->Nj b l sh d o=([],x)->bodyPost F Tryz.f7 (λe w'=>ji w (Nj b l sh d o).1 (Nj b l sh d o).2 w e w') .ret (fa 29 f') w':=λhB x a6 a7 z=>by
  rw[z];exact bd (v:=.tuple #[.slice I 0 0,.int .i64 x]) (aal a6 a7) rfl (ji.nil (h2.low.tn (hB.mono h2.low.size)) rfl)
 have hcon:∀a,X u u a->PH F 11 #[b.v] a λe q=>e=.returned (.int .i64 (ay b l))/\X a a q:=λa N=>mm b l a (y.below N);refine wp_seq (bn u (λi=>i<10/\i≠8) (λf'=>f' 8=.int .i64 (ay b l)) rr λf3 w3 hB U q3=>?_);have j:=(U 2 zz).tn j;have k:=(U 3 zz).tn k;have m:=(U 4 zz).tn m;cases a2:(ay b l != 0);rotate_left
 .refine bn u (· < 10) (λf'=>f' 13=.bool true) rr λf4 a hB C V=>wp_cond_true (ag zz V) ?_;have e8:=(C 8 zz).tn q3;refine bn u (λi=>i<10/\i≠6/\i≠7) (λf'=>f' 6=.slice I 0 0/\f' 7=.int .i64 (ay b l)) rr λf5 q hB Q S=>wp_ret (T hB S.1 S.2 ?_);unfold Nj;rw[dE (by simpa using a2)]
 .have hc:ay b l=0:=by simpa using a2
  refine bn u (· < 10) (λf'=>f' 13=.bool false) rr λf4 a hB C V=>wp_cond_false (ag zz V) (wp_skip ?_);have j:=(C 2 zz).tn j;have k:=(C 3 zz).tn k;have m:=(C 4 zz).tn m;obtain⟨t1,t2,t3,t4,t5,t6,-⟩:=cS (bP hc).1;have hcon2:∀a,X u u a->PH F 36 #[b.v,aF sh s] a λe q=>e=.returned (.int .i64 (cN b.S sh d))/\X a a q:=λa N=>pJ b zz zz sh s d a (O.below N);refine wp_seq (bn u (λi=>i<10/\i≠9) (λf'=>f' 9=.int .i64 (cN b.S sh d)) rr λf5 q hB Q S=>?_);have j:=(Q 2 zz).tn j;have k:=(Q 3 zz).tn k;have m:=(Q 4 zz).tn m;cases a3:(cN b.S sh d != 0);rotate_left
  .refine bn u (· < 10) (λf'=>f' 19=.bool true) rr λf6 w6 hB G W=>wp_cond_true (ag zz W) ?_;have e9:=(G 9 zz).tn S;refine bn u (λi=>i<10/\i≠6/\i≠7) (λf'=>f' 6=.slice I 0 0/\f' 7=.int .i64 (cN b.S sh d)) rr λf7 B hB R J=>wp_ret (T hB J.1 J.2 ?_);unfold Nj;rw[cd (by simp[hc]),dE (by simpa using a3)]
  .have p:cN b.S sh d=0:=by simpa using a3
   refine bn u (· < 10) (λf'=>f' 19=.bool false) rr λf6 w6 hB G W=>wp_cond_false (ag zz W) (wp_skip ?_);have j:=(G 2 zz).tn j;have k:=(G 3 zz).tn k;have m:=(G 4 zz).tn m;obtain⟨v1,v2,-⟩:=tM p;have b2:b.U.n=l.U.length:=y.U.1;have b1:l.U.length<=1000:=y.U.2.2.1;obtain⟨r,z⟩:∃r,ax o 0 (b.U.n-1)=r:=⟨_,rfl⟩;have hcon3:∀a,X u u a->PH F 37 #[b.v,.int .i64 o] a λe q=>e=.returned (.bool r)/\X a a q:=λa N=>(rI b o zz a).mono λe q p=>⟨by rw[<- z];exact p.1,p.2⟩;refine wp_seq (bn u (· < 10) (λf'=>f' 24=.bool !r) rr λf7 B hB R J=>?_);have j:=(R 2 zz).tn j;have k:=(R 3 zz).tn k;have m:=(R 4 zz).tn m;cases r
   .refine wp_cond_true (ag zz J) (bn u (λi=>i<10/\i≠6/\i≠7) (λf'=>f' 6=.slice I 0 0/\f' 7=.int .i64 6) rr λf8 K hB k8 q8=>wp_ret (T hB q8.1 q8.2 ?_));unfold Nj;rw[cd (by simp[hc]),cd (by simp[p]),dE z]
   .refine wp_cond_false (ag zz J) (wp_skip ?_);obtain⟨g1,a0⟩:=cq.1 z;obtain⟨h,rfl⟩:∃h:Nat,o=(h:Int):=⟨o.toNat,zz⟩;obtain⟨p1,p2,p3,p4⟩:=kP (bP hc).2.2.1 h zz;have a1:=Ie b t1 t2 t5 t6 sh v1 v2 s d l.U h zz (l.U.getD h (0,0)).1 (l.U.getD h (0,0)).2 rfl p1 p2 p3 p4 B (O.below hB) (y.U.below hB);have a5:Nj b l sh d h=(ie (λn=>qQ b.S b.L sh d (l.U.getD h (0,0)).1 (l.U.getD h (0,0)).2 n) b.S.toNat,0):=by
     unfold Nj;rw[cd (by simp[hc]),cd (by simp[p]),cd (by simp[z])];simp
    rw[a5];generalize ie (λn=>qQ b.S b.L sh d (l.U.getD h (0,0)).1 (l.U.getD h (0,0)).2 n) b.S.toNat=L at a1;refine wp_seq (wF (l:=[0,1,2,3,4,5]) rfl ?_);refine Tw ?_;refine lR (d:=28) (fn:=38) (args:= #[b.v,aF sh s,.int .i64 h]) (E:=λv K=>∃A c,v=.slice A L.length c/\K.ownsRow B.heap.size 3 1 (.slice A L.length c) L.length (L.map (M.int .i64))/\X B.heap.size B K) rfl rfl zz wnn (dm rfl (MK (ag (t:=25) zz rfl) (ag (t:=26) zz rfl) (ag (t:=27) zz rfl)) rfl rfl)
     (a1.mono λe K p=>by obtain⟨A,c,h1,h2,h3⟩:=p;exact⟨_,h1,A,c,rfl,h2,h3⟩) λv K a'=>?_
    obtain⟨A,c,rfl,a9,a8⟩:=a';refine lV (d:=6) (.slice A L.length c) rfl rfl zz wnn (bq (.inr rfl) (ag (t:=28) zz rfl)) ?_;refine lV (d:=7) (.int .i64 0) rfl rfl zz wnn (bq (.inr rfl) rfl) (lE (wp_ret ?_));have a4:(w:Nat)<=B:=ec h2.low.size hB.size;exact bd (v:=.tuple #[.slice A L.length c,.int .i64 0]) (aal rfl rfl) rfl ⟨A,c,rfl,dy a4 a9,(h2.low.tn (hB.mono h2.low.size)).tn (a8.mono a4)⟩
variable{g f:Nat->Bool}{S L:Int}{d C:List Int}
def E7{S:Nat}:∀m,(∀n,S<=n->n<S+m->g n=false)->ie g (S+m)=ie g S
 | 0,_=>rfl
 | m+1,h=>by
  rw[<- Nat.add_assoc,mV (h (S+m) zz zz)];exact E7 m λn a h2=>h n a zz
def QB{S:Nat}(h:∀n,n<S->f n=g n):ie f S=ie g S:=by
 unfold ie;congr 1;exact List.filter_congr λn a=>h n (List.mem_range.1 a)
def Cb{t:Int}(a:0<=t):eM d t.toNat=decide (t∈d):=by
 unfold eM;rw[Int.toNat_of_nonneg a]
def QC{p:Int×Int}{n:Nat}(b:0<=p.1)(a:(n:Int)<S):qQ S L sh d p.1 p.2 n=eT S L sh (eM d) p n:=by
 unfold qQ eT;rw[Cb b];by_cases h:p.2+sh<=0\/p.1∈d
 .rw[dE h,dE (by simpa using h)]
 .rw[cd h,cd (by simpa using h),decide_eq_true a,Bool.true_and]
def QD(b:aC)(l:bN)(sh:Int)(d:List Int)(hour:Int)(hU:b.U.n=l.U.length):Nj b l sh d hour=cT b l sh d hour:=xaz
def TS{sh lo hi:Int}(h:lo<=hi):decide (min (max sh lo) hi=sh)=ax sh lo hi:=by
 rw[Bool.eq_iff_iff,cq,decide_eq_true_iff];omega
def JH:∀{d:List Int},Ni C d=true↔∀x∈d,x∉C
 | []=>by simp[Ni]
 | x::r=>by
  unfold Ni;by_cases h:x∈C
  .simp[h]
  .simp[h,JH (d:=r)]
def MP:nG f g=true↔∀i,i<12->f i=g i:=by
 unfold nG;simp only[ed,lj];constructor
 .rintro⟨⟨⟨⟨⟨⟨⟨⟨⟨⟨⟨a,b⟩,h2⟩,e⟩,j⟩,k⟩,l⟩,m⟩,n⟩,o⟩,c⟩,d⟩ i hi;rcases(show i=0\/i=1\/i=2\/i=3\/i=4\/i=5\/i=6\/i=7\/i=8\/i=9\/i=10\/i=11 from zz)with rfl|rfl|rfl|rfl|rfl|rfl|rfl|rfl|rfl|rfl|rfl|rfl<;>assumption
 .intro h;exact⟨⟨⟨⟨⟨⟨⟨⟨⟨⟨⟨h 0 zz,h 1 zz⟩,h 2 zz⟩,h 3 zz⟩,h 4 zz⟩,h 5 zz⟩,h 6 zz⟩,h 7 zz⟩,h 8 zz⟩,h 9 zz⟩,h 10 zz⟩,h 11 zz⟩
def TT(f:S<=12)(e:∀x∈d,0<=x/\x<S):nG (lJ (eM d) C) (eM d)=Ni C d:=by
 rw[Bool.eq_iff_iff,MP,JH];constructor
 .intro h x a c;obtain⟨b,h2⟩:=e x a;have:=h x.toNat zz;unfold lJ at this;rw[Cb b,Cb b,decide_eq_true a,decide_eq_true c]at this;cases this
 .intro h i hi;unfold lJ;by_cases a:(i:Int)∈d
  .have:=h _ a;unfold eM;rw[decide_eq_true a,decide_eq_false this];rfl
  .unfold eM;rw[decide_eq_false a];rfl
def E8{S L sh:Int}{d:List Int}{U:List (Int×Int)}(a:∀k,k<U.length->0<=(U.getD k (0,0)).1):∀{W:List (Int×Int×Bool)},(∀x∈W,0<=x.1/\x.1<U.length/\0<=x.2.1/\x.2.1<S)->MO S L sh d U W=oI S L sh (eM d) U W
 | [],_=>rfl
 | x::r,h=>by
  obtain⟨g,h2,c,i⟩:=h x ss;have b:=E8 (L:=L) (sh:=sh) (d:=d) a (W:=r) λy f=>h y (by simp[f]);have e:qQ S L sh d (U.getD x.1.toNat (0,0)).1 (U.getD x.1.toNat (0,0)).2 x.2.1=eT S L sh (eM d) (U.getD x.1.toNat (0,0)) x.2.1.toNat:=by
   have:=QC (L:=L) (sh:=sh) (d:=d) (p:=U.getD x.1.toNat (0,0)) (n:=x.2.1.toNat) (S:=S) (a _ zz) zz;rw[Int.toNat_of_nonneg c]at this;exact this
  unfold MO oI;rw[e,List.any_cons];unfold oI at b;rw[b];show _= !(jk S L sh (eM d) U x||_);unfold jk;cases(eT S L sh (eM d) (U.getD x.1.toNat (0,0)) x.2.1.toNat != x.2.2)<;>simp
def QF(b:aC)(l:bN)(sh:Int)(d:List Int):VC b l sh d=dI b l sh d:=by
 have ø:=0;exact xaz
end Go.Proofs.YtimmnfbjckbneaaGreatDoor
