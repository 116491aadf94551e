import Derived.Test.YthfhocgpjjkjlaaGreatDoorZp
import Derived.Test.YthfhocgpjjkjlaaGreatDoorChecked
set_option maxRecDepth 100000
set_option maxHeartbeats 4000000
set_option linter.all false
noncomputable section
open Go renaming undef->D,World->H,execOp->Hn,Oper->Kp,TypeId->Lk,Code->Ly,Value->M,Calls->PH,Program->Ps,heap_alloc_old->QR,heap_alloc_new->Sp,resolve->ab,Operand->ae,yielded->aw,FuncId->ba,bodyPost_ret->bd
open Go.Proofs.Tryz renaming prog->F,prog->Hb
open Go.Lib renaming hid->Hm
open Option renaming none->I,some->Y
open Go.RowKit renaming Hid->PQ,Below->X
namespace Go
def lz{p:Prop}(h:p:=by
 first|have _:=ø;refine btr (E:=λv w'=>v=_/\X w.heap.size w w') ((Gr b l i w h.bk h.ck d).mono λe w' a=>⟨_,a.1,rfl,a.2⟩) ?_|refine btr (E:=λv w'=>v=_/\X w.heap.size w w') ((Gr b' l' i w h.bk' h.ck d).mono λe w' a=>⟨_,a.1,rfl,a.2⟩) ?_
 rintro v k ⟨rfl,hB⟩;refine Tw ?_;refine lV _ rfl rfl zz wnn (ab5 rfl) ?_;have c:(k.alloc (.cells #[.int .i64 0,.int .i64 0] 23)).heap[k.heap.size]?=Y (.cells #[.int .i64 0,.int .i64 0] 23 (0,0)):=Sp _ _;first|have _:=ø;obtain⟨m,h2⟩:=tR (.int .i64 (qs b l i).1.1) (.int .i64 (qs b l i).1.2) c|obtain⟨m,h2⟩:=tR (.int .i64 (qs b' l' i).1.1) (.int .i64 (qs b' l' i).1.2) c
 refine lS rfl rfl wnn (ab6 rfl pL pL c) ?_;have s0:=hB.size;have o:=h.bx.lt;have hB:=(hB.alloc s0 _).tn (h2.below so λx n=>zz);refine Tw ?_;exact lE ⟨_,rfl,hB,λj _=>QA,k.heap.size,rfl,rfl,zz,m⟩):p:=h
def sT{p:Prop}(h:p:=by
 first|have _:=ø;refine wp_block (wp_loop (λa w=>∃(k:Nat) (f':Nat->M),k<=l.length/\a=fa 119 f'/\f' 1=.pointer (Y ⟨g,0,I⟩)/\f' 4=.int .i64 k/\X u.heap.size u w/\nD b.S l=nD b.S (l.drop k)) (λa _=>l.length-(intOf (a.tmps.getD 4 D)).toNat) ⟨0,f,qT _,rfl,J,h4,hB,rfl⟩ λa w1 P=>?_);obtain⟨k,O,hk,rfl,e1,E,hB,d⟩:=P;rw[Qm];have a2:b.U.n=l.length:=C.1|have _:=å;refine wp_block (wp_loop (λa w=>∃(k:Nat) (f':Nat->M),k<=l.length/\a=fa 119 f'/\f' 1=.pointer (Y ⟨g,0,I⟩)/\f' 5=.int .i64 k/\X u.heap.size u w/\nF b.rf b.ch l=nF b.rf b.ch (l.drop k)) (λa _=>l.length-(intOf (a.tmps.getD 5 D)).toNat) ⟨0,f,qT _,rfl,J,h5,hB,rfl⟩ λa w1 P=>?_);obtain⟨k,O,hk,rfl,e1,G,hB,d⟩:=P;rw[Qn];have a2:b.E.n=l.length:=C.1|refine wp_block (wp_loop (λa w=>∃(k:Nat) (f':Nat->M),k<=l.length/\a=fa 119 f'/\f' 1=.pointer (Y ⟨g,0,I⟩)/\f' 6=.int .i64 k/\X u.heap.size u w/\qi b.S b.U.n l=qi b.S b.U.n (l.drop k)) (λa _=>l.length-(intOf (a.tmps.getD 6 D)).toNat) ⟨0,f,qT _,rfl,J,h6,hB,rfl⟩ λa w1 P=>?_);obtain⟨k,O,hk,rfl,e1,T,hB,d⟩:=P;rw[Qo];have a2:b.W.n=l.length:=C.1
 have hl:l.length<=1000:=C.2.2.1;first|have _:=ø;by_cases a1:k<b.U.n|have _:=å;by_cases a1:k<b.E.n|by_cases a1:k<b.W.n
 .have t:k<l.length:=zz;obtain⟨a7,off,U,b1,V⟩:=C.2.2.2 zz;first|have _:=ø;rw[U]at x10;obtain⟨c0,N⟩:=V k t;have c:=Al b.S l k t;generalize(l.getD k (0,0)).1=x at c c0;generalize(l.getD k (0,0)).2=y at c N;refine wp_seq (bn u (· < 7) (λf'=>f' 21=.bool true) rr λf2 S hB s q=>wp_cond_true (ag zz q) (wp_skip ?_))|have _:=å;rw[U]at x11;obtain⟨c0,N⟩:=V k t;have c:=Am b.rf b.ch l k t;generalize(l.getD k (0,0)).1=x at c c0;generalize(l.getD k (0,0)).2=y at c N;refine wp_seq (bn u (· < 7) (λf'=>f' 49=.bool true) rr λf2 S hB s q=>wp_cond_true (ag zz q) (wp_skip ?_))|rw[U]at x12;obtain⟨c0,N,c2⟩:=V k t;have c:=Dh b.S b.U.n l k t;generalize(l.getD k (0,0,false)).1=x at c c0;generalize(l.getD k (0,0,false)).2.1=y at c N;generalize(l.getD k (0,0,false)).2.2=z at c2;refine wp_seq (bn u (· < 7) (λf'=>f' 96=.bool true) rr λf2 S hB s q=>wp_cond_true (ag zz q) (wp_skip ?_))
  have e1:=(s 1 zz).tn e1;first|have _:=ø;have E:=(s 4 zz).tn E|have _:=å;have G:=(s 5 zz).tn G|have T:=(s 6 zz).tn T
  refine wp_seq (wp_block ?_)
  first
  |have _:=æ
   cases e:ax x 0 (b.U.n-1)
   .refine bn u (· < 7) (λf'=>f' 118=.bool true) rr λf3 B hB r j=>wp_cond_true (ag zz j) ?_;refine bn u (λi=>i<7/\i≠2) (λf'=>f' 2=.int .i64 6) rr λm L hB K o=>wp_ret ?_;exact .inr ⟨rfl,by rw[d,c,qWB (by simp[e])];decide,m,rfl,hB,by rw[d,c,qWB (by simp[e])];exact o⟩
   .cases n:ax y 0 (b.S-1)
    .refine bn u (· < 7) (λf'=>f' 118=.bool true) rr λf3 B hB r j=>wp_cond_true (ag zz j) ?_;refine bn u (λi=>i<7/\i≠2) (λf'=>f' 2=.int .i64 6) rr λm L hB K o=>wp_ret ?_;exact .inr ⟨rfl,by rw[d,c,qWB (by simp[e,n])];decide,m,rfl,hB,by rw[d,c,qWB (by simp[e,n])];exact o⟩
    .refine bn u (· < 7) (λf'=>f' 118=.bool false) rr λZ w5 hB v R=>wp_cond_false (ag zz R) (wp_skip ?_);have e1:=(v 1 zz).tn e1;have T:=(v 6 zz).tn T;refine To u (λi=>i<7/\i≠6) (λf'=>f' 6=.int .i64 (k+1)) rr λf6 w6 hB Q A=>?_;refine⟨⟨k+1,f6,t,rfl,(Q 1 zz).tn e1,A.tn ss,hB,d.tn (c.tn (by rw[qVB (by simp[e,n])]))⟩,?_⟩;rw[Ni (k:=k+1) zz (A.tn ss),Ni (k:=k) zz ‹O 6=_›];omega
  |have _:=ø
   refine wp_seq ?_;cases e:ax x 0 (b.S-1)
   .refine bn u (· < 7) (λf'=>f' 32=.bool true) rr λf3 B hB r j=>wp_cond_true (ag zz j) ?_;refine bn u (λi=>i<7/\i≠2) (λf'=>f' 2=.int .i64 6) rr λm L hB K o=>wp_ret ?_;exact .inr ⟨rfl,by rw[d,c,qWB e];decide,m,rfl,hB,by rw[d,c,qWB e];exact o⟩
   .refine bn u (· < 7) (λf'=>f' 32=.bool false) rr λf3 B hB r j=>wp_cond_false (ag zz j) (wp_skip ?_);have e1:=(r 1 zz).tn e1;have E:=(r 4 zz).tn E;cases n:ax y (-9) 9
    .refine bn u (· < 7) (λf'=>f' 40=.bool true) rr λf3 B hB r j=>wp_cond_true (ag zz j) ?_;refine bn u (λi=>i<7/\i≠2) (λf'=>f' 2=.int .i64 1) rr λm L hB K o=>wp_ret ?_;exact .inr ⟨rfl,by rw[d,c,qVB (by simp[e]),qWB n];decide,m,rfl,hB,by rw[d,c,qVB (by simp[e]),qWB n];exact o⟩
    .refine bn u (· < 7) (λf'=>f' 40=.bool false) rr λZ w5 hB v R=>wp_cond_false (ag zz R) (wp_skip ?_);have e1:=(v 1 zz).tn e1;have E:=(v 4 zz).tn E;refine To u (λi=>i<7/\i≠4) (λf'=>f' 4=.int .i64 (k+1)) rr λf6 w6 hB Q A=>?_;refine⟨⟨k+1,f6,t,rfl,(Q 1 zz).tn e1,A.tn ss,hB,d.tn (c.tn (by rw[qVB (by simp[e]),qVB (by simp[n])]))⟩,?_⟩;rw[Ni (k:=k+1) zz (A.tn ss),Ni (k:=k) zz ‹O 4=_›];omega
  |refine wp_seq ?_
   cases e:ax x (1-b.rf) (b.rf-1)
   .refine bn u (· < 7) (λf'=>f' 77=.bool true) rr λf3 B hB r j=>wp_cond_true (ag zz j) ?_;refine bn u (λi=>i<7/\i≠2) (λf'=>f' 2=.int .i64 1) rr λm L hB K o=>wp_ret ?_;exact .inr ⟨rfl,by rw[d,c,qWB (by simp[e])];decide,m,rfl,hB,by rw[d,c,qWB (by simp[e])];exact o⟩
   .cases n:ax y 0 60
    .refine bn u (· < 7) (λf'=>f' 77=.bool true) rr λf3 B hB r j=>wp_cond_true (ag zz j) ?_;refine bn u (λi=>i<7/\i≠2) (λf'=>f' 2=.int .i64 1) rr λm L hB K o=>wp_ret ?_;exact .inr ⟨rfl,by rw[d,c,qWB (by simp[e,n])];decide,m,rfl,hB,by rw[d,c,qWB (by simp[e,n])];exact o⟩
    .refine bn u (· < 7) (λf'=>f' 77=.bool false) rr λf3 B hB r j=>wp_cond_false (ag zz j) (wp_skip ?_);have e1:=(r 1 zz).tn e1;have G:=(r 5 zz).tn G;by_cases W:b.ch<=y
     .refine bn u (· < 7) (λf'=>f' 87=.bool true) rr λf3 B hB r j=>wp_cond_true (ag zz j) ?_;refine bn u (λi=>i<7/\i≠2) (λf'=>f' 2=.int .i64 7) rr λm L hB K o=>wp_ret ?_;exact .inr ⟨rfl,by rw[d,c,qVB (by simp[e,n]),qWB W];decide,m,rfl,hB,by rw[d,c,qVB (by simp[e,n]),qWB W];exact o⟩
     .refine bn u (· < 7) (λf'=>f' 87=.bool false) rr λZ w5 hB v R=>wp_cond_false (ag zz R) (wp_skip ?_);have e1:=(v 1 zz).tn e1;have G:=(v 5 zz).tn G;refine To u (λi=>i<7/\i≠5) (λf'=>f' 5=.int .i64 (k+1)) rr λf6 w6 hB Q A=>?_;refine⟨⟨k+1,f6,t,rfl,(Q 1 zz).tn e1,A.tn ss,hB,d.tn (c.tn (by rw[qVB (by simp[e,n]),qVB W]))⟩,?_⟩;rw[Ni (k:=k+1) zz (A.tn ss),Ni (k:=k) zz ‹O 5=_›];omega
 .have a8:k=l.length:=zz;first|have _:=ø;refine wp_seq (bn u (· < 7) (λf'=>f' 21=.bool false) rr λf2 S hB s q=>wp_cond_false (ag zz q) (wp_exit ?_))|have _:=å;refine wp_seq (bn u (· < 7) (λf'=>f' 49=.bool false) rr λf2 S hB s q=>wp_cond_false (ag zz q) (wp_exit ?_))|refine wp_seq (bn u (· < 7) (λf'=>f' 96=.bool false) rr λf2 S hB s q=>wp_cond_false (ag zz q) (wp_exit ?_))
  exact .inl ⟨rfl,by rw[d,ma zz];rfl,f2,rfl,hB,(s 1 zz).tn (e1.tn J.symm)⟩):p:=h
def vz{p:Prop}(h:p:=by
 first
 |have _:=ø
  obtain⟨j,m⟩:=i.ask;have L:=XG i a9 G;have E:=i.S;have o:=i.n;have a8:=i.n';have t2:=(cS (bP i.hc).1).2.1
 |obtain⟨hc,b2,E,d5,R,o,a8,b4,J,hle,i⟩:=h
  obtain⟨t1,t2,-⟩:=cS (bP hc).1;have b6:aJ b l b.D.toNat≠[]:=λe=>by
   obtain⟨a,G⟩:=List.exists_mem_of_ne_nil _ J;have:=i a G;rw[e]at this;cases this
  have i7:=List.length_pos_iff.2 b6;have i8:=List.length_pos_iff.2 J;have j:∀q,q=true->cP b l q=0:=λq e=>by
   subst e;unfold cP;rw[qVB (by simp[hc]),qVB ss,qVB b6]
  have m:∀q,q=true->cP b' l' q=0:=λq e=>by
   subst e;unfold cP;rw[qVB (by simp[b2]),qVB ss,qVB J]
 have u:ax (p:Int) 0 (b.S-1)=true:=qM.2 ⟨zz,zz⟩;have T:ax (at_:Int) 0 (b.U.n-1)=true:=qM.2 ⟨zz,zz⟩;have q3:mW b at_ p=true:=by unfold mW;rw[u,T];rfl
 have C:ax (p:Int) 0 (b'.S-1)=true:=by rw[E];exact u
 first|have _:=å;have U:ax (at_:Int) 0 (b'.U.n-1)=true:=by rw[a8,<- o];exact T|have U:ax (at_:Int) 0 (b'.U.n-1)=true:=qM.2 ⟨zz,zz⟩
 have a':mW b' at_ p=true:=by unfold mW;rw[C,U];rfl
 first
 |have _:=ø
  have s1:oK b l=(((aJ b l b.D.toNat).length:Int),0):=by unfold oK;rw[qVB (by simp[i.hc])]
  have s2:oK b' l'=(((aJ b' l' b'.D.toNat).length:Int),0):=by unfold oK;rw[qVB (by simp[i.hc'])]
  have z1:(iM b l).2=0:=by unfold iM;rw[qWB (j _ rfl)]
  have z2:(iM b' l').2=0:=by unfold iM;rw[qWB (m _ rfl)]
  have z3:(vH b l p).2=0:=by unfold vH;rw[qWB (j _ u)]
  have z4:(vH b' l' p).2=0:=by unfold vH;rw[qWB (m _ C)]
  have z5:(oQ b l at_ p).2=0:=by unfold oQ;rw[qWB (j _ q3)]
  have z6:(oQ b' l' at_ p).2=0:=by unfold oQ;rw[qWB (m _ a')]
  have z7:(DF b l at_).2.2=0:=by unfold DF;rw[qWB (j _ T)]
  have z8:(DF b' l' at_).2.2=0:=by unfold DF;rw[qWB (m _ U)]
  have z9:(qq b l).2=0:=by unfold qq;rw[qWB (j _ rfl)]
  have h8:(qq b' l').2=0:=by unfold qq;rw[qWB (m _ rfl)]
  have h9:(qs b l p).2=0:=by unfold qs;rw[qWB (j _ u)]
  have h':(qs b' l' p).2=0:=by unfold qs;rw[qWB (m _ C)]
  have c5:∀{B:aC} {K:pK},ay B K=0->(iM B K).1.length<=1000/\(DF B K at_).1.length<=1000/\(qq B K).1.length<=1000:=λ{B K} hc=>by
   obtain⟨t1,t2,t3,t4,t5,t6,t7,t8,t9,h1,-⟩:=cS (bP hc).1;have b7:∀f:Nat->Bool,(ie f B.S.toNat).length<=1000:=λf=>by have:=kO f B.S.toNat;omega
   refine⟨?_,?_,?_⟩
   .unfold iM;split
    .have:=DN ((aJ B K B.D.toNat).map (·.1) |>.mergeSort λx y=>decide (x<=y));rw[List.length_mergeSort,lj]at this;have h2:(aJ B K B.D.toNat).length<=471:=qO (nn _ _) (abW t2 h1 zz);show(uN _).length<=1000;unfold uN;omega
    .simp
   .unfold DF;split
    .exact b7 _
    .simp
   .unfold qq;split
    .exact b7 _
    .simp
  obtain⟨l1,l2,l3⟩:=c5 i.hc;obtain⟨m1,m2,m3⟩:=c5 i.hc';refine aaK (adO hl hl' hG e0 e1 e2 e3) λa w1 ⟨f1,d6,d7,_,h⟩=>?_;subst d6;refine TS h (adP h i.hc) λf2 w2 a1 k1 h ⟨e9,v⟩=>?_;refine TS h (adQ h i.hc') λf3 w3 S k2 h ⟨a0,t⟩=>?_;refine TS h (adR h (j _ rfl)) λf4 w4 a3 k3 h ⟨O,e'⟩=>?_;refine TS h (adS h (m _ rfl)) λf5 w5 a4 k4 h ⟨P,f7⟩=>?_;refine TS h (adT h (j _ u)) λf6 w6 a5 k5 h ⟨a2,Q⟩=>?_;refine TS h (adU h (m _ C)) λd N a6 k6 h ⟨V,z⟩=>?_;rw[s1]at e9 v;rw[s2]at a0 t;rw[z1]at O;rw[z2]at P;rw[z3]at Q;rw[z4]at z;have c7:ES N w0 (f4 13) (iM b l).1:=rmq;have c8:ES N w0 (f5 15) (iM b' l').1:=rmq;obtain⟨g5,h3,b9⟩:=c7.ints l1;obtain⟨g6,h4,b0⟩:=c8.ints m1;refine ab3 h zz (adW h (M0:d 9=_) (M0:d 10=_) (M0:d 11=_) (M0:d 12=_) (M0:d 14=_) (M0:d 16=_) (M0:d 18=_) z L.st (M0:d 13=_) b9 (M0:d 15=_) b0 L.sh (M0:d 17=_) V L.pa) λf8 w8 a7 k7 h=>?_;clear e9 v a0 t O P a2 Q V z e' f7 c7 c8 h3 h4 b9 b0 g5 g6 k1 k2 k3 k4 k5 k6 k7 a1 S a3 a4 a5 a6 a7 d7;refine TS h (adV h (j _ q3)) λf2 w2 a1 k1 h ⟨a2,v⟩=>?_;refine TS h (adw h (m _ a')) λf3 w3 S k2 h ⟨V,t⟩=>?_;refine TS h (adx h (j _ T)) λf4 w4 a3 k3 h ⟨O,f9⟩=>?_;refine TS h (ady h (m _ U)) λf5 w5 a4 k4 h ⟨P,f'⟩=>?_;refine TS h (adz h (j _ rfl)) λf6 w6 a5 k5 h ⟨Q,f0⟩=>?_;refine TS h (adA h (m _ rfl)) λd N a6 k6 h ⟨z,c6⟩=>?_;rw[z5]at v;rw[z6]at t;rw[z7]at O;rw[z8]at P;rw[z9]at Q;rw[h8]at z;have c9:ES N w0 (f4 21) (DF b l at_).1:=rmq;have d1:ES N w0 (f5 23) (DF b' l' at_).1:=rmq;have d2:ES N w0 (f6 25) (qq b l).1:=rmq;obtain⟨g7,h5,c1⟩:=c9.ints l2;obtain⟨g8,h6,c2⟩:=d1.ints m2;obtain⟨g9,h7,c3⟩:=d2.ints l3;obtain⟨g0,d3,c4⟩:=c6.ints m3;refine ab3 h zz (adD h (M0:d 10=_) (M0:d 12=_) (M0:d 14=_) (M0:d 16=_) (M0:d 18=_) z (M0:d 17=_) (M0:d 19=_) L.li (M0:d 21=_) c1 (M0:d 23=_) c2 L.su (M0:d 25=_) c3 d3 c4 L.da) λf8 w8 a7 k7 h=>?_;clear v t O P a2 Q V z f9 f' f0 c6 c9 d1 d2 h5 h6 h7 d3 c1 c2 c3 c4 g7 g8 g9 g0 k1 k2 k3 k4 k5 k6 k7 a1 S a3 a4 a5 a6 a7;refine TS h (adB h (j _ u)) λf2 w2 a1 k1 h ⟨g,v,h0,e7,d'⟩=>?_;refine TS h (adC h (m _ C)) λf3 w3 S k2 h ⟨g',t,d4,e8,d0⟩=>?_;rw[h9]at v;rw[h']at t;exact Dc ⟨rfl,f3,rfl,h,M0,t,g,g',M0,e7,blk d' S,d4,e8,d0⟩
 |have b1:∀x k,oN b' l' x k=oN b l x k:=λx k=>by unfold oN;rw[E,d5,R]
  have c:∀k n:Nat,k<l.U.length->(n:Int)<b.S->assoc (fN b l) ((k:Int),(n:Int))=(oP (λx=>oN b l x k n) (aJ b l b.D.toNat):Int):=λk n hk o=>LC hc b4 k n hk zz;have c':∀k n:Nat,k<l.U.length->(n:Int)<b.S->assoc (fN b' l') ((k:Int),(n:Int))=(oP (λx=>oN b l x k n) (aJ b' l' b'.D.toNat):Int):=λk n hk o=>by
   rw[LC b2 (by rw[R];exact b4) k n (by rw[R];exact hk) zz];simp only[b1]
  have w:∀k n:Nat,k<l.U.length->(n:Int)<b.S->lY (assoc (fN b l) ((k:Int),(n:Int))) (aJ b l b.D.toNat).length=0\/lY (assoc (fN b l) ((k:Int),(n:Int))) (aJ b l b.D.toNat).length=lY (assoc (fN b' l') ((k:Int),(n:Int))) (aJ b' l' b'.D.toNat).length:=λk n hk o=>by
   rw[c k n hk o,c' k n hk o];exact aaN J i
  have eh:∀x,pF b' l' x p l'.U.length=pF b l x p l.U.length:=λx=>by
   unfold pF Tz;rw[R];simp only[b1]
  have e5:qs b l p=(yc b l p ((l.U.length:Nat),0) (aJ b l b.D.toNat),0):=by unfold qs;rw[qWB (j _ u)];rfl
  have e6:qs b' l' p=(yc b' l' p ((l'.U.length:Nat),0) (aJ b' l' b'.D.toNat),0):=by unfold qs;rw[qWB (m _ C)];rfl
  have d8:∀x,pF b l x p l.U.length<=l.U.length:=λx=>kO _ _;obtain⟨i1,i2,i3,i4,i5⟩:=Xu b l p (y:=0) (c:=l.U.length) (aJ b l b.D.toNat) ((l.U.length:Nat),0) (λx _=>⟨Int.natCast_nonneg _,Int.ofNat_le.2 (d8 x)⟩) (by dsimp only;omega) (by dsimp only;omega);obtain⟨j1,j2,j3,j4,j5⟩:=Xu b' l' p (y:=(yc b l p ((l.U.length:Nat),0) (aJ b l b.D.toNat)).1) (c:=(yc b l p ((l.U.length:Nat),0) (aJ b l b.D.toNat)).2) (aJ b' l' b'.D.toNat) ((l'.U.length:Nat),0) (λx A=>by rw[eh];exact i5 x (i x A)) (by dsimp only;rw[R];exact i3) i4;have best:∀{B:aC} {K:pK},0<B.U.n->∀h:Nat,h<B.U.n->(iZ (fN B K) (aJ B K B.D.toNat).length (h:Int) B.S.toNat:Int)<=(o5 B K).2/\∃s:Nat,s<B.U.n/\(o5 B K).2=iZ (fN B K) (aJ B K B.D.toNat).length (s:Int) B.S.toNat:=λ{B K} Z h e4=>by
   have b5:((h:Int),(iZ (fN B K) (aJ B K B.D.toNat).length (h:Int) B.S.toNat:Int))∈BO B.U.n B.S.toNat (aJ B K B.D.toNat).length (fN B K):=List.mem_map.2 ⟨h,List.mem_range.2 e4,rfl⟩;obtain⟨y,r,b8⟩:=List.exists_cons_of_ne_nil (List.ne_nil_of_mem b5);obtain⟨g1,g2⟩:=abi r y;have d9:o5 B K=dR jB y r:=by unfold o5;rw[b8];rfl
   rw[<- b8,<- d9]at g1 g2;have g3:=wU.1 (g2 _ b5);obtain⟨s,b3,g4⟩:=List.mem_map.1 g1;dsimp only at g3;exact⟨zz,s,List.mem_range.1 b3,(cd Prod.snd g4).symm⟩
  refine⟨⟨zz,zz⟩,?_,?_,?_,?_,?_,?_,?_⟩
  .unfold iM;rw[qWB (j _ rfl),qWB (m _ rfl)];exact abX i
  .unfold vH;rw[qWB (j _ u),qWB (m _ C)];exact aaN J i
  .unfold oQ;rw[qWB (j _ q3),qWB (m _ a')];exact w at_ p G a9
  .unfold DF;rw[qWB (j _ T),qWB (m _ U),E];refine abq λn o h=>?_;unfold sU at h|-;have h:=of_decide_eq_true h;rcases w at_ n G zz with e|e
   .rw[h]at e;cases e
   .exact decide_eq_true (e▸h)
  .unfold qq;rw[qWB (j _ rfl),qWB (m _ rfl),E,o,a8];refine abq λn o h=>?_;unfold sw Og at h|-;rw[List.all_eq_true]at h|-;intro k hk;have i6:=List.mem_range'_1.1 hk;have h:=of_decide_eq_true (h k hk);rw[c k n zz zz]at h;rw[decide_eq_true_iff,c' k n zz zz];have Z:oP (λx=>oN b l x k n) (aJ b l b.D.toNat)=0:=zz;have:oP (λx=>oN b l x k n) (aJ b' l' b'.D.toNat)=0:=List.length_eq_zero_iff.2 (List.filter_eq_nil_iff.2 λx A=>List.filter_eq_nil_iff.1 (List.length_eq_zero_iff.1 Z) x (i x A));omega
  .rw[e5,e6];obtain⟨x,A⟩:=List.exists_mem_of_ne_nil _ J;have:=j5 x A;exact⟨j1,by dsimp only;omega,j2⟩
  .obtain⟨-, s,b3,e⟩:=best (B:=b) (K:=l) zz at_ zz;rw[e];refine Int.le_trans ?_ (best (B:=b') (K:=l') zz s zz).1;unfold iZ;rw[E,<- List.countP_eq_length_filter,<- List.countP_eq_length_filter];refine Int.ofNat_le.2 (List.countP_mono_left λn o h=>?_);rw[nd]at h|-;have o:=List.mem_range.1 o;rw[c s n zz zz]at h;rw[c' s n zz zz];have Z:oP (λx=>oN b l x s n) (aJ b l b.D.toNat)=(aJ b l b.D.toNat).length:=zz;have:oP (λx=>oN b l x s n) (aJ b' l' b'.D.toNat)=(aJ b' l' b'.D.toNat).length:=List.length_filter_eq_length_iff.2 λx A=>List.length_filter_eq_length_iff.1 Z x (i x A);omega):p:=h
def vC{p:Prop}(h:p:=by
 obtain⟨hB,S,U⟩:=h.all;first|have _:=ø;have a:=Vu s15 s13 Y X w h15 h13;rw[g]at a|have c:=Vu s21 s23 X Y w h21 h23;rw[g]at c;have a:=Vu s25 s26 Z T w h25 h26;rw[hZ]at a
 by_cases d:u=0
 .subst d;refine wF rfl ?_;refine Tw ?_;first|have _:=ø;refine lC rfl rfl zz (wgg rfl rfl rfl) (dm rfl (MK pL pL pL) rfl rfl) ((bz m 1 n w).mono λe w' q=>⟨by rw[qM.2 hm]at q;exact q.1,q.2.symm⟩) λo G=>?_;subst o;refine Tw ?_;refine lcw a ?_;exact lE (Rs.mk hB (λj k=>QA) rfl)|refine lcw c ?_;refine lcw a ?_;exact lE (Rs.mk hB (λj k=>QA) rfl)
 .obtain rfl:=r.resolve_left d;have V:(u != 0)=true:=by simp[d]
  refine wF rfl ?_;refine Tw ?_;first|have _:=ø;refine lC rfl rfl zz (wgg rfl rfl rfl) (dm rfl (MK pL pL pL) rfl rfl) ((bz m 1 n w).mono λe w' q=>⟨by rw[qM.2 hm]at q;exact q.1,q.2.symm⟩) λo G=>?_;subst o;refine Tw ?_;refine lcw a ?_;rw[show(u != u)=false by simp];exact lE (Rs.mk hB (λj k=>QA) rfl)|rw[show(u != u)=false by simp];refine Tw ?_;refine lcw c ?_;refine lcw a ?_;exact lE (Rs.mk hB (λj k=>QA) rfl)):p:=h
def MP{p:Prop}(h:p:=by
 unfold wpOp;simp only[hi,j,if_true,Kp.wp,k,Kp.upon_enter];refine .inl (hc.mono λe w' c=>?_);first|have _:=ø;obtain⟨rfl,a⟩:=c|obtain⟨v,rfl,a⟩:=c
 show K ((fa n f).put oi.dst v) w';rw[b,cw g];first|have _:=ø;exact h w' a|exact h v w' a):p:=h
def xaA{p:Prop}(h:p:=by
 obtain⟨rfl⟩:=d;unfold Hn;simp only[c,e,f];go_simp;rw[Go.IntWalk.i64_in _ h]):p:=h
def xaH{p:Prop}(h:p:=by
 unfold Hn;simp only[b,ab,c,a,Deferred.ofValue];simp[go_sem,invoke,hc]):p:=h
def xt{p:Prop}(h:p:=by
 first|have _:=ø;refine btr (E:=Rn w (qq b l)) ((Lu b l w h.bk h.ck d).mono λe w' ⟨A,c,a,h2⟩=>⟨_,a,A,c,rfl,h2⟩) ?_|have _:=å;refine btr (E:=Rn w (qq b' l')) ((Lu b' l' w h.bk' h.ck d).mono λe w' ⟨A,c,a,h2⟩=>⟨_,a,A,c,rfl,h2⟩) ?_|have _:=æ;refine btr (E:=Rn w (iM b l)) ((DT b l w h.bk h.ck d).mono λe w' ⟨A,c,a,h2⟩=>⟨_,a,A,c,rfl,h2⟩) ?_|refine btr (E:=Rn w (iM b' l')) ((DT b' l' w h.bk' h.ck d).mono λe w' ⟨A,c,a,h2⟩=>⟨_,a,A,c,rfl,h2⟩) ?_
 rintro v k ⟨A,c,rfl,g,hB⟩;refine Tw ?_;exact lE ⟨_,rfl,hB,λj _=>QA,rfl,h.row g⟩):p:=h
def xz{p:Prop}(h:p:=by
 first|have _:=ø;refine btr (E:=λv w'=>∃a c,v=.tuple #[a,c,.int .i64 _]/\ES w' w0.heap.size a _/\X w.heap.size w w') ((Of b l at_ w h.bk h.ck k).mono λe w' ⟨a,c,d,h2,g⟩=>⟨_,d,a,c,rfl,h.row h2.2.2.1,g⟩) ?_|refine btr (E:=λv w'=>∃a c,v=.tuple #[a,c,.int .i64 _]/\ES w' w0.heap.size a _/\X w.heap.size w w') ((Of b' l' at_ w h.bk' h.ck k).mono λe w' ⟨a,c,d,h2,g⟩=>⟨_,d,a,c,rfl,h.row h2.2.2.1,g⟩) ?_
 rintro v n ⟨a,c,rfl,m,hB⟩;refine Tw ?_;exact lE ⟨_,rfl,hB,λj _=>QA,rfl,m⟩):p:=h
end Go
namespace Go.Co
open Go.Conc
variable{N:Nat}{W w w0:H}{V0 O0 V O:Nat->Prop}{ρ0 Z:Ren}{r:Ly}{P:Ps}{T:P3}
def P3.re(T:P3)(r:Ly):P3:= {T with rest:=r}
def Ren.re(Z:Ren)(r:Ly):Ren:= {Z with tab:=Z.tab.re r,glob:=Z.glob}
def acK:C3 (T.re r) P=C3 T P:=cd Ok.mk (funext λf=>funext λc=>by
 show(ez (T.re r) P (T.kind f) c=true)=(ez T P (T.kind f) c=true);generalize T.kind f=e;have:ez (T.re r) P e c=ez T P e c:=by
  induction c with
  | seq a b d hb=>simp only[ez,d,hb]
  | cond c a b d hb=>simp only[ez,d,hb];rfl
  | rangeFunc f x a b d hb=>simp only[ez,d,hb];rfl
  | block i c h=>simpa only[ez]using h
  | loop c h=>simpa only[ez]using h
  | scope c h=>simpa only[ez]using h
  | _=>rfl
 rw[this])
def dM.re{p:Kd}{v v':M}(h:dM Z p v v'):dM (Z.re r) p v v':=by
 induction h with
 | bool b=>exact .bool b
 | int k n=>exact .int k n
 | string s=>exact .string s
 | nilPtr=>exact .nilPtr
 | ptr e=>exact .ptr e
 | ptrM hb hc=>exact .ptrM hb hc
 | nilSlice l c=>exact .nilSlice l c
 | slice l c e=>exact .slice l c e
 | nilMap=>exact .nilMap
 | map a=>exact .map a
 | nilChan=>exact .nilChan
 | func j s1 _ s2 _ m i=>exact .func (by cases j with|func f g a=>exact .func f g a|yield hl=>exact .yield hl) s1 m s2 i
 | clo g a hk s2 _ i=>exact .clo g a hk s2 i
 | nilFunc=>exact .nilFunc
 | iface t _ d=>exact .iface t d
 | nilIface=>exact .nilIface
 | agg s _ d=>exact .agg s d
 | tuple s _ d=>exact .tuple s d
 | junk=>exact .junk
def KR.re{κ:Nat->Kd}{xs ys:Array M}(h:KR κ Z xs ys):KR κ (Z.re r) xs ys:=⟨h.1,λi x y a b=>(h.2 i x y a b).re⟩
def Mem.re(h:Mem T P Z N W w):Mem (T.re r) P (Z.re r) N W w:=
 ⟨h.dom,h.cod,h.hN,h.sep,λb o l=>by
  obtain⟨f,s,e,g,h2,d,j⟩:=h.hr b o l;refine⟨f,s,e,g,h2,?_,j⟩;rw[acK];show OC (C3 T P) (Z.re r) (Z.cls b) s o e;generalize Z.cls b=q at d|-
  cases d with
  | plain h=>exact .plain (by
    cases h with
    | cells hc k=>exact .cells (λi v n=>let⟨v',a,b⟩:=hc i v n;⟨v',a,b.re⟩) k
    | map m he=>exact .map m λi x y p t=>let⟨a,b,c⟩:=he i x y p t;⟨a.re,b.re,c⟩
    | loop h=>exact .loop ⟨h.state,h.pending,h.pendOk,h.fn,h.tmps.re,h.params,h.assign,h.body,h.assignOk,h.bodyOk,h.defers⟩
    | none=>exact .none
    | nil=>exact .nil)
  | clo h=>exact .clo h.re,by rw[<- h.tab];rfl⟩
def ir.re(h:ir T P N V0 O0 w0 ρ0 Z W w V O):ir (T.re r) P N V0 O0 w0 (ρ0.re r) (Z.re r) W w V O:=
 ⟨h.mem.re,⟨h.le.at_,h.le.cls,cd (λt:P3=>t.re r) h.le.tab⟩,h.see,h.own,h.hV,h.hO,h.cX,h.size,h.tape,h.os,h.output,h.keep,h.vb⟩
def ir.self(h:ir T P N V0 O0 w0 ρ0 Z W w V O):ir T P N V0 O0 w0 Z Z W w V O:=
 ⟨h.mem,.refl _,h.see,h.own,h.hV,h.hO,h.cX,h.size,h.tape,h.os,h.output,h.keep,h.vb⟩
def ir.uB{V0 O0 V O V' O':Nat->Prop}{w0 w w' W:H}(h:ir T P N V0 O0 w0 ρ0 Z W w V O)(k:aH V w w')(f:∀x,V x->V' x)(d:∀x,V' x↔O' x)(a:∀x,V' x->x<w'.heap.size)(j:∀x,x<w0.heap.size->V0 x)(g:∀x,V0 x↔O0 x):
  ir T P N V0 O0 w0 ρ0 Z W w' V' O':=by
 have h:=h.rely k;have new:∀b,V' b->V0 b\/(V' b/\O' b/\w0.heap.size<=b):=λb a=>(Nat.lt_or_ge b w0.heap.size).imp (j b) λh=>⟨a,(d b).1 a,h⟩;have old:∀b,V0 b->V' b:=λb a=>f b ((h.hV b).2 (.inl a));exact⟨h.mem,h.le,λb c s e=>f _ (h.see b c s e),λb c s i e=>⟨(d _).1 (f _ (h.see b c s e)),(h.own b c s i e).2⟩,λb=>⟨new b,λx=>x.elim (old b) (·.1)⟩,λb=>⟨λx=>(new b ((d b).2 x)).imp (g b).1 id,λx=>x.elim (λy=>(d b).1 (old b ((g b).2 y))) (·.2.1)⟩,h.cX,h.size,h.tape,h.os,h.output,h.keep,a⟩
end Go.Co
namespace Go.Proofs.YthfhocgpjjkjlaaGreatDoor
open Go.RowKit
theorem Vu(s t:Sl)(l m:List Int)(w:H)(hl:eC w s l)(E:eC w t m):PH F 36 #[.slice s.A s.n s.c,.slice t.A t.n t.c] w λe w'=>e=.returned (.bool (l.all λx=>decide (x∈m)))/\w'=w:=by
 obtain⟨A,N,c⟩:=s;obtain⟨rfl,hc,L,z⟩:=hl;have v:PQ (0<l.length->∃b off,A=Y ⟨b,off,I⟩/\b<w.heap.size/\∀k,k<l.length->w (b,off+k)=Y (.int .i64 (l.getD k 0))):=z;have C:=λn=>ze n t m w E;simp only at|-;go_enter Tryz.func36,Tryz.ntmps36;go_wp2;go_loopw [5] (λi wr=>∃k:Nat,k<=l.length/\i=.int .i64 k/\wr=w/\PQ (((l.take k).all λx=>decide (x∈m))=true)) (λi _=>l.length-(intOf i).toNat)
 case atStart=>exact⟨0,qT _,rfl,rfl,by simp[PQ]⟩
 case round=>
  obtain⟨k,hk,rfl,rfl,a⟩:=hrel;by_cases f:k<l.length
  .obtain⟨J,off,rfl,K,r⟩:=v.out zz;have B:=r k f;have d:PQ (l.getD k 0=l[k]):=by show _=_;simp[List.getD,iv f]
   have p:PQ (l.take (k+1)=l.take k++[l.getD k 0]):=by show _=_;rw[d.out];simp
   have j:PQ (l.getD k 0∈l):=by show _∈_;rw[d.out];exact List.getElem_mem f
   clear r d;generalize l.getD k 0=x at B p j;have g:=C x;obtain⟨q,u⟩:∃q,decide (x∈m)=q:=⟨_,rfl⟩;rw[u]at g;have o:=Hm u;cases q
   .go_wp2_with (go_at_call 79;refine g.mono ?_;rintro e G ⟨rfl,rfl⟩);go_ret;exact⟨bR (by
     symm;rw[Bool.eq_false_iff];intro h;have:=List.all_eq_true.1 h x j.out;rw[o.out]at this;cases this),rfl⟩
   .go_wp2_with (go_at_call 79;refine g.mono ?_;rintro e G ⟨rfl,rfl⟩);go_roundw
    case rel=>exact⟨k+1,zz,by go_num,by trivial,by show _=_;rw[p.out,List.all_append,a.out];simp[o.out]⟩
    case measure=>simp[intOf];omega
  .obtain rfl:k=l.length:=zz;have a:=a.out;rw[List.take_length]at a;have y:=Hm a;go_wp2;go_ret;exact⟨bR y.out.symm,rfl⟩
def Yp{S:Int}:∀{l:List Int} {p:Option Int},bS S p l=0->(∀x∈l,0<=x/\x<S/\∀y,p=Y y->y<x)/\l.Pairwise (· < ·)
 | [],_,_=>⟨λx b=>by simp at b,List.Pairwise.nil⟩
 | n::r,p,h=>by
  unfold bS at h;by_cases f:ax n 0 (S-1)=false
  .rw[qWB f]at h;cases h
  .rw[qVB f]at h;obtain⟨g,h⟩:(∀y,p=Y y->y<n)/\bS S (Y n) r=0:=by
    cases p with
    | none=>exact⟨λy e=>(by cases e),by simpa using h⟩
    | some y=>
     by_cases h2:n<=y
     .simp[h2]at h
     .exact⟨λz e=>(by cases e;omega),by simpa[h2]using h⟩
   rw[Bool.not_eq_false,qM]at f;obtain⟨i,j⟩:=Yp h;refine⟨λx b=>?_,List.pairwise_cons.2 ⟨λx b=>(i x b).2.2 n rfl,j⟩⟩;rcases dq.1 b with rfl|b
   .exact⟨f.1,zz,g⟩
   .obtain⟨a,c,d⟩:=i x b;exact⟨a,c,λy e=>by have:=g y e;have:=d n rfl;omega⟩
def Yq:∀(S:Nat) (l:List Int),l.Nodup->(∀x∈l,0<=x/\x<S)->l.length<=S
 | 0,l,_,h=>by
  cases l with
  | nil=>simp
  | cons a r=>have:=h a ss;omega
 | S+1,l,b,h=>by
  have g:=List.length_eq_countP_add_countP (l:=l) (λx=>x==(S:Int));have h2:l.countP (λx=>x==(S:Int))<=1:=by
   have:l.count (S:Int)<=1:=List.nodup_iff_count.1 b _;exact this
  have c:=Yq S (l.filter λx=> !(x==(S:Int))) (b.filter _) λx d=>by
   obtain⟨f,m2⟩:=List.mem_filter.1 d;have:=h x f;simp at m2;omega
  rw[<- List.countP_eq_length_filter]at c;have e:l.countP (λx=> !(x==(S:Int)))=l.countP (λx=>decide ¬(x==(S:Int))=true):=List.countP_congr λx _=>by simp
  omega
def abW{b:aC}{C:List Int}{most:Nat}(c:b.S<=12)(a:b.hi-b.lo<3)(d:most<=2):(gT b C most).length<=471:=by
 have h:=λk=>Ar C (S:=b.S.toNat) zz a k mI 0;have e:=h 0;have f:=h 1;have h2:=h 2;unfold gT tP;rcases(show most=0\/most=1\/most=2 by omega)with rfl|rfl|rfl<;>simp[List.range']<;>omega
end Go.Proofs.YthfhocgpjjkjlaaGreatDoor
namespace Go.Co
open Go.Conc
variable{P:Ps}{T:P3}
end Go.Co
namespace Go.Proofs.YthfhocgpjjkjlaaGreatDoor
open Go.RowKit
variable{S:Nat}{lo hi sh:Int}{C:List Int}{b:aC}{l:pK}{ds:List Nat}
def XK:∀(k:Nat) (d:Nat->Bool) (step:Nat),S<=12->(∀i,step<=i->d i=false)->∀x∈jW S lo hi C k d step,(ie x.2 12).length=(ie d 12).length+k
 | 0,d,step,_,_,x,a=>by
  rw[jW]at a;obtain⟨s, -, rfl⟩:=List.mem_map.1 a;rfl
 | k+1,d,step,l,g,x,a=>by
  rw[jW]at a;obtain⟨n,j,a⟩:=List.mem_flatMap.1 a;have j:=List.mem_range'_1.1 j;split at a
  .cases a
  .have:=XK k (Bp d n) (n+1) l (λi hi=>by
    unfold Bp;rw[qVB zz];exact g i zz) x a
   rw[this];have:∀m,(ie (Bp d n) m).length=(ie d m).length+if n<m then 1 else 0:=λm=>by
    induction m with
    | zero=>simp[ie]
    | succ m c=>
     by_cases e:m=n
     .subst e;rw[oG (show Bp d m m=true by simp[Bp]),mV (g m zz),kl,c,qVB zz,qWB zz];rfl
     .have f:Bp d n m=d m:=by simp[Bp,e]
      cases h:d m
      .rw[mV (f.tn h),mV h,c];by_cases b:n<m<;>simp[b]<;>omega
      .rw[oG (f.tn h),oG h,kl,kl,c];by_cases b:n<m
       .rw[qWB b,qWB zz];simp
       .rw[qVB b,qVB zz];simp
   rw[this,qWB zz];omega
def XM{f:Int×(Nat->Bool)->Bool}(b:S<=12){k:Nat}{x:Int×(Nat->Bool)}(d:x∈jW S lo hi C k mI 0)(c:f x=true):∀(r m:Nat),m<=k->k<m+r->∃y,((List.range' m r).flatMap λk=>jW S lo hi C k mI 0).find? f=Y y/\(ie y.2 12).length<=k
 | 0,m,g,h2=>zz
 | r+1,m,g,h2=>by
  rw[List.range'_succ,lv,nh]
  cases h:(jW S lo hi C m mI 0).find? f with
  | some y=>
   refine⟨y,rfl,?_⟩;have:=XK m mI 0 b (λ_ _=>rfl) y (List.mem_of_find?_eq_some h);rw[this];have e:(ie mI 12).length=0:=rfl;omega
  | none=>
   rcases Nat.lt_or_ge m k with a|a
   .exact XM b d c r (m+1) a zz
   .have:m=k:=zz;subst this;exact mi c (by simpa using List.find?_eq_none.1 h x d)
open Go.Co
variable{K R:Act->H->Prop}{fn:ba}{args:Array M}{v:M}{E S:H->Prop}{w w':H}{ops:Array Kp}{n d j i g k off m cp z:Nat}{f:Nat->M}{oi o:Kp}{rest:List Nat}{Q:Exit->Act->H->Prop}{md:Region.Mode}{late:Nat->Bool}{L:Array Bool}{Z:ae->M}{x y c:ae}{a b:Int}{t':Lk}{r q p:Bool}
section
variable{t:Bool}
def eE(b:oi.guard=Y (j,t))(c:(ops[j]?).bind (·.dst)=Y g)(d:g<n)(a:f g=.bool t):Region.wanted oi (aw ops (fa n f).tmps)=true:=by
 unfold Region.wanted;rw[b];simp only[xM c d a,beq_self_eq_true]
def jc(b:oi.guard=Y (j,t))(c:(ops[j]?).bind (·.dst)=Y g)(d:g<n)(a:f g=.bool (!t)):Region.wanted oi (aw ops (fa n f).tmps)=false:=by
 unfold Region.wanted;rw[b];simp only[xM c d a];cases t<;>rfl
def ZE(v:M)(hi:ops[i]?=Y oi)(a:oi.dst=Y d)(b:d<n)(c:Region.wanted oi (aw ops (fa n f).tmps)=true)(e:(Hn (fa n f).eval oi).run F w=.ok (.value v) w')(h:K (fa n (ah f d v)) w'):wpOp F ops Q i K (fa n f) w:=by
 unfold wpOp;simp only[hi,c,if_true,Kp.wp,e,Kp.upon];rw[a,cw b];exact .inl h
def Vg(hi:ops[i]?=Y oi)(b:oi.dst=Y d)(g:d<n)(j:Region.wanted oi (aw ops (fa n f).tmps)=true)(k:(Hn (fa n f).eval oi).run F w=.ok (.enter fn args) w)
  (hc:PH F fn args w λe w'=>e=.returned v/\E w')(h:∀w',E w'->K (fa n (ah f d v)) w'):wpOp F ops Q i K (fa n f) w:=by
 have ø:=0;exact MP
def Xr{E:M->H->Prop}(hi:ops[i]?=Y oi)(b:oi.dst=Y d)(g:d<n)(j:Region.wanted oi (aw ops (fa n f).tmps)=true)(k:(Hn (fa n f).eval oi).run F w=.ok (.enter fn args) w)
  (hc:PH F fn args w λe w'=>∃v,e=.returned v/\E v w')(h:∀v w',E v w'->K (fa n (ah f d v)) w'):wpOp F ops Q i K (fa n f) w:=MP
def ZG(hi:ops[i]?=Y oi)(a:oi.dst=Y d)(b:d<n)(c:Region.wanted oi (aw ops (fa n f).tmps)=false)(h:K (fa n (ah f d D)) w):wpOp F ops Q i K (fa n f) w:=by
 unfold wpOp;simp only[hi,c,lO,if_false];rw[a,cw b];exact h
def acy(hi:ops[i]?=Y oi)(a:oi.dst=I)(b:Region.wanted oi (aw ops (fa n f).tmps)=true)(c:(Hn (fa n f).eval oi).run F w=.ok .skip w')(h:K (fa n f) w'):wpOp F ops Q i K (fa n f) w:=by
 unfold wpOp;simp only[hi,b,if_true,Kp.wp,c,Kp.upon];rw[a];exact .inl h
def lV(v:M)(hi:ops[i]?=Y oi)(a:oi.dst=Y d)(b:d<n)(c:Region.wanted oi (aw ops (fa n f).tmps)=true)(e:(Hn (fa n f).eval oi).run F w=.ok (.value v) w')(h:wpOps F ops Q rest (fa n (ah f d v)) w'):wpOps F ops Q (i::rest) (fa n f) w:=by
 rw[wpOps_cons];exact ZE v hi a b c e h
def lN(hi:ops[i]?=Y oi)(a:oi.dst=Y d)(b:d<n)(c:Region.wanted oi (aw ops (fa n f).tmps)=false)(h:wpOps F ops Q rest (fa n (ah f d D)) w):wpOps F ops Q (i::rest) (fa n f) w:=by
 rw[wpOps_cons];exact ZG hi a b c h
def lS(hi:ops[i]?=Y oi)(a:oi.dst=I)(b:Region.wanted oi (aw ops (fa n f).tmps)=true)(c:(Hn (fa n f).eval oi).run F w=.ok .skip w')(h:wpOps F ops Q rest (fa n f) w'):wpOps F ops Q (i::rest) (fa n f) w:=by
 rw[wpOps_cons];exact acy hi a b c h
def lC(hi:ops[i]?=Y oi)(a:oi.dst=Y d)(b:d<n)(c:Region.wanted oi (aw ops (fa n f).tmps)=true)(g:(Hn (fa n f).eval oi).run F w=.ok (.enter fn args) w)
  (hc:PH F fn args w λe w'=>e=.returned v/\E w')(h:∀w',E w'->wpOps F ops Q rest (fa n (ah f d v)) w'):wpOps F ops Q (i::rest) (fa n f) w:=by
 rw[wpOps_cons];exact Vg hi a b c g hc h
def lR{E:M->H->Prop}(hi:ops[i]?=Y oi)(a:oi.dst=Y d)(b:d<n)(c:Region.wanted oi (aw ops (fa n f).tmps)=true)(g:(Hn (fa n f).eval oi).run F w=.ok (.enter fn args) w)
  (hc:PH F fn args w λe w'=>∃v,e=.returned v/\E v w')(h:∀v w',E v w'->wpOps F ops Q rest (fa n (ah f d v)) w'):wpOps F ops Q (i::rest) (fa n f) w:=by
 rw[wpOps_cons];exact Xr hi a b c g hc h
def lE(h:Q .normal (fa n f) w):wpOps F ops Q [] (fa n f) w:=h
def tV(v:M)(hi:ops[i]?=Y oi)(b:oi.dst=Y d)(e:d<n)(l:Region.wanted oi (aw ops (fa n f).tmps)=true)(j:Region.noSelect ops=true)(c:Region.free md ops L i=true)(g:(Region.ready md ops L).contains i=true)(hl:nN md ops late i=true)
  (m:∀w',S w'->(Hn (fa n f).eval oi).run F w'=.ok (.value v) w')(a:S w)
  (h:wpAnyL F md ops (aR R) S late k (L.setIfInBounds i true) (fa n (ah f d v)) w):wpAnyL F md ops (aR R) S late (k+1) L (fa n f) w:=
 qQ hi j c g hl (λ_ _ _ h=>h) (.inl ⟨l,m⟩) a (by rw[b,cw e];exact h)
def tN(hi:ops[i]?=Y oi)(b:oi.dst=Y d)(e:d<n)(l:Region.wanted oi (aw ops (fa n f).tmps)=false)(j:Region.noSelect ops=true)(c:Region.free md ops L i=true)(g:(Region.ready md ops L).contains i=true)(hl:nN md ops late i=true)(a:S w)
  (h:wpAnyL F md ops (aR R) S late k (L.setIfInBounds i true) (fa n (ah f d D)) w):wpAnyL F md ops (aR R) S late (k+1) L (fa n f) w:=
 qQ hi j c g hl (λ_ _ _ h=>h) (.inr ⟨l,rfl⟩) a (by rw[b,cw e];exact h)
def tC(j:Region.ready md ops L=[i])(hi:ops[i]?=Y oi)(b:oi.dst=Y d)(g:d<n)(l:Region.wanted oi (aw ops (fa n f).tmps)=true)(o:(Hn (fa n f).eval oi).run F w=.ok (.enter fn args) w)
  (hc:PH F fn args w λe w'=>e=.returned v/\E w')(h:∀w',E w'->S w'/\wpAnyL F md ops (aR R) S late k (L.setIfInBounds i true) (fa n (ah f d v)) w'):wpAnyL F md ops (aR R) S late (k+1) L (fa n f) w:=by
 refine bl [i] j ss λm c=>?_;obtain rfl:=q8A.1 c;exact Vg hi b g l o hc λw' a=>⟨λ_=>(h w' a).1,(h w' a).2⟩
end
def gy(n:Nat){F:Func}{c:Ly}{A:Array M}{R:Ending->H->Prop}(b:Hb.funcs[fn]?=Y F)(a:F.body=Y c)(d:A.size+(F.ntmps-A.size)=n)(h:∀f:Nat->M,(∀i,f i=A.getD i D)->Ly.wp Hb c (bodyPost Hb F R) (fa n f) w):PH Hb fn A w R:=by
 refine calls_of_wp b a ?_;rw[iu d];exact h _ λ_=>rfl
theorem Ib{g:Nat}{b:aC}(h:aK w g 31 b):(Instr.loadAt 31 (.pointer (Y (g,0)))).run F w=.ok b.v w:=by
 obtain⟨a,c,i,j,k,l,m,n,o,p,d,e,f⟩:=aM h;unfold aC.v;go_simp
def ag{n t:Nat}{f:Nat->M}(h:t<n)(e:f t=v):(fa n f).eval (.tmp t)=v:=(fe h).tn e
def ZK(s:Nat):List Nat:=if s=31 then[0,1,2,3,5,6,8,10,11,12]else if s=72 then[0,1,2]else if s=46\/s=23\/s=26\/s=89\/s=91 then[0,1]else[]
def Sm(x:Int):Prop:= -9223372036854775808<=x/\x<=9223372036854775807
structure yW(x y:M):Prop where h:x=y
def ZL(t:Nat):Option Nat:=if t=27\/t=28 then Y 2 else if t=29 then Y 3 else I
def TG:BinOp->Option (Int->Int->Bool)
 | .lss=>Y λa b=>decide (a<b)
 | .leq=>Y λa b=>decide (a<=b)
 | .gtr=>Y λa b=>decide (b<a)
 | .geq=>Y λa b=>decide (b<=a)
 | .eql=>Y λa b=>a==b
 | .neq=>Y λa b=>a != b
 | _=>I
section
variable{t t':Lk}
def aci(a:o.op=.move x\/o.op=.assign x)(b:Z x=v):(Hn Z o).run F w=.ok (.value v) w:=by
 unfold Hn;rcases a with h|h<;>simp only[h,b]<;>rfl
theorem dm{xs:Array ae}{ts:Array Lk}(b:o.op=.call {callee:=.value (.func fn),args:=xs,argTypes:=ts})(a:xs.map Z=args)(c:Z (.func fn)=.func (.func fn) #[] #[])
  (hc:(callFunc fn args).run F w=.ok (.enter fn args) w):(Hn Z o).run F w=.ok (.enter fn args) w:=xaH
theorem j0(a:o.op=.unOp .not t x)(c:Z x=.bool r)(b:yW (.bool (!r)) v):(Hn Z o).run F w=.ok (.value v) w:=by
 obtain⟨rfl⟩:=b;unfold Hn;simp only[a,c];go_simp
theorem aa6(a:o.op=.pick c x y)(hc:Z c=.bool r)(b:(if r then Z x else Z y)=v):(Hn Z o).run F w=.ok (.value v) w:=by
 subst b;unfold Hn;simp only[a,hc];cases r<;>go_simp
theorem Vh(a:o.op=.binOp .neq 4 x y 4)(d:Z x=.bool r)(e:Z y=.bool q)(b:(r != q)=p)(c:yW (.bool p) v):(Hn Z o).run F w=.ok (.value v) w:=by
 subst b;obtain⟨rfl⟩:=c;unfold Hn;simp only[a,d,e];cases r<;>cases q<;>go_simp
theorem Sr{op:BinOp}{F:Int->Int->Bool}(c:o.op=.binOp op t x y t')(hF:TG op=Y F)(f:Z x=.int .i64 a)(g:Z y=.int .i64 b)(d:F a b=r)(e:yW (.bool r) v):(Hn Z o).run Hb w=.ok (.value v) w:=by
 subst d;obtain⟨rfl⟩:=e;unfold Hn;simp only[c,f,g];cases op<;>cases hF<;>go_simp
def gE{B:aC}(b:o.op=.load 31 x)(d:Z x=.pointer (Y (g,0)))(a:aK w g 31 B)(c:yW (B.v) v):(Hn Z o).run F w=.ok (.value v) w:=by
 have h:=(Ib a);obtain⟨rfl⟩:=c;unfold Hn;simp only[b,d];simp[h]
theorem TH{s:Nat}(b:o.op=.fieldAddr s x k)(a:(ZK s)[k]?=Y z)(d:Z x=.pointer (Y (g,off)))(c:yW (.pointer (Y (g,off+z))) v):(Hn Z o).run F w=.ok (.value v) w:=by
 obtain⟨rfl⟩:=c;unfold Hn;simp only[b,d];unfold ZK at a;repeat' split at a
 .subst s;iterate 10 (rcases k with _|k; · cases a;go_simp)
  cases a
 .subst s;iterate 3 (rcases k with _|k; · cases a;go_simp)
  cases a
 .rename_i h;iterate 2 (rcases k with _|k; · cases a;rcases h with rfl|rfl|rfl|rfl|rfl<;>go_simp)
  cases a
 .cases a
theorem abe(b:o.op=.load t x)(a:[3,4,24,27,28,29,34].contains t=true)(c:Z x=.pointer (Y (g,off)))(hc:w (g,off)=Y v):(Hn Z o).run F w=.ok (.value v) w:=by
 unfold Hn;simp only[b,c];simp at a;rcases a with rfl|rfl|rfl|rfl|rfl|rfl|rfl<;>go_simp
theorem Vj(b:o.op=.indexAddr t x y)(a:ZL t=Y z)(d:Z x=.slice (Y (g,off)) m cp)(e:Z y=.int .i64 k)(hk:k<m)(c:yW (.pointer (Y (g,off+k*z))) v):(Hn Z o).run F w=.ok (.value v) w:=by
 obtain⟨rfl⟩:=c;unfold Hn;simp only[b,d,e];unfold ZL at a;split at a
 .rename_i h;cases a;rcases h with rfl|rfl<;>go_simp
 .split at a
  .rename_i h;cases a;subst h;go_simp
  .cases a
theorem SF{A:Option Addr}(b:o.op=.call {callee:=.builtin .len,args:= #[x],argTypes:= #[t]})(a:[24,27,28,29].contains t=true)(c:o.type=3)(e:Z x=.slice A m cp)(d:yW (.int .i64 m) v):(Hn Z o).run F w=.ok (.value v) w:=by
 obtain⟨rfl⟩:=d;unfold Hn;simp only[b,ab,zM,e,c];simp at a;rcases a with rfl|rfl|rfl|rfl<;>go_simp
theorem AW(c:o.op=.binOp .sub 3 x y 3)(e:Z x=.int .i64 a)(f:Z y=.int .i64 b)(h:Sm (a-b))(d:yW (.int .i64 (a-b)) v):(Hn Z o).run F w=.ok (.value v) w:=xaA
theorem E4(c:o.op=.binOp .add 3 x y 3)(e:Z x=.int .i64 a)(f:Z y=.int .i64 b)(h:Sm (a+b))(d:yW (.int .i64 (a+b)) v):(Hn Z o).run F w=.ok (.value v) w:=xaA
end
section
variable{n id N:Nat}{w:H}{f:Nat->M}{p:Prop}{Z:ae->M}{x y z:ae}{a b c v:M}{r:Bool}{Q:Exit->Act->H->Prop}
def Rs(n:Nat)(u:H)(f:Nat->M)(keep:Nat->Prop)(p:(Nat->M)->Prop)(a:Act)(w:H):Prop:=∃f',a=fa n f'/\X u u w/\(∀i,keep i->f' i=f i)/\p f'
def Rs.mk{u w:H}{f f':Nat->M}{keep:Nat->Prop}{p:(Nat->M)->Prop}(a:X u u w)(hk:∀i,keep i->f' i=f i)(b:p f'):aR (Rs n u f keep p) .normal (fa n f') w:=⟨f',rfl,a,hk,b⟩
def XF(b:Z x=a):(#[x]).map Z= #[a]:=by simp[b]
def MJ(c:Z x=a)(d:Z y=b):(#[x,y]).map Z= #[a,b]:=by simp[c,d]
def MK(d:Z x=a)(e:Z y=b)(h2:Z z=c):(#[x,y,z]).map Z= #[a,b,c]:=by simp[d,e,h2]
def mp4{x y z u:ae}{a b c d:M}(e:Z x=a)(f:Z y=b)(h2:Z z=c)(g:Z u=d):(#[x,y,z,u]).map Z= #[a,b,c,d]:=by simp[e,f,h2,g]
def fG:Ly:=match Tryz.f10.body with|some c=>c|_=>.skip
def ZI:Array Kp:=br [0] fG
def Vo:Array Kp:=br [1,0,0] fG
def P6:Array Kp:=br [1,0,1,0] fG
def Vp:Array Kp:=br [1,0,1,1,4,0] fG
def P7:Array Kp:=br [1,1,0,0] fG
def Vq:Array Kp:=br [1,1,0,1,4,0] fG
def Vr:Array Kp:=br [1,1,1,0,0] fG
def ux:Ly:=dk [1,1,1,0,1,2,3] fG
def P8:Array Kp:=br [0,0] ux
def P9:Array Kp:=br [1,0,2,0,0] ux
def Qa:Array Kp:=br [1,0,2,0,1,4,0] ux
def Ig:Array Kp:=br [1,0,2,1,0] ux
def Qb:Array Kp:=br [1,0,2,1,1,4,0] ux
def Vt:Array Kp:=br [1,1] ux
def Ih:Array Kp:=br [1,1,1,1,0,0] fG
def Qc:Array Kp:=br [1,1,1,1,0,1,4,0] fG
def Qd:Array Kp:=br [1,1,1,1,1,0,0] fG
def uy:Ly:=dk [1,1,1,1,1,0,1,2,3] fG
def Ii:Array Kp:=br [0,0] uy
def B6:Array Kp:=br [1,0,2,0,0] uy
def Qe:Array Kp:=br [1,0,2,0,1,4,0] uy
def Ij:Array Kp:=br [1,0,2,1,0] uy
def Qf:Array Kp:=br [1,0,2,1,1,4,0] uy
def Qg:Array Kp:=br [1,1] uy
def Ik:Array Kp:=br [1,1,1,1,1,1,0,0] fG
def Qh:Array Kp:=br [1,1,1,1,1,1,0,1,4,0] fG
def Qi:Array Kp:=br [1,1,1,1,1,1,1,0,0] fG
def Xq:Ly:=dk [1,1,1,1,1,1,1,0,1,2,3] fG
def Il:Array Kp:=br [0,0] Xq
def B7:Array Kp:=br [1,0,2,0] Xq
def Qj:Array Kp:=br [1,0,2,1,4,0] Xq
def Qk:Array Kp:=br [1,1] Xq
def Ql:Array Kp:=br [1,1,1,1,1,1,1,1,0] fG
def ML:fG=.seq (.region 0 ZI false) (.seq (.seq (.region 1 Vo false) (.seq (.region 2 P6 false) (.cond (.tmp 10) (.seq (.region 3 Vp false) (.ret)) (.skip)))) (.seq (.seq (.region 4 P7 false) (.cond (.tmp 16) (.seq (.region 5 Vq false) (.ret)) (.skip))) (.seq (.seq (.region 6 Vr false) (.block 0 (.loop ux))) (.seq (.seq (.region 13 Ih false) (.cond (.tmp 44) (.seq (.region 14 Qc false) (.ret)) (.skip))) (.seq (.seq (.region 15 Qd false) (.block 2 (.loop uy))) (.seq (.seq (.region 22 Ik false) (.cond (.tmp 91) (.seq (.region 23 Qh false) (.ret)) (.skip))) (.seq (.seq (.region 24 Qi false) (.block 4 (.loop Xq))) (.seq (.region 29 Ql false) (.ret))))))))):=rfl
def Qm:ux=.seq (.seq (.region 7 P8 false) (.cond (.tmp 21) (.skip) (.exit 0))) (.seq (.block 1 (.seq (.seq (.region 9 P9 true) (.cond (.tmp 32) (.seq (.region 10 Qa false) (.ret)) (.skip))) (.seq (.region 11 Ig false) (.cond (.tmp 40) (.seq (.region 12 Qb false) (.ret)) (.skip))))) (.region 8 Vt false)):=rfl
def Qn:uy=.seq (.seq (.region 16 Ii false) (.cond (.tmp 49) (.skip) (.exit 2))) (.seq (.block 3 (.seq (.seq (.region 18 B6 true) (.cond (.tmp 77) (.seq (.region 19 Qe false) (.ret)) (.skip))) (.seq (.region 20 Ij true) (.cond (.tmp 87) (.seq (.region 21 Qf false) (.ret)) (.skip))))) (.region 17 Qg false)):=rfl
def Qo:Xq=.seq (.seq (.region 25 Il false) (.cond (.tmp 96) (.skip) (.exit 4))) (.seq (.block 5 (.seq (.region 27 B7 true) (.cond (.tmp 118) (.seq (.region 28 Qj false) (.ret)) (.skip)))) (.region 26 Qk false)):=rfl
def Oh{d i:Nat}(e:f i=a)(h:Nat.beq i d=false:=by exact rfl):ah f d v i=a:=(qVB (Nat.ne_of_beq_eq_false h)).tn e
def Ls{n t:Nat}(e:f t=v)(h:t<n:=by omega):(fa n f).eval (.tmp t)=v:=(fe h).tn e
def Tv:(fa n f).eval (.const v)=v:=rfl
def vq{x:M}:yW x x:=⟨rfl⟩
def XH{x:Bool}:x=x:=rfl
def dT[Decidable p](h:p)(e:true=r):decide p=r:=(decide_eq_true h).tn e
def dF[Decidable p](h:¬p)(e:false=r):decide p=r:=(decide_eq_false h).tn e
structure At(j:Nat)(p:Prop):Prop where h:p
structure Ac(j:Nat)(p:Prop):Prop where h:p
section
variable{ops:Array Kp}{oi:Kp}{i d n k j:Nat}{rest:List Nat}{f:Nat->M}{u w:H}{Q:Exit->Act->H->Prop}{md:Region.Mode}{L:Array Bool}{late:Nat->Bool}{R:Act->H->Prop}{fn:ba}{xs:Array ae}{ts:Array Lk}{v v':M}{args:Array M}
def XI(hi:ops[i]?=Y oi)(a:oi.dst=Y d)(c:Region.wanted oi (aw ops (fa n f).tmps)=true)(hB:X u u w)(h:∃v,(∀w',X u u w'->(Hn (fa n f).eval oi).run F w'=.ok (.value v) w')/\wpOps F ops Q rest (fa n (ah f d v)) w)(b:d<n:=by omega):wpOps F ops Q (i::rest) (fa n f) w:=let⟨v,hy,h⟩:=h;lV v hi a b c (hy w hB) h
def XJ(hi:ops[i]?=Y oi)(a:oi.dst=Y d)(c:Region.wanted oi (aw ops (fa n f).tmps)=false)(h:wpOps F ops Q rest (fa n (ah f d D)) w)(b:d<n:=by omega):wpOps F ops Q (i::rest) (fa n f) w:=lN hi a b c h
def Lv(o:Kp):Bool:=match o.op with|.call c=>(match c.callee with|.builtin _=>true|_=>false)|_=>true
def XO(_:Nat.blt j ops.size=true)(h:At (j+1) (wpAnyL F md ops (aR R) (λa=>X u u a) late k L (fa n f) w)):At j (wpAnyL F md ops (aR R) (λa=>X u u a) late k L (fa n f) w):=⟨h.h⟩
def XP(_:L.getD j true=false)(hi:ops[j]?=Y oi)(_:Lv oi=true)(b:oi.dst=Y d)(l:Region.wanted oi (aw ops (fa n f).tmps)=true)(hB:X u u w)
  (h:∃v,(∀w',X u u w'->(Hn (fa n f).eval oi).run F w'=.ok (.value v) w')/\At (j+1) (wpAnyL F md ops (aR R) (λa=>X u u a) late k (L.setIfInBounds j true) (fa n (ah f d v)) w))
  (e:d<n:=by omega)(i:Region.noSelect ops=true:=by kernel_rfl)(c:Region.free md ops L j=true:=by kernel_rfl)(g:(Region.ready md ops L).contains j=true:=by kernel_rfl)(hl:nN md ops late j=true:=by kernel_rfl):At j (wpAnyL F md ops (aR R) (λa=>X u u a) late (k+1) L (fa n f) w):=let⟨v,hy,h⟩:=h;⟨tV v hi b e l i c g hl hy hB h.h⟩
def XQ(_:L.getD j true=false)(hi:ops[j]?=Y oi)(b:oi.dst=Y d)(l:Region.wanted oi (aw ops (fa n f).tmps)=false)(hB:X u u w)
  (h:At (j+1) (wpAnyL F md ops (aR R) (λa=>X u u a) late k (L.setIfInBounds j true) (fa n (ah f d D)) w))
  (e:d<n:=by omega)(i:Region.noSelect ops=true:=by kernel_rfl)(c:Region.free md ops L j=true:=by kernel_rfl)(g:(Region.ready md ops L).contains j=true:=by kernel_rfl)(hl:nN md ops late j=true:=by kernel_rfl):At j (wpAnyL F md ops (aR R) (λa=>X u u a) late (k+1) L (fa n f) w):=⟨tN hi b e l i c g hl hB h.h⟩
def adc(_:Nat.blt j ops.size=true)(h:Ac (j+1) (wpAnyL F md ops (aR R) (λa=>X u u a) late k L (fa n f) w)):Ac j (wpAnyL F md ops (aR R) (λa=>X u u a) late k L (fa n f) w):=⟨h.h⟩
def Xs(fn:ba)(xs:Array ae)(a:Act)(u w:H)(p:M->H->Prop):Prop:=∃args v,xs.map a.eval=args/\(callFunc fn args).run F w=.ok (.enter fn args) w/\PH F fn args w (λe w'=>e=.returned v/\X w w w')/\∀w',X u u w'->p v w'
def XR(hi:ops[i]?=Y oi)(e:oi.op=.call {callee:=.value (.func fn),args:=xs,argTypes:=ts})(b:oi.dst=Y d)(g:Region.wanted oi (aw ops (fa n f).tmps)=true)(hB:X u u w)
  (h:Xs fn xs (fa n f) u w λv w'=>wpOps F ops Q rest (fa n (ah f d v)) w')(c:d<n:=by omega):wpOps F ops Q (i::rest) (fa n f) w:=
 let⟨_,_,ha,hf,hc,h⟩:=h;lC hi b c g (dm e ha rfl hf) hc λw' a=>h w' (hB.tn (a.mono hB.size))
def XS(_:L.getD j true=false)(hi:ops[j]?=Y oi)(g:oi.op=.call {callee:=.value (.func fn),args:=xs,argTypes:=ts})(c:oi.dst=Y d)(l:Region.wanted oi (aw ops (fa n f).tmps)=true)(hB:X u.heap.size u w)
  (h:Xs fn xs (fa n f) u w λv w'=>At (j+1) (wpAnyL F md ops (aR R) (λa=>X u.heap.size u a) late k (L.setIfInBounds j true) (fa n (ah f d v)) w'))(e:d<n:=by omega)(i:Region.ready md ops L=[j]:=by kernel_rfl):Ac j (wpAnyL F md ops (aR R) (λa=>X u.heap.size u a) late (k+1) L (fa n f) w):=
 let⟨_,_,ha,hf,hc,h⟩:=h;⟨tC i hi c e l (dm g ha rfl hf) hc λw' b=>⟨hB.tn (b.mono hB.size),(h w' (hB.tn (b.mono hB.size))).h⟩⟩
def kE(h:PH F fn args w λe w'=>e=.returned v/\w=w')(e:v=v'):PH F fn args w λe w'=>e=.returned v'/\X w w w':=h.mono λ_ _ h=>⟨e▸h.1,h.2▸X.refl _ _⟩
def kB(h:PH F fn args w λe w'=>e=.returned v/\X w w w')(e:v=v'):PH F fn args w λe w'=>e=.returned v'/\X w w w':=h.mono λ_ _ h=>⟨e▸h.1,h.2⟩
def ic(m:Nat){l:List Nat}{a:Act}(b:ops.size=m)(hl:List.range m=l)(h:wpOps F ops Q l a w):Ly.wp F (.region id ops false) Q a w:=wF (by rw[b];exact hl) h
def vB{a b:Bool}(h:a=b):M.bool a=.bool b:=h▸rfl
def vI{a b:Int}(h:a=b):M.int .i64 a=.int .i64 b:=h▸rfl
def Tn(hB:X u.heap.size u w){a:Act}(h:X u.heap.size u w.drew->At 0 (wpAnyL F .any ops Q (λb=>X u.heap.size u b) (λ_=>false) ops.size (Array.replicate ops.size false) a w.drew)):(Ly.region id ops true).wp F Q a w:=bK _ rR (h hB.drew).h
def XT{a:Act}(h:aR R .normal a w)(b:Region.ready md ops L=[]:=by kernel_rfl):Ac j (wpAnyL F md ops (aR R) (λc=>X u u c) late k L a w):=⟨cH b h k⟩
def Xt(h:Ac 0 p):At j p:=⟨h.h⟩
end
section
variable{Z:ae->M}{o:Kp}{w:H}{x y:ae}{v:M}{a c:Int}{t g i:Nat}
theorem Uw{k:Nat}{vs:Array M}(c:o.op=.extract x k)(d:Z x=.tuple vs)(a:vs[k]?=Y v):(Hn Z o).run F w=.ok (.value v) w:=by
 have b:=(ec.1 a).1;unfold Hn;simp only[c,d];simp[go_sem,b,(ec.1 a).2]
theorem Vw(b:o.op=.convert 5 3 x)(c:Z x=.int .u8 a)(h:0<=a/\a<=255)(e:yW (.int .i64 a) v):(Hn Z o).run F w=.ok (.value v) w:=by
 obtain⟨rfl⟩:=e;unfold Hn;simp only[b,c];go_simp;rw[Go.IntWalk.i64_in _ zz]
theorem XY(d:o.op=.binOp .rem 3 x y 3)(f:Z x=.int .i64 a)(g:Z y=.int .i64 c)(b:0<=a/\a<=1000)(hc:0<c/\c<=1000)(e:yW (.int .i64 (a%c)) v):(Hn Z o).run F w=.ok (.value v) w:=by
 obtain⟨rfl⟩:=e;unfold Hn;simp only[d,f,g];go_simp;rw[qVB zz,Int.tmod_eq_emod_of_nonneg b.1]
end
structure Qz(q:Prop):Prop where h:q
def Tw{p q:Prop}(d:q)(h:Qz q->p:=by intro hqq;(repeat (first|((first|refine XI rfl rfl ?_ hB ?_|refine XP rfl rfl rfl rfl ?_ hB ?_);(first|exact bY rfl|(refine eE rfl rfl ?_ ?_;omega;focus ((repeat (first|exact au _ _ _|assumption|refine Oh ?_));done)));refine⟨?_,λf e=>?_,?_⟩;rotate_left;focus ((first|refine aci (.inl rfl) ?_|refine aci (.inr rfl) ?_|(refine TH (g:=?_) (off:=?_) rfl rfl ?_ ?_;rotate_left 2)|(refine abe (g:=?_) (off:=?_) rfl rfl ?_ ?_;rotate_left 2)|(refine aa6 (r:=?_) rfl ?_ ?_;rotate_left 1)|(refine Vh (r:=?_) (q:=?_) (p:=?_) rfl ?_ ?_ ?_ ?_;rotate_left 3)|(refine Sr (a:=?_) (b:=?_) (r:=?_) rfl rfl ?_ ?_ ?_ ?_;rotate_left 3)|(refine j0 (r:=?_) rfl ?_ ?_;rotate_left 1)|(refine Vj (g:=?_) (off:=?_) (m:=?_) (cp:=?_) (k:=?_) rfl rfl ?_ ?_ ?_ ?_;rotate_left 5)|(refine SF (A:=?_) (m:=?_) (cp:=?_) rfl rfl rfl ?_ ?_;rotate_left 3)|(refine E4 (a:=?_) (b:=?_) rfl ?_ ?_ ?_ ?_;rotate_left 2)|(refine AW (a:=?_) (b:=?_) rfl ?_ ?_ ?_ ?_;rotate_left 2)|(refine gE (g:=?_) (B:=?_) rfl ?_ ?_ ?_;rotate_left 2)|(refine Vw (a:=?_) rfl ?_ ?_ ?_;rotate_left 1)|(refine XY (a:=?_) (c:=?_) rfl ?_ ?_ ?_ ?_ ?_;rotate_left 2)|(refine Uw (vs:=?_) rfl ?_ ?_;rotate_left;(focus (refine Ls ?_;(repeat (first|exact au _ _ _|assumption|refine Oh ?_));done));exact rfl));all_goals first|(refine Ls ?_;(repeat (first|exact au _ _ _|assumption|refine Oh ?_));done)|exact Tv|((first|refine(qWB rfl).tn ?_|refine(qVB Bool.false_ne_true).tn ?_);first|(refine Ls ?_;(repeat (first|exact au _ _ _|assumption|refine Oh ?_));done)|exact Tv)|assumption|(refine Eq.tn (Below.cell (B:=?_) (w:=?_) ?_ ?_) ?_;rotate_left 2;assumption;assumption;assumption)|(refine Eq.tn (Below.block (B:=?_) (w:=?_) ?_ _ ?_) ?_;rotate_left 2;assumption;assumption;assumption)|(refine dT ?_ ?_;omega;exact rfl)|(refine dF ?_ ?_;omega;exact rfl)|(unfold Sm;omega)|omega|exact vq|exact XH))|((first|refine XJ rfl rfl ?_ ?_|refine XQ rfl rfl rfl ?_ hB ?_);(focus refine jc rfl rfl ?_ ?_;omega;(repeat (first|exact au _ _ _|assumption|refine Oh ?_));done))|refine XO rfl ?_));exact hqq.h):p:=h ⟨d⟩
def rr(h:p:=by((first|(refine Tn hB ?_;intro hB)|refine ic 1 rfl rfl ?_|refine ic 2 rfl rfl ?_|refine ic 3 rfl rfl ?_|refine ic 4 rfl rfl ?_|refine ic 5 rfl rfl ?_|refine ic 6 rfl rfl ?_|refine ic 7 rfl rfl ?_|refine ic 8 rfl rfl ?_|refine ic 9 rfl rfl ?_|refine ic 14 rfl rfl ?_);refine Tw ?_;(try refine Xt ?_);(repeat (first|(((first|refine XR rfl rfl rfl ?_ hB ?_|refine XS rfl rfl rfl rfl ?_ hB ?_);(first|exact bY rfl|(refine eE rfl rfl ?_ ?_;omega;focus ((repeat (first|exact au _ _ _|assumption|refine Oh ?_));done)));refine⟨?_,?_,?_,?_,?_,λd hB=>?_⟩;rotate_left 2;(focus ((first|(refine XF (a:=?_) ?_;rotate_left 1)|(refine MJ (a:=?_) (b:=?_) ?_ ?_;rotate_left 2)|(refine MK (a:=?_) (b:=?_) (c:=?_) ?_ ?_ ?_;rotate_left 3));all_goals first|(refine Ls ?_;(repeat (first|exact au _ _ _|assumption|refine Oh ?_));done)|exact Tv));exact rfl;(first|exact hc _ hB|exact hcon _ hB|((first|refine kE (bz _ _ _ _) ?_|(refine kB (rH _ _ ?_ ?_ _) ?_;assumption;assumption)|(refine kB (rI _ _ ?_ _) ?_;assumption));(first|(refine vB (b:=?_) ?_;rotate_left;assumption)|(refine vI (b:=?_) ?_;rotate_left;assumption)|exact rfl))));refine Tw ?_;(try refine Xt ?_))|refine adc rfl ?_));(first|refine XT ?_|refine lE ?_);refine Rs.mk hB (λi hi=>?_) ?_;(focus ((repeat (refine(cu _ _ ?_).tn ?_;omega));exact rfl));(first|exact rfl|exact⟨rfl,rfl⟩|exact⟨rfl,rfl,rfl⟩|exact qYB|(simp;done)))):p:=h
def bn{x y:Ly}(u:H)(keep:Nat->Prop)(p:(Nat->M)->Prop)(h:Ly.wp F x (aR (Rs N u f keep p)) (fa N f) w)(next:∀f' w',X u u w'->(∀i,keep i->f' i=f i)->p f'->Ly.wp F y Q (fa N f') w'):Ly.wp F (.seq x y) Q (fa N f) w:=
 wp_seq (wp_mono h λe a w' d=>by
  obtain⟨rfl,f',rfl,b,h2,c⟩:=d.elim;exact next f' w' b h2 c)
def To{x:Ly}(u:H)(keep:Nat->Prop)(p:(Nat->M)->Prop)(h:Ly.wp F x (aR (Rs N u f keep p)) (fa N f) w)(next:∀f' w',X u.heap.size u w'->(∀i,keep i->f' i=f i)->p f'->Q .normal (fa N f') w'):Ly.wp F x Q (fa N f) w:=
 wp_mono h λe a w' d=>by
  obtain⟨rfl,f',rfl,b,h2,c⟩:=d.elim;exact next f' w' b h2 c
end
variable{l:List (Int×Int)}{N:Nat}{u:H}{keep:Nat->Prop}{p:(Nat->M)->Prop}{x y:Ly}{b:aC}
def Ni{n t k:Nat}{f:Nat->M}(h:t<n)(e:f t=.int .i64 k):(intOf ((fa n f).tmps.getD t D)).toNat=k:=by
 rw[Array.getD_eq_getD_getElem?,ej h,e];simp[intOf]
def Lp(N:Nat)(u:H)(f:Nat->M)(R:Int)(e:Exit)(a:Act)(w:H):Prop:=(e=.normal/\R=0/\∃f',a=fa N f'/\X u u w/\f' 1=f 1)\/(e=.ret/\R≠0/\∃f',a=fa N f'/\X u u w/\f' 2=.int .i64 R)
def TK(a4:aK u g 31 b)(a5: -1000<=b.S)(a6:b.S<=1000)(J:f 1=(g,0))(a3:g<u)(x10:u (g,10)=Y (.slice b.U.A b.U.n b.U.c))(C:Cf u b.U l)(h4:f 4=.int .i64 (0:Nat))(hB:X u u w):
  Ly.wp F (.block 0 (.loop ux)) (Lp 119 u f (nD b.S l)) (fa 119 f) w:=by
 have ø:=0;exact sT
def TL(x6:u (g,6)=Y (.int .i64 b.rf))(a9:2<=b.rf)(a':b.rf<=30)(x9:u (g,9)=Y (.int .i64 b.ch))(J:f 1=(g,0))(a3:g<u)(x11:u (g,11)=Y (.slice b.E.A b.E.n b.E.c))(C:Cf u b.E l)(h5:f 5=.int .i64 (0:Nat))(hB:X u u w):
  Ly.wp F (.block 2 (.loop uy)) (Lp 119 u f (nF b.rf b.ch l)) (fa 119 f) w:=by
 have å:=0;exact sT
def TM{l:List (Int×Int×Bool)}(a4:aK u g 31 b)(a0:b.U.n<=1000)(a5: -1000<=b.S)(a6:b.S<=1000)(J:f 1=(g,0))(a3:g<u)(x12:u (g,12)=Y (.slice b.W.A b.W.n b.W.c))(C:fL u b.W l)(h6:f 6=.int .i64 (0:Nat))(hB:X u u w):
  Ly.wp F (.block 4 (.loop Xq)) (Lp 119 u f (qi b.S b.U.n l)) (fa 119 f) w:=by
 have æ:=0;exact sT
variable{x:ae}
theorem B8{b:aC}(c:o.op=.box 31 x)(a:Z x=b.v):(Hn Z o).run F w=.ok (.value (.pointer (Y (w.heap.size,0)))) (w.alloc (aE b 31)):=by
 unfold aC.v at a;unfold Hn;simp only[c,a];unfold aE;go_simp;try rfl
def ZO{f:Nat->M}{r:Int}{w:H}(h:f 2=r):(results Tryz.f10 (fa 119 f).tmps).run F w=.ok (.int .i64 r) w:=by
 have e:(fa 119 f).tmps[2]?=Y (.int .i64 r):=by rw[ej zz,h]
 generalize(fa 119 f).tmps=A at e;unfold results Tryz.f10;simp[e]
def mm(b:aC)(l:pK)(w:H)(hl:aI w b l):
  PH F 10 #[b.v] w λe w'=>e=.returned (.int .i64 (ay b l))/\X w w w':=by
 refine gy 119 Tryz.func10 (c:=fG) rfl rfl λf a1=>?_;have f0:f 0=b.v:=a1 _;clear a1;rw[ML];refine wp_seq (wF (l:=[0,1]) rfl ?_);refine lV (d:=1) (.pointer (Y ⟨w.heap.size,0,I⟩)) rfl rfl zz wnn (B8 rfl (ag (t:=0) zz f0)) ?_;refine lV (d:=2) (.int .i64 0) rfl rfl zz wnn (aci (.inr rfl) rfl) ?_;refine lE ?_;have s:aK (w.alloc (aE b 31)) w 31 b:=Sp _ _;have A:X w w (w.alloc (aE b 31)):=(X.refl _ _).alloc (qN _) _;have a5:(w.alloc (aE b 31)).heap.size=w.heap.size+1:=aa _ _;have hl:=hl.below A;have e1:ah (ah f 1 (.pointer (Y (w.heap.size,0)))) 2 (.int .i64 0) 1=.pointer (Y (w.heap.size,0)):=rfl;generalize ah (ah f 1 (.pointer (Y ⟨w.heap.size,0,I⟩))) 2 (.int .i64 0)=f1 at e1|-;generalize w.alloc (aE b 31)=u at s A a5 hl|-;have C:(w:Nat)<u:=zz;generalize O:w.heap.size=g at e1 s C;have hB:X u u u:=X.refl _ _;have m:∀{f' w'},X u u w'->∀{r},f' 2=.int .i64 r->ay b l=r->bodyPost F Tryz.f10 (λe w'=>e=.returned (.int .i64 (ay b l))/\X g w w') .ret (fa 119 f') w':=λhB r h2 j=>by
  subst j;exact bd (v:=.int .i64 (ay b l)) (ZO h2) rfl ⟨rfl,O▸A.tn (hB.mono A.size)⟩
 obtain⟨r,j⟩:∃r,dZ b l.C=r:=⟨_,rfl⟩;have hc:=λw1 (h:X u.heap.size u w1)=>kB (Ic b l.C w1 (hl.C.below h)) (vI j);refine wp_seq (bn u (λi=>i<7/\i≠3) (λf'=>f' 3=.int .i64 r) rr λf2 w2 hB k2 q2=>?_);have e1:=(k2 1 zz).tn e1;clear hc;cases J:(r != 0);rotate_left
 .refine bn u (· < 7) (λf'=>f' 10=.bool true) rr λf3 U hB o n=>wp_cond_true (ag zz n) ?_;have e3:=(o 3 zz).tn q2;refine bn u (λi=>i<7/\i≠2) (λf'=>f' 2=.int .i64 r) rr λV w4 hB Q y=>wp_ret ?_;refine m hB y ?_;have B:r≠0:=by simpa using J
  rw[<- j]at B|-;unfold dZ at B|-;unfold ay;split
  .rfl
  .rename_i O;rw[qVB O]at B;rw[qWB B]
 .have a4:r=0:=by simpa using J
  refine bn u (· < 7) (λf'=>f' 10=.bool false) rr λf3 U hB o n=>wp_cond_false (ag zz n) (wp_skip ?_);have e1:=(o 1 zz).tn e1;rw[a4]at j;clear k2 o q2 n J;have P:Iv b l.C=0:=by
   by_cases h:Iv b l.C=0
   .exact h
   .unfold dZ at j;rw[qWB h]at j;exact mi j h
  have Z:cZ b=0:=by unfold dZ at j;rw[qVB (by simp[P])]at j;exact j
  obtain⟨t1,t2,t3,t4,t5,t6,t7,t8,t9,b3,b4⟩:=cS P;obtain⟨u1,u2,u3,u4,u5,u6,u7,u8,u9⟩:=wL Z;have HK:ay b l=if fH b.S l.U≠0 then fH b.S l.U else if fT b.rf b.ch l.E≠0 then fT b.rf b.ch l.E else ki b.S l.U.length l.W:=by
   rw[ay,qVB (by simp[P]),qVB (by simp[Z])]
  obtain⟨x0,x1,x2,x3,x4,x5,x6,x7,x8,x9,a6,a7,a8⟩:=aM s;have N:b.U.n=l.U.length:=hl.U.1;have a0:l.U.length<=1000:=hl.U.2.2.1;have a':b.E.n=l.E.length:=hl.E.1;have b2:b.W.n=l.W.length:=hl.W.1;refine wp_seq ?_;cases hF:ax (b.U.n:Nat) 1 4
  .refine bn u (· < 7) (λf'=>f' 16=.bool true) rr λf3 U hB o n=>wp_cond_true (ag zz n) ?_;refine bn u (λi=>i<7/\i≠2) (λf'=>f' 2=.int .i64 2) rr λV w4 hB Q y=>wp_ret (m hB y ?_);have:fH b.S l.U=2:=by rw[fH,<- N,qVB (by simp[hF])]
   rw[HK,this];rfl
  .refine bn u (· < 7) (λf'=>f' 16=.bool false) rr λf3 U hB o n=>wp_cond_false (ag zz n) (wp_skip ?_);have e1:=(o 1 zz).tn e1;have a2:fH b.S l.U=nD b.S l.U:=by rw[fH,<- N,qWB hF]
   rw[a2]at HK;refine wp_seq (bn u (λi=>i<7/\i≠4) (λf'=>f' 4=.int .i64 0) rr λV w4 hB Q y=>?_);have e1:=(Q 1 zz).tn e1;refine wp_mono (TK s zz zz e1 C a6 hl.U y hB) λe a w5 x=>?_;rcases x with⟨rfl,K,f5,rfl,hB,R⟩|⟨rfl,K,f5,rfl,hB,R⟩;rotate_left
   .exact m hB R (by rw[HK,qWB K])
   have e1:=R.tn e1;rw[qVB (by simp[K])]at HK;refine wp_seq ?_;by_cases a9:3<b.E.n
   .refine bn u (· < 7) (λf'=>f' 44=.bool true) rr λf6 w6 hB k6 S=>wp_cond_true (ag zz S) ?_;refine bn u (λi=>i<7/\i≠2) (λf'=>f' 2=.int .i64 2) rr λz E hB p k=>wp_ret (m hB k ?_);have:fT b.rf b.ch l.E=2:=by rw[fT,qWB zz]
    rw[HK,this];rfl
   .refine bn u (· < 7) (λf'=>f' 44=.bool false) rr λf6 w6 hB k6 S=>wp_cond_false (ag zz S) (wp_skip ?_);have e1:=(k6 1 zz).tn e1;have a3:fT b.rf b.ch l.E=nF b.rf b.ch l.E:=by rw[fT,qVB zz]
    rw[a3]at HK;refine wp_seq (bn u (λi=>i<7/\i≠5) (λf'=>f' 5=.int .i64 0) rr λz E hB p k=>?_);have e1:=(p 1 zz).tn e1;refine wp_mono (TL x6 zz zz x9 e1 C a7 hl.E k hB) λe a w8 x=>?_;rcases x with⟨rfl,L,G,rfl,hB,q⟩|⟨rfl,L,G,rfl,hB,q⟩;rotate_left
    .exact m hB q (by rw[HK,qWB L])
    have e1:=q.tn e1;rw[qVB (by simp[L])]at HK;refine wp_seq ?_;by_cases b1:4<b.W.n
    .refine bn u (· < 7) (λf'=>f' 91=.bool true) rr λf9 w9 hB k9 T=>wp_cond_true (ag zz T) ?_;refine bn u (λi=>i<7/\i≠2) (λf'=>f' 2=.int .i64 2) rr λz E hB p k=>wp_ret (m hB k ?_);rw[HK,ki,qWB zz]
    .refine bn u (· < 7) (λf'=>f' 91=.bool false) rr λf9 w9 hB k9 T=>wp_cond_false (ag zz T) (wp_skip ?_);have e1:=(k9 1 zz).tn e1;rw[ki,qVB zz,<- N]at HK;refine wp_seq (bn u (λi=>i<7/\i≠6) (λf'=>f' 6=.int .i64 0) rr λz E hB p k=>?_);have e1:=(p 1 zz).tn e1;refine wp_mono (TM s zz zz zz e1 C a8 hl.W k hB) λe a w8 x=>?_;rcases x with⟨rfl,W,G,rfl,hB,q⟩|⟨rfl,W,G,rfl,hB,q⟩;rotate_left
     .exact m hB q HK
     refine bn u (λi=>i<7/\i≠2) (λf'=>f' 2=.int .i64 0) rr λz E hB p k=>wp_ret (m hB k ?_);rw[HK,W]
variable{B:Nat}{p:Prop}{L:List Int}{y:ae}{c:Int}{v0 v1 u v':M}
def VC{g i:Nat}{c:Array M}{t:Lk}(h:w.heap[g]?=Y (.cells c t (0,0))):w.frozen? (g,i)=false:=by
 unfold H.frozen?;rw[h];simp
def pL(h:p:=by first|(refine Ls ?_;(repeat (first|exact au _ _ _|assumption|refine Oh ?_));done)|exact rfl):p:=h
def QA(h:p:=by(repeat (refine(cu _ _ ?_).tn ?_;omega));exact rfl):p:=h
def ES(w:H)(B:Nat)(v:M)(L:List Int):Prop:=∃A c,v=.slice A L.length c/\w.ownsRow B 3 1 (.slice A L.length c) L.length (L.map (M.int .i64))
def ab9(h:w.ownsRow B 3 1 v L.length (L.map (M.int .i64))):ES w B v L:=by
 obtain⟨A,c,rfl⟩:=tK h;exact⟨A,c,rfl,h⟩
def ES.up(h:ES w B v L)(a:X w w w'):ES w' B v L:=let⟨A,c,h1,h2⟩:=h;⟨A,c,h1,rK h2 a⟩
def ES.ints(h:ES w B v L)(a:L.length<=1000):∃s:Sl,v=.slice s.A s.n s.c/\eC w s L:=by
 obtain⟨A,c,rfl,h2⟩:=h;exact⟨⟨A,L.length,c⟩,rfl,Jf h2 rfl a⟩
theorem ab5(a:o.op=.alloc 23):(Hn Z o).run F w=.ok (.value (.pointer (Y (w.heap.size,0)))) (w.alloc (.cells #[.int .i64 0,.int .i64 0] 23)):=by
 unfold Hn;simp only[a];go_simp;try rfl
theorem ab6(b:o.op=.store 23 x y)(d:Z x=.pointer (Y (g,0)))(e:Z y=.agg #[.int .i64 a,.int .i64 c])(h:w.heap[g]?=Y (.cells #[v0,v1] 23 (0,0))):(Hn Z o).run F w=.ok .skip ((w.setCell (g,0) (.int .i64 a)).setCell (g,1) (.int .i64 c)):=by
 obtain⟨c0,f⟩:=kV h;have f0:w.frozen? (g,0)=false:=VC h;have i:w.frozen? (g,1)=false:=VC h;unfold Hn;simp only[b,d,e];go_simp
def Rn(w:H)(p:List Int×Int)(v:M)(w':H):Prop:=∃A c,v=.tuple #[.slice A p.1.length c,.int .i64 p.2]/\w'.ownsRow w.heap.size 3 1 (.slice A p.1.length c) p.1.length (p.1.map (M.int .i64))/\X w w w'
def wgg{ops:Array Kp}{oi:Kp}{j n g:Nat}{t:Bool}{f:Nat->M}(b:oi.guard=Y (j,t))(c:(ops[j]?).bind (·.dst)=Y g)(a:f g=.bool t)(d:g<n:=by omega):Region.wanted oi (aw ops (fa n f).tmps)=true:=eE b c d a
def lcw{c p q:Prop}(hc:c)(b:q)(k:Qz c->Qz q->p:=by(intro a hqq;refine lC rfl rfl zz (wgg rfl rfl rfl) (dm rfl (by first|exact MJ pL pL|exact MJ pL (Ls rfl)) rfl rfl) a.h λd e=>?_;subst d;refine Tw ?_;exact hqq.h)):p:=k ⟨hc⟩ ⟨b⟩
def M0(h:p:=by(repeat (first|assumption|(apply Eq.tn;(apply_assumption -symm -exfalso<;>omega))))):p:=h
def blk{o:Obj}(h:w.heap[g]?=Y o)(a:X w w w'):w'.heap[g]?=Y o:=(a.block _ (ec.1 h).1).tn h
def rmq(h:p:=by(repeat (first|assumption|(apply ES.up;rotate_left;assumption)|(apply blk;rotate_left;assumption)))):p:=h
def aaK{x y:Ly}{R:Act->H->Prop}{a:Act}{Q0 Q1:Act->H->Prop}(h:Ly.wp F x (aR R) a w)(next:∀b w',R b w'->nA F y Q0 Q1 b w'):nA F (.seq x y) Q0 Q1 a w:=
 mG (wp_mono h λe a w' c=>by
  obtain⟨rfl,h⟩:=c.elim;exact⟨rfl,next a w' h⟩)
theorem Qt(b:aC)(w:H)(f:mX b=true):
  PH F 4 #[b.v] w λe w'=>e=.returned (.bool false)/\X w w w':=by
 have a:=λd=>ME b d;simp only[f]at a;unfold aC.v at a|-;go_enter Tryz.func4,Tryz.ntmps4;go_wp2_with (go_at_call 9;refine(a _).mono ?_;rintro e d ⟨rfl,c⟩;obtain⟨g,h⟩:=aU c);go_ret;exact⟨rfl,di c⟩
theorem Qu(b:aC)(l:pK)(w:H)(j:mX b=false)(hl:aI w b l):
  PH F 4 #[b.v] w λe w'=>e=.returned (.bool (ay b l==0))/\X w w w':=by
 have h:=Hm hl;have d:=λa=>ME b a;have f:=λa (i:aI a b l)=>mm b l a i;simp only[j]at d;generalize ay b l=r at f|-;unfold aC.v at d f|-;go_enter Tryz.func4,Tryz.ntmps4;go_wp2_with (first|(go_at_call 9;refine(d _).mono ?_;rintro e a ⟨rfl,c⟩;obtain⟨k,n⟩:=aU c)|(go_at_call 10;refine(f _ ((aq h.out _).below c)).mono ?_;rintro e p ⟨rfl,g⟩;obtain⟨m,o⟩:=aU g));go_ret;exact⟨rfl,di (c.tn (g.mono c.size))⟩
open Go.Conc
def QC:Ly:=match Tryz.f3.body with|some c=>c|_=>.skip
def adb:Array Kp:=br [0] QC
def acG:Array Kp:=br [1,0,0] QC
def aaM:Array Kp:=br [1,0,1,4,0] QC
def ade:Array Kp:=br [1,1,0] QC
def adf:Array Kp:=br [1,1,1,0] QC
def adg:Array Kp:=br [1,1,1,1,0] QC
def adh:Array Kp:=br [1,1,1,1,1,0] QC
def adj:Array Kp:=br [1,1,1,1,1,1,0] QC
def adk:Array Kp:=br [1,1,1,1,1,1,1,0] QC
def adl:Array Kp:=br [1,1,1,1,1,1,1,1,0,0] QC
def Tp:Array Kp:=br [1,1,1,1,1,1,1,1,1,0] QC
def JG:Ly:=match Tryz.f8.body with|some c=>c|_=>.skip
def adm:Array Kp:=br [0] JG
def adn:Array Kp:=br [1,0] JG
def ado:Array Kp:=br [1,1,0] JG
def adp:Array Kp:=br [1,1,1,0] JG
def adq:Array Kp:=br [1,1,1,1,0] JG
def adr:Array Kp:=br [1,1,1,1,1,0] JG
def ads:Array Kp:=br [1,1,1,1,1,1,0] JG
def adt:Array Kp:=br [1,1,1,1,1,1,1,0,0] JG
def adu:Array Kp:=br [1,1,1,1,1,1,1,1,0] JG
def acM:Array Kp:=br [1,1,1,1,1,1,1,1,1,0] JG
def acN:Array Kp:=br [1,1,1,1,1,1,1,1,1,1,0] JG
def acO:Array Kp:=br [1,1,1,1,1,1,1,1,1,1,1,0] JG
def acP:Array Kp:=br [1,1,1,1,1,1,1,1,1,1,1,1,0] JG
def acQ:Array Kp:=br [1,1,1,1,1,1,1,1,1,1,1,1,1,0] JG
def acS:Array Kp:=br [1,1,1,1,1,1,1,1,1,1,1,1,1,1,0,0] JG
def acT:Array Kp:=br [1,1,1,1,1,1,1,1,1,1,1,1,1,1,1,0] JG
def acU:Array Kp:=br [1,1,1,1,1,1,1,1,1,1,1,1,1,1,1,1,0] JG
def ZJ:Array Kp:=br [1,1,1,1,1,1,1,1,1,1,1,1,1,1,1,1,1,0] JG
def aaj:Array Kp:=br [1,1,1,1,1,1,1,1,1,1,1,1,1,1,1,1,1,1,0] JG
def acV:Array Kp:=br [1,1,1,1,1,1,1,1,1,1,1,1,1,1,1,1,1,1,1,0] JG
variable{w0:H}{b':aC}{l l':pK}{at_ i:Int}{f':Nat->M}
structure Bt(w0:H)(b:aC)(l:pK)(b':aC)(l':pK)(at_ i:Int)(f:Nat->M)(w:H):Prop where
 low:X w0 w0 w
 bx:aK w w0.heap.size 31 b
 bx':aK w (w0.heap.size+1) 31 b'
 bk:aI w b l
 bk':aI w b' l'
 ck:aD w
 e2:f 2=at_
 e3:f 3=i
 e4:f 4=(w0.heap.size,0)
 e5:f 5=(w0.heap.size+1,0)
def Bw(w:H)(f:Nat->M)(keep:Nat->Prop)(p:(Nat->M)->H->Prop)(a:Act)(w':H):Prop:=∃f',a=fa 253 f'/\X w w w'/\(∀j,keep j->f' j=f j)/\p f' w'
abbrev LbN(k:Nat)(ops:Array Kp)(w:H)(f:Nat->M)(keep:Nat->Prop)(p:(Nat->M)->H->Prop):Prop:=Ly.wp F (.region k ops false) (aR (Bw w f keep p)) (fa 253 f) w
abbrev LbR(k:Nat)(ops:Array Kp)(w:H)(f:Nat->M)(keep:Nat->Prop)(p:(Nat->M)->Prop):Prop:=Ly.wp F (.region k ops false) (aR (Rs 253 w f keep p)) (fa 253 f) w
def Bt.go(h:Bt w0 b l b' l' at_ i f w)(hB:X w w w')(k:∀j,j<6->f' j=f j):Bt w0 b l b' l' at_ i f' w':=
 ⟨h.low.tn (hB.mono h.low.size),(hB.block _ h.bx.lt).tn h.bx,(hB.block _ h.bx'.lt).tn h.bx',h.bk.below hB,h.bk'.below hB,h.ck.below hB,(k 2 zz).tn h.e2,(k 3 zz).tn h.e3,(k 4 zz).tn h.e4,(k 5 zz).tn h.e5⟩
def Bt.all(h:Bt w0 b l b' l' at_ i f w):X w w w/\(w0:Nat)<w/\(w0:Nat)+1<w:=⟨X.refl _ _,h.bx.lt,h.bx'.lt⟩
def Bt.row{v:M}{L:List Int}(h:Bt w0 b l b' l' at_ i f w)(a:w'.ownsRow w 3 1 v L.length (L.map (M.int .i64))):ES w' w0 v L:=ab9 (dy (q5A h.bx.lt) a)
def btq{c p:Prop}(hc:c)(q:Qz c->p:=by(intro hqq;have hcon:=hqq.h;obtain⟨hB,f,g⟩:=h.all;have i:=h.bx;have j:=h.bx';have a:=h.e2;have b:=h.e3;have d:=h.e4;have e:=h.e5;exact rr)):p:=q ⟨hc⟩
def btr{P:Program}{fn:FuncId}{args:Array Value}{E:Value->World->Prop}{p q:Prop}(hc:Calls P fn args w λe w'=>∃v,e=.returned v/\E v w')(b:q)(k:Qz (Calls P fn args w λe w'=>∃v,e=.returned v/\E v w')->Qz q->p:=by(intro a hqq;obtain⟨hB,i,j⟩:=h.all;have l:=h.bx;have m:=h.bx';have c:=h.e2;have d:=h.e3;have f:=h.e4;have g:=h.e5;(first|refine ic 7 rfl rfl ?_|refine ic 9 rfl rfl ?_|refine ic 10 rfl rfl ?_);refine Tw ?_;refine lR rfl rfl zz wnn (dm rfl (by first|exact XF pL|exact MJ pL pL) rfl rfl) a.h ?_;exact hqq.h)):p:=k ⟨hc⟩ ⟨b⟩
def adO{w:H}{b b':aC}{l l':pK}{at_ i:Int}{f:Nat->M}(hl:aI w b l)(h:aI w b' l')(e:aD w)(e0:f 0=b.v)(e1:f 1=b'.v)(c:f 2=at_)(d:f 3=i):
  LbN 0 adm w f (λ_=>True->False) λf' w'=>Bt w b l b' l' at_ i f' w':=by
 refine wF rfl ?_;refine lV _ rfl rfl zz wnn (B8 rfl (Ls e0)) ?_;refine lV _ rfl rfl zz wnn (B8 rfl (Ls (nt e1))) ?_;refine lV _ rfl rfl zz wnn (aci (.inr rfl) pL) ?_;have hB:X w w (w.alloc (aE b 31)):=(X.refl _ _).alloc (qN _) _;have a:=hB.alloc hB.size (aE b' 31);exact lE ⟨_,rfl,a,λj g=>(g qYB).elim,a,(QR _ _ ss).tn (Sp _ _),by have:=Sp (w.alloc (aE b 31)) (aE b' 31);rw[aa]at this;exact this,hl.below a,h.below a,e.below a,nt (nt (nt c)),nt (nt (nt d)),rfl,by rw[aa];rfl⟩
def adP(h:Bt w0 b l b' l' at_ i f w)(hc:ay b l=0):LbR 1 adn w f (λj=>j<33/\j≠9/\j≠10) λf'=>f' 9=.int .i64 (oK b l).1/\f' 10=.int .i64 (oK b l).2:=btq λc a=>vG b l c (h.bk.below a) (h.ck.below a) hc
def adQ(h:Bt w0 b l b' l' at_ i f w)(hc:ay b' l'=0):LbR 2 ado w f (λj=>j<33/\j≠11/\j≠12) λf'=>f' 11=.int .i64 (oK b' l').1/\f' 12=.int .i64 (oK b' l').2:=btq λc a=>vG b' l' c (h.bk'.below a) (h.ck.below a) hc
def adR(h:Bt w0 b l b' l' at_ i f w)(d:cP b l true=0):LbN 3 adp w f (λj=>j<33/\j≠13/\j≠14) λf' w'=>f' 14=.int .i64 (iM b l).2/\ES w' w0 (f' 13) (iM b l).1:=by
 have æ:=0;exact xt
def adS(h:Bt w0 b l b' l' at_ i f w)(d:cP b' l' true=0):LbN 4 adq w f (λj=>j<33/\j≠15/\j≠16) λf' w'=>f' 16=.int .i64 (iM b' l').2/\ES w' w0 (f' 15) (iM b' l').1:=xt
def adT(h:Bt w0 b l b' l' at_ i f w)(c:cP b l (ax i 0 (b.S-1))=0):LbR 5 adr w f (λj=>j<33/\j≠17/\j≠18) λf'=>f' 17=.int .i64 (vH b l i).1/\f' 18=.int .i64 (vH b l i).2:=btq λd a=>Lr b l i d (h.bk.below a) (h.ck.below a) c
def adU(h:Bt w0 b l b' l' at_ i f w)(c:cP b' l' (ax i 0 (b'.S-1))=0):LbR 6 ads w f (λj=>j<33/\j≠19/\j≠20) λf'=>f' 19=.int .i64 (vH b' l' i).1/\f' 20=.int .i64 (vH b' l' i).2:=btq λd a=>Lr b' l' i d (h.bk'.below a) (h.ck.below a) c
def adV(h:Bt w0 b l b' l' at_ i f w)(c:cP b l (mW b at_ i)=0):LbR 9 adu w f (λj=>j<33/\j≠17/\j≠10) λf'=>f' 17=.int .i64 (oQ b l at_ i).1/\f' 10=.int .i64 (oQ b l at_ i).2:=btq λd a=>ya b l at_ i d (h.bk.below a) (h.ck.below a) c
def adw(h:Bt w0 b l b' l' at_ i f w)(c:cP b' l' (mW b' at_ i)=0):LbR 10 acM w f (λj=>j<33/\j≠19/\j≠12) λf'=>f' 19=.int .i64 (oQ b' l' at_ i).1/\f' 12=.int .i64 (oQ b' l' at_ i).2:=btq λd a=>ya b' l' at_ i d (h.bk'.below a) (h.ck.below a) c
def adx(h:Bt w0 b l b' l' at_ i f w)(k:cP b l (ax at_ 0 (b.U.n-1))=0):LbN 11 acN w f (λj=>j<33/\j≠21/\j≠22/\j≠14) λf' w'=>f' 14=.int .i64 (DF b l at_).2.2/\ES w' w0 (f' 21) (DF b l at_).1:=by
 have ø:=0;exact xz
def ady(h:Bt w0 b l b' l' at_ i f w)(k:cP b' l' (ax at_ 0 (b'.U.n-1))=0):LbN 12 acO w f (λj=>j<33/\j≠23/\j≠24/\j≠16) λf' w'=>f' 16=.int .i64 (DF b' l' at_).2.2/\ES w' w0 (f' 23) (DF b' l' at_).1:=xz
def adz(h:Bt w0 b l b' l' at_ i f w)(d:cP b l true=0):LbN 13 acP w f (λj=>j<33/\j≠25/\j≠18) λf' w'=>f' 18=.int .i64 (qq b l).2/\ES w' w0 (f' 25) (qq b l).1:=by
 have ø:=0;exact xt
def adA(h:Bt w0 b l b' l' at_ i f w)(d:cP b' l' true=0):LbN 14 acQ w f (λj=>j<33/\j≠26/\j≠20) λf' w'=>f' 20=.int .i64 (qq b' l').2/\ES w' w0 (f' 26) (qq b' l').1:=by
 have å:=0;exact xt
def adB(h:Bt w0 b l b' l' at_ i f w)(d:cP b l (ax i 0 (b.S-1))=0):LbN 17 acT w f (λj=>j<33/\j≠27/\j≠10) λf' w'=>∃g,f' 10=.int .i64 (qs b l i).2/\f' 27=.pointer (Y (g,0))/\w0.heap.size<=g/\w'.heap[g]?=Y (.cells #[.int .i64 (qs b l i).1.1,.int .i64 (qs b l i).1.2] 23 (0,0)):=by
 have ø:=0;exact lz
def adC(h:Bt w0 b l b' l' at_ i f w)(d:cP b' l' (ax i 0 (b'.S-1))=0):LbN 18 acU w f (λj=>j<33/\j≠28/\j≠12) λf' w'=>∃g,f' 12=.int .i64 (qs b' l' i).2/\f' 28=.pointer (Y (g,0))/\w0.heap.size<=g/\w'.heap[g]?=Y (.cells #[.int .i64 (qs b' l' i).1.1,.int .i64 (qs b' l' i).1.2] 23 (0,0)):=lz
def adW{m n u v:Int}{s13 s15:Sl}{X Y:List Int}(h:Bt w0 b l b' l' at_ i f w)(R:f 9=n)(s:f 10=(0:Int))(J:f 11=m)(t:f 12=(0:Int))(y:f 14=(0:Int))(z:f 16=(0:Int))(B:f 18=(0:Int))(E:f 20=(0:Int))(hm:1<=m/\m<=n)(K:f 13=.slice s13.A s13.n s13.c)(h13:eC w s13 X)(L:f 15=.slice s15.A s15.n s15.c)(h15:eC w s15 Y)(g:(Y.all λx=>decide (x∈X))=true)(A:f 17=u)(C:f 19=v)(r:u=0\/u=v):
  LbR 7 adt w f (λj=>j<33) λf'=>f' 107=.bool false:=by
 have ø:=0;exact vC
def adD{u v:Int}{s21 s23 s25 s26:Sl}{X Y Z T:List Int}(h:Bt w0 b l b' l' at_ i f w)(s:f 10=(0:Int))(t:f 12=(0:Int))(y:f 14=(0:Int))(z:f 16=(0:Int))(B:f 18=(0:Int))(E:f 20=(0:Int))(A:f 17=u)(C:f 19=v)(r:u=0\/u=v)(N:f 21=.slice s21.A s21.n s21.c)(h21:eC w s21 X)(O:f 23=.slice s23.A s23.n s23.c)(h23:eC w s23 Y)(g:(X.all λx=>decide (x∈Y))=true)(P:f 25=.slice s25.A s25.n s25.c)(h25:eC w s25 Z)(Q:f 26=.slice s26.A s26.n s26.c)(h26:eC w s26 T)(hZ:(Z.all λx=>decide (x∈T))=true):
  LbR 15 acS w f (λj=>j<33) λf'=>f' 188=.bool false:=vC
def lw(b:aC)(l:pK)(p:Nat)(h:Nat):Int:=lY (assoc (fN b l) ((h:Int),(p:Int))) (aJ b l b.D.toNat).length
def M1{f:Nat->Bool}{S:Nat}{n:Int}:n∈ie f S↔∃i:Nat,n=i/\i<S/\f i=true:=by
 unfold ie;rw[List.mem_map];constructor
 .rintro⟨i,hi,rfl⟩;exact⟨i,rfl,List.mem_range.1 (List.mem_filter.1 hi).1,(List.mem_filter.1 hi).2⟩
 .rintro⟨i,rfl,a,h2⟩;exact⟨i,List.mem_filter.2 ⟨List.mem_range.2 a,h2⟩,rfl⟩
def Xu(b:aC)(l:pK)(p:Nat){y c:Int}:∀(L:List (Int×(Nat->Bool))) (z:Int×Int),(∀x∈L,y<=pF b l x p l.U.length/\(pF b l x p l.U.length:Int)<=c)->y<=z.1->z.2<=c->y<=(yc b l p z L).1/\(yc b l p z L).2<=c/\(yc b l p z L).1<=z.1/\z.2<=(yc b l p z L).2/\∀x∈L,(yc b l p z L).1<=pF b l x p l.U.length/\(pF b l x p l.U.length:Int)<=(yc b l p z L).2
 | [],z,_,f,h2=>⟨f,h2,Int.le_refl _,Int.le_refl _,λx d=>by simp at d⟩
 | a::r,z,h,f,h2=>by
  have n:=h a ss;obtain⟨g,i,j,k,m⟩:=Xu b l p r (min z.1 (pF b l a p l.U.length:Nat),max z.2 (pF b l a p l.U.length:Nat)) (λx d=>h x (by simp[d])) (by dsimp only;omega) (by dsimp only;omega);have e:yc b l p z (a::r)=yc b l p (min z.1 (pF b l a p l.U.length:Nat),max z.2 (pF b l a p l.U.length:Nat)) r:=rfl;rw[e];dsimp only at j k;refine⟨g,i,zz,zz,λx d=>?_⟩;rcases dq.1 d with rfl|d
  .exact⟨zz,zz⟩
  .exact m x d
section
variable{X Y:List (Int×(Nat->Bool))}{zs:List Int}{x:Int}
section
variable{b b':aC}{l l':pK}
structure Sub(b:aC)(l:pK)(b':aC)(l':pK):Prop where
 hc:ay b l=0
 hc':ay b' l'=0
 S:b'.S=b.S
 L:b'.L=b.L
 U:l'.U=l.U
 n:b.U.n=l.U.length
 n':b'.U.n=l.U.length
 len:l.U.length<=1000
 ne:aJ b' l' b'.D.toNat≠[]
 le:(aJ b' l' b'.D.toNat).length<=(aJ b l b.D.toNat).length
 sub:∀x∈aJ b' l' b'.D.toNat,x∈aJ b l b.D.toNat
def aaN{f:Int×(Nat->Bool)->Bool}(h:Y≠[])(b:∀x∈Y,x∈X):lY (oP f X) X.length=0\/lY (oP f X) X.length=lY (oP f Y) Y.length:=by
 have l:=List.length_pos_iff.2 h;have k:0<X.length:=List.length_pos_iff.2 λe=>by
  obtain⟨a,j⟩:=List.exists_mem_of_ne_nil Y h;have:=b a j;rw[e]at this;cases this
 unfold lY oP;by_cases d:(X.filter f).length=X.length
 .have h2:(Y.filter f).length=Y.length:=List.length_filter_eq_length_iff.2 λx c=>List.length_filter_eq_length_iff.1 d x (b x c);right;rw[d,h2,qWB rfl,qWB rfl]
 .by_cases g:(X.filter f).length=0
  .have i:(Y.filter f).length=0:=List.length_eq_zero_iff.2 (List.filter_eq_nil_iff.2 λx c=>List.filter_eq_nil_iff.1 (List.length_eq_zero_iff.1 g) x (b x c));right;rw[g,i,qVB (show¬((0:Nat):Int)=(X.length:Int) by omega),qVB (show¬((0:Nat):Int)=(Y.length:Int) by omega)]
  .left;rw[qVB zz,qVB zz]
def abh(h:x∈Lib.compact zs):x∈zs:=by
 obtain⟨i,hi,rfl⟩:=List.mem_map.1 h;have:=List.mem_range.1 (List.mem_filter.1 hi).1;simp[this]
def abc(h:x∈zs):x∈Lib.compact zs:=by
 have key:∀i,i<zs.length->zs.toArray[i]! ∈ Lib.compact zs:=λi=>by
  induction i with
  | zero=>exactλhi=>List.mem_map.2 ⟨0,List.mem_filter.2 ⟨List.mem_range.2 hi,Lib.keeps_lt_one _ 0 zz⟩,rfl⟩
  | succ i a=>
   intro hi;by_cases e:zs.toArray[i+1]! = zs.toArray[i]!
   .rw[e];exact a zz
   .exact List.mem_map.2 ⟨i+1,List.mem_filter.2 ⟨List.mem_range.2 hi,Lib.keeps_pos e⟩,rfl⟩
 obtain⟨i,hi,rfl⟩:=List.getElem_of_mem h;have:=key i hi;simpa[hi]using this
def abX(a:∀x∈Y,x∈X):(uN Y).all (λx=>decide (x∈uN X))=true:=by
 rw[List.all_eq_true];intro x b;rw[decide_eq_true_iff];obtain⟨y,c,rfl⟩:=List.mem_map.1 (List.mem_mergeSort.1 (abh b));exact abc (List.mem_mergeSort.2 (List.mem_map.2 ⟨y,a y c,rfl⟩))
def abq{f g:Nat->Bool}{S:Nat}(h:∀n,n<S->f n=true->g n=true):(ie f S).all (λx=>decide (x∈ie g S))=true:=by
 rw[List.all_eq_true];intro x c;obtain⟨n,rfl,a,b⟩:=M1.1 c;exact decide_eq_true (M1.2 ⟨n,rfl,a,h n a b⟩)
structure acn(b:aC)(l:pK)(b':aC)(l':pK)(p at_:Nat):Prop where
 st:(1:Int)<=(aJ b' l' b'.D.toNat).length/\((aJ b' l' b'.D.toNat).length:Int)<=(aJ b l b.D.toNat).length
 sh:((iM b' l').1.all λx=>decide (x∈(iM b l).1))=true
 pa:(vH b l p).1=0\/(vH b l p).1=(vH b' l' p).1
 li:(oQ b l at_ p).1=0\/(oQ b l at_ p).1=(oQ b' l' at_ p).1
 su:((DF b l at_).1.all λx=>decide (x∈(DF b' l' at_).1))=true
 da:((qq b l).1.all λx=>decide (x∈(qq b' l').1))=true
 ho:(qs b l p).1.1<=(qs b' l' p).1.1/\(qs b' l' p).1.1<=(qs b' l' p).1.2/\(qs b' l' p).1.2<=(qs b l p).1.2
 be:(o5 b l).2<=(o5 b' l').2
def XG(h:Sub b l b' l'){p at_:Nat}(a9:(p:Int)<b.S)(G:at_<l.U.length):acn b l b' l' p at_:=by
 have å:=0;exact vz
end
end
def abf{k k':Nat}(h:k<=k'):∃R,aJ b l k'=aJ b l k++R:=by
 unfold aJ gT tP;rw[show k'+1-0=(k+1-0)+(k'-k) by omega,<- List.range'_append_1,List.flatMap_append,qBB];exact⟨_,rfl⟩
def room{S:Nat}{lo hi:Int}{C:List Int}:∀(k:Nat) (d:Nat->Bool) (step:Nat),∀x∈jW S lo hi C k d step,k<=((List.range' step (S-step)).filter λn:Nat=> !decide ((n:Int)∈C)).length
 | 0,_,_,_,_=>qT _
 | k+1,d,step,x,a=>by
  rw[jW]at a;obtain⟨n,b,a⟩:=List.mem_flatMap.1 a;have b:=List.mem_range'_1.1 b;split at a
  .cases a
  .rename_i c;have e:=room k (Bp d n) (n+1) x a;rw[show S-step=(n-step)+((S-(n+1))+1) by omega,<- List.range'_append_1,show step+(n-step)=n by omega,List.range'_succ,qBB,kl,List.filter_cons_of_pos (by simpa using c),ed];omega
def ab7(hc:ay b l=0){k:Nat}{x:Int×(Nat->Bool)}(d:x∈jW b.S.toNat b.lo b.hi l.C k mI 0):k<=b.S.toNat-l.C.length:=by
 have h:=room k mI 0 x d;have m:=(cS (bP hc).1).1;obtain⟨g,i⟩:=Yp (cS (bP hc).1).2.2.2.2.2.2.2.2.2.2;have:=Yq b.S.toNat (l.C++((List.range' 0 (b.S.toNat-0)).filter λn:Nat=> !decide ((n:Int)∈l.C)).map λn:Nat=>(n:Int)) (by
  rw[List.nodup_append];refine⟨i.imp λh=>zz,?_,λa j c hc e=>?_⟩
  .have:((List.range' 0 (b.S.toNat-0)).filter λn:Nat=> !decide ((n:Int)∈l.C)).Nodup:=(List.nodup_range' (step:=1)).filter _;exact List.Pairwise.map _ (λa c h=>by intro e;exact h zz) this
  .subst e;obtain⟨n,f,rfl⟩:=List.mem_map.1 hc;have:=(List.mem_filter.1 f).2;simp[j]at this) λx d=>by
  rcases nm.1 d with d|d
  .have:=g x d;omega
  .obtain⟨n,f,rfl⟩:=List.mem_map.1 d;have:=List.mem_range'_1.1 (List.mem_filter.1 f).1;omega
 rw[kl,lj]at this;omega
def acv(hc:ay b l=0):aJ b l b.D.toNat≠[]↔∃y,WE b l=Y y/\((ie y.2 12).length:Int)<=b.D:=by
 obtain⟨j,m,n,-⟩:=cS (bP hc).1;constructor
 .intro h;obtain⟨x,d⟩:=List.exists_mem_of_ne_nil _ h;obtain⟨a,f⟩:=List.mem_filter.1 d;unfold gT tP at a;obtain⟨k,hk,d⟩:=List.mem_flatMap.1 a;have hk:=List.mem_range'_1.1 hk;have i:=ab7 hc d;obtain⟨y,c,h2⟩:=XM (S:=b.S.toNat) zz d f (b.S.toNat-l.C.length+1) 0 (qT _) zz;exact⟨y,c,zz⟩
 .rintro⟨y,c,h2⟩ e;have f:=List.find?_some c;have a:=List.mem_of_find?_eq_some c;unfold gT tP at a;obtain⟨k,hk,g⟩:=List.mem_flatMap.1 a;have hl:=XK k mI 0 (S:=b.S.toNat) zz (λ_ _=>rfl) y g;have e0:(ie mI 12).length=0:=rfl;have:y∈aJ b l b.D.toNat:=List.mem_filter.2 ⟨List.mem_flatMap.2 ⟨k,List.mem_range'_1.2 ⟨qT _,zz⟩,g⟩,f⟩;rw[e]at this;cases this
def Yi(hc:ay b l=0){D:Int}(h:0<=D/\D<=2):ay {b with D:=D} l=0:=by
 obtain⟨a,c,d,e,f⟩:=bP hc;have g:Iv {b with D:=D} l.C=0:=by
  obtain⟨i,m,s,t,n,o,p,q,r,j,k⟩:=cS a;unfold Iv;rw[qWB ⟨qM.2 ⟨i,m⟩,qM.2 h,qM.2 ⟨n,o⟩,uJ.2 ⟨p,q,r⟩,j⟩];exact k
 unfold ay;rw[qVB λh=>h g,qVB λh=>h c,qVB λh=>h d,qVB λh=>h e];exact f
def Xo{D:Int}(hc:ay b l=0)(a:ay {b with D:=D} l=0)(o:b.D<=D)(c:b.U.n=l.U.length)(i:l.U.length<=1000):(oK b l).1<=(oK {b with D:=D} l).1/\zV {b with D:=D} l=zV b l/\(zV b l).2.2=0/\decide (0<(oK b l).1)=((zV b l).2.1&&decide ((zV b l).1<=b.D))/\(aJ b l b.D.toNat≠[]->Sub {b with D:=D} l b l):=by
 obtain⟨p,q,r,-⟩:=cS (bP hc).1;obtain⟨R,f⟩:=abf (b:=b) (l:=l) (k:=b.D.toNat) (k':=D.toNat) zz;have e1:aJ {b with D:=D} l D.toNat=aJ b l b.D.toNat++R:=f;have d:oK b l=(((aJ b l b.D.toNat).length:Int),0):=by unfold oK;rw[qVB (by simp[hc])]
 have s2:oK {b with D:=D} l=(((aJ {b with D:=D} l D.toNat).length:Int),0):=by unfold oK;rw[qVB λh=>h a]
 have e:zV {b with D:=D} l=zV b l:=by unfold zV;rw[qVB λh=>h a,qVB λh=>h hc];rfl
 refine⟨by rw[d,s2,e1,kl];dsimp only;omega,e,?_,?_,λj=>⟨a,hc,rfl,rfl,rfl,c,c,i,j,by show _<=(aJ {b with D:=D} l D.toNat).length;rw[e1,kl];omega,λx n=>by show _∈aJ {b with D:=D} l D.toNat;rw[e1];exact List.mem_append_left _ n⟩⟩
 .unfold zV;rw[qVB (by simp[hc])];split<;>rfl
 .rw[d,Bool.eq_iff_iff,du,decide_eq_true_iff,decide_eq_true_iff];have g:=acv hc;have m:(0:Int)<((aJ b l b.D.toNat).length:Int)↔aJ b l b.D.toNat≠[]:=by rw[<- List.length_pos_iff];omega
  dsimp only;rw[m,g];unfold zV;rw[qVB (by simp[hc])]
  cases WE b l with
  | none=>simp
  | some x=>simp
variable{t i g9:Nat}{more:Int}{A:Ly}{Q0 Q1:Act->H->Prop}{p:(Nat->M)->H->Prop}
section
variable{o:Kp}{x y:ae}
theorem adX(b:o.op=.call {callee:=.builtin .min,args:= #[x,y],argTypes:= #[3,3]})(d:o.type=3)(f:Z x=.int .i64 a)(g:Z y=.int .i64 c)(e:yW (.int .i64 (min a c)) v):(Hn Z o).run F w=.ok (.value v) w:=by
 obtain⟨rfl⟩:=e;unfold Hn;simp only[b,ab,zM,f,g,d];go_simp;repeat (first|omega|split)
end
section
variable{o:Kp}{x y:ae}
theorem acw(a:o.op=.alloc 31):(Hn Z o).run F w=.ok (.value (.pointer (Y (w.heap.size,0)))) (w.alloc (aE bI 31)):=by
 unfold Hn;simp only[a];go_simp;try rfl
theorem acZ(b:o.op=.store 3 x y)(c:Z x=.pointer (Y (g,i)))(d:Z y=.int .i64 a){v0:M}(hc:w (g,i)=Y v0)(e:w.frozen? (g,i)=false):(Hn Z o).run F w=.ok .skip (w.setCell (g,i) (.int .i64 a)):=by
 unfold Hn;simp only[b,c,d];go_simp
def ac0{b:aC}(h:aK w g 31 b)(x:Int):aK (w.setCell (g,1) (.int .i64 x)) g 31 {b with D:=x}:=by
 have:=bJ (i:=1) h (.int .i64 x);simp only[zS]at this;exact this
end
structure Mz(w0:H)(b o:aC)(l:pK)(g9:Nat)(f:Nat->M)(w:H):Prop where
 low:X w0 w0 w
 bx:aK w w0.heap.size 31 b
 ox:aK w g9 31 o
 lt:w0.heap.size<g9
 bk:aI w b l
 ok:aI w o l
 ck:aD w
 e4:f 4=(w0.heap.size,0)
 e9:f 9=(g9,0)
def Mw(w:H)(f:Nat->M)(keep:Nat->Prop)(p:(Nat->M)->H->Prop)(a:Act)(w':H):Prop:=∃f',a=fa 117 f'/\X w w w'/\(∀j,keep j->f' j=f j)/\p f' w'
abbrev LmR(k:Nat)(ops:Array Kp)(w:H)(f:Nat->M)(keep:Nat->Prop)(p:(Nat->M)->Prop):Prop:=Ly.wp F (.region k ops false) (aR (Rs 117 w f keep p)) (fa 117 f) w
section
variable{b o:aC}
def Mz.go(h:Mz w0 b o l g9 f w)(hB:X w w w')(a:f' 4=f 4)(c:f' 9=f 9):Mz w0 b o l g9 f' w':=
 ⟨h.low.tn (hB.mono h.low.size),(hB.block _ h.bx.lt).tn h.bx,(hB.block _ h.ox.lt).tn h.ox,h.lt,h.bk.below hB,h.ok.below hB,h.ck.below hB,a.tn h.e4,c.tn h.e9⟩
def Mz.all(h:Mz w0 b o l g9 f w):X w w w/\(w0:Nat)<w/\g9<w.heap.size:=⟨X.refl _ _,h.bx.lt,h.ox.lt⟩
def mzq{c p:Prop}(hc:c)(q:Qz c->p:=by(intro hqq;have hcon:=hqq.h;obtain⟨hB,d,e⟩:=h.all;have f:=h.bx;have g:=h.ox;have a:=h.e4;have b:=h.e9;exact rr)):p:=q ⟨hc⟩
def adJ(h1:0<=more/\more<=255)(a1:0<=b.D/\b.D<=2)(hl:aI w b l)(z:aD w)(e:aK w w0 31 b)(p:X w0 w0 w)(e1:f 1=.int .u8 more)(g:f 4=(w0.heap.size,0)){y:Ly}{Q0 Q1:Act->H->Prop}
  (next:∀f' w' g9,(∀j,j<20->j≠9->f' j=f j)->Mz w0 b {b with D:=min 2 (b.D+more%3)} l g9 f' w'->nA F y Q0 Q1 (fa 117 f') w'):
  nA F (.seq (.region 3 ade false) (.seq (.region 4 adf false) y)) Q0 Q1 (fa 117 f) w:=by
 have A:=e.lt;have n:aK (w.alloc (aE bI 31)) w 31 bI:=Sp _ _;obtain⟨t,B,u⟩:=pq b n;refine aaK (R:=λa w'=>∃f',a=fa 117 f'/\(∀j,j<20->j≠9->f' j=f j)/\f' 9=.pointer (Y ⟨w.heap.size,0,I⟩)/\aK w' w.heap.size 31 b/\X w.heap.size w w'/\w'.heap.size=w.heap.size+1) (wF rfl ?_) λa c ⟨G,m,k,C,q,o,a4⟩=>?_
 .refine lV b.v rfl rfl zz wnn (gE rfl (Ls g) e vq) ?_;refine lV _ rfl rfl zz wnn (acw rfl) ?_;refine lS rfl rfl wnn (rJ rfl (Ls rfl) (Ls rfl) n).1 ?_;have hB:=((X.refl w.heap.size w).alloc (qN _) (aE bI 31)).tn (B.below ss λx e=>zz);generalize a5:uq w.heap.size b (w.alloc (aE bI 31))=a6 at t u hB|-;exact lE ⟨_,rfl,λj h v=>QA,rfl,t,hB,by rw[u];simp⟩
 .subst m;have r:aK c w0 31 b:=(o.block _ A).tn e;obtain⟨K,y1,y2,P,y4,Q,S,T,U,V,L,N,O⟩:=aM r;obtain⟨W,Z,-⟩:=aM q;have a2:(w0:Nat)<c:=zz;have a3:(w:Nat)<c:=zz;have e1:=(k 1 zz zz).tn e1;have g:=(k 4 zz zz).tn g;have J:=p.size;refine aaK (R:=λa w'=>∃f',a=fa 117 f'/\(∀j,j<20->f' j=G j)/\w'=c.setCell ⟨w.heap.size,1,I⟩ (.int .i64 (min 2 (b.D+more%3)))) (wF rfl ?_) λa w2 ⟨f2,m,s,E⟩=>?_
  .have hB:=X.refl c.heap.size c;clear next hl z e p n t B u r K y2 P y4 Q S T U V L N O W o;refine Tw ?_;refine lV (.int .i64 (min 2 (b.D+more%3))) rfl rfl zz wnn (adX rfl rfl rfl (Ls (au _ _ _)) vq) ?_;refine Tw ?_;refine lS rfl rfl wnn (acZ rfl pL pL (i:=0+1) Z (dx q 1)) ?_;exact lE ⟨_,rfl,λj h=>QA,rfl⟩
  .subst m E;have d:X w w (c.setCell (w.heap.size,1) (.int .i64 (min 2 (b.D+more%3)))):=o.setCell ss _;have hk:=X.heap_setCell c ⟨w.heap.size,1,I⟩ (.int .i64 (min 2 (b.D+more%3)));exact next f2 _ w.heap.size (λj h v=>(s j h).tn (k j h v)) ⟨p.tn (d.mono J),(hk _ (by show w0.heap.size≠w.heap.size;omega)).tn r,ac0 q _,A,hl.below d,⟨(hl.below d).C,(hl.below d).U,(hl.below d).E,(hl.below d).W⟩,z.below d,(s 4 zz).tn g,(s 9 zz).tn C⟩
def adY(h:Mz w0 b o l g9 f w)(hc:ay b l=0):LmR 5 adg w f (λj=>j<20/\j≠10/\j≠11) λf'=>f' 10=.int .i64 (oK b l).1/\f' 11=.int .i64 (oK b l).2:=mzq λc a=>vG b l c (h.bk.below a) (h.ck.below a) hc
def adZ(h:Mz w0 b o l g9 f w)(hc:ay o l=0):LmR 6 adh w f (λj=>j<20/\j≠12/\j≠13) λf'=>f' 12=.int .i64 (oK o l).1/\f' 13=.int .i64 (oK o l).2:=mzq λc a=>vG o l c (h.ok.below a) (h.ck.below a) hc
def ad0(h:Mz w0 b o l g9 f w)(hc:ay b l=0):LmR 7 adj w f (λj=>j<20/\j≠14/\j≠15/\j≠16) λf'=>f' 14=.int .i64 (zV b l).1/\f' 15=.bool (zV b l).2.1/\f' 16=.int .i64 (zV b l).2.2:=mzq λc a=>DZ b l c (h.bk.below a) (h.ck.below a) hc
def ad1(h:Mz w0 b o l g9 f w)(hc:ay o l=0):LmR 8 adk w f (λj=>j<20/\j≠17/\j≠18/\j≠19) λf'=>f' 17=.int .i64 (zV o l).1/\f' 18=.bool (zV o l).2.1/\f' 19=.int .i64 (zV o l).2.2:=mzq λc a=>DZ o l c (h.ok.below a) (h.ck.below a) hc
def ad2{n m x:Int}{q:Bool}(h:Mz w0 b o l g9 f w)(g:f 10=n)(i:f 11=(0:Int))(k:f 12=m)(p:f 13=(0:Int))(r:f 14=x)(s:f 15=q)(t:f 16=(0:Int))(u:f 17=x)(v:f 18=q)(y:f 19=(0:Int))(C:n<=m)(a:decide (0<n)=(q&&decide (x<=b.D))):LmR 9 adl w f (λj=>j<20) λf'=>f' 95=.bool false:=by
 obtain⟨hB,A,B⟩:=h.all;obtain⟨G,J,y2,O,y4,P,Q,R,S,T,K,L,N⟩:=aM h.bx;have z:=h.e4;have E:(x != x)=false:=by simp
 cases q
 .have c:¬0<n:=of_decide_eq_false a;clear a;refine wF rfl ?_;refine Tw ?_;exact lE (Rs.mk hB (λj d=>QA) rfl)
 .rw[Bool.true_and]at a;by_cases e:x<=b.D
  .have c:0<n:=of_decide_eq_true (a.tn (decide_eq_true e));clear a;refine wF rfl ?_;refine Tw ?_;exact lE (Rs.mk hB (λj d=>QA) rfl)
  .have c:¬0<n:=of_decide_eq_false (a.tn (decide_eq_false e));clear a;refine wF rfl ?_;refine Tw ?_;exact lE (Rs.mk hB (λj d=>QA) rfl)
end
def Mo3:Ly:=RI 2 QC
def Yo:Ly:=RI 9 QC
section
variable{b o:aC}{x y A:Ly}
def abT(h:Mz w0 b o l g9 f w)(c:Ly.wp F x (aR (Mw w f keep p)) (fa 117 f) w)(next:∀f' w',X w w w'->(∀j,keep j->f' j=f j)->Mz w0 b o l g9 f' w'->p f' w'->nA F y Q0 Q1 (fa 117 f') w')(hk:∀j,j=4\/j=9->keep j:=by(intro j d;omega)):nA F (.seq x y) Q0 Q1 (fa 117 f) w:=
 aaK c λa w' ⟨f',e,hB,k,q⟩=>by
  subst e;exact next f' w' hB k (h.go hB (k 4 (hk 4 (.inl rfl))) (k 9 (hk 9 (.inr rfl)))) q
def ac1(h:Mz w0 b o l g9 f w)(d:t<117)(e:Ly.wp F x (aR (Rs 117 w f (λj=>j<20) λf'=>f' t=.bool false)) (fa 117 f) w)(next:∀f' w',X w w w'->(∀j,j<20->f' j=f j)->Mz w0 b o l g9 f' w'->nA F y Q0 Q1 (fa 117 f') w'):nA F (.seq (.seq x (.cond (.tmp t) A .skip)) y) Q0 Q1 (fa 117 f) w:=
 mG (bn w _ _ e λf' w' a h2 c=>wp_cond_false (ag d c) (wp_skip ⟨rfl,next f' w' a h2 (h.go a (h2 4 zz) (h2 9 zz))⟩))
end
def Em(b:aC)(l:pK)(D:Int)(w0:H)(f:Nat->M)(W:H):Prop:=∃g9,Mz w0 b {b with D:=D} l g9 f W/\f 10=.int .i64 (aJ b l b.D.toNat).length
def ab2{w0:H}{b:aC}{l:pK}{more:Int}{f:Nat->M}(hl:aI w0 b l)(s:aD w0)(hc:ay b l=0)(d:ay {b with D:=min 2 (b.D+more%3)} l=0)(r:0<=more/\more<=255)(e1:f 1=.int .u8 more)(q:f 4=(w0.heap.size,0)){x2 x3:M}(B:f 2=x2)(C:f 3=x3):
  nA F (cutAt 7 Mo3) (λ_ _=>False) (λa W=>a.defers=[]/\∃f,a.tmps=(fa 117 f).tmps/\Em b l (min 2 (b.D+more%3)) w0 f W/\f 2=x2/\f 3=x3) (fa 117 f) (w0.alloc (aE b 31)):=by
 obtain⟨Z,t2,t3,t4,-⟩:=cS (bP hc).1;have g:X w0 w0 (w0.alloc (aE b 31)):=(X.refl _ _).alloc (qN _) _;have t:aK (w0.alloc (aE b 31)) w0 31 b:=Sp _ _;have P:=Int.emod_nonneg more (b:=3) zz;obtain⟨u,v,w,x,-⟩:=Xo hc d zz hl.U.1 hl.U.2.2.1;have k:oK b l=(((aJ b l b.D.toNat).length:Int),0):=by unfold oK;rw[qVB (by simp[hc])]
 have s2:(oK {b with D:=min 2 (b.D+more%3)} l).2=0:=by unfold oK;rw[qVB λh=>h d]
 refine adJ r zz (hl.below g) (s.below g) t g e1 q λE w1 g9 Q h=>?_;refine abT h (adY h hc) λf2 w2 J R h ⟨m,n⟩=>?_;refine abT h (adZ h d) λf3 w3 K S h ⟨y,o⟩=>?_;refine abT h (ad0 h hc) λG w4 L T h ⟨z,A,p⟩=>?_;refine abT h (ad1 h d) λc w5 N U h ⟨i,j,e⟩=>?_;rw[v]at i j e;rw[w]at p e;rw[s2]at o;rw[show(oK b l).2=0 by rw[k]]at n;refine ac1 h zz (ad2 h (M0:c 10=_) (M0:c 11=_) (M0:c 12=_) (M0:c 13=_) (M0:c 14=_) (M0:c 15=_) (M0:c 16=_) i j e u x) λf6 w6 O V h=>?_;rw[k]at m;exact Dc ⟨rfl,f6,rfl,⟨g9,h,M0⟩,M0,M0⟩
end Go.Proofs.YthfhocgpjjkjlaaGreatDoor
