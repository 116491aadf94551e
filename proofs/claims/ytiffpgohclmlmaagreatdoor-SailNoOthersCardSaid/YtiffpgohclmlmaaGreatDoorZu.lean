import Derived.Test.YtiffpgohclmlmaaGreatDoorZp
import Derived.Test.YtiffpgohclmlmaaGreatDoorChecked
set_option maxRecDepth 100000
set_option maxHeartbeats 4000000
set_option linter.all false
noncomputable section
open Go renaming undef->D,World->H,execOp->Hn,Frame->Kf,Oper->Kp,TypeId->Lk,Code->Ly,Value->M,Calls->PH,Program->Ps,Goroutine->QP,heap_alloc_old->QR,heap_alloc_new->Sp,resolve->ab,Operand->ae,yielded->aw,FuncId->ba,bodyPost_ret->bd
open Go.Proofs.Tryz renaming prog->F,prog->Hb
open Go.Lib renaming hid->Hm
open Option renaming none->I,some->Y
open Go.RowKit renaming Hid->PQ,Below->X
namespace Go
def xt{p:Prop}(h:p:=by
 first|have _:=ø;obtain⟨a5,off,rfl,d,g⟩:=b1.out zz;obtain⟨a6,a9,rfl,f,j⟩:=b2.out zz|have _:=å;obtain⟨a5,off,rfl,d,g⟩:=b3.out zz;obtain⟨a6,a9,rfl,f,j⟩:=b4.out zz|obtain⟨a5,off,rfl,d,g⟩:=b5.out zz;obtain⟨a6,a9,rfl,f,j⟩:=b6.out zz
 have m0:=(a.low.cell d).tn (g k c).1;have n0:=(a.low.cell f).tn (j k c).1;first|have _:=ø;have q:=(a.low.cell d).tn (g k c).2;have n1:=(a.low.cell f).tn (j k c).2;generalize(l.U.getD k (0,0)).1=q0 at m0 n0;generalize(l.U.getD k (0,0)).2=q1 at q n1|have _:=å;have q:=(a.low.cell d).tn (g k c).2;have n1:=(a.low.cell f).tn (j k c).2;generalize(l.E.getD k (0,0)).1=q0 at m0 n0;generalize(l.E.getD k (0,0)).2=q1 at q n1|have q:=(a.low.cell d).tn (g k c).2.1;have n1:=(a.low.cell f).tn (j k c).2.1;have m2:=(a.low.cell d).tn (g k c).2.2;have n2:=(a.low.cell f).tn (j k c).2.2;generalize(l.W.getD k (0,0,false)).1=q0 at m0 n0;generalize(l.W.getD k (0,0,false)).2.1=q1 at q n1;generalize(l.W.getD k (0,0,false)).2.2=q2 at m2 n2
 have f1:=qP d t.out;have f2:=qP f t.out;go_wp2_with (go_quiet (fail));refine⟨⟨k+1,zz,by go_num,?_⟩,by simp[intOf];omega⟩;have h:=m.out;rw[n.out]at h|-;exact h.go (below_drewN (X.refl _ _) nq)):p:=h
def sT{p:Prop}(h:p:=by
 first|have _:=ø;refine wp_block (wp_loop (λa w=>∃(k:Nat) (f':Nat->M),k<=l.length/\a=fa 119 f'/\f' 1=.pointer (Y ⟨g,0,I⟩)/\f' 4=.int .i64 k/\X u.heap.size u w/\nD b.S l=nD b.S (l.drop k)) (λa _=>l.length-(intOf (a.tmps.getD 4 D)).toNat) ⟨0,f,qT _,rfl,K,h4,hB,rfl⟩ λa w1 P=>?_);obtain⟨k,f1,hk,rfl,e1,E,hB,d⟩:=P;rw[Qm];have a2:b.U.n=l.length:=C.1|have _:=å;refine wp_block (wp_loop (λa w=>∃(k:Nat) (f':Nat->M),k<=l.length/\a=fa 119 f'/\f' 1=.pointer (Y ⟨g,0,I⟩)/\f' 5=.int .i64 k/\X u.heap.size u w/\nF b.rf b.ch l=nF b.rf b.ch (l.drop k)) (λa _=>l.length-(intOf (a.tmps.getD 5 D)).toNat) ⟨0,f,qT _,rfl,K,h5,hB,rfl⟩ λa w1 P=>?_);obtain⟨k,f1,hk,rfl,e1,G,hB,d⟩:=P;rw[Qn];have a2:b.E.n=l.length:=C.1|refine wp_block (wp_loop (λa w=>∃(k:Nat) (f':Nat->M),k<=l.length/\a=fa 119 f'/\f' 1=.pointer (Y ⟨g,0,I⟩)/\f' 6=.int .i64 k/\X u.heap.size u w/\qi b.S b.U.n l=qi b.S b.U.n (l.drop k)) (λa _=>l.length-(intOf (a.tmps.getD 6 D)).toNat) ⟨0,f,qT _,rfl,K,h6,hB,rfl⟩ λa w1 P=>?_);obtain⟨k,f1,hk,rfl,e1,T,hB,d⟩:=P;rw[Qo];have a2:b.W.n=l.length:=C.1
 have a9:l.length<=1000:=C.2.2.1;first|have _:=ø;by_cases a1:k<b.U.n|have _:=å;by_cases a1:k<b.E.n|by_cases a1:k<b.W.n
 .have t:k<l.length:=zz;obtain⟨a7,off,U,b2,V⟩:=C.2.2.2 zz;first|have _:=ø;rw[U]at x10;obtain⟨c0,O⟩:=V k t;have c:=Al b.S l k t;generalize(l.getD k (0,0)).1=x at c c0;generalize(l.getD k (0,0)).2=y at c O;refine wp_seq (bn u (· < 7) (λf'=>f' 21=.bool true) rr λJ S hB s q=>wp_cond_true (ag zz q) (wp_skip ?_))|have _:=å;rw[U]at x11;obtain⟨c0,O⟩:=V k t;have c:=Am b.rf b.ch l k t;generalize(l.getD k (0,0)).1=x at c c0;generalize(l.getD k (0,0)).2=y at c O;refine wp_seq (bn u (· < 7) (λf'=>f' 49=.bool true) rr λJ S hB s q=>wp_cond_true (ag zz q) (wp_skip ?_))|rw[U]at x12;obtain⟨c0,O,c2⟩:=V k t;have c:=Dh b.S b.U.n l k t;generalize(l.getD k (0,0,false)).1=x at c c0;generalize(l.getD k (0,0,false)).2.1=y at c O;generalize(l.getD k (0,0,false)).2.2=z at c2;refine wp_seq (bn u (· < 7) (λf'=>f' 96=.bool true) rr λJ S hB s q=>wp_cond_true (ag zz q) (wp_skip ?_))
  have e1:=(s 1 zz).tn e1;first|have _:=ø;have E:=(s 4 zz).tn E|have _:=å;have G:=(s 5 zz).tn G|have T:=(s 6 zz).tn T
  refine wp_seq (wp_block ?_)
  first
  |have _:=æ
   cases e:ax x 0 (b.U.n-1)
   .refine bn u (· < 7) (λf'=>f' 118=.bool true) rr λf3 B hB r j=>wp_cond_true (ag zz j) ?_;refine bn u (λi=>i<7/\i≠2) (λf'=>f' 2=(6:Int)) rr λm N hB L o=>wp_ret ?_;exact .inr ⟨rfl,by rw[d,c,qWB (by simp[e])];decide,m,rfl,hB,by rw[d,c,qWB (by simp[e])];exact o⟩
   .cases n:ax y 0 (b.S-1)
    .refine bn u (· < 7) (λf'=>f' 118=.bool true) rr λf3 B hB r j=>wp_cond_true (ag zz j) ?_;refine bn u (λi=>i<7/\i≠2) (λf'=>f' 2=(6:Int)) rr λm N hB L o=>wp_ret ?_;exact .inr ⟨rfl,by rw[d,c,qWB (by simp[e,n])];decide,m,rfl,hB,by rw[d,c,qWB (by simp[e,n])];exact o⟩
    .refine bn u (· < 7) (λf'=>f' 118=.bool false) rr λZ w5 hB v R=>wp_cond_false (ag zz R) (wp_skip ?_);have e1:=(v 1 zz).tn e1;have T:=(v 6 zz).tn T;refine To u (λi=>i<7/\i≠6) (λf'=>f' 6=.int .i64 (k+1)) rr λf6 w6 hB Q A=>?_;refine⟨⟨k+1,f6,t,rfl,(Q 1 zz).tn e1,A.tn ss,hB,d.tn (c.tn (by rw[qVB (by simp[e,n])]))⟩,?_⟩;rw[Ni (k:=k+1) zz (A.tn ss),Ni (k:=k) zz ‹f1 6=_›];omega
  |have _:=ø
   refine wp_seq ?_;cases e:ax x 0 (b.S-1)
   .refine bn u (· < 7) (λf'=>f' 32=.bool true) rr λf3 B hB r j=>wp_cond_true (ag zz j) ?_;refine bn u (λi=>i<7/\i≠2) (λf'=>f' 2=(6:Int)) rr λm N hB L o=>wp_ret ?_;exact .inr ⟨rfl,by rw[d,c,qWB e];decide,m,rfl,hB,by rw[d,c,qWB e];exact o⟩
   .refine bn u (· < 7) (λf'=>f' 32=.bool false) rr λf3 B hB r j=>wp_cond_false (ag zz j) (wp_skip ?_);have e1:=(r 1 zz).tn e1;have E:=(r 4 zz).tn E;cases n:ax y (-9) 9
    .refine bn u (· < 7) (λf'=>f' 40=.bool true) rr λf3 B hB r j=>wp_cond_true (ag zz j) ?_;refine bn u (λi=>i<7/\i≠2) (λf'=>f' 2=(1:Int)) rr λm N hB L o=>wp_ret ?_;exact .inr ⟨rfl,by rw[d,c,qVB (by simp[e]),qWB n];decide,m,rfl,hB,by rw[d,c,qVB (by simp[e]),qWB n];exact o⟩
    .refine bn u (· < 7) (λf'=>f' 40=.bool false) rr λZ w5 hB v R=>wp_cond_false (ag zz R) (wp_skip ?_);have e1:=(v 1 zz).tn e1;have E:=(v 4 zz).tn E;refine To u (λi=>i<7/\i≠4) (λf'=>f' 4=.int .i64 (k+1)) rr λf6 w6 hB Q A=>?_;refine⟨⟨k+1,f6,t,rfl,(Q 1 zz).tn e1,A.tn ss,hB,d.tn (c.tn (by rw[qVB (by simp[e]),qVB (by simp[n])]))⟩,?_⟩;rw[Ni (k:=k+1) zz (A.tn ss),Ni (k:=k) zz ‹f1 4=_›];omega
  |refine wp_seq ?_
   cases e:ax x (1-b.rf) (b.rf-1)
   .refine bn u (· < 7) (λf'=>f' 77=.bool true) rr λf3 B hB r j=>wp_cond_true (ag zz j) ?_;refine bn u (λi=>i<7/\i≠2) (λf'=>f' 2=(1:Int)) rr λm N hB L o=>wp_ret ?_;exact .inr ⟨rfl,by rw[d,c,qWB (by simp[e])];decide,m,rfl,hB,by rw[d,c,qWB (by simp[e])];exact o⟩
   .cases n:ax y 0 60
    .refine bn u (· < 7) (λf'=>f' 77=.bool true) rr λf3 B hB r j=>wp_cond_true (ag zz j) ?_;refine bn u (λi=>i<7/\i≠2) (λf'=>f' 2=(1:Int)) rr λm N hB L o=>wp_ret ?_;exact .inr ⟨rfl,by rw[d,c,qWB (by simp[e,n])];decide,m,rfl,hB,by rw[d,c,qWB (by simp[e,n])];exact o⟩
    .refine bn u (· < 7) (λf'=>f' 77=.bool false) rr λf3 B hB r j=>wp_cond_false (ag zz j) (wp_skip ?_);have e1:=(r 1 zz).tn e1;have G:=(r 5 zz).tn G;by_cases W:b.ch<=y
     .refine bn u (· < 7) (λf'=>f' 87=.bool true) rr λf3 B hB r j=>wp_cond_true (ag zz j) ?_;refine bn u (λi=>i<7/\i≠2) (λf'=>f' 2=(7:Int)) rr λm N hB L o=>wp_ret ?_;exact .inr ⟨rfl,by rw[d,c,qVB (by simp[e,n]),qWB W];decide,m,rfl,hB,by rw[d,c,qVB (by simp[e,n]),qWB W];exact o⟩
     .refine bn u (· < 7) (λf'=>f' 87=.bool false) rr λZ w5 hB v R=>wp_cond_false (ag zz R) (wp_skip ?_);have e1:=(v 1 zz).tn e1;have G:=(v 5 zz).tn G;refine To u (λi=>i<7/\i≠5) (λf'=>f' 5=.int .i64 (k+1)) rr λf6 w6 hB Q A=>?_;refine⟨⟨k+1,f6,t,rfl,(Q 1 zz).tn e1,A.tn ss,hB,d.tn (c.tn (by rw[qVB (by simp[e,n]),qVB W]))⟩,?_⟩;rw[Ni (k:=k+1) zz (A.tn ss),Ni (k:=k) zz ‹f1 5=_›];omega
 .have a8:k=l.length:=zz;first|have _:=ø;refine wp_seq (bn u (· < 7) (λf'=>f' 21=.bool false) rr λJ S hB s q=>wp_cond_false (ag zz q) (wp_exit ?_))|have _:=å;refine wp_seq (bn u (· < 7) (λf'=>f' 49=.bool false) rr λJ S hB s q=>wp_cond_false (ag zz q) (wp_exit ?_))|refine wp_seq (bn u (· < 7) (λf'=>f' 96=.bool false) rr λJ S hB s q=>wp_cond_false (ag zz q) (wp_exit ?_))
  exact .inl ⟨rfl,by rw[d,ma zz];rfl,J,rfl,hB,(s 1 zz).tn (e1.tn K.symm)⟩):p:=h
def yX{p:Prop}(h:p:=by
 unfold aJ gT tP;rw[List.filter_filter,List.filter_flatMap,List.filter_flatMap];congr 1;funext k;first|have _:=ø;rw[<- Ux h1 h2,List.filter_filter]|rw[<- IB hC k mI 0 rfl,List.filter_filter]
 exact List.filter_congr λy _=>Bool.and_comm _ _):p:=h
def sE{p:Prop}(h:p:=by
 obtain⟨⟨C,U,E,W,rfl⟩,o⟩:=r;have hB:=X.refl w.heap.size w;have g0:=s.lt;have g1:=h.bx.lt;have a5:=h.bx;have Z:=h.e2
 first
 |have _:=ø
  have e5:=h.e5;refine Tn hB λhB=>Tw ?_;refine ada (bl [15] kr ss λj d=>?_);obtain rfl:=q8A.1 d;refine Xr (E:=λv w'=>∃C:Sl,v=({b with C:=C}:aC).v/\aI w' {b with C:=C} (iY l i)/\X w.heap.size w w') rfl rfl zz (Yi rfl rfl rfl) (dm rfl (MJ pL pL) rfl rfl) ((aaj b l i _ (h.bk.below hB) hn hlen).mono λe w' ⟨C,G,J,K⟩=>⟨_,G,C,rfl,J,hB.tn (K.mono hB.size)⟩) λv L ⟨t,A,y,hB⟩=>⟨λ_=>hB,?_⟩;subst A;refine tCg 16 rfl rfl (Yi rfl rfl rfl) hB (dm rfl (MJ pL pL) rfl rfl) (Ov {b with C:=C,U:=U,E:=E,W:=W} t b.U b.E b.W (iY l i) _ (o.below hB) y) λN hB q=>ac9 (Tw ?_);exact Xt (XT (Rs.mk hB (λj d=>QA) rfl))
 |refine Tn hB λhB=>Tw ?_;refine ada ?_;have c:=hB.alloc hB.size (.cells #[.int .i64 x] 3);refine ad7 13 rfl rfl (ab3 rfl (Ls rfl)) c ?_
  have z:eC (w.drew.alloc (.cells #[.int .i64 x] 3)) ⟨Y (w.drew.heap.size,0),1,1⟩ [x]:=⟨rfl,qN _,by simp,λ_=>⟨w.drew.heap.size,0,rfl,by simp,λk hk=>by
   obtain rfl:k=0:=by simp at hk;omega
   exact one_cell (Sp _ _)⟩⟩
  have n:=MD s18 ⟨Y ⟨w.drew.heap.size,0,I⟩,1,1⟩ [x] [x] _ (h18.below c) z;rw[decide_eq_true rfl]at n;refine tCg 14 rfl rfl (Yi rfl rfl rfl) c (dm rfl (MJ pL pL) rfl rfl) n λL hB q=>ac9 (Tw ?_);refine ada (tCg 21 rfl rfl (Yi rfl rfl rfl) hB (dm rfl (XF pL) rfl rfl) (XL x _) λN hB q=>(tCg 22 rfl rfl (Yi rfl rfl rfl) hB (dm rfl (MJ pL pL) rfl rfl) (XK b x x _) λw4 hB q=>?_));have a:=h.bk.below hB;refine tCg 23 rfl rfl (Yi rfl rfl rfl) hB (dm rfl (MJ pL pL) rfl rfl) (Ov {Tq b x with C:=C,U:=U,E:=E,W:=W} b.C b.U b.E b.W l _ (o.below hB) ⟨a.C,a.U,a.E,a.W⟩) λw5 hB q=>ac9 (Tw ?_);exact Xt (XT (Rs.mk hB (λj d=>QA) rfl))):p:=h
def MP{p:Prop}(h:p:=by
 unfold wpOp;simp only[hi,j,if_true,Kp.wp,k,Kp.upon_enter];refine .inl (hc.mono λe w' c=>?_);first|have _:=ø;obtain⟨rfl,a⟩:=c|obtain⟨v,rfl,a⟩:=c
 show K ((fa n f).put oi.dst v) w';rw[b,cw g];first|have _:=ø;exact h w' a|exact h v w' a):p:=h
def uv{p:Prop}(h:p:=by
 obtain⟨g,v,B,z,C⟩:=bP hc;obtain⟨k,n,o,q,r,s,J,K,L,G,m⟩:=cS g;first|have _:=ø;skip|obtain⟨f,t⟩:=M1 m
 refine Yr ?_ v B z C;unfold cA;simp only[cq,uJ]
 first
 |have _:=ø
  rw[qWB ⟨⟨k,n⟩,⟨o,q⟩,⟨r,s⟩,⟨zz,zz,zz⟩,zz⟩];exact m
 |rw[qWB ⟨⟨k,n⟩,⟨o,q⟩,⟨r,s⟩,⟨J,K,L⟩,G⟩]
  refine QF (λy E=>?_) ?_
  .rcases Vu.1 E with h|rfl
   .exact⟨(f y h).1,(f y h).2.1,λ_ e=>by cases e⟩
   .exact⟨zz,hi,λ_ e=>by cases e⟩
  .have A:(iY l i).C.Pairwise λa b=>decide (a<=b)=true:=List.pairwise_mergeSort (λa b c d h2=>by simp only[decide_eq_true_iff]at *; omega) (λa b=>by simp only[ib,decide_eq_true_iff];omega) _;have w:(iY l i).C.Nodup:=(List.mergeSort_perm _ _).nodup_iff.2 (List.nodup_append.2 ⟨t.imp λh=>zz,by simp,λa u c j e=>by
    rw[q8A]at j;subst j;exact hn (e▸u)⟩)
   exact A.imp₂ (λa b d h2=>by have:=of_decide_eq_true d;omega) w):p:=h
def xaA{p:Prop}(h:p:=by
 obtain⟨rfl⟩:=d;unfold Hn;simp only[c,e,f];go_simp;rw[Go.IntWalk.i64_in _ h]):p:=h
def xaH{p:Prop}(h:p:=by
 unfold Hn;simp only[b,ab,c,a,Deferred.ofValue];simp[go_sem,invoke,hc]):p:=h
def vi{p:Prop}(h:p:=by
 obtain⟨hB,k⟩:=h.all;obtain⟨n,o,y2,u,y4,v,y,z,A,B,r,s,t⟩:=aM h.bx;have g:=h.e2;first|have _:=ø;exact rr|have j:=h.e5;have hcon:=λa (c:X w.heap.size w a)=>kE ((ze i b.C l.C a (h.bk.below c).C).mono λe w' q=>⟨q.1,q.2.symm⟩) (by rw[decide_eq_false hi]);exact rr):p:=h
def yY{p:Prop}(h:p:=by
 first|have _:=ø;(go_wp2_with (first|go_quiet (fail)|(at_builtin;refine wpList_append_own _ rfl _ _ 24 rfl d.heap.size 3 i0 (.int .i64 0) 1 8 Tryz.underlying24 hi V W Z rfl dd _ nx.length _ rfl ((rK n.out (below_drewN (X.refl _ _) _)).alloc _) ⟨_,0,I⟩ 1 1 [.int .i64 x] rfl rfl (cell_one_new _ _ _) (λx f=>by simp at f;subst f;rfl) (by unfold maxLen;omega) zz so ?_;intro v' w3 c6 b8 d7;have u:=(aP (below_drewN K.out _) (qN _) _).grown b8 so (λq r=>(n.out.lt q r).1);have e':=u.size;have e4:=(H.cell?_of_block (u.block _ b1)).tn a'.out;have e5:=(H.cell?_of_block (u.block _ b7)).tn c9.out;have c7:=Hm u;have a9:=Hm c6;have e3:=zz;have e6:=zz;clear u c6 b8 d7 hcx b4)|(at_builtin;refine wpList_append_own _ rfl _ _ 24 rfl d.heap.size 3 i0 (.int .i64 0) 1 8 Tryz.underlying24 hi V W Z rfl dd _ (nx.length+1) _ rfl ((rK a9.out (below_drewN (X.refl _ _) _)).alloc _) ⟨_,0,I⟩ 1 1 [.int .i64 y] rfl rfl (cell_one_new _ _ _) (λx f=>by simp at f;subst f;rfl) (by unfold maxLen;omega) zz so ?_;intro v4 w4 o B c1)))|go_wp2_with (at_builtin;refine wpList_append_own _ rfl _ _ 24 rfl d.heap.size 3 i0 (.int .i64 0) 1 8 Tryz.underlying24 hi V W Z rfl dd _ nx.length _ rfl (n.out.alloc _) ⟨_,0,I⟩ 1 1 [.int .i64 x] rfl rfl (cell_one_new _ _ _) (λx f=>by simp at f;subst f;rfl) (by unfold maxLen;omega) zz so ?_;intro v4 w4 o B c1)
 go_roundw
 case rel=>
  obtain⟨S,R,rfl⟩:=ownsRow_succ o;first|have _:=ø;refine⟨true,m+1,nx++[x]++[y],Y ⟨S,0,I⟩,R,zz,by go_num,rfl,by simp,by simpa using o,(aP (below_drewN c7.out _) (qN _) _).grown B so (λq r=>(a9.out.lt q r).1),?_⟩;have h:=C.out;rw[a1.out]at h;show _=_;rw[<- h];simp[mgR,Z5,hle]|have h:=C.out;rw[a8.out]at h;have h:nx++[x]=Z5 x a:=h;have l:=cd List.length h;rw[kl,abT,t.out]at l;simp only[List.length_singleton]at l;have l:nx.length=m:=zz;subst l;refine⟨nx.length+1,Y ⟨S,0,I⟩,R,zz,by go_num,rfl,?_,N.out.tn (((aP K.out (qN _) _).grown B so (λq r=>(n.out.lt q r).1)).mono U)⟩;rw[P.out,O.out,<- h];simpa using dy U o
 case measure=>simp[intOf];omega):p:=h
def xb{p:Prop}(h:p:=by
 have hB:=X.refl w.heap.size w;exact rr):p:=h
end Go
namespace Go.Proofs.YtiffpgohclmlmaaGreatDoor
open Go.RowKit Go.Co
variable{K R:Act->H->Prop}{fn:ba}{args:Array M}{v:M}{E S:H->Prop}{w w':H}{ops:Array Kp}{n d j i g k off m cp z:Nat}{f:Nat->M}{oi o:Kp}{rest:List Nat}{Q:Exit->Act->H->Prop}{md:Region.Mode}{late:Nat->Bool}{L:Array Bool}{Z:ae->M}{x y c:ae}{a b:Int}{t':Lk}{r q p:Bool}
section
variable{t:Bool}
def eE(b:oi.guard=Y (j,t))(c:(ops[j]?).bind (·.dst)=Y g)(d:g<n)(a:f g=.bool t):Region.wanted oi (aw ops (fa n f).tmps)=true:=by
 unfold Region.wanted;rw[b];simp only[xM c d a,beq_self_eq_true]
def jc(b:oi.guard=Y (j,t))(c:(ops[j]?).bind (·.dst)=Y g)(d:g<n)(a:f g=.bool (!t)):Region.wanted oi (aw ops (fa n f).tmps)=false:=by
 unfold Region.wanted;rw[b];simp only[xM c d a];cases t<;>rfl
def ZE(v:M)(hi:ops[i]?=Y oi)(a:oi.dst=Y d)(b:d<n)(c:Region.wanted oi (aw ops (fa n f).tmps)=true)(e:(Hn (fa n f).eval oi).run F w=.ok (.value v) w')(h:K (fa n (ah f d v)) w'):wpOp F ops Q i K (fa n f) w:=by
 unfold wpOp;simp only[hi,c,if_true,Kp.wp,e,Kp.upon];rw[a,cw b];exact .inl h
def Vg(hi:ops[i]?=Y oi)(b:oi.dst=Y d)(g:d<n)(j:Region.wanted oi (aw ops (fa n f).tmps)=true)(k:(Hn (fa n f).eval oi).run F w=.ok (.enter fn args) w)
  (hc:PH F fn args w λe w'=>e=.returned v/\E w')(h:∀w',E w'->K (fa n (ah f d v)) w'):wpOp F ops Q i K (fa n f) w:=by
 have ø:=0;exact MP
def Xr{E:M->H->Prop}(hi:ops[i]?=Y oi)(b:oi.dst=Y d)(g:d<n)(j:Region.wanted oi (aw ops (fa n f).tmps)=true)(k:(Hn (fa n f).eval oi).run F w=.ok (.enter fn args) w)
  (hc:PH F fn args w λe w'=>∃v,e=.returned v/\E v w')(h:∀v w',E v w'->K (fa n (ah f d v)) w'):wpOp F ops Q i K (fa n f) w:=MP
def ZG(hi:ops[i]?=Y oi)(a:oi.dst=Y d)(b:d<n)(c:Region.wanted oi (aw ops (fa n f).tmps)=false)(h:K (fa n (ah f d D)) w):wpOp F ops Q i K (fa n f) w:=by
 unfold wpOp;simp only[hi,c,lO,if_false];rw[a,cw b];exact h
def acy(hi:ops[i]?=Y oi)(a:oi.dst=I)(b:Region.wanted oi (aw ops (fa n f).tmps)=true)(c:(Hn (fa n f).eval oi).run F w=.ok .skip w')(h:K (fa n f) w'):wpOp F ops Q i K (fa n f) w:=by
 unfold wpOp;simp only[hi,b,if_true,Kp.wp,c,Kp.upon];rw[a];exact .inl h
def lV(v:M)(hi:ops[i]?=Y oi)(a:oi.dst=Y d)(b:d<n)(c:Region.wanted oi (aw ops (fa n f).tmps)=true)(e:(Hn (fa n f).eval oi).run F w=.ok (.value v) w')(h:wpOps F ops Q rest (fa n (ah f d v)) w'):wpOps F ops Q (i::rest) (fa n f) w:=by
 rw[wpOps_cons];exact ZE v hi a b c e h
def lN(hi:ops[i]?=Y oi)(a:oi.dst=Y d)(b:d<n)(c:Region.wanted oi (aw ops (fa n f).tmps)=false)(h:wpOps F ops Q rest (fa n (ah f d D)) w):wpOps F ops Q (i::rest) (fa n f) w:=by
 rw[wpOps_cons];exact ZG hi a b c h
def lS(hi:ops[i]?=Y oi)(a:oi.dst=I)(b:Region.wanted oi (aw ops (fa n f).tmps)=true)(c:(Hn (fa n f).eval oi).run F w=.ok .skip w')(h:wpOps F ops Q rest (fa n f) w'):wpOps F ops Q (i::rest) (fa n f) w:=by
 rw[wpOps_cons];exact acy hi a b c h
def lC(hi:ops[i]?=Y oi)(a:oi.dst=Y d)(b:d<n)(c:Region.wanted oi (aw ops (fa n f).tmps)=true)(g:(Hn (fa n f).eval oi).run F w=.ok (.enter fn args) w)
  (hc:PH F fn args w λe w'=>e=.returned v/\E w')(h:∀w',E w'->wpOps F ops Q rest (fa n (ah f d v)) w'):wpOps F ops Q (i::rest) (fa n f) w:=by
 rw[wpOps_cons];exact Vg hi a b c g hc h
def lR{E:M->H->Prop}(hi:ops[i]?=Y oi)(a:oi.dst=Y d)(b:d<n)(c:Region.wanted oi (aw ops (fa n f).tmps)=true)(g:(Hn (fa n f).eval oi).run F w=.ok (.enter fn args) w)
  (hc:PH F fn args w λe w'=>∃v,e=.returned v/\E v w')(h:∀v w',E v w'->wpOps F ops Q rest (fa n (ah f d v)) w'):wpOps F ops Q (i::rest) (fa n f) w:=by
 rw[wpOps_cons];exact Xr hi a b c g hc h
def lE(h:Q .normal (fa n f) w):wpOps F ops Q [] (fa n f) w:=h
def tV(v:M)(hi:ops[i]?=Y oi)(b:oi.dst=Y d)(g:d<n)(m:Region.wanted oi (aw ops (fa n f).tmps)=true)(l:Region.noSelect ops=true)(c:Region.free md ops L i=true)(j:(Region.ready md ops L).contains i=true)(e:nN md ops late i=true)
  (o:∀w',S w'->(Hn (fa n f).eval oi).run F w'=.ok (.value v) w')(a:S w)
  (h:wpAnyL F md ops (aR R) S late k (L.setIfInBounds i true) (fa n (ah f d v)) w):wpAnyL F md ops (aR R) S late (k+1) L (fa n f) w:=
 qQ hi l c j e (λ_ _ _ h=>h) (.inl ⟨m,o⟩) a (by rw[b,cw g];exact h)
def tN(hi:ops[i]?=Y oi)(b:oi.dst=Y d)(g:d<n)(m:Region.wanted oi (aw ops (fa n f).tmps)=false)(l:Region.noSelect ops=true)(c:Region.free md ops L i=true)(j:(Region.ready md ops L).contains i=true)(e:nN md ops late i=true)(a:S w)
  (h:wpAnyL F md ops (aR R) S late k (L.setIfInBounds i true) (fa n (ah f d D)) w):wpAnyL F md ops (aR R) S late (k+1) L (fa n f) w:=
 qQ hi l c j e (λ_ _ _ h=>h) (.inr ⟨m,rfl⟩) a (by rw[b,cw g];exact h)
def tC(j:Region.ready md ops L=[i])(hi:ops[i]?=Y oi)(b:oi.dst=Y d)(g:d<n)(l:Region.wanted oi (aw ops (fa n f).tmps)=true)(o:(Hn (fa n f).eval oi).run F w=.ok (.enter fn args) w)
  (hc:PH F fn args w λe w'=>e=.returned v/\E w')(h:∀w',E w'->S w'/\wpAnyL F md ops (aR R) S late k (L.setIfInBounds i true) (fa n (ah f d v)) w'):wpAnyL F md ops (aR R) S late (k+1) L (fa n f) w:=by
 refine bl [i] j ss λm c=>?_;obtain rfl:=q8A.1 c;exact Vg hi b g l o hc λw' a=>⟨λ_=>(h w' a).1,(h w' a).2⟩
end
def gy(n:Nat){F:Func}{c:Ly}{A:Array M}{R:Ending->H->Prop}(b:Hb.funcs[fn]?=Y F)(a:F.body=Y c)(d:A.size+(F.ntmps-A.size)=n)(h:∀f:Nat->M,(∀i,f i=A.getD i D)->Ly.wp Hb c (bodyPost Hb F R) (fa n f) w):PH Hb fn A w R:=by
 refine calls_of_wp b a ?_;rw[iu d];exact h _ λ_=>rfl
theorem Ib{g:Nat}{b:aC}(h:aK w g 31 b):(Instr.loadAt 31 (.pointer (Y (g,0)))).run F w=.ok b.v w:=by
 obtain⟨a,c,i,j,k,l,m,n,o,p,d,e,f⟩:=aM h;unfold aC.v;go_simp
def ag{n t:Nat}{f:Nat->M}(h:t<n)(e:f t=v):(fa n f).eval (.tmp t)=v:=(fe h).tn e
def ZK(s:Nat):List Nat:=if s=31 then[0,1,2,3,5,6,8,10,11,12]else if s=77 then[0,1,2]else if s=56\/s=23\/s=26\/s=101\/s=103 then[0,1]else[]
def Sm(x:Int):Prop:= -9223372036854775808<=x/\x<=9223372036854775807
structure yW(x y:M):Prop where h:x=y
def ZL(t:Nat):Option Nat:=if t=27\/t=28 then Y 2 else if t=29 then Y 3 else I
def TG:BinOp->Option (Int->Int->Bool)
 | .lss=>Y λa b=>decide (a<b)
 | .leq=>Y λa b=>decide (a<=b)
 | .gtr=>Y λa b=>decide (b<a)
 | .geq=>Y λa b=>decide (b<=a)
 | .eql=>Y λa b=>a==b
 | .neq=>Y λa b=>a != b
 | _=>I
section
variable{t t':Lk}
def bq(a:o.op=.move x\/o.op=.assign x)(b:Z x=v):(Hn Z o).run F w=.ok (.value v) w:=by
 unfold Hn;rcases a with h|h<;>simp only[h,b]<;>rfl
theorem dm{xs:Array ae}{ts:Array Lk}(b:o.op=.call {callee:=.value (.func fn),args:=xs,argTypes:=ts})(a:xs.map Z=args)(c:Z (.func fn)=.func (.func fn) #[] #[])
  (hc:(callFunc fn args).run F w=.ok (.enter fn args) w):(Hn Z o).run F w=.ok (.enter fn args) w:=xaH
theorem j0(a:o.op=.unOp .not t x)(c:Z x=.bool r)(b:yW (.bool (!r)) v):(Hn Z o).run F w=.ok (.value v) w:=by
 obtain⟨rfl⟩:=b;unfold Hn;simp only[a,c];go_simp
theorem aa6(a:o.op=.pick c x y)(hc:Z c=.bool r)(b:(if r then Z x else Z y)=v):(Hn Z o).run F w=.ok (.value v) w:=by
 subst b;unfold Hn;simp only[a,hc];cases r<;>go_simp
theorem Vh(a:o.op=.binOp .neq 4 x y 4)(d:Z x=.bool r)(e:Z y=.bool q)(b:(r != q)=p)(c:yW (.bool p) v):(Hn Z o).run F w=.ok (.value v) w:=by
 subst b;obtain⟨rfl⟩:=c;unfold Hn;simp only[a,d,e];cases r<;>cases q<;>go_simp
theorem Sr{op:BinOp}{F:Int->Int->Bool}(c:o.op=.binOp op t x y t')(hF:TG op=Y F)(f:Z x=a)(g:Z y=b)(d:F a b=r)(e:yW (.bool r) v):(Hn Z o).run Hb w=.ok (.value v) w:=by
 subst d;obtain⟨rfl⟩:=e;unfold Hn;simp only[c,f,g];cases op<;>cases hF<;>go_simp
def gE{B:aC}(b:o.op=.load 31 x)(d:Z x=.pointer (Y (g,0)))(a:aK w g 31 B)(c:yW (B.v) v):(Hn Z o).run F w=.ok (.value v) w:=by
 have h:=(Ib a);obtain⟨rfl⟩:=c;unfold Hn;simp only[b,d];simp[h]
theorem TH{s:Nat}(b:o.op=.fieldAddr s x k)(a:(ZK s)[k]?=Y z)(d:Z x=.pointer (Y (g,off)))(c:yW (.pointer (Y (g,off+z))) v):(Hn Z o).run F w=.ok (.value v) w:=by
 obtain⟨rfl⟩:=c;unfold Hn;simp only[b,d];unfold ZK at a;repeat' split at a
 .subst s;iterate 10 (rcases k with _|k; · cases a;go_simp)
  cases a
 .subst s;iterate 3 (rcases k with _|k; · cases a;go_simp)
  cases a
 .rename_i h;iterate 2 (rcases k with _|k; · cases a;rcases h with rfl|rfl|rfl|rfl|rfl<;>go_simp)
  cases a
 .cases a
theorem abe(b:o.op=.load t x)(a:[3,4,24,27,28,29,34].contains t=true)(c:Z x=.pointer (Y (g,off)))(hc:w (g,off)=Y v):(Hn Z o).run F w=.ok (.value v) w:=by
 unfold Hn;simp only[b,c];simp at a;rcases a with rfl|rfl|rfl|rfl|rfl|rfl|rfl<;>go_simp
theorem Vj(b:o.op=.indexAddr t x y)(a:ZL t=Y z)(d:Z x=.slice (Y (g,off)) m cp)(e:Z y=k)(hk:k<m)(c:yW (.pointer (Y (g,off+k*z))) v):(Hn Z o).run F w=.ok (.value v) w:=by
 obtain⟨rfl⟩:=c;unfold Hn;simp only[b,d,e];unfold ZL at a;split at a
 .rename_i h;cases a;rcases h with rfl|rfl<;>go_simp
 .split at a
  .rename_i h;cases a;subst h;go_simp
  .cases a
theorem SF{A:Option Addr}(b:o.op=.call {callee:=.builtin .len,args:= #[x],argTypes:= #[t]})(a:[24,27,28,29].contains t=true)(c:o.type=3)(e:Z x=.slice A m cp)(d:yW (.int .i64 m) v):(Hn Z o).run F w=.ok (.value v) w:=by
 obtain⟨rfl⟩:=d;unfold Hn;simp only[b,ab,zM,e,c];simp at a;rcases a with rfl|rfl|rfl|rfl<;>go_simp
theorem AW(c:o.op=.binOp .sub 3 x y 3)(e:Z x=a)(f:Z y=b)(h:Sm (a-b))(d:yW (.int .i64 (a-b)) v):(Hn Z o).run F w=.ok (.value v) w:=xaA
theorem E4(c:o.op=.binOp .add 3 x y 3)(e:Z x=a)(f:Z y=b)(h:Sm (a+b))(d:yW (.int .i64 (a+b)) v):(Hn Z o).run F w=.ok (.value v) w:=xaA
end
section
variable{n id N:Nat}{w:H}{f:Nat->M}{p:Prop}{Z:ae->M}{x y:ae}{a b v:M}{r:Bool}{Q:Exit->Act->H->Prop}
def Rs(n:Nat)(u:H)(f:Nat->M)(keep:Nat->Prop)(p:(Nat->M)->Prop)(a:Act)(w:H):Prop:=∃f',a=fa n f'/\X u u w/\(∀i,keep i->f' i=f i)/\p f'
def Rs.mk{u w:H}{f f':Nat->M}{keep:Nat->Prop}{p:(Nat->M)->Prop}(a:X u u w)(hk:∀i,keep i->f' i=f i)(b:p f'):aR (Rs n u f keep p) .normal (fa n f') w:=⟨f',rfl,a,hk,b⟩
def XF(b:Z x=a):(#[x]).map Z= #[a]:=by simp[b]
def MJ(c:Z x=a)(d:Z y=b):(#[x,y]).map Z= #[a,b]:=by simp[c,d]
def MK{x y z:ae}{a b c:M}(d:Z x=a)(e:Z y=b)(h2:Z z=c):(#[x,y,z]).map Z= #[a,b,c]:=by simp[d,e,h2]
def fG:Ly:=match Tryz.f18.body with|some c=>c|_=>.skip
def ZI:Array Kp:=br [0] fG
def Vo:Array Kp:=br [1,0,0] fG
def P6:Array Kp:=br [1,0,1,0] fG
def Vp:Array Kp:=br [1,0,1,1,4,0] fG
def P7:Array Kp:=br [1,1,0,0] fG
def Vq:Array Kp:=br [1,1,0,1,4,0] fG
def Vr:Array Kp:=br [1,1,1,0,0] fG
def ux:Ly:=dk [1,1,1,0,1,2,3] fG
def P8:Array Kp:=br [0,0] ux
def P9:Array Kp:=br [1,0,2,0,0] ux
def Qa:Array Kp:=br [1,0,2,0,1,4,0] ux
def Ig:Array Kp:=br [1,0,2,1,0] ux
def Qb:Array Kp:=br [1,0,2,1,1,4,0] ux
def Vt:Array Kp:=br [1,1] ux
def Ih:Array Kp:=br [1,1,1,1,0,0] fG
def Qc:Array Kp:=br [1,1,1,1,0,1,4,0] fG
def Qd:Array Kp:=br [1,1,1,1,1,0,0] fG
def uy:Ly:=dk [1,1,1,1,1,0,1,2,3] fG
def Ii:Array Kp:=br [0,0] uy
def B6:Array Kp:=br [1,0,2,0,0] uy
def Qe:Array Kp:=br [1,0,2,0,1,4,0] uy
def Ij:Array Kp:=br [1,0,2,1,0] uy
def Qf:Array Kp:=br [1,0,2,1,1,4,0] uy
def Qg:Array Kp:=br [1,1] uy
def Ik:Array Kp:=br [1,1,1,1,1,1,0,0] fG
def Qh:Array Kp:=br [1,1,1,1,1,1,0,1,4,0] fG
def Qi:Array Kp:=br [1,1,1,1,1,1,1,0,0] fG
def za:Ly:=dk [1,1,1,1,1,1,1,0,1,2,3] fG
def Il:Array Kp:=br [0,0] za
def B7:Array Kp:=br [1,0,2,0] za
def Qj:Array Kp:=br [1,0,2,1,4,0] za
def Qk:Array Kp:=br [1,1] za
def Ql:Array Kp:=br [1,1,1,1,1,1,1,1,0] fG
def ML:fG=.seq (.region 0 ZI false) (.seq (.seq (.region 1 Vo false) (.seq (.region 2 P6 false) (.cond (.tmp 10) (.seq (.region 3 Vp false) (.ret)) (.skip)))) (.seq (.seq (.region 4 P7 false) (.cond (.tmp 16) (.seq (.region 5 Vq false) (.ret)) (.skip))) (.seq (.seq (.region 6 Vr false) (.block 0 (.loop ux))) (.seq (.seq (.region 13 Ih false) (.cond (.tmp 44) (.seq (.region 14 Qc false) (.ret)) (.skip))) (.seq (.seq (.region 15 Qd false) (.block 2 (.loop uy))) (.seq (.seq (.region 22 Ik false) (.cond (.tmp 91) (.seq (.region 23 Qh false) (.ret)) (.skip))) (.seq (.seq (.region 24 Qi false) (.block 4 (.loop za))) (.seq (.region 29 Ql false) (.ret))))))))):=rfl
def Qm:ux=.seq (.seq (.region 7 P8 false) (.cond (.tmp 21) (.skip) (.exit 0))) (.seq (.block 1 (.seq (.seq (.region 9 P9 true) (.cond (.tmp 32) (.seq (.region 10 Qa false) (.ret)) (.skip))) (.seq (.region 11 Ig false) (.cond (.tmp 40) (.seq (.region 12 Qb false) (.ret)) (.skip))))) (.region 8 Vt false)):=rfl
def Qn:uy=.seq (.seq (.region 16 Ii false) (.cond (.tmp 49) (.skip) (.exit 2))) (.seq (.block 3 (.seq (.seq (.region 18 B6 true) (.cond (.tmp 77) (.seq (.region 19 Qe false) (.ret)) (.skip))) (.seq (.region 20 Ij true) (.cond (.tmp 87) (.seq (.region 21 Qf false) (.ret)) (.skip))))) (.region 17 Qg false)):=rfl
def Qo:za=.seq (.seq (.region 25 Il false) (.cond (.tmp 96) (.skip) (.exit 4))) (.seq (.block 5 (.seq (.region 27 B7 true) (.cond (.tmp 118) (.seq (.region 28 Qj false) (.ret)) (.skip)))) (.region 26 Qk false)):=rfl
def Oh{d i:Nat}(e:f i=a)(h:Nat.beq i d=false:=by exact rfl):ah f d v i=a:=(qVB (Nat.ne_of_beq_eq_false h)).tn e
def Ls{n t:Nat}(e:f t=v)(h:t<n:=by omega):(fa n f).eval (.tmp t)=v:=(fe h).tn e
def Tv:(fa n f).eval (.const v)=v:=rfl
def vq{x:M}:yW x x:=⟨rfl⟩
def XH{x:Bool}:x=x:=rfl
def dT[Decidable p](h:p)(e:true=r):decide p=r:=(decide_eq_true h).tn e
def dF[Decidable p](h:¬p)(e:false=r):decide p=r:=(decide_eq_false h).tn e
structure At(j:Nat)(p:Prop):Prop where h:p
structure Ac(j:Nat)(p:Prop):Prop where h:p
section
variable{ops:Array Kp}{oi:Kp}{i d n k j:Nat}{rest:List Nat}{f:Nat->M}{u w:H}{Q:Exit->Act->H->Prop}{md:Region.Mode}{L:Array Bool}{late:Nat->Bool}{R:Act->H->Prop}{fn:ba}{xs:Array ae}{ts:Array Lk}{v v':M}{args:Array M}
def XI(hi:ops[i]?=Y oi)(a:oi.dst=Y d)(c:Region.wanted oi (aw ops (fa n f).tmps)=true)(hB:X u u w)(h:∃v,(∀w',X u u w'->(Hn (fa n f).eval oi).run F w'=.ok (.value v) w')/\wpOps F ops Q rest (fa n (ah f d v)) w)(b:d<n:=by omega):wpOps F ops Q (i::rest) (fa n f) w:=let⟨v,hy,h⟩:=h;lV v hi a b c (hy w hB) h
def XJ(hi:ops[i]?=Y oi)(a:oi.dst=Y d)(c:Region.wanted oi (aw ops (fa n f).tmps)=false)(h:wpOps F ops Q rest (fa n (ah f d D)) w)(b:d<n:=by omega):wpOps F ops Q (i::rest) (fa n f) w:=lN hi a b c h
def Lv(o:Kp):Bool:=match o.op with|.call c=>(match c.callee with|.builtin _=>true|_=>false)|_=>true
def XO(_:Nat.blt j ops.size=true)(h:At (j+1) (wpAnyL F md ops (aR R) (λa=>X u u a) late k L (fa n f) w)):At j (wpAnyL F md ops (aR R) (λa=>X u u a) late k L (fa n f) w):=⟨h.h⟩
def XP(_:L.getD j true=false)(hi:ops[j]?=Y oi)(_:Lv oi=true)(b:oi.dst=Y d)(m:Region.wanted oi (aw ops (fa n f).tmps)=true)(hB:X u u w)
  (h:∃v,(∀w',X u u w'->(Hn (fa n f).eval oi).run F w'=.ok (.value v) w')/\At (j+1) (wpAnyL F md ops (aR R) (λa=>X u u a) late k (L.setIfInBounds j true) (fa n (ah f d v)) w))
  (g:d<n:=by omega)(l:Region.noSelect ops=true:=by kernel_rfl)(c:Region.free md ops L j=true:=by kernel_rfl)(i:(Region.ready md ops L).contains j=true:=by kernel_rfl)(e:nN md ops late j=true:=by kernel_rfl):At j (wpAnyL F md ops (aR R) (λa=>X u u a) late (k+1) L (fa n f) w):=let⟨v,hy,h⟩:=h;⟨tV v hi b g m l c i e hy hB h.h⟩
def XQ(_:L.getD j true=false)(hi:ops[j]?=Y oi)(b:oi.dst=Y d)(m:Region.wanted oi (aw ops (fa n f).tmps)=false)(hB:X u u w)
  (h:At (j+1) (wpAnyL F md ops (aR R) (λa=>X u u a) late k (L.setIfInBounds j true) (fa n (ah f d D)) w))
  (g:d<n:=by omega)(l:Region.noSelect ops=true:=by kernel_rfl)(c:Region.free md ops L j=true:=by kernel_rfl)(i:(Region.ready md ops L).contains j=true:=by kernel_rfl)(e:nN md ops late j=true:=by kernel_rfl):At j (wpAnyL F md ops (aR R) (λa=>X u u a) late (k+1) L (fa n f) w):=⟨tN hi b g m l c i e hB h.h⟩
def adc(_:Nat.blt j ops.size=true)(h:Ac (j+1) (wpAnyL F md ops (aR R) (λa=>X u u a) late k L (fa n f) w)):Ac j (wpAnyL F md ops (aR R) (λa=>X u u a) late k L (fa n f) w):=⟨h.h⟩
def Xs(fn:ba)(xs:Array ae)(a:Act)(u w:H)(p:M->H->Prop):Prop:=∃args v,xs.map a.eval=args/\(callFunc fn args).run F w=.ok (.enter fn args) w/\PH F fn args w (λe w'=>e=.returned v/\X w w w')/\∀w',X u u w'->p v w'
def XR(hi:ops[i]?=Y oi)(e:oi.op=.call {callee:=.value (.func fn),args:=xs,argTypes:=ts})(b:oi.dst=Y d)(g:Region.wanted oi (aw ops (fa n f).tmps)=true)(hB:X u u w)
  (h:Xs fn xs (fa n f) u w λv w'=>wpOps F ops Q rest (fa n (ah f d v)) w')(c:d<n:=by omega):wpOps F ops Q (i::rest) (fa n f) w:=
 let⟨_,_,ha,hf,hc,h⟩:=h;lC hi b c g (dm e ha rfl hf) hc λw' a=>h w' (hB.tn (a.mono hB.size))
def XS(_:L.getD j true=false)(hi:ops[j]?=Y oi)(g:oi.op=.call {callee:=.value (.func fn),args:=xs,argTypes:=ts})(c:oi.dst=Y d)(l:Region.wanted oi (aw ops (fa n f).tmps)=true)(hB:X u.heap.size u w)
  (h:Xs fn xs (fa n f) u w λv w'=>At (j+1) (wpAnyL F md ops (aR R) (λa=>X u.heap.size u a) late k (L.setIfInBounds j true) (fa n (ah f d v)) w'))(e:d<n:=by omega)(i:Region.ready md ops L=[j]:=by kernel_rfl):Ac j (wpAnyL F md ops (aR R) (λa=>X u.heap.size u a) late (k+1) L (fa n f) w):=
 let⟨_,_,ha,hf,hc,h⟩:=h;⟨tC i hi c e l (dm g ha rfl hf) hc λw' b=>⟨hB.tn (b.mono hB.size),(h w' (hB.tn (b.mono hB.size))).h⟩⟩
def kE(h:PH F fn args w λe w'=>e=.returned v/\w=w')(e:v=v'):PH F fn args w λe w'=>e=.returned v'/\X w w w':=h.mono λ_ _ h=>⟨e▸h.1,h.2▸X.refl _ _⟩
def kB(h:PH F fn args w λe w'=>e=.returned v/\X w w w')(e:v=v'):PH F fn args w λe w'=>e=.returned v'/\X w w w':=h.mono λ_ _ h=>⟨e▸h.1,h.2⟩
def ic(m:Nat){l:List Nat}{a:Act}(c:ops.size=m)(b:List.range m=l)(h:wpOps F ops Q l a w):Ly.wp F (.region id ops false) Q a w:=wF (by rw[c];exact b) h
def vB{a b:Bool}(h:a=b):M.bool a=.bool b:=h▸rfl
def vI{a b:Int}(h:a=b):M.int .i64 a=.int .i64 b:=h▸rfl
def Tn(hB:X u.heap.size u w){a:Act}(h:X u.heap.size u w.drew->At 0 (wpAnyL F .any ops Q (λb=>X u.heap.size u b) (λ_=>false) ops.size (Array.replicate ops.size false) a w.drew)):(Ly.region id ops true).wp F Q a w:=bK _ rR (h hB.drew).h
def XT{a:Act}(h:aR R .normal a w)(b:Region.ready md ops L=[]:=by kernel_rfl):Ac j (wpAnyL F md ops (aR R) (λc=>X u u c) late k L a w):=⟨cH b h k⟩
def Xt(h:Ac 0 p):At j p:=⟨h.h⟩
end
section
variable{Z:ae->M}{o:Kp}{w:H}{x y:ae}{v:M}{a c:Int}{t g i:Nat}
theorem Uw{k:Nat}{vs:Array M}(c:o.op=.extract x k)(d:Z x=.tuple vs)(a:vs[k]?=Y v):(Hn Z o).run F w=.ok (.value v) w:=by
 have b:=(ec.1 a).1;unfold Hn;simp only[c,d];simp[go_sem,b,(ec.1 a).2]
theorem Vw(b:o.op=.convert 5 3 x)(c:Z x=.int .u8 a)(h:0<=a/\a<=255)(e:yW (.int .i64 a) v):(Hn Z o).run F w=.ok (.value v) w:=by
 obtain⟨rfl⟩:=e;unfold Hn;simp only[b,c];go_simp;rw[Go.IntWalk.i64_in _ zz]
theorem XY(d:o.op=.binOp .rem 3 x y 3)(f:Z x=a)(g:Z y=c)(b:0<=a/\a<=1000)(hc:0<c/\c<=1000)(e:yW (.int .i64 (a%c)) v):(Hn Z o).run F w=.ok (.value v) w:=by
 obtain⟨rfl⟩:=e;unfold Hn;simp only[d,f,g];go_simp;rw[qVB zz,Int.tmod_eq_emod_of_nonneg b.1]
end
structure Qz(q:Prop):Prop where h:q
def Tw{p q:Prop}(d:q)(h:Qz q->p:=by intro hqq;(repeat (first|((first|refine XI rfl rfl ?_ hB ?_|refine XP rfl rfl rfl rfl ?_ hB ?_);(first|exact bY rfl|(refine eE rfl rfl ?_ ?_;omega;focus ((repeat (first|exact au _ _ _|assumption|refine Oh ?_));done)));refine⟨?_,λf e=>?_,?_⟩;rotate_left;focus ((first|refine bq (.inl rfl) ?_|refine bq (.inr rfl) ?_|(refine TH (g:=?_) (off:=?_) rfl rfl ?_ ?_;rotate_left 2)|(refine abe (g:=?_) (off:=?_) rfl rfl ?_ ?_;rotate_left 2)|(refine aa6 (r:=?_) rfl ?_ ?_;rotate_left 1)|(refine Vh (r:=?_) (q:=?_) (p:=?_) rfl ?_ ?_ ?_ ?_;rotate_left 3)|(refine Sr (a:=?_) (b:=?_) (r:=?_) rfl rfl ?_ ?_ ?_ ?_;rotate_left 3)|(refine j0 (r:=?_) rfl ?_ ?_;rotate_left 1)|(refine Vj (g:=?_) (off:=?_) (m:=?_) (cp:=?_) (k:=?_) rfl rfl ?_ ?_ ?_ ?_;rotate_left 5)|(refine SF (A:=?_) (m:=?_) (cp:=?_) rfl rfl rfl ?_ ?_;rotate_left 3)|(refine E4 (a:=?_) (b:=?_) rfl ?_ ?_ ?_ ?_;rotate_left 2)|(refine AW (a:=?_) (b:=?_) rfl ?_ ?_ ?_ ?_;rotate_left 2)|(refine gE (g:=?_) (B:=?_) rfl ?_ ?_ ?_;rotate_left 2)|(refine Vw (a:=?_) rfl ?_ ?_ ?_;rotate_left 1)|(refine XY (a:=?_) (c:=?_) rfl ?_ ?_ ?_ ?_ ?_;rotate_left 2)|(refine Uw (vs:=?_) rfl ?_ ?_;rotate_left;(focus (refine Ls ?_;(repeat (first|exact au _ _ _|assumption|refine Oh ?_));done));exact rfl));all_goals first|(refine Ls ?_;(repeat (first|exact au _ _ _|assumption|refine Oh ?_));done)|exact Tv|((first|refine(qWB rfl).tn ?_|refine(qVB Bool.false_ne_true).tn ?_);first|(refine Ls ?_;(repeat (first|exact au _ _ _|assumption|refine Oh ?_));done)|exact Tv)|assumption|(refine Eq.tn (Below.cell (B:=?_) (w:=?_) ?_ ?_) ?_;rotate_left 2;assumption;assumption;assumption)|(refine Eq.tn (Below.block (B:=?_) (w:=?_) ?_ _ ?_) ?_;rotate_left 2;assumption;assumption;assumption)|(refine dT ?_ ?_;omega;exact rfl)|(refine dF ?_ ?_;omega;exact rfl)|(unfold Sm;omega)|omega|exact vq|exact XH))|((first|refine XJ rfl rfl ?_ ?_|refine XQ rfl rfl rfl ?_ hB ?_);(focus refine jc rfl rfl ?_ ?_;omega;(repeat (first|exact au _ _ _|assumption|refine Oh ?_));done))|refine XO rfl ?_));exact hqq.h):p:=h ⟨d⟩
def rr(h:p:=by((first|(refine Tn hB ?_;intro hB)|refine ic 1 rfl rfl ?_|refine ic 2 rfl rfl ?_|refine ic 3 rfl rfl ?_|refine ic 4 rfl rfl ?_|refine ic 5 rfl rfl ?_|refine ic 6 rfl rfl ?_|refine ic 7 rfl rfl ?_|refine ic 8 rfl rfl ?_|refine ic 9 rfl rfl ?_|refine ic 14 rfl rfl ?_);refine Tw ?_;(try refine Xt ?_);(repeat (first|(((first|refine XR rfl rfl rfl ?_ hB ?_|refine XS rfl rfl rfl rfl ?_ hB ?_);(first|exact bY rfl|(refine eE rfl rfl ?_ ?_;omega;focus ((repeat (first|exact au _ _ _|assumption|refine Oh ?_));done)));refine⟨?_,?_,?_,?_,?_,λd hB=>?_⟩;rotate_left 2;(focus ((first|(refine XF (a:=?_) ?_;rotate_left 1)|(refine MJ (a:=?_) (b:=?_) ?_ ?_;rotate_left 2)|(refine MK (a:=?_) (b:=?_) (c:=?_) ?_ ?_ ?_;rotate_left 3));all_goals first|(refine Ls ?_;(repeat (first|exact au _ _ _|assumption|refine Oh ?_));done)|exact Tv));exact rfl;(first|exact hc _ hB|exact hcon _ hB|((first|refine kE (bz _ _ _ _) ?_|(refine kB (rH _ _ ?_ ?_ _) ?_;assumption;assumption)|(refine kB (rI _ _ ?_ _) ?_;assumption));(first|(refine vB (b:=?_) ?_;rotate_left;assumption)|(refine vI (b:=?_) ?_;rotate_left;assumption)|exact rfl))));refine Tw ?_;(try refine Xt ?_))|refine adc rfl ?_));(first|refine XT ?_|refine lE ?_);refine Rs.mk hB (λi hi=>?_) ?_;(focus ((repeat (refine(cu _ _ ?_).tn ?_;omega));exact rfl));(first|exact rfl|exact⟨rfl,rfl⟩|exact⟨rfl,rfl,rfl⟩|exact qYB|(simp;done)))):p:=h
def bn{x y:Ly}(u:H)(keep:Nat->Prop)(p:(Nat->M)->Prop)(h:Ly.wp F x (aR (Rs N u f keep p)) (fa N f) w)(next:∀f' w',X u u w'->(∀i,keep i->f' i=f i)->p f'->Ly.wp F y Q (fa N f') w'):Ly.wp F (.seq x y) Q (fa N f) w:=
 wp_seq (wp_mono h λe a w' d=>by
  obtain⟨rfl,f',rfl,b,h2,c⟩:=d.elim;exact next f' w' b h2 c)
def To{x:Ly}(u:H)(keep:Nat->Prop)(p:(Nat->M)->Prop)(h:Ly.wp F x (aR (Rs N u f keep p)) (fa N f) w)(next:∀f' w',X u.heap.size u w'->(∀i,keep i->f' i=f i)->p f'->Q .normal (fa N f') w'):Ly.wp F x Q (fa N f) w:=
 wp_mono h λe a w' d=>by
  obtain⟨rfl,f',rfl,b,h2,c⟩:=d.elim;exact next f' w' b h2 c
end
variable{l:List (Int×Int)}{N:Nat}{u:H}{keep:Nat->Prop}{p:(Nat->M)->Prop}{x y:Ly}{b:aC}
def Ni{n t k:Nat}{f:Nat->M}(h:t<n)(e:f t=k):(intOf ((fa n f).tmps.getD t D)).toNat=k:=by
 rw[Array.getD_eq_getD_getElem?,ej h,e];simp[intOf]
def Lp(N:Nat)(u:H)(f:Nat->M)(R:Int)(e:Exit)(a:Act)(w:H):Prop:=(e=.normal/\R=0/\∃f',a=fa N f'/\X u u w/\f' 1=f 1)\/(e=.ret/\R≠0/\∃f',a=fa N f'/\X u u w/\f' 2=.int .i64 R)
def TK(a4:aK u g 31 b)(a5: -1000<=b.S)(a6:b.S<=1000)(K:f 1=(g,0))(a3:g<u)(x10:u (g,10)=Y (.slice b.U.A b.U.n b.U.c))(C:bp u b.U l)(h4:f 4=.int .i64 (0:Nat))(hB:X u u w):
  Ly.wp F (.block 0 (.loop ux)) (Lp 119 u f (nD b.S l)) (fa 119 f) w:=by
 have ø:=0;exact sT
def TL(x6:u (g,6)=Y (.int .i64 b.rf))(a':2<=b.rf)(a0:b.rf<=30)(x9:u (g,9)=Y (.int .i64 b.ch))(K:f 1=(g,0))(a3:g<u)(x11:u (g,11)=Y (.slice b.E.A b.E.n b.E.c))(C:bp u b.E l)(h5:f 5=.int .i64 (0:Nat))(hB:X u u w):
  Ly.wp F (.block 2 (.loop uy)) (Lp 119 u f (nF b.rf b.ch l)) (fa 119 f) w:=by
 have å:=0;exact sT
def TM{l:List (Int×Int×Bool)}(a4:aK u g 31 b)(b1:b.U.n<=1000)(a5: -1000<=b.S)(a6:b.S<=1000)(K:f 1=(g,0))(a3:g<u)(x12:u (g,12)=Y (.slice b.W.A b.W.n b.W.c))(C:fL u b.W l)(h6:f 6=.int .i64 (0:Nat))(hB:X u u w):
  Ly.wp F (.block 4 (.loop za)) (Lp 119 u f (qi b.S b.U.n l)) (fa 119 f) w:=by
 have æ:=0;exact sT
variable{x:ae}
theorem B8{b:aC}(c:o.op=.box 31 x)(a:Z x=b.v):(Hn Z o).run F w=.ok (.value (.pointer (Y (w.heap.size,0)))) (w.alloc (aE b 31)):=by
 unfold aC.v at a;unfold Hn;simp only[c,a];unfold aE;go_simp;try rfl
def ZO{f:Nat->M}{r:Int}{w:H}(h:f 2=r):(results Tryz.f18 (fa 119 f).tmps).run F w=.ok (.int .i64 r) w:=by
 have e:(fa 119 f).tmps[2]?=Y (.int .i64 r):=by rw[ej zz,h]
 generalize(fa 119 f).tmps=A at e;unfold results Tryz.f18;simp[e]
def mm(b:aC)(l:pK)(w:H)(j:aI w b l):
  PH F 18 #[b.v] w λe w'=>e=.returned (.int .i64 (ay b l))/\X w w w':=by
 refine gy 119 Tryz.func18 (c:=fG) rfl rfl λf a1=>?_;have f0:f 0=b.v:=a1 _;clear a1;rw[ML];refine wp_seq (wF (l:=[0,1]) rfl ?_);refine lV (d:=1) (.pointer (Y ⟨w.heap.size,0,I⟩)) rfl rfl zz wnn (B8 rfl (ag (t:=0) zz f0)) ?_;refine lV (d:=2) (.int .i64 0) rfl rfl zz wnn (bq (.inr rfl) rfl) ?_;refine lE ?_;have x:aK (w.alloc (aE b 31)) w 31 b:=Sp _ _;have A:X w w (w.alloc (aE b 31)):=(X.refl _ _).alloc (qN _) _;have a5:(w.alloc (aE b 31)).heap.size=w.heap.size+1:=aa _ _;have j:=j.below A;have e1:ah (ah f 1 (.pointer (Y (w.heap.size,0)))) 2 (.int .i64 0) 1=.pointer (Y (w.heap.size,0)):=rfl;generalize ah (ah f 1 (.pointer (Y ⟨w.heap.size,0,I⟩))) 2 (.int .i64 0)=f1 at e1|-;generalize w.alloc (aE b 31)=u at x A a5 j|-;have C:(w:Nat)<u:=zz;generalize O:w.heap.size=g at e1 x C;have hB:X u u u:=X.refl _ _;have n:∀{f' w'},X u u w'->∀{r},f' 2=.int .i64 r->ay b l=r->bodyPost F Tryz.f18 (λe w'=>e=.returned (.int .i64 (ay b l))/\X g w w') .ret (fa 119 f') w':=λhB r h2 k=>by
  subst k;exact bd (v:=.int .i64 (ay b l)) (ZO h2) rfl ⟨rfl,O▸A.tn (hB.mono A.size)⟩
 obtain⟨r,k⟩:∃r,dZ b l.C=r:=⟨_,rfl⟩;have hc:=λw1 (h:X u.heap.size u w1)=>kB (Ic b l.C w1 (j.C.below h)) (vI k);refine wp_seq (bn u (λi=>i<7/\i≠3) (λf'=>f' 3=.int .i64 r) rr λf2 w2 hB k2 q2=>?_);have e1:=(k2 1 zz).tn e1;clear hc;cases J:(r != 0);rotate_left
 .refine bn u (· < 7) (λf'=>f' 10=.bool true) rr λf3 U hB p o=>wp_cond_true (ag zz o) ?_;have e3:=(p 3 zz).tn q2;refine bn u (λi=>i<7/\i≠2) (λf'=>f' 2=.int .i64 r) rr λV w4 hB Q z=>wp_ret ?_;refine n hB z ?_;have B:r≠0:=by simpa using J
  rw[<- k]at B|-;unfold dZ at B|-;unfold ay;split
  .rfl
  .rename_i O;rw[qVB O]at B;rw[qWB B]
 .have a4:r=0:=by simpa using J
  refine bn u (· < 7) (λf'=>f' 10=.bool false) rr λf3 U hB p o=>wp_cond_false (ag zz o) (wp_skip ?_);have e1:=(p 1 zz).tn e1;rw[a4]at k;clear k2 p q2 o J;have P:cA b l.C=0:=by
   by_cases h:cA b l.C=0
   .exact h
   .unfold dZ at k;rw[qWB h]at k;exact mi k h
  have Z:cZ b=0:=by unfold dZ at k;rw[qVB (by simp[P])]at k;exact k
  obtain⟨t1,t2,t3,t4,t5,t6,t7,t8,t9,b3,b4⟩:=cS P;obtain⟨u1,u2,u3,u4,u5,u6,u7,u8,u9⟩:=wL Z;have HK:ay b l=if fH b.S l.U≠0 then fH b.S l.U else if fT b.rf b.ch l.E≠0 then fT b.rf b.ch l.E else ki b.S l.U.length l.W:=by
   rw[ay,qVB (by simp[P]),qVB (by simp[Z])]
  obtain⟨x0,x1,x2,x3,x4,x5,x6,x7,x8,x9,a6,a7,a8⟩:=aM x;have N:b.U.n=l.U.length:=j.U.1;have a0:l.U.length<=1000:=j.U.2.2.1;have a':b.E.n=l.E.length:=j.E.1;have b2:b.W.n=l.W.length:=j.W.1;refine wp_seq ?_;cases hF:ax (b.U.n:Nat) 1 4
  .refine bn u (· < 7) (λf'=>f' 16=.bool true) rr λf3 U hB p o=>wp_cond_true (ag zz o) ?_;refine bn u (λi=>i<7/\i≠2) (λf'=>f' 2=(2:Int)) rr λV w4 hB Q z=>wp_ret (n hB z ?_);have:fH b.S l.U=2:=by rw[fH,<- N,qVB (by simp[hF])]
   rw[HK,this];rfl
  .refine bn u (· < 7) (λf'=>f' 16=.bool false) rr λf3 U hB p o=>wp_cond_false (ag zz o) (wp_skip ?_);have e1:=(p 1 zz).tn e1;have a2:fH b.S l.U=nD b.S l.U:=by rw[fH,<- N,qWB hF]
   rw[a2]at HK;refine wp_seq (bn u (λi=>i<7/\i≠4) (λf'=>f' 4=(0:Int)) rr λV w4 hB Q z=>?_);have e1:=(Q 1 zz).tn e1;refine wp_mono (TK x zz zz e1 C a6 j.U z hB) λe a w5 y=>?_;rcases y with⟨rfl,K,f5,rfl,hB,R⟩|⟨rfl,K,f5,rfl,hB,R⟩;rotate_left
   .exact n hB R (by rw[HK,qWB K])
   have e1:=R.tn e1;rw[qVB (by simp[K])]at HK;refine wp_seq ?_;by_cases a9:3<b.E.n
   .refine bn u (· < 7) (λf'=>f' 44=.bool true) rr λf6 w6 hB k6 S=>wp_cond_true (ag zz S) ?_;refine bn u (λi=>i<7/\i≠2) (λf'=>f' 2=(2:Int)) rr λf7 E hB q m=>wp_ret (n hB m ?_);have:fT b.rf b.ch l.E=2:=by rw[fT,qWB zz]
    rw[HK,this];rfl
   .refine bn u (· < 7) (λf'=>f' 44=.bool false) rr λf6 w6 hB k6 S=>wp_cond_false (ag zz S) (wp_skip ?_);have e1:=(k6 1 zz).tn e1;have a3:fT b.rf b.ch l.E=nF b.rf b.ch l.E:=by rw[fT,qVB zz]
    rw[a3]at HK;refine wp_seq (bn u (λi=>i<7/\i≠5) (λf'=>f' 5=(0:Int)) rr λf7 E hB q m=>?_);have e1:=(q 1 zz).tn e1;refine wp_mono (TL x6 zz zz x9 e1 C a7 j.E m hB) λe a w8 y=>?_;rcases y with⟨rfl,L,G,rfl,hB,s⟩|⟨rfl,L,G,rfl,hB,s⟩;rotate_left
    .exact n hB s (by rw[HK,qWB L])
    have e1:=s.tn e1;rw[qVB (by simp[L])]at HK;refine wp_seq ?_;by_cases b1:4<b.W.n
    .refine bn u (· < 7) (λf'=>f' 91=.bool true) rr λf9 w9 hB k9 T=>wp_cond_true (ag zz T) ?_;refine bn u (λi=>i<7/\i≠2) (λf'=>f' 2=(2:Int)) rr λf7 E hB q m=>wp_ret (n hB m ?_);rw[HK,ki,qWB zz]
    .refine bn u (· < 7) (λf'=>f' 91=.bool false) rr λf9 w9 hB k9 T=>wp_cond_false (ag zz T) (wp_skip ?_);have e1:=(k9 1 zz).tn e1;rw[ki,qVB zz,<- N]at HK;refine wp_seq (bn u (λi=>i<7/\i≠6) (λf'=>f' 6=(0:Int)) rr λf7 E hB q m=>?_);have e1:=(q 1 zz).tn e1;refine wp_mono (TM x zz zz zz e1 C a8 j.W m hB) λe a w8 y=>?_;rcases y with⟨rfl,W,G,rfl,hB,s⟩|⟨rfl,W,G,rfl,hB,s⟩;rotate_left
     .exact n hB s HK
     refine bn u (λi=>i<7/\i≠2) (λf'=>f' 2=(0:Int)) rr λf7 E hB q m=>wp_ret (n hB m ?_);rw[HK,W]
end Go.Proofs.YtiffpgohclmlmaaGreatDoor
namespace Go.Co
open Go.Conc
variable{P:Ps}{main:Bool}{Stop:(Nat->Prop)->(Nat->Prop)->QP->H->Prop}{T:gq}{w:H}
def cutAt:Nat->Ly->Ly
 | n+1,.seq a b=>.seq a (cutAt n b)
 | _,_=>.refuse "cut"
def RI:Nat->Ly->Ly
 | n+1,.seq _ b=>RI n b
 | _,c=>c
def aal{N:Nat}{ρ0 ρ1:Ren}{W0 w0:H}{V0 V O O0:Nat->Prop}{f:ba}{c c':Ly}{tm0 tm:Array M}{k:List Item}{cs:List Kf}{Q1:Array M->H->Prop}
  (a4:∀f,T.has f=true->dX T P f=true)(hc:wC T P (T.kind f) c c')(a2:ir T P N V0 O0 w0 ρ0 ρ1 W0 w V O)(b1:KR (T.kind f) ρ1 tm0 tm)
  (b2:∀j,nA P c (λ_ _=>False) (λa W=>a.defers=[]/\Q1 a.tmps W) ⟨tm0,[]⟩ (tp W0 j W0.drawn))
  (a3:∀Z x b i bj p q,Q1 x b->KR (T.kind f) Z x i->ir T P N V0 O0 w0 ρ0 Z b bj p q->WalkE P main Stop p q (G ((bs .normal f).at ⟨i,[]⟩ (.code T.rest::k)) cs) bj):
  WalkE P main Stop V O (G ((bs .normal f).at ⟨tm,[]⟩ (.code c'::k)) cs) w:=by
 let Post:Kf->H->Prop:=λfr W=>∃a:Act,a.defers=[]/\fr=(bs .normal f).at a [.code (.refuse "cut")]/\Q1 a.tmps W
 let s:LS:=⟨(bs .normal f).at ⟨tm0,[]⟩ [.code c],[c0],W0⟩
 have u:oz P true Post s:=by
  intro j;obtain⟨a,b,⟨m,-⟩|⟨⟨l,o⟩,a5⟩⟩:=b2 j (bs .normal f) [c0]
  .exact m.elim
  .exact⟨j,λ_ _=>rfl,_,b,steps_iff.1 a5,⟨rfl,rfl,.inr rfl⟩,a,l,rfl,o⟩
 have d:Nh T P N k [] (cs,.normal) V0 O0 w0 ρ0 ρ1 s ((bs .normal f).at ⟨tm,[]⟩ (.code c'::k)) cs w V O:=
  ⟨a2,.bottom (co:=(cs,.normal)) ⟨rfl,b1,⟨[.code c'],rfl,.cons (.cut hc) .nil⟩,⟨[],rfl,.nil⟩,rfl,.inl rfl,⟨rfl,λe=>by cases e⟩,.none⟩ rfl rfl⟩
 refine(lift (Stop:=λV O g bj=>WalkE P main Stop V O g bj) a4 (λh=>by cases h) (λZ eI b da bj V O d b8 a0=>?_) (kN u) d u).bind λV O g w h=>h;obtain⟨a,l,rfl,o⟩:=a0;obtain⟨k0,b7,m,a6,-⟩:=d.stk.top;obtain⟨a8,a7, -, b9,a9⟩:=a6 rfl;subst a8 a7;obtain⟨f',i,b6,y,b5,b4,v⟩:=da;obtain⟨J,h2,⟨t,K,L⟩,⟨t',R,S⟩,U, -, -, h9⟩:=m;have e1:f'=f:=J;have z:b4=.normal:=a9;have A:b5=.run:=U;have B:v=I:=by
  have a1:RD Z I v:=h9;cases a1;rfl
 have C:b6=.code T.rest::k0:=by
  have Q:L2 (xH T P f Z) [.code (.refuse "cut")] t:=L
  cases Q with
  | cons b3 a'=>
   cases a'
   cases b3 with
   | code n=>simp[ez]at n
   | cut n=>
    cases n with
    | stop=>exact K
    | deadzz h=>exact mi rfl h
 have E:y=[]:=by
  have r:L2 (FK Z) a.defers t':=S;rw[l]at r;cases r;exact R
 subst e1 z A B C E;exact a3 Z a.tmps b i bj V O o h2 d.m
end Go.Co
namespace Go.Proofs.YtiffpgohclmlmaaGreatDoor
open Go.RowKit Go.Co
variable{p:Prop}{w w':H}{B n g:Nat}{v v0 v1 u v':M}{L:List Int}{Z:ae->M}{o:Kp}{x y:ae}{a c:Int}
def pL(h:p:=by first|(refine Ls ?_;(repeat (first|exact au _ _ _|assumption|refine Oh ?_));done)|exact rfl):p:=h
def QA(h:p:=by(repeat (refine(cu _ _ ?_).tn ?_;omega));exact rfl):p:=h
def ES(w:H)(B:Nat)(v:M)(L:List Int):Prop:=∃A c,v=.slice A L.length c/\w.ownsRow B 3 1 (.slice A L.length c) L.length (L.map (M.int .i64))
def ab9(h:w.ownsRow B 3 1 v L.length (L.map (M.int .i64))):ES w B v L:=by
 obtain⟨A,c,rfl⟩:=tK h;exact⟨A,c,rfl,h⟩
def ES.up(h:ES w B v L)(a:X w w w'):ES w' B v L:=let⟨A,c,h1,h2⟩:=h;⟨A,c,h1,rK h2 a⟩
def ES.ints(h:ES w B v L)(a:L.length<=1000):∃s:Sl,v=.slice s.A s.n s.c/\eC w s L:=by
 obtain⟨A,c,rfl,h2⟩:=h;exact⟨⟨A,L.length,c⟩,rfl,Jf h2 rfl a⟩
def Rn(w:H)(p:List Int×Int)(v:M)(w':H):Prop:=∃A c,v=.tuple #[.slice A p.1.length c,.int .i64 p.2]/\w'.ownsRow w.heap.size 3 1 (.slice A p.1.length c) p.1.length (p.1.map (M.int .i64))/\X w w w'
def TP{t ty e:Lk}{i:TypeInfo}{B n m:Nat}{xs:List M}(b:F.underlying t=Y (.slice e))(hi:F.info? e=Y i)(a:w.ownsRow B e n v m xs){A:Option Addr}{c:Nat}:(Builtin.append_ #[t,t] ty #[v,.slice A 0 c]).run F w=.ok v w:=by
 rcases a.2 with⟨rfl,rfl⟩|⟨g,d,f,rfl,_,_,h,_⟩<;>cases A<;>simp[Builtin.append_,run_underlying b,sizeOf,typeInfo,Builtin.lenOf,Builtin.firstCells,storeCells,loadCells,loadCellsFrom, *]
def TQ{xs L:List Int}{s:Sl}(c:w.ownsRow B 3 1 v xs.length (xs.map (M.int .i64)))(d:xs.length<=1000)(o:eC w s L)(hB:B<=w.heap.size):
  ∃v' w',(Builtin.append_ #[24,24] 24 #[v,.slice s.A s.n s.c]).run F w=.ok v' w'/\w'.ownsRow B 3 1 v' (xs++L).length ((xs++L).map (M.int .i64))/\w.grownBy w' v.ownBlock:=by
 obtain⟨i0,hi,q,r,t⟩:=info_parts vD;obtain⟨a,hc,z,l⟩:=o;by_cases f:L.length=0
 .have k:=List.length_eq_zero_iff.1 f;subst k;rw[a];refine⟨v,w,TP Tryz.underlying24 hi c,by rw[List.append_nil];exact c,?_⟩;exact⟨rfl,rfl,rfl,qN _,λ_ _ _=>rfl⟩
 .obtain⟨b,off,i,y,m⟩:=l zz;obtain⟨v',w',g,h2,h, -,-⟩:=gU w B 24 24 3 i0 (.int .i64 0) 1 8 Tryz.underlying24 hi q r t rfl dd v xs.length _ c ⟨b,off,I⟩ s.n s.c (L.map (M.int .i64)) (by simp[a]) (λj u e=>by
   rw[List.getElem?_map]at e;obtain⟨x,d,rfl⟩:=Option.map_eq_some_iff.1 e;have n:=(List.getElem?_eq_some_iff.1 d).1;have:=m j n;rw[show L.getD j 0=x by simp[List.getD,d]]at this;rw[show(⟨b,off,I⟩:Addr).add j=⟨b,off+j,I⟩ by unfold Addr.add;split<;>simp_all];exact this) (λu p=>by
   obtain⟨x, -, rfl⟩:=List.mem_map.1 p;rfl) (by unfold maxLen;omega) zz hB
  rw[i];refine⟨v',w',g,?_,h⟩;rw[kl,mr,<- a];exact h2
def abp(a:o.op=.call {callee:=.builtin .append,args:= #[x,y],argTypes:= #[24,24]})(b:o.type=24)(c:Z x=v)(d:Z y=u)(h:(Builtin.append_ #[24,24] 24 #[v,u]).run F w=.ok v' w'):(Hn Z o).run F w=.ok (.value v') w':=by
 unfold Hn;simp only[a,b,ab,invoke,builtin,Sem.run_bind,Sem.run_pure,Result.andThen_ok,zM,c,d,h]
theorem aci(a:o.op=.buildSlice 24 0 #[]):(Hn Z o).run F w=.ok (.value (.slice (Y (w.heap.size,0)) 0 0)) (w.alloc (.cells #[] 3)):=by
 unfold Hn;simp only[a,zM];go_simp
def Yi{ops:Array Kp}{oi:Kp}{j n g:Nat}{t:Bool}{f:Nat->M}(b:oi.guard=Y (j,t))(c:(ops[j]?).bind (·.dst)=Y g)(a:f g=.bool t)(d:g<n:=by omega):Region.wanted oi (aw ops (fa n f).tmps)=true:=eE b c d a
def qM(h:p:=by(repeat (first|assumption|(apply Eq.tn;(apply_assumption -symm -exfalso<;>omega))))):p:=h
def blk{o:Obj}(h:w.heap[g]?=Y o)(a:X w w w'):w'.heap[g]?=Y o:=(a.block _ (ec.1 h).1).tn h
def aaK{x y:Ly}{R:Act->H->Prop}{a:Act}{Q0 Q1:Act->H->Prop}(h:Ly.wp F x (aR R) a w)(next:∀b w',R b w'->nA F y Q0 Q1 b w'):nA F (.seq x y) Q0 Q1 a w:=
 mG (wp_mono h λe a w' c=>by
  obtain⟨rfl,h⟩:=c.elim;exact⟨rfl,next a w' h⟩)
open Go.Conc
def r7:Ly:=match Tryz.f3.body with|some c=>c|_=>.skip
def adw:Array Kp:=br [0] r7
def acW:Array Kp:=br [1,0,0] r7
def Yo:Array Kp:=br [1,0,1,4,0] r7
def acX:Array Kp:=br [1,1,0] r7
def acn:Array Kp:=br [1,1,1,0] r7
def abZ:Array Kp:=br [1,1,1,1,0] r7
def ab0:Array Kp:=br [1,1,1,1,1,0] r7
def ab1:Array Kp:=br [1,1,1,1,1,1,0,0] r7
def ab2:Array Kp:=br [1,1,1,1,1,1,1,0,0] r7
def Uq:Array Kp:=br [1,1,1,1,1,1,1,0,1,4,0] r7
def aco:Array Kp:=br [1,1,1,1,1,1,1,1,0] r7
def acp:Array Kp:=br [1,1,1,1,1,1,1,1,1,0,0] r7
def Cf:Ly:=dk [1,1,1,1,1,1,1,1,1,0,1,2,3] r7
def acr:Array Kp:=br [0,0] Cf
def abf:Array Kp:=br [1,0,2,0] Cf
def abg:Array Kp:=br [1,0,2,1,0,0] Cf
def ac4:Array Kp:=br [1,0,2,1,0,1,4,0] Cf
def acs:Array Kp:=br [1,0,2,1,1,0,0] Cf
def acu:Array Kp:=br [1,0,2,1,1,1,0] Cf
def acv:Array Kp:=br [1,0,2,1,1,1,1,0] Cf
def acw:Array Kp:=br [1,0,2,1,1,1,1,1,0,0] Cf
def ac5:Array Kp:=br [1,0,2,1,1,1,1,1,0,1,4,0] Cf
def acz:Array Kp:=br [1,0,2,1,1,1,1,1,1] Cf
def acA:Array Kp:=br [1,1] Cf
def acB:Array Kp:=br [1,1,1,1,1,1,1,1,1,1,0] r7
def abh:Array Kp:=br [1,1,1,1,1,1,1,1,1,1,1,0,0] r7
def Ut:Array Kp:=br [1,1,1,1,1,1,1,1,1,1,1,0,1,4,0] r7
def acC:Array Kp:=br [1,1,1,1,1,1,1,1,1,1,1,1,0,0] r7
def abk:Array Kp:=br [1,1,1,1,1,1,1,1,1,1,1,1,1,0,0] r7
def Uu:Array Kp:=br [1,1,1,1,1,1,1,1,1,1,1,1,1,0,1,4,0] r7
def ac6:Array Kp:=br [1,1,1,1,1,1,1,1,1,1,1,1,1,1,0] r7
def Uv:Array Kp:=br [1,1,1,1,1,1,1,1,1,1,1,1,1,1,1,0] r7
def acD:Cf=.seq (.seq (.region 13 acr false) (.cond (.tmp 81) (.skip) (.exit 0))) (.seq (.block 1 (.seq (.region 15 abf true) (.seq (.seq (.region 16 abg false) (.cond (.tmp 110) (.seq (.region 17 ac4 false) (.ret)) (.skip))) (.seq (.seq (.region 18 acs false) (.cond (.tmp 112) (.exit 1) (.skip))) (.seq (.region 19 acu false) (.seq (.region 20 acv false) (.seq (.seq (.region 21 acw true) (.cond (.tmp 148) (.seq (.region 22 ac5 false) (.ret)) (.skip))) (.region 23 acz false)))))))) (.region 14 acA false)):=rfl
def M1{S:Int}:∀{l:List Int} {p:Option Int},bS S p l=0->(∀x∈l,0<=x/\x<S/\∀y,p=Y y->y<x)/\l.Pairwise (· < ·)
 | [],_,_=>⟨λx b=>by simp at b,List.Pairwise.nil⟩
 | n::r,p,h=>by
  unfold bS at h;by_cases f:ax n 0 (S-1)=false
  .rw[qWB f]at h;cases h
  .rw[qVB f]at h;obtain⟨g,h⟩:(∀y,p=Y y->y<n)/\bS S (Y n) r=0:=by
    cases p with
    | none=>exact⟨λy e=>(by cases e),by simpa using h⟩
    | some y=>
     by_cases h2:n<=y
     .simp[h2]at h
     .exact⟨λz e=>(by cases e;omega),by simpa[h2]using h⟩
   rw[Bool.not_eq_false,cq]at f;obtain⟨i,j⟩:=M1 h;refine⟨λx b=>?_,List.pairwise_cons.2 ⟨λx b=>(i x b).2.2 n rfl,j⟩⟩;rcases dq.1 b with rfl|b
   .exact⟨f.1,zz,g⟩
   .obtain⟨a,c,d⟩:=i x b;exact⟨a,c,λy e=>by have:=g y e;have:=d n rfl;omega⟩
def QF{S:Int}:∀{l:List Int} {p:Option Int},(∀x∈l,0<=x/\x<S/\∀y,p=Y y->y<x)->l.Pairwise (· < ·)->bS S p l=0
 | [],_,_,_=>rfl
 | n::r,p,h,f=>by
  obtain⟨a,c,d⟩:=h n ss;obtain⟨g,i⟩:=List.pairwise_cons.1 f;unfold bS;rw[qVB (by rw[Bool.not_eq_false,cq];omega),qVB (by
   cases p with
   | none=>simp
   | some y=>have:=d y rfl;simp;omega)]
  exact QF (λx b=>⟨(h x (by simp[b])).1,(h x (by simp[b])).2.1,λy e=>by cases e;exact g x b⟩) i
def Xq{b:aC}{C:List Int}{most:Nat}(c:b.S<=12)(a:b.hi-b.lo<3)(d:most<=2):(gT b C most).length<=471:=by
 have h:=λk=>Ar C (S:=b.S.toNat) zz a k mI 0;have e:=h 0;have f:=h 1;have h2:=h 2;unfold gT tP;rcases(show most=0\/most=1\/most=2 by omega)with rfl|rfl|rfl<;>simp[List.range']<;>omega
variable{b:aC}{l:pK}{sh:Int}{ds:List Nat}
def compact_all{zs:List Int}{x:Int}(h:x∈zs):x∈Lib.compact zs:=by
 have key:∀i,i<zs.length->zs.toArray[i]! ∈ Lib.compact zs:=λi=>by
  induction i with
  | zero=>exactλhi=>List.mem_map.2 ⟨0,List.mem_filter.2 ⟨List.mem_range.2 hi,Lib.keeps_lt_one _ 0 zz⟩,rfl⟩
  | succ i a=>
   intro hi;by_cases e:zs.toArray[i+1]! = zs.toArray[i]!
   .rw[e];exact a zz
   .exact List.mem_map.2 ⟨i+1,List.mem_filter.2 ⟨List.mem_range.2 hi,Lib.keeps_pos e⟩,rfl⟩
 obtain⟨i,hi,rfl⟩:=List.getElem_of_mem h;have:=key i hi;simpa[hi]using this
variable{x lo hi:Int}{most S i:Nat}{L:List (Int×(Nat->Bool))}{C C':List Int}
def range_one{lo x:Int}(h:lo<=x):∀n:Nat,(((List.range n).map λ(i:Nat)=>lo+i).filter λy=>decide (y=x))=if x<lo+n then[x]else[]:=λn=>by
 induction n with
 | zero=>simp;omega
 | succ n a=>grind[List.range_succ]
def abq(x:Int):gF x x=[x]:=by
 simp[gF]
def Ux(a:lo<=x)(h2:x<=hi):∀(k:Nat) (d:Nat->Bool) (step:Nat),(jW S lo hi C k d step).filter (λy=>decide (y.1=x))=jW S x x C k d step
 | 0,d,step=>by
  rw[jW,jW,List.filter_map];congr 1;have:=range_one a (hi-lo+1).toNat;rw[qWB zz]at this;rw[abq];exact this
 | k+1,d,step=>by
  rw[jW,jW,List.filter_flatMap];congr 1;funext n;split
  .rfl
  .exact Ux a h2 k _ _
def Uy:∀(k:Nat) (d:Nat->Bool) (step:Nat),d i=true->∀y∈jW S lo hi C k d step,y.2 i=true
 | 0,d,step,h,y,a=>by
  obtain⟨s, -, rfl⟩:=List.mem_map.1 a;exact h
 | k+1,d,step,h,y,a=>by
  have:=@Uy k;grind[jW,Bp]
def IB(a:∀n:Nat,(n:Int)∈C'↔(n:Int)∈C\/n=i):∀(k:Nat) (d:Nat->Bool) (step:Nat),d i=false->(jW S lo hi C k d step).filter (λy=> !y.2 i)=jW S lo hi C' k d step
 | 0,d,step,h=>List.filter_eq_self.2 λy b=>by
  obtain⟨s, -, rfl⟩:=List.mem_map.1 b;simp[h]
 | k+1,d,step,h=>by
  have:=@IB a k;have:=@Uy lo hi S i C k;rw[jW,jW,List.filter_flatMap];congr 1;funext n;grind[Bp,List.filter_eq_nil_iff]
def Vz{α:Type}(f:α->Bool)(L:List α):L.length=(L.filter f).length+(L.filter λy=> !f y).length:=by
 induction L<;>grind
def Yp{zs:List Int}:x∈Lib.compact zs↔x∈zs:=by
 refine⟨λh=>?_,compact_all⟩;obtain⟨j,a,rfl⟩:=List.mem_map.1 h;grind
def Yq:∀{a:List Int},a≠[]->(∀y∈a,y=x)->Lib.compact a=[x]:=by
 intro a d h;have f:=List.length_pos_iff.2 d;have g:∀j,j<a.length->a.toArray[j]! = x:=λj c=>by simp[c];exact h _ (List.getElem_mem c)
 have key:∀m,m<a.length->Lib.compactUpTo a.toArray (m+1)=[x]:=λm=>by
  induction m with
  | zero=>
   intro b;rw[Lib.compactUpTo_succ,Lib.keeps_lt_one _ 0 zz,g 0 b];rfl
  | succ m e=>
   intro b;rw[Lib.compactUpTo_succ,e zz,Lib.keeps_neg zz (by rw[g _ b,g _ zz])];rfl
 have:=key (a.length-1) zz;rw[show a.length-1+1=a.length by omega]at this;exact this
def cnt_lt(x:Int)(L:List (Int×(Nat->Bool))):oP (λy=>decide (y.1<x+1)) L=oP (λy=>decide (y.1<x)) L+oP (λy=>decide (y.1=x)) L:=by
 unfold oP;induction L<;>grind
abbrev Tq(b:aC)(x:Int):aC:= {b with lo:=x,hi:=x}
def VC(h1:b.lo<=x)(h2:x<=b.hi)(most:Nat):aJ (Tq b x) l most=(aJ b l most).filter λy=>decide (y.1=x):=by
 have ø:=0;exact yX
def VA:∀y∈aJ b l most,b.lo<=y.1/\y.1<=b.hi:=λy a=>by
 obtain⟨k, -, h⟩:=List.mem_flatMap.1 (List.mem_filter.1 a).1;exact Ds _ _ _ _ _ _ _ y h
def Tm:lK b l most=decide (aJ b l most≠[]):=by
 unfold lK aJ;rw[Bool.eq_iff_iff,List.any_eq_true,decide_eq_true_iff,ne_eq,List.filter_eq_nil_iff];simp
def Yr(a:cA b l.C=0)(c:cZ b=0)(h2:fH b.S l.U=0)(d:fT b.rf b.ch l.E=0)(e:ki b.S l.U.length l.W=0):ay b l=0:=by
 unfold ay;rw[qVB (by simp[a]),qVB (by simp[c]),qVB (by simp[h2]),qVB (by simp[d]),e]
def Xu(hc:ay b l=0)(d:b.lo<=x)(h2:x<=b.hi):ay (Tq b x) l=0:=by
 have ø:=0;exact uv
def Xv(hc:ay b l=0)(h:aJ b l b.D.toNat≠[]):cP b l true=0:=by
 unfold cP;rw[qVB (by simp[hc]),qVB ss,qVB h]
def Qy:x∈uN L↔L.filter (λy=>decide (y.1=x))≠[]:=by
 unfold uN;rw[Yp,List.mem_mergeSort,List.mem_map,ne_eq,List.filter_eq_nil_iff];simp
def Yt(hc:ay b l=0)(f:b.lo<=x)(h2:x<=b.hi):gI (Tq b x) l=(if x∈uN (aJ b l b.D.toNat)then 0 else 9)/\
  (x∈uN (aJ b l b.D.toNat)->oK (Tq b x) l=((oP (λy=>decide (y.1=x)) (aJ b l b.D.toNat):Int),0)/\1<=oP (λy=>decide (y.1=x)) (aJ b l b.D.toNat)/\iM (Tq b x) l=([x],0)/\cP (Tq b x) l true=0)/\
  (x∉uN (aJ b l b.D.toNat)->oP (λy=>decide (y.1=x)) (aJ b l b.D.toNat)=0):=by
 have c:=Xu hc f h2;have a:aJ (Tq b x) l (Tq b x).D.toNat=(aJ b l b.D.toNat).filter λy=>decide (y.1=x):=VC f h2 _;refine⟨?_,λh=>?_,λh=>?_⟩
 .unfold gI;rw[qVB (by simp[c]),Tm,a];simp only[decide_eq_true_iff,Qy]
 .have d:=Qy.1 h;have g:=Xv c (by rw[a];exact d);refine⟨?_,List.length_pos_iff.2 d,?_,g⟩
  .unfold oK;rw[qVB (by simp[c]),a];rfl
  .unfold iM;rw[qWB g,a];congr 1;refine Yq (λe=>d ?_) λy i=>?_
   .have:=cd List.length e;rw[List.length_mergeSort,lj]at this;exact List.length_eq_zero_iff.1 this
   .obtain⟨z,j,rfl⟩:=List.mem_map.1 (List.mem_mergeSort.1 i);exact of_decide_eq_true (List.mem_filter.1 j).2
 .unfold oP;rw[Qy]at h;rw[Decidable.not_not.1 h];rfl
def ab6:oP (λy=>decide (y.1<b.lo)) (aJ b l b.D.toNat)=0:=by
 unfold oP;rw[List.length_eq_zero_iff,List.filter_eq_nil_iff];intro y a;have:=(VA y a).1;simp;omega
def acK(h:b.hi<x):oP (λy=>decide (y.1<x)) (aJ b l b.D.toNat)=(aJ b l b.D.toNat).length:=by
 unfold oP;rw[List.filter_eq_self.2];intro y a;have:=(VA y a).2;exact decide_eq_true zz
def Vu{n:Int}{l:pK}{i:Int}:n∈(iY l i).C↔n∈l.C\/n=i:=by
 unfold iY;rw[List.mem_mergeSort,nm,q8A]
def Xp{C':List Int}(hC:∀n:Nat,(n:Int)∈C'↔(n:Int)∈l.C\/n=i):aJ b {l with C:=C' } most=(aJ b l most).filter λy=> !y.2 i:=yX
def Tp:aJ b (iY l i) most=(aJ b l most).filter λy=> !y.2 i:=Xp λn=>Vu.tn (or_congr_right ⟨λe=>zz,λe=>zz⟩)
def Xo{L L':List (Int×(Nat->Bool))}(h:L=L'.filter λy=> !y.2 i):oP (λy=>y.2 i) L=0:=by
 subst h;simp[oP]
def M0(hc:ay b l=0)(hi:(i:Int)<b.S)(hn:(i:Int)∉l.C):ay b (iY l i)=0:=uv
def QC(hc:ay b l=0)(hi:(i:Int)<b.S)(f:aJ b l b.D.toNat≠[]):
  (∃u,vH b l i=(u,0)/\((i:Int)∈l.C->u=2)/\((i:Int)∉l.C->gI b (iY l i)=(if u=1 then 9 else 0)/\(u≠1->vH b (iY l i) i=(2,0)/\cP b (iY l i) true=0)))/\ax (i:Int) 0 (b.S-1)=true:=by
 have a:ax (i:Int) 0 (b.S-1)=true:=cq.2 ⟨zz,zz⟩;have r:=List.length_pos_iff.2 f;refine⟨⟨_,by unfold vH;rw[a,qWB (Xv hc f)],λh=>?_,λh=>?_⟩,a⟩
 .rw[show(i:Int).toNat=i by omega,Xo (Xp λn=>⟨.inl,λm=>m.elim id λe=>e▸h⟩)];unfold lY;rw[qVB zz];rfl
 .have d:=M0 hc hi h;have j:=Tp (b:=b) (l:=l) (i:=i) (most:=b.D.toNat);have q:=Vz (λy=>y.2 i) (aJ b l b.D.toNat);have e0:(i:Int).toNat=i:=zz;rw[e0];have k:lY (oP (λy=>y.2 i) (aJ b l b.D.toNat)) (aJ b l b.D.toNat).length=1↔aJ b (iY l i) b.D.toNat=[]:=by
   rw[j,<- List.length_eq_zero_iff];unfold lY oP;grind
  refine⟨?_,λp=>?_⟩
  .unfold gI;rw[qVB (by simp[d]),Tm];simp only[decide_eq_true_iff,k];by_cases o:aJ b (iY l i) b.D.toNat=[]<;>simp[o]
  .have g:aJ b (iY l i) b.D.toNat≠[]:=λe=>p (k.2 e);have c:=Xv d g;refine⟨?_,c⟩;unfold vH;rw[a,qWB c,e0];rw[Xo j];unfold lY;have:=List.length_pos_iff.2 g;rw[qVB zz];rfl
theorem ZJ(b:aC)(l:pK)(w:H)(f:aI w b l)(d:aD w)(hc:ay b l=0)(h:aJ b l b.D.toNat=[]):
  PH F 7 #[b.v] w λe w'=>e=.returned (.tuple #[.slice I 0 0,.int .i64 9])/\X w w w':=by
 have a:=abX b l 38 #[] lT (w.alloc (aE b 31)) (aq f _) (ai d _) hc (gW b _) h;unfold aaN at a;unfold aC.v aE kn0 uC bI iy at a;dsimp only at a;unfold aC.v;go_enter Tryz.func7,Tryz.ntmps7;go_wp2_with (go_at_call 37;refine a.mono ?_;rintro e g ⟨rfl,c⟩);exact bd (by simp[results,Tryz.results7,go_sem]) rfl ⟨rfl,by first|exact di c|exact aP (di c) (qN _) _⟩
theorem ab7(b:aC)(l:pK)(step:Int)(w:H)(o:aI w b l)(m:aD w)(g:ay b l=0)(n:ax step 0 (b.S-1)=true)(h:aJ b l b.D.toNat=[]):
  PH F 8 #[b.v,.int .i64 step] w λe w'=>e=.returned (.tuple #[.int .i64 0,.int .i64 9])/\X w w w':=by
 have j:=Hm o;have i:=Hm m;obtain⟨q,r,-⟩:=cS (bP g).1;have c:=λa (k:aI a b l) (h2:aD a) (d:Nat) (hc:a.cell? ⟨d,0,I⟩=Y (.int .i64 step)) (p:d<a.heap.size)=>abX b l 41 #[.pointer (Y ⟨d,0,I⟩)] Dw a k h2 g (n▸Ay b zz zz step d a hc p) h;unfold aaN at c;unfold aC.v kn0 uC bI iy at c;dsimp only at c;unfold aC.v;go_enter Tryz.func8,Tryz.ntmps8;go_wp2_with (go_at_call 37;refine(c _ (aq (aq j.out _) _) (ai (ai i.out _) _) (w.heap.size+1) (by rw[<- aa w (aE b 31)];exact one_cell (Sp _ _)) ss).mono ?_;rintro e a ⟨rfl,f⟩);exact bd (by simp[results,Tryz.results8,go_sem]) rfl ⟨rfl,by first|exact cB f|exact aP (cB f) (qN _) _⟩
theorem abr(b:aC)(l:pK)(step:Int)(w:H)(a7:aI w b l)(a6:aD w)(Q:ay b l=0)(a9:ax step 0 (b.S-1)=true)(a8:step∈l.C):
  PH F 15 #[b.v,.int .i64 step] w λe w'=>e=.returned (.tuple #[bI.v,.int .i64 5])/\X w w w':=by
 have J:=Hm a7;have a2:=Hm a6;obtain⟨t1,t2,-⟩:=cS (bP Q).1;have i:=λa h h2=>cG b l a h h2;have k:=λa=>fB b step zz zz a;have j:=λa h=>jO b.C l.C step a h;rw[Q]at i;rw[a9]at k;rw[decide_eq_true a8]at j;unfold aC.v at*;go_enter Tryz.func15,Tryz.ntmps15;go_wp2_with (first|(go_at_call 35;refine(i _ (aq (aq J.out _) _) (ai (ai a2.out _) _)).mono ?_;rintro e a ⟨rfl,O⟩;obtain⟨f,T,P,R⟩:=mL (b0:=bI) O;obtain⟨U,V,x2,x3,x4,x5,x6,x7,x8,x9,W,Z,a1⟩:=aM f;clear O i;have K:=Hm f;have L:=Hm T;have G:=Hm P;have a4:=Hm R;clear f T P R)|(go_at_call 42;refine(k a).mono ?_;rintro e c ⟨rfl,d⟩;clear U V x2 x3 x4 x5 x6 x7 x8 x9 W Z a1 k;have S:aK c w.heap.size 31 b:=(d.block _ K.out.lt).tn K.out;have g:aK c (w.heap.size+1) 31 bI:=(d.block _ L.out.lt).tn L.out;obtain⟨U,V,x2,x3,x4,x5,x6,x7,x8,x9,W,Z,a1⟩:=aM S;obtain⟨m,o,s,t,u,y,z,A,B,C,p,q,r⟩:=aM g;have a':=dx g;have a5:=Hm g;have E:=Hm (G.out.tn (d.mono G.out.size));have a3:PQ (w.heap.size+2<=c.heap.size):=qO a4.out d.size;clear S g d)|(go_at_call 48;refine(j c (J.out.C.below E.out)).mono ?_;rintro e b1 ⟨rfl,rfl⟩;clear j));change bodyPost F Tryz.f15 _ .ret _ (uq (w.heap.size+1) bI c);obtain⟨f1,N,f3⟩:=pq bI a5.out;have h2:=a3.out;clear m o s t u y z A B C p q r a';generalize uq (w.heap.size+1) bI c=a0 at f1 N|-;obtain⟨m,o,s,t,u,y,z,A,B,C,p,q,r⟩:=aM f1;exact bd (v:=.tuple #[bI.v,.int .i64 5]) (by simp[results,Tryz.results15,go_sem,m,o,s,t,u,y,z,A,B,C,p,q,r,aC.v,bI,iy]) rfl ⟨rfl,E.out.tn (N.below (n:=w.heap.size) zz λx f=>zz)⟩
variable{w0:H}{i stp:Int}{f f':Nat->M}
structure Nz(w0:H)(b:aC)(l:pK)(i:Int)(f:Nat->M)(w:H):Prop where
 low:X w0 w0 w
 bx:aK w w0.heap.size 31 b
 bk:aI w b l
 ck:aD w
 e2:f 2=(w0.heap.size,0)
 e5:f 5=i
def Nw(w:H)(f:Nat->M)(keep:Nat->Prop)(p:(Nat->M)->H->Prop)(a:Act)(w':H):Prop:=∃f',a=fa 230 f'/\X w w w'/\(∀j,keep j->f' j=f j)/\p f' w'
abbrev LqN(k:Nat)(ops:Array Kp)(d:Bool)(w:H)(f:Nat->M)(keep:Nat->Prop)(p:(Nat->M)->H->Prop):Prop:=Ly.wp F (.region k ops d) (aR (Nw w f keep p)) (fa 230 f) w
abbrev XM(k:Nat)(ops:Array Kp)(d:Bool)(w:H)(f:Nat->M)(keep:Nat->Prop)(p:(Nat->M)->Prop):Prop:=Ly.wp F (.region k ops d) (aR (Rs 230 w f keep p)) (fa 230 f) w
abbrev XG(k:Nat)(ops:Array Kp)(d:Bool)(w:H)(f:Nat->M)(t:Nat)(q:Bool):Prop:=XM k ops d w f (λj=>j<23) λf'=>f' t=.bool q
def Nz.go(h:Nz w0 b l i f w)(hB:X w w w')(k:∀j,j<12->f' j=f j):Nz w0 b l i f' w':=
 ⟨h.low.tn (hB.mono h.low.size),(hB.block _ h.bx.lt).tn h.bx,h.bk.below hB,h.ck.below hB,(k 2 zz).tn h.e2,(k 5 zz).tn h.e5⟩
def Nz.all(h:Nz w0 b l i f w):X w w w/\(w0:Nat)<w:=⟨X.refl _ _,h.bx.lt⟩
def Nz.row{v:M}{L:List Int}(h:Nz w0 b l i f w)(a:w'.ownsRow w 3 1 v L.length (L.map (M.int .i64))):ES w' w0 v L:=ab9 (dy (q5A h.bx.lt) a)
def nzq{c p:Prop}(hc:c)(q:Qz c->p:=by(intro hqq;have hcon:=hqq.h;obtain⟨hB,d⟩:=h.all;have e:=h.bx;have a:=h.e2;have b:=h.e5;exact rr)):p:=q ⟨hc⟩
def nzr{P:Program}{fn:FuncId}{args:Array Value}{E:Value->World->Prop}{p q:Prop}(hc:Calls P fn args w λe w'=>∃v,e=.returned v/\E v w')(b:q)(k:Qz (Calls P fn args w λe w'=>∃v,e=.returned v/\E v w')->Qz q->p:=by(intro a hqq;obtain⟨hB,f⟩:=h.all;have g:=h.bx;have c:=h.e2;have d:=h.e5;(first|refine ic 7 rfl rfl ?_|refine ic 9 rfl rfl ?_);refine Tw ?_;refine lR rfl rfl zz wnn (dm rfl (by first|exact XF pL|exact MJ pL pL) rfl rfl) a.h ?_;exact hqq.h)):p:=k ⟨hc⟩ ⟨b⟩
def ad2(d:0<=stp/\stp<=255)(e:0<b.S/\b.S<=1000)(a:aK w w0 31 b)(e1:f 1=.int .u8 stp)(c:f 2=(w0.heap.size,0)):
  XM 3 acX false w f (λj=>j<23/\j≠5) λf'=>f' 5=.int .i64 (stp%b.S):=by
 obtain⟨h,i,y2,n,y4,o,p,q,r,s,k,l,m⟩:=aM a;have hB:=X.refl w.heap.size w;have g:=a.lt;exact rr
def adx(h:Nz w0 b l i f w)(hc:ay b l=0):
  XM 4 acn false w f (λj=>j<23/\j≠6/\j≠7) λf'=>f' 6=.int .i64 (oK b l).1/\f' 7=.int .i64 (oK b l).2:=nzq λc a=>vG b l c (h.bk.below a) (h.ck.below a) hc
def ad3(h:Nz w0 b l i f w)(d:cP b l true=0):
  LqN 5 abZ false w f (λj=>j<23/\j≠8/\j≠9) λf' w'=>f' 9=.int .i64 (iM b l).2/\ES w' w0 (f' 8) (iM b l).1:=by
 refine nzr (E:=Rn w (iM b l)) ((DT b l w h.bk h.ck d).mono λe w' ⟨A,c,a,h2⟩=>⟨_,a,A,c,rfl,h2⟩) ?_;rintro v k ⟨A,c,rfl,g,hB⟩;refine Tw ?_;exact lE ⟨_,rfl,hB,λj _=>QA,rfl,h.row g⟩
def ady(h:Nz w0 b l i f w)(hc:ay b l=0)(c:aJ b l b.D.toNat=[]):
  XM 5 abZ false w f (λj=>j<23/\j≠8/\j≠9) λf'=>f' 8=.slice I 0 0/\f' 9=.int .i64 9:=nzq λd a=>ZJ b l d (h.bk.below a) (h.ck.below a) hc c
def ad4(h:Nz w0 b l i f w)(c:cP b l (ax i 0 (b.S-1))=0):
  XM 6 ab0 false w f (λj=>j<23/\j≠10/\j≠11) λf'=>f' 10=.int .i64 (vH b l i).1/\f' 11=.int .i64 (vH b l i).2:=nzq λd a=>Lr b l i d (h.bk.below a) (h.ck.below a) c
def adz(h:Nz w0 b l i f w)(hc:ay b l=0)(d:ax i 0 (b.S-1)=true)(c:aJ b l b.D.toNat=[]):
  XM 6 ab0 false w f (λj=>j<23/\j≠10/\j≠11) λf'=>f' 10=.int .i64 0/\f' 11=.int .i64 9:=nzq λe a=>ab7 b l i e (h.bk.below a) (h.ck.below a) hc d c
def ad5{n:Int}(t:0<n)(c:f 6=n)(d:f 7=(0:Int))(a:f 9=(0:Int))(b:f 11=(0:Int)):
  XG 7 ab1 false w f 61 false:=xb
def adA(c:f 6=(0:Int))(d:f 7=(0:Int))(a:f 9=(9:Int))(b:f 11=(9:Int)):
  XG 7 ab1 false w f 61 false:=xb
def ad6(a:f 9=(0:Int)):
  XG 9 ab2 false w f 63 false:=xb
def ab8{w w':H}{b b0:aC}{x y:M}(h:X (((w.alloc (aE b 31)).alloc (.cells #[x,y] 23)).alloc (aE b0 31)).heap.size (((w.alloc (aE b 31)).alloc (.cells #[x,y] 23)).alloc (aE b0 31)) w'):aK w' w 31 b/\w'.heap[w.heap.size+1]?=Y (.cells #[x,y] 23 (0,0))/\aK w' (w.heap.size+1+1) 31 b0/\X w w w'/\(w:Nat)+3<=w':=by
 have e1:=aa w (aE b 31);have a:=aa (w.alloc (aE b 31)) (.cells #[x,y] 23);have c:=h.size;simp only[aa]at c;refine⟨(h.block _ (by simp only[aa];omega)).tn ((QR _ _ (by simp only[aa];omega)).tn ((QR _ _ ss).tn (Sp _ _))),(h.block _ (by simp only[aa];omega)).tn ((QR _ _ (by simp only[aa];omega)).tn (by rw[<- e1];exact Sp _ _)),(h.block _ (by simp only[aa];omega)).tn (by rw[<- e1,<- a];exact Sp _ _),(((X.refl _ w).alloc (qN _) _).alloc ss _ |>.alloc (by simp only[aa];omega) _).tn (h.mono (by simp only[aa];omega)),zz⟩
def l5.stay{w uz:H}{n:Nat}{b:aC}{l:pK}(h:l5 w n b l)(hk:aS (λy=>n<=y/\y<w.heap.size) w uz)(x y:Int):l5 uz n {b with lo:=x,hi:=y} l:=
 ⟨h.nC,h.nU,h.nE,h.nW,h.bC,h.bU,h.bE,h.bW,bB h.C hk λg a=>h.C.lt g a,bB h.U hk λg a=>h.U.lt g a,bB h.E hk λg a=>h.E.lt g a,bB h.W hk λg a=>h.W.lt g a⟩
theorem abt(b:aC)(l:pK)(x:Int)(w:H)(c8:aI w b l)(c5:aD w)(Q:ay b l=0)(d:b.lo<=x)(h2:x<=b.hi):
  PH F 9 #[b.v,.agg #[.int .i64 x,.int .i64 x]] w (nO (Tq b x) l (gI (Tq b x) l) w):=by
 have b6:=Hm c8;have b5:=Hm c5;obtain⟨t1,t2,t3,t4,t5,t6,t7,t8,t9,e4,-⟩:=cS (bP Q).1;have a7:=λc d h2=>cG b l c d h2;have c':=λc d=>DX b l c d;have a6:=λc=>lG x x (-3) 3 c;rw[Q]at a7;rw[uJ.2 ⟨zz,zz,zz⟩]at a6;have d9:=Hm (Xu Q d h2);obtain⟨r9,a9⟩:∃r,gI (Tq b x) l=r:=⟨_,rfl⟩;rw[a9];have d':=Hm a9;clear a9;have m1:max b.lo x=x:=zz;have m2:min b.hi x=x:=zz;have e7:=Hm m1;have e8:=Hm m2;clear c8 c5 Q t1 t2 t3 t4 t5 t6 t7 t8 t9 e4 d h2;unfold aC.v at*;go_enter Tryz.func9,Tryz.ntmps9;go_wp2_with (first|(go_at_call 35;refine(a7 _ (aq (aq (aq b6.out _) _) _) (ai (ai (ai b5.out _) _) _)).mono ?_;rintro e c ⟨rfl,c6⟩;obtain⟨R,a8,d5,c7,d3⟩:=ab8 (b:=b) (b0:=bI) c6;obtain⟨j,k,q,s,t,u,z,A,G,J,m,o,p⟩:=aM R;obtain⟨p0,p1⟩:=kV a8;clear c6 a7;have a1:=Hm R;have Z:=Hm a8;have a2:=Hm d5;have V:=Hm c7;have b':=Hm d3;clear R a8 d5 c7 d3)|(go_at_call 44;refine(a6 c).mono ?_;rintro e g ⟨rfl,f⟩;clear j k q s t u z A G J m o p p0 p1 a6;have a':aK g w.heap.size 31 b:=(f.block _ a1.out.lt).tn a1.out;have d6:aK g (w.heap.size+1+1) 31 bI:=(f.block _ a2.out.lt).tn a2.out;have d1:=(f.block _ (ec.1 Z.out).1).tn Z.out;obtain⟨j,k,q,s,t,u,z,A,G,J,m,o,p⟩:=aM a';have c1:=Hm a';have c2:=Hm d6;have b9:=Hm d1;have L:=Hm (V.out.tn (f.mono V.out.size));have d0:PQ (w.heap.size+3<=g.heap.size):=qO b'.out f.size;clear a' d6 f d1 a1 a2 V b' Z)|fail);go_at_call 45;refine(c' g (b6.out.below L.out)).mono ?_;rintro e a ⟨C',U',E',W',rfl,c9,i⟩;clear c' j k q s t u z A G J m o p;have d4:aK a w 31 b:=(i.block _ c1.out.lt).tn c1.out;have d2:=(i.block _ (ec.1 b9.out).1).tn b9.out;obtain⟨j,k,q,s,t,u,z,A,G,J,m,o,p⟩:=aM d4;obtain⟨p0,p1⟩:=kV d2;have e':=i.size;have e9:=d0.out;have n1:(w:Nat)<a:=zz;have n2:(w:Nat)+1<a:=zz;have n3:(w:Nat)≠a:=zz;have n4:(w:Nat)+1≠a:=zz;have b8:=Hm c9;have b3:=Hm i;clear c9 i d4 d2;go_wp2_with (fail);obtain⟨K,O⟩:∃B:aC,B= {b with lo:=x,hi:=x,C:=C',U:=U',E:=E',W:=W' }:=⟨_,rfl⟩;have N:=L.out.tn (b3.out.mono L.out.size);have P:=abY K l _ (aq (by subst O;have h:=b8.out.book;exact⟨h.C,h.U,h.E,h.W⟩) _) (ai (b5.out.below N) (aE K 31)) (by subst O;exact d9.out);rw[show gI K l=r9 by subst O;exact d'.out]at P;have d7:aK a (w.heap.size+1+1) 31 bI:=(b3.out.block _ c2.out.lt).tn c2.out;have b4:=Hm (N.alloc N.size (aE K 31));subst O;have a3:=Hm d7;clear d7 N;unfold aC.v aE at P;refine P.mono ?_;clear P;rintro e w7 ⟨B,rfl,hB,a5⟩;have d8:=Hm hB;clear j k q s t u z A G J m o p p0 p1 hB;have S:aK w7 (w.heap.size+1+1) 31 bI:=(a5.block _ (by have:=a3.out.lt;simp;omega)).tn ((QR _ _ a3.out.lt).tn a3.out);obtain⟨z0,z1,z2,z3,z4,z5,z6,z7,z8,z9,a0,b1,b2⟩:=aM S;have e6:=dx S;have e1:=Hm S;have T:=Hm a5;clear S a5;go_wp2_with (fail);change bodyPost F Tryz.f9 _ .ret _ (uq (w.heap.size+1+1) B w7);obtain⟨c4,a4,f3⟩:=pq B e1.out;have b7:=b4.out.tn (T.out.mono b4.out.size);have e3:=T.out.size;simp only[qQB,aa]at e3;have c3:=b7.tn (a4.below (n:=w.heap.size) zz (λx R=>zz));clear z0 z1 z2 z3 z4 z5 z6 z7 z8 z9 a0 b1 b2 e6;generalize uq (w.heap.size+1+1) B w7=e5 at c4 c3 a4|-;obtain⟨z0,z1,z2,z3,z4,z5,z6,z7,z8,z9,a0,b1,b2⟩:=aM c4;refine bd (v:=.tuple #[B.v,.int .i64 r9]) (by simp[results,Tryz.results9,go_sem,z0,z1,z2,z3,z4,z5,z6,z7,z8,z9,a0,b1,b2,aC.v]) rfl ⟨B,rfl,?_,c3⟩;have hB:=d8.out;have e2:=b8.out;have hk:aS (λy=>g.heap.size<=y/\y<a.heap.size) a e5:=(aS.dY (((X.refl a.heap.size a).alloc (qN _) _).tn (T.out.mono ss)) λy _ h=>h.2).tn (a4.mono λy _ h=>zz);split at hB
 .subst hB;rename_i h0;rw[qWB h0];exact⟨⟨_,_,_,_,rfl⟩,l5.base (B:=g.heap.size) (l5.stay e2.rows hk x x) L.out.size⟩
 .rename_i h0;rw[qVB h0];exact hB
theorem XK(b:aC)(lo hi:Int)(w:H):PH F 14 #[b.v,.agg #[.int .i64 lo,.int .i64 hi]] w λe w'=>e=.returned ({b with lo:=lo,hi:=hi}:aC).v/\X w w w':=by
 unfold aC.v;go_enter Tryz.func14,Tryz.ntmps14;go_wp2
 (try simp only[Exit.inBlock,Exit.then])
 refine bd (v:=({b with lo:=lo,hi:=hi}:aC).v) (by unfold results Tryz.f14 aC.v;go_simp) rfl ⟨rfl,by exact bt⟩
theorem XL(x:Int)(w:H):PH F 10 #[.int .i64 x] w λe w'=>e=.returned (.agg #[.int .i64 x,.int .i64 x])/\X w w w':=by
 go_enter Tryz.func10,Tryz.ntmps10;have c:=λd=>H6 x x d;go_wp2_with (go_at_call 27;refine(c _).mono ?_;clear c;rintro e d ⟨rfl,a⟩;obtain⟨k,l⟩:=aU a);have f:=(a.block _ ss).tn (Sp _ _);obtain⟨g,h⟩:=tR (.int .i64 x) (.int .i64 x) f;obtain⟨i,j⟩:=kV g;have b:=((X.refl w.heap.size w).alloc (qN _) _).tn (a.mono ss);exact bd (by simp[results,Tryz.results10,go_sem,i,j]) rfl ⟨rfl,b.tn (h.below b.size λx m=>zz)⟩
def Z5(x:Int):List Int->List Int
 | []=>[x]
 | y::r=>if x<=y then x::y::r else y::Z5 x r
def E3(L:List Int):List Int:=L.foldl (λo x=>Z5 x o) []
def TN(x:Int):∀o:List Int,(Z5 x o).Perm (x::o)
 | []=>.refl _
 | y::r=>by
  unfold Z5;split
  .exact .refl _
  .exact((TN x r).cons y).trans (.swap x y r)
def acY(x:Int):∀{o:List Int},o.Pairwise (· <= ·)->(Z5 x o).Pairwise (· <= ·)
 | [],_=>List.pairwise_singleton _ _
 | y::r,h=>by
  obtain⟨b,h2⟩:=List.pairwise_cons.1 h;unfold Z5;split
  .exact List.pairwise_cons.2 ⟨λz a=>by
    rcases dq.1 a with rfl|a
    .assumption
    .have:=b z a;omega,h⟩
  .exact List.pairwise_cons.2 ⟨λz a=>by
    rcases dq.1 ((TN x r).mem_iff.1 a)with rfl|a
    .omega
    .exact b z a,acY x h2⟩
def abu(L:List Int)(x:Int):E3 (L++[x])=Z5 x (E3 L):=by
 unfold E3;rw[List.foldl_append];rfl
def JG(L:List Int):(E3 L).Perm L/\(E3 L).Pairwise (· <= ·):=by
 have key:∀L o:List Int,o.Pairwise (· <= ·)->(L.foldl (λo x=>Z5 x o) o).Perm (L++o)/\(L.foldl (λo x=>Z5 x o) o).Pairwise (· <= ·):=λL=>by
  induction L with
  | nil=>exactλo h=>⟨.refl _,h⟩
  | cons x r b=>
   intro o h;obtain⟨a,h2⟩:=b (Z5 x o) (acY x h);exact⟨a.trans (((TN x o).append_left r).trans List.perm_middle),h2⟩
 have:=key L [] List.Pairwise.nil;rwa[List.append_nil]at this
def Z6(L:List Int):E3 L=L.mergeSort λx y=>decide (x<=y):=by
 refine(((JG L).1).trans (List.mergeSort_perm L _).symm).eq_of_pairwise (λa b _ _ d h2=>zz) (JG L).2 ?_;exact(List.pairwise_mergeSort (λa b c d h2=>by simp only[decide_eq_true_iff]at *; omega) (λa b=>by simp only[ib,decide_eq_true_iff];omega) L).imp λh=>of_decide_eq_true h
def mgR(x:Int)(p:Bool)(o:List Int):List Int:=if p=true then o else Z5 x o
def abT(x:Int)(o:List Int):(Z5 x o).length=o.length+1:=(TN x o).length_eq
def acd(L:List Int):(E3 L).length=L.length:=(JG L).1.length_eq
def ac8(L:List Int)(w:H)(v:M)(w':H):Prop:=∃s:Sl,v=.slice s.A s.n s.c/\s.n=L.length/\w'.ownsRow w.heap.size 3 1 v s.n ((E3 L).map (M.int .i64))/\X w w w'
structure acF(w0:H)(b c:aC)(w:H):Prop where
 low:X w0 w0 w
 p:aK w w0.heap.size 31 b
 q:aK w (w0.heap.size+1) 31 c
def acF.go{w0 w w':H}{b c:aC}(h:acF w0 b c w)(a:X w w w'):acF w0 b c w':=⟨h.low.tn (a.mono h.low.size),(a.block _ h.p.lt).tn h.p,(a.block _ h.q.lt).tn h.q⟩
def acF.start(w:H)(b c:aC):∃P,P=acF w b c/\acF w b c ((w.alloc (aE b 31)).alloc (aE c 31)):=⟨_,rfl,((X.refl _ w).alloc (qN _) _).alloc ss _,(QR _ _ ss).tn (Sp _ _),by rw[<- aa w (aE b 31)];exact Sp _ _⟩
theorem abU(s:Sl)(L:List Int)(w:H)(d9:eC w s L)(b0:L.Nodup)(e2:L.length<=30):
  PH F 49 #[.slice s.A s.n s.c] w λe w'=>∃v,e=.returned v/\ac8 L w v w':=by
 obtain⟨A,sn,c⟩:=s;obtain⟨rfl,hc,e7,b2⟩:=d9;have c8:PQ (0<L.length->∃b off,A=Y ⟨b,off,I⟩/\b<w.heap.size/\∀k,k<L.length->w (b,off+k)=Y (.int .i64 (L.getD k 0))):=b2;have d2:=Hm b0;clear b0 b2;obtain⟨i0,hi,V,W,Z⟩:=info_parts vD;simp only at|-;go_enter Tryz.func49,Tryz.ntmps49;go_wp2;go_loopw [3,4] (λv i wr=>∃(k:Nat) (J:Option Addr) (Q:Nat),k<=L.length/\i=.int .i64 k/\v=.slice J k Q/\wr.ownsRow w.heap.size 3 1 v k ((E3 (L.take k)).map (M.int .i64))/\X w.heap.size w wr) (λ_ i _=>L.length-(intOf i).toNat)
 case atStart=>exact⟨0,I,0,qT _,rfl,rfl,H.ownsRow_nil _ _ _ _,X.refl _ _⟩
 case round=>
  obtain⟨k,J,Q,hk,rfl,rfl,c4,a5⟩:=hrel;obtain⟨d,rfl⟩:∃d:H,d=wr:=⟨_,rfl⟩;have N:=Hm a5;have a3:=Hm c4;have U:=a5.size;clear a5 c4;by_cases b':k<L.length
  .obtain⟨a0,off,rfl,d4,d5⟩:=c8.out zz;have b3:d (a0,off+k)=Y (.int .i64 (L.getD k 0)):=(H.cell?_of_block (N.out.block _ d4)).tn (d5 k b');have T:L.getD k 0=L[k]:=by simp[List.getD,iv b']
   have P:PQ (L.take (k+1)=L.take k++[L.getD k 0]):=by show _=_;rw[T];simp
   have d8:L.getD k 0∉L.take k:=λh=>by
    have h2:=d2.out.sublist (List.take_sublist (k+1) L);rw[P.out,List.nodup_append]at h2;exact h2.2.2 _ h _ ss rfl
   have a2:PQ (∀y∈E3 (L.take k),y≠L.getD k 0):=λy d0 e=>d8 (e▸(JG _).1.mem_iff.1 d0);have a6:(E3 (L.take k)).length=k:=by rw[acd,List.length_take];omega
   have b9:eC d ⟨J,k,Q⟩ (E3 (L.take k)):=Jf a3.out a6.symm zz;have O:=Hm (abu (L.take k) (L.getD k 0));generalize L.getD k 0=x at b3 P a2 O;generalize E3 (L.take k)=a at a2 a6 b9 O a3;have d1:=Hm b9;have t:=Hm a6;have b1:a0<d.heap.size:=zz;have a':=Hm b3;go_wp2;go_loopw [5,6,7] (λv5 p5 j G=>∃(q:Bool) (m:Nat) (nx:List Int) (A5:Option Addr) (c5:Nat),m<=k/\j=.int .i64 m/\p5=.bool q/\v5=.slice A5 nx.length c5/\G.ownsRow d.heap.size 3 1 v5 nx.length (nx.map (M.int .i64))/\X d.heap.size d G/\PQ (nx++mgR x q (a.drop m)=Z5 x a)) (λ_ _ j _=>k-(intOf j).toNat)
   case atStart=>exact⟨false,0,[],I,0,qT _,rfl,rfl,rfl,H.ownsRow_nil _ _ _ _,X.refl _ _,by show _=_;simp[mgR]⟩
   case round=>
    obtain⟨q,m,nx,A5,c5,e8,rfl,rfl,rfl,c3,z,C⟩:=hrel;obtain⟨G,rfl⟩:∃G:H,G=wr:=⟨_,rfl⟩;have e0:=z.size;have hcx:=(H.cell?_of_block (z.block _ b1)).tn a'.out;have e9:nx.length<=k+1:=by
     have h1:=cd List.length C.out;rw[kl,abT,t.out]at h1;omega
    have K:=Hm z;have n:=Hm c3;by_cases d6:m<k
    .obtain⟨g,o3,rfl,b7,a4⟩:=d1.out.2.2.2 (by rw[t.out];omega);have E:m<a.length:=by rw[t.out];exact d6
     have b4:=(H.cell?_of_block (z.block _ b7)).tn (a4 m E);have b5:=a4 m E;have T:a.getD m 0=a[m]:=by simp[List.getD,iv E]
     have a1:PQ (a.drop m=a.getD m 0::a.drop (m+1)):=by show _=_;rw[T];exact fx E
     have d':=a2.out _ (T▸List.getElem_mem E);generalize a.getD m 0=y at b4 b5 a1 d';have e1:=Hm a4;have c9:=Hm (b5);cases q;by_cases hle:x<=y
     .have ø:=0;exact yY
     all_goals
      go_wp2_with (first|go_quiet (fail)|(at_builtin;refine wpList_append_own _ rfl _ _ 24 rfl d.heap.size 3 i0 (.int .i64 0) 1 8 Tryz.underlying24 hi V W Z rfl dd _ nx.length _ rfl ((rK n.out (below_drewN (X.refl _ _) _)).alloc _) ⟨_,0,I⟩ 1 1 [.int .i64 y] rfl rfl (cell_one_new _ _ _) (λx f=>by simp at f;subst f;rfl) (by unfold maxLen;omega) zz so ?_;intro v4 w4 o B c1));go_roundw
      case rel=>
       obtain⟨S,R,rfl⟩:=ownsRow_succ o;refine⟨_,m+1,nx++[y],Y ⟨S,0,I⟩,R,zz,by go_num,rfl,by simp,by simpa using o,(aP (below_drewN K.out _) (qN _) _).grown B so (λq r=>(n.out.lt q r).1),?_⟩;have h:=C.out;rw[a1.out]at h;show _=_;rw[<- h];first|simp[mgR,Z5,hle]|simp[mgR]
      case measure=>simp[intOf];omega
    .obtain rfl:m=k:=zz;have b6:a.drop m=[]:=ma (by rw[t.out];omega);have a8:=Hm b6;clear b6 z c3;cases q
     .exact yY
     .have h:=C.out;rw[a8.out]at h;have h:nx++[]=Z5 x a:=h;rw[List.append_nil]at h;have l:=cd List.length h;rw[abT,t.out]at l;have c':=Hm h;clear h;go_wp2;go_roundw
      case rel=>
       refine⟨m+1,A5,c5,zz,by go_num,by rw[l],?_,N.out.tn (K.out.mono U)⟩;have c2:=n.out;rw[l]at c2|-;rw[P.out,O.out,<- c'.out];exact dy U c2
      case measure=>simp[intOf];omega
  .obtain rfl:k=L.length:=zz;have a7:=a3.out;rw[List.take_length]at a7;have d3:=Hm a7;clear a7;go_wp2;go_ret;exact⟨_,rfl,⟨J,L.length,Q⟩,rfl,rfl,d3.out,N.out⟩
variable{x:ae}{i:Nat}
def Vv:Ly:=match Tryz.f16.body with|some c=>c|_=>.skip
def acZ:Array Kp:=br [0] Vv
def adC:Array Kp:=br [1,0] Vv
def adD:Array Kp:=br [1,1,0] Vv
def ace:Vv=.seq (.region 0 acZ false) (.seq (.region 1 adC false) (.seq (.region 2 adD false) (.ret))):=rfl
theorem Nj(a:o.op=.alloc 31):(Hn Z o).run F w=.ok (.value (.pointer (Y (w.heap.size,0)))) (w.alloc (aE bI 31)):=by
 unfold Hn;simp only[a];go_simp;try rfl
theorem ab3(b:o.op=.buildSlice 24 1 #[(0,x)])(c:Z x=a):(Hn Z o).run F w=.ok (.value (.slice (Y (w.heap.size,0)) 1 1)) (w.alloc (.cells #[.int .i64 a] 3)):=by
 unfold Hn;simp only[b,zM,c];go_simp
theorem ac7{A:Option Addr}{m k:Nat}(a:o.op=.store 24 x y)(b:Z x=.pointer (Y (g,i)))(c:Z y=.slice A m k)(hc:w (g,i)=Y v0)(d:w.frozen? (g,i)=false):(Hn Z o).run F w=.ok .skip (w.setCell (g,i) (.slice A m k)):=by
 unfold Hn;simp only[a,b,c];go_simp
theorem aaj(b:aC)(l:pK)(i:Int)(w:H)(R:aI w b l)(a4:(l.C++[i]).Nodup)(a':l.C.length<=12):
  PH F 16 #[b.v,.int .i64 i] w λe w'=>∃C:Sl,e=.returned ({b with C:=C}:aC).v/\aI w' {b with C:=C} (iY l i)/\X w w w':=by
 refine gy 15 Tryz.func16 (c:=Vv) rfl rfl λf E=>?_;have f0:f 0=b.v:=E 0;have f1:f 1=i:=E 1;clear E;rw[ace];refine wp_seq (wF (l:=[0,1]) rfl (lV (.pointer (Y ⟨w.heap.size,0,I⟩)) rfl rfl zz wnn (B8 rfl (Ls f0)) (lV (.pointer (Y ⟨w.heap.size+1,0,I⟩)) rfl rfl zz wnn (by have:=Nj (Z:=(fa 15 (ah f 2 (.pointer (Y ⟨w.heap.size,0,I⟩)))).eval) (o:=acZ[1]!) (w:=w.alloc (aE b 31)) rfl;rw[aa]at this;exact this) (lE ?_))));obtain⟨-, -, m,a,q⟩:=acF.start w b bI;generalize(w.alloc (aE b 31)).alloc (aE bI 31)=d at a q m|-;have U:=m.size;have a2:=R.C;refine wp_seq (wF rfl (lV _ rfl rfl zz wnn (aci rfl) ?_));have t:X d d (d.alloc (.cells #[] 3)):=(X.refl _ _).alloc (qN _) _;have T:(d.alloc (.cells #[] 3)).ownsRow d 3 1 (.slice (Y (d.heap.size,0)) 0 0) ([]:List Int).length (([]:List Int).map (M.int .i64)):=⟨rfl,.inr ⟨_,0, #[],rfl,qN _,Sp _ _,qN _,qT _,rfl,rfl⟩⟩;have a6:aK (d.alloc (.cells #[] 3)) w 31 b:=(t.block _ a.lt).tn a;obtain⟨y0,y1,y2,y3,y4,y5,y6,y7,y8,y9,b1,b2,b3⟩:=aM a6;refine lV _ rfl rfl zz wnn (TH (k:=4) rfl rfl pL vq) (lV (.slice b.C.A b.C.n b.C.c) rfl rfl zz wnn (abe rfl rfl pL y5) ?_);obtain⟨v1,N,r1,K,g1⟩:=TQ T ss (a2.below (m.tn (t.mono U))) ss;rw[List.nil_append]at K;have u:=mN t g1 (λg j=>(T.lt g j).1) (qN _);refine lV v1 rfl rfl zz wnn (abp rfl rfl (Ls rfl) (Ls rfl) r1) (lV (.int .i64 i) rfl rfl zz wnn (bq (.inl rfl) pL) (lV _ rfl rfl zz wnn (ab3 rfl (Ls rfl)) ?_));have a5:eC (N.alloc (.cells #[.int .i64 i] 3)) ⟨Y (N.heap.size,0),1,1⟩ [i]:=⟨rfl,qN _,by simp,λ_=>⟨N.heap.size,0,rfl,by simp,λk hk=>by
  obtain rfl:k=0:=by simp at hk;omega
  exact one_cell (Sp _ _)⟩⟩
 obtain⟨v2,w3,r2,o2,g2⟩:=TQ (K.alloc (.cells #[.int .i64 i] 3)) zz a5 (by have:=u.size;simp;omega);have y:=mN (u.alloc u.size (.cells #[.int .i64 i] 3)) g2 (λg j=>(K.lt g j).1) (qN _);refine lV v2 rfl rfl zz wnn (abp rfl rfl (Ls rfl) (Ls rfl) r2) ?_;obtain⟨A2,c2,rfl⟩:=tK o2;have a3:(l.C++[i]).length<=30:=by rw[kl,List.length_singleton];omega
 refine lR rfl rfl zz wnn (dm rfl (XF pL) rfl rfl) (abU ⟨A2,(l.C++[i]).length,c2⟩ (l.C++[i]) w3 (Jf o2 rfl zz) a4 a3) ?_;rintro _ w4 ⟨s,rfl,hsn,ho4,hb4⟩;have p:=y.tn (hb4.mono y.size);have a0:=p.size;have G:aK w4 w 31 b:=(p.block _ a.lt).tn a;have V:aK w4 (w.heap.size+1) 31 bI:=(p.block _ q.lt).tn q;refine lV (.pointer (Y ⟨w.heap.size,5,I⟩)) rfl rfl zz wnn (TH (k:=4) rfl rfl pL vq) (lS rfl rfl wnn (ac7 rfl (Ls rfl) pL (aM G).2.2.2.2.2.1 (dx G 5)) (lE ?_));have J:aK (w4.setCell (w.heap.size,5) (.slice s.A s.n s.c)) w 31 {b with C:=s}:=by
  have:=bJ (i:=5) G (.slice s.A s.n s.c);simp only[zS]at this;exact this
 have r:aS (λx=>x≠w.heap.size) w4 (w4.setCell (w.heap.size,5) (.slice s.A s.n s.c)):=(aS.refl _ _).set (λ_ h=>h rfl) _;generalize a1:({b with C:=s}:aC)=B at J;generalize w4.setCell ⟨w.heap.size,5,I⟩ (.slice s.A s.n s.c)=w5 at J r|-;have W:aK w5 (w.heap.size+1) 31 bI:=(r.block _ V.lt zz).tn V;have P:=(m.tn (p.mono U)).tn (r.below (n:=w.heap.size) zz λx a=>zz);refine wp_seq (wF rfl (lV B.v rfl rfl zz wnn (gE rfl pL J vq) (lS rfl rfl wnn (rJ rfl pL (Ls rfl) W).1 (lE (wp_ret ?_)))));obtain⟨p1,L,p3⟩:=pq B W;generalize uq (w.heap.size+1) B w5=O at p1 L p3|-;have Q:=P.tn (L.below (n:=w.heap.size) P.size λx a=>zz);obtain⟨z0,z1,z2,z3,z4,z5,z6,z7,z8,z9,a7,a8,a9⟩:=aM p1;refine bd (v:=B.v) ?_ rfl ⟨s,by rw[a1],?_,Q⟩
 .have key:∀f:Nat->M,f 4=(w.heap.size+1,0)->(results Tryz.f16 (fa 15 f).tmps).run F O=.ok B.v O:=λf e4=>by
   have e:(fa 15 f).tmps[4]?=Y (.pointer (Y (w.heap.size+1,0))):=by rw[ej zz,e4]
   generalize(fa 15 f).tmps=A at e;unfold results Tryz.f16 aC.v;simp[e,go_sem,z0,z1,z2,z3,z4,z5,z6,z7,z8,z9,a7,a8,a9]
  exact key _ rfl
 .have z:=R.below Q;refine⟨?_,z.U,z.E,z.W⟩;have hk:aS (λx=>x≠w.heap.size/\x≠w.heap.size+1) w4 O:=(r.mono λx _ h=>h.1).tn (L.mono λx _ h=>h.2);have S:=bB ho4 hk λg j=>by have:=(ho4.lt g j).1;have:=q.lt;have:=y.size;omega
  rw[Z6]at S;exact Jf S (hsn.tn (List.length_mergeSort _).symm) (qO (Nat.le_of_eq (List.length_mergeSort _)) zz)
variable{ops:Array Kp}{oi:Kp}{j d k:Nat}{u:H}{L:Array Bool}{late:Nat->Bool}{R:Act->H->Prop}{t:Bool}
abbrev VB(ops:Array Kp)(n:Nat)(R:Act->H->Prop)(late:Nat->Bool)(u:H)(k:Nat)(L:Array Bool)(f:Nat->M)(w:H):Prop:=wpAnyL F .any ops (aR R) (λw1=>X u u w1) late k L (fa n f) w
def adF(b:oi.guard=Y (j,t))(c:(ops[j]?).bind (·.dst)=Y g)(a:f g=D)(d:g<n:=by omega):Region.wanted oi (aw ops (fa n f).tmps)=false:=by
 have:aw ops (fa n f).tmps j=I:=by
  unfold aw;rw[c];simp only[Option.bind_some,ej d,a];rfl
 unfold Region.wanted;rw[b];simp[this]
def Iv(i:Nat)(hi:ops[i]?=Y oi)(a:oi.dst=Y d)(m:∀w',X u u w'->(Hn (fa n f).eval oi).run F w'=.ok (.value v) w')(hB:X u u w)(h:VB ops n R late u k (L.setIfInBounds i true) (ah f d v) w)
  (l:Region.wanted oi (aw ops (fa n f).tmps)=true:=by first|exact bY rfl|exact Yi rfl rfl rfl)(e:d<n:=by omega)(j:Region.noSelect ops=true:=by kernel_rfl)(b:Region.free .any ops L i=true:=by kernel_rfl)(g:(Region.ready .any ops L).contains i=true:=by kernel_rfl)(c:nN .any ops late i=true:=by kernel_rfl):VB ops n R late u (k+1) L f w:=
 tV v hi a e l j b g c m hB h
def Yk(i:Nat)(hB:X u u w)(h:VB ops n R late u k (L.setIfInBounds i true) (ah f d D) w)
  (hi:ops[i]?=Y oi:=by exact rfl)(a:oi.dst=Y d:=by exact rfl)(l:Region.wanted oi (aw ops (fa n f).tmps)=false:=by first|exact jc rfl rfl zz rfl|exact adF rfl rfl rfl)(e:d<n:=by omega)(j:Region.noSelect ops=true:=by kernel_rfl)(b:Region.free .any ops L i=true:=by kernel_rfl)(g:(Region.ready .any ops L).contains i=true:=by kernel_rfl)(c:nN .any ops late i=true:=by kernel_rfl):VB ops n R late u (k+1) L f w:=
 tN hi a e l j b g c hB h
def ad7{w':H}(i:Nat)(hi:ops[i]?=Y oi)(a:oi.dst=Y d)(l:(Hn (fa n f).eval oi).run F w=.ok (.value v) w')(hB:X u u w')(h:VB ops n R late u k (L.setIfInBounds i true) (ah f d v) w')
  (g:Region.wanted oi (aw ops (fa n f).tmps)=true:=by first|exact bY rfl|exact Yi rfl rfl rfl)(c:d<n:=by omega)(e:Region.ready .any ops L=[i]:=by kernel_rfl):VB ops n R late u (k+1) L f w:=
 bl [i] e ss λj b=>by
  obtain rfl:=q8A.1 b;exact ZE v hi a c g l ⟨λ_=>hB,h⟩
variable{B:aC}{i x r:Int}
def BkR(r:Int)(b:aC)(l:pK)(w:H)(B:aC):Prop:=if r=0 then(∃C U E W:Sl,B= {b with C:=C,U:=U,E:=E,W:=W})/\aI w B l else B=bI
def acf{b B:aC}{l:pK}{r:Int}{w w1 uz:H}(h:if r=0 then(∃C U E W:Sl,B= {b with C:=C,U:=U,E:=E,W:=W})/\l5 w1 w B l else B=bI)(hk:aS (λy=>w.heap.size<=y/\y<w1.heap.size) w1 uz):BkR r b l uz B:=by
 unfold BkR;split at h
 .rename_i a;rw[qWB a];exact⟨h.1,(l5.stay h.2 hk _ _).book⟩
 .rename_i a;rw[qVB a];exact h
def Q15(w:H)(b:aC)(l:pK)(r:Int)(f':Nat->M)(w':H):Prop:=∃g B,f' 14=.pointer (Y (g,0))/\w.heap.size<=g/\aK w' g 31 B/\f' 15=.int .i64 r/\BkR r b l w' B
def acE(hB:X w w w')(p:w.heap.size<=g)(e:aK w' g 31 bI)(k:∀j,j<23/\j≠14/\j≠15->f' j=f j)(d:f' 14=.pointer (Y (g,0)))(m:f' 89=B.v)(n:f' 90=.int .i64 r)(o:∀i,aS (λy=>y≠g) w' i->BkR r b l i B):
  wpAnyL F .any abf (aR (Nw w f (λj=>j<23/\j≠14/\j≠15) (Q15 w b l r))) (λs=>X w w s) (λ_=>false) 2 #[true,true,true,true,true,true,true,true,false,false] (fa 230 f') w':=by
 obtain⟨q,h,u⟩:=pq B e;have c:=hB.tn (h.below hB.size λy t=>zz);refine bl [8] kr ss λj a=>?_;obtain rfl:=q8A.1 a;refine TE rfl rfl rfl (rJ rfl (Ls d) (Ls m) e).1 ⟨λ_=>c,(bl [9] kr ss λj a=>?_)⟩;obtain rfl:=q8A.1 a;exact Pc (.int .i64 r) rfl rfl zz rfl (bq (.inr rfl) (Ls n)) ⟨λ_=>c,cH kr ⟨_,rfl,c,λj a=>nt (k j a),g,B,nt d,p,q,rfl,o _ h⟩ _⟩
def adE(h:Nz w0 b l i f w)(hc:ay b l=0)(g:b.lo<=x)(h2:x<=b.hi)(G:f 13=x):
  LqN 15 abf true w f (λj=>j<23/\j≠14/\j≠15) (Q15 w (Tq b x) l (gI (Tq b x) l)):=by
 have hB:=X.refl w.heap.size w;have J:=h.e2;have K:=h.bx.lt;have O:=h.bx;refine Tn hB λhB=>⟨(Iv 0 rfl rfl (λa g=>gE rfl (Ls J) ((g.block _ K).tn O) vq) hB (Iv 1 rfl rfl (λa g=>bq (.inl rfl) (Ls G)) hB ?_))⟩;have u:∀a,X w w a->PH F 9 #[b.v,.agg #[.int .i64 x,.int .i64 x]] a λe w'=>∃v,e=.returned v/\∃B,v=.tuple #[B.v,.int .i64 (gI (Tq b x) l)]/\X w w w'/\X a a w'/\∀k,aS (λy=>a.heap.size<=y/\y<w'.heap.size) w' k->BkR (gI (Tq b x) l) (Tq b x) l k B:=λa n=>(abt b l x a (h.bk.below n) (h.ck.below n) hc g h2).mono λe w' ⟨B,P,Q,C⟩=>⟨_,P,B,rfl,n.tn (C.mono n.size),C,λk hk=>acf Q hk⟩;have L:∀a,X w w a->PH F 10 #[.int .i64 x] a λe w'=>e=.returned (.agg #[.int .i64 x,.int .i64 x])/\X w w w':=λa n=>(XL x a).mono λe w' q=>⟨q.1,n.tn (q.2.mono n.size)⟩;refine bl [2,7] kr ss λj d=>?_;rcases dq.1 d with rfl|d
 .refine Vg rfl rfl zz wnn (dm rfl (XF pL) rfl rfl) (L _ hB) λR m=>⟨λ_=>m,(bl [3,7] kr ss λj d=>?_)⟩;rcases dq.1 d with rfl|d
  .refine Xr rfl rfl zz wnn (dm rfl (MJ pL pL) rfl rfl) (u _ m) λv s ⟨B,p,c,r,o⟩=>⟨λ_=>c,?_⟩;subst p;exact Iv 4 rfl rfl (λa g=>bq (.inl rfl) (Ls rfl)) c (Iv 5 rfl rfl (λa g=>Uw rfl (Ls rfl) rfl) c (Iv 6 rfl rfl (λa g=>Uw rfl (Ls rfl) rfl) c (ad7 7 rfl rfl (Nj rfl) (c.alloc c.size _) (acE (c.alloc c.size _) c.size (Sp _ _) (λj d=>QA) rfl rfl rfl λk hk=>o k ((aS.dY ((X.refl s.heap.size s).alloc (qN _) _) λy _ q=>q.2).tn (hk.mono λy _ q=>zz))))))
  .obtain rfl:=q8A.1 d;have z:=m.alloc m.size (aE bI 31);refine Pc _ rfl rfl zz rfl (Nj rfl) ⟨λ_=>z,(bl [3] kr ss λj d=>?_)⟩;obtain rfl:=q8A.1 d;refine Xr rfl rfl zz wnn (dm rfl (MJ pL pL) rfl rfl) (u _ z) λv s ⟨B,p,c,r,o⟩=>⟨λ_=>c,?_⟩;subst p;exact Iv 4 rfl rfl (λa g=>bq (.inl rfl) (Ls rfl)) c (Iv 5 rfl rfl (λa g=>Uw rfl (Ls rfl) rfl) c (Iv 6 rfl rfl (λa g=>Uw rfl (Ls rfl) rfl) c (acE c m.size ((r.block _ ss).tn (Sp _ _)) (λj d=>QA) rfl rfl rfl λk hk=>o k (hk.mono λy _ q=>by simp at q;omega))))
 .obtain rfl:=q8A.1 d;have t:=hB.alloc hB.size (aE bI 31);refine Pc _ rfl rfl zz rfl (Nj rfl) ⟨λ_=>t,(bl [2] kr ss λj d=>?_)⟩;obtain rfl:=q8A.1 d;refine Vg (E:=λw'=>X w.heap.size w w'/\aK w' w.drew.heap.size 31 bI) rfl rfl zz wnn (dm rfl (XF pL) rfl rfl) ((XL x _).mono λe w' q=>⟨q.1,t.tn (q.2.mono t.size),(q.2.block _ ss).tn (Sp _ _)⟩) λR ⟨m,A⟩=>⟨λ_=>m,(bl [3] kr ss λj d=>?_)⟩;obtain rfl:=q8A.1 d;have N:=(ec.1 A).1;refine Xr rfl rfl zz wnn (dm rfl (MJ pL pL) rfl rfl) (u _ m) λv s ⟨B,p,c,r,o⟩=>⟨λ_=>c,?_⟩;subst p;exact Iv 4 rfl rfl (λa g=>bq (.inl rfl) (Ls rfl)) c (Iv 5 rfl rfl (λa g=>Uw rfl (Ls rfl) rfl) c (Iv 6 rfl rfl (λa g=>Uw rfl (Ls rfl) rfl) c (acE c (qN _) ((r.block _ N).tn A) (λj d=>QA) rfl rfl rfl λk hk=>o k (hk.mono λy _ q=>by have:w.drew.heap.size=w.heap.size:=rfl;omega))))
theorem Ov(b:aC)(r u s v:Sl)(l:pK)(w:H)(h1:aI w b l)(h2:aI w {b with C:=r,U:=u,E:=s,W:=v} l):
  PH F 12 #[b.v,({b with C:=r,U:=u,E:=s,W:=v}:aC).v] w λe w'=>e=.returned (.bool true)/\X w w w':=by
 obtain⟨P,o,h0⟩:=acF.start w b {b with C:=r,U:=u,E:=s,W:=v};obtain⟨S,D,L,lo,hi,C1,rf,rh,cf,ch,⟨e2,e4,e3⟩,⟨d8,d9,Ec⟩,⟨e8,e',e9⟩⟩:=b;obtain⟨d',e1,d0⟩:=u;obtain⟨d5,d7,d6⟩:=s;obtain⟨e5,e7,e6⟩:=v;obtain⟨b7,⟨rfl,u1,f4,c1⟩,⟨rfl,v1,f5,d1⟩,⟨rfl,x1,f6,d3⟩⟩:=h1;obtain⟨b8,⟨b',u2, -, c'⟩,⟨b9,v2, -, d2⟩,⟨b0,x2, -, d4⟩⟩:=h2;dsimp only at*;subst b' b9 b0;have a8:=λx (a7:X w.heap.size w x)=>AS C1 r l.C l.C x (b7.below a7) (b8.below a7);rw[decide_eq_true rfl]at a8;have a':=Hm a8;have b1:=Hm c1;have b2:=Hm c';have b3:=Hm d1;have b4:=Hm d2;have b5:=Hm d3;have b6:=Hm d4;have a4:=Hm h0;have n:=Hm o;unfold aC.v;go_enter Tryz.func12,Tryz.ntmps12;go_wp2_with (go_at_call 47;refine(a'.out _ a4.out.low).mono ?_;rintro e x ⟨rfl,d⟩;have y:=Hm (a4.out.go d);obtain⟨a0,z,J,K,N,O,Q,R,T,V,A,B,G⟩:=aM y.out.p;obtain⟨c0,Z,c2,c3,c4,c5,c6,c7,c8,c9,a1,a2,a3⟩:=aM y.out.q;clear d);have e0:P x:=by rw[n.out];exact y.out
 go_loopw [5] (λi wr=>∃k:Nat,k<=l.U.length/\i=.int .i64 k/\P wr) (λi _=>l.U.length-(intOf i).toNat)
 case atStart=>exact⟨0,qT _,rfl,by assumption⟩
 case round=>
  obtain⟨k,hk,rfl,a⟩:=hrel;have m:=Hm a;rw[n.out]at a;have g0:=a.p.lt;have g1:=a.q.lt;have t:=Hm a.low.size;obtain⟨a0,z,J,K,N,O,Q,R,T,V,A,B,G⟩:=aM a.p;obtain⟨c0,Z,c2,c3,c4,c5,c6,c7,c8,c9,a1,a2,a3⟩:=aM a.q;by_cases c:k<l.U.length
  .have ø:=0;exact xt
  .have o:=m.out;go_wp2;go_loopw [6] (λi wr=>∃k:Nat,k<=l.E.length/\i=.int .i64 k/\P wr) (λi _=>l.E.length-(intOf i).toNat)
   case atStart=>exact⟨0,qT _,rfl,by assumption⟩
   case round=>
    obtain⟨k,hk,rfl,a⟩:=hrel;have m:=Hm a;rw[n.out]at a;have g0:=a.p.lt;have g1:=a.q.lt;have t:=Hm a.low.size;obtain⟨a0,z,J,K,N,O,Q,R,T,V,A,B,G⟩:=aM a.p;obtain⟨c0,Z,c2,c3,c4,c5,c6,c7,c8,c9,a1,a2,a3⟩:=aM a.q;by_cases c:k<l.E.length
    .have å:=0;exact xt
    .have o:=m.out;go_wp2;go_loopw [7] (λi wr=>∃k:Nat,k<=l.W.length/\i=.int .i64 k/\P wr) (λi _=>l.W.length-(intOf i).toNat)
     case atStart=>exact⟨0,qT _,rfl,by assumption⟩
     case round=>
      obtain⟨k,hk,rfl,a⟩:=hrel;have m:=Hm a;rw[n.out]at a;have g0:=a.p.lt;have g1:=a.q.lt;have t:=Hm a.low.size;obtain⟨a0,z,J,K,N,O,Q,R,T,V,A,B,G⟩:=aM a.p;obtain⟨c0,Z,c2,c3,c4,c5,c6,c7,c8,c9,a1,a2,a3⟩:=aM a.q;by_cases c:k<l.W.length
      .exact xt
      .have o:=m.out;have f3:¬((k:Int)<(l.W.length:Int)):=zz;go_wp2;go_ret;have h:=o;rw[n.out]at h;exact⟨rfl,h.low⟩
variable{q:Bool}{rest:List Nat}{Q:Exit->Act->H->Prop}{m s:Int}{s8 s18:Sl}{LX LK:List Int}
section
variable{i j d n k g:Nat}
def lNu(h:wpOps F ops Q rest (fa n (ah f d D)) w)(hi:ops[i]?=Y oi:=by exact rfl)(a:oi.dst=Y d:=by exact rfl)(c:Region.wanted oi (aw ops (fa n f).tmps)=false:=by exact adF rfl rfl rfl)(b:d<n:=by omega):wpOps F ops Q (i::rest) (fa n f) w:=lN hi a b c h
def tCg{fn:ba}{args:Array M}(i:Nat)(hi:ops[i]?=Y oi)(a:oi.dst=Y d)(g:Region.wanted oi (aw ops (fa n f).tmps)=true)(hB:X u u w)(j:(Hn (fa n f).eval oi).run F w=.ok (.enter fn args) w)(hc:PH F fn args w λe w'=>e=.returned v/\X w w w')
  (h:∀w',X u u w'->X w w w'->VB ops n R late u k (L.setIfInBounds i true) (ah f d v) w')
  (b:d<n:=by omega)(c:Region.ready .any ops L=[i]:=by kernel_rfl):VB ops n R late u (k+1) L f w:=
 tC c hi a b g j hc λw' q=>⟨hB.tn (q.mono hB.size),h w' (hB.tn (q.mono hB.size)) q⟩
def ac9(h:At 0 p):p:=h.h
def ada(h:p):At j p:=⟨h⟩
def TO(w:H):aI w bI ⟨[],[],[],[]⟩:=⟨⟨rfl,qN _,by simp,λh=>mi h ss⟩,⟨rfl,qN _,by simp,λh=>mi h ss⟩,⟨rfl,qN _,by simp,λh=>mi h ss⟩,⟨rfl,qN _,by simp,λh=>mi h ss⟩⟩
theorem ac0(a:o.op=.build 31 #[]):(Hn Z o).run F w=.ok (.value bI.v) w:=by
 unfold Hn;simp only[a,zM];go_simp;try rfl
theorem adb(a:o.op=.build 31 #[]):(Hn Z o).events F w #[]= #[]:=by
 unfold Hn;simp only[a,zM];simp[go_sem]
end
section
variable{i x m s:Int}
def ac1(h:Nz w0 b l i f w)(d:f 13=x)(m:decide (x<=b.hi)=q):
  XG 13 acr false w f 81 q:=by
 have ø:=0;exact vi
def adH(i:f 13=x)(e: -10<=x)(h2:x<=10):
  XM 14 acA false w f (λj=>j<23/\j≠13) λf'=>f' 13=.int .i64 (x+1):=xb
def ac2{r:Int}(k:f 15=r)(u:(r != 0)=q):
  XG 18 acs false w f 112 q:=xb
def adI(g:f 12=s)(l:f 16=m)(e:0<=s/\s<=10000)(h2:0<=m/\m<=10000):
  XM 23 acz false w f (λj=>j<23/\j≠12) λf'=>f' 12=.int .i64 (s+m):=xb
def ade(h:f 8=.slice s8.A s8.n s8.c)(b:eC w s8 LX)(c:x∈LX)(e:f 13=x)(g:f 15=(0:Int)):
  XG 16 abg false w f 110 false:=by
 have hB:=X.refl w.heap.size w;have a:=ze x s8 LX w b;rw[decide_eq_true c]at a;refine wF rfl (Tw ?_);refine lC rfl rfl zz wnn (dm rfl (MJ pL pL) rfl rfl) a λd k=>?_;subst d;refine Tw ?_;iterate 4 refine lNu ?_
 refine Tw ?_;exact lE (Rs.mk hB (λj i=>QA) rfl)
def adf(l:f 8=.slice s8.A s8.n s8.c)(c:eC w s8 LX)(e:x∉LX)(h:f 13=x)(k:f 15=(9:Int))(i:f 14=(g,0))(d:aK w g 31 bI):
  XG 16 abg false w f 110 false:=by
 have hB:=X.refl w.heap.size w;have m:=d.lt;have a:=ze x s8 LX w c;rw[decide_eq_false e]at a;refine wF rfl (Tw ?_);refine lC rfl rfl zz wnn (dm rfl (MJ pL pL) rfl rfl) a λb o=>?_;subst b;refine Tw ?_;refine lV bI.v rfl rfl zz (Yi rfl rfl rfl) (ac0 rfl) (lC rfl rfl zz (Yi rfl rfl rfl) (dm rfl (MJ pL pL) rfl rfl) (Ov bI iy iy iy iy _ w (TO w) (TO w)) λb hB=>(Tw ?_));exact lE (Rs.mk hB (λj n=>QA) rfl)
def adJ(b:aD w)(d:aK w g 31 B)(c:aI w B l)(hc:ay B l=0)(h:f 14=(g,0)):
  XM 19 acu false w f (λj=>j<23/\j≠16/\j≠17) λf'=>f' 16=.int .i64 (oK B l).1/\f' 17=.int .i64 (oK B l).2:=by
 have hB:=X.refl w.heap.size w;have i:=d.lt;have hcon:=λe a=>vG B l e (c.below a) (b.below a) hc;exact rr
def adK(a:aD w)(k:aK w g 31 B)(h:aI w B l)(d:cP B l true=0)(m:f 14=(g,0)):
  LqN 20 acv false w f (λj=>j<23/\j≠18/\j≠19) λf' w'=>f' 19=.int .i64 (iM B l).2/\ES w' w (f' 18) (iM B l).1:=by
 have hB:=X.refl w.heap.size w;have n:=k.lt;refine wF rfl (Tw ?_);refine lR (E:=Rn w (iM B l)) rfl rfl zz wnn (dm rfl (XF pL) rfl rfl) ((DT B l w h a d).mono λe w' ⟨A,c,b,h2⟩=>⟨_,b,A,c,rfl,h2⟩) ?_;rintro v o ⟨A,c,rfl,i,hB⟩;refine Tw ?_;exact lE ⟨_,rfl,hB,λj _=>QA,rfl,ab9 i⟩
def adL(h:Nz w0 b l i f w)(a3:1<=m)(P:f 13=x)(Q:f 14=(g,0))(R:f 16=m)(S:f 17=(0:Int))(T:f 18=.slice s18.A s18.n s18.c)(h18:eC w s18 [x])(V:f 19=(0:Int))(s:aK w g 31 B)
  (r:(∃C U E W:Sl,B= {Tq b x with C:=C,U:=U,E:=E,W:=W})/\aI w B l):
  XG 21 acw true w f 148 false:=sE
end
variable{x y A:Ly}{t:Nat}{keep:Nat->Prop}{p:(Nat->M)->H->Prop}
def acG{n t:Nat}{x:Int}{f:Nat->M}(h:t<n)(e:f t=.int .i64 x):intOf ((fa n f).tmps.getD t D)=x:=by
 rw[Array.getD_eq_getD_getElem?,ej h,e];simp[intOf]
def Below.tr{u w w':H}(a:X u u w)(h2:X w w w'):X u u w':=a.tn (h2.mono a.size)
def wsn(h:Ly.wp F x (aR (Nw w f keep p)) (fa 230 f) w)(next:∀f' w',X w w w'->(∀j,keep j->f' j=f j)->p f' w'->Ly.wp F y Q (fa 230 f') w'):Ly.wp F (.seq x y) Q (fa 230 f) w:=
 wp_seq (wp_mono h λe a w' d=>by
  obtain⟨rfl,f',rfl,b,h2,c⟩:=d.elim;exact next f' w' b h2 c)
def wsy(h:Ly.wp F x (aR (Rs 230 w f (λj=>j<23) λf'=>f' t=.bool false)) (fa 230 f) w)(c:t<230)(next:∀f' w',X w w w'->(∀j,j<23->f' j=f j)->Ly.wp F y Q (fa 230 f') w'):Ly.wp F (.seq (.seq x (.cond (.tmp t) A .skip)) y) Q (fa 230 f) w:=
 wp_seq (bn w _ _ h λf' w' a h2 b=>wp_cond_false (ag c b) (wp_skip (next f' w' a h2)))
def acg(hc:ay b l=0):(aJ b l b.D.toNat).length<=471/\(uN (aJ b l b.D.toNat)).length<=471:=by
 obtain⟨e,d,f,g,h,i,j,k,m,c,-⟩:=cS (bP hc).1;have a:=qO (nn (fM b l) (gT b l.C b.D.toNat)) (Xq d c zz);have h2:=DN (((aJ b l b.D.toNat).map (·.1)).mergeSort λx y=>decide (x<=y));rw[List.length_mergeSort,lj]at h2;exact⟨a,qO h2 a⟩
def acL(h:Nz w0 b l i f w)(hc:ay b l=0)(P:ES w w0 (f 8) (uN (aJ b l b.D.toNat)))(e:f 12=(0:Int)):
  Ly.wp F (.seq (.region 12 acp false) (.block 0 (.loop Cf))) (aR (Rs 230 w f (λj=>j<12) λf'=>f' 12=.int .i64 (aJ b l b.D.toNat).length)) (fa 230 f) w:=by
 obtain⟨t1,t2,t3,t4,t5,t6,t7,t8,t9,d2,-⟩:=cS (bP hc).1;obtain⟨b7,b8⟩:=acg hc;have a5:∀q,oP q (aJ b l b.D.toNat)<=471:=λq=>qO (nn _ _) b7;obtain⟨y0,y1,y2,y3,y4,y5,y6,y7,y8,y9,d3,d4,d5⟩:=aM h.bx;obtain⟨hB,g0⟩:=h.all;have e2:=h.e2;refine bn w (λj=>j<23/\j≠13) (λf'=>f' 13=.int .i64 b.lo) rr λf1 w1 b2 k1 q1=>wp_block (wp_loop (λa w'=>∃(x:Int) (f':Nat->M),b.lo<=x/\x<=b.hi+1/\a=fa 230 f'/\(∀j,j<12->f' j=f j)/\f' 12=.int .i64 (oP (λy=>decide (y.1<x)) (aJ b l b.D.toNat):Nat)/\f' 13=.int .i64 x/\X w.heap.size w w') (λa _=>(b.hi+1-intOf (a.tmps.getD 13 D)).toNat) ⟨b.lo,f1,Int.le_refl _,zz,rfl,λj c=>k1 j ⟨zz,zz⟩,(k1 12 zz).tn (e.tn (by rw[ab6];rfl)),q1,b2⟩ λa w2 b3=>?_);obtain⟨x,f2,x1,x2,rfl,K,e,d,z⟩:=b3;have h2:=h.go z K;rw[acD];by_cases u:x<=b.hi
 .refine wp_seq (bn w2 _ _ (ac1 h2 d (decide_eq_true u)) λf3 w3 t n q=>wp_cond_true (ag zz q) (wp_skip ?_));have h3:=h2.go t λj c=>n j zz;have e:=(n 12 zz).tn e;have d:=(n 13 zz).tn d;have m3:ES w3 w0 (f3 8) (uN (aJ b l b.D.toNat)):=by
   rw[(n 8 zz).tn (K 8 zz)];exact P.up (Below.tr z t)
  refine bn w3 (λj=>j<12) (λf'=>f' 12=.int .i64 (oP (λy=>decide (y.1<x+1)) (aJ b l b.D.toNat):Nat)/\f' 13=.int .i64 x) (wp_block ?_) λf9 w9 S k9 ⟨c',c6⟩=>?_
  .obtain⟨a3,c4,c1⟩:=Yt hc x1 u;refine wsn (adE h3 hc x1 u d) λf4 w4 A r ⟨g,B,a',c9,a4,v,k⟩=>?_;have h4:=h3.go A λj c=>r j zz;have e:=(r 12 zz).tn e;have d:=(r 13 zz).tn d;obtain⟨s8,O,i8⟩:=(m3.up A).ints (qO b8 zz);have O:=(r 8 zz).tn O;rw[cnt_lt];by_cases p:x∈uN (aJ b l b.D.toNat)
   .rw[a3,qWB p]at v k;unfold BkR at k;rw[qWB rfl]at k;obtain⟨a7,b9,a6,b4⟩:=c4 p;have b':=a5 λy=>decide (y.1=x);have b0:=a5 λy=>decide (y.1<x);generalize oP (λy=>decide (y.1=x)) (aJ b l b.D.toNat)=m at a7 b9 b'|-;generalize oP (λy=>decide (y.1<x)) (aJ b l b.D.toNat)=s at e b0|-;refine wsy (ade O i8 p d v) zz λf5 w5 Q k5=>wsy (ac2 qM rfl) zz λf6 w6 R L=>?_;have a9:∀j,j<23->f6 j=f4 j:=λj c=>(L j c).tn (k5 j c);have G:=Below.tr Q R;have h6:=h4.go G λj c=>a9 j zz;obtain⟨⟨C,U,E,W,rfl⟩,b5⟩:=k;have b6:=(Xu (b:=b) (x:=x) hc x1 u:ay (Tq b x) l=0);have V:=blk a4 G;have Z:=b5.below G;refine bn w6 _ _ (adJ h6.ck V Z b6 qM) λf7 w7 o k7 ⟨a0,b1⟩=>?_;have h7:=h6.go o λj c=>k7 j zz;refine wsn (adK h7.ck (blk V o) (Z.below o) b4 qM) λf8 w8 J k8 ⟨a2,c5⟩=>?_;have P:=h7.go J λj c=>k8 j zz;obtain⟨d1,c8,a8⟩:=c5.ints (by
     show(iM (Tq b x) l).1.length<=1000;rw[a6];simp)
    have c2:oK ({Tq b x with C:=C,U:=U,E:=E,W:=W}:aC) l=((m:Int),0):=a7;have c3:iM ({Tq b x with C:=C,U:=U,E:=E,W:=W}:aC) l=([x],0):=a6;rw[c2]at a0 b1;rw[c3]at a2 a8;exact wsy (adL (m:=m) P zz qM qM qM qM c8 a8 a2 (blk (blk V o) J) ⟨⟨C,U,E,W,rfl⟩,(Z.below o).below J⟩) zz λf9 w9 S k9=>To w9 _ _ (adI (s:=s) (m:=m) qM qM zz zz) λfa c7 T a1 N=>Rs.mk (Below.tr (Below.tr (Below.tr (Below.tr (Below.tr A G) o) J) S) T) (λj c=>(a1 j zz).tn ((k9 j zz).tn ((k8 j zz).tn ((k7 j zz).tn ((a9 j zz).tn (r j zz)))))) ⟨N.tn ss,qM⟩
   .rw[a3,qVB p]at v k;unfold BkR at k;rw[qVB dd]at k;subst k;rw[c1 p,Nat.add_zero];exact wsy (adf O i8 p d v a' a4) zz λf5 w5 Q k5=>wp_seq (bn w5 _ _ (ac2 qM (q:=true) rfl) λf6 w6 R L q=>wp_cond_true (ag zz q) (wp_exit (Rs.mk (Below.tr (Below.tr A Q) R) (λj c=>(L j zz).tn ((k5 j zz).tn (r j zz))) ⟨(L 12 zz).tn qM,qM⟩)))
  refine To w9 _ _ (adH c6 zz zz) λfa c7 T a1 N=>⟨⟨x+1,fa,zz,zz,rfl,λj c=>(a1 j zz).tn ((k9 j c).tn ((n j zz).tn (K j c))),qM,N,Below.tr (Below.tr (Below.tr z t) S) T⟩,?_⟩;rw[acG zz N,acG zz ‹f2 13=_›];omega
 .exact wp_seq (bn w2 _ _ (ac1 h2 d (decide_eq_false u)) λf3 w3 t n q=>wp_cond_false (ag zz q) (wp_exit (Rs.mk (Below.tr z t) (λj c=>(n j zz).tn (K j c)) ((n 12 zz).tn (e.tn (by rw[acK zz]))))))
variable{u:Int}{PP:H->aC->Prop}
def adM:XM 11 aco false w f (λj=>j<12) λf'=>f' 12=.int .i64 0:=xb
def adN(h:Nz w0 b l i f w)(p:PH F 15 #[b.v,.int .i64 i] w λe w'=>∃v,e=.returned v/\∃B,v=.tuple #[B.v,.int .i64 r]/\X w w w'/\∀n,aS (λy=>w.heap.size<=y/\y<w'.heap.size) w' n->PP n B):
  LqN 24 acB false w f (λj=>j<23/\j≠20/\j≠21) λf' w'=>∃g B,f' 20=.pointer (Y (g,0))/\w.heap.size<=g/\aK w' g 31 B/\f' 21=.int .i64 r/\PP w' B:=by
 obtain⟨hB,A⟩:=h.all;have t:=h.bx;have u:=h.e2;have z:=h.e5;refine wF rfl (Tw ?_);refine lR rfl rfl zz wnn (dm rfl (MJ pL pL) rfl rfl) p ?_;rintro v a ⟨B,rfl,hB,o⟩;refine Tw ?_;refine lV _ rfl rfl zz wnn (Nj rfl) ?_;have d:aK (a.alloc (aE bI 31)) a 31 bI:=Sp _ _;obtain⟨k,m,E⟩:=pq B d;refine lS rfl rfl wnn (rJ rfl (Ls rfl) (Ls rfl) d).1 ?_;have s:=hB.size;have hB:=(hB.alloc hB.size (aE bI 31)).tn (m.below so λx t=>zz);have c:=o _ ((aS.dY ((X.refl a.heap.size a).alloc (qN _) _) λy _ q=>q.2).tn (m.mono λy _ q=>zz));generalize uq a.heap.size B (a.alloc (aE bI 31))=G at k hB c|-;exact lV (.int .i64 r) rfl rfl zz wnn (bq (.inr rfl) (Ls rfl)) (lE ⟨_,rfl,hB,λj C=>QA,a.heap.size,B,rfl,s,k,rfl,c⟩)
def ac3(h:Nz w0 b l i f w)(hi:i∉l.C):
  XG 25 abh false w f 161 false:=vi
def adg(d:f 10=(1:Int))(c:f 21=(9:Int)):
  XG 27 acC true w f 196 false:=by
 have hB:=X.refl w.heap.size w;refine Tn hB λhB=>⟨?_⟩;refine Iv 0 rfl rfl (λb a=>bq (.inl rfl) (Ls c)) hB ?_;refine Iv 1 rfl rfl (λb a=>Sr rfl rfl (Ls rfl) rfl rfl vq) hB ?_;refine Iv 2 rfl rfl (λb a=>bq (.inl rfl) (Ls d)) hB ?_;refine Iv 3 rfl rfl (λb a=>Sr rfl rfl (Ls rfl) rfl rfl vq) hB ?_;refine Iv 4 rfl rfl (λb a=>Vh rfl (Ls rfl) (Ls rfl) rfl vq) hB ?_;refine Iv 5 rfl rfl (λb a=>bq (.inl rfl) (Ls rfl)) hB ?_;refine Iv 6 rfl rfl (λb a=>bq (.inl rfl) (Ls c)) hB ?_;refine Iv 7 rfl rfl (λb a=>Sr rfl rfl (Ls rfl) rfl rfl vq) hB ?_;refine Iv 8 rfl rfl (λb a=>bq (.inl rfl) (Ls rfl)) hB ?_;refine Yk 9 hB ?_;refine Yk 10 hB ?_;refine Yk 11 hB ?_;refine Yk 12 hB ?_;refine Yk 13 hB ?_;refine Yk 14 hB ?_;refine Yk 15 hB ?_;refine Yk 16 hB ?_;refine Yk 17 hB ?_;refine Yk 18 hB ?_;refine Iv 19 rfl rfl (λb a=>aa6 rfl (Ls rfl) rfl) hB ?_;refine Iv 20 rfl rfl (λb a=>aa6 rfl (Ls rfl) (Ls rfl)) hB ?_;refine cH kr ?_ _;exact Rs.mk hB (λj e=>QA) rfl
def adh(h:Nz w0 b l i f w)(hn:(l.C++[i]).Nodup)(hlen:l.C.length<=12)(a4:u≠1)(O:f 10=u)(a1:f 20=(g,0))(a2:f 21=(0:Int))(s:aK w g 31 B)
  (r:(∃C U E W:Sl,B= {b with C:=C,U:=U,E:=E,W:=W})/\aI w B (iY l i)):
  XG 27 acC true w f 196 false:=by
 have ø:=0;exact sE
def adO(o:f 21=(0:Int)):
  XG 29 abk false w f 198 false:=xb
def adP(b:aD w)(e:aK w g 31 B)(d:aI w B l)(c:cP B l (ax i 0 (B.S-1))=0)(m:f 5=i)(k:f 20=(g,0)):
  XM 31 ac6 false w f (λj=>j<23/\j≠21/\j≠22) λf'=>f' 22=.int .i64 (vH B l i).1/\f' 21=.int .i64 (vH B l i).2:=by
 have hB:=X.refl w.heap.size w;have n:=e.lt;have hcon:=λh a=>Lr B l i h (d.below a) (b.below a) c;exact rr
end Go.Proofs.YtiffpgohclmlmaaGreatDoor
