import Derived.Test.YtfdbdkhgaajdoaaGreatDoorZp
import Derived.Test.YtfdbdkhgaajdoaaGreatDoorChecked
set_option maxRecDepth 100000
set_option maxHeartbeats 4000000
set_option linter.all false
noncomputable section
open Go renaming undef->D,World->H,execOp->Hn,Oper->Kp,TypeId->Lk,Code->Ly,Value->M,Calls->PH,Program->Ps,heap_alloc_old->QR,heap_alloc_new->Sp,resolve->ab,Operand->ae,MemOp->al,yielded->aw,FuncId->ba,bodyPost_ret->bd
open Go.Proofs.Tryz renaming prog->F,prog->Hb
open Go.Lib renaming hid->Hm
open Option renaming none->I,some->Y
open Go.RowKit renaming Below->X
namespace Go
def sT{p:Prop}(h:p:=by
 first|have _:=ø;refine wp_block (wp_loop (λa w=>∃(k:Nat) (f':Nat->M),k<=l.length/\a=fa 119 f'/\f' 1=.pointer (Y ⟨g,0,I⟩)/\f' 4=.int .i64 k/\X u.heap.size u w/\nD b.S l=nD b.S (l.drop k)) (λa _=>l.length-(intOf (a.tmps.getD 4 D)).toNat) ⟨0,f,qT _,rfl,K,h4,hB,rfl⟩ λa w1 P=>?_);obtain⟨k,f1,hk,rfl,e1,E,hB,d⟩:=P;rw[Qm];have a2:b.U.n=l.length:=C.1|have _:=å;refine wp_block (wp_loop (λa w=>∃(k:Nat) (f':Nat->M),k<=l.length/\a=fa 119 f'/\f' 1=.pointer (Y ⟨g,0,I⟩)/\f' 5=.int .i64 k/\X u.heap.size u w/\nF b.rf b.ch l=nF b.rf b.ch (l.drop k)) (λa _=>l.length-(intOf (a.tmps.getD 5 D)).toNat) ⟨0,f,qT _,rfl,K,h5,hB,rfl⟩ λa w1 P=>?_);obtain⟨k,f1,hk,rfl,e1,G,hB,d⟩:=P;rw[Qn];have a2:b.E.n=l.length:=C.1|refine wp_block (wp_loop (λa w=>∃(k:Nat) (f':Nat->M),k<=l.length/\a=fa 119 f'/\f' 1=.pointer (Y ⟨g,0,I⟩)/\f' 6=.int .i64 k/\X u.heap.size u w/\qi b.S b.U.n l=qi b.S b.U.n (l.drop k)) (λa _=>l.length-(intOf (a.tmps.getD 6 D)).toNat) ⟨0,f,qT _,rfl,K,h6,hB,rfl⟩ λa w1 P=>?_);obtain⟨k,f1,hk,rfl,e1,T,hB,d⟩:=P;rw[Qo];have a2:b.W.n=l.length:=C.1
 have a9:l.length<=1000:=C.2.2.1;first|have _:=ø;by_cases a1:k<b.U.n|have _:=å;by_cases a1:k<b.E.n|by_cases a1:k<b.W.n
 .have t:k<l.length:=zz;obtain⟨a7,off,U,b2,V⟩:=C.2.2.2 zz;first|have _:=ø;rw[U]at x10;obtain⟨c0,O⟩:=V k t;have c:=Al b.S l k t;generalize(l.getD k (0,0)).1=x at c c0;generalize(l.getD k (0,0)).2=y at c O;refine wp_seq (bn u (· < 7) (λf'=>f' 21=.bool true) rr λJ S hB s q=>wp_cond_true (ag zz q) (wp_skip ?_))|have _:=å;rw[U]at x11;obtain⟨c0,O⟩:=V k t;have c:=Am b.rf b.ch l k t;generalize(l.getD k (0,0)).1=x at c c0;generalize(l.getD k (0,0)).2=y at c O;refine wp_seq (bn u (· < 7) (λf'=>f' 49=.bool true) rr λJ S hB s q=>wp_cond_true (ag zz q) (wp_skip ?_))|rw[U]at x12;obtain⟨c0,O,c2⟩:=V k t;have c:=Dh b.S b.U.n l k t;generalize(l.getD k (0,0,false)).1=x at c c0;generalize(l.getD k (0,0,false)).2.1=y at c O;generalize(l.getD k (0,0,false)).2.2=z at c2;refine wp_seq (bn u (· < 7) (λf'=>f' 96=.bool true) rr λJ S hB s q=>wp_cond_true (ag zz q) (wp_skip ?_))
  have e1:=(s 1 zz).tn e1;first|have _:=ø;have E:=(s 4 zz).tn E|have _:=å;have G:=(s 5 zz).tn G|have T:=(s 6 zz).tn T
  refine wp_seq (wp_block ?_)
  first
  |have _:=æ
   cases e:ax x 0 (b.U.n-1)
   .refine bn u (· < 7) (λf'=>f' 118=.bool true) rr λf3 B hB r j=>wp_cond_true (ag zz j) ?_;refine bn u (λi=>i<7/\i≠2) (λf'=>f' 2=.int .i64 6) rr λm N hB L o=>wp_ret ?_;exact .inr ⟨rfl,by rw[d,c,qWB (by simp[e])];decide,m,rfl,hB,by rw[d,c,qWB (by simp[e])];exact o⟩
   .cases n:ax y 0 (b.S-1)
    .refine bn u (· < 7) (λf'=>f' 118=.bool true) rr λf3 B hB r j=>wp_cond_true (ag zz j) ?_;refine bn u (λi=>i<7/\i≠2) (λf'=>f' 2=.int .i64 6) rr λm N hB L o=>wp_ret ?_;exact .inr ⟨rfl,by rw[d,c,qWB (by simp[e,n])];decide,m,rfl,hB,by rw[d,c,qWB (by simp[e,n])];exact o⟩
    .refine bn u (· < 7) (λf'=>f' 118=.bool false) rr λZ w5 hB v R=>wp_cond_false (ag zz R) (wp_skip ?_);have e1:=(v 1 zz).tn e1;have T:=(v 6 zz).tn T;refine To u (λi=>i<7/\i≠6) (λf'=>f' 6=.int .i64 (k+1)) rr λf6 w6 hB Q A=>?_;refine⟨⟨k+1,f6,t,rfl,(Q 1 zz).tn e1,A.tn ss,hB,d.tn (c.tn (by rw[qVB (by simp[e,n])]))⟩,?_⟩;rw[Ni (k:=k+1) zz (A.tn ss),Ni (k:=k) zz ‹f1 6=_›];omega
  |have _:=ø
   refine wp_seq ?_;cases e:ax x 0 (b.S-1)
   .refine bn u (· < 7) (λf'=>f' 32=.bool true) rr λf3 B hB r j=>wp_cond_true (ag zz j) ?_;refine bn u (λi=>i<7/\i≠2) (λf'=>f' 2=.int .i64 6) rr λm N hB L o=>wp_ret ?_;exact .inr ⟨rfl,by rw[d,c,qWB e];decide,m,rfl,hB,by rw[d,c,qWB e];exact o⟩
   .refine bn u (· < 7) (λf'=>f' 32=.bool false) rr λf3 B hB r j=>wp_cond_false (ag zz j) (wp_skip ?_);have e1:=(r 1 zz).tn e1;have E:=(r 4 zz).tn E;cases n:ax y (-9) 9
    .refine bn u (· < 7) (λf'=>f' 40=.bool true) rr λf3 B hB r j=>wp_cond_true (ag zz j) ?_;refine bn u (λi=>i<7/\i≠2) (λf'=>f' 2=.int .i64 1) rr λm N hB L o=>wp_ret ?_;exact .inr ⟨rfl,by rw[d,c,qVB (by simp[e]),qWB n];decide,m,rfl,hB,by rw[d,c,qVB (by simp[e]),qWB n];exact o⟩
    .refine bn u (· < 7) (λf'=>f' 40=.bool false) rr λZ w5 hB v R=>wp_cond_false (ag zz R) (wp_skip ?_);have e1:=(v 1 zz).tn e1;have E:=(v 4 zz).tn E;refine To u (λi=>i<7/\i≠4) (λf'=>f' 4=.int .i64 (k+1)) rr λf6 w6 hB Q A=>?_;refine⟨⟨k+1,f6,t,rfl,(Q 1 zz).tn e1,A.tn ss,hB,d.tn (c.tn (by rw[qVB (by simp[e]),qVB (by simp[n])]))⟩,?_⟩;rw[Ni (k:=k+1) zz (A.tn ss),Ni (k:=k) zz ‹f1 4=_›];omega
  |refine wp_seq ?_
   cases e:ax x (1-b.rf) (b.rf-1)
   .refine bn u (· < 7) (λf'=>f' 77=.bool true) rr λf3 B hB r j=>wp_cond_true (ag zz j) ?_;refine bn u (λi=>i<7/\i≠2) (λf'=>f' 2=.int .i64 1) rr λm N hB L o=>wp_ret ?_;exact .inr ⟨rfl,by rw[d,c,qWB (by simp[e])];decide,m,rfl,hB,by rw[d,c,qWB (by simp[e])];exact o⟩
   .cases n:ax y 0 60
    .refine bn u (· < 7) (λf'=>f' 77=.bool true) rr λf3 B hB r j=>wp_cond_true (ag zz j) ?_;refine bn u (λi=>i<7/\i≠2) (λf'=>f' 2=.int .i64 1) rr λm N hB L o=>wp_ret ?_;exact .inr ⟨rfl,by rw[d,c,qWB (by simp[e,n])];decide,m,rfl,hB,by rw[d,c,qWB (by simp[e,n])];exact o⟩
    .refine bn u (· < 7) (λf'=>f' 77=.bool false) rr λf3 B hB r j=>wp_cond_false (ag zz j) (wp_skip ?_);have e1:=(r 1 zz).tn e1;have G:=(r 5 zz).tn G;by_cases W:b.ch<=y
     .refine bn u (· < 7) (λf'=>f' 87=.bool true) rr λf3 B hB r j=>wp_cond_true (ag zz j) ?_;refine bn u (λi=>i<7/\i≠2) (λf'=>f' 2=.int .i64 7) rr λm N hB L o=>wp_ret ?_;exact .inr ⟨rfl,by rw[d,c,qVB (by simp[e,n]),qWB W];decide,m,rfl,hB,by rw[d,c,qVB (by simp[e,n]),qWB W];exact o⟩
     .refine bn u (· < 7) (λf'=>f' 87=.bool false) rr λZ w5 hB v R=>wp_cond_false (ag zz R) (wp_skip ?_);have e1:=(v 1 zz).tn e1;have G:=(v 5 zz).tn G;refine To u (λi=>i<7/\i≠5) (λf'=>f' 5=.int .i64 (k+1)) rr λf6 w6 hB Q A=>?_;refine⟨⟨k+1,f6,t,rfl,(Q 1 zz).tn e1,A.tn ss,hB,d.tn (c.tn (by rw[qVB (by simp[e,n]),qVB W]))⟩,?_⟩;rw[Ni (k:=k+1) zz (A.tn ss),Ni (k:=k) zz ‹f1 5=_›];omega
 .have a8:k=l.length:=zz;first|have _:=ø;refine wp_seq (bn u (· < 7) (λf'=>f' 21=.bool false) rr λJ S hB s q=>wp_cond_false (ag zz q) (wp_exit ?_))|have _:=å;refine wp_seq (bn u (· < 7) (λf'=>f' 49=.bool false) rr λJ S hB s q=>wp_cond_false (ag zz q) (wp_exit ?_))|refine wp_seq (bn u (· < 7) (λf'=>f' 96=.bool false) rr λJ S hB s q=>wp_cond_false (ag zz q) (wp_exit ?_))
  exact .inl ⟨rfl,by rw[d,ma zz];rfl,J,rfl,hB,(s 1 zz).tn (e1.tn K.symm)⟩):p:=h
def aN{p:Prop}(h:p:=by
 first|have _:=ø;have k:¬hi=0:=of_decide_eq_false (a.tn (decide_eq_false hc));clear a dk;rw[decide_eq_false hc]at hcon|have k:hi=0:=of_decide_eq_true (a.tn (decide_eq_true hc));clear a dk;subst hc k;rw[decide_eq_true rfl]at hcon
 refine wF rfl ?_;refine Tw ?_;refine lC rfl rfl zz (wgg rfl rfl rfl) (dm rfl (MJ pL pL) rfl rfl) (hcon w hB) λg hB=>?_;refine Tw ?_;exact lE (Rs.mk hB (λj A=>QA) rfl)):p:=h
def MP{p:Prop}(h:p:=by
 unfold wpOp;simp only[hi,j,if_true,Kp.wp,k,Kp.upon_enter];refine .inl (hc.mono λe w' c=>?_);first|have _:=ø;obtain⟨rfl,a⟩:=c|obtain⟨v,rfl,a⟩:=c
 show K ((fa n f).put oi.dst v) w';rw[b,cw g];first|have _:=ø;exact h w' a|exact h v w' a):p:=h
def dN{p:Prop}(h:p:=by
 first
 |have _:=ø
  obtain⟨t1,t2,-⟩:=cS (bP hc).1;have J:∀q,q=true->cP b l q=0:=λq j=>by
   subst j;unfold cP;rw[qVB (by simp[hc]),qVB ss,qVB c]
 |skip
 have B:ax (p:Int) 0 (b.S-1)=true:=cq.2 ⟨zz,zz⟩;have C:ax (at_:Int) 0 (b.U.n-1)=true:=cq.2 ⟨zz,zz⟩
 first
 |have _:=å
  have go:∀{k:Nat->Prop} {P:(Nat->M)->Prop} {w f a w'},Rs 250 w f k P a w'->Sw w f k (λf' _=>P f') a w':=λh=>h;refine Xu t hG hc h1 h2 d v e1 e2 e3 λf1 R h=>?_;refine MZ h (acS h hc C c) λf4 w4 a6 k4 h ⟨e9,b5,U⟩=>?_;refine MZ h (acT h hc c) λf5 S a7 O h ⟨b6,V⟩=>?_;refine MZ h (acU h (Uu b l p S h.bk h.ck hc B c)) λf6 E a8 A h ⟨g,u,G,Q,K⟩=>?_;exact Dc ⟨rfl,f6,rfl,h,M0,M0,M0,M0,M0,u,g,G,Q,K⟩
 |have _:=æ
  have j:∀q,q=true->cP b l q=0:=λq e=>by
   subst e;unfold cP;rw[qVB (by simp[hc]),qVB ss,qVB c]
  have z4:(DF b l at_).2.2=0:=by unfold DF;rw[qWB (j _ C)]
  have z5:(qq b l).2=0:=by unfold qq;rw[qWB (j _ rfl)]
  have z6:(qs b l p).2=0:=by unfold qs;rw[qWB (j _ B)]
  refine Xu t hG hc h1 h2 d v e1 e2 e3 λf1 R h=>?_;refine MZ h (adb h (j _ C)) λf4 w4 a6 k4 h ⟨U,m9,a4⟩=>?_;refine MZ h (ade h (j _ rfl)) λf5 S a7 O h ⟨V,a5⟩=>?_;refine MZ h (acU h (Gr b l p S h.bk h.ck (j _ B))) λf6 E a8 A h ⟨g,u,G,Q,K⟩=>?_;rw[z4]at U;rw[z5]at V;rw[z6]at u;have m9:ES E w0 (f6 9) (DF b l at_).1:=by rw[(A 9 zz).tn (O 9 zz)];exact rmq
  have a4:ES E w0 (f6 10) (DF b l at_).2.1:=by rw[(A 10 zz).tn (O 10 zz)];exact rmq
  have a5:ES E w0 (f6 12) (qq b l).1:=by rw[A 12 zz];exact rmq
  exact Dc ⟨rfl,f6,rfl,h,M0,M0,u,m9,a4,a5,g,G,Q,K⟩
 |have z:∀k n:Nat,k<l.U.length->(n:Int)<b.S->assoc (fN b l) ((k:Int),(n:Int))=(oP (λx=>oN b l x k n) (aJ b l b.D.toNat):Int):=λk n hk b2=>LC hc hU k n hk zz
  have o:DF b l at_=(ie (sU (fN b l) (aJ b l b.D.toNat).length at_ 1) b.S.toNat,ie (sU (fN b l) (aJ b l b.D.toNat).length at_ 0) b.S.toNat,0):=by unfold DF;rw[qWB (J _ C)]
  have L:qq b l=(ie (sw (fN b l) b.U.n) b.S.toNat,0):=by unfold qq;rw[qWB (J _ rfl)]
  have s:qs b l p=(yc b l p ((l.U.length:Nat),0) (aJ b l b.D.toNat),0):=by unfold qs;rw[qWB (J _ B)];rfl
  have b2:=List.length_pos_iff.2 c;have hle:∀k n:Nat,oP (λx=>oN b l x k n) (aJ b l b.D.toNat)<=(aJ b l b.D.toNat).length:=λk n=>nn _ _;have R:∀k,k<l.U.length->(lw b l p k=1↔oP (λx=>oN b l x k p) (aJ b l b.D.toNat)=(aJ b l b.D.toNat).length):=λk hk=>by
   unfold lw lY;rw[z k p hk d];split
   .omega
   .split<;>omega
  have w2:∀k,k<l.U.length->(lw b l p k=2↔oP (λx=>oN b l x k p) (aJ b l b.D.toNat)=0):=λk hk=>by
   unfold lw lY;rw[z k p hk d];split
   .omega
   .split<;>omega
  have b4:∀x∈aJ b l b.D.toNat,(ie (Ov b l p) l.U.length).length<=pF b l x p l.U.length/\pF b l x p l.U.length<=(ie (Iv b l p) l.U.length).length:=λx m=>by
   refine⟨Yp λk hk h=>?_,Yp λk hk h=>?_⟩
   .exact List.length_filter_eq_length_iff.1 ((R k hk).1 (of_decide_eq_true h)) x m
   .unfold Iv;rw[Bool.not_eq_true',decide_eq_false_iff_not,w2 k hk];have:0<oP (λx=>oN b l x k p) (aJ b l b.D.toNat):=List.length_pos_of_mem (List.mem_filter.2 ⟨m,h⟩);omega
  have b8:(ie (Ov b l p) l.U.length).length<=l.U.length:=kO _ _;obtain⟨i1,i2,i3,i4,i5⟩:=TQ b l p (aJ b l b.D.toNat) ((l.U.length:Nat),0) (λx m=>by have:=b4 x m;exact⟨Int.ofNat_le.2 this.1,Int.ofNat_le.2 this.2⟩) (by dsimp only;omega) (by dsimp only;omega);have e1:qs b l p=(yc b l p ((l.U.length:Nat),0) (aJ b l b.D.toNat),0):=s;have T:(ie (Iv b l p) l.U.length).length=0↔∀k,k<l.U.length->oP (λx=>oN b l x k p) (aJ b l b.D.toNat)=0:=by
   rw[Xp];refine forall_congr' λk=>?_;refine imp_congr_right λhk=>?_;unfold Iv;rw[Bool.not_eq_false',decide_eq_true_iff,w2 k hk]
  have N:∀f:Nat->Bool,(ie f b.S.toNat).length<=400:=λf=>by have:=kO f b.S.toNat;omega
  have mem:∀f:Nat->Bool,(p:Int)∈ie f b.S.toNat↔f p=true:=λf=>by
   rw[M1];exact⟨λ⟨i,e,_,h⟩=>by
    have:p=i:=zz;exact this▸h,λh=>⟨p,rfl,zz,h⟩⟩
  have a1:iZ (fN b l) (aJ b l b.D.toNat).length (at_:Int) b.S.toNat=(DF b l at_).1.length:=by
   rw[o];show _=(ie _ _).length;unfold iZ ie;rw[lj];congr 1;refine List.filter_congr λk _=>?_;unfold sU lY;rw[Bool.eq_iff_iff,nd,decide_eq_true_iff];split
   .omega
   .split<;>omega
  have a9:BO b.U.n b.S.toNat (aJ b l b.D.toNat).length (fN b l)≠[]:=λe=>by
   have:(BO b.U.n b.S.toNat (aJ b l b.D.toNat).length (fN b l)).length=b.U.n:=by simp[BO]
   rw[e]at this;simp at this;omega
  have b1:((at_:Int),(iZ (fN b l) (aJ b l b.D.toNat).length (at_:Int) b.S.toNat:Int))∈BO b.U.n b.S.toNat (aJ b l b.D.toNat).length (fN b l):=List.mem_map.2 ⟨at_,List.mem_range.2 zz,rfl⟩;obtain⟨y,r,a3⟩:=List.exists_cons_of_ne_nil a9;obtain⟨Z,g2⟩:=abi r y;have a0:o5 b l=dR jB y r:=by unfold o5;rw[a3];rfl
  rw[<- a3,<- a0]at Z g2;have g3:=wU.1 (g2 _ b1);obtain⟨h,a2,g4⟩:=List.mem_map.1 Z;have a2:=List.mem_range.1 a2;have g5:=cd Prod.fst g4;have g6:=cd Prod.snd g4;dsimp only at g3 g5 g6;rw[a1]at g3;refine⟨?_,?_,?_,?_,?_,?_,?_,?_,?_,?_,?_,?_,?_,?_,?_⟩
  .rw[o,decide_eq_decide,mem];unfold sU;rw[decide_eq_true_iff];exact il
  .rw[o,decide_eq_decide,mem];unfold sU;rw[decide_eq_true_iff];exact il
  .rw[o];exact Qx _ _ zz
  .rw[o];exact Qx _ _ zz
  .rw[L];exact Qx _ _ zz
  .rw[o,L];exact⟨N _,N _,N _⟩
  .rw[s];exact i1
  .rw[s];obtain⟨x,m⟩:=List.exists_mem_of_ne_nil _ c;have:=i5 x m;exact Int.le_trans this.1 this.2
  .rw[s];exact i2
  .rw[L,decide_eq_decide,mem];unfold sw Og;rw[List.all_eq_true,show(((ie (Iv b l p) l.U.length).length:Int)=0↔(ie (Iv b l p) l.U.length).length=0) by omega,T];constructor
   .intro h k hk;have:=of_decide_eq_true (h k (List.mem_range'_1.2 ⟨zz,zz⟩));rw[z k p hk d]at this;omega
   .intro h k hk;have hk:=List.mem_range'_1.1 hk;rw[decide_eq_true_iff,z k p zz d,h k zz];exact Int.le_refl _
  .rw[s,decide_eq_decide,show(((ie (Iv b l p) l.U.length).length:Int)=0↔(ie (Iv b l p) l.U.length).length=0) by omega];constructor
   .intro h;rw[T];intro k hk;refine List.length_eq_zero_iff.2 (List.filter_eq_nil_iff.2 λx m t=>?_);have h5:=(i5 x m).2;rw[h]at h5;have h6:(pF b l x p l.U.length)=0:=zz;have:=Xp.1 h6 k hk;exact mi t (by rw[show oN b l x k p=Tz b l x p k from rfl,this];decide)
   .intro h;dsimp only at i4;rw[h]at i2;show(yc b l p ((l.U.length:Nat),0) (aJ b l b.D.toNat)).2=0;omega
  .omega
  .intro e;omega
  .intro e;have:h=at_:=zz;rw[<- g6,this,a1]
  .omega):p:=h
def xaA{p:Prop}(h:p:=by
 obtain⟨rfl⟩:=d;unfold Hn;simp only[c,e,f];go_simp;rw[Go.IntWalk.i64_in _ h]):p:=h
def xaH{p:Prop}(h:p:=by
 unfold Hn;simp only[b,ab,c,a,Deferred.ofValue];simp[go_sem,invoke,hc]):p:=h
def fb{p:Prop}(h:p:=by
 first|have _:=ø;skip|obtain⟨h,U,V,a1,m9,e6,e7,g,a9,h7,g0⟩:=q;have b5:b.U.n=l.U.length:=h.bk.U.1;have b4:l.U.length<=1000:=h.bk.U.2.2.1;obtain⟨t1,t2,-⟩:=cS (bP hc).1
 have c:=TS (at_:=at_) hc s y zz b5 b4;first|have _:=å;have R:mW b at_ p=true:=by unfold mW;rw[cq.2 ⟨zz,zz⟩,cq.2 ⟨zz,zz⟩];rfl|refine Uq (E:=λw0 f W=>Ey (bX w.heap.size b) l p at_ w0 f W) hM.co hi (λw0 f a7 a4 e1 e2 e3=>acz a7 a4 hc' h1 h2 hp y ha Q s e1 e2 e3) g1 hV hO hge A λN W0 f' Z F W o w2 V2 O2 B C q e u b1=>?_;obtain⟨g',y3,V',a6⟩:=Ro u (Nat.le_of_eq B.symm) q.1.bx (sn .addr e q.1.e3)
 have z:cP b l true=0:=by
  unfold cP;rw[qVB (by simp[hc]),qVB ss,qVB s]
 first
 |have _:=å
  have d9:oQ b l at_ p=(lw b l p at_,0):=by unfold oQ;rw[R,qWB z];rfl
  refine Xq h zz (adf U V a1 e18) λf1 w1 K k1 h=>Xq h zz (acV M0) λo w2 L k2 h=>?_;refine MZ h (acW h (by rw[R];exact z)) λf3 w3 O k3 h ⟨a',a0⟩=>?_;rw[d9]at a' a0;obtain⟨s9,x9,i9⟩:=m9.ints (by have:=c.len.1;omega);obtain⟨h8,i4,e4⟩:=e6.ints (by have:=c.len.2.1;omega);obtain⟨h9,i5,b8⟩:=e7.ints (by have:=c.len.2.2;omega);refine Xq h zz (acY h zz (Vu at_) a' a0 (M0:f3 9=_) (((i9.below K).below L).below O) (M0:f3 10=_) (((e4.below K).below L).below O) (M0:f3 12=_) (((b8.below K).below L).below O) c.u1 c.u0 c.c1 c.c2 c.c3) λf4 w4 c5 k4 h=>?_;refine MZ h acX (λf5 w5 c6 k5 h ⟨a2,a3⟩=>?_);refine MZ h (acZ y z h a2 a3) λf6 w6 c7 k6 h ⟨a2,a3⟩=>?_;refine Xq h zz (ac0 h a2 a3 (M0:f6 14=_) rmq (M0:f6 12=_) ((((((b8.below K).below L).below O).below c5).below c6).below c7) c.lo c.lh c.hi c.dk c.h0) λf7 w7 g8 k7 h=>?_;obtain⟨A9,c9,y9,-⟩:=id m9;exact Dc ⟨rfl,f7,rfl,h.e3,h.bx,h.e7,M0,M0,A9,c9,M0⟩
 |refine ac2 y3 V' (λi x A=>let⟨x3,h3,hu⟩:=Vz C A;let⟨v',h4,h5⟩:=a6 i x3 h3;hu v' h5▸h4) (WalkE.stop λw3 m=>.inr ⟨_,_,b,l,rfl,b1.rely m,(uD.bH hi u.bH).mono (λ_=>id) m.keep,z,λV4 O4 w4 b2 d0 d'=>ab1 ?_⟩)
  have d2:=(u.rely m).uB d' d0 b2.vo b2.cX hall hM.co.vo;refine aal (T:=TR Yq) (Q1:=λtm S=>∃f,tm=(fa 250 f).tmps/\Ez (bX w.heap.size b) l at_ N f S) (I1 _) (abV abh rfl) (d2.re (r:=Yq)) (ac5 (MM (d:=60) e.re C.re)) (λτ=>?_) λρ2 h0 W1 h' w5 V5 O5 z v b3=>?_
  .exact Oz (acA hc' y Q s (q.tp (λj h6=>QA) τ W.drawn) rfl rfl rfl) (λ_ _ h=>h) λa S ⟨q1,f,q2,R⟩=>⟨q1,f,q2,B▸R⟩
  .obtain⟨g2,rfl,z3,f9,z7,f2,f8,A9,c9,z9⟩:=z;obtain⟨f5,rfl,-⟩:=qd (n:=250) (by rw[<- v.1];simp[fa]);obtain⟨g5,y5,b0,d3⟩:=Ro b3 (qN N) f9 (sn .addr v z3);obtain⟨i1,c1,e8⟩:=d3 10 _ rfl;obtain⟨b',rfl⟩:=ab2 e8;obtain⟨f0,y9⟩:=ab2 (sn .val v z9);have k:=b3.bH;show WalkE Hb true _ V5 O5 (G ((bs .normal 3).at (fa 250 f5) [.code Yq]) []) w5;rw[abq];exact WalkE.seq (ac4 (hM.co.bH k) y5 b0 ⟨b',b.U.n,_,rfl,c1⟩ zz y9 (aG _ _ ρ2 _ (sn .val v z7)) (aG _ _ ρ2 _ (sn .val v f2)) (aG _ _ ρ2 _ (sn .val v f8)) c.top c.fst c.own ⟨c.cX.1,by have:=c.cX.2;show(o5 b l).1<=_;omega⟩ λf6 w6 V6 O6 d1 g6 q6=>WalkE.stop λw7 b6=>⟨_,rfl,d1.rely b6,(k.tn g6).vv,((k.tn g6).step b6).rely,abf f6 q6⟩)):p:=h
end Go
namespace Go.Co
open Go.Conc
variable{N:Nat}{W w w0:H}{V0 O0 V O:Nat->Prop}{ρ0 Z:Ren}{r:Ly}{P:Ps}{T:gq}
def gq.re(T:gq)(r:Ly):gq:= {T with rest:=r}
def Ren.re(Z:Ren)(r:Ly):Ren:= {Z with tab:=Z.tab.re r,glob:=Z.glob}
def acK:C3 (T.re r) P=C3 T P:=cd Ok.mk (funext λf=>funext λc=>by
 show(ez (T.re r) P (T.kind f) c=true)=(ez T P (T.kind f) c=true);generalize T.kind f=e;have:ez (T.re r) P e c=ez T P e c:=by
  induction c with
  | seq a b d hb=>simp only[ez,d,hb]
  | cond c a b d hb=>simp only[ez,d,hb];rfl
  | rangeFunc f x a b d hb=>simp only[ez,d,hb];rfl
  | block i c h=>simpa only[ez]using h
  | loop c h=>simpa only[ez]using h
  | scope c h=>simpa only[ez]using h
  | _=>rfl
 rw[this])
def dM.re{p:Kd}{v v':M}(h:dM Z p v v'):dM (Z.re r) p v v':=by
 induction h with
 | bool b=>exact .bool b
 | int k n=>exact .int k n
 | string s=>exact .string s
 | nilPtr=>exact .nilPtr
 | ptr e=>exact .ptr e
 | ptrM hb hc=>exact .ptrM hb hc
 | nilSlice l c=>exact .nilSlice l c
 | slice l c e=>exact .slice l c e
 | nilMap=>exact .nilMap
 | map a=>exact .map a
 | nilChan=>exact .nilChan
 | func j s1 _ s2 _ o i=>exact .func (by cases j with|func f g a=>exact .func f g a|yield m=>exact .yield m) s1 o s2 i
 | clo g a hk s2 _ i=>exact .clo g a hk s2 i
 | nilFunc=>exact .nilFunc
 | iface t _ d=>exact .iface t d
 | nilIface=>exact .nilIface
 | agg s _ d=>exact .agg s d
 | tuple s _ d=>exact .tuple s d
 | junk=>exact .junk
def KR.re{κ:Nat->Kd}{xs ys:Array M}(h:KR κ Z xs ys):KR κ (Z.re r) xs ys:=⟨h.1,λi x y a b=>(h.2 i x y a b).re⟩
def Mem.re(h:Mem T P Z N W w):Mem (T.re r) P (Z.re r) N W w:=
 ⟨h.dom,h.cod,h.hN,h.sep,λb o l=>by
  obtain⟨f,s,e,g,h2,d,j⟩:=h.hr b o l;refine⟨f,s,e,g,h2,?_,j⟩;rw[acK];show OC (C3 T P) (Z.re r) (Z.cls b) s o e;generalize Z.cls b=q at d|-
  cases d with
  | plain h=>exact .plain (by
    cases h with
    | cells hc k=>exact .cells (λi v n=>let⟨v',a,b⟩:=hc i v n;⟨v',a,b.re⟩) k
    | map m he=>exact .map m λi x y p t=>let⟨a,b,c⟩:=he i x y p t;⟨a.re,b.re,c⟩
    | loop h=>exact .loop ⟨h.state,h.pending,h.pendOk,h.fn,h.tmps.re,h.params,h.assign,h.body,h.assignOk,h.bodyOk,h.defers⟩
    | none=>exact .none
    | nil=>exact .nil)
  | clo h=>exact .clo h.re,by rw[<- h.tab];rfl⟩
def ir.re(h:ir T P N V0 O0 w0 ρ0 Z W w V O):ir (T.re r) P N V0 O0 w0 (ρ0.re r) (Z.re r) W w V O:=
 ⟨h.mem.re,⟨h.le.at_,h.le.cls,cd (λt:gq=>t.re r) h.le.tab⟩,h.see,h.own,h.hV,h.hO,h.cX,h.size,h.tape,h.os,h.output,h.keep,h.vb⟩
def ir.self(h:ir T P N V0 O0 w0 ρ0 Z W w V O):ir T P N V0 O0 w0 Z Z W w V O:=
 ⟨h.mem,.refl _,h.see,h.own,h.hV,h.hO,h.cX,h.size,h.tape,h.os,h.output,h.keep,h.vb⟩
def ir.uB{V0 O0 V O V' O':Nat->Prop}{w0 w w' W:H}(h:ir T P N V0 O0 w0 ρ0 Z W w V O)(k:aH V w w')(f:∀x,V x->V' x)(d:∀x,V' x↔O' x)(a:∀x,V' x->x<w'.heap.size)(j:∀x,x<w0.heap.size->V0 x)(g:∀x,V0 x↔O0 x):
  ir T P N V0 O0 w0 ρ0 Z W w' V' O':=by
 have h:=h.rely k;have new:∀b,V' b->V0 b\/(V' b/\O' b/\w0.heap.size<=b):=λb a=>(Nat.lt_or_ge b w0.heap.size).imp (j b) λh=>⟨a,(d b).1 a,h⟩;have old:∀b,V0 b->V' b:=λb a=>f b ((h.hV b).2 (.inl a));exact⟨h.mem,h.le,λb c s e=>f _ (h.see b c s e),λb c s i e=>⟨(d _).1 (f _ (h.see b c s e)),(h.own b c s i e).2⟩,λb=>⟨new b,λx=>x.elim (old b) (·.1)⟩,λb=>⟨λx=>(new b ((d b).2 x)).imp (g b).1 id,λx=>x.elim (λy=>(d b).1 (old b ((g b).2 y))) (·.2.1)⟩,h.cX,h.size,h.tape,h.os,h.output,h.keep,a⟩
end Go.Co
namespace Go.Proofs.YtfdbdkhgaajdoaaGreatDoor
open Go.RowKit
theorem XG(b:aC)(l:pK)(w:H)(f:aI w b l)(d:aD w)(hc:ay b l=0)(h:aJ b l b.D.toNat=[]):
  PH F 7 #[b.v] w λe w'=>e=.returned (.tuple #[.slice I 0 0,.int .i64 9])/\X w w w':=by
 have a:=abX b l 36 #[] lT (w.alloc (aE b 31)) (aq f _) (ai d _) hc (gW b _) h;unfold aaN at a;unfold aC.v aE kn0 uC bI iy at a;dsimp only at a;unfold aC.v;go_enter Tryz.func7,Tryz.ntmps7;go_wp2;go_step3;go_wp2_with (fail);try go_step3
 go_wp2_with (go_at_call 32;refine a.mono ?_;rintro e g ⟨rfl,c⟩);try go_step3
 try go_wp2
 try go_step3
 (try simp only[Exit.noGoto,Exit.inBlock,Exit.then])
 exact bd (by simp[results,Tryz.results7,go_sem]) rfl ⟨rfl,by first|exact di c|exact aP (di c) (qN _) _⟩
theorem Yi(b:aC)(l:pK)(a:Int)(w:H)(c:aI w b l)(f:aD w)(hc:ay b l=0)(j:ax a 0 (b.U.n-1)=true)(h:aJ b l b.D.toNat=[]):
  PH F 6 #[b.v,.int .i64 a] w λe w'=>e=.returned (.tuple #[.slice I 0 0,.slice I 0 0,.int .i64 9])/\X w w w':=by
 have g:b.U.n<=1000:=by rw[c.U.1];exact c.U.2.2.1
 have d:((w.alloc (aE b 31)).alloc (.cells #[.int .i64 a] 3)).cell? (w.heap.size+1,0)=Y (.int .i64 a):=one_cell (by rw[<- aa w (aE b 31)];exact Sp _ _);have i:=abX b l 33 #[.pointer (Y ⟨w.heap.size+1,0,I⟩)] Dy ((w.alloc (aE b 31)).alloc (.cells #[.int .i64 a] 3)) (aq (aq c _) _) (ai (ai f _) _) hc (j▸DC b g a (w.heap.size+1) _ d ss) h;clear c f h g d j;unfold aC.v aE aaN kn0 uC bI iy at i;unfold aC.v;go_enter Tryz.func6,Tryz.ntmps6;go_wp2_with (go_at_call 32;refine i.mono ?_;rintro e m ⟨rfl,k⟩);exact bd (results_tmp3 rfl _ _ _) rfl ⟨rfl,aP (cB k) (qN _) _⟩
theorem Uu(b:aC)(l:pK)(step:Int)(w:H)(n:aI w b l)(i:aD w)(m:ay b l=0)(j:ax step 0 (b.S-1)=true)(h:aJ b l b.D.toNat=[]):
  PH F 8 #[b.v,.int .i64 step] w λe w'=>e=.returned (.tuple #[.agg #[.int .i64 0,.int .i64 0],.int .i64 9])/\X w w w':=by
 have r:=Hm n;have q:=Hm i;obtain⟨t,u,-⟩:=cS (bP m).1;have f:(((w.alloc (aE b 31)).alloc (.cells #[.int .i64 step] 3)).alloc (.cells #[.int .i64 0,.int .i64 0] 23)).cell? (w.heap.size+1,0)=Y (.int .i64 step):=one_cell ((QR _ _ ss).tn (by rw[<- aa w (aE b 31)];exact Sp _ _));have k:=abX b l 37 #[.pointer (Y ⟨w.heap.size+1,0,I⟩)] Dz (((w.alloc (aE b 31)).alloc (.cells #[.int .i64 step] 3)).alloc (.cells #[.int .i64 0,.int .i64 0] 23)) (aq (aq (aq r.out _) _) _) (ai (ai (ai q.out _) _) _) m (j▸xX b zz zz step (w.heap.size+1) _ f ss) h;clear n i h f j t u;unfold aC.v aE aaN kn0 uC bI iy at k;unfold aC.v;go_enter Tryz.func8,Tryz.ntmps8;go_wp2_with (go_at_call 32;refine k.mono ?_;rintro e c ⟨rfl,a⟩;obtain⟨y,z⟩:=aU a;have B:w.heap.size+1+1<c.heap.size:=(by have:=a.size;simp only[aa]at this;omega));have s:c.heap[w.heap.size+1+1]?=Y (.cells #[.int .i64 0,.int .i64 0] 23 (0,0)):=(a.block _ ss).tn (by rw[<- aa w (aE b 31),<- aa (w.alloc (aE b 31)) (.cells #[.int .i64 step] 3)];exact Sp _ _);obtain⟨g,h2⟩:=tR (.int .i64 0) (.int .i64 0) s;have d:X w w c:=jI a;have p:=aP (d.tn (h2.below d.size (λx A=>zz))) (qN _) (.cells (iG bI iy I) 80);obtain⟨k0,o⟩:=kV ((QR _ (.cells (iG bI iy I) 80) (ec.1 g).1).tn g);refine bd (v:=.tuple #[.agg #[.int .i64 0,.int .i64 0],.int .i64 9]) ?_ rfl ⟨rfl,p⟩;unfold iG bI iy at k0 o;simp[results,Tryz.results8,go_sem,k0,o]
def QF{S:Int}:∀{l:List Int} {p:Option Int},(∀x∈l,0<=x/\x<S/\∀y,p=Y y->y<x)->l.Pairwise (· < ·)->bS S p l=0
 | [],_,_,_=>rfl
 | n::r,p,h,f=>by
  obtain⟨a,c,d⟩:=h n ss;obtain⟨g,i⟩:=List.pairwise_cons.1 f;unfold bS;rw[qVB (by rw[Bool.not_eq_false,cq];omega),qVB (by
   cases p with
   | none=>simp
   | some y=>have:=d y rfl;simp;omega)]
  exact QF (λx b=>⟨(h x (by simp[b])).1,(h x (by simp[b])).2.1,λy e=>by cases e;exact g x b⟩) i
end Go.Proofs.YtfdbdkhgaajdoaaGreatDoor
namespace Go.Co
open Go.Conc
variable{P:Ps}{T:gq}
def adQ:Ly->Ly
 | .seq a (.cond c _ b)=>.seq a (.cond c (.refuse "dead") b)
 | c=>c
def P3:List Bool->Ly->Ly
 | false::L,.seq a b=>.seq a (P3 L b)
 | true::L,.seq a b=>.seq (adQ a) (P3 L b)
 | _,_=>.refuse "cut"
def P5(T:gq)(P:Ps)(d:Nat->Kd):List Bool->Ly->Bool
 | false::L,.seq a b=>ez T P d a&&P5 T P d L b
 | true::L,.seq (.seq a (.cond c _ y)) b=>ez T P d a&&eL T d .val c&&ez T P d y&&P5 T P d L b
 | L,_=>L.isEmpty
def abV{κ:Nat->Kd}:∀{L:List Bool} {c:Ly},P5 T P κ L c=true->T.rest=RI L.length c->wC T P κ (P3 L c) c
 | [],c,_,d=>by
  have:c=T.rest:=by rw[d];cases c<;>rfl
  rw[this];have e:P3 [] T.rest=.refuse "cut" := by cases T.rest<;>rfl
  rw[e];exact .stop
 | false::L,c,h,d=>by
  cases c with
  | seq a b=>
   rw[P5,du]at h;exact .seqR h.1 (abV h.2 d)
  | _=>simp[P5]at h
 | true::L,c,h,d=>by
  cases c with
  | seq a b=>
   cases a with
   | seq f a2=>
    cases a2 with
    | cond c x y=>
     rw[P5,du,du,du]at h;exact .seqLzz (.seqR h.1.1.1 (.condL h.1.1.2 h.1.2 (.deadzz dd))) (abV h.2 d)
    | _=>simp[P5]at h
   | _=>simp[P5]at h
  | _=>simp[P5]at h
end Go.Co
namespace Go.Proofs.YtfdbdkhgaajdoaaGreatDoor
open Go.RowKit Go.Co
variable{K R:Act->H->Prop}{fn:ba}{args:Array M}{v:M}{E S:H->Prop}{w w':H}{ops:Array Kp}{n d j i g k off m cp z:Nat}{f:Nat->M}{oi o:Kp}{rest:List Nat}{Q:Exit->Act->H->Prop}{md:Region.Mode}{late:Nat->Bool}{L:Array Bool}{Z:ae->M}{x y c:ae}{a b:Int}{t':Lk}{r q p:Bool}
section
variable{t:Bool}
def eE(b:oi.guard=Y (j,t))(c:(ops[j]?).bind (·.dst)=Y g)(d:g<n)(a:f g=.bool t):Region.wanted oi (aw ops (fa n f).tmps)=true:=by
 unfold Region.wanted;rw[b];simp only[xM c d a,beq_self_eq_true]
def jc(b:oi.guard=Y (j,t))(c:(ops[j]?).bind (·.dst)=Y g)(d:g<n)(a:f g=.bool (!t)):Region.wanted oi (aw ops (fa n f).tmps)=false:=by
 unfold Region.wanted;rw[b];simp only[xM c d a];cases t<;>rfl
def ZE(v:M)(hi:ops[i]?=Y oi)(a:oi.dst=Y d)(b:d<n)(c:Region.wanted oi (aw ops (fa n f).tmps)=true)(e:(Hn (fa n f).eval oi).run F w=.ok (.value v) w')(h:K (fa n (ah f d v)) w'):wpOp F ops Q i K (fa n f) w:=by
 unfold wpOp;simp only[hi,c,if_true,Kp.wp,e,Kp.upon];rw[a,cw b];exact .inl h
def Vg(hi:ops[i]?=Y oi)(b:oi.dst=Y d)(g:d<n)(j:Region.wanted oi (aw ops (fa n f).tmps)=true)(k:(Hn (fa n f).eval oi).run F w=.ok (.enter fn args) w)
  (hc:PH F fn args w λe w'=>e=.returned v/\E w')(h:∀w',E w'->K (fa n (ah f d v)) w'):wpOp F ops Q i K (fa n f) w:=by
 have ø:=0;exact MP
def Xr{E:M->H->Prop}(hi:ops[i]?=Y oi)(b:oi.dst=Y d)(g:d<n)(j:Region.wanted oi (aw ops (fa n f).tmps)=true)(k:(Hn (fa n f).eval oi).run F w=.ok (.enter fn args) w)
  (hc:PH F fn args w λe w'=>∃v,e=.returned v/\E v w')(h:∀v w',E v w'->K (fa n (ah f d v)) w'):wpOp F ops Q i K (fa n f) w:=MP
def ZG(hi:ops[i]?=Y oi)(a:oi.dst=Y d)(b:d<n)(c:Region.wanted oi (aw ops (fa n f).tmps)=false)(h:K (fa n (ah f d D)) w):wpOp F ops Q i K (fa n f) w:=by
 unfold wpOp;simp only[hi,c,lO,if_false];rw[a,cw b];exact h
def acy(hi:ops[i]?=Y oi)(a:oi.dst=I)(b:Region.wanted oi (aw ops (fa n f).tmps)=true)(c:(Hn (fa n f).eval oi).run F w=.ok .skip w')(h:K (fa n f) w'):wpOp F ops Q i K (fa n f) w:=by
 unfold wpOp;simp only[hi,b,if_true,Kp.wp,c,Kp.upon];rw[a];exact .inl h
def lV(v:M)(hi:ops[i]?=Y oi)(a:oi.dst=Y d)(b:d<n)(c:Region.wanted oi (aw ops (fa n f).tmps)=true)(e:(Hn (fa n f).eval oi).run F w=.ok (.value v) w')(h:wpOps F ops Q rest (fa n (ah f d v)) w'):wpOps F ops Q (i::rest) (fa n f) w:=by
 rw[wpOps_cons];exact ZE v hi a b c e h
def lN(hi:ops[i]?=Y oi)(a:oi.dst=Y d)(b:d<n)(c:Region.wanted oi (aw ops (fa n f).tmps)=false)(h:wpOps F ops Q rest (fa n (ah f d D)) w):wpOps F ops Q (i::rest) (fa n f) w:=by
 rw[wpOps_cons];exact ZG hi a b c h
def lS(hi:ops[i]?=Y oi)(a:oi.dst=I)(b:Region.wanted oi (aw ops (fa n f).tmps)=true)(c:(Hn (fa n f).eval oi).run F w=.ok .skip w')(h:wpOps F ops Q rest (fa n f) w'):wpOps F ops Q (i::rest) (fa n f) w:=by
 rw[wpOps_cons];exact acy hi a b c h
def lC(hi:ops[i]?=Y oi)(a:oi.dst=Y d)(b:d<n)(c:Region.wanted oi (aw ops (fa n f).tmps)=true)(g:(Hn (fa n f).eval oi).run F w=.ok (.enter fn args) w)
  (hc:PH F fn args w λe w'=>e=.returned v/\E w')(h:∀w',E w'->wpOps F ops Q rest (fa n (ah f d v)) w'):wpOps F ops Q (i::rest) (fa n f) w:=by
 rw[wpOps_cons];exact Vg hi a b c g hc h
def lR{E:M->H->Prop}(hi:ops[i]?=Y oi)(a:oi.dst=Y d)(b:d<n)(c:Region.wanted oi (aw ops (fa n f).tmps)=true)(g:(Hn (fa n f).eval oi).run F w=.ok (.enter fn args) w)
  (hc:PH F fn args w λe w'=>∃v,e=.returned v/\E v w')(h:∀v w',E v w'->wpOps F ops Q rest (fa n (ah f d v)) w'):wpOps F ops Q (i::rest) (fa n f) w:=by
 rw[wpOps_cons];exact Xr hi a b c g hc h
def lE(h:Q .normal (fa n f) w):wpOps F ops Q [] (fa n f) w:=h
def tV(v:M)(hi:ops[i]?=Y oi)(b:oi.dst=Y d)(g:d<n)(m:Region.wanted oi (aw ops (fa n f).tmps)=true)(l:Region.noSelect ops=true)(c:Region.free md ops L i=true)(j:(Region.ready md ops L).contains i=true)(e:nN md ops late i=true)
  (o:∀w',S w'->(Hn (fa n f).eval oi).run F w'=.ok (.value v) w')(a:S w)
  (h:wpAnyL F md ops (aR R) S late k (L.setIfInBounds i true) (fa n (ah f d v)) w):wpAnyL F md ops (aR R) S late (k+1) L (fa n f) w:=
 qQ hi l c j e (λ_ _ _ h=>h) (.inl ⟨m,o⟩) a (by rw[b,cw g];exact h)
def tN(hi:ops[i]?=Y oi)(b:oi.dst=Y d)(g:d<n)(m:Region.wanted oi (aw ops (fa n f).tmps)=false)(l:Region.noSelect ops=true)(c:Region.free md ops L i=true)(j:(Region.ready md ops L).contains i=true)(e:nN md ops late i=true)(a:S w)
  (h:wpAnyL F md ops (aR R) S late k (L.setIfInBounds i true) (fa n (ah f d D)) w):wpAnyL F md ops (aR R) S late (k+1) L (fa n f) w:=
 qQ hi l c j e (λ_ _ _ h=>h) (.inr ⟨m,rfl⟩) a (by rw[b,cw g];exact h)
def tC(j:Region.ready md ops L=[i])(hi:ops[i]?=Y oi)(b:oi.dst=Y d)(g:d<n)(l:Region.wanted oi (aw ops (fa n f).tmps)=true)(o:(Hn (fa n f).eval oi).run F w=.ok (.enter fn args) w)
  (hc:PH F fn args w λe w'=>e=.returned v/\E w')(h:∀w',E w'->S w'/\wpAnyL F md ops (aR R) S late k (L.setIfInBounds i true) (fa n (ah f d v)) w'):wpAnyL F md ops (aR R) S late (k+1) L (fa n f) w:=by
 refine bl [i] j ss λm c=>?_;obtain rfl:=q8A.1 c;exact Vg hi b g l o hc λw' a=>⟨λ_=>(h w' a).1,(h w' a).2⟩
end
def gy(n:Nat){F:Func}{c:Ly}{A:Array M}{R:Ending->H->Prop}(b:Hb.funcs[fn]?=Y F)(a:F.body=Y c)(d:A.size+(F.ntmps-A.size)=n)(h:∀f:Nat->M,(∀i,f i=A.getD i D)->Ly.wp Hb c (bodyPost Hb F R) (fa n f) w):PH Hb fn A w R:=by
 refine calls_of_wp b a ?_;rw[iu d];exact h _ λ_=>rfl
theorem Ib{g:Nat}{b:aC}(h:aK w g 31 b):(Instr.loadAt 31 (.pointer (Y (g,0)))).run F w=.ok b.v w:=by
 obtain⟨a,c,i,j,k,l,m,n,o,p,d,e,f⟩:=aM h;unfold aC.v;go_simp
def ag{n t:Nat}{f:Nat->M}(h:t<n)(e:f t=v):(fa n f).eval (.tmp t)=v:=(fe h).tn e
def ZK(s:Nat):List Nat:=if s=31 then[0,1,2,3,5,6,8,10,11,12]else if s=74 then[0,1,2]else if s=54\/s=23\/s=26\/s=101\/s=103 then[0,1]else[]
def Sm(x:Int):Prop:= -9223372036854775808<=x/\x<=9223372036854775807
structure yW(x y:M):Prop where h:x=y
def ZL(t:Nat):Option Nat:=if t=27\/t=28 then Y 2 else if t=29 then Y 3 else I
def TG:BinOp->Option (Int->Int->Bool)
 | .lss=>Y λa b=>decide (a<b)
 | .leq=>Y λa b=>decide (a<=b)
 | .gtr=>Y λa b=>decide (b<a)
 | .geq=>Y λa b=>decide (b<=a)
 | .eql=>Y λa b=>a==b
 | .neq=>Y λa b=>a != b
 | _=>I
section
variable{t t':Lk}
def bq(a:o.op=.move x\/o.op=.assign x)(b:Z x=v):(Hn Z o).run F w=.ok (.value v) w:=by
 unfold Hn;rcases a with h|h<;>simp only[h,b]<;>rfl
theorem dm{xs:Array ae}{ts:Array Lk}(b:o.op=.call {callee:=.value (.func fn),args:=xs,argTypes:=ts})(a:xs.map Z=args)(c:Z (.func fn)=.func (.func fn) #[] #[])
  (hc:(callFunc fn args).run F w=.ok (.enter fn args) w):(Hn Z o).run F w=.ok (.enter fn args) w:=xaH
theorem j0(a:o.op=.unOp .not t x)(c:Z x=.bool r)(b:yW (.bool (!r)) v):(Hn Z o).run F w=.ok (.value v) w:=by
 obtain⟨rfl⟩:=b;unfold Hn;simp only[a,c];go_simp
theorem aa6(a:o.op=.pick c x y)(hc:Z c=.bool r)(b:(if r then Z x else Z y)=v):(Hn Z o).run F w=.ok (.value v) w:=by
 subst b;unfold Hn;simp only[a,hc];cases r<;>go_simp
theorem Vh(a:o.op=.binOp .neq 4 x y 4)(d:Z x=.bool r)(e:Z y=.bool q)(b:(r != q)=p)(c:yW (.bool p) v):(Hn Z o).run F w=.ok (.value v) w:=by
 subst b;obtain⟨rfl⟩:=c;unfold Hn;simp only[a,d,e];cases r<;>cases q<;>go_simp
theorem Sr{op:BinOp}{F:Int->Int->Bool}(c:o.op=.binOp op t x y t')(hF:TG op=Y F)(f:Z x=.int .i64 a)(g:Z y=.int .i64 b)(d:F a b=r)(e:yW (.bool r) v):(Hn Z o).run Hb w=.ok (.value v) w:=by
 subst d;obtain⟨rfl⟩:=e;unfold Hn;simp only[c,f,g];cases op<;>cases hF<;>go_simp
def gE{B:aC}(b:o.op=.load 31 x)(d:Z x=.pointer (Y (g,0)))(a:aK w g 31 B)(c:yW (B.v) v):(Hn Z o).run F w=.ok (.value v) w:=by
 have h:=(Ib a);obtain⟨rfl⟩:=c;unfold Hn;simp only[b,d];simp[h]
theorem TH{s:Nat}(b:o.op=.fieldAddr s x k)(a:(ZK s)[k]?=Y z)(d:Z x=.pointer (Y (g,off)))(c:yW (.pointer (Y (g,off+z))) v):(Hn Z o).run F w=.ok (.value v) w:=by
 obtain⟨rfl⟩:=c;unfold Hn;simp only[b,d];unfold ZK at a;repeat' split at a
 .subst s;iterate 10 (rcases k with _|k; · cases a;go_simp)
  cases a
 .subst s;iterate 3 (rcases k with _|k; · cases a;go_simp)
  cases a
 .rename_i h;iterate 2 (rcases k with _|k; · cases a;rcases h with rfl|rfl|rfl|rfl|rfl<;>go_simp)
  cases a
 .cases a
theorem abe(b:o.op=.load t x)(a:[3,4,24,27,28,29,34].contains t=true)(c:Z x=.pointer (Y (g,off)))(hc:w (g,off)=Y v):(Hn Z o).run F w=.ok (.value v) w:=by
 unfold Hn;simp only[b,c];simp at a;rcases a with rfl|rfl|rfl|rfl|rfl|rfl|rfl<;>go_simp
theorem Vj(b:o.op=.indexAddr t x y)(a:ZL t=Y z)(d:Z x=.slice (Y (g,off)) m cp)(e:Z y=.int .i64 k)(hk:k<m)(c:yW (.pointer (Y (g,off+k*z))) v):(Hn Z o).run F w=.ok (.value v) w:=by
 obtain⟨rfl⟩:=c;unfold Hn;simp only[b,d,e];unfold ZL at a;split at a
 .rename_i h;cases a;rcases h with rfl|rfl<;>go_simp
 .split at a
  .rename_i h;cases a;subst h;go_simp
  .cases a
theorem SF{A:Option Addr}(b:o.op=.call {callee:=.builtin .len,args:= #[x],argTypes:= #[t]})(a:[24,27,28,29].contains t=true)(c:o.type=3)(e:Z x=.slice A m cp)(d:yW (.int .i64 m) v):(Hn Z o).run F w=.ok (.value v) w:=by
 obtain⟨rfl⟩:=d;unfold Hn;simp only[b,ab,zM,e,c];simp at a;rcases a with rfl|rfl|rfl|rfl<;>go_simp
theorem AW(c:o.op=.binOp .sub 3 x y 3)(e:Z x=.int .i64 a)(f:Z y=.int .i64 b)(h:Sm (a-b))(d:yW (.int .i64 (a-b)) v):(Hn Z o).run F w=.ok (.value v) w:=xaA
theorem E4(c:o.op=.binOp .add 3 x y 3)(e:Z x=.int .i64 a)(f:Z y=.int .i64 b)(h:Sm (a+b))(d:yW (.int .i64 (a+b)) v):(Hn Z o).run F w=.ok (.value v) w:=xaA
end
section
variable{n id N:Nat}{w:H}{f:Nat->M}{p:Prop}{Z:ae->M}{x y:ae}{a b v:M}{r:Bool}{Q:Exit->Act->H->Prop}
def Rs(n:Nat)(u:H)(f:Nat->M)(keep:Nat->Prop)(p:(Nat->M)->Prop)(a:Act)(w:H):Prop:=∃f',a=fa n f'/\X u u w/\(∀i,keep i->f' i=f i)/\p f'
def Rs.mk{u w:H}{f f':Nat->M}{keep:Nat->Prop}{p:(Nat->M)->Prop}(a:X u u w)(hk:∀i,keep i->f' i=f i)(b:p f'):aR (Rs n u f keep p) .normal (fa n f') w:=⟨f',rfl,a,hk,b⟩
def XF(b:Z x=a):(#[x]).map Z= #[a]:=by simp[b]
def MJ(c:Z x=a)(d:Z y=b):(#[x,y]).map Z= #[a,b]:=by simp[c,d]
def MK{x y z:ae}{a b c:M}(d:Z x=a)(e:Z y=b)(h2:Z z=c):(#[x,y,z]).map Z= #[a,b,c]:=by simp[d,e,h2]
def fG:Ly:=match Tryz.f15.body with|some c=>c|_=>.skip
def ZI:Array Kp:=br [0] fG
def Vo:Array Kp:=br [1,0,0] fG
def P6:Array Kp:=br [1,0,1,0] fG
def Vp:Array Kp:=br [1,0,1,1,4,0] fG
def P7:Array Kp:=br [1,1,0,0] fG
def Vq:Array Kp:=br [1,1,0,1,4,0] fG
def Vr:Array Kp:=br [1,1,1,0,0] fG
def ux:Ly:=dk [1,1,1,0,1,2,3] fG
def P8:Array Kp:=br [0,0] ux
def P9:Array Kp:=br [1,0,2,0,0] ux
def Qa:Array Kp:=br [1,0,2,0,1,4,0] ux
def Ig:Array Kp:=br [1,0,2,1,0] ux
def Qb:Array Kp:=br [1,0,2,1,1,4,0] ux
def Vt:Array Kp:=br [1,1] ux
def Ih:Array Kp:=br [1,1,1,1,0,0] fG
def Qc:Array Kp:=br [1,1,1,1,0,1,4,0] fG
def Qd:Array Kp:=br [1,1,1,1,1,0,0] fG
def uy:Ly:=dk [1,1,1,1,1,0,1,2,3] fG
def Ii:Array Kp:=br [0,0] uy
def B6:Array Kp:=br [1,0,2,0,0] uy
def Qe:Array Kp:=br [1,0,2,0,1,4,0] uy
def Ij:Array Kp:=br [1,0,2,1,0] uy
def Qf:Array Kp:=br [1,0,2,1,1,4,0] uy
def Qg:Array Kp:=br [1,1] uy
def Ik:Array Kp:=br [1,1,1,1,1,1,0,0] fG
def Qh:Array Kp:=br [1,1,1,1,1,1,0,1,4,0] fG
def Qi:Array Kp:=br [1,1,1,1,1,1,1,0,0] fG
def za:Ly:=dk [1,1,1,1,1,1,1,0,1,2,3] fG
def Il:Array Kp:=br [0,0] za
def B7:Array Kp:=br [1,0,2,0] za
def Qj:Array Kp:=br [1,0,2,1,4,0] za
def Qk:Array Kp:=br [1,1] za
def Ql:Array Kp:=br [1,1,1,1,1,1,1,1,0] fG
def ML:fG=.seq (.region 0 ZI false) (.seq (.seq (.region 1 Vo false) (.seq (.region 2 P6 false) (.cond (.tmp 10) (.seq (.region 3 Vp false) (.ret)) (.skip)))) (.seq (.seq (.region 4 P7 false) (.cond (.tmp 16) (.seq (.region 5 Vq false) (.ret)) (.skip))) (.seq (.seq (.region 6 Vr false) (.block 0 (.loop ux))) (.seq (.seq (.region 13 Ih false) (.cond (.tmp 44) (.seq (.region 14 Qc false) (.ret)) (.skip))) (.seq (.seq (.region 15 Qd false) (.block 2 (.loop uy))) (.seq (.seq (.region 22 Ik false) (.cond (.tmp 91) (.seq (.region 23 Qh false) (.ret)) (.skip))) (.seq (.seq (.region 24 Qi false) (.block 4 (.loop za))) (.seq (.region 29 Ql false) (.ret))))))))):=rfl
def Qm:ux=.seq (.seq (.region 7 P8 false) (.cond (.tmp 21) (.skip) (.exit 0))) (.seq (.block 1 (.seq (.seq (.region 9 P9 true) (.cond (.tmp 32) (.seq (.region 10 Qa false) (.ret)) (.skip))) (.seq (.region 11 Ig false) (.cond (.tmp 40) (.seq (.region 12 Qb false) (.ret)) (.skip))))) (.region 8 Vt false)):=rfl
def Qn:uy=.seq (.seq (.region 16 Ii false) (.cond (.tmp 49) (.skip) (.exit 2))) (.seq (.block 3 (.seq (.seq (.region 18 B6 true) (.cond (.tmp 77) (.seq (.region 19 Qe false) (.ret)) (.skip))) (.seq (.region 20 Ij true) (.cond (.tmp 87) (.seq (.region 21 Qf false) (.ret)) (.skip))))) (.region 17 Qg false)):=rfl
def Qo:za=.seq (.seq (.region 25 Il false) (.cond (.tmp 96) (.skip) (.exit 4))) (.seq (.block 5 (.seq (.region 27 B7 true) (.cond (.tmp 118) (.seq (.region 28 Qj false) (.ret)) (.skip)))) (.region 26 Qk false)):=rfl
def Oh{d i:Nat}(e:f i=a)(h:Nat.beq i d=false:=by exact rfl):ah f d v i=a:=(qVB (Nat.ne_of_beq_eq_false h)).tn e
def Ls{n t:Nat}(e:f t=v)(h:t<n:=by omega):(fa n f).eval (.tmp t)=v:=(fe h).tn e
def Tv:(fa n f).eval (.const v)=v:=rfl
def vq{x:M}:yW x x:=⟨rfl⟩
def XH{x:Bool}:x=x:=rfl
def dT[Decidable p](h:p)(e:true=r):decide p=r:=(decide_eq_true h).tn e
def dF[Decidable p](h:¬p)(e:false=r):decide p=r:=(decide_eq_false h).tn e
structure At(j:Nat)(p:Prop):Prop where h:p
structure Ac(j:Nat)(p:Prop):Prop where h:p
section
variable{ops:Array Kp}{oi:Kp}{i d n k j:Nat}{rest:List Nat}{f:Nat->M}{u w:H}{Q:Exit->Act->H->Prop}{md:Region.Mode}{L:Array Bool}{late:Nat->Bool}{R:Act->H->Prop}{fn:ba}{xs:Array ae}{ts:Array Lk}{v v':M}{args:Array M}
def XI(hi:ops[i]?=Y oi)(a:oi.dst=Y d)(c:Region.wanted oi (aw ops (fa n f).tmps)=true)(hB:X u u w)(h:∃v,(∀w',X u u w'->(Hn (fa n f).eval oi).run F w'=.ok (.value v) w')/\wpOps F ops Q rest (fa n (ah f d v)) w)(b:d<n:=by omega):wpOps F ops Q (i::rest) (fa n f) w:=let⟨v,hy,h⟩:=h;lV v hi a b c (hy w hB) h
def XJ(hi:ops[i]?=Y oi)(a:oi.dst=Y d)(c:Region.wanted oi (aw ops (fa n f).tmps)=false)(h:wpOps F ops Q rest (fa n (ah f d D)) w)(b:d<n:=by omega):wpOps F ops Q (i::rest) (fa n f) w:=lN hi a b c h
def Lv(o:Kp):Bool:=match o.op with|.call c=>(match c.callee with|.builtin _=>true|_=>false)|_=>true
def XO(_:Nat.blt j ops.size=true)(h:At (j+1) (wpAnyL F md ops (aR R) (λa=>X u u a) late k L (fa n f) w)):At j (wpAnyL F md ops (aR R) (λa=>X u u a) late k L (fa n f) w):=⟨h.h⟩
def XP(_:L.getD j true=false)(hi:ops[j]?=Y oi)(_:Lv oi=true)(b:oi.dst=Y d)(m:Region.wanted oi (aw ops (fa n f).tmps)=true)(hB:X u u w)
  (h:∃v,(∀w',X u u w'->(Hn (fa n f).eval oi).run F w'=.ok (.value v) w')/\At (j+1) (wpAnyL F md ops (aR R) (λa=>X u u a) late k (L.setIfInBounds j true) (fa n (ah f d v)) w))
  (g:d<n:=by omega)(l:Region.noSelect ops=true:=by kernel_rfl)(c:Region.free md ops L j=true:=by kernel_rfl)(i:(Region.ready md ops L).contains j=true:=by kernel_rfl)(e:nN md ops late j=true:=by kernel_rfl):At j (wpAnyL F md ops (aR R) (λa=>X u u a) late (k+1) L (fa n f) w):=let⟨v,hy,h⟩:=h;⟨tV v hi b g m l c i e hy hB h.h⟩
def XQ(_:L.getD j true=false)(hi:ops[j]?=Y oi)(b:oi.dst=Y d)(m:Region.wanted oi (aw ops (fa n f).tmps)=false)(hB:X u u w)
  (h:At (j+1) (wpAnyL F md ops (aR R) (λa=>X u u a) late k (L.setIfInBounds j true) (fa n (ah f d D)) w))
  (g:d<n:=by omega)(l:Region.noSelect ops=true:=by kernel_rfl)(c:Region.free md ops L j=true:=by kernel_rfl)(i:(Region.ready md ops L).contains j=true:=by kernel_rfl)(e:nN md ops late j=true:=by kernel_rfl):At j (wpAnyL F md ops (aR R) (λa=>X u u a) late (k+1) L (fa n f) w):=⟨tN hi b g m l c i e hB h.h⟩
def adc(_:Nat.blt j ops.size=true)(h:Ac (j+1) (wpAnyL F md ops (aR R) (λa=>X u u a) late k L (fa n f) w)):Ac j (wpAnyL F md ops (aR R) (λa=>X u u a) late k L (fa n f) w):=⟨h.h⟩
def Xs(fn:ba)(xs:Array ae)(a:Act)(u w:H)(p:M->H->Prop):Prop:=∃args v,xs.map a.eval=args/\(callFunc fn args).run F w=.ok (.enter fn args) w/\PH F fn args w (λe w'=>e=.returned v/\X w w w')/\∀w',X u u w'->p v w'
def XR(hi:ops[i]?=Y oi)(e:oi.op=.call {callee:=.value (.func fn),args:=xs,argTypes:=ts})(b:oi.dst=Y d)(g:Region.wanted oi (aw ops (fa n f).tmps)=true)(hB:X u u w)
  (h:Xs fn xs (fa n f) u w λv w'=>wpOps F ops Q rest (fa n (ah f d v)) w')(c:d<n:=by omega):wpOps F ops Q (i::rest) (fa n f) w:=
 let⟨_,_,ha,hf,hc,h⟩:=h;lC hi b c g (dm e ha rfl hf) hc λw' a=>h w' (hB.tn (a.mono hB.size))
def XS(_:L.getD j true=false)(hi:ops[j]?=Y oi)(g:oi.op=.call {callee:=.value (.func fn),args:=xs,argTypes:=ts})(c:oi.dst=Y d)(l:Region.wanted oi (aw ops (fa n f).tmps)=true)(hB:X u.heap.size u w)
  (h:Xs fn xs (fa n f) u w λv w'=>At (j+1) (wpAnyL F md ops (aR R) (λa=>X u.heap.size u a) late k (L.setIfInBounds j true) (fa n (ah f d v)) w'))(e:d<n:=by omega)(i:Region.ready md ops L=[j]:=by kernel_rfl):Ac j (wpAnyL F md ops (aR R) (λa=>X u.heap.size u a) late (k+1) L (fa n f) w):=
 let⟨_,_,ha,hf,hc,h⟩:=h;⟨tC i hi c e l (dm g ha rfl hf) hc λw' b=>⟨hB.tn (b.mono hB.size),(h w' (hB.tn (b.mono hB.size))).h⟩⟩
def kE(h:PH F fn args w λe w'=>e=.returned v/\w=w')(e:v=v'):PH F fn args w λe w'=>e=.returned v'/\X w w w':=h.mono λ_ _ h=>⟨e▸h.1,h.2▸X.refl _ _⟩
def kB(h:PH F fn args w λe w'=>e=.returned v/\X w w w')(e:v=v'):PH F fn args w λe w'=>e=.returned v'/\X w w w':=h.mono λ_ _ h=>⟨e▸h.1,h.2⟩
def ic(m:Nat){l:List Nat}{a:Act}(c:ops.size=m)(b:List.range m=l)(h:wpOps F ops Q l a w):Ly.wp F (.region id ops false) Q a w:=wF (by rw[c];exact b) h
def vB{a b:Bool}(h:a=b):M.bool a=.bool b:=h▸rfl
def vI{a b:Int}(h:a=b):M.int .i64 a=.int .i64 b:=h▸rfl
def Tn(hB:X u.heap.size u w){a:Act}(h:X u.heap.size u w.drew->At 0 (wpAnyL F .any ops Q (λb=>X u.heap.size u b) (λ_=>false) ops.size (Array.replicate ops.size false) a w.drew)):(Ly.region id ops true).wp F Q a w:=bK _ rR (h hB.drew).h
def XT{a:Act}(h:aR R .normal a w)(b:Region.ready md ops L=[]:=by kernel_rfl):Ac j (wpAnyL F md ops (aR R) (λc=>X u u c) late k L a w):=⟨cH b h k⟩
def Xt(h:Ac 0 p):At j p:=⟨h.h⟩
end
section
variable{Z:ae->M}{o:Kp}{w:H}{x y:ae}{v:M}{a c:Int}{t g i:Nat}
theorem Uw{k:Nat}{vs:Array M}(c:o.op=.extract x k)(d:Z x=.tuple vs)(a:vs[k]?=Y v):(Hn Z o).run F w=.ok (.value v) w:=by
 have b:=(ec.1 a).1;unfold Hn;simp only[c,d];simp[go_sem,b,(ec.1 a).2]
theorem Vw(b:o.op=.convert 5 3 x)(c:Z x=.int .u8 a)(h:0<=a/\a<=255)(e:yW (.int .i64 a) v):(Hn Z o).run F w=.ok (.value v) w:=by
 obtain⟨rfl⟩:=e;unfold Hn;simp only[b,c];go_simp;rw[Go.IntWalk.i64_in _ zz]
theorem XY(d:o.op=.binOp .rem 3 x y 3)(f:Z x=.int .i64 a)(g:Z y=.int .i64 c)(b:0<=a/\a<=1000)(hc:0<c/\c<=1000)(e:yW (.int .i64 (a%c)) v):(Hn Z o).run F w=.ok (.value v) w:=by
 obtain⟨rfl⟩:=e;unfold Hn;simp only[d,f,g];go_simp;rw[qVB zz,Int.tmod_eq_emod_of_nonneg b.1]
end
structure Qz(q:Prop):Prop where h:q
def Tw{p q:Prop}(d:q)(h:Qz q->p:=by intro hqq;(repeat (first|((first|refine XI rfl rfl ?_ hB ?_|refine XP rfl rfl rfl rfl ?_ hB ?_);(first|exact bY rfl|(refine eE rfl rfl ?_ ?_;omega;focus ((repeat (first|exact au _ _ _|assumption|refine Oh ?_));done)));refine⟨?_,λf e=>?_,?_⟩;rotate_left;focus ((first|refine bq (.inl rfl) ?_|refine bq (.inr rfl) ?_|(refine TH (g:=?_) (off:=?_) rfl rfl ?_ ?_;rotate_left 2)|(refine abe (g:=?_) (off:=?_) rfl rfl ?_ ?_;rotate_left 2)|(refine aa6 (r:=?_) rfl ?_ ?_;rotate_left 1)|(refine Vh (r:=?_) (q:=?_) (p:=?_) rfl ?_ ?_ ?_ ?_;rotate_left 3)|(refine Sr (a:=?_) (b:=?_) (r:=?_) rfl rfl ?_ ?_ ?_ ?_;rotate_left 3)|(refine j0 (r:=?_) rfl ?_ ?_;rotate_left 1)|(refine Vj (g:=?_) (off:=?_) (m:=?_) (cp:=?_) (k:=?_) rfl rfl ?_ ?_ ?_ ?_;rotate_left 5)|(refine SF (A:=?_) (m:=?_) (cp:=?_) rfl rfl rfl ?_ ?_;rotate_left 3)|(refine E4 (a:=?_) (b:=?_) rfl ?_ ?_ ?_ ?_;rotate_left 2)|(refine AW (a:=?_) (b:=?_) rfl ?_ ?_ ?_ ?_;rotate_left 2)|(refine gE (g:=?_) (B:=?_) rfl ?_ ?_ ?_;rotate_left 2)|(refine Vw (a:=?_) rfl ?_ ?_ ?_;rotate_left 1)|(refine XY (a:=?_) (c:=?_) rfl ?_ ?_ ?_ ?_ ?_;rotate_left 2)|(refine Uw (vs:=?_) rfl ?_ ?_;rotate_left;(focus (refine Ls ?_;(repeat (first|exact au _ _ _|assumption|refine Oh ?_));done));exact rfl));all_goals first|(refine Ls ?_;(repeat (first|exact au _ _ _|assumption|refine Oh ?_));done)|exact Tv|((first|refine(qWB rfl).tn ?_|refine(qVB Bool.false_ne_true).tn ?_);first|(refine Ls ?_;(repeat (first|exact au _ _ _|assumption|refine Oh ?_));done)|exact Tv)|assumption|(refine Eq.tn (Below.cell (B:=?_) (w:=?_) ?_ ?_) ?_;rotate_left 2;assumption;assumption;assumption)|(refine Eq.tn (Below.block (B:=?_) (w:=?_) ?_ _ ?_) ?_;rotate_left 2;assumption;assumption;assumption)|(refine dT ?_ ?_;omega;exact rfl)|(refine dF ?_ ?_;omega;exact rfl)|(unfold Sm;omega)|omega|exact vq|exact XH))|((first|refine XJ rfl rfl ?_ ?_|refine XQ rfl rfl rfl ?_ hB ?_);(focus refine jc rfl rfl ?_ ?_;omega;(repeat (first|exact au _ _ _|assumption|refine Oh ?_));done))|refine XO rfl ?_));exact hqq.h):p:=h ⟨d⟩
def rr(h:p:=by((first|(refine Tn hB ?_;intro hB)|refine ic 1 rfl rfl ?_|refine ic 2 rfl rfl ?_|refine ic 3 rfl rfl ?_|refine ic 4 rfl rfl ?_|refine ic 5 rfl rfl ?_|refine ic 6 rfl rfl ?_|refine ic 7 rfl rfl ?_|refine ic 8 rfl rfl ?_|refine ic 9 rfl rfl ?_|refine ic 14 rfl rfl ?_);refine Tw ?_;(try refine Xt ?_);(repeat (first|(((first|refine XR rfl rfl rfl ?_ hB ?_|refine XS rfl rfl rfl rfl ?_ hB ?_);(first|exact bY rfl|(refine eE rfl rfl ?_ ?_;omega;focus ((repeat (first|exact au _ _ _|assumption|refine Oh ?_));done)));refine⟨?_,?_,?_,?_,?_,λd hB=>?_⟩;rotate_left 2;(focus ((first|(refine XF (a:=?_) ?_;rotate_left 1)|(refine MJ (a:=?_) (b:=?_) ?_ ?_;rotate_left 2)|(refine MK (a:=?_) (b:=?_) (c:=?_) ?_ ?_ ?_;rotate_left 3));all_goals first|(refine Ls ?_;(repeat (first|exact au _ _ _|assumption|refine Oh ?_));done)|exact Tv));exact rfl;(first|exact hc _ hB|exact hcon _ hB|((first|refine kE (bz _ _ _ _) ?_|(refine kB (rH _ _ ?_ ?_ _) ?_;assumption;assumption)|(refine kB (rI _ _ ?_ _) ?_;assumption));(first|(refine vB (b:=?_) ?_;rotate_left;assumption)|(refine vI (b:=?_) ?_;rotate_left;assumption)|exact rfl))));refine Tw ?_;(try refine Xt ?_))|refine adc rfl ?_));(first|refine XT ?_|refine lE ?_);refine Rs.mk hB (λi hi=>?_) ?_;(focus ((repeat (refine(cu _ _ ?_).tn ?_;omega));exact rfl));(first|exact rfl|exact⟨rfl,rfl⟩|exact⟨rfl,rfl,rfl⟩|exact qYB|(simp;done)))):p:=h
def bn{x y:Ly}(u:H)(keep:Nat->Prop)(p:(Nat->M)->Prop)(h:Ly.wp F x (aR (Rs N u f keep p)) (fa N f) w)(next:∀f' w',X u u w'->(∀i,keep i->f' i=f i)->p f'->Ly.wp F y Q (fa N f') w'):Ly.wp F (.seq x y) Q (fa N f) w:=
 wp_seq (wp_mono h λe a w' d=>by
  obtain⟨rfl,f',rfl,b,h2,c⟩:=d.elim;exact next f' w' b h2 c)
def To{x:Ly}(u:H)(keep:Nat->Prop)(p:(Nat->M)->Prop)(h:Ly.wp F x (aR (Rs N u f keep p)) (fa N f) w)(next:∀f' w',X u.heap.size u w'->(∀i,keep i->f' i=f i)->p f'->Q .normal (fa N f') w'):Ly.wp F x Q (fa N f) w:=
 wp_mono h λe a w' d=>by
  obtain⟨rfl,f',rfl,b,h2,c⟩:=d.elim;exact next f' w' b h2 c
end
variable{l:List (Int×Int)}{N:Nat}{u:H}{keep:Nat->Prop}{p:(Nat->M)->Prop}{x y:Ly}{b:aC}
def Ni{n t k:Nat}{f:Nat->M}(h:t<n)(e:f t=.int .i64 k):(intOf ((fa n f).tmps.getD t D)).toNat=k:=by
 rw[Array.getD_eq_getD_getElem?,ej h,e];simp[intOf]
def Lp(N:Nat)(u:H)(f:Nat->M)(R:Int)(e:Exit)(a:Act)(w:H):Prop:=(e=.normal/\R=0/\∃f',a=fa N f'/\X u u w/\f' 1=f 1)\/(e=.ret/\R≠0/\∃f',a=fa N f'/\X u u w/\f' 2=.int .i64 R)
def TK(a4:aK u g 31 b)(a5: -1000<=b.S)(a6:b.S<=1000)(K:f 1=(g,0))(a3:g<u)(x10:u (g,10)=Y (.slice b.U.A b.U.n b.U.c))(C:bp u b.U l)(h4:f 4=.int .i64 (0:Nat))(hB:X u u w):
  Ly.wp F (.block 0 (.loop ux)) (Lp 119 u f (nD b.S l)) (fa 119 f) w:=by
 have ø:=0;exact sT
def TL(x6:u (g,6)=Y (.int .i64 b.rf))(a':2<=b.rf)(a0:b.rf<=30)(x9:u (g,9)=Y (.int .i64 b.ch))(K:f 1=(g,0))(a3:g<u)(x11:u (g,11)=Y (.slice b.E.A b.E.n b.E.c))(C:bp u b.E l)(h5:f 5=.int .i64 (0:Nat))(hB:X u u w):
  Ly.wp F (.block 2 (.loop uy)) (Lp 119 u f (nF b.rf b.ch l)) (fa 119 f) w:=by
 have å:=0;exact sT
def TM{l:List (Int×Int×Bool)}(a4:aK u g 31 b)(b1:b.U.n<=1000)(a5: -1000<=b.S)(a6:b.S<=1000)(K:f 1=(g,0))(a3:g<u)(x12:u (g,12)=Y (.slice b.W.A b.W.n b.W.c))(C:fL u b.W l)(h6:f 6=.int .i64 (0:Nat))(hB:X u u w):
  Ly.wp F (.block 4 (.loop za)) (Lp 119 u f (qi b.S b.U.n l)) (fa 119 f) w:=by
 have æ:=0;exact sT
variable{x:ae}
theorem B8{b:aC}(c:o.op=.box 31 x)(a:Z x=b.v):(Hn Z o).run F w=.ok (.value (.pointer (Y (w.heap.size,0)))) (w.alloc (aE b 31)):=by
 unfold aC.v at a;unfold Hn;simp only[c,a];unfold aE;go_simp;try rfl
def ZO{f:Nat->M}{r:Int}{w:H}(h:f 2=r):(results Tryz.f15 (fa 119 f).tmps).run F w=.ok (.int .i64 r) w:=by
 have e:(fa 119 f).tmps[2]?=Y (.int .i64 r):=by rw[ej zz,h]
 generalize(fa 119 f).tmps=A at e;unfold results Tryz.f15;simp[e]
def mm(b:aC)(l:pK)(w:H)(j:aI w b l):
  PH F 15 #[b.v] w λe w'=>e=.returned (.int .i64 (ay b l))/\X w w w':=by
 refine gy 119 Tryz.func15 (c:=fG) rfl rfl λf a1=>?_;have f0:f 0=b.v:=a1 _;clear a1;rw[ML];refine wp_seq (wF (l:=[0,1]) rfl ?_);refine lV (d:=1) (.pointer (Y ⟨w.heap.size,0,I⟩)) rfl rfl zz wnn (B8 rfl (ag (t:=0) zz f0)) ?_;refine lV (d:=2) (.int .i64 0) rfl rfl zz wnn (bq (.inr rfl) rfl) ?_;refine lE ?_;have x:aK (w.alloc (aE b 31)) w 31 b:=Sp _ _;have A:X w w (w.alloc (aE b 31)):=(X.refl _ _).alloc (qN _) _;have a5:(w.alloc (aE b 31)).heap.size=w.heap.size+1:=aa _ _;have j:=j.below A;have e1:ah (ah f 1 (.pointer (Y (w.heap.size,0)))) 2 (.int .i64 0) 1=.pointer (Y (w.heap.size,0)):=rfl;generalize ah (ah f 1 (.pointer (Y ⟨w.heap.size,0,I⟩))) 2 (.int .i64 0)=f1 at e1|-;generalize w.alloc (aE b 31)=u at x A a5 j|-;have C:(w:Nat)<u:=zz;generalize O:w.heap.size=g at e1 x C;have hB:X u u u:=X.refl _ _;have n:∀{f' w'},X u u w'->∀{r},f' 2=.int .i64 r->ay b l=r->bodyPost F Tryz.f15 (λe w'=>e=.returned (.int .i64 (ay b l))/\X g w w') .ret (fa 119 f') w':=λhB r h2 k=>by
  subst k;exact bd (v:=.int .i64 (ay b l)) (ZO h2) rfl ⟨rfl,O▸A.tn (hB.mono A.size)⟩
 obtain⟨r,k⟩:∃r,dZ b l.C=r:=⟨_,rfl⟩;have hc:=λw1 (h:X u.heap.size u w1)=>kB (Ic b l.C w1 (j.C.below h)) (vI k);refine wp_seq (bn u (λi=>i<7/\i≠3) (λf'=>f' 3=.int .i64 r) rr λf2 w2 hB k2 q2=>?_);have e1:=(k2 1 zz).tn e1;clear hc;cases J:(r != 0);rotate_left
 .refine bn u (· < 7) (λf'=>f' 10=.bool true) rr λf3 U hB p o=>wp_cond_true (ag zz o) ?_;have e3:=(p 3 zz).tn q2;refine bn u (λi=>i<7/\i≠2) (λf'=>f' 2=.int .i64 r) rr λV w4 hB Q z=>wp_ret ?_;refine n hB z ?_;have B:r≠0:=by simpa using J
  rw[<- k]at B|-;unfold dZ at B|-;unfold ay;split
  .rfl
  .rename_i O;rw[qVB O]at B;rw[qWB B]
 .have a4:r=0:=by simpa using J
  refine bn u (· < 7) (λf'=>f' 10=.bool false) rr λf3 U hB p o=>wp_cond_false (ag zz o) (wp_skip ?_);have e1:=(p 1 zz).tn e1;rw[a4]at k;clear k2 p q2 o J;have P:cA b l.C=0:=by
   by_cases h:cA b l.C=0
   .exact h
   .unfold dZ at k;rw[qWB h]at k;exact mi k h
  have Z:cZ b=0:=by unfold dZ at k;rw[qVB (by simp[P])]at k;exact k
  obtain⟨t1,t2,t3,t4,t5,t6,t7,t8,t9,b3,b4⟩:=cS P;obtain⟨u1,u2,u3,u4,u5,u6,u7,u8,u9⟩:=wL Z;have HK:ay b l=if fH b.S l.U≠0 then fH b.S l.U else if fT b.rf b.ch l.E≠0 then fT b.rf b.ch l.E else ki b.S l.U.length l.W:=by
   rw[ay,qVB (by simp[P]),qVB (by simp[Z])]
  obtain⟨x0,x1,x2,x3,x4,x5,x6,x7,x8,x9,a6,a7,a8⟩:=aM x;have N:b.U.n=l.U.length:=j.U.1;have a0:l.U.length<=1000:=j.U.2.2.1;have a':b.E.n=l.E.length:=j.E.1;have b2:b.W.n=l.W.length:=j.W.1;refine wp_seq ?_;cases hF:ax (b.U.n:Nat) 1 4
  .refine bn u (· < 7) (λf'=>f' 16=.bool true) rr λf3 U hB p o=>wp_cond_true (ag zz o) ?_;refine bn u (λi=>i<7/\i≠2) (λf'=>f' 2=.int .i64 2) rr λV w4 hB Q z=>wp_ret (n hB z ?_);have:fH b.S l.U=2:=by rw[fH,<- N,qVB (by simp[hF])]
   rw[HK,this];rfl
  .refine bn u (· < 7) (λf'=>f' 16=.bool false) rr λf3 U hB p o=>wp_cond_false (ag zz o) (wp_skip ?_);have e1:=(p 1 zz).tn e1;have a2:fH b.S l.U=nD b.S l.U:=by rw[fH,<- N,qWB hF]
   rw[a2]at HK;refine wp_seq (bn u (λi=>i<7/\i≠4) (λf'=>f' 4=.int .i64 0) rr λV w4 hB Q z=>?_);have e1:=(Q 1 zz).tn e1;refine wp_mono (TK x zz zz e1 C a6 j.U z hB) λe a w5 y=>?_;rcases y with⟨rfl,K,f5,rfl,hB,R⟩|⟨rfl,K,f5,rfl,hB,R⟩;rotate_left
   .exact n hB R (by rw[HK,qWB K])
   have e1:=R.tn e1;rw[qVB (by simp[K])]at HK;refine wp_seq ?_;by_cases a9:3<b.E.n
   .refine bn u (· < 7) (λf'=>f' 44=.bool true) rr λf6 w6 hB k6 S=>wp_cond_true (ag zz S) ?_;refine bn u (λi=>i<7/\i≠2) (λf'=>f' 2=.int .i64 2) rr λf7 E hB q m=>wp_ret (n hB m ?_);have:fT b.rf b.ch l.E=2:=by rw[fT,qWB zz]
    rw[HK,this];rfl
   .refine bn u (· < 7) (λf'=>f' 44=.bool false) rr λf6 w6 hB k6 S=>wp_cond_false (ag zz S) (wp_skip ?_);have e1:=(k6 1 zz).tn e1;have a3:fT b.rf b.ch l.E=nF b.rf b.ch l.E:=by rw[fT,qVB zz]
    rw[a3]at HK;refine wp_seq (bn u (λi=>i<7/\i≠5) (λf'=>f' 5=.int .i64 0) rr λf7 E hB q m=>?_);have e1:=(q 1 zz).tn e1;refine wp_mono (TL x6 zz zz x9 e1 C a7 j.E m hB) λe a w8 y=>?_;rcases y with⟨rfl,L,G,rfl,hB,s⟩|⟨rfl,L,G,rfl,hB,s⟩;rotate_left
    .exact n hB s (by rw[HK,qWB L])
    have e1:=s.tn e1;rw[qVB (by simp[L])]at HK;refine wp_seq ?_;by_cases b1:4<b.W.n
    .refine bn u (· < 7) (λf'=>f' 91=.bool true) rr λf9 w9 hB k9 T=>wp_cond_true (ag zz T) ?_;refine bn u (λi=>i<7/\i≠2) (λf'=>f' 2=.int .i64 2) rr λf7 E hB q m=>wp_ret (n hB m ?_);rw[HK,ki,qWB zz]
    .refine bn u (· < 7) (λf'=>f' 91=.bool false) rr λf9 w9 hB k9 T=>wp_cond_false (ag zz T) (wp_skip ?_);have e1:=(k9 1 zz).tn e1;rw[ki,qVB zz,<- N]at HK;refine wp_seq (bn u (λi=>i<7/\i≠6) (λf'=>f' 6=.int .i64 0) rr λf7 E hB q m=>?_);have e1:=(q 1 zz).tn e1;refine wp_mono (TM x zz zz zz e1 C a8 j.W m hB) λe a w8 y=>?_;rcases y with⟨rfl,W,G,rfl,hB,s⟩|⟨rfl,W,G,rfl,hB,s⟩;rotate_left
     .exact n hB s HK
     refine bn u (λi=>i<7/\i≠2) (λf'=>f' 2=.int .i64 0) rr λf7 E hB q m=>wp_ret (n hB m ?_);rw[HK,W]
variable{B:Nat}{p:Prop}{L:List Int}{y:ae}{c:Int}{v0 v1 u v':M}
def VC{g i:Nat}{c:Array M}{t:Lk}(h:w.heap[g]?=Y (.cells c t (0,0))):w.frozen? (g,i)=false:=by
 unfold H.frozen?;rw[h];simp
def pL(h:p:=by first|(refine Ls ?_;(repeat (first|exact au _ _ _|assumption|refine Oh ?_));done)|exact rfl):p:=h
def QA(h:p:=by(repeat (refine(cu _ _ ?_).tn ?_;omega));exact rfl):p:=h
def ES(w:H)(B:Nat)(v:M)(L:List Int):Prop:=∃A c,v=.slice A L.length c/\w.ownsRow B 3 1 (.slice A L.length c) L.length (L.map (M.int .i64))
def ab9(h:w.ownsRow B 3 1 v L.length (L.map (M.int .i64))):ES w B v L:=by
 obtain⟨A,c,rfl⟩:=tK h;exact⟨A,c,rfl,h⟩
def ES.up(h:ES w B v L)(a:X w w w'):ES w' B v L:=let⟨A,c,h1,h2⟩:=h;⟨A,c,h1,rK h2 a⟩
def ES.ints(h:ES w B v L)(a:L.length<=1000):∃s:Sl,v=.slice s.A s.n s.c/\eC w s L:=by
 obtain⟨A,c,rfl,h2⟩:=h;exact⟨⟨A,L.length,c⟩,rfl,Jf h2 rfl a⟩
theorem ab5(a:o.op=.alloc 23):(Hn Z o).run F w=.ok (.value (.pointer (Y (w.heap.size,0)))) (w.alloc (.cells #[.int .i64 0,.int .i64 0] 23)):=by
 unfold Hn;simp only[a];go_simp;try rfl
theorem ab6(b:o.op=.store 23 x y)(d:Z x=.pointer (Y (g,0)))(e:Z y=.agg #[.int .i64 a,.int .i64 c])(h:w.heap[g]?=Y (.cells #[v0,v1] 23 (0,0))):(Hn Z o).run F w=.ok .skip ((w.setCell (g,0) (.int .i64 a)).setCell (g,1) (.int .i64 c)):=by
 obtain⟨c0,f⟩:=kV h;have f0:w.frozen? (g,0)=false:=VC h;have f1:w.frozen? (g,1)=false:=VC h;unfold Hn;simp only[b,d,e];go_simp
def Rn(w:H)(p:List Int×Int)(v:M)(w':H):Prop:=∃A c,v=.tuple #[.slice A p.1.length c,.int .i64 p.2]/\w'.ownsRow w.heap.size 3 1 (.slice A p.1.length c) p.1.length (p.1.map (M.int .i64))/\X w w w'
def wgg{ops:Array Kp}{oi:Kp}{j n g:Nat}{t:Bool}{f:Nat->M}(b:oi.guard=Y (j,t))(c:(ops[j]?).bind (·.dst)=Y g)(a:f g=.bool t)(d:g<n:=by omega):Region.wanted oi (aw ops (fa n f).tmps)=true:=eE b c d a
def lcw{c p q:Prop}(hc:c)(b:q)(k:Qz c->Qz q->p:=by(intro a hqq;refine lC rfl rfl zz (wgg rfl rfl rfl) (dm rfl (by first|exact MJ pL pL|exact MJ pL (Ls rfl)) rfl rfl) a.h λd e=>?_;subst d;refine Tw ?_;exact hqq.h)):p:=k ⟨hc⟩ ⟨b⟩
def M0(h:p:=by(repeat (first|assumption|(apply Eq.tn;(apply_assumption -symm -exfalso<;>omega))))):p:=h
def blk{o:Obj}(h:w.heap[g]?=Y o)(a:X w w w'):w'.heap[g]?=Y o:=(a.block _ (ec.1 h).1).tn h
def rmq(h:p:=by(repeat (first|assumption|(apply ES.up;rotate_left;assumption)|(apply blk;rotate_left;assumption)))):p:=h
def aaK{x y:Ly}{R:Act->H->Prop}{a:Act}{Q0 Q1:Act->H->Prop}(h:Ly.wp F x (aR R) a w)(next:∀b w',R b w'->nA F y Q0 Q1 b w'):nA F (.seq x y) Q0 Q1 a w:=
 mG (wp_mono h λe a w' c=>by
  obtain⟨rfl,h⟩:=c.elim;exact⟨rfl,next a w' h⟩)
theorem Qt(b:aC)(w:H)(f:mX b=true):
  PH F 4 #[b.v] w λe w'=>e=.returned (.bool false)/\X w w w':=by
 have a:=λd=>ME b d;simp only[f]at a;unfold aC.v at a|-;go_enter Tryz.func4,Tryz.ntmps4;go_wp2_with (go_at_call 14;refine(a _).mono ?_;rintro e d ⟨rfl,c⟩;obtain⟨g,h⟩:=aU c);go_ret;exact⟨rfl,di c⟩
theorem Qu(b:aC)(l:pK)(w:H)(j:mX b=false)(k:aI w b l):
  PH F 4 #[b.v] w λe w'=>e=.returned (.bool (ay b l==0))/\X w w w':=by
 have h:=Hm k;have d:=λa=>ME b a;have f:=λa (i:aI a b l)=>mm b l a i;simp only[j]at d;generalize ay b l=r at f|-;unfold aC.v at d f|-;go_enter Tryz.func4,Tryz.ntmps4;go_wp2_with (first|(go_at_call 14;refine(d _).mono ?_;rintro e a ⟨rfl,c⟩;obtain⟨m,o⟩:=aU c)|(go_at_call 15;refine(f _ ((aq h.out _).below c)).mono ?_;rintro e q ⟨rfl,g⟩;obtain⟨n,p⟩:=aU g));go_ret;exact⟨rfl,di (c.tn (g.mono c.size))⟩
open Go.Conc
def qM:Ly:=match Tryz.f3.body with|some c=>c|_=>.skip
def acO:Array Kp:=br [0] qM
def abu:Array Kp:=br [1,0,0] qM
def TP:Array Kp:=br [1,0,1,4,0] qM
def abT:Array Kp:=br [1,1,0] qM
def abU:Array Kp:=br [1,1,1,0] qM
def abW:Array Kp:=br [1,1,1,1,0] qM
def acP:Array Kp:=br [1,1,1,1,1,0] qM
def Xo:Array Kp:=br [1,1,1,1,1,1,0] qM
def Yk:Array Kp:=br [1,1,1,1,1,1,1,0,0] qM
def acQ:Array Kp:=br [1,1,1,1,1,1,1,0,1,4,0] qM
def Uy:Array Kp:=br [1,1,1,1,1,1,1,1,0,0] qM
def Nj:Array Kp:=br [1,1,1,1,1,1,1,1,0,1,4,0] qM
def ab7:Array Kp:=br [1,1,1,1,1,1,1,1,1,0] qM
def ab8:Array Kp:=br [1,1,1,1,1,1,1,1,1,1,0,0] qM
def acd:Array Kp:=br [1,1,1,1,1,1,1,1,1,1,1,0] qM
def ace:Array Kp:=br [1,1,1,1,1,1,1,1,1,1,1,1,0,0] qM
def IA:Ly:=dk [1,1,1,1,1,1,1,1,1,1,1,1,0,1,2,3] qM
def acf:Array Kp:=br [0,0] IA
def acg:Array Kp:=br [1,0,2,0] IA
def aci:Array Kp:=br [1,0,2,1,0,0] IA
def acm:Array Kp:=br [1,0,2,1,0,1,4,0] IA
def acn:Array Kp:=br [1,0,2,1,1,0,0] IA
def aco:Array Kp:=br [1,0,2,1,1,0,1,4] IA
def acp:Array Kp:=br [1,0,2,1,1,1,0] IA
def acr:Array Kp:=br [1,0,2,1,1,1,1,4] IA
def acs:Array Kp:=br [1,1] IA
def acu:Array Kp:=br [1,1,1,1,1,1,1,1,1,1,1,1,1,0,0] qM
def JG:Array Kp:=br [1,1,1,1,1,1,1,1,1,1,1,1,1,1,0] qM
def Yo:IA=.seq (.seq (.region 17 acf false) (.cond (.tmp 159) (.skip) (.exit 0))) (.seq (.block 1 (.seq (.region 19 acg false) (.seq (.seq (.region 20 aci false) (.cond (.tmp 170) (.seq (.region 21 acm false) (.ret)) (.skip))) (.seq (.seq (.region 22 acn false) (.cond (.tmp 172) (.region 23 aco false) (.skip))) (.seq (.region 24 acp false) (.cond (.tmp 176) (.region 25 acr false) (.skip))))))) (.region 18 acs false)):=rfl
variable{w0:H}{l:pK}{at_ i stp hour:Int}{f':Nat->M}
structure Sz(w0:H)(b:aC)(l:pK)(at_ i:Int)(f:Nat->M)(w:H):Prop where
 low:X w0 w0 w
 bx:aK w w0.heap.size 31 b
 bk:aI w b l
 ck:aD w
 e3:f 3=(w0.heap.size,0)
 e7:f 7=at_
 e8:f 8=i
def Sw(w:H)(f:Nat->M)(keep:Nat->Prop)(p:(Nat->M)->H->Prop)(a:Act)(w':H):Prop:=∃f',a=fa 250 f'/\X w w w'/\(∀j,keep j->f' j=f j)/\p f' w'
abbrev LsN(k:Nat)(ops:Array Kp)(w:H)(f:Nat->M)(keep:Nat->Prop)(p:(Nat->M)->H->Prop):Prop:=Ly.wp F (.region k ops false) (aR (Sw w f keep p)) (fa 250 f) w
abbrev LsR(k:Nat)(ops:Array Kp)(d:Bool)(w:H)(f:Nat->M)(keep:Nat->Prop)(p:(Nat->M)->Prop):Prop:=Ly.wp F (.region k ops d) (aR (Rs 250 w f keep p)) (fa 250 f) w
abbrev LsB(k:Nat)(ops:Array Kp)(w:H)(f:Nat->M)(t:Nat):Prop:=LsR k ops false w f (λj=>j<26) λf'=>f' t=.bool false
def Sz.go(h:Sz w0 b l at_ i f w)(hB:X w w w')(a:f' 3=f 3)(c:f' 7=f 7)(d:f' 8=f 8):Sz w0 b l at_ i f' w':=
 ⟨h.low.tn (hB.mono h.low.size),(hB.block _ h.bx.lt).tn h.bx,h.bk.below hB,h.ck.below hB,a.tn h.e3,c.tn h.e7,d.tn h.e8⟩
def Sz.all(h:Sz w0 b l at_ i f w):X w w w/\(w0:Nat)<w:=⟨X.refl _ _,h.bx.lt⟩
def Sz.row{v:M}{L:List Int}(h:Sz w0 b l at_ i f w)(a:w'.ownsRow w 3 1 v L.length (L.map (M.int .i64))):ES w' w0 v L:=ab9 (dy (q5A h.bx.lt) a)
def szq{c p:Prop}(hc:c)(q:Qz c->p:=by(intro hqq;have hcon:=hqq.h;obtain⟨hB,e⟩:=h.all;have f:=h.bx;have a:=h.e3;have b:=h.e7;have d:=h.e8;exact rr)):p:=q ⟨hc⟩
def szr{P:Program}{fn:FuncId}{args:Array Value}{E:Value->World->Prop}{p q:Prop}(hc:Calls P fn args w λe w'=>∃v,e=.returned v/\E v w')(b:q)(k:Qz (Calls P fn args w λe w'=>∃v,e=.returned v/\E v w')->Qz q->p:=by(intro a hqq;obtain⟨hB,g⟩:=h.all;have i:=h.bx;have c:=h.e3;have d:=h.e7;have f:=h.e8;(first|refine ic 7 rfl rfl ?_|refine ic 9 rfl rfl ?_|refine ic 10 rfl rfl ?_);refine Tw ?_;refine lR rfl rfl zz wnn (dm rfl (by first|exact XF pL|exact MJ pL pL) rfl rfl) a.h ?_;exact hqq.h)):p:=k ⟨hc⟩ ⟨b⟩
def ada(e:0<=stp/\stp<=255)(h2:0<=hour/\hour<=255)(g:0<b.S/\b.S<=1000)(h:0<b.U.n/\b.U.n<=1000)(a:aK w w0 31 b)(e1:f 1=.int .u8 hour)(c:f 2=.int .u8 stp)(d:f 3=(w0.heap.size,0)):
  LsR 3 abT true w f (λj=>j<26/\j≠7/\j≠8) λf'=>f' 7=.int .i64 (hour%b.U.n)/\f' 8=.int .i64 (stp%b.S):=by
 obtain⟨k,l,y2,p,y4,q,r,s,t,u,m,n,o⟩:=aM a;have hB:=X.refl w.heap.size w;have i:=a.lt;exact rr
def adb(h:Sz w0 b l at_ i f w)(k:cP b l (ax at_ 0 (b.U.n-1))=0):
  LsN 4 abU w f (λj=>j<26/\j≠9/\j≠10/\j≠11) λf' w'=>f' 11=.int .i64 (DF b l at_).2.2/\ES w' w0 (f' 9) (DF b l at_).1/\ES w' w0 (f' 10) (DF b l at_).2.1:=by
 refine szr (E:=λv w'=>∃a c,v=.tuple #[a,c,.int .i64 _]/\ES w' w0.heap.size a _/\ES w' w0.heap.size c _/\X w.heap.size w w') ((Of b l at_ w h.bk h.ck k).mono λe w' ⟨a,c,d,h2,g⟩=>⟨_,d,a,c,rfl,h.row h2.2.2.1,h.row h2.2.2.2.1,g⟩) ?_;rintro v o ⟨a,c,rfl,m,n,hB⟩;refine Tw ?_;exact lE ⟨_,rfl,hB,λj _=>QA,rfl,m,n⟩
def acS(h:Sz w0 b l at_ i f w)(hc:ay b l=0)(c:ax at_ 0 (b.U.n-1)=true)(a:aJ b l b.D.toNat=[]):
  LsR 4 abU false w f (λj=>j<26/\j≠9/\j≠10/\j≠11) λf'=>f' 9=.slice I 0 0/\f' 10=.slice I 0 0/\f' 11=.int .i64 9:=by
 obtain⟨hB,k⟩:=h.all;have n:=h.bx;have d:=h.e3;have e:=h.e7;have g:=h.e8;refine ic 10 rfl rfl ?_;refine Tw ?_;refine lC rfl rfl zz wnn (dm rfl (MJ pL pL) rfl rfl) (Yi b l at_ w h.bk h.ck hc c a) λo hB=>?_;refine Tw ?_;exact lE (Rs.mk hB (λj m=>QA) ⟨rfl,rfl,rfl⟩)
def ade(h:Sz w0 b l at_ i f w)(d:cP b l true=0):
  LsN 5 abW w f (λj=>j<26/\j≠12/\j≠13) λf' w'=>f' 13=.int .i64 (qq b l).2/\ES w' w0 (f' 12) (qq b l).1:=by
 refine szr (E:=Rn w (qq b l)) ((Lu b l w h.bk h.ck d).mono λe w' ⟨A,c,a,h2⟩=>⟨_,a,A,c,rfl,h2⟩) ?_;rintro v k ⟨A,c,rfl,g,hB⟩;refine Tw ?_;exact lE ⟨_,rfl,hB,λj _=>QA,rfl,h.row g⟩
def acT(h:Sz w0 b l at_ i f w)(hc:ay b l=0)(c:aJ b l b.D.toNat=[]):
  LsR 5 abW false w f (λj=>j<26/\j≠12/\j≠13) λf'=>f' 12=.slice I 0 0/\f' 13=.int .i64 9:=szq λd a=>XG b l d (h.bk.below a) (h.ck.below a) hc c
def acU{lo hi r:Int}(h:Sz w0 b l at_ i f w)(hc:PH F 8 #[b.v,.int .i64 i] w λe w'=>e=.returned (.tuple #[.agg #[.int .i64 lo,.int .i64 hi],.int .i64 r])/\X w w w'):
  LsN 6 acP w f (λj=>j<26/\j≠14/\j≠15) λf' w'=>∃g,f' 15=.int .i64 r/\f' 14=.pointer (Y (g,0))/\w0.heap.size<=g/\w'.heap[g]?=Y (.cells #[.int .i64 lo,.int .i64 hi] 23 (0,0)):=by
 refine szr (E:=λv w'=>v=_/\X w.heap.size w w') (hc.mono λe w' d=>⟨_,d.1,rfl,d.2⟩) ?_;rintro v a ⟨rfl,hB⟩;refine Tw ?_;refine lV _ rfl rfl zz wnn (ab5 rfl) ?_;have c:(a.alloc (.cells #[.int .i64 0,.int .i64 0] 23)).heap[a.heap.size]?=Y (.cells #[.int .i64 0,.int .i64 0] 23 (0,0)):=Sp _ _;obtain⟨k,h2⟩:=tR (.int .i64 lo) (.int .i64 hi) c;refine lS rfl rfl wnn (ab6 rfl pL pL c) ?_;have s0:=hB.size;have n:=h.bx.lt;have hB:=(hB.alloc s0 _).tn (h2.below so λx m=>zz);refine Tw ?_;exact lE ⟨_,rfl,hB,λj _=>QA,a.heap.size,rfl,rfl,zz,k⟩
variable{f:Nat->Bool}{S:Nat}
def lw(b:aC)(l:pK)(p:Nat)(h:Nat):Int:=lY (assoc (fN b l) ((h:Int),(p:Int))) (aJ b l b.D.toNat).length
def Ov(b:aC)(l:pK)(p:Nat):Nat->Bool:=λh=>decide (lw b l p h=1)
def Iv(b:aC)(l:pK)(p:Nat):Nat->Bool:=λh=> !decide (lw b l p h=2)
def M1{n:Int}:n∈ie f S↔∃i:Nat,n=i/\i<S/\f i=true:=by
 unfold ie;rw[List.mem_map];constructor
 .rintro⟨i,hi,rfl⟩;exact⟨i,rfl,List.mem_range.1 (List.mem_filter.1 hi).1,(List.mem_filter.1 hi).2⟩
 .rintro⟨i,rfl,a,h2⟩;exact⟨i,List.mem_filter.2 ⟨List.mem_range.2 a,h2⟩,rfl⟩
def Yp{f g:Nat->Bool}(h:∀n,n<S->f n=true->g n=true):(ie f S).length<=(ie g S).length:=by
 unfold ie;rw[lj,lj,<- List.countP_eq_length_filter,<- List.countP_eq_length_filter];exact List.countP_mono_left λn a=>h n (List.mem_range.1 a)
def Xp:(ie f S).length=0↔∀n,n<S->f n=false:=by
 rw[List.length_eq_zero_iff,List.eq_nil_iff_forall_not_mem];constructor
 .intro h n b;cases a:f n
  .rfl
  .exact mi (M1.2 ⟨n,rfl,b,a⟩) (h n)
 .intro h x c;obtain⟨n, -, b,a⟩:=M1.1 c;rw[h n b]at a;cases a
def Qx(f:Nat->Bool)(S:Int)(b:0<=S):bS S I (ie f S.toNat)=0:=by
 refine QF (λx a=>?_) ?_
 .obtain⟨i,rfl,hi,-⟩:=M1.1 a;exact⟨zz,zz,λy e=>by cases e⟩
 .unfold ie;rw[List.pairwise_map];exact(List.Pairwise.sublist List.filter_sublist List.pairwise_lt_range).imp λh=>zz
def TQ(b:aC)(l:pK)(p:Nat){y c:Int}:∀(L:List (Int×(Nat->Bool))) (z:Int×Int),(∀x∈L,y<=pF b l x p l.U.length/\(pF b l x p l.U.length:Int)<=c)->y<=z.1->z.2<=c->y<=(yc b l p z L).1/\(yc b l p z L).2<=c/\(yc b l p z L).1<=z.1/\z.2<=(yc b l p z L).2/\∀x∈L,(yc b l p z L).1<=pF b l x p l.U.length/\(pF b l x p l.U.length:Int)<=(yc b l p z L).2
 | [],z,_,f,h2=>⟨f,h2,Int.le_refl _,Int.le_refl _,λx d=>by simp at d⟩
 | a::r,z,h,f,h2=>by
  have n:=h a ss;obtain⟨g,i,j,k,m⟩:=TQ b l p r (min z.1 (pF b l a p l.U.length:Nat),max z.2 (pF b l a p l.U.length:Nat)) (λx d=>h x (by simp[d])) (by dsimp only;omega) (by dsimp only;omega);have e:yc b l p z (a::r)=yc b l p (min z.1 (pF b l a p l.U.length:Nat),max z.2 (pF b l a p l.U.length:Nat)) r:=rfl;rw[e];dsimp only at j k;refine⟨g,i,zz,zz,λx d=>?_⟩;rcases dq.1 d with rfl|d
  .exact⟨zz,zz⟩
  .exact m x d
structure aak(b:aC)(l:pK)(p at_:Nat):Prop where
 u1:decide (lw b l p at_=1)=decide ((p:Int)∈(DF b l at_).1)
 u0:decide (lw b l p at_=0)=decide ((p:Int)∈(DF b l at_).2.1)
 c1:bS b.S I (DF b l at_).1=0
 c2:bS b.S I (DF b l at_).2.1=0
 c3:bS b.S I (qq b l).1=0
 len:(DF b l at_).1.length<=400/\(DF b l at_).2.1.length<=400/\(qq b l).1.length<=400
 lo:((ie (Ov b l p) l.U.length).length:Int)<=(qs b l p).1.1
 lh:(qs b l p).1.1<=(qs b l p).1.2
 hi:(qs b l p).1.2<=(ie (Iv b l p) l.U.length).length
 dk:decide ((p:Int)∈(qq b l).1)=decide (((ie (Iv b l p) l.U.length).length:Int)=0)
 h0:decide ((qs b l p).1.2=0)=decide (((ie (Iv b l p) l.U.length).length:Int)=0)
 top:¬(o5 b l).2<(DF b l at_).1.length
 fst:((DF b l at_).1.length:Int)=(o5 b l).2->¬(at_:Int)<(o5 b l).1
 own:(at_:Int)=(o5 b l).1->((DF b l at_).1.length:Int)=(o5 b l).2
 cX:0<=(o5 b l).1/\(o5 b l).1<=l.U.length-1
def TS{b:aC}{l:pK}{p at_:Nat}(hc:ay b l=0)(c:aJ b l b.D.toNat≠[])(d:(p:Int)<b.S)(v:at_<l.U.length)(b7:b.U.n=l.U.length)(hU:l.U.length<=1000):aak b l p at_:=by
 have ø:=0;exact dN
variable{u:Int}{p:Nat}{f:Nat->M}
def adf(a:f 11=(0:Int))(b:f 13=(0:Int))(c:f 15=(0:Int))(d:f 18=(0:Int)):LsB 8 Yk w f 77:=by
 have hB:=X.refl w.heap.size w;refine wF rfl ?_;refine Tw ?_;exact lE (Rs.mk hB (λj e=>QA) rfl)
def acV(a:f 11=(0:Int)):LsB 10 Uy w f 79:=by
 have hB:=X.refl w.heap.size w;exact rr
def acW(h:Sz w0 b l at_ i f w)(c:cP b l (mW b at_ i)=0):
  LsR 12 ab7 false w f (λj=>j<26/\j≠19/\j≠20) λf'=>f' 19=.int .i64 (oQ b l at_ i).1/\f' 20=.int .i64 (oQ b l at_ i).2:=szq λd a=>ya b l at_ i d (h.bk.below a) (h.ck.below a) c
def acX:LsR 15 acd false w f (λj=>j<21) λf'=>f' 21=.int .i64 0/\f' 22=.int .i64 0:=by
 have hB:=X.refl w.heap.size w;exact rr
def acY{L9 L10 L12:List Int}{s9 s10 s12:Sl}(h:Sz w0 b l at_ i f w)(t: -1000<=b.S/\b.S<=1000)(v:u=1\/u=2\/u=0)(N:f 19=u)(O:f 20=(0:Int))(R:f 9=.slice s9.A s9.n s9.c)(r:eC w s9 L9)(J:f 10=.slice s10.A s10.n s10.c)(p:eC w s10 L10)(K:f 12=.slice s12.A s12.n s12.c)(A:eC w s12 L12)
  (d:decide (u=1)=decide (i∈L9))(c:decide (u=0)=decide (i∈L10))(x:bS b.S I L9=0)(y:bS b.S I L10=0)(z:bS b.S I L12=0):LsB 13 ab8 w f 154:=by
 obtain⟨hB,S⟩:=h.all;obtain⟨V,W,y2,y3,y4,y5,y6,y7,y8,y9,Z,a1,a2⟩:=aM h.bx;have P:=h.e3;have Q:=h.e8;have o:=ze i s9 L9 w r;have n:=ze i s10 L10 w p;have C:∀{s:Sl} {L:List Int},eC w s L->bS b.S I L=0->∀a,X w w a->PH F 12 #[.slice s.A s.n s.c,.int .i64 b.S] a λe w'=>e=.returned (.int .i64 0)/\X w w w':=λ{s L} B hc a g=>(vU b.S t.1 t.2 s L a (B.below g)).mono λe w' q=>⟨by rw[<- hc];exact q.1,g.tn (q.2.mono g.size)⟩;have E:(u=1/\decide (i∈L9)=true/\decide (i∈L10)=false)\/(u=2/\decide (i∈L9)=false/\decide (i∈L10)=false)\/(u=0/\decide (i∈L9)=false/\decide (i∈L10)=true):=by
  rcases v with rfl|rfl|rfl
  .exact .inl ⟨rfl,d.symm,c.symm⟩
  .exact .inr (.inl ⟨rfl,d.symm,c.symm⟩)
  .exact .inr (.inr ⟨rfl,d.symm,c.symm⟩)
 clear d c v;rcases E with⟨rfl,m,k⟩|⟨rfl,m,k⟩|⟨rfl,m,k⟩
 all_goals
  rw[m]at o;rw[k]at n;refine wF rfl (Tw ?_);refine lcw o ?_;refine lcw n ?_;refine lC rfl rfl zz (wgg rfl rfl rfl) (dm rfl (MJ pL pL) rfl rfl) (C r x w hB) λa hB=>?_;refine Tw ?_;refine lC rfl rfl zz (wgg rfl rfl rfl) (dm rfl (MJ pL pL) rfl rfl) (C p y a hB) λG hB=>?_;refine Tw ?_;refine lC rfl rfl zz (wgg rfl rfl rfl) (dm rfl (MJ pL pL) rfl rfl) (C A z G hB) λU hB=>?_;refine Tw ?_;exact lE (Rs.mk hB (λj T=>QA) rfl)
def Vu(k:Nat):lw b l p k=1\/lw b l p k=2\/lw b l p k=0:=Od _ _
def acZ(a8:(p:Int)<b.S)(O:cP b l true=0)(h:Sz w0 b l at_ p f w)(i:f 21=(0:Int))(g:f 22=(0:Int)):
  Ly.wp F (.seq (.region 16 ace false) (.block 0 (.loop IA))) (aR (Rs 250 w f (λj=>j<21) λf'=>f' 21=.int .i64 (ie (Ov b l p) l.U.length).length/\f' 22=.int .i64 (ie (Iv b l p) l.U.length).length)) (fa 250 f) w:=by
 have a7:=h.bk.U.1;have a6:l.U.length<=1000:=h.bk.U.2.2.1;obtain⟨S,T,y2,y3,y4,y5,y6,y7,y8,y9,a',a0,b1⟩:=aM h.bx;obtain⟨a2,g0⟩:=h.all;refine bn w (λj=>j<26/\j≠23) (λf'=>f' 23=.int .i64 0) (by have hB:=a2;exact rr) λf1 v a3 C q1=>?_;refine wp_block (wp_loop (λa w'=>∃(k:Nat) (f':Nat->M),k<=l.U.length/\a=fa 250 f'/\(∀j,j<21->f' j=f j)/\f' 21=.int .i64 (ie (Ov b l p) k).length/\f' 22=.int .i64 (ie (Iv b l p) k).length/\f' 23=.int .i64 k/\X w.heap.size w w') (λa _=>l.U.length-(intOf (a.tmps.getD 23 D)).toNat) ⟨0,f1,qT _,rfl,λj c=>C j zz,(C 21 zz).tn i,(C 22 zz).tn g,q1,a3⟩ λa w2 a4=>?_);obtain⟨k,f2,hk,rfl,z,i,g,J,hB⟩:=a4;have K:=(z 3 zz).tn h.e3;have L:=(z 8 zz).tn h.e8;rw[Yo];by_cases a5:k<l.U.length
 .refine wp_seq (bn w (λj=>j<26) (λf'=>f' 159=.bool true) rr λf3 w3 hB m q=>wp_cond_true (ag zz q) (wp_skip ?_));have K:=(m 3 zz).tn K;have L:=(m 8 zz).tn L;have V:=(m 21 zz).tn i;have W:=(m 22 zz).tn g;have Z:=(m 23 zz).tn J;have R:oQ b l k p=(lw b l p k,0):=by
   have:mW b k p=true:=by unfold mW;rw[cq.2 ⟨zz,zz⟩,cq.2 ⟨zz,zz⟩];rfl
   unfold oQ;rw[this,qWB O];rfl
  have hcon:∀v,X w w v->PH F 10 #[b.v,.int .i64 (k:Int),.int .i64 (p:Int)] v λe w'=>e=.returned (.tuple #[.int .i64 (lw b l p k),.int .i64 0])/\X v v w':=λv P=>by
   have:=ya b l k p v (h.bk.below P) (h.ck.below P) (by rw[show mW b k p=true by unfold mW;rw[cq.2 ⟨zz,zz⟩,cq.2 ⟨zz,zz⟩];rfl];exact O);rw[R]at this;exact this
  have a9:=h.bx;have m1:(ie (Ov b l p) k).length<=k:=kO _ _;have m2:(ie (Iv b l p) k).length<=k:=kO _ _;refine bn w (λj=>j<26/\j≠21/\j≠22/\j≠24/\j≠25) (λf'=>f' 21=.int .i64 (ie (Ov b l p) (k+1)).length/\f' 22=.int .i64 (ie (Iv b l p) (k+1)).length) (wp_block ?_) λN w5 hB n x=>?_
  .refine bn w (λj=>j<26/\j≠24/\j≠25) (λf'=>f' 24=.int .i64 (lw b l p k)/\f' 25=.int .i64 0) rr λf4 w4 hB A q4=>?_;obtain⟨s,a1⟩:=q4;have i:=(A 21 zz).tn V;have g:=(A 22 zz).tn W;refine wp_seq (bn w (λj=>j<26) (λf'=>f' 170=.bool false) rr λN w5 hB n x=>wp_cond_false (ag zz x) (wp_skip ?_));have i:=(n 21 zz).tn i;have g:=(n 22 zz).tn g;have s:=(n 24 zz).tn s;have n:∀j,(j<26/\j≠24/\j≠25)->N j=f3 j:=λj c=>(n j c.1).tn (A j c);clear A a1 x hcon R;have T:∀{k},lw b l p k=1->Ov b l p k=true:=λe=>decide_eq_true e;have S:∀{k},lw b l p k≠1->Ov b l p k=false:=λe=>decide_eq_false e;have U:∀{k},lw b l p k≠2->Iv b l p k=true:=λe=>by unfold Iv;rw[decide_eq_false e];rfl
   have c0:∀{k},lw b l p k=2->Iv b l p k=false:=λe=>by unfold Iv;rw[decide_eq_true e];rfl
   refine bn w (λj=>j<26/\j≠21) (λf'=>f' 21=.int .i64 (ie (Ov b l p) (k+1)).length) ?_ λf6 w6 hB t y=>?_
   .by_cases o:lw b l p k=1
    .rw[o]at s;refine bn w (λj=>j<26) (λf'=>f' 172=.bool true) rr λf7 G hB d u=>wp_cond_true (ag zz u) ?_;have i:=(d 21 zz).tn i;refine To w (λj=>j<26/\j≠21) (λf'=>f' 21=.int .i64 ((ie (Ov b l p) k).length+1)) rr λf8 w8 hB B E=>Rs.mk hB (λj c=>(B j c).tn (d j c.1)) (E.tn ?_);rw[oG (T o),kl,List.length_singleton];simp
    .refine bn w (λj=>j<26) (λf'=>f' 172=.bool false) (by rcases Vu (b:=b) (l:=l) (p:=p) k with r|r|r;exact mi r o;all_goals (rw[r]at s;exact rr)) λf7 G hB d u=>wp_cond_false (ag zz u) (wp_skip (Rs.mk hB (λj c=>d j c.1) ((d 21 zz).tn (i.tn ?_))));rw[mV (S o)]
   .have s:=(t 24 zz).tn s;have g:=(t 22 zz).tn g;by_cases o:lw b l p k=2
    .rw[o]at s;refine bn w (λj=>j<26) (λf'=>f' 176=.bool false) rr λf7 G hB d u=>wp_cond_false (ag zz u) (wp_skip (Rs.mk hB (λj c=>(d j c.1).tn ((t j zz).tn (n j zz))) ⟨(d 21 zz).tn y,(d 22 zz).tn (g.tn ?_)⟩));rw[mV (c0 o)]
    .refine bn w (λj=>j<26) (λf'=>f' 176=.bool true) (by rcases Vu (b:=b) (l:=l) (p:=p) k with r|r|r;rotate_left;exact mi r o;all_goals (rw[r]at s;exact rr)) λf7 G hB d u=>wp_cond_true (ag zz u) ?_;have g:=(d 22 zz).tn g;refine To w (λj=>j<26/\j≠22) (λf'=>f' 22=.int .i64 ((ie (Iv b l p) k).length+1)) rr λf8 w8 hB B E=>Rs.mk hB (λj c=>(B j zz).tn ((d j zz).tn ((t j zz).tn (n j zz)))) ⟨(B 21 zz).tn ((d 21 zz).tn y),E.tn ?_⟩;rw[oG (U o),kl,List.length_singleton];simp
  have J:=(n 23 zz).tn Z;refine To w (λj=>j<26/\j≠23) (λf'=>f' 23=.int .i64 (k+1)) rr λf6 w6 hB t y=>?_;refine⟨⟨k+1,f6,a5,rfl,λj c=>(t j zz).tn ((n j zz).tn ((m j zz).tn (z j c))),(t 21 zz).tn x.1,(t 22 zz).tn x.2,y.tn ss,hB⟩,?_⟩;rw[Ni (k:=k+1) zz (y.tn ss),Ni (k:=k) zz ‹f2 23=_›];omega
 .have Q:k=l.U.length:=zz;refine wp_seq (bn w (λj=>j<26) (λf'=>f' 159=.bool false) rr λf3 w3 hB m q=>wp_cond_false (ag zz q) (wp_exit ?_));exact Rs.mk hB (λj c=>(m j zz).tn (z j c)) ⟨(m 21 zz).tn (Q▸i),(m 22 zz).tn (Q▸g)⟩
def ac0{LD:List Int}{s:Sl}{gb:Nat}{y c lo hi:Int}(h:Sz w0 b l at_ i f w)(r:f 21=y)(t:f 22=c)(o:f 14=(gb,0))(d:w.heap[gb]?=Y (.cells #[.int .i64 lo,.int .i64 hi] 23 (0,0)))(n:f 12=.slice s.A s.n s.c)(m:eC w s LD)
  (x:y<=lo)(h2:lo<=hi)(z:hi<=c)(dk:decide (i∈LD)=decide (c=0))(a:decide (hi=0)=decide (c=0)):LsB 26 acu w f 211:=by
 obtain⟨hB,v⟩:=h.all;have u:=h.e8;have gl:=(ec.1 d).1;obtain⟨B,C⟩:=kV d;have hcon:=λg (d:X w.heap.size w g)=>kE ((ze i s LD g (m.below d)).mono λe w' q=>⟨q.1,q.2.symm⟩) (cd M.bool dk);by_cases hc:c=0
 .exact aN
 .have ø:=0;exact aN
variable{at_ t:Nat}{x y A:Ly}{Q0 Q1:Act->H->Prop}
def Sm3:Ly:=RI 2 qM
def Sm7:Ly:=RI 6 qM
def Sm8:Ly:=RI 7 qM
def Yq:Ly:=RI 14 qM
section
variable{at_ i:Int}{p:(Nat->M)->H->Prop}
def MZ(h:Sz w0 b l at_ i f w)(c:Ly.wp F x (aR (Sw w f keep p)) (fa 250 f) w)(next:∀f' w',X w w w'->(∀j,keep j->f' j=f j)->Sz w0 b l at_ i f' w'->p f' w'->nA F y Q0 Q1 (fa 250 f') w')(hk:∀j,j=3\/j=7\/j=8->keep j:=by(intro j d;omega)):nA F (.seq x y) Q0 Q1 (fa 250 f) w:=
 aaK c λa w' ⟨f',e,hB,k,q⟩=>by
  subst e;exact next f' w' hB k (h.go hB (k 3 (hk 3 (.inl rfl))) (k 7 (hk 7 (.inr (.inl rfl)))) (k 8 (hk 8 (.inr (.inr rfl))))) q
def Xq(h:Sz w0 b l at_ i f w)(d:t<250)(e:Ly.wp F x (aR (Rs 250 w f (λj=>j<26) λf'=>f' t=.bool false)) (fa 250 f) w)(next:∀f' w',X w w w'->(∀j,j<26->f' j=f j)->Sz w0 b l at_ i f' w'->nA F y Q0 Q1 (fa 250 f') w'):nA F (.seq (.seq x (.cond (.tmp t) A .skip)) y) Q0 Q1 (fa 250 f) w:=
 mG (bn w _ _ e λf' w' a h2 c=>wp_cond_false (ag d c) (wp_skip ⟨rfl,next f' w' a h2 (h.go a (h2 3 zz) (h2 7 zz) (h2 8 zz))⟩))
end
def En(b:aC)(l:pK)(p at_:Nat)(w0:H)(f:Nat->M)(W:H):Prop:=Sz w0 b l at_ p f W/\f 9=.slice I 0 0/\f 10=.slice I 0 0/\f 11=(9:Int)/\f 12=.slice I 0 0/\f 13=(9:Int)/\f 15=(9:Int)/\∃g,f 14=(g,0)/\w0.heap.size<=g/\W.heap[g]?=Y (.cells #[.int .i64 0,.int .i64 0] 23 (0,0))
def Ey(b:aC)(l:pK)(p at_:Nat)(w0:H)(f:Nat->M)(W:H):Prop:=Sz w0 b l at_ p f W/\f 11=(0:Int)/\f 13=(0:Int)/\f 15=(0:Int)/\ES W w0.heap.size (f 9) (DF b l at_).1/\ES W w0.heap.size (f 10) (DF b l at_).2.1/\ES W w0.heap.size (f 12) (qq b l).1/\∃g,f 14=(g,0)/\w0.heap.size<=g/\W.heap[g]?=Y (.cells #[.int .i64 (qs b l p).1.1,.int .i64 (qs b l p).1.2] 23 (0,0))
section
variable{p at_:Nat}
def Xu(e:aI w0 b l)(m:aD w0)(hc:ay b l=0)(j:0<=stp/\stp<=255)(h2:0<=hour/\hour<=255)(o:stp%b.S=p)(n:hour%b.U.n=at_)(e1:f 1=.int .u8 hour)(g:f 2=.int .u8 stp)(h:f 3=(w0.heap.size,0))
  (next:∀f' w',Sz w0 b l at_ p f' w'->nA F y Q0 Q1 (fa 250 f') w'):nA F (.seq (.region 3 abT true) y) Q0 Q1 (fa 250 f) (w0.alloc (aE b 31)):=by
 obtain⟨u,v,-⟩:=cS (bP hc).1;obtain⟨w,x⟩:=UU (bP hc).2.2.1;have t:b.U.n=l.U.length:=e.U.1;have c:X w0 w0 (w0.alloc (aE b 31)):=(X.refl _ _).alloc (qN _) _;have d:aK (w0.alloc (aE b 31)) w0 31 b:=Sp _ _;refine aaK (ada j h2 zz zz d e1 g h) λa s ⟨f1,i,hB,k,q,r⟩=>?_;subst i;exact next f1 s ⟨c.tn (hB.mono c.size),(hB.block _ d.lt).tn d,(e.below c).below hB,(m.below c).below hB,M0,q.tn (by rw[n]),r.tn (by rw[o])⟩
def acw(t:aI w0 b l)(hG:aD w0)(hc:ay b l=0)(h1:0<=stp/\stp<=255)(h2:0<=hour/\hour<=255)(d:stp%b.S=p)(b3:(p:Int)<b.S)(v:hour%b.U.n=at_)(a':at_<b.U.n)(c:aJ b l b.D.toNat=[])(e1:f 1=.int .u8 hour)(e2:f 2=.int .u8 stp)(e3:f 3=(w0.heap.size,0)):
  nA F (cutAt 4 Sm3) (λ_ _=>False) (λa W=>a.defers=[]/\∃f,a.tmps=(fa 250 f).tmps/\En b l p at_ w0 f W) (fa 250 f) (w0.alloc (aE b 31)):=by
 have å:=0;exact dN
def acz(t:aI w0 b l)(hG:aD w0)(hc:ay b l=0)(h1:0<=stp/\stp<=255)(h2:0<=hour/\hour<=255)(d:stp%b.S=p)(b3:(p:Int)<b.S)(v:hour%b.U.n=at_)(a':at_<b.U.n)(c:aJ b l b.D.toNat≠[])(e1:f 1=.int .u8 hour)(e2:f 2=.int .u8 stp)(e3:f 3=(w0.heap.size,0)):
  nA F (cutAt 4 Sm3) (λ_ _=>False) (λa W=>a.defers=[]/\∃f,a.tmps=(fa 250 f).tmps/\Ey b l p at_ w0 f W) (fa 250 f) (w0.alloc (aE b 31)):=by
 have æ:=0;exact dN
end
def Ey.tp{w0 W:H}{f f':Nat->M}(h:Ey b l p at_ w0 f W)(k:∀j,j<16->f' j=f j)(m:Nat->Question->Nat)(d:Nat):Ey b l p at_ (Co.tp w0 m d) f' (Co.tp W m d):=by
 obtain⟨⟨a,n,⟨t,u,v,w⟩,o,q,r,s⟩,x,y,A,i,c,e,g,z,C,B⟩:=h;rw[<- k 9 zz]at i;rw[<- k 10 zz]at c;rw[<- k 12 zz]at e;exact⟨⟨⟨a.os,rfl,a.output,a.size,a.block⟩,n,⟨t,u,v,w⟩,o,(k 3 zz).tn q,(k 7 zz).tn r,(k 8 zz).tn s⟩,(k 11 zz).tn x,(k 13 zz).tn y,(k 15 zz).tn A,i,c,e,g,(k 14 zz).tn z,C,B⟩
def zN:List Bool:=[false,true,false,false,false,false,false]
def Ez(b:aC)(l:pK)(at_ N:Nat)(f:Nat->M)(W:H):Prop:=f 3=(N,0)/\aK W N 31 b/\f 7=at_/\f 16=.int .i64 (o5 b l).1/\f 17=.int .i64 (o5 b l).2/\∃A c,f 9=.slice A (DF b l at_).1.length c
def acA{w0 w:H}(hc:ay b l=0)(y:(p:Int)<b.S)(Q:at_<b.U.n)(s:aJ b l b.D.toNat≠[])(q:Ey b l p at_ w0 f w)(g3:f 16=.int .i64 (o5 b l).1)(g4:f 17=.int .i64 (o5 b l).2)(e18:f 18=(0:Int)):
  nA F (P3 zN Sm8) (λ_ _=>False) (λa W=>a.defers=[]/\∃f,a.tmps=(fa 250 f).tmps/\Ez b l at_ w0 f W) (fa 250 f) w:=by
 have å:=0;exact fb
end Go.Proofs.YtfdbdkhgaajdoaaGreatDoor
