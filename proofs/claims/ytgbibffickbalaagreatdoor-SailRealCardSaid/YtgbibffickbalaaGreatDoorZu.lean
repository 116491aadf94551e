import Derived.Test.YtgbibffickbalaaGreatDoorZq
import Derived.RegionTactic
import Derived.BigRegion
import Derived.Deep.DeepCutAuto
import Derived.Test.YtgbibffickbalaaGreatDoorChecked
set_option maxRecDepth 100000
set_option maxHeartbeats 4000000
set_option linter.all false
noncomputable section
open Go renaming undef->D,World->H,execOp->Hn,Frame->Kf,Oper->Kp,TypeId->Lk,Code->Ly,Value->M,Calls->PH,Program->Ps,Goroutine->QP,heap_alloc_old->QR,heap_alloc_new->Sp,resolve->ab,Operand->ae,yielded->aw,FuncId->ba,bodyPost_ret->bd
open Go.Proofs.Tryz renaming prog->F,prog->Hb
open Go.Lib renaming hid->Hm
open Option renaming none->I,some->Y
open Go.RowKit renaming Hid->PQ,Below->X
namespace Go
def sT{p:Prop}(h:p:=by
 first|have _:=ø;refine wp_block (wp_loop (λa w=>∃(k:Nat) (f':Nat->M),k<=l.length/\a=fa 119 f'/\f' 1=.pointer (Y ⟨g,0,I⟩)/\f' 4=.int .i64 k/\X u.heap.size u w/\nD b.S l=nD b.S (l.drop k)) (λa _=>l.length-(intOf (a.tmps.getD 4 D)).toNat) ⟨0,f,qT _,rfl,K,h4,hB,rfl⟩ λa w1 Q=>?_);obtain⟨k,P,hk,rfl,e1,E,hB,d⟩:=Q;rw[Qm];have a1:b.U.n=l.length:=C.1|have _:=å;refine wp_block (wp_loop (λa w=>∃(k:Nat) (f':Nat->M),k<=l.length/\a=fa 119 f'/\f' 1=.pointer (Y ⟨g,0,I⟩)/\f' 5=.int .i64 k/\X u.heap.size u w/\nF b.rf b.ch l=nF b.rf b.ch (l.drop k)) (λa _=>l.length-(intOf (a.tmps.getD 5 D)).toNat) ⟨0,f,qT _,rfl,K,h5,hB,rfl⟩ λa w1 Q=>?_);obtain⟨k,P,hk,rfl,e1,G,hB,d⟩:=Q;rw[Qn];have a1:b.E.n=l.length:=C.1|refine wp_block (wp_loop (λa w=>∃(k:Nat) (f':Nat->M),k<=l.length/\a=fa 119 f'/\f' 1=.pointer (Y ⟨g,0,I⟩)/\f' 6=.int .i64 k/\X u.heap.size u w/\qi b.S b.U.n l=qi b.S b.U.n (l.drop k)) (λa _=>l.length-(intOf (a.tmps.getD 6 D)).toNat) ⟨0,f,qT _,rfl,K,h6,hB,rfl⟩ λa w1 Q=>?_);obtain⟨k,P,hk,rfl,e1,U,hB,d⟩:=Q;rw[Qo];have a1:b.W.n=l.length:=C.1
 have a8:l.length<=1000:=C.2.2.1;first|have _:=ø;by_cases hlt:k<b.U.n|have _:=å;by_cases hlt:k<b.E.n|by_cases hlt:k<b.W.n
 .have t:k<l.length:=zz;obtain⟨a6,off,V,b1,W⟩:=C.2.2.2 zz;first|have _:=ø;rw[V]at x10;obtain⟨c0,O⟩:=W k t;have c:=Al b.S l k t;generalize(l.getD k (0,0)).1=x at c c0;generalize(l.getD k (0,0)).2=y at c O;refine wp_seq (bn u (· < 7) (λf'=>f' 21=.bool true) rr λJ T hB s q=>wp_cond_true (ag zz q) (wp_skip ?_))|have _:=å;rw[V]at x11;obtain⟨c0,O⟩:=W k t;have c:=Am b.rf b.ch l k t;generalize(l.getD k (0,0)).1=x at c c0;generalize(l.getD k (0,0)).2=y at c O;refine wp_seq (bn u (· < 7) (λf'=>f' 49=.bool true) rr λJ T hB s q=>wp_cond_true (ag zz q) (wp_skip ?_))|rw[V]at x12;obtain⟨c0,O,c2⟩:=W k t;have c:=Dh b.S b.U.n l k t;generalize(l.getD k (0,0,false)).1=x at c c0;generalize(l.getD k (0,0,false)).2.1=y at c O;generalize(l.getD k (0,0,false)).2.2=z at c2;refine wp_seq (bn u (· < 7) (λf'=>f' 96=.bool true) rr λJ T hB s q=>wp_cond_true (ag zz q) (wp_skip ?_))
  have e1:=(s 1 zz).tn e1;first|have _:=ø;have E:=(s 4 zz).tn E|have _:=å;have G:=(s 5 zz).tn G|have U:=(s 6 zz).tn U
  refine wp_seq (wp_block ?_)
  first
  |have _:=æ
   cases e:ax x 0 (b.U.n-1)
   .refine bn u (· < 7) (λf'=>f' 118=.bool true) rr λf3 B hB r j=>wp_cond_true (ag zz j) ?_;refine bn u (λi=>i<7/\i≠2) (λf'=>f' 2=.int .i64 6) rr λm N hB L o=>wp_ret ?_;exact .inr ⟨rfl,by rw[d,c,qWB (by simp[e])];decide,m,rfl,hB,by rw[d,c,qWB (by simp[e])];exact o⟩
   .cases n:ax y 0 (b.S-1)
    .refine bn u (· < 7) (λf'=>f' 118=.bool true) rr λf3 B hB r j=>wp_cond_true (ag zz j) ?_;refine bn u (λi=>i<7/\i≠2) (λf'=>f' 2=.int .i64 6) rr λm N hB L o=>wp_ret ?_;exact .inr ⟨rfl,by rw[d,c,qWB (by simp[e,n])];decide,m,rfl,hB,by rw[d,c,qWB (by simp[e,n])];exact o⟩
    .refine bn u (· < 7) (λf'=>f' 118=.bool false) rr λf5 w5 hB v S=>wp_cond_false (ag zz S) (wp_skip ?_);have e1:=(v 1 zz).tn e1;have U:=(v 6 zz).tn U;refine To u (λi=>i<7/\i≠6) (λf'=>f' 6=.int .i64 (k+1)) rr λf6 w6 hB R A=>?_;refine⟨⟨k+1,f6,t,rfl,(R 1 zz).tn e1,A.tn ss,hB,d.tn (c.tn (by rw[qVB (by simp[e,n])]))⟩,?_⟩;rw[Ni (k:=k+1) zz (A.tn ss),Ni (k:=k) zz ‹P 6=_›];omega
  |have _:=ø
   refine wp_seq ?_;cases e:ax x 0 (b.S-1)
   .refine bn u (· < 7) (λf'=>f' 32=.bool true) rr λf3 B hB r j=>wp_cond_true (ag zz j) ?_;refine bn u (λi=>i<7/\i≠2) (λf'=>f' 2=.int .i64 6) rr λm N hB L o=>wp_ret ?_;exact .inr ⟨rfl,by rw[d,c,qWB e];decide,m,rfl,hB,by rw[d,c,qWB e];exact o⟩
   .refine bn u (· < 7) (λf'=>f' 32=.bool false) rr λf3 B hB r j=>wp_cond_false (ag zz j) (wp_skip ?_);have e1:=(r 1 zz).tn e1;have E:=(r 4 zz).tn E;cases n:ax y (-9) 9
    .refine bn u (· < 7) (λf'=>f' 40=.bool true) rr λf3 B hB r j=>wp_cond_true (ag zz j) ?_;refine bn u (λi=>i<7/\i≠2) (λf'=>f' 2=.int .i64 1) rr λm N hB L o=>wp_ret ?_;exact .inr ⟨rfl,by rw[d,c,qVB (by simp[e]),qWB n];decide,m,rfl,hB,by rw[d,c,qVB (by simp[e]),qWB n];exact o⟩
    .refine bn u (· < 7) (λf'=>f' 40=.bool false) rr λf5 w5 hB v S=>wp_cond_false (ag zz S) (wp_skip ?_);have e1:=(v 1 zz).tn e1;have E:=(v 4 zz).tn E;refine To u (λi=>i<7/\i≠4) (λf'=>f' 4=.int .i64 (k+1)) rr λf6 w6 hB R A=>?_;refine⟨⟨k+1,f6,t,rfl,(R 1 zz).tn e1,A.tn ss,hB,d.tn (c.tn (by rw[qVB (by simp[e]),qVB (by simp[n])]))⟩,?_⟩;rw[Ni (k:=k+1) zz (A.tn ss),Ni (k:=k) zz ‹P 4=_›];omega
  |refine wp_seq ?_
   cases e:ax x (1-b.rf) (b.rf-1)
   .refine bn u (· < 7) (λf'=>f' 77=.bool true) rr λf3 B hB r j=>wp_cond_true (ag zz j) ?_;refine bn u (λi=>i<7/\i≠2) (λf'=>f' 2=.int .i64 1) rr λm N hB L o=>wp_ret ?_;exact .inr ⟨rfl,by rw[d,c,qWB (by simp[e])];decide,m,rfl,hB,by rw[d,c,qWB (by simp[e])];exact o⟩
   .cases n:ax y 0 60
    .refine bn u (· < 7) (λf'=>f' 77=.bool true) rr λf3 B hB r j=>wp_cond_true (ag zz j) ?_;refine bn u (λi=>i<7/\i≠2) (λf'=>f' 2=.int .i64 1) rr λm N hB L o=>wp_ret ?_;exact .inr ⟨rfl,by rw[d,c,qWB (by simp[e,n])];decide,m,rfl,hB,by rw[d,c,qWB (by simp[e,n])];exact o⟩
    .refine bn u (· < 7) (λf'=>f' 77=.bool false) rr λf3 B hB r j=>wp_cond_false (ag zz j) (wp_skip ?_);have e1:=(r 1 zz).tn e1;have G:=(r 5 zz).tn G;by_cases Z:b.ch<=y
     .refine bn u (· < 7) (λf'=>f' 87=.bool true) rr λf3 B hB r j=>wp_cond_true (ag zz j) ?_;refine bn u (λi=>i<7/\i≠2) (λf'=>f' 2=.int .i64 7) rr λm N hB L o=>wp_ret ?_;exact .inr ⟨rfl,by rw[d,c,qVB (by simp[e,n]),qWB Z];decide,m,rfl,hB,by rw[d,c,qVB (by simp[e,n]),qWB Z];exact o⟩
     .refine bn u (· < 7) (λf'=>f' 87=.bool false) rr λf5 w5 hB v S=>wp_cond_false (ag zz S) (wp_skip ?_);have e1:=(v 1 zz).tn e1;have G:=(v 5 zz).tn G;refine To u (λi=>i<7/\i≠5) (λf'=>f' 5=.int .i64 (k+1)) rr λf6 w6 hB R A=>?_;refine⟨⟨k+1,f6,t,rfl,(R 1 zz).tn e1,A.tn ss,hB,d.tn (c.tn (by rw[qVB (by simp[e,n]),qVB Z]))⟩,?_⟩;rw[Ni (k:=k+1) zz (A.tn ss),Ni (k:=k) zz ‹P 5=_›];omega
 .have a7:k=l.length:=zz;first|have _:=ø;refine wp_seq (bn u (· < 7) (λf'=>f' 21=.bool false) rr λJ T hB s q=>wp_cond_false (ag zz q) (wp_exit ?_))|have _:=å;refine wp_seq (bn u (· < 7) (λf'=>f' 49=.bool false) rr λJ T hB s q=>wp_cond_false (ag zz q) (wp_exit ?_))|refine wp_seq (bn u (· < 7) (λf'=>f' 96=.bool false) rr λJ T hB s q=>wp_cond_false (ag zz q) (wp_exit ?_))
  exact .inl ⟨rfl,by rw[d,ma zz];rfl,J,rfl,hB,(s 1 zz).tn (e1.tn K.symm)⟩):p:=h
def mj{p:Prop}(h:p:=by
 obtain⟨c0,i⟩:=kV h;have f0:w.frozen? (g,0)=false:=E3 h;have j:w.frozen? (g,1)=false:=E3 h;unfold Hn;first|have _:=ø;skip|unfold aF at b
 simp only[e,f,b];go_simp):p:=h
def MP{p:Prop}(h:p:=by
 unfold wpOp;simp only[hi,j,if_true,Kp.wp,k,Kp.upon_enter];refine .inl (hc.mono λe w' c=>?_);first|have _:=ø;obtain⟨rfl,a⟩:=c|obtain⟨v,rfl,a⟩:=c
 show K ((fa n f).put oi.dst v) w';rw[b,cw g];first|have _:=ø;exact h w' a|exact h v w' a):p:=h
def od{p:Prop}(h:p:=by
 rw[r,List.all_eq_true];intro x z;obtain⟨n,rfl,a,g⟩:=Iv.1 z;have j:(n:Int)<b.S:=zz;first|have _:=ø;rw[decide_eq_true_iff,nm]|rw[K n j];have O:=(B n 1 j).symm.tn g
 rcases JG (λx=>oN b l x at_ n) c with e|e
 first
 |have _:=ø
  .exact .inr (Iv.2 ⟨n,rfl,a,(B n 0 j).tn (decide_eq_true e)⟩)
  .exact .inl (Iv.2 ⟨n,rfl,a,(B n 1 j).tn (e.tn g)⟩)
 |·have:=of_decide_eq_true O
   rw[e]at this;cases this
  .rw[<- e];exact O):p:=h
def xaA{p:Prop}(h:p:=by
 obtain⟨rfl⟩:=d;unfold Hn;simp only[c,e,f];go_simp;rw[Go.IntWalk.i64_in _ h]):p:=h
def xaH{p:Prop}(h:p:=by
 unfold Hn;simp only[b,ab,c,a,Deferred.ofValue];simp[go_sem,invoke,hc]):p:=h
def oe{p:Prop}(h:p:=by
 first|have _:=ø;refine rzr (E:=Rn w (iM b l)) ((DT b l w h.bk h.ck g).mono λe w' ⟨A,c,a,h2⟩=>⟨_,a,A,c,rfl,h2⟩) ?_|refine rzr (E:=Rn w (qq b l)) ((Lu b l w h.bk h.ck g).mono λe w' ⟨A,c,a,h2⟩=>⟨_,a,A,c,rfl,h2⟩) ?_
 rintro v m ⟨A,c,rfl,k,hB⟩;refine Tw ?_;exact lE ⟨_,rfl,hB,λj _=>QA,rfl,h.row k⟩):p:=h
def Zq{p:Prop}(h:p:=by
 obtain⟨rfl⟩:=e;first|have _:=ø;skip|unfold Sm at h
 unfold Hn;simp only[b,c];go_simp;rw[Go.IntWalk.i64_in _ zz]):p:=h
def xbz{p:Prop}(h:p:=by
 obtain⟨rfl⟩:=b;unfold Hn;simp only[a,c];go_simp):p:=h
end Go
namespace Go.Proofs.YtgbibffickbalaaGreatDoor
open Go.RowKit
variable{S:Nat}{lo hi sh:Int}{C:List Int}{L:List (Int×(Nat->Bool))}{x:Int×(Nat->Bool)}{f:Nat->Bool}{b:aC}{l:bN}{ds:List Nat}
def Nj{sh:Int}(e:lo<=sh)(h2:sh<=hi):∀(ds:List Nat) (d:Nat->Bool) (step:Nat),ds.Pairwise (· < ·)->(∀n∈ds,step<=n/\n<S/\(n:Int)∉C)->(sh,ds.foldl Bp d)∈jW S lo hi C ds.length d step
 | [],d,step,_,_=>by
  rw[lA,jW];refine List.mem_map.2 ⟨sh,?_,rfl⟩;unfold gF;exact List.mem_map.2 ⟨(sh-lo).toNat,List.mem_range.2 zz,by show lo+((sh-lo).toNat:Int)=sh;omega⟩
 | n::r,d,step,f,hm=>by
  rw[ed,jW];obtain⟨b,i,c⟩:=hm n ss;refine List.mem_flatMap.2 ⟨n,List.mem_range'_1.2 ⟨b,zz⟩,?_⟩;rw[qVB c];obtain⟨g,h⟩:=List.pairwise_cons.1 f;exact Nj e h2 r (Bp d n) (n+1) h λm a=>⟨g m a,(hm m (by simp[a])).2⟩
def Tm:∀(ds:List Nat) (d:Nat->Bool) (i:Nat),ds.foldl Bp d i=(decide (i∈ds)||d i)
 | [],d,i=>by simp
 | n::r,d,i=>by
  rw[List.foldl_cons,Tm r (Bp d n) i];unfold Bp;by_cases h:i=n<;>simp[h]
def reD(ds:List Nat):Nat->Bool:=eM (ds.map λ(n:Nat)=>(n:Int))
def Uv(ds:List Nat):ds.foldl Bp mI=reD ds:=funext λi=>by
 rw[Tm];unfold reD eM mI;rw[Bool.or_false,decide_eq_decide,List.mem_map];exact⟨λh=>⟨i,h,rfl⟩,λ⟨a,h,e⟩=>by
  have:a=i:=zz;exact this▸h⟩
structure E7(b:aC)(l:bN)(sh:Int)(ds:List Nat):Prop where
 lo:b.lo<=sh
 hi:sh<=b.hi
 up:ds.Pairwise (· < ·)
 st:∀n∈ds,(n:Int)<b.S/\(n:Int)∉l.C
 len:(ds.length:Int)<=b.D
def Vu(h:E7 b l sh ds){most:Nat}(c:ds.length<=most):(sh,reD ds)∈gT b l.C most:=by
 unfold gT tP;refine List.mem_flatMap.2 ⟨ds.length,List.mem_range'_1.2 ⟨qT _,zz⟩,?_⟩;rw[<- Uv];exact Nj h.lo h.hi ds mI 0 h.up λn a=>⟨qT _,by have:=(h.st n a).1;omega,(h.st n a).2⟩
def XL(h:E7 b l sh ds)(a:fM b l (sh,reD ds)=true):(sh,reD ds)∈aJ b l b.D.toNat:=List.mem_filter.2 ⟨Vu h (by have:=h.len;omega),a⟩
def JG(f:Int×(Nat->Bool)->Bool)(a:x∈L):lY (oP f L) L.length=0\/decide (lY (oP f L) L.length=1)=f x:=by
 unfold lY;split
 .rename_i h;have h:(L.filter f).length=L.length:=by unfold oP at h;omega
  right;rw[List.length_filter_eq_length_iff.1 h x a];rfl
 .split
  .rename_i h;have h:(L.filter f).length=0:=by unfold oP at h;omega
   right;have:=List.filter_eq_nil_iff.1 (List.length_eq_zero_iff.1 h) x a;simp only[qLB]at this;rw[this];rfl
  .exact .inl rfl
def compact_all{zs:List Int}{x:Int}(h:x∈zs):x∈Lib.compact zs:=by
 have key:∀i,i<zs.length->zs.toArray[i]! ∈ Lib.compact zs:=λi=>by
  induction i with
  | zero=>exactλhi=>List.mem_map.2 ⟨0,List.mem_filter.2 ⟨List.mem_range.2 hi,Lib.keeps_lt_one _ 0 zz⟩,rfl⟩
  | succ i a=>
   intro hi;by_cases e:zs.toArray[i+1]! = zs.toArray[i]!
   .rw[e];exact a zz
   .exact List.mem_map.2 ⟨i+1,List.mem_filter.2 ⟨List.mem_range.2 hi,Lib.keeps_pos e⟩,rfl⟩
 obtain⟨i,hi,rfl⟩:=List.getElem_of_mem h;have:=key i hi;simpa[hi]using this
def Vv(a:x∈L):x.1∈uN L:=by
 exact compact_all (List.mem_mergeSort.2 (List.mem_map.2 ⟨x,a,rfl⟩))
def Ux(b:aC)(l:bN)(p:Nat):∀(L:List (Int×(Nat->Bool))) (z:Int×Int),(yc b l p z L).1<=z.1/\z.2<=(yc b l p z L).2/\∀x∈L,(yc b l p z L).1<=pF b l x p l.U.length/\(pF b l x p l.U.length:Int)<=(yc b l p z L).2
 | [],z=>⟨Int.le_refl _,Int.le_refl _,λx c=>by simp at c⟩
 | a::r,z=>by
  obtain⟨d,h2,f⟩:=Ux b l p r (min z.1 (pF b l a p l.U.length:Nat),max z.2 (pF b l a p l.U.length:Nat));have e:yc b l p z (a::r)=yc b l p (min z.1 (pF b l a p l.U.length:Nat),max z.2 (pF b l a p l.U.length:Nat)) r:=rfl;rw[e];dsimp only at d h2;refine⟨zz,zz,λx c=>?_⟩;rcases dq.1 c with rfl|c
  .exact⟨zz,zz⟩
  .exact f x c
def Tp:∀(k:Nat) (d:Nat->Bool) (step:Nat),S<=12->(∀i,step<=i->d i=false)->∀x∈jW S lo hi C k d step,(ie x.2 12).length=(ie d 12).length+k
 | 0,d,step,_,_,x,a=>by
  rw[jW]at a;obtain⟨s, -, rfl⟩:=List.mem_map.1 a;rfl
 | k+1,d,step,l,g,x,a=>by
  rw[jW]at a;obtain⟨n,j,a⟩:=List.mem_flatMap.1 a;have j:=List.mem_range'_1.1 j;split at a
  .cases a
  .have:=Tp k (Bp d n) (n+1) l (λi hi=>by
    unfold Bp;rw[qVB zz];exact g i zz) x a
   rw[this];have:∀m,(ie (Bp d n) m).length=(ie d m).length+if n<m then 1 else 0:=λm=>by
    induction m with
    | zero=>simp[ie]
    | succ m c=>
     by_cases e:m=n
     .subst e;rw[oG (show Bp d m m=true by simp[Bp]),mV (g m zz),kl,c,qVB zz,qWB zz];rfl
     .have f:Bp d n m=d m:=by simp[Bp,e]
      cases h:d m
      .rw[mV (f.tn h),mV h,c];by_cases b:n<m<;>simp[b]<;>omega
      .rw[oG (f.tn h),oG h,kl,kl,c];by_cases b:n<m
       .rw[qWB b,qWB zz];simp
       .rw[qVB b,qVB zz];simp
   rw[this,qWB zz];omega
def Ov{f:Int×(Nat->Bool)->Bool}(b:S<=12){k:Nat}(d:x∈jW S lo hi C k mI 0)(c:f x=true):∀(r m:Nat),m<=k->k<m+r->∃y,((List.range' m r).flatMap λk=>jW S lo hi C k mI 0).find? f=Y y/\(ie y.2 12).length<=k
 | 0,m,g,h2=>zz
 | r+1,m,g,h2=>by
  rw[List.range'_succ,lv,nh]
  cases h:(jW S lo hi C m mI 0).find? f with
  | some y=>
   refine⟨y,rfl,?_⟩;have:=Tp m mI 0 b (λ_ _=>rfl) y (List.mem_of_find?_eq_some h);rw[this];have e:(ie mI 12).length=0:=rfl;omega
  | none=>
   rcases Nat.lt_or_ge m k with a|a
   .exact Ov b d c r (m+1) a zz
   .have:m=k:=zz;subst this;exact mi c (by simpa using List.find?_eq_none.1 h x d)
def onS{f g:Nat->Bool}(h:∀n,n<S->f n=g n):ie f S=ie g S:=by
 unfold ie;congr 1;exact List.filter_congr λn a=>h n (List.mem_range.1 a)
def Iv{n:Int}:n∈ie f S↔∃i:Nat,n=i/\i<S/\f i=true:=by
 unfold ie;rw[List.mem_map];constructor
 .rintro⟨i,hi,rfl⟩;exact⟨i,rfl,List.mem_range.1 (List.mem_filter.1 hi).1,(List.mem_filter.1 hi).2⟩
 .rintro⟨i,rfl,a,h2⟩;exact⟨i,List.mem_filter.2 ⟨List.mem_range.2 a,h2⟩,rfl⟩
def Ca(w:H)(s:Sl):Prop:=∀k,k<s.n->∃b off v,s.A=Y ⟨b,off,I⟩/\b<w.heap.size/\w (b,off+k)=Y (.int .u16 v)/\0<=v/\v<=65535
def Ca.below{w w':H}{s:Sl}(h:Ca w s)(a:X w w w'):Ca w' s:=λk hk=>by
 obtain⟨b,off,v,c,h2,d,e⟩:=h k hk;exact⟨b,off,v,c,qP h2 a.size,(a.cell h2).tn d,e⟩
def Num(w:H)(e:Ending)(w':H):Prop:=w'=w/\∃v:Int,e=.returned (.int .i64 v)/\0<=v/\v<=65535
theorem Up(s:Sl)(k:Nat)(w:H)(d:Ca w s):PH F 38 #[.slice s.A s.n s.c,.int .i64 k] w (Num w):=by
 obtain⟨A,e,c⟩:=s;by_cases hk:k<e
 .obtain⟨b,off,v,a,h,hc,f,g⟩:=d k hk;dsimp only at a;subst a;go_enter Tryz.func38,Tryz.ntmps38;go_wp2;go_ret;exact⟨rfl,v,rfl,f,g⟩
 .clear d;go_enter Tryz.func38,Tryz.ntmps38;go_wp2;go_ret;exact⟨rfl,0,rfl,zz,zz⟩
theorem Uq(lo hi m:Int)(a: -3<=lo)(h2:lo<=hi)(b:hi<=3)(c:0<=m)(d:m<=65535)(w:H):PH F 37 #[.agg #[.int .i64 lo,.int .i64 hi],.int .i64 m] w λe w'=>(∃v:Int,e=.returned (.int .i64 v)/\lo<=v/\v<=hi)/\X w w w':=by
 go_enter Tryz.func37,Tryz.ntmps37;have f:0<=m%(hi-lo+1):=Int.emod_nonneg _ zz;have g:m%(hi-lo+1)<hi-lo+1:=Int.emod_lt_of_pos _ zz;go_wp2_with (go_quiet (fail));go_ret;exact⟨⟨_,rfl,zz,zz⟩,by exact bt⟩
theorem Tq(x:Int)(q:Bool)(w:H):PH F 20 #[.int .i64 x,.bool q] w λe w'=>e=.returned (.bool (decide (x=0)||(decide (x=1)==q)))/\w'=w:=by
 go_enter Tryz.func20,Tryz.ntmps20;go_wp2;all_goals go_ret
 .rename_i h;exact⟨bR (by simp[h]),rfl⟩
 .exact⟨bR rfl,rfl⟩
theorem P5(s t:Sl)(l m:List Int)(w:H)(C:aN w s l)(E:aN w t m):PH F 21 #[.slice s.A s.n s.c,.slice t.A t.n t.c] w λe w'=>e=.returned (.bool (l.all λx=>decide (x∈m)))/\w'=w:=by
 obtain⟨A,N,c⟩:=s;obtain⟨rfl,hc,L,y⟩:=C;have u:PQ (0<l.length->∃b off,A=Y ⟨b,off,I⟩/\b<w.heap.size/\∀k,k<l.length->w (b,off+k)=Y (.int .i64 (l.getD k 0))):=y;have B:=λn=>ze n t m w E;simp only at|-;go_enter Tryz.func21,Tryz.ntmps21;go_wp2;go_loopw [5] (λi wr=>∃k:Nat,k<=l.length/\i=.int .i64 k/\wr=w/\PQ (((l.take k).all λx=>decide (x∈m))=true)) (λi _=>l.length-(intOf i).toNat)
 case atStart=>exact⟨0,qT _,rfl,rfl,by simp[PQ]⟩
 case round=>
  obtain⟨k,hk,rfl,rfl,a⟩:=hrel;by_cases hlt:k<l.length
  .obtain⟨J,off,rfl,K,p⟩:=u.out zz;have z:=p k hlt;have d:PQ (l.getD k 0=l[k]):=by show _=_;simp[List.getD,iv hlt]
   have o:PQ (l.take (k+1)=l.take k++[l.getD k 0]):=by show _=_;rw[d.out];simp
   have g:PQ (l.getD k 0∈l):=by show _∈_;rw[d.out];exact List.getElem_mem hlt
   clear p d;generalize l.getD k 0=x at z o g;have f:=B x;obtain⟨q,r⟩:∃q,decide (x∈m)=q:=⟨_,rfl⟩;rw[r]at f;have j:=Hm r;cases q
   .go_wp2_with (go_at_call 19;refine f.mono ?_;rintro e G ⟨rfl,rfl⟩);go_ret;exact⟨bR (by
     symm;rw[Bool.eq_false_iff];intro h;have:=List.all_eq_true.1 h x g.out;rw[j.out]at this;cases this),rfl⟩
   .go_wp2_with (go_at_call 19;refine f.mono ?_;rintro e G ⟨rfl,rfl⟩);go_roundw
    case rel=>exact⟨k+1,zz,by go_num,by trivial,by show _=_;rw[o.out,List.all_append,a.out];simp[j.out]⟩
    case measure=>simp[intOf];omega
  .obtain rfl:k=l.length:=zz;have a:=a.out;rw[List.take_length]at a;have v:=Hm a;go_wp2;go_ret;exact⟨bR v.out.symm,rfl⟩
section
variable{w W0 v2:H}{s:Sl}{lo hi sh:Int}
def E5(h:Ca w s)(o:Obj):Ca (w.alloc o) s:=h.below ((X.refl _ _).alloc (qN _) o)
def TN(h:Ca w s):Ca w.drew s:=h.below (X.refl _ _).drew
def MZ(sh:Int)(v:M):Obj:=.cells #[.int .i64 sh,v] 36 (0,0)
def abT(W0:H)(lo hi:Int)(v:M)(a:H):Prop:=∃(g5:Nat) (sh:Int),v=.pointer (Y (g5,0))/\lo<=sh/\sh<=hi/\W0.heap.size<=g5/\a.heap[g5]?=Y (MZ sh (.slice I 0 0))/\X W0 W0 a
def acv(s0:lo<=sh)(b:sh<=hi)(a:X W0.drew W0.drew v2):abT W0 lo hi (.pointer (Y (v2.heap.size,0))) (v2.alloc (MZ sh (.slice I 0 0))):=
 have h:=(X.drew (X.refl W0.heap.size W0)).tn a
 ⟨_,sh,rfl,s0,b,h.size,Sp _ _,h.alloc h.size _⟩
def acw{N:Nat}(f:W0.heap.size=N)(s0:lo<=sh)(g:sh<=hi)(c:X (W0.alloc (MZ 0 (.slice I 0 0))).drew.heap.size (W0.alloc (MZ 0 (.slice I 0 0))).drew v2):abT W0 lo hi (.pointer (Y (N,0))) ((v2.setCell (N,0) (.int .i64 sh)).setCell (N,1) (.slice I 0 0)):=by
 subst f;have d:v2.heap[W0.heap.size]?=Y (MZ 0 (.slice I 0 0)):=(c.block _ ss).tn (Sp W0 _);obtain⟨e,h2⟩:=tR (.int .i64 sh) (.slice I 0 0) d;have a:X W0 W0 (W0.alloc (MZ 0 (.slice I 0 0))).drew:=((X.refl _ W0).alloc (qN _) _).drew;have b:=a.tn (c.mono a.size);exact⟨_,sh,rfl,s0,g,qN _,e,b.tn (h2.below b.size λx h=>zz)⟩
def E3{g i:Nat}{c:Array M}{t:Lk}(h:w.heap[g]?=Y (.cells c t (0,0))):w.frozen? (g,i)=false:=by
 unfold H.frozen?;dsimp only;rw[h];simp
structure RInv(W0:H)(S D:Int)(C:List Int)(g5:Nat)(sh:Int)(k:Nat)(ds:List Nat)(v:M)(wr:H):Prop where
 le:(k:Int)<=S
 up:ds.Pairwise (· < ·)
 st:∀n∈ds,n<k/\(n:Int)∉C
 len:(ds.length:Int)<=D
 ge:W0.heap.size<=g5
 cl:wr.heap[g5]?=Y (MZ sh v)
 own:wr.ownsRow (g5+1) 3 1 v ds.length (ds.map λ(n:Nat)=>.int .i64 (n:Int))
 low:X W0 W0 wr
section
variable{W0 wr w3:H}{S D sh:Int}{C:List Int}{g5 k:Nat}{ds:List Nat}{v v':M}
def RInv.next(h:RInv W0 S D C g5 sh k ds v wr)(hk:(k:Int)<S):RInv W0 S D C g5 sh (k+1) ds v wr:=⟨zz,h.up,λn a=>⟨by have:=(h.st n a).1;omega,(h.st n a).2⟩,h.len,h.ge,h.cl,h.own,h.low⟩
def RInv.add(h:RInv W0 S D C g5 sh k ds v wr)(hk:(k:Int)<S)(m:(k:Int)∉C)(r:(ds.length:Int)<D)(j:w3.ownsRow (g5+1) 3 1 v' (ds.length+1) ((ds.map λ(n:Nat)=>.int .i64 (n:Int))++[.int .i64 (k:Int)]))(f:(wr.alloc (.cells #[.int .i64 (k:Int)] 3)).grownBy w3 v.ownBlock):RInv W0 S D C g5 sh (k+1) (ds++[k]) v' (w3.setCell (g5,1) v'):=by
 have hlt:=(ec.1 h.cl).1;have q:v.ownBlock≠Y g5:=λe=>by have:=(h.own.lt _ e).1;omega
 have hc:w3.heap[g5]?=Y (MZ sh v):=(f.block g5 so (Ne.symm q)).tn ((QR _ _ hlt).tn h.cl);have l:=bJ (i:=1) hc v';simp only[zS]at l;refine⟨zz,?_,λn c=>?_,by rw[kl,List.length_singleton];omega,h.ge,l,?_,?_⟩
 .rw[List.pairwise_append];exact⟨h.up,List.pairwise_singleton _ _,λa o b p=>by
   obtain rfl:=q8A.1 p;exact(h.st a o).1⟩
 .rcases nm.1 c with c|c
  .exact⟨by have:=(h.st n c).1;omega,(h.st n c).2⟩
  .obtain rfl:=q8A.1 c;exact⟨zz,m⟩
 .rw[kl,List.length_singleton,mr];exact dL j λg d=>X.heap_setCell w3 _ _ g (by have:=(j.lt g d).1;show g≠g5;omega)
 .exact jH (mN (h.low.alloc h.low.size _) f (λg d=>by have:=(h.own.lt g d).1;have:=h.ge;omega) (qN _)) h.ge _
end
theorem Yl(b:aC)(l:bN)(s:Sl)(w:H)(hc:ay b l=0)(T:aI w b l)(W:Ca w s):
  PH F 6 #[b.v,.slice s.A s.n s.c] w λe w'=>∃(sh:Int) (ds:List Nat) (d:Sl),e=.returned (aF sh d)/\E7 b l sh ds/\d.n=ds.length/\w'.ownsRow w 3 1 (.slice d.A d.n d.c) d.n (ds.map λ(n:Nat)=>.int .i64 (n:Int))/\X w w w':=by
 obtain⟨t1,t2,t3,t4,t5,t6,t7,t8,t9,b5,-⟩:=cS (bP hc).1;have y:=Hm W;have a1:=Hm T.C;have E:=λ(k:Nat) f (h:Ca f s)=>Up s k f h;have O:=λ(m:Int) h4 h5 f=>Uq b.lo b.hi m t7 t8 t9 h4 h5 f;have S:=λ(n:Int) f (h:aN f b.C l.C)=>ze n b.C l.C f h;clear T W hc;unfold aC.v;go_enter Tryz.func6,Tryz.ntmps6;go_wp2;go_cut [5] (λs5 a0=>abT ((w.alloc (aE b 31)).alloc (MZ 0 (.slice I 0 0))) b.lo b.hi s5 a0)
 case first=>
  go_region_with (first|(go_at_call 38;refine(E 0 _ (by first|exact TN (E5 (E5 y.out _) _)|exact E5 (TN (E5 (E5 y.out _) _)) _)).mono ?_;rintro e u ⟨rfl,m,rfl,Z,m1⟩)|(go_at_call 37;refine(O m Z m1 _).mono ?_;rintro e v2 ⟨⟨sh,rfl,s0,t⟩,K⟩;obtain⟨b2,b3⟩:=aU K));all_goals go_wp2_with fail
  all_goals go_meet
  all_goals first|exact acv s0 t K|exact acw ss s0 t K
 case rest=>
  obtain⟨g5,sh,rfl,s0,t,Q,c,hB⟩:=hcut;obtain⟨i0,hi,a7,a8,a9⟩:=info_parts vD;have a4:RInv ((w.alloc (aE b 31)).alloc (MZ 0 (.slice I 0 0))) b.S b.D l.C g5 sh 0 [] (.slice I 0 0) wc:=⟨zz,List.Pairwise.nil,λn h=>(by cases h),t3,Q,c,H.ownsRow_nil _ _ _ _,hB⟩;clear Q c hB O;go_wp2;go_loopw [6] (λi wr=>∃(k:Nat) (ds:List Nat) (v:M),i=.int .i64 k/\RInv ((w.alloc (aE b 31)).alloc (MZ 0 (.slice I 0 0))) b.S b.D l.C g5 sh k ds v wr) (λi _=>b.S.toNat-(intOf i).toNat)
  case atStart=>exact⟨0,[],_,rfl,a4⟩
  case round=>
   obtain⟨k,ds,v,rfl,j⟩:=hrel;have o:=j.low;have a5:=o.size;simp only[aa]at a5;obtain⟨z,A,rfl⟩:=tK j.own;have x0:wr.heap[w.heap.size]?=Y (aE b 31):=(o.block _ so).tn ((QR _ _ ss).tn (Sp _ _));obtain⟨x0,x1,x2,x3,x4,x5,x6,x7,x8,x9,b6,b7,b8⟩:=aM x0;have r:X w w wr:=cB o;have c:=j.cl;obtain⟨y0,y1⟩:=kV c;have a':=(ec.1 c).1;have z0:(w:Nat)<wr:=zz;have f1:wr.frozen? (g5,1)=false:=E3 c;have p:wr.heap[w.heap.size+1]?=Y (MZ 0 (.slice I 0 0)):=(o.block _ ss).tn (by
    have:=Sp (w.alloc (aE b 31)) (MZ 0 (.slice I 0 0));rw[aa]at this;exact this)
   obtain⟨r0,r1⟩:=kV p;have f2:wr.frozen? (w.heap.size+1,0)=false:=E3 p;have f3:wr.frozen? (w.heap.size+1,1)=false:=E3 p;have z1:(w:Nat)+1<wr:=zz;have HR:=Hm p;have a:=Hm j;have C:=E (k+1) wr (y.out.below r);have G:=S k wr (a1.out.below r);clear E S c o j p;have a3:=a.out.len;rw[show((k+1:Nat):Int)=1+k by omega]at C;by_cases hlt:(k:Int)<b.S
   .obtain⟨q,J⟩:∃q,decide ((k:Int)∈l.C)=q:=⟨_,rfl⟩;rw[J]at G;have a2:=Hm J;clear J;cases q;all_goals go_wp2_with (first|(go_at_call 38;refine C.mono ?_;rintro e u ⟨a6,m,rfl,Z,m1⟩;subst u)|(go_at_call 19;refine G.mono ?_;rintro e u ⟨rfl,a6⟩;subst u)|(at_builtin;refine wpList_append_own _ rfl _ _ 24 rfl (g5+1) 3 i0 (.int .i64 0) 1 8 Tryz.underlying24 hi a7 a8 a9 rfl dd _ _ _ rfl (a.out.own.alloc _) ⟨wr.heap.size,0,I⟩ 1 1 [.int .i64 k] rfl rfl (cell_one_new _ _ _) (λx L=>by simp at L;subst L;rfl) (by unfold maxLen;omega) zz so ?_;intro v' w3 V R b4;have N:=R.block g5 so (λe=>by have:=(a.out.own.lt _ e.symm).1;omega);have B:=N.tn ((QR _ _ a').tn a.out.cl);obtain⟨b9,b'⟩:=kV B;obtain⟨A',c',rfl⟩:=tK V;have b1:w3.frozen? ⟨g5,1,I⟩=false:=E3 B;clear N B))
    all_goals go_roundw
    all_goals first|exact⟨k+1,ds,_,by go_num,a.out.next hlt⟩|exact⟨k+1,ds++[k],_,by go_num,a.out.add hlt (by have:=a2.out;simpa using this) (by assumption) V R⟩|(simp[intOf];omega)
   .have hk:(k:Int)=b.S:=by have:=a.out.le;omega
    obtain⟨q1,q2⟩:=tR (.int .i64 sh) (.slice z ds.length A) HR.out;obtain⟨q3,q4⟩:=kV q1;clear C G;go_wp2;refine bd (v:=aF sh ⟨z,ds.length,A⟩) (by simp[results,Tryz.results6,go_sem,q3,q4,aF]) rfl ⟨sh,ds,⟨z,ds.length,A⟩,rfl,⟨s0,t,a.out.up,λn U=>⟨by have:=(a.out.st n U).1;omega,(a.out.st n U).2⟩,a3⟩,rfl,?_,?_⟩
    .exact dy (by have:=a.out.ge;simp at this;omega) (dL a.out.own λg P=>q2.block g (a.out.own.lt g P).2 (by have:=(a.out.own.lt g P).1;have:=a.out.ge;simp at this;omega))
    .exact r.tn (q2.below r.size λx L=>zz)
end
end Go.Proofs.YtgbibffickbalaaGreatDoor
namespace Go.Proofs.YtgbibffickbalaaGreatDoor
open Go.RowKit
def abU{S L sh:Int}{d:List Int}{p:Int×Int}{n:Nat}(b:0<=p.1)(a:(n:Int)<S):Qx S L sh d p.1 p.2 n=eT S L sh (eM d) p n:=by
 have e:eM d p.1.toNat=decide (p.1∈d):=by
  unfold eM;rw[Int.toNat_of_nonneg b]
 unfold Qx eT;rw[e];by_cases h:p.2+sh<=0\/p.1∈d
 .rw[qWB h,qWB (by simpa using h)]
 .rw[qVB h,qVB (by simpa using h),decide_eq_true a,Bool.true_and]
def Ym(b:aC)(l:bN)(sh:Int)(ds:List Int)(x:Int×Int×Bool):Bool:=Qx b.S b.L sh ds (l.U.getD x.1.toNat (0,0)).1 (l.U.getD x.1.toNat (0,0)).2 x.2.1
def Cf(b:aC)(l:bN)(sh:Int)(ds:List Int)(L:List (Int×Int×Bool)):List (Int×Int×Bool):=L.map λx=>(x.1,x.2.1,Ym b l sh ds x)
structure Vz(W0:H)(b:aC)(F:List (Int×Int×Bool))(s:Sl)(wr:H):Prop where
 bx:aK wr W0.heap.size 31 {b with W:=s}
 n:s.n=F.length
 own:wr.ownsRow (W0.heap.size+1) 80 3 (.slice s.A s.n s.c) s.n (F.flatMap rO)
 low:X W0 W0 wr
section
variable{W0 wr w3 wx:H}{b:aC}{F:List (Int×Int×Bool)}{s:Sl}{A:Option Addr}{c:Nat}{x:Int×Int×Bool}{o:Obj}
def Vz.keep(h:Vz W0 b F s wr)(hk:∀g,g<wr.heap.size->wx.heap[g]?=wr.heap[g]?)(a:(wx.alloc o).grownBy w3 (M.slice s.A s.n s.c).ownBlock):aK w3 W0 31 {b with W:=s}:=by
 have hlt:=h.bx.lt;have e:=(hk _ hlt).tn h.bx;have c:=(ec.1 e).1;exact(a.block _ so (λe=>by have:=(h.own.lt _ e.symm).1;omega)).tn ((QR _ _ c).tn e)
def Vz.add(h:Vz W0 b F s wr)(hk:∀g,g<wr.heap.size->wx.heap[g]?=wr.heap[g]?)(k:X W0 W0 wx)
  (f:w3.ownsRow (W0.heap.size+1) 80 3 (.slice A (s.n+1) c) (s.n+1) (F.flatMap rO++rO x))(d:(wx.alloc o).grownBy w3 (M.slice s.A s.n s.c).ownBlock):Vz W0 b (F++[x]) ⟨A,s.n+1,c⟩ (w3.setCell (W0.heap.size,12) (.slice A (s.n+1) c)):=by
 have j:=bJ (i:=12) (h.keep hk d) (.slice A (s.n+1) c);simp only[zS]at j;refine⟨j,by rw[kl,List.length_singleton,<- h.n],?_,?_⟩
 .rw[List.flatMap_append];have e:[x].flatMap rO=rO x:=by simp
  rw[e];exact dL f λg a=>X.heap_setCell w3 _ _ g (by have:=(f.lt g a).1;show g≠W0.heap.size;omega)
 .exact jH (mN (k.alloc k.size _) d (λg a=>by have:=(h.own.lt g a).1;omega) (qN _)) (qN _) _
end
theorem VA(b:aC)(l:bN)(sh:Int)(d:Sl)(ds:List Int)(w:H)(hc:ay b l=0)(h5: -3<=sh)(h6:sh<=3)(t:aI w b l)(a0:aN w d ds):
  PH Hb 7 #[b.v,aF sh d] w λe w'=>∃W:Sl,e=.returned ({b with W:=W}:aC).v/\W.n=l.W.length/\w'.ownsRow w 80 3 (.slice W.A W.n W.c) W.n ((Cf b l sh ds l.W).flatMap rO)/\X w w w':=by
 obtain⟨t1,t2,t3,t4,t5,t6,-⟩:=cS (bP hc).1;obtain⟨i0,hi,c9,d1,d2⟩:=info_parts Pd;have B:∀x∈l.W,∀a,aN a d ds->bp a b.U l.U->PH Hb 18 #[b.v,aF sh d,.int .i64 x.1,.int .i64 x.2.1] a λe w'=>e=.returned (.bool (Ym b l sh ds x))/\X a a w':=λx m a q1 q2=>by
  obtain⟨k,hk,rfl⟩:=List.getElem_of_mem m;have c:=Gb (bP hc).2.2.2.2 k hk;have e:l.W.getD k (0,0,false)=l.W[k]:=by simp[List.getD,iv hk]
  rw[e]at c;generalize l.W[k]=x at c;obtain⟨a1,a2,a3,a4⟩:=c;obtain⟨u1,u2,u3,u4⟩:=kP (bP hc).2.2.1 x.1.toNat zz;have:=P3 b t1 t2 t5 t6 sh h5 h6 d ds l.U x.1.toNat zz _ _ rfl u1 u2 u3 u4 x.2.1.toNat zz a q1 q2;rw[Int.toNat_of_nonneg a1,Int.toNat_of_nonneg a3]at this;exact this
 have b7:=Hm a0;have b9:=Hm t.U;have b':=Hm t.W;have d':l.W.length<=1000:=t.W.2.2.1;have a9:=Hm t.W.1;obtain⟨W0,q⟩:∃W0,((w.alloc (aE b 31)).alloc (MZ sh (.slice d.A d.n d.c))).alloc (aE bI 31)=W0:=⟨_,rfl⟩;have G:W0.heap.size=w.heap.size+1+1+1:=by rw[<- q];simp
 clear t a0;unfold aC.v aF;unfold aC.v aF at B;go_enter Tryz.func7,Tryz.ntmps7;go_wp2;go_loopw [6] (λi wr=>∃(k:Nat) (s:Sl),i=.int .i64 k/\k<=l.W.length/\Vz W0 b (Cf b l sh ds (l.W.take k)) s wr) (λi _=>l.W.length-(intOf i).toNat)
 case atStart=>
  refine⟨0,iy,rfl,qT _,?_⟩;subst q;exact⟨Sp _ _,rfl,H.ownsRow_nil _ _ _ _,(X.refl _ _).alloc (qN _) _⟩
 case round=>
  obtain⟨k,s,rfl,hk,p⟩:=hrel;have n:=p.low;have e3:=n.size;have a5:=Hm p.n;have e1:s.n<=1000:=by rw[a5.out];unfold Cf;rw[lj,List.length_take];omega
  have K:aK wr w 31 b:=(n.block _ zz).tn (by
   rw[<- q];exact(QR _ _ (by simp<;>omega)).tn ((QR _ _ (by simp<;>omega)).tn (Sp w (aE b 31))))
  have J:wr.heap[w.heap.size+1]?=Y (MZ sh (.slice d.A d.n d.c)):=(n.block _ zz).tn (by
   rw[<- q];refine(QR _ _ (by simp<;>omega)).tn ?_;have:=Sp (w.alloc (aE b 31)) (MZ sh (.slice d.A d.n d.c));rw[aa]at this;exact this)
  have y:aK wr (w.heap.size+1+1) 31 bI:=(n.block _ zz).tn (by
   rw[<- q];have:=Sp ((w.alloc (aE b 31)).alloc (MZ sh (.slice d.A d.n d.c))) (aE bI 31);rw[aa,aa]at this;exact this)
  have c:X w w wr:=by
   have h0:X w w W0:=by
    rw[<- q];exact(((X.refl _ w).alloc (qN _) _).alloc (by simp<;>omega) _).alloc (by simp<;>omega) _
   exact h0.tn (n.mono h0.size)
  obtain⟨x0,x1,x2,x3,x4,x5,x6,x7,x8,x9,e9,e',d3⟩:=aM K;obtain⟨y0,y1⟩:=kV J;have r:=p.bx;rw[G]at r;obtain⟨v0,v1,v2,v3,v4,v5,v6,v7,v8,v9,e4,e5,e6⟩:=aM r;have d9:=dx r 12;have z0:(w:Nat)<wr:=zz;have z1:(w:Nat)+1<wr:=zz;have z2:(w:Nat)+1+1+1<wr:=r.lt;have f:=Hm p;have b8:=Hm y;have a8:=Hm c;by_cases hlt:k<l.W.length
  .have c8:=b'.out.below c;obtain⟨-, -, -, b6⟩:=c8;obtain⟨d4,off,b0,d6,a'⟩:=b6 zz;obtain⟨c0,c1,c2⟩:=a' k hlt;have E:l.W.getD k (0,0,false)∈l.W:=by rw[show l.W.getD k (0,0,false)=l.W[k] by simp[List.getD,iv hlt]];exact List.getElem_mem hlt
   have a7:PQ (l.W.take (k+1)=l.W.take k++[l.W.getD k (0,0,false)]):=by show _=_;simp[List.getD,iv hlt]
   generalize l.W.getD k (0,0,false)=x at c0 c1 c2 E a7;have c4:k<b.W.n:=by rw[a9.out];exact hlt
   have z3:w.heap.size+1+1+1<wr.heap.size+1:=zz;have n1:¬((w:Nat)+1+1+1=wr):=zz;have n2:¬(wr.heap.size=w.heap.size+1+1+1):=zz;have m:=B x E ((wr.alloc (.cells #[.int .i64 x.1,.int .i64 x.2.1,.bool x.2.2] 80))) (b7.out.below (c.alloc c.size _)) (b9.out.below (c.alloc c.size _));clear B a' b6 p y n K J r c E;rw[b0]at d3 m|-;have a6:PQ (Cf b l sh ds [x]=[(x.1,x.2.1,Ym b l sh ds x)]):=rfl;generalize Ym b l sh ds x=o at m a6;go_wp2_with (first|(go_at_call 18;refine m.mono ?_;rintro e a ⟨rfl,z⟩;obtain⟨d7,d8⟩:=aU z;have c6:=z.size;have e2:wr.heap.size<a.heap.size:=(by simp at c6;omega);have b2:∀g,g<wr.heap.size->a.heap[g]?=wr.heap[g]?:=λg h=>(z.block g so).tn (QR _ _ h);have c5:=f.out.low.tn ((((X.refl _ wr).alloc (qN _) _).tn (z.mono ss)).mono f.out.low.size);have b3:∀g,g<wr.heap.size->(a.setCell ⟨wr.heap.size,2,I⟩ (.bool o)).heap[g]?=wr.heap[g]?:=λg h=>(X.heap_setCell a _ _ g (Nat.ne_of_lt h)).tn (b2 g h))|(at_builtin;refine wpList_append_own _ rfl _ _ 29 rfl (W0.heap.size+1) 80 i0 _ 3 24 Tryz.underlying29 hi c9 d1 d2 rfl dd _ _ _ rfl ((dL (bj:=a.setCell ⟨wr.heap.size,2,I⟩ (.bool o)) f.out.own λg h=>(X.heap_setCell a _ _ g (Nat.ne_of_lt (f.out.own.lt g h).2)).tn (b2 g (f.out.own.lt g h).2)).alloc _) ⟨_,0,I⟩ 1 1 [.int .i64 x.1,.int .i64 x.2.1,.bool o] rfl rfl (λj u c7=>(by have:=nI (a.setCell ⟨wr.heap.size,2,I⟩ (.bool o)) #[.int .i64 x.1,.int .i64 x.2.1,.bool o] 80 j u c7;rw[show(a.setCell ⟨wr.heap.size,2,I⟩ (.bool o)).heap.size=a.heap.size by simp[H.setCell]]at this;exact this)) (λx m=>by simp at m;rcases m with rfl|rfl|rfl<;>rfl) (by unfold maxLen;omega) zz so ?_;intro v' w3 b5 b1 d0;obtain⟨A',c',rfl⟩:=tK b5;have A:=f.out.keep b3 b1;rw[G]at A;have e7:=(aM A).2.2.2.2.2.2.2.2.2.2.2.2;have d5:=dx A 12;clear A));go_roundw
   case rel=>
    refine⟨k+1,⟨A',s.n+1,c'⟩,by go_num,zz,?_⟩;have:=f.out.add (x:=(x.1,x.2.1,o)) b3 (jH c5 zz _) b5 b1;rw[G]at this;rw[a7.out,show Cf b l sh ds (l.W.take k++[x])=Cf b l sh ds (l.W.take k)++Cf b l sh ds [x]from mr,a6.out];exact this
   case measure=>simp[intOf];omega
  .have c3:k=l.W.length:=zz;have c4:¬k<b.W.n:=by rw[a9.out];omega
   obtain⟨L,N,R,S,r4,T,r6,U,V,Z,O,P,Q⟩:=aM y;have rf:=dx y;clear B p n J r K y;go_wp2;change bodyPost Hb Tryz.f7 _ .ret _ (uq (w.heap.size+1+1) ({b with W:=s}:aC) wr);obtain⟨f1,C,f3⟩:=pq ({b with W:=s}:aC) b8.out;clear L N R S r4 T r6 U V Z O P Q rf;generalize uq (w.heap.size+1+1) ({b with W:=s}:aC) wr=e8 at f1 C f3;obtain⟨L,N,R,S,r4,T,r6,U,V,Z,O,P,Q⟩:=aM f1;refine bd (v:=({b with W:=s}:aC).v) (by simp[results,Tryz.results7,go_sem,L,N,R,S,r4,T,r6,U,V,Z,O,P,Q,aC.v]) rfl ⟨s,rfl,?_,?_,a8.out.tn (C.below a8.out.size λx m=>zz)⟩
   .rw[a5.out];unfold Cf;rw[lj,List.length_take];omega
   .have b4:=dy (B':=w.heap.size) zz (dL f.out.own λg h=>C.block g (f.out.own.lt g h).2 (by have:=(f.out.own.lt g h).1;omega));rw[c3,List.take_length]at b4;exact b4
open Go.Co
variable{K R:Act->H->Prop}{fn:ba}{args:Array M}{v:M}{E S:H->Prop}{w w':H}{ops:Array Kp}{n d j i g k off m cp z:Nat}{f:Nat->M}{oi o:Kp}{rest:List Nat}{Q:Exit->Act->H->Prop}{md:Region.Mode}{late:Nat->Bool}{L:Array Bool}{Z:ae->M}{x y c:ae}{a b:Int}{t':Lk}{r q p:Bool}
section
variable{t:Bool}
def eE(b:oi.guard=Y (j,t))(c:(ops[j]?).bind (·.dst)=Y g)(hlt:g<n)(a:f g=.bool t):Region.wanted oi (aw ops (fa n f).tmps)=true:=by
 unfold Region.wanted;rw[b];simp only[xM c hlt a,beq_self_eq_true]
def jc(b:oi.guard=Y (j,t))(c:(ops[j]?).bind (·.dst)=Y g)(hlt:g<n)(a:f g=.bool (!t)):Region.wanted oi (aw ops (fa n f).tmps)=false:=by
 unfold Region.wanted;rw[b];simp only[xM c hlt a];cases t<;>rfl
def ZE(v:M)(hi:ops[i]?=Y oi)(a:oi.dst=Y d)(b:d<n)(c:Region.wanted oi (aw ops (fa n f).tmps)=true)(e:(Hn (fa n f).eval oi).run F w=.ok (.value v) w')(h:K (fa n (ah f d v)) w'):wpOp F ops Q i K (fa n f) w:=by
 unfold wpOp;simp only[hi,c,if_true,Kp.wp,e,Kp.upon];rw[a,cw b];exact .inl h
def Vg(hi:ops[i]?=Y oi)(b:oi.dst=Y d)(g:d<n)(j:Region.wanted oi (aw ops (fa n f).tmps)=true)(k:(Hn (fa n f).eval oi).run F w=.ok (.enter fn args) w)
  (hc:PH F fn args w λe w'=>e=.returned v/\E w')(h:∀w',E w'->K (fa n (ah f d v)) w'):wpOp F ops Q i K (fa n f) w:=by
 have ø:=0;exact MP
def Xr{E:M->H->Prop}(hi:ops[i]?=Y oi)(b:oi.dst=Y d)(g:d<n)(j:Region.wanted oi (aw ops (fa n f).tmps)=true)(k:(Hn (fa n f).eval oi).run F w=.ok (.enter fn args) w)
  (hc:PH F fn args w λe w'=>∃v,e=.returned v/\E v w')(h:∀v w',E v w'->K (fa n (ah f d v)) w'):wpOp F ops Q i K (fa n f) w:=MP
def ZG(hi:ops[i]?=Y oi)(a:oi.dst=Y d)(b:d<n)(c:Region.wanted oi (aw ops (fa n f).tmps)=false)(h:K (fa n (ah f d D)) w):wpOp F ops Q i K (fa n f) w:=by
 unfold wpOp;simp only[hi,c,lO,if_false];rw[a,cw b];exact h
def acy(hi:ops[i]?=Y oi)(a:oi.dst=I)(b:Region.wanted oi (aw ops (fa n f).tmps)=true)(c:(Hn (fa n f).eval oi).run F w=.ok .skip w')(h:K (fa n f) w'):wpOp F ops Q i K (fa n f) w:=by
 unfold wpOp;simp only[hi,b,if_true,Kp.wp,c,Kp.upon];rw[a];exact .inl h
def lV(v:M)(hi:ops[i]?=Y oi)(a:oi.dst=Y d)(b:d<n)(c:Region.wanted oi (aw ops (fa n f).tmps)=true)(e:(Hn (fa n f).eval oi).run F w=.ok (.value v) w')(h:wpOps F ops Q rest (fa n (ah f d v)) w'):wpOps F ops Q (i::rest) (fa n f) w:=by
 rw[wpOps_cons];exact ZE v hi a b c e h
def lN(hi:ops[i]?=Y oi)(a:oi.dst=Y d)(b:d<n)(c:Region.wanted oi (aw ops (fa n f).tmps)=false)(h:wpOps F ops Q rest (fa n (ah f d D)) w):wpOps F ops Q (i::rest) (fa n f) w:=by
 rw[wpOps_cons];exact ZG hi a b c h
def lS(hi:ops[i]?=Y oi)(a:oi.dst=I)(b:Region.wanted oi (aw ops (fa n f).tmps)=true)(c:(Hn (fa n f).eval oi).run F w=.ok .skip w')(h:wpOps F ops Q rest (fa n f) w'):wpOps F ops Q (i::rest) (fa n f) w:=by
 rw[wpOps_cons];exact acy hi a b c h
def lC(hi:ops[i]?=Y oi)(a:oi.dst=Y d)(b:d<n)(c:Region.wanted oi (aw ops (fa n f).tmps)=true)(g:(Hn (fa n f).eval oi).run F w=.ok (.enter fn args) w)
  (hc:PH F fn args w λe w'=>e=.returned v/\E w')(h:∀w',E w'->wpOps F ops Q rest (fa n (ah f d v)) w'):wpOps F ops Q (i::rest) (fa n f) w:=by
 rw[wpOps_cons];exact Vg hi a b c g hc h
def lR{E:M->H->Prop}(hi:ops[i]?=Y oi)(a:oi.dst=Y d)(b:d<n)(c:Region.wanted oi (aw ops (fa n f).tmps)=true)(g:(Hn (fa n f).eval oi).run F w=.ok (.enter fn args) w)
  (hc:PH F fn args w λe w'=>∃v,e=.returned v/\E v w')(h:∀v w',E v w'->wpOps F ops Q rest (fa n (ah f d v)) w'):wpOps F ops Q (i::rest) (fa n f) w:=by
 rw[wpOps_cons];exact Xr hi a b c g hc h
def lE(h:Q .normal (fa n f) w):wpOps F ops Q [] (fa n f) w:=h
def tV(v:M)(hi:ops[i]?=Y oi)(b:oi.dst=Y d)(g:d<n)(m:Region.wanted oi (aw ops (fa n f).tmps)=true)(l:Region.noSelect ops=true)(c:Region.free md ops L i=true)(j:(Region.ready md ops L).contains i=true)(e:nN md ops late i=true)
  (o:∀w',S w'->(Hn (fa n f).eval oi).run F w'=.ok (.value v) w')(a:S w)
  (h:wpAnyL F md ops (aR R) S late k (L.setIfInBounds i true) (fa n (ah f d v)) w):wpAnyL F md ops (aR R) S late (k+1) L (fa n f) w:=
 dN hi l c j e (λ_ _ _ h=>h) (.inl ⟨m,o⟩) a (by rw[b,cw g];exact h)
def tN(hi:ops[i]?=Y oi)(b:oi.dst=Y d)(g:d<n)(m:Region.wanted oi (aw ops (fa n f).tmps)=false)(l:Region.noSelect ops=true)(c:Region.free md ops L i=true)(j:(Region.ready md ops L).contains i=true)(e:nN md ops late i=true)(a:S w)
  (h:wpAnyL F md ops (aR R) S late k (L.setIfInBounds i true) (fa n (ah f d D)) w):wpAnyL F md ops (aR R) S late (k+1) L (fa n f) w:=
 dN hi l c j e (λ_ _ _ h=>h) (.inr ⟨m,rfl⟩) a (by rw[b,cw g];exact h)
def tC(j:Region.ready md ops L=[i])(hi:ops[i]?=Y oi)(b:oi.dst=Y d)(g:d<n)(l:Region.wanted oi (aw ops (fa n f).tmps)=true)(o:(Hn (fa n f).eval oi).run F w=.ok (.enter fn args) w)
  (hc:PH F fn args w λe w'=>e=.returned v/\E w')(h:∀w',E w'->S w'/\wpAnyL F md ops (aR R) S late k (L.setIfInBounds i true) (fa n (ah f d v)) w'):wpAnyL F md ops (aR R) S late (k+1) L (fa n f) w:=by
 refine bl [i] j ss λm c=>?_;obtain rfl:=q8A.1 c;exact Vg hi b g l o hc λw' a=>⟨λ_=>(h w' a).1,(h w' a).2⟩
end
def gy(n:Nat){F:Func}{c:Ly}{A:Array M}{R:Ending->H->Prop}(b:Hb.funcs[fn]?=Y F)(a:F.body=Y c)(d:A.size+(F.ntmps-A.size)=n)(h:∀f:Nat->M,(∀i,f i=A.getD i D)->Ly.wp Hb c (bodyPost Hb F R) (fa n f) w):PH Hb fn A w R:=by
 refine calls_of_wp b a ?_;rw[iu d];exact h _ λ_=>rfl
theorem Ib{g:Nat}{b:aC}(h:aK w g 31 b):(Instr.loadAt 31 (.pointer (Y (g,0)))).run F w=.ok b.v w:=by
 obtain⟨a,c,i,j,k,l,m,n,o,p,d,e,f⟩:=aM h;unfold aC.v;go_simp
def ag{n t:Nat}{f:Nat->M}(h:t<n)(e:f t=v):(fa n f).eval (.tmp t)=v:=(fe h).tn e
def ZK(s:Nat):List Nat:=if s=31 then[0,1,2,3,5,6,8,10,11,12]else if s=80 then[0,1,2]else if s=36\/s=23\/s=26\/s=112\/s=115 then[0,1]else[]
def Sm(x:Int):Prop:= -9223372036854775808<=x/\x<=9223372036854775807
structure yW(x y:M):Prop where h:x=y
def ZL(t:Nat):Option Nat:=if t=27\/t=28 then Y 2 else if t=29 then Y 3 else I
def TG:BinOp->Option (Int->Int->Bool)
 | .lss=>Y λa b=>decide (a<b)
 | .leq=>Y λa b=>decide (a<=b)
 | .gtr=>Y λa b=>decide (b<a)
 | .geq=>Y λa b=>decide (b<=a)
 | .eql=>Y λa b=>a==b
 | .neq=>Y λa b=>a != b
 | _=>I
section
variable{t t':Lk}
def bq(a:o.op=.move x\/o.op=.assign x)(b:Z x=v):(Hn Z o).run F w=.ok (.value v) w:=by
 unfold Hn;rcases a with h|h<;>simp only[h,b]<;>rfl
theorem dm{xs:Array ae}{ts:Array Lk}(b:o.op=.call {callee:=.value (.func fn),args:=xs,argTypes:=ts})(a:xs.map Z=args)(c:Z (.func fn)=.func (.func fn) #[] #[])
  (hc:(callFunc fn args).run F w=.ok (.enter fn args) w):(Hn Z o).run F w=.ok (.enter fn args) w:=xaH
theorem j0(a:o.op=.unOp .not t x)(c:Z x=.bool r)(b:yW (.bool (!r)) v):(Hn Z o).run F w=.ok (.value v) w:=xbz
theorem aa6(a:o.op=.pick c x y)(hc:Z c=.bool r)(b:(if r then Z x else Z y)=v):(Hn Z o).run F w=.ok (.value v) w:=by
 subst b;unfold Hn;simp only[a,hc];cases r<;>go_simp
theorem abc(a:o.op=.binOp .eql 4 x y 4)(d:Z x=.bool r)(e:Z y=.bool q)(b:(r==q)=p)(c:yW (.bool p) v):(Hn Z o).run F w=.ok (.value v) w:=by
 subst b;obtain⟨rfl⟩:=c;unfold Hn;simp only[a,d,e];go_simp
theorem Vh(a:o.op=.binOp .neq 4 x y 4)(d:Z x=.bool r)(e:Z y=.bool q)(b:(r != q)=p)(c:yW (.bool p) v):(Hn Z o).run F w=.ok (.value v) w:=by
 subst b;obtain⟨rfl⟩:=c;unfold Hn;simp only[a,d,e];cases r<;>cases q<;>go_simp
theorem Sr{op:BinOp}{F:Int->Int->Bool}(c:o.op=.binOp op t x y t')(hF:TG op=Y F)(f:Z x=.int .i64 a)(g:Z y=.int .i64 b)(d:F a b=r)(e:yW (.bool r) v):(Hn Z o).run Hb w=.ok (.value v) w:=by
 subst d;obtain⟨rfl⟩:=e;unfold Hn;simp only[c,f,g];cases op<;>cases hF<;>go_simp
def gE{B:aC}(b:o.op=.load 31 x)(d:Z x=.pointer (Y (g,0)))(a:aK w g 31 B)(c:yW (B.v) v):(Hn Z o).run F w=.ok (.value v) w:=by
 have h:=(Ib a);obtain⟨rfl⟩:=c;unfold Hn;simp only[b,d];simp[h]
theorem qM{sh:Int}{s:Sl}(a:o.op=.load 36 x)(c:Z x=.pointer (Y (g,0)))(d:w (g,0)=Y (.int .i64 sh))(e:w (g,1)=Y (.slice s.A s.n s.c))(b:yW (aF sh s) v):(Hn Z o).run F w=.ok (.value v) w:=by
 obtain⟨rfl⟩:=b;unfold Hn aF;simp only[a,c];go_simp
theorem Xo{h s:Int}(a:o.op=.load 80 x)(c:Z x=.pointer (Y (g,off)))(d:w (g,off)=Y (.int .i64 h))(e:w (g,off+1)=Y (.int .i64 s))(h2:w (g,off+2)=Y (.bool r))(b:yW (.agg #[.int .i64 h,.int .i64 s,.bool r]) v):(Hn Z o).run F w=.ok (.value v) w:=xbz
theorem TH{s:Nat}(b:o.op=.fieldAddr s x k)(a:(ZK s)[k]?=Y z)(d:Z x=.pointer (Y (g,off)))(c:yW (.pointer (Y (g,off+z))) v):(Hn Z o).run F w=.ok (.value v) w:=by
 obtain⟨rfl⟩:=c;unfold Hn;simp only[b,d];unfold ZK at a;repeat' split at a
 .subst s;iterate 10 (rcases k with _|k; · cases a;go_simp)
  cases a
 .subst s;iterate 3 (rcases k with _|k; · cases a;go_simp)
  cases a
 .rename_i h;iterate 2 (rcases k with _|k; · cases a;rcases h with rfl|rfl|rfl|rfl|rfl<;>go_simp)
  cases a
 .cases a
theorem abe(b:o.op=.load t x)(a:[3,4,24,27,28,29,39].contains t=true)(c:Z x=.pointer (Y (g,off)))(hc:w (g,off)=Y v):(Hn Z o).run F w=.ok (.value v) w:=by
 unfold Hn;simp only[b,c];simp at a;rcases a with rfl|rfl|rfl|rfl|rfl|rfl|rfl<;>go_simp
theorem Xp(a:o.op=.indexAddr 24 x y)(c:Z x=.slice (Y (g,off)) m cp)(d:Z y=.int .i64 k)(hk:k<m)(b:yW (.pointer (Y (g,off+k))) v):(Hn Z o).run F w=.ok (.value v) w:=by
 obtain⟨rfl⟩:=b;unfold Hn;simp only[a,c,d];go_simp
theorem Vj(b:o.op=.indexAddr t x y)(a:ZL t=Y z)(d:Z x=.slice (Y (g,off)) m cp)(e:Z y=.int .i64 k)(hk:k<m)(c:yW (.pointer (Y (g,off+k*z))) v):(Hn Z o).run F w=.ok (.value v) w:=by
 obtain⟨rfl⟩:=c;unfold Hn;simp only[b,d,e];unfold ZL at a;split at a
 .rename_i h;cases a;rcases h with rfl|rfl<;>go_simp
 .split at a
  .rename_i h;cases a;subst h;go_simp
  .cases a
theorem SF{A:Option Addr}(b:o.op=.call {callee:=.builtin .len,args:= #[x],argTypes:= #[t]})(a:[24,27,28,29].contains t=true)(c:o.type=3)(e:Z x=.slice A m cp)(d:yW (.int .i64 m) v):(Hn Z o).run F w=.ok (.value v) w:=by
 obtain⟨rfl⟩:=d;unfold Hn;simp only[b,ab,zM,e,c];simp at a;rcases a with rfl|rfl|rfl|rfl<;>go_simp
theorem AW(c:o.op=.binOp .sub 3 x y 3)(e:Z x=.int .i64 a)(f:Z y=.int .i64 b)(h:Sm (a-b))(d:yW (.int .i64 (a-b)) v):(Hn Z o).run F w=.ok (.value v) w:=xaA
theorem XM{z:ae}{c:Int}(d:o.op=.call {callee:=.builtin .max,args:= #[x,y,z],argTypes:= #[3,3,3]})(e:o.type=3)(g:Z x=.int .i64 a)(h:Z y=.int .i64 b)(i:Z z=.int .i64 c)(f:yW (.int .i64 (max (max a b) c)) v):(Hn Z o).run F w=.ok (.value v) w:=by
 obtain⟨rfl⟩:=f;unfold Hn;simp only[d,ab,zM,g,h,i,e];go_simp;repeat (first|omega|split)
theorem E4(c:o.op=.binOp .add 3 x y 3)(e:Z x=.int .i64 a)(f:Z y=.int .i64 b)(h:Sm (a+b))(d:yW (.int .i64 (a+b)) v):(Hn Z o).run F w=.ok (.value v) w:=xaA
end
open Go.Conc
def qQ:Ly:=match Tryz.f3.body with|some c=>c|_=>.skip
def acz:Array Kp:=br [0] qQ
def abk:Array Kp:=br [1,0,0] qQ
def TO:Array Kp:=br [1,0,1,4,0] qQ
def acA:Array Kp:=br [1,1,0] qQ
def acB:Array Kp:=br [1,1,1,0] qQ
def acC:Array Kp:=br [1,1,1,1,0] qQ
def acD:Array Kp:=br [1,1,1,1,1,0] qQ
def acE:Array Kp:=br [1,1,1,1,1,1,0] qQ
def acF:Array Kp:=br [1,1,1,1,1,1,1,0] qQ
def acG:Array Kp:=br [1,1,1,1,1,1,1,1,0] qQ
def abV:Array Kp:=br [1,1,1,1,1,1,1,1,1,0] qQ
def abW:Array Kp:=br [1,1,1,1,1,1,1,1,1,1,0] qQ
def abX:Array Kp:=br [1,1,1,1,1,1,1,1,1,1,1,0] qQ
def abY:Array Kp:=br [1,1,1,1,1,1,1,1,1,1,1,1,0] qQ
def abZ:Array Kp:=br [1,1,1,1,1,1,1,1,1,1,1,1,1,0] qQ
def ab0:Array Kp:=br [1,1,1,1,1,1,1,1,1,1,1,1,1,1,0,0] qQ
def ab1:Array Kp:=br [1,1,1,1,1,1,1,1,1,1,1,1,1,1,1,0] qQ
def ab2:Array Kp:=br [1,1,1,1,1,1,1,1,1,1,1,1,1,1,1,1,0] qQ
def ab3:Array Kp:=br [1,1,1,1,1,1,1,1,1,1,1,1,1,1,1,1,1,0,0] qQ
def QD:Ly:=dk [1,1,1,1,1,1,1,1,1,1,1,1,1,1,1,1,1,0,1,2,3] qQ
def ab4:Array Kp:=br [0,0] QD
def ab5:Array Kp:=br [1,0,2,0] QD
def ab6:Array Kp:=br [1,0,2,1,4] QD
def ab7:Array Kp:=br [1,1] QD
def ab8:Array Kp:=br [1,1,1,1,1,1,1,1,1,1,1,1,1,1,1,1,1,1,0,0] qQ
def M0:Array Kp:=br [1,1,1,1,1,1,1,1,1,1,1,1,1,1,1,1,1,1,1,0] qQ
def Yn:QD=.seq (.seq (.region 20 ab4 false) (.cond (.tmp 151) (.skip) (.exit 0))) (.seq (.block 1 (.seq (.region 22 ab5 false) (.cond (.tmp 158) (.region 23 ab6 false) (.skip)))) (.region 21 ab7 false)):=rfl
variable{id N t:Nat}{p:Prop}{z:ae}{a b c v':M}{u:H}{xs:Array ae}{ts:Array Lk}
def Rs(n:Nat)(u:H)(f:Nat->M)(keep:Nat->Prop)(p:(Nat->M)->Prop)(a:Act)(w:H):Prop:=∃f',a=fa n f'/\X u u w/\(∀i,keep i->f' i=f i)/\p f'
def Rs.mk{u w:H}{f f':Nat->M}{keep:Nat->Prop}{p:(Nat->M)->Prop}(a:X u u w)(hk:∀i,keep i->f' i=f i)(b:p f'):aR (Rs n u f keep p) .normal (fa n f') w:=⟨f',rfl,a,hk,b⟩
def XF(b:Z x=a):(#[x]).map Z= #[a]:=by simp[b]
def MJ(c:Z x=a)(d:Z y=b):(#[x,y]).map Z= #[a,b]:=by simp[c,d]
def MK(d:Z x=a)(e:Z y=b)(h2:Z z=c):(#[x,y,z]).map Z= #[a,b,c]:=by simp[d,e,h2]
def XG{x y z u:ae}{a b c d:M}(e:Z x=a)(f:Z y=b)(h2:Z z=c)(g:Z u=d):(#[x,y,z,u]).map Z= #[a,b,c,d]:=by simp[e,f,h2,g]
def fG:Ly:=match Tryz.f24.body with|some c=>c|_=>.skip
def ZI:Array Kp:=br [0] fG
def Vo:Array Kp:=br [1,0,0] fG
def P6:Array Kp:=br [1,0,1,0] fG
def Vp:Array Kp:=br [1,0,1,1,4,0] fG
def P7:Array Kp:=br [1,1,0,0] fG
def Vq:Array Kp:=br [1,1,0,1,4,0] fG
def Vr:Array Kp:=br [1,1,1,0,0] fG
def ux:Ly:=dk [1,1,1,0,1,2,3] fG
def P8:Array Kp:=br [0,0] ux
def P9:Array Kp:=br [1,0,2,0,0] ux
def Qa:Array Kp:=br [1,0,2,0,1,4,0] ux
def Ig:Array Kp:=br [1,0,2,1,0] ux
def Qb:Array Kp:=br [1,0,2,1,1,4,0] ux
def Vt:Array Kp:=br [1,1] ux
def Ih:Array Kp:=br [1,1,1,1,0,0] fG
def Qc:Array Kp:=br [1,1,1,1,0,1,4,0] fG
def Qd:Array Kp:=br [1,1,1,1,1,0,0] fG
def uy:Ly:=dk [1,1,1,1,1,0,1,2,3] fG
def Ii:Array Kp:=br [0,0] uy
def B6:Array Kp:=br [1,0,2,0,0] uy
def Qe:Array Kp:=br [1,0,2,0,1,4,0] uy
def Ij:Array Kp:=br [1,0,2,1,0] uy
def Qf:Array Kp:=br [1,0,2,1,1,4,0] uy
def Qg:Array Kp:=br [1,1] uy
def Ik:Array Kp:=br [1,1,1,1,1,1,0,0] fG
def Qh:Array Kp:=br [1,1,1,1,1,1,0,1,4,0] fG
def Qi:Array Kp:=br [1,1,1,1,1,1,1,0,0] fG
def za:Ly:=dk [1,1,1,1,1,1,1,0,1,2,3] fG
def Il:Array Kp:=br [0,0] za
def B7:Array Kp:=br [1,0,2,0] za
def Qj:Array Kp:=br [1,0,2,1,4,0] za
def Qk:Array Kp:=br [1,1] za
def Ql:Array Kp:=br [1,1,1,1,1,1,1,1,0] fG
def ML:fG=.seq (.region 0 ZI false) (.seq (.seq (.region 1 Vo false) (.seq (.region 2 P6 false) (.cond (.tmp 10) (.seq (.region 3 Vp false) (.ret)) (.skip)))) (.seq (.seq (.region 4 P7 false) (.cond (.tmp 16) (.seq (.region 5 Vq false) (.ret)) (.skip))) (.seq (.seq (.region 6 Vr false) (.block 0 (.loop ux))) (.seq (.seq (.region 13 Ih false) (.cond (.tmp 44) (.seq (.region 14 Qc false) (.ret)) (.skip))) (.seq (.seq (.region 15 Qd false) (.block 2 (.loop uy))) (.seq (.seq (.region 22 Ik false) (.cond (.tmp 91) (.seq (.region 23 Qh false) (.ret)) (.skip))) (.seq (.seq (.region 24 Qi false) (.block 4 (.loop za))) (.seq (.region 29 Ql false) (.ret))))))))):=rfl
def Qm:ux=.seq (.seq (.region 7 P8 false) (.cond (.tmp 21) (.skip) (.exit 0))) (.seq (.block 1 (.seq (.seq (.region 9 P9 true) (.cond (.tmp 32) (.seq (.region 10 Qa false) (.ret)) (.skip))) (.seq (.region 11 Ig false) (.cond (.tmp 40) (.seq (.region 12 Qb false) (.ret)) (.skip))))) (.region 8 Vt false)):=rfl
def Qn:uy=.seq (.seq (.region 16 Ii false) (.cond (.tmp 49) (.skip) (.exit 2))) (.seq (.block 3 (.seq (.seq (.region 18 B6 true) (.cond (.tmp 77) (.seq (.region 19 Qe false) (.ret)) (.skip))) (.seq (.region 20 Ij true) (.cond (.tmp 87) (.seq (.region 21 Qf false) (.ret)) (.skip))))) (.region 17 Qg false)):=rfl
def Qo:za=.seq (.seq (.region 25 Il false) (.cond (.tmp 96) (.skip) (.exit 4))) (.seq (.block 5 (.seq (.region 27 B7 true) (.cond (.tmp 118) (.seq (.region 28 Qj false) (.ret)) (.skip)))) (.region 26 Qk false)):=rfl
def Oh{d i:Nat}(e:f i=a)(h:Nat.beq i d=false:=by exact rfl):ah f d v i=a:=(qVB (Nat.ne_of_beq_eq_false h)).tn e
def Ls{n t:Nat}(e:f t=v)(h:t<n:=by omega):(fa n f).eval (.tmp t)=v:=(fe h).tn e
def Tv:(fa n f).eval (.const v)=v:=rfl
def vq{x:M}:yW x x:=⟨rfl⟩
def XH{x:Bool}:x=x:=rfl
def dT[Decidable p](h:p)(e:true=r):decide p=r:=(decide_eq_true h).tn e
def dF[Decidable p](h:¬p)(e:false=r):decide p=r:=(decide_eq_false h).tn e
structure At(j:Nat)(p:Prop):Prop where h:p
structure Ac(j:Nat)(p:Prop):Prop where h:p
def XI(hi:ops[i]?=Y oi)(a:oi.dst=Y d)(c:Region.wanted oi (aw ops (fa n f).tmps)=true)(hB:X u u w)(h:∃v,(∀w',X u u w'->(Hn (fa n f).eval oi).run F w'=.ok (.value v) w')/\wpOps F ops Q rest (fa n (ah f d v)) w)(b:d<n:=by omega):wpOps F ops Q (i::rest) (fa n f) w:=let⟨v,hy,h⟩:=h;lV v hi a b c (hy w hB) h
def XJ(hi:ops[i]?=Y oi)(a:oi.dst=Y d)(c:Region.wanted oi (aw ops (fa n f).tmps)=false)(h:wpOps F ops Q rest (fa n (ah f d D)) w)(b:d<n:=by omega):wpOps F ops Q (i::rest) (fa n f) w:=lN hi a b c h
def Lv(o:Kp):Bool:=match o.op with|.call c=>(match c.callee with|.builtin _=>true|_=>false)|_=>true
def XO(_:Nat.blt j ops.size=true)(h:At (j+1) (wpAnyL F md ops (aR R) (λa=>X u u a) late k L (fa n f) w)):At j (wpAnyL F md ops (aR R) (λa=>X u u a) late k L (fa n f) w):=⟨h.h⟩
def XP(_:L.getD j true=false)(hi:ops[j]?=Y oi)(_:Lv oi=true)(b:oi.dst=Y d)(m:Region.wanted oi (aw ops (fa n f).tmps)=true)(hB:X u u w)
  (h:∃v,(∀w',X u u w'->(Hn (fa n f).eval oi).run F w'=.ok (.value v) w')/\At (j+1) (wpAnyL F md ops (aR R) (λa=>X u u a) late k (L.setIfInBounds j true) (fa n (ah f d v)) w))
  (g:d<n:=by omega)(l:Region.noSelect ops=true:=by kernel_rfl)(c:Region.free md ops L j=true:=by kernel_rfl)(i:(Region.ready md ops L).contains j=true:=by kernel_rfl)(e:nN md ops late j=true:=by kernel_rfl):At j (wpAnyL F md ops (aR R) (λa=>X u u a) late (k+1) L (fa n f) w):=let⟨v,hy,h⟩:=h;⟨tV v hi b g m l c i e hy hB h.h⟩
def XQ(_:L.getD j true=false)(hi:ops[j]?=Y oi)(b:oi.dst=Y d)(m:Region.wanted oi (aw ops (fa n f).tmps)=false)(hB:X u u w)
  (h:At (j+1) (wpAnyL F md ops (aR R) (λa=>X u u a) late k (L.setIfInBounds j true) (fa n (ah f d D)) w))
  (g:d<n:=by omega)(l:Region.noSelect ops=true:=by kernel_rfl)(c:Region.free md ops L j=true:=by kernel_rfl)(i:(Region.ready md ops L).contains j=true:=by kernel_rfl)(e:nN md ops late j=true:=by kernel_rfl):At j (wpAnyL F md ops (aR R) (λa=>X u u a) late (k+1) L (fa n f) w):=⟨tN hi b g m l c i e hB h.h⟩
def adc(_:Nat.blt j ops.size=true)(h:Ac (j+1) (wpAnyL F md ops (aR R) (λa=>X u u a) late k L (fa n f) w)):Ac j (wpAnyL F md ops (aR R) (λa=>X u u a) late k L (fa n f) w):=⟨h.h⟩
def Xs(fn:ba)(xs:Array ae)(a:Act)(u w:H)(p:M->H->Prop):Prop:=∃args v,xs.map a.eval=args/\(callFunc fn args).run F w=.ok (.enter fn args) w/\PH F fn args w (λe w'=>e=.returned v/\X w w w')/\∀w',X u u w'->p v w'
def XR(hi:ops[i]?=Y oi)(e:oi.op=.call {callee:=.value (.func fn),args:=xs,argTypes:=ts})(b:oi.dst=Y d)(g:Region.wanted oi (aw ops (fa n f).tmps)=true)(hB:X u u w)
  (h:Xs fn xs (fa n f) u w λv w'=>wpOps F ops Q rest (fa n (ah f d v)) w')(c:d<n:=by omega):wpOps F ops Q (i::rest) (fa n f) w:=
 let⟨_,_,ha,hf,hc,h⟩:=h;lC hi b c g (dm e ha rfl hf) hc λw' a=>h w' (hB.tn (a.mono hB.size))
def XS(_:L.getD j true=false)(hi:ops[j]?=Y oi)(g:oi.op=.call {callee:=.value (.func fn),args:=xs,argTypes:=ts})(c:oi.dst=Y d)(l:Region.wanted oi (aw ops (fa n f).tmps)=true)(hB:X u.heap.size u w)
  (h:Xs fn xs (fa n f) u w λv w'=>At (j+1) (wpAnyL F md ops (aR R) (λa=>X u.heap.size u a) late k (L.setIfInBounds j true) (fa n (ah f d v)) w'))(e:d<n:=by omega)(i:Region.ready md ops L=[j]:=by kernel_rfl):Ac j (wpAnyL F md ops (aR R) (λa=>X u.heap.size u a) late (k+1) L (fa n f) w):=
 let⟨_,_,ha,hf,hc,h⟩:=h;⟨tC i hi c e l (dm g ha rfl hf) hc λw' b=>⟨hB.tn (b.mono hB.size),(h w' (hB.tn (b.mono hB.size))).h⟩⟩
def kE(h:PH F fn args w λe w'=>e=.returned v/\w=w')(e:v=v'):PH F fn args w λe w'=>e=.returned v'/\X w w w':=h.mono λ_ _ h=>⟨e▸h.1,h.2▸X.refl _ _⟩
def kB(h:PH F fn args w λe w'=>e=.returned v/\X w w w')(e:v=v'):PH F fn args w λe w'=>e=.returned v'/\X w w w':=h.mono λ_ _ h=>⟨e▸h.1,h.2⟩
def ic(m:Nat){l:List Nat}{a:Act}(c:ops.size=m)(b:List.range m=l)(h:wpOps F ops Q l a w):Ly.wp F (.region id ops false) Q a w:=wF (by rw[c];exact b) h
def vB{a b:Bool}(h:a=b):M.bool a=.bool b:=h▸rfl
def vI{a b:Int}(h:a=b):M.int .i64 a=.int .i64 b:=h▸rfl
def Tn(hB:X u.heap.size u w){a:Act}(h:X u.heap.size u w.drew->At 0 (wpAnyL F .any ops Q (λb=>X u.heap.size u b) (λ_=>false) ops.size (Array.replicate ops.size false) a w.drew)):(Ly.region id ops true).wp F Q a w:=bK _ rR (h hB.drew).h
def XT{a:Act}(h:aR R .normal a w)(b:Region.ready md ops L=[]:=by kernel_rfl):Ac j (wpAnyL F md ops (aR R) (λc=>X u u c) late k L a w):=⟨cH b h k⟩
def Xt(h:Ac 0 p):At j p:=⟨h.h⟩
section
variable{a c:Int}
theorem Uw{k:Nat}{vs:Array M}(b:o.op=.extract x k)(c:Z x=.tuple vs)(a:vs[k]?=Y v):(Hn Z o).run F w=.ok (.value v) w:=by
 have hlt:=(ec.1 a).1;unfold Hn;simp only[b,c];simp[go_sem,hlt,(ec.1 a).2]
theorem Vw(b:o.op=.convert 5 3 x)(c:Z x=.int .u8 a)(h:0<=a/\a<=255)(e:yW (.int .i64 a) v):(Hn Z o).run F w=.ok (.value v) w:=by
 have ø:=0;exact Zq
theorem XY(d:o.op=.binOp .rem 3 x y 3)(f:Z x=.int .i64 a)(g:Z y=.int .i64 c)(b:0<=a/\a<=1000)(hc:0<c/\c<=1000)(e:yW (.int .i64 (a%c)) v):(Hn Z o).run F w=.ok (.value v) w:=by
 obtain⟨rfl⟩:=e;unfold Hn;simp only[d,f,g];go_simp;rw[qVB zz,Int.tmod_eq_emod_of_nonneg b.1]
theorem aak(b:o.op=.call {callee:=.builtin .min,args:= #[x,y],argTypes:= #[3,3]})(d:o.type=3)(f:Z x=.int .i64 a)(g:Z y=.int .i64 c)(e:yW (.int .i64 (min a c)) v):(Hn Z o).run F w=.ok (.value v) w:=by
 obtain⟨rfl⟩:=e;unfold Hn;simp only[b,ab,zM,f,g,d];go_simp;repeat (first|omega|split)
theorem Yi(b:o.op=.unOp .neg 3 x)(c:Z x=.int .i64 a)(h:Sm (-a))(e:yW (.int .i64 (-a)) v):(Hn Z o).run F w=.ok (.value v) w:=Zq
theorem aaJ(b:o.op=.build 115 #[(1,x)])(c:Z x=.int .i64 a)(e:yW (.agg #[.int .i64 0,.int .i64 a]) v):(Hn Z o).run F w=.ok (.value v) w:=by
 obtain⟨rfl⟩:=e;unfold Hn;simp only[b,zM,c];go_simp
theorem Yk{off:Nat}(b:o.op=.load 115 x)(d:Z x=.pointer (Y (g,off)))(f:w (g,off)=Y (.int .i64 a))(h:w (g,off+1)=Y (.int .i64 c))(e:yW (.agg #[.int .i64 a,.int .i64 c]) v):(Hn Z o).run F w=.ok (.value v) w:=by
 obtain⟨rfl⟩:=e;unfold Hn;simp only[b,d];go_simp
end
structure Qz(q:Prop):Prop where h:q
def Tw{p q:Prop}(d:q)(h:Qz q->p:=by intro hqq;(repeat (first|((first|refine XI rfl rfl ?_ hB ?_|refine XP rfl rfl rfl rfl ?_ hB ?_);(first|exact bY rfl|(refine eE rfl rfl ?_ ?_;omega;focus ((repeat (first|exact au _ _ _|assumption|refine Oh ?_));done)));refine⟨?_,λf e=>?_,?_⟩;rotate_left;focus ((first|refine bq (.inl rfl) ?_|refine bq (.inr rfl) ?_|(refine TH (g:=?_) (off:=?_) rfl rfl ?_ ?_;rotate_left 2)|(refine abe (g:=?_) (off:=?_) rfl rfl ?_ ?_;rotate_left 2)|(refine aa6 (r:=?_) rfl ?_ ?_;rotate_left 1)|(refine abc (r:=?_) (q:=?_) (p:=?_) rfl ?_ ?_ ?_ ?_;rotate_left 3)|(refine Vh (r:=?_) (q:=?_) (p:=?_) rfl ?_ ?_ ?_ ?_;rotate_left 3)|(refine Sr (a:=?_) (b:=?_) (r:=?_) rfl rfl ?_ ?_ ?_ ?_;rotate_left 3)|(refine j0 (r:=?_) rfl ?_ ?_;rotate_left 1)|(refine Vj (g:=?_) (off:=?_) (m:=?_) (cp:=?_) (k:=?_) rfl rfl ?_ ?_ ?_ ?_;rotate_left 5)|(refine Xp (g:=?_) (off:=?_) (m:=?_) (cp:=?_) (k:=?_) rfl ?_ ?_ ?_ ?_;rotate_left 5)|(refine SF (A:=?_) (m:=?_) (cp:=?_) rfl rfl rfl ?_ ?_;rotate_left 3)|(refine E4 (a:=?_) (b:=?_) rfl ?_ ?_ ?_ ?_;rotate_left 2)|(refine AW (a:=?_) (b:=?_) rfl ?_ ?_ ?_ ?_;rotate_left 2)|(refine gE (g:=?_) (B:=?_) rfl ?_ ?_ ?_;rotate_left 2)|(refine qM (g:=?_) (sh:=?_) (s:=?_) rfl ?_ ?_ ?_ ?_;rotate_left 3)|(refine Xo (g:=?_) (off:=?_) (h:=?_) (s:=?_) (r:=?_) rfl ?_ ?_ ?_ ?_ ?_;rotate_left 5)|(refine XM (a:=?_) (b:=?_) (c:=?_) rfl rfl ?_ ?_ ?_ ?_;rotate_left 3)|(refine Vw (a:=?_) rfl ?_ ?_ ?_;rotate_left 1)|(refine XY (a:=?_) (c:=?_) rfl ?_ ?_ ?_ ?_ ?_;rotate_left 2)|(refine aak (a:=?_) (c:=?_) rfl rfl ?_ ?_ ?_;rotate_left 2)|(refine Yi (a:=?_) rfl ?_ ?_ ?_;rotate_left 1)|(refine aaJ (a:=?_) rfl ?_ ?_;rotate_left 1)|(refine Uw (vs:=?_) rfl ?_ ?_;rotate_left;(focus (refine Ls ?_;(repeat (first|exact au _ _ _|assumption|refine Oh ?_));done));exact rfl)|(refine Yk (g:=?_) (off:=?_) (a:=?_) (c:=?_) rfl ?_ ?_ ?_ ?_;rotate_left 4));all_goals first|(refine Ls ?_;(repeat (first|exact au _ _ _|assumption|refine Oh ?_));done)|exact Tv|(refine(qWB rfl).tn ?_;first|(refine Ls ?_;(repeat (first|exact au _ _ _|assumption|refine Oh ?_));done)|exact Tv)|(refine(qVB Bool.false_ne_true).tn ?_;first|(refine Ls ?_;(repeat (first|exact au _ _ _|assumption|refine Oh ?_));done)|exact Tv)|assumption|(refine Eq.tn (Below.cell (B:=?_) (w:=?_) ?_ ?_) ?_;rotate_left 2;assumption;assumption;assumption)|(refine Eq.tn (Below.block (B:=?_) (w:=?_) ?_ _ ?_) ?_;rotate_left 2;assumption;assumption;assumption)|(refine dT ?_ ?_;omega;exact rfl)|(refine dF ?_ ?_;omega;exact rfl)|(unfold Sm;omega)|omega|exact vq|exact XH))|((first|refine XJ rfl rfl ?_ ?_|refine XQ rfl rfl rfl ?_ hB ?_);(focus refine jc rfl rfl ?_ ?_;omega;(repeat (first|exact au _ _ _|assumption|refine Oh ?_));done))|refine XO rfl ?_));exact hqq.h):p:=h ⟨d⟩
def rr(h:p:=by((first|(refine Tn hB ?_;intro hB)|refine ic 1 rfl rfl ?_|refine ic 2 rfl rfl ?_|refine ic 3 rfl rfl ?_|refine ic 4 rfl rfl ?_|refine ic 5 rfl rfl ?_|refine ic 6 rfl rfl ?_|refine ic 7 rfl rfl ?_|refine ic 8 rfl rfl ?_|refine ic 9 rfl rfl ?_|refine ic 10 rfl rfl ?_|refine ic 11 rfl rfl ?_|refine ic 12 rfl rfl ?_|refine ic 13 rfl rfl ?_|refine ic 14 rfl rfl ?_|refine ic 15 rfl rfl ?_|refine ic 16 rfl rfl ?_|refine ic 17 rfl rfl ?_|refine ic 18 rfl rfl ?_|refine ic 19 rfl rfl ?_|refine ic 20 rfl rfl ?_|refine ic 21 rfl rfl ?_|refine ic 22 rfl rfl ?_|refine ic 23 rfl rfl ?_|refine ic 24 rfl rfl ?_|refine ic 25 rfl rfl ?_|refine ic 26 rfl rfl ?_|refine ic 27 rfl rfl ?_|refine ic 28 rfl rfl ?_|refine ic 29 rfl rfl ?_|refine ic 30 rfl rfl ?_|refine ic 31 rfl rfl ?_|refine ic 32 rfl rfl ?_|refine ic 33 rfl rfl ?_);refine Tw ?_;(try refine Xt ?_);(repeat (first|(((first|refine XR rfl rfl rfl ?_ hB ?_|refine XS rfl rfl rfl rfl ?_ hB ?_);(first|exact bY rfl|(refine eE rfl rfl ?_ ?_;omega;focus ((repeat (first|exact au _ _ _|assumption|refine Oh ?_));done)));refine⟨?_,?_,?_,?_,?_,λe hB=>?_⟩;rotate_left 2;(focus ((first|(refine XF (a:=?_) ?_;rotate_left 1)|(refine MJ (a:=?_) (b:=?_) ?_ ?_;rotate_left 2)|(refine MK (a:=?_) (b:=?_) (c:=?_) ?_ ?_ ?_;rotate_left 3)|(refine XG (a:=?_) (b:=?_) (c:=?_) (d:=?_) ?_ ?_ ?_ ?_;rotate_left 4));all_goals first|(refine Ls ?_;(repeat (first|exact au _ _ _|assumption|refine Oh ?_));done)|exact Tv));exact rfl;(first|exact hc _ hB|exact hcon _ hB|exact hcon2 _ hB|exact hcon3 _ hB|((first|refine kE (bz _ _ _ _) ?_|(refine kB (rH _ _ ?_ ?_ _) ?_;assumption;assumption)|(refine kB (rI _ _ ?_ _) ?_;assumption));(first|(refine vB (b:=?_) ?_;rotate_left;assumption)|(refine vI (b:=?_) ?_;rotate_left;assumption)|exact rfl))));refine Tw ?_;(try refine Xt ?_))|refine adc rfl ?_));(first|refine XT ?_|refine lE ?_);refine Rs.mk hB (λi hi=>?_) ?_;(focus ((repeat (refine(cu _ _ ?_).tn ?_;omega));exact rfl));(first|exact rfl|exact⟨rfl,rfl⟩|exact⟨rfl,rfl,rfl⟩|exact qYB|(simp;done)))):p:=h
def bn{x y:Ly}(u:H)(keep:Nat->Prop)(p:(Nat->M)->Prop)(h:Ly.wp F x (aR (Rs N u f keep p)) (fa N f) w)(next:∀f' w',X u u w'->(∀i,keep i->f' i=f i)->p f'->Ly.wp F y Q (fa N f') w'):Ly.wp F (.seq x y) Q (fa N f) w:=
 wp_seq (wp_mono h λe a w' d=>by
  obtain⟨rfl,f',rfl,b,h2,c⟩:=d.elim;exact next f' w' b h2 c)
def To{x:Ly}(u:H)(keep:Nat->Prop)(p:(Nat->M)->Prop)(h:Ly.wp F x (aR (Rs N u f keep p)) (fa N f) w)(next:∀f' w',X u.heap.size u w'->(∀i,keep i->f' i=f i)->p f'->Q .normal (fa N f') w'):Ly.wp F x Q (fa N f) w:=
 wp_mono h λe a w' d=>by
  obtain⟨rfl,f',rfl,b,h2,c⟩:=d.elim;exact next f' w' b h2 c
variable{l:List (Int×Int)}{keep:Nat->Prop}{p:(Nat->M)->Prop}{x y:Ly}{b:aC}
def Ni{n t k:Nat}{f:Nat->M}(h:t<n)(e:f t=.int .i64 k):(intOf ((fa n f).tmps.getD t D)).toNat=k:=by
 rw[Array.getD_eq_getD_getElem?,ej h,e];simp[intOf]
def Lp(N:Nat)(u:H)(f:Nat->M)(R:Int)(e:Exit)(a:Act)(w:H):Prop:=(e=.normal/\R=0/\∃f',a=fa N f'/\X u u w/\f' 1=f 1)\/(e=.ret/\R≠0/\∃f',a=fa N f'/\X u u w/\f' 2=.int .i64 R)
def TK(a3:aK u g 31 b)(a4: -1000<=b.S)(a5:b.S<=1000)(K:f 1=(g,0))(a2:g<u)(x10:u (g,10)=Y (.slice b.U.A b.U.n b.U.c))(C:bp u b.U l)(h4:f 4=.int .i64 (0:Nat))(hB:X u u w):
  Ly.wp F (.block 0 (.loop ux)) (Lp 119 u f (nD b.S l)) (fa 119 f) w:=by
 have ø:=0;exact sT
def TL(x6:u (g,6)=Y (.int .i64 b.rf))(a9:2<=b.rf)(a':b.rf<=30)(x9:u (g,9)=Y (.int .i64 b.ch))(K:f 1=(g,0))(a2:g<u)(x11:u (g,11)=Y (.slice b.E.A b.E.n b.E.c))(C:bp u b.E l)(h5:f 5=.int .i64 (0:Nat))(hB:X u u w):
  Ly.wp F (.block 2 (.loop uy)) (Lp 119 u f (nF b.rf b.ch l)) (fa 119 f) w:=by
 have å:=0;exact sT
def TM{l:List (Int×Int×Bool)}(a3:aK u g 31 b)(a0:b.U.n<=1000)(a4: -1000<=b.S)(a5:b.S<=1000)(K:f 1=(g,0))(a2:g<u)(x12:u (g,12)=Y (.slice b.W.A b.W.n b.W.c))(C:fL u b.W l)(h6:f 6=.int .i64 (0:Nat))(hB:X u u w):
  Ly.wp F (.block 4 (.loop za)) (Lp 119 u f (qi b.S b.U.n l)) (fa 119 f) w:=by
 have æ:=0;exact sT
variable{x:ae}
theorem B8{b:aC}(c:o.op=.box 31 x)(a:Z x=b.v):(Hn Z o).run F w=.ok (.value (.pointer (Y (w.heap.size,0)))) (w.alloc (aE b 31)):=by
 unfold aC.v at a;unfold Hn;simp only[c,a];unfold aE;go_simp;try rfl
def ZO{f:Nat->M}{r:Int}{w:H}(h:f 2=r):(results Tryz.f24 (fa 119 f).tmps).run F w=.ok (.int .i64 r) w:=by
 have e:(fa 119 f).tmps[2]?=Y (.int .i64 r):=by rw[ej zz,h]
 generalize(fa 119 f).tmps=A at e;unfold results Tryz.f24;simp[e]
def mm(b:aC)(l:bN)(w:H)(j:aI w b l):
  PH F 24 #[b.v] w λe w'=>e=.returned (.int .i64 (ay b l))/\X w w w':=by
 refine gy 119 Tryz.func24 (c:=fG) rfl rfl λf a2=>?_;have f0:f 0=b.v:=a2 _;clear a2;rw[ML];refine wp_seq (wF (l:=[0,1]) rfl ?_);refine lV (d:=1) (.pointer (Y ⟨w.heap.size,0,I⟩)) rfl rfl zz wnn (B8 rfl (ag (t:=0) zz f0)) ?_;refine lV (d:=2) (.int .i64 0) rfl rfl zz wnn (bq (.inr rfl) rfl) ?_;refine lE ?_;have x:aK (w.alloc (aE b 31)) w 31 b:=Sp _ _;have B:X w w (w.alloc (aE b 31)):=(X.refl _ _).alloc (qN _) _;have a6:(w.alloc (aE b 31)).heap.size=w.heap.size+1:=aa _ _;have j:=j.below B;have e1:ah (ah f 1 (.pointer (Y (w.heap.size,0)))) 2 (.int .i64 0) 1=.pointer (Y (w.heap.size,0)):=rfl;generalize ah (ah f 1 (.pointer (Y ⟨w.heap.size,0,I⟩))) 2 (.int .i64 0)=f1 at e1|-;generalize w.alloc (aE b 31)=u at x B a6 j|-;have E:(w:Nat)<u:=zz;generalize P:w.heap.size=g at e1 x E;have hB:X u u u:=X.refl _ _;have n:∀{f' w'},X u u w'->∀{r},f' 2=.int .i64 r->ay b l=r->bodyPost F Tryz.f24 (λe w'=>e=.returned (.int .i64 (ay b l))/\X g w w') .ret (fa 119 f') w':=λhB r h2 k=>by
  subst k;exact bd (v:=.int .i64 (ay b l)) (ZO h2) rfl ⟨rfl,P▸B.tn (hB.mono B.size)⟩
 obtain⟨r,k⟩:∃r,dZ b l.C=r:=⟨_,rfl⟩;have hc:=λw1 (h:X u.heap.size u w1)=>kB (Ic b l.C w1 (j.C.below h)) (vI k);refine wp_seq (bn u (λi=>i<7/\i≠3) (λf'=>f' 3=.int .i64 r) rr λf2 w2 hB k2 q2=>?_);have e1:=(k2 1 zz).tn e1;clear hc;cases K:(r != 0);rotate_left
 .refine bn u (· < 7) (λf'=>f' 10=.bool true) rr λf3 V hB p o=>wp_cond_true (ag zz o) ?_;have e3:=(p 3 zz).tn q2;refine bn u (λi=>i<7/\i≠2) (λf'=>f' 2=.int .i64 r) rr λW w4 hB R z=>wp_ret ?_;refine n hB z ?_;have C:r≠0:=by simpa using K
  rw[<- k]at C|-;unfold dZ at C|-;unfold ay;split
  .rfl
  .rename_i P;rw[qVB P]at C;rw[qWB C]
 .have a5:r=0:=by simpa using K
  refine bn u (· < 7) (λf'=>f' 10=.bool false) rr λf3 V hB p o=>wp_cond_false (ag zz o) (wp_skip ?_);have e1:=(p 1 zz).tn e1;rw[a5]at k;clear k2 p q2 o K;have Q:cA b l.C=0:=by
   by_cases h:cA b l.C=0
   .exact h
   .unfold dZ at k;rw[qWB h]at k;exact mi k h
  have a1:cZ b=0:=by unfold dZ at k;rw[qVB (by simp[Q])]at k;exact k
  obtain⟨t1,t2,t3,t4,t5,t6,t7,t8,t9,b4,b5⟩:=cS Q;obtain⟨u1,u2,u3,u4,u5,u6,u7,u8,u9⟩:=wL a1;have HK:ay b l=if fH b.S l.U≠0 then fH b.S l.U else if fT b.rf b.ch l.E≠0 then fT b.rf b.ch l.E else ki b.S l.U.length l.W:=by
   rw[ay,qVB (by simp[Q]),qVB (by simp[a1])]
  obtain⟨x0,x1,x2,x3,x4,x5,x6,x7,x8,x9,a7,a8,a9⟩:=aM x;have O:b.U.n=l.U.length:=j.U.1;have b1:l.U.length<=1000:=j.U.2.2.1;have a0:b.E.n=l.E.length:=j.E.1;have b3:b.W.n=l.W.length:=j.W.1;refine wp_seq ?_;cases hF:ax (b.U.n:Nat) 1 4
  .refine bn u (· < 7) (λf'=>f' 16=.bool true) rr λf3 V hB p o=>wp_cond_true (ag zz o) ?_;refine bn u (λi=>i<7/\i≠2) (λf'=>f' 2=.int .i64 2) rr λW w4 hB R z=>wp_ret (n hB z ?_);have:fH b.S l.U=2:=by rw[fH,<- O,qVB (by simp[hF])]
   rw[HK,this];rfl
  .refine bn u (· < 7) (λf'=>f' 16=.bool false) rr λf3 V hB p o=>wp_cond_false (ag zz o) (wp_skip ?_);have e1:=(p 1 zz).tn e1;have a3:fH b.S l.U=nD b.S l.U:=by rw[fH,<- O,qWB hF]
   rw[a3]at HK;refine wp_seq (bn u (λi=>i<7/\i≠4) (λf'=>f' 4=.int .i64 0) rr λW w4 hB R z=>?_);have e1:=(R 1 zz).tn e1;refine wp_mono (TK x zz zz e1 E a7 j.U z hB) λe a w5 y=>?_;rcases y with⟨rfl,L,f5,rfl,hB,S⟩|⟨rfl,L,f5,rfl,hB,S⟩;rotate_left
   .exact n hB S (by rw[HK,qWB L])
   have e1:=S.tn e1;rw[qVB (by simp[L])]at HK;refine wp_seq ?_;by_cases a':3<b.E.n
   .refine bn u (· < 7) (λf'=>f' 44=.bool true) rr λf6 w6 hB k6 T=>wp_cond_true (ag zz T) ?_;refine bn u (λi=>i<7/\i≠2) (λf'=>f' 2=.int .i64 2) rr λA G hB q m=>wp_ret (n hB m ?_);have:fT b.rf b.ch l.E=2:=by rw[fT,qWB zz]
    rw[HK,this];rfl
   .refine bn u (· < 7) (λf'=>f' 44=.bool false) rr λf6 w6 hB k6 T=>wp_cond_false (ag zz T) (wp_skip ?_);have e1:=(k6 1 zz).tn e1;have a4:fT b.rf b.ch l.E=nF b.rf b.ch l.E:=by rw[fT,qVB zz]
    rw[a4]at HK;refine wp_seq (bn u (λi=>i<7/\i≠5) (λf'=>f' 5=.int .i64 0) rr λA G hB q m=>?_);have e1:=(q 1 zz).tn e1;refine wp_mono (TL x6 zz zz x9 e1 E a8 j.E m hB) λe a w8 y=>?_;rcases y with⟨rfl,N,J,rfl,hB,s⟩|⟨rfl,N,J,rfl,hB,s⟩;rotate_left
    .exact n hB s (by rw[HK,qWB N])
    have e1:=s.tn e1;rw[qVB (by simp[N])]at HK;refine wp_seq ?_;by_cases b2:4<b.W.n
    .refine bn u (· < 7) (λf'=>f' 91=.bool true) rr λf9 w9 hB k9 U=>wp_cond_true (ag zz U) ?_;refine bn u (λi=>i<7/\i≠2) (λf'=>f' 2=.int .i64 2) rr λA G hB q m=>wp_ret (n hB m ?_);rw[HK,ki,qWB zz]
    .refine bn u (· < 7) (λf'=>f' 91=.bool false) rr λf9 w9 hB k9 U=>wp_cond_false (ag zz U) (wp_skip ?_);have e1:=(k9 1 zz).tn e1;rw[ki,qVB zz,<- O]at HK;refine wp_seq (bn u (λi=>i<7/\i≠6) (λf'=>f' 6=.int .i64 0) rr λA G hB q m=>?_);have e1:=(q 1 zz).tn e1;refine wp_mono (TM x zz zz zz e1 E a9 j.W m hB) λe a w8 y=>?_;rcases y with⟨rfl,Z,J,rfl,hB,s⟩|⟨rfl,Z,J,rfl,hB,s⟩;rotate_left
     .exact n hB s HK
     refine bn u (λi=>i<7/\i≠2) (λf'=>f' 2=.int .i64 0) rr λA G hB q m=>wp_ret (n hB m ?_);rw[HK,Z]
variable{p:Prop}{B g9:Nat}{L ds:List Int}{y:ae}{sh s0 a c i at_ stp hour:Int}{d s:Sl}{v0 v1:M}{w0:H}{l:bN}{f':Nat->M}
def pL(h:p:=by first|(refine Ls ?_;(repeat (first|exact au _ _ _|assumption|refine Oh ?_));done)|exact rfl):p:=h
def QA(h:p:=by(repeat (refine(cu _ _ ?_).tn ?_;omega));exact rfl):p:=h
def ES(w:H)(B:Nat)(v:M)(L:List Int):Prop:=∃A c,v=.slice A L.length c/\w.ownsRow B 3 1 (.slice A L.length c) L.length (L.map (M.int .i64))
def ab9(h:w.ownsRow B 3 1 v L.length (L.map (M.int .i64))):ES w B v L:=by
 obtain⟨A,c,rfl⟩:=tK h;exact⟨A,c,rfl,h⟩
def ES.up{w w':H}(h:ES w B v L)(a:X w w w'):ES w' B v L:=let⟨A,c,h1,h2⟩:=h;⟨A,c,h1,rK h2 a⟩
def ES.ints(h:ES w B v L)(a:L.length<=1000):∃s:Sl,v=.slice s.A s.n s.c/\aN w s L:=by
 obtain⟨A,c,rfl,h2⟩:=h;exact⟨⟨A,L.length,c⟩,rfl,Jf h2 rfl a⟩
theorem acd(a:o.op=.alloc 36):(Hn Z o).run F w=.ok (.value (.pointer (Y (w.heap.size,0)))) (w.alloc (MZ 0 (.slice I 0 0))):=by
 unfold Hn;simp only[a];go_simp;try rfl
theorem ace(a:o.op=.alloc 23):(Hn Z o).run F w=.ok (.value (.pointer (Y (w.heap.size,0)))) (w.alloc (.cells #[.int .i64 0,.int .i64 0] 23)):=by
 unfold Hn;simp only[a];go_simp;try rfl
theorem acf(e:o.op=.store 36 x y)(f:Z x=.pointer (Y (g,0)))(b:Z y=aF sh d)(h:w.heap[g]?=Y (MZ s0 v0)):(Hn Z o).run F w=.ok .skip ((w.setCell (g,0) (.int .i64 sh)).setCell (g,1) (.slice d.A d.n d.c)):=mj
theorem acg(e:o.op=.store 23 x y)(f:Z x=.pointer (Y (g,0)))(b:Z y=.agg #[.int .i64 a,.int .i64 c])(h:w.heap[g]?=Y (.cells #[v0,v1] 23 (0,0))):(Hn Z o).run F w=.ok .skip ((w.setCell (g,0) (.int .i64 a)).setCell (g,1) (.int .i64 c)):=by
 have ø:=0;exact mj
structure Rz(w0:H)(b:aC)(l:bN)(sh:Int)(d:Sl)(ds:List Int)(g9:Nat)(i at_:Int)(f:Nat->M)(w:H):Prop where
 low:X w0 w0 w
 bx:aK w w0.heap.size 31 b
 st:w.heap[g9]?=Y (MZ sh (.slice d.A d.n d.c))
 lt:w0.heap.size<g9
 bk:aI w b l
 dt:aN w d ds
 ck:aD w
 e4:f 4=(w0.heap.size,0)
 e9:f 9=(g9,0)
 e10:f 10=i
 e11:f 11=at_
def Rz.go(h:Rz w0 b l sh d ds g9 i at_ f w)(hB:X w w w')(k:∀j,j<12->f' j=f j):Rz w0 b l sh d ds g9 i at_ f' w':=
 ⟨h.low.tn (hB.mono h.low.size),(hB.block _ h.bx.lt).tn h.bx,(hB.block _ (ec.1 h.st).1).tn h.st,h.lt,h.bk.below hB,h.dt.below hB,h.ck.below hB,(k 4 zz).tn h.e4,(k 9 zz).tn h.e9,(k 10 zz).tn h.e10,(k 11 zz).tn h.e11⟩
def Rz.all(h:Rz w0 b l sh d ds g9 i at_ f w):X w w w/\(w0:Nat)<w/\g9<w.heap.size/\w (g9,0)=Y (.int .i64 sh)/\w (g9,1)=Y (.slice d.A d.n d.c):=⟨X.refl _ _,h.bx.lt,(ec.1 h.st).1,kV h.st⟩
def rzq{c p:Prop}(hc:c)(q:Qz c->p:=by(intro hqq;have hcon:=hqq.h;obtain⟨hB,f,i,j,k⟩:=h.all;have g:=h.bx;have d:=h.e4;have e:=h.e9;have a:=h.e10;have b:=h.e11;exact rr)):p:=q ⟨hc⟩
def Rw(w:H)(f:Nat->M)(keep:Nat->Prop)(p:(Nat->M)->H->Prop)(a:Act)(w':H):Prop:=∃f',a=fa 236 f'/\X w w w'/\(∀j,keep j->f' j=f j)/\p f' w'
def Rz.row(h:Rz w0 b l sh d ds g9 i at_ f w)(a:w'.ownsRow w 3 1 v L.length (L.map (M.int .i64))):ES w' w0 v L:=ab9 (dy (q5A h.bx.lt) a)
def Rn(w:H)(p:List Int×Int)(v:M)(w':H):Prop:=∃A c,v=.tuple #[.slice A p.1.length c,.int .i64 p.2]/\w'.ownsRow w.heap.size 3 1 (.slice A p.1.length c) p.1.length (p.1.map (M.int .i64))/\X w w w'
def rzr{P:Program}{fn:FuncId}{args:Array Value}{E:Value->World->Prop}{p q:Prop}(hc:Calls P fn args w λe w'=>∃v,e=.returned v/\E v w')(b:q)(k:Qz (Calls P fn args w λe w'=>∃v,e=.returned v/\E v w')->Qz q->p:=by(intro a hqq;obtain⟨hB,i,l,m,n⟩:=h.all;have j:=h.bx;have f:=h.e4;have g:=h.e9;have c:=h.e10;have d:=h.e11;(first|refine ic 5 rfl rfl ?_|refine ic 7 rfl rfl ?_|refine ic 9 rfl rfl ?_|refine ic 10 rfl rfl ?_);refine Tw ?_;refine lR rfl rfl zz wnn (dm rfl (by first|exact XF pL|exact MJ pL pL|exact MK pL pL pL) rfl rfl) a.h ?_;exact hqq.h)):p:=k ⟨hc⟩ ⟨b⟩
def acZ(hc:ay b l=0)(u:aI w0 b l)(B:Ca w0 s)(hB:X w0 w0 w)(h:aK w w0 31 b)(e1:f 1=.slice s.A s.n s.c)(J:f 4=(w0.heap.size,0)):
  Ly.wp F (.region 3 acA false) (aR λa w'=>∃(f':Nat->M) (sh:Int) (ds:List Nat) (d:Sl) (g9:Nat),a=fa 236 f'/\X w0 w0 w'/\aK w' w0 31 b/\(∀j,j<35->j≠9->f' j=f j)/\f' 9=.pointer (Y (g9,0))/\w0.heap.size<g9/\w'.heap[g9]?=Y (MZ sh (.slice d.A d.n d.c))/\E7 b l sh ds/\aN w' d (ds.map λ(n:Nat)=>(n:Int))/\∀a,d.A=Y a->w0.heap.size<a.block) (fa 236 f) w:=by
 refine wF rfl ?_;refine lV b.v rfl rfl zz wnn (gE rfl pL h vq) ?_;refine lV (.slice s.A s.n s.c) rfl rfl zz wnn (bq (.inl rfl) pL) ?_;refine lR (E:=λv w'=>∃(sh:Int) (ds:List Nat) (d:Sl),v=aF sh d/\E7 b l sh ds/\d.n=ds.length/\w'.ownsRow w.heap.size 3 1 (.slice d.A d.n d.c) d.n (ds.map λ(n:Nat)=>.int .i64 (n:Int))/\X w.heap.size w w') rfl rfl zz wnn (dm rfl (MJ pL pL) rfl rfl) ((Yl b l s w hc (u.below hB) (B.below hB)).mono λe w' ⟨sh,ds,d,i,h2⟩=>⟨_,i,sh,ds,d,rfl,h2⟩) λv m ⟨sh,ds,d,C,r,z,c,k⟩=>?_;subst C;refine lV _ rfl rfl zz wnn (acd rfl) ?_;have o:(m.alloc (MZ 0 (.slice I 0 0))).heap[m.heap.size]?=Y (MZ 0 (.slice I 0 0)):=Sp _ _;obtain⟨i,h2⟩:=tR (.int .i64 sh) (.slice d.A d.n d.c) o;refine lS rfl rfl wnn (acf rfl pL pL o) ?_;have lt:=h.lt;have G:=k.size;have p:=(hB.tn (k.mono hB.size)).alloc (qO hB.size G) (MZ 0 (.slice I 0 0));have A:=dL (c.alloc (MZ 0 (.slice I 0 0))) λg q=>h2.block g (by have:=c.lt g q;simp;omega) (by have:=(c.lt g q).2;omega);have y:ds.length<=1000:=by have:=r.len;have:=(cS (bP hc).1).2.2.2.1;omega
 refine lE ⟨_,sh,ds,d,m.heap.size,rfl,p.tn (h2.below p.size λx h=>zz),(h2.block _ so zz).tn ((QR _ _ zz).tn ((k.block _ lt).tn h)),λj _ _=>QA,rfl,zz,i,r,Jf (by rw[List.map_map];exact A) (by rw[lj];exact z) (by rw[lj];exact y),λa t=>by have:=(c.lt a.block (by rw[t];rfl)).1;omega⟩
def ac0{ds:List Int}(hc:ay b l=0)(L: -3<=sh)(N:sh<=3)(o:aI w0 b l)(hB:X w0 w0 w)(i:aK w w0 31 b)(a2:w0.heap.size<g9)(r:w.heap[g9]?=Y (MZ sh (.slice d.A d.n d.c)))(z:aN w d ds)(R:∀a,d.A=Y a->w0.heap.size<a.block)(G:f 4=(w0.heap.size,0))(e9:f 9=(g9,0)):
  Ly.wp F (.region 4 acB false) (aR λa w'=>∃f' W,a=fa 236 f'/\X w0 w0 w'/\aK w' w0 31 {b with W:=W}/\(∀j,j<35->f' j=f j)/\w'.heap[g9]?=Y (MZ sh (.slice d.A d.n d.c))/\aI w' {b with W:=W} {l with W:=Cf b l sh ds l.W}/\aN w' d ds) (fa 236 f) w:=by
 obtain⟨y0,y1⟩:=kV r;refine wF rfl ?_;refine lV b.v rfl rfl zz wnn (gE rfl pL i vq) ?_;refine lV (aF sh d) rfl rfl zz wnn (qM rfl pL y0 y1 vq) ?_;refine lR (E:=λv w'=>∃W:Sl,v=({b with W:=W}:aC).v/\W.n=l.W.length/\w'.ownsRow w.heap.size 80 3 (.slice W.A W.n W.c) W.n ((Cf b l sh ds l.W).flatMap rO)/\X w.heap.size w w') rfl rfl zz wnn (dm rfl (MJ pL pL) rfl rfl) ((VA b l sh d ds w hc L N (o.below hB) z).mono λe w' ⟨W,K,h2⟩=>⟨_,K,W,rfl,h2⟩) λv w1 ⟨W,V,T,q,h⟩=>?_;subst V;have lt:=i.lt;have s1:=h.size;have B:=(h.block _ lt).tn i;obtain⟨t,c,f3⟩:=pq ({b with W:=W}:aC) B;refine lS rfl rfl wnn (rJ rfl (Ls (nt (nt (nt G)))) (Ls rfl) B).1 ?_;generalize uq w0.heap.size ({b with W:=W}:aC) w1=C at t c f3|-;have Z:=(ec.1 r).1;have m:=hB.tn (h.mono hB.size);have p:=o.below (m.tn (c.below m.size λx i=>zz));have O:X w0 w0 C:=m.tn (c.below m.size λx i=>zz);have a1:=o.W.2.2.1;have n:=z.below h;have P:=Bw (dL q λg A=>c.block g (q.lt g A).2 (by have:=(q.lt g A).1;omega)) (by rw[T];simp[Cf]) (by simp[Cf];omega);have S:aN C d ds:=by
  refine⟨n.1,n.2.1,n.2.2.1,λJ=>?_⟩;obtain⟨s,off,u,y,Q⟩:=n.2.2.2 J;exact⟨s,off,u,by rw[f3];exact y,λk hk=>(H.cell?_of_block (c.block s y (by have:=R _ u;dsimp only at this;omega))).tn (Q k hk)⟩
 have U:=(c.block _ zz zz).tn ((h.block _ Z).tn r);exact lE ⟨_,W,rfl,O,t,λj _=>QA,U,⟨p.C,p.U,p.E,P⟩,S⟩
def ac1(g:0<=stp/\stp<=255)(h2:0<=hour/\hour<=255)(h:0<b.S/\b.S<=1000)(i:0<b.U.n/\b.U.n<=1000)(a:aK w w0 31 b)(c:f 2=.int .u8 stp)(d:f 3=.int .u8 hour)(e:f 4=(w0.heap.size,0)):
  Ly.wp F (.region 5 acC true) (aR (Rs 236 w f (λj=>j<35/\j≠10/\j≠11) λf'=>f' 10=.int .i64 (stp%b.S)/\f' 11=.int .i64 (hour%b.U.n))) (fa 236 f) w:=by
 obtain⟨l,m,y2,q,y4,r,s,t,u,v,n,o,p⟩:=aM a;have hB:=X.refl w.heap.size w;have k:=a.lt;exact rr
def ac2(h:Rz w0 b l sh d ds g9 i at_ f w):
  Ly.wp F (.region 6 acD false) (aR (Rs 236 w f (λj=>j<35/\j≠12/\j≠13) λf'=>f' 12=.bool (dI b l sh ds).1/\f' 13=.int .i64 (dI b l sh ds).2)) (fa 236 f) w:=rzq λc a=>pE b l sh d ds c (h.bk.below a) (h.ck.below a) (h.dt.below a)
def ac3(h:Rz w0 b l sh d ds g9 i at_ f w)(hc:ay b l=0):
  Ly.wp F (.region 7 acE false) (aR (Rs 236 w f (λj=>j<35/\j≠14/\j≠15) λf'=>f' 14=.int .i64 (oK b l).1/\f' 15=.int .i64 (oK b l).2)) (fa 236 f) w:=rzq λc a=>vG b l c (h.bk.below a) (h.ck.below a) hc
def ac4(h:Rz w0 b l sh d ds g9 i at_ f w)(c:cP b l (ax i 0 (b.S-1))=0):
  Ly.wp F (.region 9 acG false) (aR (Rs 236 w f (λj=>j<35/\j≠18/\j≠19) λf'=>f' 18=.int .i64 (vH b l i).1/\f' 19=.int .i64 (vH b l i).2)) (fa 236 f) w:=rzq λe a=>Lr b l i e (h.bk.below a) (h.ck.below a) c
def acJ(h:Rz w0 b l sh d ds g9 i at_ f w)(c:cP b l (mW b at_ i)=0):
  Ly.wp F (.region 10 abV false) (aR (Rs 236 w f (λj=>j<35/\j≠20/\j≠21) λf'=>f' 20=.int .i64 (oQ b l at_ i).1/\f' 21=.int .i64 (oQ b l at_ i).2)) (fa 236 f) w:=rzq λe a=>ya b l at_ i e (h.bk.below a) (h.ck.below a) c
def acK(h:Rz w0 b l sh d ds g9 i at_ f w)(hc:ay b l=0):
  Ly.wp F (.region 14 abZ false) (aR (Rs 236 w f (λj=>j<35/\j≠29/\j≠30/\j≠31) λf'=>f' 29=.int .i64 (zV b l).1/\f' 30=.bool (zV b l).2.1/\f' 31=.int .i64 (zV b l).2.2)) (fa 236 f) w:=rzq λc a=>DZ b l c (h.bk.below a) (h.ck.below a) hc
def ac5(h:Rz w0 b l sh d ds g9 i at_ f w)(g:cP b l true=0):
  Ly.wp F (.region 8 acF false) (aR (Rw w f (λj=>j<35/\j≠16/\j≠17) λf' w'=>f' 17=.int .i64 (iM b l).2/\ES w' w0 (f' 16) (iM b l).1)) (fa 236 f) w:=by
 have ø:=0;exact oe
def acL(h:Rz w0 b l sh d ds g9 i at_ f w)(g:cP b l true=0):
  Ly.wp F (.region 12 abX false) (aR (Rw w f (λj=>j<35/\j≠25/\j≠26) λf' w'=>f' 26=.int .i64 (qq b l).2/\ES w' w0 (f' 25) (qq b l).1)) (fa 236 f) w:=oe
def acM(h:Rz w0 b l sh d ds g9 i at_ f w)(m:cP b l (ax at_ 0 (b.U.n-1))=0):
  Ly.wp F (.region 11 abW false) (aR (Rw w f (λj=>j<35/\j≠22/\j≠23/\j≠24) λf' w'=>f' 24=.int .i64 (DF b l at_).2.2/\ES w' w0 (f' 22) (DF b l at_).1/\ES w' w0 (f' 23) (DF b l at_).2.1)) (fa 236 f) w:=by
 refine rzr (E:=λv w'=>∃a c,v=.tuple #[a,c,.int .i64 _]/\ES w' w0.heap.size a _/\ES w' w0.heap.size c _/\X w.heap.size w w') ((Of b l at_ w h.bk h.ck m).mono λe w' ⟨a,c,g,h2,k⟩=>⟨_,g,a,c,rfl,h.row h2.2.2.1,h.row h2.2.2.2.1,k⟩) ?_;rintro v p ⟨a,c,rfl,n,o,hB⟩;refine Tw ?_;exact lE ⟨_,rfl,hB,λj _=>QA,rfl,n,o⟩
def acN(h:Rz w0 b l sh d ds g9 i at_ f w)(n:cP b l (ax i 0 (b.S-1))=0):
  Ly.wp F (.region 13 abY false) (aR (Rw w f (λj=>j<35/\j≠27/\j≠28) λf' w'=>∃g,f' 28=.int .i64 (qs b l i).2/\f' 27=.pointer (Y (g,0))/\w0.heap.size<=g/\w'.heap[g]?=Y (.cells #[.int .i64 (qs b l i).1.1,.int .i64 (qs b l i).1.2] 23 (0,0)))) (fa 236 f) w:=by
 refine rzr (E:=λv w'=>v=_/\X w.heap.size w w') ((Gr b l i w h.bk h.ck n).mono λe w' k=>⟨_,k.1,rfl,k.2⟩) ?_;rintro v a ⟨rfl,hB⟩;refine Tw ?_;refine lV _ rfl rfl zz wnn (ace rfl) ?_;have c:(a.alloc (.cells #[.int .i64 0,.int .i64 0] 23)).heap[a.heap.size]?=Y (.cells #[.int .i64 0,.int .i64 0] 23 (0,0)):=Sp _ _;obtain⟨m,h2⟩:=tR (.int .i64 (qs b l i).1.1) (.int .i64 (qs b l i).1.2) c;refine lS rfl rfl wnn (acg rfl pL pL c) ?_;have s0:=hB.size;have p:=h.bx.lt;have hB:=(hB.alloc s0 _).tn (h2.below so λx o=>zz);refine Tw ?_;exact lE ⟨_,rfl,hB,λj _=>QA,a.heap.size,rfl,rfl,zz,m⟩
variable{at_ p:Nat}
def acO(a:f 13=(0:Int))(b:f 15=(0:Int))(c:f 17=(0:Int))(d:f 19=(0:Int))(e:f 21=(0:Int))(g:f 24=(0:Int))(h:f 26=(0:Int))(i:f 28=(0:Int))(k:f 31=(0:Int)):
  Ly.wp F (.region 15 ab0 false) (aR (Rs 236 w f (λj=>j<35) λf'=>f' 142=.bool false)) (fa 236 f) w:=by
 have hB:=X.refl w.heap.size w;refine wF rfl ?_;refine Tw ?_;exact lE (Rs.mk hB (λj l=>QA) rfl)
def ach(hc:ay b l=0)(f: -3<=sh)(g:sh<=3){k n:Nat}(hk:k<l.U.length)(a:(n:Int)<b.S)(h:aN w d ds)(i:aI w b l):
  PH F 18 #[b.v,aF sh d,.int .i64 k,.int .i64 n] w λe w'=>e=.returned (.bool (oN b l (sh,eM ds) k n))/\X w w w':=by
 obtain⟨j,m,t,u,o,p,-⟩:=cS (bP hc).1;obtain⟨c,q,r,s⟩:=kP (bP hc).2.2.1 k hk;have:=P3 b j m o p sh f g d ds l.U k hk (l.U.getD k (0,0)).1 (l.U.getD k (0,0)).2 rfl c q r s n a w h i.U;rw[abU c a]at this;exact this
def acP(hc:ay b l=0)(p: -3<=sh)(q:sh<=3)(a:at_<l.U.length)(h:Rz w0 b l sh d ds g9 i at_ f w):
  Ly.wp F (.region 17 ab1 false) (aR (Rw w f (λj=>j<35/\j≠32) λf' w'=>ES w' w0 (f' 32) (ie (oN b l (sh,eM ds) at_) b.S.toNat))) (fa 236 f) w:=by
 obtain⟨s,t,G,J,u,x,-⟩:=cS (bP hc).1;obtain⟨k,y,z,B⟩:=kP (bP hc).2.2.1 at_ a;have g:=TT b s t u x sh p q d ds l.U at_ a (l.U.getD at_ (0,0)).1 (l.U.getD at_ (0,0)).2 rfl k y z B w h.dt h.bk.U;rw[onS λn C=>abU k zz]at g;refine rzr (E:=λv w'=>ES w' w0.heap.size v _/\X w.heap.size w w') (g.mono λe w' ⟨A,c,m,h2,o⟩=>⟨_,m,h.row h2,o⟩) ?_;rintro v K ⟨r,hB⟩;refine Tw ?_;exact lE ⟨_,rfl,hB,λj _=>QA,r⟩
def acQ:Ly.wp F (.region 18 ab2 false) (aR (Rs 236 w f (λj=>j<35/\j≠33) λf'=>f' 33=.int .i64 0)) (fa 236 f) w:=by
 have hB:=X.refl w.heap.size w;exact rr
def acR(hc:ay b l=0)(N: -3<=sh)(O:sh<=3)(T:(p:Int)<b.S)(h:Rz w0 b l sh d ds g9 p at_ f w)(o:f 33=(0:Int)):
  Ly.wp F (.seq (.region 19 ab3 false) (.block 0 (.loop QD))) (aR (Rs 236 w f (λj=>j<33) λf'=>f' 33=.int .i64 (pF b l (sh,eM ds) p l.U.length))) (fa 236 f) w:=by
 have a2:=h.bk.U.1;have a1:l.U.length<=1000:=h.bk.U.2.2.1;obtain⟨y0,y1,y2,y3,y4,y5,y6,y7,y8,y9,a6,a7,a8⟩:=aM h.bx;obtain⟨P,g0,a5,z0,z1⟩:=h.all;refine bn w (λj=>j<35/\j≠34) (λf'=>f' 34=.int .i64 0) (by have hB:=P;exact rr) λG C Q z U=>?_;refine wp_block (wp_loop (λa w'=>∃(k:Nat) (f':Nat->M),k<=l.U.length/\a=fa 236 f'/\(∀j,j<33->f' j=f j)/\f' 33=.int .i64 (pF b l (sh,eM ds) p k)/\f' 34=.int .i64 k/\X w.heap.size w w') (λa _=>l.U.length-(intOf (a.tmps.getD 34 D)).toNat) ⟨0,G,qT _,rfl,λj c=>z j zz,(z 33 zz).tn o,U,Q⟩ λa w2 R=>?_);obtain⟨k,J,hk,rfl,i,g,u,hB⟩:=R;have v:=(i 4 zz).tn h.e4;have x:=(i 9 zz).tn h.e9;have t:=(i 10 zz).tn h.e10;rw[Yn];by_cases hlt:k<l.U.length
 .refine wp_seq (bn w (λj=>j<35) (λf'=>f' 151=.bool true) rr λf3 W hB e q=>wp_cond_true (ag zz q) (wp_skip ?_));have v:=(e 4 zz).tn v;have x:=(e 9 zz).tn x;have t:=(e 10 zz).tn t;have g:=(e 33 zz).tn g;have E:=(e 34 zz).tn u;have hcon:=λC (y:X w.heap.size w C)=>ach hc N O hlt T (h.dt.below y) (h.bk.below y);have a4:=h.bx;refine bn w (λj=>j<35/\j≠33) (λf'=>f' 33=.int .i64 (pF b l (sh,eM ds) p (k+1))) (wp_block ?_) λL w5 hB n o=>?_
  .cases r:oN b l (sh,eM ds) k p;all_goals rw[r]at hcon
   .refine bn w (λj=>j<35) (λf'=>f' 158=.bool false) rr λK Z hB m s=>wp_cond_false (ag zz s) (wp_skip ?_);refine Rs.mk hB (λj c=>m j c.1) (((m 33 zz).tn g).tn ?_);unfold pF;rw[mV (show Tz b l (sh,eM ds) p k=false from r)]
   .refine bn w (λj=>j<35) (λf'=>f' 158=.bool true) rr λK Z hB m s=>wp_cond_true (ag zz s) ?_;have g:=(m 33 zz).tn g;have a3:pF b l (sh,eM ds) p k<=k:=kO _ _;refine To w (λj=>j<35/\j≠33) (λf'=>f' 33=.int .i64 (pF b l (sh,eM ds) p k+1)) rr λL w5 hB n V=>?_;refine Rs.mk hB (λj c=>(n j c).tn (m j c.1)) (V.tn ?_);unfold pF;rw[oG (show Tz b l (sh,eM ds) p k=true from r),kl,List.length_singleton];simp
  have u:=(n 34 zz).tn E;refine To w (λj=>j<35/\j≠34) (λf'=>f' 34=.int .i64 (k+1)) rr λf6 w6 hB A B=>?_;refine⟨⟨k+1,f6,hlt,rfl,λj c=>(A j zz).tn ((n j zz).tn ((e j zz).tn (i j c))),(A 33 zz).tn o,B.tn ss,hB⟩,?_⟩;rw[Ni (k:=k+1) zz (B.tn ss),Ni (k:=k) zz ‹J 34=_›];omega
 .have S:k=l.U.length:=zz;refine wp_seq (bn w (λj=>j<35) (λf'=>f' 151=.bool false) rr λf3 W hB e q=>wp_cond_false (ag zz q) (wp_exit ?_));exact Rs.mk hB (λj c=>(e j zz).tn (i j c)) ((e 33 zz).tn (S▸g))
section
variable{w:H}{B n:Nat}{v:M}
def TP{t ty e:Lk}{i:TypeInfo}{B n m:Nat}{xs:List M}(b:F.underlying t=Y (.slice e))(hi:F.info? e=Y i)(a:w.ownsRow B e n v m xs){A:Option Addr}{c:Nat}:(Builtin.append_ #[t,t] ty #[v,.slice A 0 c]).run F w=.ok v w:=by
 rcases a.2 with⟨rfl,rfl⟩|⟨g,d,f,rfl,_,_,h,_⟩<;>cases A<;>simp[Builtin.append_,run_underlying b,sizeOf,typeInfo,Builtin.lenOf,Builtin.firstCells,storeCells,loadCells,loadCellsFrom, *]
def TQ{xs L:List Int}{s:Sl}(c:w.ownsRow B 3 1 v xs.length (xs.map (M.int .i64)))(d:xs.length<=1000)(n:aN w s L)(hB:B<=w.heap.size):
  ∃v' w',(Builtin.append_ #[24,24] 24 #[v,.slice s.A s.n s.c]).run F w=.ok v' w'/\w'.ownsRow B 3 1 v' (xs++L).length ((xs++L).map (M.int .i64))/\w.grownBy w' v.ownBlock:=by
 obtain⟨i0,hi,p,q,r⟩:=info_parts vD;obtain⟨a,hc,y,l⟩:=n;by_cases f:L.length=0
 .have k:=List.length_eq_zero_iff.1 f;subst k;rw[a];refine⟨v,w,TP Tryz.underlying24 hi c,by rw[List.append_nil];exact c,?_⟩;exact⟨rfl,rfl,rfl,qN _,λ_ _ _=>rfl⟩
 .obtain⟨b,off,i,t,m⟩:=l zz;obtain⟨v',w',g,h2,h, -,-⟩:=gU w B 24 24 3 i0 (.int .i64 0) 1 8 Tryz.underlying24 hi p q r rfl dd v xs.length _ c ⟨b,off,I⟩ s.n s.c (L.map (M.int .i64)) (by simp[a]) (λj u e=>by
   rw[List.getElem?_map]at e;obtain⟨x,d,rfl⟩:=Option.map_eq_some_iff.1 e;have hlt:=(List.getElem?_eq_some_iff.1 d).1;have:=m j hlt;rw[show L.getD j 0=x by simp[List.getD,d]]at this;rw[show(⟨b,off,I⟩:Addr).add j=⟨b,off+j,I⟩ by unfold Addr.add;split<;>simp_all];exact this) (λu o=>by
   obtain⟨x, -, rfl⟩:=List.mem_map.1 o;rfl) (by unfold maxLen;omega) zz hB
  rw[i];refine⟨v',w',g,?_,h⟩;rw[kl,mr,<- a];exact h2
section
variable{Z:ae->M}{o:Kp}{w w':H}{x y:ae}{v u v':M}
def abp(a:o.op=.call {callee:=.builtin .append,args:= #[x,y],argTypes:= #[24,24]})(b:o.type=24)(c:Z x=v)(d:Z y=u)(h:(Builtin.append_ #[24,24] 24 #[v,u]).run F w=.ok v' w'):(Hn Z o).run F w=.ok (.value v') w':=by
 unfold Hn;simp only[a,b,ab,invoke,builtin,Sem.run_bind,Sem.run_pure,Result.andThen_ok,zM,c,d,h]
theorem aci(a:o.op=.buildSlice 24 0 #[]):(Hn Z o).run F w=.ok (.value (.slice (Y (w.heap.size,0)) 0 0)) (w.alloc (.cells #[] 3)):=by
 unfold Hn;simp only[a,zM];go_simp
end
def wgg{ops:Array Kp}{oi:Kp}{j n g:Nat}{t:Bool}{f:Nat->M}(b:oi.guard=Y (j,t))(c:(ops[j]?).bind (·.dst)=Y g)(a:f g=.bool t)(hlt:g<n:=by omega):Region.wanted oi (aw ops (fa n f).tmps)=true:=eE b c hlt a
def lcw{c p q:Prop}(hc:c)(b:q)(k:Qz c->Qz q->p:=by(intro a hqq;refine lC rfl rfl zz (wgg rfl rfl rfl) (dm rfl (by first|exact MJ pL pL|exact MJ pL (Ls rfl)) rfl rfl) a.h λd e=>?_;subst d;refine Tw ?_;exact hqq.h)):p:=k ⟨hc⟩ ⟨b⟩
section
variable{w0 w:H}{b:aC}{l:bN}{sh n u v at_:Int}{p:Nat}{d s16 s22 s23 s32:Sl}{ds LX LS LP LT:List Int}{g9:Nat}{f:Nat->M}
def acS(h:Rz w0 b l sh d ds g9 p at_ f w)(U:f 12=true)(V:f 14=n)(a8:1<=n)(W:f 16=.slice s16.A s16.n s16.c)(B:aN w s16 LX)(E:sh∈LX)(Z:f 18=u)(L:(decide (u=0)||(decide (u=1)==decide ((p:Int)∈ds)))=true)
  (a4:f 32=.slice s32.A s32.n s32.c)(e:aN w s32 LT)(a1:f 20=v)(N:(decide (v=0)||(decide (v=1)==decide ((p:Int)∈LT)))=true)(a2:f 22=.slice s22.A s22.n s22.c)(o:aN w s22 LS)(a3:f 23=.slice s23.A s23.n s23.c)(C:aN w s23 LP)
  (G:(LS.all λx=>decide (x∈LT))=true)(J:(LT.all λx=>decide (x∈LS++LP))=true)(a6:LS.length<=400)(a5:LP.length<=400):
  Ly.wp F (.region 24 ab8 false) (aR (Rs 236 w f (λj=>j<35) λf'=>f' 206=.bool false)) (fa 236 f) w:=by
 have e9:=h.e9;have T:=h.e10;obtain⟨hB,g0,a9,z0,z1⟩:=h.all;refine wF rfl ?_;refine Tw ?_;have a:=ze sh s16 LX w B;rw[decide_eq_true E]at a;refine lcw a ?_;refine lcw (ze p d ds _ h.dt) ?_;have a:=Tq u (decide ((p:Int)∈ds)) w;rw[L]at a;refine lcw a ?_;refine lcw (ze p s32 LT _ e) ?_;have a:=Tq v (decide ((p:Int)∈LT)) w;rw[N]at a;refine lcw a ?_;have a:=P5 s22 s32 LS LT _ o e;rw[G]at a;refine lcw a ?_;refine lV _ rfl rfl zz (wgg rfl rfl rfl) (aci rfl) ?_;have q:X w w (w.alloc (.cells #[] 3)):=(X.refl _ _).alloc (qN _) _;refine lV (.slice s22.A s22.n s22.c) rfl rfl zz (wgg rfl rfl rfl) (bq (.inl rfl) pL) ?_;have s:(w.alloc (.cells #[] 3)).ownsRow w 3 1 (.slice (Y (w.heap.size,0)) 0 0) ([]:List Int).length (([]:List Int).map (M.int .i64)):=⟨rfl,.inr ⟨_,0, #[],rfl,qN _,Sp _ _,qN _,qT _,rfl,rfl⟩⟩;obtain⟨Q,w1,O,m,y⟩:=TQ s ss (o.below q) ss;rw[List.nil_append]at m;have i:=mN q y (λg k=>(s.lt g k).1) (qN _);refine lV Q rfl rfl zz (wgg rfl rfl rfl) (abp rfl rfl (Ls rfl) (Ls rfl) O) ?_;refine lV (.slice s23.A s23.n s23.c) rfl rfl zz (wgg rfl rfl rfl) (bq (.inl rfl) pL) ?_;obtain⟨R,S,P,t,z⟩:=TQ m zz (C.below i) i.size;have r:=mN i z (λg k=>(m.lt g k).1) (qN _);refine lV R rfl rfl zz (wgg rfl rfl rfl) (abp rfl rfl (Ls rfl) (Ls rfl) P) ?_;obtain⟨A,c,rfl⟩:=tK t;have K:aN S ⟨A,(LS++LP).length,c⟩ (LS++LP):=Jf t rfl (by rw[kl];omega);have a:=P5 s32 _ LT _ _ (e.below r) K;rw[J]at a;have hB:=r;refine lcw a ?_;exact lE (Rs.mk hB (λj a7=>QA) rfl)
end
end
variable{S:Int}{d:List Int}{ds:List Nat}
def M1:∀{l:List Int} {p:Option Int},bS S p l=0->(∀x∈l,0<=x/\x<S/\∀y,p=Y y->y<x)/\l.Pairwise (· < ·)
 | [],_,_=>⟨λx b=>by simp at b,List.Pairwise.nil⟩
 | n::r,p,h=>by
  unfold bS at h;by_cases f:ax n 0 (S-1)=false
  .rw[qWB f]at h;cases h
  .rw[qVB f]at h;obtain⟨g,h⟩:(∀y,p=Y y->y<n)/\bS S (Y n) r=0:=by
    cases p with
    | none=>exact⟨λy e=>(by cases e),by simpa using h⟩
    | some y=>
     by_cases h2:n<=y
     .simp[h2]at h
     .exact⟨λz e=>(by cases e;omega),by simpa[h2]using h⟩
   rw[Bool.not_eq_false,cq]at f;obtain⟨i,j⟩:=M1 h;refine⟨λx b=>?_,List.pairwise_cons.2 ⟨λx b=>(i x b).2.2 n rfl,j⟩⟩;rcases dq.1 b with rfl|b
   .exact⟨f.1,zz,g⟩
   .obtain⟨a,c,d⟩:=i x b;exact⟨a,c,λy e=>by have:=g y e;have:=d n rfl;omega⟩
def QF:∀{l:List Int} {p:Option Int},(∀x∈l,0<=x/\x<S/\∀y,p=Y y->y<x)->l.Pairwise (· < ·)->bS S p l=0
 | [],_,_,_=>rfl
 | n::r,p,h,f=>by
  obtain⟨a,c,d⟩:=h n ss;obtain⟨g,i⟩:=List.pairwise_cons.1 f;unfold bS;rw[qVB (by rw[Bool.not_eq_false,cq];omega),qVB (by
   cases p with
   | none=>simp
   | some y=>have:=d y rfl;simp;omega)]
  exact QF (λx b=>⟨(h x (by simp[b])).1,(h x (by simp[b])).2.1,λy e=>by cases e;exact g x b⟩) i
def Rm:∀(S:Nat) (l:List Int),l.Nodup->(∀x∈l,0<=x/\x<S)->l.length<=S
 | 0,l,_,h=>by
  cases l with
  | nil=>simp
  | cons a r=>have:=h a ss;omega
 | S+1,l,b,h=>by
  have g:=List.length_eq_countP_add_countP (l:=l) (λx=>x==(S:Int));have h2:l.countP (λx=>x==(S:Int))<=1:=by
   have:l.count (S:Int)<=1:=List.nodup_iff_count.1 b _;exact this
  have c:=Rm S (l.filter λx=> !(x==(S:Int))) (b.filter _) λx d=>by
   obtain⟨f,m2⟩:=List.mem_filter.1 d;have:=h x f;simp at m2;omega
  rw[<- List.countP_eq_length_filter]at c;have e:l.countP (λx=> !(x==(S:Int)))=l.countP (λx=>decide ¬(x==(S:Int))=true):=List.countP_congr λx _=>by simp
  omega
abbrev IB(ds:List Nat):List Int:=ds.map λ(n:Nat)=>(n:Int)
def TS(h:E7 b l sh ds):bS b.S I (IB ds)=0:=QF (λx c=>by
  obtain⟨n,a,rfl⟩:=List.mem_map.1 c;exact⟨zz,(h.st n a).1,λy e=>by cases e⟩) (List.pairwise_map.2 (h.up.imp λd=>zz))
def Z6(hc:ay b l=0)(h:E7 b l sh ds):ds.length<=b.S.toNat-l.C.length:=by
 have o:=(cS (bP hc).1).2.2.2.2.2.2.2.2.2.2;obtain⟨g,i⟩:=M1 o;obtain⟨j,k⟩:=M1 (TS h);have p:=(cS (bP hc).1).1;have f:(l.C++IB ds).Nodup:=by
  rw[List.nodup_append];refine⟨i.imp λh=>zz,k.imp λh=>zz,λa m c hc e=>?_⟩;subst e;obtain⟨n,f,rfl⟩:=List.mem_map.1 hc;exact(h.st n f).2 m
 have:=Rm b.S.toNat _ f λx d=>by
  rcases nm.1 d with d|d
  .have:=g x d;omega
  .have:=j x d;omega
 rw[kl,lj]at this;omega
def VB(hc:ay b l=0)(W:Sl):fM {b with W:=W} {l with W:=Cf b l sh d l.W} (sh,eM d)=true:=by
 unfold fM oI;rw[Bool.not_eq_true',List.any_eq_false];intro x f;obtain⟨y,g,rfl⟩:=List.mem_map.1 f;obtain⟨k,hk,rfl⟩:=List.getElem_of_mem g;have a:=Gb (bP hc).2.2.2.2 k hk;rw[show l.W.getD k (0,0,false)=l.W[k] by simp[List.getD,iv hk]]at a;generalize l.W[k]=y at a;obtain⟨i,j,c,m⟩:=a;obtain⟨h,o,q,r⟩:=kP (bP hc).2.2.1 y.1.toNat zz;have e:=abU (S:=b.S) (L:=b.L) (sh:=sh) (d:=d) (p:=l.U.getD y.1.toNat (0,0)) (n:=y.2.1.toNat) h zz;rw[Int.toNat_of_nonneg c]at e;unfold jk Ym;dsimp only;rw[e];simp
def VC(hc:ay b l=0)(W:Sl):ay {b with W:=W} {l with W:=Cf b l sh d l.W}=0:=by
 obtain⟨g,f,n,k,e⟩:=bP hc;have i:ki b.S l.U.length (Cf b l sh d l.W)=0:=by
  have key:∀L,qi b.S l.U.length L=0->qi b.S l.U.length (Cf b l sh d L)=0:=λL=>by
   induction L with
   | nil=>exactλ_=>rfl
   | cons x r j=>
    obtain⟨a,s,q⟩:=x;intro h;unfold qi at h;show(if(ax a 0 (l.U.length-1)&&ax s 0 (b.S-1))=false then 6 else qi b.S l.U.length (Cf b l sh d r))=0;split at h
    .omega
    .rename_i c;rw[qVB c];exact j h
  unfold ki at e|-;rw[show(Cf b l sh d l.W).length=l.W.length by simp[Cf]];split at e
  .omega
  .rename_i c;rw[qVB c];exact key _ e
 have m:cA {b with W:=W} l.C=0:=g;have hc:cZ {b with W:=W}=0:=f;unfold ay;rw[qVB (by show¬cA {b with W:=W} l.C≠0;omega),qVB zz,qVB (by show¬fH b.S l.U≠0;omega),qVB (by show¬fT b.rf b.ch l.E≠0;omega)];exact i
def Xq{b:aC}{C:List Int}{most:Nat}(c:b.S<=12)(a:b.hi-b.lo<3)(d:most<=2):(gT b C most).length<=471:=by
 have h:=λk=>Ar C (S:=b.S.toNat) zz a k mI 0;have e:=h 0;have f:=h 1;have h2:=h 2;unfold gT tP;rcases(show most=0\/most=1\/most=2 by omega)with rfl|rfl|rfl<;>simp[List.range']<;>omega
structure Yo(b:aC)(l:bN)(sh:Int)(ds:List Nat)(p at_:Nat):Prop where
 is_:dI b l sh (IB ds)=(true,0)
 ask:∀q,q=true->cP b l q=0
 n:1<=(oK b l).1
 n0:(oK b l).2=0
 x:sh∈(iM b l).1
 x0:(iM b l).2=0
 xl:(iM b l).1.length<=1000
 u:(decide ((vH b l p).1=0)||(decide ((vH b l p).1=1)==decide ((p:Int)∈IB ds)))=true
 u0:(vH b l p).2=0
 v:(decide ((oQ b l at_ p).1=0)||(decide ((oQ b l at_ p).1=1)==decide ((p:Int)∈ie (oN b l (sh,eM (IB ds)) at_) b.S.toNat)))=true
 v0:(oQ b l at_ p).2=0
 i1:((DF b l at_).1.all λx=>decide (x∈ie (oN b l (sh,eM (IB ds)) at_) b.S.toNat))=true
 i2:((ie (oN b l (sh,eM (IB ds)) at_) b.S.toNat).all λx=>decide (x∈(DF b l at_).1++(DF b l at_).2.1))=true
 i0:(DF b l at_).2.2=0
 il:(DF b l at_).1.length<=400/\(DF b l at_).2.1.length<=400
 k:(p:Int)∈(qq b l).1->pF b l (sh,eM (IB ds)) p l.U.length=0
 k0:(qq b l).2=0
 kl:(qq b l).1.length<=400
 h:(qs b l p).1.1<=pF b l (sh,eM (IB ds)) p l.U.length/\(pF b l (sh,eM (IB ds)) p l.U.length:Int)<=(qs b l p).1.2
 h0:(qs b l p).2=0
 f:(zV b l).2.1=true
 f1:(zV b l).1<=ds.length
 f0:(zV b l).2.2=0
def aaj(hc:ay b l=0)(h:E7 b l sh ds)(k:fM b l (sh,eM (IB ds))=true):dI b l sh (IB ds)=(true,0):=by
 obtain⟨o,q,r,s,t,u,v,w,x,p,-⟩:=cS (bP hc).1;have m:=h.lo;have h2:=h.hi;have f:cN b.S sh (IB ds)=0:=by
  unfold cN;rw[qWB (cq.2 ⟨zz,zz⟩)];exact TS h
 unfold dI;rw[qVB (by simp[hc]),qVB (by simp[f])];have e1:min (max sh b.lo) b.hi=sh:=zz;have c:((IB ds).length:Int)<=b.D:=by rw[lj];exact h.len
 have a:nG (lJ (eM (IB ds)) l.C) (eM (IB ds))=true:=by
  have key:∀i:Nat,lJ (eM (IB ds)) l.C i=eM (IB ds) i:=λi=>by
   unfold lJ;cases j:eM (IB ds) i
   .rfl
   .obtain⟨n,g,e⟩:=List.mem_map.1 (of_decide_eq_true j);have:eM l.C i=false:=decide_eq_false (e▸(h.st n g).2);rw[this];rfl
  unfold nG;simp[key]
 have d:oI b.S b.L sh (eM (IB ds)) l.U l.W=true:=k;rw[decide_eq_true e1,a,decide_eq_true c,d];rfl
def Xu(hc:ay b l=0)(h:E7 b l sh ds)(u:fM b l (sh,eM (IB ds))=true)(t:(p:Int)<b.S)(E:at_<l.U.length)(a4:b.U.n=l.U.length)(T:l.U.length<=1000):Yo b l sh ds p at_:=by
 obtain⟨t1,t2,t3,t4,t5,t6,t7,t8,t9,a3,-⟩:=cS (bP hc).1;have c:(sh,eM (IB ds))∈aJ b l b.D.toNat:=XL h u;have L:aJ b l b.D.toNat≠[]:=λe=>by rw[e]at c;cases c
 have d:∀q,q=true->cP b l q=0:=λq Z=>by
  subst Z;unfold cP;rw[qVB (by simp[hc]),qVB ss,qVB L]
 have A:ax (p:Int) 0 (b.S-1)=true:=cq.2 ⟨zz,zz⟩;have Q:ax (at_:Int) 0 (b.U.n-1)=true:=cq.2 ⟨zz,zz⟩;have q3:mW b at_ p=true:=by unfold mW;rw[A,Q];rfl
 have P:oK b l=(((aJ b l b.D.toNat).length:Int),0):=by unfold oK;rw[qVB (by simp[hc])]
 have w:iM b l=(uN (aJ b l b.D.toNat),0):=by unfold iM;rw[qWB (d _ rfl)]
 have N:vH b l p=(lY (oP (λx=>x.2 p) (aJ b l b.D.toNat)) (aJ b l b.D.toNat).length,0):=by unfold vH;rw[qWB (d _ A)];rfl
 have m:∀k n:Nat,k<l.U.length->(n:Int)<b.S->assoc (fN b l) ((k:Int),(n:Int))=(oP (λx=>oN b l x k n) (aJ b l b.D.toNat):Int):=λk n hk a=>LC hc T k n hk zz;have J:oQ b l at_ p=(lY (oP (λx=>oN b l x at_ p) (aJ b l b.D.toNat)) (aJ b l b.D.toNat).length,0):=by unfold oQ;rw[qWB (d _ q3),m at_ p E t]
 have r:DF b l at_=(ie (sU (fN b l) (aJ b l b.D.toNat).length at_ 1) b.S.toNat,ie (sU (fN b l) (aJ b l b.D.toNat).length at_ 0) b.S.toNat,0):=by unfold DF;rw[qWB (d _ Q)]
 have o:qq b l=(ie (sw (fN b l) b.U.n) b.S.toNat,0):=by unfold qq;rw[qWB (d _ rfl)]
 have G:qs b l p=(yc b l p ((l.U.length:Nat),0) (aJ b l b.D.toNat),0):=by unfold qs;rw[qWB (d _ A)];rfl
 have B:∀n v:Nat,(n:Int)<b.S->sU (fN b l) (aJ b l b.D.toNat).length at_ v n=decide (lY (oP (λx=>oN b l x at_ n) (aJ b l b.D.toNat)) (aJ b l b.D.toNat).length=v):=λn v a=>by unfold sU;rw[m at_ n E a]
 have a1:=Xq (b:=b) (C:=l.C) (most:=b.D.toNat) t2 a3 zz;have a5:(aJ b l b.D.toNat).length<=471:=qO (nn _ _) a1;have s:∀f:Nat->Bool,(ie f b.S.toNat).length<=400:=λf=>by have:=kO f b.S.toNat;omega
 have K:∀n:Nat,(n:Int)<b.S->(decide ((n:Int)∈ie (oN b l (sh,eM (IB ds)) at_) b.S.toNat)=oN b l (sh,eM (IB ds)) at_ n):=λn a=>by
  rw[Bool.eq_iff_iff,decide_eq_true_iff,Iv];exact⟨λ⟨i,e,_,h⟩=>by
   have:n=i:=zz;exact this▸h,λh=>⟨n,rfl,zz,h⟩⟩
 refine⟨aaj hc h u,d,?_,by rw[P],?_,by rw[w],?_,?_,by rw[N],?_,by rw[J],?_,?_,by rw[r],?_,?_,by rw[o],?_,?_,by rw[G],?_,?_,?_⟩
 .rw[P];have:=List.length_pos_iff.2 L;show(1:Int)<=((aJ b l b.D.toNat).length:Int);omega
 .rw[w];exact Vv c
 .rw[w];have:=DN ((aJ b l b.D.toNat).map (·.1) |>.mergeSort λx y=>decide (x<=y));rw[List.length_mergeSort,lj]at this;show(uN _).length<=1000;unfold uN;omega
 .rw[N];rcases JG (λx=>x.2 p) c with e|e
  .rw[decide_eq_true e];rfl
  .rw[e];show(_||(eM (IB ds) p==decide _))=true;unfold eM;simp
 .rw[J,K p t];rcases JG (λx=>oN b l x at_ p) c with e|e
  .rw[decide_eq_true e];rfl
  .rw[e];simp
 .exact od
 .have ø:=0;exact od
 .rw[r];exact⟨s _,s _⟩
 .rw[o];intro U;obtain⟨n,e,a,g⟩:=Iv.1 U;obtain rfl:p=n:=zz;unfold sw Og at g;rw[List.all_eq_true]at g;unfold pF;rw[List.length_eq_zero_iff,List.eq_nil_iff_forall_not_mem];intro x z;obtain⟨k,rfl,hk,W⟩:=Iv.1 z;have R:=of_decide_eq_true (g k (List.mem_range'_1.2 ⟨zz,zz⟩));rw[m k p hk t]at R;have:0<oP (λx=>oN b l x k p) (aJ b l b.D.toNat):=List.length_pos_of_mem (List.mem_filter.2 ⟨c,W⟩);omega
 .rw[o];exact s _
 .rw[G];exact(Ux b l p (aJ b l b.D.toNat) ((l.U.length:Nat),0)).2.2 _ c
 all_goals
  obtain⟨y,a2,a6⟩:=Ov (S:=b.S.toNat) zz (k:=ds.length) (x:=(sh,eM (IB ds))) (by
   have:=Nj (S:=b.S.toNat) (C:=l.C) h.lo h.hi ds mI 0 h.up λn a=>⟨qT _,by have:=(h.st n a).1;omega,(h.st n a).2⟩;rw[Uv]at this;exact this) u (b.S.toNat-l.C.length+1) 0 (qT _) (by have:=Z6 hc h;omega)
  have V:WE b l=Y y:=a2;unfold zV;rw[qVB (by simp[hc]),V]
 show((ie y.2 12).length:Int)<=ds.length;omega
end Go.Proofs.YtgbibffickbalaaGreatDoor
namespace Go.Co
open Go.Conc
variable{P:Ps}{main:Bool}{Stop:(Nat->Prop)->(Nat->Prop)->QP->H->Prop}{T:gq}{w:H}
def cutAt:Nat->Ly->Ly
 | n+1,.seq a b=>.seq a (cutAt n b)
 | _,_=>.refuse "cut"
def RI:Nat->Ly->Ly
 | n+1,.seq _ b=>RI n b
 | _,c=>c
def Yp(T:gq)(P:Ps)(c:Nat->Kd):Nat->Ly->Bool
 | n+1,.seq a b=>ez T P c a&&Yp T P c n b
 | n,_=>n==0
def Uy{κ:Nat->Kd}:∀{n:Nat} {c:Ly},Yp T P κ n c=true->T.rest=RI n c->wC T P κ (cutAt n c) c
 | 0,c,_,d=>by
  have:c=T.rest:=by rw[d];cases c<;>rfl
  rw[this];have e:cutAt 0 T.rest=.refuse "cut" := by cases T.rest<;>rfl
  rw[e];exact .stop
 | n+1,c,h,d=>by
  cases c with
  | seq a b=>
   rw[Yp,du]at h;exact .seqR h.1 (Uy h.2 d)
  | _=>simp[Yp]at h
def aal{N:Nat}{ρ0 ρ1:Ren}{W0 w0:H}{V0 V O O0:Nat->Prop}{f:ba}{c c':Ly}{tm0 tm:Array M}{k:List Item}{cs:List Kf}{Q1:Array M->H->Prop}
  (a4:∀f,T.has f=true->dX T P f=true)(hc:wC T P (T.kind f) c c')(a2:ir T P N V0 O0 w0 ρ0 ρ1 W0 w V O)(b1:KR (T.kind f) ρ1 tm0 tm)
  (b2:∀j,nA P c (λ_ _=>False) (λa W=>a.defers=[]/\Q1 a.tmps W) ⟨tm0,[]⟩ (tp W0 j W0.drawn))
  (a3:∀Z x b i bj p q,Q1 x b->KR (T.kind f) Z x i->ir T P N V0 O0 w0 ρ0 Z b bj p q->WalkE P main Stop p q (G ((bs .normal f).at ⟨i,[]⟩ (.code T.rest::k)) cs) bj):
  WalkE P main Stop V O (G ((bs .normal f).at ⟨tm,[]⟩ (.code c'::k)) cs) w:=by
 let Post:Kf->H->Prop:=λfr W=>∃a:Act,a.defers=[]/\fr=(bs .normal f).at a [.code (.refuse "cut")]/\Q1 a.tmps W
 let s:LS:=⟨(bs .normal f).at ⟨tm0,[]⟩ [.code c],[c0],W0⟩
 have u:oz P true Post s:=by
  intro j;obtain⟨a,b,⟨m,-⟩|⟨⟨l,o⟩,a5⟩⟩:=b2 j (bs .normal f) [c0]
  .exact m.elim
  .exact⟨j,λ_ _=>rfl,_,b,steps_iff.1 a5,⟨rfl,rfl,.inr rfl⟩,a,l,rfl,o⟩
 have d:Nh T P N k [] (cs,.normal) V0 O0 w0 ρ0 ρ1 s ((bs .normal f).at ⟨tm,[]⟩ (.code c'::k)) cs w V O:=
  ⟨a2,.bottom ⟨rfl,b1,⟨[.code c'],rfl,.cons (.cut hc) .nil⟩,⟨[],rfl,.nil⟩,rfl,.inl rfl,⟨rfl,λe=>by cases e⟩,.none⟩ rfl rfl⟩
 refine(lift a4 (λh=>by cases h) (λZ eI b da bj V O d b7 a0=>?_) (kN u) d u).bind λV O g w h=>h;obtain⟨a,l,rfl,o⟩:=a0;obtain⟨k0,b6,m,a6,-⟩:=d.stk.top;obtain⟨a8,a7, -, b8,a9⟩:=a6 rfl;subst a8 a7;obtain⟨f',i,b5,y,b4,b9,v⟩:=da;obtain⟨J,h2,⟨t,K,L⟩,⟨t',R,S⟩,U, -, -, h9⟩:=m;have e1:=J;have z:=a9;have A:b4=.run:=U;have B:v=I:=by
  have a1:RD Z I v:=h9;cases a1;rfl
 have C:b5=.code T.rest::k0:=by
  have Q:L2 (xH T P f Z) [.code (.refuse "cut")] t:=L
  cases Q with
  | cons b3 a'=>
   cases a'
   cases b3 with
   | code n=>simp[ez]at n
   | cut n=>cases n;exact K
 have E:y=[]:=by
  have r:L2 (FK Z) a.defers t':=S;rw[l]at r;cases r;exact R
 subst e1 z A B C E;exact a3 Z a.tmps b i bj V O o h2 d.m
end Go.Co
