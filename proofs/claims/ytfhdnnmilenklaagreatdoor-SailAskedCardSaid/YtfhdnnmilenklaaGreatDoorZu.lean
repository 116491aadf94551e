import Derived.Test.YtfhdnnmilenklaaGreatDoorZq
import Derived.Test.YtfhdnnmilenklaaGreatDoorChecked
set_option maxRecDepth 100000
set_option maxHeartbeats 4000000
set_option linter.all false
noncomputable section
open Go renaming undef->D,World->H,execOp->Hn,Oper->Kp,TypeId->Lk,Code->Ly,Value->M,Calls->PH,heap_alloc_old->QR,heap_alloc_new->Sp,resolve->ab,Operand->ae,yielded->aw,FuncId->ba,bodyPost_ret->bd
open Go.Proofs.Tryz renaming prog->F,prog->Hb
open Go.Lib renaming hid->Hm
open Option renaming none->I,some->Y
open Go.RowKit renaming Hid->PQ,Below->X
namespace Go
def sT{p:Prop}(h:p:=by
 first|have _:=ø;refine wp_block (wp_loop (λa w=>∃(k:Nat) (f':Nat->M),k<=l.length/\a=fa 119 f'/\f' 1=.pointer (Y ⟨g,0,I⟩)/\f' 4=.int .i64 k/\X u.heap.size u w/\nD b.S l=nD b.S (l.drop k)) (λa _=>l.length-(intOf (a.tmps.getD 4 D)).toNat) ⟨0,f,iv _,rfl,K,h4,hB,rfl⟩ λa w1 Q=>?_);obtain⟨k,P,hk,rfl,e1,E,hB,d⟩:=Q;rw[Qm];have a2:b.U.n=l.length:=C.1|have _:=å;refine wp_block (wp_loop (λa w=>∃(k:Nat) (f':Nat->M),k<=l.length/\a=fa 119 f'/\f' 1=.pointer (Y ⟨g,0,I⟩)/\f' 5=.int .i64 k/\X u.heap.size u w/\nF b.rf b.ch l=nF b.rf b.ch (l.drop k)) (λa _=>l.length-(intOf (a.tmps.getD 5 D)).toNat) ⟨0,f,iv _,rfl,K,h5,hB,rfl⟩ λa w1 Q=>?_);obtain⟨k,P,hk,rfl,e1,G,hB,d⟩:=Q;rw[Qn];have a2:b.E.n=l.length:=C.1|refine wp_block (wp_loop (λa w=>∃(k:Nat) (f':Nat->M),k<=l.length/\a=fa 119 f'/\f' 1=.pointer (Y ⟨g,0,I⟩)/\f' 6=.int .i64 k/\X u.heap.size u w/\qi b.S b.U.n l=qi b.S b.U.n (l.drop k)) (λa _=>l.length-(intOf (a.tmps.getD 6 D)).toNat) ⟨0,f,iv _,rfl,K,h6,hB,rfl⟩ λa w1 Q=>?_);obtain⟨k,P,hk,rfl,e1,U,hB,d⟩:=Q;rw[Qo];have a2:b.W.n=l.length:=C.1
 have a9:l.length<=1000:=C.2.2.1;first|have _:=ø;by_cases a1:k<b.U.n|have _:=å;by_cases a1:k<b.E.n|by_cases a1:k<b.W.n
 .have t:k<l.length:=zz;obtain⟨a7,off,V,b2,W⟩:=C.2.2.2 zz;first|have _:=ø;rw[V]at x10;obtain⟨c0,O⟩:=W k t;have c:=Al b.S l k t;generalize(l.getD k (0,0)).1=x at c c0;generalize(l.getD k (0,0)).2=y at c O;refine wp_seq (bn u (· < 7) (λf'=>f' 21=.bool true) rr λJ T hB s q=>wp_cond_true (ag zz q) (wp_skip ?_))|have _:=å;rw[V]at x11;obtain⟨c0,O⟩:=W k t;have c:=Am b.rf b.ch l k t;generalize(l.getD k (0,0)).1=x at c c0;generalize(l.getD k (0,0)).2=y at c O;refine wp_seq (bn u (· < 7) (λf'=>f' 49=.bool true) rr λJ T hB s q=>wp_cond_true (ag zz q) (wp_skip ?_))|rw[V]at x12;obtain⟨c0,O,c2⟩:=W k t;have c:=Dh b.S b.U.n l k t;generalize(l.getD k (0,0,false)).1=x at c c0;generalize(l.getD k (0,0,false)).2.1=y at c O;generalize(l.getD k (0,0,false)).2.2=z at c2;refine wp_seq (bn u (· < 7) (λf'=>f' 96=.bool true) rr λJ T hB s q=>wp_cond_true (ag zz q) (wp_skip ?_))
  have e1:=(s 1 zz).tn e1;first|have _:=ø;have E:=(s 4 zz).tn E|have _:=å;have G:=(s 5 zz).tn G|have U:=(s 6 zz).tn U
  refine wp_seq (wp_block ?_)
  first
  |have _:=æ
   cases e:ax x 0 (b.U.n-1)
   .refine bn u (· < 7) (λf'=>f' 118=.bool true) rr λf3 B hB r j=>wp_cond_true (ag zz j) ?_;refine bn u (λi=>i<7/\i≠2) (λf'=>f' 2=.int .i64 6) rr λm N hB L o=>wp_ret ?_;exact .inr ⟨rfl,by rw[d,c,cd (by simp[e])];decide,m,rfl,hB,by rw[d,c,cd (by simp[e])];exact o⟩
   .cases n:ax y 0 (b.S-1)
    .refine bn u (· < 7) (λf'=>f' 118=.bool true) rr λf3 B hB r j=>wp_cond_true (ag zz j) ?_;refine bn u (λi=>i<7/\i≠2) (λf'=>f' 2=.int .i64 6) rr λm N hB L o=>wp_ret ?_;exact .inr ⟨rfl,by rw[d,c,cd (by simp[e,n])];decide,m,rfl,hB,by rw[d,c,cd (by simp[e,n])];exact o⟩
    .refine bn u (· < 7) (λf'=>f' 118=.bool false) rr λf5 w5 hB v S=>wp_cond_false (ag zz S) (wp_skip ?_);have e1:=(v 1 zz).tn e1;have U:=(v 6 zz).tn U;refine To u (λi=>i<7/\i≠6) (λf'=>f' 6=.int .i64 (k+1)) rr λf6 w6 hB R A=>?_;refine⟨⟨k+1,f6,t,rfl,(R 1 zz).tn e1,A.tn ss,hB,d.tn (c.tn (by rw[qYB (by simp[e,n])]))⟩,?_⟩;rw[sF (k:=k+1) zz (A.tn ss),sF (k:=k) zz ‹P 6=_›];omega
  |have _:=ø
   refine wp_seq ?_;cases e:ax x 0 (b.S-1)
   .refine bn u (· < 7) (λf'=>f' 32=.bool true) rr λf3 B hB r j=>wp_cond_true (ag zz j) ?_;refine bn u (λi=>i<7/\i≠2) (λf'=>f' 2=.int .i64 6) rr λm N hB L o=>wp_ret ?_;exact .inr ⟨rfl,by rw[d,c,cd e];decide,m,rfl,hB,by rw[d,c,cd e];exact o⟩
   .refine bn u (· < 7) (λf'=>f' 32=.bool false) rr λf3 B hB r j=>wp_cond_false (ag zz j) (wp_skip ?_);have e1:=(r 1 zz).tn e1;have E:=(r 4 zz).tn E;cases n:ax y (-9) 9
    .refine bn u (· < 7) (λf'=>f' 40=.bool true) rr λf3 B hB r j=>wp_cond_true (ag zz j) ?_;refine bn u (λi=>i<7/\i≠2) (λf'=>f' 2=.int .i64 1) rr λm N hB L o=>wp_ret ?_;exact .inr ⟨rfl,by rw[d,c,qYB (by simp[e]),cd n];decide,m,rfl,hB,by rw[d,c,qYB (by simp[e]),cd n];exact o⟩
    .refine bn u (· < 7) (λf'=>f' 40=.bool false) rr λf5 w5 hB v S=>wp_cond_false (ag zz S) (wp_skip ?_);have e1:=(v 1 zz).tn e1;have E:=(v 4 zz).tn E;refine To u (λi=>i<7/\i≠4) (λf'=>f' 4=.int .i64 (k+1)) rr λf6 w6 hB R A=>?_;refine⟨⟨k+1,f6,t,rfl,(R 1 zz).tn e1,A.tn ss,hB,d.tn (c.tn (by rw[qYB (by simp[e]),qYB (by simp[n])]))⟩,?_⟩;rw[sF (k:=k+1) zz (A.tn ss),sF (k:=k) zz ‹P 4=_›];omega
  |refine wp_seq ?_
   cases e:ax x (1-b.rf) (b.rf-1)
   .refine bn u (· < 7) (λf'=>f' 77=.bool true) rr λf3 B hB r j=>wp_cond_true (ag zz j) ?_;refine bn u (λi=>i<7/\i≠2) (λf'=>f' 2=.int .i64 1) rr λm N hB L o=>wp_ret ?_;exact .inr ⟨rfl,by rw[d,c,cd (by simp[e])];decide,m,rfl,hB,by rw[d,c,cd (by simp[e])];exact o⟩
   .cases n:ax y 0 60
    .refine bn u (· < 7) (λf'=>f' 77=.bool true) rr λf3 B hB r j=>wp_cond_true (ag zz j) ?_;refine bn u (λi=>i<7/\i≠2) (λf'=>f' 2=.int .i64 1) rr λm N hB L o=>wp_ret ?_;exact .inr ⟨rfl,by rw[d,c,cd (by simp[e,n])];decide,m,rfl,hB,by rw[d,c,cd (by simp[e,n])];exact o⟩
    .refine bn u (· < 7) (λf'=>f' 77=.bool false) rr λf3 B hB r j=>wp_cond_false (ag zz j) (wp_skip ?_);have e1:=(r 1 zz).tn e1;have G:=(r 5 zz).tn G;by_cases Z:b.ch<=y
     .refine bn u (· < 7) (λf'=>f' 87=.bool true) rr λf3 B hB r j=>wp_cond_true (ag zz j) ?_;refine bn u (λi=>i<7/\i≠2) (λf'=>f' 2=.int .i64 7) rr λm N hB L o=>wp_ret ?_;exact .inr ⟨rfl,by rw[d,c,qYB (by simp[e,n]),cd Z];decide,m,rfl,hB,by rw[d,c,qYB (by simp[e,n]),cd Z];exact o⟩
     .refine bn u (· < 7) (λf'=>f' 87=.bool false) rr λf5 w5 hB v S=>wp_cond_false (ag zz S) (wp_skip ?_);have e1:=(v 1 zz).tn e1;have G:=(v 5 zz).tn G;refine To u (λi=>i<7/\i≠5) (λf'=>f' 5=.int .i64 (k+1)) rr λf6 w6 hB R A=>?_;refine⟨⟨k+1,f6,t,rfl,(R 1 zz).tn e1,A.tn ss,hB,d.tn (c.tn (by rw[qYB (by simp[e,n]),qYB Z]))⟩,?_⟩;rw[sF (k:=k+1) zz (A.tn ss),sF (k:=k) zz ‹P 5=_›];omega
 .have a8:k=l.length:=zz;first|have _:=ø;refine wp_seq (bn u (· < 7) (λf'=>f' 21=.bool false) rr λJ T hB s q=>wp_cond_false (ag zz q) (wp_exit ?_))|have _:=å;refine wp_seq (bn u (· < 7) (λf'=>f' 49=.bool false) rr λJ T hB s q=>wp_cond_false (ag zz q) (wp_exit ?_))|refine wp_seq (bn u (· < 7) (λf'=>f' 96=.bool false) rr λJ T hB s q=>wp_cond_false (ag zz q) (wp_exit ?_))
  exact .inl ⟨rfl,by rw[d,kl zz];rfl,J,rfl,hB,(s 1 zz).tn (e1.tn K.symm)⟩):p:=h
def MP{p:Prop}(h:p:=by
 unfold wpOp;simp only[hi,j,if_true,Kp.wp,k,Kp.upon_enter];refine .inl (hc.mono λe w' c=>?_);first|have _:=ø;obtain⟨rfl,a⟩:=c|obtain⟨v,rfl,a⟩:=c
 show K ((fa n f).put oi.dst v) w';rw[b,cw g];first|have _:=ø;exact h w' a|exact h v w' a):p:=h
def xaA{p:Prop}(h:p:=by
 obtain⟨rfl⟩:=d;unfold Hn;simp only[c,e,f];go_simp;rw[Go.IntWalk.i64_in _ h]):p:=h
def xaH{p:Prop}(h:p:=by
 unfold Hn;simp only[b,ab,c,a,Deferred.ofValue];simp[go_sem,invoke,hc]):p:=h
def Zq{p:Prop}(h:p:=by
 obtain⟨rfl⟩:=e;first|have _:=ø;skip|unfold Sm at h
 unfold Hn;simp only[b,c];go_simp;rw[Go.IntWalk.i64_in _ zz]):p:=h
def xbL{p:Prop}(h:p:=by
 first|have _:=ø;skip|obtain⟨rfl⟩:=e
 unfold Hn;simp only[b,ab,zM,f,g,d];go_simp;repeat (first|omega|split)):p:=h
def xbz{p:Prop}(h:p:=by
 obtain⟨rfl⟩:=b;unfold Hn;simp only[a,c];go_simp):p:=h
end Go
namespace Go.Proofs.YtfhdnnmilenklaaGreatDoor
open Go.RowKit
variable{b:aC}{l:bN}
def Ca(b:aC)(l:bN)(W:Sl)(x:Int×Int×Bool):aJ {b with W:=W} {l with W:=l.W++[x]} b.D.toNat=(aJ b l b.D.toNat).filter λs=>oN b l s x.1.toNat x.2.1.toNat==x.2.2:=by
 unfold aJ;rw[List.filter_filter];refine List.filter_congr λs _=>?_;unfold fM oI;rw[List.any_append];simp only[List.any_cons,List.any_nil,Bool.or_false,jk,oN];cases l.W.any _<;>cases eT b.S b.L s.1 s.2 (l.U.getD x.1.toNat (0,0)) x.2.1.toNat<;>cases x.2.2<;>rfl
def lS(b:aC)(l:bN)(h k:Nat):Int:=max (oP (λs=>oN b l s h k) (aJ b l b.D.toNat)) ((aJ b l b.D.toNat).length-oP (λs=>oN b l s h k) (aJ b l b.D.toNat):Int)
def JG(f:Int×(Nat->Bool)->Bool):∀L:List (Int×(Nat->Bool)),((L.filter λs=>f s==true).length:Int)=oP f L/\((L.filter λs=>f s==false).length:Int)=L.length-oP f L
 | []=>⟨rfl,rfl⟩
 | a::r=>by
  obtain⟨b,h2⟩:=JG f r;unfold oP at b h2|-;cases h:f a<;>simp only[List.filter_cons,h,dq,beq_self_eq_true,if_true,kj,if_false,show(false==true)=false from rfl,show(true==false)=false from rfl]<;>omega
def M0(b:aC)(l:bN)(W a:Sl)(h k:Nat):max ((aJ {b with W:=W} {l with W:=l.W++[((h:Int),(k:Int),true)]} b.D.toNat).length:Int) (aJ {b with W:=a } {l with W:=l.W++[((h:Int),(k:Int),false)]} b.D.toNat).length=lS b l h k:=by
 obtain⟨c,h2⟩:=JG (λs=>oN b l s h k) (aJ b l b.D.toNat);rw[Ca,Ca];unfold lS;rw[<- h2,<- c];rfl
def yS:∀(L:List Ct) (one:Ct),(iR Om one L).2<=one.2/\(∀x∈L,(iR Om one L).2<=x.2)/\(iR Om one L=one\/∃p q,L=p++iR Om one L::q/\(iR Om one L).2<one.2/\∀x∈p,(iR Om one L).2<x.2)
 | [],one=>⟨Int.le_refl _,λx b=>by simp at b,.inl rfl⟩
 | a::L,one=>by
  have e:iR Om one (a::L)=iR Om (if Om a one then a else one) L:=rfl;by_cases h:a.2<one.2
  .rw[cd (by simp[Om,h])]at e;obtain⟨d,h2,c⟩:=yS L a;rw[e];refine⟨zz,λx b=>?_,.inr ?_⟩
   .rcases lO.1 b with rfl|b
    .exact d
    .exact h2 x b
   .rcases c with c|⟨p,q,f,g,i⟩
    .exact⟨[],L,by rw[c];rfl,by rw[c];exact h,λx b=>by simp at b⟩
    .exact⟨a::p,q,by rw[List.cons_append,<- f],zz,λx b=>by
      rcases lO.1 b with rfl|b
      .exact g
      .exact i x b⟩
  .rw[qYB (by simp[Om];omega)]at e;obtain⟨d,h2,c⟩:=yS L one;rw[e];refine⟨d,λx b=>?_,?_⟩
   .rcases lO.1 b with rfl|b
    .omega
    .exact h2 x b
   .rcases c with c|⟨p,q,f,g,i⟩
    .exact .inl c
    .exact .inr ⟨a::p,q,by rw[List.cons_append,<- f],g,λx b=>by
      rcases lO.1 b with rfl|b
      .omega
      .exact i x b⟩
def UC(x y:Ct):Prop:=x.1.1<y.1.1\/x.1.1=y.1.1/\x.1.2<y.1.2
def JH(LL:List gM)(n:Int)(h:Nat):∀(S s:Nat),(DJ LL n h (List.range' s S)).Pairwise UC
 | 0,s=>by simp[DJ]
 | S+1,s=>by
  rw[List.range'_succ];unfold DJ;rw[List.map_cons,List.pairwise_cons];refine⟨λx a=>?_,JH LL n h S (s+1)⟩;obtain⟨k,hk,rfl⟩:=List.mem_map.1 a;have:=(List.mem_range'_1.1 hk).1;exact .inr ⟨rfl,by show(s:Int)<(k:Int);omega⟩
def Cf{LL:List gM}{n:Int}{S:Nat}{hs:List Nat}{x:Ct}:x∈nM LL n S hs↔∃h k,h∈hs/\k<S/\x=ye LL n h k:=by
 unfold nM DJ;simp only[List.mem_flatMap,List.mem_map,List.mem_range'_1];constructor
 .rintro⟨h,a,k,hk,rfl⟩;exact⟨h,k,a,zz,rfl⟩
 .rintro⟨h,k,a,hk,rfl⟩;exact⟨h,a,k,zz,rfl⟩
def E5(LL:List gM)(n:Int)(S:Nat):∀(U s:Nat),(nM LL n S (List.range' s U)).Pairwise UC
 | 0,s=>by simp[nM]
 | U+1,s=>by
  rw[List.range'_succ];unfold nM;rw[lh,List.pairwise_append];refine⟨JH _ _ _ _ _,E5 LL n S U (s+1),λx a y c=>?_⟩;obtain⟨h,k,b,hk,rfl⟩:=Cf.1 (show y∈nM LL n S (List.range' (s+1) U)from c);unfold DJ at a;obtain⟨k',d,rfl⟩:=List.mem_map.1 a;have:=(List.mem_range'_1.1 b).1;exact .inl (by show(s:Int)<(h:Int);omega)
def J9(hc:ay b l=0)(a:l.U.length<=1000){h k:Nat}(c:h<l.U.length)(hk:k<12):ye (fN b l) (aJ b l b.D.toNat).length h k=(((h:Int),(k:Int)),lS b l h k):=by
 unfold ye lS;rw[LC hc a h k c hk]
def TO(hc:ay b l=0)(n:l.U.length<=1000)(x:b.U.n=l.U.length)(y:0<=b.S/\b.S<=12):∃(at_ i left:Int),DK b l=((at_,i),left)/\ -1<=at_/\at_<=l.U.length-1/\ -1<=i/\i<=b.S-1/\(at_<0↔left=(aJ b l b.D.toNat).length)/\(at_<0↔i<0)/\left<=(aJ b l b.D.toNat).length/\
  (∀h k:Nat,h<l.U.length->(k:Int)<b.S->left<=lS b l h k/\(lS b l h k=left->0<=at_->¬((h:Int)<at_\/(h:Int)=at_/\(k:Int)<i)))/\(0<=at_->lS b l at_.toNat i.toNat=left):=by
 obtain⟨r,f⟩:∃r,DK b l=r:=⟨_,rfl⟩;obtain⟨⟨at_,i⟩,left⟩:=r;refine⟨at_,i,left,f,?_⟩;unfold DK at f;rw[x]at f;obtain⟨g,h2,d⟩:=yS (nM (fN b l) (aJ b l b.D.toNat).length b.S.toNat (List.range' 0 l.U.length)) ((-1, -1),(aJ b l b.D.toNat).length);rw[f]at g h2 d;have mem:∀h k:Nat,h<l.U.length->(k:Int)<b.S->(((h:Int),(k:Int)),lS b l h k)∈nM (fN b l) (aJ b l b.D.toNat).length b.S.toNat (List.range' 0 l.U.length):=λh k c hk=>by
  rw[<- J9 hc n c zz];exact Cf.2 ⟨h,k,List.mem_range'_1.2 ⟨zz,zz⟩,zz,rfl⟩
 rcases d with d|⟨p,q,m,u,v⟩
 .cases d;refine⟨zz,zz,zz,zz,by simp,by simp,Int.le_refl _,λh k c hk=>⟨h2 _ (mem h k c hk),λ_ h=>zz⟩,λh=>zz⟩
 .have w:(((at_,i),left):Ct)∈nM (fN b l) (aJ b l b.D.toNat).length b.S.toNat (List.range' 0 l.U.length):=by rw[m];simp
  obtain⟨h,k,c,hk,e⟩:=Cf.1 w;have c:=(List.mem_range'_1.1 c).2;rw[J9 hc n zz zz]at e;cases e;dsimp only at g u;refine⟨zz,zz,zz,zz,zz,zz,g,λj k' o s=>⟨h2 _ (mem j k' o s),λe _ z=>?_⟩,λ_=>rfl⟩;have t:=E5 (fN b l) (aJ b l b.D.toNat).length b.S.toNat l.U.length 0;have a:=mem j k' o s;rw[m]at t a;rcases qWB.1 a with a|a
  .have:=v _ a;dsimp only at this;omega
  .rcases lO.1 a with a|a
   .cases a;omega
   .have:=(List.pairwise_cons.1 (List.pairwise_append.1 t).2.1).1 _ a;unfold UC at this;dsimp only at this;omega
open Go.Co
variable{K R:Act->H->Prop}{fn:ba}{args:Array M}{v:M}{E S:H->Prop}{w w':H}{ops:Array Kp}{n d j i g k off m cp z:Nat}{f:Nat->M}{oi o:Kp}{rest:List Nat}{Q:Exit->Act->H->Prop}{md:Region.Mode}{late:Nat->Bool}{L:Array Bool}{Z:ae->M}{x y c:ae}{a b:Int}{t':Lk}{r q p:Bool}
section
variable{t:Bool}
def eE(b:oi.guard=Y (j,t))(c:(ops[j]?).bind (·.dst)=Y g)(d:g<n)(a:f g=.bool t):Region.wanted oi (aw ops (fa n f).tmps)=true:=by
 unfold Region.wanted;rw[b];simp only[xM c d a,beq_self_eq_true]
def jc(b:oi.guard=Y (j,t))(c:(ops[j]?).bind (·.dst)=Y g)(d:g<n)(a:f g=.bool (!t)):Region.wanted oi (aw ops (fa n f).tmps)=false:=by
 unfold Region.wanted;rw[b];simp only[xM c d a];cases t<;>rfl
def ZE(v:M)(hi:ops[i]?=Y oi)(a:oi.dst=Y d)(b:d<n)(c:Region.wanted oi (aw ops (fa n f).tmps)=true)(e:(Hn (fa n f).eval oi).run F w=.ok (.value v) w')(h:K (fa n (ah f d v)) w'):wpOp F ops Q i K (fa n f) w:=by
 unfold wpOp;simp only[hi,c,if_true,Kp.wp,e,Kp.upon];rw[a,cw b];exact .inl h
def Vg(hi:ops[i]?=Y oi)(b:oi.dst=Y d)(g:d<n)(j:Region.wanted oi (aw ops (fa n f).tmps)=true)(k:(Hn (fa n f).eval oi).run F w=.ok (.enter fn args) w)
  (hc:PH F fn args w λe w'=>e=.returned v/\E w')(h:∀w',E w'->K (fa n (ah f d v)) w'):wpOp F ops Q i K (fa n f) w:=by
 have ø:=0;exact MP
def Xr{E:M->H->Prop}(hi:ops[i]?=Y oi)(b:oi.dst=Y d)(g:d<n)(j:Region.wanted oi (aw ops (fa n f).tmps)=true)(k:(Hn (fa n f).eval oi).run F w=.ok (.enter fn args) w)
  (hc:PH F fn args w λe w'=>∃v,e=.returned v/\E v w')(h:∀v w',E v w'->K (fa n (ah f d v)) w'):wpOp F ops Q i K (fa n f) w:=MP
def ZG(hi:ops[i]?=Y oi)(a:oi.dst=Y d)(b:d<n)(c:Region.wanted oi (aw ops (fa n f).tmps)=false)(h:K (fa n (ah f d D)) w):wpOp F ops Q i K (fa n f) w:=by
 unfold wpOp;simp only[hi,c,kj,if_false];rw[a,cw b];exact h
def lV(v:M)(hi:ops[i]?=Y oi)(a:oi.dst=Y d)(b:d<n)(c:Region.wanted oi (aw ops (fa n f).tmps)=true)(e:(Hn (fa n f).eval oi).run F w=.ok (.value v) w')(h:wpOps F ops Q rest (fa n (ah f d v)) w'):wpOps F ops Q (i::rest) (fa n f) w:=by
 rw[wpOps_cons];exact ZE v hi a b c e h
def lN(hi:ops[i]?=Y oi)(a:oi.dst=Y d)(b:d<n)(c:Region.wanted oi (aw ops (fa n f).tmps)=false)(h:wpOps F ops Q rest (fa n (ah f d D)) w):wpOps F ops Q (i::rest) (fa n f) w:=by
 rw[wpOps_cons];exact ZG hi a b c h
def lC(hi:ops[i]?=Y oi)(a:oi.dst=Y d)(b:d<n)(c:Region.wanted oi (aw ops (fa n f).tmps)=true)(g:(Hn (fa n f).eval oi).run F w=.ok (.enter fn args) w)
  (hc:PH F fn args w λe w'=>e=.returned v/\E w')(h:∀w',E w'->wpOps F ops Q rest (fa n (ah f d v)) w'):wpOps F ops Q (i::rest) (fa n f) w:=by
 rw[wpOps_cons];exact Vg hi a b c g hc h
def lR{E:M->H->Prop}(hi:ops[i]?=Y oi)(a:oi.dst=Y d)(b:d<n)(c:Region.wanted oi (aw ops (fa n f).tmps)=true)(g:(Hn (fa n f).eval oi).run F w=.ok (.enter fn args) w)
  (hc:PH F fn args w λe w'=>∃v,e=.returned v/\E v w')(h:∀v w',E v w'->wpOps F ops Q rest (fa n (ah f d v)) w'):wpOps F ops Q (i::rest) (fa n f) w:=by
 rw[wpOps_cons];exact Xr hi a b c g hc h
def lE(h:Q .normal (fa n f) w):wpOps F ops Q [] (fa n f) w:=h
def tV(v:M)(hi:ops[i]?=Y oi)(b:oi.dst=Y d)(g:d<n)(m:Region.wanted oi (aw ops (fa n f).tmps)=true)(l:Region.noSelect ops=true)(c:Region.free md ops L i=true)(j:(Region.ready md ops L).contains i=true)(e:nN md ops late i=true)
  (o:∀w',S w'->(Hn (fa n f).eval oi).run F w'=.ok (.value v) w')(a:S w)
  (h:wpAnyL F md ops (aR R) S late k (L.setIfInBounds i true) (fa n (ah f d v)) w):wpAnyL F md ops (aR R) S late (k+1) L (fa n f) w:=
 dN (v:=v) hi l c j e (λ_ _ _ h=>h) (.inl ⟨m,o⟩) a (by rw[b,cw g];exact h)
def tN(hi:ops[i]?=Y oi)(b:oi.dst=Y d)(g:d<n)(m:Region.wanted oi (aw ops (fa n f).tmps)=false)(l:Region.noSelect ops=true)(c:Region.free md ops L i=true)(j:(Region.ready md ops L).contains i=true)(e:nN md ops late i=true)(a:S w)
  (h:wpAnyL F md ops (aR R) S late k (L.setIfInBounds i true) (fa n (ah f d D)) w):wpAnyL F md ops (aR R) S late (k+1) L (fa n f) w:=
 dN (v:=D) hi l c j e (λ_ _ _ h=>h) (.inr ⟨m,rfl⟩) a (by rw[b,cw g];exact h)
def tC(j:Region.ready md ops L=[i])(hi:ops[i]?=Y oi)(b:oi.dst=Y d)(g:d<n)(l:Region.wanted oi (aw ops (fa n f).tmps)=true)(o:(Hn (fa n f).eval oi).run F w=.ok (.enter fn args) w)
  (hc:PH F fn args w λe w'=>e=.returned v/\E w')(h:∀w',E w'->S w'/\wpAnyL F md ops (aR R) S late k (L.setIfInBounds i true) (fa n (ah f d v)) w'):wpAnyL F md ops (aR R) S late (k+1) L (fa n f) w:=by
 refine bl [i] j ss λm c=>?_;obtain rfl:=qBB.1 c;exact Vg hi b g l o hc λw' a=>⟨λ_=>(h w' a).1,(h w' a).2⟩
end
def gy(n:Nat){F:Func}{c:Ly}{A:Array M}{R:Ending->H->Prop}(b:Hb.funcs[fn]?=Y F)(a:F.body=Y c)(d:A.size+(F.ntmps-A.size)=n)(h:∀f:Nat->M,(∀i,f i=A.getD i D)->Ly.wp Hb c (bodyPost Hb F R) (fa n f) w):PH Hb fn A w R:=by
 refine calls_of_wp b a ?_;rw[iu d];exact h _ λ_=>rfl
theorem Ib{g:Nat}{b:aC}(h:aK w g 31 b):(Instr.loadAt 31 (.pointer (Y (g,0)))).run F w=.ok b.v w:=by
 obtain⟨a,c,i,j,k,l,m,n,o,p,d,e,f⟩:=aM h;unfold aC.v;go_simp
def ag{n t:Nat}{f:Nat->M}(h:t<n)(e:f t=v):(fa n f).eval (.tmp t)=v:=(fe h).tn e
def ZK(s:Nat):List Nat:=if s=31 then[0,1,2,3,5,6,8,10,11,12]else if s=89 then[0,1,2]else if s=36\/s=23\/s=26\/s=121\/s=131 then[0,1]else[]
def Sm(x:Int):Prop:= -9223372036854775808<=x/\x<=9223372036854775807
structure yW(x y:M):Prop where h:x=y
def ZL(t:Nat):Option Nat:=if t=27\/t=28 then Y 2 else if t=29 then Y 3 else I
def TG:BinOp->Option (Int->Int->Bool)
 | .lss=>Y λa b=>decide (a<b)
 | .leq=>Y λa b=>decide (a<=b)
 | .gtr=>Y λa b=>decide (b<a)
 | .geq=>Y λa b=>decide (b<=a)
 | .eql=>Y λa b=>a==b
 | .neq=>Y λa b=>a != b
 | _=>I
section
variable{t t':Lk}
def bq(a:o.op=.move x\/o.op=.assign x)(b:Z x=v):(Hn Z o).run F w=.ok (.value v) w:=by
 unfold Hn;rcases a with h|h<;>simp only[h,b]<;>rfl
theorem dm{xs:Array ae}{ts:Array Lk}(b:o.op=.call {callee:=.value (.func fn),args:=xs,argTypes:=ts})(a:xs.map Z=args)(c:Z (.func fn)=.func (.func fn) #[] #[])
  (hc:(callFunc fn args).run F w=.ok (.enter fn args) w):(Hn Z o).run F w=.ok (.enter fn args) w:=xaH
theorem j0(a:o.op=.unOp .not t x)(c:Z x=.bool r)(b:yW (.bool (!r)) v):(Hn Z o).run F w=.ok (.value v) w:=xbz
theorem aa6(a:o.op=.pick c x y)(hc:Z c=.bool r)(b:(if r then Z x else Z y)=v):(Hn Z o).run F w=.ok (.value v) w:=by
 subst b;unfold Hn;simp only[a,hc];cases r<;>go_simp
theorem abc(a:o.op=.binOp .eql 4 x y 4)(d:Z x=.bool r)(e:Z y=.bool q)(b:(r==q)=p)(c:yW (.bool p) v):(Hn Z o).run F w=.ok (.value v) w:=by
 subst b;obtain⟨rfl⟩:=c;unfold Hn;simp only[a,d,e];go_simp
theorem Vh(a:o.op=.binOp .neq 4 x y 4)(d:Z x=.bool r)(e:Z y=.bool q)(b:(r != q)=p)(c:yW (.bool p) v):(Hn Z o).run F w=.ok (.value v) w:=by
 subst b;obtain⟨rfl⟩:=c;unfold Hn;simp only[a,d,e];cases r<;>cases q<;>go_simp
theorem Sr{op:BinOp}{F:Int->Int->Bool}(c:o.op=.binOp op t x y t')(hF:TG op=Y F)(f:Z x=.int .i64 a)(g:Z y=.int .i64 b)(d:F a b=r)(e:yW (.bool r) v):(Hn Z o).run Hb w=.ok (.value v) w:=by
 subst d;obtain⟨rfl⟩:=e;unfold Hn;simp only[c,f,g];cases op<;>cases hF<;>go_simp
def gE{B:aC}(b:o.op=.load 31 x)(d:Z x=.pointer (Y (g,0)))(a:aK w g 31 B)(c:yW (B.v) v):(Hn Z o).run F w=.ok (.value v) w:=by
 have h:=(Ib a);obtain⟨rfl⟩:=c;unfold Hn;simp only[b,d];simp[h]
theorem qM{sh:Int}{s:Sl}(a:o.op=.load 36 x)(c:Z x=.pointer (Y (g,0)))(d:w (g,0)=Y (.int .i64 sh))(e:w (g,1)=Y (.slice s.A s.n s.c))(b:yW (aF sh s) v):(Hn Z o).run F w=.ok (.value v) w:=by
 obtain⟨rfl⟩:=b;unfold Hn aF;simp only[a,c];go_simp
theorem Xo{h s:Int}(a:o.op=.load 89 x)(c:Z x=.pointer (Y (g,off)))(d:w (g,off)=Y (.int .i64 h))(e:w (g,off+1)=Y (.int .i64 s))(h2:w (g,off+2)=Y (.bool r))(b:yW (.agg #[.int .i64 h,.int .i64 s,.bool r]) v):(Hn Z o).run F w=.ok (.value v) w:=xbz
theorem TH{s:Nat}(b:o.op=.fieldAddr s x k)(a:(ZK s)[k]?=Y z)(c:Z x=.pointer (Y (g,off)))(d:yW (.pointer (Y (g,off+z))) v):(Hn Z o).run F w=.ok (.value v) w:=by
 obtain⟨rfl⟩:=d;unfold Hn;simp only[b,c];clear b c;unfold ZK at a;repeat' split at a
 .subst s;iterate 10 (rcases k with _|k; · cases a;go_simp)
  cases a
 .subst s;iterate 3 (rcases k with _|k; · cases a;go_simp)
  cases a
 .rename_i h;iterate 2 (rcases k with _|k; · cases a;rcases h with rfl|rfl|rfl|rfl|rfl<;>go_simp)
  cases a
 .cases a
theorem abe(b:o.op=.load t x)(a:[3,4,24,27,28,29,39].contains t=true)(c:Z x=.pointer (Y (g,off)))(hc:w (g,off)=Y v):(Hn Z o).run F w=.ok (.value v) w:=by
 unfold Hn;simp only[b,c];simp at a;rcases a with rfl|rfl|rfl|rfl|rfl|rfl|rfl<;>go_simp
theorem Xp(a:o.op=.indexAddr 24 x y)(c:Z x=.slice (Y (g,off)) m cp)(d:Z y=.int .i64 k)(hk:k<m)(b:yW (.pointer (Y (g,off+k))) v):(Hn Z o).run F w=.ok (.value v) w:=by
 obtain⟨rfl⟩:=b;unfold Hn;simp only[a,c,d];go_simp
theorem Vj(b:o.op=.indexAddr t x y)(a:ZL t=Y z)(d:Z x=.slice (Y (g,off)) m cp)(e:Z y=.int .i64 k)(hk:k<m)(c:yW (.pointer (Y (g,off+k*z))) v):(Hn Z o).run F w=.ok (.value v) w:=by
 obtain⟨rfl⟩:=c;unfold Hn;simp only[b,d,e];unfold ZL at a;split at a
 .rename_i h;cases a;rcases h with rfl|rfl<;>go_simp
 .split at a
  .rename_i h;cases a;subst h;go_simp
  .cases a
theorem SF{A:Option Addr}(b:o.op=.call {callee:=.builtin .len,args:= #[x],argTypes:= #[t]})(a:[24,27,28,29].contains t=true)(c:o.type=3)(e:Z x=.slice A m cp)(d:yW (.int .i64 m) v):(Hn Z o).run F w=.ok (.value v) w:=by
 obtain⟨rfl⟩:=d;unfold Hn;simp only[b,ab,zM,e,c];simp at a;rcases a with rfl|rfl|rfl|rfl<;>go_simp
theorem AW(c:o.op=.binOp .sub 3 x y 3)(e:Z x=.int .i64 a)(f:Z y=.int .i64 b)(h:Sm (a-b))(d:yW (.int .i64 (a-b)) v):(Hn Z o).run F w=.ok (.value v) w:=xaA
theorem XM{z:ae}{c:Int}(d:o.op=.call {callee:=.builtin .max,args:= #[x,y,z],argTypes:= #[3,3,3]})(e:o.type=3)(g:Z x=.int .i64 a)(h:Z y=.int .i64 b)(i:Z z=.int .i64 c)(f:yW (.int .i64 (max (max a b) c)) v):(Hn Z o).run F w=.ok (.value v) w:=by
 obtain⟨rfl⟩:=f;unfold Hn;simp only[d,ab,zM,g,h,i,e];go_simp;repeat (first|omega|split)
theorem E4(c:o.op=.binOp .add 3 x y 3)(e:Z x=.int .i64 a)(f:Z y=.int .i64 b)(h:Sm (a+b))(d:yW (.int .i64 (a+b)) v):(Hn Z o).run F w=.ok (.value v) w:=xaA
end
open Go.Conc
def bx:Ly:=match Tryz.f4.body with|some c=>c|_=>.skip
def Xu:Array Kp:=match bx with|.seq (.region _ ops _) _=>ops|_=> #[]
def TS:Array Kp:=match bx with|.seq _ (.seq (.seq (.region _ ops _) _) _)=>ops|_=> #[]
def E7:Array Kp:=match bx with|.seq _ (.seq (.seq _ (.cond _ (.seq (.region _ ops _) _) _)) _)=>ops|_=> #[]
def TT:Array Kp:=match bx with|.seq _ (.seq _ (.seq (.region _ ops _) _))=>ops|_=> #[]
def Up:Array Kp:=match bx with|.seq _ (.seq _ (.seq _ (.seq (.region _ ops _) _)))=>ops|_=> #[]
def Uq:Array Kp:=match bx with|.seq _ (.seq _ (.seq _ (.seq _ (.seq (.seq (.region _ ops _) _) _))))=>ops|_=> #[]
def Xv:Array Kp:=match bx with|.seq _ (.seq _ (.seq _ (.seq _ (.seq (.seq _ (.cond _ (.seq (.region _ ops _) _) _)) _))))=>ops|_=> #[]
def Us:Array Kp:=match bx with|.seq _ (.seq _ (.seq _ (.seq _ (.seq _ (.seq (.seq (.region _ ops _) _) _)))))=>ops|_=> #[]
def MM:Array Kp:=match bx with|.seq _ (.seq _ (.seq _ (.seq _ (.seq _ (.seq (.seq _ (.cond _ (.seq (.region _ ops _) _) _)) _)))))=>ops|_=> #[]
def Ut:Array Kp:=match bx with|.seq _ (.seq _ (.seq _ (.seq _ (.seq _ (.seq _ (.seq (.seq (.region _ ops _) _) _))))))=>ops|_=> #[]
def Vu:Array Kp:=match bx with|.seq _ (.seq _ (.seq _ (.seq _ (.seq _ (.seq _ (.seq (.seq _ (.cond _ (.seq (.region _ ops _) _) _)) _))))))=>ops|_=> #[]
def M1:Array Kp:=match bx with|.seq _ (.seq _ (.seq _ (.seq _ (.seq _ (.seq _ (.seq _ (.seq (.region _ ops _) _)))))))=>ops|_=> #[]
def QD:Array Kp:=match bx with|.seq _ (.seq _ (.seq _ (.seq _ (.seq _ (.seq _ (.seq _ (.seq _ (.seq (.region _ ops _) _))))))))=>ops|_=> #[]
def QF:Array Kp:=match bx with|.seq _ (.seq _ (.seq _ (.seq _ (.seq _ (.seq _ (.seq _ (.seq _ (.seq _ (.seq (.seq (.region _ ops _) _) _)))))))))=>ops|_=> #[]
def Vv:Array Kp:=match bx with|.seq _ (.seq _ (.seq _ (.seq _ (.seq _ (.seq _ (.seq _ (.seq _ (.seq _ (.seq (.seq _ (.cond _ (.seq (.region _ ops _) _) _)) _)))))))))=>ops|_=> #[]
def Rm:Array Kp:=match bx with|.seq _ (.seq _ (.seq _ (.seq _ (.seq _ (.seq _ (.seq _ (.seq _ (.seq _ (.seq _ (.seq (.seq (.region _ ops _) _) _))))))))))=>ops|_=> #[]
def Rn:Array Kp:=match bx with|.seq _ (.seq _ (.seq _ (.seq _ (.seq _ (.seq _ (.seq _ (.seq _ (.seq _ (.seq _ (.seq (.seq _ (.cond _ (.region _ ops _) _)) _))))))))))=>ops|_=> #[]
def EP:Array Kp:=match bx with|.seq _ (.seq _ (.seq _ (.seq _ (.seq _ (.seq _ (.seq _ (.seq _ (.seq _ (.seq _ (.seq _ (.seq (.region _ ops _) _)))))))))))=>ops|_=> #[]
def ze:Ly:=match Tryz.f26.body with|some c=>c|_=>.skip
def XK:Array Kp:=match ze with|.seq (.region _ ops _) _=>ops|_=> #[]
def Uu:Array Kp:=match ze with|.seq _ (.seq (.region _ ops _) _)=>ops|_=> #[]
def Uv:Array Kp:=match ze with|.seq _ (.seq _ (.seq (.region _ ops _) _))=>ops|_=> #[]
def XL:Array Kp:=match ze with|.seq _ (.seq _ (.seq _ (.seq (.region _ ops _) _)))=>ops|_=> #[]
def P5:ze=.seq (.region 0 XK false) (.seq (.region 1 Uu false) (.seq (.region 2 Uv false) (.seq (.region 3 XL false) (.ret)))):=rfl
variable{id N t:Nat}{p:Prop}{z:ae}{a b c v':M}{u:H}{xs:Array ae}{ts:Array Lk}
def Rs(n:Nat)(u:H)(f:Nat->M)(keep:Nat->Prop)(p:(Nat->M)->Prop)(a:Act)(w:H):Prop:=∃f',a=fa n f'/\X u u w/\(∀i,keep i->f' i=f i)/\p f'
def Rs.mk{u w:H}{f f':Nat->M}{keep:Nat->Prop}{p:(Nat->M)->Prop}(a:X u u w)(hk:∀i,keep i->f' i=f i)(b:p f'):aR (Rs n u f keep p) .normal (fa n f') w:=⟨f',rfl,a,hk,b⟩
def XF(b:Z x=a):(#[x]).map Z= #[a]:=by simp[b]
def MJ(c:Z x=a)(d:Z y=b):(#[x,y]).map Z= #[a,b]:=by simp[c,d]
def MK(d:Z x=a)(e:Z y=b)(h2:Z z=c):(#[x,y,z]).map Z= #[a,b,c]:=by simp[d,e,h2]
def XG{x y z u:ae}{a b c d:M}(e:Z x=a)(f:Z y=b)(h2:Z z=c)(g:Z u=d):(#[x,y,z,u]).map Z= #[a,b,c,d]:=by simp[e,f,h2,g]
def fG:Ly:=match Tryz.f35.body with|some c=>c|_=>.skip
def ZI:Array Kp:=br [0] fG
def Vo:Array Kp:=br [1,0,0] fG
def P6:Array Kp:=br [1,0,1,0] fG
def Vp:Array Kp:=br [1,0,1,1,4,0] fG
def P7:Array Kp:=br [1,1,0,0] fG
def Vq:Array Kp:=br [1,1,0,1,4,0] fG
def Vr:Array Kp:=br [1,1,1,0,0] fG
def ux:Ly:=dk [1,1,1,0,1,2,3] fG
def P8:Array Kp:=br [0,0] ux
def P9:Array Kp:=br [1,0,2,0,0] ux
def Qa:Array Kp:=br [1,0,2,0,1,4,0] ux
def Ig:Array Kp:=br [1,0,2,1,0] ux
def Qb:Array Kp:=br [1,0,2,1,1,4,0] ux
def Vt:Array Kp:=br [1,1] ux
def Ih:Array Kp:=br [1,1,1,1,0,0] fG
def Qc:Array Kp:=br [1,1,1,1,0,1,4,0] fG
def Qd:Array Kp:=br [1,1,1,1,1,0,0] fG
def uy:Ly:=dk [1,1,1,1,1,0,1,2,3] fG
def Ii:Array Kp:=br [0,0] uy
def B6:Array Kp:=br [1,0,2,0,0] uy
def Qe:Array Kp:=br [1,0,2,0,1,4,0] uy
def Ij:Array Kp:=br [1,0,2,1,0] uy
def Qf:Array Kp:=br [1,0,2,1,1,4,0] uy
def Qg:Array Kp:=br [1,1] uy
def Ik:Array Kp:=br [1,1,1,1,1,1,0,0] fG
def Qh:Array Kp:=br [1,1,1,1,1,1,0,1,4,0] fG
def Qi:Array Kp:=br [1,1,1,1,1,1,1,0,0] fG
def za:Ly:=dk [1,1,1,1,1,1,1,0,1,2,3] fG
def Il:Array Kp:=br [0,0] za
def B7:Array Kp:=br [1,0,2,0] za
def Qj:Array Kp:=br [1,0,2,1,4,0] za
def Qk:Array Kp:=br [1,1] za
def Ql:Array Kp:=br [1,1,1,1,1,1,1,1,0] fG
def ML:fG=.seq (.region 0 ZI false) (.seq (.seq (.region 1 Vo false) (.seq (.region 2 P6 false) (.cond (.tmp 10) (.seq (.region 3 Vp false) (.ret)) (.skip)))) (.seq (.seq (.region 4 P7 false) (.cond (.tmp 16) (.seq (.region 5 Vq false) (.ret)) (.skip))) (.seq (.seq (.region 6 Vr false) (.block 0 (.loop ux))) (.seq (.seq (.region 13 Ih false) (.cond (.tmp 44) (.seq (.region 14 Qc false) (.ret)) (.skip))) (.seq (.seq (.region 15 Qd false) (.block 2 (.loop uy))) (.seq (.seq (.region 22 Ik false) (.cond (.tmp 91) (.seq (.region 23 Qh false) (.ret)) (.skip))) (.seq (.seq (.region 24 Qi false) (.block 4 (.loop za))) (.seq (.region 29 Ql false) (.ret))))))))):=rfl
def Qm:ux=.seq (.seq (.region 7 P8 false) (.cond (.tmp 21) (.skip) (.exit 0))) (.seq (.block 1 (.seq (.seq (.region 9 P9 true) (.cond (.tmp 32) (.seq (.region 10 Qa false) (.ret)) (.skip))) (.seq (.region 11 Ig false) (.cond (.tmp 40) (.seq (.region 12 Qb false) (.ret)) (.skip))))) (.region 8 Vt false)):=rfl
def Qn:uy=.seq (.seq (.region 16 Ii false) (.cond (.tmp 49) (.skip) (.exit 2))) (.seq (.block 3 (.seq (.seq (.region 18 B6 true) (.cond (.tmp 77) (.seq (.region 19 Qe false) (.ret)) (.skip))) (.seq (.region 20 Ij true) (.cond (.tmp 87) (.seq (.region 21 Qf false) (.ret)) (.skip))))) (.region 17 Qg false)):=rfl
def Qo:za=.seq (.seq (.region 25 Il false) (.cond (.tmp 96) (.skip) (.exit 4))) (.seq (.block 5 (.seq (.region 27 B7 true) (.cond (.tmp 118) (.seq (.region 28 Qj false) (.ret)) (.skip)))) (.region 26 Qk false)):=rfl
def Oh{d i:Nat}(e:f i=a)(h:Nat.beq i d=false:=by exact rfl):ah f d v i=a:=(qYB (Nat.ne_of_beq_eq_false h)).tn e
def Ls{n t:Nat}(e:f t=v)(h:t<n:=by omega):(fa n f).eval (.tmp t)=v:=(fe h).tn e
def Tv:(fa n f).eval (.const v)=v:=rfl
def vq{x:M}:yW x x:=⟨rfl⟩
def XH{x:Bool}:x=x:=rfl
def dT[Decidable p](h:p)(e:true=r):decide p=r:=(decide_eq_true h).tn e
def dF[Decidable p](h:¬p)(e:false=r):decide p=r:=(decide_eq_false h).tn e
structure At(j:Nat)(p:Prop):Prop where h:p
structure Ac(j:Nat)(p:Prop):Prop where h:p
def XI(hi:ops[i]?=Y oi)(a:oi.dst=Y d)(c:Region.wanted oi (aw ops (fa n f).tmps)=true)(hB:X u u w)(h:∃v,(∀w',X u u w'->(Hn (fa n f).eval oi).run F w'=.ok (.value v) w')/\wpOps F ops Q rest (fa n (ah f d v)) w)(b:d<n:=by omega):wpOps F ops Q (i::rest) (fa n f) w:=let⟨v,hy,h⟩:=h;lV v hi a b c (hy w hB) h
def XJ(hi:ops[i]?=Y oi)(a:oi.dst=Y d)(c:Region.wanted oi (aw ops (fa n f).tmps)=false)(h:wpOps F ops Q rest (fa n (ah f d D)) w)(b:d<n:=by omega):wpOps F ops Q (i::rest) (fa n f) w:=lN hi a b c h
def Lv(o:Kp):Bool:=match o.op with|.call c=>(match c.callee with|.builtin _=>true|_=>false)|_=>true
def XO(_:Nat.blt j ops.size=true)(h:At (j+1) (wpAnyL F md ops (aR R) (λa=>X u u a) late k L (fa n f) w)):At j (wpAnyL F md ops (aR R) (λa=>X u u a) late k L (fa n f) w):=⟨h.h⟩
def XP(_:L.getD j true=false)(hi:ops[j]?=Y oi)(_:Lv oi=true)(b:oi.dst=Y d)(m:Region.wanted oi (aw ops (fa n f).tmps)=true)(hB:X u u w)
  (h:∃v,(∀w',X u u w'->(Hn (fa n f).eval oi).run F w'=.ok (.value v) w')/\At (j+1) (wpAnyL F md ops (aR R) (λa=>X u u a) late k (L.setIfInBounds j true) (fa n (ah f d v)) w))
  (g:d<n:=by omega)(l:Region.noSelect ops=true:=by kernel_rfl)(c:Region.free md ops L j=true:=by kernel_rfl)(i:(Region.ready md ops L).contains j=true:=by kernel_rfl)(e:nN md ops late j=true:=by kernel_rfl):At j (wpAnyL F md ops (aR R) (λa=>X u u a) late (k+1) L (fa n f) w):=let⟨v,hy,h⟩:=h;⟨tV v hi b g m l c i e hy hB h.h⟩
def XQ(_:L.getD j true=false)(hi:ops[j]?=Y oi)(b:oi.dst=Y d)(m:Region.wanted oi (aw ops (fa n f).tmps)=false)(hB:X u u w)
  (h:At (j+1) (wpAnyL F md ops (aR R) (λa=>X u u a) late k (L.setIfInBounds j true) (fa n (ah f d D)) w))
  (g:d<n:=by omega)(l:Region.noSelect ops=true:=by kernel_rfl)(c:Region.free md ops L j=true:=by kernel_rfl)(i:(Region.ready md ops L).contains j=true:=by kernel_rfl)(e:nN md ops late j=true:=by kernel_rfl):At j (wpAnyL F md ops (aR R) (λa=>X u u a) late (k+1) L (fa n f) w):=⟨tN hi b g m l c i e hB h.h⟩
def adc(_:Nat.blt j ops.size=true)(h:Ac (j+1) (wpAnyL F md ops (aR R) (λa=>X u u a) late k L (fa n f) w)):Ac j (wpAnyL F md ops (aR R) (λa=>X u u a) late k L (fa n f) w):=⟨h.h⟩
def Xs(fn:ba)(xs:Array ae)(a:Act)(u w:H)(p:M->H->Prop):Prop:=∃args v,xs.map a.eval=args/\(callFunc fn args).run F w=.ok (.enter fn args) w/\PH F fn args w (λe w'=>e=.returned v/\X w w w')/\∀w',X u u w'->p v w'
def XR(hi:ops[i]?=Y oi)(e:oi.op=.call {callee:=.value (.func fn),args:=xs,argTypes:=ts})(b:oi.dst=Y d)(g:Region.wanted oi (aw ops (fa n f).tmps)=true)(hB:X u u w)
  (h:Xs fn xs (fa n f) u w λv w'=>wpOps F ops Q rest (fa n (ah f d v)) w')(c:d<n:=by omega):wpOps F ops Q (i::rest) (fa n f) w:=
 let⟨_,_,ha,hf,hc,h⟩:=h;lC hi b c g (dm e ha rfl hf) hc λw' a=>h w' (hB.tn (a.mono hB.size))
def XS(_:L.getD j true=false)(hi:ops[j]?=Y oi)(g:oi.op=.call {callee:=.value (.func fn),args:=xs,argTypes:=ts})(c:oi.dst=Y d)(l:Region.wanted oi (aw ops (fa n f).tmps)=true)(hB:X u.heap.size u w)
  (h:Xs fn xs (fa n f) u w λv w'=>At (j+1) (wpAnyL F md ops (aR R) (λa=>X u.heap.size u a) late k (L.setIfInBounds j true) (fa n (ah f d v)) w'))(e:d<n:=by omega)(i:Region.ready md ops L=[j]:=by kernel_rfl):Ac j (wpAnyL F md ops (aR R) (λa=>X u.heap.size u a) late (k+1) L (fa n f) w):=
 let⟨_,_,ha,hf,hc,h⟩:=h;⟨tC i hi c e l (dm g ha rfl hf) hc λw' b=>⟨hB.tn (b.mono hB.size),(h w' (hB.tn (b.mono hB.size))).h⟩⟩
def kE(h:PH F fn args w λe w'=>e=.returned v/\w=w')(e:v=v'):PH F fn args w λe w'=>e=.returned v'/\X w w w':=h.mono λ_ _ h=>⟨e▸h.1,h.2▸X.refl _ _⟩
def kB(h:PH F fn args w λe w'=>e=.returned v/\X w w w')(e:v=v'):PH F fn args w λe w'=>e=.returned v'/\X w w w':=h.mono λ_ _ h=>⟨e▸h.1,h.2⟩
def ic(m:Nat){l:List Nat}{a:Act}(c:ops.size=m)(b:List.range m=l)(h:wpOps F ops Q l a w):Ly.wp F (.region id ops false) Q a w:=wF (by rw[c];exact b) h
def vB{a b:Bool}(h:a=b):M.bool a=.bool b:=h▸rfl
def vI{a b:Int}(h:a=b):M.int .i64 a=.int .i64 b:=h▸rfl
def Tn(hB:X u.heap.size u w){a:Act}(h:X u.heap.size u w.drew->At 0 (wpAnyL F .any ops Q (λb=>X u.heap.size u b) (λ_=>false) ops.size (Array.replicate ops.size false) a w.drew)):(Ly.region id ops true).wp F Q a w:=bK _ rR (h hB.drew).h
def XT{a:Act}(h:aR R .normal a w)(b:Region.ready md ops L=[]:=by kernel_rfl):Ac j (wpAnyL F md ops (aR R) (λc=>X u u c) late k L a w):=⟨cH b h k⟩
def Xt(h:Ac 0 p):At j p:=⟨h.h⟩
section
variable{a c:Int}
theorem Uw{k:Nat}{vs:Array M}(c:o.op=.extract x k)(d:Z x=.tuple vs)(a:vs[k]?=Y v):(Hn Z o).run F w=.ok (.value v) w:=by
 have b:=(kq.1 a).1;unfold Hn;simp only[c,d];simp[go_sem,b,(kq.1 a).2]
theorem Vw(b:o.op=.convert 5 3 x)(c:Z x=.int .u8 a)(h:0<=a/\a<=255)(e:yW (.int .i64 a) v):(Hn Z o).run F w=.ok (.value v) w:=by
 have ø:=0;exact Zq
theorem XY(d:o.op=.binOp .rem 3 x y 3)(f:Z x=.int .i64 a)(g:Z y=.int .i64 c)(b:0<=a/\a<=1000)(hc:0<c/\c<=1000)(e:yW (.int .i64 (a%c)) v):(Hn Z o).run F w=.ok (.value v) w:=by
 obtain⟨rfl⟩:=e;unfold Hn;simp only[d,f,g];go_simp;rw[qYB zz,Int.tmod_eq_emod_of_nonneg b.1]
theorem aak(b:o.op=.call {callee:=.builtin .min,args:= #[x,y],argTypes:= #[3,3]})(d:o.type=3)(f:Z x=.int .i64 a)(g:Z y=.int .i64 c)(e:yW (.int .i64 (min a c)) v):(Hn Z o).run F w=.ok (.value v) w:=xbL
theorem Yi(b:o.op=.unOp .neg 3 x)(c:Z x=.int .i64 a)(h:Sm (-a))(e:yW (.int .i64 (-a)) v):(Hn Z o).run F w=.ok (.value v) w:=Zq
theorem aaJ(b:o.op=.build 131 #[(1,x)])(c:Z x=.int .i64 a)(e:yW (.agg #[.int .i64 0,.int .i64 a]) v):(Hn Z o).run F w=.ok (.value v) w:=by
 obtain⟨rfl⟩:=e;unfold Hn;simp only[b,zM,c];go_simp
theorem Yk{off:Nat}(b:o.op=.load 131 x)(d:Z x=.pointer (Y (g,off)))(f:w (g,off)=Y (.int .i64 a))(h:w (g,off+1)=Y (.int .i64 c))(e:yW (.agg #[.int .i64 a,.int .i64 c]) v):(Hn Z o).run F w=.ok (.value v) w:=by
 obtain⟨rfl⟩:=e;unfold Hn;simp only[b,d];go_simp
end
structure Qz(q:Prop):Prop where h:q
def Tw{p q:Prop}(d:q)(h:Qz q->p:=by intro hqq;(repeat (first|((first|refine XI rfl rfl ?_ hB ?_|refine XP rfl rfl rfl rfl ?_ hB ?_);(first|exact bY rfl|(refine eE rfl rfl ?_ ?_;omega;focus ((repeat (first|exact au _ _ _|assumption|refine Oh ?_));done)));refine⟨?_,λf e=>?_,?_⟩;rotate_left;focus ((first|refine bq (.inl rfl) ?_|refine bq (.inr rfl) ?_|(refine TH (g:=?_) (off:=?_) rfl rfl ?_ ?_;rotate_left 2)|(refine abe (g:=?_) (off:=?_) rfl rfl ?_ ?_;rotate_left 2)|(refine aa6 (r:=?_) rfl ?_ ?_;rotate_left 1)|(refine abc (r:=?_) (q:=?_) (p:=?_) rfl ?_ ?_ ?_ ?_;rotate_left 3)|(refine Vh (r:=?_) (q:=?_) (p:=?_) rfl ?_ ?_ ?_ ?_;rotate_left 3)|(refine Sr (a:=?_) (b:=?_) (r:=?_) rfl rfl ?_ ?_ ?_ ?_;rotate_left 3)|(refine j0 (r:=?_) rfl ?_ ?_;rotate_left 1)|(refine Vj (g:=?_) (off:=?_) (m:=?_) (cp:=?_) (k:=?_) rfl rfl ?_ ?_ ?_ ?_;rotate_left 5)|(refine Xp (g:=?_) (off:=?_) (m:=?_) (cp:=?_) (k:=?_) rfl ?_ ?_ ?_ ?_;rotate_left 5)|(refine SF (A:=?_) (m:=?_) (cp:=?_) rfl rfl rfl ?_ ?_;rotate_left 3)|(refine E4 (a:=?_) (b:=?_) rfl ?_ ?_ ?_ ?_;rotate_left 2)|(refine AW (a:=?_) (b:=?_) rfl ?_ ?_ ?_ ?_;rotate_left 2)|(refine gE (g:=?_) (B:=?_) rfl ?_ ?_ ?_;rotate_left 2)|(refine qM (g:=?_) (sh:=?_) (s:=?_) rfl ?_ ?_ ?_ ?_;rotate_left 3)|(refine Xo (g:=?_) (off:=?_) (h:=?_) (s:=?_) (r:=?_) rfl ?_ ?_ ?_ ?_ ?_;rotate_left 5)|(refine XM (a:=?_) (b:=?_) (c:=?_) rfl rfl ?_ ?_ ?_ ?_;rotate_left 3)|(refine Vw (a:=?_) rfl ?_ ?_ ?_;rotate_left 1)|(refine XY (a:=?_) (c:=?_) rfl ?_ ?_ ?_ ?_ ?_;rotate_left 2)|(refine aak (a:=?_) (c:=?_) rfl rfl ?_ ?_ ?_;rotate_left 2)|(refine Yi (a:=?_) rfl ?_ ?_ ?_;rotate_left 1)|(refine aaJ (a:=?_) rfl ?_ ?_;rotate_left 1)|(refine Yk (g:=?_) (off:=?_) (a:=?_) (c:=?_) rfl ?_ ?_ ?_ ?_;rotate_left 4));all_goals first|(refine Ls ?_;(repeat (first|exact au _ _ _|assumption|refine Oh ?_));done)|exact Tv|(refine(cd rfl).tn ?_;first|(refine Ls ?_;(repeat (first|exact au _ _ _|assumption|refine Oh ?_));done)|exact Tv)|(refine(qYB Bool.false_ne_true).tn ?_;first|(refine Ls ?_;(repeat (first|exact au _ _ _|assumption|refine Oh ?_));done)|exact Tv)|assumption|(refine Eq.tn (Below.cell (B:=?_) (w:=?_) ?_ ?_) ?_;rotate_left 2;assumption;assumption;assumption)|(refine Eq.tn (Below.block (B:=?_) (w:=?_) ?_ _ ?_) ?_;rotate_left 2;assumption;assumption;assumption)|(refine dT ?_ ?_;omega;exact rfl)|(refine dF ?_ ?_;omega;exact rfl)|(unfold Sm;omega)|omega|exact vq|exact XH))|((first|refine XJ rfl rfl ?_ ?_|refine XQ rfl rfl rfl ?_ hB ?_);(focus refine jc rfl rfl ?_ ?_;omega;(repeat (first|exact au _ _ _|assumption|refine Oh ?_));done))|refine XO rfl ?_));exact hqq.h):p:=h ⟨d⟩
def rr(h:p:=by((first|(refine Tn hB ?_;intro hB)|refine ic 1 rfl rfl ?_|refine ic 2 rfl rfl ?_|refine ic 3 rfl rfl ?_|refine ic 4 rfl rfl ?_|refine ic 5 rfl rfl ?_|refine ic 6 rfl rfl ?_|refine ic 7 rfl rfl ?_|refine ic 8 rfl rfl ?_|refine ic 9 rfl rfl ?_|refine ic 10 rfl rfl ?_|refine ic 11 rfl rfl ?_|refine ic 12 rfl rfl ?_|refine ic 13 rfl rfl ?_|refine ic 14 rfl rfl ?_|refine ic 15 rfl rfl ?_|refine ic 16 rfl rfl ?_|refine ic 17 rfl rfl ?_|refine ic 18 rfl rfl ?_|refine ic 19 rfl rfl ?_|refine ic 20 rfl rfl ?_|refine ic 21 rfl rfl ?_|refine ic 22 rfl rfl ?_|refine ic 23 rfl rfl ?_|refine ic 24 rfl rfl ?_|refine ic 25 rfl rfl ?_|refine ic 26 rfl rfl ?_|refine ic 27 rfl rfl ?_|refine ic 28 rfl rfl ?_|refine ic 29 rfl rfl ?_|refine ic 30 rfl rfl ?_|refine ic 31 rfl rfl ?_|refine ic 32 rfl rfl ?_|refine ic 33 rfl rfl ?_);refine Tw ?_;(try refine Xt ?_);(repeat (first|(((first|refine XR rfl rfl rfl ?_ hB ?_|refine XS rfl rfl rfl rfl ?_ hB ?_);(first|exact bY rfl|(refine eE rfl rfl ?_ ?_;omega;focus ((repeat (first|exact au _ _ _|assumption|refine Oh ?_));done)));refine⟨?_,?_,?_,?_,?_,λe hB=>?_⟩;rotate_left 2;(focus ((first|(refine XF (a:=?_) ?_;rotate_left 1)|(refine MJ (a:=?_) (b:=?_) ?_ ?_;rotate_left 2)|(refine MK (a:=?_) (b:=?_) (c:=?_) ?_ ?_ ?_;rotate_left 3)|(refine XG (a:=?_) (b:=?_) (c:=?_) (d:=?_) ?_ ?_ ?_ ?_;rotate_left 4));all_goals first|(refine Ls ?_;(repeat (first|exact au _ _ _|assumption|refine Oh ?_));done)|exact Tv));exact rfl;(first|exact hc _ hB|exact hcon _ hB|exact hcon2 _ hB|exact hcon3 _ hB|((first|refine kE (bz _ _ _ _) ?_|(refine kB (rH _ _ ?_ ?_ _) ?_;assumption;assumption)|(refine kB (rI _ _ ?_ _) ?_;assumption));(first|(refine vB (b:=?_) ?_;rotate_left;assumption)|(refine vI (b:=?_) ?_;rotate_left;assumption)|exact rfl))));refine Tw ?_;(try refine Xt ?_))|refine adc rfl ?_));(first|refine XT ?_|refine lE ?_);refine Rs.mk hB (λi hi=>?_) ?_;(focus ((repeat (refine(cu _ _ ?_).tn ?_;omega));exact rfl));(first|exact rfl|exact⟨rfl,rfl⟩|exact dC|(simp;done)))):p:=h
def bn{x y:Ly}(u:H)(keep:Nat->Prop)(p:(Nat->M)->Prop)(h:Ly.wp F x (aR (Rs N u f keep p)) (fa N f) w)(next:∀f' w',X u u w'->(∀i,keep i->f' i=f i)->p f'->Ly.wp F y Q (fa N f') w'):Ly.wp F (.seq x y) Q (fa N f) w:=
 wp_seq (wp_mono h λe a w' d=>by
  obtain⟨rfl,f',rfl,b,h2,c⟩:=d.elim;exact next f' w' b h2 c)
def To{x:Ly}(u:H)(keep:Nat->Prop)(p:(Nat->M)->Prop)(h:Ly.wp F x (aR (Rs N u f keep p)) (fa N f) w)(next:∀f' w',X u.heap.size u w'->(∀i,keep i->f' i=f i)->p f'->Q .normal (fa N f') w'):Ly.wp F x Q (fa N f) w:=
 wp_mono h λe a w' d=>by
  obtain⟨rfl,f',rfl,b,h2,c⟩:=d.elim;exact next f' w' b h2 c
variable{l:List (Int×Int)}{keep:Nat->Prop}{p:(Nat->M)->Prop}{x y:Ly}{b:aC}
def sF{n t k:Nat}{f:Nat->M}(h:t<n)(e:f t=.int .i64 k):(intOf ((fa n f).tmps.getD t D)).toNat=k:=by
 rw[Array.getD_eq_getD_getElem?,ej h,e];simp[intOf]
def Lp(N:Nat)(u:H)(f:Nat->M)(R:Int)(e:Exit)(a:Act)(w:H):Prop:=(e=.normal/\R=0/\∃f',a=fa N f'/\X u u w/\f' 1=f 1)\/(e=.ret/\R≠0/\∃f',a=fa N f'/\X u u w/\f' 2=.int .i64 R)
def TK(a4:aK u g 31 b)(a5: -1000<=b.S)(a6:b.S<=1000)(K:f 1=(g,0))(a3:g<u)(x10:u (g,10)=Y (.slice b.U.A b.U.n b.U.c))(C:bp u b.U l)(h4:f 4=.int .i64 (0:Nat))(hB:X u u w):
  Ly.wp F (.block 0 (.loop ux)) (Lp 119 u f (nD b.S l)) (fa 119 f) w:=by
 have ø:=0;exact sT
def TL(x6:u (g,6)=Y (.int .i64 b.rf))(a':2<=b.rf)(a0:b.rf<=30)(x9:u (g,9)=Y (.int .i64 b.ch))(K:f 1=(g,0))(a3:g<u)(x11:u (g,11)=Y (.slice b.E.A b.E.n b.E.c))(C:bp u b.E l)(h5:f 5=.int .i64 (0:Nat))(hB:X u u w):
  Ly.wp F (.block 2 (.loop uy)) (Lp 119 u f (nF b.rf b.ch l)) (fa 119 f) w:=by
 have å:=0;exact sT
def TM{l:List (Int×Int×Bool)}(a4:aK u g 31 b)(b1:b.U.n<=1000)(a5: -1000<=b.S)(a6:b.S<=1000)(K:f 1=(g,0))(a3:g<u)(x12:u (g,12)=Y (.slice b.W.A b.W.n b.W.c))(C:fL u b.W l)(h6:f 6=.int .i64 (0:Nat))(hB:X u u w):
  Ly.wp F (.block 4 (.loop za)) (Lp 119 u f (qi b.S b.U.n l)) (fa 119 f) w:=by
 have æ:=0;exact sT
variable{x:ae}
theorem B8{b:aC}(c:o.op=.box 31 x)(a:Z x=b.v):(Hn Z o).run F w=.ok (.value (.pointer (Y (w.heap.size,0)))) (w.alloc (aE b 31)):=by
 unfold aC.v at a;unfold Hn;simp only[c,a];unfold aE;go_simp;try rfl
def ZO{f:Nat->M}{r:Int}{w:H}(h:f 2=r):(results Tryz.f35 (fa 119 f).tmps).run F w=.ok (.int .i64 r) w:=by
 have e:(fa 119 f).tmps[2]?=Y (.int .i64 r):=by rw[ej zz,h]
 generalize(fa 119 f).tmps=A at e;unfold results Tryz.f35;simp[e]
def mm(b:aC)(l:bN)(w:H)(j:aI w b l):
  PH F 35 #[b.v] w λe w'=>e=.returned (.int .i64 (ay b l))/\X w w w':=by
 refine gy 119 Tryz.func35 (c:=fG) rfl rfl λf a2=>?_;have f0:f 0=b.v:=a2 _;clear a2;rw[ML];refine wp_seq (wF (l:=[0,1]) rfl ?_);refine lV (d:=1) (.pointer (Y ⟨w.heap.size,0,I⟩)) rfl rfl zz wnn (B8 rfl (ag (t:=0) zz f0)) ?_;refine lV (d:=2) (.int .i64 0) rfl rfl zz wnn (bq (.inr rfl) rfl) ?_;refine lE ?_;have x:aK (w.alloc (aE b 31)) w 31 b:=Sp _ _;have B:X w w (w.alloc (aE b 31)):=(X.refl _ _).alloc (qT _) _;have a6:(w.alloc (aE b 31)).heap.size=w.heap.size+1:=aa _ _;have j:=j.below B;have e1:ah (ah f 1 (.pointer (Y (w.heap.size,0)))) 2 (.int .i64 0) 1=.pointer (Y (w.heap.size,0)):=rfl;generalize ah (ah f 1 (.pointer (Y ⟨w.heap.size,0,I⟩))) 2 (.int .i64 0)=f1 at e1|-;generalize w.alloc (aE b 31)=u at x B a6 j|-;have E:(w:Nat)<u:=zz;generalize P:w.heap.size=g at e1 x E;have hB:X u u u:=X.refl _ _;have n:∀{f' w'},X u u w'->∀{r},f' 2=.int .i64 r->ay b l=r->bodyPost F Tryz.f35 (λe w'=>e=.returned (.int .i64 (ay b l))/\X g w w') .ret (fa 119 f') w':=λhB r h2 k=>by
  subst k;exact bd (v:=.int .i64 (ay b l)) (ZO h2) rfl ⟨rfl,P▸B.tn (hB.mono B.size)⟩
 obtain⟨r,k⟩:∃r,dZ b l.C=r:=⟨_,rfl⟩;have hc:=λw1 (h:X u.heap.size u w1)=>kB (Ic b l.C w1 (j.C.below h)) (vI k);refine wp_seq (bn u (λi=>i<7/\i≠3) (λf'=>f' 3=.int .i64 r) rr λf2 w2 hB k2 q2=>?_);have e1:=(k2 1 zz).tn e1;clear hc;cases K:(r != 0);rotate_left
 .refine bn u (· < 7) (λf'=>f' 10=.bool true) rr λf3 V hB p o=>wp_cond_true (ag zz o) ?_;have e3:=(p 3 zz).tn q2;refine bn u (λi=>i<7/\i≠2) (λf'=>f' 2=.int .i64 r) rr λW w4 hB R z=>wp_ret ?_;refine n hB z ?_;have C:r≠0:=by simpa using K
  rw[<- k]at C|-;unfold dZ at C|-;unfold ay;split
  .rfl
  .rename_i P;rw[qYB P]at C;rw[cd C]
 .have a5:r=0:=by simpa using K
  refine bn u (· < 7) (λf'=>f' 10=.bool false) rr λf3 V hB p o=>wp_cond_false (ag zz o) (wp_skip ?_);have e1:=(p 1 zz).tn e1;rw[a5]at k;clear k2 p q2 o K;have Q:cA b l.C=0:=by
   by_cases h:cA b l.C=0
   .exact h
   .unfold dZ at k;rw[cd h]at k;exact dE k h
  have a1:cZ b=0:=by unfold dZ at k;rw[qYB (by simp[Q])]at k;exact k
  obtain⟨t1,t2,t3,t4,t5,t6,t7,t8,t9,b4,b5⟩:=cS Q;obtain⟨u1,u2,u3,u4,u5,u6,u7,u8,u9⟩:=wL a1;have HK:ay b l=if fH b.S l.U≠0 then fH b.S l.U else if fT b.rf b.ch l.E≠0 then fT b.rf b.ch l.E else ki b.S l.U.length l.W:=by
   rw[ay,qYB (by simp[Q]),qYB (by simp[a1])]
  obtain⟨x0,x1,x2,x3,x4,x5,x6,x7,x8,x9,a7,a8,a9⟩:=aM x;have O:b.U.n=l.U.length:=j.U.1;have b1:l.U.length<=1000:=j.U.2.2.1;have a0:b.E.n=l.E.length:=j.E.1;have b3:b.W.n=l.W.length:=j.W.1;refine wp_seq ?_;cases hF:ax (b.U.n:Nat) 1 4
  .refine bn u (· < 7) (λf'=>f' 16=.bool true) rr λf3 V hB p o=>wp_cond_true (ag zz o) ?_;refine bn u (λi=>i<7/\i≠2) (λf'=>f' 2=.int .i64 2) rr λW w4 hB R z=>wp_ret (n hB z ?_);have:fH b.S l.U=2:=by rw[fH,<- O,qYB (by simp[hF])]
   rw[HK,this];rfl
  .refine bn u (· < 7) (λf'=>f' 16=.bool false) rr λf3 V hB p o=>wp_cond_false (ag zz o) (wp_skip ?_);have e1:=(p 1 zz).tn e1;have a3:fH b.S l.U=nD b.S l.U:=by rw[fH,<- O,cd hF]
   rw[a3]at HK;refine wp_seq (bn u (λi=>i<7/\i≠4) (λf'=>f' 4=.int .i64 0) rr λW w4 hB R z=>?_);have e1:=(R 1 zz).tn e1;refine wp_mono (TK x zz zz e1 E a7 j.U z hB) λe a w5 y=>?_;rcases y with⟨rfl,L,f5,rfl,hB,S⟩|⟨rfl,L,f5,rfl,hB,S⟩;rotate_left
   .exact n hB S (by rw[HK,cd L])
   have e1:=S.tn e1;rw[qYB (by simp[L])]at HK;refine wp_seq ?_;by_cases a':3<b.E.n
   .refine bn u (· < 7) (λf'=>f' 44=.bool true) rr λf6 w6 hB k6 T=>wp_cond_true (ag zz T) ?_;refine bn u (λi=>i<7/\i≠2) (λf'=>f' 2=.int .i64 2) rr λA G hB q m=>wp_ret (n hB m ?_);have:fT b.rf b.ch l.E=2:=by rw[fT,cd zz]
    rw[HK,this];rfl
   .refine bn u (· < 7) (λf'=>f' 44=.bool false) rr λf6 w6 hB k6 T=>wp_cond_false (ag zz T) (wp_skip ?_);have e1:=(k6 1 zz).tn e1;have a4:fT b.rf b.ch l.E=nF b.rf b.ch l.E:=by rw[fT,qYB zz]
    rw[a4]at HK;refine wp_seq (bn u (λi=>i<7/\i≠5) (λf'=>f' 5=.int .i64 0) rr λA G hB q m=>?_);have e1:=(q 1 zz).tn e1;refine wp_mono (TL x6 zz zz x9 e1 E a8 j.E m hB) λe a w8 y=>?_;rcases y with⟨rfl,N,J,rfl,hB,s⟩|⟨rfl,N,J,rfl,hB,s⟩;rotate_left
    .exact n hB s (by rw[HK,cd N])
    have e1:=s.tn e1;rw[qYB (by simp[N])]at HK;refine wp_seq ?_;by_cases b2:4<b.W.n
    .refine bn u (· < 7) (λf'=>f' 91=.bool true) rr λf9 w9 hB k9 U=>wp_cond_true (ag zz U) ?_;refine bn u (λi=>i<7/\i≠2) (λf'=>f' 2=.int .i64 2) rr λA G hB q m=>wp_ret (n hB m ?_);rw[HK,ki,cd zz]
    .refine bn u (· < 7) (λf'=>f' 91=.bool false) rr λf9 w9 hB k9 U=>wp_cond_false (ag zz U) (wp_skip ?_);have e1:=(k9 1 zz).tn e1;rw[ki,qYB zz,<- O]at HK;refine wp_seq (bn u (λi=>i<7/\i≠6) (λf'=>f' 6=.int .i64 0) rr λA G hB q m=>?_);have e1:=(q 1 zz).tn e1;refine wp_mono (TM x zz zz zz e1 E a9 j.W m hB) λe a w8 y=>?_;rcases y with⟨rfl,Z,J,rfl,hB,s⟩|⟨rfl,Z,J,rfl,hB,s⟩;rotate_left
     .exact n hB s HK
     refine bn u (λi=>i<7/\i≠2) (λf'=>f' 2=.int .i64 0) rr λA G hB q m=>wp_ret (n hB m ?_);rw[HK,Z]
variable{x:Int×Int×Bool}{a c:Int}{l:bN}
theorem aaQ(b:aC)(l:bN)(f:Nat)(C:Array M)(a1:Enters F f)(w:H)(z:aI w b l)(u:aD w)(o:ay b l=0)(y:abo f C b true w)(t:aJ b l b.D.toNat=[]):
  PH F 52 #[b.v,.func (.func f) #[] C] w (Uy 9 w):=by
 have s:=Hm z;have E:=Hm u;have G:=Hm y;have n:=λa (d:aI a b l) (h2:aD a)=>cG b l a d h2;have p:=λa (d:aI a b l)=>sQ b l o a d;have B:=λa (d:X w.heap.size w a)=>G.out a d;simp only[o]at n;simp only[t]at p;clear o t z u y;have b3:=@run_makeMap F;have a':∀(args:Array M) (w:H),(callFunc f args).run F w=.ok (.enter f args) w:=a1;unfold aC.v at n B p|-;go_enter Tryz.func52,Tryz.ntmps52
 go_wp2_with (first
  | (go_at_call 50;refine(n _ (aq (aq s.out _) _) (ai (ai E.out _) _)).mono ?_;rintro e a ⟨rfl,h⟩;obtain⟨a7,a0⟩:=aU h;have b7:w.heap.size+2<=a.heap.size:=(by have:=h.size;simp only[aa]at this;omega);have b6:w.heap.size<a.heap.size:=zz;have a5:w.heap.size+1<a.heap.size:=zz;have q:X w.heap.size w a:=(((X.refl _ w).alloc (qT _) _).alloc ss _).tn (h.mono so))
  | (go_at_fn f;refine(B _ (by exact bt)).mono ?_;rintro e g ⟨rfl,i⟩;obtain⟨a8,b1⟩:=aU i;have m:X w.heap.size w g:=(((q.alloc q.size _).alloc so _)).tn (i.mono so);have b8:a.heap.size+2<=g.heap.size:=(by have:=i.size;simp only[aa]at this;omega);have b9:a.heap.size+1<g.heap.size:=zz;have a6:w.heap.size+1<g.heap.size:=zz)
  | (go_at_call 51;refine(p _ (s.out.below m)).mono ?_;rintro e k ⟨A,c,rfl,b4,j⟩;obtain⟨a9,b2⟩:=aU j;have b':=j.size;have b0:a.heap.size+1<k.heap.size:=zz;have c1:w.heap.size+1<k.heap.size:=zz))
 have a2:a.heap[w.heap.size+1]?=Y (.cells (iG bI iy I) 106 (0,0)):=(h.block _ ss).tn (by rw[<- aa w (aE b 31)];exact Sp _ _);have a3:g.heap[w.heap.size+1]?=Y (.cells (iG bI iy I) 106 (0,0)):=(i.block _ so).tn ((QR _ _ so).tn ((QR _ _ a5).tn a2));have a4:(k.setCell (a.heap.size+1,13) (.slice A 0 c)).heap[w.heap.size+1]?=Y (.cells (iG bI iy I) 106 (0,0)):=(X.heap_setCell _ _ _ _ (by show w.heap.size+1≠a.heap.size+1;omega)).tn ((j.block _ a6).tn a3);have r:X w w (k.setCell (a.heap.size+1,13) (.slice A 0 c)):=(m.tn (j.mono m.size)).setCell so _;obtain⟨d,h2⟩:=Bs (.int .i64 0) (.int .i64 0) (.int .i64 0) (.int .i64 0) (.int .i64 0) (.slice I 0 0) (.int .i64 0) (.int .i64 0) (.int .i64 0) (.int .i64 0) (.slice I 0 0) (.slice I 0 0) (.slice I 0 0) (.slice I 0 0) (.map I) a4;obtain⟨c0,J,Q,R,S,T,U,V,W,Z,K,L,N,O,P⟩:=gH d;refine bd (v:=.tuple #[kn0,.int .i64 9]) ?_ rfl ⟨rfl,r.tn (h2.below r.size (λx b5=>zz))⟩;simp[results,Tryz.results52,go_sem,kn0,uC,bI,iy,c0,J,Q,R,S,T,U,V,W,Z,K,L,N,O,P]
theorem Ro(b:aC)(l:bN)(w:H)(h:aI w b l)(d:aD w)(hc:ay b l=0)(a:aJ b l b.D.toNat=[]):
  PH F 25 #[b.v] w (yg (vL b l) w):=by
 have m:=Hm h;have k:=Hm d;have f:cP b l true=9:=by unfold cP;rw[qYB (by simp[hc]),qYB ss,cd a]
 have j:PQ (vL b l=(0,0,0,9)):=by unfold vL;rw[PQ,f];rfl
 have c:=aaQ b l 53 #[] lT (w.alloc (aE b 31)) (aq m.out _) (ai k.out _) hc (gW b _) a;unfold Uy at c;clear h d hc a f;unfold aC.v aE kn0 uC at c;unfold aC.v;go_enter Tryz.func25,Tryz.ntmps25;go_wp2_with (go_at_call 52;refine c.mono ?_;rintro e q ⟨rfl,g⟩;obtain⟨n,o⟩:=aU g;have i:=di g;have p:=i.size);rw[j.out];refine bd (v:=.tuple #[.int .i64 0,.int .i64 0,.int .i64 0,.int .i64 9]) (by simp[results,Tryz.results25,go_sem]) rfl ⟨rfl,?_⟩;exact bt
def Qx(b:aC)(l:bN)(w:H)(c:aI w b l)(a:aD w)(hc:ay b l=0):PH F 25 #[b.v] w (yg (vL b l) w):=by
 by_cases h:aJ b l b.D.toNat=[]
 .exact Ro b l w c a hc h
 .exact LF b l w c a (by unfold cP;rw[qYB (by simp[hc]),qYB ss,qYB h])
def MZ{S n:Int}(b:0<=x.1/\x.1<n)(c:0<=x.2.1/\x.2.1<S):∀{l:List (Int×Int×Bool)},qi S n l=0->qi S n (l++[x])=0
 | [],_=>by
  obtain⟨a,s,q⟩:=x;show(if(ax a 0 (n-1)&&ax s 0 (S-1))=false then 6 else qi S n [])=0;dsimp only at b c;rw[cq.2 (show 0<=a/\a<=n-1 by omega),cq.2 (show 0<=s/\s<=S-1 by omega)];rfl
 | (a,s,q)::r,h=>by
  unfold qi at h;show(if(ax a 0 (n-1)&&ax s 0 (S-1))=false then 6 else qi S n (r++[x]))=0;split at h
  .omega
  .rename_i d;rw[qYB d];exact MZ b c h
def Ov{b:aC}{l:bN}{s:Sl}(d:ay b l=0)(k:l.W.length<4)(f:0<=x.1/\x.1<l.U.length)(h:0<=x.2.1/\x.2.1<b.S):ay {b with W:=s} {l with W:=l.W++[x]}=0:=by
 obtain⟨g,c,m,i,a⟩:=bP d;have e:ki b.S l.U.length (l.W++[x])=0:=by
  unfold ki at a|-;rw[qYB zz]at a;rw[qYB (by rw[ln,List.length_singleton];omega)];exact MZ f h a
 have j:cA {b with W:=s} l.C=0:=g;have hc:cZ {b with W:=s}=0:=c;unfold ay;rw[qYB (by show¬cA {b with W:=s} l.C≠0;omega),qYB zz,qYB (by show¬fH b.S l.U≠0;omega),qYB (by show¬fT b.rf b.ch l.E≠0;omega)];exact e
section
variable{x y z:ae}
theorem Yl(b:o.op=.build 89 #[(0,x),(1,y),(2,z)])(d:Z x=.int .i64 a)(e:Z y=.int .i64 c)(f:Z z=.bool q):(Hn Z o).run F w=.ok (.value (wV (a,c,q))) w:=by
 unfold Hn wV;simp only[b,zM,d,e,f];go_simp
theorem Vx(b:o.op=.build 89 #[(0,x),(1,y)])(d:Z x=.int .i64 a)(e:Z y=.int .i64 c):(Hn Z o).run F w=.ok (.value (wV (a,c,false))) w:=by
 unfold Hn wV;simp only[b,zM,d,e];go_simp
theorem Yp(b:o.op=.call {callee:=.builtin .max,args:= #[x,y],argTypes:= #[3,3]})(d:o.type=3)(f:Z x=.int .i64 a)(g:Z y=.int .i64 c):(Hn Z o).run F w=.ok (.value (.int .i64 (max a c))) w:=by
 have ø:=0;exact xbL
end
def Yq{f:Nat->M}{r:Int}{q:Bool}{w:H}(h:f 6=r)(b:f 7=q):(results Tryz.f26 (fa 39 f).tmps).run F w=.ok (.tuple #[.int .i64 r,.bool q]) w:=by
 have e:(fa 39 f).tmps[6]?=Y (.int .i64 r):=by rw[ej zz,h]
 have a:(fa 39 f).tmps[7]?=Y (.bool q):=by rw[ej zz,b]
 generalize(fa 39 f).tmps=A at e a;unfold results Tryz.f26;simp[e,a]
section
variable{g x y:Nat}
def P3{r c:Nat}{ops:Array Kp}(N:(r=1/\ops=Uu/\c=8/\q=true)\/(r=2/\ops=Uv/\c=10/\q=false))(d:aI u b l)(n:aD u)(hc:ay b l=0)(o:l.W.length<4)(Q:x<l.U.length)(R:(y:Int)<b.S)(hB:X u u w)(G:aK w g 31 b)
  (e1:f 1=x)(z:f 2=y)(A:f 3=(g,0)):
  Ly.wp F (.region r ops false) (aR (Rs 39 u f (λj=>j<12/\j≠c/\j≠c+1) λf'=>f' c=.int .i64 (aJ b {l with W:=l.W++[((x:Int),(y:Int),q)]} b.D.toNat).length/\f' (c+1)=.int .i64 0)) (fa 39 f) w:=by
 have d:=d.below hB;have n:=n.below hB;have t:=EL b l ((x:Int),(y:Int),q) w d.W;have i:=λ(W:Sl) k (m:aI k {b with W:=W} {l with W:=l.W++[((x:Int),(y:Int),q)]}) h2=>vG {b with W:=W} {l with W:=l.W++[((x:Int),(y:Int),q)]} k m h2 (Ov hc o (by dsimp only;omega) (by dsimp only;omega));have s:∀W:Sl,oK {b with W:=W} {l with W:=l.W++[((x:Int),(y:Int),q)]}=(((aJ b {l with W:=l.W++[((x:Int),(y:Int),q)]} b.D.toNat).length:Int),0):=λW=>by
  unfold oK;rw[qYB (by rw[Ov hc o (by dsimp only;omega) (by dsimp only;omega)];simp)];rfl
 simp only[s]at i;unfold oL at i;dsimp only at i;have p:(l.W++[((x:Int),(y:Int),q)]).length=l.W.length+1:=by rw[ln,List.length_singleton]
 clear s;generalize l.W++[((x:Int),(y:Int),q)]=L at t i p|-;rcases N with⟨rfl,rfl,rfl,rfl⟩|⟨rfl,rfl,rfl,rfl⟩
 all_goals
  refine wF (l:=[0,1,2,3,4,5,6,7,8,9,10]) rfl ?_;refine lV b.v rfl rfl zz wnn (gE rfl (Ls A) G vq) ?_;refine lV _ rfl rfl zz wnn (bq (.inl rfl) (Ls (nt e1))) ?_;refine lV _ rfl rfl zz wnn (bq (.inl rfl) (Ls (nt (nt z)))) ?_;first|refine lV _ rfl rfl zz wnn (Yl rfl (Ls rfl) (Ls rfl) rfl) ?_|refine lV _ rfl rfl zz wnn (Vx rfl (Ls rfl) (Ls rfl)) ?_
  refine lR (E:=λv w'=>∃W:Sl,v=({b with W:=W}:aC).v/\W.n=l.W.length+1/\w'.ownsRow w.heap.size 89 3 (.slice W.A W.n W.c) W.n (L.flatMap rO)/\X w.heap.size w w') rfl rfl zz wnn (dm rfl (MJ (Ls rfl) (Ls rfl)) rfl rfl) (t.mono λe w' h=>by
   obtain⟨W,m,h2⟩:=h;exact⟨_,m,W,rfl,h2⟩) λv k O=>?_
  obtain⟨W,rfl,J,K,a⟩:=O;have B:=Bw K (J.tn p.symm) zz;refine lC rfl rfl zz wnn (dm rfl (XF (Ls rfl)) rfl rfl) (i W k ⟨(d.below a).C,(d.below a).U,(d.below a).E,B⟩ (n.below a)) λS C=>?_;refine lV _ rfl rfl zz wnn (bq (.inl rfl) (Ls (au _ _ _))) ?_;refine lV _ rfl rfl zz wnn (Uw rfl (Ls rfl) rfl) ?_;refine lV _ rfl rfl zz wnn (Uw rfl (Ls rfl) rfl) ?_;iterate 2 (refine lV _ rfl rfl zz wnn (bq (.inr rfl) (Ls rfl)) ?_)
  refine lE (Rs.mk (hB.tn ((a.tn (C.mono a.size)).mono hB.size)) (λj P=>?_) ⟨rfl,rfl⟩);repeat (refine(cu _ _ ?_).tn ?_;omega)
  rfl
end
def E3(b:aC)(l:bN)(w:H)(g:aI w b l)(a:aD w)(hc:ay b l=0)(o:l.W.length<4){x y:Nat}(q:x<l.U.length)(r:(y:Int)<b.S):
  PH F 26 #[b.v,.int .i64 x,.int .i64 y] w λe w'=>e=.returned (.tuple #[.int .i64 (lS b l x y),.bool true])/\X w w w':=by
 refine gy 39 Tryz.func26 (c:=ze) rfl rfl λf h=>?_;have f0:f 0=b.v:=h _;have z:f 1=x:=h _;have A:f 2=y:=h _;clear h;rw[P5];refine wp_seq (wF (l:=[0,1,2]) rfl ?_);refine lV _ rfl rfl zz wnn (B8 rfl (ag (t:=0) zz f0)) ?_;refine lV (.int .i64 0) rfl rfl zz wnn (bq (.inr rfl) rfl) ?_;refine lV (.bool false) rfl rfl zz wnn (bq (.inr rfl) rfl) ?_;refine lE ?_;have m:aK (w.alloc (aE b 31)) w 31 b:=Sp _ _;have d:X w w (w.alloc (aE b 31)):=(X.refl _ _).alloc (qT _) _;have C:(w.alloc (aE b 31)).heap.size=w.heap.size+1:=aa _ _;have g:=g.below d;have a:=a.below d;have j:ah (ah (ah f 3 (.pointer (Y (w.heap.size,0)))) 6 (.int .i64 0)) 7 (.bool false) 3=.pointer (Y (w.heap.size,0)):=rfl;have e1:ah (ah (ah f 3 (.pointer (Y (w.heap.size,0)))) 6 (.int .i64 0)) 7 (.bool false) 1=.int .i64 x:=z;have i:ah (ah (ah f 3 (.pointer (Y (w.heap.size,0)))) 6 (.int .i64 0)) 7 (.bool false) 2=.int .i64 y:=A;generalize ah (ah (ah f 3 (.pointer (Y ⟨w.heap.size,0,I⟩))) 6 (.int .i64 0)) 7 (.bool false)=f3 at e1 i j|-;generalize w.alloc (aE b 31)=u at m d C g a|-;have E:(w:Nat)<u:=zz;refine bn u _ _ (P3 (.inl ⟨rfl,rfl,rfl,rfl⟩) g a hc o q r (X.refl _ _) m e1 i j) λJ N hB k p=>?_;obtain⟨n,s⟩:=p;refine bn u _ _ (P3 (.inr ⟨rfl,rfl,rfl,rfl⟩) g a hc o q r hB ((hB.block _ E).tn m) ((k 1 zz).tn e1) ((k 2 zz).tn i) ((k 3 zz).tn j)) λK O hB k p=>?_;obtain⟨G,L⟩:=p;have n:=(k 8 zz).tn n;have s:=(k 9 zz).tn s;have B:=M0 b l b.W b.W x y;refine wp_seq (wF (l:=[0,1,2,3,4,5,6,7,8,9,10]) rfl ?_);refine lV _ rfl rfl zz wnn (bq (.inl rfl) (Ls n)) ?_;refine lV _ rfl rfl zz wnn (bq (.inl rfl) (Ls (nt G))) ?_;refine lV (.int .i64 (lS b l x y)) rfl rfl zz wnn ((Yp rfl rfl (Ls rfl) (Ls rfl)).tn (by rw[<- B])) ?_;refine Tw ?_;refine lE ?_;exact wp_ret (bd (v:=.tuple #[.int .i64 (lS b l x y),.bool true]) (Yq rfl rfl) rfl ⟨rfl,d.tn (hB.mono d.size)⟩)
theorem Qt(b:aC)(w:H)(d:mX b=true):
  PH F 6 #[b.v] w λe w'=>e=.returned (.bool false)/\X w w w':=by
 have a:=λf=>ME b f;simp only[d]at a;clear d;unfold aC.v at a|-;go_enter Tryz.func6,Tryz.ntmps6;go_wp2_with (go_at_call 34;refine(a _).mono ?_;rintro e f ⟨rfl,c⟩;obtain⟨g,h⟩:=aU c);go_ret;exact⟨rfl,di c⟩
theorem Qu(b:aC)(l:bN)(w:H)(h:mX b=false)(i:aI w b l):
  PH F 6 #[b.v] w λe w'=>e=.returned (.bool (ay b l==0))/\X w w w':=by
 have j:=Hm i;have d:=λa=>ME b a;have f:=λa (k:aI a b l)=>mm b l a k;simp only[h]at d;clear h i;generalize ay b l=r at f|-;unfold aC.v at d f|-;go_enter Tryz.func6,Tryz.ntmps6;go_wp2_with (first|(go_at_call 34;refine(d _).mono ?_;rintro e a ⟨rfl,c⟩;obtain⟨m,o⟩:=aU c)|(go_at_call 35;refine(f _ ((aq j.out _).below c)).mono ?_;rintro e q ⟨rfl,g⟩;obtain⟨n,p⟩:=aU g));go_ret;exact⟨rfl,di (c.tn (g.mono c.size))⟩
end Go.Proofs.YtfhdnnmilenklaaGreatDoor
