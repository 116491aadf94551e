import Derived.Test.YthfhocgpjjkjlaaGreatDoorZo
set_option maxRecDepth 100000
set_option maxHeartbeats 4000000
set_option linter.all false
noncomputable section
open Go renaming undef->D,World->H,execOp->Hn,Frame->Kf,Oper->Kp,Code->Ly,Value->M,Calls->PH,Program->Ps,heap_alloc_new->Sp,resolve->ab,FuncId->ba
open Go.Proofs.Tryz renaming prog->F
open Go.RowKit renaming Below->Hd
open Option renaming none->I,some->Y
namespace Go.Proofs.YthfhocgpjjkjlaaGreatDoor
open Go.RowKit Go.Co
variable{P:Ps}{ops:Array Kp}{Q:Exit->Act->H->Prop}{n d i bits k g gb gc:Nat}{f:Nat->M}{oi:Kp}{w w' W:H}{rest:List Nat}{b:aC}{l:pK}{i5 i12:Sl}
def oC{fn:ba}{args:Array M}{R:H->Prop}(v:M)(hi:ops[i]?=Y oi)(b:oi.dst=Y d)(j:d<n)(g:oi.guard=I)(l:(Hn (fa n f).eval oi).run P w=.ok (.enter fn args) w)
  (a:PH P fn args w λe w'=>e=.returned v/\R w')(h:∀w',R w'->wpOps P ops Q rest (fa n (ah f d v)) w'):wpOps P ops Q (i::rest) (fa n f) w:=by
 rw[wpOps_cons];unfold wpOp;simp only[hi,bY g,if_true,Kp.wp,l,Kp.upon_enter];refine .inl (a.mono λe w' c=>?_);obtain⟨rfl,k⟩:=c;show wpOps P ops Q rest ((fa n f).put oi.dst v) w';rw[b,cw j];exact h w' k
theorem Ph(hl:aI W b l)(k:l.W.length<=4)(c:PF f g gb gc W.heap.size b l.W.length i5)(i:gZ W b l bits l.W.length i5 i12 w){Q:Exit->Act->H->Prop}(h:∀a,Zn W b l bits g gb gc l.W.length a w->Q (.exit 0) a w):
  Ly.wp F zF Q (fa 43 f) w:=by
 have j:b.W.n=l.W.length:=hl.W.1;rw[Pg];refine wp_seq (wF (l:=[0]) rfl ?_);have S0:(fa 43 f).eval (.tmp 15)=_:=ft c.f15;have e:(fa 43 f).eval (.tmp 14)=_:=ft c.f14;refine oF (d:=16) (w':=w) (.bool false) rfl rfl zz rfl ?_ ?_
 .simp only[W7,zF,me,bD,bF,Tryz.f68,zE,Hn,S0,e];go_simp
 exact wp_seq (wp_cond_false (ft (au _ _ _)) (wp_exit (h _ ⟨_,i5,i12,rfl,c.set _ zz,i⟩)))
theorem Mi(hl:aI W b l)(n:l.W.length<=4)(E:bits<16)(J:g<W.heap.size)(K:gb<W.heap.size)(C:W.cell? ⟨gb,0,I⟩=Y (.int .i64 bits))(z:W.cell? ⟨g,12,I⟩=Y (.slice b.W.A b.W.n b.W.c))
  (i:f 1=.pointer (Y ⟨g,0,I⟩))(f2:f 2=.pointer (Y ⟨gb,0,I⟩))(f3:f 3=.pointer (Y ⟨gc,0,I⟩))(x:f 4=.pointer (Y ⟨W.heap.size,0,I⟩))(y:f 5=.slice I 0 0)(o:gZ W b l bits 0 iy iy w):
  Ly.wp F me (aR (Zn W b l bits g gb gc l.W.length)) (fa 43 f) w:=by
 have R:w.cell? ⟨g,12,I⟩=Y (.slice b.W.A b.W.n b.W.c):=(o.low.cell (p:=⟨g,12,I⟩) J).tn z;rw[S3];refine wp_seq (wF (l:=[0,1,2,3]) rfl ?_);have s:(fa 43 f).eval (.tmp 1)=_:=ft i;refine oF (d:=12) (w':=w) (.pointer (Y ⟨g,12,I⟩)) rfl rfl zz rfl ?_ ?_
 .simp only[S2,zF,me,bD,bF,Tryz.f68,zE,Hn,s];go_simp
 have t:(fa 43 (ah f 12 (.pointer (Y ⟨g,12,I⟩)))).eval (.tmp 12)=_:=ft (au _ _ _);refine oF (d:=13) (w':=w) (.slice b.W.A b.W.n b.W.c) rfl rfl zz rfl ?_ ?_
 .simp only[S2,zF,me,bD,bF,Tryz.f68,zE,Hn,t];go_simp
 have u:(fa 43 (ah (ah f 12 (.pointer (Y ⟨g,12,I⟩))) 13 (.slice b.W.A b.W.n b.W.c))).eval (.tmp 13)=_:=ft (au _ _ _);refine oF (d:=14) (w':=w) (.int .i64 b.W.n) rfl rfl zz rfl ?_ ?_
 .simp only[S2,zF,me,bD,bF,Tryz.f68,zE,Hn,ab,zM,u];go_simp
 refine Ev (d:=15) (.int .i64 0) rfl (.inl rfl) rfl rfl zz rfl ?_;refine wp_block (wp_loop (λa w=>∃k,k<=l.W.length/\Zn W b l bits g gb gc k a w) (λa _=>l.W.length-(intOf (a.tmps.getD 15 D)).toNat) ?_ (λa P A=>?_))
 .refine⟨0,qT _,_,iy,iy,rfl,⟨?_,?_,?_,?_,?_,?_,?_,au _ _ _⟩,o⟩
  .rw[nf,nf,nf,nf];exact i
  .rw[nf,nf,nf,nf];exact f2
  .rw[nf,nf,nf,nf];exact f3
  .rw[nf,nf,nf,nf];exact x
  .rw[nf,nf,nf,nf];exact y
  .rw[nf,nf,au]
  .rw[nf,au]
 .obtain⟨k,hk,f',i5,i12,rfl,c,q⟩:=A;have r:∀(f:Nat->M) (k:Nat),f 15=.int .i64 k->(intOf ((fa 43 f).tmps.getD 15 D)).toNat=k:=λf k h=>by
   rw[Array.getD_eq_getD_getElem?,ej zz,h];simp[intOf]
  by_cases m:k<l.W.length
  .refine wp_mono (Hl hl n E K C m c q) λe a Q G=>?_;obtain⟨rfl,v,O,N,rfl,j,L⟩:=G.elim;refine⟨⟨k+1,m,v,O,N,rfl,j,L⟩,?_⟩;rw[r _ _ j.f15,r _ _ c.f15];omega
  .obtain rfl:k=l.W.length:=zz;exact Ph hl n c q λa B=>by simp only[Exit.then,Exit.inBlock,if_true];exact B
def uk(l:pK)(bits:Nat):pK:= {l with W:=iJ l.W bits l.W.length}
def ia(b:aC)(l:pK)(bits:Nat):Bool:=lK b (uk l bits) b.D.toNat
def yI{S n:Int}:∀{L:List (Int×Int×Bool)},qi S n L=0↔∀x∈L,(ax x.1 0 (n-1)&&ax x.2.1 0 (S-1))=true
 | []=>by simp[qi]
 | x::L=>by
  have c:=yI (S:=S) (n:=n) (L:=L);have e:qi S n (x::L)=if(ax x.1 0 (n-1)&&ax x.2.1 0 (S-1))=false then 6 else qi S n L:=rfl;rw[e]
  cases b:(ax x.1 0 (n-1)&&ax x.2.1 0 (S-1))with
  | false=>
   rw[qWB rfl];exact⟨λh=>mi h dd,λh=>by
    have:=h x ss;rw[b]at this;cases this⟩
  | true=>
   rw[qVB ss,c];exact⟨λh y a=>by
    rcases dq.1 a with rfl|a
    .exact b
    .exact h y a,λh y a=>h y (List.mem_cons_of_mem _ a)⟩
def Mj{L:List (Int×Int×Bool)}{bits:Nat}{x:Int×Int×Bool}(h:x∈iJ L bits L.length):x∈L:=by
 unfold iJ at h;simp only[List.mem_map,List.mem_filter,List.mem_range]at h;obtain⟨i,⟨hi,-⟩,rfl⟩:=h;rw[List.getD_eq_getElem?_getD,iv hi];exact List.getElem_mem hi
def AO(L:List (Int×Int×Bool))(bits k:Nat):(iJ L bits k).length<=k:=by
 unfold iJ;rw[lj];exact qO (nn _ _) ss
def Ho{i12:Sl}(k:ay b l=0):ay {b with W:=i12} (uk l bits)=0:=by
 obtain⟨g,h2,h,i,a⟩:=bP k;have e1:Iv {b with W:=i12} (uk l bits).C=0:=g;have c:cZ {b with W:=i12}=0:=h2;have d:fH b.S (uk l bits).U=0:=h;have e:fT b.rf b.ch (uk l bits).E=0:=i;have f:ki b.S (uk l bits).U.length (uk l bits).W=0:=by
  have hle:l.W.length<=4:=by
   unfold ki at a;split at a
   .cases a
   .omega
  have j:qi b.S l.U.length l.W=0:=by
   unfold ki at a;rw[qVB zz]at a;exact a
  unfold ki;rw[qVB (by have:=AO l.W bits l.W.length;show¬4<(iJ l.W bits l.W.length).length;omega)];exact yI.2 λx m=>yI.1 j x (Mj m)
 unfold ay;simp only[e1,c,d,e,f,ne_eq,not_true_eq_false,if_false]
def vS:Array Kp:=match bD with|.seq _ (.seq _ (.seq _ (.seq _ (.seq (.region _ ops _) _))))=>ops|_=> #[]
theorem Hp(b:aC)(l:pK)(bits:Nat)(J:M)(g gb gc:Nat)(s:ay b l=0)(O:bits<16)(W:H)(hl:aI W b l)(o:g<W.heap.size)(R:gb<W.heap.size)(hB:∀i v,(#[.int .i64 b.S,.int .i64 b.D,.int .i64 b.L,.int .i64 b.lo,.int .i64 b.hi,.slice b.C.A b.C.n b.C.c,.int .i64 b.rf,.int .i64 b.rh,.int .i64 b.cf,.int .i64 b.ch,.slice b.U.A b.U.n b.U.c,.slice b.E.A b.E.n b.E.c,.slice b.W.A b.W.n b.W.c]:Array M)[i]?=Y v->W.cell? ⟨g,i,I⟩=Y v)(N:W.cell? ⟨gb,0,I⟩=Y (.int .i64 bits)):
  nA F bD (λa c=>a.defers=[]/\ia b l bits=true)
   (λa c=>a.defers=[]/\ia b l bits=false/\a.tmps.size=43/\a.tmps[3]?=Y (.pointer (Y ⟨gc,0,I⟩))/\∃i5:Sl,a.tmps[5]?=Y (.slice i5.A i5.n i5.c)/\c.ownsRow W.heap.size 3 1 (.slice i5.A i5.n i5.c) i5.n ((dh bits l.W.length).map (M.int .i64)))
   ⟨#[J,.pointer (Y ⟨g,0,I⟩),.pointer (Y ⟨gb,0,I⟩),.pointer (Y ⟨gc,0,I⟩),D,D,D,D,D,D,D,D,D,D,D,D,D,D,D,D,D,D,D,D,D,D,D,D,D,D,D,D,D,D,D,D,D,D,D,D,D,D,D],[]⟩ W:=by
 have x0:W.cell? ⟨g,0,I⟩=Y (.int .i64 b.S):=hB 0 _ rfl;have x1:W.cell? ⟨g,1,I⟩=Y (.int .i64 b.D):=hB 1 _ rfl;have x2:W.cell? ⟨g,2,I⟩=Y (.int .i64 b.L):=hB 2 _ rfl;have x3:W.cell? ⟨g,3,I⟩=Y (.int .i64 b.lo):=hB 3 _ rfl;have x4:W.cell? ⟨g,4,I⟩=Y (.int .i64 b.hi):=hB 4 _ rfl;have x5:W.cell? ⟨g,5,I⟩=Y (.slice b.C.A b.C.n b.C.c):=hB 5 _ rfl;have x6:W.cell? ⟨g,6,I⟩=Y (.int .i64 b.rf):=hB 6 _ rfl;have x7:W.cell? ⟨g,7,I⟩=Y (.int .i64 b.rh):=hB 7 _ rfl;have x8:W.cell? ⟨g,8,I⟩=Y (.int .i64 b.cf):=hB 8 _ rfl;have x9:W.cell? ⟨g,9,I⟩=Y (.int .i64 b.ch):=hB 9 _ rfl;have a5:W.cell? ⟨g,10,I⟩=Y (.slice b.U.A b.U.n b.U.c):=hB 10 _ rfl;have a6:W.cell? ⟨g,11,I⟩=Y (.slice b.E.A b.E.n b.E.c):=hB 11 _ rfl;have a3:W.cell? ⟨g,12,I⟩=Y (.slice b.W.A b.W.n b.W.c):=hB 12 _ rfl;clear hB;have S:l.W.length<=4:=by
  have k:=(bP s).2.2.2.2;unfold ki at k;split at k
  .cases k
  .omega
 have t:∀(f:Nat->M) (w0:H),f 1=.pointer (Y ⟨g,0,I⟩)->f 2=.pointer (Y ⟨gb,0,I⟩)->f 3=.pointer (Y ⟨gc,0,I⟩)->f 4=.pointer (Y ⟨W.heap.size,0,I⟩)->f 5=.slice I 0 0->gZ W b l bits 0 iy iy w0->
   nA F (.seq me (.seq (.region 10 vS false) (.cond (.tmp 40) (.refuse "cut") .skip))) (λa c=>a.defers=[]/\ia b l bits=true)
   (λa c=>a.defers=[]/\ia b l bits=false/\a.tmps.size=43/\a.tmps[3]?=Y (.pointer (Y ⟨gc,0,I⟩))/\∃i5:Sl,a.tmps[5]?=Y (.slice i5.A i5.n i5.c)/\c.ownsRow W.heap.size 3 1 (.slice i5.A i5.n i5.c) i5.n ((dh bits l.W.length).map (M.int .i64))) (fa 43 f) w0:=λf w0 E f2 f3 K L p=>by
  refine mG (wp_mono (Mi hl S O o R N a3 E f2 f3 K L p) λe a q Q=>?_);obtain⟨rfl,f',i5,i12,rfl,m,j⟩:=Q.elim;refine⟨rfl,mG (wF (l:=[0,1,2]) rfl ?_)⟩;have x:(fa 43 f').eval (.tmp 4)=_:=ft m.f4;obtain⟨U,V,q2,q3,q4,q5,q6,q7,q8,q9,Z,a1,a2⟩:=aM j.box;dsimp only at U V q2 q3 q4 q5 q6 q7 q8 q9 Z a1 a2;refine oF (d:=38) (w':=q) (({b with W:=i12}:aC).v) rfl rfl zz rfl ?_ ?_
  .simp only[vS,bD,bF,Tryz.f68,List.getElem_toArray,List.getElem_cons_zero,List.getElem_cons_succ,Hn,x,aC.v];go_simp
  have P:aI q {b with W:=i12} (uk l bits):=⟨(hl.below j.low).C,(hl.below j.low).U,(hl.below j.low).E,abp j.row12 j.n12 (by have:=AO l.W bits l.W.length;show(iJ l.W bits l.W.length).length<=1000;omega)⟩;have u:(fa 43 (ah f' 38 (({b with W:=i12}:aC).v))).eval (.tmp 38)=_:=ft (au _ _ _);refine oC (d:=39) (fn:=66) (args:= #[({b with W:=i12}:aC).v]) (.bool (ia b l bits)) rfl rfl zz rfl ?_ (xU {b with W:=i12} (uk l bits) (Ho s) q P) (λw2 h2=>?_)
  .simp only[vS,bD,bF,Tryz.f68,List.getElem_toArray,List.getElem_cons_zero,List.getElem_cons_succ,Hn,ab,List.map_toArray,List.map_cons,List.map_nil,u];rfl
  have w:(fa 43 (ah (ah f' 38 (({b with W:=i12}:aC).v)) 39 (.bool (ia b l bits)))).eval (.tmp 39)=_:=ft (au _ _ _);refine oF (d:=40) (w':=w2) (.bool (!ia b l bits)) rfl rfl zz rfl ?_ ?_
  .simp only[vS,bD,bF,Tryz.f68,List.getElem_toArray,List.getElem_cons_zero,List.getElem_cons_succ,Hn,w];go_simp
  refine⟨rfl,NP (ft (au _ _ _)) ?_⟩
  cases a4:ia b l bits with
  | true=>
   exact R7 (wp_skip ⟨rfl,rfl,rfl⟩)
  | false=>
   refine Dc ⟨rfl,rfl,by simp[fa],(ej zz).tn ?_,i5,(ej zz).tn ?_,?_⟩
   .rw[nf,nf,nf,m.f3]
   .rw[nf,nf,nf,m.f5]
   .exact dy (Nat.le_succ _) (dL j.row5 λg o=>h2.block g (by have:=j.row5.lt g o;omega))
 have key:∀(A:Array M) (w0:H),A.size=43->A[1]?=Y (.pointer (Y ⟨g,0,I⟩))->A[2]?=Y (.pointer (Y ⟨gb,0,I⟩))->A[3]?=Y (.pointer (Y ⟨gc,0,I⟩))->A[4]?=Y (.pointer (Y ⟨W.heap.size,0,I⟩))->A[5]?=Y (.slice I 0 0)->gZ W b l bits 0 iy iy w0->nA F (.seq me (.seq (.region 10 vS false) (.cond (.tmp 40) (.refuse "cut") .skip))) (λa c=>a.defers=[]/\ia b l bits=true)
   (λa c=>a.defers=[]/\ia b l bits=false/\a.tmps.size=43/\a.tmps[3]?=Y (.pointer (Y ⟨gc,0,I⟩))/\∃i5:Sl,a.tmps[5]?=Y (.slice i5.A i5.n i5.c)/\c.ownsRow W.heap.size 3 1 (.slice i5.A i5.n i5.c) i5.n ((dh bits l.W.length).map (M.int .i64))) ⟨A,[]⟩ w0:=λA w0 T e1 y z B C p=>by
  obtain⟨f,rfl,-⟩:=qd T;have G:∀{i:Nat} {v:M},i<43->((Array.range 43).map f)[i]?=Y v->f i=v:=λ{i v} hi h=>by
   have:=ej (n:=43) (f:=f) hi;rw[show(fa 43 f).tmps[i]?=Y v from h]at this;exact(km this).symm
  exact t f w0 (G zz e1) (G zz y) (G zz z) (G zz B) (G zz C) p
 clear t;have r:bD=match bD with|.seq r1 (.seq r2 (.seq r3 _))=>.seq r1 (.seq r2 (.seq r3 (.seq me (.seq (.region 10 vS false) (.cond (.tmp 40) (.refuse "cut") .skip)))))|_=>.skip:=rfl
 rw[r];generalize(Ly.seq me (.seq (.region 10 vS false) (.cond (.tmp 40) (.refuse "cut") .skip)))=X at key;clear r;unfold bD bF Tryz.f68;dsimp only;refine mG ?_;go_wp2;refine mG ?_;go_wp2;refine mG ?_;go_wp2;exact key _ _ rfl rfl rfl rfl rfl rfl ⟨rfl,rfl,H.ownsRow_nil _ _ _ _,H.ownsRow_nil _ _ _ _,Sp _ _,(λg h=>by cases h),(Hd.refl _ _).alloc (qN _) _⟩
open Go.Conc
def o5(b:aC)(l:pK):Int×Int:=uh (BO b.U.n b.S.toNat (aJ b l b.D.toNat).length (fN b l))
def dJ.rely{V V':Nat->Prop}{w bj:H}(h:dJ TA V w)(a:∀x,V x->V' x)(b:aH V w bj):dJ TA V' bj:=h.mono a b.keep
def Ju{post:M->H->Prop}{J:Gh}{w:H}{b:aC}{l:pK}{c0:Kf}{cs:List Kf}(z:Main J w)(E:uD (J.V 0) w b l iy [])(h:cP b l true=0)
  (next:∀σ' w',Main σ' w'->(∀x,J.V 0 x->σ'.V 0 x)->aH (J.V 0) w w'->
   aQ fI F post (G (c0.finish (.tuple #[.int .i64 (o5 b l).1,.int .i64 (o5 b l).2,.int .i64 0])) cs) σ' w'):
  aQ fI F post (G (Kf.enter F 21 #[b.v] .normal) (c0::cs)) J w:=by
 refine BH z E h (λf σ1 w1 g gk gc base c4 i d1 q=>?_);obtain⟨c',e1,e3⟩:=U5 E h;have e2:1<=b.U.n:=by
  obtain⟨h1, -,-⟩:=Yt h;have h2:=UU (bP h1).2.2.1;have h3:=E.at_.U.1;omega
 refine aQ.walk (G8 (b:=b) c4 i.cX i.at_.book.1 (i.at_.bookC 10 _ rfl)) (O:=σ1.O 0) (λ_=>il) (λ_=>il) (λV' u g' n σ2 d6 a2 d0 hk=>?_);obtain⟨f2,rfl,c5,d2,a0,c3⟩:=d6;have A:∀x,σ1.V 0 x->σ2.V 0 x:=λx d=>(a2 x).2 (d2 x d);obtain⟨k1,k2,s,k4⟩:=hk.main rfl;have a6:∀x,σ2.V 0 x->x<n.heap.size:=λx d=>c3 x ((a2 x).1 d);have b':CL (σ2.V 0) n σ2.C base b.U.n b.S.toNat (aJ b l b.D.toNat).length (fN b l) (.slice I 0 0) σ2 n:=
  ⟨hk.md.tn i.md,hk.df.tn i.df,hk.cD.2 i.cD,hk.base.tn i.bas,hk.pay.tn i.pay,k4.tn i.cz,k1.tn d1,rfl,λ_ h=>h,.refl _ n,a6,by rw[s,q];exact⟨rfl,.inl ⟨rfl,rfl⟩⟩,λg c7=>(by cases c7),by rw[s,q];exact List.nodup_nil,by rw[s,q];intro p d4;cases d4⟩
 have c8:n (gc,0)=Y (.chan (Y σ2.C)):=by rw[hk.C];exact bu a0 i.chV i.ch
 refine Mb (gc:=gc) c' a6 (A _ i.chV) c8 (λf3 o w3 v3 P K Q=>?_) b.U.n 0 zz f2 σ2 n _ c5 b' (by rw[s,q];rfl);refine Er K Q P.f8 (λm t hid c2 d5 b7 d3=>?_);obtain⟨e0,a1⟩:=z.b0;have C:∀x,J.V 0 x->m.V 0 x:=λx d=>c2 x (A x (i.old x d));have b6:aH (J.V 0) w t:=i.keep.tn ((a0.mono i.old).tn (d5.mono λx d=>A x (i.old x d)));have b9:Base TA (m.V 0) t e0:=a1.mono C b6.keep;have a9:th base b.S.toNat (aJ b l b.D.toNat).length (fN b l) o.got≠[]:=λe=>by
  have:(th base b.S.toNat (aJ b l b.D.toNat).length (fN b l) o.got).length=o.got.length:=by simp[th]
  rw[e]at this;simp at this;omega
 have c9:(th base b.S.toNat (aJ b l b.D.toNat).length (fN b l) o.got).length=b.U.n:=by simp[th,Q]
 have a5:uh (th base b.S.toNat (aJ b l b.D.toNat).length (fN b l) o.got)=o5 b l:=Mc zz K.nodup K.range Q;generalize th base b.S.toNat (aJ b l b.D.toNat).length (fN b l) o.got=L at b7 a9 c9 a5;obtain⟨Z,⟨-, h1⟩|⟨W,b8,V,rfl, -, a7,hle,hmx,d8,d9⟩⟩:=b7
 .omega
 have a8:∀j x,(L.flatMap pG)[j]?=Y x->V[j]?=Y x:=λj x k=>by
  have r:j<b.U.n*2:=by rw[<- Z];exact(List.getElem?_eq_some_iff.1 k).1
  rw[<- d9,List.getElem?_take,qWB r]at k;simpa using k
 have c6:bV TA (m.V 0) t W (b.U.n*2):=by
  refine⟨d3 W rfl,V,110,(0,0),a7,by rw[d8];exact Nat.mul_le_mul_right _ hle,λj v k d'=>?_⟩;have r:j<(L.flatMap pG).length:=by rw[Z];exact k
  have:=a8 j _ (iv r);rw[d']at this;cases this;have a':=List.getElem_mem r;simp only[List.mem_flatMap,pG,dq,fp,or_false]at a';obtain⟨a, -, h|h⟩:=a'<;>rw[h]<;>exact .inl (cR _ _)
 refine aQ.walk (Stop:=λV' u g' w'=>g'=G (c0.finish (.tuple #[.int .i64 (o5 b l).1,.int .i64 (o5 b l).2,.int .i64 0])) cs/\(∀x,m.V 0 x->V' x)/\(∀x,V' x↔u x)/\aH (m.V 0) t w'/\∀x,V' x->x<w'.heap.size)
  (Mh (L:=L) (c:=b8) b9 hid.cX P.f8 P.un zz a9 zz hle (qO hmx dd) c6 (λj x k=>by unfold H.cell?;dsimp only;rw[a7];exact a8 j x k) (λV1 O1 T y U a3 a4=>?_)) (O:=m.O 0) (λ_=>il) (λ_=>il) (λV' u g' T σ5 d7 B b0 R=>?_)
 .rw[a5];refine WalkE.stop λw6 b5=>⟨rfl,λx d=>(y x).2 (.inl d),λx=>?_,a3.tn (b5.mono λx d=>(y x).2 (.inl d)),b5.cX a4⟩;rw[y,U,hid.all];exact⟨λh=>h.imp id λh=>⟨h.1,h.2.1.elim (λh'=>(U x).2 (.inl h')) (·.2.1),h.2.2⟩,λh=>h.imp id λh=>⟨h.1,.inr h,h.2.2⟩⟩
 .obtain⟨rfl,b1,b2,b3,b4⟩:=d7;have c1:∀x,m.V 0 x->σ5.V 0 x:=λx d=>(B x).2 (b1 x d);have N:∀x,J.V 0 x->σ5.V 0 x:=λx d=>c1 x (C x d);have S:aH (J.V 0) w T:=b6.tn (b3.mono C);exact next σ5 T ⟨⟨R.md.tn hid.md,R.df.tn hid.df,R.cD.2 hid.cD,λx=>(B x).tn ((b2 x).tn (b0 x).symm),λx d=>b4 x ((B x).1 d)⟩,z.checks.rely N S,e0,a1.mono N S.keep⟩ N S
end Go.Proofs.YthfhocgpjjkjlaaGreatDoor
