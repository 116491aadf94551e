import Derived.Test.YtfdbdkhgaajdoaaGreatDoorZl
import Derived.Test.YtfdbdkhgaajdoaaGreatDoorZm
import Derived.Sort.OwnSortedInts
import Derived.Lib.SliceRun
import Derived.OrdersHeld
import Derived.StillTailTactics
import Derived.Deep.RegionHeld3
import Derived.Conc.EventLaws
set_option maxRecDepth 100000
set_option maxHeartbeats 4000000
set_option linter.all false
noncomputable section
open Go renaming World->Cl,undef->D,World->H,execOp->Hn,Oper->Kp,TypeId->Lk,Code->Ly,Value->M,Calls->PH,Program->Ps,heap_alloc_old->QR,heap_alloc_new->Sp,Operand->ae,yielded->aw,bodyPost_ret->bd
open Go.Proofs.Tryz renaming prog->F
open Go.Lib renaming hid->Hm
open Option renaming none->I,some->Y
open Go.RowKit renaming Hid->PQ,Below->X
namespace Go.Proofs.YtfdbdkhgaajdoaaGreatDoor
open Go.RowKit
variable{w w':H}{B g n cap q:Nat}{zs:List Int}
def uN(L:List (Int×(Nat->Bool))):List Int:=Lib.compact ((L.map (·.1)).mergeSort λx y=>decide (x<=y))
def iM(b:aC)(l:pK):List Int×Int:=if cP b l true=0 then(uN (aJ b l b.D.toNat),0)else([],cP b l true)
def oR{os:Array Obj}{zs ts:List Int}(h:w.ownsRow B 3 1 (.slice (Y (g,0)) n cap) n (zs.map (M.int .i64)))(i:n=zs.length)(f:ts.length=zs.length)
  (j:w'=Go.Sort.grow (Go.Sort.putRow (M.int .i64) (Go.Sort.ahead w q) g 0 ts.toArray) os):w'.ownsRow B 3 1 (.slice (Y (g,0)) n cap) n (ts.map (M.int .i64))/\w.grownBy w' (Y g):=by
 subst i;rcases h.2 with⟨a,-⟩|⟨g',k,l,a,h2,b,c,d,e,m⟩
 .cases a
 .cases a;rw[j];exact⟨ownsRow_sortedI f h2 b c d (by simpa using e),grownBy_sortedI _⟩
def qZ(h:w.ownsRow B 3 1 (.slice (Y (g,0)) n cap) n (zs.map (M.int .i64)))(d:n=zs.length):Go.Sort.Holds (M.int .i64) w g 0 zs.toArray:=by
 subst d;rcases h.2 with⟨a,-⟩|⟨g',e,f,a,h2,b,i,j,k,c⟩
 .cases a
 .cases a;exact holds_of_blockI b (by simpa using c)
def DN(zs:List Int):(Lib.compact zs).length<=zs.length:=by
 unfold Lib.compact Lib.compactUpTo;rw[lj];exact qO (nn _ _) ss
def DO(h:w.ownsRow B 3 1 (.slice (Y (g,0)) n cap) n (zs.map (M.int .i64)))(c:n=zs.length)
  (m:w'=Go.Sort.putRow (M.int .i64) (Go.Sort.ahead w q) g 0 (Lib.compact zs++List.replicate (zs.length-(Lib.compact zs).length) 0).toArray):
  w'.ownsRow B 3 1 (.slice (Y (g,0)) (Lib.compact zs).length cap) (Lib.compact zs).length ((Lib.compact zs).map (M.int .i64))/\w.grownBy w' (Y g):=by
 have l:=DN zs;have o:w'=Go.Sort.grow (Go.Sort.putRow (M.int .i64) (Go.Sort.ahead w q) g 0 (Lib.compact zs++List.replicate (zs.length-(Lib.compact zs).length) 0).toArray) #[]:=by rw[m,Go.Sort.grow_empty]
 obtain⟨k,h2⟩:=oR h c so o;refine⟨?_,h2⟩;subst c;rcases k.2 with⟨e1,-⟩|⟨g',p,a,e1,d,e,r,f,i,j⟩
 .cases e1
 .cases e1;refine⟨by simp,.inr ⟨g,cap,a,rfl,d,e,zz,f,i,?_⟩⟩;have b:(a.toList.take (zs.length*1)).take (Lib.compact zs).length=(Lib.compact zs).map (M.int .i64):=by
   rw[j,mr];exact List.take_left' ss
  rw[List.take_take,Nat.mul_one,Nat.min_eq_left l]at b;rw[Nat.mul_one];exact b
theorem DR(b:aC)(l:pK)(w:H)(a8:aI w b l)(a4:aD w)(h:cP b l true=0):
  PH F 20 #[b.v] w (ji w.heap.size (iM b l).1 (iM b l).2 w):=by
 have b4:=Hm a8;have b3:=Hm a4;have V:PQ (iM b l=(uN (aJ b l b.D.toNat),0)):=by unfold iM;rw[PQ,qWB h]
 obtain⟨a7, -, h3⟩:=Bt h;have z:=qp b l 36 #[] lT true (w.alloc (aE b 31)) (aq b4.out _) (ai b3.out _) (λ_=>gW b _) h;have c3:=nL a7;have c5:0<(aJ b l b.D.toNat).length:=List.length_pos_iff.2 h3;unfold jo at z;generalize aJ b l b.D.toNat=a at z V c3 c5;clear a8 a4 h a7 h3;unfold aC.v aE uC at z;unfold aC.v;go_enter Tryz.func20,Tryz.ntmps20;go_wp2_with (go_at_call 32;refine z.mono ?_;rintro e U ⟨A,c,r,rfl,f,c4,d2,a6⟩);obtain⟨g,rfl⟩:∃g,A=Y ⟨g,0,I⟩:=by
  rcases f.2 with⟨d,h2⟩|⟨g,cap,a2,d,-⟩
  .omega
  .simp only[lL]at d;exact⟨g,d.1⟩
 have Q:=f.alloc (.cells (iG b ⟨Y ⟨g,0,I⟩,a.length,c⟩ (Y r)) 80);have L:X w.heap.size w (U.alloc (.cells (iG b ⟨Y ⟨g,0,I⟩,a.length,c⟩ (Y r)) 80)):=aP (di a6) (qN _) _;clear f c4 a6;change Ly.wp _ _ _ _ (U.alloc (.cells (iG b ⟨Y ⟨g,0,I⟩,a.length,c⟩ (Y r)) 80));generalize(U.alloc (.cells (iG b ⟨Y ⟨g,0,I⟩,a.length,c⟩ (Y r)) 80))=G at Q L|-;have b5:=Hm Q;have N:=Hm L;clear Q L;obtain⟨i0,hi,c7,c8,c9⟩:=info_parts vD;go_loopw [6,20] (λv1 v wr=>∃(i:Nat) (J:Option Addr) (p:Nat),i<=a.length/\v=.int .i64 i/\v1=.slice J i p/\wr.ownsRow G.heap.size 3 1 v1 i (((a.take i).map (·.1)).map (M.int .i64))/\X G.heap.size G wr) (λ_ v _=>a.length-(intOf v).toNat)
 case atStart=>exact⟨0,I,0,zz,rfl,rfl,H.ownsRow_nil _ _ _ _,X.refl _ _⟩
 case round=>
  obtain⟨i,J,p,c',rfl,rfl,f,m⟩:=hrel;have b2:=m.size;by_cases P:i<a.length
  .obtain⟨x,T⟩:∃x,a.getD i (0,mI)=x:=⟨_,rfl⟩;have q:∀j,j<13->wr.cell? ⟨g,i*13+j,I⟩=(zC x).toList[j]?:=λj c2=>by
    have d:=wO (bB b5.out (aS.dY (K:=λ_=>True) m (λ_ h _=>h)) (λ_ _=>trivial)) rfl P j c2;rw[T]at d;exact d
   have q0:wr.cell? ⟨g,i*13,I⟩=Y (.int .i64 x.1):=q 0 zz;have q1:wr.cell? ⟨g,i*13+1,I⟩=Y (.bool (x.2 0)):=q 1 zz;have q2:wr.cell? ⟨g,i*13+2,I⟩=Y (.bool (x.2 1)):=q 2 zz;have q3:wr.cell? ⟨g,i*13+3,I⟩=Y (.bool (x.2 2)):=q 3 zz;have q4:wr.cell? ⟨g,i*13+4,I⟩=Y (.bool (x.2 3)):=q 4 zz;have q5:wr.cell? ⟨g,i*13+5,I⟩=Y (.bool (x.2 4)):=q 5 zz;have q6:wr.cell? ⟨g,i*13+6,I⟩=Y (.bool (x.2 5)):=q 6 zz;have q7:wr.cell? ⟨g,i*13+7,I⟩=Y (.bool (x.2 6)):=q 7 zz;have q8:wr.cell? ⟨g,i*13+8,I⟩=Y (.bool (x.2 7)):=q 8 zz;have q9:wr.cell? ⟨g,i*13+9,I⟩=Y (.bool (x.2 8)):=q 9 zz;have d3:wr.cell? ⟨g,i*13+10,I⟩=Y (.bool (x.2 9)):=q 10 zz;have d4:wr.cell? ⟨g,i*13+11,I⟩=Y (.bool (x.2 10)):=q 11 zz;have d5:wr.cell? ⟨g,i*13+12,I⟩=Y (.bool (x.2 11)):=q 12 zz;have a':((a.take (i+1)).map (·.1)).map (M.int .i64)=((a.take i).map (·.1)).map (M.int .i64)++[.int .i64 x.1]:=by
    rw[lh P,mr,mr,<- T];simp only[zM,List.getD,iv P,zQ]
   have b7:=Hm a';have t:=Hm m;have o:=Hm f;clear q T a' m;go_wp2_with (at_builtin;refine wpList_append_own _ rfl _ _ 24 rfl G.heap.size 3 i0 (.int .i64 0) 1 8 Tryz.underlying24 hi c7 c8 c9 rfl dd _ _ _ rfl ((f.alloc _).alloc _) ⟨wr.heap.size+1,0,I⟩ 1 1 [.int .i64 x.1] rfl rfl (by rw[<- aa wr (.cells (zC x) 91)];exact cell_one_new _ _ _) (λy b1=>by simp at b1;subst b1;rfl) (by unfold maxLen;omega) zz so ?_;intro v' w3 a9 c1 d1);go_roundw
   case rel=>
    obtain⟨g',b8,rfl⟩:=ownsRow_succ a9;refine⟨i+1,Y ⟨g',0,I⟩,b8,zz,by go_num,rfl,?_,((t.out.alloc b2 _).alloc so _).grown c1 so (λq c6=>(o.out.lt q c6).1)⟩;rw[b7.out];exact a9
   case measure=>simp[intOf];omega
  .obtain rfl:i=a.length:=zz;rw[List.take_of_length_le (qN _)]at f;obtain⟨k,rfl⟩:∃k,J=Y ⟨k,0,I⟩:=by
    rcases f.2 with⟨d,h2⟩|⟨g,cap,a2,d,-⟩
    .omega
    .simp only[lL]at d;exact⟨g,d.1⟩
   obtain⟨zs,C⟩:∃zs,zs=a.map (·.1):=⟨_,rfl⟩;rw[<- C]at f;have n:zs.length=a.length:=by rw[C];simp
   have B:=Tryz.slices_Sort_int k 0 p zs wr (qZ f n.symm) (f.lt k rfl).2 (by rw[n];omega);rw[n]at B;have s:(zs.mergeSort λx y=>decide (x<=y)).length=a.length:=by rw[List.length_mergeSort,n]
   obtain⟨E,R⟩:∃E,(zs.mergeSort λx y=>decide (x<=y))=E:=⟨_,rfl⟩;rw[R]at B s;have O:=λw' b'=>Tryz.slices_Compact_int k 0 p E w' b' (by rw[s];omega);rw[s]at O;have a5:uN a=Lib.compact E:=by rw[uN,<- C,R]
   have b6:=Hm a5;have b0:a.length<=p:=by
    rcases f.2 with⟨d,h2⟩|⟨g,cap,a2,d,_,_,h4,-⟩
    .cases d
    .cases d;exact h4
   have t:=Hm m;have o:=Hm f;have a1:=Hm n;have u:=Hm s;clear f m C n s R a5
   go_wp2_with (first
    | (go_at_call 53;refine B.mono ?_;clear B;rintro e w2 ⟨rfl,q2,os,a0⟩;obtain⟨o2,a3⟩:=oR o.out a1.out.symm (u.out.tn a1.out.symm) a0;have Z:=Hm o2;have W:=Hm a3;clear a0 o2 a3)
    | (go_at_call 54;refine(O w2 (qZ Z.out u.out.symm) b0).mono ?_;clear O;rintro e w3 ⟨rfl,q3,S⟩;rw[<- u.out]at S))
   go_ret2;obtain⟨o3,b9⟩:=DO Z.out u.out.symm S;rw[V.out,b6.out];subst S;exact⟨_,_,rfl,dy N.out.size o3,N.out.tn (((t.out.grown W.out b2 (by have:=(o.out.lt k rfl).1;simpa using this)).grown b9 (by have:=W.out.size;have:=t.out.size;omega) (by have:=(o.out.lt k rfl).1;simpa using this)).mono N.out.size)⟩
def DT(b:aC)(l:pK)(w:H)(c:aI w b l)(a:aD w)(h:cP b l true=0:=by kernel_rfl):PH F 20 #[b.v] w (ji w (iM b l).1 (iM b l).2 w):=DR b l w c a h
variable{α:Type}{s:Sl}{l:List (Int×Int)}{e:Nat}{v:M}
def Z6:(F.info? 101).map (λi=>(i.zero,i.size,i.bytes))=Y (Y (.agg #[.int .i64 0,.int .i64 0]),2,16):=by kernel_rfl
theorem DU(a:Addr)(n c:Nat)(xs:List M)(w:H)(f:xs.length=n*2)(t:n<=1000)(d:∀j u,xs[j]?=Y u->w.cell? (a.add j)=Y u)(b:∀u∈xs,u.oneCell'=true):
  PH F 86 #[.slice (Y a) n c] w λe w'=>∃v',e=.returned v'/\w'.ownsRow w 101 2 v' n xs/\X w w w':=by
 obtain⟨i0,hi,p,r,s⟩:=info_parts Z6;have q:=λ(w:H) (a:Option Addr) (n c n' c':Nat)=>Lib.run_eql_slice_nil w _ _ a n c n' c' Tryz.underlying27;have u:=λw=>run_underlying Tryz.underlying27 w;have h:=Hm d;have g:=Hm b;have i:=Hm f;clear d b f;go_enter Tryz.func86,Tryz.ntmps86;go_wp2_with (at_builtin;refine wpList_append_own _ rfl _ _ 27 rfl w.heap.size 101 i0 _ 2 16 Tryz.underlying27 hi p r s rfl dd _ _ _ rfl (H.ownsRow_made w #[] 0 (qN _) (qT _) rfl) a n c xs rfl ?qc1 ?qc2 ?qc3 ?qc4 ?qc5 ?qc6 ?_)
 case qc1=>exact i.out
 case qc2=>exactλj u m=>Lib.cell?_alloc_some _ (h.out j u m)
 case qc3=>exact g.out
 case qc4=>unfold maxLen;omega
 case qc5=>omega
 case qc6=>simp
 intro v' x o l v;go_wp2;go_ret;exact⟨v',rfl,by simpa using o,((X.refl _ w).alloc (qN _) _).grown l ss (by intro k hk;simp[M.ownBlock]at hk;omega)⟩
theorem Gy(n c:Nat)(w:H):
  PH F 86 #[.slice I n c] w λe w'=>e=.returned (.slice I 0 0)/\w'=w:=by
 have q:=λ(w:H) (a:Option Addr) (n c n' c':Nat)=>Lib.run_eql_slice_nil w _ _ a n c n' c' Tryz.underlying27;go_enter Tryz.func86,Tryz.ntmps86;go_wp2;go_ret;exact⟨rfl,rfl⟩
def SA:(F.info? 103).map (λi=>(i.zero,i.size,i.bytes))=Y (Y (.agg #[.int .i64 0,.int .i64 0]),2,16):=by kernel_rfl
theorem DV(a:Addr)(n c:Nat)(xs:List M)(w:H)(f:xs.length=n*2)(t:n<=1000)(d:∀j u,xs[j]?=Y u->w.cell? (a.add j)=Y u)(b:∀u∈xs,u.oneCell'=true):
  PH F 87 #[.slice (Y a) n c] w λe w'=>∃v',e=.returned v'/\w'.ownsRow w 103 2 v' n xs/\X w w w':=by
 obtain⟨i0,hi,p,r,s⟩:=info_parts SA;have q:=λ(w:H) (a:Option Addr) (n c n' c':Nat)=>Lib.run_eql_slice_nil w _ _ a n c n' c' Tryz.underlying28;have u:=λw=>run_underlying Tryz.underlying28 w;have h:=Hm d;have g:=Hm b;have i:=Hm f;clear d b f;go_enter Tryz.func87,Tryz.ntmps87;go_wp2_with (at_builtin;refine wpList_append_own _ rfl _ _ 28 rfl w.heap.size 103 i0 _ 2 16 Tryz.underlying28 hi p r s rfl dd _ _ _ rfl (H.ownsRow_made w #[] 0 (qN _) (qT _) rfl) a n c xs rfl ?qc1 ?qc2 ?qc3 ?qc4 ?qc5 ?qc6 ?_)
 case qc1=>exact i.out
 case qc2=>exactλj u m=>Lib.cell?_alloc_some _ (h.out j u m)
 case qc3=>exact g.out
 case qc4=>unfold maxLen;omega
 case qc5=>omega
 case qc6=>simp
 intro v' x o l v;go_wp2;go_ret;exact⟨v',rfl,by simpa using o,((X.refl _ w).alloc (qN _) _).grown l ss (by intro k hk;simp[M.ownBlock]at hk;omega)⟩
theorem Gz(n c:Nat)(w:H):
  PH F 87 #[.slice I n c] w λe w'=>e=.returned (.slice I 0 0)/\w'=w:=by
 have q:=λ(w:H) (a:Option Addr) (n c n' c':Nat)=>Lib.run_eql_slice_nil w _ _ a n c n' c' Tryz.underlying28;go_enter Tryz.func87,Tryz.ntmps87;go_wp2;go_ret;exact⟨rfl,rfl⟩
def SB:(F.info? 74).map (λi=>(i.zero,i.size,i.bytes))=Y (Y (.agg #[.int .i64 0,.int .i64 0,.bool false]),3,24):=by kernel_rfl
theorem DW(a:Addr)(n c:Nat)(xs:List M)(w:H)(f:xs.length=n*3)(t:n<=1000)(d:∀j u,xs[j]?=Y u->w.cell? (a.add j)=Y u)(b:∀u∈xs,u.oneCell'=true):
  PH F 88 #[.slice (Y a) n c] w λe w'=>∃v',e=.returned v'/\w'.ownsRow w 74 3 v' n xs/\X w w w':=by
 obtain⟨i0,hi,p,r,s⟩:=info_parts SB;have q:=λ(w:H) (a:Option Addr) (n c n' c':Nat)=>Lib.run_eql_slice_nil w _ _ a n c n' c' Tryz.underlying29;have u:=λw=>run_underlying Tryz.underlying29 w;have h:=Hm d;have g:=Hm b;have i:=Hm f;clear d b f;go_enter Tryz.func88,Tryz.ntmps88;go_wp2_with (at_builtin;refine wpList_append_own _ rfl _ _ 29 rfl w.heap.size 74 i0 _ 3 24 Tryz.underlying29 hi p r s rfl dd _ _ _ rfl (H.ownsRow_made w #[] 0 (qN _) (qT _) rfl) a n c xs rfl ?qc1 ?qc2 ?qc3 ?qc4 ?qc5 ?qc6 ?_)
 case qc1=>exact i.out
 case qc2=>exactλj u m=>Lib.cell?_alloc_some _ (h.out j u m)
 case qc3=>exact g.out
 case qc4=>unfold maxLen;omega
 case qc5=>omega
 case qc6=>simp
 intro v' x o l v;go_wp2;go_ret;exact⟨v',rfl,by simpa using o,((X.refl _ w).alloc (qN _) _).grown l ss (by intro k hk;simp[M.ownBlock]at hk;omega)⟩
theorem GA(n c:Nat)(w:H):
  PH F 88 #[.slice I n c] w λe w'=>e=.returned (.slice I 0 0)/\w'=w:=by
 have q:=λ(w:H) (a:Option Addr) (n c n' c':Nat)=>Lib.run_eql_slice_nil w _ _ a n c n' c' Tryz.underlying29;go_enter Tryz.func88,Tryz.ntmps88;go_wp2;go_ret;exact⟨rfl,rfl⟩
def mK(w:H)(s:Sl)(size:Nat)(xs:List M):Prop:=xs.length=s.n*size/\s.n<=1000/\(∀u∈xs,u.oneCell'=true)/\(0<s.n->∃a,s.A=Y a/\∀j u,xs[j]?=Y u->w.cell? (a.add j)=Y u)
def GB(s:Sl)(xs:List M)(w:H)(h:mK w s 2 xs):
  PH F 86 #[.slice s.A s.n s.c] w λe w'=>∃v',e=.returned v'/\w'.ownsRow w 101 2 v' s.n xs/\X w w w':=by
 obtain⟨A,n,c⟩:=s;obtain⟨d,h2,k,g⟩:=h
 cases A with
 | none=>
  rcases ln n with rfl|b
  .refine(Gy 0 c w).mono ?_;rintro e w' ⟨rfl,rfl⟩;obtain rfl:xs=[]:=List.eq_nil_of_length_eq_zero (by simpa using d);exact⟨_,rfl,H.ownsRow_nil _ _ _ _,X.refl _ _⟩
  .obtain⟨a,f,-⟩:=g b;cases f
 | some a=>
  refine DU a n c xs w d h2 (λj u i=>?_) k;have b:0<n:=by
   rcases ln n with rfl|b
   .obtain rfl:xs=[]:=List.eq_nil_of_length_eq_zero (by simpa using d);simp at i
   .exact b
  obtain⟨m,f,l⟩:=g b;cases f;exact l j u i
def GC(s:Sl)(xs:List M)(w:H)(h:mK w s 2 xs):
  PH F 87 #[.slice s.A s.n s.c] w λe w'=>∃v',e=.returned v'/\w'.ownsRow w 103 2 v' s.n xs/\X w w w':=by
 obtain⟨A,n,c⟩:=s;obtain⟨d,h2,k,g⟩:=h
 cases A with
 | none=>
  rcases ln n with rfl|b
  .refine(Gz 0 c w).mono ?_;rintro e w' ⟨rfl,rfl⟩;obtain rfl:xs=[]:=List.eq_nil_of_length_eq_zero (by simpa using d);exact⟨_,rfl,H.ownsRow_nil _ _ _ _,X.refl _ _⟩
  .obtain⟨a,f,-⟩:=g b;cases f
 | some a=>
  refine DV a n c xs w d h2 (λj u i=>?_) k;have b:0<n:=by
   rcases ln n with rfl|b
   .obtain rfl:xs=[]:=List.eq_nil_of_length_eq_zero (by simpa using d);simp at i
   .exact b
  obtain⟨m,f,l⟩:=g b;cases f;exact l j u i
def GD(s:Sl)(xs:List M)(w:H)(h:mK w s 3 xs):
  PH F 88 #[.slice s.A s.n s.c] w λe w'=>∃v',e=.returned v'/\w'.ownsRow w 74 3 v' s.n xs/\X w w w':=by
 obtain⟨A,n,c⟩:=s;obtain⟨d,h2,k,g⟩:=h
 cases A with
 | none=>
  rcases ln n with rfl|b
  .refine(GA 0 c w).mono ?_;rintro e w' ⟨rfl,rfl⟩;obtain rfl:xs=[]:=List.eq_nil_of_length_eq_zero (by simpa using d);exact⟨_,rfl,H.ownsRow_nil _ _ _ _,X.refl _ _⟩
  .obtain⟨a,f,-⟩:=g b;cases f
 | some a=>
  refine DW a n c xs w d h2 (λj u i=>?_) k;have b:0<n:=by
   rcases ln n with rfl|b
   .obtain rfl:xs=[]:=List.eq_nil_of_length_eq_zero (by simpa using d);simp at i
   .exact b
  obtain⟨m,f,l⟩:=g b;cases f;exact l j u i
def GF(s:Sl)(l:List Int)(w:H)(h:eC w s l):
  PH F 85 #[.slice s.A s.n s.c] w λe w'=>∃v',e=.returned v'/\w'.ownsRow w 3 1 v' s.n (l.map (M.int .i64))/\X w w w':=by
 obtain⟨A,n,c⟩:=s;obtain⟨g,h2,o,j⟩:=h;simp only at g;subst g;rcases ln l.length with i|m
 .obtain rfl:l=[]:=List.eq_nil_of_length_eq_zero i
  cases A with
  | none=>
   refine(Tryz.slices_Clone_int_nil 0 c w).mono ?_;rintro e w' ⟨rfl,rfl⟩;exact⟨_,rfl,H.ownsRow_nil _ _ _ _,X.refl _ _⟩
  | some a=>
   refine(Tryz.slices_Clone_int_zero a c w).mono ?_;rintro e w' ⟨v',rfl,d, -, f⟩;exact⟨_,rfl,d,f⟩
 .obtain⟨b,off,rfl,p,k⟩:=j m;refine(Tryz.slices_Clone_int b off l.length c l w (qN _) zz k).mono ?_;rintro e w' ⟨v',rfl,d, -, f⟩;rw[List.take_length]at d;exact⟨_,rfl,d,f⟩
def pG(x:Int×Int):List M:=[.int .i64 x.1,.int .i64 x.2]
def rO(x:Int×Int×Bool):List M:=[.int .i64 x.1,.int .i64 x.2.1,.bool x.2.2]
def Bu(f:α->List M)(m:Nat)(c:∀a,(f a).length=m)(d:α):∀(l:List α) (j:Nat) (u:M),(l.flatMap f)[j]?=Y u->0<m/\j/m<l.length/\(f (l.getD (j/m) d))[j%m]?=Y u
 | [],j,u,h=>by simp at h
 | a::r,j,u,h=>by
  rw[lv]at h;by_cases b:j<m
  .rw[List.getElem?_append_left (by rw[c];exact b)]at h;refine⟨zz,by rw[Nat.div_eq_of_lt b];simp,?_⟩;rw[Nat.div_eq_of_lt b,Nat.mod_eq_of_lt b];exact h
  .rw[List.getElem?_append_right (by rw[c];omega),c]at h;obtain⟨e,k,i⟩:=Bu f m c d r (j-m) u h;have e1:j/m=(j-m)/m+1:=by rw[Nat.div_eq_sub_div e zz]
   have g:j%m=(j-m)%m:=by rw[Nat.mod_eq_sub_mod zz]
   refine⟨e,by rw[e1,ed];omega,?_⟩;rw[e1,g];simpa[List.getD]using i
def qu(f:α->List M)(m:Nat)(b:∀a,(f a).length=m):∀l:List α,(l.flatMap f).length=l.length*m
 | []=>by simp
 | a::r=>by rw[lv,kl,b,qu f m b r,ed,Nat.succ_mul];omega
def bp.cells(h:bp w s l):mK w s 2 (l.flatMap pG):=by
 obtain⟨f,h2,q,g⟩:=h;refine⟨by rw[qu pG 2 (λ_=>rfl),f],zz,λu k=>?_,λt=>?_⟩
 .obtain⟨x, -, d⟩:=List.mem_flatMap.1 k;simp only[pG,dq,fp,or_false]at d;rcases d with rfl|rfl<;>rfl
 .obtain⟨b,off,e1,p,e⟩:=g zz;refine⟨_,e1,λj u i=>?_⟩;obtain⟨v,m,a⟩:=Bu pG 2 (λ_=>rfl) (0,0) l j u i;obtain⟨n,o⟩:=e (j/2) m;have r:=Nat.div_add_mod j 2;rcases(show j%2=0\/j%2=1 by omega)with c|c
  .rw[c]at a;simp only[pG,zQ,fg]at a;rw[Addr.add_lit,show off+j=off+j/2*2 by omega,n,a]
  .rw[c]at a;simp only[pG,zQ,fg]at a;rw[Addr.add_lit,show off+j=off+j/2*2+1 by omega,o,a]
def fL.cells{l:List (Int×Int×Bool)}(h:fL w s l):mK w s 3 (l.flatMap rO):=by
 obtain⟨f,h2,r,g⟩:=h;refine⟨by rw[qu rO 3 (λ_=>rfl),f],zz,λu k=>?_,λv=>?_⟩
 .obtain⟨x, -, d⟩:=List.mem_flatMap.1 k;simp only[rO,dq,fp,or_false]at d;rcases d with rfl|rfl|rfl<;>rfl
 .obtain⟨b,off,e1,q,e⟩:=g zz;refine⟨_,e1,λj u i=>?_⟩;obtain⟨y,m,a⟩:=Bu rO 3 (λ_=>rfl) (0,0,false) l j u i;obtain⟨n,o,p⟩:=e (j/3) m;have t:=Nat.div_add_mod j 3;rcases(show j%3=0\/j%3=1\/j%3=2 by omega)with c|c|c
  .rw[c]at a;simp only[rO,zQ,fg]at a;rw[Addr.add_lit,show off+j=off+j/3*3 by omega,n,a]
  .rw[c]at a;simp only[rO,zQ,fg]at a;rw[Addr.add_lit,show off+j=off+j/3*3+1 by omega,o,a]
  .rw[c]at a;simp only[rO,zQ,fg]at a;rw[Addr.add_lit,show off+j=off+j/3*3+2 by omega,p,a]
def jP{B e size n:Nat}{xs:List M}(h:w.ownsRow B e size v n xs):∃A c,v=.slice A n c/\n<=c/\(∀g,v.ownBlock=Y g->B<=g/\g<w.heap.size)/\
  (0<n->∃g,A=Y ⟨g,0,I⟩/\∀j u,xs[j]?=Y u->w.cell? ⟨g,j,I⟩=Y u):=by
 have m:=h.lt;rcases h.2 with⟨rfl,rfl⟩|⟨g,b,o,rfl,h2,d,f,p,q,i⟩
 .exact⟨I,0,rfl,qN _,λg k=>by simp[M.ownBlock]at k,λh=>mi h (dj 0)⟩
 .refine⟨Y ⟨g,0,I⟩,b,rfl,f,m,λr=>⟨g,rfl,λj u a=>?_⟩⟩;rw[<- i]at a;have l:j<n*size:=by
   have:=(List.getElem?_eq_some_iff.1 a).1;simp at this;omega
  rw[List.getElem?_take_of_lt l]at a;simp only[H.cell?,d];simpa using a
def fO(f:α->List M)(m:Nat)(b:∀a,(f a).length=m)(d:α):∀(l:List α) (k j:Nat),k<l.length->j<m->(l.flatMap f)[k*m+j]?=(f (l.getD k d))[j]?
 | [],k,j,hk,_=>by simp at hk
 | a::r,0,j,_,c=>by
  rw[lv,List.getElem?_append_left (by rw[b];omega),Nat.zero_mul,kx];rfl
 | a::r,k+1,j,hk,c=>by
  have e:k<r.length:=by simpa using hk
  have e1:(k+1)*m+j=m+(k*m+j):=by rw[Nat.succ_mul];omega
  rw[e1,lv,List.getElem?_append_right (by rw[b];omega),b,Nat.add_sub_cancel_left,fO f m b d r k j e c];rfl
def bp.own(h:w.ownsRow B e 2 v l.length (l.flatMap pG))(m:l.length<=1000):∃s:Sl,v=.slice s.A s.n s.c/\bp w s l/\(∀a,s.A=Y a->B<=a.block/\a.block<w.heap.size):=by
 obtain⟨A,c,rfl,f,h2,i⟩:=jP h;refine⟨⟨A,l.length,c⟩,rfl,⟨rfl,f,m,λn=>?_⟩,λa d=>h2 _ (by simp only at d;rw[d];rfl)⟩;obtain⟨g,rfl,b⟩:=i n;have j:=(h2 g rfl).2;refine⟨g,0,rfl,j,λk hk=>⟨?_,?_⟩⟩
 .have:=fO pG 2 (λ_=>rfl) (0,0) l k 0 hk zz;rw[kx];exact b _ _ (this.tn rfl)
 .have:=fO pG 2 (λ_=>rfl) (0,0) l k 1 hk zz;rw[kx];exact b _ _ (this.tn rfl)
def fL.own{l:List (Int×Int×Bool)}(h:w.ownsRow B e 3 v l.length (l.flatMap rO))(m:l.length<=1000):∃s:Sl,v=.slice s.A s.n s.c/\fL w s l/\(∀a,s.A=Y a->B<=a.block/\a.block<w.heap.size):=by
 obtain⟨A,c,rfl,f,h2,i⟩:=jP h;refine⟨⟨A,l.length,c⟩,rfl,⟨rfl,f,m,λn=>?_⟩,λa d=>h2 _ (by simp only at d;rw[d];rfl)⟩;obtain⟨g,rfl,b⟩:=i n;have j:=(h2 g rfl).2;refine⟨g,0,rfl,j,λk hk=>⟨?_,?_,?_⟩⟩
 .have:=fO rO 3 (λ_=>rfl) (0,0,false) l k 0 hk zz;rw[kx];exact b _ _ (this.tn rfl)
 .have:=fO rO 3 (λ_=>rfl) (0,0,false) l k 1 hk zz;rw[kx];exact b _ _ (this.tn rfl)
 .have:=fO rO 3 (λ_=>rfl) (0,0,false) l k 2 hk zz;rw[kx];exact b _ _ (this.tn rfl)
def eC.own{l:List Int}(h:w.ownsRow B e 1 v l.length (l.map (M.int .i64)))(m:l.length<=1000):∃s:Sl,v=.slice s.A s.n s.c/\eC w s l/\(∀a,s.A=Y a->B<=a.block/\a.block<w.heap.size):=by
 obtain⟨A,c,rfl,d,h2,f⟩:=jP h;refine⟨⟨A,l.length,c⟩,rfl,⟨rfl,d,m,λn=>?_⟩,λa b=>h2 _ (by simp only at b;rw[b];rfl)⟩;obtain⟨g,rfl,i⟩:=f n;have j:=(h2 g rfl).2;refine⟨g,0,rfl,j,λk hk=>?_⟩;rw[kx];exact i _ _ (by simp[List.getD,iv hk])
variable{i k:Nat}{oi:Kp}{L:Array Bool}{a:Act}{P:Ps}{ops:Array Kp}{Q:Exit->Act->H->Prop}{md:Region.Mode}{S:H->Prop}{late:Nat->Bool}
def wpAnyL(P:Ps)(md:Region.Mode)(ops:Array Kp)(Q:Exit->Act->H->Prop)(S:H->Prop)(late:Nat->Bool):Nat->Array Bool->Act->H->Prop
 | 0,L,a,w=>Region.ready md ops L=[]/\Q .normal a w
 | k+1,L,a,w=>(Region.ready md ops L=[]->Q .normal a w)/\∀i∈Region.ready md ops L,wpOp P ops Q i (λb w'=>(late i=false->S w')/\wpAnyL P md ops Q S late k (L.setIfInBounds i true) b w') a w
def sA:∀(k:Nat) (L:Array Bool) (a:Act) (w:H),wpAnyL P md ops Q S late k L a w->wpAny P md ops Q k L a w
 | 0,_,_,_,h=>h
 | k+1,_,_,_,h=>⟨h.1,λi hi=>wpOp_mono (λb w' c=>sA k _ b w' c.2) (h.2 i hi)⟩
def wpAnyL_first(hi:ops[i]?=Y oi)(G:∀(j:Nat) (o:Kp) cs b,ops[j]?=Y o->o.op≠.select cs b)
  (N:∀c a w,Q (.panic c) (a.put oi.dst v) w->Q (.panic c) a w)
  (V:∀j d,ops[j]?=Y d->late j=true->∃e∈d.after,Region.binds md e=true/\e.on=i):
  ∀(k:Nat) (L:Array Bool) (a:Act) (w:Cl),
   (∀j d,ops[j]?=Y d->j≠i->L.getD j true=false->(∀e∈d.after,Region.binds md e=true->e.on≠i)->oi.apart ops d=true)->
   i∈Region.ready md ops L->YieldsIf P ops S oi v a->S w->
   wpAnyL P md ops Q S late k (L.setIfInBounds i true) (a.put oi.dst v) w->wpAnyL P md ops Q S late (k+1) L a w:=by
 intro k
 induction k with
 | zero=>
  intro L a w _ l r m H;refine⟨λh=>(by rw[h]at l;cases l),λj p=>?_⟩;by_cases f:j=i
  .subst f;exact r.wpOp hi m ⟨λ_=>m,H⟩
  .have:=ready_mono p f;rw[H.1]at this;cases this
 | succ k Z=>
  intro L a w A l r m H;refine⟨λh=>(by rw[h]at l;cases l),λj p=>?_⟩;by_cases f:j=i
  .subst f;exact r.wpOp hi m ⟨λ_=>m,H⟩
  .have g:=H.2 j (ready_mono p f);obtain⟨C,d,q,O⟩:=mem_ready.1 p;have E:∀e∈d.after,Region.binds md e=true->e.on≠i:=λe u t x=>by
    have g:=O e u t;have y:=(mem_ready.1 l).1;rw[x]at g;rcases Nat.lt_or_ge i L.size with s|s
    .simp[s]at y g;rw[y]at g;cases g
    .simp[Array.getElem?_eq_none s]at g
   have z:late j=false:=by
    cases U:late j with
    | false=>rfl
    | true=>
     obtain⟨e,u,t,x⟩:=V j d q U;exact mi x (E e u t)
   have h2:=wpOp_putIf q (A j d q f C E) (λcs b=>G i oi cs b hi) (λcs b=>G j d cs b q) N r g;have R:∀k ok,ops[k]?=Y ok->k≠i->(L.setIfInBounds j true).getD k true=false->
     (∀e∈ok.after,Region.binds md e=true->e.on≠i)->oi.apart ops ok=true:=λk ok hk T J W=>by
    refine A k ok hk T ?_ W;by_cases B:j=k
    .subst B;exact C
    .rw[getD_set_ne true B]at J;exact J
   refine wpOp_mono (λK w' n=>⟨λ_=>n.2.1 z,Z (L.setIfInBounds j true) K w' R (ready_mono l (Ne.symm f)) n.1 (n.2.1 z) ?_⟩) h2;rw[Array.setIfInBounds_comm _ _ f];exact n.2.2
def nN(md:Region.Mode)(ops:Array Kp)(late:Nat->Bool)(i:Nat):Bool:=(List.range ops.size).all λj=> !late j||(match ops[j]? with|some o=>o.after.any λe=>Region.binds md e&&e.on==i|none=>true)
def yh(h:nN md ops late i=true):∀j b,ops[j]?=Y b->late j=true->∃e∈b.after,Region.binds md e=true/\e.on=i:=λj b c g=>by
 have k:=(ec.1 c).1;have a:=List.all_eq_true.1 h j (List.mem_range.2 k);rw[c,g]at a;simp only[Bool.not_true,Bool.false_or,Array.any_eq_true',du,nd]at a;obtain⟨e,f,d,l⟩:=a;exact⟨e,f,d,l⟩
def qQ(hi:ops[i]?=Y oi)
  (g:Region.noSelect ops=true)(e:Region.free md ops L i=true)(f:(Region.ready md ops L).contains i=true)(j:nN md ops late i=true)
  (b:∀c a w,Q (.panic c) (a.put oi.dst v) w->Q (.panic c) a w)(l:YieldsIf P ops S oi v a)(d:S w)
  (h:wpAnyL P md ops Q S late k (L.setIfInBounds i true) (a.put oi.dst v) w):wpAnyL P md ops Q S late (k+1) L a w:=
 wpAnyL_first hi (Region.noSelect_spec g) b (yh j) k L a w (Region.free_spec hi e) (by simpa using f) l d h
def eU{o:Kp}(b:Region.ready md ops L=[i])(g:ops[i]?=Y o)
  (h:∀K:Act->H->Prop,(∀a w,(late i=false->S w)->wpAnyL P md ops Q S late k (L.setIfInBounds i true) a w->K a w)->if Region.wanted o (aw ops a.tmps)=true then Kp.wp P o a w K Q else K (a.put o.dst D) w):
  wpAnyL P md ops Q S late (k+1) L a w:=by
 refine⟨λd=>(by rw[d]at b;cases b),λj c=>?_⟩;rw[b]at c;obtain rfl:=q8A.1 c;exact wpOp_step g (λK f=>h K λa w e h2=>f a w ⟨e,h2⟩)
def cH(b:Region.ready md ops L=[])(h:Q .normal a w):∀k,wpAnyL P md ops Q S late k L a w
 | 0=>⟨b,h⟩
 | _+1=>⟨λ_=>h,by rw[b];simp⟩
def bK{id:Nat}(late:Nat->Bool)(b:P.follows .mixedOrders=true)
  (h:wpAnyL P .any ops Q S late ops.size (Array.replicate ops.size false) a w.drew):(Ly.region id ops true).wp P Q a w:=
 wp_region_any b (sA _ _ _ _ h)
def gi{B e size n:Nat}{v:M}{xs:List M}(h:w.ownsRow B e size v n xs):∃A c,v=.slice A n c:=by
 obtain⟨A,c,a,-⟩:=jP h;exact⟨A,c,a⟩
structure lZ(w:H)(B:Nat)(b:aC)(l:pK):Prop where
 nC:b.C.n=l.C.length
 nU:b.U.n=l.U.length
 nE:b.E.n=l.E.length
 nW:b.W.n=l.W.length
 bC:l.C.length<=1000
 bU:l.U.length<=1000
 bE:l.E.length<=1000
 bW:l.W.length<=1000
 C:w.ownsRow B 3 1 (.slice b.C.A b.C.n b.C.c) b.C.n (l.C.map (M.int .i64))
 U:w.ownsRow B 101 2 (.slice b.U.A b.U.n b.U.c) b.U.n (l.U.flatMap pG)
 E:w.ownsRow B 103 2 (.slice b.E.A b.E.n b.E.c) b.E.n (l.E.flatMap pG)
 W:w.ownsRow B 74 3 (.slice b.W.A b.W.n b.W.c) b.W.n (l.W.flatMap rO)
 CU:∀a a',b.C.A=Y a->b.U.A=Y a'->a.block<a'.block
 CE:∀a a',b.C.A=Y a->b.E.A=Y a'->a.block<a'.block
 CW:∀a a',b.C.A=Y a->b.W.A=Y a'->a.block<a'.block
 UW:∀a a',b.U.A=Y a->b.W.A=Y a'->a.block<a'.block
 EW:∀a a',b.E.A=Y a->b.W.A=Y a'->a.block<a'.block
def iH{g:Nat}{t:Lk}{b0:aC}(b:aC)(h:aK w g t b0):aK (((((((((((((w.setCell ⟨g,0,I⟩ (.int .i64 b.S)).setCell ⟨g,1,I⟩ (.int .i64 b.D)).setCell ⟨g,2,I⟩ (.int .i64 b.L)).setCell ⟨g,3,I⟩ (.int .i64 b.lo)).setCell ⟨g,4,I⟩ (.int .i64 b.hi)).setCell ⟨g,5,I⟩ (.slice b.C.A b.C.n b.C.c)).setCell ⟨g,6,I⟩ (.int .i64 b.rf)).setCell ⟨g,7,I⟩ (.int .i64 b.rh)).setCell ⟨g,8,I⟩ (.int .i64 b.cf)).setCell ⟨g,9,I⟩ (.int .i64 b.ch)).setCell ⟨g,10,I⟩ (.slice b.U.A b.U.n b.U.c)).setCell ⟨g,11,I⟩ (.slice b.E.A b.E.n b.E.c)).setCell ⟨g,12,I⟩ (.slice b.W.A b.W.n b.W.c)) g t b/\aS (λx=>x≠g) w (((((((((((((w.setCell ⟨g,0,I⟩ (.int .i64 b.S)).setCell ⟨g,1,I⟩ (.int .i64 b.D)).setCell ⟨g,2,I⟩ (.int .i64 b.L)).setCell ⟨g,3,I⟩ (.int .i64 b.lo)).setCell ⟨g,4,I⟩ (.int .i64 b.hi)).setCell ⟨g,5,I⟩ (.slice b.C.A b.C.n b.C.c)).setCell ⟨g,6,I⟩ (.int .i64 b.rf)).setCell ⟨g,7,I⟩ (.int .i64 b.rh)).setCell ⟨g,8,I⟩ (.int .i64 b.cf)).setCell ⟨g,9,I⟩ (.int .i64 b.ch)).setCell ⟨g,10,I⟩ (.slice b.U.A b.U.n b.U.c)).setCell ⟨g,11,I⟩ (.slice b.E.A b.E.n b.E.c)).setCell ⟨g,12,I⟩ (.slice b.W.A b.W.n b.W.c))/\(((((((((((((w.setCell ⟨g,0,I⟩ (.int .i64 b.S)).setCell ⟨g,1,I⟩ (.int .i64 b.D)).setCell ⟨g,2,I⟩ (.int .i64 b.L)).setCell ⟨g,3,I⟩ (.int .i64 b.lo)).setCell ⟨g,4,I⟩ (.int .i64 b.hi)).setCell ⟨g,5,I⟩ (.slice b.C.A b.C.n b.C.c)).setCell ⟨g,6,I⟩ (.int .i64 b.rf)).setCell ⟨g,7,I⟩ (.int .i64 b.rh)).setCell ⟨g,8,I⟩ (.int .i64 b.cf)).setCell ⟨g,9,I⟩ (.int .i64 b.ch)).setCell ⟨g,10,I⟩ (.slice b.U.A b.U.n b.U.c)).setCell ⟨g,11,I⟩ (.slice b.E.A b.E.n b.E.c)).setCell ⟨g,12,I⟩ (.slice b.W.A b.W.n b.W.c)).heap.size=w.heap.size:=by
 unfold aK aE at*;have a:=bJ (i:=0) h (.int .i64 b.S);simp only[zS]at a;have c:=bJ (i:=1) a (.int .i64 b.D);simp only[zS]at c;have h2:=bJ (i:=2) c (.int .i64 b.L);simp only[zS]at h2;have j:=bJ (i:=3) h2 (.int .i64 b.lo);simp only[zS]at j;have k:=bJ (i:=4) j (.int .i64 b.hi);simp only[zS]at k;have l:=bJ (i:=5) k (.slice b.C.A b.C.n b.C.c);simp only[zS]at l;have m:=bJ (i:=6) l (.int .i64 b.rf);simp only[zS]at m;have n:=bJ (i:=7) m (.int .i64 b.rh);simp only[zS]at n;have o:=bJ (i:=8) n (.int .i64 b.cf);simp only[zS]at o;have q:=bJ (i:=9) o (.int .i64 b.ch);simp only[zS]at q;have d:=bJ (i:=10) q (.slice b.U.A b.U.n b.U.c);simp only[zS]at d;have e:=bJ (i:=11) d (.slice b.E.A b.E.n b.E.c);simp only[zS]at e;have f:=bJ (i:=12) e (.slice b.W.A b.W.n b.W.c);simp only[zS]at f;exact⟨f,((((((((((((((aS.refl _ _).set (p:=⟨g,0,I⟩) (λ_ h=>h rfl) _).set (p:=⟨g,1,I⟩) (λ_ h=>h rfl) _).set (p:=⟨g,2,I⟩) (λ_ h=>h rfl) _).set (p:=⟨g,3,I⟩) (λ_ h=>h rfl) _).set (p:=⟨g,4,I⟩) (λ_ h=>h rfl) _).set (p:=⟨g,5,I⟩) (λ_ h=>h rfl) _).set (p:=⟨g,6,I⟩) (λ_ h=>h rfl) _).set (p:=⟨g,7,I⟩) (λ_ h=>h rfl) _).set (p:=⟨g,8,I⟩) (λ_ h=>h rfl) _).set (p:=⟨g,9,I⟩) (λ_ h=>h rfl) _).set (p:=⟨g,10,I⟩) (λ_ h=>h rfl) _).set (p:=⟨g,11,I⟩) (λ_ h=>h rfl) _).set (p:=⟨g,12,I⟩) (λ_ h=>h rfl) _),by simp[H.setCell]⟩
theorem DX(b:aC)(l:pK)(w:H)(t:aI w b l):
  PH F 61 #[b.v] w λe w'=>∃C U E W:Sl,e=.returned ({b with C:=C,U:=U,E:=E,W:=W}:aC).v/\lZ w' w.heap.size {b with C:=C,U:=U,E:=E,W:=W} l/\X w.heap.size w w':=by
 have a5:=Hm t;have c1:=λw' h=>GF b.C l.C w' h;have c3:=λw' h=>GB b.U (l.U.flatMap pG) w' h;have c2:=λw' h=>GC b.E (l.E.flatMap pG) w' h;have c4:=λw' h=>GD b.W (l.W.flatMap rO) w' h;clear t;unfold aC.v;go_enter Tryz.func61,Tryz.ntmps61;go_wp2_with fail;change Ly.wp _ _ _ _ ((w.alloc (aE b 31)).alloc (aE bI 31));have b6:aK ((w.alloc (aE b 31)).alloc (aE bI 31)) w.heap.size 31 b:=(QR _ _ ss).tn (Sp _ _);have b8:aK ((w.alloc (aE b 31)).alloc (aE bI 31)) (w.heap.size+1) 31 bI:=by rw[<- aa w (aE b 31)];exact Sp _ _
 have b9:((w.alloc (aE b 31)).alloc (aE bI 31)).heap.size=w.heap.size+1+1:=by simp only[aa]
 have b7:X w.heap.size w ((w.alloc (aE b 31)).alloc (aE bI 31)):=((X.refl _ _).alloc (qN _) _).alloc (by simp only[aa];omega) _;generalize((w.alloc (aE b 31)).alloc (aE bI 31))=W at b6 b8 b9 b7|-;have k:=Hm b6;have HR:=Hm b8;have c7:=Hm b9;have a4:=Hm b7;clear b6 b8 b9 b7;have N:aK W.drew w.heap.size 31 b/\X W.heap.size W W.drew:=⟨k.out,X.drew (X.refl _ _)⟩;refine bK (S:=λw'=>aK w' w.heap.size 31 b/\X W.heap.size W w') (λi=>decide (13<=i)) kr ?_;refine qQ (i:=0) (v:=?_) rfl kr kr kr kr (λ_ _ _ h=>h) (Or.inl ⟨by rfl,?_⟩) N ?_
 .exact .pointer (Y ⟨w.heap.size,5,I⟩)
 .intro f d;go_simp
 try simp only[Act.put,zS]
 refine qQ (i:=1) (v:=?_) rfl kr kr kr kr (λ_ _ _ h=>h) (Or.inl ⟨by rfl,?_⟩) N ?_
 .exact .slice b.C.A b.C.n b.C.c
 .intro f d;obtain⟨P,z,A,B,G,V,Z,x7,x8,x9,Q,R,T⟩:=aM d.1;clear d;go_simp
 try simp only[Act.put,zS]
 refine qQ (i:=3) (v:=?_) rfl kr kr kr kr (λ_ _ _ h=>h) (Or.inl ⟨by rfl,?_⟩) N ?_
 .exact .pointer (Y ⟨w.heap.size,10,I⟩)
 .intro f d;go_simp
 try simp only[Act.put,zS]
 refine qQ (i:=4) (v:=?_) rfl kr kr kr kr (λ_ _ _ h=>h) (Or.inl ⟨by rfl,?_⟩) N ?_
 .exact .slice b.U.A b.U.n b.U.c
 .intro f d;obtain⟨P,z,A,B,G,V,Z,x7,x8,x9,Q,R,T⟩:=aM d.1;clear d;go_simp
 try simp only[Act.put,zS]
 refine qQ (i:=6) (v:=?_) rfl kr kr kr kr (λ_ _ _ h=>h) (Or.inl ⟨by rfl,?_⟩) N ?_
 .exact .pointer (Y ⟨w.heap.size,11,I⟩)
 .intro f d;go_simp
 try simp only[Act.put,zS]
 refine qQ (i:=7) (v:=?_) rfl kr kr kr kr (λ_ _ _ h=>h) (Or.inl ⟨by rfl,?_⟩) N ?_
 .exact .slice b.E.A b.E.n b.E.c
 .intro f d;obtain⟨P,z,A,B,G,V,Z,x7,x8,x9,Q,R,T⟩:=aM d.1;clear d;go_simp
 try simp only[Act.put,zS]
 refine qQ (i:=9) (v:=?_) rfl kr kr kr kr (λ_ _ _ h=>h) (Or.inl ⟨by rfl,?_⟩) N ?_
 .exact .pointer (Y ⟨w.heap.size,12,I⟩)
 .intro f d;go_simp
 try simp only[Act.put,zS]
 refine qQ (i:=10) (v:=?_) rfl kr kr kr kr (λ_ _ _ h=>h) (Or.inl ⟨by rfl,?_⟩) N ?_
 .exact .slice b.W.A b.W.n b.W.c
 .intro f d;obtain⟨P,z,A,B,G,V,Z,x7,x8,x9,Q,R,T⟩:=aM d.1;clear d;go_simp
 try simp only[Act.put,zS]
 clear N;obtain⟨a7,b'⟩:∃a7,W.drew=a7:=⟨_,rfl⟩;have k0:X W.heap.size W a7:=by rw[<- b'];exact X.drew (X.refl _ _)
 rw[b'];clear b';have l1:eC a7 b.C l.C:=(a5.out.C.below a4.out).below k0;refine eU (i:=2) kr rfl (λK c=>?_);go_simp;refine(c1 a7 l1).mono ?_;rintro e f ⟨v1,rfl,o1,j1⟩;have O:X W.heap.size W f:=k0.tn (j1.mono k0.size);obtain⟨j,p,rfl⟩:=gi o1;clear l1 c1;go_simp;refine c _ _ (λ_=>⟨(O.block _ k.out.lt).tn k.out,O⟩) ?_;clear c K;try simp only[Act.put,zS]
 refine qQ (i:=12) (v:=?_) rfl kr kr kr kr (λ_ _ _ h=>h) (Or.inl ⟨by rfl,?_⟩) ⟨(O.block _ k.out.lt).tn k.out,O⟩ ?_
 .exact .pointer (Y ⟨w.heap.size,5,I⟩)
 .intro f d;go_simp
 try simp only[Act.put,zS]
 have l2:mK f b.U 2 (l.U.flatMap pG):=((a5.out.U.below a4.out).below O).cells;refine eU (i:=5) kr rfl (λK c=>?_);go_simp;refine(c3 f l2).mono ?_;rintro e w2 ⟨v2,rfl,o2,j2⟩;have k2:X W.heap.size W w2:=O.tn (j2.mono O.size);obtain⟨o,r,rfl⟩:=gi o2;clear l2 c3;go_simp;refine c _ _ (λ_=>⟨(k2.block _ k.out.lt).tn k.out,k2⟩) ?_;clear c K;try simp only[Act.put,zS]
 have l3:mK w2 b.E 2 (l.E.flatMap pG):=((a5.out.E.below a4.out).below k2).cells;refine eU (i:=8) kr rfl (λK c=>?_);go_simp;refine(c2 w2 l3).mono ?_;rintro e w3 ⟨v3,rfl,o3,j3⟩;have k3:X W.heap.size W w3:=k2.tn (j3.mono k2.size);obtain⟨q,y,rfl⟩:=gi o3;clear l3 c2;go_simp;refine c _ _ (λ_=>⟨(k3.block _ k.out.lt).tn k.out,k3⟩) ?_;clear c K;try simp only[Act.put,zS]
 have l4:mK w3 b.W 3 (l.W.flatMap rO):=((a5.out.W.below a4.out).below k3).cells;refine eU (i:=11) kr rfl (λK c=>?_);go_simp;refine(c4 w3 l4).mono ?_;rintro e n ⟨v4,rfl,o4,j4⟩;have k4:X W.heap.size W n:=k3.tn (j4.mono k3.size);obtain⟨u,L,rfl⟩:=gi o4;clear l4 c4;go_simp;refine c _ _ (λ_=>⟨(k4.block _ k.out.lt).tn k.out,k4⟩) ?_;clear c K;try simp only[Act.put,zS]
 have b0:aK n w.heap.size 31 b:=(k4.block _ k.out.lt).tn k.out;have r0:aK n (w.heap.size+1) 31 bI:=(k4.block _ HR.out.lt).tn HR.out;have z:=(aM b0).2.2.2.2.2;have f1:=dx b0 5;refine eU (i:=13) kr rfl (λK c=>?_);obtain⟨y5, -, -, -, -, a1,a2,a3⟩:=z;go_simp;refine c _ _ (λh=>mi h dd) ?_;clear c K y5 a1 a2 a3 f1;try simp only[Act.put,zS]
 have b1:aK (n.setCell ⟨w.heap.size,5,I⟩ (.slice j b.C.n p)) w.heap.size 31 {b with C:=⟨j,b.C.n,p⟩}:=by
  have:=bJ (i:=5) b0 (.slice j b.C.n p);simp only[zS]at this;exact this
 have g1:aS (λx=>x≠w.heap.size) n (n.setCell ⟨w.heap.size,5,I⟩ (.slice j b.C.n p)):=(aS.refl _ _).set (λ_ h=>h rfl) _;generalize n.setCell ⟨w.heap.size,5,I⟩ (.slice j b.C.n p)=u1 at b1 g1|-;refine eU (i:=14) kr rfl (λK c=>?_);go_simp;refine c _ _ (λh=>mi h dd) ?_;clear c K;try simp only[Act.put,zS]
 have A:=(aM b1).2.2.2.2.2;have f2:=dx b1 10;refine eU (i:=15) kr rfl (λK c=>?_);obtain⟨y5, -, -, -, -, a1,a2,a3⟩:=A;go_simp;refine c _ _ (λh=>mi h dd) ?_;clear c K y5 a1 a2 a3 f2;try simp only[Act.put,zS]
 have b2:aK (u1.setCell ⟨w.heap.size,10,I⟩ (.slice o b.U.n r)) w.heap.size 31 {b with C:=⟨j,b.C.n,p⟩,U:=⟨o,b.U.n,r⟩}:=by
  have:=bJ (i:=10) b1 (.slice o b.U.n r);simp only[zS]at this;exact this
 have g2:aS (λx=>x≠w.heap.size) u1 (u1.setCell ⟨w.heap.size,10,I⟩ (.slice o b.U.n r)):=(aS.refl _ _).set (λ_ h=>h rfl) _;generalize u1.setCell ⟨w.heap.size,10,I⟩ (.slice o b.U.n r)=u2 at b2 g2|-;clear b1;refine eU (i:=16) kr rfl (λK c=>?_);go_simp;refine c _ _ (λh=>mi h dd) ?_;clear c K;try simp only[Act.put,zS]
 have B:=(aM b2).2.2.2.2.2;have f3:=dx b2 11;refine eU (i:=17) kr rfl (λK c=>?_);obtain⟨y5, -, -, -, -, a1,a2,a3⟩:=B;go_simp;refine c _ _ (λh=>mi h dd) ?_;clear c K y5 a1 a2 a3 f3;try simp only[Act.put,zS]
 have b3:aK (u2.setCell ⟨w.heap.size,11,I⟩ (.slice q b.E.n y)) w.heap.size 31 {b with C:=⟨j,b.C.n,p⟩,U:=⟨o,b.U.n,r⟩,E:=⟨q,b.E.n,y⟩}:=by
  have:=bJ (i:=11) b2 (.slice q b.E.n y);simp only[zS]at this;exact this
 have g3:aS (λx=>x≠w.heap.size) u2 (u2.setCell ⟨w.heap.size,11,I⟩ (.slice q b.E.n y)):=(aS.refl _ _).set (λ_ h=>h rfl) _;generalize u2.setCell ⟨w.heap.size,11,I⟩ (.slice q b.E.n y)=u3 at b3 g3|-;clear b2;refine eU (i:=18) kr rfl (λK c=>?_);go_simp;refine c _ _ (λh=>mi h dd) ?_;clear c K;try simp only[Act.put,zS]
 have G:=(aM b3).2.2.2.2.2;have f4:=dx b3 12;refine eU (i:=19) kr rfl (λK c=>?_);obtain⟨y5, -, -, -, -, a1,a2,a3⟩:=G;go_simp;refine c _ _ (λh=>mi h dd) ?_;clear c K y5 a1 a2 a3 f4;try simp only[Act.put,zS]
 have b4:aK (u3.setCell ⟨w.heap.size,12,I⟩ (.slice u b.W.n L)) w.heap.size 31 {b with C:=⟨j,b.C.n,p⟩,U:=⟨o,b.U.n,r⟩,E:=⟨q,b.E.n,y⟩,W:=⟨u,b.W.n,L⟩}:=by
  have:=bJ (i:=12) b3 (.slice u b.W.n L);simp only[zS]at this;exact this
 have g4:aS (λx=>x≠w.heap.size) u3 (u3.setCell ⟨w.heap.size,12,I⟩ (.slice u b.W.n L)):=(aS.refl _ _).set (λ_ h=>h rfl) _;generalize u3.setCell ⟨w.heap.size,12,I⟩ (.slice u b.W.n L)=u4 at b4 g4|-;clear b3;refine cH kr ?_ _;have b5:aS (λx=>x≠w.heap.size) n u4:=((g1.tn g2).tn g3).tn g4;have r4:aK u4 (w.heap.size+1) 31 bI:=(b5.block _ r0.lt zz).tn r0;clear g1 g2 g3 g4 r0;have G4:=Hm b5;have R4:=Hm r4;have B4:=Hm b4;have a8:=Hm o1;have a9:=Hm o2;have a':=Hm o3;have a0:=Hm o4;have J1:=Hm j1;have J2:=Hm j2;have J3:=Hm j3;have J4:=Hm j4;have K0:=Hm k0;have K4:=Hm k4;clear b5 o1 o2 o3 o4 j1 j2 j3 j4 k0 O k2 k3 k4;obtain⟨P,z,A,B,G,V,Z,x7,x8,x9,Q,R,T⟩:=aM b4;obtain⟨z0,z1,z2,z3,z4,z5,z6,z7,z8,z9,d2,d3,d4⟩:=aM r4;have c8:=dx r4;clear b4 r4;go_wp2;obtain⟨f1,f2,f3⟩:=iH ({b with C:=⟨j,b.C.n,p⟩,U:=⟨o,b.U.n,r⟩,E:=⟨q,b.E.n,y⟩,W:=⟨u,b.W.n,L⟩}:aC) R4.out;generalize c9:(((((((((((((u4.setCell ⟨w.heap.size+1,0,I⟩ (.int .i64 b.S)).setCell ⟨w.heap.size+1,1,I⟩ (.int .i64 b.D)).setCell ⟨w.heap.size+1,2,I⟩ (.int .i64 b.L)).setCell ⟨w.heap.size+1,3,I⟩ (.int .i64 b.lo)).setCell ⟨w.heap.size+1,4,I⟩ (.int .i64 b.hi)).setCell ⟨w.heap.size+1,5,I⟩ (.slice j b.C.n p)).setCell ⟨w.heap.size+1,6,I⟩ (.int .i64 b.rf)).setCell ⟨w.heap.size+1,7,I⟩ (.int .i64 b.rh)).setCell ⟨w.heap.size+1,8,I⟩ (.int .i64 b.cf)).setCell ⟨w.heap.size+1,9,I⟩ (.int .i64 b.ch)).setCell ⟨w.heap.size+1,10,I⟩ (.slice o b.U.n r)).setCell ⟨w.heap.size+1,11,I⟩ (.slice q b.E.n y)).setCell ⟨w.heap.size+1,12,I⟩ (.slice u b.W.n L))=d1 at f1 f2 f3|-;clear c9 P z A B G V Z x7 x8 x9 Q R T z0 z1 z2 z3 z4 z5 z6 z7 z8 z9 d2 d3 d4 c8;obtain⟨P,z,A,B,G,V,Z,x7,x8,x9,Q,R,T⟩:=aM f1;refine bd (v:=({b with C:=⟨j,b.C.n,p⟩,U:=⟨o,b.U.n,r⟩,E:=⟨q,b.E.n,y⟩,W:=⟨u,b.W.n,L⟩}:aC).v) (by simp[results,Tryz.results61,go_sem,P,z,A,B,G,V,Z,x7,x8,x9,Q,R,T,aC.v]) rfl ⟨⟨j,b.C.n,p⟩,⟨o,b.U.n,r⟩,⟨q,b.E.n,y⟩,⟨u,b.W.n,L⟩,rfl,?_⟩;clear P z A B G V Z x7 x8 x9 Q R T;have s0:=K0.out.size;have s1:=J1.out.size;have s2:=J2.out.size;have s3:=J3.out.size;have s4:=J4.out.size;have d6:=c7.out;have c6:aS (λx=>x<w3.heap.size) w3 n:=aS.dY J4.out (λ_ _ h=>h);have c5:aS (λx=>x<w2.heap.size) w2 n:=(aS.dY (K:=λx=>x<w2.heap.size) J3.out (λ_ _ h=>h)).tn (c6.mono (λx h s=>zz));have c':aS (λx=>x<f.heap.size) f n:=(aS.dY (K:=λx=>x<f.heap.size) J2.out (λ_ _ h=>h)).tn (c5.mono (λx h s=>zz));have a6:aS (λx=>x≠w.heap.size/\x≠w.heap.size+1) n d1:=(G4.out.mono (λ_ _ h=>h.1)).tn (f2.mono (λ_ _ h=>h.2));have p1:=bB (bB a8.out c' (λg m=>(a8.out.lt g m).2)) a6 (λg m=>by have:=(a8.out.lt g m).1;omega);have p2:=bB (bB a9.out c5 (λg m=>(a9.out.lt g m).2)) a6 (λg m=>by have:=(a9.out.lt g m).1;omega);have p3:=bB (bB a'.out c6 (λg m=>(a'.out.lt g m).2)) a6 (λg m=>by have:=(a'.out.lt g m).1;omega);have p4:=bB a0.out a6 (λg m=>by have:=(a0.out.lt g m).1;omega);have q1:=λa (h:j=Y a)=>a8.out.lt a.block (by rw[h];rfl);have q2:=λa (h:o=Y a)=>a9.out.lt a.block (by rw[h];rfl);have q3:=λa (h:q=Y a)=>a'.out.lt a.block (by rw[h];rfl);have q4:=λa (h:u=Y a)=>a0.out.lt a.block (by rw[h];rfl);have t:=a5.out;refine⟨⟨t.C.1,t.U.1,t.E.1,t.W.1,t.C.2.2.1,t.U.2.2.1,t.E.2.2.1,t.W.2.2.1,dy zz p1,dy zz p2,dy zz p3,dy zz p4,
  λa J h s=>?_,λa J h s=>?_,λa J h s=>?_,λa J h s=>?_,λa J h s=>?_⟩,?_⟩
 .have:=q1 a h;have:=q2 J s;omega
 .have:=q1 a h;have:=q3 J s;omega
 .have:=q1 a h;have:=q4 J s;omega
 .have:=q2 a h;have:=q4 J s;omega
 .have:=q3 a h;have:=q4 J s;omega
 .have t1:X w.heap.size w n:=a4.out.tn (K4.out.mono zz);exact t1.tn (a6.below zz (λx d5=>zz))
variable{Z:ae->M}{o:Kp}
def uq(g:Nat)(b:aC)(w:H):H:=((((((((((((w.setCell (g,0) (.int .i64 b.S)).setCell (g,1) (.int .i64 b.D)).setCell (g,2) (.int .i64 b.L)).setCell (g,3) (.int .i64 b.lo)).setCell (g,4) (.int .i64 b.hi)).setCell (g,5) (.slice b.C.A b.C.n b.C.c)).setCell (g,6) (.int .i64 b.rf)).setCell (g,7) (.int .i64 b.rh)).setCell (g,8) (.int .i64 b.cf)).setCell (g,9) (.int .i64 b.ch)).setCell (g,10) (.slice b.U.A b.U.n b.U.c)).setCell (g,11) (.slice b.E.A b.E.n b.E.c)).setCell (g,12) (.slice b.W.A b.W.n b.W.c)
def pq{g:Nat}{t:Lk}{b0:aC}(b:aC)(h:aK w g t b0):aK (uq g b w) g t b/\aS (λx=>x≠g) w (uq g b w)/\(uq g b w).heap.size=w.heap.size:=by
 obtain⟨a,h2,c⟩:=iH b h;exact⟨a,h2,by unfold uq;simp[H.setCell]⟩
def yT(P:Ps)(g:Nat)(t:Lk):∀(vs:List M) (i:Nat) (cs:Array M) (w:H) (es:Array Event),w.heap[g]?=Y (.cells cs t (0,0))->i+vs.length<=cs.size->(∀v∈vs,v.oneCell'=true)->
  ∀e∈(storeCells ⟨g,0,I⟩ vs i).events P w es,e∈es\/∃j wr,e=⟨.cell ⟨g,j,I⟩,wr,false⟩
 | [],_,_,_,_,_,_,_,e,he=>.inl (by simpa[storeCells]using he)
 | v::vs,i,cs,w,es,c,l,b,e,he=>by
  rw[ed]at l;have m:i<cs.size:=zz;have d:(⟨g,0,I⟩:Addr).add i=⟨g,i,I⟩:=by rw[Addr.add_lit,kx]
  have f:w.cell? ⟨g,i,I⟩=Y cs[i]:=by unfold H.cell?;dsimp only;rw[c];exact fi m
  have k:w.frozen? ⟨g,i,I⟩=false:=by simp[H.frozen?,c]
  have e1:=_root_.Go.run_store P w ⟨g,i,I⟩ v .plain (b v ss);have a:=events_store P w es ⟨g,i,I⟩ v .plain (b v ss);rw[f]at e1 a;simp only[k,lO,if_false]at e1 a;rw[storeCells,d]at he;rw[Sem.events_bind,e1,Result.evThen_ok,a]at he;rcases yT P g t vs (i+1) _ _ _ (bJ c v) (by simpa using(by omega:i+1+vs.length<=cs.size)) (λx n=>b x (by simp[n])) e he with h|h
  .rcases Array.mem_push.1 h with h|rfl
   .exact .inl h
   .exact .inr ⟨_,_,rfl⟩
  .exact .inr h
theorem rJ{x y:ae}{g:Nat}{b b0:aC}(f:o.op=.store 31 x y)(h:Z x=.pointer (Y ⟨g,0,I⟩))(d:Z y=b.v)(a:aK w g 31 b0):
  (Hn Z o).run F w=.ok .skip (uq g b w)/\∀e∈(Hn Z o).events F w #[],∃j wr,e=⟨.cell ⟨g,j,I⟩,wr,false⟩:=by
 have i:=yT F g 31 b.v.cells.toList 0 _ w #[] a (qN 13) (by intro v k;simp[aC.v,M.cells]at k;rcases k with rfl|rfl|rfl|rfl|rfl|rfl|rfl|rfl|rfl|rfl|rfl|rfl|rfl<;>rfl);obtain⟨p,q,y2,z,y4,A,B,C,E,G,s,t,u⟩:=aM a;have n:=dx a;refine⟨?_,λe c=>?_⟩
 .unfold aC.v at d;unfold Hn uq;simp only[f,h,d];clear f h d a i;go_simp
 .refine(i e ?_).resolve_left ss;unfold Hn at c;simp only[f,h,d]at c;have l:(Instr.sureAddr (.pointer (Y ⟨g,0,I⟩))).run F w=.ok ⟨g,0,I⟩ w:=rfl;have s2:∀es,(Instr.sureAddr (.pointer (Y ⟨g,0,I⟩))).events F w es=es:=λes=>rfl;have s3:(sizeOf 31).run F w=.ok 13 w:=by simp[go_sem]
  have m:∀es,(sizeOf 31).events F w es=es:=λes=>by simp[go_sem]
  have s5:b.v.cells.size=13:=rfl;simp only[Instr.storeAt,storeVar,Sem.events_bind,Sem.run_bind,l,s2,s3,m,s5,Result.evThen_ok,Result.andThen_ok,ne_eq,not_true_eq_false,if_false,Sem.events_pure]at c;revert c;generalize Sem.run F (storeCells _ _) w=r;cases r<;>exact id
def gI(b:aC)(l:pK):Int:=if ay b l≠0 then ay b l else if lK b l b.D.toNat=true then 0 else 9
def Y7(b:aC)(r:Int)(w:H)(e:Ending)(w':H):Prop:=e=.returned (.tuple #[(if r=0 then b else bI).v,.int .i64 r])/\X w w w'
def mL{w w':H}{b b0:aC}(h:X ((w.alloc (aE b 31)).alloc (aE b0 31)).heap.size ((w.alloc (aE b 31)).alloc (aE b0 31)) w'):aK w' w 31 b/\aK w' (w.heap.size+1) 31 b0/\X w w w'/\(w:Nat)+2<=w':=by
 refine⟨(h.block _ (by simp only[aa];omega)).tn ((QR _ _ ss).tn (Sp _ _)),(h.block _ (by simp only[aa];omega)).tn (by rw[<- aa w (aE b 31)];exact Sp _ _),cB h,?_⟩;have:=h.size;simp only[aa]at this;omega
theorem aaQ(b:aC)(l:pK)(w:H)(a8:aI w b l)(a4:aD w)(A:ay b l=0):PH F 62 #[b.v] w (Y7 b (gI b l) w):=by
 have Z:=Hm a8;have b2:=Hm a4;have a7:=λC G h2=>cG b l C G h2;have a':=λC G=>xU b l A C G;have a9:gI b l=if lK b l b.D.toNat=true then 0 else 9:=by unfold gI;rw[qVB (by simp[A])]
 rw[A]at a7;rw[a9];generalize lK b l b.D.toNat=q at a'|-;clear a8 a4 A a9;unfold aC.v at*
 cases q<;>
  (go_enter Tryz.func62,Tryz.ntmps62
   go_wp2_with (first|(go_at_call 51;refine(a7 _ (aq (aq Z.out _) _) (ai (ai b2.out _) _)).mono ?_;rintro e C ⟨rfl,a5⟩;obtain⟨c,b1,a6,a0⟩:=mL (b:=b) (b0:=bI) a5;obtain⟨J,K,P,Q,R,S,T,U,V,W,L,N,O⟩:=aM c;clear a5;have a1:=Hm c;have a2:=Hm b1;have E:=Hm a6;have b3:=Hm a0;clear c b1 a6 a0)|(go_at_call 66;refine(a' _ (Z.out.below E.out)).mono ?_;rintro e d ⟨rfl,z⟩;clear J  K  P  Q  R  S  T  U  V  W  L  N  O;have B:aK d (w.heap.size+1) 31 bI:=(z.block _ a2.out.lt).tn a2.out;obtain⟨J,K,P,Q,R,S,T,U,V,W,L,N,O⟩:=aM ((z.block _ a1.out.lt).tn a1.out);obtain⟨f,g,k,m,o,p,r,s,t,u,h,i,j⟩:=aM B;have b5:=dx B;have a3:=Hm B;have y:=Hm (E.out.tn (z.mono E.out.size));clear B z));have b6:=b3.out;clear J  K  P  Q  R  S  T  U  V  W  L  N  O f  g  k  m  o  p  r  s  t  u  h  i  j b5)
 .change bodyPost F Tryz.f62 _ .ret _ (uq (w.heap.size+1) bI d);obtain⟨f1,a,f3⟩:=pq bI a3.out;generalize uq (w.heap.size+1) bI d=b4 at f1 a|-;obtain⟨f,g,k,m,o,p,r,s,t,u,h,i,j⟩:=aM f1;exact bd (v:=.tuple #[bI.v,.int .i64 9]) (by simp[results,Tryz.results62,go_sem,f,g,k,m,o,p,r,s,t,u,h,i,j,aC.v,bI,iy]) rfl ⟨rfl,y.out.tn (a.below (n:=w.heap.size) (by have:=y.out.size;omega) λx c=>zz)⟩
 .change bodyPost F Tryz.f62 _ .ret _ (uq (w.heap.size+1) b d);obtain⟨f1,a,f3⟩:=pq b a3.out;generalize uq (w.heap.size+1) b d=b4 at f1 a|-;obtain⟨f,g,k,m,o,p,r,s,t,u,h,i,j⟩:=aM f1;exact bd (v:=.tuple #[b.v,.int .i64 0]) (by simp[results,Tryz.results62,go_sem,f,g,k,m,o,p,r,s,t,u,h,i,j,aC.v]) rfl ⟨rfl,y.out.tn (a.below (n:=w.heap.size) (by have:=y.out.size;omega) λx c=>zz)⟩
variable{l:pK}{b:aC}
def iY(l:pK)(step:Int):pK:= {l with C:=(l.C++[step]).mergeSort λx y=>decide (x<=y)}
def pH(b:aC)(l:pK)(step:Int):Int:=if ay b l≠0 then ay b l else if ax step 0 (b.S-1)=false then 6 else if step∈l.C then 5 else gI b (iY l step)
structure l5(w:H)(B:Nat)(b:aC)(l:pK):Prop where
 nC:b.C.n=l.C.length
 nU:b.U.n=l.U.length
 nE:b.E.n=l.E.length
 nW:b.W.n=l.W.length
 bC:l.C.length<=1000
 bU:l.U.length<=1000
 bE:l.E.length<=1000
 bW:l.W.length<=1000
 C:w.ownsRow B 3 1 (.slice b.C.A b.C.n b.C.c) b.C.n (l.C.map (M.int .i64))
 U:w.ownsRow B 101 2 (.slice b.U.A b.U.n b.U.c) b.U.n (l.U.flatMap pG)
 E:w.ownsRow B 103 2 (.slice b.E.A b.E.n b.E.c) b.E.n (l.E.flatMap pG)
 W:w.ownsRow B 74 3 (.slice b.W.A b.W.n b.W.c) b.W.n (l.W.flatMap rO)
def nO(b:aC)(l:pK)(r:Int)(w:H)(e:Ending)(w':H):Prop:=
 ∃a:aC,e=.returned (.tuple #[a.v,.int .i64 r])/\(if r=0 then(∃C U E W:Sl,a= {b with C:=C,U:=U,E:=E,W:=W})/\l5 w' w.heap.size a l else a=bI)/\X w w w'
def qv(b:aC)(l:pK)(C U E W:Sl):gI {b with C:=C,U:=U,E:=E,W:=W} l=gI b l:=rfl
def abY(b:aC)(l:pK)(w:H)(d:aI w b l)(a:aD w)(c:ay b l=0):PH F 62 #[b.v] w λe w'=>∃B:aC,e=.returned (.tuple #[B.v,.int .i64 (gI b l)])/\B=(if gI b l=0 then b else bI)/\X w w w':=
 (aaQ b l w d a c).mono λ_ _ h=>⟨_,h.1,rfl,h.2⟩
def Jf{l:List Int}(h:w.ownsRow B e 1 (.slice s.A s.n s.c) s.n (l.map (M.int .i64)))(a:s.n=l.length)(d:l.length<=1000):eC w s l:=by
 rw[a]at h;obtain⟨s',e1,b,-⟩:=eC.own h d;obtain⟨A,n,c⟩:=s;obtain⟨f,n',c'⟩:=s';simp only[lL]at e1 a;obtain⟨rfl,rfl,rfl⟩:=e1;rw[<- a]at b;exact b
def tX{l:List (Int×Int)}(h:w.ownsRow B e 2 (.slice s.A s.n s.c) s.n (l.flatMap pG))(a:s.n=l.length)(d:l.length<=1000):bp w s l:=by
 rw[a]at h;obtain⟨s',e1,b,-⟩:=bp.own h d;obtain⟨A,n,c⟩:=s;obtain⟨f,n',c'⟩:=s';simp only[lL]at e1 a;obtain⟨rfl,rfl,rfl⟩:=e1;rw[<- a]at b;exact b
def Bw{l:List (Int×Int×Bool)}(h:w.ownsRow B e 3 (.slice s.A s.n s.c) s.n (l.flatMap rO))(a:s.n=l.length)(d:l.length<=1000):fL w s l:=by
 rw[a]at h;obtain⟨s',e1,b,-⟩:=fL.own h d;obtain⟨A,n,c⟩:=s;obtain⟨f,n',c'⟩:=s';simp only[lL]at e1 a;obtain⟨rfl,rfl,rfl⟩:=e1;rw[<- a]at b;exact b
def l5.book(h:l5 w B b l):aI w b l:=⟨Jf h.C h.nC h.bC,tX h.U h.nU h.bU,tX h.E h.nE h.bE,Bw h.W h.nW h.bW⟩
def lZ.rows(h:lZ w B b l):l5 w B b l:=⟨h.nC,h.nU,h.nE,h.nW,h.bC,h.bU,h.bE,h.bW,h.C,h.U,h.E,h.W⟩
def l5.base{B B':Nat}(h:l5 w B b l)(hB:B'<=B):l5 w B' b l:=⟨h.nC,h.nU,h.nE,h.nW,h.bC,h.bU,h.bE,h.bW,dy hB h.C,dy hB h.U,dy hB h.E,dy hB h.W⟩
def AB{w2 w3 w4:H}{C' U' E' W':Sl}{o:Obj}{n4 c4:Nat}{A4:Option Addr}{xs:List M}(p:lZ w3 w2 ({b with C:=C',U:=U',E:=E',W:=W' }:aC) l)(G:X w2 w2 w3)
  (s:w4.ownsRow w2 3 1 (.slice A4 n4 c4) n4 xs)(i:((w3.alloc (aE ({b with C:=C',U:=U',E:=E',W:=W' }:aC) 31)).alloc o).grownBy w4 (M.slice C'.A C'.n C'.c).ownBlock)
  (n:(M.slice A4 n4 c4).ownBlock=(M.slice C'.A C'.n C'.c).ownBlock\/(M.slice A4 n4 c4).ownBlock=Y (w3.heap.size+1+1)):
  aK w4 w3 31 ({b with C:=C',U:=U',E:=E',W:=W' }:aC)/\aS (λx=>∀a,C'.A=Y a->x≠a.block) w3 w4/\(∀a,A4=Y a->w2.heap.size<=a.block/\a.block<w4.heap.size/\(C'.A=Y a\/w3.heap.size<a.block))/\(w3:Nat)+2<=w4/\(∀a,C'.A=Y a->w2.heap.size<=a.block/\a.block<w3.heap.size):=by
 have m:∀a,C'.A=Y a->w2.heap.size<=a.block/\a.block<w3.heap.size:=λa f=>p.C.lt a.block (by simp only[f];rfl);have v:=i.size;simp only[aa]at v;have c:∀q,(M.slice C'.A C'.n C'.c).ownBlock=Y q->∃a,C'.A=Y a/\a.block=q:=λq c=>by
  cases k:C'.A with
  | none=>rw[k]at c;simp[M.ownBlock]at c
  | some a=>rw[k]at c;exact⟨a,rfl,by simpa[M.ownBlock]using c⟩
 refine⟨?_,?_,λa f=>?_,zz,m⟩
 .refine(i.block _ (by simp only[aa];omega) (λe=>?_)).tn ((QR _ _ (by simp only[aa];omega)).tn (Sp _ _));obtain⟨a,d,h2⟩:=c _ (by first|exact e|exact e.symm);have:=m a d;omega
 .exact(((aS.refl _ _).alloc _).alloc _).grown i (λr u J t=>by
   obtain⟨a,d,h2⟩:=c r u;exact t a d h2.symm)
 .have d:=s.lt a.block (by rw[f];rfl);refine⟨d.1,d.2,?_⟩;rw[f]at n;rcases n with h2|h2
  .obtain⟨w,h,j⟩:=c _ h2.symm;left;rcases p.C.2 with⟨e1,-⟩|⟨g,y,A,e1,-⟩
   .simp only[lL]at e1;rw[e1.1]at h;cases h
   .simp only[lL]at e1;rcases s.2 with⟨f1,-⟩|⟨g',z,B,f1,-⟩
    .rw[f]at f1;cases f1
    .rw[f]at f1;cases f1;rw[e1.1]at h|-;cases h;simp only at j;rw[j]
  .right;simp only[M.ownBlock,aa,fg]at h2;omega
theorem TT(b:aC)(l:pK)(step:Int)(w:H)(f8:aI w b l)(e8:aD w)(O:ay b l=0)(g5:ax step 0 (b.S-1)=true)(f0:step∉l.C)(z:ay b (iY l step)=0):
  PH F 26 #[b.v,.int .i64 step] w (nO b (iY l step) (gI b (iY l step)) w):=by
 have b2:=Hm f8;have d8:=Hm e8;obtain⟨t1,t2,t3,t4,t5,t6,t7,t8,t9,j3,j4⟩:=cS (bP O).1;have d6:PQ (l.C.length<=12):=by have:=uO j4 zz;show _<=_;omega
 have d7:PQ (∀{n:Nat},n=l.C.length->n<=12):=λ{n} h=>by rw[h];exact d6.out
 obtain⟨i0,hi,i',j1,j2⟩:=info_parts vD;have c2:=λu j h2=>cG b l u j h2;have c6:=λu=>fB b step zz zz u;have c3:=λu j=>jO b.C l.C step u j;have g4:=λu j=>DX b l u j;rw[O]at c2;rw[g5]at c6;rw[decide_eq_false f0]at c3;have h9:=Hm z;obtain⟨r9,c4⟩:∃r,gI b (iY l step)=r:=⟨_,rfl⟩;rw[c4];have i3:=Hm c4;clear c4;clear z f8 e8 O g5 f0 t1 t2 t3 t4 t5 t6 t7 t8 t9 j3;unfold aC.v at*;go_enter Tryz.func26,Tryz.ntmps26;go_wp2_with (first|(go_at_call 51;refine(c2 _ (aq (aq b2.out _) _) (ai (ai d8.out _) _)).mono ?_;rintro e u ⟨rfl,e9⟩;obtain⟨V,g',e0,g6⟩:=mL (b:=b) (b0:=bI) e9;obtain⟨x0,x1,x2,x3,x4,x5,x6,x7,x8,x9,a1,a2,a3⟩:=aM V;clear e9 c2;have b3:=Hm V;have b4:=Hm g';have b1:=Hm e0;have d':=Hm g6;clear V g' e0 g6)|(go_at_call 38;refine(c6 u).mono ?_;rintro e p ⟨rfl,S⟩;clear x0  x1  x2  x3  x4  x5  x6  x7  x8  x9  a1  a2  a3 c6;have c7:aK p w.heap.size 31 b:=(S.block _ b3.out.lt).tn b3.out;have h1:aK p (w.heap.size+1) 31 bI:=(S.block _ b4.out.lt).tn b4.out;obtain⟨x0,x1,x2,x3,x4,x5,x6,x7,x8,x9,a1,a2,a3⟩:=aM c7;have k7:=Hm c7;have d0:=Hm h1;have P:=Hm (b1.out.tn (S.mono b1.out.size));have d9:PQ (w.heap.size+2<=p.heap.size):=qO d'.out S.size;clear c7 h1 S b3 b4 b1 d')|(go_at_call 60;refine(c3 p (b2.out.C.below P.out)).mono ?_;rintro e l1 ⟨rfl,rfl⟩;clear c3)|(go_at_call 61;refine(g4 p (b2.out.below P.out)).mono ?_;rintro e f ⟨C',L,G,N,rfl,g3,e'⟩;clear g4 x0  x1  x2  x3  x4  x5  x6  x7  x8  x9  a1  a2  a3;have J:=Hm g3;have Q:=Hm e';clear g3 e')|(at_builtin;refine ff rfl _ _ 24 rfl p.heap.size 3 i0 (.int .i64 0) 1 8 Tryz.underlying24 hi i' j1 j2 rfl dd _ C'.n _ rfl ((J.out.C.alloc _).alloc _) ⟨f.heap.size+1,0,I⟩ 1 1 [.int .i64 step] rfl rfl ?qc1 ?qc2 ?qc3 ?qc4 ?qc5 ?_)|fail)
 case qc1=>rw[<- aa f (aE ({b with C:=C',U:=L,E:=G,W:=N }:aC) 31)];exact cell_one_new _ _ _
 case qc2=>intro y g9;simp at g9;subst g9;rfl
 case qc3=>have:C'.n<=12:=d7.out (n:=C'.n) J.out.nC;unfold maxLen;omega
 case qc4=>have:C'.n<=12:=d7.out (n:=C'.n) J.out.nC;omega
 case qc5=>have:=Q.out.size;simp;omega
 intro v4 w4 a7 f4 g2;obtain⟨k,t,rfl⟩:=ownsRow_succ a7;obtain⟨a5,f6,f',g7,e7⟩:=AB J.out Q.out (o:=.cells #[.int .i64 step] 3) a7 f4 g2;obtain⟨y0,y1,y2,y3,y4,y5,y6,y7,y8,y9,j5,j',k1⟩:=aM a5;have k2:=dx a5;have h8:=Hm a5;have h':=Hm f6;have i1:=Hm f';have d5:=Hm e7;have k6:=Hm g7;have i2:=Hm a7;clear a5 f6 f' g7 e7 a7 f4 g2;go_wp2_with fail;have f5:aK (w4.setCell (f.heap.size,5) (.slice (Y (k,0)) (C'.n+1) t)) f 31 ({b with C:=⟨Y (k,0),C'.n+1,t⟩,U:=L,E:=G,W:=N }:aC):=by
  have:=bJ (i:=5) h8.out (.slice (Y ⟨k,0,I⟩) (C'.n+1) t);simp only[zS]at this;exact this
 have k5:aS (λx=>x≠f.heap.size) w4 (w4.setCell (f.heap.size,5) (.slice (Y (k,0)) (C'.n+1) t)):=(aS.refl _ _).set (λ_ h=>h rfl) _;generalize w4.setCell ⟨f.heap.size,5,I⟩ (.slice (Y ⟨k,0,I⟩) (C'.n+1) t)=w5 at f5 k5|-;obtain⟨e1,e2,e3⟩:=i1.out _ rfl;have f2:k≠f.heap.size:=by
  rcases e3 with h|h
  .have:=(d5.out _ h).2;simp only at this;omega
  .simp only at h;omega
 have T:=bB i2.out k5 (λg c=>by simp only[M.ownBlock,fg]at c;omega);have g0:l.C.map (M.int .i64)++[.int .i64 step]=(l.C++[step]).map (M.int .i64):=by simp
 rw[g0]at T;have g1:C'.n=l.C.length:=J.out.nC;have A:C'.n+1=(l.C++[step]).length:=by rw[g1];simp
 have i8:=d6.out;have c5:=Tryz.slices_Sort_int k 0 t (l.C++[step]) w5 (qZ T A) (T.lt k rfl).2 (by rw[<- A];omega);rw[<- A]at c5;have a6:((l.C++[step]).mergeSort λx y=>decide (x<=y)).length=(l.C++[step]).length:=List.length_mergeSort _;refine c5.mono ?_;rintro e q ⟨rfl,q2,os,g8⟩;obtain⟨o6,b8⟩:=oR T A a6 g8;have h6:aS (λx=>x≠f.heap.size/\∀a,C'.A=Y a->x≠a.block) f w5:=(h'.out.mono (λ_ _ h=>h.2)).tn (k5.mono (λ_ _ h=>h.1));have Z:aS (λx=>x≠f.heap.size/\x≠k/\∀a,C'.A=Y a->x≠a.block) f q:=(h6.mono (λ_ _ h=>⟨h.1,h.2.2⟩)).grown b8 (λr O _ i6=>by simp only[fg]at O;exact i6.2.1 O.symm);have c8:aK q f 31 ({b with C:=⟨Y (k,0),C'.n+1,t⟩,U:=L,E:=G,W:=N }:aC):=(b8.block _ f5.lt (by simp only[ne_eq,fg];exactλh=>f2 (by first|exact h|exact h.symm))).tn f5;have f9:∀x,x<p.heap.size->x≠f.heap.size/\x≠k/\∀a,C'.A=Y a->x≠a.block:=λx V=>by
  have k9:=Q.out.size;simp only at e1;refine⟨zz,zz,λa i7=>?_⟩;have:=(d5.out a i7).1;omega
 have a4:X p p q:=Q.out.tn (Z.below Q.out.size f9);have a8:∀a:Addr,p.heap.size<=a.block->a.block<f.heap.size->(∀m,C'.A=Y m->m.block<a.block)->a.block≠f.heap.size/\a.block≠k/\∀m,C'.A=Y m->a.block≠m.block:=λa j h2 h3=>by
  refine⟨zz,?_,λm h4=>by have:=h3 m h4;omega⟩;rcases e3 with h|h
  .have:=h3 _ h;simp only at this;omega
  .simp only at h;omega
 have d:=J.out;have c':=bB d.U Z (λg c=>by
   cases s:L.A with
   | none=>simp only[s]at c;simp[M.ownBlock]at c
   | some a=>
    have j:=d.U.lt g c;simp only[s,M.ownBlock,fg]at c;subst c;exact a8 a j.1 j.2 (λm R=>d.CU m a R s))
 have c9:=bB d.E Z (λg c=>by
   cases s:G.A with
   | none=>simp only[s]at c;simp[M.ownBlock]at c
   | some a=>
    have j:=d.E.lt g c;simp only[s,M.ownBlock,fg]at c;subst c;exact a8 a j.1 j.2 (λm R=>d.CE m a R s))
 have zZ:=bB d.W Z (λg c=>by
   cases s:N.A with
   | none=>simp only[s]at c;simp[M.ownBlock]at c
   | some a=>
    have j:=d.W.lt g c;simp only[s,M.ownBlock,fg]at c;subst c;exact a8 a j.1 j.2 (λm R=>d.CW m a R s))
 have b9:∀a',aS (λx=>p.heap.size<=x/\x<q.heap.size) q a'->l5 a' p ({b with C:=⟨Y (k,0),C'.n+1,t⟩,U:=L,E:=G,W:=N }:aC) (iY l step):=λa' hk=>⟨A.tn a6.symm,d.nU,d.nE,d.nW,by show((l.C++[step]).mergeSort λx y=>decide (x<=y)).length<=1000;rw[a6,<- A];omega,d.bU,d.bE,d.bW,
  bB o6 hk (λg c=>o6.lt g c),bB c' hk (λg c=>c'.lt g c),bB c9 hk (λg c=>c9.lt g c),bB zZ hk (λg c=>zZ.lt g c)⟩
 have c1:=(b9 q (aS.refl _ _)).book;have i4:=Hm b9;clear b9 c' c9 zZ;have b6:X w w q:=P.out.tn (a4.mono P.out.size);have f1:aD q:=d8.out.below b6;have h5:aK q (w.heap.size+1) 31 bI:=(a4.block _ d0.out.lt).tn d0.out;have e4:=Hm h5;have k8:=Hm c8;have d4:=Hm b6;have k4:=Hm c1;have i9:PQ ((w:Nat)+2<=q):=qO d9.out a4.size;have z:=abY ({b with C:=⟨Y ⟨k,0,I⟩,C'.n+1,t⟩,U:=L,E:=G,W:=N }:aC) (iY l step) q c1 f1 h9.out;rw[qv,i3.out]at z;unfold aC.v at z;clear f5 k5 e1 e2 e3 f2 T g0 g1 A i8 c5 a6 g8 o6 b8 h6 Z f9 a4 a8 d c1 b6 f1 h5 y0  y1  y2  y3  y4  y5  y6  y7  y8  y9  j5  j'  k1 k2;obtain⟨x0,x1,x2,x3,x4,x5,x6,x7,x8,x9,a1,a2,a3⟩:=aM c8;clear c8;go_wp2_with (go_at_call 62;refine z.mono ?_;clear z;rintro e w7 ⟨B,rfl,hB,b'⟩;have h7:=Hm hB;clear hB;clear x0  x1  x2  x3  x4  x5  x6  x7  x8  x9  a1  a2  a3;have a9:aK w7 (w.heap.size+1) 31 bI:=(b'.block _ e4.out.lt).tn e4.out;obtain⟨z0,z1,z2,z3,z4,z5,z6,z7,z8,z9,d1,d2,d3⟩:=aM a9;have k3:=dx a9;have i5:=Hm a9;have a0:=Hm b';clear a9 b');change bodyPost F Tryz.f26 _ .ret _ (uq (w.heap.size+1) B w7);obtain⟨e6,b5,f3⟩:=pq B i5.out;have b7:=d4.out.tn (a0.out.mono d4.out.size);have k':=i9.out;have k0:=a0.out.size;have e5:=b7.tn (b5.below (n:=w.heap.size) zz (λx V=>zz));clear z0  z1  z2  z3  z4  z5  z6  z7  z8  z9  d1  d2  d3 k3;generalize uq (w.heap.size+1) B w7=a' at e6 e5 b5|-;obtain⟨z0,z1,z2,z3,z4,z5,z6,z7,z8,z9,d1,d2,d3⟩:=aM e6;refine bd (v:=.tuple #[B.v,.int .i64 r9]) (by simp[results,Tryz.results26,go_sem,z0,z1,z2,z3,z4,z5,z6,z7,z8,z9,d1,d2,d3,aC.v]) rfl ⟨B,rfl,?_,e5⟩;have hB:=h7.out;split at hB
 .subst hB;rename_i h0;rw[qWB h0];exact⟨⟨_,_,_,_,rfl⟩,(i4.out _ ((aS.dY (K:=λx=>p.heap.size<=x/\x<q.heap.size) a0.out (λx _ h=>h.2)).tn (b5.mono (λx _ h=>by have:=d9.out;omega)))).base P.out.size⟩
 .rename_i h0;rw[qVB h0];exact hB
def LI(b:aC)(l:pK)(step:Int)(w:H)(f:aI w b l)(e:aD w)(h:pH b l step=0):PH F 26 #[b.v,.int .i64 step] w (nO b (iY l step) 0 w):=by
 unfold pH at h;split at h
 .rename_i a;exact mi h a
 .rename_i a;split at h
  .cases h
  .rename_i h2;split at h
   .cases h
   .rename_i d;have:=TT b l step w f e (Decidable.not_not.1 a) (by simpa using h2) d (Decidable.not_not.1 λc=>by rw[gI,qWB c]at h;exact c h);rwa[h]at this
end Go.Proofs.YtfdbdkhgaajdoaaGreatDoor
