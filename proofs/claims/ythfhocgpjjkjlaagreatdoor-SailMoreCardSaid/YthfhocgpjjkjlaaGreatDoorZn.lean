import Derived.Test.YthfhocgpjjkjlaaGreatDoorZl
import Derived.Test.YthfhocgpjjkjlaaGreatDoorZm
import Derived.Sort.OwnSortedInts
import Derived.Lib.SliceRun
import Derived.OrdersHeld
import Derived.StillTailTactics
import Derived.Deep.RegionHeld3
import Derived.Conc.EventLaws
set_option maxRecDepth 100000
set_option maxHeartbeats 4000000
set_option linter.all false
noncomputable section
open Go renaming World->Cl,undef->D,World->H,execOp->Hn,Oper->Kp,TypeId->Lk,Code->Ly,Value->M,Calls->PH,Program->Ps,heap_alloc_old->QR,heap_alloc_new->Sp,Operand->ae,yielded->aw,bodyPost_ret->bd
open Go.Proofs.Tryz renaming prog->F
open Go.Lib renaming hid->Hm
open Option renaming none->I,some->Y
open Go.RowKit renaming Hid->PQ,Below->X
namespace Go.Proofs.YthfhocgpjjkjlaaGreatDoor
open Go.RowKit
variable{w w':H}{B g n cap q:Nat}{zs:List Int}
def uN(L:List (Int×(Nat->Bool))):List Int:=Lib.compact ((L.map (·.1)).mergeSort λx y=>decide (x<=y))
def iM(b:aC)(l:pK):List Int×Int:=if cP b l true=0 then(uN (aJ b l b.D.toNat),0)else([],cP b l true)
def oR{os:Array Obj}{zs ts:List Int}(h:w.ownsRow B 3 1 (.slice (Y (g,0)) n cap) n (zs.map (M.int .i64)))(f:n=zs.length)(hl:ts.length=zs.length)
  (i:w'=Go.Sort.grow (Go.Sort.putRow (M.int .i64) (Go.Sort.ahead w q) g 0 ts.toArray) os):w'.ownsRow B 3 1 (.slice (Y (g,0)) n cap) n (ts.map (M.int .i64))/\w.grownBy w' (Y g):=by
 subst f;rcases h.2 with⟨a,-⟩|⟨g',j,k,a,h2,b,c,d,e,l⟩
 .cases a
 .cases a;rw[i];exact⟨ownsRow_sortedI hl h2 b c d (by simpa using e),grownBy_sortedI _⟩
def qZ(h:w.ownsRow B 3 1 (.slice (Y (g,0)) n cap) n (zs.map (M.int .i64)))(d:n=zs.length):Go.Sort.Holds (M.int .i64) w g 0 zs.toArray:=by
 subst d;rcases h.2 with⟨a,-⟩|⟨g',e,f,a,h2,b,i,j,k,c⟩
 .cases a
 .cases a;exact holds_of_blockI b (by simpa using c)
def DN(zs:List Int):(Lib.compact zs).length<=zs.length:=by
 unfold Lib.compact Lib.compactUpTo;rw[lj];exact qO (nn _ _) ss
def DO(h:w.ownsRow B 3 1 (.slice (Y (g,0)) n cap) n (zs.map (M.int .i64)))(c:n=zs.length)
  (m:w'=Go.Sort.putRow (M.int .i64) (Go.Sort.ahead w q) g 0 (Lib.compact zs++List.replicate (zs.length-(Lib.compact zs).length) 0).toArray):
  w'.ownsRow B 3 1 (.slice (Y (g,0)) (Lib.compact zs).length cap) (Lib.compact zs).length ((Lib.compact zs).map (M.int .i64))/\w.grownBy w' (Y g):=by
 have l:=DN zs;have o:w'=Go.Sort.grow (Go.Sort.putRow (M.int .i64) (Go.Sort.ahead w q) g 0 (Lib.compact zs++List.replicate (zs.length-(Lib.compact zs).length) 0).toArray) #[]:=by rw[m,Go.Sort.grow_empty]
 obtain⟨k,h2⟩:=oR h c so o;refine⟨?_,h2⟩;subst c;rcases k.2 with⟨e1,-⟩|⟨g',p,a,e1,d,e,r,f,i,j⟩
 .cases e1
 .cases e1;refine⟨by simp,.inr ⟨g,cap,a,rfl,d,e,zz,f,i,?_⟩⟩;have b:(a.toList.take (zs.length*1)).take (Lib.compact zs).length=(Lib.compact zs).map (M.int .i64):=by
   rw[j,mr];exact List.take_left' ss
  rw[List.take_take,Nat.mul_one,Nat.min_eq_left l]at b;rw[Nat.mul_one];exact b
theorem DR(b:aC)(l:pK)(w:H)(hl:aI w b l)(a4:aD w)(h:cP b l true=0):
  PH F 14 #[b.v] w (ji w.heap.size (iM b l).1 (iM b l).2 w):=by
 have b3:=Hm hl;have b2:=Hm a4;have V:PQ (iM b l=(uN (aJ b l b.D.toNat),0)):=by unfold iM;rw[PQ,qWB h]
 obtain⟨a7, -, h3⟩:=Yt h;have z:=qp b l 45 #[] lT true (w.alloc (aE b 31)) (aq b3.out _) (ai b2.out _) (λ_=>gW b _) h;have c2:=nL a7;have c4:0<(aJ b l b.D.toNat).length:=List.length_pos_iff.2 h3;unfold jo at z;generalize aJ b l b.D.toNat=a at z V c2 c4;clear hl a4 h a7 h3;unfold aC.v aE uC at z;unfold aC.v;go_enter Tryz.func14,Tryz.ntmps14;go_wp2_with (go_at_call 44;refine z.mono ?_;rintro e U ⟨A,c,r,rfl,f,c3,d1,a6⟩);obtain⟨g,rfl⟩:∃g,A=Y ⟨g,0,I⟩:=by
  rcases f.2 with⟨d,h2⟩|⟨g,cap,a2,d,-⟩
  .omega
  .simp only[lL]at d;exact⟨g,d.1⟩
 have Q:=f.alloc (.cells (iG b ⟨Y ⟨g,0,I⟩,a.length,c⟩ (Y r)) 99);have L:X w.heap.size w (U.alloc (.cells (iG b ⟨Y ⟨g,0,I⟩,a.length,c⟩ (Y r)) 99)):=aP (di a6) (qN _) _;clear f c3 a6;change Ly.wp _ _ _ _ (U.alloc (.cells (iG b ⟨Y ⟨g,0,I⟩,a.length,c⟩ (Y r)) 99));generalize(U.alloc (.cells (iG b ⟨Y ⟨g,0,I⟩,a.length,c⟩ (Y r)) 99))=G at Q L|-;have b4:=Hm Q;have N:=Hm L;clear Q L;obtain⟨i0,hi,c6,c7,c8⟩:=info_parts vD;go_loopw [6,20] (λv1 v wr=>∃(i:Nat) (J:Option Addr) (p:Nat),i<=a.length/\v=.int .i64 i/\v1=.slice J i p/\wr.ownsRow G.heap.size 3 1 v1 i (((a.take i).map (·.1)).map (M.int .i64))/\X G.heap.size G wr) (λ_ v _=>a.length-(intOf v).toNat)
 case atStart=>exact⟨0,I,0,zz,rfl,rfl,H.ownsRow_nil _ _ _ _,X.refl _ _⟩
 case round=>
  obtain⟨i,J,p,c9,rfl,rfl,f,m⟩:=hrel;have b1:=m.size;by_cases P:i<a.length
  .obtain⟨x,T⟩:∃x,a.getD i (0,mI)=x:=⟨_,rfl⟩;have q:∀j,j<13->wr.cell? ⟨g,i*13+j,I⟩=(zC x).toList[j]?:=λj c1=>by
    have d:=wO (E5 b4.out (aS.dY (K:=λ_=>True) m (λ_ h _=>h)) (λ_ _=>trivial)) rfl P j c1;rw[T]at d;exact d
   have q0:wr.cell? ⟨g,i*13,I⟩=Y (.int .i64 x.1):=q 0 zz;have q1:wr.cell? ⟨g,i*13+1,I⟩=Y (.bool (x.2 0)):=q 1 zz;have q2:wr.cell? ⟨g,i*13+2,I⟩=Y (.bool (x.2 1)):=q 2 zz;have q3:wr.cell? ⟨g,i*13+3,I⟩=Y (.bool (x.2 2)):=q 3 zz;have q4:wr.cell? ⟨g,i*13+4,I⟩=Y (.bool (x.2 3)):=q 4 zz;have q5:wr.cell? ⟨g,i*13+5,I⟩=Y (.bool (x.2 4)):=q 5 zz;have q6:wr.cell? ⟨g,i*13+6,I⟩=Y (.bool (x.2 5)):=q 6 zz;have q7:wr.cell? ⟨g,i*13+7,I⟩=Y (.bool (x.2 6)):=q 7 zz;have q8:wr.cell? ⟨g,i*13+8,I⟩=Y (.bool (x.2 7)):=q 8 zz;have q9:wr.cell? ⟨g,i*13+9,I⟩=Y (.bool (x.2 8)):=q 9 zz;have d2:wr.cell? ⟨g,i*13+10,I⟩=Y (.bool (x.2 9)):=q 10 zz;have d3:wr.cell? ⟨g,i*13+11,I⟩=Y (.bool (x.2 10)):=q 11 zz;have d4:wr.cell? ⟨g,i*13+12,I⟩=Y (.bool (x.2 11)):=q 12 zz;have a9:((a.take (i+1)).map (·.1)).map (M.int .i64)=((a.take i).map (·.1)).map (M.int .i64)++[.int .i64 x.1]:=by
    rw[lh P,mr,mr,<- T];simp only[zM,List.getD,iv P,zQ]
   have b6:=Hm a9;have t:=Hm m;have o:=Hm f;clear q T a9 m;go_wp2_with (at_builtin;refine wpList_append_own _ rfl _ _ 24 rfl G.heap.size 3 i0 (.int .i64 0) 1 8 Tryz.underlying24 hi c6 c7 c8 rfl dd _ _ _ rfl ((f.alloc _).alloc _) ⟨wr.heap.size+1,0,I⟩ 1 1 [.int .i64 x.1] rfl rfl (by rw[<- aa wr (.cells (zC x) 82)];exact cell_one_new _ _ _) (λy a0=>by simp at a0;subst a0;rfl) (by unfold maxLen;omega) zz so ?_;intro v' w3 a8 b0 c');go_roundw
   case rel=>
    obtain⟨g',b7,rfl⟩:=ownsRow_succ a8;refine⟨i+1,Y ⟨g',0,I⟩,b7,zz,by go_num,rfl,?_,((t.out.alloc b1 _).alloc so _).grown b0 so (λq c5=>(o.out.lt q c5).1)⟩;rw[b6.out];exact a8
   case measure=>simp[intOf];omega
  .obtain rfl:i=a.length:=zz;rw[List.take_of_length_le (qN _)]at f;obtain⟨k,rfl⟩:∃k,J=Y ⟨k,0,I⟩:=by
    rcases f.2 with⟨d,h2⟩|⟨g,cap,a2,d,-⟩
    .omega
    .simp only[lL]at d;exact⟨g,d.1⟩
   obtain⟨zs,C⟩:∃zs,zs=a.map (·.1):=⟨_,rfl⟩;rw[<- C]at f;have n:zs.length=a.length:=by rw[C];simp
   have B:=Tryz.slices_Sort_int k 0 p zs wr (qZ f n.symm) (f.lt k rfl).2 (by rw[n];omega);rw[n]at B;have s:(zs.mergeSort λx y=>decide (x<=y)).length=a.length:=by rw[List.length_mergeSort,n]
   obtain⟨E,R⟩:∃E,(zs.mergeSort λx y=>decide (x<=y))=E:=⟨_,rfl⟩;rw[R]at B s;have O:=λw' b9=>Tryz.slices_Compact_int k 0 p E w' b9 (by rw[s];omega);rw[s]at O;have a5:uN a=Lib.compact E:=by rw[uN,<- C,R]
   have b5:=Hm a5;have b':a.length<=p:=by
    rcases f.2 with⟨d,h2⟩|⟨g,cap,a2,d,_,_,h4,-⟩
    .cases d
    .cases d;exact h4
   have t:=Hm m;have o:=Hm f;have a1:=Hm n;have u:=Hm s;clear f m C n s R a5
   go_wp2_with (first
    | (go_at_call 46;refine B.mono ?_;clear B;rintro e w2 ⟨rfl,q2,os,a'⟩;obtain⟨o2,a3⟩:=oR o.out a1.out.symm (u.out.tn a1.out.symm) a';have Z:=Hm o2;have W:=Hm a3;clear a' o2 a3)
    | (go_at_call 47;refine(O w2 (qZ Z.out u.out.symm) b').mono ?_;clear O;rintro e w3 ⟨rfl,q3,S⟩;rw[<- u.out]at S))
   go_ret2;obtain⟨o3,b8⟩:=DO Z.out u.out.symm S;rw[V.out,b5.out];subst S;exact⟨_,_,rfl,dy N.out.size o3,N.out.tn (((t.out.grown W.out b1 (by have:=(o.out.lt k rfl).1;simpa using this)).grown b8 (by have:=W.out.size;have:=t.out.size;omega) (by have:=(o.out.lt k rfl).1;simpa using this)).mono N.out.size)⟩
def DT(b:aC)(l:pK)(w:H)(hl:aI w b l)(a:aD w)(h:cP b l true=0:=by kernel_rfl):PH F 14 #[b.v] w (ji w (iM b l).1 (iM b l).2 w):=DR b l w hl a h
variable{α:Type}{s:Sl}{l:List (Int×Int)}{e:Nat}{v:M}
def Z6:(F.info? 89).map (λi=>(i.zero,i.size,i.bytes))=Y (Y (.agg #[.int .i64 0,.int .i64 0]),2,16):=by kernel_rfl
theorem DU(a:Addr)(n c:Nat)(xs:List M)(w:H)(hl:xs.length=n*2)(s:n<=1000)(d:∀j u,xs[j]?=Y u->w.cell? (a.add j)=Y u)(b:∀u∈xs,u.oneCell'=true):
  PH F 88 #[.slice (Y a) n c] w λe w'=>∃v',e=.returned v'/\w'.ownsRow w 89 2 v' n xs/\X w w w':=by
 obtain⟨i0,hi,o,p,r⟩:=info_parts Z6;have q:=λ(w:H) (a:Option Addr) (n c n' c':Nat)=>Lib.run_eql_slice_nil w _ _ a n c n' c' Tryz.underlying27;have u:=λw=>run_underlying Tryz.underlying27 w;have g:=Hm d;have f:=Hm b;have h:=Hm hl;clear d b hl;go_enter Tryz.func88,Tryz.ntmps88;go_wp2_with (at_builtin;refine wpList_append_own _ rfl _ _ 27 rfl w.heap.size 89 i0 _ 2 16 Tryz.underlying27 hi o p r rfl dd _ _ _ rfl (H.ownsRow_made w #[] 0 (qN _) (qT _) rfl) a n c xs rfl ?qc1 ?qc2 ?qc3 ?qc4 ?qc5 ?qc6 ?_)
 case qc1=>exact h.out
 case qc2=>exactλj u l=>Lib.cell?_alloc_some _ (g.out j u l)
 case qc3=>exact f.out
 case qc4=>unfold maxLen;omega
 case qc5=>omega
 case qc6=>simp
 intro v' v m i t;go_wp2;go_ret;exact⟨v',rfl,by simpa using m,((X.refl _ w).alloc (qN _) _).grown i ss (by intro k hk;simp[M.ownBlock]at hk;omega)⟩
theorem Gy(n c:Nat)(w:H):
  PH F 88 #[.slice I n c] w λe w'=>e=.returned (.slice I 0 0)/\w'=w:=by
 have q:=λ(w:H) (a:Option Addr) (n c n' c':Nat)=>Lib.run_eql_slice_nil w _ _ a n c n' c' Tryz.underlying27;go_enter Tryz.func88,Tryz.ntmps88;go_wp2;go_ret;exact⟨rfl,rfl⟩
def SA:(F.info? 91).map (λi=>(i.zero,i.size,i.bytes))=Y (Y (.agg #[.int .i64 0,.int .i64 0]),2,16):=by kernel_rfl
theorem DV(a:Addr)(n c:Nat)(xs:List M)(w:H)(hl:xs.length=n*2)(s:n<=1000)(d:∀j u,xs[j]?=Y u->w.cell? (a.add j)=Y u)(b:∀u∈xs,u.oneCell'=true):
  PH F 89 #[.slice (Y a) n c] w λe w'=>∃v',e=.returned v'/\w'.ownsRow w 91 2 v' n xs/\X w w w':=by
 obtain⟨i0,hi,o,p,r⟩:=info_parts SA;have q:=λ(w:H) (a:Option Addr) (n c n' c':Nat)=>Lib.run_eql_slice_nil w _ _ a n c n' c' Tryz.underlying28;have u:=λw=>run_underlying Tryz.underlying28 w;have g:=Hm d;have f:=Hm b;have h:=Hm hl;clear d b hl;go_enter Tryz.func89,Tryz.ntmps89;go_wp2_with (at_builtin;refine wpList_append_own _ rfl _ _ 28 rfl w.heap.size 91 i0 _ 2 16 Tryz.underlying28 hi o p r rfl dd _ _ _ rfl (H.ownsRow_made w #[] 0 (qN _) (qT _) rfl) a n c xs rfl ?qc1 ?qc2 ?qc3 ?qc4 ?qc5 ?qc6 ?_)
 case qc1=>exact h.out
 case qc2=>exactλj u l=>Lib.cell?_alloc_some _ (g.out j u l)
 case qc3=>exact f.out
 case qc4=>unfold maxLen;omega
 case qc5=>omega
 case qc6=>simp
 intro v' v m i t;go_wp2;go_ret;exact⟨v',rfl,by simpa using m,((X.refl _ w).alloc (qN _) _).grown i ss (by intro k hk;simp[M.ownBlock]at hk;omega)⟩
theorem Gz(n c:Nat)(w:H):
  PH F 89 #[.slice I n c] w λe w'=>e=.returned (.slice I 0 0)/\w'=w:=by
 have q:=λ(w:H) (a:Option Addr) (n c n' c':Nat)=>Lib.run_eql_slice_nil w _ _ a n c n' c' Tryz.underlying28;go_enter Tryz.func89,Tryz.ntmps89;go_wp2;go_ret;exact⟨rfl,rfl⟩
def SB:(F.info? 72).map (λi=>(i.zero,i.size,i.bytes))=Y (Y (.agg #[.int .i64 0,.int .i64 0,.bool false]),3,24):=by kernel_rfl
theorem DW(a:Addr)(n c:Nat)(xs:List M)(w:H)(hl:xs.length=n*3)(s:n<=1000)(d:∀j u,xs[j]?=Y u->w.cell? (a.add j)=Y u)(b:∀u∈xs,u.oneCell'=true):
  PH F 90 #[.slice (Y a) n c] w λe w'=>∃v',e=.returned v'/\w'.ownsRow w 72 3 v' n xs/\X w w w':=by
 obtain⟨i0,hi,o,p,r⟩:=info_parts SB;have q:=λ(w:H) (a:Option Addr) (n c n' c':Nat)=>Lib.run_eql_slice_nil w _ _ a n c n' c' Tryz.underlying29;have u:=λw=>run_underlying Tryz.underlying29 w;have g:=Hm d;have f:=Hm b;have h:=Hm hl;clear d b hl;go_enter Tryz.func90,Tryz.ntmps90;go_wp2_with (at_builtin;refine wpList_append_own _ rfl _ _ 29 rfl w.heap.size 72 i0 _ 3 24 Tryz.underlying29 hi o p r rfl dd _ _ _ rfl (H.ownsRow_made w #[] 0 (qN _) (qT _) rfl) a n c xs rfl ?qc1 ?qc2 ?qc3 ?qc4 ?qc5 ?qc6 ?_)
 case qc1=>exact h.out
 case qc2=>exactλj u l=>Lib.cell?_alloc_some _ (g.out j u l)
 case qc3=>exact f.out
 case qc4=>unfold maxLen;omega
 case qc5=>omega
 case qc6=>simp
 intro v' v m i t;go_wp2;go_ret;exact⟨v',rfl,by simpa using m,((X.refl _ w).alloc (qN _) _).grown i ss (by intro k hk;simp[M.ownBlock]at hk;omega)⟩
theorem GA(n c:Nat)(w:H):
  PH F 90 #[.slice I n c] w λe w'=>e=.returned (.slice I 0 0)/\w'=w:=by
 have q:=λ(w:H) (a:Option Addr) (n c n' c':Nat)=>Lib.run_eql_slice_nil w _ _ a n c n' c' Tryz.underlying29;go_enter Tryz.func90,Tryz.ntmps90;go_wp2;go_ret;exact⟨rfl,rfl⟩
def mK(w:H)(s:Sl)(size:Nat)(xs:List M):Prop:=xs.length=s.n*size/\s.n<=1000/\(∀u∈xs,u.oneCell'=true)/\(0<s.n->∃a,s.A=Y a/\∀j u,xs[j]?=Y u->w.cell? (a.add j)=Y u)
def GB(s:Sl)(xs:List M)(w:H)(h:mK w s 2 xs):
  PH F 88 #[.slice s.A s.n s.c] w λe w'=>∃v',e=.returned v'/\w'.ownsRow w 89 2 v' s.n xs/\X w w w':=by
 obtain⟨A,n,c⟩:=s;obtain⟨d,h2,k,g⟩:=h
 cases A with
 | none=>
  rcases ln n with rfl|b
  .refine(Gy 0 c w).mono ?_;rintro e w' ⟨rfl,rfl⟩;obtain rfl:xs=[]:=List.eq_nil_of_length_eq_zero (by simpa using d);exact⟨_,rfl,H.ownsRow_nil _ _ _ _,X.refl _ _⟩
  .obtain⟨a,f,-⟩:=g b;cases f
 | some a=>
  refine DU a n c xs w d h2 (λj u i=>?_) k;have b:0<n:=by
   rcases ln n with rfl|b
   .obtain rfl:xs=[]:=List.eq_nil_of_length_eq_zero (by simpa using d);simp at i
   .exact b
  obtain⟨m,f,l⟩:=g b;cases f;exact l j u i
def GC(s:Sl)(xs:List M)(w:H)(h:mK w s 2 xs):
  PH F 89 #[.slice s.A s.n s.c] w λe w'=>∃v',e=.returned v'/\w'.ownsRow w 91 2 v' s.n xs/\X w w w':=by
 obtain⟨A,n,c⟩:=s;obtain⟨d,h2,k,g⟩:=h
 cases A with
 | none=>
  rcases ln n with rfl|b
  .refine(Gz 0 c w).mono ?_;rintro e w' ⟨rfl,rfl⟩;obtain rfl:xs=[]:=List.eq_nil_of_length_eq_zero (by simpa using d);exact⟨_,rfl,H.ownsRow_nil _ _ _ _,X.refl _ _⟩
  .obtain⟨a,f,-⟩:=g b;cases f
 | some a=>
  refine DV a n c xs w d h2 (λj u i=>?_) k;have b:0<n:=by
   rcases ln n with rfl|b
   .obtain rfl:xs=[]:=List.eq_nil_of_length_eq_zero (by simpa using d);simp at i
   .exact b
  obtain⟨m,f,l⟩:=g b;cases f;exact l j u i
def GD(s:Sl)(xs:List M)(w:H)(h:mK w s 3 xs):
  PH F 90 #[.slice s.A s.n s.c] w λe w'=>∃v',e=.returned v'/\w'.ownsRow w 72 3 v' s.n xs/\X w w w':=by
 obtain⟨A,n,c⟩:=s;obtain⟨d,h2,k,g⟩:=h
 cases A with
 | none=>
  rcases ln n with rfl|b
  .refine(GA 0 c w).mono ?_;rintro e w' ⟨rfl,rfl⟩;obtain rfl:xs=[]:=List.eq_nil_of_length_eq_zero (by simpa using d);exact⟨_,rfl,H.ownsRow_nil _ _ _ _,X.refl _ _⟩
  .obtain⟨a,f,-⟩:=g b;cases f
 | some a=>
  refine DW a n c xs w d h2 (λj u i=>?_) k;have b:0<n:=by
   rcases ln n with rfl|b
   .obtain rfl:xs=[]:=List.eq_nil_of_length_eq_zero (by simpa using d);simp at i
   .exact b
  obtain⟨m,f,l⟩:=g b;cases f;exact l j u i
def GF(s:Sl)(l:List Int)(w:H)(h:eC w s l):
  PH F 87 #[.slice s.A s.n s.c] w λe w'=>∃v',e=.returned v'/\w'.ownsRow w 3 1 v' s.n (l.map (M.int .i64))/\X w w w':=by
 obtain⟨A,n,c⟩:=s;obtain⟨g,h2,o,j⟩:=h;simp only at g;subst g;rcases ln l.length with i|m
 .obtain rfl:l=[]:=List.eq_nil_of_length_eq_zero i
  cases A with
  | none=>
   refine(Tryz.slices_Clone_int_nil 0 c w).mono ?_;rintro e w' ⟨rfl,rfl⟩;exact⟨_,rfl,H.ownsRow_nil _ _ _ _,X.refl _ _⟩
  | some a=>
   refine(Tryz.slices_Clone_int_zero a c w).mono ?_;rintro e w' ⟨v',rfl,d, -, f⟩;exact⟨_,rfl,d,f⟩
 .obtain⟨b,off,rfl,p,k⟩:=j m;refine(Tryz.slices_Clone_int b off l.length c l w (qN _) zz k).mono ?_;rintro e w' ⟨v',rfl,d, -, f⟩;rw[List.take_length]at d;exact⟨_,rfl,d,f⟩
def pG(x:Int×Int):List M:=[.int .i64 x.1,.int .i64 x.2]
def rO(x:Int×Int×Bool):List M:=[.int .i64 x.1,.int .i64 x.2.1,.bool x.2.2]
def Bu(f:α->List M)(m:Nat)(c:∀a,(f a).length=m)(d:α):∀(l:List α) (j:Nat) (u:M),(l.flatMap f)[j]?=Y u->0<m/\j/m<l.length/\(f (l.getD (j/m) d))[j%m]?=Y u
 | [],j,u,h=>by simp at h
 | a::r,j,u,h=>by
  rw[lv]at h;by_cases b:j<m
  .rw[List.getElem?_append_left (by rw[c];exact b)]at h;refine⟨zz,by rw[Nat.div_eq_of_lt b];simp,?_⟩;rw[Nat.div_eq_of_lt b,Nat.mod_eq_of_lt b];exact h
  .rw[List.getElem?_append_right (by rw[c];omega),c]at h;obtain⟨e,k,i⟩:=Bu f m c d r (j-m) u h;have e1:j/m=(j-m)/m+1:=by rw[Nat.div_eq_sub_div e zz]
   have g:j%m=(j-m)%m:=by rw[Nat.mod_eq_sub_mod zz]
   refine⟨e,by rw[e1,ed];omega,?_⟩;rw[e1,g];simpa[List.getD]using i
def qu(f:α->List M)(m:Nat)(b:∀a,(f a).length=m):∀l:List α,(l.flatMap f).length=l.length*m
 | []=>by simp
 | a::r=>by rw[lv,kl,b,qu f m b r,ed,Nat.succ_mul];omega
def Cf.cells(h:Cf w s l):mK w s 2 (l.flatMap pG):=by
 obtain⟨f,h2,q,g⟩:=h;refine⟨by rw[qu pG 2 (λ_=>rfl),f],zz,λu k=>?_,λt=>?_⟩
 .obtain⟨x, -, d⟩:=List.mem_flatMap.1 k;simp only[pG,dq,fp,or_false]at d;rcases d with rfl|rfl<;>rfl
 .obtain⟨b,off,e1,p,e⟩:=g zz;refine⟨_,e1,λj u i=>?_⟩;obtain⟨v,m,a⟩:=Bu pG 2 (λ_=>rfl) (0,0) l j u i;obtain⟨n,o⟩:=e (j/2) m;have r:=Nat.div_add_mod j 2;rcases(show j%2=0\/j%2=1 by omega)with c|c
  .rw[c]at a;simp only[pG,zQ,fg]at a;rw[Addr.add_lit,show off+j=off+j/2*2 by omega,n,a]
  .rw[c]at a;simp only[pG,zQ,fg]at a;rw[Addr.add_lit,show off+j=off+j/2*2+1 by omega,o,a]
def fL.cells{l:List (Int×Int×Bool)}(h:fL w s l):mK w s 3 (l.flatMap rO):=by
 obtain⟨f,h2,r,g⟩:=h;refine⟨by rw[qu rO 3 (λ_=>rfl),f],zz,λu k=>?_,λv=>?_⟩
 .obtain⟨x, -, d⟩:=List.mem_flatMap.1 k;simp only[rO,dq,fp,or_false]at d;rcases d with rfl|rfl|rfl<;>rfl
 .obtain⟨b,off,e1,q,e⟩:=g zz;refine⟨_,e1,λj u i=>?_⟩;obtain⟨y,m,a⟩:=Bu rO 3 (λ_=>rfl) (0,0,false) l j u i;obtain⟨n,o,p⟩:=e (j/3) m;have t:=Nat.div_add_mod j 3;rcases(show j%3=0\/j%3=1\/j%3=2 by omega)with c|c|c
  .rw[c]at a;simp only[rO,zQ,fg]at a;rw[Addr.add_lit,show off+j=off+j/3*3 by omega,n,a]
  .rw[c]at a;simp only[rO,zQ,fg]at a;rw[Addr.add_lit,show off+j=off+j/3*3+1 by omega,o,a]
  .rw[c]at a;simp only[rO,zQ,fg]at a;rw[Addr.add_lit,show off+j=off+j/3*3+2 by omega,p,a]
def jP{B e size n:Nat}{xs:List M}(h:w.ownsRow B e size v n xs):∃A c,v=.slice A n c/\n<=c/\(∀g,v.ownBlock=Y g->B<=g/\g<w.heap.size)/\
  (0<n->∃g,A=Y ⟨g,0,I⟩/\∀j u,xs[j]?=Y u->w.cell? ⟨g,j,I⟩=Y u):=by
 have m:=h.lt;rcases h.2 with⟨rfl,rfl⟩|⟨g,b,o,rfl,h2,d,f,p,q,i⟩
 .exact⟨I,0,rfl,qN _,λg k=>by simp[M.ownBlock]at k,λh=>mi h (dj 0)⟩
 .refine⟨Y ⟨g,0,I⟩,b,rfl,f,m,λr=>⟨g,rfl,λj u a=>?_⟩⟩;rw[<- i]at a;have l:j<n*size:=by
   have:=(List.getElem?_eq_some_iff.1 a).1;simp at this;omega
  rw[List.getElem?_take_of_lt l]at a;simp only[H.cell?,d];simpa using a
def fO(f:α->List M)(m:Nat)(b:∀a,(f a).length=m)(d:α):∀(l:List α) (k j:Nat),k<l.length->j<m->(l.flatMap f)[k*m+j]?=(f (l.getD k d))[j]?
 | [],k,j,hk,_=>by simp at hk
 | a::r,0,j,_,c=>by
  rw[lv,List.getElem?_append_left (by rw[b];omega),Nat.zero_mul,kx];rfl
 | a::r,k+1,j,hk,c=>by
  have e:k<r.length:=by simpa using hk
  have e1:(k+1)*m+j=m+(k*m+j):=by rw[Nat.succ_mul];omega
  rw[e1,lv,List.getElem?_append_right (by rw[b];omega),b,Nat.add_sub_cancel_left,fO f m b d r k j e c];rfl
def Cf.own(h:w.ownsRow B e 2 v l.length (l.flatMap pG))(hl:l.length<=1000):∃s:Sl,v=.slice s.A s.n s.c/\Cf w s l/\(∀a,s.A=Y a->B<=a.block/\a.block<w.heap.size):=by
 obtain⟨A,c,rfl,f,h2,i⟩:=jP h;refine⟨⟨A,l.length,c⟩,rfl,⟨rfl,f,hl,λm=>?_⟩,λa d=>h2 _ (by simp only at d;rw[d];rfl)⟩;obtain⟨g,rfl,b⟩:=i m;have j:=(h2 g rfl).2;refine⟨g,0,rfl,j,λk hk=>⟨?_,?_⟩⟩
 .have:=fO pG 2 (λ_=>rfl) (0,0) l k 0 hk zz;rw[kx];exact b _ _ (this.tn rfl)
 .have:=fO pG 2 (λ_=>rfl) (0,0) l k 1 hk zz;rw[kx];exact b _ _ (this.tn rfl)
def fL.own{l:List (Int×Int×Bool)}(h:w.ownsRow B e 3 v l.length (l.flatMap rO))(hl:l.length<=1000):∃s:Sl,v=.slice s.A s.n s.c/\fL w s l/\(∀a,s.A=Y a->B<=a.block/\a.block<w.heap.size):=by
 obtain⟨A,c,rfl,f,h2,i⟩:=jP h;refine⟨⟨A,l.length,c⟩,rfl,⟨rfl,f,hl,λm=>?_⟩,λa d=>h2 _ (by simp only at d;rw[d];rfl)⟩;obtain⟨g,rfl,b⟩:=i m;have j:=(h2 g rfl).2;refine⟨g,0,rfl,j,λk hk=>⟨?_,?_,?_⟩⟩
 .have:=fO rO 3 (λ_=>rfl) (0,0,false) l k 0 hk zz;rw[kx];exact b _ _ (this.tn rfl)
 .have:=fO rO 3 (λ_=>rfl) (0,0,false) l k 1 hk zz;rw[kx];exact b _ _ (this.tn rfl)
 .have:=fO rO 3 (λ_=>rfl) (0,0,false) l k 2 hk zz;rw[kx];exact b _ _ (this.tn rfl)
def eC.own{l:List Int}(h:w.ownsRow B e 1 v l.length (l.map (M.int .i64)))(hl:l.length<=1000):∃s:Sl,v=.slice s.A s.n s.c/\eC w s l/\(∀a,s.A=Y a->B<=a.block/\a.block<w.heap.size):=by
 obtain⟨A,c,rfl,d,h2,f⟩:=jP h;refine⟨⟨A,l.length,c⟩,rfl,⟨rfl,d,hl,λm=>?_⟩,λa b=>h2 _ (by simp only at b;rw[b];rfl)⟩;obtain⟨g,rfl,i⟩:=f m;have j:=(h2 g rfl).2;refine⟨g,0,rfl,j,λk hk=>?_⟩;rw[kx];exact i _ _ (by simp[List.getD,iv hk])
variable{i k:Nat}{oi:Kp}{L:Array Bool}{a:Act}{P:Ps}{ops:Array Kp}{Q:Exit->Act->H->Prop}{md:Region.Mode}{S:H->Prop}{late:Nat->Bool}
def wpAnyL(P:Ps)(md:Region.Mode)(ops:Array Kp)(Q:Exit->Act->H->Prop)(S:H->Prop)(late:Nat->Bool):Nat->Array Bool->Act->H->Prop
 | 0,L,a,w=>Region.ready md ops L=[]/\Q .normal a w
 | k+1,L,a,w=>(Region.ready md ops L=[]->Q .normal a w)/\∀i∈Region.ready md ops L,wpOp P ops Q i (λb w'=>(late i=false->S w')/\wpAnyL P md ops Q S late k (L.setIfInBounds i true) b w') a w
def sA:∀(k:Nat) (L:Array Bool) (a:Act) (w:H),wpAnyL P md ops Q S late k L a w->wpAny P md ops Q k L a w
 | 0,_,_,_,h=>h
 | k+1,_,_,_,h=>⟨h.1,λi hi=>wpOp_mono (λb w' c=>sA k _ b w' c.2) (h.2 i hi)⟩
def wpAnyL_first(hi:ops[i]?=Y oi)(G:∀(j:Nat) (o:Kp) cs b,ops[j]?=Y o->o.op≠.select cs b)
  (N:∀c a w,Q (.panic c) (a.put oi.dst v) w->Q (.panic c) a w)
  (U:∀j d,ops[j]?=Y d->late j=true->∃e∈d.after,Region.binds md e=true/\e.on=i):
  ∀(k:Nat) (L:Array Bool) (a:Act) (w:Cl),
   (∀j d,ops[j]?=Y d->j≠i->L.getD j true=false->(∀e∈d.after,Region.binds md e=true->e.on≠i)->oi.apart ops d=true)->
   i∈Region.ready md ops L->YieldsIf P ops S oi v a->S w->
   wpAnyL P md ops Q S late k (L.setIfInBounds i true) (a.put oi.dst v) w->wpAnyL P md ops Q S late (k+1) L a w:=by
 intro k
 induction k with
 | zero=>
  intro L a w _ l r m H;refine⟨λh=>(by rw[h]at l;cases l),λj p=>?_⟩;by_cases f:j=i
  .subst f;exact r.wpOp hi m ⟨λ_=>m,H⟩
  .have:=ready_mono p f;rw[H.1]at this;cases this
 | succ k W=>
  intro L a w A l r m H;refine⟨λh=>(by rw[h]at l;cases l),λj p=>?_⟩;by_cases f:j=i
  .subst f;exact r.wpOp hi m ⟨λ_=>m,H⟩
  .have g:=H.2 j (ready_mono p f);obtain⟨C,d,q,O⟩:=mem_ready.1 p;have E:∀e∈d.after,Region.binds md e=true->e.on≠i:=λe u t x=>by
    have g:=O e u t;have y:=(mem_ready.1 l).1;rw[x]at g;rcases Nat.lt_or_ge i L.size with s|s
    .simp[s]at y g;rw[y]at g;cases g
    .simp[Array.getElem?_eq_none s]at g
   have z:late j=false:=by
    cases hl:late j with
    | false=>rfl
    | true=>
     obtain⟨e,u,t,x⟩:=U j d q hl;exact mi x (E e u t)
   have h2:=wpOp_putIf q (A j d q f C E) (λcs b=>G i oi cs b hi) (λcs b=>G j d cs b q) N r g;have R:∀k ok,ops[k]?=Y ok->k≠i->(L.setIfInBounds j true).getD k true=false->
     (∀e∈ok.after,Region.binds md e=true->e.on≠i)->oi.apart ops ok=true:=λk ok hk T J V=>by
    refine A k ok hk T ?_ V;by_cases B:j=k
    .subst B;exact C
    .rw[getD_set_ne true B]at J;exact J
   refine wpOp_mono (λK w' n=>⟨λ_=>n.2.1 z,W (L.setIfInBounds j true) K w' R (ready_mono l (Ne.symm f)) n.1 (n.2.1 z) ?_⟩) h2;rw[Array.setIfInBounds_comm _ _ f];exact n.2.2
def nN(md:Region.Mode)(ops:Array Kp)(late:Nat->Bool)(i:Nat):Bool:=(List.range ops.size).all λj=> !late j||(match ops[j]? with|some o=>o.after.any λe=>Region.binds md e&&e.on==i|none=>true)
def yh(h:nN md ops late i=true):∀j b,ops[j]?=Y b->late j=true->∃e∈b.after,Region.binds md e=true/\e.on=i:=λj b c hl=>by
 have g:=(ec.1 c).1;have a:=List.all_eq_true.1 h j (List.mem_range.2 g);rw[c,hl]at a;simp only[Bool.not_true,Bool.false_or,Array.any_eq_true',du,nd]at a;obtain⟨e,f,d,k⟩:=a;exact⟨e,f,d,k⟩
def qQ(hi:ops[i]?=Y oi)
  (g:Region.noSelect ops=true)(e:Region.free md ops L i=true)(f:(Region.ready md ops L).contains i=true)(j:nN md ops late i=true)
  (b:∀c a w,Q (.panic c) (a.put oi.dst v) w->Q (.panic c) a w)(l:YieldsIf P ops S oi v a)(d:S w)
  (h:wpAnyL P md ops Q S late k (L.setIfInBounds i true) (a.put oi.dst v) w):wpAnyL P md ops Q S late (k+1) L a w:=
 wpAnyL_first hi (Region.noSelect_spec g) b (yh j) k L a w (Region.free_spec hi e) (by simpa using f) l d h
def Ov{o:Kp}(b:Region.ready md ops L=[i])(g:ops[i]?=Y o)
  (h:∀K:Act->H->Prop,(∀a w,(late i=false->S w)->wpAnyL P md ops Q S late k (L.setIfInBounds i true) a w->K a w)->if Region.wanted o (aw ops a.tmps)=true then Kp.wp P o a w K Q else K (a.put o.dst D) w):
  wpAnyL P md ops Q S late (k+1) L a w:=by
 refine⟨λd=>(by rw[d]at b;cases b),λj c=>?_⟩;rw[b]at c;obtain rfl:=q8A.1 c;exact wpOp_step g (λK f=>h K λa w e h2=>f a w ⟨e,h2⟩)
def cH(b:Region.ready md ops L=[])(h:Q .normal a w):∀k,wpAnyL P md ops Q S late k L a w
 | 0=>⟨b,h⟩
 | _+1=>⟨λ_=>h,by rw[b];simp⟩
def bK{id:Nat}(late:Nat->Bool)(b:P.follows .mixedOrders=true)
  (h:wpAnyL P .any ops Q S late ops.size (Array.replicate ops.size false) a w.drew):(Ly.region id ops true).wp P Q a w:=
 wp_region_any b (sA _ _ _ _ h)
def gi{B e size n:Nat}{v:M}{xs:List M}(h:w.ownsRow B e size v n xs):∃A c,v=.slice A n c:=by
 obtain⟨A,c,a,-⟩:=jP h;exact⟨A,c,a⟩
structure lZ(w:H)(B:Nat)(b:aC)(l:pK):Prop where
 nC:b.C.n=l.C.length
 nU:b.U.n=l.U.length
 nE:b.E.n=l.E.length
 nW:b.W.n=l.W.length
 bC:l.C.length<=1000
 bU:l.U.length<=1000
 bE:l.E.length<=1000
 bW:l.W.length<=1000
 C:w.ownsRow B 3 1 (.slice b.C.A b.C.n b.C.c) b.C.n (l.C.map (M.int .i64))
 U:w.ownsRow B 89 2 (.slice b.U.A b.U.n b.U.c) b.U.n (l.U.flatMap pG)
 E:w.ownsRow B 91 2 (.slice b.E.A b.E.n b.E.c) b.E.n (l.E.flatMap pG)
 W:w.ownsRow B 72 3 (.slice b.W.A b.W.n b.W.c) b.W.n (l.W.flatMap rO)
 CU:∀a a',b.C.A=Y a->b.U.A=Y a'->a.block<a'.block
 CE:∀a a',b.C.A=Y a->b.E.A=Y a'->a.block<a'.block
 CW:∀a a',b.C.A=Y a->b.W.A=Y a'->a.block<a'.block
 UW:∀a a',b.U.A=Y a->b.W.A=Y a'->a.block<a'.block
 EW:∀a a',b.E.A=Y a->b.W.A=Y a'->a.block<a'.block
def iH{g:Nat}{t:Lk}{b0:aC}(b:aC)(h:aK w g t b0):aK (((((((((((((w.setCell ⟨g,0,I⟩ (.int .i64 b.S)).setCell ⟨g,1,I⟩ (.int .i64 b.D)).setCell ⟨g,2,I⟩ (.int .i64 b.L)).setCell ⟨g,3,I⟩ (.int .i64 b.lo)).setCell ⟨g,4,I⟩ (.int .i64 b.hi)).setCell ⟨g,5,I⟩ (.slice b.C.A b.C.n b.C.c)).setCell ⟨g,6,I⟩ (.int .i64 b.rf)).setCell ⟨g,7,I⟩ (.int .i64 b.rh)).setCell ⟨g,8,I⟩ (.int .i64 b.cf)).setCell ⟨g,9,I⟩ (.int .i64 b.ch)).setCell ⟨g,10,I⟩ (.slice b.U.A b.U.n b.U.c)).setCell ⟨g,11,I⟩ (.slice b.E.A b.E.n b.E.c)).setCell ⟨g,12,I⟩ (.slice b.W.A b.W.n b.W.c)) g t b/\aS (λx=>x≠g) w (((((((((((((w.setCell ⟨g,0,I⟩ (.int .i64 b.S)).setCell ⟨g,1,I⟩ (.int .i64 b.D)).setCell ⟨g,2,I⟩ (.int .i64 b.L)).setCell ⟨g,3,I⟩ (.int .i64 b.lo)).setCell ⟨g,4,I⟩ (.int .i64 b.hi)).setCell ⟨g,5,I⟩ (.slice b.C.A b.C.n b.C.c)).setCell ⟨g,6,I⟩ (.int .i64 b.rf)).setCell ⟨g,7,I⟩ (.int .i64 b.rh)).setCell ⟨g,8,I⟩ (.int .i64 b.cf)).setCell ⟨g,9,I⟩ (.int .i64 b.ch)).setCell ⟨g,10,I⟩ (.slice b.U.A b.U.n b.U.c)).setCell ⟨g,11,I⟩ (.slice b.E.A b.E.n b.E.c)).setCell ⟨g,12,I⟩ (.slice b.W.A b.W.n b.W.c))/\(((((((((((((w.setCell ⟨g,0,I⟩ (.int .i64 b.S)).setCell ⟨g,1,I⟩ (.int .i64 b.D)).setCell ⟨g,2,I⟩ (.int .i64 b.L)).setCell ⟨g,3,I⟩ (.int .i64 b.lo)).setCell ⟨g,4,I⟩ (.int .i64 b.hi)).setCell ⟨g,5,I⟩ (.slice b.C.A b.C.n b.C.c)).setCell ⟨g,6,I⟩ (.int .i64 b.rf)).setCell ⟨g,7,I⟩ (.int .i64 b.rh)).setCell ⟨g,8,I⟩ (.int .i64 b.cf)).setCell ⟨g,9,I⟩ (.int .i64 b.ch)).setCell ⟨g,10,I⟩ (.slice b.U.A b.U.n b.U.c)).setCell ⟨g,11,I⟩ (.slice b.E.A b.E.n b.E.c)).setCell ⟨g,12,I⟩ (.slice b.W.A b.W.n b.W.c)).heap.size=w.heap.size:=by
 unfold aK aE at*;have a:=bJ (i:=0) h (.int .i64 b.S);simp only[zS]at a;have c:=bJ (i:=1) a (.int .i64 b.D);simp only[zS]at c;have h2:=bJ (i:=2) c (.int .i64 b.L);simp only[zS]at h2;have j:=bJ (i:=3) h2 (.int .i64 b.lo);simp only[zS]at j;have k:=bJ (i:=4) j (.int .i64 b.hi);simp only[zS]at k;have l:=bJ (i:=5) k (.slice b.C.A b.C.n b.C.c);simp only[zS]at l;have m:=bJ (i:=6) l (.int .i64 b.rf);simp only[zS]at m;have n:=bJ (i:=7) m (.int .i64 b.rh);simp only[zS]at n;have o:=bJ (i:=8) n (.int .i64 b.cf);simp only[zS]at o;have q:=bJ (i:=9) o (.int .i64 b.ch);simp only[zS]at q;have d:=bJ (i:=10) q (.slice b.U.A b.U.n b.U.c);simp only[zS]at d;have e:=bJ (i:=11) d (.slice b.E.A b.E.n b.E.c);simp only[zS]at e;have f:=bJ (i:=12) e (.slice b.W.A b.W.n b.W.c);simp only[zS]at f;exact⟨f,((((((((((((((aS.refl _ _).set (p:=⟨g,0,I⟩) (λ_ h=>h rfl) _).set (p:=⟨g,1,I⟩) (λ_ h=>h rfl) _).set (p:=⟨g,2,I⟩) (λ_ h=>h rfl) _).set (p:=⟨g,3,I⟩) (λ_ h=>h rfl) _).set (p:=⟨g,4,I⟩) (λ_ h=>h rfl) _).set (p:=⟨g,5,I⟩) (λ_ h=>h rfl) _).set (p:=⟨g,6,I⟩) (λ_ h=>h rfl) _).set (p:=⟨g,7,I⟩) (λ_ h=>h rfl) _).set (p:=⟨g,8,I⟩) (λ_ h=>h rfl) _).set (p:=⟨g,9,I⟩) (λ_ h=>h rfl) _).set (p:=⟨g,10,I⟩) (λ_ h=>h rfl) _).set (p:=⟨g,11,I⟩) (λ_ h=>h rfl) _).set (p:=⟨g,12,I⟩) (λ_ h=>h rfl) _),by simp[H.setCell]⟩
theorem DX(b:aC)(l:pK)(w:H)(hl:aI w b l):
  PH F 61 #[b.v] w λe w'=>∃C U E W:Sl,e=.returned ({b with C:=C,U:=U,E:=E,W:=W}:aC).v/\lZ w' w.heap.size {b with C:=C,U:=U,E:=E,W:=W} l/\X w.heap.size w w':=by
 have a5:=Hm hl;have c1:=λw' h=>GF b.C l.C w' h;have c3:=λw' h=>GB b.U (l.U.flatMap pG) w' h;have c2:=λw' h=>GC b.E (l.E.flatMap pG) w' h;have c4:=λw' h=>GD b.W (l.W.flatMap rO) w' h;clear hl;unfold aC.v;go_enter Tryz.func61,Tryz.ntmps61;go_wp2_with fail;change Ly.wp _ _ _ _ ((w.alloc (aE b 31)).alloc (aE bI 31));have b6:aK ((w.alloc (aE b 31)).alloc (aE bI 31)) w.heap.size 31 b:=(QR _ _ ss).tn (Sp _ _);have b8:aK ((w.alloc (aE b 31)).alloc (aE bI 31)) (w.heap.size+1) 31 bI:=by rw[<- aa w (aE b 31)];exact Sp _ _
 have b9:((w.alloc (aE b 31)).alloc (aE bI 31)).heap.size=w.heap.size+1+1:=by simp only[aa]
 have b7:X w.heap.size w ((w.alloc (aE b 31)).alloc (aE bI 31)):=((X.refl _ _).alloc (qN _) _).alloc (by simp only[aa];omega) _;generalize((w.alloc (aE b 31)).alloc (aE bI 31))=W at b6 b8 b9 b7|-;have k:=Hm b6;have HR:=Hm b8;have c7:=Hm b9;have a4:=Hm b7;clear b6 b8 b9 b7;have L:aK W.drew w.heap.size 31 b/\X W.heap.size W W.drew:=⟨k.out,X.drew (X.refl _ _)⟩;refine bK (S:=λw'=>aK w' w.heap.size 31 b/\X W.heap.size W w') (λi=>decide (13<=i)) kr ?_;refine qQ (i:=0) (v:=?_) rfl kr kr kr kr (λ_ _ _ h=>h) (Or.inl ⟨by rfl,?_⟩) L ?_
 .exact .pointer (Y ⟨w.heap.size,5,I⟩)
 .intro f d;go_simp
 try simp only[Act.put,zS]
 refine qQ (i:=1) (v:=?_) rfl kr kr kr kr (λ_ _ _ h=>h) (Or.inl ⟨by rfl,?_⟩) L ?_
 .exact .slice b.C.A b.C.n b.C.c
 .intro f d;obtain⟨O,y,z,A,B,T,V,Z,x8,x9,P,Q,R⟩:=aM d.1;clear d;go_simp
 try simp only[Act.put,zS]
 refine qQ (i:=3) (v:=?_) rfl kr kr kr kr (λ_ _ _ h=>h) (Or.inl ⟨by rfl,?_⟩) L ?_
 .exact .pointer (Y ⟨w.heap.size,10,I⟩)
 .intro f d;go_simp
 try simp only[Act.put,zS]
 refine qQ (i:=4) (v:=?_) rfl kr kr kr kr (λ_ _ _ h=>h) (Or.inl ⟨by rfl,?_⟩) L ?_
 .exact .slice b.U.A b.U.n b.U.c
 .intro f d;obtain⟨O,y,z,A,B,T,V,Z,x8,x9,P,Q,R⟩:=aM d.1;clear d;go_simp
 try simp only[Act.put,zS]
 refine qQ (i:=6) (v:=?_) rfl kr kr kr kr (λ_ _ _ h=>h) (Or.inl ⟨by rfl,?_⟩) L ?_
 .exact .pointer (Y ⟨w.heap.size,11,I⟩)
 .intro f d;go_simp
 try simp only[Act.put,zS]
 refine qQ (i:=7) (v:=?_) rfl kr kr kr kr (λ_ _ _ h=>h) (Or.inl ⟨by rfl,?_⟩) L ?_
 .exact .slice b.E.A b.E.n b.E.c
 .intro f d;obtain⟨O,y,z,A,B,T,V,Z,x8,x9,P,Q,R⟩:=aM d.1;clear d;go_simp
 try simp only[Act.put,zS]
 refine qQ (i:=9) (v:=?_) rfl kr kr kr kr (λ_ _ _ h=>h) (Or.inl ⟨by rfl,?_⟩) L ?_
 .exact .pointer (Y ⟨w.heap.size,12,I⟩)
 .intro f d;go_simp
 try simp only[Act.put,zS]
 refine qQ (i:=10) (v:=?_) rfl kr kr kr kr (λ_ _ _ h=>h) (Or.inl ⟨by rfl,?_⟩) L ?_
 .exact .slice b.W.A b.W.n b.W.c
 .intro f d;obtain⟨O,y,z,A,B,T,V,Z,x8,x9,P,Q,R⟩:=aM d.1;clear d;go_simp
 try simp only[Act.put,zS]
 clear L;obtain⟨a7,b'⟩:∃a7,W.drew=a7:=⟨_,rfl⟩;have k0:X W.heap.size W a7:=by rw[<- b'];exact X.drew (X.refl _ _)
 rw[b'];clear b';have l1:eC a7 b.C l.C:=(a5.out.C.below a4.out).below k0;refine Ov (i:=2) kr rfl (λK c=>?_);go_simp;refine(c1 a7 l1).mono ?_;rintro e f ⟨v1,rfl,o1,j1⟩;have N:X W.heap.size W f:=k0.tn (j1.mono k0.size);obtain⟨j,p,rfl⟩:=gi o1;clear l1 c1;go_simp;refine c _ _ (λ_=>⟨(N.block _ k.out.lt).tn k.out,N⟩) ?_;clear c K;try simp only[Act.put,zS]
 refine qQ (i:=12) (v:=?_) rfl kr kr kr kr (λ_ _ _ h=>h) (Or.inl ⟨by rfl,?_⟩) ⟨(N.block _ k.out.lt).tn k.out,N⟩ ?_
 .exact .pointer (Y ⟨w.heap.size,5,I⟩)
 .intro f d;go_simp
 try simp only[Act.put,zS]
 have l2:mK f b.U 2 (l.U.flatMap pG):=((a5.out.U.below a4.out).below N).cells;refine Ov (i:=5) kr rfl (λK c=>?_);go_simp;refine(c3 f l2).mono ?_;rintro e w2 ⟨v2,rfl,o2,j2⟩;have k2:X W.heap.size W w2:=N.tn (j2.mono N.size);obtain⟨o,r,rfl⟩:=gi o2;clear l2 c3;go_simp;refine c _ _ (λ_=>⟨(k2.block _ k.out.lt).tn k.out,k2⟩) ?_;clear c K;try simp only[Act.put,zS]
 have l3:mK w2 b.E 2 (l.E.flatMap pG):=((a5.out.E.below a4.out).below k2).cells;refine Ov (i:=8) kr rfl (λK c=>?_);go_simp;refine(c2 w2 l3).mono ?_;rintro e w3 ⟨v3,rfl,o3,j3⟩;have k3:X W.heap.size W w3:=k2.tn (j3.mono k2.size);obtain⟨q,u,rfl⟩:=gi o3;clear l3 c2;go_simp;refine c _ _ (λ_=>⟨(k3.block _ k.out.lt).tn k.out,k3⟩) ?_;clear c K;try simp only[Act.put,zS]
 have l4:mK w3 b.W 3 (l.W.flatMap rO):=((a5.out.W.below a4.out).below k3).cells;refine Ov (i:=11) kr rfl (λK c=>?_);go_simp;refine(c4 w3 l4).mono ?_;rintro e n ⟨v4,rfl,o4,j4⟩;have k4:X W.heap.size W n:=k3.tn (j4.mono k3.size);obtain⟨t,J,rfl⟩:=gi o4;clear l4 c4;go_simp;refine c _ _ (λ_=>⟨(k4.block _ k.out.lt).tn k.out,k4⟩) ?_;clear c K;try simp only[Act.put,zS]
 have b0:aK n w.heap.size 31 b:=(k4.block _ k.out.lt).tn k.out;have r0:aK n (w.heap.size+1) 31 bI:=(k4.block _ HR.out.lt).tn HR.out;have y:=(aM b0).2.2.2.2.2;have f1:=dx b0 5;refine Ov (i:=13) kr rfl (λK c=>?_);obtain⟨y5, -, -, -, -, a1,a2,a3⟩:=y;go_simp;refine c _ _ (λh=>mi h dd) ?_;clear c K y5 a1 a2 a3 f1;try simp only[Act.put,zS]
 have b1:aK (n.setCell ⟨w.heap.size,5,I⟩ (.slice j b.C.n p)) w.heap.size 31 {b with C:=⟨j,b.C.n,p⟩}:=by
  have:=bJ (i:=5) b0 (.slice j b.C.n p);simp only[zS]at this;exact this
 have g1:aS (λx=>x≠w.heap.size) n (n.setCell ⟨w.heap.size,5,I⟩ (.slice j b.C.n p)):=(aS.refl _ _).set (λ_ h=>h rfl) _;generalize n.setCell ⟨w.heap.size,5,I⟩ (.slice j b.C.n p)=u1 at b1 g1|-;refine Ov (i:=14) kr rfl (λK c=>?_);go_simp;refine c _ _ (λh=>mi h dd) ?_;clear c K;try simp only[Act.put,zS]
 have z:=(aM b1).2.2.2.2.2;have f2:=dx b1 10;refine Ov (i:=15) kr rfl (λK c=>?_);obtain⟨y5, -, -, -, -, a1,a2,a3⟩:=z;go_simp;refine c _ _ (λh=>mi h dd) ?_;clear c K y5 a1 a2 a3 f2;try simp only[Act.put,zS]
 have b2:aK (u1.setCell ⟨w.heap.size,10,I⟩ (.slice o b.U.n r)) w.heap.size 31 {b with C:=⟨j,b.C.n,p⟩,U:=⟨o,b.U.n,r⟩}:=by
  have:=bJ (i:=10) b1 (.slice o b.U.n r);simp only[zS]at this;exact this
 have g2:aS (λx=>x≠w.heap.size) u1 (u1.setCell ⟨w.heap.size,10,I⟩ (.slice o b.U.n r)):=(aS.refl _ _).set (λ_ h=>h rfl) _;generalize u1.setCell ⟨w.heap.size,10,I⟩ (.slice o b.U.n r)=u2 at b2 g2|-;clear b1;refine Ov (i:=16) kr rfl (λK c=>?_);go_simp;refine c _ _ (λh=>mi h dd) ?_;clear c K;try simp only[Act.put,zS]
 have A:=(aM b2).2.2.2.2.2;have f3:=dx b2 11;refine Ov (i:=17) kr rfl (λK c=>?_);obtain⟨y5, -, -, -, -, a1,a2,a3⟩:=A;go_simp;refine c _ _ (λh=>mi h dd) ?_;clear c K y5 a1 a2 a3 f3;try simp only[Act.put,zS]
 have b3:aK (u2.setCell ⟨w.heap.size,11,I⟩ (.slice q b.E.n u)) w.heap.size 31 {b with C:=⟨j,b.C.n,p⟩,U:=⟨o,b.U.n,r⟩,E:=⟨q,b.E.n,u⟩}:=by
  have:=bJ (i:=11) b2 (.slice q b.E.n u);simp only[zS]at this;exact this
 have g3:aS (λx=>x≠w.heap.size) u2 (u2.setCell ⟨w.heap.size,11,I⟩ (.slice q b.E.n u)):=(aS.refl _ _).set (λ_ h=>h rfl) _;generalize u2.setCell ⟨w.heap.size,11,I⟩ (.slice q b.E.n u)=u3 at b3 g3|-;clear b2;refine Ov (i:=18) kr rfl (λK c=>?_);go_simp;refine c _ _ (λh=>mi h dd) ?_;clear c K;try simp only[Act.put,zS]
 have B:=(aM b3).2.2.2.2.2;have f4:=dx b3 12;refine Ov (i:=19) kr rfl (λK c=>?_);obtain⟨y5, -, -, -, -, a1,a2,a3⟩:=B;go_simp;refine c _ _ (λh=>mi h dd) ?_;clear c K y5 a1 a2 a3 f4;try simp only[Act.put,zS]
 have b4:aK (u3.setCell ⟨w.heap.size,12,I⟩ (.slice t b.W.n J)) w.heap.size 31 {b with C:=⟨j,b.C.n,p⟩,U:=⟨o,b.U.n,r⟩,E:=⟨q,b.E.n,u⟩,W:=⟨t,b.W.n,J⟩}:=by
  have:=bJ (i:=12) b3 (.slice t b.W.n J);simp only[zS]at this;exact this
 have g4:aS (λx=>x≠w.heap.size) u3 (u3.setCell ⟨w.heap.size,12,I⟩ (.slice t b.W.n J)):=(aS.refl _ _).set (λ_ h=>h rfl) _;generalize u3.setCell ⟨w.heap.size,12,I⟩ (.slice t b.W.n J)=u4 at b4 g4|-;clear b3;refine cH kr ?_ _;have b5:aS (λx=>x≠w.heap.size) n u4:=((g1.tn g2).tn g3).tn g4;have r4:aK u4 (w.heap.size+1) 31 bI:=(b5.block _ r0.lt zz).tn r0;clear g1 g2 g3 g4 r0;have G4:=Hm b5;have R4:=Hm r4;have B4:=Hm b4;have a8:=Hm o1;have a9:=Hm o2;have a':=Hm o3;have a0:=Hm o4;have J1:=Hm j1;have J2:=Hm j2;have J3:=Hm j3;have J4:=Hm j4;have K0:=Hm k0;have K4:=Hm k4;clear b5 o1 o2 o3 o4 j1 j2 j3 j4 k0 N k2 k3 k4;obtain⟨O,y,z,A,B,T,V,Z,x8,x9,P,Q,R⟩:=aM b4;obtain⟨z0,z1,z2,z3,z4,z5,z6,z7,z8,z9,d2,d3,d4⟩:=aM r4;have c8:=dx r4;clear b4 r4;go_wp2;obtain⟨f1,f2,f3⟩:=iH ({b with C:=⟨j,b.C.n,p⟩,U:=⟨o,b.U.n,r⟩,E:=⟨q,b.E.n,u⟩,W:=⟨t,b.W.n,J⟩}:aC) R4.out;generalize c9:(((((((((((((u4.setCell ⟨w.heap.size+1,0,I⟩ (.int .i64 b.S)).setCell ⟨w.heap.size+1,1,I⟩ (.int .i64 b.D)).setCell ⟨w.heap.size+1,2,I⟩ (.int .i64 b.L)).setCell ⟨w.heap.size+1,3,I⟩ (.int .i64 b.lo)).setCell ⟨w.heap.size+1,4,I⟩ (.int .i64 b.hi)).setCell ⟨w.heap.size+1,5,I⟩ (.slice j b.C.n p)).setCell ⟨w.heap.size+1,6,I⟩ (.int .i64 b.rf)).setCell ⟨w.heap.size+1,7,I⟩ (.int .i64 b.rh)).setCell ⟨w.heap.size+1,8,I⟩ (.int .i64 b.cf)).setCell ⟨w.heap.size+1,9,I⟩ (.int .i64 b.ch)).setCell ⟨w.heap.size+1,10,I⟩ (.slice o b.U.n r)).setCell ⟨w.heap.size+1,11,I⟩ (.slice q b.E.n u)).setCell ⟨w.heap.size+1,12,I⟩ (.slice t b.W.n J))=d1 at f1 f2 f3|-;clear c9 O y z A B T V Z x8 x9 P Q R z0 z1 z2 z3 z4 z5 z6 z7 z8 z9 d2 d3 d4 c8;obtain⟨O,y,z,A,B,T,V,Z,x8,x9,P,Q,R⟩:=aM f1;refine bd (v:=({b with C:=⟨j,b.C.n,p⟩,U:=⟨o,b.U.n,r⟩,E:=⟨q,b.E.n,u⟩,W:=⟨t,b.W.n,J⟩}:aC).v) (by simp[results,Tryz.results61,go_sem,O,y,z,A,B,T,V,Z,x8,x9,P,Q,R,aC.v]) rfl ⟨⟨j,b.C.n,p⟩,⟨o,b.U.n,r⟩,⟨q,b.E.n,u⟩,⟨t,b.W.n,J⟩,rfl,?_⟩;clear O y z A B T V Z x8 x9 P Q R;have s0:=K0.out.size;have s1:=J1.out.size;have s2:=J2.out.size;have s3:=J3.out.size;have s4:=J4.out.size;have d6:=c7.out;have c6:aS (λx=>x<w3.heap.size) w3 n:=aS.dY J4.out (λ_ _ h=>h);have c5:aS (λx=>x<w2.heap.size) w2 n:=(aS.dY (K:=λx=>x<w2.heap.size) J3.out (λ_ _ h=>h)).tn (c6.mono (λx h s=>zz));have c':aS (λx=>x<f.heap.size) f n:=(aS.dY (K:=λx=>x<f.heap.size) J2.out (λ_ _ h=>h)).tn (c5.mono (λx h s=>zz));have a6:aS (λx=>x≠w.heap.size/\x≠w.heap.size+1) n d1:=(G4.out.mono (λ_ _ h=>h.1)).tn (f2.mono (λ_ _ h=>h.2));have p1:=E5 (E5 a8.out c' (λg m=>(a8.out.lt g m).2)) a6 (λg m=>by have:=(a8.out.lt g m).1;omega);have p2:=E5 (E5 a9.out c5 (λg m=>(a9.out.lt g m).2)) a6 (λg m=>by have:=(a9.out.lt g m).1;omega);have p3:=E5 (E5 a'.out c6 (λg m=>(a'.out.lt g m).2)) a6 (λg m=>by have:=(a'.out.lt g m).1;omega);have p4:=E5 a0.out a6 (λg m=>by have:=(a0.out.lt g m).1;omega);have q1:=λa (h:j=Y a)=>a8.out.lt a.block (by rw[h];rfl);have q2:=λa (h:o=Y a)=>a9.out.lt a.block (by rw[h];rfl);have q3:=λa (h:q=Y a)=>a'.out.lt a.block (by rw[h];rfl);have q4:=λa (h:t=Y a)=>a0.out.lt a.block (by rw[h];rfl);have hl:=a5.out;refine⟨⟨hl.C.1,hl.U.1,hl.E.1,hl.W.1,hl.C.2.2.1,hl.U.2.2.1,hl.E.2.2.1,hl.W.2.2.1,dy zz p1,dy zz p2,dy zz p3,dy zz p4,
  λa G h s=>?_,λa G h s=>?_,λa G h s=>?_,λa G h s=>?_,λa G h s=>?_⟩,?_⟩
 .have:=q1 a h;have:=q2 G s;omega
 .have:=q1 a h;have:=q3 G s;omega
 .have:=q1 a h;have:=q4 G s;omega
 .have:=q2 a h;have:=q4 G s;omega
 .have:=q3 a h;have:=q4 G s;omega
 .have t1:X w.heap.size w n:=a4.out.tn (K4.out.mono zz);exact t1.tn (a6.below zz (λx d5=>zz))
variable{Z:ae->M}{o:Kp}
def uq(g:Nat)(b:aC)(w:H):H:=((((((((((((w.setCell (g,0) (.int .i64 b.S)).setCell (g,1) (.int .i64 b.D)).setCell (g,2) (.int .i64 b.L)).setCell (g,3) (.int .i64 b.lo)).setCell (g,4) (.int .i64 b.hi)).setCell (g,5) (.slice b.C.A b.C.n b.C.c)).setCell (g,6) (.int .i64 b.rf)).setCell (g,7) (.int .i64 b.rh)).setCell (g,8) (.int .i64 b.cf)).setCell (g,9) (.int .i64 b.ch)).setCell (g,10) (.slice b.U.A b.U.n b.U.c)).setCell (g,11) (.slice b.E.A b.E.n b.E.c)).setCell (g,12) (.slice b.W.A b.W.n b.W.c)
def pq{g:Nat}{t:Lk}{b0:aC}(b:aC)(h:aK w g t b0):aK (uq g b w) g t b/\aS (λx=>x≠g) w (uq g b w)/\(uq g b w).heap.size=w.heap.size:=by
 obtain⟨a,h2,c⟩:=iH b h;exact⟨a,h2,by unfold uq;simp[H.setCell]⟩
def yT(P:Ps)(g:Nat)(t:Lk):∀(vs:List M) (i:Nat) (cs:Array M) (w:H) (es:Array Event),w.heap[g]?=Y (.cells cs t (0,0))->i+vs.length<=cs.size->(∀v∈vs,v.oneCell'=true)->
  ∀e∈(storeCells ⟨g,0,I⟩ vs i).events P w es,e∈es\/∃j wr,e=⟨.cell ⟨g,j,I⟩,wr,false⟩
 | [],_,_,_,_,_,_,_,e,he=>.inl (by simpa[storeCells]using he)
 | v::vs,i,cs,w,es,c,hl,b,e,he=>by
  rw[ed]at hl;have l:i<cs.size:=zz;have d:(⟨g,0,I⟩:Addr).add i=⟨g,i,I⟩:=by rw[Addr.add_lit,kx]
  have f:w.cell? ⟨g,i,I⟩=Y cs[i]:=by unfold H.cell?;dsimp only;rw[c];exact fi l
  have k:w.frozen? ⟨g,i,I⟩=false:=by simp[H.frozen?,c]
  have e1:=_root_.Go.run_store P w ⟨g,i,I⟩ v .plain (b v ss);have a:=events_store P w es ⟨g,i,I⟩ v .plain (b v ss);rw[f]at e1 a;simp only[k,lO,if_false]at e1 a;rw[storeCells,d]at he;rw[Sem.events_bind,e1,Result.evThen_ok,a]at he;rcases yT P g t vs (i+1) _ _ _ (bJ c v) (by simpa using(by omega:i+1+vs.length<=cs.size)) (λx m=>b x (by simp[m])) e he with h|h
  .rcases Array.mem_push.1 h with h|rfl
   .exact .inl h
   .exact .inr ⟨_,_,rfl⟩
  .exact .inr h
theorem rJ{x y:ae}{g:Nat}{b b0:aC}(f:o.op=.store 31 x y)(h:Z x=.pointer (Y ⟨g,0,I⟩))(d:Z y=b.v)(a:aK w g 31 b0):
  (Hn Z o).run F w=.ok .skip (uq g b w)/\∀e∈(Hn Z o).events F w #[],∃j wr,e=⟨.cell ⟨g,j,I⟩,wr,false⟩:=by
 have i:=yT F g 31 b.v.cells.toList 0 _ w #[] a (qN 13) (by intro v k;simp[aC.v,M.cells]at k;rcases k with rfl|rfl|rfl|rfl|rfl|rfl|rfl|rfl|rfl|rfl|rfl|rfl|rfl<;>rfl);obtain⟨p,q,y2,z,y4,A,B,C,E,G,s,t,u⟩:=aM a;have n:=dx a;refine⟨?_,λe c=>?_⟩
 .unfold aC.v at d;unfold Hn uq;simp only[f,h,d];clear f h d a i;go_simp
 .refine(i e ?_).resolve_left ss;unfold Hn at c;simp only[f,h,d]at c;have l:(Instr.sureAddr (.pointer (Y ⟨g,0,I⟩))).run F w=.ok ⟨g,0,I⟩ w:=rfl;have s2:∀es,(Instr.sureAddr (.pointer (Y ⟨g,0,I⟩))).events F w es=es:=λes=>rfl;have s3:(sizeOf 31).run F w=.ok 13 w:=by simp[go_sem]
  have m:∀es,(sizeOf 31).events F w es=es:=λes=>by simp[go_sem]
  have s5:b.v.cells.size=13:=rfl;simp only[Instr.storeAt,storeVar,Sem.events_bind,Sem.run_bind,l,s2,s3,m,s5,Result.evThen_ok,Result.andThen_ok,ne_eq,not_true_eq_false,if_false,Sem.events_pure]at c;revert c;generalize Sem.run F (storeCells _ _) w=r;cases r<;>exact id
def gI(b:aC)(l:pK):Int:=if ay b l≠0 then ay b l else if lK b l b.D.toNat=true then 0 else 9
def Y7(b:aC)(r:Int)(w:H)(e:Ending)(w':H):Prop:=e=.returned (.tuple #[(if r=0 then b else bI).v,.int .i64 r])/\X w w w'
def mL{w w':H}{b b0:aC}(h:X ((w.alloc (aE b 31)).alloc (aE b0 31)).heap.size ((w.alloc (aE b 31)).alloc (aE b0 31)) w'):aK w' w 31 b/\aK w' (w.heap.size+1) 31 b0/\X w w w'/\(w:Nat)+2<=w':=by
 refine⟨(h.block _ (by simp only[aa];omega)).tn ((QR _ _ ss).tn (Sp _ _)),(h.block _ (by simp only[aa];omega)).tn (by rw[<- aa w (aE b 31)];exact Sp _ _),IA h,?_⟩;have:=h.size;simp only[aa]at this;omega
theorem aaQ(b:aC)(l:pK)(w:H)(hl:aI w b l)(a4:aD w)(A:ay b l=0):PH F 62 #[b.v] w (Y7 b (gI b l) w):=by
 have Z:=Hm hl;have b1:=Hm a4;have a7:=λC G h2=>cG b l C G h2;have a9:=λC G=>xU b l A C G;have a8:gI b l=if lK b l b.D.toNat=true then 0 else 9:=by unfold gI;rw[qVB (by simp[A])]
 rw[A]at a7;rw[a8];generalize lK b l b.D.toNat=q at a9|-;clear hl a4 A a8;unfold aC.v at*
 cases q<;>
  (go_enter Tryz.func62,Tryz.ntmps62
   go_wp2_with (first|(go_at_call 30;refine(a7 _ (aq (aq Z.out _) _) (ai (ai b1.out _) _)).mono ?_;rintro e C ⟨rfl,a5⟩;obtain⟨c,a0,a6,a'⟩:=mL (b:=b) (b0:=bI) a5;obtain⟨J,K,P,Q,R,S,T,U,V,W,L,N,O⟩:=aM c;clear a5;have a1:=Hm c;have a2:=Hm a0;have E:=Hm a6;have b2:=Hm a';clear c a0 a6 a')|(go_at_call 66;refine(a9 _ (Z.out.below E.out)).mono ?_;rintro e d ⟨rfl,z⟩;clear J  K  P  Q  R  S  T  U  V  W  L  N  O;have B:aK d (w.heap.size+1) 31 bI:=(z.block _ a2.out.lt).tn a2.out;obtain⟨J,K,P,Q,R,S,T,U,V,W,L,N,O⟩:=aM ((z.block _ a1.out.lt).tn a1.out);obtain⟨f,g,k,m,o,p,r,s,t,u,h,i,j⟩:=aM B;have b4:=dx B;have a3:=Hm B;have y:=Hm (E.out.tn (z.mono E.out.size));clear B z));have b5:=b2.out;clear J  K  P  Q  R  S  T  U  V  W  L  N  O f  g  k  m  o  p  r  s  t  u  h  i  j b4)
 .change bodyPost F Tryz.f62 _ .ret _ (uq (w.heap.size+1) bI d);obtain⟨a,f2,f3⟩:=pq bI a3.out;generalize uq (w.heap.size+1) bI d=b3 at a f2|-;obtain⟨f,g,k,m,o,p,r,s,t,u,h,i,j⟩:=aM a;exact bd (v:=.tuple #[bI.v,.int .i64 9]) (by simp[results,Tryz.results62,go_sem,f,g,k,m,o,p,r,s,t,u,h,i,j,aC.v,bI,iy]) rfl ⟨rfl,y.out.tn (f2.below (n:=w.heap.size) (by have:=y.out.size;omega) λx c=>zz)⟩
 .change bodyPost F Tryz.f62 _ .ret _ (uq (w.heap.size+1) b d);obtain⟨a,f2,f3⟩:=pq b a3.out;generalize uq (w.heap.size+1) b d=b3 at a f2|-;obtain⟨f,g,k,m,o,p,r,s,t,u,h,i,j⟩:=aM a;exact bd (v:=.tuple #[b.v,.int .i64 0]) (by simp[results,Tryz.results62,go_sem,f,g,k,m,o,p,r,s,t,u,h,i,j,aC.v]) rfl ⟨rfl,y.out.tn (f2.below (n:=w.heap.size) (by have:=y.out.size;omega) λx c=>zz)⟩
variable{l:pK}{b:aC}
def iY(l:pK)(step:Int):pK:= {l with C:=(l.C++[step]).mergeSort λx y=>decide (x<=y)}
def pH(b:aC)(l:pK)(step:Int):Int:=if ay b l≠0 then ay b l else if ax step 0 (b.S-1)=false then 6 else if step∈l.C then 5 else gI b (iY l step)
structure l5(w:H)(B:Nat)(b:aC)(l:pK):Prop where
 nC:b.C.n=l.C.length
 nU:b.U.n=l.U.length
 nE:b.E.n=l.E.length
 nW:b.W.n=l.W.length
 bC:l.C.length<=1000
 bU:l.U.length<=1000
 bE:l.E.length<=1000
 bW:l.W.length<=1000
 C:w.ownsRow B 3 1 (.slice b.C.A b.C.n b.C.c) b.C.n (l.C.map (M.int .i64))
 U:w.ownsRow B 89 2 (.slice b.U.A b.U.n b.U.c) b.U.n (l.U.flatMap pG)
 E:w.ownsRow B 91 2 (.slice b.E.A b.E.n b.E.c) b.E.n (l.E.flatMap pG)
 W:w.ownsRow B 72 3 (.slice b.W.A b.W.n b.W.c) b.W.n (l.W.flatMap rO)
def nO(b:aC)(l:pK)(r:Int)(w:H)(e:Ending)(w':H):Prop:=
 ∃a:aC,e=.returned (.tuple #[a.v,.int .i64 r])/\(if r=0 then(∃C U E W:Sl,a= {b with C:=C,U:=U,E:=E,W:=W})/\l5 w' w.heap.size a l else a=bI)/\X w w w'
def qv(b:aC)(l:pK)(C U E W:Sl):gI {b with C:=C,U:=U,E:=E,W:=W} l=gI b l:=rfl
def abY(b:aC)(l:pK)(w:H)(hl:aI w b l)(a:aD w)(c:ay b l=0):PH F 62 #[b.v] w λe w'=>∃B:aC,e=.returned (.tuple #[B.v,.int .i64 (gI b l)])/\B=(if gI b l=0 then b else bI)/\X w w w':=
 (aaQ b l w hl a c).mono λ_ _ h=>⟨_,h.1,rfl,h.2⟩
def Jf{l:List Int}(h:w.ownsRow B e 1 (.slice s.A s.n s.c) s.n (l.map (M.int .i64)))(a:s.n=l.length)(hl:l.length<=1000):eC w s l:=by
 rw[a]at h;obtain⟨s',e1,b,-⟩:=eC.own h hl;obtain⟨A,n,c⟩:=s;obtain⟨d,n',c'⟩:=s';simp only[lL]at e1 a;obtain⟨rfl,rfl,rfl⟩:=e1;rw[<- a]at b;exact b
def tX{l:List (Int×Int)}(h:w.ownsRow B e 2 (.slice s.A s.n s.c) s.n (l.flatMap pG))(a:s.n=l.length)(hl:l.length<=1000):Cf w s l:=by
 rw[a]at h;obtain⟨s',e1,b,-⟩:=Cf.own h hl;obtain⟨A,n,c⟩:=s;obtain⟨d,n',c'⟩:=s';simp only[lL]at e1 a;obtain⟨rfl,rfl,rfl⟩:=e1;rw[<- a]at b;exact b
def abp{l:List (Int×Int×Bool)}(h:w.ownsRow B e 3 (.slice s.A s.n s.c) s.n (l.flatMap rO))(a:s.n=l.length)(hl:l.length<=1000):fL w s l:=by
 rw[a]at h;obtain⟨s',e1,b,-⟩:=fL.own h hl;obtain⟨A,n,c⟩:=s;obtain⟨d,n',c'⟩:=s';simp only[lL]at e1 a;obtain⟨rfl,rfl,rfl⟩:=e1;rw[<- a]at b;exact b
def l5.book(h:l5 w B b l):aI w b l:=⟨Jf h.C h.nC h.bC,tX h.U h.nU h.bU,tX h.E h.nE h.bE,abp h.W h.nW h.bW⟩
def lZ.rows(h:lZ w B b l):l5 w B b l:=⟨h.nC,h.nU,h.nE,h.nW,h.bC,h.bU,h.bE,h.bW,h.C,h.U,h.E,h.W⟩
def l5.base{B B':Nat}(h:l5 w B b l)(hB:B'<=B):l5 w B' b l:=⟨h.nC,h.nU,h.nE,h.nW,h.bC,h.bU,h.bE,h.bW,dy hB h.C,dy hB h.U,dy hB h.E,dy hB h.W⟩
def AB{w2 w3 w4:H}{C' U' E' W':Sl}{o:Obj}{n4 c4:Nat}{A4:Option Addr}{xs:List M}(s:lZ w3 w2 ({b with C:=C',U:=U',E:=E',W:=W' }:aC) l)(J:X w2 w2 w3)
  (t:w4.ownsRow w2 3 1 (.slice A4 n4 c4) n4 xs)(j:((w3.alloc (aE ({b with C:=C',U:=U',E:=E',W:=W' }:aC) 31)).alloc o).grownBy w4 (M.slice C'.A C'.n C'.c).ownBlock)
  (p:(M.slice A4 n4 c4).ownBlock=(M.slice C'.A C'.n C'.c).ownBlock\/(M.slice A4 n4 c4).ownBlock=Y (w3.heap.size+1+1)):
  aK w4 w3 31 ({b with C:=C',U:=U',E:=E',W:=W' }:aC)/\aS (λx=>∀a,C'.A=Y a->x≠a.block) w3 w4/\(∀a,A4=Y a->w2.heap.size<=a.block/\a.block<w4.heap.size/\(C'.A=Y a\/w3.heap.size<a.block))/\(w3:Nat)+2<=w4/\(∀a,C'.A=Y a->w2.heap.size<=a.block/\a.block<w3.heap.size):=by
 have n:∀a,C'.A=Y a->w2.heap.size<=a.block/\a.block<w3.heap.size:=λa f=>s.C.lt a.block (by simp only[f];rfl);have w:=j.size;simp only[aa]at w;have c:∀q,(M.slice C'.A C'.n C'.c).ownBlock=Y q->∃a,C'.A=Y a/\a.block=q:=λq c=>by
  cases m:C'.A with
  | none=>rw[m]at c;simp[M.ownBlock]at c
  | some a=>rw[m]at c;exact⟨a,rfl,by simpa[M.ownBlock]using c⟩
 refine⟨?_,?_,λa f=>?_,zz,n⟩
 .refine(j.block _ (by simp only[aa];omega) (λe=>?_)).tn ((QR _ _ (by simp only[aa];omega)).tn (Sp _ _));obtain⟨a,d,h2⟩:=c _ (by first|exact e|exact e.symm);have:=n a d;omega
 .exact(((aS.refl _ _).alloc _).alloc _).grown j (λr v K u=>by
   obtain⟨a,d,h2⟩:=c r v;exact u a d h2.symm)
 .have d:=t.lt a.block (by rw[f];rfl);refine⟨d.1,d.2,?_⟩;rw[f]at p;rcases p with h2|h2
  .obtain⟨y,i,k⟩:=c _ h2.symm;left;rcases s.C.2 with⟨e1,-⟩|⟨g,z,B,e1,-⟩
   .simp only[lL]at e1;rw[e1.1]at i;cases i
   .simp only[lL]at e1;rcases t.2 with⟨h,-⟩|⟨g',A,G,h,-⟩
    .rw[f]at h;cases h
    .rw[f]at h;cases h;rw[e1.1]at i|-;cases i;simp only at k;rw[k]
  .right;simp only[M.ownBlock,aa,fg]at h2;omega
theorem TT(b:aC)(l:pK)(step:Int)(w:H)(hl:aI w b l)(e8:aD w)(N:ay b l=0)(g3:ax step 0 (b.S-1)=true)(f9:step∉l.C)(u:ay b (iY l step)=0):
  PH F 24 #[b.v,.int .i64 step] w (nO b (iY l step) (gI b (iY l step)) w):=by
 have b2:=Hm hl;have d8:=Hm e8;obtain⟨t1,t2,t3,t4,t5,t6,t7,t8,t9,j1,j2⟩:=cS (bP N).1;have d6:PQ (l.C.length<=12):=by have:=uO j2 zz;show _<=_;omega
 have d7:PQ (∀{n:Nat},n=l.C.length->n<=12):=λ{n} h=>by rw[h];exact d6.out
 obtain⟨i0,hi,i8,i9,i'⟩:=info_parts vD;have c2:=λt j h2=>cG b l t j h2;have c6:=λt=>fB b step zz zz t;have c3:=λt j=>jO b.C l.C step t j;have g2:=λt j=>DX b l t j;rw[N]at c2;rw[g3]at c6;rw[decide_eq_false f9]at c3;have h7:=Hm u;obtain⟨r9,c4⟩:∃r,gI b (iY l step)=r:=⟨_,rfl⟩;rw[c4];have i1:=Hm c4;clear c4;clear u hl e8 N g3 f9 t1 t2 t3 t4 t5 t6 t7 t8 t9 j1;unfold aC.v at*;go_enter Tryz.func24,Tryz.ntmps24;go_wp2_with (first|(go_at_call 30;refine(c2 _ (aq (aq b2.out _) _) (ai (ai d8.out _) _)).mono ?_;rintro e t ⟨rfl,e9⟩;obtain⟨T,g8,e0,g4⟩:=mL (b:=b) (b0:=bI) e9;obtain⟨Z,x1,x2,x3,x4,x5,x6,x7,x8,x9,a1,a2,a3⟩:=aM T;clear e9 c2;have b3:=Hm T;have b4:=Hm g8;have b1:=Hm e0;have d':=Hm g4;clear T g8 e0 g4)|(go_at_call 50;refine(c6 t).mono ?_;rintro e p ⟨rfl,R⟩;clear Z  x1  x2  x3  x4  x5  x6  x7  x8  x9  a1  a2  a3 c6;have c7:aK p w.heap.size 31 b:=(R.block _ b3.out.lt).tn b3.out;have g':aK p (w.heap.size+1) 31 bI:=(R.block _ b4.out.lt).tn b4.out;obtain⟨Z,x1,x2,x3,x4,x5,x6,x7,x8,x9,a1,a2,a3⟩:=aM c7;have k4:=Hm c7;have d0:=Hm g';have O:=Hm (b1.out.tn (R.mono b1.out.size));have d9:PQ (w.heap.size+2<=p.heap.size):=qO d'.out R.size;clear c7 g' R b3 b4 b1 d')|(go_at_call 60;refine(c3 p (b2.out.C.below O.out)).mono ?_;rintro e k' ⟨rfl,rfl⟩;clear c3)|(go_at_call 61;refine(g2 p (b2.out.below O.out)).mono ?_;rintro e f ⟨C',J,A,L,rfl,g1,e'⟩;clear g2 Z  x1  x2  x3  x4  x5  x6  x7  x8  x9  a1  a2  a3;have G:=Hm g1;have P:=Hm e';clear g1 e')|(at_builtin;refine ff rfl _ _ 24 rfl p.heap.size 3 i0 (.int .i64 0) 1 8 Tryz.underlying24 hi i8 i9 i' rfl dd _ C'.n _ rfl ((G.out.C.alloc _).alloc _) ⟨f.heap.size+1,0,I⟩ 1 1 [.int .i64 step] rfl rfl ?qc1 ?qc2 ?qc3 ?qc4 ?qc5 ?_)|fail)
 case qc1=>rw[<- aa f (aE ({b with C:=C',U:=J,E:=A,W:=L }:aC) 31)];exact cell_one_new _ _ _
 case qc2=>intro y g7;simp at g7;subst g7;rfl
 case qc3=>have:C'.n<=12:=d7.out (n:=C'.n) G.out.nC;unfold maxLen;omega
 case qc4=>have:C'.n<=12:=d7.out (n:=C'.n) G.out.nC;omega
 case qc5=>have:=P.out.size;simp;omega
 intro v4 w4 a7 f4 f0;obtain⟨k,s,rfl⟩:=ownsRow_succ a7;obtain⟨a5,f6,f8,g5,e7⟩:=AB G.out P.out (o:=.cells #[.int .i64 step] 3) a7 f4 f0;obtain⟨y0,y1,y2,y3,y4,y5,y6,y7,y8,y9,j3,j4,j5⟩:=aM a5;have j':=dx a5;have h6:=Hm a5;have h8:=Hm f6;have h9:=Hm f8;have d5:=Hm e7;have k3:=Hm g5;have h':=Hm a7;clear a5 f6 f8 g5 e7 a7 f4 f0;go_wp2_with fail;have f5:aK (w4.setCell (f.heap.size,5) (.slice (Y (k,0)) (C'.n+1) s)) f 31 ({b with C:=⟨Y (k,0),C'.n+1,s⟩,U:=J,E:=A,W:=L }:aC):=by
  have:=bJ (i:=5) h6.out (.slice (Y ⟨k,0,I⟩) (C'.n+1) s);simp only[zS]at this;exact this
 have k5:aS (λx=>x≠f.heap.size) w4 (w4.setCell (f.heap.size,5) (.slice (Y (k,0)) (C'.n+1) s)):=(aS.refl _ _).set (λ_ h=>h rfl) _;generalize w4.setCell ⟨f.heap.size,5,I⟩ (.slice (Y ⟨k,0,I⟩) (C'.n+1) s)=w5 at f5 k5|-;obtain⟨e1,e2,e3⟩:=h9.out _ rfl;have f2:k≠f.heap.size:=by
  rcases e3 with h|h
  .have:=(d5.out _ h).2;simp only at this;omega
  .simp only at h;omega
 have S:=E5 h'.out k5 (λg c=>by simp only[M.ownBlock,fg]at c;omega);have g9:l.C.map (M.int .i64)++[.int .i64 step]=(l.C++[step]).map (M.int .i64):=by simp
 rw[g9]at S;have f':C'.n=l.C.length:=G.out.nC;have z:C'.n+1=(l.C++[step]).length:=by rw[f'];simp
 have i6:=d6.out;have c5:=Tryz.slices_Sort_int k 0 s (l.C++[step]) w5 (qZ S z) (S.lt k rfl).2 (by rw[<- z];omega);rw[<- z]at c5;have a6:((l.C++[step]).mergeSort λx y=>decide (x<=y)).length=(l.C++[step]).length:=List.length_mergeSort _;refine c5.mono ?_;rintro e w6 ⟨rfl,q2,os,g6⟩;obtain⟨o6,b8⟩:=oR S z a6 g6;have h1:aS (λx=>x≠f.heap.size/\∀a,C'.A=Y a->x≠a.block) f w5:=(h8.out.mono (λ_ _ h=>h.2)).tn (k5.mono (λ_ _ h=>h.1));have V:aS (λx=>x≠f.heap.size/\x≠k/\∀a,C'.A=Y a->x≠a.block) f w6:=(h1.mono (λ_ _ h=>⟨h.1,h.2.2⟩)).grown b8 (λr N _ i4=>by simp only[fg]at N;exact i4.2.1 N.symm);have c8:aK w6 f 31 ({b with C:=⟨Y (k,0),C'.n+1,s⟩,U:=J,E:=A,W:=L }:aC):=(b8.block _ f5.lt (by simp only[ne_eq,fg];exactλh=>f2 (by first|exact h|exact h.symm))).tn f5;have f7:∀x,x<p.heap.size->x≠f.heap.size/\x≠k/\∀a,C'.A=Y a->x≠a.block:=λx T=>by
  have k7:=P.out.size;simp only at e1;refine⟨zz,zz,λa i5=>?_⟩;have:=(d5.out a i5).1;omega
 have a4:X p p w6:=P.out.tn (V.below P.out.size f7);have a8:∀a:Addr,p.heap.size<=a.block->a.block<f.heap.size->(∀m,C'.A=Y m->m.block<a.block)->a.block≠f.heap.size/\a.block≠k/\∀m,C'.A=Y m->a.block≠m.block:=λa j h2 h3=>by
  refine⟨zz,?_,λm h4=>by have:=h3 m h4;omega⟩;rcases e3 with h|h
  .have:=h3 _ h;simp only at this;omega
  .simp only at h;omega
 have d:=G.out;have c':=E5 d.U V (λg c=>by
   cases q:J.A with
   | none=>simp only[q]at c;simp[M.ownBlock]at c
   | some a=>
    have j:=d.U.lt g c;simp only[q,M.ownBlock,fg]at c;subst c;exact a8 a j.1 j.2 (λm Q=>d.CU m a Q q))
 have c9:=E5 d.E V (λg c=>by
   cases q:A.A with
   | none=>simp only[q]at c;simp[M.ownBlock]at c
   | some a=>
    have j:=d.E.lt g c;simp only[q,M.ownBlock,fg]at c;subst c;exact a8 a j.1 j.2 (λm Q=>d.CE m a Q q))
 have zZ:=E5 d.W V (λg c=>by
   cases q:L.A with
   | none=>simp only[q]at c;simp[M.ownBlock]at c
   | some a=>
    have j:=d.W.lt g c;simp only[q,M.ownBlock,fg]at c;subst c;exact a8 a j.1 j.2 (λm Q=>d.CW m a Q q))
 have b9:∀a',aS (λx=>p.heap.size<=x/\x<w6.heap.size) w6 a'->l5 a' p ({b with C:=⟨Y (k,0),C'.n+1,s⟩,U:=J,E:=A,W:=L }:aC) (iY l step):=λa' hk=>⟨z.tn a6.symm,d.nU,d.nE,d.nW,by show((l.C++[step]).mergeSort λx y=>decide (x<=y)).length<=1000;rw[a6,<- z];omega,d.bU,d.bE,d.bW,
  E5 o6 hk (λg c=>o6.lt g c),E5 c' hk (λg c=>c'.lt g c),E5 c9 hk (λg c=>c9.lt g c),E5 zZ hk (λg c=>zZ.lt g c)⟩
 have c1:=(b9 w6 (aS.refl _ _)).book;have i2:=Hm b9;clear b9 c' c9 zZ;have b6:X w w w6:=O.out.tn (a4.mono O.out.size);have f1:aD w6:=d8.out.below b6;have g0:aK w6 (w.heap.size+1) 31 bI:=(a4.block _ d0.out.lt).tn d0.out;have e4:=Hm g0;have k6:=Hm c8;have d4:=Hm b6;have k2:=Hm c1;have i7:PQ ((w:Nat)+2<=w6):=qO d9.out a4.size;have u:=abY ({b with C:=⟨Y ⟨k,0,I⟩,C'.n+1,s⟩,U:=J,E:=A,W:=L }:aC) (iY l step) w6 c1 f1 h7.out;rw[qv,i1.out]at u;unfold aC.v at u;clear f5 k5 e1 e2 e3 f2 S g9 f' z i6 c5 a6 g6 o6 b8 h1 V f7 a4 a8 d c1 b6 f1 g0 y0  y1  y2  y3  y4  y5  y6  y7  y8  y9  j3  j4  j5 j';obtain⟨Z,x1,x2,x3,x4,x5,x6,x7,x8,x9,a1,a2,a3⟩:=aM c8;clear c8;go_wp2_with (go_at_call 62;refine u.mono ?_;clear u;rintro e w7 ⟨B,rfl,hB,b'⟩;have h5:=Hm hB;clear hB;clear Z  x1  x2  x3  x4  x5  x6  x7  x8  x9  a1  a2  a3;have a9:aK w7 (w.heap.size+1) 31 bI:=(b'.block _ e4.out.lt).tn e4.out;obtain⟨z0,z1,z2,z3,z4,z5,z6,z7,z8,z9,d1,d2,d3⟩:=aM a9;have k1:=dx a9;have i3:=Hm a9;have a0:=Hm b';clear a9 b');change bodyPost F Tryz.f24 _ .ret _ (uq (w.heap.size+1) B w7);obtain⟨e6,b5,f3⟩:=pq B i3.out;have b7:=d4.out.tn (a0.out.mono d4.out.size);have k8:=i7.out;have k9:=a0.out.size;have e5:=b7.tn (b5.below (n:=w.heap.size) zz (λx T=>zz));clear z0  z1  z2  z3  z4  z5  z6  z7  z8  z9  d1  d2  d3 k1;generalize uq (w.heap.size+1) B w7=a' at e6 e5 b5|-;obtain⟨z0,z1,z2,z3,z4,z5,z6,z7,z8,z9,d1,d2,d3⟩:=aM e6;refine bd (v:=.tuple #[B.v,.int .i64 r9]) (by simp[results,Tryz.results24,go_sem,z0,z1,z2,z3,z4,z5,z6,z7,z8,z9,d1,d2,d3,aC.v]) rfl ⟨B,rfl,?_,e5⟩;have hB:=h5.out;split at hB
 .subst hB;rename_i h0;rw[qWB h0];exact⟨⟨_,_,_,_,rfl⟩,(i2.out _ ((aS.dY (K:=λx=>p.heap.size<=x/\x<w6.heap.size) a0.out (λx _ h=>h.2)).tn (b5.mono (λx _ h=>by have:=d9.out;omega)))).base O.out.size⟩
 .rename_i h0;rw[qVB h0];exact hB
def LI(b:aC)(l:pK)(step:Int)(w:H)(hl:aI w b l)(e:aD w)(h:pH b l step=0):PH F 24 #[b.v,.int .i64 step] w (nO b (iY l step) 0 w):=by
 unfold pH at h;split at h
 .rename_i a;exact mi h a
 .rename_i a;split at h
  .cases h
  .rename_i h2;split at h
   .cases h
   .rename_i d;have:=TT b l step w hl e (Decidable.not_not.1 a) (by simpa using h2) d (Decidable.not_not.1 λc=>by rw[gI,qWB c]at h;exact c h);rwa[h]at this
end Go.Proofs.YthfhocgpjjkjlaaGreatDoor
