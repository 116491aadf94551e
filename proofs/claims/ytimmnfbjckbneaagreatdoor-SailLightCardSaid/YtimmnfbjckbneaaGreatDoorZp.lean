import Derived.Test.YtimmnfbjckbneaaGreatDoorZi
import Derived.Test.YtimmnfbjckbneaaGreatDoorZn
set_option maxRecDepth 100000
set_option maxHeartbeats 4000000
set_option linter.all false
noncomputable section
open Go renaming undef->D,World->H,execOp->Hn,Oper->Kp,Code->Ly,Calls->PH,heap_alloc_old->QR,heap_alloc_new->Sp,resolve->ab,bodyPost_ret->bd
open Go.Proofs.Tryz renaming prog->F
open Option renaming none->I,some->Y
open Go.RowKit renaming Below->X
namespace Go
def xbo{p:Prop}(h:p:=by
 simp only[mP,fS,Tryz.f13,zE,Hn,ab,zM];go_simp):p:=h
end Go
namespace Go.Proofs.YtimmnfbjckbneaaGreatDoor
open Go.RowKit
theorem H6(x y:Int)(w:H):PH F 23 #[.int .i64 x,.int .i64 y] w λe w'=>e=.returned (.agg #[.int .i64 x,.int .i64 y])/\X w w w':=by
 go_enter Tryz.func23,Tryz.ntmps23;go_wp2
 (try simp only[Exit.inBlock,Exit.then])
 refine bd (v:=.agg #[.int .i64 x,.int .i64 y]) (by unfold results Tryz.f23;go_simp) rfl ⟨rfl,by exact bt⟩
theorem MD(s t:Sl)(l m:List Int)(w:H)(a:aN w s l)(b:aN w t m):
  PH F 16 #[.slice s.A s.n s.c,.slice t.A t.n t.c] w λe w'=>e=.returned (.bool (decide (l=m)))/\X w w w':=by
 have h:=AS s t l m w a b;clear a b;go_enter Tryz.func16,Tryz.ntmps16;go_wp2_with (go_at_call 12;refine h.mono ?_;clear h;rintro e d ⟨rfl,c⟩);go_ret;exact⟨rfl,c⟩
def mX(b:aC):Bool:=decide (20<b.C.n)||decide (20<b.U.n)||decide (20<b.E.n)||decide (20<b.W.n)
theorem ME(b:aC)(w:H):PH F 4 #[b.v] w λe w'=>e=.returned (.bool (mX b))/\X w w w':=by
 by_cases a:20<b.C.n;all_goals by_cases h2:20<b.U.n
 all_goals by_cases c:20<b.E.n
 all_goals by_cases d:20<b.W.n
 all_goals
  unfold aC.v;go_enter Tryz.func4,Tryz.ntmps4;go_wp2;go_ret;exact⟨bR (by simp[mX,a,h2,c,d]<;>omega),by exact bt⟩
open Go.Co
def fR:bN:= {C:=[],U:=[(6,1),(0,3),(2,1)],E:=[(0,2),(3,4)],W:=[(0,3,false)]}
def vk(u e x:Nat):aC:= {S:=8,D:=1,L:=2,lo:=0,hi:=1,C:=iy,rf:=10,rh:=12,cf:=4,ch:=8,U:=⟨Y (u,0),3,3⟩,E:=⟨Y (e,0),2,2⟩,W:=⟨Y (x,0),1,1⟩}
def fS:Ly:=match Tryz.f13.body with|some c=>c|_=>.skip
def VD:Array Kp:=match fS with|.seq (.region _ ops _) _=>ops|_=> #[]
def mP:Array Kp:=match fS with|.seq _ (.seq (.region _ ops _) _)=>ops|_=> #[]
def MQ:fS=.seq (.region 0 VD false) (.seq (.region 1 mP false) .ret):=rfl
theorem Ip(w:H){Q:Exit->Act->H->Prop}(m3:∀f w' u v x,f 0=.pointer (Y ⟨w.heap.size,0,I⟩)->aK w' w.heap.size 31 (vk u v x)->lZ w' w.heap.size (vk u v x) fR->X w.heap.size w w'->Q .ret (fa 14 f) w'):Ly.wp F fS Q (fa 14 λ_=>D) w:=by
 rw[MQ];refine wp_seq (wF (l:=[0]) rfl ?_);refine oF (d:=0) (w':=w.alloc (aE bI 31)) (.pointer (Y ⟨w.heap.size,0,I⟩)) rfl rfl zz rfl ?_ ?_
 .simp only[VD,fS,Tryz.f13,zE,Hn,ab,zM];unfold aE bI;go_simp;try rfl
 have V:aK (w.alloc (aE bI 31)) w.heap.size 31 bI:=Sp _ _;have S:X w.heap.size w (w.alloc (aE bI 31)):=(X.refl _ _).alloc (dj _) _;generalize w.alloc (aE bI 31)=w1 at V S|-;have c9:ah (λ_=>D) 0 (.pointer (Y ⟨w.heap.size,0,I⟩)) 0=_:=au _ _ _;generalize ah (λ_=>D) 0 (.pointer (Y ⟨w.heap.size,0,I⟩))=b0 at c9|-;refine wp_seq (wF (l:=[0,1,2,3,4,5,6,7,8,9,10,11,12,13]) rfl ?_);refine oC (d:=1) (fn:=23) (args:= #[.int .i64 0,.int .i64 1]) (.agg #[.int .i64 0,.int .i64 1]) rfl rfl zz rfl ?_ (H6 0 1 w1) (λo h2=>?_)
 .simp only[mP,fS,Tryz.f13,zE,Hn,ab,zM];rfl
 have W:aK o w.heap.size 31 bI:=(h2.block _ V.lt).tn V;have c2:X w.heap.size w o:=S.tn (h2.mono S.size);clear h2 V S;have c':ah b0 1 (.agg #[.int .i64 0,.int .i64 1]) 0=_:=nt c9;have e5:ah b0 1 (.agg #[.int .i64 0,.int .i64 1]) 1=_:=au _ _ _;generalize ah b0 1 (.agg #[.int .i64 0,.int .i64 1])=P at c' e5|-;clear c9;refine oF (d:=2) (w':=o) (.agg #[.int .i64 10,.int .i64 12]) rfl rfl zz rfl ?_ ?_
 .exact xbo
 have d5:ah P 2 (.agg #[.int .i64 10,.int .i64 12]) 0=_:=nt c';have e8:ah P 2 (.agg #[.int .i64 10,.int .i64 12]) 1=_:=nt e5;have f7:ah P 2 (.agg #[.int .i64 10,.int .i64 12]) 2=_:=au _ _ _;generalize ah P 2 (.agg #[.int .i64 10,.int .i64 12])=E at d5 e8 f7|-;clear c' e5;refine oF (d:=3) (w':=o) (.agg #[.int .i64 4,.int .i64 8]) rfl rfl zz rfl ?_ ?_
 .exact xbo
 have d6:ah E 3 (.agg #[.int .i64 4,.int .i64 8]) 0=_:=nt d5;have e9:ah E 3 (.agg #[.int .i64 4,.int .i64 8]) 1=_:=nt e8;have f8:ah E 3 (.agg #[.int .i64 4,.int .i64 8]) 2=_:=nt f7;have g6:ah E 3 (.agg #[.int .i64 4,.int .i64 8]) 3=_:=au _ _ _;generalize ah E 3 (.agg #[.int .i64 4,.int .i64 8])=C at d6 e9 f8 g6|-;clear d5 e8 f7;refine oF (d:=4) (w':=o) (.agg #[.int .i64 6,.int .i64 1]) rfl rfl zz rfl ?_ ?_
 .exact xbo
 have d7:ah C 4 (.agg #[.int .i64 6,.int .i64 1]) 0=_:=nt d6;have e':ah C 4 (.agg #[.int .i64 6,.int .i64 1]) 1=_:=nt e9;have f9:ah C 4 (.agg #[.int .i64 6,.int .i64 1]) 2=_:=nt f8;have g7:ah C 4 (.agg #[.int .i64 6,.int .i64 1]) 3=_:=nt g6;have h6:ah C 4 (.agg #[.int .i64 6,.int .i64 1]) 4=_:=au _ _ _;generalize ah C 4 (.agg #[.int .i64 6,.int .i64 1])=B at d7 e' f9 g7 h6|-;clear d6 e9 f8 g6;refine oF (d:=5) (w':=o) (.agg #[.int .i64 0,.int .i64 3]) rfl rfl zz rfl ?_ ?_
 .exact xbo
 have d8:ah B 5 (.agg #[.int .i64 0,.int .i64 3]) 0=_:=nt d7;have e0:ah B 5 (.agg #[.int .i64 0,.int .i64 3]) 1=_:=nt e';have f':ah B 5 (.agg #[.int .i64 0,.int .i64 3]) 2=_:=nt f9;have g8:ah B 5 (.agg #[.int .i64 0,.int .i64 3]) 3=_:=nt g7;have h7:ah B 5 (.agg #[.int .i64 0,.int .i64 3]) 4=_:=nt h6;have i4:ah B 5 (.agg #[.int .i64 0,.int .i64 3]) 5=_:=au _ _ _;generalize ah B 5 (.agg #[.int .i64 0,.int .i64 3])=A at d8 e0 f' g8 h7 i4|-;clear d7 e' f9 g7 h6;refine oF (d:=6) (w':=o) (.agg #[.int .i64 2,.int .i64 1]) rfl rfl zz rfl ?_ ?_
 .exact xbo
 have d9:ah A 6 (.agg #[.int .i64 2,.int .i64 1]) 0=_:=nt d8;have f1:ah A 6 (.agg #[.int .i64 2,.int .i64 1]) 1=_:=nt e0;have f0:ah A 6 (.agg #[.int .i64 2,.int .i64 1]) 2=_:=nt f';have g9:ah A 6 (.agg #[.int .i64 2,.int .i64 1]) 3=_:=nt g8;have b5:ah A 6 (.agg #[.int .i64 2,.int .i64 1]) 4=_:=nt h7;have b6:ah A 6 (.agg #[.int .i64 2,.int .i64 1]) 5=_:=nt i4;have b7:ah A 6 (.agg #[.int .i64 2,.int .i64 1]) 6=_:=au _ _ _;generalize ah A 6 (.agg #[.int .i64 2,.int .i64 1])=r at d9 f1 f0 g9 b5 b6 b7|-;clear d8 e0 f' g8 h7 i4;have a4:(fa 14 r).eval (.tmp 4)=_:=ft b5;have a5:(fa 14 r).eval (.tmp 5)=_:=ft b6;have a6:(fa 14 r).eval (.tmp 6)=_:=ft b7;refine oF (d:=7) (w':=o.alloc (.cells #[.int .i64 6,.int .i64 1,.int .i64 0,.int .i64 3,.int .i64 2,.int .i64 1] 94)) (.slice (Y ⟨o.heap.size,0,I⟩) 3 3) rfl rfl zz rfl ?_ ?_
 .simp only[mP,fS,Tryz.f13,zE,Hn,ab,zM,a4,a5,a6];go_simp
 clear a4 a5 a6;obtain⟨i,c7⟩:∃g,o.heap.size=g:=⟨_,rfl⟩;rw[c7];have L:(o.alloc (.cells #[.int .i64 6,.int .i64 1,.int .i64 0,.int .i64 3,.int .i64 2,.int .i64 1] 94)).heap[i]?=Y (.cells #[.int .i64 6,.int .i64 1,.int .i64 0,.int .i64 3,.int .i64 2,.int .i64 1] 94 (0,0)):=by rw[<- c7];exact Sp _ _
 have G:aK (o.alloc (.cells #[.int .i64 6,.int .i64 1,.int .i64 0,.int .i64 3,.int .i64 2,.int .i64 1] 94)) w.heap.size 31 bI:=(QR _ _ W.lt).tn W;have T:X w.heap.size w (o.alloc (.cells #[.int .i64 6,.int .i64 1,.int .i64 0,.int .i64 3,.int .i64 2,.int .i64 1] 94)):=c2.alloc c2.size _;have n0:w.heap.size<i:=by have:=W.lt;omega
 generalize o.alloc (.cells #[.int .i64 6,.int .i64 1,.int .i64 0,.int .i64 3,.int .i64 2,.int .i64 1] 94)=y at L G T  |-;clear W c2 c7;have d':ah r 7 (.slice (Y ⟨i,0,I⟩) 3 3) 0=_:=nt d9;have f2:ah r 7 (.slice (Y ⟨i,0,I⟩) 3 3) 1=_:=nt f1;have g1:ah r 7 (.slice (Y ⟨i,0,I⟩) 3 3) 2=_:=nt f0;have g':ah r 7 (.slice (Y ⟨i,0,I⟩) 3 3) 3=_:=nt g9;have h8:ah r 7 (.slice (Y ⟨i,0,I⟩) 3 3) 4=_:=nt b5;have i5:ah r 7 (.slice (Y ⟨i,0,I⟩) 3 3) 5=_:=nt b6;have i0:ah r 7 (.slice (Y ⟨i,0,I⟩) 3 3) 6=_:=nt b7;have j5:ah r 7 (.slice (Y ⟨i,0,I⟩) 3 3) 7=_:=au _ _ _;generalize ah r 7 (.slice (Y ⟨i,0,I⟩) 3 3)=t at d' f2 g1 g' h8 i5 i0 j5|-;clear d9 f1 f0 g9 b5 b6 b7;refine oF (d:=8) (w':=y) (.agg #[.int .i64 0,.int .i64 2]) rfl rfl zz rfl ?_ ?_
 .exact xbo
 have d0:ah t 8 (.agg #[.int .i64 0,.int .i64 2]) 0=_:=nt d';have f3:ah t 8 (.agg #[.int .i64 0,.int .i64 2]) 1=_:=nt f2;have g2:ah t 8 (.agg #[.int .i64 0,.int .i64 2]) 2=_:=nt g1;have g0:ah t 8 (.agg #[.int .i64 0,.int .i64 2]) 3=_:=nt g';have h9:ah t 8 (.agg #[.int .i64 0,.int .i64 2]) 4=_:=nt h8;have i6:ah t 8 (.agg #[.int .i64 0,.int .i64 2]) 5=_:=nt i5;have j1:ah t 8 (.agg #[.int .i64 0,.int .i64 2]) 6=_:=nt i0;have j':ah t 8 (.agg #[.int .i64 0,.int .i64 2]) 7=_:=nt j5;have k5:ah t 8 (.agg #[.int .i64 0,.int .i64 2]) 8=_:=au _ _ _;generalize ah t 8 (.agg #[.int .i64 0,.int .i64 2])=s at d0 f3 g2 g0 h9 i6 j1 j' k5|-;clear d' f2 g1 g' h8 i5 i0 j5;refine oF (d:=9) (w':=y) (.agg #[.int .i64 3,.int .i64 4]) rfl rfl zz rfl ?_ ?_
 .exact xbo
 have e1:ah s 9 (.agg #[.int .i64 3,.int .i64 4]) 0=_:=nt d0;have f4:ah s 9 (.agg #[.int .i64 3,.int .i64 4]) 1=_:=nt f3;have g3:ah s 9 (.agg #[.int .i64 3,.int .i64 4]) 2=_:=nt g2;have h1:ah s 9 (.agg #[.int .i64 3,.int .i64 4]) 3=_:=nt g0;have h0:ah s 9 (.agg #[.int .i64 3,.int .i64 4]) 4=_:=nt h9;have i7:ah s 9 (.agg #[.int .i64 3,.int .i64 4]) 5=_:=nt i6;have j2:ah s 9 (.agg #[.int .i64 3,.int .i64 4]) 6=_:=nt j1;have k1:ah s 9 (.agg #[.int .i64 3,.int .i64 4]) 7=_:=nt j';have b9:ah s 9 (.agg #[.int .i64 3,.int .i64 4]) 8=_:=nt k5;have b':ah s 9 (.agg #[.int .i64 3,.int .i64 4]) 9=_:=au _ _ _;generalize ah s 9 (.agg #[.int .i64 3,.int .i64 4])=m at e1 f4 g3 h1 h0 i7 j2 k1 b9 b'|-;clear d0 f3 g2 g0 h9 i6 j1 j' k5;have a8:(fa 14 m).eval (.tmp 8)=_:=ft b9;have a9:(fa 14 m).eval (.tmp 9)=_:=ft b';refine oF (d:=10) (w':=y.alloc (.cells #[.int .i64 0,.int .i64 2,.int .i64 3,.int .i64 4] 96)) (.slice (Y ⟨y.heap.size,0,I⟩) 2 2) rfl rfl zz rfl ?_ ?_
 .simp only[mP,fS,Tryz.f13,zE,Hn,ab,zM,a8,a9];go_simp
 clear a8 a9;obtain⟨e,c5⟩:∃g,y.heap.size=g:=⟨_,rfl⟩;rw[c5];have K:(y.alloc (.cells #[.int .i64 0,.int .i64 2,.int .i64 3,.int .i64 4] 96)).heap[e]?=Y (.cells #[.int .i64 0,.int .i64 2,.int .i64 3,.int .i64 4] 96 (0,0)):=by rw[<- c5];exact Sp _ _
 have J:aK (y.alloc (.cells #[.int .i64 0,.int .i64 2,.int .i64 3,.int .i64 4] 96)) w.heap.size 31 bI:=(QR _ _ G.lt).tn G;have U:X w.heap.size w (y.alloc (.cells #[.int .i64 0,.int .i64 2,.int .i64 3,.int .i64 4] 96)):=T.alloc T.size _;have n9:w.heap.size<e:=by have:=G.lt;omega
 have N:=(QR y (.cells #[.int .i64 0,.int .i64 2,.int .i64 3,.int .i64 4] 96) (du.1 L).1).tn L;have o2:i<e:=by have:=(du.1 L).1;omega
 generalize y.alloc (.cells #[.int .i64 0,.int .i64 2,.int .i64 3,.int .i64 4] 96)=z at K J U N|-;clear G T c5 L;have d1:ah m 10 (.slice (Y ⟨e,0,I⟩) 2 2) 0=_:=nt e1;have e6:ah m 10 (.slice (Y ⟨e,0,I⟩) 2 2) 1=_:=nt f4;have f5:ah m 10 (.slice (Y ⟨e,0,I⟩) 2 2) 2=_:=nt g3;have g4:ah m 10 (.slice (Y ⟨e,0,I⟩) 2 2) 3=_:=nt h1;have h3:ah m 10 (.slice (Y ⟨e,0,I⟩) 2 2) 4=_:=nt h0;have i1:ah m 10 (.slice (Y ⟨e,0,I⟩) 2 2) 5=_:=nt i7;have i8:ah m 10 (.slice (Y ⟨e,0,I⟩) 2 2) 6=_:=nt j2;have j3:ah m 10 (.slice (Y ⟨e,0,I⟩) 2 2) 7=_:=nt k1;have k2:ah m 10 (.slice (Y ⟨e,0,I⟩) 2 2) 8=_:=nt b9;have k6:ah m 10 (.slice (Y ⟨e,0,I⟩) 2 2) 9=_:=nt b';have e2:ah m 10 (.slice (Y ⟨e,0,I⟩) 2 2) 10=_:=au _ _ _;generalize ah m 10 (.slice (Y ⟨e,0,I⟩) 2 2)=q at d1 e6 f5 g4 h3 i1 i8 j3 k2 k6 e2|-;clear e1 f4 g3 h1 h0 i7 j2 k1 b9 b';refine oF (d:=11) (w':=z) (.agg #[.int .i64 0,.int .i64 3,.bool false]) rfl rfl zz rfl ?_ ?_
 .exact xbo
 have d2:ah q 11 (.agg #[.int .i64 0,.int .i64 3,.bool false]) 0=_:=nt d1;have e7:ah q 11 (.agg #[.int .i64 0,.int .i64 3,.bool false]) 1=_:=nt e6;have f6:ah q 11 (.agg #[.int .i64 0,.int .i64 3,.bool false]) 2=_:=nt f5;have g5:ah q 11 (.agg #[.int .i64 0,.int .i64 3,.bool false]) 3=_:=nt g4;have h4:ah q 11 (.agg #[.int .i64 0,.int .i64 3,.bool false]) 4=_:=nt h3;have i2:ah q 11 (.agg #[.int .i64 0,.int .i64 3,.bool false]) 5=_:=nt i1;have i9:ah q 11 (.agg #[.int .i64 0,.int .i64 3,.bool false]) 6=_:=nt i8;have j4:ah q 11 (.agg #[.int .i64 0,.int .i64 3,.bool false]) 7=_:=nt j3;have k3:ah q 11 (.agg #[.int .i64 0,.int .i64 3,.bool false]) 8=_:=nt k2;have k7:ah q 11 (.agg #[.int .i64 0,.int .i64 3,.bool false]) 9=_:=nt k6;have e3:ah q 11 (.agg #[.int .i64 0,.int .i64 3,.bool false]) 10=_:=nt e2;have a':ah q 11 (.agg #[.int .i64 0,.int .i64 3,.bool false]) 11=_:=au _ _ _;generalize ah q 11 (.agg #[.int .i64 0,.int .i64 3,.bool false])=k at d2 e7 f6 g5 h4 i2 i9 j4 k3 k7 e3 a'|-;clear d1 e6 f5 g4 h3 i1 i8 j3 k2 k6 e2;have k':(fa 14 k).eval (.tmp 11)=_:=ft a';refine oF (d:=12) (w':=z.alloc (.cells #[.int .i64 0,.int .i64 3,.bool false] 72)) (.slice (Y ⟨z.heap.size,0,I⟩) 1 1) rfl rfl zz rfl ?_ ?_
 .simp only[mP,fS,Tryz.f13,zE,Hn,ab,zM,k'];go_simp
 clear k';obtain⟨c,c6⟩:∃g,z.heap.size=g:=⟨_,rfl⟩;rw[c6];have l2:(z.alloc (.cells #[.int .i64 0,.int .i64 3,.bool false] 72)).heap[c]?=Y (.cells #[.int .i64 0,.int .i64 3,.bool false] 72 (0,0)):=by rw[<- c6];exact Sp _ _
 have c4:aK (z.alloc (.cells #[.int .i64 0,.int .i64 3,.bool false] 72)) w.heap.size 31 bI:=(QR _ _ J.lt).tn J;have c3:X w.heap.size w (z.alloc (.cells #[.int .i64 0,.int .i64 3,.bool false] 72)):=U.alloc U.size _;have n':w.heap.size<c:=by have:=J.lt;omega
 have l3:=(QR z (.cells #[.int .i64 0,.int .i64 3,.bool false] 72) (du.1 N).1).tn N;have o3:i<c:=by have:=(du.1 N).1;omega
 have l1:=(QR z (.cells #[.int .i64 0,.int .i64 3,.bool false] 72) (du.1 K).1).tn K;have o1:e<c:=by have:=(du.1 K).1;omega
 generalize z.alloc (.cells #[.int .i64 0,.int .i64 3,.bool false] 72)=w5 at l2 c4 c3 l3 l1|-;clear J U c6 N K;have d3:ah k 12 (.slice (Y ⟨c,0,I⟩) 1 1) 0=_:=nt d2;have b2:ah k 12 (.slice (Y ⟨c,0,I⟩) 1 1) 1=_:=nt e7;have b3:ah k 12 (.slice (Y ⟨c,0,I⟩) 1 1) 2=_:=nt f6;have b4:ah k 12 (.slice (Y ⟨c,0,I⟩) 1 1) 3=_:=nt g5;have h5:ah k 12 (.slice (Y ⟨c,0,I⟩) 1 1) 4=_:=nt h4;have i3:ah k 12 (.slice (Y ⟨c,0,I⟩) 1 1) 5=_:=nt i2;have i':ah k 12 (.slice (Y ⟨c,0,I⟩) 1 1) 6=_:=nt i9;have b8:ah k 12 (.slice (Y ⟨c,0,I⟩) 1 1) 7=_:=nt j4;have k4:ah k 12 (.slice (Y ⟨c,0,I⟩) 1 1) 8=_:=nt k3;have k8:ah k 12 (.slice (Y ⟨c,0,I⟩) 1 1) 9=_:=nt k7;have Z:ah k 12 (.slice (Y ⟨c,0,I⟩) 1 1) 10=_:=nt e3;have e4:ah k 12 (.slice (Y ⟨c,0,I⟩) 1 1) 11=_:=nt a';have b1:ah k 12 (.slice (Y ⟨c,0,I⟩) 1 1) 12=_:=au _ _ _;generalize ah k 12 (.slice (Y ⟨c,0,I⟩) 1 1)=j at d3 b2 b3 b4 h5 i3 i' b8 k4 k8 Z e4 b1|-;clear d2 e7 f6 g5 h4 i2 i9 j4 k3 k7 e3 a';have a1:(fa 14 j).eval (.tmp 1)=_:=ft b2;have a2:(fa 14 j).eval (.tmp 2)=_:=ft b3;have a3:(fa 14 j).eval (.tmp 3)=_:=ft b4;have a7:(fa 14 j).eval (.tmp 7)=_:=ft b8;have k9:(fa 14 j).eval (.tmp 10)=_:=ft Z;have k0:(fa 14 j).eval (.tmp 12)=_:=ft b1;refine oF (d:=13) (w':=w5) ((vk i e c).v) rfl rfl zz rfl ?_ ?_
 .simp only[mP,fS,Tryz.f13,zE,Hn,ab,zM,a1,a2,a3,a7,k9,k0];go_simp;rfl
 clear a1 a2 a3 a7 k9 k0;have d4:ah j 13 ((vk i e c).v) 0=_:=nt d3;have m0:ah j 13 ((vk i e c).v) 1=_:=nt b2;have n1:ah j 13 ((vk i e c).v) 2=_:=nt b3;have n2:ah j 13 ((vk i e c).v) 3=_:=nt b4;have n3:ah j 13 ((vk i e c).v) 4=_:=nt h5;have n4:ah j 13 ((vk i e c).v) 5=_:=nt i3;have n5:ah j 13 ((vk i e c).v) 6=_:=nt i';have n6:ah j 13 ((vk i e c).v) 7=_:=nt b8;have n7:ah j 13 ((vk i e c).v) 8=_:=nt k4;have n8:ah j 13 ((vk i e c).v) 9=_:=nt k8;have m6:ah j 13 ((vk i e c).v) 10=_:=nt Z;have m7:ah j 13 ((vk i e c).v) 11=_:=nt e4;have m':ah j 13 ((vk i e c).v) 12=_:=nt b1;have l':ah j 13 ((vk i e c).v) 13=_:=au _ _ _;generalize ah j 13 ((vk i e c).v)=c1 at d4 m0 n1 n2 n3 n4 n5 n6 n7 n8 m6 m7 m' l'|-;clear d3 b2 b3 b4 h5 i3 i' b8 k4 k8 Z e4 b1;have a0:(fa 14 c1).eval (.tmp 0)=_:=ft d4;have l0:(fa 14 c1).eval (.tmp 13)=_:=ft l';obtain⟨l4,O,-⟩:=pq (vk i e c) c4;refine oS rfl rfl rfl (rJ rfl a0 l0 c4).1 ?_;generalize uq w.heap.size (vk i e c) w5=w6 at l4 O|-;refine wp_ret ?_;have i:=O.get zz l3;have m1:=O.get zz l1;have m2:=O.get zz l2;have c8:∀n:Nat,n<=3->n<=maxLen:=λn m5=>ec m5 dd;exact m3 c1 w6 _ _ _ d4 l4 ⟨rfl,rfl,rfl,rfl,by decide,by decide,by decide,by decide,⟨rfl,.inl ⟨rfl,rfl⟩⟩,
  ⟨rfl,.inr ⟨_,_,_,rfl,zz,i,dj _,c8 _ (dj 3),rfl,rfl⟩⟩,
  ⟨rfl,.inr ⟨_,_,_,rfl,zz,m1,dj _,c8 _ (by show(2:Nat)<=3;decide),rfl,rfl⟩⟩,
  ⟨rfl,.inr ⟨_,_,_,rfl,zz,m2,dj _,c8 _ (by show(1:Nat)<=3;decide),rfl,rfl⟩⟩,
  λa R h _=>(by cases h),λa R h _=>(by cases h),λa R h _=>(by cases h),λa R h h'=>by cases h;cases h';assumption,λa R h h'=>by cases h;cases h';assumption⟩
  (c3.tn (O.below c3.size λb m4=>Nat.ne_of_lt m4))
theorem E9(w:H):PH F 13 #[] w λe w'=>∃u v x,e=.returned (vk u v x).v/\lZ w' w.heap.size (vk u v x) fR/\X w.heap.size w w':=by
 refine calls_of_wp Tryz.func13 (c:=fS) rfl ?_;show Ly.wp F fS _ ⟨#[]++Array.replicate 14 D,[]⟩ w;rw[iu (A:= #[]) (k:=14) (n:=14) rfl];refine Ip w λf w' u v x a b g d=>?_;obtain⟨h,i,o,p,q,r,s,t,y,z,j,l,m⟩:=aM b;refine bd (v:=(vk u v x).v) ?_ rfl ⟨u,v,x,rfl,g,d⟩;have e0:(fa 14 f).tmps[0]?=Y (.pointer (Y ⟨w.heap.size,0,I⟩)):=by rw[ej zz,a]
 clear a;unfold results Tryz.f13 aC.v;go_simp
end Go.Proofs.YtimmnfbjckbneaaGreatDoor
