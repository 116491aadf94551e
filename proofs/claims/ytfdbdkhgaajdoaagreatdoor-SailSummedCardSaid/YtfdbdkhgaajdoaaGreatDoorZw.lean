/- SailSummed holds of the given program, for every input, with no condition: what is told of steps and of hours is told alike, and the law's function hands out true. -/
import Derived.Test.YtfdbdkhgaajdoaaGreatDoorZv
import Derived.Test.YtfdbdkhgaajdoaaGreatDoorRows
import Derived.ProofKit
import Derived.LaidMore
import Derived.Conc.LeavingOf
import Derived.Deep.SlicePairs
import Derived.Deep.Slices
import Derived.Deep.Strs
import Derived.OpenShut
import Derived.Conc.Holds
import Derived.Stop.Joined
import Derived.Test.YtfdbdkhgaajdoaaGreatDoorTie
import Derived.Test.YtfdbdkhgaajdoaaGreatDoorCards
import Derived.SevenTiedAt
set_option maxRecDepth 100000
set_option maxHeartbeats 4000000
set_option linter.all false
noncomputable section
open Go renaming World->Cl,undef->D,World->H,execOp->Hn,Frame->Kf,Oper->Kp,TypeId->Lk,stepG->Lq,Code->Ly,Value->M,Calls->PH,Program->Ps,Goroutine->QP,heap_alloc_old->QR,heap_alloc_new->Sp,resolve->ab,Operand->ae,MemOp->al,yielded->aw,FuncId->ba
open Go.Proofs.Tryz renaming prog->F,prog->Hb
open Go.RowKit renaming Below->Hd,Below->X
open Option renaming none->I,some->Y
namespace Go
def pD{p:Prop}(h:p:=by
 first|have _:=ø;(rcases hp h with c|⟨a,J,r,n,K,L,S,T,U,V,c,a3,G⟩)|have _:=å;(rcases open_slice Tryz.underlying29 h with⟨c,-⟩|⟨a,J,r,m,n,D,a5,c, -, a3, -, Q, -, G⟩)|(rcases open_slice1 Tryz.underlying24 kr h with⟨c,-⟩|⟨a,J,r,m,n,b1,D,a5,c, -, a3, -, Q, -, G⟩)
 .simp only[np,lL,and_true]at c;exact⟨[],⟨c.2.1,qT _,qT _,λh=>mi h (dj 0)⟩,J9 g λa u=>by rw[c.1]at u;cases u⟩
 .simp only[np,lL,and_true]at c;obtain⟨O,rfl,rfl⟩:=c;obtain⟨w,P, -,-⟩:=g a O
  first
  |have _:=ø
   have f:∀i,i<s.n->∃z d:Int,W (a.block,a.off+i*2)=Y (.int .i64 z)/\W (a.block,a.off+i*2+1)=Y (.int .i64 d):=λi hi=>by
    obtain⟨h2,a1,y,a6⟩:=G i zz;obtain⟨z,A, -,-⟩:=DataW.trod_int Tryz.underlying3 y;obtain⟨d,a2, -,-⟩:=DataW.trod_int Tryz.underlying3 a6;simp only[np,and_true]at A a2;rw[xe w,A]at h2;rw[xe w,a2]at a1;exact⟨z,d,h2,a1⟩
   refine⟨(List.range s.n).map λi=>(Fh (W.cell? ⟨a.block,a.off+i*2,I⟩),Fh (W.cell? ⟨a.block,a.off+i*2+1,I⟩)),⟨by simp,by simpa using E,by simp;omega,λ_=>⟨a.block,a.off,?_,tA.1 P,λk hk=>?_⟩⟩,J9 g λN u j C=>?_⟩
  |have _:=æ
   simp only[if_true]at Q;have f:∀i,i<s.n->∃z:Int,W (a.block,a.off+i)=Y (.int .i64 z):=λi hi=>by
    obtain⟨h2,y⟩:=G i zz;obtain⟨z,A, -,-⟩:=DataW.trod_int Tryz.underlying3 y;simp only[np,and_true]at A;rw[xe w,A]at h2;exact⟨z,h2⟩
   refine⟨(List.range s.n).map λi=>Fh (W.cell? ⟨a.block,a.off+i,I⟩),⟨by simp,by simpa using E,by simp;omega,λ_=>⟨a.block,a.off,?_,tA.1 P,λk hk=>?_⟩⟩,J9 g λN u j C=>?_⟩
  |simp only[if_true]at Q
   have a9:F.cellsOf 74=3:=by kernel_rfl
   have a7:F.cellsOf 3=1:=by kernel_rfl
   have a8:F.cellsOf 4=1:=by kernel_rfl
   have f:∀i,i<s.n->∃(z d:Int) (q:Bool),W (a.block,a.off+i*3)=Y (.int .i64 z)/\W (a.block,a.off+i*3+1)=Y (.int .i64 d)/\W (a.block,a.off+i*3+2)=Y (.bool q):=λi hi=>by
    obtain⟨dp,h2,y⟩:=G i zz;rw[a9]at h2;obtain⟨-, a0,B⟩:=Cl.cells?_some h2;obtain⟨y0,y1,y2,k, -, -, Z,g1,g2⟩:=trod_struct3 Tryz.underlying74 y
    match dp,a0,B with
    | [c0,c1,c2],_,B=>
     simp only[a7,a8,List.drop_zero,List.drop_succ_cons,List.take_succ_cons,List.take_zero]at Z g1 g2;obtain⟨z0,q0, -,-⟩:=DataW.trod_int Tryz.underlying3 Z;obtain⟨z1,q1, -,-⟩:=DataW.trod_int Tryz.underlying3 g1;obtain⟨z2,q2,-⟩:=DataW.trod_bool Tryz.underlying4 g2;simp only[np,and_true]at q0 q1 q2;subst q0 q1 q2;have k0:=B 0 zz;have k1:=B 1 zz;have k2:=B 2 zz;rw[xe w]at k0 k1 k2;exact⟨z0,z1,z2,k0,k1,k2⟩
   refine⟨(List.range s.n).map λi=>(Fh (W.cell? ⟨a.block,a.off+i*3,I⟩),Fh (W.cell? ⟨a.block,a.off+i*3+1,I⟩),VW (W.cell? ⟨a.block,a.off+i*3+2,I⟩)),⟨by simp,by simpa using E,by simp;omega,λ_=>⟨a.block,a.off,?_,tA.1 P,λk hk=>?_⟩⟩,J9 g λN u j C=>?_⟩
  .rw[O];obtain⟨b2,b3,b4⟩:=a;simp only at w;rw[w]
  .have v:k<s.n:=by simpa using hk
   first|have _:=ø;obtain⟨z,d,b,o⟩:=f k v;simp[List.getD,v,b,o,Fh]|have _:=å;obtain⟨z,d,q,b,o,R⟩:=f k v;simp[List.getD,v,b,o,R,Fh,VW]|obtain⟨z,b⟩:=f k v;simp[List.getD,v,b,Fh]
  .obtain rfl:a=N:=km (O.symm.tn u)
   first
   |have _:=æ
    obtain⟨z,b⟩:=f j (by simpa using C);exact⟨_,b,cR _ _⟩
   |have _:=ø
    have a':j<s.n*2:=by simpa using C
    obtain⟨z,d,b,o⟩:=f (j/2) zz;rcases(show j=j/2*2\/j=j/2*2+1 from zz)with e|e
    .rw[e];exact⟨_,b,cR _ _⟩
    .rw[e];exact⟨_,o,cR _ _⟩
   |have a':j<s.n*3:=by simpa using C
    obtain⟨z,d,q,b,o,R⟩:=f (j/3) zz;rcases(show j=j/3*3\/j=j/3*3+1\/j=j/3*3+2 from zz)with e|e|e
    .rw[e];exact⟨_,b,cR _ _⟩
    .rw[e];exact⟨_,o,cR _ _⟩
    .rw[e];exact⟨_,R,sN _⟩):p:=h
def bN{p:Prop}(h:p:=by
 refine WalkE.pv _ g e c j hk (λbj=>?_) (λbj=>?_) next
 .unfold Hn;first|have _:=ø;simp only[a,hx,hy];go_simp|have _:=å;simp only[a,hx,hy];kernel_rfl|simp only[a,zM];go_simp
 .unfold Hn;first|have _:=æ;simp only[a,zM]|simp only[a,hx,hy]
  kernel_rfl):p:=h
def cN{p:Prop}(h:p:=by
 have hk:=Ca 3;refine WalkE.reg rfl ?_;refine wss ?_;exact WalkE.aT (next _ (λi hi=>QA) rfl)):p:=h
def m8{p:Prop}(h:p:=by
 first|have _:=ø;refine WalkE.Uv false rfl rfl rfl pL pL (bne_eq_false_iff_eq.2 o) rfl zz (az rfl rfl zz rfl) hk ?_;refine wss ?_;refine WalkE.Uv true rfl rfl rfl pL pL (nd.2 (J o)) rfl zz (az rfl rfl zz rfl) hk ?_;refine WalkE.cj (a:=false) (.bool true) rfl rfl pL ((if_neg Bool.false_ne_true).trans pL) rfl zz (az rfl rfl zz rfl) hk ?_|refine WalkE.Uv true rfl rfl rfl pL pL (bne_iff_ne.2 o) rfl zz (az rfl rfl zz rfl) hk ?_;refine wss ?_;refine WalkE.Ut rfl rfl zz (IB rfl rfl zz rfl) ?_;refine WalkE.Ut rfl rfl zz (IB rfl rfl zz rfl) ?_;refine WalkE.Ut rfl rfl zz (IB rfl rfl zz rfl) ?_;refine WalkE.Ut rfl rfl zz (IB rfl rfl zz rfl) ?_;refine WalkE.cj (a:=true) (.bool true) rfl rfl pL ((if_pos rfl).trans pL) rfl zz (az rfl rfl zz rfl) hk ?_
 exact R _ (λi hi=>(show _=f' i from QA).tn (k i hi)) pL rfl):p:=h
def wZ{p:Prop}(h:p:=by
 first|have _:=ø;refine WalkE.value v r u hk (λbj a=>?_) (λbj a e c=>?_) (by rw[q,cw m];exact next)|have z:=λbj (a:aH V w bj)=>Ml λi x hi=>bu a l (h i x hi);refine WalkE.value bk.v r u hk (λbj a=>?_) (λbj a e c=>?_) (by rw[q,cw m];exact next)
 .unfold Hn;simp only[s,y];first|have _:=å;simp[(z bj a).1]|have:=(h1 bj ad v (bu a l hc)).1;simp[this]
 .unfold Hn at c;simp only[s,y]at c;first|have _:=ø;have h2:=(h1 bj ad v (bu a l hc));simp[h2.1,h2.2]at c;subst c|have h2:=z bj a;simp[h2.1]at c;obtain⟨j,rfl⟩:=h2.2 e c
  exact⟨rfl,l,λh=>by cases h⟩):p:=h
def oO{p:Prop}(h:p:=by
 rcases iq k h with⟨j,h2⟩|⟨j,h2,l⟩
 first
 |have _:=ø
  .exact a.vv _ (d.see c c' s h2)
 |·omega
 .cases l;obtain rfl:c=N:=zz;rw[Nat.sub_self];first|have _:=ø;exact B|exact⟨A,t⟩):p:=h
def Z2{p:Prop}(h:p:=by
 generalize(fa n f).tmps=A at e;unfold results;simp[d,e]):p:=h
end Go
namespace Go.Proofs.YtfdbdkhgaajdoaaGreatDoor
open Go.RowKit Go.Co Go.Conc
variable{κ:Nat->Kd}{Z:Ren}{a a':M}{V V' O:Nat->Prop}{w bj:H}{e0:Lk}{l:pK}{s:Sl}{sh:Int}{main:Bool}{Stop:(Nat->Prop)->(Nat->Prop)->QP->H->Prop}{k:List Item}{cs:List Kf}{ops:Array Kp}{i n:Nat}{rest:List Nat}{o:Kp}{f:Nat->M}{fn:ba}{xs:Array ae}{ts:Array Lk}{args eQ:Array M}{bk:aC}{ds:List Int}
section
variable{b:aC}{d:List Int}
def uD.bH{bm bo:Nat->Prop}(h:uD V w b l s d)(a:dU V O w bm bo bj):uD bm bj b l s d:=h.mono a.vv a.rely.keep
end
section
variable{b:Kf}{n d:Nat}
def cr.Vf{R:M->H->Prop}(g:cr V O w)(C:uD V w bk l s ds)(q:ops[i]?=Y o)(r:o.op=.call {callee:=.value (.func fn),args:=xs,argTypes:=ts})(m:xs.map (fa n f).eval=eQ)(A:o.dst=Y d)(z:d<n)(J:Region.wanted o (aw ops (fa n f).tmps)=true)(hk:b.kind≠.early)
  (p:∀w,(callFunc fn eQ).run F w=.ok (.enter fn eQ) w/\(callFunc fn eQ).events F w #[]= #[])(B:TA.has fn=true)(G:TA.ret fn=.val)(y:∀e0 (hB:Base TA V w e0),KR (TA.kind fn) (Bj hB (mA bk l s ds)) args eQ)
  (hc:∀e0 (_:Base TA V w e0) L,PH F fn args (tp (wK TA V e0 w (mA bk l s ds)) L w.drawn) λe W=>∃v,e=.returned v/\R v W)
  (next:∀e0 (hB:Base TA V w e0) Z v W v' bj a c,R v W->VR Z v v'->ir TA F (w.heap.size+(mA bk l s ds).length) V O w (Bj hB (mA bk l s ds)) Z W bj a c->cr a c bj->dU V O w a c bj->WO main Stop a c b n (ah f d v') ops rest k cs bj):WO main Stop V O b n f ops (i::rest) k cs w:=by
 obtain⟨e0,hB⟩:=g.base;refine WalkE.enter q J hk (λbj=>(kJ r m rfl p).1) (λbj=>(kJ r m rfl p).2) ?_;refine NU (T:=TA) (I1 .skip) B (Sc (C.ok hB) g.cX) rfl (y e0 hB) (hc e0 hB) (λe W h=>⟨h.choose,h.choose_spec.1⟩) (λZ K u v' bj a c E t j=>?_);obtain⟨v,e1,x⟩:=E;cases e1;rw[G]at t;rw[Kf.finish_at];rw[show(ops[i]?).bind (·.dst)=Y d by rw[q];exact A,cw z];exact next e0 hB Z K u v' bj a c x t j (g.bH j.bH) j.bH
def cr.qL{v:M}(j:cr V O w)(B:uD V w bk l s ds)(C:ops[i]?=Y o)(E:o.op=.call {callee:=.value (.func fn),args:=xs,argTypes:=ts})(q:xs.map (fa n f).eval=eQ)(y:o.dst=Y d)(x:d<n)(L:Region.wanted o (aw ops (fa n f).tmps)=true)(hk:b.kind≠.early)
  (t:∀w,(callFunc fn eQ).run F w=.ok (.enter fn eQ) w/\(callFunc fn eQ).events F w #[]= #[])(z:TA.has fn=true)(G:TA.ret fn=.val)(r:∀e0 (hB:Base TA V w e0),KR (TA.kind fn) (Bj hB (mA bk l s ds)) args eQ)
  (J:eR v)(hc:∀e0 (_:Base TA V w e0) g,PH F fn args (tp (wK TA V e0 w (mA bk l s ds)) g w.drawn) λe _=>e=.returned v)
  (next:∀bj a c,cr a c bj->dU V O w a c bj->WO main Stop a c b n (ah f d v) ops rest k cs bj):WO main Stop V O b n f ops (i::rest) k cs w:=
 j.Vf B (R:=λu _=>u=v) C E q y x L hk t z G r (λe0 hB g=>(hc e0 hB g).mono λe W h=>⟨v,h,rfl⟩) λe0 hB Z u W v' bj a c p K N m A=>by
  subst p;rw[J Z v' K];exact next bj a c m A
def vg(d:dM Z (κ 0) a a'):KR κ Z #[a] #[a']:=⟨rfl,λi x y b c=>by
 match i,b,c with
 | 0,b,c=>cases b;cases c;exact d⟩
def XM{a b c a' b' c':M}(f:dM Z (κ 0) a a')(g:dM Z (κ 1) b b')(h2:dM Z (κ 2) c c'):KR κ Z #[a,b,c] #[a',b',c']:=⟨rfl,λi x y d e=>by
 match i,d,e with
 | 0,d,e=>cases d;cases e;exact f
 | 1,d,e=>cases d;cases e;exact g
 | 2,d,e=>cases d;cases e;exact h2⟩
end
variable{g d d0 d1:Nat}{x:ae}{bm bo:Nat->Prop}{o0 o1:Kp}
section
variable{b:Kf}
def IB{j g:Nat}{t:Bool}(b:o.guard=Y (j,t))(c:(ops[j]?).bind (·.dst)=Y g)(d:g<n)(a:f g=.bool (!t)):Region.wanted o (aw ops (fa n f).tmps)=false:=jc b c d a
def WalkE.Ut(e:ops[i]?=Y o)(c:o.dst=Y d)(a:d<n)(g:Region.wanted o (aw ops (fa n f).tmps)=false)
  (next:WO main Stop V O b n (ah f d D) ops rest k cs w):WO main Stop V O b n f ops (i::rest) k cs w:=
 WalkE.ctl (λ_=>stepG_unwanted e g) (by rw[c,cw a];exact next)
def WalkE.pJ{t:Lk}(ad:Addr)(v:M)(h1:OneCell F t)(r:ops[i]?=Y o)(s:o.op=.load t x)(y:(fa n f).eval x=.pointer (Y ad))(l:V ad.block)(hc:w.cell? ad=Y v)(q:o.dst=Y d)(m:d<n)(u:Region.wanted o (aw ops (fa n f).tmps)=true)(hk:b.kind≠.early)
  (next:WO main Stop V O b n (ah f d v) ops rest k cs w):WO main Stop V O b n f ops (i::rest) k cs w:=by
 have ø:=0;exact wZ
theorem Rl{bk:aC}(b:o.op=.box 31 x)(a:(fa n f).eval x=bk.v):(Hn (fa n f).eval o).events F w #[]= #[]:=by
 unfold aC.v at a;unfold Hn;simp only[b,a];simp[go_sem]
end
def Nk(V:Nat->Prop)(w:H)(s:Sl):Prop:=cM TA V w s 0
structure Um(V:Nat->Prop)(w:H)(b:aC):Prop where
 C:Nk V w b.C
 U:Nk V w b.U
 E:Nk V w b.E
 W:Nk V w b.W
section
variable{b:aC}
def Um.mono(h:Um V w b)(a:∀x,V x->V' x)(hk:∀x,V x->bj.heap[x]?=w.heap[x]?):Um V' bj b:=⟨cM.mono h.C a hk,cM.mono h.U a hk,cM.mono h.E a hk,cM.mono h.W a hk⟩
def Um.vr(h:Um V w b){hB:Base TA V w e0}:VR (gr hB) b.v b.v:=by
 have c:VR (gr hB) (.slice b.C.A b.C.n b.C.c) (.slice b.C.A b.C.n b.C.c):=jg (cM.flat h.C);have f:VR (gr hB) (.slice b.U.A b.U.n b.U.c) (.slice b.U.A b.U.n b.U.c):=jg (cM.flat h.U);have d:VR (gr hB) (.slice b.E.A b.E.n b.E.c) (.slice b.E.A b.E.n b.E.c):=jg (cM.flat h.E);have g:VR (gr hB) (.slice b.W.A b.W.n b.W.c) (.slice b.W.A b.W.n b.W.c):=jg (cM.flat h.W);refine .agg rfl λi x y a j=>?_;have e:Y x=Y y:=a.symm.tn j;cases e
 match i,a with
 | 0,a=>cases a;exact .int _ _
 | 1,a=>cases a;exact .int _ _
 | 2,a=>cases a;exact .int _ _
 | 3,a=>cases a;exact .int _ _
 | 4,a=>cases a;exact .int _ _
 | 5,a=>cases a;exact c
 | 6,a=>cases a;exact .int _ _
 | 7,a=>cases a;exact .int _ _
 | 8,a=>cases a;exact .int _ _
 | 9,a=>cases a;exact .int _ _
 | 10,a=>cases a;exact f
 | 11,a=>cases a;exact d
 | 12,a=>cases a;exact g
end
def Uo{w:H}{b:aC}(h:aK w g 31 b):∀i v,(wE b)[i]?=Y v->w.cell? ⟨g,i,I⟩=Y v:=λi v a=>by
 unfold H.cell?;rw[h];exact a
section
variable{b:Kf}
end
variable{b:Kf}
structure Fg(V O:Nat->Prop)(w:H)(g:Nat)(b:aC):Prop where
 co:cr V O w
 gV:V g
 box:∀(i:Nat) v,(wE b)[i]?=Y v->w (g,i)=Y v
def Fg.bH{V O bm bo:Nat->Prop}{w bj:H}{g:Nat}{b:aC}(h:Fg V O w g b)(a:dU V O w bm bo bj):Fg bm bo bj g b:=
 ⟨h.co.bH a,a.vv _ h.gV,λi v c=>aV (a.rely.keep _ h.gV) (h.box i v c)⟩
def qS(V:Nat->Prop)(w:H)(b:aC)(l:pK):Prop:=uD V w b l iy []
def B9(w:H):eC w iy []:=⟨rfl,qN _,qT _,λh=>mi h (dj 0)⟩
def Gx(V:Nat->Prop)(w:H)(m:Nat):jb V w iy m:=λa b=>by cases b
section
variable{fn n r:Nat}{F:Func}
section
variable{main:Bool}{Stop:(Nat->Prop)->(Nat->Prop)->QP->H->Prop}{V O:Nat->Prop}{w:H}{b:Kf}{K:List Item}{cs:List Kf}{ops:Array Kp}{n:Nat}{f:Nat->M}{rest:List Nat}
end
def XX(fn n r:Nat)(g:QP):Prop:=∃f k,g=G { (bs .normal fn).at (fa n f) k with mode:=.returning} []/\f r=.bool true
def Tx(hF:Hb.funcs[fn]?=Y F)(d:F.results= #[.tmp r])(i:r<n)(g:2≠fn){f:Nat->M}{k:List Item}(h:f r=.bool true)(w:H):Lq Hb true (G { (bs .normal fn).at (fa n f) k with mode:=.returning} []) w=.ended (.done (.bool true)) w #[]:=by
 have e:(fa n f).tmps[r]?=Y (.bool true):=by rw[ej i,h]
 have b:(results F (fa n f).tmps).run Hb w=.ok (.bool true) w:=by
  exact Z2
 have h2:(results F (fa n f).tmps).events Hb w #[]= #[]:=by
  exact Z2
 have c:(fa n f).defers=[]:=rfl;generalize fa n f=a at b h2 c|-;simp[c,G,Lq,unwind,doReturn,Kf.at,bs,hF,b,h2,seen,GStep.after,g];done
def Ie(fn n r:Nat)(c0:Kf):Prop:=∀(a c:Nat->Prop) (b:H),WalkE Hb true (λd _ e f=>XX fn n r e/\(∀x,a x->d x)/\aH a b f) a c (G (c0.finish (.bool true)) []) b
def MO(fn n r:Nat)(V:Nat->Prop)(w:H)(V' a:Nat->Prop)(g':QP)(w':H):Prop:=
 ∃c0,g'=G (Kf.enter Hb 5 #[] .normal) [c0]/\cr V' a w'/\(∀x,V x->V' x)/\aH V w w'/\Ie fn n r c0
def QB(hF:Hb.funcs[fn]?=Y F)(t:F.results= #[.tmp r])(A:r<n)(y:2≠fn){post:M->H->Prop}{J:Gh}{w w0:H}{V0:Nat->Prop}{fr:Kf}{cs:List Kf}(o:Main J w)
  (walk:WalkE Hb true (MO fn n r V0 w0) (J.V 0) (J.O 0) (G fr cs) w)
  (v:∀w',aH V0 w0 w'->post (.bool true) w'):aQ fI Hb post (G fr cs) J w:=by
 refine aQ.walk walk (λ_=>il) (λ_=>il) (λi P S V σ1 a d s hk=>?_);obtain⟨c0,rfl,l,e,B,m⟩:=a;have p:=l.main o hk d s;obtain rfl:i=σ1.V 0:=funext λb=>propext (d b).symm;refine Rj p λσ2 O q L C=>?_;refine aQ.walk (m (σ2.V 0) (σ2.O 0) O) (λ_=>il) (λ_=>il) (λR Q T W Z a u U z=>?_);obtain⟨⟨f,k,rfl,j⟩,N,E⟩:=a;refine aQ.Zi (z.md.tn q.idle.md) λh K=>⟨_,Tx hF t A y j h,v h ?_⟩;have g:∀x,V0 x->σ2.V 0 x:=λx c=>L x (e x c);exact((B.tn (C.mono e)).tn (E.mono g)).tn (K.mono λx c=>(u x).2 (N x (g x c)))
end
def aaL{T:gq}{V0 O0 V O:Nat->Prop}{w0 w:H}{N:Nat}{ρ0:Ren}{W0:H}{g:Nat}{b b3:aC}(d:ir T F N V0 O0 w0 ρ0 ρ0 W0 w0 V0 O0)(n:W0.heap.size=N)(a:dU V0 O0 w0 V O w)(B:V g)(A:O g)(t:w0.heap.size<=g)(z:aK w g 31 b)(E:VR ρ0 b3.v b.v):
  ir T F N V0 O0 w0 ρ0 (ρ0.ext N g (N+1) false) (W0.alloc (aE b3 31)) w V O:=by
 have k:∀c x,ρ0 c=Y x->c<N:=λc x h=>n▸d.mem.dom c x h;have C:=d.mem.rely d.see a.rely;have y:=IP (n':=g) (n1:=N+1) (m:=false) k 0 zz;refine⟨⟨λc x h=>?_,λc c' s h=>?_,by rw[aa];omega,IQ k d.mem.sep λc c' s h=>qP (d.mem.cod c c' s h) t,λc o f=>?_,d.mem.tab⟩,NI,λc c' s h=>?_,λc c' s hc h=>?_,
  λx=>⟨λh=>(a.vo x h).imp id λq=>⟨h,q.1,q.2⟩,λh=>h.elim (a.vv x) (·.1)⟩,λx=>⟨λh=>(a.ov x h).imp id λq=>⟨q.1,h,q.2⟩,λh=>h.elim (a.oo x) (·.2.1)⟩,
  d.vb,a.rely.size,a.rely.tape,a.rely.os,a.rely.output,a.rely.keep,a.cX⟩
 .rw[aa];rcases iq k h with⟨j,h2⟩|⟨j,h2,l⟩<;>omega
 .rcases iq k h with⟨j,h2⟩|⟨j,h2,l⟩
  .exact qP (d.mem.cod c c' s h2) a.rely.size
  .cases l;have:=z.lt;omega
 .by_cases hc:c<N
  .rw[QR _ _ zz]at f;exact HR.mono NI C.hr c o f
  .have e:c=N:=by
    have:=(ec.1 f).1;rw[aa]at this;omega
   rw[e]at f|-;rw[<- n]at f;rw[Sp]at f;cases f;refine⟨g,0,_,y.1,z,?_,λh=>mi h (dj _)⟩;rw[show(ρ0.ext N g (N+1) false).cls N=false from y.2];refine .plain (.cells (λi v hi=>?_) λi _ _ h=>mi h (Nat.not_lt_zero _));obtain⟨J,hc⟩:=eH.cellsOf E;have u:b3.v.cells[i]?=Y v:=hi;have G:=(ec.1 u).1;have r:b.v.cells[i]?=Y b.v.cells[i]:=fi zz;exact⟨_,r,(hc i v _ u r).mono NI⟩
 .have ø:=0;exact oO
 .exact oO
variable{y:ae}{t:Lk}{a c:Int}
theorem WalkE.Uv{op:BinOp}{F:Int->Int->Bool}{t t':Lk}(r:Bool)(hF:TG op=Y F)(m:ops[i]?=Y o)(e:o.op=.binOp op t x y t')(g:(fa n f).eval x=.int .i64 a)(h:(fa n f).eval y=.int .i64 c)(p:F a c=r)(l:o.dst=Y d)(j:d<n)(q:Region.wanted o (aw ops (fa n f).tmps)=true)(hk:b.kind≠.early)
  (next:WO main Stop V O b n (ah f d (.bool r)) ops rest k cs w):WO main Stop V O b n f ops (i::rest) k cs w:=
 WalkE.pv _ m l j q hk (λbj=>Sr e hF g h p ⟨rfl⟩) (λbj=>by
  unfold Hn;simp only[e,g,h];cases op<;>cases hF<;>simp[go_sem]) next
theorem WalkE.Ur{s z g off kk:Nat}(a:(ZK s)[kk]?=Y z)(m:ops[i]?=Y o)(c:o.op=.fieldAddr s x kk)(e:(fa n f).eval x=.pointer (Y (g,off)))(l:o.dst=Y d)(j:d<n)(p:Region.wanted o (aw ops (fa n f).tmps)=true)(hk:b.kind≠.early)
  (next:WO main Stop V O b n (ah f d (.pointer (Y (g,off+z)))) ops rest k cs w):WO main Stop V O b n f ops (i::rest) k cs w:=
 WalkE.pv _ m l j p hk (λbj=>TH c a e ⟨rfl⟩) (λbj=>by
  unfold Hn;simp only[c,e];unfold ZK at a;repeat' split at a
  .subst s;iterate 10 (rcases kk with _|kk; · cases a;simp[go_sem])
   cases a
  .subst s;iterate 3 (rcases kk with _|kk; · cases a;simp[go_sem])
   cases a
  .rename_i h;iterate 2 (rcases kk with _|kk; · cases a;rcases h with rfl|rfl|rfl|rfl|rfl<;>simp[go_sem])
   cases a
  .cases a) next
theorem WalkE.acL{A:Option Addr}{m c:Nat}(a:[24,27,28,29].contains t=true)(p:ops[i]?=Y o)(e:o.op=.call {callee:=.builtin .len,args:= #[x],argTypes:= #[t]})(h:(fa n f).eval x=.slice A m c)(g:o.type=3)(l:o.dst=Y d)(j:d<n)(q:Region.wanted o (aw ops (fa n f).tmps)=true)(hk:b.kind≠.early)
  (next:WO main Stop V O b n (ah f d (.int .i64 m)) ops rest k cs w):WO main Stop V O b n f ops (i::rest) k cs w:=
 WalkE.pv _ p l j q hk (λbj=>SF e a g h ⟨rfl⟩) (λbj=>by
  unfold Hn;simp only[e,ab,zM,h,g];simp at a;rcases a with rfl|rfl|rfl|rfl<;>simp[go_sem]) next
theorem WalkE.ac8(p:ops[i]?=Y o)(e:o.op=.binOp .sub 3 x y 3)(g:(fa n f).eval x=.int .i64 a)(j:(fa n f).eval y=.int .i64 c)(h:Sm (a-c))(m:o.dst=Y d)(l:d<n)(q:Region.wanted o (aw ops (fa n f).tmps)=true)(hk:b.kind≠.early)
  (next:WO main Stop V O b n (ah f d (.int .i64 (a-c))) ops rest k cs w):WO main Stop V O b n f ops (i::rest) k cs w:=
 WalkE.pv _ p m l q hk (λbj=>AW e g j h ⟨rfl⟩) (λbj=>by
  unfold Hn;simp only[e,g,j];simp[go_sem]) next
section
variable{b:aC}{N g:Nat}
def MM{κ:Nat->Kd}{Z:Ren}{n d:Nat}{f f':Nat->M}{v v':M}(h:KR κ Z (fa n f).tmps (fa n f').tmps)(c:dM Z (κ d) v v'):KR κ Z (fa n (ah f d v)).tmps (fa n (ah f' d v')).tmps:=by
 refine⟨by simp[fa],λi x y a b=>?_⟩;have hi:i<n:=by
  have:=(ec.1 a).1;simpa[fa]using this
 rw[ej hi]at a b;cases a;cases b;unfold ah;by_cases e:i=d
 .subst e;rw[qWB rfl,qWB rfl];exact c
 .rw[qVB e,qVB e];exact h.2 i _ _ (ej hi) (ej hi)
def Qv{l:pK}:ay (bX N b) l=ay b l:=rfl
def Qw:mX (bX N b)=mX b:=rfl
section
variable{T:gq}{P:Ps}{N:Nat}{V0 O0 V O:Nat->Prop}{w0 w W:H}{ρ0 Z:Ren}
def Ro{C:Array M}{t:Lk}{y:M}(c:ir T P N V0 O0 w0 ρ0 Z W w V O)(k:N<=g)(m:W.heap[g]?=Y (.cells C t (0,0)))(l:dM Z .addr (.pointer (Y (g,0))) y):∃g',y=.pointer (Y (g',0))/\V g'/\∀(i:Nat) (v:M),C[i]?=Y v->∃v',w (g',i)=Y v'/\VR Z v v':=by
 cases l with
 | @ptr _ j h=>
  obtain⟨-, h2,s,a,b,d⟩:=h;dsimp only at a b d;obtain rfl:=(c.mem.sep g _ s k a).1;obtain⟨o,s',q,e,f,n,-⟩:=c.mem.hr.plain m d;rw[a]at e;cases e;obtain⟨g',r,u⟩:=j;simp only at h2 b f;subst h2 b
  cases n with
  | @cells _ _ c' _ _ x hc p=>exact⟨g',by rw[kx],c.see _ _ _ a,λi v hi=>let⟨v',e1,e2⟩:=hc i v hi;⟨v',(show _=_ by unfold H.cell?;dsimp only;rw[f];rfl).tn e1,e2⟩⟩
end
section
variable{main:Bool}{Stop:(Nat->Prop)->(Nat->Prop)->QP->H->Prop}{V O:Nat->Prop}{w:H}{b:Kf}{k:List Item}{cs:List Kf}{ops:Array Kp}{i:Nat}{rest:List Nat}{o:Kp}{n d:Nat}{f:Nat->M}
def WalkE.adi{x:ae}{bk:aC}(h:∀(i:Nat) x,(wE bk)[i]?=Y x->w (g,i)=Y x)(l:V g)(r:ops[i]?=Y o)(s:o.op=.load 31 x)(y:(fa n f).eval x=.pointer (Y (g,0)))(q:o.dst=Y d)(m:d<n)(u:Region.wanted o (aw ops (fa n f).tmps)=true)(hk:b.kind≠.early)
  (next:WO main Stop V O b n (ah f d bk.v) ops rest k cs w):WO main Stop V O b n f ops (i::rest) k cs w:=by
 have å:=0;exact wZ
end
end
section
variable{fn n r:Nat}{V:Nat->Prop}{w:H}
def abr(fn n r:Nat)(V:Nat->Prop)(w:H):Nat->(Nat->Prop)->(Nat->Prop)->QP->H->Prop
 | 0,V',a,g',w'=>MO fn n r V w V' a g' w'
 | k+1,V',a,g',w'=>MO fn n r V w V' a g' w'\/∃c0 cs b l,g'=G (Kf.enter F 9 #[b.v] .normal) (c0::cs)/\cr V' a w'/\qS V' w' b l/\cP b l true=0/\
   ∀c e d,cr c e d->(∀x,V' x->c x)->aH V' w' d->WalkE F true (abr fn n r V w k) c e (G (c0.finish (.tuple #[.int .i64 (o5 b l).1,.int .i64 (o5 b l).2,.int .i64 0])) cs) d
def MO.rely{V V' O':Nat->Prop}{w w' w2:H}{g':QP}(h:MO fn n r V w V' O' g' w')(a:aH V' w' w2):MO fn n r V w V' O' g' w2:=
 let⟨c0,e,h1,h2,h3,h4⟩:=h
 ⟨c0,e,h1.rely a,h2,h3.tn (a.mono h2),h4⟩
def abt{F:Func}(hF:Hb.funcs[fn]?=Y F)(h:F.results= #[.tmp r])(a:r<n)(j:2≠fn){post:M->H->Prop}(i:∀w',aH V w w'->post (.bool true) w'):
  ∀(k:Nat) {J:Gh} {e:H} {fr:Kf} {cs:List Kf},Main J e->WalkE Hb true (abr fn n r V w k) (J.V 0) (J.O 0) (G fr cs) e->aQ fI Hb post (G fr cs) J e
 | 0,_,_,_,_,c,walk=>QB hF h a j c walk i
 | k+1,J,e,fr,cs,c,walk=>aQ.walk walk (λ_=>il) (λ_=>il) (λo s B C σ1 m d g hk=>by
  rcases m with m|⟨c0,dp,b,l,rfl,v,hi,x,next⟩
  .obtain⟨c0,rfl,p,h2,t,u⟩:=m;have f:=p.main c hk d g;obtain rfl:o=σ1.V 0:=funext λb=>propext (d b).symm;obtain rfl:s=σ1.O 0:=funext λb=>propext (g b).symm;exact QB hF h a j f (WalkE.stop λA a=>MO.rely ⟨c0,rfl,p,h2,t,u⟩ a) i
  .have f:=v.main c hk d g;obtain rfl:o=σ1.V 0:=funext λb=>propext (d b).symm;exact Ju f hi x λσ2 A q z y=>abt hF h a j i k q (next _ _ _ q.co z y))
def Cf:Ly:=dk [1,1] wQ
def Tp:Ly:=match wQ with|.seq a (.seq b _)=>.seq a (.seq b (.refuse "cut"))|_=>.skip
def acM:Array Kp:=br [0,0] Cf
def acN:Array Kp:=br [0,1,4,0] Cf
def Ux:Cf=.seq (.seq (.region 2 acM false) (.cond (.tmp 16) (.seq (.region 3 acN false) .ret) .skip)) bg:=rfl
def TO:wC (TR Cf) F (xO 9) Tp wQ:=by
 have a:wC (TR Cf) F (xO 9) (.refuse "cut") Cf:=.stop;exact .seqR kr (.seqR kr a)
theorem QC(b:aC)(l:pK)(W:H)(f:aI W b l)(d:aD W)(hc:ay b l=0)(h:aJ b l b.D.toNat=[]):
  nA F Tp (λ_ _=>False) (λa g=>a.defers=[]/\a.tmps.size=48/\a.tmps[4]?=Y (.int .i64 9)/\X W W g) ⟨#[b.v,D,D,D,D,D,D,D,D,D,D,D,D,D,D,D,D,D,D,D,D,D,D,D,D,D,D,D,D,D,D,D,D,D,D,D,D,D,D,D,D,D,D,D,D,D,D,D],[]⟩ W:=by
 have c:=abX b l 36 #[] lT (W.alloc (aE b 31)) (aq f _) (ai d _) hc (gW b _) h;clear f d hc h;unfold aaN at c;unfold aC.v aE kn0 uC bI iy at c;dsimp only at c;unfold Tp wQ Tryz.f9;dsimp only;unfold aC.v;refine mG ?_;go_wp2;refine mG ?_;go_wp2_with (go_at_call 32;refine c.mono ?_;clear c;rintro e j ⟨rfl,i⟩);exact Dc ⟨rfl,rfl,rfl,aP (aY i) (qN _) _⟩
section
variable{main:Bool}{Stop:(Nat->Prop)->(Nat->Prop)->QP->H->Prop}{V O V0 O0:Nat->Prop}{w w0 W:H}{ρ0 Z:Ren}{N:Nat}{T:gq}{b b3:aC}{l:pK}{c0:Kf}{cs:List Kf}{r:Ly}
def aaj(K:ir (TR r) F N V0 O0 w0 ρ0 Z W w V O)(S:VR Z b3.v b.v)(e:aI W b3 l)(J:aD W)(hc:ay b3 l=0)(h:aJ b3 l b3.D.toNat=[])
  (next:∀ρ2 d bj u x,(∀k,k<W.heap.size->d.heap[k]?=W.heap[k]?)->ir (TR Cf) F N V0 O0 w0 (Z.re Cf) ρ2 d bj u x->WalkE F main Stop u x (G (c0.finish (.tuple #[.int .i64 0,.int .i64 0,.int .i64 9])) cs) bj):
  WalkE F main Stop V O (G (Kf.enter F 9 #[b.v] .normal) (c0::cs)) w:=by
 rw[SH];refine aal (T:=TR Cf) (Q1:=λtm d=>tm.size=48/\tm[4]?=Y (.int .i64 9)/\∀k,k<W.heap.size->d.heap[k]?=W.heap[k]?) (I1 _) TO (K.re (r:=Cf)).self (VB S.re) (λτ=>?_) λρ2 a2 C a1 y o m Q B L=>?_
 .rw[Y8];exact Oz (QC b3 l (tp W τ W.drawn) ⟨e.C,e.U,e.E,e.W⟩ J hc h) (λ_ _ h=>h) λa d g=>⟨g.1,g.2.1,g.2.2.1,g.2.2.2.block⟩
 .obtain⟨R,E,hk⟩:=Q;obtain⟨f,rfl,P⟩:=qd (A:=a1) (n:=48) (by rw[<- B.1];exact R);have e4:f 4=(9:Int):=by
   have:=B.at_ E;rw[<- P]at this;exact aG _ _ ρ2 _ this
  have c:=Ca 9;show WalkE F main Stop o m (G ((bs .normal 9).at (fa 48 f) [.code Cf]) (c0::cs)) y;rw[Ux];refine WalkE.seq (WalkE.seq (WalkE.reg rfl ?_));refine WalkE.av (.int .i64 9) rfl (.inl rfl) pL rfl zz wnn c ?_;refine WalkE.iA true rfl rfl pL rfl rfl rfl zz wnn c (WalkE.aT (WalkE.cond (t:=true) (ft rfl) ?_));rw[qWB rfl];refine WalkE.seq (WalkE.reg rfl ?_);refine WalkE.av (.int .i64 9) rfl (.inl rfl) pL rfl zz wnn c ?_;refine WalkE.av (.int .i64 0) rfl (.inr rfl) pL rfl zz wnn c ?_;refine WalkE.av (.int .i64 0) rfl (.inr rfl) pL rfl zz wnn c ?_;refine WalkE.av (.int .i64 9) rfl (.inr rfl) pL rfl zz wnn c (WalkE.aT (WalkE.ret ?_));generalize i:ah (ah (ah _ _ _) _ _) 4 (M.int .i64 9)=z;have U:z 2=.int .i64 0:=by rw[<- i];rfl
  have t3:z 3=.int .i64 0:=by rw[<- i];rfl
  have t4:z 4=.int .i64 9:=by rw[<- i];rfl
  refine WalkE.leave (fn:=Tryz.f9) (v:=.tuple #[.int .i64 0,.int .i64 0,.int .i64 9]) rfl rfl Tryz.func9 (λj _=>?_) (λj _=>?_) (next ρ2 C y o m hk L)
  .have p:((Array.range 48).map z)[2]?=Y (z 2):=ej (n:=48) (f:=z) zz;have q:((Array.range 48).map z)[3]?=Y (z 3):=ej (n:=48) (f:=z) zz;have s:((Array.range 48).map z)[4]?=Y (z 4):=ej (n:=48) (f:=z) zz;show(results Tryz.f9 ((Array.range 48).map z)).run F j=_;generalize(Array.range 48).map z=A at p q s;unfold results Tryz.f9;simp[p,q,s,U,t3,t4]
  .show(results Tryz.f9 ((Array.range 48).map z)).events F j #[]=_;generalize(Array.range 48).map z=A;unfold results Tryz.f9;simp
end
end
variable{K:List Item}{n9 cp:Nat}{at_ best many:Int}{A:Option Addr}
def Yr(a c r:Int):M:=.tuple #[.int .i64 a,.int .i64 c,.int .i64 r]
def f7(f:Nat->M)(a c r:Int):Nat->M:=ah (ah (ah (ah (ah (ah (ah (ah f 61 (Yr a c r)) 59 (Yr a c r)) 62 (.int .i64 a)) 63 (.int .i64 c)) 64 (.int .i64 r)) 16 (.int .i64 a)) 17 (.int .i64 c)) 18 (.int .i64 r)
def acB:Sm7=.seq (.region 7 Xo false) Sm8:=rfl
section
variable{b:aC}
theorem WalkE.ac1{b:Kf}(g:ops[i]?=Y o)(a:o.op=.binOp .eql 23 x y 23)(hx:(fa n f).eval x=.agg #[.int .i64 0,.int .i64 0])(hy:(fa n f).eval y=.agg #[.int .i64 0,.int .i64 0])(e:o.dst=Y d)(c:d<n)(j:Region.wanted o (aw ops (fa n f).tmps)=true)(hk:b.kind≠.early)
  (next:WO main Stop V O b n (ah f d (.bool true)) ops rest k cs w):WO main Stop V O b n f ops (i::rest) k cs w:=by
 have ø:=0;exact bN
theorem WalkE.aaM{b:Kf}(g:ops[i]?=Y o)(a:o.op=.build 23 #[])(e:o.dst=Y d)(c:d<n)(j:Region.wanted o (aw ops (fa n f).tmps)=true)(hk:b.kind≠.early)
  (next:WO main Stop V O b n (ah f d (.agg #[.int .i64 0,.int .i64 0])) ops rest k cs w):WO main Stop V O b n f ops (i::rest) k cs w:=by
 refine WalkE.pv _ g e c j hk (λbj=>?_) (λbj=>?_) next
 .unfold Hn;simp only[a,List.map_toArray,List.map_nil];go_simp
 .unfold Hn;simp only[a,List.map_toArray,List.map_nil];kernel_rfl
theorem WalkE.ab0{b:Kf}(g:ops[i]?=Y o)(a:o.op=.binOp .add 3 x y 3)(hx:(fa n f).eval x=.int .i64 0)(hy:(fa n f).eval y=.int .i64 0)(e:o.dst=Y d)(c:d<n)(j:Region.wanted o (aw ops (fa n f).tmps)=true)(hk:b.kind≠.early)
  (next:WO main Stop V O b n (ah f d (.int .i64 0)) ops rest k cs w):WO main Stop V O b n f ops (i::rest) k cs w:=by
 refine WalkE.pv _ g e c j hk (λbj=>?_) (λbj=>?_) next
 .unfold Hn;simp only[a,hx,hy];kernel_rfl
 .unfold Hn;simp only[a,hx,hy];kernel_rfl
def ac2(d:f 3=(g,0))(a:V g)(c:∀(i:Nat) x,(wE b)[i]?=Y x->w (g,i)=Y x)
  (next:WalkE F main Stop V O (G (Kf.enter F 9 #[b.v] .normal) ((bs .normal 3).at (fa 250 (ah f 60 b.v)) (.inRegion Xo [1,2,3,4,5,6,7,8]::.code Sm8::K)::cs)) w):
  WalkE F main Stop V O (G ((bs .normal 3).at (fa 250 f) (.code Sm7::K)) cs) w:=by
 have hk:=Ca 3;rw[acB];refine WalkE.seq (WalkE.reg rfl ?_);refine WalkE.adi c a rfl rfl pL rfl zz wnn hk ?_;exact WalkE.enter (f:=9) (args:= #[b.v]) rfl wnn hk (λbj=>(kJ (args:= #[b.v]) rfl (mY (Ls rfl)) rfl λ_=>⟨rfl,rfl⟩).1) (λbj=>(kJ (args:= #[b.v]) rfl (mY (Ls rfl)) rfl λ_=>⟨rfl,rfl⟩).2) next
def ab1{a c r:Int}(next:WalkE F main Stop V O (G ((bs .normal 3).at (fa 250 (f7 f a c r)) (.code Sm8::K)) cs) w):
  WalkE F main Stop V O (G (((bs .normal 3).at (fa 250 f) (.inRegion Xo [1,2,3,4,5,6,7,8]::.code Sm8::K)).finish (Yr a c r)) cs) w:=by
 have hk:=Ca 3;rw[Kf.finish_at,show(Xo[1]?).bind (·.dst)=Y 61 from rfl,cw zz];refine wss ?_;exact WalkE.aT next
def ac3(a:f 11=(9:Int))(b:f 13=(9:Int))(c:f 15=(9:Int))(d:f 18=(9:Int))(next:∀f',(∀i,i<26->f' i=f i)->f' 77=.bool false->WalkE F main Stop V O (G ((bs .normal 3).at (fa 250 f') (K)) cs) w):
  WalkE F main Stop V O (G ((bs .normal 3).at (fa 250 f) (.code (.region 8 Yk false)::K)) cs) w:=cN
def acC(a:f 11=(9:Int))(next:∀f',(∀i,i<26->f' i=f i)->f' 79=.bool true->WalkE F main Stop V O (G ((bs .normal 3).at (fa 250 f') (K)) cs) w):
  WalkE F main Stop V O (G ((bs .normal 3).at (fa 250 f) (.code (.region 10 Uy false)::K)) cs) w:=cN
def acD(hB:og V w g 0 0)(i:f 9=.slice I 0 0)(a:f 10=.slice I 0 0)(b:f 11=(9:Int))(c:f 12=.slice I 0 0)(d:f 14=(g,0))(e:f 16=(0:Int))(h:f 17=(0:Int))(next:∀f',f' 106=.bool true->WalkE F main Stop V O (G (Kf.enter F 5 #[] .normal) ((bs .normal 3).at (fa 250 f') (.inRegion Nj [27,28,29]::K)::cs)) w):
  WalkE F main Stop V O (G ((bs .normal 3).at (fa 250 f) (.code (.region 11 Nj false)::K)) cs) w:=by
 have hk:=Ca 3;refine WalkE.reg rfl ?_;refine wss ?_;refine WalkE.ab0 rfl rfl pL pL rfl zz (az rfl rfl zz rfl) hk ?_;refine wss ?_;refine WalkE.ab0 rfl rfl pL pL rfl zz (az rfl rfl zz rfl) hk ?_;refine wss ?_;refine WalkE.JL hB rfl rfl pL rfl zz (az rfl rfl zz rfl) hk ?_;refine WalkE.aaM rfl rfl rfl zz (az rfl rfl zz rfl) hk ?_;refine WalkE.ac1 rfl rfl pL pL rfl zz (az rfl rfl zz rfl) hk ?_;refine wss ?_;exact WalkE.enter (f:=5) (args:= #[]) rfl (az rfl rfl zz rfl) hk (λbj=>(kJ (args:= #[]) rfl ss rfl λ_=>⟨rfl,rfl⟩).1) (λbj=>(kJ (args:= #[]) rfl ss rfl λ_=>⟨rfl,rfl⟩).2) (next _ rfl)
def ac4(N:cr V O w)(t:f 3=(g,0))(Q:V g)(m:∃A n c,n=b.U.n/\w (g,10)=Y (.slice A n c))(a3:b.U.n<=1000)(v:f 9=.slice A n9 cp)(u:f 7=at_)(d:f 16=best)(s:f 17=many)
  (E:¬many<n9)(h2:(n9:Int)=many->¬at_<best)(J:at_=best->(n9:Int)=many)(L:0<=best/\best<=b.U.n-1)
  (next:∀f' bj j l,cr j l bj->dU V O w j l bj->f' 247=.bool true->WalkE F main Stop j l (G (Kf.enter F 5 #[] .normal) ((bs .normal 3).at (fa 250 f') (.inRegion JG [36,37,38]::K)::cs)) bj):
  WalkE F main Stop V O (G ((bs .normal 3).at (fa 250 f) (.code (.region 28 JG false)::K)) cs) w:=by
 have hk:=Ca 3;obtain⟨z,x,B,a4,m⟩:=m;refine WalkE.reg rfl ?_;refine wss ?_;refine WalkE.Uv false rfl rfl rfl pL pL (decide_eq_false E) rfl zz wnn hk ?_;refine wss ?_;have R:∀f',(∀i,i<26->f' i=f i)->f' 228=.bool true->f' 237=.bool true->WalkE F main Stop V O (G ((bs .normal 3).at (fa 250 f') (.inRegion JG [26,27,28,29,30,31,32,33,34,35,36,37,38]::K)) cs) w:=by
  intro f' k a1 a2;have t:=(k 3 zz).tn t;have d:=(k 16 zz).tn d;refine wss ?_;refine WalkE.Ur rfl rfl rfl pL rfl zz (az rfl rfl zz rfl) hk ?_;refine WalkE.pJ ⟨g,0+10,I⟩ (.slice z x B) U4 rfl rfl pL Q (by rw[kx];exact m) rfl zz (az rfl rfl zz rfl) hk ?_;refine WalkE.acL rfl rfl rfl pL rfl rfl zz (az rfl rfl zz rfl) hk ?_;refine WalkE.ac8 (a:=x) (c:=1) rfl rfl pL rfl (by unfold Sm;omega) rfl zz (az rfl rfl zz rfl) hk ?_;refine cr.jZ N rfl rfl (Is (Ls rfl) rfl (Ls rfl)) rfl zz (az rfl rfl zz rfl) hk (λ_=>⟨rfl,rfl⟩) rfl rfl (λe0 hB=>XM (.int _ _) (.int _ _) (.int _ _)) (dQ _) (λe0 τ=>(bz _ _ _ _).mono λe W q=>by rw[cq.2 ⟨L.1,zz⟩]at q;exact q.1) λw1 T S P C=>?_;refine wss ?_;exact WalkE.enter (f:=5) (args:= #[]) rfl (az rfl rfl zz rfl) hk (λbj=>(kJ (args:= #[]) rfl ss rfl λ_=>⟨rfl,rfl⟩).1) (λbj=>(kJ (args:= #[]) rfl ss rfl λ_=>⟨rfl,rfl⟩).2) (next _ _ _ _ P C rfl)
 have y:∀f',(∀i,i<26->f' i=f i)->f' 216=.bool false->f' 225=.bool false->WalkE F main Stop V O (G ((bs .normal 3).at (fa 250 f') (.inRegion JG [14,15,16,17,18,19,20,21,22,23,24,25,26,27,28,29,30,31,32,33,34,35,36,37,38]::K)) cs) w:=by
  intro f' k U Z;have u:=(k 7 zz).tn u;have v:=(k 9 zz).tn v;have d:=(k 16 zz).tn d;have s:=(k 17 zz).tn s;refine wss ?_;by_cases o:at_=best
  .have ø:=0;exact m8
  .exact m8
 by_cases r:(n9:Int)=many
 .refine WalkE.Uv true rfl rfl rfl pL pL (nd.2 r) rfl zz (az rfl rfl zz rfl) hk ?_;refine wss ?_;refine WalkE.Uv false rfl rfl rfl pL pL (decide_eq_false (h2 r)) rfl zz (az rfl rfl zz rfl) hk ?_;refine WalkE.cj (a:=true) (.bool false) rfl rfl pL ((if_pos rfl).trans pL) rfl zz (az rfl rfl zz rfl) hk ?_;exact y _ (λi hi=>QA) pL rfl
 .refine WalkE.Uv false rfl rfl rfl pL pL (beq_eq_false_iff_ne.2 r) rfl zz (az rfl rfl zz rfl) hk ?_;refine wss ?_;refine WalkE.Ut rfl rfl zz (IB rfl rfl zz rfl) ?_;refine WalkE.Ut rfl rfl zz (IB rfl rfl zz rfl) ?_;refine WalkE.Ut rfl rfl zz (IB rfl rfl zz rfl) ?_;refine WalkE.cj (a:=false) (.bool false) rfl rfl pL ((if_neg Bool.false_ne_true).trans pL) rfl zz (az rfl rfl zz rfl) hk ?_;exact y _ (λi hi=>QA) pL rfl
end
def abc(f:Nat->M)(h:f 106=true):Ie 3 250 6 ((bs .normal 3).at (fa 250 f) (.inRegion Nj [27,28,29]::.code .ret::K)):=λc b d=>by
 have hk:=Ca 3;rw[Kf.finish_at,show(Nj[27]?).bind (·.dst)=Y 107 from rfl,cw zz];refine wss ?_;exact WalkE.aT (WalkE.ret (WalkE.stop λe a=>⟨⟨_,_,rfl,rfl⟩,λ_=>id,a⟩))
def abf(f:Nat->M)(h:f 247=true):Ie 3 250 6 ((bs .normal 3).at (fa 250 f) (.inRegion JG [36,37,38]::.code .ret::K)):=λc b d=>by
 have hk:=Ca 3;rw[Kf.finish_at,show(JG[36]?).bind (·.dst)=Y 248 from rfl,cw zz];refine wss ?_;exact WalkE.aT (WalkE.ret (WalkE.stop λe a=>⟨⟨_,_,rfl,rfl⟩,λ_=>id,a⟩))
def abg(f:Nat->M):Ie 3 250 6 ((bs .normal 3).at (fa 250 f) (.inRegion TP [0,1]::.code .ret::K)):=λc b d=>by
 have hk:=Ca 3;rw[Kf.finish_at,show(TP[0]?).bind (·.dst)=Y 29 from rfl,cw zz];exact WalkE.av (.bool true) rfl (.inr rfl) pL rfl zz wnn hk (WalkE.aT (WalkE.ret (WalkE.stop λe a=>⟨⟨_,_,rfl,rfl⟩,λ_=>id,a⟩)))
section
variable{κ:Nat->Kd}{Z:Ren}{b:aC}{g n:Nat}{F f:Nat->M}{v:M}
def E5(b:aC)(hour stp:Int):Array M:= #[b.v,.int .u8 hour,.int .u8 stp]
def ZJ(b:aC)(hour stp:Int):Nat->M:=λi=>(E5 b hour stp).getD i D
def frS(s:Nat->M)(v:M)(g:Nat):Nat->M:=ah (ah (ah (ah (ah s 3 (.pointer (Y (g,0)))) 6 (.bool false)) 26 v) 27 (.bool true)) 28 (.bool false)
def acE:XL (TR Sm7) Hb (xO 3) 4 Sm3=true:=qa
def abh:P5 (TR Yq) Hb (xO 3) zN Sm8=true:=qa
section
variable{main:Bool}{Stop:(Nat->Prop)->(Nat->Prop)->QP->H->Prop}{V O:Nat->Prop}{w:H}{cs:List Kf}{b:aC}{l:pK}{hour stp:Int}
def acF{b3 b:aC}{g g':Nat}(e:VR Z b3.v b.v)(d:Z g=Y (g',0)/\Z.cls g=false)(l:κ 3=.addr)(k0:κ 0=.val)(k:κ 26=.val):
  KR κ Z (fa 250 (frS (ZJ b3 hour stp) b3.v g)).tmps (fa 250 (frS (ZJ b hour stp) b.v g')).tmps:=by
 have j:dM Z .addr (.pointer (Y (g,0))) (.pointer (Y (g',0))):=.ptr ⟨rfl,rfl,0,d.1,rfl,d.2⟩;have f:KR κ Z (E5 b3 hour stp) (E5 b hour stp):=⟨rfl,λi x y a c=>by
  match i,a,c with
  | 0,a,c=>cases a;cases c;rw[k0];exact e
  | 1,a,c|2,a,c=>cases a;cases c;exact .int _ _⟩
 have h:KR κ Z (fa 250 (ZJ b3 hour stp)).tmps (fa 250 (ZJ b hour stp)).tmps:=by
  have:=NM f 250;rw[iu rfl,iu rfl]at this;exact this
 unfold frS;exact MM (MM (MM (MM (MM h (by rw[l];exact j)) (.bool _)) (by rw[k];exact e)) (.bool _)) (.bool _)
def sn{n i:Nat}(k:Kd)(h:KR κ Z (fa n F).tmps (fa n f).tmps)(e:F i=v)(hi:i<n:=by omega)(hk:κ i=k:=by kernel_rfl):dM Z k v (f i):=by
 have:=h.2 i _ _ (ej hi) (ej hi);rw[e,hk]at this;exact this
def Vv(h:VR Z (.slice I 0 0) v):v=.slice I 0 0:=by cases h;rfl
def Uq{E:H->(Nat->M)->H->Prop}(p:cr V O w)(hi:qS V w b l)
  (lone:∀(w0:H) (f:Nat->M),aI w0 (bX w b) l->aD w0->f 1=.int .u8 hour->f 2=.int .u8 stp->f 3=(w0.heap.size,0)->nA Hb (cutAt 4 Sm3) (λ_ _=>False) (λa W=>a.defers=[]/\∃f,a.tmps=(fa 250 f).tmps/\E w0 f W) (fa 250 f) (w0.alloc (aE (bX w b) 31)))
  {bm bo:Nat->Prop}{bj:H}(Q:dU V O w bm bo bj)(L:bm g)(K:bo g)(R:w.heap.size<=g)(a1:aK bj g 31 b)
  (next:∀N u a2 Z F W f' o k j,u.heap.size=N->VR Z (bX w b).v b.v->E u F W->KR (xO 3) Z (fa 250 F).tmps (fa 250 f').tmps->ir (TR Sm7) Hb N V O w a2 Z W o k j->cr k j o->WalkE Hb main Stop k j (G ((bs .normal 3).at (fa 250 f') [.code Sm7]) cs) o):
  WalkE Hb main Stop bm bo (G ((bs .normal 3).at (fa 250 (frS (ZJ b hour stp) b.v g)) [.code Sm3]) cs) bj:=by
 obtain⟨e0,hB⟩:=p.base;have s:=Sc (T:=TR Sm7) (P:=Hb) (hB:=hB.tr) (O:=O) (hi.ok hB) p.cX;have q:=hi.RH (hB:=hB.tr (r:=Sm7)) (s':=iy) (d':=[]);have hk:=λe z=>(hi.lone (e0:=e0) e z).1;generalize mA b l iy []=i at s q hk;have J:=aaL s qf Q L K R a1 q;have S:=IP (n':=g) (n1:=w.heap.size+i.length+1) (m:=false) (λc x h=>by have:=s.mem.dom c x h;rw[qf]at this;exact this) 0 zz;refine aal (T:=TR Sm7) (Q1:=λtm W=>∃f e d,tm=(fa 250 f).tmps/\E (tp (wK TA V e0 w i) e d) f W) (I1 _) (VA acE rfl) J (acF (g:=w.heap.size+i.length) (q.mono NI) S kr kr kr) (λe=>?_) λZ a4 y a3 o k j U v t=>?_
 .exact Oz (lone (tp (wK TA V e0 w i) e ((wK TA V e0 w i).alloc (aE (bX w.heap.size b) 31)).drawn) (frS (ZJ (bX w.heap.size b) hour stp) (bX w.heap.size b).v (w.heap.size+i.length)) (hk e _) (mh p.checks hB e _) rfl rfl (by rw[qK];rfl)) (λ_ _ h=>h) λa W ⟨A,f,h2,B⟩=>⟨A,f,e,_,h2,B⟩
 .obtain⟨F,e,d,rfl,C⟩:=U;obtain⟨f',rfl,-⟩:=qd (n:=250) (by rw[<- v.1];simp[fa]);exact next _ _ _ _ F y f' o k j (qK e d) (q.mono t.le) C v t (p.bH t.bH)
def abk(b:aC)(hour stp:Int):Kf.enter Hb 3 (E5 b hour stp) .normal=(bs .normal 3).at (fa 250 (ZJ b hour stp)) [.code qM]:=by
 rw[enter_at (E5 b hour stp) Tryz.func3 rfl];have:E5 b hour stp++Array.replicate (Tryz.f3.ntmps-(E5 b hour stp).size) D=(Array.range 250).map (ZJ b hour stp):=iu rfl;rw[this];rfl
def Sm0:qM=.seq (.region 0 acO false) (.seq (.seq (.region 1 abu false) (.cond (.tmp 28) (.seq (.region 2 TP false) .ret) .skip)) Sm3):=rfl
def abp(y:cr V O w)(u:Um V w b)(Q:mX b=false->∃l,qS V w b l)
  (L:∀f' bj a c,cr a c bj->dU V O w a c bj->WalkE Hb main Stop a c (G (Kf.enter Hb 5 #[] .normal) ((bs .normal 3).at (fa 250 f') (.inRegion TP [0,1]::[.code .ret,.code Sm3])::cs)) bj)
  (N:∀l,qS V w b l->ay b l=0->∀bj a c g,cr a c bj->dU V O w a c bj->a g->c g->w.heap.size<=g->aK bj g 31 b->WalkE Hb main Stop a c (G ((bs .normal 3).at (fa 250 (frS (ZJ b hour stp) b.v g)) [.code Sm3]) cs) bj):
  WalkE Hb main Stop V O (G (Kf.enter Hb 3 (E5 b hour stp) .normal) cs) w:=by
 have hk:=Ca 3;rw[abk,Sm0];refine WalkE.seq (WalkE.reg (l:=[0,1]) rfl (WalkE.oa (aE b 31) (λg=>.pointer (Y ⟨g,0,I⟩)) rfl rfl zz rfl hk (λbj _=>B8 rfl (ag (t:=0) zz rfl)) (λbj _ e h=>by rw[Rl rfl (ag (t:=0) zz rfl)]at h;simp at h) λm C=>?_));have d:=((dU.refl (O:=O) y.cX).step C).make (aE b 31);have o:aK (m.alloc (aE b 31)) m 31 b:=Sp _ _;have i:Fg _ _ _ m b:=⟨y.bH d,.inr rfl,Uo o⟩;have A:=C.size;generalize n:m.heap.size=g at d o i A|-;generalize(λx=>V x\/x=g)=V1 at d i|-;generalize(λx=>O x\/x=g)=O1 at d i|-;generalize m.alloc (aE b 31)=p at d o i|-;have u:=u.mono d.vv d.rely.keep;refine WalkE.av (.bool false) rfl (.inr rfl) rfl rfl zz wnn hk (WalkE.aT (WalkE.seq (WalkE.seq (WalkE.reg (l:=[0,1,2]) rfl (WalkE.dV i.box i.gV rfl rfl (ft rfl) rfl zz rfl hk ?_)))));have go:∀(q:Bool) bj a c,cr a c bj->dU V1 O1 p a c bj->(q=true->∃l,ay b l=0/\qS V w b l)->WalkE Hb main Stop a c (G ((bs .normal 3).at (fa 250 (ah (ah (ah (ah (ZJ b hour stp) 3 (.pointer (Y (g,0)))) 6 (.bool false)) 26 b.v) 27 (.bool q))) (.inRegion abu [2]::[.code (.cond (.tmp 28) (.seq (.region 2 TP false) .ret) .skip),.code Sm3])) cs) bj:=by
  intro q bj a c z j k;refine(WalkE.BS (!q) rfl rfl (ft rfl) rfl rfl zz wnn hk (WalkE.aT ?_));cases q
  .refine WalkE.cond (t:=true) (ft rfl) ?_;rw[qWB rfl];exact WalkE.seq (WalkE.reg (l:=[0,1]) rfl (WalkE.enter (f:=5) (args:= #[]) rfl wnn hk (λbj=>(kJ (args:= #[]) rfl ss rfl λ_=>⟨rfl,rfl⟩).1) (λbj=>(kJ (args:= #[]) rfl ss rfl λ_=>⟨rfl,rfl⟩).2) (L _ _ _ _ z (d.tn j))))
  .refine WalkE.cond (t:=false) (ft rfl) ?_;rw[qVB ss];obtain⟨l,P,h2⟩:=k rfl;have s:=i.bH j;exact WalkE.skip (N l h2 P bj a c g z (d.tn j) s.gV ((s.co.vo g).1 s.gV) A ((j.rely.keep g i.gV).tn o))
 cases n:mX b
 .obtain⟨l,B⟩:=Q n;have hi:=B.bH d;refine cr.qL (args:= #[(bX p.heap.size b).v]) (v:=.bool (ay b l==0)) i.co hi rfl rfl (mY (ft rfl)) rfl zz wnn hk (λ_=>⟨rfl,rfl⟩) rfl rfl (λe0 hB=>vg (by exact hi.RH)) (dQ _) (λe0 hB E=>(Qu (bX p.heap.size b) l _ (Qw.tn n) (hi.lone (e0:=e0) E p.drawn).1).mono λe W q=>by rw[Qv]at q;exact q.1) λR K J r j=>go _ _ _ _ r j λk=>⟨l,by simpa using k,B⟩
 .exact cr.jZ (args:= #[b.v]) (v:=.bool false) i.co rfl rfl (mY (ft rfl)) rfl zz wnn hk (λ_=>⟨rfl,rfl⟩) rfl rfl (λe0 hB=>jy (by exact u.vr)) (dQ _) (λe0 E=>(Qt b _ n).mono λe W q=>q.1) λR K J r j=>go _ _ _ _ r j λk=>by cases k
def ac5{a c r:Int}(h:KR κ Z (fa 250 F).tmps (fa 250 f).tmps):KR κ Z (fa 250 (f7 F a c r)).tmps (fa 250 (f7 f a c r)).tmps:=by
 have t:∀p,dM Z p (Yr a c r) (Yr a c r):=λp=>.tuple rfl λi x y b d=>by
  match i,b,d with
  | 0,b,d|1,b,d|2,b,d=>cases b;cases d;exact .int _ _
 unfold f7;exact MM (MM (MM (MM (MM (MM (MM (MM h (t _)) (t _)) (.int _ _)) (.int _ _)) (.int _ _)) (.int _ _)) (.int _ _)) (.int _ _)
end
def ab2{A:Option Addr}{n c:Nat}(h:VR Z (.slice A n c) v):∃a,v=.slice a n c:=by
 cases h with
 | nilSlice=>exact⟨_,rfl⟩
 | slice=>exact⟨_,rfl⟩
def acG:Sm8=.seq (.seq (.region 8 Yk false) (.cond (.tmp 77) (.seq (.region 9 acQ false) .ret) .skip)) (.seq (.seq (.region 10 Uy false) (.cond (.tmp 79) (.seq (.region 11 Nj false) .ret) .skip)) (RI 9 qM)):=rfl
def abq:Yq=.seq (.region 28 JG false) .ret:=rfl
def XK{post:M->H->Prop}{J:Gh}{w:H}{hour stp:Int}(h1:0<=stp/\stp<=255)(h2:0<=hour/\hour<=255)(hM:Main J w)(hall:∀x,x<w.heap.size->J.V 0 x)(d5:Um (J.V 0) w b)
  (d7:mX b=false->∃l,qS (J.V 0) w b l)(d4:∀w',aH (J.V 0) w w'->post (.bool true) w'):aQ fI Hb post (G (Kf.enter Hb 3 (E5 b hour stp) .normal) []) J w:=by
 refine abt (n:=250) Tryz.func3 rfl zz zz d4 1 hM (abp hM.co d5 d7 (λf w1 V1 O1 c8 k=>WalkE.stop λw2 m=>.inl ⟨_,rfl,c8.rely m,k.vv,(k.step m).rely,abg f⟩) λl hi hc w1 V1 O1 g g9 g1 hV hO hge A=>?_);obtain⟨t1,t2,-⟩:=cS (bP hc).1;obtain⟨u1,u2⟩:=UU (bP hc).2.2.1;have b5:b.U.n=l.U.length:=hi.at_.U.1;have b4:l.U.length<=1000:=hi.at_.U.2.2.1;obtain⟨p,hp,y⟩:∃p:Nat,stp%b.S=p/\(p:Int)<b.S:=by
  have h1:=Int.emod_nonneg stp (b:=b.S) zz;have h2:=Int.emod_lt_of_pos stp (b:=b.S) zz;exact⟨(stp%b.S).toNat,zz,zz⟩
 obtain⟨at_,ha,Q⟩:∃x:Nat,hour%b.U.n=x/\x<b.U.n:=by
  have h1:=Int.emod_nonneg hour (b:=b.U.n) zz;have h2:=Int.emod_lt_of_pos hour (b:=b.U.n) zz;exact⟨(hour%b.U.n).toNat,zz,zz⟩
 have hc':ay (bX w b) l=0:=Qv.tn hc;by_cases s:aJ b l b.D.toNat=[]
 .refine Uq (E:=λw0 f W=>En (bX w.heap.size b) l p at_ w0 f W) hM.co hi (λw0 f a7 a4 e1 e2 e3=>acw a7 a4 hc' h1 h2 hp y ha Q s e1 e2 e3) g1 hV hO hge A λN W0 f' Z F W o w2 V2 O2 B C q e u b1=>?_;obtain⟨P,e9,c2,U,c3,V,a1,c4,a9,b9,b7⟩:=q;rw[B]at b9;obtain⟨g',y3,V',a6⟩:=Ro u (Nat.le_of_eq B.symm) P.bx (sn .addr e P.e3);refine ac2 y3 V' (λi x A=>let⟨x3,h3,hu⟩:=Vz C A;let⟨v',h4,h5⟩:=a6 i x3 h3;hu v' h5▸h4) ?_;refine aaj u C P.bk P.ck hc' s λρ2 S w3 V3 O3 hk a5=>ab1 ?_;have k:=a5.bH;have c':=hM.co.bH k;have e5:=(ec.1 b7).1;obtain⟨g7,i0,Vb,a8⟩:=Ro a5 b9 ((hk c4 e5).tn b7) ((sn .addr e a9).re.mono a5.le);obtain⟨i3,d8,e0⟩:=a8 0 _ rfl;obtain⟨i2,d6,e'⟩:=a8 1 _ rfl;obtain rfl:=aG _ _ ρ2 _ e0;obtain rfl:=aG _ _ ρ2 _ e';have y9:=Vv (sn .val e e9);have i6:=Vv (sn .val e c2);have i8:=Vv (sn .val e c3);have i7:=aG _ _ Z _ (sn .val e U);have i':=aG _ _ Z _ (sn .val e V);have j1:=aG _ _ Z _ (sn .val e a1);have k0:∀i,i<16->f7 (ah o 60 b.v) 0 0 9 i=o i:=λi hi=>QA;have k1:f7 (ah o 60 b.v) 0 0 9 16=.int .i64 0:=rfl;have k2:f7 (ah o 60 b.v) 0 0 9 17=.int .i64 0:=rfl;have k3:f7 (ah o 60 b.v) 0 0 9 18=.int .i64 9:=rfl;generalize f7 (ah o 60 b.v) 0 0 9=f3 at k0 k1 k2 k3|-;rw[acG];refine WalkE.seq (WalkE.seq (ac3 M0 M0 M0 k3 λf4 k4 q4=>WalkE.cond (t:=false) (ft q4) ?_));rw[qVB ss];refine WalkE.skip (WalkE.seq (WalkE.seq (acC M0 λf5 k5 q5=>WalkE.cond (t:=true) (ft q5) ?_)));rw[qWB rfl];exact WalkE.seq (acD ⟨Vb,d8,d6⟩ M0 M0 M0 M0 M0 M0 M0 λf6 q6=>WalkE.stop λw4 m=>.inl ⟨_,rfl,c'.rely m,k.vv,(k.step m).rely,abc f6 q6⟩)
 .have ø:=0;exact fb
end
end Go.Proofs.YtfdbdkhgaajdoaaGreatDoor
namespace Go.Proofs.YtfdbdkhgaajdoaaGreatDoor
open Go.RowKit Go.Co Go.Conc Go.ChangeShapes Go.WideShapes Go.ChangeAt Go.Deep
section
variable{W:Cl}{t:Nat}
abbrev V0(W:Cl):Nat->Prop:=(Go.Co.start W).V 0
def tA{b:Nat}:V0 W b↔b<W.heap.size:=⟨λh=>h.2,λh=>⟨rfl,h⟩⟩
def mq{base t e:Nat}{v:M}(g:F.underlying t=Y (.slice e))(h:Cell.okWide F W .any base t v):∃s:Sl,v=.slice s.A s.n s.c/\Nk (V0 W) W s/\(s.A=I->s.n=0)/\s.n<=s.c:=by
 unfold Cell.okWide at h;rw[g]at h;unfold Cell.ok at h;rw[g]at h
 cases v with
 | slice A n c=>
  cases A with
  | none=>
   cases n with
   | zero=>
    cases c with
    | zero=>exact⟨⟨I,0,0⟩,rfl,(λa f=>(by cases f)),λ_=>rfl,qN _⟩
    | succ c=>simp at h
   | succ n=>simp at h
  | some a=>
   simp only at h;obtain⟨j, -, k⟩:=h;obtain⟨-, l,row,cells,b,-⟩:=k;refine⟨⟨Y a,n,c⟩,rfl,λi f=>?_,λe=>(by cases e),j⟩;obtain rfl:a=i:=km f;unfold Cl.shape? at b
   cases d:W.heap[a.block]? with
   | none=>rw[d]at b;cases b
   | some o=>
    rw[d]at b
    cases o with
    | cells c e z=>exact⟨l,tA.2 (ec.1 d).1,⟨c,e,z,d⟩,λh=>mi h (dj 0)⟩
    | _=>cases b
 | _=>simp at h
def Fh:Option M->Int
 | some (.int _ n)=>n
 | _=>0
def VW:Option M->Bool
 | some (.bool b)=>b
 | _=>false
def J9{s:Sl}{m:Nat}(i:Nk (V0 W) W s)(hc:∀a,s.A=Y a->∀j,j<m->∃v,W (a.block,a.off+j)=Y v/\jU v):jb (V0 W) W s m:=λa f=>by
 obtain⟨g,h2,⟨c,e,z,d⟩,-⟩:=i a f;refine⟨g,h2,c,e,z,d,λj k=>?_⟩;obtain⟨v,b,h⟩:=hc a f j k;unfold Cl.cell? at b;dsimp only at b;rw[d]at b;exact⟨v,b,h⟩
section
variable{H:Type}{enc:Lk×M->H}{W:Cl}{s:Sl}{fuel:Nat}{x:DataW H×List MemPlace}
abbrev TD(enc:Lk×M->H)(W:Cl)(fuel:Nat)(t:Lk)(cs:List M):Option (DataW H×List MemPlace):=DataW.trod enc F W 0 (λ_=>true) true fuel t cs
def xe{a:Addr}(h:a.spot=I)(i:Nat):a.add i=⟨a.block,a.off+i,I⟩:=by
 obtain⟨b,o,c⟩:=a;simp only at h;subst h;simp[Addr.add]
def Ka(g:Nk (V0 W) W s)(E:s.n<=s.c)(a4:s.n<=20)(h:TD enc W fuel 24 [.slice s.A s.n s.c]=Y x):∃l,eC W s l/\jb (V0 W) W s l.length:=by
 have æ:=0;exact pD
def Fi(hp:∀{fuel x},TD enc W fuel t [.slice s.A s.n s.c]=Y x->([M.slice s.A s.n s.c]=[.slice I 0 0])\/∃(a:Addr) (J r n:Nat) (K L:Nat->M) (S T:Nat->DataW H) (U V:Nat->List MemPlace),[M.slice s.A s.n s.c]=[.slice (Y a) J r]/\J<=r/\
   ∀i,i<r->W.cell? (a.add (i*2))=Y (K i)/\W.cell? (a.add (i*2+1))=Y (L i)/\TD enc W n 3 [K i]=Y (S i,U i)/\TD enc W n 3 [L i]=Y (T i,V i))
  (g:Nk (V0 W) W s)(E:s.n<=s.c)(a4:s.n<=20)(h:TD enc W fuel t [.slice s.A s.n s.c]=Y x):∃l,bp W s l/\jb (V0 W) W s (l.length*2):=by
 have ø:=0;exact pD
def Iy(k:Nk (V0 W) W s)(p:s.n<=s.c)(q:s.n<=20)(h:TD enc W fuel 27 [.slice s.A s.n s.c]=Y x):∃l,bp W s l/\jb (V0 W) W s (l.length*2):=
 Fi (λh=>by
  rcases open_slice_pairs Tryz.underlying27 Tryz.underlying101 kr rfl rfl kr kr h with⟨b,-⟩|⟨a,t,u,m,n,i,j,d,e,f,g,b, -, o, -, c, -, r⟩
  .exact .inl b
  .simp only[if_true]at c;subst c;exact .inr ⟨a,t,_,n,i,j,d,e,f,g,b,o,r⟩) k p q h
def Iz(k:Nk (V0 W) W s)(p:s.n<=s.c)(q:s.n<=20)(h:TD enc W fuel 28 [.slice s.A s.n s.c]=Y x):∃l,bp W s l/\jb (V0 W) W s (l.length*2):=
 Fi (λh=>by
  rcases open_slice_pairs Tryz.underlying28 Tryz.underlying103 kr rfl rfl kr kr h with⟨b,-⟩|⟨a,t,u,m,n,i,j,d,e,f,g,b, -, o, -, c, -, r⟩
  .exact .inl b
  .simp only[if_true]at c;subst c;exact .inr ⟨a,t,_,n,i,j,d,e,f,g,b,o,r⟩) k p q h
def Uz(g:Nk (V0 W) W s)(E:s.n<=s.c)(a4:s.n<=20)(h:TD enc W fuel 29 [.slice s.A s.n s.c]=Y x):∃l,fL W s l/\jb (V0 W) W s (l.length*3):=by
 have å:=0;exact pD
end
end
def UB:F.cellTypes F.depth 31=Y [3,3,3,3,3,24,3,3,3,3,27,28,29]:=qa
def Ys:F.cellsOf 31=13:=qa
def Kb:F.cellsOf 3=1:=qa
def Yu:F.cellsOf 23=2:=qa
def Yv:F.cellsOf 26=2:=qa
def Rr:F.cellsOf 24=1:=qa
def Yw:F.cellsOf 27=1:=qa
def Yx:F.cellsOf 28=1:=qa
def Yy:F.cellsOf 29=1:=qa
section
variable{H:Type}{enc:Lk×M->H}{W:Cl}{base:Nat}{v:M}{d:DataW H}{p:List MemPlace}
def zv{t fuel:Nat}{f0 f1:Field}{c0 c1:M}{x:DataW H×List MemPlace}(g:F.underlying t=Y (.struct #[f0,f1]))(i:f0.offset=0)(j:f1.offset=1)(k:f0.type=3)(l:f1.type=3)(h:TD enc W fuel t [c0,c1]=Y x):∃a b:Int,c0=.int .i64 a/\c1=.int .i64 b:=by
 obtain⟨m,o,n, -, -, c,d⟩:=trod_struct2 g h;rw[i,k,Kb]at c;rw[j,l,Kb]at d;obtain⟨a,e, -,-⟩:=DataW.trod_int Tryz.underlying3 c;obtain⟨b,f, -,-⟩:=DataW.trod_int Tryz.underlying3 d;simp at e f;exact⟨a,b,e,f⟩
def M4(J:M.okWide F W .any base 31 v)(a4:DataW.Trod enc F W 0 (λ_=>true) true 31 v d p):∃b:aC,v=b.v/\Um (V0 W) W b/\(mX b=false->∃l,aI W b l/\jb (V0 W) W b.C l.C.length/\jb (V0 W) W b.U (l.U.length*2)/\jb (V0 W) W b.E (l.E.length*2)/\jb (V0 W) W b.W (l.W.length*3)):=by
 unfold M.okWide at J;rw[Tryz.underlying31]at J;obtain⟨⟨cs⟩,rfl,Z,a',a3, -, m⟩:=J;rw[Ys]at Z;rw[UB]at a3;cases a3
 match cs,Z with
 | [c0,e,c2,c3,c4,P,f,g,j,k,K,N,O],_=>
  obtain⟨fuel,h⟩:=a4;replace h:TD enc W fuel 31 [c0,e,c2,c3,c4,P,f,g,j,k,K,N,O]=Y (d,p):=h;obtain⟨xs,n, -, -, -, a5,a⟩:=DataW.trod_struct Tryz.underlying31 h;have get:∀i,i<10->∃y,xs[i]?=Y y:=λi hi=>⟨_,iv (by rw[a5];exact hi)⟩;obtain⟨u,c,hc⟩:=m 5 P rfl;cases c;obtain⟨C,rfl,Q, -, lC⟩:=mq Tryz.underlying24 hc;obtain⟨u,c,hc⟩:=m 10 K rfl;cases c;obtain⟨U,rfl,T, -, a6⟩:=mq Tryz.underlying27 hc;obtain⟨u,c,hc⟩:=m 11 N rfl;cases c;obtain⟨E,rfl,R, -, lE⟩:=mq Tryz.underlying28 hc;obtain⟨u,c,hc⟩:=m 12 O rfl;cases c;obtain⟨X,rfl,V, -, a7⟩:=mq Tryz.underlying29 hc;have o:TD enc W n 3 ((List.drop 0 [c0,e,c2,c3,c4,.slice C.A C.n C.c,f,g,j,k,.slice U.A U.n U.c,.slice E.A E.n E.c,.slice X.A X.n X.c]).take (F.cellsOf 3))=xs[0]?:=a 0 _ rfl;have q:TD enc W n 3 ((List.drop 1 [c0,e,c2,c3,c4,.slice C.A C.n C.c,f,g,j,k,.slice U.A U.n U.c,.slice E.A E.n E.c,.slice X.A X.n X.c]).take (F.cellsOf 3))=xs[1]?:=a 1 _ rfl;have r:TD enc W n 3 ((List.drop 2 [c0,e,c2,c3,c4,.slice C.A C.n C.c,f,g,j,k,.slice U.A U.n U.c,.slice E.A E.n E.c,.slice X.A X.n X.c]).take (F.cellsOf 3))=xs[2]?:=a 2 _ rfl;have s:TD enc W n 23 ((List.drop 3 [c0,e,c2,c3,c4,.slice C.A C.n C.c,f,g,j,k,.slice U.A U.n U.c,.slice E.A E.n E.c,.slice X.A X.n X.c]).take (F.cellsOf 23))=xs[3]?:=a 3 _ rfl;have t:TD enc W n 24 ((List.drop 5 [c0,e,c2,c3,c4,.slice C.A C.n C.c,f,g,j,k,.slice U.A U.n U.c,.slice E.A E.n E.c,.slice X.A X.n X.c]).take (F.cellsOf 24))=xs[4]?:=a 4 _ rfl;have w:=a 5 _ rfl;have x:=a 6 _ rfl;have z:=a 7 _ rfl;have A:=a 8 _ rfl;have B:=a 9 _ rfl;simp only[Kb,Yu,Rr,Yv,Yw,Yx,Yy,List.drop_zero,List.drop_succ_cons,List.take_succ_cons,List.take_zero]at o q r s t w x z A B;obtain⟨y0,e0⟩:=get 0 zz;obtain⟨y1,e1⟩:=get 1 zz;obtain⟨y2,e2⟩:=get 2 zz;obtain⟨y3,e3⟩:=get 3 zz;obtain⟨y4,e4⟩:=get 4 zz;obtain⟨y5,e5⟩:=get 5 zz;obtain⟨y6,e6⟩:=get 6 zz;obtain⟨y7,e7⟩:=get 7 zz;obtain⟨y8,e8⟩:=get 8 zz;obtain⟨y9,e9⟩:=get 9 zz;rw[e0]at o;rw[e1]at q;rw[e2]at r;rw[e3]at s;rw[e4]at t;rw[e5]at w;rw[e6]at x;rw[e7]at z;rw[e8]at A;rw[e9]at B;obtain⟨S,q0, -,-⟩:=DataW.trod_int Tryz.underlying3 o;obtain⟨D,q1, -,-⟩:=DataW.trod_int Tryz.underlying3 q;obtain⟨L,q2, -,-⟩:=DataW.trod_int Tryz.underlying3 r;obtain⟨lo,hi,q3,q4⟩:=zv Tryz.underlying23 rfl rfl rfl rfl s;obtain⟨rf,rh,q6,q7⟩:=zv Tryz.underlying26 rfl rfl rfl rfl w;obtain⟨cf,ch,q8,q9⟩:=zv Tryz.underlying26 rfl rfl rfl rfl x;simp only[np,and_true]at q0 q1 q2;subst q0 q1 q2 q3 q4 q6 q7 q8 q9;refine⟨⟨S,D,L,lo,hi,C,rf,rh,cf,ch,U,E,X⟩,rfl,⟨Q,T,R,V⟩,λG=>?_⟩;unfold mX at G;simp only[Bool.or_eq_false_iff,decide_eq_false_iff_not]at G;obtain⟨⟨⟨n1,n2⟩,n3⟩,n4⟩:=G;obtain⟨a8,a1,a2⟩:=Ka Q lC zz t;obtain⟨a9,b1,b2⟩:=Iy T a6 zz z;obtain⟨le,d1,d2⟩:=Iz R lE zz A;obtain⟨lx,f1,f2⟩:=Uz V a7 zz B;exact⟨⟨a8,a9,le,lx⟩,⟨a1,b1,d1,f1⟩,a2,b2,d2,f2⟩
end
abbrev zy:List (String×DataW Unit):=[("velarium/sail.checks", Rows.laid_velarium_sail_checks)]
def UD:F.globalNamed "velarium/sail.checks" = Y 0:=qa
def UE:(F.globals[0]?).map (·.type)=Y 149:=qa
def Yz:F.cellsOf 148=1:=qa
def YA:F.cellsOf 149=5:=qa
def UF{W:Cl}(h:laidMetH F zy W):aD W:=by
 obtain⟨g,t,cs,fuel,p,o,y,c,w⟩:=h.funcs (q8A.2 rfl);obtain rfl:=km (UD.symm.tn o);obtain rfl:=km (UE.symm.tn y);obtain⟨xs,m, -, z,q,x,a⟩:=DataW.trod_array Tryz.underlying149 w;rw[YA]at q;obtain⟨l⟩:=cs
 match l,q,a,c with
 | [c0,Q,c2,c3,c4],_,a,c=>
  have b:xs.map (·.1)=[.held [40,118,101,108,97,114,105,117,109,47,115,97,105,108,46,104,97,108,108,41,46,103,108,97,115,115],.held [40,118,101,108,97,114,105,117,109,47,115,97,105,108,46,104,97,108,108,41,46,99,108,111,116,104,115],.held [40,118,101,108,97,114,105,117,109,47,115,97,105,108,46,104,97,108,108,41,46,115,117,110,115],.held [40,118,101,108,97,114,105,117,109,47,115,97,105,108,46,104,97,108,108,41,46,101,121,101,115],.held [40,118,101,108,97,114,105,117,109,47,115,97,105,108,46,104,97,108,108,41,46,119,97,116,99,104,101,115]]:=by
   have:=cd Prod.fst z;injection this with h
   exact h.symm
  match xs,x,b,a with
  | [A,B,y2,C,y4],_,b,a=>
   simp only[zM,np,and_true]at b;obtain⟨r,n1,s,u,v⟩:=b;have d:=a 0 zz;have e:=a 1 zz;have f:=a 2 zz;have j:=a 3 zz;have k:=a 4 zz;simp only[Yz,Nat.mul_one,List.drop_zero,List.drop_succ_cons,List.take_succ_cons,List.take_zero,zQ]at d e f j k;obtain⟨a0,b0⟩:=A;obtain⟨E,L⟩:=B;obtain⟨G,N⟩:=y2;obtain⟨J,O⟩:=C;obtain⟨K,P⟩:=y4;simp only at r n1 s u v;subst r n1 s u v;obtain rfl:=func_of_trod (f0:=149) Tryz.underlying148 kr d;obtain rfl:=func_of_trod (f0:=150) Tryz.underlying148 kr e;obtain rfl:=func_of_trod (f0:=151) Tryz.underlying148 kr f;obtain rfl:=func_of_trod (f0:=152) Tryz.underlying148 kr j;obtain rfl:=func_of_trod (f0:=153) Tryz.underlying148 kr k;have hc:=λi=>Cl.var?_cell o c i;have n:W (0,0)=_:=hc 0;exact⟨wY n,n,hc 1,hc 2,hc 3,hc 4⟩
def UG(g:Nat)(h:TA.glob g=true):g=0:=Sd .skip g h
def UH{W:H}(h:aD W):Main (Go.Co.start W) W:=by
 have k:=tA.2 h.1;obtain⟨c,e,z,hc⟩:∃c e z,W.heap[0]?=Y (.cells c e z):=by
  have b:=h.2.1;unfold H.cell? at b;dsimp only at b
  cases l:W.heap[0]? with
  | none=>rw[l]at b;simp at b
  | some o=>
   rw[l]at b
   cases o with
   | cells c e z=>exact⟨c,e,z,rfl⟩
   | _=>simp at b
 have g:∀(i:Nat) v,W (0,i)=Y v->c[i]?=Y v:=λi v a=>by
  unfold H.cell? at a;dsimp only at a;rw[hc]at a;exact a
 obtain⟨-, c0,n,p,q,r⟩:=id h;have y:=g _ _ c0;have A:=g _ _ n;have B:=g _ _ p;have C:=g _ _ q;have m:=g _ _ r;have d:∀{j f:Nat} {v:M},c[j]?=Y (.func (.func f) #[] #[])->c[j]?=Y v->TA.has f=true->TA.ret f=.val->Flat TA (V0 W) W v:=λb h2 s t=>by
  cases b.symm.tn h2;exact .inr (.inr (.inr ⟨_,rfl,s,t⟩))
 refine⟨⟨rfl,rfl,rfl,λx=>il,λx w=>tA.1 w⟩,⟨h,k,c,e,z,hc,?_,λj v u a=>?_⟩,e,k,⟨c,z,hc⟩,UG⟩
 .have:=(ec.1 m).1;omega
 .match j,u,a with
  | 0,_,a=>exact d y a rfl rfl
  | 1,_,a=>exact d A a rfl rfl
  | 2,_,a=>exact d B a rfl rfl
  | 3,_,a=>exact d C a rfl rfl
  | 4,_,a=>exact d m a rfl rfl
def aaP:ownKnob F.godebug=I:=qa
def laidOut:laidOutB F=true:=qa
def Rt(os:Os)(args:Array M):laidMetH F zy ((H.doorLaid F 100 os).forCall (λ_ _=>0) ⟨#[],args,[]⟩).memory:=
 laidMetH_of_parts3 (fuel:=8) (laidMet_of_run' 8 kr kr) kr kr
abbrev YB:aC:=⟨0,0,0,0,0,⟨I,0,0⟩,0,0,0,0,⟨I,0,0⟩,⟨I,0,0⟩,⟨I,0,0⟩⟩
def Ru{W w:H}(h:aH (V0 W) W w):X W W w:=⟨h.os,h.tape,h.output,h.size,λk hk=>h.keep k (tA.2 hk)⟩
def Yt(os:Os)(S:os.Started)(H:Type)(enc:Lk×M->H):
  ReturnsInLeavingWide {} Tryz.checked os 3 .any (λw args=>(Rows.sailSummedSpec.pre enc F Tryz.f3 [] false w args/\laidMetH F zy w)/\sizedMet enc F Tryz.f3 (OpenSpec.ofChange Rows.sailSummedSpec) false w args)
   (Rows.sailSummedSpec.post enc F Tryz.f3 false true false false):=by
 refine returnsInLeavingWide_of_good aaP S (ChangeSpec.witness_shaped (X:=λw _=>laidMetH F zy w) false (Cl.doorLaid F 100 os) (E5 YB 0 0) 6 rfl (Cl.shaped_of_RefB kr kr) kr kr kr (Rt os _)) ?_;intro w tape i _ _ _ hok hpre _;obtain⟨_,_,_,A,K,_,_,_,_,c⟩:=hok;obtain rfl:A=Tryz.f3:=km (K.symm.tn Tryz.func3);obtain⟨⟨⟨ds,gs,T,a,hc⟩,d⟩,R⟩:=hpre;have a:=DataW.Whole.of_heap (w':=w.forCall tape i) (by rfl) a;have d:laidMetH F zy (w.forCall tape i):=laidMetH.of_heap (by rfl) d;clear hc R;generalize w.forCall tape i=W at c a d|-;generalize i.args=args at c a|-;have j:=a;obtain⟨p,q,g,C,rfl, -,-⟩:=a;rw[Tryz.params3]at g c;obtain⟨m,a4,U,a1,p0,q0,E,rfl,rfl,f,O⟩:=trodAll_cons g;obtain⟨o,a5,V,a2,p1,q1,rfl,rfl,rfl,B,P⟩:=trodAll_cons O;obtain⟨r,a6,Z,a3,p2,q2,rfl,rfl,rfl,h2,Q⟩:=trodAll_cons P;obtain⟨rfl,rfl,rfl⟩:=trodAll_nil Q;obtain rfl:args= #[m,o,r]:=by
  obtain⟨l⟩:=args;exact cd Array.mk E
 obtain⟨rfl,rfl⟩:=trodVars_none C;obtain⟨b,rfl,J,G⟩:=M4 (c 0 31 m rfl rfl) f;have k:∀{n},(Lit.int .u8 n).wf=true->0<=n/\n<=255:=λh=>by simp only[Lit.wf,du,decide_eq_true_eq]at h;exact h
 obtain⟨n1,rfl,rfl,rfl,s⟩:=open_int Tryz.underlying5 (c 1 5 o rfl rfl) B;obtain⟨n2,rfl,rfl,rfl,t⟩:=open_int Tryz.underlying5 (c 2 5 r rfl rfl) h2;refine Vy ua rfl (L0 W) rfl rfl (XK (k t) (k s) (UH (UF d)) (λx e=>⟨rfl,e⟩) J (λL=>?_) λw' N=>ChangeSpec.post_blind ?_)
 .obtain⟨l,e1,u,v,y,z⟩:=G L;exact⟨l,e1,B9 _,u,v,y,z,Gx _ _ _⟩
 .have hB:=Ru N;have a0:=Hd.trod laidOut kr (of_decide_eq_true kr) f hB λx e=>j.lt x (by simp[e]);exact⟨_,_,_,[],_,[],j,trodAll_mk1 (shut_bool Tryz.underlying4 _),trodAll_cons_mk a0 (trodAll_mk2 (shut_int Tryz.underlying5 s) (shut_int Tryz.underlying5 t)),rfl,hB.frame _,λh=>by cases h⟩
open Go
def sailSummed_holds:Rows.SailSummedSaid:=
 OpenClaim.holds_of_wide_leaving 3 Tryz.f3 rfl rfl rfl rfl rfl rfl rfl ⟨rfl,rfl,rfl,rfl,rfl⟩ rfl rfl rfl rfl rfl kr Tryz.func3 kr
  (of_decide_eq_true kr) (by unfold Func.isWrapper;first|(rw[qWB (by decide +kernel)];kernel_rfl)|(rw[qVB (by decide +kernel)];exact⟨rfl,rfl⟩))
  (λos a H enc _=>Yt os a H enc)
def sailSummed_card:Rows.SailSummedCardSaid:=
 ⟨Claim7.tied_new_at .later [.funcs] true (Claim7.new_of_sixth sailSummed_holds (true, "d26c684875c8bae4047ab7699cf530cce91579bb148cf552a6dc18149db57068") false rfl ⟨rfl,rfl⟩ kr rfl λf fn c d=>by
  obtain rfl:f=3:=km ((show F.funcNamed "velarium/velariumlaw05.SailSummed" = Y 3 by kernel_rfl).symm.tn c) |>.symm;obtain rfl:fn=Tryz.f3:=(km (Tryz.func3.symm.tn d)).symm;exact⟨by kernel_rfl,λj t a=>by
   rw[Tryz.params3]at a;have b:t=31\/t=5:=by
    rcases j with _|_|_|j
    .exact .inl (by simpa using a.symm)
    .exact .inr (by simpa using a.symm)
    .exact .inr (by simpa using a.symm)
    .simp at a
   rcases b with rfl|rfl
   .exact(show F.wantsStandIn 31=false by kernel_rfl)
   .exact(show F.wantsStandIn 5=false by kernel_rfl)⟩) kr,(λ_ h=>by cases h),sailSummed_row_tie,(λh=>by cases h),by kernel_rfl⟩
end Go.Proofs.YtfdbdkhgaajdoaaGreatDoor
