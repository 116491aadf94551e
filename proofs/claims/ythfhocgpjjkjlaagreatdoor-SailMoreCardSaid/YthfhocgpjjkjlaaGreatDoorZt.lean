import Derived.Test.YthfhocgpjjkjlaaGreatDoorZs
set_option maxRecDepth 100000
set_option maxHeartbeats 4000000
set_option linter.all false
noncomputable section
open Go.Proofs.Tryz renaming prog->F
open Go renaming World->H,Value->Ha,execOp->Hn,Frame->Kf,Oper->Kp,TypeId->Lk,Value->M,Calls->PH,Goroutine->QP,resolve->ab,Operand->ae,MemOp->al,yielded->aw,FuncId->ba
open Option renaming none->I,some->Y
namespace Go.Proofs.YthfhocgpjjkjlaaGreatDoor
open Go.RowKit Go.Co Go.Conc
variable{j i n d:Nat}{t t' e0:Lk}{x y:ae}{a c:Int}{main:Bool}{Stop:(Nat->Prop)->(Nat->Prop)->QP->H->Prop}{V O:Nat->Prop}{w:H}{b:Kf}{k:List Item}{cs:List Kf}{ops:Array Kp}{rest:List Nat}{o:Kp}{f:Nat->M}
def az{j g:Nat}{t:Bool}(b:o.guard=Y (j,t))(c:(ops[j]?).bind (·.dst)=Y g)(d:g<n)(a:f g=.bool t):Region.wanted o (aw ops (fa n f).tmps)=true:=by
 unfold Region.wanted;rw[b];simp only[xM c d a,beq_self_eq_true]
def WalkE.pv(v:M)(j:ops[i]?=Y o)(c:o.dst=Y d)(a:d<n)(m:Region.wanted o (aw ops (fa n f).tmps)=true)(hk:b.kind≠.early)
  (l:∀bj,(Hn (fa n f).eval o).run F bj=.ok (.value v) bj)(g:∀bj,(Hn (fa n f).eval o).events F bj #[]= #[])
  (next:WO main Stop V O b n (ah f d v) ops rest k cs w):WO main Stop V O b n f ops (i::rest) k cs w:=
 WalkE.value v j m hk (λbj _=>l bj) (λbj _ e h=>by rw[g]at h;simp at h) (by rw[c,cw a];exact next)
def WalkE.av(v:M)(g:ops[i]?=Y o)(a:o.op=.move x\/o.op=.assign x)(l:(fa n f).eval x=v)(e:o.dst=Y d)(c:d<n)(j:Region.wanted o (aw ops (fa n f).tmps)=true)(hk:b.kind≠.early)
  (next:WO main Stop V O b n (ah f d v) ops rest k cs w):WO main Stop V O b n f ops (i::rest) k cs w:=by
 refine WalkE.pv v g e c j hk (λbj=>?_) (λbj=>?_) next
 .unfold Hn;rcases a with h|h<;>simp only[h,l]<;>rfl
 .unfold Hn;rcases a with h|h<;>simp only[h]<;>rfl
theorem WalkE.iA(r:Bool)(m:ops[i]?=Y o)(e:o.op=.binOp .neq t x y t')(g:(fa n f).eval x=.int .i64 a)(h:(fa n f).eval y=.int .i64 c)(p:(a != c)=r)(l:o.dst=Y d)(j:d<n)(q:Region.wanted o (aw ops (fa n f).tmps)=true)(hk:b.kind≠.early)
  (next:WO main Stop V O b n (ah f d (.bool r)) ops rest k cs w):WO main Stop V O b n f ops (i::rest) k cs w:=by
 subst p;refine WalkE.pv _ m l j q hk (λbj=>?_) (λbj=>?_) next
 .unfold Hn;simp only[e,g,h];go_simp
 .unfold Hn;simp only[e,g,h];simp[go_sem]
theorem WalkE.Hr(r:Bool)(m:ops[i]?=Y o)(e:o.op=.binOp .eql t x y t')(g:(fa n f).eval x=.int .i64 a)(h:(fa n f).eval y=.int .i64 c)(p:(a==c)=r)(l:o.dst=Y d)(j:d<n)(q:Region.wanted o (aw ops (fa n f).tmps)=true)(hk:b.kind≠.early)
  (next:WO main Stop V O b n (ah f d (.bool r)) ops rest k cs w):WO main Stop V O b n f ops (i::rest) k cs w:=by
 subst p;refine WalkE.pv _ m l j q hk (λbj=>?_) (λbj=>?_) next
 .unfold Hn;simp only[e,g,h];go_simp
 .unfold Hn;simp only[e,g,h];simp[go_sem]
theorem WalkE.Zr(j:ops[i]?=Y o)(a:o.op=.binOp .neq 23 (.tmp 229) (.tmp 230) 23)(c:(fa n f).eval (.tmp 229)=.agg #[.int .i64 0,.int .i64 2])(e:(fa n f).eval (.tmp 230)=.agg #[.int .i64 0,.int .i64 2])(h:o.dst=Y d)(g:d<n)(l:Region.wanted o (aw ops (fa n f).tmps)=true)(hk:b.kind≠.early)
  (next:WO main Stop V O b n (ah f d (.bool false)) ops rest k cs w):WO main Stop V O b n f ops (i::rest) k cs w:=by
 refine WalkE.pv _ j h g l hk (λbj=>?_) (λbj=>?_) next
 .unfold Hn;simp only[a,c,e];go_simp
 .unfold Hn;simp only[a,c,e];kernel_rfl
theorem WalkE.Xa(r:Bool)(m:ops[i]?=Y o)(e:o.op=.binOp .gtr t x y t')(g:(fa n f).eval x=.int .i64 a)(h:(fa n f).eval y=.int .i64 c)(p:decide (c<a)=r)(l:o.dst=Y d)(j:d<n)(q:Region.wanted o (aw ops (fa n f).tmps)=true)(hk:b.kind≠.early)
  (next:WO main Stop V O b n (ah f d (.bool r)) ops rest k cs w):WO main Stop V O b n f ops (i::rest) k cs w:=by
 subst p;refine WalkE.pv _ m l j q hk (λbj=>?_) (λbj=>?_) next
 .unfold Hn;simp only[e,g,h];go_simp
 .unfold Hn;simp only[e,g,h];simp[go_sem]
theorem WalkE.BS{a:Bool}(r:Bool)(j:ops[i]?=Y o)(c:o.op=.unOp .not t x)(e:(fa n f).eval x=.bool a)(l:(!a)=r)(h:o.dst=Y d)(g:d<n)(m:Region.wanted o (aw ops (fa n f).tmps)=true)(hk:b.kind≠.early)
  (next:WO main Stop V O b n (ah f d (.bool r)) ops rest k cs w):WO main Stop V O b n f ops (i::rest) k cs w:=by
 subst l;refine WalkE.pv _ j h g m hk (λbj=>?_) (λbj=>?_) next
 .unfold Hn;simp only[c,e];go_simp
 .unfold Hn;simp only[c,e];simp[go_sem]
theorem WalkE.cj{c x y:ae}{a:Bool}(v:M)(l:ops[i]?=Y o)(g:o.op=.pick c x y)(e:(fa n f).eval c=.bool a)(m:(if a then(fa n f).eval x else(fa n f).eval y)=v)(j:o.dst=Y d)(h:d<n)(p:Region.wanted o (aw ops (fa n f).tmps)=true)(hk:b.kind≠.early)
  (next:WO main Stop V O b n (ah f d v) ops rest k cs w):WO main Stop V O b n f ops (i::rest) k cs w:=by
 subst m;refine WalkE.pv _ l j h p hk (λbj=>?_) (λbj=>?_) next
 .unfold Hn;simp only[g,e];cases a<;>go_simp
 .unfold Hn;simp only[g,e];simp[go_sem]
theorem WalkE.Xb{A:Option Addr}{m c:Nat}(l:ops[i]?=Y o)(a:o.op=.call {callee:=.builtin .len,args:= #[x],argTypes:= #[24]})(g:(fa n f).eval x=.slice A m c)(e:o.type=3)(j:o.dst=Y d)(h:d<n)(p:Region.wanted o (aw ops (fa n f).tmps)=true)(hk:b.kind≠.early)
  (next:WO main Stop V O b n (ah f d (.int .i64 m)) ops rest k cs w):WO main Stop V O b n f ops (i::rest) k cs w:=by
 refine WalkE.pv _ l j h p hk (λbj=>?_) (λbj=>?_) next
 .unfold Hn;simp only[a,ab,zM,g,e];go_simp
 .unfold Hn;simp only[a,ab,zM,g,e];simp[go_sem]
theorem WalkE.ack{vs:Array M}(v:M)(m:ops[i]?=Y o)(e:o.op=.extract x j)(g:(fa n f).eval x=.tuple vs)(a:vs[j]?=Y v)(l:o.dst=Y d)(h:d<n)(p:Region.wanted o (aw ops (fa n f).tmps)=true)(hk:b.kind≠.early)
  (next:WO main Stop V O b n (ah f d v) ops rest k cs w):WO main Stop V O b n f ops (i::rest) k cs w:=by
 have c:=(ec.1 a).1;refine WalkE.pv v m l h p hk (λbj=>?_) (λbj=>?_) next
 .unfold Hn;simp only[e,g];simp[go_sem,a,c,(ec.1 a).2]
 .unfold Hn;simp only[e,g];simp[go_sem,a,c,(ec.1 a).2]
variable{s:Sl}{size B N:Nat}{xs:List M}{y v':M}{Z ρ0:Ren}{T:P3}{V0 O0:Nat->Prop}{w0 W:H}{b:aC}{l:pK}
def Hs(h:sq T V w (.slice s.A s.n s.c) size s.n xs):cM T V w s (s.n*size)/\s.n<=s.c/\(0<s.n->∃g,s.A=Y ⟨g,0,I⟩/\g<w.heap.size/\∀(j:Nat) x,xs[j]?=Y x->w (g,j)=Y x):=by
 obtain⟨A,n,c⟩:=s;obtain⟨-, ⟨b,h2⟩|⟨g,q,b,h2, -, k,l⟩⟩:=h
 .simp only[lL]at b;obtain⟨rfl,rfl,rfl⟩:=b;exact⟨λa d=>(by cases d),qN _,λh=>mi h (dj _)⟩
 .simp only[lL]at b;obtain⟨rfl, -, rfl⟩:=b;obtain⟨i,c,e,z,f,hk,m⟩:=k;refine⟨λa d=>?_,h2,λ_=>⟨g,rfl,(ec.1 f).1,l⟩⟩;cases d;exact⟨rfl,i,⟨c,e,z,f⟩,λ_=>⟨i,c,e,z,f,by simpa using hk,λj v o p=>m j v (by simpa using o) p⟩⟩
def Pj{l:List Int}(h:sq T V w (.slice s.A s.n s.c) 1 s.n (l.map (M.int .i64)))(b:s.n=l.length)(hl:l.length<=1000):eC w s l/\cM T V w s l.length:=by
 obtain⟨a,h2,c⟩:=Hs h;rw[Nat.mul_one,b]at a;refine⟨⟨b,zz,hl,λi=>?_⟩,a⟩;obtain⟨g,d,f,e⟩:=c zz;refine⟨g,0,d,f,λk hk=>?_⟩;rw[kx];exact e _ _ (by simp[List.getD,iv hk])
def AP{l:List (Int×Int)}(h:sq T V w (.slice s.A s.n s.c) 2 s.n (l.flatMap pG))(c:s.n=l.length)(hl:l.length<=1000):Cf w s l/\cM T V w s (l.length*2):=by
 obtain⟨a,h2,d⟩:=Hs h;rw[c]at a;refine⟨⟨c,zz,hl,λi=>?_⟩,a⟩;obtain⟨g,e,f,b⟩:=d zz;refine⟨g,0,e,f,λk hk=>?_⟩;rw[kx];exact⟨b _ _ ((fO pG 2 (λ_=>rfl) (0,0) l k 0 hk zz).tn rfl),b _ _ ((fO pG 2 (λ_=>rfl) (0,0) l k 1 hk zz).tn rfl)⟩
def Tq{l:List (Int×Int×Bool)}(h:sq T V w (.slice s.A s.n s.c) 3 s.n (l.flatMap rO))(c:s.n=l.length)(hl:l.length<=1000):fL w s l/\cM T V w s (l.length*3):=by
 obtain⟨b,h2,d⟩:=Hs h;rw[c]at b;refine⟨⟨c,zz,hl,λi=>?_⟩,b⟩;obtain⟨g,e,f,a⟩:=d zz;refine⟨g,0,e,f,λk hk=>?_⟩;rw[kx];exact⟨a _ _ ((fO rO 3 (λ_=>rfl) (0,0,false) l k 0 hk zz).tn rfl),a _ _ ((fO rO 3 (λ_=>rfl) (0,0,false) l k 1 hk zz).tn rfl),a _ _ ((fO rO 3 (λ_=>rfl) (0,0,false) l k 2 hk zz).tn rfl)⟩
def BT(x:Int):eR (.int .i64 x)/\jU (.int .i64 x):=⟨aG _ _,cR _ _⟩
def rG(l:List Int):∀x∈l.map (M.int .i64),eR x/\jU x:=λx a=>by
 obtain⟨y, -, rfl⟩:=List.mem_map.1 a;exact BT y
def TN(l:List (Int×Int)):∀x∈l.flatMap pG,eR x/\jU x:=λx a=>by
 obtain⟨y, -, h⟩:=List.mem_flatMap.1 a;simp only[pG,dq,fp,or_false]at h;rcases h with rfl|rfl<;>exact BT _
def Jv(l:List (Int×Int×Bool)):∀x∈l.flatMap rO,eR x/\jU x:=λx a=>by
 obtain⟨y, -, h⟩:=List.mem_flatMap.1 a;simp only[rO,dq,fp,or_false]at h;rcases h with rfl|rfl|rfl
 .exact BT _
 .exact BT _
 .exact⟨dQ _,sN _⟩
def um(c:ir T F N V0 O0 w0 ρ0 Z W w V O)(hB:N<=B){e:Lk}(h:W.ownsRow B e size (.slice s.A s.n s.c) s.n xs)(d:VR Z (.slice s.A s.n s.c) y)(f:∀x∈xs,eR x/\jU x):
  ∃s':Sl,y=.slice s'.A s'.n s'.c/\s'.n=s.n/\sq T V w (.slice s'.A s'.n s'.c) size s'.n xs:=by
 obtain⟨b,h2⟩:=c.row h hB d f;obtain⟨a,rfl⟩:=h2 _ _ _ rfl;exact⟨⟨a,s.n,s.c⟩,rfl,rfl,b⟩
def Zs{a0 a1 a2 a3 a4 a5 a6 a7 a8 a9 a10 a11 a12 v':M}(h:VR Z (.agg #[a0,a1,a2,a3,a4,a5,a6,a7,a8,a9,a10,a11,a12]) v'):
  ∃b0 b f g i j k m n o c d e,v'=.agg #[b0,b,f,g,i,j,k,m,n,o,c,d,e]/\VR Z a0 b0/\VR Z a1 b/\VR Z a2 f/\VR Z a3 g/\VR Z a4 i/\VR Z a5 j/\VR Z a6 k/\VR Z a7 m/\VR Z a8 n/\VR Z a9 o/\VR Z a10 c/\VR Z a11 d/\VR Z a12 e:=by
 cases h with
 | @agg _ _ q p a=>
  obtain⟨l⟩:=q;simp only[List.size_toArray,ed,lA]at p
  match l,p with
  | [b0,b,f,g,i,j,k,m,n,o,c,d,e],_=>
   exact⟨b0,b,f,g,i,j,k,m,n,o,c,d,e,rfl,a 0 _ _ rfl rfl,a 1 _ _ rfl rfl,a 2 _ _ rfl rfl,a 3 _ _ rfl rfl,a 4 _ _ rfl rfl,a 5 _ _ rfl rfl,a 6 _ _ rfl rfl,a 7 _ _ rfl rfl,a 8 _ _ rfl rfl,a 9 _ _ rfl rfl,a 10 _ _ rfl rfl,a 11 _ _ rfl rfl,a 12 _ _ rfl rfl⟩
def yK(h:VR Z b.v v'):∃c u e x,v'=.agg #[.int .i64 b.S,.int .i64 b.D,.int .i64 b.L,.int .i64 b.lo,.int .i64 b.hi,c,.int .i64 b.rf,.int .i64 b.rh,.int .i64 b.cf,.int .i64 b.ch,u,e,x]/\VR Z (.slice b.C.A b.C.n b.C.c) c/\VR Z (.slice b.U.A b.U.n b.U.c) u/\VR Z (.slice b.E.A b.E.n b.E.c) e/\VR Z (.slice b.W.A b.W.n b.W.c) x:=by
 unfold aC.v at h;obtain⟨b0,q,v,w,y,z,A,B,C,E,r,s,t,rfl,a,d,h2,j,k,l,m,n,o,p,f,g,i⟩:=Zs h;obtain rfl:=aG _ _ Z _ a;obtain rfl:=aG _ _ Z _ d;obtain rfl:=aG _ _ Z _ h2;obtain rfl:=aG _ _ Z _ j;obtain rfl:=aG _ _ Z _ k;obtain rfl:=aG _ _ Z _ m;obtain rfl:=aG _ _ Z _ n;obtain rfl:=aG _ _ Z _ o;obtain rfl:=aG _ _ Z _ p;exact⟨_,_,_,_,rfl,l,f,g,i⟩
def EB(a:ir T F N V0 O0 w0 ρ0 Z W w V O)(hB:N<=B)(h:l5 W B b l)(k:VR Z b.v v'):∃C U E X:Sl,v'=({b with C:=C,U:=U,E:=E,W:=X}:aC).v/\cy T V w {b with C:=C,U:=U,E:=E,W:=X} l:=by
 obtain⟨c,u,e,x,rfl,g,h2,i,j⟩:=yK k;obtain⟨C,rfl,n1,t⟩:=um a hB h.C g (rG _);obtain⟨U,rfl,q,v⟩:=um a hB h.U h2 (TN _);obtain⟨E,rfl,r,y⟩:=um a hB h.E i (TN _);obtain⟨X,rfl,s,r4⟩:=um a hB h.W j (Jv _);obtain⟨m,d⟩:=Pj t (n1.tn h.nC) h.bC;obtain⟨n,f2⟩:=AP v (q.tn h.nU) h.bU;obtain⟨o,f3⟩:=AP y (r.tn h.nE) h.bE;obtain⟨p,f⟩:=Tq r4 (s.tn h.nW) h.bW;exact⟨C,U,E,X,rfl,⟨m,n,o,p⟩,d,f2,f3,f⟩
def BU{hB:Base T V0 w0 e0}(hle:(gr hB).le Z){m:Nat}(h:cM T V0 w0 s m)(f:VR Z (.slice s.A s.n s.c) y):y=.slice s.A s.n s.c:=by
 obtain⟨A,n,c⟩:=s
 cases A with
 | none=>cases f;rfl
 | some a=>
  obtain⟨d,h2,k,-⟩:=h a rfl;have e:=hle.at_ _ _ (mH (hB:=hB) ⟨h2,.inl k⟩)
  cases f with
  | @slice _ _ j _ _ l=>
   obtain⟨o,g,s,b,i,-⟩:=l;obtain⟨p,off,t⟩:=a;obtain⟨q,r,u⟩:=j;simp only at d o g b i e;rw[e]at b;simp only[fg,Prod.mk.injEq]at b;obtain⟨rfl,rfl⟩:=b;subst d g i;rfl
def BV{hB0:Base T V0 w0 e0}(a:ir T F N V0 O0 w0 (gr hB0) Z W w V O)(hB:N<=B)(f:cy T V0 w0 b l){X:Sl}{L:List (Int×Int×Bool)}(m:X.n=L.length)(k:L.length<=1000)(n:W.ownsRow B 72 3 (.slice X.A X.n X.c) X.n (L.flatMap rO))(o:VR Z ({b with W:=X}:aC).v v'):
  ∃X':Sl,v'=({b with W:=X' }:aC).v/\cy T V w {b with W:=X' } {l with W:=L}:=by
 obtain⟨c,u,e,x,rfl,h,h2,i,j⟩:=yK o;obtain rfl:=BU a.le f.C h;obtain rfl:=BU a.le f.U h2;obtain rfl:=BU a.le f.E i;obtain⟨X',rfl,r,r4⟩:=um a hB n j (Jv _);obtain⟨q,g⟩:=Tq r4 (r.tn m) k;have d:=f.mono (λx p=>(a.hV x).2 (.inl p)) a.keep;exact⟨X',rfl,⟨d.at_.C,d.at_.U,d.at_.E,q⟩,d.C,d.U,d.E,g⟩
variable{v a b:M}{xs:List Int}{g:Nat}{bm bo:Nat->Prop}{bj:H}
def dK(V:Nat->Prop)(w:H)(v:M)(xs:List Int):Prop:=mg w v xs/\∀x,sB v x->V x
section
variable{b:Kf}
def dK.bH(h:dK V w v xs)(b:dU V O w bm bo bj):dK bm bj v xs:=⟨h.1.keep λx a=>b.rely.keep x (h.2 x a),λx a=>b.vv x (h.2 x a)⟩
def dK.sl(h:dK V w v xs)(hl:xs.length<=1000):v=.slice (fF v).A (fF v).n (fF v).c/\eC w (fF v) xs/\cM TA V w (fF v) xs.length:=⟨h.1.fF.1,h.1.ints hl,h.1.flat h.2⟩
end
end Go.Proofs.YthfhocgpjjkjlaaGreatDoor
open Go in
open Go.Proofs.YthfhocgpjjkjlaaGreatDoor in
open Go.RowKit Go.Co Go.Conc in
variable{V:Nat->Prop} in
variable{w:H} in
variable{o:Kp} in
variable{N:Nat} in
variable{Z:Ren} in
def Go.Co.sq.PN{T:P3}{v:Ha}{m:Nat}{xs:List Int}(h:sq T V w v 1 m (xs.map (Ha.int .i64))):dK V w v xs:=h.zZ
namespace Go.Proofs.YthfhocgpjjkjlaaGreatDoor
open Go.RowKit Go.Co Go.Conc
variable{j i n d:Nat}{t t' e0:Lk}{x y:ae}{a c:Int}{main:Bool}{Stop:(Nat->Prop)->(Nat->Prop)->QP->H->Prop}{V O:Nat->Prop}{w:H}{b:Kf}{k:List Item}{cs:List Kf}{ops:Array Kp}{rest:List Nat}{o:Kp}{f:Nat->M}
variable{s:Sl}{size B N:Nat}{xs:List M}{y v':M}{Z ρ0:Ren}{T:P3}{V0 O0:Nat->Prop}{w0 W:H}{b:aC}{l:pK}
variable{v a b:M}{xs:List Int}{g:Nat}{bm bo:Nat->Prop}{bj:H}
section
variable{b:Kf}
def Tk{e:Lk}{z:Nat×Nat}(h:w.heap[g]?=Y (.cells (xs.map (M.int .i64)).toArray e z))(hl:xs.length<=maxLen)(d:V g):dK V w (.slice (Y (g,0)) xs.length xs.length) xs:=
 ⟨.inr ⟨g,xs.length,_,e,z,rfl,h,qN _,hl,by simp,λj x b=>by simp[b]⟩,λx b=>by
  obtain⟨a,l,c,e,rfl⟩:=b;cases e;exact d⟩
def WalkE.ZB{fn:ba}{args:Array M}{R:M->H->Prop}(a:ops[i]?=Y o)(s:o.dst=Y d)(r:d<n)(A:Region.wanted o (aw ops (fa n f).tmps)=true)(hk:b.kind≠.early)
  (y:∀bj,(Hn (fa n f).eval o).run F bj=.ok (.enter fn args) bj)(t:∀bj,(Hn (fa n f).eval o).events F bj #[]= #[])
  (hB:Base TA V w e0)(p:∀b,V b->b<w.heap.size)(u:TA.has fn=true)(z:TA.ret fn=.val)(m:KR (TA.kind fn) (gr hB) args args)(q:∀C,PH F fn args (tp (gw TA V e0 w) C w.drawn) λe W=>∃v,e=.returned v/\R v W)
  (next:∀Z v W v' bj bm bo,R v W->VR Z v v'->ir TA F w V O w (gr hB) Z W bj bm bo->WO main Stop bm bo b n (ah f d v') ops rest k cs bj):WO main Stop V O b n f ops (i::rest) k cs w:=by
 refine WalkE.enter a A hk y t ?_;refine IV (T:=TA) (hB:=hB) (I1 .skip) u p m q (λe W h=>⟨h.choose,h.choose_spec.1⟩) (λZ B g v' bj bm bo x c j=>?_);obtain⟨v,e1,l⟩:=x;cases e1;rw[z]at c;rw[Kf.finish_at];rw[show(ops[i]?).bind (·.dst)=Y d by rw[a];exact s,cw r];exact next Z B g v' bj bm bo l c j
def WalkE.fill(g:Nat)(w':H->H)(c:O g)(m:V g)(s:ops[i]?=Y o)(p:o.dst=I)(u:Region.wanted o (aw ops (fa n f).tmps)=true)(hk:b.kind≠.early)
  (t:∀bj,aH V w bj->(Hn (fa n f).eval o).run F bj=.ok .skip (w' bj)/\aS (λx=>x≠g) bj (w' bj)/\(w' bj).heap.size=bj.heap.size)
  (q:∀bj,aH V w bj->∀e∈(Hn (fa n f).eval o).events F bj #[],∃j wr,e=⟨.cell ⟨g,j,I⟩,wr,false⟩)
  (next:∀bj,aH V w bj->WO main Stop V O b n f ops rest k cs (w' bj)):WO main Stop V O b n f ops (i::rest) k cs w:=
 WalkE.step rfl λbj a=>by
  obtain⟨d,h2,l⟩:=t bj a;refine⟨_,w' bj,_,V,O,stepG_none s u hk d,⟨_,_,rfl⟩,⟨h2.tape,h2.os,h2.output,Nat.le_of_eq l.symm,λx v r=>h2.block x v (λe=>r (by rw[e];exact c)),λx=>⟨.inl,λh=>h.elim id λh=>zz⟩,λx=>⟨.inl,λh=>h.elim id λh=>zz⟩,λe h=>?_⟩,?_⟩
  .obtain⟨j,wr,rfl⟩:=q bj a e (oD h);exact⟨rfl,m,λ_=>c⟩
  .rw[p,IW];exact next bj a
end
def Xl(h:VR Z (.tuple #[a,b]) v'):∃c d,v'=.tuple #[c,d]/\VR Z a c/\VR Z b d:=by
 cases h with
 | @tuple _ _ g e f=>
  obtain⟨l⟩:=g;simp only[List.size_toArray,ed,lA]at e
  match l,e with
  | [x,y],_=>exact⟨x,y,rfl,f 0 _ _ rfl rfl,f 1 _ _ rfl rfl⟩
def ZC{a b c v':M}(h:VR Z (.tuple #[a,b,c]) v'):∃e f c',v'=.tuple #[e,f,c']/\VR Z a e/\VR Z b f/\VR Z c c':=by
 cases h with
 | @tuple _ _ i g d=>
  obtain⟨l⟩:=i;simp only[List.size_toArray,ed,lA]at g
  match l,g with
  | [x,y,z],_=>exact⟨x,y,z,rfl,d 0 _ _ rfl rfl,d 1 _ _ rfl rfl,d 2 _ _ rfl rfl⟩
structure cr(V O:Nat->Prop)(w:H):Prop where
 vo:∀x,V x↔O x
 cX:∀x,V x->x<w.heap.size
 base:∃e0,Base TA V w e0
 checks:dJ TA V w
structure vV(V O:Nat->Prop)(w:H)(g:Nat)(b:aC)(l:pK):Prop where
 co:cr V O w
 book:cy TA V w b l
 gV:V g
 box:∀i v,(wE b)[i]?=Y v->w.cell? ⟨g,i,I⟩=Y v
 free:∀i,w.frozen? ⟨g,i,I⟩=false
def nY{w bj:H}{g i:Nat}(hk:bj.heap[g]?=w.heap[g]?)(h:w.frozen? (g,i)=false):bj.frozen? (g,i)=false:=by
 unfold H.frozen? at h |-; rw[hk];exact h
section
variable{b:aC}
def cr.bH(h:cr V O w)(a:dU V O w bm bo bj):cr bm bo bj:=
 ⟨a.all h.vo,a.cX,let⟨e,hB⟩:=h.base;⟨e,hB.mono a.vv a.rely.keep⟩,h.checks.mono a.vv a.rely.keep⟩
def vV.bH(h:vV V O w g b l)(a:dU V O w bm bo bj):vV bm bo bj g b l:=
 ⟨h.co.bH a,h.book.mono a.vv a.rely.keep,a.vv _ h.gV,λi v c=>aV (a.rely.keep _ h.gV) (h.box i v c),λi=>nY (a.rely.keep _ h.gV) (h.free i)⟩
def cr.refl(h:cr V O w):dU V O w V O w:=dU.refl h.cX
def dU.fill(h:dU V O w bm bo bj){dv:H}(hk:aS (λx=>x≠g) bj dv)(c:(dv:Nat)=bj)(d:w.heap.size<=g)(b:∀x,V x->x<w.heap.size):dU V O w bm bo dv:=
 ⟨h.vv,h.vo,h.oo,h.ov,h.rely.tn ⟨hk.tape,hk.os,hk.output,hk.size,λx a=>hk.block x (qP (b x a) h.rely.size) (λe=>by have:=b x a;omega)⟩,λx a=>by rw[c];exact h.cX x a⟩
end
end Go.Proofs.YthfhocgpjjkjlaaGreatDoor
