import Derived.Test.YtfcgpihkimpkcaaGreatDoorZp
set_option maxRecDepth 100000
set_option maxHeartbeats 4000000
set_option linter.all false
noncomputable section
open Go renaming undef->D,World->H,execOp->Hn,Oper->Kp,TypeId->Lk,Code->Ly,Value->M,Calls->PH,heap_alloc_new->Sp,resolve->ab,Operand->ae,yielded->aw,FuncId->ba,bodyPost_ret->bd
open Go.Proofs.Tryz renaming prog->F,prog->Hb
open Go.Lib renaming hid->Hm
open Option renaming none->I,some->Y
open Go.RowKit renaming Hid->PQ,Below->X
namespace Go
def sT{p:Prop}(h:p:=by
 first|have _:=ø;refine wp_block (wp_loop (λa w=>∃(k:Nat) (f':Nat->M),k<=l.length/\a=fa 119 f'/\f' 1=.pointer (Y ⟨g,0,I⟩)/\f' 4=.int .i64 k/\X u.heap.size u w/\nD b.S l=nD b.S (l.drop k)) (λa _=>l.length-(intOf (a.tmps.getD 4 D)).toNat) ⟨0,f,fi _,rfl,K,h4,hB,rfl⟩ λa w1 Q=>?_);obtain⟨k,P,hk,rfl,e1,E,hB,d⟩:=Q;rw[Qm];have a2:b.U.n=l.length:=C.1|have _:=å;refine wp_block (wp_loop (λa w=>∃(k:Nat) (f':Nat->M),k<=l.length/\a=fa 119 f'/\f' 1=.pointer (Y ⟨g,0,I⟩)/\f' 5=.int .i64 k/\X u.heap.size u w/\nF b.rf b.ch l=nF b.rf b.ch (l.drop k)) (λa _=>l.length-(intOf (a.tmps.getD 5 D)).toNat) ⟨0,f,fi _,rfl,K,h5,hB,rfl⟩ λa w1 Q=>?_);obtain⟨k,P,hk,rfl,e1,G,hB,d⟩:=Q;rw[Qn];have a2:b.E.n=l.length:=C.1|refine wp_block (wp_loop (λa w=>∃(k:Nat) (f':Nat->M),k<=l.length/\a=fa 119 f'/\f' 1=.pointer (Y ⟨g,0,I⟩)/\f' 6=.int .i64 k/\X u.heap.size u w/\qi b.S b.U.n l=qi b.S b.U.n (l.drop k)) (λa _=>l.length-(intOf (a.tmps.getD 6 D)).toNat) ⟨0,f,fi _,rfl,K,h6,hB,rfl⟩ λa w1 Q=>?_);obtain⟨k,P,hk,rfl,e1,U,hB,d⟩:=Q;rw[Qo];have a2:b.W.n=l.length:=C.1
 have a9:l.length<=1000:=C.2.2.1;first|have _:=ø;by_cases a1:k<b.U.n|have _:=å;by_cases a1:k<b.E.n|by_cases a1:k<b.W.n
 .have t:k<l.length:=zz;obtain⟨a7,off,V,b2,W⟩:=C.2.2.2 zz;first|have _:=ø;rw[V]at x10;obtain⟨c0,O⟩:=W k t;have c:=Al b.S l k t;generalize(l.getD k (0,0)).1=x at c c0;generalize(l.getD k (0,0)).2=y at c O;refine wp_seq (bn u (· < 7) (λf'=>f' 21=.bool true) rr λJ T hB s q=>wp_cond_true (ag zz q) (wp_skip ?_))|have _:=å;rw[V]at x11;obtain⟨c0,O⟩:=W k t;have c:=Am b.rf b.ch l k t;generalize(l.getD k (0,0)).1=x at c c0;generalize(l.getD k (0,0)).2=y at c O;refine wp_seq (bn u (· < 7) (λf'=>f' 49=.bool true) rr λJ T hB s q=>wp_cond_true (ag zz q) (wp_skip ?_))|rw[V]at x12;obtain⟨c0,O,c2⟩:=W k t;have c:=Dh b.S b.U.n l k t;generalize(l.getD k (0,0,false)).1=x at c c0;generalize(l.getD k (0,0,false)).2.1=y at c O;generalize(l.getD k (0,0,false)).2.2=z at c2;refine wp_seq (bn u (· < 7) (λf'=>f' 96=.bool true) rr λJ T hB s q=>wp_cond_true (ag zz q) (wp_skip ?_))
  have e1:=(s 1 zz).tn e1;first|have _:=ø;have E:=(s 4 zz).tn E|have _:=å;have G:=(s 5 zz).tn G|have U:=(s 6 zz).tn U
  refine wp_seq (wp_block ?_)
  first
  |have _:=æ
   cases e:ax x 0 (b.U.n-1)
   .refine bn u (· < 7) (λf'=>f' 118=.bool true) rr λf3 B hB r j=>wp_cond_true (ag zz j) ?_;refine bn u (λi=>i<7/\i≠2) (λf'=>f' 2=.int .i64 6) rr λm N hB L o=>wp_ret ?_;exact .inr ⟨rfl,by rw[d,c,dE (by simp[e])];decide,m,rfl,hB,by rw[d,c,dE (by simp[e])];exact o⟩
   .cases n:ax y 0 (b.S-1)
    .refine bn u (· < 7) (λf'=>f' 118=.bool true) rr λf3 B hB r j=>wp_cond_true (ag zz j) ?_;refine bn u (λi=>i<7/\i≠2) (λf'=>f' 2=.int .i64 6) rr λm N hB L o=>wp_ret ?_;exact .inr ⟨rfl,by rw[d,c,dE (by simp[e,n])];decide,m,rfl,hB,by rw[d,c,dE (by simp[e,n])];exact o⟩
    .refine bn u (· < 7) (λf'=>f' 118=.bool false) rr λf5 w5 hB v S=>wp_cond_false (ag zz S) (wp_skip ?_);have e1:=(v 1 zz).tn e1;have U:=(v 6 zz).tn U;refine To u (λi=>i<7/\i≠6) (λf'=>f' 6=.int .i64 (k+1)) rr λf6 w6 hB R A=>?_;refine⟨⟨k+1,f6,t,rfl,(R 1 zz).tn e1,A.tn ss,hB,d.tn (c.tn (by rw[cd (by simp[e,n])]))⟩,?_⟩;rw[sF (k:=k+1) zz (A.tn ss),sF (k:=k) zz ‹P 6=_›];omega
  |have _:=ø
   refine wp_seq ?_;cases e:ax x 0 (b.S-1)
   .refine bn u (· < 7) (λf'=>f' 32=.bool true) rr λf3 B hB r j=>wp_cond_true (ag zz j) ?_;refine bn u (λi=>i<7/\i≠2) (λf'=>f' 2=.int .i64 6) rr λm N hB L o=>wp_ret ?_;exact .inr ⟨rfl,by rw[d,c,dE e];decide,m,rfl,hB,by rw[d,c,dE e];exact o⟩
   .refine bn u (· < 7) (λf'=>f' 32=.bool false) rr λf3 B hB r j=>wp_cond_false (ag zz j) (wp_skip ?_);have e1:=(r 1 zz).tn e1;have E:=(r 4 zz).tn E;cases n:ax y (-9) 9
    .refine bn u (· < 7) (λf'=>f' 40=.bool true) rr λf3 B hB r j=>wp_cond_true (ag zz j) ?_;refine bn u (λi=>i<7/\i≠2) (λf'=>f' 2=.int .i64 1) rr λm N hB L o=>wp_ret ?_;exact .inr ⟨rfl,by rw[d,c,cd (by simp[e]),dE n];decide,m,rfl,hB,by rw[d,c,cd (by simp[e]),dE n];exact o⟩
    .refine bn u (· < 7) (λf'=>f' 40=.bool false) rr λf5 w5 hB v S=>wp_cond_false (ag zz S) (wp_skip ?_);have e1:=(v 1 zz).tn e1;have E:=(v 4 zz).tn E;refine To u (λi=>i<7/\i≠4) (λf'=>f' 4=.int .i64 (k+1)) rr λf6 w6 hB R A=>?_;refine⟨⟨k+1,f6,t,rfl,(R 1 zz).tn e1,A.tn ss,hB,d.tn (c.tn (by rw[cd (by simp[e]),cd (by simp[n])]))⟩,?_⟩;rw[sF (k:=k+1) zz (A.tn ss),sF (k:=k) zz ‹P 4=_›];omega
  |refine wp_seq ?_
   cases e:ax x (1-b.rf) (b.rf-1)
   .refine bn u (· < 7) (λf'=>f' 77=.bool true) rr λf3 B hB r j=>wp_cond_true (ag zz j) ?_;refine bn u (λi=>i<7/\i≠2) (λf'=>f' 2=.int .i64 1) rr λm N hB L o=>wp_ret ?_;exact .inr ⟨rfl,by rw[d,c,dE (by simp[e])];decide,m,rfl,hB,by rw[d,c,dE (by simp[e])];exact o⟩
   .cases n:ax y 0 60
    .refine bn u (· < 7) (λf'=>f' 77=.bool true) rr λf3 B hB r j=>wp_cond_true (ag zz j) ?_;refine bn u (λi=>i<7/\i≠2) (λf'=>f' 2=.int .i64 1) rr λm N hB L o=>wp_ret ?_;exact .inr ⟨rfl,by rw[d,c,dE (by simp[e,n])];decide,m,rfl,hB,by rw[d,c,dE (by simp[e,n])];exact o⟩
    .refine bn u (· < 7) (λf'=>f' 77=.bool false) rr λf3 B hB r j=>wp_cond_false (ag zz j) (wp_skip ?_);have e1:=(r 1 zz).tn e1;have G:=(r 5 zz).tn G;by_cases Z:b.ch<=y
     .refine bn u (· < 7) (λf'=>f' 87=.bool true) rr λf3 B hB r j=>wp_cond_true (ag zz j) ?_;refine bn u (λi=>i<7/\i≠2) (λf'=>f' 2=.int .i64 7) rr λm N hB L o=>wp_ret ?_;exact .inr ⟨rfl,by rw[d,c,cd (by simp[e,n]),dE Z];decide,m,rfl,hB,by rw[d,c,cd (by simp[e,n]),dE Z];exact o⟩
     .refine bn u (· < 7) (λf'=>f' 87=.bool false) rr λf5 w5 hB v S=>wp_cond_false (ag zz S) (wp_skip ?_);have e1:=(v 1 zz).tn e1;have G:=(v 5 zz).tn G;refine To u (λi=>i<7/\i≠5) (λf'=>f' 5=.int .i64 (k+1)) rr λf6 w6 hB R A=>?_;refine⟨⟨k+1,f6,t,rfl,(R 1 zz).tn e1,A.tn ss,hB,d.tn (c.tn (by rw[cd (by simp[e,n]),cd Z]))⟩,?_⟩;rw[sF (k:=k+1) zz (A.tn ss),sF (k:=k) zz ‹P 5=_›];omega
 .have a8:k=l.length:=zz;first|have _:=ø;refine wp_seq (bn u (· < 7) (λf'=>f' 21=.bool false) rr λJ T hB s q=>wp_cond_false (ag zz q) (wp_exit ?_))|have _:=å;refine wp_seq (bn u (· < 7) (λf'=>f' 49=.bool false) rr λJ T hB s q=>wp_cond_false (ag zz q) (wp_exit ?_))|refine wp_seq (bn u (· < 7) (λf'=>f' 96=.bool false) rr λJ T hB s q=>wp_cond_false (ag zz q) (wp_exit ?_))
  exact .inl ⟨rfl,by rw[d,lv zz];rfl,J,rfl,hB,(s 1 zz).tn (e1.tn K.symm)⟩):p:=h
def xaA{p:Prop}(h:p:=by
 obtain⟨rfl⟩:=d;unfold Hn;simp only[c,e,f];go_simp;rw[Go.IntWalk.i64_in _ h]):p:=h
def xaH{p:Prop}(h:p:=by
 unfold Hn;simp only[b,ab,c,a,Deferred.ofValue];simp[go_sem,invoke,hc]):p:=h
def xbz{p:Prop}(h:p:=by
 obtain⟨rfl⟩:=b;unfold Hn;simp only[a,c];go_simp):p:=h
end Go
namespace Go.Proofs.YtfcgpihkimpkcaaGreatDoor
open Go.RowKit Go.Co
variable{K R:Act->H->Prop}{fn:ba}{args:Array M}{v:M}{E S:H->Prop}{w w':H}{ops:Array Kp}{n d j i g k off m cp z:Nat}{f:Nat->M}{oi o:Kp}{rest:List Nat}{Q:Exit->Act->H->Prop}{md:Region.Mode}{late:Nat->Bool}{L:Array Bool}{Z:ae->M}{x y c:ae}{a b:Int}{t':Lk}{r q p:Bool}
section
variable{t:Bool}
def eE(b:oi.guard=Y (j,t))(c:(ops[j]?).bind (·.dst)=Y g)(d:g<n)(a:f g=.bool t):Region.wanted oi (aw ops (fa n f).tmps)=true:=by
 unfold Region.wanted;rw[b];simp only[xM c d a,beq_self_eq_true]
def jc(b:oi.guard=Y (j,t))(c:(ops[j]?).bind (·.dst)=Y g)(d:g<n)(a:f g=.bool (!t)):Region.wanted oi (aw ops (fa n f).tmps)=false:=by
 unfold Region.wanted;rw[b];simp only[xM c d a];cases t<;>rfl
def ZE(v:M)(hi:ops[i]?=Y oi)(a:oi.dst=Y d)(b:d<n)(c:Region.wanted oi (aw ops (fa n f).tmps)=true)(e:(Hn (fa n f).eval oi).run F w=.ok (.value v) w')(h:K (fa n (ah f d v)) w'):wpOp F ops Q i K (fa n f) w:=by
 unfold wpOp;simp only[hi,c,if_true,Kp.wp,e,Kp.upon];rw[a,cw b];exact .inl h
def Vg(hi:ops[i]?=Y oi)(a:oi.dst=Y d)(c:d<n)(j:Region.wanted oi (aw ops (fa n f).tmps)=true)(k:(Hn (fa n f).eval oi).run F w=.ok (.enter fn args) w)
  (hc:PH F fn args w λe w'=>e=.returned v/\E w')(h:∀w',E w'->K (fa n (ah f d v)) w'):wpOp F ops Q i K (fa n f) w:=by
 unfold wpOp;simp only[hi,j,if_true,Kp.wp,k,Kp.upon_enter];refine .inl (hc.mono λe w' b=>?_);obtain⟨rfl,g⟩:=b;show K ((fa n f).put oi.dst v) w';rw[a,cw c];exact h w' g
def ZG(hi:ops[i]?=Y oi)(a:oi.dst=Y d)(b:d<n)(c:Region.wanted oi (aw ops (fa n f).tmps)=false)(h:K (fa n (ah f d D)) w):wpOp F ops Q i K (fa n f) w:=by
 unfold wpOp;simp only[hi,c,kx,if_false];rw[a,cw b];exact h
def lV(v:M)(hi:ops[i]?=Y oi)(a:oi.dst=Y d)(b:d<n)(c:Region.wanted oi (aw ops (fa n f).tmps)=true)(e:(Hn (fa n f).eval oi).run F w=.ok (.value v) w')(h:wpOps F ops Q rest (fa n (ah f d v)) w'):wpOps F ops Q (i::rest) (fa n f) w:=by
 rw[wpOps_cons];exact ZE v hi a b c e h
def lN(hi:ops[i]?=Y oi)(a:oi.dst=Y d)(b:d<n)(c:Region.wanted oi (aw ops (fa n f).tmps)=false)(h:wpOps F ops Q rest (fa n (ah f d D)) w):wpOps F ops Q (i::rest) (fa n f) w:=by
 rw[wpOps_cons];exact ZG hi a b c h
def lC(hi:ops[i]?=Y oi)(a:oi.dst=Y d)(b:d<n)(c:Region.wanted oi (aw ops (fa n f).tmps)=true)(g:(Hn (fa n f).eval oi).run F w=.ok (.enter fn args) w)
  (hc:PH F fn args w λe w'=>e=.returned v/\E w')(h:∀w',E w'->wpOps F ops Q rest (fa n (ah f d v)) w'):wpOps F ops Q (i::rest) (fa n f) w:=by
 rw[wpOps_cons];exact Vg hi a b c g hc h
def lE(h:Q .normal (fa n f) w):wpOps F ops Q [] (fa n f) w:=h
def tV(v:M)(hi:ops[i]?=Y oi)(b:oi.dst=Y d)(g:d<n)(m:Region.wanted oi (aw ops (fa n f).tmps)=true)(l:Region.noSelect ops=true)(c:Region.free md ops L i=true)(j:(Region.ready md ops L).contains i=true)(e:nN md ops late i=true)
  (o:∀w',S w'->(Hn (fa n f).eval oi).run F w'=.ok (.value v) w')(a:S w)
  (h:wpAnyL F md ops (aR R) S late k (L.setIfInBounds i true) (fa n (ah f d v)) w):wpAnyL F md ops (aR R) S late (k+1) L (fa n f) w:=
 dN (v:=v) hi l c j e (λ_ _ _ h=>h) (.inl ⟨m,o⟩) a (by rw[b,cw g];exact h)
def tN(hi:ops[i]?=Y oi)(b:oi.dst=Y d)(g:d<n)(m:Region.wanted oi (aw ops (fa n f).tmps)=false)(l:Region.noSelect ops=true)(c:Region.free md ops L i=true)(j:(Region.ready md ops L).contains i=true)(e:nN md ops late i=true)(a:S w)
  (h:wpAnyL F md ops (aR R) S late k (L.setIfInBounds i true) (fa n (ah f d D)) w):wpAnyL F md ops (aR R) S late (k+1) L (fa n f) w:=
 dN (v:=D) hi l c j e (λ_ _ _ h=>h) (.inr ⟨m,rfl⟩) a (by rw[b,cw g];exact h)
def tC(j:Region.ready md ops L=[i])(hi:ops[i]?=Y oi)(b:oi.dst=Y d)(g:d<n)(l:Region.wanted oi (aw ops (fa n f).tmps)=true)(o:(Hn (fa n f).eval oi).run F w=.ok (.enter fn args) w)
  (hc:PH F fn args w λe w'=>e=.returned v/\E w')(h:∀w',E w'->S w'/\wpAnyL F md ops (aR R) S late k (L.setIfInBounds i true) (fa n (ah f d v)) w'):wpAnyL F md ops (aR R) S late (k+1) L (fa n f) w:=by
 refine bl [i] j ss λm c=>?_;obtain rfl:=ib.1 c;exact Vg hi b g l o hc λw' a=>⟨λ_=>(h w' a).1,(h w' a).2⟩
end
def gy(n:Nat){F:Func}{c:Ly}{A:Array M}{R:Ending->H->Prop}(b:Hb.funcs[fn]?=Y F)(a:F.body=Y c)(d:A.size+(F.ntmps-A.size)=n)(h:∀f:Nat->M,(∀i,f i=A.getD i D)->Ly.wp Hb c (bodyPost Hb F R) (fa n f) w):PH Hb fn A w R:=by
 refine calls_of_wp b a ?_;rw[iu d];exact h _ λ_=>rfl
theorem Ib{g:Nat}{b:aC}(h:aK w g 31 b):(Instr.loadAt 31 (.pointer (Y (g,0)))).run F w=.ok b.v w:=by
 obtain⟨a,c,i,j,k,l,m,n,o,p,d,e,f⟩:=aM h;unfold aC.v;go_simp
def ag{n t:Nat}{f:Nat->M}(h:t<n)(e:f t=v):(fa n f).eval (.tmp t)=v:=(fe h).tn e
def ZK(s:Nat):List Nat:=if s=31 then[0,1,2,3,5,6,8,10,11,12]else if s=80 then[0,1,2]else if s=33\/s=23\/s=26\/s=100\/s=55 then[0,1]else[]
def Sm(x:Int):Prop:= -9223372036854775808<=x/\x<=9223372036854775807
structure yW(x y:M):Prop where h:x=y
def ZL(t:Nat):Option Nat:=if t=27\/t=28 then Y 2 else if t=29 then Y 3 else I
def TG:BinOp->Option (Int->Int->Bool)
 | .lss=>Y λa b=>decide (a<b)
 | .leq=>Y λa b=>decide (a<=b)
 | .gtr=>Y λa b=>decide (b<a)
 | .geq=>Y λa b=>decide (b<=a)
 | .eql=>Y λa b=>a==b
 | .neq=>Y λa b=>a != b
 | _=>I
section
variable{t t':Lk}
def bq(a:o.op=.move x\/o.op=.assign x)(b:Z x=v):(Hn Z o).run F w=.ok (.value v) w:=by
 unfold Hn;rcases a with h|h<;>simp only[h,b]<;>rfl
theorem dm{xs:Array ae}{ts:Array Lk}(b:o.op=.call {callee:=.value (.func fn),args:=xs,argTypes:=ts})(a:xs.map Z=args)(c:Z (.func fn)=.func (.func fn) #[] #[])
  (hc:(callFunc fn args).run F w=.ok (.enter fn args) w):(Hn Z o).run F w=.ok (.enter fn args) w:=xaH
theorem j0(a:o.op=.unOp .not t x)(c:Z x=.bool r)(b:yW (.bool (!r)) v):(Hn Z o).run F w=.ok (.value v) w:=xbz
theorem aa6(a:o.op=.pick c x y)(hc:Z c=.bool r)(b:(if r then Z x else Z y)=v):(Hn Z o).run F w=.ok (.value v) w:=by
 subst b;unfold Hn;simp only[a,hc];cases r<;>go_simp
theorem abc(a:o.op=.binOp .eql 4 x y 4)(d:Z x=.bool r)(e:Z y=.bool q)(b:(r==q)=p)(c:yW (.bool p) v):(Hn Z o).run F w=.ok (.value v) w:=by
 subst b;obtain⟨rfl⟩:=c;unfold Hn;simp only[a,d,e];go_simp
theorem Vh(a:o.op=.binOp .neq 4 x y 4)(d:Z x=.bool r)(e:Z y=.bool q)(b:(r != q)=p)(c:yW (.bool p) v):(Hn Z o).run F w=.ok (.value v) w:=by
 subst b;obtain⟨rfl⟩:=c;unfold Hn;simp only[a,d,e];cases r<;>cases q<;>go_simp
theorem Sr{op:BinOp}{F:Int->Int->Bool}(c:o.op=.binOp op t x y t')(hF:TG op=Y F)(f:Z x=.int .i64 a)(g:Z y=.int .i64 b)(d:F a b=r)(e:yW (.bool r) v):(Hn Z o).run Hb w=.ok (.value v) w:=by
 subst d;obtain⟨rfl⟩:=e;unfold Hn;simp only[c,f,g];cases op<;>cases hF<;>go_simp
def gE{B:aC}(b:o.op=.load 31 x)(d:Z x=.pointer (Y (g,0)))(a:aK w g 31 B)(c:yW (B.v) v):(Hn Z o).run F w=.ok (.value v) w:=by
 have h:=(Ib a);obtain⟨rfl⟩:=c;unfold Hn;simp only[b,d];simp[h]
theorem qM{sh:Int}{s:Sl}(a:o.op=.load 33 x)(c:Z x=.pointer (Y (g,0)))(d:w (g,0)=Y (.int .i64 sh))(e:w (g,1)=Y (.slice s.A s.n s.c))(b:yW (aF sh s) v):(Hn Z o).run F w=.ok (.value v) w:=by
 obtain⟨rfl⟩:=b;unfold Hn aF;simp only[a,c];go_simp
theorem Xo{h s:Int}(a:o.op=.load 80 x)(c:Z x=.pointer (Y (g,off)))(d:w (g,off)=Y (.int .i64 h))(e:w (g,off+1)=Y (.int .i64 s))(h2:w (g,off+2)=Y (.bool r))(b:yW (.agg #[.int .i64 h,.int .i64 s,.bool r]) v):(Hn Z o).run F w=.ok (.value v) w:=xbz
theorem TH{s:Nat}(b:o.op=.fieldAddr s x k)(a:(ZK s)[k]?=Y z)(c:Z x=.pointer (Y (g,off)))(d:yW (.pointer (Y (g,off+z))) v):(Hn Z o).run F w=.ok (.value v) w:=by
 obtain⟨rfl⟩:=d;unfold Hn;simp only[b,c];clear b c;unfold ZK at a;repeat' split at a
 .subst s;iterate 10 (rcases k with _|k; · cases a;go_simp)
  cases a
 .subst s;iterate 3 (rcases k with _|k; · cases a;go_simp)
  cases a
 .rename_i h;iterate 2 (rcases k with _|k; · cases a;rcases h with rfl|rfl|rfl|rfl|rfl<;>go_simp)
  cases a
 .cases a
theorem abe(b:o.op=.load t x)(a:[3,4,24,27,28,29,36].contains t=true)(c:Z x=.pointer (Y (g,off)))(hc:w (g,off)=Y v):(Hn Z o).run F w=.ok (.value v) w:=by
 unfold Hn;simp only[b,c];simp at a;rcases a with rfl|rfl|rfl|rfl|rfl|rfl|rfl<;>go_simp
theorem Xp(a:o.op=.indexAddr 24 x y)(c:Z x=.slice (Y (g,off)) m cp)(d:Z y=.int .i64 k)(hk:k<m)(b:yW (.pointer (Y (g,off+k))) v):(Hn Z o).run F w=.ok (.value v) w:=by
 obtain⟨rfl⟩:=b;unfold Hn;simp only[a,c,d];go_simp
theorem Vj(b:o.op=.indexAddr t x y)(a:ZL t=Y z)(d:Z x=.slice (Y (g,off)) m cp)(e:Z y=.int .i64 k)(hk:k<m)(c:yW (.pointer (Y (g,off+k*z))) v):(Hn Z o).run F w=.ok (.value v) w:=by
 obtain⟨rfl⟩:=c;unfold Hn;simp only[b,d,e];unfold ZL at a;split at a
 .rename_i h;cases a;rcases h with rfl|rfl<;>go_simp
 .split at a
  .rename_i h;cases a;subst h;go_simp
  .cases a
theorem SF{A:Option Addr}(b:o.op=.call {callee:=.builtin .len,args:= #[x],argTypes:= #[t]})(a:[24,27,28,29].contains t=true)(c:o.type=3)(e:Z x=.slice A m cp)(d:yW (.int .i64 m) v):(Hn Z o).run F w=.ok (.value v) w:=by
 obtain⟨rfl⟩:=d;unfold Hn;simp only[b,ab,zM,e,c];simp at a;rcases a with rfl|rfl|rfl|rfl<;>go_simp
theorem AW(c:o.op=.binOp .sub 3 x y 3)(e:Z x=.int .i64 a)(f:Z y=.int .i64 b)(h:Sm (a-b))(d:yW (.int .i64 (a-b)) v):(Hn Z o).run F w=.ok (.value v) w:=xaA
theorem XM{z:ae}{c:Int}(d:o.op=.call {callee:=.builtin .max,args:= #[x,y,z],argTypes:= #[3,3,3]})(e:o.type=3)(g:Z x=.int .i64 a)(h:Z y=.int .i64 b)(i:Z z=.int .i64 c)(f:yW (.int .i64 (max (max a b) c)) v):(Hn Z o).run F w=.ok (.value v) w:=by
 obtain⟨rfl⟩:=f;unfold Hn;simp only[d,ab,zM,g,h,i,e];go_simp;repeat (first|omega|split)
theorem E4(c:o.op=.binOp .add 3 x y 3)(e:Z x=.int .i64 a)(f:Z y=.int .i64 b)(h:Sm (a+b))(d:yW (.int .i64 (a+b)) v):(Hn Z o).run F w=.ok (.value v) w:=xaA
end
variable{id N:Nat}{p:Prop}{z:ae}{a b c v':M}{u:H}{xs:Array ae}{ts:Array Lk}
def Rs(n:Nat)(u:H)(f:Nat->M)(keep:Nat->Prop)(p:(Nat->M)->Prop)(a:Act)(w:H):Prop:=∃f',a=fa n f'/\X u u w/\(∀i,keep i->f' i=f i)/\p f'
def Rs.mk{u w:H}{f f':Nat->M}{keep:Nat->Prop}{p:(Nat->M)->Prop}(a:X u u w)(hk:∀i,keep i->f' i=f i)(b:p f'):aR (Rs n u f keep p) .normal (fa n f') w:=⟨f',rfl,a,hk,b⟩
def XF(b:Z x=a):(#[x]).map Z= #[a]:=by simp[b]
def MJ(c:Z x=a)(d:Z y=b):(#[x,y]).map Z= #[a,b]:=by simp[c,d]
def MK(d:Z x=a)(e:Z y=b)(h2:Z z=c):(#[x,y,z]).map Z= #[a,b,c]:=by simp[d,e,h2]
def XG{x y z u:ae}{a b c d:M}(e:Z x=a)(f:Z y=b)(h2:Z z=c)(g:Z u=d):(#[x,y,z,u]).map Z= #[a,b,c,d]:=by simp[e,f,h2,g]
def fG:Ly:=match Tryz.f14.body with|some c=>c|_=>.skip
def ZI:Array Kp:=br [0] fG
def Vo:Array Kp:=br [1,0,0] fG
def P6:Array Kp:=br [1,0,1,0] fG
def Vp:Array Kp:=br [1,0,1,1,4,0] fG
def P7:Array Kp:=br [1,1,0,0] fG
def Vq:Array Kp:=br [1,1,0,1,4,0] fG
def Vr:Array Kp:=br [1,1,1,0,0] fG
def ux:Ly:=dk [1,1,1,0,1,2,3] fG
def P8:Array Kp:=br [0,0] ux
def P9:Array Kp:=br [1,0,2,0,0] ux
def Qa:Array Kp:=br [1,0,2,0,1,4,0] ux
def Ig:Array Kp:=br [1,0,2,1,0] ux
def Qb:Array Kp:=br [1,0,2,1,1,4,0] ux
def Vt:Array Kp:=br [1,1] ux
def Ih:Array Kp:=br [1,1,1,1,0,0] fG
def Qc:Array Kp:=br [1,1,1,1,0,1,4,0] fG
def Qd:Array Kp:=br [1,1,1,1,1,0,0] fG
def uy:Ly:=dk [1,1,1,1,1,0,1,2,3] fG
def Ii:Array Kp:=br [0,0] uy
def B6:Array Kp:=br [1,0,2,0,0] uy
def Qe:Array Kp:=br [1,0,2,0,1,4,0] uy
def Ij:Array Kp:=br [1,0,2,1,0] uy
def Qf:Array Kp:=br [1,0,2,1,1,4,0] uy
def Qg:Array Kp:=br [1,1] uy
def Ik:Array Kp:=br [1,1,1,1,1,1,0,0] fG
def Qh:Array Kp:=br [1,1,1,1,1,1,0,1,4,0] fG
def Qi:Array Kp:=br [1,1,1,1,1,1,1,0,0] fG
def za:Ly:=dk [1,1,1,1,1,1,1,0,1,2,3] fG
def Il:Array Kp:=br [0,0] za
def B7:Array Kp:=br [1,0,2,0] za
def Qj:Array Kp:=br [1,0,2,1,4,0] za
def Qk:Array Kp:=br [1,1] za
def Ql:Array Kp:=br [1,1,1,1,1,1,1,1,0] fG
def ML:fG=.seq (.region 0 ZI false) (.seq (.seq (.region 1 Vo false) (.seq (.region 2 P6 false) (.cond (.tmp 10) (.seq (.region 3 Vp false) (.ret)) (.skip)))) (.seq (.seq (.region 4 P7 false) (.cond (.tmp 16) (.seq (.region 5 Vq false) (.ret)) (.skip))) (.seq (.seq (.region 6 Vr false) (.block 0 (.loop ux))) (.seq (.seq (.region 13 Ih false) (.cond (.tmp 44) (.seq (.region 14 Qc false) (.ret)) (.skip))) (.seq (.seq (.region 15 Qd false) (.block 2 (.loop uy))) (.seq (.seq (.region 22 Ik false) (.cond (.tmp 91) (.seq (.region 23 Qh false) (.ret)) (.skip))) (.seq (.seq (.region 24 Qi false) (.block 4 (.loop za))) (.seq (.region 29 Ql false) (.ret))))))))):=rfl
def Qm:ux=.seq (.seq (.region 7 P8 false) (.cond (.tmp 21) (.skip) (.exit 0))) (.seq (.block 1 (.seq (.seq (.region 9 P9 true) (.cond (.tmp 32) (.seq (.region 10 Qa false) (.ret)) (.skip))) (.seq (.region 11 Ig false) (.cond (.tmp 40) (.seq (.region 12 Qb false) (.ret)) (.skip))))) (.region 8 Vt false)):=rfl
def Qn:uy=.seq (.seq (.region 16 Ii false) (.cond (.tmp 49) (.skip) (.exit 2))) (.seq (.block 3 (.seq (.seq (.region 18 B6 true) (.cond (.tmp 77) (.seq (.region 19 Qe false) (.ret)) (.skip))) (.seq (.region 20 Ij true) (.cond (.tmp 87) (.seq (.region 21 Qf false) (.ret)) (.skip))))) (.region 17 Qg false)):=rfl
def Qo:za=.seq (.seq (.region 25 Il false) (.cond (.tmp 96) (.skip) (.exit 4))) (.seq (.block 5 (.seq (.region 27 B7 true) (.cond (.tmp 118) (.seq (.region 28 Qj false) (.ret)) (.skip)))) (.region 26 Qk false)):=rfl
def Oh{d i:Nat}(e:f i=a)(h:Nat.beq i d=false:=by exact rfl):ah f d v i=a:=(cd (Nat.ne_of_beq_eq_false h)).tn e
def Ls{n t:Nat}(e:f t=v)(h:t<n:=by omega):(fa n f).eval (.tmp t)=v:=(fe h).tn e
def Tv:(fa n f).eval (.const v)=v:=rfl
def vq{x:M}:yW x x:=⟨rfl⟩
def XH{x:Bool}:x=x:=rfl
def dT[Decidable p](h:p)(e:true=r):decide p=r:=(decide_eq_true h).tn e
def dF[Decidable p](h:¬p)(e:false=r):decide p=r:=(decide_eq_false h).tn e
structure At(j:Nat)(p:Prop):Prop where h:p
structure Ac(j:Nat)(p:Prop):Prop where h:p
def XI(hi:ops[i]?=Y oi)(a:oi.dst=Y d)(c:Region.wanted oi (aw ops (fa n f).tmps)=true)(hB:X u u w)(h:∃v,(∀w',X u u w'->(Hn (fa n f).eval oi).run F w'=.ok (.value v) w')/\wpOps F ops Q rest (fa n (ah f d v)) w)(b:d<n:=by omega):wpOps F ops Q (i::rest) (fa n f) w:=let⟨v,hy,h⟩:=h;lV v hi a b c (hy w hB) h
def XJ(hi:ops[i]?=Y oi)(a:oi.dst=Y d)(c:Region.wanted oi (aw ops (fa n f).tmps)=false)(h:wpOps F ops Q rest (fa n (ah f d D)) w)(b:d<n:=by omega):wpOps F ops Q (i::rest) (fa n f) w:=lN hi a b c h
def Lv(o:Kp):Bool:=match o.op with|.call c=>(match c.callee with|.builtin _=>true|_=>false)|_=>true
def XO(_:Nat.blt j ops.size=true)(h:At (j+1) (wpAnyL F md ops (aR R) (λa=>X u u a) late k L (fa n f) w)):At j (wpAnyL F md ops (aR R) (λa=>X u u a) late k L (fa n f) w):=⟨h.h⟩
def XP(_:L.getD j true=false)(hi:ops[j]?=Y oi)(_:Lv oi=true)(b:oi.dst=Y d)(m:Region.wanted oi (aw ops (fa n f).tmps)=true)(hB:X u u w)
  (h:∃v,(∀w',X u u w'->(Hn (fa n f).eval oi).run F w'=.ok (.value v) w')/\At (j+1) (wpAnyL F md ops (aR R) (λa=>X u u a) late k (L.setIfInBounds j true) (fa n (ah f d v)) w))
  (g:d<n:=by omega)(l:Region.noSelect ops=true:=by kernel_rfl)(c:Region.free md ops L j=true:=by kernel_rfl)(i:(Region.ready md ops L).contains j=true:=by kernel_rfl)(e:nN md ops late j=true:=by kernel_rfl):At j (wpAnyL F md ops (aR R) (λa=>X u u a) late (k+1) L (fa n f) w):=let⟨v,hy,h⟩:=h;⟨tV v hi b g m l c i e hy hB h.h⟩
def XQ(_:L.getD j true=false)(hi:ops[j]?=Y oi)(b:oi.dst=Y d)(m:Region.wanted oi (aw ops (fa n f).tmps)=false)(hB:X u u w)
  (h:At (j+1) (wpAnyL F md ops (aR R) (λa=>X u u a) late k (L.setIfInBounds j true) (fa n (ah f d D)) w))
  (g:d<n:=by omega)(l:Region.noSelect ops=true:=by kernel_rfl)(c:Region.free md ops L j=true:=by kernel_rfl)(i:(Region.ready md ops L).contains j=true:=by kernel_rfl)(e:nN md ops late j=true:=by kernel_rfl):At j (wpAnyL F md ops (aR R) (λa=>X u u a) late (k+1) L (fa n f) w):=⟨tN hi b g m l c i e hB h.h⟩
def adc(_:Nat.blt j ops.size=true)(h:Ac (j+1) (wpAnyL F md ops (aR R) (λa=>X u u a) late k L (fa n f) w)):Ac j (wpAnyL F md ops (aR R) (λa=>X u u a) late k L (fa n f) w):=⟨h.h⟩
def Xs(fn:ba)(xs:Array ae)(a:Act)(u w:H)(p:M->H->Prop):Prop:=∃args v,xs.map a.eval=args/\(callFunc fn args).run F w=.ok (.enter fn args) w/\PH F fn args w (λe w'=>e=.returned v/\X w w w')/\∀w',X u u w'->p v w'
def XR(hi:ops[i]?=Y oi)(e:oi.op=.call {callee:=.value (.func fn),args:=xs,argTypes:=ts})(b:oi.dst=Y d)(g:Region.wanted oi (aw ops (fa n f).tmps)=true)(hB:X u u w)
  (h:Xs fn xs (fa n f) u w λv w'=>wpOps F ops Q rest (fa n (ah f d v)) w')(c:d<n:=by omega):wpOps F ops Q (i::rest) (fa n f) w:=
 let⟨_,_,ha,hf,hc,h⟩:=h;lC hi b c g (dm e ha rfl hf) hc λw' a=>h w' (hB.tn (a.mono hB.size))
def XS(_:L.getD j true=false)(hi:ops[j]?=Y oi)(g:oi.op=.call {callee:=.value (.func fn),args:=xs,argTypes:=ts})(c:oi.dst=Y d)(l:Region.wanted oi (aw ops (fa n f).tmps)=true)(hB:X u.heap.size u w)
  (h:Xs fn xs (fa n f) u w λv w'=>At (j+1) (wpAnyL F md ops (aR R) (λa=>X u.heap.size u a) late k (L.setIfInBounds j true) (fa n (ah f d v)) w'))(e:d<n:=by omega)(i:Region.ready md ops L=[j]:=by kernel_rfl):Ac j (wpAnyL F md ops (aR R) (λa=>X u.heap.size u a) late (k+1) L (fa n f) w):=
 let⟨_,_,ha,hf,hc,h⟩:=h;⟨tC i hi c e l (dm g ha rfl hf) hc λw' b=>⟨hB.tn (b.mono hB.size),(h w' (hB.tn (b.mono hB.size))).h⟩⟩
def kE(h:PH F fn args w λe w'=>e=.returned v/\w=w')(e:v=v'):PH F fn args w λe w'=>e=.returned v'/\X w w w':=h.mono λ_ _ h=>⟨e▸h.1,h.2▸X.refl _ _⟩
def kB(h:PH F fn args w λe w'=>e=.returned v/\X w w w')(e:v=v'):PH F fn args w λe w'=>e=.returned v'/\X w w w':=h.mono λ_ _ h=>⟨e▸h.1,h.2⟩
def ic(m:Nat){l:List Nat}{a:Act}(c:ops.size=m)(b:List.range m=l)(h:wpOps F ops Q l a w):Ly.wp F (.region id ops false) Q a w:=wF (by rw[c];exact b) h
def vB{a b:Bool}(h:a=b):M.bool a=.bool b:=h▸rfl
def vI{a b:Int}(h:a=b):M.int .i64 a=.int .i64 b:=h▸rfl
def Tn(hB:X u.heap.size u w){a:Act}(h:X u.heap.size u w.drew->At 0 (wpAnyL F .any ops Q (λb=>X u.heap.size u b) (λ_=>false) ops.size (Array.replicate ops.size false) a w.drew)):(Ly.region id ops true).wp F Q a w:=bK _ rR (h hB.drew).h
def XT{a:Act}(h:aR R .normal a w)(b:Region.ready md ops L=[]:=by kernel_rfl):Ac j (wpAnyL F md ops (aR R) (λc=>X u u c) late k L a w):=⟨cH b h k⟩
def Xt(h:Ac 0 p):At j p:=⟨h.h⟩
structure Qz(q:Prop):Prop where h:q
def Tw{p q:Prop}(d:q)(h:Qz q->p:=by intro hqq;(repeat (first|((first|refine XI rfl rfl ?_ hB ?_|refine XP rfl rfl rfl rfl ?_ hB ?_);(first|exact bY rfl|(refine eE rfl rfl ?_ ?_;omega;focus ((repeat (first|exact au _ _ _|assumption|refine Oh ?_));done)));refine⟨?_,λf e=>?_,?_⟩;rotate_left;focus ((first|refine bq (.inl rfl) ?_|refine bq (.inr rfl) ?_|(refine TH (g:=?_) (off:=?_) rfl rfl ?_ ?_;rotate_left 2)|(refine abe (g:=?_) (off:=?_) rfl rfl ?_ ?_;rotate_left 2)|(refine aa6 (r:=?_) rfl ?_ ?_;rotate_left 1)|(refine abc (r:=?_) (q:=?_) (p:=?_) rfl ?_ ?_ ?_ ?_;rotate_left 3)|(refine Vh (r:=?_) (q:=?_) (p:=?_) rfl ?_ ?_ ?_ ?_;rotate_left 3)|(refine Sr (a:=?_) (b:=?_) (r:=?_) rfl rfl ?_ ?_ ?_ ?_;rotate_left 3)|(refine j0 (r:=?_) rfl ?_ ?_;rotate_left 1)|(refine Vj (g:=?_) (off:=?_) (m:=?_) (cp:=?_) (k:=?_) rfl rfl ?_ ?_ ?_ ?_;rotate_left 5)|(refine Xp (g:=?_) (off:=?_) (m:=?_) (cp:=?_) (k:=?_) rfl ?_ ?_ ?_ ?_;rotate_left 5)|(refine SF (A:=?_) (m:=?_) (cp:=?_) rfl rfl rfl ?_ ?_;rotate_left 3)|(refine E4 (a:=?_) (b:=?_) rfl ?_ ?_ ?_ ?_;rotate_left 2)|(refine AW (a:=?_) (b:=?_) rfl ?_ ?_ ?_ ?_;rotate_left 2)|(refine gE (g:=?_) (B:=?_) rfl ?_ ?_ ?_;rotate_left 2)|(refine qM (g:=?_) (sh:=?_) (s:=?_) rfl ?_ ?_ ?_ ?_;rotate_left 3)|(refine Xo (g:=?_) (off:=?_) (h:=?_) (s:=?_) (r:=?_) rfl ?_ ?_ ?_ ?_ ?_;rotate_left 5)|(refine XM (a:=?_) (b:=?_) (c:=?_) rfl rfl ?_ ?_ ?_ ?_;rotate_left 3));all_goals first|(refine Ls ?_;(repeat (first|exact au _ _ _|assumption|refine Oh ?_));done)|exact Tv|(refine(dE rfl).tn ?_;first|(refine Ls ?_;(repeat (first|exact au _ _ _|assumption|refine Oh ?_));done)|exact Tv)|(refine(cd Bool.false_ne_true).tn ?_;first|(refine Ls ?_;(repeat (first|exact au _ _ _|assumption|refine Oh ?_));done)|exact Tv)|assumption|(refine Eq.tn (Below.cell (B:=?_) (w:=?_) ?_ ?_) ?_;rotate_left 2;assumption;assumption;assumption)|(refine Eq.tn (Below.block (B:=?_) (w:=?_) ?_ _ ?_) ?_;rotate_left 2;assumption;assumption;assumption)|(refine dT ?_ ?_;omega;exact rfl)|(refine dF ?_ ?_;omega;exact rfl)|(unfold Sm;omega)|omega|exact vq|exact XH))|((first|refine XJ rfl rfl ?_ ?_|refine XQ rfl rfl rfl ?_ hB ?_);(focus refine jc rfl rfl ?_ ?_;omega;(repeat (first|exact au _ _ _|assumption|refine Oh ?_));done))|refine XO rfl ?_));exact hqq.h):p:=h ⟨d⟩
def rr(h:p:=by((first|(refine Tn hB ?_;intro hB)|refine ic 1 rfl rfl ?_|refine ic 2 rfl rfl ?_|refine ic 3 rfl rfl ?_|refine ic 4 rfl rfl ?_|refine ic 5 rfl rfl ?_|refine ic 6 rfl rfl ?_|refine ic 7 rfl rfl ?_|refine ic 8 rfl rfl ?_|refine ic 9 rfl rfl ?_|refine ic 10 rfl rfl ?_|refine ic 11 rfl rfl ?_|refine ic 12 rfl rfl ?_|refine ic 13 rfl rfl ?_|refine ic 14 rfl rfl ?_|refine ic 15 rfl rfl ?_|refine ic 16 rfl rfl ?_|refine ic 17 rfl rfl ?_|refine ic 18 rfl rfl ?_|refine ic 19 rfl rfl ?_|refine ic 20 rfl rfl ?_|refine ic 21 rfl rfl ?_|refine ic 22 rfl rfl ?_|refine ic 23 rfl rfl ?_|refine ic 24 rfl rfl ?_|refine ic 25 rfl rfl ?_|refine ic 26 rfl rfl ?_|refine ic 27 rfl rfl ?_|refine ic 28 rfl rfl ?_|refine ic 29 rfl rfl ?_|refine ic 30 rfl rfl ?_|refine ic 31 rfl rfl ?_|refine ic 32 rfl rfl ?_|refine ic 33 rfl rfl ?_);refine Tw ?_;(try refine Xt ?_);(repeat (first|(((first|refine XR rfl rfl rfl ?_ hB ?_|refine XS rfl rfl rfl rfl ?_ hB ?_);(first|exact bY rfl|(refine eE rfl rfl ?_ ?_;omega;focus ((repeat (first|exact au _ _ _|assumption|refine Oh ?_));done)));refine⟨?_,?_,?_,?_,?_,λe hB=>?_⟩;rotate_left 2;(focus ((first|(refine XF (a:=?_) ?_;rotate_left 1)|(refine MJ (a:=?_) (b:=?_) ?_ ?_;rotate_left 2)|(refine MK (a:=?_) (b:=?_) (c:=?_) ?_ ?_ ?_;rotate_left 3)|(refine XG (a:=?_) (b:=?_) (c:=?_) (d:=?_) ?_ ?_ ?_ ?_;rotate_left 4));all_goals first|(refine Ls ?_;(repeat (first|exact au _ _ _|assumption|refine Oh ?_));done)|exact Tv));exact rfl;(first|exact hc _ hB|exact hcon _ hB|exact hcon2 _ hB|exact hcon3 _ hB|((first|refine kE (bz _ _ _ _) ?_|(refine kB (rH _ _ ?_ ?_ _) ?_;assumption;assumption)|(refine kB (rI _ _ ?_ _) ?_;assumption));(first|(refine vB (b:=?_) ?_;rotate_left;assumption)|(refine vI (b:=?_) ?_;rotate_left;assumption)|exact rfl))));refine Tw ?_;(try refine Xt ?_))|refine adc rfl ?_));(first|refine XT ?_|refine lE ?_);refine Rs.mk hB (λi hi=>?_) ?_;(focus ((repeat (refine(cu _ _ ?_).tn ?_;omega));exact rfl));(first|exact rfl|exact⟨rfl,rfl⟩|exact db|(simp;done)))):p:=h
def bn{x y:Ly}(u:H)(keep:Nat->Prop)(p:(Nat->M)->Prop)(h:Ly.wp F x (aR (Rs N u f keep p)) (fa N f) w)(next:∀f' w',X u u w'->(∀i,keep i->f' i=f i)->p f'->Ly.wp F y Q (fa N f') w'):Ly.wp F (.seq x y) Q (fa N f) w:=
 wp_seq (wp_mono h λe a w' d=>by
  obtain⟨rfl,f',rfl,b,h2,c⟩:=d.elim;exact next f' w' b h2 c)
def To{x:Ly}(u:H)(keep:Nat->Prop)(p:(Nat->M)->Prop)(h:Ly.wp F x (aR (Rs N u f keep p)) (fa N f) w)(next:∀f' w',X u.heap.size u w'->(∀i,keep i->f' i=f i)->p f'->Q .normal (fa N f') w'):Ly.wp F x Q (fa N f) w:=
 wp_mono h λe a w' d=>by
  obtain⟨rfl,f',rfl,b,h2,c⟩:=d.elim;exact next f' w' b h2 c
variable{l:List (Int×Int)}{keep:Nat->Prop}{p:(Nat->M)->Prop}{x y:Ly}{b:aC}
def sF{n t k:Nat}{f:Nat->M}(h:t<n)(e:f t=.int .i64 k):(intOf ((fa n f).tmps.getD t D)).toNat=k:=by
 rw[Array.getD_eq_getD_getElem?,ej h,e];simp[intOf]
def Lp(N:Nat)(u:H)(f:Nat->M)(R:Int)(e:Exit)(a:Act)(w:H):Prop:=(e=.normal/\R=0/\∃f',a=fa N f'/\X u u w/\f' 1=f 1)\/(e=.ret/\R≠0/\∃f',a=fa N f'/\X u u w/\f' 2=.int .i64 R)
def TK(a4:aK u g 31 b)(a5: -1000<=b.S)(a6:b.S<=1000)(K:f 1=(g,0))(a3:g<u)(x10:u (g,10)=Y (.slice b.U.A b.U.n b.U.c))(C:bp u b.U l)(h4:f 4=.int .i64 (0:Nat))(hB:X u u w):
  Ly.wp F (.block 0 (.loop ux)) (Lp 119 u f (nD b.S l)) (fa 119 f) w:=by
 have ø:=0;exact sT
def TL(x6:u (g,6)=Y (.int .i64 b.rf))(a':2<=b.rf)(a0:b.rf<=30)(x9:u (g,9)=Y (.int .i64 b.ch))(K:f 1=(g,0))(a3:g<u)(x11:u (g,11)=Y (.slice b.E.A b.E.n b.E.c))(C:bp u b.E l)(h5:f 5=.int .i64 (0:Nat))(hB:X u u w):
  Ly.wp F (.block 2 (.loop uy)) (Lp 119 u f (nF b.rf b.ch l)) (fa 119 f) w:=by
 have å:=0;exact sT
def TM{l:List (Int×Int×Bool)}(a4:aK u g 31 b)(b1:b.U.n<=1000)(a5: -1000<=b.S)(a6:b.S<=1000)(K:f 1=(g,0))(a3:g<u)(x12:u (g,12)=Y (.slice b.W.A b.W.n b.W.c))(C:fL u b.W l)(h6:f 6=.int .i64 (0:Nat))(hB:X u u w):
  Ly.wp F (.block 4 (.loop za)) (Lp 119 u f (qi b.S b.U.n l)) (fa 119 f) w:=by
 have æ:=0;exact sT
variable{x:ae}
theorem B8{b:aC}(c:o.op=.box 31 x)(a:Z x=b.v):(Hn Z o).run F w=.ok (.value (.pointer (Y (w.heap.size,0)))) (w.alloc (aE b 31)):=by
 unfold aC.v at a;unfold Hn;simp only[c,a];unfold aE;go_simp;try rfl
def ZO{f:Nat->M}{r:Int}{w:H}(h:f 2=r):(results Tryz.f14 (fa 119 f).tmps).run F w=.ok (.int .i64 r) w:=by
 have e:(fa 119 f).tmps[2]?=Y (.int .i64 r):=by rw[ej zz,h]
 generalize(fa 119 f).tmps=A at e;unfold results Tryz.f14;simp[e]
def mm(b:aC)(l:bN)(w:H)(j:aI w b l):
  PH F 14 #[b.v] w λe w'=>e=.returned (.int .i64 (ay b l))/\X w w w':=by
 refine gy 119 Tryz.func14 (c:=fG) rfl rfl λf a2=>?_;have f0:f 0=b.v:=a2 _;clear a2;rw[ML];refine wp_seq (wF (l:=[0,1]) rfl ?_);refine lV (d:=1) (.pointer (Y ⟨w.heap.size,0,I⟩)) rfl rfl zz wnn (B8 rfl (ag (t:=0) zz f0)) ?_;refine lV (d:=2) (.int .i64 0) rfl rfl zz wnn (bq (.inr rfl) rfl) ?_;refine lE ?_;have x:aK (w.alloc (aE b 31)) w 31 b:=Sp _ _;have B:X w w (w.alloc (aE b 31)):=(X.refl _ _).alloc (dj _) _;have a6:(w.alloc (aE b 31)).heap.size=w.heap.size+1:=aa _ _;have j:=j.below B;have e1:ah (ah f 1 (.pointer (Y (w.heap.size,0)))) 2 (.int .i64 0) 1=.pointer (Y (w.heap.size,0)):=rfl;generalize ah (ah f 1 (.pointer (Y ⟨w.heap.size,0,I⟩))) 2 (.int .i64 0)=f1 at e1|-;generalize w.alloc (aE b 31)=u at x B a6 j|-;have E:(w:Nat)<u:=zz;generalize P:w.heap.size=g at e1 x E;have hB:X u u u:=X.refl _ _;have n:∀{f' w'},X u u w'->∀{r},f' 2=.int .i64 r->ay b l=r->bodyPost F Tryz.f14 (λe w'=>e=.returned (.int .i64 (ay b l))/\X g w w') .ret (fa 119 f') w':=λhB r h2 k=>by
  subst k;exact bd (v:=.int .i64 (ay b l)) (ZO h2) rfl ⟨rfl,P▸B.tn (hB.mono B.size)⟩
 obtain⟨r,k⟩:∃r,dZ b l.C=r:=⟨_,rfl⟩;have hc:=λw1 (h:X u.heap.size u w1)=>kB (Ic b l.C w1 (j.C.below h)) (vI k);refine wp_seq (bn u (λi=>i<7/\i≠3) (λf'=>f' 3=.int .i64 r) rr λf2 w2 hB k2 q2=>?_);have e1:=(k2 1 zz).tn e1;clear hc;cases K:(r != 0);rotate_left
 .refine bn u (· < 7) (λf'=>f' 10=.bool true) rr λf3 V hB p o=>wp_cond_true (ag zz o) ?_;have e3:=(p 3 zz).tn q2;refine bn u (λi=>i<7/\i≠2) (λf'=>f' 2=.int .i64 r) rr λW w4 hB R z=>wp_ret ?_;refine n hB z ?_;have C:r≠0:=by simpa using K
  rw[<- k]at C|-;unfold dZ at C|-;unfold ay;split
  .rfl
  .rename_i P;rw[cd P]at C;rw[dE C]
 .have a5:r=0:=by simpa using K
  refine bn u (· < 7) (λf'=>f' 10=.bool false) rr λf3 V hB p o=>wp_cond_false (ag zz o) (wp_skip ?_);have e1:=(p 1 zz).tn e1;rw[a5]at k;clear k2 p q2 o K;have Q:cA b l.C=0:=by
   by_cases h:cA b l.C=0
   .exact h
   .unfold dZ at k;rw[dE h]at k;exact dC k h
  have a1:cZ b=0:=by unfold dZ at k;rw[cd (by simp[Q])]at k;exact k
  obtain⟨t1,t2,t3,t4,t5,t6,t7,t8,t9,b4,b5⟩:=cS Q;obtain⟨u1,u2,u3,u4,u5,u6,u7,u8,u9⟩:=wL a1;have HK:ay b l=if fH b.S l.U≠0 then fH b.S l.U else if fT b.rf b.ch l.E≠0 then fT b.rf b.ch l.E else ki b.S l.U.length l.W:=by
   rw[ay,cd (by simp[Q]),cd (by simp[a1])]
  obtain⟨x0,x1,x2,x3,x4,x5,x6,x7,x8,x9,a7,a8,a9⟩:=aM x;have O:b.U.n=l.U.length:=j.U.1;have b1:l.U.length<=1000:=j.U.2.2.1;have a0:b.E.n=l.E.length:=j.E.1;have b3:b.W.n=l.W.length:=j.W.1;refine wp_seq ?_;cases hF:ax (b.U.n:Nat) 1 4
  .refine bn u (· < 7) (λf'=>f' 16=.bool true) rr λf3 V hB p o=>wp_cond_true (ag zz o) ?_;refine bn u (λi=>i<7/\i≠2) (λf'=>f' 2=.int .i64 2) rr λW w4 hB R z=>wp_ret (n hB z ?_);have:fH b.S l.U=2:=by rw[fH,<- O,cd (by simp[hF])]
   rw[HK,this];rfl
  .refine bn u (· < 7) (λf'=>f' 16=.bool false) rr λf3 V hB p o=>wp_cond_false (ag zz o) (wp_skip ?_);have e1:=(p 1 zz).tn e1;have a3:fH b.S l.U=nD b.S l.U:=by rw[fH,<- O,dE hF]
   rw[a3]at HK;refine wp_seq (bn u (λi=>i<7/\i≠4) (λf'=>f' 4=.int .i64 0) rr λW w4 hB R z=>?_);have e1:=(R 1 zz).tn e1;refine wp_mono (TK x zz zz e1 E a7 j.U z hB) λe a w5 y=>?_;rcases y with⟨rfl,L,f5,rfl,hB,S⟩|⟨rfl,L,f5,rfl,hB,S⟩;rotate_left
   .exact n hB S (by rw[HK,dE L])
   have e1:=S.tn e1;rw[cd (by simp[L])]at HK;refine wp_seq ?_;by_cases a':3<b.E.n
   .refine bn u (· < 7) (λf'=>f' 44=.bool true) rr λf6 w6 hB k6 T=>wp_cond_true (ag zz T) ?_;refine bn u (λi=>i<7/\i≠2) (λf'=>f' 2=.int .i64 2) rr λA G hB q m=>wp_ret (n hB m ?_);have:fT b.rf b.ch l.E=2:=by rw[fT,dE zz]
    rw[HK,this];rfl
   .refine bn u (· < 7) (λf'=>f' 44=.bool false) rr λf6 w6 hB k6 T=>wp_cond_false (ag zz T) (wp_skip ?_);have e1:=(k6 1 zz).tn e1;have a4:fT b.rf b.ch l.E=nF b.rf b.ch l.E:=by rw[fT,cd zz]
    rw[a4]at HK;refine wp_seq (bn u (λi=>i<7/\i≠5) (λf'=>f' 5=.int .i64 0) rr λA G hB q m=>?_);have e1:=(q 1 zz).tn e1;refine wp_mono (TL x6 zz zz x9 e1 E a8 j.E m hB) λe a w8 y=>?_;rcases y with⟨rfl,N,J,rfl,hB,s⟩|⟨rfl,N,J,rfl,hB,s⟩;rotate_left
    .exact n hB s (by rw[HK,dE N])
    have e1:=s.tn e1;rw[cd (by simp[N])]at HK;refine wp_seq ?_;by_cases b2:4<b.W.n
    .refine bn u (· < 7) (λf'=>f' 91=.bool true) rr λf9 w9 hB k9 U=>wp_cond_true (ag zz U) ?_;refine bn u (λi=>i<7/\i≠2) (λf'=>f' 2=.int .i64 2) rr λA G hB q m=>wp_ret (n hB m ?_);rw[HK,ki,dE zz]
    .refine bn u (· < 7) (λf'=>f' 91=.bool false) rr λf9 w9 hB k9 U=>wp_cond_false (ag zz U) (wp_skip ?_);have e1:=(k9 1 zz).tn e1;rw[ki,cd zz,<- O]at HK;refine wp_seq (bn u (λi=>i<7/\i≠6) (λf'=>f' 6=.int .i64 0) rr λA G hB q m=>?_);have e1:=(q 1 zz).tn e1;refine wp_mono (TM x zz zz zz e1 E a9 j.W m hB) λe a w8 y=>?_;rcases y with⟨rfl,Z,J,rfl,hB,s⟩|⟨rfl,Z,J,rfl,hB,s⟩;rotate_left
     .exact n hB s HK
     refine bn u (λi=>i<7/\i≠2) (λf'=>f' 2=.int .i64 0) rr λA G hB q m=>wp_ret (n hB m ?_);rw[HK,Z]
variable{e:Int×Int}{s S:Int}{E:List (Int×Int)}
def TO(f:0<=b.rf)(hc:b.ch<b.rh)(d:Qs b e)(g:s=1\/s= -1):0<=nJ b.rf b.rh b.ch e s/\nJ b.rf b.rh b.ch e s<=b.rf*(b.rh-e.2):=by
 obtain⟨l,h,q⟩:=d;have a:(b.rf+e.1)*(b.rh-b.ch)>=0:=Int.mul_nonneg zz zz;have m2:(b.rf-e.1)*(b.rh-b.ch)>=0:=Int.mul_nonneg zz zz;have c:b.rf*(b.ch-e.2)>=0:=Int.mul_nonneg f zz;simp only[nJ,I6];rcases g with rfl|rfl
 .simp only[Int.mul_sub,Int.sub_mul,Int.add_mul,Int.one_mul]at a m2 c|-;omega
 .simp only[Int.mul_sub,Int.sub_mul,Int.add_mul,Int.neg_mul,Int.one_mul]at a m2 c|-;omega
def Ni(d:0<=b.rf)(hc:b.ch<b.rh)(a:Qs b e)(f:s=1\/s= -1):vY b e s<=b.rf:=by
 have h:=(TO d hc a f).2;have:=(vZ hc a (s:=s) (c:=b.rf)).1;omega
def pL(b:aC)(c:Int):∀(E:List (Int×Int)) (uB:Int),c<qG b uB E↔c<uB\/∃e∈E,c<vY b e (-1)\/c<vY b e 1
 | [],uB=>by simp[qG]
 | e::r,uB=>by
  rw[qG,pL b c r];simp only[fc,exists_eq_or_imp];constructor
  .rintro(h|h)
   .have:c<uB\/c<vY b e (-1)\/c<vY b e 1:=zz;rcases this with h|h
    .exact .inl h
    .exact .inr (.inl h)
   .exact .inr (.inr h)
  .rintro(h|h|h)
   .exact .inl zz
   .exact .inl zz
   .exact .inr h
def IB(b:aC)(c:Int):∀(E:List (Int×Int)) (uB:Int),qG {b with cf:=c} uB E=qG b uB E
 | [],_=>rfl
 | e::r,uB=>by rw[qG,qG];exact IB b c r _
def QD(d:0<=b.cf)(hc:b.ch<b.rh)(c:∀e∈E,Qs b e):(∃e∈E,Ve b e=true)↔b.cf<qG b 0 E:=by
 rw[pL];constructor
 .rintro⟨e,a,h⟩;exact .inr ⟨e,a,(MP hc (c e a)).1 h⟩
 .rintro(h|⟨e,a,h⟩)
  .omega
  .exact⟨e,a,(MP hc (c e a)).2 h⟩
def QF(d:0<=b.rf)(hc:b.ch<b.rh)(a:∀e∈E,Qs b e):0<=qG b 0 E/\qG b 0 E<=b.rf:=by
 have f:=pL b (-1) E 0;have h2:=pL b b.rf E 0;constructor
 .have:=f.2 (.inl zz);omega
 .by_cases h:b.rf<qG b 0 E
  .rcases h2.1 h with h|⟨e,c,h|h⟩
   .omega
   .have:=Ni d hc (a e c) (s:= -1) (.inr rfl);omega
   .have:=Ni d hc (a e c) (s:=1) (.inl rfl);omega
  .omega
def ek(b:aC)(E:List (Int×Int))(n:Int):∀k,n∈(kL b E k).1↔∃i:Nat,i<k/\n=i/\Ve b (E.getD i (0,0))=true
 | 0=>by simp[kL]
 | k+1=>by
  have e:=ek b E n k;rw[AT,JC];split
  .rename_i d;simp only[mi,e,ib];constructor
   .rintro(⟨i,c,h2,a⟩|rfl)
    .exact⟨i,zz,h2,a⟩
    .exact⟨k,zz,rfl,d⟩
   .rintro⟨i,c,h2,a⟩;rcases Nat.lt_succ_iff_lt_or_eq.1 c with h|rfl
    .exact .inl ⟨i,h,h2,a⟩
    .exact .inr h2
  .rename_i d;rw[e];constructor
   .rintro⟨i,c,h2,a⟩;exact⟨i,zz,h2,a⟩
   .rintro⟨i,c,h2,a⟩;rcases Nat.lt_succ_iff_lt_or_eq.1 c with h|rfl
    .exact⟨i,h,h2,a⟩
    .exact dC a d
def E3(b:aC)(E:List (Int×Int)):∀k,((kL b E k).2<0↔(kL b E k).1=[])/\(0<=(kL b E k).2->(kL b E k).2∈(kL b E k).1)/\
  ∀i:Nat,i<k->Ve b (E.getD i (0,0))=true->(E.getD (kL b E k).2.toNat (0,0)).2<=(E.getD i (0,0)).2/\((E.getD (kL b E k).2.toNat (0,0)).2<(E.getD i (0,0)).2\/(kL b E k).2<=i)
 | 0=>by simp[kL]
 | k+1=>by
  obtain⟨e,h2,d⟩:=E3 b E k;have j:=JD b E k;rw[AT,JC];split
  .rename_i g;dsimp only;split
   .rename_i c;refine⟨by simp,λ_=>by simp,λi hi a=>?_⟩;rw[qNB];rcases Nat.lt_succ_iff_lt_or_eq.1 hi with h|rfl
    .obtain⟨l,m⟩:=d i h a;rcases c with c|c
     .have:=e.1 c;have f:=(ek b E i k).2 ⟨i,h,rfl,a⟩;rw[this]at f;cases f
     .omega
    .omega
   .rename_i c;refine⟨by simp;omega,λh=>by simp[h2 h],λi hi a=>?_⟩;rcases Nat.lt_succ_iff_lt_or_eq.1 hi with h|rfl
    .exact d i h a
    .omega
  .rename_i g;refine⟨e,h2,λi hi a=>?_⟩;rcases Nat.lt_succ_iff_lt_or_eq.1 hi with h|rfl
   .exact d i h a
   .exact dC a g
def ze{S n:Int}(f:0<=n)(g:n<S):∀{l:List Int} {p:Option Int},bS S p l=0->(∀x∈l,x<n)->(∀x,p=Y x->x<n)->bS S p (l++[n])=0
 | [],p,_,_,d=>by
  have b:¬ax n 0 (S-1)=false:=by rw[Bool.not_eq_false,cq];omega
  cases p with
  | none=>
   simp only[zR,bS];rw[cd b];rfl
  | some x=>
   have:=d x rfl;simp only[zR,bS];rw[cd b,cd so]
 | x::r,p,h,c,d=>by
  have i:x<n:=c x ss;have e:=λh=>ze f g (l:=r) (p:=Y x) h (λy a=>c y (by simp[a])) λy a=>by cases a;exact i
  cases p with
  | none=>
   simp only[bS,zR]at h|-;split at h
   .omega
   .rename_i q;rw[cd q];exact e (by simpa using h)
  | some y=>
   simp only[bS,zR]at h|-;split at h
   .omega
   .rename_i q;rw[cd q];split at h
    .omega
    .rename_i j;rw[cd j];exact e h
def Ca:∀k:Nat,(k:Int)<=S->bS S I (kL b E k).1=0
 | 0,_=>rfl
 | k+1,h=>by
  have c:bS S I (kL b E k).1=0:=Ca k zz;rw[AT,JC];split
  .refine ze (S:=S) (n:=(k:Int)) zz zz c (λx a=>?_) (λx a=>by cases a);obtain⟨i,d,rfl,-⟩:=(ek b E x k).1 a;omega
  .exact c
def JF(k:0<=b.cf)(hc:b.ch<b.rh)(f:∀e∈E,Qs b e):(kL b E E.length).1=[]↔qG b 0 E<=b.cf:=by
 have h:=QD k hc f;constructor
 .intro a;have l:¬ ∃e∈E,Ve b e=true:=by
   rintro⟨e,j,m⟩;obtain⟨i,hi,rfl⟩:=List.mem_iff_getElem.1 j;have:(i:Int)∈(kL b E E.length).1:=(ek b E i E.length).2 ⟨i,hi,rfl,by simpa[List.getD,fg hi]using m⟩;rw[a]at this;cases this
  rw[h]at l;omega
 .intro a
  cases g:(kL b E E.length).1 with
  | nil=>rfl
  | cons n r=>
   obtain⟨i,c, -, d⟩:=(ek b E n E.length).1 (by rw[g];simp);have:∃e∈E,Ve b e=true:=⟨E[i],List.getElem_mem c,by simpa[List.getD,fg c]using d⟩;rw[h]at this;omega
theorem MZ(n:Int)(s:Sl)(l:List Int)(w:H)(q:aN w s l):
  PH F 25 #[.slice s.A s.n s.c,.int .i64 n] w λe w'=>e=.returned (.bool (decide (n∈l)))/\w'=w:=by
 obtain⟨A,v,c⟩:=s;obtain⟨rfl,hc,u,h⟩:=q;have o:PQ (0<l.length->∃b off,A=Y ⟨b,off,I⟩/\b<w.heap.size/\∀k,k<l.length->w (b,off+k)=Y (.int .i64 (l.getD k 0))):=h;clear h;simp only at|-;go_enter Tryz.func25,Tryz.ntmps25;go_wp2;go_loopw [5] (λi wr=>∃k:Nat,k<=l.length/\i=.int .i64 k/\wr=w/\PQ (n∉l.take k)) (λi _=>l.length-(intOf i).toNat)
 case atStart=>exact⟨0,fi _,rfl,rfl,by simp[PQ]⟩
 case round=>
  obtain⟨k,hk,rfl,rfl,m⟩:=hrel;by_cases d:k<l.length
  .obtain⟨r,off,rfl,t,j⟩:=o.out zz;have p:=j k d;have a:PQ (l.getD k 0=l[k]):=by show _=_;simp[List.getD,fg d]
   have g:PQ (l.take (k+1)=l.take k++[l.getD k 0]):=by show _=_;rw[a.out];simp
   have f:PQ (l.getD k 0∈l):=by show _∈_;rw[a.out];exact List.getElem_mem d
   clear j a;generalize l.getD k 0=x at p g f;go_wp2
   .go_ret;exact⟨bR (by have:=f.out;simp_all),rfl⟩
   .go_roundw
    case rel=>exact⟨k+1,zz,by go_num,by trivial,by show _∉_;rw[g.out];have:=m.out;simp_all;omega⟩
    case measure=>simp[intOf];omega
  .obtain rfl:k=l.length:=zz;go_wp2;go_ret;exact⟨bR (by have:=m.out;simp_all),rfl⟩
variable{x:Int}{l:bN}
def TP(hc:b.ch<b.rh)(a:∀e∈E,Qs b e)(d:0<=x):
  (kL {b with cf:=x} E E.length).1=[]↔qG b 0 E<=x:=by
 have:=JF (b:= {b with cf:=x}) (E:=E) d hc (λe c=>⟨(a e c).l,(a e c).h,(a e c).q⟩);rw[IB]at this;exact this
def TQ:(kL b E E.length).2= -1↔(kL b E E.length).1=[]:=by
 have a:=(E3 b E E.length).1;have h2:=JD b E E.length;rw[<- a];omega
def TS{m:Nat}(c:m<E.length):decide ((m:Int)∈(kL b E E.length).1)=Ve b (E.getD m (0,0)):=by
 rw[Bool.eq_iff_iff,decide_eq_true_iff,ek];constructor
 .rintro⟨i,d,h2,a⟩;have:m=i:=zz;rw[this];exact a
 .exactλh=>⟨m,c,rfl,h⟩
def Nj(i:ay b l=0):0<=b.rf/\b.ch<b.rh/\0<=b.cf/\b.cf<=b.rf/\l.E.length<=3/\∀e∈l.E,Qs b e:=by
 obtain⟨-, g, -, a,-⟩:=bP i;obtain⟨j,m,n,o,c,d,p,q,f⟩:=wL g;refine⟨zz,f,c,d,?_,λe h=>?_⟩
 .unfold fT at a;split at a<;>omega
 .obtain⟨k,hk,rfl⟩:=List.mem_iff_getElem.1 h;have:=qY a k hk;rw[show l.E.getD k (0,0)=l.E[k] by simp[List.getD,fg hk]]at this;exact⟨this.1,this.2.1,this.2.2.2.2⟩
def JG(m:ay b l=0)(i:0<=x)(j:x<=b.rf):ay {b with cf:=x} l=0:=by
 obtain⟨g,k,s,r,n⟩:=bP m;obtain⟨a,c,d,e,o,p,f,h,q⟩:=wL k;have hc:cZ {b with cf:=x}=0:=by
  unfold cZ;rw[dE ⟨cq.2 ⟨a,c⟩,cq.2 ⟨d,e⟩,cq.2 ⟨i,j⟩,cq.2 ⟨f,h⟩⟩,cd (by show¬b.rh<=b.ch;omega)]
 have t:cA {b with cf:=x} l.C=0:=g;unfold ay;rw[cd zz,cd zz,cd (by show¬fH b.S l.U≠0;omega),cd (by show¬fT b.rf b.ch l.E≠0;omega)];exact n
variable{t:Nat}{S:H->Prop}
variable{y uB:Int}{p:Bool}
theorem Qt(b:aC)(w:H)(d:mX b=true):
  PH F 22 #[b.v] w λe w'=>e=.returned (.bool false)/\X w w w':=by
 have a:=λf=>ME b f;simp only[d]at a;clear d;unfold aC.v at a|-;go_enter Tryz.func22,Tryz.ntmps22;go_wp2_with (go_at_call 7;refine(a _).mono ?_;rintro e f ⟨rfl,c⟩;obtain⟨g,h⟩:=aU c);go_ret;exact⟨rfl,di c⟩
theorem Qu(b:aC)(l:bN)(w:H)(h:mX b=false)(i:aI w b l):
  PH F 22 #[b.v] w λe w'=>e=.returned (.bool (ay b l==0))/\X w w w':=by
 have j:=Hm i;have d:=λa=>ME b a;have f:=λa (k:aI a b l)=>mm b l a k;simp only[h]at d;clear h i;generalize ay b l=r at f|-;unfold aC.v at d f|-;go_enter Tryz.func22,Tryz.ntmps22;go_wp2_with (first|(go_at_call 7;refine(d _).mono ?_;rintro e a ⟨rfl,c⟩;obtain⟨m,o⟩:=aU c)|(go_at_call 14;refine(f _ ((aq j.out _).below c)).mono ?_;rintro e q ⟨rfl,g⟩;obtain⟨n,p⟩:=aU g));go_ret;exact⟨rfl,di (c.tn (g.mono c.size))⟩
theorem E5(b:aC)(l:bN)(x:Int)(w:H)(d:aI w b l)(g:aD w)(f:ay {b with cf:=x} l=0):
  PH F 26 #[b.v,.int .i64 x] w λe w'=>e=.returned (.bool ((kL {b with cf:=x} l.E l.E.length).1.isEmpty&&(kL {b with cf:=x} l.E l.E.length).2 == -1))/\X w w w':=by
 have k:=Hm (show aI w {b with cf:=x} l from⟨d.C,d.U,d.E,d.W⟩);have j:=Hm g;have a:=λi m h2=>MG {b with cf:=x} l i m h2 f;have e0:AU {b with cf:=x} l=((kL {b with cf:=x} l.E l.E.length).1,(kL {b with cf:=x} l.E l.E.length).2,0):=by
  unfold AU;rw[cd (by simp[f])]
 simp only[e0]at a;clear e0 d g f;generalize kL {b with cf:=x} l.E l.E.length=p at a|-;obtain⟨L,lo⟩:=p;unfold EN at a;simp only at a|-;cases L;all_goals simp only[ky,fx,List.isEmpty_nil,List.isEmpty_cons]at a|-
 all_goals
  unfold aC.v at a|-;go_enter Tryz.func26,Tryz.ntmps26;go_wp2_with (go_at_call 18;refine(a _ (k.out.below (by exact bt)) (j.out.below (by exact bt))).mono ?_;rintro e i ⟨A,c,rfl, -, h⟩;obtain⟨n,o⟩:=aU h);go_ret;exact⟨bR ss,di h⟩
end Go.Proofs.YtfcgpihkimpkcaaGreatDoor
