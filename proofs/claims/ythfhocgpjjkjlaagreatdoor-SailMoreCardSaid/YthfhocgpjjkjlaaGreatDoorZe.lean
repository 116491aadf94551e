import Derived.Test.YthfhocgpjjkjlaaGreatDoorZd
import Derived.Conc.WrWorld
set_option maxRecDepth 100000
set_option maxHeartbeats 4000000
set_option linter.all false
noncomputable section
open Go renaming World->H,Frame->Kf,TypeId->Lk,stepG->Lq,Value->M,Program->Ps,Goroutine->QP,Trace->Th,MemOp->al,FuncId->ba,deafBehind->bc
open Option renaming none->I,some->Y
open Go.ConcN renaming upd_ne->Sh,upd_same->Sx
namespace Go.Co
open Go.Conc
variable{j k sz sz':Nat}{said:Bool}{t u:Th}
section
open Go.ConcN (upd upd_same upd_ne)
inductive St
 | quit
 | run
 | off (v:M)
 | rel
 | last
 | wait
 | done
inductive Kn
 | no
 | rel
 | cl
 | sh
 | top
inductive Gw
 | none
 | idle (c:Nat)
 | wait (c:Nat)
 | last
 | zero
 | up
inductive Md
 | idle
 | best
 | clash
 deriving DecidableEq
structure Gh where
 num:Nat
 st:Nat->St
 V:Nat->Nat->Prop
 O:Nat->Nat->Prop
 df:Nat->Nat
 hid:Nat->Prop
 cD:Nat->Prop
 kn:Nat->Kn
 C:Nat
 cl:Bool
 ty:Lk
 Wg:Nat
 gw:Gw
 md:Md
 base:Nat
 cz:Option Nat
 pend:Nat
 pay:Nat->M->H->Prop
 got:List (Nat×M)
 snt:Nat->Prop
def blk:Loc->Option Nat
 | .cell a=>Y a.block
 | .obj r=>Y r
 | _=>I
def Live(J:Gh)(i:Nat):Prop:=i=0\/J.st i≠.quit
def Apart(J:Gh)(i:Nat)(a:Touch):Prop:=
 ∃b,blk a.loc=Y b/\((a.write=false/\a.kind=.plain/\¬J.O i b/\¬J.hid b)\/(¬J.V i b/\¬J.hid b)\/(J.hid b/\(a.kind=.atomic\/(a.kind=.said/\¬J.cD i))))
def rA(J:Gh)(i:Nat)(a:Touch):Prop:=
 ∃b,blk a.loc=Y b/\((a.kind=.plain/\J.V i b/\(a.write=true->J.O i b))\/(J.hid b/\a.kind=.atomic)\/(J.hid b/\a.kind=.said/\J.cD i))
def Loose(t:Th)(j:Nat):Prop:=∃op ad wr,t[j]?=Y op/\op.act=.access ⟨.cell ad,wr,true⟩/\0<t.deaf op.g j
def KB(t:Th)(k p:Nat):Prop:=∀j op a,t[j]?=Y op->op.g=k->op.act.touch?=Y a->a.loc.isMemory=true->Before t j p\/Loose t j
def HK(t:Th)(k:Nat):Prop:=∀j op a,t[j]?=Y op->op.g=k->op.act.touch?=Y a->a.loc.isMemory=true->Knows t 0 j\/Loose t j
def ja(J:Gh)(t:Th)(k:Nat):Prop:=
 match J.kn k with
 | .no=>True
 | .rel=>∃p,t.act? p=Y (.mark (.releaseMerge (J.Wg,0)))/\t.heard p/\KB t k p
 | .cl=>∃q z,t[q]?=Y z/\Y z.g=J.cz/\KB t k q
 | .sh=>∃q,t.act? q=Y (.close J.C)/\t.heard q/\KB t k q
 | .top=>HK t k
structure TI(J:Gh)(t:Th)(sz:Nat):Prop where
 clean:∀said,¬Race said t
 low:∀op∈t,op.act.low sz
 deaf:∀i,Live J i->Deaf t i=J.df i
 above:∀j,J.num<=j->Deaf t j=0
 norel:∀op∈t,∀a,op.act≠.mark (.release a)
 know:∀i,Live J i->∀j a,touchAt t j=Y a->a.loc.isMemory=true->Knows t i j\/Apart J i a
 hand:∀k,k≠0->ja J t k
 says:∀i k,J.cD i->J.cD k->i=k
 atom:∀j a,touchAt t j=Y a->a.loc.isMemory=true->a.kind=.atomic->∃b,blk a.loc=Y b/\J.hid b
structure MI(J:Gh)(sz:Nat):Prop where
 num:0<J.num
 own:∀i b,J.O i b->J.V i b
 cX:∀i b,J.V i b->b<sz
 dis:∀i j b,i≠j->J.V i b->¬J.O j b
 nhid:∀i b,J.V i b->¬J.hid b
 hbnd:∀b,J.hid b->b<sz
 dead:∀i,i≠0->J.st i=.quit->∀b,¬J.V i b
 out:∀i,J.num<=i->J.st i=.quit
section
variable{J σ':Gh}
def Loose.app(h:Loose t j):Loose (t++u) j:=by
 obtain⟨op,ad,wr,a,h2,c⟩:=h;have b:=lt_size_of_getElem? a;exact⟨op,ad,wr,by rw[getElem?_append_old b];exact a,h2,by rw[deaf_old (q5A b)];exact c⟩
def KB.app{k p:Nat}(h:KB t k p)(g:∀(x:Nat) op a,u[x]?=Y op->op.g=k->op.act.touch?=Y a->a.loc.isMemory=true->Loose (t++u) (t.size+x)):KB (t++u) k p:=by
 intro j op a b d c e;rcases Nat.lt_or_ge j t.size with f|i
 .rw[getElem?_append_old f]at b;exact(h j op a b d c e).imp (·.app u) (·.app)
 .refine .inr ?_;rw[Array.getElem?_append,qVB zz]at b;have:=g (j-t.size) op a b d c e;rwa[show t.size+(j-t.size)=j by omega]at this
def HK.app(h:HK t k)(g:∀(x:Nat) op a,u[x]?=Y op->op.g=k->op.act.touch?=Y a->a.loc.isMemory=true->Loose (t++u) (t.size+x)):HK (t++u) k:=by
 intro j op a b d c e;rcases Nat.lt_or_ge j t.size with f|i
 .rw[getElem?_append_old f]at b;exact(h j op a b d c e).imp (·.app u) (·.app)
 .refine .inr ?_;rw[Array.getElem?_append,qVB zz]at b;have:=g (j-t.size) op a b d c e;rwa[show t.size+(j-t.size)=j by omega]at this
def rB(h:t.heard j):(t++u).heard j:=by
 have b:j<t.size:=by
  obtain⟨g,a,-⟩:=h;obtain⟨op,c,-⟩:=Option.map_eq_some_iff.1 a;exact lt_size_of_getElem? c
 exact(heard_old b).2 h
def wS{x:MemAct}(h:t.act? j=Y x):(t++u).act? j=Y x:=by rw[act?_old (lt_of_act? h)];exact h
def ja.app(h:ja J t k)(g:σ'.kn k=J.kn k)(f:σ'.Wg=J.Wg)(e:σ'.C=J.C)(i:σ'.cz=J.cz)(b:J.kn k=.no\/∀(x:Nat) op a,u[x]?=Y op->op.g=k->op.act.touch?=Y a->a.loc.isMemory=true->Loose (t++u) (t.size+x)):ja σ' (t++u) k:=by
 unfold ja at h|-;rw[g,f,e,i]
 cases hk:J.kn k with
 | no=>trivial
 | rel=>
  rw[hk]at h b;obtain⟨p,c,h2,d⟩:=h;exact⟨p,wS c,rB h2,d.app (b.resolve_left ss)⟩
 | cl=>
  rw[hk]at h b;obtain⟨q,z,c,h2,d⟩:=h;exact⟨q,z,by rw[getElem?_append_old (lt_size_of_getElem? c)];exact c,h2,d.app (b.resolve_left ss)⟩
 | sh=>
  rw[hk]at h b;obtain⟨q,c,h2,d⟩:=h;exact⟨q,wS c,rB h2,d.app (b.resolve_left ss)⟩
 | top=>
  rw[hk]at h b;exact HK.app h (b.resolve_left ss)
def ja.same(h:ja J t k)(c:σ'.kn k=J.kn k)(b:σ'.Wg=J.Wg)(a:σ'.C=J.C)(d:σ'.cz=J.cz):ja σ' t k:=by
 unfold ja at h|-;rw[c,b,a,d];exact h
def BC{a b:Touch}(h:a.conflicts said b):blk a.loc=blk b.loc:=by rw[h.1]
def OI{σ':Gh}{i:Nat}{a b:Touch}(s:MI J sz)(t:∀x,σ'.O i x->J.O i x\/sz<=x)(u:∀x,σ'.V i x->J.V i x\/sz<=x)(q:∀x,σ'.hid x↔J.hid x)(w:σ'.cD i↔J.cD i)(v:∀x,blk a.loc=Y x->x<sz)
  (h:Apart J i a)(n:rA σ' i b):¬a.conflicts said b:=by
 intro p;obtain⟨x,r,h⟩:=h;obtain⟨y,A,n⟩:=n;have z:x=y:=by
  have:=BC p;rw[r,A]at this;exact km this
 subst z;have B:=v x r;obtain⟨-, -, f,hk⟩:=p;rcases n with⟨l,e,m⟩|⟨l,e⟩|⟨l,e,m⟩
 .have o:J.V i x:=(u x e).resolve_right zz;rcases h with⟨d,c,g,k⟩|⟨d,c⟩|⟨d,c⟩
  .rcases f with f|f
   .rw[d]at f;cases f
   .exact g ((t x (m f)).resolve_right zz)
  .exact d o
  .exact s.nhid i x o d
 .have j:=(q x).1 l;rcases h with⟨d,c,g,k⟩|⟨d,c⟩|⟨d,c|⟨c,-⟩⟩
  .exact k j
  .exact c j
  .rw[c,e]at hk;simp at hk
  .rw[c,e]at hk;simp at hk
 .have j:=(q x).1 l;rcases h with⟨d,c,g,k⟩|⟨d,c⟩|⟨d,c|⟨c,g⟩⟩
  .exact k j
  .exact c j
  .rw[c,e]at hk;simp at hk
  .exact g (w.1 m)
end
end
variable{b i:Nat}{J σ':Gh}
def LY{x:MemAct}{a:Touch}(h:x.touch?=Y a)(hl:x.low sz)(c:blk a.loc=Y b):b<sz:=by
 cases x with
 | access e=>
  simp only[MemAct.touch?,fg]at h;subst h;obtain⟨d,wr,f⟩:=e
  cases d with
  | cell ad=>cases c;exact hl
  | obj r=>cases c;exact hl
  | _=>cases c
 | mark m=>
  cases m with
  | read ad=>simp only[MemAct.touch?,fg]at h;subst h;cases c;exact hl
  | write ad=>simp only[MemAct.touch?,fg]at h;subst h;cases c;exact hl
  | _=>cases h
 | _=>cases h
def M3(hl:∀op∈t,op.act.low sz){j:Nat}{a:Touch}(h:touchAt t j=Y a)(d:blk a.loc=Y b):b<sz:=by
 obtain⟨op,e,c⟩:=touch_of h;exact LY c (hl op (kq e)) d
structure UZ(J σ':Gh)(i sz sz':Nat):Prop where
 num:σ'.num=J.num
 live:∀k,Live σ' k↔Live J k
 V:∀k,k≠i->∀b,σ'.V k b↔J.V k b
 O:∀k,k≠i->∀b,σ'.O k b↔J.O k b
 Vi:∀b,σ'.V i b↔J.V i b\/(sz<=b/\b<sz')
 Oi:∀b,σ'.O i b↔J.O i b\/(sz<=b/\b<sz')
 hid:∀b,σ'.hid b↔J.hid b
 cD:∀k,σ'.cD k↔J.cD k
 kn:∀k,σ'.kn k=J.kn k
 Wg:σ'.Wg=J.Wg
 C:σ'.C=J.C
 cz:σ'.cz=J.cz
 df:∀k,k≠i->σ'.df k=J.df k
def UZ.OJ(U:UZ J σ' i sz sz')(h:σ'.O k b)(a:b<sz):J.O k b:=by
 by_cases hk:k=i
 .subst hk;exact((U.Oi b).1 h).resolve_right zz
 .exact(U.O k hk b).1 h
def UZ.D9(U:UZ J σ' i sz sz')(h:σ'.V k b)(a:b<sz):J.V k b:=by
 by_cases hk:k=i
 .subst hk;exact((U.Vi b).1 h).resolve_right zz
 .exact(U.V k hk b).1 h
def MI.upd(a:MI J sz)(hi:Live J i)(o:i<J.num)(U:UZ J σ' i sz sz')(m:σ'.st=J.st)(g:sz<=sz'):MI σ' sz':=by
 refine⟨by rw[U.num];exact a.num,λk b h=>?_,λk b h=>?_,λk j b l h d=>?_,λk b h d=>?_,λb h=>qP (a.hbnd b ((U.hid b).1 h)) g,λk hk f b h=>?_,λk hk=>by rw[m];exact a.out k (by rw[<- U.num];exact hk)⟩
 .by_cases hk:k=i
  .subst hk;exact(U.Vi b).2 (((U.Oi b).1 h).imp (a.own k b) id)
  .exact(U.V k hk b).2 (a.own k b ((U.O k hk b).1 h))
 .by_cases hk:k=i
  .subst hk;rcases(U.Vi b).1 h with h|h
   .exact qP (a.cX k b h) g
   .exact h.2
  .exact qP (a.cX k b ((U.V k hk b).1 h)) g
 .by_cases c:b<sz
  .exact a.dis k j b l (U.D9 h c) (U.OJ d c)
  .by_cases hk:k=i
   .subst hk;exact c (a.cX j b (a.own j b ((U.O j (λe=>l e.symm) b).1 d)))
   .exact c (a.cX k b ((U.V k hk b).1 h))
 .have c:=a.hbnd b ((U.hid b).1 d);exact a.nhid k b (U.D9 h c) ((U.hid b).1 d)
 .rw[m]at f;have n:k≠i:=by
   rintro rfl;rcases hi with h|h
   .exact hk h
   .exact h f
  exact a.dead k hk f b ((U.V k n b).1 h)
def TI.own(d:TI J t sz)(l:MI J sz)(hi:Live J i)(a4:i<J.num)(U:UZ J σ' i sz sz')(a1:sz<=sz')(s:∀op∈u,op.g=i)(T:Deaf (t++u) i=σ'.df i)
  (C:∀op∈u,∀a,op.act.touch?=Y a->a.loc.isMemory=true->rA σ' i a)(W:i=0\/J.kn i=.no\/∀(x:Nat) op a,u[x]?=Y op->op.act.touch?=Y a->a.loc.isMemory=true->Loose (t++u) (t.size+x))
  (Z:∀op∈u,op.act.low sz')(hrel:∀op∈u,∀a,op.act≠.mark (.release a)):TI σ' (t++u) sz':=by
 have R:∀k a,(∀b,blk a.loc=Y b->b<sz)->Apart J k a->Apart σ' k a:=by
  intro k a A ⟨b,g,h⟩;have n:=A b g;refine⟨b,g,?_⟩;rcases h with⟨c,h2,p,y⟩|⟨c,h2⟩|⟨c,h2⟩
  .exact .inl ⟨c,h2,λh=>p (U.OJ h n),λh=>y ((U.hid b).1 h)⟩
  .exact .inr (.inl ⟨λh=>c (U.D9 h n),λh=>h2 ((U.hid b).1 h)⟩)
  .exact .inr (.inr ⟨(U.hid b).2 c,h2.imp id λx=>⟨x.1,λh=>x.2 ((U.cD k).1 h)⟩⟩)
 refine⟨λa2=>noRace_append (d.clean a2) s λj a m op r b g z=>?_,λop r=>?_,λk hk=>?_,λj O=>?_,λop r=>?_,λk hk j a m o=>?_,λk hk=>?_,λa b m g=>d.says a b ((U.cD a).1 m) ((U.cD b).1 g),λj a m o hk=>?_⟩
 .have A:∀x,blk a.loc=Y x->x<sz:=λx E=>M3 d.low m E;have o:=z.2.1;refine(d.know i hi j a m o).resolve_right λS=>?_;exact OI l (λx h=>((U.Oi x).1 h).imp id (·.1)) (λx h=>((U.Vi x).1 h).imp id (·.1)) U.hid (U.cD i) A S (C op r b g (by rw[<- z.1];exact o)) z
 .rcases q9A.1 r with h|h
  .exact MemAct.low_mono a1 (d.low op h)
  .exact Z op h
 .by_cases f:k=i
  .subst f;exact T
  .rw[Deaf_other t (λe=>f e.symm) u s,U.df k f];exact d.deaf k ((U.live k).1 hk)
 .rw[U.num]at O;rw[Deaf_other t zz u s];exact d.above j O
 .rcases q9A.1 r with h|h
  .exact d.norel op h
  .exact hrel op h
 .obtain⟨op,v,q⟩:=touch_of m;rcases getElem?_append_cases v with⟨n,B⟩|⟨V,w⟩
  .have N:touchAt t j=Y a:=by rw[touchAt_of B];exact q
   exact(d.know k ((U.live k).1 hk) j a N o).imp (·.app u) (R k a λx E=>M3 d.low N E)
  .by_cases f:k=i
   .subst f;have:=knows_own v;rw[s op w]at this;exact .inl this
   .refine .inr ?_;obtain⟨b,g,h⟩:=C op w a q o;refine⟨b,g,?_⟩;have a3:∀k',σ'.O k' b->k'=i\/J.O k' b:=λk' h=>by
     by_cases e:k'=i
     .exact .inl e
     .exact .inr ((U.O k' e b).1 h)
    rcases h with⟨c,h2,p⟩|⟨c,h2⟩|⟨c,h2,p⟩
    ·
     have P:¬σ'.hid b:=λh=>by
      have G:=(U.hid b).1 h;have:=l.hbnd b G;exact l.nhid i b (U.D9 h2 this) G
     by_cases Q:a.write=true
     .refine .inr (.inl ⟨λh=>?_,P⟩);have L:=(U.V k f b).1 h;have n:=l.cX k b L;exact l.dis k i b f L (U.OJ (p Q) n)
     .refine .inl ⟨by simpa using Q,c,λh=>?_,P⟩;have K:=(U.O k f b).1 h;have n:=l.cX k b (l.own k b K);exact l.dis i k b (λe=>f e.symm) (U.D9 h2 n) K
    .exact .inr (.inr ⟨c,.inl h2⟩)
    .exact .inr (.inr ⟨c,.inr ⟨h2,λh=>f (d.says k i ((U.cD k).1 h) ((U.cD i).1 p))⟩⟩)
 .refine(d.hand k hk).app (U.kn k) U.Wg U.C U.cz ?_;by_cases f:k=i
  .subst f;rcases W with h|h|h
   .exact mi h hk
   .exact .inl h
   .exact .inr λx op a c _ p y=>h x op a c p y
  .exact .inr λx op a c h2 _ _=>mi ((s op (kq c)).symm.tn h2).symm f
 .obtain⟨op,v,q⟩:=touch_of m;rcases getElem?_append_cases v with⟨n,B⟩|⟨V,w⟩
  .obtain⟨b,c,h2⟩:=d.atom j a (by rw[touchAt_of B];exact q) o hk;exact⟨b,c,(U.hid b).2 h2⟩
  .obtain⟨b,g,h⟩:=C op w a q o;rcases h with⟨c,-⟩|⟨c,-⟩|⟨c,h2,-⟩
   .rw[hk]at c;cases c
   .exact⟨b,g,c⟩
   .rw[hk]at h2;cases h2
variable{x c s n p q:Nat}{f1 f2:ba}{p1 p2:String}
def qy{said:Bool}(h:¬Race said t)(m:∀op∈u,op.act.touch?=I):¬Race said (t++u):=by
 rintro⟨i,j,d,⟨a,b,g,k,l⟩,n1,v⟩;obtain⟨x,n,p⟩:=touch_of g;obtain⟨y,q,c⟩:=touch_of k;rcases getElem?_append_cases q with⟨f,r⟩|⟨f,s⟩
 .have hi:=Nat.lt_trans d f;have o:t[i]?=Y x:=by rw[<- getElem?_append_old hi];exact n
  exact h ⟨i,j,d,⟨a,b,by simp[Th.act?,o,p],by simp[Th.act?,r,c],l⟩,λe=>n1 (hb_app u e),λe=>v (hb_app u e)⟩
 .rw[m y s]at c;cases c
def kW(f:∀op∈u,op.act.touch?=I){a:Touch}(h:touchAt (t++u) j=Y a):touchAt t j=Y a:=by
 obtain⟨op,c,b⟩:=touch_of h;rcases getElem?_append_cases c with⟨g,d⟩|⟨-, e⟩
 .rw[touchAt_of d];exact b
 .rw[f op e]at b;cases b
def P5{op:al}(h:u[x]?=Y op):(t++u)[t.size+x]?=Y op:=by
 rw[Array.getElem?_append,qVB zz,show t.size+x-t.size=x by omega];exact h
def heard_new(d:∀op∈u,op.act≠.mark .disable/\op.act≠.mark .enable){op:al}(h:u[x]?=Y op)(c:Deaf t op.g=0):(t++u).heard (t.size+x):=by
 refine⟨op.g,by simp only[Th.g?,P5 h,ky],?_⟩;have key:∀y,y<=u.size->(t++u).deaf op.g (t.size+y)=Deaf t op.g:=by
  intro y
  induction y with
  | zero=>intro _;rw[Nat.add_zero,deaf_old (qN _)];rfl
  | succ y f=>
   intro i;have b:u[y]?=Y u[y]:=fi zz;rw[<- Nat.add_assoc,deaf_succ (P5 b),f zz];have a:=d _ (kq b);unfold deafStep;split
   .rename_i e;exact mi e a.1
   .rename_i e;exact mi e a.2
   .rfl
 have g:x<u.size:=(ec.1 h).1;rw[key x zz,c]
def kT{op:al}(h:u[x]?=Y op):(t++u).act? (t.size+x)=Y op.act:=by simp only[Th.act?,P5 h,ky]
def nP{i c s r:Nat}:∀op∈qx i c s r f1 p1 f2 p2,op.act.touch?=I:=by
 intro op a;simp only[qx,hZ,dq,fp,or_false]at a;rcases a with rfl|rfl|rfl|rfl<;>rfl
def AF(hi:Deaf t i=0)(b:Deaf t 0=0)(h:Knows t i j):Knows (t++qx i c s s f1 p1 f2 p2) 0 j:=by
 have e0:(qx i c s s f1 p1 f2 p2)[0]?=Y {g:=i,fn:=f1,pos:=p1,act:=.send c s}:=rfl;have a:(qx i c s s f1 p1 f2 p2)[3]?=Y {g:=0,fn:=f2,pos:=p2,act:=.recvDone c s}:=rfl;have d:HappensBefore (t++qx i c s s f1 p1 f2 p2) (t.size+0) (t.size+3):=
  .single (.inr ⟨.handOver (c:=c) (k:=s) (kT e0) (kT a),heard_new iS e0 hi,heard_new iS a b⟩)
 exact⟨t.size+3,_,P5 a,rfl,.inr ((h.hb_new (qN _) (P5 e0) rfl).tn d)⟩
def sB(v:M)(b:Nat):Prop:=∃a l c,v=.slice (Y a) l c/\b=a.block
structure Hand(J σ':Gh)(i:Nat)(v:M):Prop where
 num:σ'.num=J.num
 live:∀k,k≠i->(Live σ' k↔Live J k)
 V0:∀b,σ'.V 0 b↔J.V 0 b\/sB v b
 V:∀k,k≠0->∀b,σ'.V k b->J.V k b
 O:∀k,∀b,σ'.O k b->J.O k b
 Oi:∀b,σ'.O i b->¬sB v b
 hid:∀b,σ'.hid b↔J.hid b
 cD:∀k,σ'.cD k↔J.cD k
 kn:∀k,k≠i->σ'.kn k=J.kn k
 kni:σ'.kn i=.no\/σ'.kn i=.top
 Wg:σ'.Wg=J.Wg
 C:σ'.C=J.C
 cz:σ'.cz=J.cz
 df:∀k,σ'.df k=J.df k
def TI.handed(f:TI J t sz)(z:MI J sz)(R:i≠0)(hi:Live J i){v:M}(H:Hand J σ' i v)(W:∀b,sB v b->J.V i b)(O:J.df 0=0)(P:J.df i=0)(N:c<sz):
  TI σ' (t++qx i c s s f1 p1 f2 p2) sz:=by
 have w:=(f.deaf 0 (.inl rfl)).tn O;have y:=(f.deaf i hi).tn P;have K:∀k,Live σ' k->Live J k:=λk h=>by
  by_cases e:k=i
  .rw[e];exact hi
  .exact(H.live k e).1 h
 refine⟨λZ=>qy (f.clean Z) nP,λop u=>?_,λk hk=>?_,λj S=>?_,λop u=>?_,λk hk j a l o=>?_,λk hk=>?_,λa b l g=>f.says a b ((H.cD a).1 l) ((H.cD b).1 g),λj a l o hk=>?_⟩
 .rcases q9A.1 u with h|h
  .exact f.low op h
  .simp only[qx,hZ,dq,fp,or_false]at h;rcases h with rfl|rfl|rfl|rfl<;>exact N
 .rw[deaf_quiet iS,H.df];exact f.deaf k (K k hk)
 .rw[deaf_quiet iS];exact f.above j (by rw[<- H.num];exact S)
 .rcases q9A.1 u with h|h
  .exact f.norel op h
  .simp only[qx,hZ,dq,fp,or_false]at h;rcases h with rfl|rfl|rfl|rfl<;>(intro a e;cases e)
 .have A:=kW nP l;rcases f.know k (K k hk) j a A o with h|⟨b,g,h⟩
  .exact .inl (h.app _)
  .by_cases C:k=0
   .subst C;rcases h with⟨d,h2,m,q⟩|⟨d,h2⟩|⟨d,h2⟩
    .exact .inr ⟨b,g,.inl ⟨d,h2,λh=>m (H.O _ _ h),λh=>q ((H.hid b).1 h)⟩⟩
    .by_cases G:sB v b
     .rcases f.know i hi j a A o with h|⟨b',B,h⟩
      .exact .inl (AF y w h)
      .rw[g]at B;obtain rfl:=km B;have r:=W b G;rcases h with⟨n,p,g3,L⟩|⟨n,p⟩|⟨n,p⟩
       .exact .inr ⟨b,g,.inl ⟨n,p,λh=>z.dis i 0 b R r (H.O _ _ h),λh=>L ((H.hid b).1 h)⟩⟩
       .exact mi r n
       .exact mi n (z.nhid i b r)
     .exact .inr ⟨b,g,.inr (.inl ⟨λh=>((H.V0 b).1 h).elim d G,λh=>h2 ((H.hid b).1 h)⟩)⟩
    .exact .inr ⟨b,g,.inr (.inr ⟨(H.hid b).2 d,h2.imp id λx=>⟨x.1,λh=>x.2 ((H.cD _).1 h)⟩⟩)⟩
   .rcases h with⟨d,h2,m,q⟩|⟨d,h2⟩|⟨d,h2⟩
    .exact .inr ⟨b,g,.inl ⟨d,h2,λh=>m (H.O _ _ h),λh=>q ((H.hid b).1 h)⟩⟩
    .exact .inr ⟨b,g,.inr (.inl ⟨λh=>d (H.V k C b h),λh=>h2 ((H.hid b).1 h)⟩)⟩
    .exact .inr ⟨b,g,.inr (.inr ⟨(H.hid b).2 d,h2.imp id λx=>⟨x.1,λh=>x.2 ((H.cD _).1 h)⟩⟩)⟩
 .by_cases E:k=i
  .subst E;unfold ja;rcases H.kni with h|h
   .rw[h];trivial
   .rw[h];intro j op a T Q l o;rcases getElem?_append_cases T with⟨a1,U⟩|⟨-, V⟩
    .have:=knows_own U;rw[Q]at this;exact .inl (AF y w this)
    .rw[nP op V]at l;cases l
  .exact(f.hand k hk).app (H.kn k E) H.Wg H.C H.cz (.inr λx op a d _ m _=>by rw[nP op (kq d)]at m;cases m)
 .obtain⟨b,d,h2⟩:=f.atom j a (kW nP l) o hk;exact⟨b,d,(H.hid b).2 h2⟩
def uP(n:Nat)(f1 f2:ba)(p:String):Th:= #[{g:=0,fn:=f1,pos:=p,act:=.go n}, {g:=n,fn:=f2,pos:=p,act:=.start}]
def rC{p:String}:∀op∈uP n f1 f2 p,op.act.touch?=I:=by
 intro op a;simp only[uP,hZ,dq,fp,or_false]at a;rcases a with rfl|rfl<;>rfl
def oW{p:String}:∀op∈uP n f1 f2 p,op.act≠.mark .disable/\op.act≠.mark .enable:=by
 intro op a;simp only[uP,hZ,dq,fp,or_false]at a;rcases a with rfl|rfl<;>exact⟨by simp,by simp⟩
structure aa5(J σ':Gh):Prop where
 num:σ'.num=J.num+1
 live:∀k,k≠J.num->(Live σ' k↔Live J k)
 V:∀k,k≠J.num->∀b,σ'.V k b↔J.V k b
 O:∀k,∀b,σ'.O k b->J.O k b
 Vn:∀b,σ'.V J.num b->J.V 0 b
 On:∀b,¬σ'.O J.num b
 hid:∀b,σ'.hid b↔J.hid b
 cD:∀k,k≠J.num->σ'.cD k->J.cD k
 sayn:σ'.cD J.num->J.cD 0/\∀k,k≠J.num->¬σ'.cD k
 kn:∀k,k≠J.num->σ'.kn k=J.kn k
 knn0x:σ'.kn J.num=.no
 Wg:σ'.Wg=J.Wg
 C:σ'.C=J.C
 cz:(∀k,k≠0->J.kn k≠.cl)\/σ'.cz=J.cz
 df:∀k,k≠J.num->σ'.df k=J.df k
 dfn:σ'.df J.num=0
def ja.WL(h:ja J t k)(d:σ'.kn k=J.kn k)(c:σ'.Wg=J.Wg)(b:σ'.C=J.C)(a:J.kn k≠.cl\/σ'.cz=J.cz):ja σ' t k:=by
 unfold ja at h|-;rw[d,c,b]
 cases hk:J.kn k with
 | cl=>
  rw[hk]at h a;rw[a.resolve_left ss];exact h
 | _=>rw[hk]at h;exact h
def TI.born(d:TI J t sz)(y:MI J sz)(B:aa5 J σ')(z:J.df 0=0){p:String}:TI σ' (t++uP J.num f1 f2 p) sz:=by
 have v:Deaf t 0=0:=(d.deaf 0 (.inl rfl)).tn z;have s:Deaf t J.num=0:=d.above _ (qN _);have E:J.num≠0:=by have:=y.num;omega
 have e0:(uP J.num f1 f2 p)[0]?=Y {g:=0,fn:=f1,pos:=p,act:=.go J.num}:=rfl;have e1:(uP J.num f1 f2 p)[1]?=Y {g:=J.num,fn:=f2,pos:=p,act:=.start}:=rfl;have w:∀j,Knows t 0 j->Knows (t++uP J.num f1 f2 p) J.num j:=by
  intro j h;have f:HappensBefore (t++uP J.num f1 f2 p) (t.size+0) (t.size+1):=
   .single (.inr ⟨.spawn (child:=J.num) (kT e0) (kT e1) (by simp only[Th.g?,P5 e1,ky]),heard_new oW e0 v,heard_new oW e1 s⟩)
  exact⟨t.size+1,_,P5 e1,rfl,.inr ((h.hb_new (qN _) (P5 e0) rfl).tn f)⟩
 refine⟨λA=>qy (d.clean A) rC,λop r=>?_,λk hk=>?_,λj C=>?_,λop r=>?_,λk hk j a i o=>?_,λk hk=>?_,λa b i f=>?_,λj a i o hk=>?_⟩
 .rcases q9A.1 r with h|h
  .exact d.low op h
  .simp only[uP,hZ,dq,fp,or_false]at h;rcases h with rfl|rfl<;>trivial
 .rw[deaf_quiet oW];by_cases e:k=J.num
  .subst e;rw[s,B.dfn]
  .rw[B.df k e];exact d.deaf k ((B.live k e).1 hk)
 .rw[deaf_quiet oW];exact d.above j (by have:=B.num;omega)
 .rcases q9A.1 r with h|h
  .exact d.norel op h
  .simp only[uP,hZ,dq,fp,or_false]at h;rcases h with rfl|rfl<;>(intro a e;cases e)
 .have u:=kW rC i;by_cases e:k=J.num
  .subst e;rcases d.know 0 (.inl rfl) j a u o with h|⟨b,f,h⟩
   .exact .inl (w j h)
   .refine .inr ⟨b,f,?_⟩;rcases h with⟨c,h2,m,q⟩|⟨c,h2⟩|⟨c,h2⟩
    .exact .inl ⟨c,h2,B.On b,λh=>q ((B.hid b).1 h)⟩
    .exact .inr (.inl ⟨λh=>c (B.Vn b h),λh=>h2 ((B.hid b).1 h)⟩)
    .exact .inr (.inr ⟨(B.hid b).2 c,h2.imp id λx=>⟨x.1,λh=>x.2 (B.sayn h).1⟩⟩)
  .rcases d.know k ((B.live k e).1 hk) j a u o with h|⟨b,f,h⟩
   .exact .inl (h.app _)
   .refine .inr ⟨b,f,?_⟩;rcases h with⟨c,h2,m,q⟩|⟨c,h2⟩|⟨c,h2⟩
    .exact .inl ⟨c,h2,λh=>m (B.O k b h),λh=>q ((B.hid b).1 h)⟩
    .exact .inr (.inl ⟨λh=>c ((B.V k e b).1 h),λh=>h2 ((B.hid b).1 h)⟩)
    .exact .inr (.inr ⟨(B.hid b).2 c,h2.imp id λx=>⟨x.1,λh=>x.2 (B.cD k e h)⟩⟩)
 .by_cases e:k=J.num
  .subst e;unfold ja;rw[B.knn0x];trivial
  .have c:ja J (t++uP J.num f1 f2 p) k:=(d.hand k hk).app rfl rfl rfl rfl (.inr λx op a c _ m _=>by rw[rC op (kq c)]at m;cases m);exact c.WL (B.kn k e) B.Wg B.C (B.cz.imp (λh=>h k hk) id)
 .by_cases n:a=J.num
  .by_cases l:b=J.num
   .rw[n,l]
   .subst n;exact mi f ((B.sayn i).2 b l)
  .by_cases l:b=J.num
   .subst l;exact mi i ((B.sayn f).2 a n)
   .exact d.says a b (B.cD a n i) (B.cD b l f)
 .obtain⟨b,c,h2⟩:=d.atom j a (kW rC i) o hk;exact⟨b,c,(B.hid b).2 h2⟩
def OK{z:al}(e:t[p]?=Y z)(f:z.g=k)(i:z.act.touch?=I)(g:∀j op,t[j]?=Y op->op.g=k->j<=p):KB t k p:=by
 intro j op a b d c _;rcases Nat.lt_or_ge j p with h|l
 .exact .inl (.inr (hb_po h b e (d.tn f.symm)))
 .have:=g j op b d;have:j=p:=zz;subst this;rw[e]at b;cases b;rw[i]at c;cases c
def KB.on(h:KB t k p)(e:Before t p q):KB t k q:=λj op a b h2 c d=>(h j op a b h2 c d).imp (·.trans e) id
def KB.hk(h:KB t k p)(e:Knows t 0 p):HK t k:=λj op a b h2 c d=>(h j op a b h2 c d).imp (Knows.of_before · e) id
def LZ{a:Addr}(h:p<q)(g:t.act? p=Y (.mark (.releaseMerge a)))(i:t.act? q=Y (.mark (.acquire a)))(c:∀op∈t,∀a,op.act≠.mark (.release a))(b:t.heard p)(h2:t.heard q):HappensBefore t p q:=
 .single (.inr ⟨.marked h (.inr g) i (λk _ _ e=>by
  obtain⟨op,d,f⟩:=Option.map_eq_some_iff.1 e;exact c op (kq d) a f),b,h2⟩)
def GQ(b:t.act? p=Y (.close c))(d:t.act? q=Y (.recvClosed c))(a:t.heard p)(h2:t.heard q):HappensBefore t p q:=.single (.inr ⟨.closed b d,a,h2⟩)
def TI.settle(c:TI J t sz)(i:∀k,k≠0->J.kn k=.top)(x:∀k,k≠0->J.st k=.quit)(y:∀k,σ'.st k=J.st k)(w:σ'.num=J.num)(o:∀b,σ'.hid b↔J.hid b)(p:∀k,σ'.cD k->k=0)(v:∀k,σ'.kn k=J.kn k)(s:σ'.df 0=J.df 0):TI σ' t sz:=by
 have q:∀k,Live σ' k->k=0:=λk h=>h.elim id λh=>Classical.byContradiction λe=>h ((y k).tn (x k e));refine⟨c.clean,c.low,λk hk=>?_,λj u=>c.above j (by rw[<- w];exact u),c.norel,λk hk j a f g=>?_,λk hk=>?_,λa b f r=>(p a f).tn (p b r).symm,λj a f g hk=>?_⟩
 .obtain rfl:=q k hk;rw[s];exact c.deaf 0 (.inl rfl)
 .obtain rfl:=q k hk;obtain⟨op,m,n⟩:=touch_of f;by_cases l:op.g=0
  .have:=knows_own m;rw[l]at this;exact .inl this
  .have h:=c.hand op.g l;unfold ja at h;rw[i _ l]at h;rcases h j op a m rfl n g with h|⟨z,ad,wr,d,h2,-⟩
   .exact .inl h
   .rw[m]at d;cases d;rw[h2]at n;cases n;obtain⟨b,d,h2⟩:=c.atom j _ f g rfl;exact .inr ⟨b,d,.inr (.inr ⟨(o b).2 h2,.inl rfl⟩)⟩
 .unfold ja;rw[v,i k hk];have h:=c.hand k hk;unfold ja at h;rw[i k hk]at h;exact h
 .obtain⟨b,d,h2⟩:=c.atom j a f g hk;exact⟨b,d,(o b).2 h2⟩
variable{w w':H}{v:M}
section
open Go.ConcN (upd upd_same upd_ne sumTo sumTo_upd sumTo_congr)
def counted:St->Nat
 | .run|.off _|.rel=>1
 | _=>0
def cnt(J:Gh):Nat:=sumTo J.num λk=>counted (J.st k)
def eG(ty:Lk)(a b:Int):Obj:=.cells #[.int .u64 a,.int .u32 b] ty
def nQ(J:Gh)(w:H):Prop:=
 match J.gw with
 | .none=>True
 | .idle c=>w.heap[J.Wg]?=Y (eG J.ty ((c:Int)*4294967296) 0)/\c<2000000000
 | .wait c=>w.heap[J.Wg]?=Y (eG J.ty ((c:Int)*4294967296+1) 0)/\c<2000000000
 | .last=>w.heap[J.Wg]?=Y (eG J.ty 1 0)
 | .zero=>w.heap[J.Wg]?=Y (eG J.ty 0 0)
 | .up=>w.heap[J.Wg]?=Y (eG J.ty 0 1)
def gX(J:Gh):Prop:=
 match J.gw with
 | .none=>True
 | .idle c=>c=J.pend+cnt J/\∀k,J.st k≠.last
 | .wait c=>c=cnt J/\0<c/\(∀k,J.st k≠.last)
 | .last|.zero=>cnt J=0/\∃k,k≠0/\k<J.num/\J.st k=.last/\∀j,J.st j=.last->j=k
 | .up=>cnt J=0/\∀k,J.st k≠.last
def fV:Gw->Prop
 | .wait _|.last|.zero|.up=>True
 | _=>False
def nR:Gw->Nat
 | .idle c|.wait c=>c
 | _=>0
structure PI(J:Gh)(w:H):Prop where
 st0:J.st 0=.quit
 off:∀i v,J.st i=.off v->J.df i=0/\(∀b,sB v b->J.V i b)/\J.pay i v w
 paid:∀i v w w',(∀b,sB v b->w'.heap[b]?=w.heap[b]?)->J.pay i v w->J.pay i v w'
 chan:J.md≠.idle->J.hid J.C/\∃s tm,w.heap[J.C]?=Y (.chan 0 #[] J.cl s s tm)
 group:J.gw≠.none->J.hid J.Wg/\J.Wg≠J.C
 wg:nQ J w
 count:gX J
 best:J.md=.best->J.gw=.none/\J.cz=I/\J.cl=false/\(∀i,J.base<=i->i<J.num->(∃v,(i,v)∈J.got)\/J.st i=.run\/∃v,J.st i=.off v)/\(∀i v,(i,v)∈J.got->J.base<=i/\i<J.num/\J.st i=.quit)/\∀k,k≠0->J.kn k=.no\/J.kn k=.top
 basep:0<J.base/\J.base<=J.num
 clz:J.cl=true->∃c,J.cz=Y c
 old:∀i,i≠0->i<J.base->J.st i=.quit
 wz:∀k,J.st k=.wait\/J.st k=.done->J.cz=Y k
 czl:∀c,J.cz=Y c->c≠0/\c<J.num/\J.md=.clash/\J.pend=0/\(J.cl=false->J.st c=.wait\/J.st c=.done)
 sem:fV J.gw->∃c,J.cz=Y c/\J.st c=.wait
 kA:∀k,k≠0->J.kn k=.no->(J.st k=.run\/∃v,J.st k=.off v)\/J.cz=Y k
 kR:∀k,k≠0->(J.st k=.run\/(∃v,J.st k=.off v)\/J.st k=.wait\/J.st k=.done)->J.kn k=.no
 kS:∀k,k≠0->J.st k=.rel\/J.st k=.last->J.kn k=.rel
 kC:∀k,k≠0->J.kn k=.cl->∃c,J.cz=Y c/\J.st c=.done
 kD:∀c,J.cz=Y c->J.st c=.done->∀k,k≠0->k≠c->J.kn k=.cl\/J.kn k=.top
 kF:∀k,k≠0->J.kn k=.sh->J.cl=true
 kG:J.cl=true->∀k,k≠0->J.st k=.quit/\(J.kn k=.sh\/J.kn k=.top)
 qz:J.md=.idle->J.cl=false/\J.gw=.none/\J.cz=I/\J.pend=0/\∀k,k≠0->J.st k=.quit/\J.kn k=.top
 doneW:∀c,J.cz=Y c->J.st c=.done->J.gw=.idle 0
 grp:J.md=.clash->J.gw≠.none
structure SC(J:Gh):Prop where
 off:∀k v,J.st k=.off v->¬J.snt k
 got:∀k v,(k,v)∈J.got->J.snt k
 go:∀k,J.base<=k->k<J.num->J.cz≠Y k->¬J.snt k->J.st k=.run\/∃v,J.st k=.off v
 rng:∀k v,(k,v)∈J.got->J.base<=k/\k<J.num
 due:∀k,J.base<=k->k<J.num->J.snt k->(∀v w,¬J.pay k v w)\/∃v,(k,v)∈J.got
def SI(J:Gh):Prop:=J.md=.clash->SC J
def SI.kQ(h:SI J)(i:Nat)(s:σ'.md=J.md)(d:σ'.snt=J.snt)(l:σ'.got=J.got)(g:σ'.base=J.base)(m:σ'.num=J.num)(u:σ'.pay=J.pay)(w:σ'.cz=J.cz)(n:∀k,k≠i->σ'.st k=J.st k)(t:∀v,σ'.st i≠.off v)
  (hi:J.md=.clash->J.base<=i->i<J.num->J.cz≠Y i->¬J.snt i->σ'.st i=.run):SI σ':=λj=>by
 rw[s]at j;obtain⟨o,h2,p,r,q⟩:=h j;refine⟨λk v hk=>?_,λk v hk=>?_,λk a b c f=>?_,by rw[l,g,m];exact r,λk a b c=>?_⟩
 .by_cases e:k=i
  .subst e;exact mi hk (t v)
  .rw[n k e]at hk;rw[d];exact o k v hk
 .rw[l]at hk;rw[d];exact h2 k v hk
 .rw[g]at a;rw[m]at b;rw[w]at c;rw[d]at f;by_cases e:k=i
  .subst e;exact .inl (hi j a b c f)
  .rw[n k e];exact p k a b c f
 .rw[g]at a;rw[m]at b;rw[d]at c;rw[l,u];exact q k a b c
def SI.same(h:SI J)(l:σ'.md=J.md)(a:σ'.snt=J.snt)(c:σ'.got=J.got)(b:σ'.base=J.base)(d:σ'.num=J.num)(m:σ'.pay=J.pay)(n:σ'.cz=J.cz)(f:σ'.st=J.st):SI σ':=λe=>by
 rw[l]at e;obtain⟨g,h2,i,k,j⟩:=h e;exact⟨by rw[f,a];exact g,by rw[c,a];exact h2,by rw[b,d,n,a,f];exact i,by rw[c,b,d];exact k,by rw[b,d,a,m,c];exact j⟩
structure FI(J:Gh)(w:H)(t:Th):Prop where
 m:MI J w.heap.size
 t:TI J t w.heap.size
 p:PI J w
 s:SI J
structure Fs(i:Nat)(J σ':Gh):Prop where
 st:σ'.st i=J.st i
 df:σ'.df i=J.df i
 cD:σ'.cD i↔J.cD i
 kn:σ'.kn i=J.kn i
 md:σ'.md=J.md
 C:σ'.C=J.C
 Wg:σ'.Wg=J.Wg
 ty:σ'.ty=J.ty
 base:σ'.base=J.base
 pay:σ'.pay=J.pay
 main:i=0->σ'.num=J.num/\σ'.pend=J.pend/\σ'.got=J.got/\σ'.cz=J.cz
 free:J.cz=Y i->σ'.cz=Y i/\(J.gw=.idle 0->σ'.gw=.idle 0)/\(fV σ'.gw↔fV J.gw)/\nR σ'.gw<=nR J.gw
 lastW:J.st i=.last->σ'.gw=J.gw
 snt:σ'.snt i↔J.snt i
def Fs.refl(i:Nat)(J:Gh):Fs i J J:=⟨rfl,rfl,il,rfl,rfl,rfl,rfl,rfl,rfl,rfl,λ_=>⟨rfl,rfl,rfl,rfl⟩,λh=>⟨h,id,il,qN _⟩,λ_=>rfl,il⟩
def Fs.tn{a b c:Gh}(h:Fs i a b)(k:Fs i b c):Fs i a c:=
 ⟨k.st.tn h.st,k.df.tn h.df,k.cD.tn h.cD,k.kn.tn h.kn,k.md.tn h.md,k.C.tn h.C,k.Wg.tn h.Wg,k.ty.tn h.ty,k.base.tn h.base,k.pay.tn h.pay,
  λe=>⟨(k.main e).1.tn (h.main e).1,(k.main e).2.1.tn (h.main e).2.1,(k.main e).2.2.1.tn (h.main e).2.2.1,(k.main e).2.2.2.tn (h.main e).2.2.2⟩,λe=>⟨(k.free (h.free e).1).1,λg=>(k.free (h.free e).1).2.1 ((h.free e).2.1 g),(k.free (h.free e).1).2.2.1.tn (h.free e).2.2.1,qO (k.free (h.free e).1).2.2.2 (h.free e).2.2.2⟩,λe=>(k.lastW (h.st.tn e)).tn (h.lastW e),k.snt.tn h.snt⟩
structure gL(i:Nat)(J:Gh)(w:H)(σ':Gh)(w':H):Prop where
 w:aH (J.V i) w w'
 V:∀b,σ'.V i b↔J.V i b
 O:∀b,σ'.O i b↔J.O i b
 kin:Fs i J σ'
def jr(i:Nat)(J:Gh)(w:H)(σ':Gh)(w':H):Prop:=(i≠0->J.st i=.quit->σ'.st i=.quit)/\(Live J i->gL i J w σ' w')
def gL.refl(i:Nat)(J:Gh)(w:H):gL i J w J w:=⟨.refl _ _,λ_=>il,λ_=>il,.refl _ _⟩
def gL.tn{J σ1 σ2:Gh}{w bj dv:H}(h:gL i J w σ1 bj)(k:gL i σ1 bj σ2 dv):gL i J w σ2 dv:=
 ⟨h.w.tn (k.w.mono λb a=>(h.V b).2 a),λb=>(k.V b).tn (h.V b),λb=>(k.O b).tn (h.O b),h.kin.tn k.kin⟩
def offer(J:Gh)(i:Nat):Option M:=match J.st i with|.off v=>Y v|_=>I
def handed(J:Gh)(i:Nat)(v:M):Gh:=
 {J with
  st:=upd J.st i (if J.md=.best then .quit else .run)
  V:=λk b=>if k=0 then J.V 0 b\/sB v b else if k=i then J.md≠.best/\J.V i b else J.V k b
  O:=λk b=>if k=i then J.md≠.best/\J.O i b/\¬sB v b else J.O k b
  kn:=if J.md=.best then upd J.kn i .top else J.kn
  got:=J.got++[(i,v)]
  snt:=upd J.snt i True}
def jD(J:Gh)(i:Nat):Gh:=match J.st i with|.off v=>handed J i v|_=>J
def fI:gJ where
 S:=Gh
 inv:=FI
 rely:=jr
 num:=Gh.num
 chan:=Gh.C
 shut:=λJ=>J.cl=true
 off:=offer
 up:=λJ _=>J.gw=.up
 wait:=λJ i=>J.st i=.wait/\fV J.gw
 gone:=λJ i=>J.st i=.quit
 listens:=λJ=>J.df 0=0/\((J.md=.best/\J.got.length<J.num-J.base)\/(J.md=.clash/\∃c,J.cz=Y c))
 hand:=jD
def kX:offer J i=Y v↔J.st i=.off v:=by
 unfold offer;cases J.st i<;>simp
def js(h:J.st i=.off v):jD J i=handed J i v:=by
 unfold jD;rw[h]
def TI.mute{sz:Nat}(b:TI J t sz)(hi:¬Live J i)(p:i<J.num)(h:∀op∈u,op.g=i)(c:∀op∈u,op.act.touch?=I)(hl:∀op∈u,op.act.low sz)(n:∀op∈u,∀a,op.act≠.mark (.release a)):TI J (t++u) sz:=by
 refine⟨λo=>qy (b.clean o) c,λop f=>?_,λk hk=>?_,λj m=>?_,λop f=>?_,λk hk j a d e=>(b.know k hk j a (kW c d) e).imp (·.app u) id,λk hk=>?_,b.says,λj a d e hk=>b.atom j a (kW c d) e hk⟩
 .exact(q9A.1 f).elim (b.low op) (hl op)
 .have:i≠k:=by rintro rfl;exact hi hk
  rw[Deaf_other t this u h];exact b.deaf k hk
 .rw[Deaf_other t (g':=i) zz u h];exact b.above j m
 .exact(q9A.1 f).elim (b.norel op) (n op)
 .exact(b.hand k hk).app rfl rfl rfl rfl (.inr λx op a l _ g _=>by rw[c op (kq l)]at g;cases g)
def fW{c cap:Nat}{buf:Array M}{b:Bool}{s r:Nat}{tm:Bool}(k:Nat):(w.setChan c cap buf b s r tm).heap[k]?=if c=k then(if c<w.heap.size then Y (.chan cap buf b s r tm)else I)else w.heap[k]?:=by
 unfold H.setChan;simp only[fc]
def BD{f:Nat->St}{n i:Nat}(x:St)(hi:i<n):sumTo n (λk=>counted (upd f i x k))+counted (f i)=sumTo n (λk=>counted (f k))+counted x:=sumTo_upd f x counted hi
def AG{f:Nat->Nat}:∀{n:Nat},0<sumTo n f->∃i,i<n/\0<f i
 | n+1,h=>by
  simp only[sumTo]at h;by_cases a:0<f n
  .exact⟨n,zz,a⟩
  .obtain⟨i,b,h2⟩:=AG (n:=n) (f:=f) zz;exact⟨i,zz,h2⟩
def OL:∀(n:Nat) (l:List Nat),l.length<n->∃i,i<n/\i∉l
 | 0,l,h=>mi h (Nat.not_lt_zero _)
 | n+1,l,h=>by
  by_cases a:n∈l
  .have b:(l.filter (· ≠ n)).length<n:=by
    have:(l.filter (· ≠ n)).length<l.length:=List.length_filter_lt_length_iff_exists.2 ⟨n,a,by simp⟩;omega
   obtain⟨i,c,h2⟩:=OL n _ b;refine⟨i,zz,λh=>h2 (List.mem_filter.2 ⟨h,?_⟩)⟩;simp;omega
  .exact⟨n,zz,a⟩
end
variable{r:Nat}{tm:Bool}
section
open Go.ConcN (upd upd_same upd_ne sumTo sumTo_upd sumTo_congr)
def iz(i:Nat)(v:M):(handed J i v).st i=if J.md=.best then .quit else .run:=Sx _ _ _
def bG(v:M)(h:k≠i):(handed J i v).st k=J.st k:=Sh _ _ h
def gY{x:St}(a:x≠.quit/\x≠.run)(h:(handed J i v).st k=x):k≠i/\J.st k=x:=by
 by_cases e:k=i
 .subst e;rw[iz]at h;split at h
  .exact mi h.symm a.1
  .exact mi h.symm a.2
 .rw[bG v e]at h;exact⟨e,h⟩
def GR(h:J.st i=.off v)(c:J.md≠.best)(hi:i<J.num):cnt (handed J i v)=cnt J:=by
 have:=BD (f:=J.st) .run hi;rw[h]at this;have e:(handed J i v).st=upd J.st i .run:=by simp only[handed,qVB c]
 unfold cnt;rw[e];show sumTo J.num (λk=>counted (upd J.st i .run k))=_;have a:counted (.off v)=1:=rfl;have b:counted .run=1:=rfl;rw[a,b]at this;omega
def SI.hand(h:SI J)(p:J.base<=i/\i<J.num):SI (handed J i v):=λo=>by
 have j:J.md=.clash:=o;have q:¬J.md=.best:=by rw[j];simp
 obtain⟨l,h2,m,a,n⟩:=h j;have es:∀k,k≠i->((handed J i v).snt k↔J.snt k):=λk hk=>by
  show upd J.snt i True k↔_;rw[Sh _ _ hk]
 have g:(handed J i v).snt i:=by
  show upd J.snt i True i;rw[Sx];trivial
 refine⟨λk u hk=>?_,λk u hk=>?_,λk d f b c=>?_,λk u hk=>?_,λk d f b=>?_⟩
 .have:=gY (x:=.off u) ss hk;rw[es k this.1];exact l k u this.2
 .by_cases e:k=i
  .rw[e];exact g
  .rw[es k e];rcases nm.1 hk with hk|hk
   .exact h2 k u hk
   .simp at hk;exact mi hk.1 e
 .by_cases e:k=i
  .rw[e]at c;exact mi g c
  .rw[es k e]at c;rw[bG v e];exact m k d f b c
 .rcases nm.1 hk with hk|hk
  .exact a k u hk
  .simp at hk;rw[hk.1];exact p
 .by_cases e:k=i
  .subst e;exact .inr ⟨v,nm.2 (.inr ss)⟩
  .rw[es k e]at b;rcases n k d f b with a|⟨u,a⟩
   .exact .inl a
   .exact .inr ⟨u,nm.2 (.inl a)⟩
def BE{f1 f2:ba}{p1 p2:String}(h:FI J w t)(g:J.st i=.off v)(hl:fI.listens J)(U:J.cl=false)(b':w.heap[J.C]?=Y (.chan 0 #[] false s r tm))(d4:0<i)(W:i<J.num):
  FI (handed J i v) (w.setChan J.C 0 #[] false (s+1) (r+1) tm) (t++qx i J.C s r f1 p1 f2 p2):=by
 have hi:i≠0:=zz;have a0:J.md≠.idle:=by
  rcases hl.2 with h|h
  .rw[h.1];simp
  .rw[h.1];simp
 obtain⟨S,s',d6,T⟩:=h.p.chan a0;rw[U]at T;rw[b']at T;have d2:r=s:=by cases T;rfl
 subst d2;obtain⟨c1,K,d5⟩:=h.p.off i v g;have c9:Live J i:=.inr (by rw[g];simp);have a4:(w.setChan J.C 0 #[] false (r+1) (r+1) tm).heap.size=w.heap.size:=by simp[H.setChan]
 have a6:=h.m.hbnd _ S;have b7:∀k,¬J.V k J.C:=λk hk=>h.m.nhid k _ hk S;have a7:∀b,b≠J.C->(w.setChan J.C 0 #[] false (r+1) (r+1) tm).heap[b]?=w.heap[b]?:=λb a=>by rw[fW,qVB (λe=>a e.symm)]
 have V0:∀b,(handed J i v).V 0 b↔J.V 0 b\/sB v b:=λb=>by simp[handed]
 have O:∀b,(handed J i v).V i b↔J.md≠.best/\J.V i b:=λb=>by simp[handed,hi]
 have E:∀k,k≠0->k≠i->∀b,(handed J i v).V k b↔J.V k b:=λk Q h2 b=>by simp[handed,Q,h2]
 have C:∀b,(handed J i v).O i b↔J.md≠.best/\J.O i b/\¬sB v b:=λb=>by simp[handed]
 have Ok:∀k,k≠i->∀b,(handed J i v).O k b↔J.O k b:=λk h b=>by simp[handed,h]
 have G:∀k b,(handed J i v).V k b->J.V k b\/(k=0/\sB v b):=λk b a=>by
  by_cases e0:k=0
  .subst e0;exact((V0 b).1 a).imp id λx=>⟨rfl,x⟩
  .by_cases e:k=i
   .subst e;exact .inl ((O b).1 a).2
   .exact .inl ((E k e0 e b).1 a)
 have N:∀k b,(handed J i v).O k b->J.O k b:=λk b a=>by
  by_cases e:k=i
  .subst e;exact((C b).1 a).2.1
  .exact(Ok k e b).1 a
 have L:(handed J i v).kn i=.no\/(handed J i v).kn i=.top:=by
  by_cases a:J.md=.best
  .exact .inr (by simp only[handed,qWB a];exact Sx _ _ _)
  .exact .inl (by simp only[handed,qVB a];exact h.p.kR i hi (.inr (.inl ⟨v,g⟩)))
 have q:∀k,k≠i->(handed J i v).kn k=J.kn k:=λk hk=>by
  by_cases a:J.md=.best
  .simp only[handed,qWB a];exact Sh _ _ hk
  .simp only[handed,qVB a]
 refine⟨⟨h.m.num,λk b a=>?_,λk b a=>?_,λk j b c7 a o=>?_,λk b a a8=>?_,λb a=>by rw[a4];exact h.m.hbnd b a,λk hk A b a=>?_,λk hk=>?_⟩,?_,?_,h.s.hand ⟨q6A λZ=>(by have:=h.p.old i hi Z;rw[g]at this;cases this),W⟩⟩
 .by_cases e:k=i
  .subst e;have:=(C b).1 a;exact(O b).2 ⟨this.1,h.m.own _ _ this.2.1⟩
  .have:=h.m.own k b ((Ok k e b).1 a);by_cases e0:k=0
   .subst e0;exact(V0 b).2 (.inl this)
   .exact(E k e0 e b).2 this
 .rw[a4];rcases G k b a with l|⟨-, l⟩
  .exact h.m.cX k b l
  .exact h.m.cX i b (K b l)
 .rcases G k b a with l|⟨rfl,l⟩
  .exact h.m.dis k j b c7 l (N j b o)
  .by_cases e:j=i
   .subst e;exact((C b).1 o).2.2 l
   .exact h.m.dis i j b (λe'=>e e'.symm) (K b l) (N j b o)
 .rcases G k b a with l|⟨-, l⟩
  .exact h.m.nhid k b l a8
  .exact h.m.nhid i b (K b l) a8
 .by_cases e:k=i
  .subst e;rw[iz]at A;split at A
   .rename_i o;exact((O b).1 a).1 o
   .cases A
  .rw[bG v e]at A;exact h.m.dead k hk A b ((E k hk e b).1 a)
 .have e:k≠i:=by
   have:J.num<=k:=hk;omega
  rw[bG v e];exact h.m.out k hk
 .rw[a4];refine h.t.handed (σ':=handed J i v) h.m hi c9 (v:=v) ⟨rfl,λk hk=>?_,V0,λk hk b a=>(G k b a).resolve_right λx=>hk x.1,N,λb a=>((C b).1 a).2.2,λ_=>il,λ_=>il,q,L,rfl,rfl,rfl,λ_=>rfl⟩ K hl.1 c1 a6;unfold Live;rw[bG v hk]
 .refine⟨by rw[bG v (λe=>hi e.symm)];exact h.p.st0,λk x hk=>?_,h.p.paid,λ_=>⟨S,r+1,tm,?_⟩,h.p.group,?_,?_,λa=>?_,h.p.basep,h.p.clz,λk hk a9=>?_,λk hk=>?_,λc u=>?_,λd1=>?_,λk hk d=>?_,λk hk f=>?_,λk hk f=>?_,λk hk d=>?_,λc u f k hk c3=>?_,λk hk d=>?_,λB=>?_,λB=>mi B a0,λc u f=>?_,h.p.grp⟩
  .obtain⟨c6,hk⟩:=gY ss hk;obtain⟨a1,P,a3⟩:=h.p.off k x hk;refine⟨a1,λb a=>?_,h.p.paid _ _ _ _ (λb a=>a7 b λe=>?_) a3⟩
   .by_cases e0:k=0
    .subst e0;exact(V0 b).2 (.inl (P b a))
    .exact(E k e0 c6 b).2 (P b a)
   .exact b7 k (by rw[<- e];exact P b a)
  .show(w.setChan J.C 0 #[] false (r+1) (r+1) tm).heap[J.C]?=Y (.chan 0 #[] J.cl (r+1) (r+1) tm);rw[fW,qWB rfl,qWB a6,U]
  .have a5:=h.p.wg;have e:(handed J i v).gw=J.gw:=rfl;unfold nQ at a5|-;rw[e]
   cases z:J.gw with
   | none=>trivial
   | _=>
    rw[z]at a5;have b8:J.Wg≠J.C:=(h.p.group (by rw[z];simp)).2;have e2:(handed J i v).Wg=J.Wg:=rfl;simp only[e2,a7 _ b8];exact a5
  .have n:=h.p.count;have e:(handed J i v).gw=J.gw:=rfl;unfold gX at n|-;rw[e]
   cases z:J.gw with
   | none=>trivial
   | _=>
    rw[z]at n;have a2:J.md≠.best:=λa=>by have:=(h.p.best a).1;rw[z]at this;cases this
    have V:=GR g a2 W;have a':(∀k,J.st k≠.last)->∀k,(handed J i v).st k≠.last:=λc' k hk=>c' k (gY ss hk).2;have c8:(∃k,k≠0/\k<J.num/\J.st k=.last/\∀j,J.st j=.last->j=k)->∃k,k≠0/\k<J.num/\(handed J i v).st k=.last/\∀j,(handed J i v).st j=.last->j=k:=λ⟨k,Q,h2,R,h4⟩=>⟨k,Q,h2,by rw[bG v (λe=>by rw[e,g]at R;cases R)];exact R,λj c2=>h4 j (gY ss c2).2⟩
    first
     | exact⟨by rw[V];exact n.1,a' n.2⟩
     | exact⟨by rw[V];exact n.1,n.2.1,a' n.2.2⟩
     | exact⟨by rw[V];exact n.1,c8 n.2⟩
  .have o:J.md=.best:=a;obtain⟨b1,b2,b3,b4,b5,b6⟩:=h.p.best o;have b9:J.base<=i:=q6A λZ=>by have:=h.p.old i hi Z;rw[g]at this;cases this
   refine⟨b1,b2,b3,λk hk d=>?_,λk x hk=>?_,λk hk=>?_⟩
   .by_cases e:k=i
    .subst e;exact .inl ⟨v,nm.2 (.inr ss)⟩
    .rw[bG v e];exact(b4 k hk d).imp (λ⟨x,B⟩=>⟨x,nm.2 (.inl B)⟩) id
   .rcases nm.1 hk with hk|hk
    .obtain⟨p,m,y⟩:=b5 k x hk;exact⟨p,m,by rw[bG v (λe=>by rw[e,g]at y;cases y)];exact y⟩
    .simp only[q8A,Prod.mk.injEq]at hk;obtain⟨rfl,rfl⟩:=hk;exact⟨b9,W,by rw[iz,qWB o]⟩
   .by_cases e:k=i
    .rw[e];exact L
    .rw[q k e];exact b6 k hk
  .have e:k≠i:=by rintro rfl;have:=h.p.old k hk a9;rw[g]at this;cases this
   rw[bG v e];exact h.p.old k hk a9
  .rcases hk with hk|hk
   .exact h.p.wz k (.inl (gY ss hk).2)
   .exact h.p.wz k (.inr (gY ss hk).2)
  .obtain⟨p,m,y,c4,c5⟩:=h.p.czl c u;refine⟨p,m,y,c4,λb0=>?_⟩;have:=c5 b0;rw[bG v (λe=>by rw[e,g]at this;rcases this with h|h<;>cases h)];exact this
  .obtain⟨c,p,m⟩:=h.p.sem d1;exact⟨c,p,by rw[bG v (λe=>by rw[e,g]at m;cases m)];exact m⟩
  .by_cases e:k=i
   .subst e;refine .inl (.inl ?_);rw[iz];by_cases a:J.md=.best
    .simp only[handed,qWB a,Sx]at d;cases d
    .rw[qVB a]
   .rw[q k e]at d;rw[bG v e];exact h.p.kA k hk d
  .by_cases e:k=i
   .subst e;rw[iz]at f;by_cases a:J.md=.best
    .rw[qWB a]at f;rcases f with h|⟨_,h⟩|h|h<;>cases h
    .have:(handed J k v).kn k=J.kn k:=by simp only[handed,qVB a]
     rw[this];exact h.p.kR k hk (.inr (.inl ⟨v,g⟩))
   .rw[bG v e]at f;rw[q k e];exact h.p.kR k hk f
  .have e:k≠i:=by
    rintro rfl;rw[iz]at f;split at f<;>rcases f with h|h<;>cases h
   rw[bG v e]at f;rw[q k e];exact h.p.kS k hk f
  .have e:k≠i:=by
    rintro rfl;rcases L with h|h<;>rw[h]at d<;>cases d
   rw[q k e]at d;obtain⟨c,p,m⟩:=h.p.kC k hk d;exact⟨c,p,by rw[bG v (λe=>by rw[e,g]at m;cases m)];exact m⟩
  .have d3:=(gY ss f).2;have a2:J.md≠.best:=by rw[(h.p.czl c u).2.2.1];simp
   have:(handed J i v).kn=J.kn:=by simp only[handed,qVB a2]
   rw[this];exact h.p.kD c u d3 k hk c3
  .have e:k≠i:=by
    rintro rfl;rcases L with h|h<;>rw[h]at d<;>cases d
   rw[q k e]at d;exact h.p.kF k hk d
  .have:J.cl=true:=B;rw[U]at this;cases this
  .exact h.p.doneW c u (gY ss f).2
def zX(h:FI J w t)(o:J.st i=.off v)(hl:fI.listens J)(k:w.heap[J.C]?=Y (.chan 0 #[] false s r tm))(l:0<i){j:Nat}(a:j≠i)(m:0<j):
  jr j J w (handed J i v) (w.setChan J.C 0 #[] false (s+1) (r+1) tm):=by
 have f:J.md≠.idle:=by
  rcases hl.2 with h|h
  .rw[h.1];simp
  .rw[h.1];simp
 obtain⟨d,-⟩:=h.p.chan f;refine⟨λ_ g=>by rw[bG v a];exact g,λn=>⟨⟨rfl,rfl,rfl,by simp[H.setChan],λb c=>?_⟩,λb=>?_,λb=>?_,⟨bG v a,rfl,il,?_,rfl,rfl,rfl,rfl,rfl,rfl,λe=>zz,λh=>⟨h,id,il,qN _⟩,λ_=>rfl,by show upd J.snt i True j↔J.snt j;rw[Sh _ _ a]⟩⟩⟩
 .rw[fW,qVB];rintro rfl;exact h.m.nhid j _ c d
 .show(if j=0 then _ else if j=i then _ else _)↔_;rw[qVB zz,qVB a]
 .show(if j=i then _ else _)↔_;rw[qVB a]
 .by_cases c:J.md=.best
  .simp only[handed,qWB c];exact Sh _ _ a
  .simp only[handed,qVB c]
def ua:Laws fI where
 refl:=λi J w=>⟨λ_ h=>h,λ_=>.refl i J w⟩
 tn:=λi J w σ1 bj σ2 b' h k=>⟨λe q=>k.1 e (h.1 e q),λhl=>by
  have g:=h.2 hl;exact g.tn (k.2 (hl.imp id λx=>by rw[g.kin.st];exact x))⟩
 at_rely:=λi J w d=>⟨λ_ h=>h,λ_=>⟨⟨rfl,rfl,rfl,qN _,λ_ _=>rfl⟩,λ_=>il,λ_=>il,.refl i J⟩⟩
 at_inv:=λJ w t d h=>⟨h.m,h.t,⟨h.p.st0,λi v hi=>⟨(h.p.off i v hi).1,(h.p.off i v hi).2.1,h.p.paid i v w _ (λ_ _=>rfl) (h.p.off i v hi).2.2⟩,h.p.paid,h.p.chan,h.p.group,h.p.wg,h.p.count,h.p.best,h.p.basep,h.p.clz,h.p.old,h.p.wz,h.p.czl,h.p.sem,h.p.kA,h.p.kR,h.p.kS,h.p.kC,h.p.kD,h.p.kF,h.p.kG,h.p.qz,h.p.doneW,h.p.grp⟩,h.s⟩
 hand_num:=λJ i=>by
  have:jD J i=J\/∃v,jD J i=handed J i v:=by
   cases h:Gh.st J i with
   | off v=>exact .inr ⟨v,js h⟩
   | _=>left;unfold jD;rw[h]
  show(jD J i).num=Gh.num J;rcases this with h|⟨v,h⟩<;>rw[h]<;>rfl
 hand_same:=λJ i=>by
  have:jD J i=J\/∃v,J.st i=.off v/\jD J i=handed J i v:=by
   cases h:J.st i with
   | off v=>exact .inr ⟨v,rfl,js h⟩
   | _=>left;unfold jD;rw[h]
  show pO fI i False J (jD J i);rcases this with h|⟨v,g,h2⟩
  .rw[h];exact⟨λ_ _ h=>.inl h,.inl,λ_ _=>il⟩
  .rw[h2];exact⟨λ_ _ h=>.inl h,.inl,λj U=>⟨λh=>(bG (J:=J) (i:=i) (k:=j) v U).symm.tn h,λh=>(bG (J:=J) (i:=i) (k:=j) v U).tn h⟩⟩
 hand_inv:=λJ w t i v s r tm f1 p1 f2 p2 h P hl R L y z=>by
  have u:=kX.1 P;show FI (jD J i) _ _;rw[js u];exact BE h u hl (by have G:¬Gh.cl J=true:=R;simpa using G) L y z
 hand_rely:=λJ w t i v s r tm j h P hl L y z a5 a4 b0=>by
  have u:=kX.1 P;show jr j J w (jD J i) _;rw[js u];exact zX h u hl L y a5 a4
 quit_inv:=λJ w t i fn pos es h y z f O=>by
  have a3:=f;refine⟨h.m,h.t.mute (λhl=>hl.elim (λe=>zz) λe=>e a3) z (λop l=>?_) (λop l=>?_) (λop l=>?_) (λop l a=>?_),h.p,h.s⟩
  .obtain⟨e, -, rfl⟩:=Go.Conc.mem_ofEvents l;rfl
  .obtain⟨e,p,rfl⟩:=Go.Conc.mem_ofEvents l;exact touch_mute (O e p)
  .obtain⟨e,p,rfl⟩:=Go.Conc.mem_ofEvents l;exact low_mute (O e p) _
  .obtain⟨e,p,rfl⟩:=Go.Conc.mem_ofEvents (es:=es) l;have:=O e p;obtain⟨b7,wr,b9⟩:=e;intro E
   cases b7 with
   | mark m=>
    have e2:m=.release a:=by simpa[MemAct.ofEvent]using E
    subst e2;simp[Event.mute]at this
   | obj r=>cases wr<;>cases b9<;>simp[MemAct.ofEvent]at E
   | _=>simp[MemAct.ofEvent]at E
 live:=λJ w t h hl R=>by
  have a1:Gh.cl J=false:=by have G:¬Gh.cl J=true:=R;simpa using G
  rcases hl.2 with⟨T,a8⟩|⟨T,c,a2⟩
  .obtain⟨b1,b2,b3,Z,b5,b6⟩:=h.p.best T;obtain⟨k,hk,a9⟩:=OL (J.num-J.base) (J.got.map λx=>x.1-J.base) (by simpa using a8);have W:=(Z (J.base+k) zz zz).resolve_left λ⟨v,b4⟩=>a9 (List.mem_map.2 ⟨_,b4,by simp⟩);have:=h.p.basep.1;refine⟨J.base+k,zz,by show J.base+k<J.num;omega,λQ=>?_,λo=>?_⟩
   .have A:J.st (J.base+k)=.quit:=Q;rcases W with h|⟨v,h⟩<;>rw[h]at A<;>cases A
   .have B:=o.1;rcases W with h|⟨v,h⟩<;>rw[h]at B<;>cases B
  .obtain⟨c1,c2,c3,c4,c5⟩:=h.p.czl c a2;have a':=c5 a1;have b8:J.st c≠.quit:=by rcases a' with h|h<;>rw[h]<;>simp
   have S:∀k,k≠0->k<J.num->(counted (J.st k)≠0\/J.st k=.last)->∃i,0<i/\i<fI.num J/\¬fI.gone J i/\(fI.wait J i->fI.up J i):=λk N a7 hk=>by
    refine⟨k,zz,a7,λQ=>?_,λo=>?_⟩
    .have A:J.st k=.quit:=Q;rw[A]at hk;rcases hk with h|h
     .exact h rfl
     .cases h
    .have B:J.st k=.wait:=o.1;rw[B]at hk;rcases hk with h|h
     .exact mi rfl h
     .cases h
   by_cases o:fI.wait J c->fI.up J c
   .exact⟨c,zz,c2,b8,o⟩
   .have C:J.st c=.wait/\fV J.gw:=Classical.byContradiction λe=>o λh=>mi h e;have a0:J.gw≠.up:=λe=>o λ_=>e;have b:=h.p.count;unfold gX at b
    cases f:J.gw with
    | none=>rw[f]at C;exact C.2.elim
    | idle n=>rw[f]at C;exact C.2.elim
    | up=>exact mi f a0
    | wait n=>
     rw[f]at b;obtain⟨k,a6,V⟩:=AG (show 0<sumTo J.num (λk=>counted (J.st k)) by rw[show sumTo J.num (λk=>counted (J.st k))=n from b.1.symm];exact b.2.1);by_cases N:k=0
     .subst N;rw[h.p.st0]at V;cases V
     .exact S k N a6 (.inl zz)
    | last=>
     rw[f]at b;obtain⟨k,g,h2,K,-⟩:=b.2;exact S k g h2 (.inr K)
    | zero=>
     rw[f]at b;obtain⟨k,g,h2,K,-⟩:=b.2;exact S k g h2 (.inr K)
end
variable{es:Array Event}{V' O' V O:Nat->Prop}{Stop:(Nat->Prop)->(Nat->Prop)->QP->H->Prop}{fr:Kf}{cs:List Kf}{P:Ps}{post:M->H->Prop}
section
open Go.ConcN (upd upd_same upd_ne sumTo)
def grow(J:Gh)(i:Nat)(V' O':Nat->Prop):Gh:= {J with V:=upd J.V i V',O:=upd J.O i O' }
def sY(J:Gh)(i:Nat)(V' O':Nat->Prop):(grow J i V' O').V i=V':=Sx _ _ _
def qA(J:Gh)(i:Nat)(V' O':Nat->Prop):(grow J i V' O').O i=O':=Sx _ _ _
def uQ(J:Gh)(V' O':Nat->Prop)(h:k≠i):(grow J i V' O').V k=J.V k:=Sh _ _ h
def AH(J:Gh)(V' O':Nat->Prop)(h:k≠i):(grow J i V' O').O k=J.O k:=Sh _ _ h
def yq(J:Gh)(i j:Nat)(V' O':Nat->Prop):Fs j J (grow J i V' O'):=⟨rfl,rfl,il,rfl,rfl,rfl,rfl,rfl,rfl,rfl,λ_=>⟨rfl,rfl,rfl,rfl⟩,λh=>⟨h,id,il,qN _⟩,λ_=>rfl,il⟩
def Jh(h:FI J w t)(c:IT (J.V i) (J.O i) w w' es V' O')(a:J.hid b):w'.heap[b]?=w.heap[b]?:=
 c.keep b (h.m.hbnd b a) λd=>h.m.nhid i b (h.m.own i b d) a
def AJ(h:FI J w t)(hk:k≠i)(c:IT (J.V i) (J.O i) w w' es V' O')(a:J.V k b):w'.heap[b]?=w.heap[b]?:=
 c.keep b (h.m.cX k b a) λd=>h.m.dis k i b hk a d
def rD(h:FI J w t)(hi:Live J i)(O:i<J.num)(W:i=0\/J.kn i=.no)(a1:∀v,J.st i≠.off v)(c:IT (J.V i) (J.O i) w w' es V' O')(fn:ba)(pos:String):
  FI (grow J i V' O') w' (t++al.ofEvents i fn pos es)/\∀j,j≠i->jr j J w (grow J i V' O') w':=by
 have U:UZ J (grow J i V' O') i w w'.heap.size:=by
  refine⟨rfl,λ_=>il,λk hk b=>by rw[uQ J V' O' hk],λk hk b=>by rw[AH J V' O' hk],λb=>by rw[sY];exact c.see b,λb=>by rw[qA];exact c.own b,λ_=>il,λ_=>il,λ_=>rfl,rfl,rfl,rfl,λ_ _=>rfl⟩
 have G:∀b,V' b->b<w'.heap.size:=λb f=>by
  rcases(c.see b).1 f with A|A
  .exact qP (h.m.cX i b A) c.size
  .exact A.2
 have T:∀e∈es,e.loc≠.mark .disable/\e.loc≠.mark .enable:=λe N=>by
  have:=c.evs e N;obtain⟨o,wr,x⟩:=e;refine⟨?_,?_⟩<;>(rintro rfl;have h2:Neutral _:=this;first|exact h2.ne_disable rfl|exact h2.ne_enable rfl)
 refine⟨⟨h.m.upd hi O U rfl c.size,h.t.own h.m hi O U c.size (λop l=>?_) ?_ (λop l a d N=>?_) (W.imp id .inl) (λop l=>?_) (λop l a=>?_),?_,h.s.same rfl rfl rfl rfl rfl rfl rfl rfl⟩,λj B=>⟨λ_ a2=>a2,λhl=>⟨⟨c.tape,c.os,c.output,c.size,λb f=>AJ h B c f⟩,λb=>by rw[uQ J V' O' B],λb=>by rw[AH J V' O' B],yq J i j V' O'⟩⟩⟩
 .obtain⟨e, -, rfl⟩:=Go.Conc.mem_ofEvents (g:=i) (fn:=fn) (pos:=pos) l;rfl
 .rw[Deaf_own,deafBehind_still T];exact h.t.deaf i hi
 .obtain⟨e,u,rfl⟩:=Go.Conc.mem_ofEvents l;have:=c.evs e u;obtain⟨o,wr,x⟩:=e
  cases o with
  | cell ad=>
   obtain⟨p,h2,y⟩:=this;have q:=p;subst q;simp only[MemAct.ofEvent,MemAct.touch?,fg]at d;subst d;exact⟨_,rfl,.inl ⟨rfl,by rw[sY];exact h2,λn=>by rw[qA];exact y n⟩⟩
  | obj r=>
   obtain⟨p,h2,y⟩:=this;have q:=p;subst q;have e1:MemAct.ofEvent ⟨.obj r,wr,false⟩=.access ⟨.obj r,wr,false⟩:=by cases wr<;>rfl
   simp only[e1,MemAct.touch?,fg]at d;subst d;exact⟨_,rfl,.inl ⟨rfl,by rw[sY];exact h2,λn=>by rw[qA];exact y n⟩⟩
  | mark m=>
   have h2:=this;have:MemAct.ofEvent ⟨.mark m,wr,x⟩=.mark m:=rfl;simp only[this]at d;rw[h2.touch]at d;cases d
  | _=>exact this.elim
 .obtain⟨e,u,rfl⟩:=Go.Conc.mem_ofEvents l;have:=c.evs e u;obtain⟨o,wr,x⟩:=e
  cases o with
  | cell ad=>exact G _ this.2.1
  | obj r=>
   obtain⟨p,h2,y⟩:=this;have q:=p;subst q;have e1:MemAct.ofEvent ⟨.obj r,wr,false⟩=.access ⟨.obj r,wr,false⟩:=by cases wr<;>rfl
   show(MemAct.ofEvent ⟨.obj r,wr,false⟩).low _;rw[e1];exact G _ h2
  | mark m=>
   have h2:=this;unfold Neutral at h2;subst h2;trivial
  | _=>exact this.elim
 .obtain⟨e,u,rfl⟩:=Go.Conc.mem_ofEvents l;have:=c.evs e u;obtain⟨o,wr,x⟩:=e;intro z
  cases o with
  | mark m=>
   have h2:=this;unfold Neutral at h2;subst h2;cases z
  | obj r=>cases wr<;>cases x<;>cases z
  | _=>cases z
 .refine⟨h.p.st0,λk v hk=>?_,h.p.paid,λZ=>?_,h.p.group,?_,h.p.count,h.p.best,h.p.basep,h.p.clz,h.p.old,h.p.wz,h.p.czl,h.p.sem,h.p.kA,h.p.kR,h.p.kS,h.p.kC,h.p.kD,h.p.kF,h.p.kG,h.p.qz,h.p.doneW,h.p.grp⟩
  .have L:k≠i:=by rintro rfl;exact a1 v hk
   obtain⟨P,C,Q⟩:=h.p.off k v hk;exact⟨P,λb f=>by rw[uQ J V' O' L];exact C b f,h.p.paid _ _ _ _ (λb f=>AJ h L c (C b f)) Q⟩
  .obtain⟨E,s,tm,R⟩:=h.p.chan Z;exact⟨E,s,tm,(Jh h c E).tn R⟩
  .have n:=h.p.wg;have e:(grow J i V' O').gw=J.gw:=rfl;unfold nQ at n|-;rw[e]
   cases K:J.gw with
   | none=>trivial
   | _=>
    rw[K]at n;have V:=(h.p.group (by rw[K];simp)).1;have S:(grow J i V' O').Wg=J.Wg:=rfl;simp only[S,Jh h c V];exact n
def uc{X:Prop}(a:σ'.st=J.st)(c:σ'.gw=J.gw)(b:σ'.cl=J.cl):pO fI i X J σ':=
 ⟨λ_ _ h=>.inl (c.symm.tn h),λh=>.inl (b.symm.tn h),λj _=>⟨λh=>(congrFun a j).symm.tn h,λh=>(congrFun a j).tn h⟩⟩
def IT.cast{V O bm bo V' O':Nat->Prop}(h:IT V O w w' es V' O')(d:∀b,bm b↔V b)(c:∀b,bo b↔O b):IT bm bo w w' es V' O':=by
 have e1:=funext λb=>propext (d b);have a:=funext λb=>propext (c b);rw[e1,a];exact h
def aQ.walk(h:WalkE P true Stop V O (G fr cs) w):∀{J:Gh},(∀b,J.V 0 b↔V b)->(∀b,J.O 0 b↔O b)->
  (∀V' O' g' w' σ',Stop V' O' g' w'->(∀b,σ'.V 0 b↔V' b)->(∀b,σ'.O 0 b↔O' b)->Fs 0 J σ'->aQ fI P post g' σ' w')->aQ fI P post (G fr cs) J w:=by
 obtain⟨r,h⟩:=h
 induction r generalizing V O fr cs w with
 | mk Q f L=>
  intro J d e l;rcases h with h|⟨-, h⟩
  .exact l _ _ _ _ J (h w (.refl V w)) d e (.refl 0 J)
  .refine aQ.own λ(σ1:Gh) bj t C (c:FI σ1 bj t)=>?_;have a:=C.2 (.inl rfl);have y:=λb=>(a.V b).tn (d b);have x:=λb=>(a.O b).tn (e b);obtain⟨g',w',es,V',O',k,E,⟨da,dp,rfl⟩,A,K⟩:=h bj (a.w.mono λb z=>(d b).2 z);have g:=rD (fn:=fr.fn) (pos:=(G fr cs).frame.place) c (i:=0) (.inl rfl) c.m.num (.inl rfl) (λv m=>by rw[c.p.st0]at m;cases m) (A.cast y x);refine⟨G da dp,w',es,grow σ1 0 V' O',E,.inl rfl,rfl,g.1,λj B _=>g.2 j B,uc rfl rfl rfl,.inl ⟨rfl,λh=>mi h (dj 0),?_⟩⟩;exact L k K (λb=>by rw[sY]) (λb=>by rw[qA]) λo n p N σ2 q h2 s u=>l o n p N σ2 q h2 s ((a.kin.tn (yq σ1 0 0 V' O')).tn u)
def bZ.walk(a1:0<i)(h:WalkE P false Stop V O (G fr cs) w):∀{J:Gh},(∀b,J.V i b↔V b)->(∀b,J.O i b↔O b)->(J.st i=.run\/J.st i=.wait\/J.st i=.done)->
  (∀V' O' g' w' σ',Stop V' O' g' w'->(∀b,σ'.V i b↔V' b)->(∀b,σ'.O i b↔O' b)->Fs i J σ'->bZ fI P i g' σ' w')->bZ fI P i (G fr cs) J w:=by
 obtain⟨r,h⟩:=h
 induction r generalizing V O fr cs w with
 | mk ι f Z=>
  intro J e g n o;rcases h with h|⟨-, h⟩
  .exact o _ _ _ _ J (h w (.refl V w)) e g (.refl i J)
  .refine bZ.own λ(σ1:Gh) bj t T (d:FI σ1 bj t)=>?_;have N:Live J i:=.inr (by rcases n with h|h|h<;>rw[h]<;>simp);have c:=T.2 N;have a:σ1.st i=.run\/σ1.st i=.wait\/σ1.st i=.done:=by rw[c.kin.st];exact n
   have Q:Live σ1 i:=.inr (by rcases a with h|h|h<;>rw[h]<;>simp);have R:=Nat.lt_of_not_le λhle=>by
    have:=d.m.out i hle;rcases a with h|h|h<;>rw[h]at this<;>cases this
   have B:=λb=>(c.V b).tn (e b);have A:=λb=>(c.O b).tn (g b);obtain⟨g',w',es,V',O',k,U,⟨da,dp,rfl⟩,E,W⟩:=h bj (c.w.mono λb C=>(e b).2 C);have K:(i==0)=false:=by simp;omega
   have l:=rD (fn:=fr.fn) (pos:=(G fr cs).frame.place) d (i:=i) Q R (.inr (d.p.kR i zz (by rcases a with h|h|h<;>simp[h]))) (λv p=>by rcases a with h|h|h<;>rw[h]at p<;>cases p) (E.cast B A);refine⟨G da dp,w',es,grow σ1 i V' O',by rw[K];exact U,.inl rfl,rfl,l.1,λj L _=>l.2 j L,uc rfl rfl rfl,.inl ⟨rfl,λ_ S=>?_,?_⟩⟩
   .have m:σ1.st i=.quit:=S;rcases a with h|h|h<;>rw[h]at m<;>cases m
   .exact Z k W (λb=>by rw[sY]) (λb=>by rw[qA]) a λs q u w2 σ2 x h2 y z=>o s q u w2 σ2 x h2 y ((c.kin.tn (yq σ1 i i V' O')).tn z)
end
variable{σ1 σ2:Gh}
section
open Go.ConcN (upd upd_same upd_ne sumTo)
structure yu(i:Nat)(J:Gh)(w:H)(σ':Gh):Prop where
 num:σ'.num=J.num
 rely:∀j,j≠i->jr j J w σ' w
 same:pO fI i False J σ'
def jr.tn{bj dv:H}(h:jr i J w σ1 bj)(k:jr i σ1 bj σ2 dv):jr i J w σ2 dv:=ua.tn i J w σ1 bj σ2 dv h k
def pO.tn{X:Prop}(h:pO fI i X J σ1)(k:pO fI i False σ1 σ2):pO fI i X J σ2:=
 ⟨λj a c=>(k.up j a c).elim (h.up j a) False.elim,λb=>(k.shut b).elim h.shut False.elim,λj a=>(k.gone j a).tn (h.gone j a)⟩
def aQ.stepT(h:∀σ1 bj,gL 0 J w σ1 bj->(∀b,σ1.V 0 b->b<bj.heap.size)->∃da dp w' es V' a,Lq P true (G fr cs) bj=.go (G da dp) w' es/\IT (σ1.V 0) (σ1.O 0) bj w' es V' a/\
   ∀t,FI (grow σ1 0 V' a) w' t->∃σ',FI σ' w' t/\yu 0 (grow σ1 0 V' a) w' σ'/\aQ fI P post (G da dp) σ' w'):aQ fI P post (G fr cs) J w:=by
 refine aQ.own λ(σ1:Gh) bj t o (c:FI σ1 bj t)=>?_;have p:=o.2 (.inl rfl);obtain⟨da,dp,w',es,V',a,q,m,n⟩:=h σ1 bj p (c.m.cX 0);have f:=rD (fn:=fr.fn) (pos:=(G fr cs).frame.place) c (i:=0) (.inl rfl) c.m.num (.inl rfl) (λv g=>by rw[c.p.st0]at g;cases g) m;obtain⟨σ',k,d,l⟩:=n _ f.1;exact⟨G da dp,w',es,σ',q,.inl rfl,d.num,k,λj e _=>(f.2 j e).tn (d.rely j e),pO.tn (σ1:=grow σ1 0 V' a) (σ2:=σ') (uc rfl rfl rfl) d.same,.inl ⟨rfl,λh=>mi h (dj 0),l⟩⟩
def bZ.stepT(B:0<i)(l:J.st i=.run\/J.st i=.wait\/J.st i=.done)(h:∀σ1 bj,gL i J w σ1 bj->(∀b,σ1.V i b->b<bj.heap.size)->∃da dp w' es V' a,Lq P false (G fr cs) bj=.go (G da dp) w' es/\IT (σ1.V i) (σ1.O i) bj w' es V' a/\
   ∀t,FI (grow σ1 i V' a) w' t->∃σ',FI σ' w' t/\yu i (grow σ1 i V' a) w' σ'/\σ'.st i≠.quit/\bZ fI P i (G da dp) σ' w'):bZ fI P i (G fr cs) J w:=by
 refine bZ.own λ(σ1:Gh) bj t z (c:FI σ1 bj t)=>?_;have s:Live J i:=.inr (by rcases l with h|h|h<;>rw[h]<;>simp);have k:=z.2 s;have d:σ1.st i=.run\/σ1.st i=.wait\/σ1.st i=.done:=by rw[k.kin.st];exact l
 have u:Live σ1 i:=.inr (by rcases d with h|h|h<;>rw[h]<;>simp);have x:=Nat.lt_of_not_le λhle=>by
  have:=c.m.out i hle;rcases d with h|h|h<;>rw[h]at this<;>cases this
 obtain⟨da,dp,w',es,V',a,A,p,q⟩:=h σ1 bj k (c.m.cX i);have r:(i==0)=false:=by simp;omega
 have g:=rD (fn:=fr.fn) (pos:=(G fr cs).frame.place) c (i:=i) u x (.inr (c.p.kR i zz (by rcases d with h|h|h<;>simp[h]))) (λv m=>by rcases d with h|h|h<;>rw[h]at m<;>cases m) p;obtain⟨σ',n,e,y,o⟩:=q _ g.1;exact⟨G da dp,w',es,σ',by rw[r];exact A,.inl rfl,e.num,n,λj f _=>(g.2 j f).tn (e.rely j f),pO.tn (J:=σ1) (σ1:=grow σ1 i V' a) (σ2:=σ') (uc rfl rfl rfl) e.same,.inl ⟨rfl,λ_=>y,o⟩⟩
def begun(J:Gh)(b:Nat)(md:Md)(pay:Nat->M->H->Prop):Gh:=
 {J with md:=md,C:=b,cl:=false,base:=J.num,got:=[],pay:=pay,hid:=λx=>J.hid x\/x=b,V:=upd J.V 0 (λx=>J.V 0 x/\x≠b),O:=upd J.O 0 (λx=>J.O 0 x/\x≠b)}
def TI.GS(f:TI J t sz)(o:MI J sz)(N:∀k,k≠0->J.st k=.quit)(r:∀k,k≠0->J.kn k=.top)(p:J.O 0 b)(s:σ'.st=J.st)(L:σ'.num=J.num)(C:σ'.df=J.df)(i:∀x,σ'.hid x↔J.hid x\/x=b)(n:σ'.cD=J.cD)(K:σ'.kn=J.kn)
  (z:∀x,σ'.V 0 x->J.V 0 x)(w:∀x,σ'.O 0 x->J.O 0 x):TI σ' t sz:=by
 have q:=o.own 0 b p;have A:=o.nhid 0 b q;refine⟨f.clean,f.low,λk hk=>?_,λj E=>f.above j (by rw[<- L];exact E),f.norel,λk hk j a g m=>?_,λk hk=>?_,λa c g B=>f.says a c (by rw[<- n];exact g) (by rw[<- n];exact B),λj a g m hk=>?_⟩
 .rw[C];exact f.deaf k (by unfold Live at hk |-; rw[s]at hk;exact hk)
 .have G:=Classical.byContradiction λe=>by
   rcases hk with h|h
   .exact e h
   .rw[s,N k e]at h;exact h rfl
  subst G;refine(f.know 0 (.inl rfl) j a g m).imp_right λ⟨x,O,h⟩=>?_;have u:x≠b:=by
   rintro rfl;rcases h with⟨-, -, l,-⟩|⟨d,-⟩|⟨d,-⟩
   .exact l p
   .exact d q
   .exact A d
  refine⟨x,O,?_⟩;rcases h with⟨d,h2,l,v⟩|⟨d,h2⟩|⟨d,h2⟩
  .exact .inl ⟨d,h2,λh=>l (w x h),λh=>((i x).1 h).elim v u⟩
  .exact .inr (.inl ⟨λh=>d (z x h),λh=>((i x).1 h).elim h2 u⟩)
  .exact .inr (.inr ⟨(i x).2 (.inl d),h2.imp id λy=>⟨y.1,by rw[n];exact y.2⟩⟩)
 .unfold ja;rw[K,r k hk];have:=f.hand k hk;unfold ja at this;rw[r k hk]at this;exact this
 .obtain⟨x,d,h2⟩:=f.atom j a g m hk;exact⟨x,d,(i x).2 (.inl h2)⟩
def MI.GS(a:MI J sz)(r:J.V 0 b)(o:σ'.st=J.st)(n:σ'.num=J.num)(m:∀x,σ'.hid x↔J.hid x\/x=b)(f:∀x,σ'.V 0 x↔J.V 0 x/\x≠b)(i:∀x,σ'.O 0 x↔J.O 0 x/\x≠b)
  (l:∀k,k≠0->σ'.V k=J.V k)(g:∀k,k≠0->σ'.O k=J.O k)(u:∀k,k≠0->J.st k=.quit):MI σ' sz:=by
 have c:∀k x,σ'.V k x->J.V k x:=λk x h=>by
  by_cases e:k=0
  .subst e;exact((f x).1 h).1
  .rw[l k e]at h;exact h
 have p:∀k x,σ'.O k x->J.O k x:=λk x h=>by
  by_cases e:k=0
  .subst e;exact((i x).1 h).1
  .rw[g k e]at h;exact h
 refine⟨by rw[n];exact a.num,λk x h=>?_,λk x h=>a.cX k x (c k x h),λk j x t h q=>a.dis k j x t (c k x h) (p j x q),λk x h s=>?_,λx h=>?_,λk hk v x h=>a.dead k hk (by rw[<- o];exact v) x (c k x h),λk hk=>by rw[o];exact a.out k (by rw[<- n];exact hk)⟩
 .by_cases e:k=0
  .subst e;have:=(i x).1 h;exact(f x).2 ⟨a.own 0 x this.1,this.2⟩
  .rw[l k e];rw[g k e]at h;exact a.own k x h
 .rcases(m x).1 s with d|rfl
  .exact a.nhid k x (c k x h) d
  .by_cases e:k=0
   .subst e;exact((f x).1 h).2 rfl
   .exact a.dead k e (u k e) x (c k x h)
 .rcases(m x).1 h with d|rfl
  .exact a.hbnd x d
  .exact a.cX 0 x r
def rE(e:∀k,k≠0->J.st k=.quit)(b:σ'.st=J.st)(d:σ'.num=J.num)(f:σ'.gw=.up->J.gw=.up)(c:σ'.cl=true->J.cl=true):yu 0 J w σ':=
 ⟨d,λj a=>⟨λ_ h=>by rw[b];exact h,λhl=>by rcases hl with h|h;exact mi h a;exact mi (e j a) h⟩,⟨λ_ _ h=>.inl (f h),λh=>.inl (c h),λj _=>by show σ'.st j=.quit↔J.st j=.quit;rw[b]⟩⟩
def FI.begin(h:FI J w t)(z:J.md=.idle)(o:J.O 0 b){tm:Bool}(d:w.heap[b]?=Y (.chan 0 #[] false 0 0 tm)){md:Md}(p:md≠.clash)(pay:Nat->M->H->Prop)(A:∀i v w w',(∀b,sB v b->w'.heap[b]?=w.heap[b]?)->pay i v w->pay i v w'):
  FI (begun J b md pay) w t/\yu 0 J w (begun J b md pay):=by
 obtain⟨K,g,l,C,m⟩:=h.p.qz z;have j:=λk hk=>(m k hk).1;have hk:=λk hk=>(m k hk).2;have V0:∀x,(begun J b md pay).V 0 x↔J.V 0 x/\x≠b:=λx=>by simp only[begun,Sx]
 have n:∀x,(begun J b md pay).O 0 x↔J.O 0 x/\x≠b:=λx=>by simp only[begun,Sx]
 refine⟨⟨h.m.GS (h.m.own 0 b o) rfl rfl (λ_=>il) V0 n (λk hk=>Sh _ _ hk) (λk hk=>Sh _ _ hk) j,h.t.GS h.m j hk o rfl rfl rfl (λ_=>il) rfl rfl (λx f=>((V0 x).1 f).1) (λx f=>((n x).1 f).1),?_,λy=>mi y p⟩,rE j rfl rfl id (λh=>by cases h)⟩;have nq:∀k x,J.st k=x->x≠.quit->k=0->False:=λk x a h2 r=>by rw[r,h.p.st0]at a;exact h2 a.symm
 have all:∀k x,J.st k=x->x≠.quit->False:=λk x a h2=>by
  by_cases e:k=0
  .exact nq k x a h2 e
  .rw[j k e]at a;exact h2 a.symm
 refine⟨h.p.st0,λk v hk=>(all k _ hk ss).elim,A,λ_=>⟨.inr rfl,0,tm,d⟩,λs=>mi g s,?_,?_,λ_=>⟨g,l,rfl,λi a h2=>?_,λi v B=>(by cases B),λk u=>.inr (hk k u)⟩,⟨h.m.num,qN _⟩,(λf=>by cases f),λi a _=>j i a,λk hk=>?_,λc d=>?_,λq=>?_,λk a h2=>?_,λk a h2=>?_,λk a h2=>?_,λk a h2=>?_,λc d=>?_,λk a h2=>?_,λf=>(by cases f),λ_=>⟨rfl,g,l,C,m⟩,λc d=>?_,λh=>mi h p⟩
 .unfold nQ;rw[show(begun J b md pay).gw=.none from g];trivial
 .unfold gX;rw[show(begun J b md pay).gw=.none from g];trivial
 .have E:J.num<=i:=a;have G:i<J.num:=h2;omega
 .rcases hk with hk|hk<;>exact(all k _ hk ss).elim
 .rw[show(begun J b md pay).cz=I from l]at d;cases d
 .rw[show(begun J b md pay).gw=.none from g]at q;exact q.elim
 .rw[show(begun J b md pay).kn k=.top from hk k a]at h2;cases h2
 .rcases h2 with h2|⟨_,h2⟩|h2|h2<;>exact(all k _ h2 ss).elim
 .rcases h2 with h2|h2<;>exact(all k _ h2 ss).elim
 .rw[show(begun J b md pay).kn k=.top from hk k a]at h2;cases h2
 .rw[show(begun J b md pay).cz=I from l]at d;cases d
 .rw[show(begun J b md pay).kn k=.top from hk k a]at h2;cases h2
 .rw[show(begun J b md pay).cz=I from l]at d;cases d
def settled(J:Gh)(sz:Nat):Gh:= {J with cD:=λk=>k=0,md:=.idle,gw:=.none,cz:=I,pend:=0,cl:=false,V:=upd J.V 0 (λx=>x<sz/\¬J.hid x),O:=upd J.O 0 (λx=>x<sz/\¬J.hid x)}
def FI.settle(h:FI J w t)(f:∀k,k≠0->J.st k=.quit)(hk:∀k,k≠0->J.kn k=.top):FI (settled J w) w t/\yu 0 J w (settled J w):=by
 have V0:∀x,(settled J w).V 0 x↔x<w.heap.size/\¬J.hid x:=λx=>by simp only[settled,Sx]
 have n:∀x,(settled J w).O 0 x↔x<w.heap.size/\¬J.hid x:=λx=>by simp only[settled,Sx]
 have o:∀k,k≠0->(settled J w).V k=J.V k:=λk hk=>Sh _ _ hk;have Ok:∀k,k≠0->(settled J w).O k=J.O k:=λk hk=>Sh _ _ hk;have l:∀k,k≠0->∀x,¬(settled J w).V k x:=λk d x a=>by rw[o k d]at a;exact h.m.dead k d (f k d) x a
 have m:∀k,k≠0->∀x,¬(settled J w).O k x:=λk d x a=>by rw[Ok k d]at a;exact h.m.dead k d (f k d) x (h.m.own k x a)
 have all:∀k x,J.st k=x->x≠.quit->False:=λk x b h2=>by
  by_cases e:k=0
  .rw[e,h.p.st0]at b;exact h2 b.symm
  .rw[f k e]at b;exact h2 b.symm
 refine⟨⟨⟨h.m.num,λk x a=>?_,λk x a=>?_,λk j x r a u=>?_,λk x a q=>?_,h.m.hbnd,λk d _ x a=>l k d x a,h.m.out⟩,h.t.settle hk f (λ_=>rfl) rfl (λ_=>il) (λ_ h=>h) (λ_=>rfl) rfl,?_,λi=>(by cases i)⟩,rE f rfl rfl (λh=>by cases h) (λh=>by cases h)⟩
 .by_cases e:k=0
  .subst e;exact(V0 x).2 ((n x).1 a)
  .exact mi a (m k e x)
 .by_cases e:k=0
  .subst e;exact((V0 x).1 a).1
  .exact mi a (l k e x)
 .by_cases e:k=0
  .subst e;exact m j (λe=>r e.symm) x u
  .exact l k e x a
 .by_cases e:k=0
  .subst e;exact((V0 x).1 a).2 q
  .exact l k e x a
 .refine⟨h.p.st0,λk v hk=>(all k _ hk ss).elim,h.p.paid,λi=>mi rfl i,λp=>mi rfl p,qYB,qYB,λi=>(by cases i),h.p.basep,(λa=>by cases a),h.p.old,λk hk=>?_,λc g=>(by cases g),λs=>s.elim,λk b h2=>?_,λk b h2=>?_,λk b h2=>?_,λk b h2=>?_,λc g=>(by cases g),λk b h2=>?_,λa=>(by cases a),λ_=>⟨rfl,rfl,rfl,rfl,λk d=>⟨f k d,hk k d⟩⟩,λc g=>(by cases g),λh=>(by cases h)⟩
  .rcases hk with hk|hk<;>exact(all k _ hk ss).elim
  .rw[show(settled J w.heap.size).kn k=.top from hk k b]at h2;cases h2
  .rcases h2 with h2|⟨_,h2⟩|h2|h2<;>exact(all k _ h2 ss).elim
  .rcases h2 with h2|h2<;>exact(all k _ h2 ss).elim
  .rw[show(settled J w.heap.size).kn k=.top from hk k b]at h2;cases h2
  .rw[show(settled J w.heap.size).kn k=.top from hk k b]at h2;cases h2
end
variable{x:St}{fl:Option Nat}{eK:Nat->Prop}
section
open Go.ConcN (upd upd_same upd_ne sumTo sumTo_congr)
def offers(J:Gh)(i:Nat)(v:M):Gh:= {J with st:=upd J.st i (.off v)}
def eN(v:M)(h:k≠i):(offers J i v).st k=J.st k:=Sh _ _ h
def yS(i:Nat)(v:M):(offers J i v).st i=.off v:=Sx _ _ _
def fo(a:∀v,x≠.off v)(h:(offers J i v).st k=x):k≠i/\J.st k=x:=by
 by_cases e:k=i
 .subst e;rw[yS]at h;exact mi h.symm (a v)
 .rw[eN v e]at h;exact⟨e,h⟩
def SI.offer(h:SI J)(p:J.st i=.run)(o:J.md=.clash->¬J.snt i):SI (offers J i v):=λn=>by
 have a:J.md=.clash:=n;obtain⟨g,h2,j,m,l⟩:=h a;refine⟨λk u hk=>?_,h2,λk b c d f=>?_,m,l⟩
 .by_cases e:k=i
  .subst e;exact o a
  .rw[eN v e]at hk;exact g k u hk
 .by_cases e:k=i
  .subst e;exact .inr ⟨v,yS _ _⟩
  .rw[eN v e];exact j k b c d f
def FI.offer(h:FI J w t)(hi:i≠0)(p:J.st i=.run)(a1:J.df i=0)(a7:∀b,sB v b->J.V i b)(a6:J.pay i v w)(a9:J.md=.clash->¬J.snt i):FI (offers J i v) w t/\yu i J w (offers J i v):=by
 have z:i<J.num:=Nat.lt_of_not_le λhle=>by have:=h.m.out i hle;rw[p]at this;cases this
 have live:∀k,Live (offers J i v) k↔Live J k:=λk=>by
  unfold Live;by_cases e:k=i
  .subst e;rw[yS,p];simp
  .rw[eN v e]
 have d:∀k x,x≠.run->J.st k=x->(offers J i v).st k=x:=λk x B hk=>by
  rw[eN v (λe=>by rw[e,p]at hk;exact B hk.symm)];exact hk
 have u:cnt (offers J i v)=cnt J:=by
  have:=BD (f:=J.st) (n:=J.num) (i:=i) (.off v) z;rw[p]at this;have R:counted (.off v)=1:=rfl;have S:counted .run=1:=rfl;rw[R,S]at this;unfold cnt;show sumTo J.num (λk=>counted (upd J.st i (.off v) k))=_;omega
 refine⟨⟨⟨h.m.num,h.m.own,h.m.cX,h.m.dis,h.m.nhid,h.m.hbnd,λk hk A b=>h.m.dead k hk (fo ss A).2 b,λk hk=>d k _ ss (h.m.out k hk)⟩,
  ⟨h.t.clean,h.t.low,λk hk=>h.t.deaf k ((live k).1 hk),h.t.above,h.t.norel,λk hk=>h.t.know k ((live k).1 hk),h.t.hand,h.t.says,h.t.atom⟩,?_,h.s.offer p a9⟩,⟨rfl,λj o=>⟨λ_ A=>by rw[eN v o];exact A,λ_=>⟨.refl _ _,λ_=>il,λ_=>il,⟨eN v o,rfl,il,rfl,rfl,rfl,rfl,rfl,rfl,rfl,λ_=>⟨rfl,rfl,rfl,rfl⟩,λh=>⟨h,id,il,qN _⟩,λ_=>rfl,il⟩⟩⟩,⟨λ_ _ h=>.inl h,.inl,λj o=>⟨λh=>(eN (J:=J) v o).symm.tn h,λh=>(eN (J:=J) v o).tn h⟩⟩⟩⟩
 refine⟨d 0 _ ss h.p.st0,λk x hk=>?_,h.p.paid,h.p.chan,h.p.group,h.p.wg,?_,λZ=>?_,h.p.basep,h.p.clz,λk hk a3=>d k _ ss (h.p.old k hk a3),λk hk=>h.p.wz k (hk.imp (λh=>(fo ss h).2) λh=>(fo ss h).2),λc q=>?_,λa8=>?_,λk a h2=>?_,λk a h2=>?_,λk a h2=>h.p.kS k a (h2.imp (λh=>(fo ss h).2) λh=>(fo ss h).2),λk a h2=>?_,λc q y=>h.p.kD c q (fo ss y).2,h.p.kF,λs k hk=>?_,λa5=>?_,λc q y=>h.p.doneW c q (fo ss y).2,h.p.grp⟩
 .by_cases e:k=i
  .subst e;rw[yS]at hk;cases hk;exact⟨a1,a7,a6⟩
  .rw[eN v e]at hk;exact h.p.off k x hk
 .have g:=h.p.count;have e:(offers J i v).gw=J.gw:=rfl;unfold gX at g|-;rw[e];have C:(∀k,J.st k≠.last)->∀k,(offers J i v).st k≠.last:=λz k hk=>z k (fo ss hk).2;have a4:(∃k,k≠0/\k<J.num/\J.st k=.last/\∀j,J.st j=.last->j=k)->∃k,k≠0/\k<J.num/\(offers J i v).st k=.last/\∀j,(offers J i v).st j=.last->j=k:=λ⟨k,a,h2,V,W⟩=>⟨k,a,h2,d k _ ss V,λj o=>W j (fo ss o).2⟩
  cases a2:J.gw with
  | none=>trivial
  | _=>
   rw[a2]at g
   first
    | exact⟨by rw[u];exact g.1,C g.2⟩
    | exact⟨by rw[u];exact g.1,g.2.1,C g.2.2⟩
    | exact⟨by rw[u];exact g.1,a4 g.2⟩
 .obtain⟨E,G,K,L,N,O⟩:=h.p.best Z;refine⟨E,G,K,λk a h2=>?_,λk x B=>?_,O⟩
  .by_cases e:k=i
   .subst e;exact .inr (.inr ⟨v,yS k v⟩)
   .rw[eN v e];exact L k a h2
  .obtain⟨l,m,r⟩:=N k x B;exact⟨l,m,d k _ ss r⟩
 .obtain⟨l,m,r,P,Q⟩:=h.p.czl c q;exact⟨l,m,r,P,λs=>(Q s).imp (d c _ ss) (d c _ ss)⟩
 .obtain⟨c,l,m⟩:=h.p.sem a8;exact⟨c,l,d c _ ss m⟩
 .by_cases e:k=i
  .subst e;exact .inl (.inr ⟨v,yS k v⟩)
  .rw[eN v e];exact h.p.kA k a h2
 .by_cases e:k=i
  .subst e;exact h.p.kR k a (.inl p)
  .rw[eN v e]at h2;exact h.p.kR k a h2
 .obtain⟨c,l,m⟩:=h.p.kC k a h2;exact⟨c,l,d c _ ss m⟩
 .obtain⟨T,U⟩:=h.p.kG s k hk;exact⟨d k _ ss T,U⟩
 .obtain⟨z1,z2,z3,z4,z5⟩:=h.p.qz a5;have:=(z5 i hi).1;rw[p]at this;cases this
def freed(J:Gh)(i:Nat):Gh:= {J with snt:=upd J.snt i True}
def FI.free(h:FI J w t)(y:J.st i=.run)(q:∀v w,¬J.pay i v w):FI (freed J i) w t/\yu i J w (freed J i):=by
 refine⟨⟨⟨h.m.num,h.m.own,h.m.cX,h.m.dis,h.m.nhid,h.m.hbnd,h.m.dead,h.m.out⟩,⟨h.t.clean,h.t.low,h.t.deaf,h.t.above,h.t.norel,h.t.know,h.t.hand,h.t.says,h.t.atom⟩,⟨h.p.st0,h.p.off,h.p.paid,h.p.chan,h.p.group,h.p.wg,h.p.count,h.p.best,h.p.basep,h.p.clz,h.p.old,h.p.wz,h.p.czl,h.p.sem,h.p.kA,h.p.kR,h.p.kS,h.p.kC,h.p.kD,h.p.kF,h.p.kG,h.p.qz,h.p.doneW,h.p.grp⟩,λr=>?_⟩,
  ⟨rfl,λj l=>⟨λ_ x=>x,λ_=>⟨.refl _ _,λ_=>il,λ_=>il,⟨rfl,rfl,il,rfl,rfl,rfl,rfl,rfl,rfl,rfl,λ_=>⟨rfl,rfl,rfl,rfl⟩,λh=>⟨h,id,il,qN _⟩,λ_=>rfl,by show upd J.snt i True j↔J.snt j;rw[Sh _ _ l]⟩⟩⟩,⟨λ_ _ h=>.inl h,.inl,λj l=>il⟩⟩⟩
 have s:=r;obtain⟨m,h2,n,p,o⟩:=h.s s;have es:∀k,k≠i->((freed J i).snt k↔J.snt k):=λk hk=>by
  show upd J.snt i True k↔_;rw[Sh _ _ hk]
 have g:(freed J i).snt i:=by
  show upd J.snt i True i;rw[Sx];trivial
 refine⟨λk u hk=>?_,λk u hk=>?_,λk c d a b=>?_,p,λk c d a=>?_⟩
 .have f:J.st k=.off u:=hk;have:k≠i:=λe=>by rw[e,y]at f;cases f
  rw[es k this];exact m k u f
 .by_cases e:k=i
  .rw[e];exact g
  .rw[es k e];exact h2 k u hk
 .by_cases e:k=i
  .rw[e]at b;exact mi g b
  .rw[es k e]at b;exact n k c d a b
 .by_cases e:k=i
  .subst e;exact .inl q
  .rw[es k e]at a;exact o k c d a
def de(J:Gh)(x:St)(fl:Option Nat)(eK:Nat->Prop):Gh:=
 {J with num:=J.num+1,st:=upd J.st J.num x,V:=upd J.V J.num (J.V 0),O:=upd (upd J.O 0 (λ_=>False)) J.num (λ_=>False),df:=upd J.df J.num 0,kn:=upd J.kn J.num .no,pend:=0,cz:=fl,cD:=eK,snt:=upd J.snt J.num False}
def cg(h:k≠J.num):(de J x fl eK).st k=J.st k:=Sh _ _ h
def iI:(de J x fl eK).st J.num=x:=Sx _ _ _
structure BF(J:Gh)(x:St)(fl:Option Nat)(eK:Nat->Prop):Prop where
 df0:J.df 0=0
 cz:J.cz=I
 how:(x=.run/\fl=I/\(∀k,eK k↔J.cD k/\k≠J.num)/\(J.md=.best\/(J.md=.clash/\J.pend=1)))\/
  (x=.wait/\fl=Y J.num/\(∀k,eK k↔k=J.num)/\J.cD 0/\J.md=.clash/\J.pend=0)
def SI.born(h:SI J)(S:BF J x fl eK):SI (de J x fl eK):=λn=>by
 have o:=n;obtain⟨j,h2,l,d,m⟩:=h o;have g:¬(de J x fl eK).snt J.num:=by
  show¬upd J.snt J.num False J.num;rw[Sx];exact id
 have es:∀k,k≠J.num->((de J x fl eK).snt k↔J.snt k):=λk hk=>by
  show upd J.snt J.num False k↔_;rw[Sh _ _ hk]
 refine⟨λk u hk=>?_,λk u hk=>?_,λk b c a f=>?_,λk u hk=>⟨(d k u hk).1,Nat.lt_succ_of_lt (d k u hk).2⟩,λk b c a=>?_⟩
 .by_cases e:k=J.num
  .rw[e];exact g
  .rw[cg e]at hk;rw[es k e];exact j k u hk
 .have r:k<J.num:=(d k u hk).2;rw[es k zz];exact h2 k u hk
 .by_cases e:k=J.num
  .rcases S.how with⟨p,-⟩|⟨-, q,-⟩
   .rw[e,iI];exact .inl p
   .exact mi (q.tn (by rw[e])) a
  .have i:k<J.num+1:=c;rw[es k e]at f;rw[cg e];exact l k b zz (by rw[S.cz];simp) f
 .by_cases e:k=J.num
  .rw[e]at a;exact mi a g
  .have i:k<J.num+1:=c;rw[es k e]at a;exact m k b zz a
def FI.born(h:FI J w t)(S:BF J x fl eK)(f1 f2:ba)(p:String):FI (de J x fl eK) w (t++uP J.num f1 f2 p)/\(∀j,0<j->j<J.num->jr j J w (de J x fl eK) w):=by
 have b7:x=.run\/x=.wait:=S.how.imp (·.1) (·.1);have L:J.num≠0:=by have:=h.m.num;omega
 have a5:J.md≠.idle:=by
  rcases S.how with⟨-, -, -, h|h⟩|⟨-, -, -, -, h,-⟩
  .rw[h];simp
  .rw[h.1];simp
  .rw[h];simp
 have q:∀k,k≠J.num->(de J x fl eK).V k=J.V k:=λk hk=>Sh _ _ hk;have z:(de J x fl eK).V J.num=J.V 0:=Sx _ _ _;have P:∀k,k≠J.num->k≠0->(de J x fl eK).O k=J.O k:=λk hk h0=>(Sh _ _ hk).tn (Sh _ _ h0);have Q:∀b,¬(de J x fl eK).O J.num b:=λb d=>by
  have e:(de J x fl eK).O J.num=λ_=>False:=Sx _ _ _;rw[e]at d;exact d
 have V:∀b,¬(de J x fl eK).O 0 b:=λb d=>by
  have e:(de J x fl eK).O 0=λ_=>False:=(Sh _ _ (λe=>L e.symm)).tn (Sx _ _ _);rw[e]at d;exact d
 have B:∀k b,(de J x fl eK).O k b->J.O k b/\k≠J.num/\k≠0:=λk b d=>by
  by_cases e:k=J.num
  .subst e;exact mi d (Q b)
  .by_cases e0:k=0
   .subst e0;exact mi d (V b)
   .rw[P k e e0]at d;exact⟨d,e,e0⟩
 have r:∀k y,y≠.run->y≠.wait->(de J x fl eK).st k=y->k≠J.num/\J.st k=y:=λk y f h2 hk=>by
  by_cases e:k=J.num
  .subst e;rw[iI]at hk;rcases b7 with h|h<;>rw[h]at hk
   .exact mi hk.symm f
   .exact mi hk.symm h2
  .rw[cg e]at hk;exact⟨e,hk⟩
 have b9:J.st J.num=.quit:=h.m.out _ (qN _);have b':∀k y,y≠.quit->J.st k=y->(de J x fl eK).st k=y:=λk y f hk=>by
  rw[cg (λe=>by rw[e,b9]at hk;exact f hk.symm)];exact hk
 have U:∀k,k≠0->J.kn k≠.cl:=λk hk e=>by
  obtain⟨c,i,-⟩:=h.p.kC k hk e;rw[S.cz]at i;cases i
 have T:J.cl=false:=by
  cases o:J.cl with
  | false=>rfl
  | true=>obtain⟨c,i⟩:=h.p.clz o;rw[S.cz]at i;cases i
 have a2:cnt (de J x fl eK)=cnt J+counted x:=by
  unfold cnt;show sumTo (J.num+1) (λk=>counted (upd J.st J.num x k))=_;simp only[sumTo,Sx];rw[sumTo_congr (g:=λk=>counted (J.st k)) λk hk=>by rw[Sh _ _ (by omega:k≠J.num)]]
 refine⟨⟨⟨Nat.succ_pos _,λk b d=>?_,λk b d=>?_,λk j b a4 d a1=>?_,λk b d=>?_,h.m.hbnd,λk hk N b=>?_,λk hk=>?_⟩,h.t.born h.m ⟨rfl,λk hk=>?_,λk hk b=>by rw[q k hk],λk b d=>(B k b d).1,λb d=>by rw[z]at d;exact d,Q,λ_=>il,λk hk n=>?_,λn=>?_,λk hk=>Sh _ _ hk,Sx _ _ _,rfl,rfl,.inl U,λk hk=>Sh _ _ hk,Sx _ _ _⟩ S.df0,?_,h.s.born S⟩,λj c1 c4=>?_⟩
 .obtain⟨f,h2,R⟩:=B k b d;rw[q k h2];exact h.m.own k b f
 .by_cases e:k=J.num
  .subst e;rw[z]at d;exact h.m.cX 0 b d
  .rw[q k e]at d;exact h.m.cX k b d
 .obtain⟨f,h2,R⟩:=B j b a1;by_cases e:k=J.num
  .subst e;rw[z]at d;exact h.m.dis 0 j b (λe=>R e.symm) d f
  .rw[q k e]at d;exact h.m.dis k j b a4 d f
 .by_cases e:k=J.num
  .subst e;rw[z]at d;exact h.m.nhid 0 b d
  .rw[q k e]at d;exact h.m.nhid k b d
 .obtain⟨f,h2⟩:=r k _ ss ss N;rw[q k f];exact h.m.dead k hk h2 b
 .have c5:J.num+1<=k:=hk;rw[cg zz];exact h.m.out k zz
 .unfold Live;rw[cg hk]
 .rcases S.how with⟨-, -, f,-⟩|⟨-, -, f,-⟩
  .exact((f k).1 n).1
  .exact mi ((f k).1 n) hk
 .rcases S.how with⟨-, -, f,-⟩|⟨-, -, f,h2,-⟩
  .exact mi rfl ((f _).1 n).2
  .exact⟨h2,λk hk a9=>hk ((f k).1 a9)⟩
 .refine⟨by rw[cg (λe=>L e.symm)];exact h.p.st0,λk v hk=>?_,h.p.paid,h.p.chan,h.p.group,h.p.wg,?_,λd=>?_,⟨h.p.basep.1,Nat.le_succ_of_le h.p.basep.2⟩,λo=>?_,λk f h2=>?_,λk hk=>?_,λc o=>?_,λn=>?_,λk f h2=>?_,λk f h2=>?_,λk f h2=>?_,λk f h2=>?_,λc o C=>?_,λk f h2=>?_,λo=>?_,λK=>mi K a5,λc o C=>?_,h.p.grp⟩
  .obtain⟨f,h2⟩:=r k _ ss ss hk;obtain⟨W,Z,a3⟩:=h.p.off k v h2;exact⟨(Sh _ _ f).tn W,λb d=>by rw[q k f];exact Z b d,a3⟩
  .have u:=h.p.count;have e:(de J x fl eK).gw=J.gw:=rfl;unfold gX at u|-;rw[e];have a7:(∀k,J.st k≠.last)->∀k,(de J x fl eK).st k≠.last:=λa6 k hk=>a6 k (r k _ ss ss hk).2;have a8:¬fV J.gw:=λn=>by obtain⟨c,i,-⟩:=h.p.sem n;rw[S.cz]at i;cases i
   cases G:J.gw with
   | none=>trivial
   | idle c=>
    rw[G]at u;refine⟨?_,a7 u.2⟩;rw[a2];show c=0+(cnt J+counted x);have b0:=u.1;rcases S.how with⟨rfl, -, -, d|d⟩|⟨rfl, -, -, -, -, d⟩
    .have:=(h.p.best d).1;rw[G]at this;cases this
    .have:counted .run=1:=rfl;omega
    .have:counted .wait=0:=rfl;omega
   | _=>exact mi (by rw[G];trivial) a8
  .obtain⟨b1,b2,b3,b4,b5,b6⟩:=h.p.best d;have O:x=.run:=by
    rcases S.how with⟨h,-⟩|⟨-, -, -, -, h,-⟩
    .exact h
    .rw[show J.md=.best from d]at h;cases h
   have u:fl=I:=by
    rcases S.how with⟨-, h,-⟩|⟨-, -, -, -, h,-⟩
    .exact h
    .rw[show J.md=.best from d]at h;cases h
   refine⟨b1,u,b3,λk f h2=>?_,λk v a0=>?_,λk hk=>?_⟩
   .by_cases e:k=J.num
    .subst e;exact .inr (.inl (by rw[iI];exact O))
    .rw[cg e];have s:k<J.num+1:=h2;exact b4 k f zz
   .obtain⟨i,c2,c3⟩:=b5 k v a0;exact⟨i,Nat.lt_succ_of_lt c2,by rw[cg zz];exact c3⟩
   .by_cases e:k=J.num
    .rw[e];exact .inl (Sx _ _ _)
    .rw[show(de J x fl eK).kn k=J.kn k from Sh _ _ e];exact b6 k hk
  .have m:J.cl=true:=o;rw[T]at m;cases m
  .have:=h.p.basep.2;have s:k<J.base:=h2;rw[cg zz];exact h.p.old k f h2
  .rcases S.how with⟨rfl,l,-⟩|⟨rfl,l,-⟩
   .have:J.cz=Y k:=h.p.wz k (hk.imp (λhk=>by
     by_cases e:k=J.num
     .subst e;rw[iI]at hk;cases hk
     .rw[cg e]at hk;exact hk) λhk=>(r k _ ss ss hk).2)
    rw[S.cz]at this;cases this
   .by_cases e:k=J.num
    .subst e;exact l
    .rw[cg e]at hk;have:=h.p.wz k hk;rw[S.cz]at this;cases this
  .have m:fl=Y c:=o;rcases S.how with⟨-, l,-⟩|⟨b8,l, -, -, K,-⟩
   .rw[l]at m;cases m
   .rw[l]at m;cases m;exact⟨L,q7A _,K,rfl,λ_=>.inl (by rw[iI];exact b8)⟩
  .obtain⟨c,i,-⟩:=h.p.sem n;rw[S.cz]at i;cases i
  .by_cases e:k=J.num
   .subst e;rcases S.how with⟨O,-⟩|⟨-, l,-⟩
    .exact .inl (.inl (by rw[iI];exact O))
    .exact .inr l
   .have s:J.kn k=.no:=by rw[<- h2];exact(Sh _ _ e).symm
    rcases h.p.kA k f s with A|A
    .exact .inl (by rw[cg e];exact A)
    .rw[S.cz]at A;cases A
  .by_cases e:k=J.num
   .subst e;exact Sx _ _ _
   .rw[cg e]at h2;exact(Sh _ _ e).tn (h.p.kR k f h2)
  .have:k≠J.num/\(J.st k=.rel\/J.st k=.last):=by
    rcases h2 with h2|h2
    .obtain⟨a,b⟩:=r k _ ss ss h2;exact⟨a,.inl b⟩
    .obtain⟨a,b⟩:=r k _ ss ss h2;exact⟨a,.inr b⟩
   exact(Sh _ _ this.1).tn (h.p.kS k f this.2)
  .by_cases e:k=J.num
   .subst e;have:(de J x fl eK).kn J.num=.no:=Sx _ _ _;rw[this]at h2;cases h2
   .have s:J.kn k=.cl:=by rw[<- h2];exact(Sh _ _ e).symm
    exact mi s (U k f)
  .have E:=(r c _ ss ss C).2;have:=h.p.wz c (.inr E);rw[S.cz]at this;cases this
  .by_cases e:k=J.num
   .subst e;have:(de J x fl eK).kn J.num=.no:=Sx _ _ _;rw[this]at h2;cases h2
   .have s:J.kn k=.sh:=by rw[<- h2];exact(Sh _ _ e).symm
    exact h.p.kF k f s
  .have m:J.cl=true:=o;rw[T]at m;cases m
  .have E:=(r c _ ss ss C).2;have:=h.p.wz c (.inr E);rw[S.cz]at this;cases this
 .have e:j≠J.num:=zz;have a':eK j↔J.cD j:=by
   rcases S.how with⟨-, -, f,-⟩|⟨-, -, f,h2,-⟩
   .exact(f j).tn ⟨(·.1),λh=>⟨h,e⟩⟩
   .exact(f j).tn ⟨λh=>mi h e,λn=>mi (h.t.says 0 j h2 n) zz⟩
  exact⟨λ_ N=>by rw[cg e];exact N,λ_=>⟨.refl _ _,λb=>by rw[q j e],λb=>by rw[P j e zz],⟨cg e,Sh _ _ e,a',Sh _ _ e,rfl,rfl,rfl,rfl,rfl,rfl,λe=>zz,λl=>(by rw[S.cz]at l;cases l),λ_=>rfl,by show upd J.snt J.num False j↔J.snt j;rw[Sh _ _ e]⟩⟩⟩
end
section
open Go.ConcN (upd upd_same upd_ne sumTo)
variable{g:QP}{i:Nat}{fr:Kf}{cs:List Kf}
section
variable{P:Ps}{post:M->H->Prop}{J σ':Gh}{t u:Th}{w w':H}
def vQ{f:Nat->Nat}:∀{n:Nat},(∀i,i<n->f i=0)->sumTo n f=0
 | 0,_=>rfl
 | n+1,h=>by
  have a:=h n (q7A n);have h2:=vQ λi hi=>h i (Nat.lt_succ_of_lt hi);simp only[sumTo];omega
def iT(J:Gh)(b g:Nat)(ty:Lk)(pay:Nat->M->H->Prop):Gh:= {begun (begun J b .clash pay) g .clash pay with C:=b,gw:=.idle 0,Wg:=g,ty:=ty}
def FI.WM(h:FI J w t)(E:J.md=.idle){b g:Nat}(y:J.O 0 b)(C:J.O 0 g)(z:g≠b){tm:Bool}{ty:Lk}(f:w.heap[b]?=Y (.chan 0 #[] false 0 0 tm))(N:w.heap[g]?=Y (eG ty 0 0))(pay:Nat->M->H->Prop)(G:∀i v w w',(∀b,sB v b->w'.heap[b]?=w.heap[b]?)->pay i v w->pay i v w'):
  FI (iT J b g ty pay) w t/\yu 0 J w (iT J b g ty pay):=by
 obtain⟨Q,R,q,P,B⟩:=h.p.qz E;have j:∀k,k≠0->J.st k=.quit:=λk hk=>(B k hk).1;have hk:∀k,k≠0->J.kn k=.top:=λk hk=>(B k hk).2;have s:∀x,(begun J b .clash pay).V 0 x↔J.V 0 x/\x≠b:=λx=>by simp only[begun,Sx]
 have m:∀x,(begun J b .clash pay).O 0 x↔J.O 0 x/\x≠b:=λx=>by simp only[begun,Sx]
 have u:∀x,(iT J b g ty pay).V 0 x↔(begun J b .clash pay).V 0 x/\x≠g:=λx=>by simp only[iT,begun,Sx]
 have r:∀x,(iT J b g ty pay).O 0 x↔(begun J b .clash pay).O 0 x/\x≠g:=λx=>by simp only[iT,begun,Sx]
 have p:MI (begun J b .clash pay) w.heap.size:=h.m.GS (h.m.own 0 b y) rfl rfl (λ_=>il) s m (λk hk=>Sh _ _ hk) (λk hk=>Sh _ _ hk) j;have O:TI (begun J b .clash pay) t w.heap.size:=h.t.GS h.m j hk y rfl rfl rfl (λ_=>il) rfl rfl (λx a=>((s x).1 a).1) (λx a=>((m x).1 a).1);have A:(begun J b .clash pay).O 0 g:=(m g).2 ⟨C,z⟩;refine⟨⟨p.GS (p.own 0 g A) rfl rfl (λ_=>il) u r (λk hk=>Sh _ _ hk) (λk hk=>Sh _ _ hk) j,O.GS p j hk A rfl rfl rfl (λ_=>il) rfl rfl (λx a=>((u x).1 a).1) (λx a=>((r x).1 a).1),?_,λ_=>⟨λk v hk=>?_,λk v hk=>(by cases hk),λk n o=>mi n (Nat.not_le_of_lt o),λk v hk=>(by cases hk),λk n o=>mi n (Nat.not_le_of_lt o)⟩⟩,rE j rfl rfl (λh=>by cases h) (λh=>by cases h)⟩;rotate_left
 .have l:J.st k=.off v:=hk;by_cases e:k=0
  .rw[e,h.p.st0]at l;cases l
  .rw[j k e]at l;cases l
 have all:∀k x,J.st k=x->x≠.quit->False:=λk x d h2=>by
  by_cases e:k=0
  .rw[e,h.p.st0]at d;exact h2 d.symm
  .rw[j k e]at d;exact h2 d.symm
 have K:∀k,J.st k=.quit:=λk=>Classical.byContradiction λe=>all k _ rfl e;refine⟨h.p.st0,λk v hk=>(all k _ hk ss).elim,G,λ_=>⟨.inl (.inr rfl),0,tm,f⟩,λ_=>⟨.inr rfl,z⟩,?_,?_,λa=>(by cases a),⟨h.m.num,qN _⟩,(λa=>by cases a),λi d _=>j i d,λk hk=>?_,λc f=>?_,λL=>L.elim,λk d h2=>?_,λk d h2=>?_,λk d h2=>?_,λk d h2=>?_,λc f=>?_,λk d h2=>?_,λa=>(by cases a),λa=>(by cases a),λc f=>?_,λ_ a=>(by cases a)⟩
 .refine⟨?_,zz⟩;show w.heap[g]?=Y (eG ty (((0:Nat):Int)*4294967296) 0);simpa using N
 .refine⟨?_,λk hk=>(all k _ hk ss).elim⟩;show 0=J.pend+sumTo J.num (λk=>counted (J.st k));rw[P,vQ λi _=>by rw[K i];rfl]
 .rcases hk with hk|hk<;>exact(all k _ hk ss).elim
 .rw[show(iT J b g ty pay).cz=I from q]at f;cases f
 .rw[show(iT J b g ty pay).kn k=.top from hk k d]at h2;cases h2
 .rcases h2 with h2|⟨_,h2⟩|h2|h2<;>exact(all k _ h2 ss).elim
 .rcases h2 with h2|h2<;>exact(all k _ h2 ss).elim
 .rw[show(iT J b g ty pay).kn k=.top from hk k d]at h2;cases h2
 .rw[show(iT J b g ty pay).cz=I from q]at f;cases f
 .rw[show(iT J b g ty pay).kn k=.top from hk k d]at h2;cases h2
 .rw[show(iT J b g ty pay).cz=I from q]at f;cases f
def sZ(P:Ps)(post:M->H->Prop)(i:Nat)(g:QP)(J:Gh)(w:H):Prop:=(i=0/\aQ fI P post g J w)\/(0<i/\bZ fI P i g J w)
abbrev Tt(P:Ps)(post:M->H->Prop)(i:Nat):QP->Gh->H->Th->Prop:=fD fI P i (sZ P post i) (λ_=>0<i)
def sZ.own{J:Gh}{w:H}(h:lZ fI P i (Tt P post i) g J w):sZ P post i g J w:=by
 rcases ln i with rfl|hi
 .refine .inl ⟨rfl,aQ.own λσ1 bj t e h2=>(h σ1 bj t e h2).imp λg J w t f=>?_⟩;rcases f with⟨a,b,c⟩|⟨a,-⟩
  .exact .inl ⟨a,b,c.elim (·.2) λx=>mi x.1 (dj 0)⟩
  .exact mi a (dj 0)
 .refine .inr ⟨hi,bZ.own λσ1 bj t e h2=>(h σ1 bj t e h2).imp λg J w t f=>?_⟩;rcases f with⟨a,b,c⟩|⟨a,b,q, -, d⟩
  .exact .inl ⟨a,b,c.elim (λx=>zz) (·.2)⟩
  .exact .inr ⟨a,b,q,qYB,d⟩
def sZ.main(h:sZ P post 0 g J w):aQ fI P post g J w:=h.elim (·.2) λx=>mi x.1 (dj 0)
def sZ.work(hi:0<i)(h:sZ P post i g J w):bZ fI P i g J w:=h.elim (λx=>zz) (·.2)
def Cs(ty:Lk)(Wg:Nat)(w:H):Prop:=∃a b,w.heap[Wg]?=Y (eG ty a b)
def FI.TC(h:FI J w t)(d:J.md=.clash):Cs J.ty J.Wg w:=by
 have a:=h.p.wg;have b:=h.p.grp d;unfold nQ at a
 cases e:J.gw with
 | none=>exact mi e b
 | idle c=>rw[e]at a;exact⟨_,_,a.1⟩
 | wait c=>rw[e]at a;exact⟨_,_,a.1⟩
 | last=>rw[e]at a;exact⟨_,_,a⟩
 | zero=>rw[e]at a;exact⟨_,_,a⟩
 | up=>rw[e]at a;exact⟨_,_,a⟩
structure yw(i:Nat)(ty:Lk)(Wg:Nat)(F:Gh->H->Prop):Prop where
 rely:∀J w σ1 bj,F J w->gL i J w σ1 bj->F σ1 bj
 live:∀J w,F J w->Live J i/\(0<i->J.st i≠.quit)
 YP:∀J w,F J w->J.md=.clash/\J.Wg=Wg/\J.ty=ty
def SW(P:Ps)(post:M->H->Prop)(i:Nat)(F:Gh->H->Prop)(g:QP):Prop:=∀J w,F J w->sZ P post i g J w
variable{i:Nat}{ty:Lk}{Wg:Nat}{F F':Gh->H->Prop}
def SW.step(S:yw i ty Wg F){g g':QP}(e:g'.status=.running)(f:core g'=g')(h:∀w,Cs ty Wg w->(Lq P (i==0) g w).goes λx w' es=>w'=w/\es= #[]/\x=g')(next:SW P post i F g'):SW P post i F g:=by
 intro J w hF;refine sZ.own λ(σ1:Gh) bj t hrel (d:FI σ1 bj t)=>?_;have k:=hrel.2 (S.live J w hF).1;have b:=S.rely _ _ _ _ hF k;obtain⟨l,m,n⟩:=S.YP _ _ b;have hl:Cs ty Wg bj:=by rw[<- m,<- n];exact d.TC l
 have a:=h bj hl
 cases c:Lq P (i==0) g bj with
 | go x w' es=>
  rw[c]at a;obtain⟨rfl,rfl,rfl⟩:=a;refine⟨x,w', #[],σ1,c,.inl e,rfl,?_,λj o _=>ua.refl j σ1 w',⟨λ_ _ h=>.inl h,.inl,λ_ _=>il⟩,.inl ⟨e,λhi=>(S.live _ _ b).2 hi,?_⟩⟩
  .show FI σ1 w' (t++#[]);rw[Array.append_empty];exact d
  .rw[f];exact next _ _ b
 | _=>rw[c]at a;exact a.elim
def SW.ctl(S:yw i ty Wg F){fr da:Kf}{cs dp:List Kf}(h:∀w,Lq P (i==0) (G fr cs) w=.go (G da dp) w #[])(next:SW P post i F (G da dp)):SW P post i F (G fr cs):=
 SW.step S rfl rfl (λw _=>by rw[h w];exact⟨rfl,rfl,rfl⟩) next
def SW.kQ(S:yw i ty Wg F)(h:∀J w t,F J w->FI J w t->Cs ty Wg w->zW fI P i (Tt P post i) (G fr cs) J w t):SW P post i F (G fr cs):=by
 intro J w hF;refine sZ.own λ(σ1:Gh) bj t hrel (b:FI σ1 bj t)=>?_;have c:=hrel.2 (S.live J w hF).1;have a:=S.rely _ _ _ _ hF c;obtain⟨d,e,f⟩:=S.YP _ _ a;exact h σ1 bj t a b (by rw[<- e,<- f];exact b.TC d)
end
end
section
open Go.ConcN (upd upd_same upd_ne sumTo)
variable{k b:Nat}
section
variable{P:Ps}{post:M->H->Prop}{J σ':Gh}{t u:Th}{w w':H}{sz:Nat}
def dg(J:Gh)(i:Nat)(x:St)(gw:Gw)(kn:Nat->Kn)(pend d:Nat):Gh:=
 {J with st:=upd J.st i x,gw:=gw,kn:=kn,pend:=pend,df:=upd J.df i d,V:=upd J.V i (λb=>(i=0\/x≠.quit)/\J.V i b),O:=upd J.O i (λb=>(i=0\/x≠.quit)/\J.O i b)}
variable{i:Nat}{x:St}{gw:Gw}{kn:Nat->Kn}{pend d:Nat}
def Ji(h:(dg J i x gw kn pend d).V k b):J.V k b:=by
 by_cases e:k=i
 .subst e;have:(dg J k x gw kn pend d).V k=λb=>(k=0\/x≠.quit)/\J.V k b:=Sx _ _ _;rw[this]at h;exact h.2
 .rw[show(dg J i x gw kn pend d).V k=J.V k from Sh _ _ e]at h;exact h
def U3(h:(dg J i x gw kn pend d).O k b):J.O k b:=by
 by_cases e:k=i
 .subst e;have:(dg J k x gw kn pend d).O k=λb=>(k=0\/x≠.quit)/\J.O k b:=Sx _ _ _;rw[this]at h;exact h.2
 .rw[show(dg J i x gw kn pend d).O k=J.O k from Sh _ _ e]at h;exact h
def ud(e:k≠i):(dg J i x gw kn pend d).V k=J.V k:=Sh _ _ e
def Yl(e:k≠i):(dg J i x gw kn pend d).O k=J.O k:=Sh _ _ e
def GU(h:i=0\/x≠.quit)(b:Nat):(dg J i x gw kn pend d).V i b↔J.V i b:=by
 have:(dg J i x gw kn pend d).V i=λb=>(i=0\/x≠.quit)/\J.V i b:=Sx _ _ _;rw[this];exact⟨(·.2),λe=>⟨h,e⟩⟩
def OM(h:i=0\/x≠.quit)(b:Nat):(dg J i x gw kn pend d).O i b↔J.O i b:=by
 have:(dg J i x gw kn pend d).O i=λb=>(i=0\/x≠.quit)/\J.O i b:=Sx _ _ _;rw[this];exact⟨(·.2),λe=>⟨h,e⟩⟩
def eP(e:k≠i):(dg J i x gw kn pend d).st k=J.st k:=Sh _ _ e
def ju:(dg J i x gw kn pend d).st i=x:=Sx _ _ _
def MI.zD(a:MI J sz)(m:i<J.num):MI (dg J i x gw kn pend d) sz:=by
 refine⟨a.num,λk b h=>?_,λk b h=>a.cX k b (Ji h),λk j b g h f=>a.dis k j b g (Ji h) (U3 f),λk b h=>a.nhid k b (Ji h),a.hbnd,λk hk c b h=>?_,λk hk=>?_⟩
 .by_cases e:k=i
  .subst e;have e1:(dg J k x gw kn pend d).O k=λb=>(k=0\/x≠.quit)/\J.O k b:=Sx _ _ _;rw[e1]at h;exact(GU h.1 b).2 (a.own k b h.2)
  .rw[Yl e]at h;rw[ud e];exact a.own k b h
 .by_cases e:k=i
  .subst e;rw[ju]at c;have e1:(dg J k x gw kn pend d).V k=λb=>(k=0\/x≠.quit)/\J.V k b:=Sx _ _ _;rw[e1]at h;rcases h.1 with h|h
   .exact hk h
   .exact h c
  .rw[eP e]at c;rw[ud e]at h;exact a.dead k hk c b h
 .have l:J.num<=k:=hk;rw[eP zz];exact a.out k hk
def TI.zD(r:TI J t sz)(q:MI J sz)(hi:Live J i)(C:i<J.num)(G:∀op∈u,op.g=i)(w:Deaf (t++u) i=d)(E:∀op∈u,∀a,op.act.touch?=Y a->a.loc.isMemory=true->rA J i a)
  (z:i=0\/J.kn i=.no\/∀(x:Nat) op a,u[x]?=Y op->op.act.touch?=Y a->a.loc.isMemory=true->Loose (t++u) (t.size+x))(A:∀op∈u,op.act.low sz)(hrel:∀op∈u,∀a,op.act≠.mark (.release a))
  (y:∀k,k≠0->ja {J with kn:=kn} (t++u) k):TI (dg J i x gw kn pend d) (t++u) sz:=by
 have U:UZ J {J with df:=upd J.df i d} i sz sz:=⟨rfl,λ_=>il,λ_ _ _=>il,λ_ _ _=>il,λb=>⟨.inl,λh=>h.elim id λh=>zz⟩,λb=>⟨.inl,λh=>h.elim id λh=>zz⟩,λ_=>il,λ_=>il,λ_=>rfl,rfl,rfl,rfl,λk hk=>Sh _ _ hk⟩;have c:=r.own q hi C U (qN _) G (by rw[w];exact(Sx _ _ _).symm) E z A hrel;have l:∀k,Live (dg J i x gw kn pend d) k->Live J k:=λk hk=>by
  by_cases e:k=i
  .rw[e];exact hi
  .unfold Live at hk |-; rw[eP e]at hk;exact hk
 refine⟨c.clean,c.low,λk hk=>c.deaf k (l k hk),c.above,c.norel,λk hk j a s B=>(c.know k (l k hk) j a s B).imp id λ⟨b,v,h⟩=>⟨b,v,?_⟩,λk hk=>(y k hk).same rfl rfl rfl rfl,c.says,c.atom⟩;have m:(dg J i x gw kn pend d).O k b->J.O k b:=λh=>U3 h;have n:(dg J i x gw kn pend d).V k b->J.V k b:=λh=>Ji h;rcases h with⟨f,g,o,p⟩|⟨f,g⟩|⟨f,g⟩
 .exact .inl ⟨f,g,λh=>o (m h),p⟩
 .exact .inr (.inl ⟨λh=>f (n h),g⟩)
 .exact .inr (.inr ⟨f,g⟩)
structure jK(Wg:Nat)(w w':H):Prop where
 tape:w'.tape=w.tape
 os:w'.os=w.os
 output:w'.output=w.output
 size:w'.heap.size=w.heap.size
 block:∀b,b≠Wg->w'.heap[b]?=w.heap[b]?
def jK.refl(Wg:Nat)(w:H):jK Wg w w:=⟨rfl,rfl,rfl,rfl,λ_ _=>rfl⟩
structure Xx(J:Gh)(i:Nat)(x:St)(gw:Gw)(kn:Nat->Kn)(pend d:Nat)(w':H):Prop where
 md:J.md=.clash
 cl:J.cl=false
 n:i<J.num
 li:Live J i
 st0:i=0->x=.quit
 SO:i≠0->J.st i≠.quit
 SN:∀v,x≠.off v
 gwn:gw≠.none
 wg:nQ (dg J i x gw kn pend d) w'
 count:gX (dg J i x gw kn pend d)
 pz:J.cz≠I->pend=0
 pi:i≠0->pend=J.pend
 wz:x=.wait\/x=.done->J.cz=Y i
 zw:J.cz=Y i->x=.wait\/x=.done
 sem:fV gw->∃c,J.cz=Y c/\upd J.st i x c=.wait
 kA:∀k,k≠0->kn k=.no->(upd J.st i x k=.run\/∃v,upd J.st i x k=.off v)\/J.cz=Y k
 kR:∀k,k≠0->(upd J.st i x k=.run\/(∃v,upd J.st i x k=.off v)\/upd J.st i x k=.wait\/upd J.st i x k=.done)->kn k=.no
 kS:∀k,k≠0->upd J.st i x k=.rel\/upd J.st i x k=.last->kn k=.rel
 kC:∀k,k≠0->kn k=.cl->∃c,J.cz=Y c/\upd J.st i x c=.done
 kD:∀c,J.cz=Y c->upd J.st i x c=.done->∀k,k≠0->k≠c->kn k=.cl\/kn k=.top
 kF:∀k,k≠0->kn k≠.sh
 doneW:∀c,J.cz=Y c->upd J.st i x c=.done->gw=.idle 0
 free:∀j,j≠i->J.cz=Y j->(J.gw=.idle 0->gw=.idle 0)/\(fV gw↔fV J.gw)/\nR gw<=nR J.gw
 knj:∀j,j≠i->Live J j->kn j=J.kn j
 lastW:∀j,j≠i->J.st j=.last->gw=J.gw
 sn:i≠0->J.cz≠Y i->¬J.snt i->x=.run
def FI.zD(h:FI J w t)(H:Xx J i x gw kn pend d w')(g:jK J.Wg w w')(a3:∀op∈u,op.g=i)(T:Deaf (t++u) i=d)(a2:∀op∈u,∀a,op.act.touch?=Y a->a.loc.isMemory=true->rA J i a)
  (V:i=0\/J.kn i=.no\/∀(x:Nat) op a,u[x]?=Y op->op.act.touch?=Y a->a.loc.isMemory=true->Loose (t++u) (t.size+x))(W:∀op∈u,op.act.low w)(hrel:∀op∈u,∀a,op.act≠.mark (.release a))
  (U:∀k,k≠0->ja {J with kn:=kn} (t++u) k):FI (dg J i x gw kn pend d) w' (t++u)/\∀j,j≠i->jr j J w (dg J i x gw kn pend d) w':=by
 obtain⟨B,G⟩:=h.p.group (h.p.grp H.md);have R:i≠0->J.base<=i:=λL=>q6A λZ=>H.SO L (h.p.old i L Z);refine⟨⟨by rw[g.size];exact h.m.zD H.n,by rw[g.size];exact h.t.zD h.m H.li H.n a3 T a2 V W hrel U,?_,h.s.kQ i rfl rfl rfl rfl rfl rfl rfl (λk hk=>eP hk) (λv=>by rw[ju];exact H.SN v) (λ_ E r y O=>by rw[ju];exact H.sn (λe=>by have:=h.p.basep.1;omega) y O)⟩,λj f=>⟨λ_ a1=>by rw[eP f];exact a1,λhl=>⟨⟨g.tape,g.os,g.output,Nat.le_of_eq g.size.symm,λb l=>g.block b λe=>h.m.nhid j b l (by rw[e];exact B)⟩,λb=>by rw[ud f],λb=>by rw[Yl f],?_⟩⟩⟩
 .refine⟨?_,λk v hk=>?_,h.p.paid,λC=>?_,λ_=>⟨B,G⟩,H.wg,H.count,λl=>?_,h.p.basep,λm=>?_,λk q h2=>?_,λk hk=>?_,λc m=>?_,H.sem,H.kA,H.kR,H.kS,H.kC,H.kD,λk q h2=>mi h2 (H.kF k q),λm=>?_,λC=>?_,H.doneW,λ_=>H.gwn⟩
  .by_cases e:i=0
   .subst e;rw[ju];exact H.st0 rfl
   .rw[eP (λn=>e n.symm)];exact h.p.st0
  .by_cases e:k=i
   .subst e;rw[ju]at hk;exact mi hk (H.SN v)
   .rw[eP e]at hk;obtain⟨E,r,y⟩:=h.p.off k v hk;exact⟨(Sh _ _ e).tn E,λb l=>by rw[ud e];exact r b l,h.p.paid _ _ _ _ (λb l=>g.block b λn=>h.m.nhid k b (r b l) (by rw[n];exact B)) y⟩
  .obtain⟨z,s,tm,A⟩:=h.p.chan C;exact⟨z,s,tm,(g.block _ (λe=>G e.symm)).tn A⟩
  .have K:J.md=.best:=l;rw[H.md]at K;cases K
  .have o:J.cl=true:=m;rw[H.cl]at o;cases o
  .have a4:k<J.base:=h2;rw[eP (λe=>by subst e;have:=R q;omega)];exact h.p.old k q h2
  .by_cases e:k=i
   .subst e;rw[ju]at hk;exact H.wz hk
   .rw[eP e]at hk;exact h.p.wz k hk
  .obtain⟨z,A,P,c4,Q⟩:=h.p.czl c m;have p:J.cz=Y c:=m;refine⟨z,A,P,H.pz (by rw[p];simp),λS=>?_⟩;by_cases e:c=i
   .subst e;rw[ju];exact H.zw p
   .rw[eP e];exact Q S
  .have o:J.cl=true:=m;rw[H.cl]at o;cases o
  .have N:J.md=.idle:=C;rw[H.md]at N;cases N
 .refine⟨eP f,Sh _ _ f,il,H.knj j f hl,rfl,rfl,rfl,rfl,rfl,rfl,λe=>⟨rfl,H.pi (λn=>f (by rw[e,n])),rfl,rfl⟩,λp=>⟨p,H.free j f p⟩,H.lastW j f,il⟩
def ON{X:Prop}(h:gw=.up->J.gw=.up\/X):pO fI i X J (dg J i x gw kn pend d):=
 ⟨λ_ _ b=>h b,.inl,λj a=>by show(dg J i x gw kn pend d).st j=.quit↔J.st j=.quit;rw[eP a]⟩
def FI.aa7(h:FI J w t)(o:J.md=.clash)(f:J.cl=false)(p:i<J.num)(L:Live J i){gw:Gw}{pend d:Nat}(r:i≠0->J.st i≠.quit)(q:∀v,J.st i≠.off v)(G:gw≠.none)(W:nQ (dg J i (J.st i) gw J.kn pend d) w')(A:gX (dg J i (J.st i) gw J.kn pend d))
  (Q:J.cz≠I->pend=0)(P:i≠0->pend=J.pend)(R:fV gw->∃c,J.cz=Y c/\J.st c=.wait)(C:∀c,J.cz=Y c->J.st c=.done->gw=.idle 0)(E:∀j,j≠i->J.cz=Y j->(J.gw=.idle 0->gw=.idle 0)/\(fV gw↔fV J.gw)/\nR gw<=nR J.gw)(K:∀j,j≠i->J.st j=.last->gw=J.gw)
  (V:jK J.Wg w w')(s:∀op∈u,op.g=i)(B:Deaf (t++u) i=d)(T:∀op∈u,∀a,op.act.touch?=Y a->a.loc.isMemory=true->rA J i a)
  (n:i=0\/J.kn i=.no\/∀(x:Nat) op a,u[x]?=Y op->op.act.touch?=Y a->a.loc.isMemory=true->Loose (t++u) (t.size+x))(N:∀op∈u,op.act.low w)(hrel:∀op∈u,∀a,op.act≠.mark (.release a)):
  FI (dg J i (J.st i) gw J.kn pend d) w' (t++u)/\∀j,j≠i->jr j J w (dg J i (J.st i) gw J.kn pend d) w':=by
 have e:upd J.st i (J.st i)=J.st:=by funext k;by_cases e:k=i;(· subst e;exact Sx _ _ _);(· exact Sh _ _ e)
 refine h.zD ⟨o,f,p,L,λe=>by rw[e];exact h.p.st0,r,q,G,W,A,Q,P,h.p.wz i,λg=>(h.p.czl i g).2.2.2.2 f,?_,?_,?_,?_,?_,?_,λk b h2=>?_,?_,E,λ_ _ _=>rfl,K,λl g S=>((h.s o).go i (q6A λO=>r l (h.p.old i l O)) p g S).resolve_right λ⟨v,U⟩=>q v U⟩ V s B T n N hrel (λk hk=>(h.t.hand k hk).app rfl rfl rfl rfl ?_)
 .rw[e];exact R
 .rw[e];exact h.p.kA
 .rw[e];exact h.p.kR
 .rw[e];exact h.p.kS
 .rw[e];exact h.p.kC
 .rw[e];exact h.p.kD
 .have:=h.p.kF k b h2;rw[f]at this;cases this
 .rw[e];exact C
 .by_cases m:k=i
  .subst m;rcases n with h|h|h
   .exact mi h hk
   .exact .inl h
   .exact .inr λx op a b _ y z=>h x op a b y z
  .exact .inr λx op a b h2 _ _=>mi ((s op (kq b)).symm.tn h2).symm m
end
end
end Go.Co
namespace Go.Co
open Go.Conc
section
open Go.ConcN (upd upd_same upd_ne sumTo)
variable{es:Array Event}{x pend:Nat}{gw:Gw}
section
variable{P:Ps}{post:M->H->Prop}{J σ':Gh}{t u:Th}{w w':H}{sz i:Nat}
def jX(Wg:Nat):Addr:=⟨Wg,0,I⟩
def wG(Wg:Nat):Addr:=⟨Wg,1,I⟩
def jd(m:Mark):Event:=⟨.mark m,false,true⟩
def yx(ad:Addr)(wr:Bool):Event:=⟨.cell ad,wr,true⟩
def jE(Wg:Nat)(s:Prop)(e:Event):Prop:=
 (∃ad wr,ad.block=Wg/\e=yx ad wr)\/(∃ad,ad.block=Wg/\s/\(e=jd (.read ad)\/e=jd (.write ad)))\/e=jd .disable\/e=jd .enable\/e=jd (.acquire (jX Wg))\/e=jd (.releaseMerge (jX Wg))
def wT{Wg:Nat}{s:Prop}(k:s->J.cD i)(j:J.hid Wg)(d:Wg<sz)(h:∀e∈es,jE Wg s e)(fn:ba)(pos:String):
  (∀op∈al.ofEvents i fn pos es,op.g=i)/\(∀op∈al.ofEvents i fn pos es,∀a,op.act.touch?=Y a->a.loc.isMemory=true->rA J i a)/\(∀op∈al.ofEvents i fn pos es,op.act.low sz)/\(∀op∈al.ofEvents i fn pos es,∀a,op.act≠.mark (.release a)):=by
 refine⟨λop f=>?_,λop f a c m=>?_,λop f=>?_,λop f a=>?_⟩;all_goals obtain⟨e,g,rfl⟩:=Go.Conc.mem_ofEvents f
 .rfl
 .rcases h e g with⟨ad,wr,b,rfl⟩|⟨ad,b,h2,rfl|rfl⟩|rfl|rfl|rfl|rfl
  .have e1:MemAct.ofEvent (yx ad wr)=.access ⟨.cell ad,wr,true⟩:=rfl;simp only[e1,MemAct.touch?,fg]at c;subst c;exact⟨ad.block,rfl,.inr (.inl ⟨by rw[b];exact j,rfl⟩)⟩
  .have e1:MemAct.ofEvent (jd (.read ad))=.mark (.read ad):=rfl;simp only[e1,MemAct.touch?,fg]at c;subst c;exact⟨ad.block,rfl,.inr (.inr ⟨by rw[b];exact j,rfl,k h2⟩)⟩
  .have e1:MemAct.ofEvent (jd (.write ad))=.mark (.write ad):=rfl;simp only[e1,MemAct.touch?,fg]at c;subst c;exact⟨ad.block,rfl,.inr (.inr ⟨by rw[b];exact j,rfl,k h2⟩)⟩
  all_goals cases c
 .rcases h e g with⟨ad,wr,b,rfl⟩|⟨ad,b,h2,rfl|rfl⟩|rfl|rfl|rfl|rfl
  .exact mc (Nat.le_of_eq b) d
  .exact mc (Nat.le_of_eq b) d
  .exact mc (Nat.le_of_eq b) d
  .trivial
  .trivial
  .exact d
  .exact d
 .intro l;rcases h e g with⟨ad,wr,b,rfl⟩|⟨ad,b,h2,rfl|rfl⟩|rfl|rfl|rfl|rfl<;>cases l
def OO{op:al}{ad:Addr}{wr:Bool}(h:0<Deaf t op.g)(a:u[x]?=Y op)(f:op.act=.access ⟨.cell ad,wr,true⟩)(g:∀y,y<x->∀c,u[y]?=Y c->c.act≠.mark .enable):Loose (t++u) (t.size+x):=by
 refine⟨op,ad,wr,P5 a,f,?_⟩;have key:∀y,y<=x->0<(t++u).deaf op.g (t.size+y):=by
  intro y
  induction y with
  | zero=>intro _;rw[Nat.add_zero,deaf_old (qN _)];exact h
  | succ y i=>
   intro k;have j:x<u.size:=(ec.1 a).1;have b:u[y]?=Y u[y]:=fi zz;rw[<- Nat.add_assoc,deaf_succ (P5 b)];have d:=i zz;have h2:=g y zz _ b;unfold deafStep;split
   .split<;>omega
   .rename_i e;exact mi e h2
   .exact d
 exact key x (qN _)
def oX{g:Nat}{fn:ba}{pos:String}{op:al}(h:(al.ofEvents g fn pos es)[x]?=Y op):∃e,es[x]?=Y e/\op= {g,fn,pos,act:=.ofEvent e}:=by
 rw[ofEvents_eq,mf]at h;obtain⟨e,a,h2⟩:=Option.map_eq_some_iff.1 h;exact⟨e,a,h2.symm⟩
def Lo(es:Array Event):Prop:=∀(x:Nat) e,es[x]?=Y e->∀a,(MemAct.ofEvent e).touch?=Y a->(∃ad wr,e=yx ad wr)/\∀y,y<x->∀b,es[y]?=Y b->b≠jd .enable/\∀m,MemAct.ofEvent b=.mark m->m≠.enable
def Lo.loose(h:Lo es)(k:0<Deaf t i)(fn:ba)(pos:String)(x:Nat)(op:al)(a:Touch)(b:(al.ofEvents i fn pos es)[x]?=Y op)(j:op.act.touch?=Y a):Loose (t++al.ofEvents i fn pos es) (t.size+x):=by
 obtain⟨e,d,rfl⟩:=oX b;obtain⟨⟨ad,wr,rfl⟩,f⟩:=h x e d a j;refine OO k b rfl λy m n l=>?_;obtain⟨c,g,rfl⟩:=oX l;exactλe=>(f y m c g).2 _ e rfl
def qB(h:∀e∈es,∃ad wr,e=yx ad wr):Lo es:=λx e c a _=>⟨h e (kq c),λy _ b d=>by
 obtain⟨ad,wr,rfl⟩:=h b (kq d);exact⟨λe=>(by cases e),λm e=>(by cases e)⟩⟩
def WN(ad:Addr):Lo (semEvents ad):=λx e b a d=>by
 unfold semEvents at b;rcases x with _|_|_|_|x
 .cases b;cases d
 .cases b;refine⟨⟨_,_,rfl⟩,λy g f c=>?_⟩;obtain rfl:y=0:=zz;cases c;exact⟨λe=>(by cases e),λm e=>(by cases e;exactλe=>(by cases e))⟩
 .cases b;refine⟨⟨_,_,rfl⟩,λy g f c=>?_⟩;obtain rfl|rfl:y=0\/y=1:=zz
  .cases c;exact⟨λe=>(by cases e),λm e=>(by cases e;exactλe=>(by cases e))⟩
  .cases c;exact⟨λe=>(by cases e),λm e=>(by cases e)⟩
 .cases b;cases d
 .cases b
def Cu(i:Nat)(J:Gh):Prop:=(i=0/\J.cz=I)\/(i≠0/\J.st i≠.quit/\∀v,J.st i≠.off v)
def Cu.n(b:Cu i J)(h:FI J w t):i<J.num:=by
 rcases b with⟨rfl,-⟩|⟨-, a,-⟩
 .exact h.m.num
 .exact Nat.lt_of_not_le λhle=>a (h.m.out i hle)
def Cu.live(a:Cu i J):Live J i:=a.imp (·.1) (·.2.1)
def Cu.cl(e:Cu i J)(h:FI J w t):J.cl=false:=by
 cases b:J.cl with
 | false=>rfl
 | true=>
  rcases e with⟨-, a⟩|⟨d,a,-⟩
  .obtain⟨c,h2⟩:=h.p.clz b;rw[a]at h2;cases h2
  .exact mi (h.p.kG b i d).1 a
def Cu.SN(b:Cu i J)(h:FI J w t):∀v,J.st i≠.off v:=by
 rcases b with⟨rfl,-⟩|⟨-, -, a⟩
 .intro v e;rw[h.p.st0]at e;cases e
 .exact a
def Cu.SO(b:Cu i J)(a:i≠0):J.st i≠.quit:=by
 rcases b with⟨h,-⟩|⟨-, h,-⟩
 .exact mi h a
 .exact h
def abA{α:Type}(f:Nat->α)(i:Nat):upd f i (f i)=f:=by funext k;by_cases e:k=i;(· subst e;exact Sx _ _ _);(· exact Sh _ _ e)
def Ym{kn:Nat->Kn}{pend d:Nat}(h:gX {J with gw:=gw,pend:=pend}):gX (dg J i (J.st i) gw kn pend d):=by
 unfold gX cnt dg at*;simp only[abA]at*;exact h
def FI.SP(h:FI J w t)(b:Cu i J)(m:J.md=.clash)(r:∀e∈es,jE J.Wg (J.cD i) e)(hl:i=0\/J.kn i=.no\/(Lo es/\0<J.df i)\/∀e∈es,(MemAct.ofEvent e).touch?=I)(v:gw≠.none)
  (E:nQ {J with gw:=gw} w')(o:gX {J with gw:=gw,pend:=pend})(A:J.cz≠I->pend=0)(z:i≠0->pend=J.pend)(B:fV gw->∃c,J.cz=Y c/\J.st c=.wait)(q:∀c,J.cz=Y c->J.st c=.done->gw=.idle 0)
  (u:∀j,j≠i->J.cz=Y j->(J.gw=.idle 0->gw=.idle 0)/\(fV gw↔fV J.gw)/\nR gw<=nR J.gw)(y:∀j,j≠i->J.st j=.last->gw=J.gw)(C:jK J.Wg w w')(fn:ba)(pos:String):
  FI (dg J i (J.st i) gw J.kn pend (bc (J.df i) es)) w' (t++al.ofEvents i fn pos es)/\∀j,j≠i->jr j J w (dg J i (J.st i) gw J.kn pend (bc (J.df i) es)) w':=by
 obtain⟨l,O⟩:=h.p.group (h.p.grp m);obtain⟨G,K,L,N⟩:=wT (i:=i) (J:=J) (s:=J.cD i) id l (h.m.hbnd _ l) r fn pos;have k:Deaf t i=J.df i:=h.t.deaf i b.live;refine h.aa7 m (b.cl h) (b.n h) b.live b.SO (b.SN h) v E (Ym o) A z B q u y C G (by rw[Deaf_own,k]) K ?_ L N;rcases hl with hl|hl|⟨hl,p⟩|hl
 .exact .inl hl
 .exact .inr (.inl hl)
 .exact .inr (.inr λx op a f d _=>hl.loose (by rw[k];exact p) fn pos x op a f d)
 .refine .inr (.inr λx op a f d _=>?_);obtain⟨e,n,rfl⟩:=oX f;rw[show({g:=i,fn,pos,act:=.ofEvent e}:al).act.touch?=(MemAct.ofEvent e).touch? from rfl,hl e (kq n)]at d;cases d
def FI.WQ(h:FI J w t)(f:Cu i J)(b:J.md=.clash)(d:∀e∈es,jE J.Wg (J.cD i) e)(hl:i=0\/J.kn i=.no\/(Lo es/\0<J.df i)\/∀e∈es,(MemAct.ofEvent e).touch?=I)(fn:ba)(pos:String):
  FI (dg J i (J.st i) J.gw J.kn J.pend (bc (J.df i) es)) w (t++al.ofEvents i fn pos es)/\∀j,j≠i->jr j J w (dg J i (J.st i) J.gw J.kn J.pend (bc (J.df i) es)) w:=
 h.SP f b d hl (h.p.grp b) h.p.wg h.p.count (λg=>by
  cases a:J.cz with
  | none=>exact mi a g
  | some c=>exact(h.p.czl c a).2.2.2.1) (λ_=>rfl) h.p.sem h.p.doneW (λ_ _ _=>⟨id,il,qN _⟩) (λ_ _ _=>rfl) (.refl _ _) fn pos
end
end
section
open Go.ConcN (upd upd_same upd_ne sumTo)
variable{Wg pend d:Nat}{ty:Lk}{a b:Int}{σ0 σ1:Gh}{w0 bj:H}{x:St}{gw:Gw}{kn:Nat->Kn}{da:Kf}{dp:List Kf}{es:Array Event}
section
variable{P:Ps}{post:M->H->Prop}{J σ':Gh}{t u:Th}{w w':H}{sz i:Nat}
def Qx{ad:Addr}{v:M}(h:ad.block=Wg)(w:H):jK Wg w (w.setCell ad v):=by
 subst h;unfold H.setCell;split;all_goals exact⟨rfl,rfl,rfl,by simp,λb a=>by simp[nc,Ne.symm a]⟩
def nS(h:w.heap[Wg]?=Y (eG ty a b))(v:Int):(w.setCell (jX Wg) (.int .u64 v)).heap[Wg]?=Y (eG ty v b):=Go.ConcR.WgAt.setSt h v
def Yn(h:w.heap[Wg]?=Y (eG ty a b))(v:Int):(w.setCell (wG Wg) (.int .u32 v)).heap[Wg]?=Y (eG ty a v):=Go.ConcR.WgAt.setSm (ty:=ty) (Wg:=Wg) (w:=w) (st:=a) (sm:=b) h v
structure Ctx(i:Nat)(σ0:Gh)(w0:H)(J:Gh)(w:H):Prop where
 w:aH (σ0.V i) w0 w
 V:∀b,J.V i b↔σ0.V i b
 O:∀b,J.O i b↔σ0.O i b
 cD:J.cD i↔σ0.cD i
 md:J.md=σ0.md
 C:J.C=σ0.C
 Wg:J.Wg=σ0.Wg
 ty:J.ty=σ0.ty
 base:J.base=σ0.base
 pay:J.pay=σ0.pay
 main:i=0->J.num=σ0.num/\J.got=σ0.got/\J.cz=σ0.cz
 z:σ0.cz=Y i->J.cz=Y i
 snt:J.snt i↔σ0.snt i
def Ctx.refl(i:Nat)(J:Gh)(w:H):Ctx i J w J w:=⟨.refl _ _,λ_=>il,λ_=>il,il,rfl,rfl,rfl,rfl,rfl,rfl,λ_=>⟨rfl,rfl,rfl⟩,id,il⟩
def Ctx.rely(h:Ctx i σ0 w0 J w)(k:gL i J w σ1 bj):Ctx i σ0 w0 σ1 bj:=
 ⟨h.w.tn (k.w.mono λb a=>(h.V b).2 a),λb=>(k.V b).tn (h.V b),λb=>(k.O b).tn (h.O b),k.kin.cD.tn h.cD,k.kin.md.tn h.md,k.kin.C.tn h.C,k.kin.Wg.tn h.Wg,k.kin.ty.tn h.ty,k.kin.base.tn h.base,k.kin.pay.tn h.pay,
  λe=>⟨(k.kin.main e).1.tn (h.main e).1,(k.kin.main e).2.2.1.tn (h.main e).2.1,(k.kin.main e).2.2.2.tn (h.main e).2.2⟩,λe=>(k.kin.free (h.z e)).1,k.kin.snt.tn h.snt⟩
def Ctx.zD(h:Ctx i σ0 w0 J w)(a:jK J.Wg w w')(e:∀b,J.V i b->b≠J.Wg)(c:i=0\/x≠.quit):Ctx i σ0 w0 (dg J i x gw kn pend d) w':=
 ⟨h.w.tn ⟨a.tape,a.os,a.output,Nat.le_of_eq a.size.symm,λb f=>a.block b (e b ((h.V b).2 f))⟩,λb=>(GU c b).tn (h.V b),λb=>(OM c b).tn (h.O b),h.cD,h.md,h.C,h.Wg,h.ty,h.base,h.pay,h.main,h.z,h.snt⟩
structure Pt where
 st:St
 kn:Kn
 df:Nat
 pend:Nat
 gl:Option Gw:=I
 sm:Option Bool:=I
 cb:Option Nat:=I
structure gO(i:Nat)(σ0:Gh)(w0:H)(pt:Pt)(J:Gh)(w:H):Prop where
 c:Ctx i σ0 w0 J w
 st:J.st i=pt.st
 kn:J.kn i=pt.kn
 df:J.df i=pt.df
 pend:i=0->J.pend=pt.pend
 gl:∀g,pt.gl=Y g->J.gw=g/\(pt.st=.last\/(J.cz=Y i/\g=.idle 0))
 sm:∀b,pt.sm=Y b->J.cz=Y i/\(fV J.gw↔b=true)
 cb:∀n,pt.cb=Y n->J.cz=Y i/\nR J.gw<=n
 who:Cu i J
def gO.rely{pt:Pt}(h:gO i σ0 w0 pt J w)(k:gL i J w σ1 bj):gO i σ0 w0 pt σ1 bj:=by
 refine⟨h.c.rely k,k.kin.st.tn h.st,k.kin.kn.tn h.kn,k.kin.df.tn h.df,λe=>(k.kin.main e).2.1.tn (h.pend e),λg f=>?_,λb d=>?_,λn j=>?_,?_⟩
 .obtain⟨a,h2⟩:=h.gl g f;rcases h2 with h2|⟨h2,c⟩
  .exact⟨(k.kin.lastW (h.st.tn h2)).tn a,.inl h2⟩
  .exact⟨by rw[c]at a |-; exact(k.kin.free h2).2.1 a,.inr ⟨(k.kin.free h2).1,c⟩⟩
 .obtain⟨a,h2⟩:=h.sm b d;exact⟨(k.kin.free a).1,(k.kin.free a).2.2.1.tn h2⟩
 .obtain⟨a,h2⟩:=h.cb n j;exact⟨(k.kin.free a).1,qO (k.kin.free a).2.2.2 h2⟩
 .rcases h.who with⟨a,h2⟩|⟨a,h2,c⟩
  .exact .inl ⟨a,(k.kin.main a).2.2.2.tn h2⟩
  .exact .inr ⟨a,by rw[k.kin.st];exact h2,by rw[k.kin.st];exact c⟩
def gO.rQ(w0:H)(a:σ0.md=.clash)(pt:Pt):yw i σ0.ty σ0.Wg (gO i σ0 w0 pt) where
 rely:=λ_ _ _ _ h k=>h.rely k
 live:=λ_ _ h=>⟨h.who.live,λe=>h.who.SO zz⟩
 YP:=λ_ _ h=>⟨h.c.md.tn a,h.c.Wg,h.c.ty⟩
def gO.zD{pt fv:Pt}(h:gO i σ0 w0 pt J w)(d:FI J w t)(m:σ0.md=.clash)(q:jK J.Wg w w')(j:(i=0/\fv.st=.quit)\/(i≠0/\fv.st≠.quit/\∀v,fv.st≠.off v))(hk:kn i=fv.kn)(o:i=0->pend=fv.pend)
  (l:∀g,fv.gl=Y g->gw=g/\(fv.st=.last\/(J.cz=Y i/\g=.idle 0)))(p:∀b,fv.sm=Y b->J.cz=Y i/\(fV gw↔b=true))(f:∀n,fv.cb=Y n->J.cz=Y i/\nR gw<=n:=by intro n h;cases h):gO i σ0 w0 fv (dg J i fv.st gw kn pend fv.df) w':=by
 have k:=(d.p.group (d.p.grp (h.c.md.tn m))).1;refine⟨h.c.zD q (λb f e=>d.m.nhid i b f (by rw[e];exact k)) (j.imp (·.1) (·.2.1)),ju,hk,Sx _ _ _,o,l,p,f,?_⟩;rcases j with⟨c,h2⟩|⟨c,h2,a⟩
 .refine .inl ⟨c,?_⟩;rcases h.who with⟨-, a⟩|⟨a,-⟩
  .exact a
  .exact mi c a
 .exact .inr ⟨c,by rw[ju];exact h2,by rw[ju];exact a⟩
def jv{fr da:Kf}{cs dp:List Kf}(h:Lq P (i==0) (G fr cs) w=.go (G da dp) w' es)
  (b:FI (dg J i x gw kn pend d) w' (t++al.ofEvents i (G fr cs).frame.fn (G fr cs).frame.place es)/\∀j,j≠i->jr j J w (dg J i x gw kn pend d) w')(k:gw=.up->J.gw=.up\/mayWake P (G fr cs)=true)(e:Deaf (t++al.ofEvents i (G fr cs).frame.fn (G fr cs).frame.place es) i=d)
  (g:((0<i->x≠.quit)/\sZ P post i (G da dp) (dg J i x gw kn pend d) w')\/(0<i/\x=.quit/\∃q,QuitsD P q d (G da dp))):zW fI P i (Tt P post i) (G fr cs) J w t:=by
 refine⟨G da dp,w',es,dg J i x gw kn pend d,h,.inl rfl,rfl,b.1,λj f _=>b.2 j f,ON k,?_⟩;rcases g with⟨a,h2⟩|⟨a,h2,q,c⟩
 .exact .inl ⟨rfl,λhi=>by show¬(dg J i x gw kn pend d).st i=.quit;rw[ju];exact a hi,h2⟩
 .refine .inr ⟨a,?_,q,a,?_⟩
  .show(dg J i x gw kn pend d).st i=.quit;rw[ju];exact h2
  .rw[e];exact c
section
variable{σ0:Gh}{w0:H}{pt:Pt}{fr:Kf}{cs:List Kf}
def l7(h:Ctx i σ0 w0 J w)(b:∀e∈es,jE σ0.Wg (σ0.cD i) e):∀e∈es,jE J.Wg (J.cD i) e:=λe a=>by
 have:=b e a;unfold jE at this|-;rw[h.Wg];simp only[h.cD];exact this
def gO.deaf(h:gO i σ0 w0 pt J w)(a:FI J w t)(fn:ba)(pos:String)(es:Array Event):Deaf (t++al.ofEvents i fn pos es) i=bc (J.df i) es:=by
 rw[Deaf_own,a.t.deaf i h.who.live]
def gO.cD(h:gO i σ0 w0 pt J w)(c:FI J w t)(l:σ0.md=.clash)(o:∀e∈es,jE σ0.Wg (σ0.cD i) e)(hl:i=0\/pt.kn=.no\/(Lo es/\0<pt.df)\/∀e∈es,(MemAct.ofEvent e).touch?=I)(r:Lq P (i==0) (G fr cs) w=.go (G da dp) w es)
  {fv:Pt}(d:fv.st=pt.st/\fv.kn=pt.kn/\fv.df=bc pt.df es/\fv.pend=pt.pend)(p:∀g,fv.gl=Y g->J.gw=g/\(fv.st=.last\/(J.cz=Y i/\g=.idle 0)))(q:∀b,fv.sm=Y b->J.cz=Y i/\(fV J.gw↔b=true))(m:∀n,fv.cb=Y n->J.cz=Y i/\nR J.gw<=n)(next:SW P post i (gO i σ0 w0 fv) (G da dp)):zW fI P i (Tt P post i) (G fr cs) J w t:=by
 have j:=c.WQ h.who (h.c.md.tn l) (l7 h.c o) (by rw[h.kn,h.df];exact hl) (G fr cs).frame.fn (G fr cs).frame.place;have e1:J.st i=fv.st:=h.st.tn d.1.symm;have f:bc (J.df i) es=fv.df:=by rw[h.df,d.2.2.1]
 have k:=h.deaf c (G fr cs).frame.fn (G fr cs).frame.place es;rw[e1,f]at j;rw[f]at k;refine jv r j .inl k (.inl ⟨λhi=>by rw[<- e1];exact h.who.SO zz,next _ _ (h.zD c l (.refl _ _) ?_ (h.kn.tn d.2.1.symm) (λe=>(h.pend e).tn d.2.2.2.symm) p q m)⟩);rw[<- e1];rcases h.who with⟨a,-⟩|a
 .exact .inl ⟨a,by rw[a];exact c.p.st0⟩
 .exact .inr a
def SW.cD(a:σ0.md=.clash)(f:∀e∈es,jE σ0.Wg (σ0.cD i) e)(hl:i=0\/pt.kn=.no\/(Lo es/\0<pt.df)\/∀e∈es,(MemAct.ofEvent e).touch?=I)(l:∀w,Cs σ0.ty σ0.Wg w->Lq P (i==0) (G fr cs) w=.go (G da dp) w es)
  (next:SW P post i (gO i σ0 w0 {pt with df:=bc pt.df es}) (G da dp)):SW P post i (gO i σ0 w0 pt) (G fr cs):=
 SW.kQ (gO.rQ w0 a pt) λ_ w _ hF c j=>hF.cD c a f hl (l w j) (fv:= {pt with df:=bc pt.df es}) ⟨rfl,rfl,rfl,rfl⟩ (λg h=>hF.gl g h) (λb d=>hF.sm b d) (λn k=>hF.cb n k) next
end
end
end
section
open Go.ConcN (upd upd_same upd_ne sumTo sumTo_congr)
variable{x:St}{gw:Gw}
section
variable{P:Ps}{post:M->H->Prop}{J σ':Gh}{t u:Th}{w w':H}{sz i:Nat}
def ofEvents_one(g:Nat)(fn:ba)(pos:String)(e:Event):al.ofEvents g fn pos #[e]= #[{g,fn,pos,act:=.ofEvent e}]:=by rw[ofEvents_eq];simp
def ue{kn:Nat->Kn}{pend d:Nat}(a:i<J.num):cnt (dg J i x gw kn pend d)+counted (J.st i)=cnt J+counted x:=BD x a
def yy{n k:Nat}{f:Nat->St}(hk:k<n):counted (f k)<=sumTo n (λk=>counted (f k)):=by
 induction n with
 | zero=>omega
 | succ n a=>
  simp only[sumTo];by_cases e:k=n
  .subst e;omega
  .have:=a zz;omega
def FI.release(h:FI J w t)(u:i≠0)(L:J.md=.clash)(p:J.st i=.run)(a6:J.snt i)(T:J.df i=0)(fn:ba)(pos:String):
  FI (dg J i .rel J.gw (upd J.kn i .rel) J.pend 0) w (t++al.ofEvents i fn pos #[jd (.releaseMerge (jX J.Wg))])/\∀j,j≠i->jr j J w (dg J i .rel J.gw (upd J.kn i .rel) J.pend 0) w:=by
 have n:Cu i J:=.inr ⟨u,by rw[p];simp,by rw[p];simp⟩;have A:=n.n h;obtain⟨S,a'⟩:=h.p.group (h.p.grp L);have U:J.kn i=.no:=h.p.kR i u (.inl p);have a7:J.cz≠Y i:=λz=>by rcases(h.p.czl i z).2.2.2.2 (n.cl h)with e|e<;>rw[p]at e<;>cases e
 have a1:∀e∈ #[jd (.releaseMerge (jX J.Wg))],jE J.Wg (J.cD i) e:=λe G=>by
  obtain rfl:e=jd (.releaseMerge (jX J.Wg)):=by simpa using G
  exact .inr (.inr (.inr (.inr (.inr rfl))))
 obtain⟨W,o2,o3,o4⟩:=wT (i:=i) (J:=J) (s:=J.cD i) id S (h.m.hbnd _ S) a1 fn pos;have R:Deaf t i=J.df i:=h.t.deaf i n.live;have ne:∀k y,y≠.run->J.st k=y->k≠i:=λk y O e r=>by rw[r,p]at e;exact O e.symm
 have m:∀k y,y≠.rel->upd J.st i .rel k=y->k≠i/\J.st k=y:=λk y O e=>by
  by_cases r:k=i
  .subst r;rw[Sx]at e;exact mi e.symm O
  .rw[Sh _ _ r]at e;exact⟨r,e⟩
 have C:∀gw,cnt (dg J i .rel gw (upd J.kn i .rel) J.pend 0)=cnt J:=λgw=>by
  have:=ue (x:=.rel) (gw:=gw) (kn:=upd J.kn i .rel) (pend:=J.pend) (d:=0) A;rw[p]at this;have e1:counted .run=1:=rfl;have e2:counted .rel=1:=rfl;omega
 have V:(∀k,J.st k≠.last)->∀k,upd J.st i .rel k≠.last:=λA k hk=>A k (m k _ ss hk).2;have P:(al.ofEvents i fn pos #[jd (.releaseMerge (jX J.Wg))])[0]?=Y {g:=i,fn,pos,act:=.mark (.releaseMerge (jX J.Wg))}:=by rw[ofEvents_one];rfl
 have a8:(al.ofEvents i fn pos #[jd (.releaseMerge (jX J.Wg))]).size=1:=by rw[ofEvents_one];rfl
 refine h.zD (d:=0) ⟨L,n.cl h,A,n.live,λe=>mi e u,λ_=>n.SO u,by simp,h.p.grp L,h.p.wg,?_,λz=>?_,λ_=>rfl,by simp,λz=>mi z a7,λN=>?_,λk f h2=>?_,λk f h2=>?_,λk f h2=>?_,λk f h2=>?_,λc o E k f h2=>?_,λk f h2=>?_,λc o E=>?_,λj _ _=>⟨id,il,qN _⟩,λj K _=>Sh _ _ K,λ_ _ _=>rfl,λ_ _ N=>mi a6 N⟩ (.refl _ _) W (by rw[Deaf_own,R,T];rfl) o2 (.inr (.inl U)) o3 o4 λk hk=>?_
 .have l:=h.p.count;unfold gX at l|-;have e:(dg J i .rel J.gw (upd J.kn i .rel) J.pend 0).gw=J.gw:=rfl;have a9:(dg J i .rel J.gw (upd J.kn i .rel) J.pend 0).pend=J.pend:=rfl;rw[e];have a3:(∃k,k≠0/\k<J.num/\J.st k=.last/\∀j,J.st j=.last->j=k)->∃k,k≠0/\k<J.num/\upd J.st i .rel k=.last/\∀j,upd J.st i .rel j=.last->j=k:=λ⟨k,f,h2,Q,Z⟩=>⟨k,f,h2,by rw[Sh _ _ (ne k _ ss Q)];exact Q,λj K=>Z j (m j _ ss K).2⟩
  cases a2:J.gw with
  | none=>trivial
  | _=>
   rw[a2]at l
   first
    | exact⟨by rw[C];exact l.1,V l.2⟩
    | exact⟨by rw[C];exact l.1,l.2.1,V l.2.2⟩
    | exact⟨by rw[C];exact l.1,a3 l.2⟩
 .cases o:J.cz with
  | none=>exact mi o z
  | some c=>exact(h.p.czl c o).2.2.2.1
 .obtain⟨c,B,q⟩:=h.p.sem N;exact⟨c,B,by rw[Sh _ _ (ne c _ ss q)];exact q⟩
 .have e:k≠i:=by rintro rfl;rw[Sx]at h2;cases h2
  rw[Sh _ _ e]at h2|-;exact h.p.kA k f h2
 .rcases h2 with h2|⟨v,h2⟩|h2|h2
  .obtain⟨a,b⟩:=m k _ ss h2;rw[Sh _ _ a];exact h.p.kR k f (.inl b)
  .obtain⟨a,b⟩:=m k _ ss h2;rw[Sh _ _ a];exact h.p.kR k f (.inr (.inl ⟨v,b⟩))
  .obtain⟨a,b⟩:=m k _ ss h2;rw[Sh _ _ a];exact h.p.kR k f (.inr (.inr (.inl b)))
  .obtain⟨a,b⟩:=m k _ ss h2;rw[Sh _ _ a];exact h.p.kR k f (.inr (.inr (.inr b)))
 .by_cases e:k=i
  .subst e;exact Sx _ _ _
  .rw[Sh _ _ e]at h2 |-; exact h.p.kS k f h2
 .have e:k≠i:=by rintro rfl;rw[Sx]at h2;cases h2
  rw[Sh _ _ e]at h2;obtain⟨c,B,q⟩:=h.p.kC k f h2;exact⟨c,B,by rw[Sh _ _ (ne c _ ss q)];exact q⟩
 .obtain⟨a,b⟩:=m c _ ss E;have hk:=h.p.kD c o b i u (λe=>a e.symm);rw[U]at hk;rcases hk with hk|hk<;>cases hk
 .by_cases e:k=i
  .subst e;rw[Sx]at h2;cases h2
  .rw[Sh _ _ e]at h2;have:=h.p.kF k f h2;rw[n.cl h]at this;cases this
 .exact h.p.doneW c o (m c _ ss E).2
 .by_cases e:k=i
  .subst e;unfold ja;have e1:({J with kn:=upd J.kn k .rel}:Gh).kn k=.rel:=Sx _ _ _;rw[e1];refine⟨t.size+0,kT P,heard_new (λop a5=>?_) P (by rw[show Deaf t k=0 from R.tn T]),OK (P5 P) rfl rfl λj op a4 _=>?_⟩
   .obtain⟨e,G,rfl⟩:=Go.Conc.mem_ofEvents (g:=k) (fn:=fn) (pos:=pos) a5;obtain rfl:e=jd (.releaseMerge (jX J.Wg)):=by simpa using G
    exact⟨by simp[jd,MemAct.ofEvent],by simp[jd,MemAct.ofEvent]⟩
   .have:=(ec.1 a4).1;rw[qUB,a8]at this;omega
  .exact(h.t.hand k hk).app (Sh _ _ e) rfl rfl rfl (.inr λx op a f h2 _ _=>mi ((W op (kq f)).symm.tn h2).symm e)
def FI.OP(h:FI J w t)(o:i≠0)(B:J.md=.clash)(p:J.st i=.rel\/J.st i=.last)(E:x=.quit\/x=.last){es:Array Event}(W:∀e∈es,jE J.Wg (J.cD i) e)(P:Lo es)(L:0<J.df i)(a1:gw≠.none)(a6:nQ {J with gw:=gw} w')
  (V:gX (dg J i x gw J.kn J.pend (bc (J.df i) es)))(R:fV gw↔fV J.gw)(Z:nR gw<=nR J.gw)(N:J.gw≠.idle 0)(a3:∀j,j≠i->J.st j≠.last)(a5:jK J.Wg w w')(fn:ba)(pos:String):
  FI (dg J i x gw J.kn J.pend (bc (J.df i) es)) w' (t++al.ofEvents i fn pos es)/\∀j,j≠i->jr j J w (dg J i x gw J.kn J.pend (bc (J.df i) es)) w':=by
 have g:Cu i J:=.inr ⟨o,by rcases p with h|h<;>rw[h]<;>simp,by rcases p with h|h<;>rw[h]<;>simp⟩;have Q:=g.n h;obtain⟨K,a8⟩:=h.p.group (h.p.grp B);have O:J.kn i=.rel:=h.p.kS i o p;have a7:J.cz≠Y i:=λl=>by rcases(h.p.czl i l).2.2.2.2 (g.cl h)with e|e<;>rcases p with r|r<;>rw[r]at e<;>cases e
 obtain⟨S,o2,o3,o4⟩:=wT id K (h.m.hbnd _ K) W fn pos;have z:=h.t.deaf i g.live;have ne:∀k y,y≠.rel->y≠.last->J.st k=y->k≠i:=λk y s G e f=>by
  rw[f]at e;rcases p with r|r<;>rw[r]at e
  .exact s e.symm
  .exact G e.symm
 have m:∀k y,y≠.quit->y≠.last->upd J.st i x k=y->k≠i/\J.st k=y:=λk y s G e=>by
  by_cases f:k=i
  .subst f;rw[Sx]at e;rcases E with rfl|rfl
   .exact mi e.symm s
   .exact mi e.symm G
  .rw[Sh _ _ f]at e;exact⟨f,e⟩
 refine h.zD ⟨B,g.cl h,Q,g.live,λe=>mi e o,λ_=>g.SO o,by rcases E with rfl|rfl<;>simp,a1,a6,V,λl=>?_,λ_=>rfl,by rcases E with rfl|rfl<;>simp,λl=>mi l a7,λC=>?_,λk d h2=>?_,λk d h2=>?_,λk d h2=>?_,λk d h2=>?_,λc n A=>?_,λk d h2=>?_,λc n A=>?_,λj _ _=>⟨λe=>mi e N,R,Z⟩,λ_ _ _=>rfl,λj a2 hl=>mi hl (a3 j a2),λ_ l C=>by
  rcases(h.s B).go i (q6A λa4=>g.SO o (h.p.old i o a4)) Q l C with e|⟨v,e⟩<;>rcases p with f|f<;>rw[e]at f<;>cases f⟩ a5 S (by rw[Deaf_own,z]) o2 (.inr (.inr λy op a s U _=>P.loose (by rw[z];exact L) fn pos y op a s U)) o3 o4 λk hk=>?_
 .cases n:J.cz with
  | none=>exact mi n l
  | some c=>exact(h.p.czl c n).2.2.2.1
 .obtain⟨c,u,q⟩:=h.p.sem (R.1 C);exact⟨c,u,by rw[Sh _ _ (ne c _ ss ss q)];exact q⟩
 .have e:k≠i:=by rintro rfl;rw[O]at h2;cases h2
  rw[Sh _ _ e];exact h.p.kA k d h2
 .rcases h2 with h2|⟨v,h2⟩|h2|h2
  .obtain⟨a,b⟩:=m k _ ss ss h2;exact h.p.kR k d (.inl b)
  .obtain⟨a,b⟩:=m k _ ss ss h2;exact h.p.kR k d (.inr (.inl ⟨v,b⟩))
  .obtain⟨a,b⟩:=m k _ ss ss h2;exact h.p.kR k d (.inr (.inr (.inl b)))
  .obtain⟨a,b⟩:=m k _ ss ss h2;exact h.p.kR k d (.inr (.inr (.inr b)))
 .by_cases e:k=i
  .subst e;exact O
  .rw[Sh _ _ e]at h2;exact h.p.kS k d h2
 .obtain⟨c,u,q⟩:=h.p.kC k d h2;exact⟨c,u,by rw[Sh _ _ (ne c _ ss ss q)];exact q⟩
 .exact h.p.kD c n (m c _ ss ss A).2
 .have:=h.p.kF k d h2;rw[g.cl h]at this;cases this
 .exact mi (h.p.doneW c n (m c _ ss ss A).2) N
 .refine(h.t.hand k hk).app rfl rfl rfl rfl (.inr λy op a d h2 T h4=>?_);by_cases e:k=i
  .exact P.loose (by rw[z];exact L) fn pos y op a d T
  .exact mi ((S op (kq d)).symm.tn h2).symm e
end
end
end Go.Co
