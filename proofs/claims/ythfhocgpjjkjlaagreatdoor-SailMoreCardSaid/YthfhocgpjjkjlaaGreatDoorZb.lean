import Derived.Test.YthfhocgpjjkjlaaGreatDoorZa
import Derived.Conc.Listed
import Derived.Fence
set_option maxRecDepth 100000
set_option maxHeartbeats 4000000
set_option linter.all false
noncomputable section
open Go renaming undef->D,World->H,execOp->Hn,Frame->Kf,Oper->Kp,TypeId->Lk,stepG->Lq,Code->Ly,Value->M,Program->Ps,Goroutine->QP,resolve->ab,Operand->ae,MemOp->al,yielded->aw,FuncId->ba
open Option renaming none->Fl,none->I,some->Y
namespace Go.Co
variable{i N:Nat}{k k' x x' m m':M}{t:Lk}{P:Ps}{ok:Ok}{Z:Ren}
def ER(Z:Ren)(x y:MapEntry):Prop:=VR Z x.key y.key/\VR Z x.val y.val/\x.born=y.born
def CX(Z:Ren)(xs a:Array MapEntry):Prop:=xs.size=a.size/\∀(i:Nat) (x y:MapEntry),xs[i]?=Y x->a[i]?=Y y->ER Z x y
def Wl(Z:Ren)(xs a:List MapEntry):Prop:=xs.length=a.length/\∀(i:Nat) (x y:MapEntry),xs[i]?=Y x->a[i]?=Y y->ER Z x y
def CX.Ty{xs ys:Array MapEntry}(h:CX Z xs ys):Wl Z xs.toList ys.toList:=⟨by simpa using h.1,λi x y a b=>h.2 i x y (by simpa using a) (by simpa using b)⟩
def CX.get{xs ys:Array MapEntry}(h:CX Z xs ys){x:MapEntry}(a:xs[i]?=Y x):∃y,ys[i]?=Y y/\ER Z x y:=by
 have hi:=(ec.1 a).1;have c:i<ys.size:=by rw[<- h.1];exact hi
 have b:=fi c;exact⟨_,b,h.2 i x _ a b⟩
def CX.none{xs ys:Array MapEntry}(h:CX Z xs ys)(a:xs[i]?=I):ys[i]?=I:=by
 rw[Array.getElem?_eq_none_iff]at a|-;rw[<- h.1];exact a
def CX.push{xs ys:Array MapEntry}(h:CX Z xs ys){x y:MapEntry}(r:ER Z x y):CX Z (xs.push x) (ys.push y):=by
 refine⟨by simp[h.1],λi a b c d=>?_⟩;rw[qPB]at c d;by_cases hi:i=xs.size
 .rw[qWB hi]at c;rw[qWB (by rw[<- h.1];exact hi)]at d;cases c;cases d;exact r
 .rw[qVB hi]at c;rw[qVB (by rw[<- h.1];exact hi)]at d;exact h.2 i a b c d
def CX.modify{xs ys:Array MapEntry}(h:CX Z xs ys)(i:Nat){f g:MapEntry->MapEntry}(r:∀x y,ER Z x y->ER Z (f x) (g y)):CX Z (xs.modify i f) (ys.modify i g):=by
 refine⟨by simp[h.1],λj a b c d=>?_⟩;rw[nc]at c d;by_cases hi:i=j
 .rw[qWB hi]at c d;rw[Option.map_eq_some_iff]at c d;obtain⟨x,e,rfl⟩:=c;obtain⟨y,k,rfl⟩:=d;exact r _ _ (h.2 j x y e k)
 .rw[qVB hi]at c d;exact h.2 j a b c d
def tE(e:Bool)(n:Nat):∀(t:Lk) {v v':M},VR Z v v'->mO P ok Z N (λ_ _=>True) (Instr.checkKey e n t v) (Instr.checkKey e n t v'):=by
 induction n with
 | zero=>intro t v v' r;unfold Instr.checkKey;exact cF
 | succ n g=>
  intro t v v' r;unfold Instr.checkKey;refine af (aO t) λa b h=>?_;obtain⟨rfl,_⟩:=h
  cases a with
  | interface ms=>cases r with
   | iface d p=>
    refine af ((cJ (eF d)).mono λ_ _ h=>h.1) λi x e1=>?_;subst e1;dsimp only;split
    .refine cm ?_;split
     .exact ga (bO (Q:=λ_=>False) qYB λ_ h=>h.elim)
     .refine iQ λs=>?_;exact ga (bO (Q:=λ_=>False) (iP _) λ_ h=>h.elim)
    .exact g d p
   | nilIface=>exact aj qYB
   | _=>exact aA
  | array l m=>cases r with
   | agg s h=>
    refine af (R:=λ_ _=>True) (pW _ qYB λi b j _=>?_) λ_ _ _=>aj qYB;refine af (cY m) λk k' hk=>?_;obtain⟨rfl,_⟩:=hk;exact af (ld _ ⟨s,h⟩ _) λu q c=>af (g _ c) λ_ _ _=>aj (.inr ⟨_,_,rfl,rfl,qYB⟩)
   | _=>exact aA
  | struct o=>cases r with
   | agg s h=>
    refine af (R:=λ_ _=>True) (pV o (R:=λ_ _=>True) qYB λf w b j _=>?_) λ_ _ _=>aj qYB;split
    .exact af (ld _ ⟨s,h⟩ _) λu q c=>af (g _ c) λ_ _ _=>aj (.inr ⟨_,_,rfl,rfl,qYB⟩)
    .exact aj (.inr ⟨_,_,rfl,rfl,qYB⟩)
   | _=>exact aA
  | _=>cases r<;>exact aj qYB
def zK(d:TypeDesc)(rk:VR Z k k')(a:VR Z x x'):Instr.sameNow d k x=Instr.sameNow d k' x':=by
 cases d<;>cases rk<;>cases a<;>rfl
def FR(Z:Ren)(a b:Option (Nat×M)):Prop:=(a=I/\b=I)\/∃i v v',a=Y (i,v)/\b=Y (i,v')/\VR Z v v'
def rY(d:TypeDesc)(rk:VR Z k k'):∀(es c:List MapEntry) (i:Nat),Wl Z es c->
  (Instr.findNow d k es i=I/\Instr.findNow d k' c i=I)\/∃a b,Instr.findNow d k es i=Y a/\Instr.findNow d k' c i=Y b/\FR Z a b
 | [],[],i,_=>.inr ⟨I,I,rfl,rfl,.inl ⟨rfl,rfl⟩⟩
 | [],_::_,i,h=>by have:=h.1;simp at this
 | _::_,[],i,h=>by have:=h.1;simp at this
 | x::es,x'::c,i,h=>by
  have f:=h.2 0 x x' rfl rfl;have m:Wl Z es c:=⟨by simpa using h.1,λj a b g l=>h.2 (j+1) a b (by simpa using g) (by simpa using l)⟩;have e:=zK d rk f.1;simp only[Instr.findNow,<- e]
  cases n:Instr.sameNow d k x.key with
  | none=>exact .inl ⟨rfl,rfl⟩
  | some b=>cases b with
   | true=>exact .inr ⟨_,_,rfl,rfl,.inr ⟨i,_,_,rfl,rfl,f.2.1⟩⟩
   | false=>exact rY d rk es c (i+1) m
def pY(f:eqType P 6 t=true)(rk:VR Z k k'):∀(es c:List MapEntry) (i:Nat),Wl Z es c->mO P ok Z N (FR Z) (Instr.findAsking t k es i) (Instr.findAsking t k' c i)
 | [],[],i,_=>by unfold Instr.findAsking;exact aj (.inl ⟨rfl,rfl⟩)
 | [],_::_,i,h=>by have:=h.1;simp at this
 | _::_,[],i,h=>by have:=h.1;simp at this
 | x::es,x'::c,i,h=>by
  have d:=h.2 0 x x' rfl rfl;have m:Wl Z es c:=⟨by simpa using h.1,λj a b g l=>h.2 (j+1) a b (by simpa using g) (by simpa using l)⟩;unfold Instr.findAsking;refine af (vu Op.maxDepth 6 f rk d.1) λa b e=>?_;subst e;split
  .exact aj (.inr ⟨i,_,_,rfl,rfl,d.2.1⟩)
  .exact pY f rk es c (i+1) m
def vw(f:eqType P 6 t=true)(rk:VR Z k k'){es eJ:List MapEntry}(h:Wl Z es eJ):mO P ok Z N (FR Z) (Instr.findKey t k es) (Instr.findKey t k' eJ):=by
 unfold Instr.findKey;refine af (aO t) λa b d=>?_;obtain⟨rfl,_⟩:=d;rcases rY a rk es eJ 0 h with⟨c,h2⟩|⟨x,y,c,h2,e⟩
 .rw[c,h2];exact pY f rk es eJ 0 h
 .rw[c,h2];exact aj e
def NF(P:Ps)(t:Lk):Prop:=∀k e,P.underlying t=Y (.map k e)->eqType P 6 k=true/\pU P e
def FD(s:NF P t)(E:VR Z m m')(rk:VR Z k k')(c:Bool):mO P ok Z N (VR Z) (Instr.lookup t m k c) (Instr.lookup t m' k' c):=by
 unfold Instr.lookup;refine af (aO t) λa b p=>?_;obtain⟨rfl,A⟩:=p
 cases a with
 | map f l=>
  obtain⟨hk,C⟩:=s _ _ A;dsimp only;have n:∀es d:Array MapEntry,CX Z es d->mO P ok Z N (VR Z)
    (do
     Instr.checkKey es.isEmpty 10000 f k
     let r<-Instr.findKey f k es.toList
     match r with
     | some (_,v)=>do
      let x<-pure (v,true)
      match x with
      | (v,ok)=>pure (if c=true then M.tuple #[v,.bool ok]else v)
     | none=>do
      let z<-zeroValue l
      let x<-pure (z,false)
      match x with
      | (v,ok)=>pure (if c=true then M.tuple #[v,.bool ok]else v))
    (do
     Instr.checkKey d.isEmpty 10000 f k'
     let r<-Instr.findKey f k' d.toList
     match r with
     | some (_,v)=>do
      let x<-pure (v,true)
      match x with
      | (v,ok)=>pure (if c=true then M.tuple #[v,.bool ok]else v)
     | none=>do
      let z<-zeroValue l
      let x<-pure (z,false)
      match x with
      | (v,ok)=>pure (if c=true then M.tuple #[v,.bool ok]else v)):=by
   intro es d e;have q:d.isEmpty=es.isEmpty:=by simp only[Array.isEmpty,e.1]
   rw[q];have last:∀(v v':M) (b:Bool),VR Z v v'->mO P ok Z N (VR Z) (pure (if c=true then M.tuple #[v,.bool b]else v)) (pure (if c=true then M.tuple #[v',.bool b]else v')):=by
    intro v v' b r
    cases c with
    | false=>exact aj r
    | true=>exact aj (.Rq ((eH.nil.push r).push (.bool b)))
   refine af (tE _ _ _ rk) λ_ _ _=>?_;refine af (vw hk rk e.Ty) λr L j=>?_;rcases j with⟨rfl,rfl⟩|⟨i,v,v',rfl,rfl,B⟩
   .exact af (fu C) λz O G=>last _ _ _ G
   .exact last _ _ _ B
  cases E with
  | nilMap=>exact n #[] #[] ⟨rfl,λi x y h=>by simp at h⟩
  | map j=>
   refine af (gP j) λo K g=>?_;obtain⟨g,u,J⟩:=g
   cases g with
   | map w e=>exact n _ _ ⟨w,e⟩
   | cells _ _=>exact mi rfl (u _ _ _)
   | _=>exact cm (mD (fZ _))
  | _=>exact cm (mD (fZ _))
 | _=>exact aA
def OR.mapOf{es eJ:Array MapEntry}(h:CX Z es eJ)(k:Nat):OR ok Z 0 (.map es k) (.map eJ k):=.map h.1 h.2
def tF{f:M->M->Bool}(o:∀x x' y y',VR Z x x'->VR Z y y'->f x y=f x' y'):∀(l c r d:List M),l.length=c.length->r.length=d.length->
  (∀(i:Nat) (x y:M),l[i]?=Y x->c[i]?=Y y->VR Z x y)->(∀(i:Nat) (x y:M),r[i]?=Y x->d[i]?=Y y->VR Z x y)->(l.zip r).all (λp=>f p.1 p.2)=(c.zip d).all (λp=>f p.1 p.2)
 | [],[],r,d,_,_,_,_=>by simp
 | a::l,e::c,[],[],_,_,_,_=>by simp
 | a::l,e::c,b::r,k::d,q,h2,m,n=>by
  simp only[List.zip_cons_cons,List.all_cons];rw[o a e b k (m 0 a e rfl rfl) (n 0 b k rfl rfl),tF o l c r d (by simpa using q) (by simpa using h2) (λi x y g j=>m (i+1) x y (by simpa using g) (by simpa using j)) (λi x y g j=>n (i+1) x y (by simpa using g) (by simpa using j))]
 | [],_::_,_,_,h,_,_,_=>by simp at h
 | _::_,[],_,_,h,_,_,_=>by simp at h
 | _::_,_::_,[],_::_,_,h,_,_=>by simp at h
 | _::_,_::_,_::_,[],_,h,_,_=>by simp at h
def xB(n:Nat):∀{x x' y y':M},VR Z x x'->VR Z y y'->Instr.sameBits n x y=Instr.sameBits n x' y':=by
 induction n with
 | zero=>intro x x' y y' f c;cases f<;>cases c<;>simp[Instr.sameBits]
 | succ n g=>
  intro x x' y y' f c
  cases f with
  | iface t h=>cases c with
   | iface u k=>simp only[Instr.sameBits,g h k]
   | _=>simp[Instr.sameBits]
  | @agg _ xs j s h=>cases c with
   | @agg _ l m s' k=>
    simp only[Instr.sameBits,s,s'];rw[tF (λ_ _ _ _ a b=>g a b) xs.toList j.toList l.toList m.toList (by simpa using s) (by simpa using s') (λi x y d e=>h i x y (by simpa using d) (by simpa using e)) (λi x y d e=>k i x y (by simpa using d) (by simpa using e))]
   | _=>simp[Instr.sameBits]
  | _=>cases c<;>simp[Instr.sameBits]
def uE{x x' y y':M}(d:VR Z x x')(c:VR Z y y'):mO P ok Z N (VR Z) (Instr.keyThatStays x y) (Instr.keyThatStays x' y'):=by
 unfold Instr.keyThatStays;rw[xB 10000 d c];split
 .exact aj c
 .refine af (sH _) λa b e=>?_;subst e;split
  .exact aj c
  .exact aj d
def rZ{p q:MapEntry->Bool}(h:∀x y,ER Z x y->p x=q y):∀(l c:List MapEntry),Wl Z l c->l.findIdx? p=c.findIdx? q
 | [],[],_=>rfl
 | [],_::_,h=>by have:=h.1;simp at this
 | _::_,[],h=>by have:=h.1;simp at this
 | x::l,y::c,hl=>by
  rw[List.findIdx?_cons,List.findIdx?_cons,h x y (hl.2 0 x y rfl rfl),rZ h l c ⟨by simpa using hl.1,λj a b d e=>hl.2 (j+1) a b (by simpa using d) (by simpa using e)⟩]
def CY(t:Lk):mO P ok Z N (VR Z) (Instr.makeMap t I) (Instr.makeMap t I):=by
 unfold Instr.makeMap;exact af (wI (OR.mapOf ⟨rfl,λi x y h=>by simp at h⟩ 0)) λn n' a=>aj (.map a.1)
def xC(s:Sep Z N)(u:Z.tab.rdm=false){m m' k k' v v':M}(w:VR Z m m')(rk:VR Z k k')(z:VR Z v v'):mO P ok Z N (λ_ _=>True) (Instr.entryStore t m k v) (Instr.entryStore t m' k' v'):=by
 unfold Instr.entryStore
 cases w with
 | map d=>
  refine af (gP d) λo B a=>?_;obtain⟨a,n,q⟩:=a
  cases a with
  | @map es j c i he=>
   refine af (KA rk) λb A e=>?_;subst e;have l:es.findIdx? (λe=>(e.born:Int)==b)=j.findIdx? (λe=>(e.born:Int)==b):=by
    have:=rZ (p:=λe=>(e.born:Int)==b) (λx y r=>by rw[r.2.2]) _ _ (CX.Ty ⟨i,he⟩);rwa[<- List.findIdx?_toArray,<- List.findIdx?_toArray]at this
   rw[<- l];split
   .exact jG s d (q.resolve_right λh=>by rw[u]at h;cases h.1) (OR.mapOf (CX.modify ⟨i,he⟩ _ (f:=λe=> {e with val:=v}) (g:=λe=> {e with val:=v' }) λx y r=>⟨r.1,z,r.2.2⟩) _) (λ_ _ _ h=>by cases h)
   .exact cF
  | cells _ _=>exact mi rfl (n _ _ _)
  | _=>exact cm (fZ _)
 | _=>exact aA
def Bd(w:Sep Z N)(A:Z.tab.rdm=false)(G:NF P t)(V:VR Z m m')(rk:VR Z k k'):mO P ok Z N (VR Z) (Instr.mapEntry t m k) (Instr.mapEntry t m' k'):=by
 unfold Instr.mapEntry;refine af (aO t) λa b C=>?_;obtain⟨rfl,R⟩:=C
 cases a with
 | map a2 a1=>
  obtain⟨hk,T⟩:=G _ _ R;dsimp only
  cases V with
  | nilMap=>exact cm (ga qYB)
  | map p=>
   refine af (gP p) λo o' n=>?_;obtain⟨n,J,u⟩:=n
   cases n with
   | @map es l c Q he=>
    have d:CX Z es l:=⟨Q,he⟩;refine af (tE _ _ _ rk) λ_ _ _=>?_;refine af (vw hk rk d.Ty) λr r' O=>?_;rcases O with⟨rfl,rfl⟩|⟨i,v,v',rfl,rfl,S⟩
    .refine af (fu T) λz W B=>?_;refine af (jG w p (u.resolve_right λh=>by rw[A]at h;cases h.1) (OR.mapOf (d.push (x:= {key:=k,val:=z,born:=c}) (y:= {key:=k',val:=W,born:=c}) ⟨rk,B,rfl⟩) _) (λ_ _ _ h=>by cases h)) λ_ _ _=>?_;exact aj (.Rq ((eH.nil.push B).push (.int _ _)))
    .have K:VR Z (((es[i]?).map (·.key)).getD k) (((l[i]?).map (·.key)).getD k'):=by
      cases j:es[i]? with
      | none=>rw[d.none j];exact rk
      | some x=>obtain⟨y,s,r⟩:=d.get j;rw[s];exact r.1
     have E:(((es[i]?).map (λx=>(x.born:Int))).getD 0)=(((l[i]?).map (λx=>(x.born:Int))).getD 0):=by
      cases j:es[i]? with
      | none=>rw[d.none j]
      | some x=>obtain⟨y,s,r⟩:=d.get j;rw[s];show(x.born:Int)=y.born;rw[r.2.2]
     dsimp only;refine af (uE K rk) λq U L=>?_;refine af (jG w p (u.resolve_right λh=>by rw[A]at h;cases h.1) (OR.mapOf (d.modify i (f:=λe=> {e with key:=q}) (g:=λe=> {e with key:=U }) λx y r=>⟨L,r.2.1,r.2.2⟩) _) (λ_ _ _ h=>by cases h)) λ_ _ _=>?_;rw[E];exact aj (.Rq ((eH.nil.push S).push (.int _ _)))
   | cells _ _=>exact mi rfl (J _ _ _)
   | _=>exact cm (fZ _)
  | _=>exact aA
 | _=>exact aA
variable{T:P3}{κ k:Nat->Kd}{ops:Array Kp}{o:Kp}{d:Nat}{rest:List Nat}{xs ys:Array M}{p:Kd}{dst:Option Tmp}{e e':ae->M}
def CZ:Nat->M->Bool
 | 0,_=>false
 | n+1,v=>match v with
  | .bool _|.int _ _|.string _|.nilFunc|.nilIface|.slice I _ _|.map I|.chan I=>true
  | .agg xs|.tuple xs=>xs.all (CZ n)
  | _=>false
def tG:∀(n:Nat) (v:M),CZ n v=true->∀Z:Ren,VR Z v v
 | 0,_,h=>by cases h
 | n+1,v,h=>by
  intro Z;unfold CZ at h;split at h
  .exact .bool _
  .exact .int _ _
  .exact .string _
  .exact .nilFunc
  .exact .nilIface
  .exact .nilSlice _ _
  .exact .nilMap
  .exact .nilChan
  .rw[kj]at h;exact .agg rfl λi x y a b=>by rw[a]at b;cases b;exact tG n x (h _ (kq a)) Z
  .rw[kj]at h;exact .tuple rfl λi x y a b=>by rw[a]at b;cases b;exact tG n x (h _ (kq a)) Z
  .cases h
def JH(P:Ps)(t:Lk):Bool:=match P.info? t with
 | some i=>match i.zero with|some v=>CZ 5 v|none=>true
 | none=>true
def nu(h:JH P t=true):pU P t:=λi v a h2 Z=>by
 unfold JH at h;rw[a]at h;dsimp only at h;rw[h2]at h;exact tG _ _ h Z
def FE(P:Ps)(s:Lk)(n:Nat):Bool:=match P.underlying s with
 | some (.struct a)=>match a[n]? with|some f=>(match P.info? f.type with|some i=>i.size != 0|none=>true)|none=>true
 | _=>true
def KJ{s:Lk}{n:Nat}(h:FE P s n=true):IK P s n:=λc f i a h2 b=>by
 unfold FE at h;rw[a]at h;dsimp only at h;rw[h2]at h;dsimp only at h;rw[b]at h;simpa using h
def R2(P:Ps)(t:Lk):Bool:=match P.underlying t with
 | some (.map k e)=>eqType P 6 k&&JH P e
 | _=>true
def IL(h:R2 P t=true):NF P t:=λk e a=>by
 unfold R2 at h;rw[a]at h;simp only[du]at h;exact⟨h.1,nu h.2⟩
def UT(P:Ps)(t:Lk):Bool:=match P.underlying t with
 | some (.slice e)=>JH P e
 | _=>true
def sliceB(P:Ps)(t:Lk):Bool:=match P.underlying t with
 | some (.array ..)|some (.pointer _)=>false
 | _=>true
def IM(P:Ps)(a:Array Lk):Bool:=match a[0]?,a[1]? with
 | some t,Y u=>(match P.underlying t with|some (.slice e)=>JH P e|_=>false)&&(match P.underlying u with|some (.int _)=>false|_=>true)
 | _,_=>false
def xD(P:Ps)(t:Lk):Bool:=(match P.underlying t with
 | some (.func ..)=>true
 | _=>false)&&match P.info? t with
 | some i=>i.size==1&&(match i.zero with|some .nilFunc=>true|_=>false)
 | none=>false
def Nj(T:P3)(κ:Nat->Kd)(p:Kd):ae->Bool
 | .tmp t=>κ t==.val||κ t==p
 | .const v=>CZ 5 v
 | .global g=>T.glob g&&p==.addr
 | .func f=>T.has f&&T.ret f==.val
def Be(κ:Nat->Kd)(p:Kd):Option Tmp->Bool
 | none=>true
 | some d=>p==.val||κ d==p
def C0(T:P3)(κ:Nat->Kd)(k:Nat->Kd)(xs:Array ae):Bool:=(List.range xs.size).all λi=>match xs[i]? with|some x=>Nj T κ (k i) x|none=>true
def moveB(T:P3)(κ:Nat->Kd)(dst:Option Tmp)(x:ae):Bool:=match dst with
 | none=>Nj T κ .val x
 | some d=>Nj T κ (κ d) x
def pZ(T:P3)(P:Ps)(κ:Nat->Kd)(dst:Option Tmp)(c:Call):Bool:=
 match c.callee with
 | .builtin .len|.builtin .min|.builtin .max=>c.args.all (Nj T κ .val)
 | .builtin .append=>IM P c.argTypes&&c.args.all (Nj T κ .val)
 | .builtin .clear=> !T.rdm&&(match c.argTypes[0]? with|some t=>(match P.underlying t with|some (.slice e)=>JH P e|_=>false)|none=>false)&&c.args.all (Nj T κ .val)
 | .builtin _=>false
 | .value (.func g)=>T.has g&&C0 T κ (T.kind g) c.args&&Be κ (T.ret g) dst
 | .value (.tmp t)=>c.args.all (Nj T κ .val)&&(κ t==.val||κ t==.clo c.args.size)
 | _=>false
def eX(T:P3)(P:Ps)(κ:Nat->Kd)(o:Kp):Bool:=
 match o.op with
 | .move x|.assign x=>moveB T κ o.dst x
 | .pick c a b=>Nj T κ .val c&&Nj T κ .val a&&Nj T κ .val b
 | .alloc e=>JH P e&&(match o.dst with|some d=>κ d==.addr||(κ d==.addrM&&xD P e)|none=>false)
 | .box _ x=>Nj T κ .val x&&Be κ .addr o.dst
 | .build t parts=>JH P t&&parts.all λp=>Nj T κ .val p.2
 | .buildSlice t _ parts=>UT P t&&parts.all λp=>Nj T κ .val p.2
 | .load _ (.global g)=>T.glob g
 | .load t (.tmp a)=>κ a==.val||(κ a==.addr)||(κ a==.addrM&&xD P t&&Be κ (.clo T.mar) o.dst)
 | .store t (.tmp a) x=>(κ a==.addr&&Nj T κ .val x)||(κ a==.addrM&&xD P t&&Nj T κ (.clo T.mar) x)
 | .binOp op t x y _=>CO P op t&&Nj T κ .val x&&Nj T κ .val y
 | .unOp _ _ x=>Nj T κ .val x
 | .convert s d x=>xx P s d&&Nj T κ .val x
 | .nilCheck x=>Nj T κ .addr x&&Be κ .addr o.dst
 | .makeFunc (.func g) first captured=>T.has g&&T.ret g==.val&&((first.isEmpty&&C0 T κ (λi=>T.kind g (T.ar g+i)) captured&&Be κ (.clo (T.ar g)) o.dst)||(captured.isEmpty&&first.all (Nj T κ .val)))
 | .makeMap _ I=>true
 | .slice t x lo hi I=>sliceB P t&&Nj T κ .addr x&&(lo.all (Nj T κ .val))&&(hi.all (Nj T κ .val))
 | .fieldAddr s x f=>FE P s f&&Nj T κ .addr x&&Be κ .addr o.dst
 | .indexAddr _ x h=>Nj T κ .addr x&&Nj T κ .val h&&Be κ .addr o.dst
 | .index _ x h=>Nj T κ .val x&&Nj T κ .val h
 | .lookup t x h _=>R2 P t&&Nj T κ .val x&&Nj T κ .val h
 | .mapEntry t m k=> !T.rdm&&R2 P t&&Nj T κ .val m&&Nj T κ .val k
 | .entryStore _ m s x=> !T.rdm&&Nj T κ .val m&&Nj T κ .val s&&Nj T κ .val x
 | .extract x _=>Nj T κ .val x
 | .call c=>pZ T P κ o.dst c
 | _=>false
def Wp(κ:Nat->Kd)(o:Kp):Bool:=match o.dst with|some d=>κ d != .junk|none=>true
def FF(T:P3)(P:Ps)(κ:Nat->Kd)(ops:Array Kp):Bool:=ops.all λo=>eX T P κ o&&Wp κ o
def si(T:P3)(P:Ps)(κ:Nat->Kd)(ops:Array Kp)(todo:List Nat):Bool:=(ops.all λo=>Wp κ o)&&todo.all λi=>match ops[i]? with|some o=>eX T P κ o|none=>true
def KL{todo:List Nat}(h:si T P κ ops todo=true)(b:o∈ops)(a:o.dst=Y d):κ d≠.junk:=by
 unfold si at h;rw[du,kj]at h;have h2:=h.1 o b;unfold Wp at h2;rw[a]at h2;simpa using h2
def xE(h:si T P κ ops (i::rest)=true)(a:ops[i]?=Y o):eX T P κ o=true:=by
 unfold si at h;rw[du,List.all_cons,du]at h;have h2:=h.2.1;rw[a]at h2;exact h2
def FG(h:si T P κ ops (i::rest)=true):si T P κ ops rest=true:=by
 unfold si at h|-;rw[du,List.all_cons,du]at h;rw[du];exact⟨h.1,h.2.2⟩
def XN(h:FF T P κ ops=true)(todo:List Nat):si T P κ ops todo=true:=by
 unfold si;rw[du,kj,List.all_eq_true];unfold FF at h;rw[kj]at h;refine⟨λo a=>?_,λi _=>?_⟩
 .have:=h o a;rw[du]at this;exact this.2
 .cases a:ops[i]? with
  | none=>rfl
  | some o=>
   have:=h o (kq a);rw[du]at this;exact this.1
def ez(T:P3)(P:Ps)(κ:Nat->Kd):Ly->Bool
 | .skip|.ret|.exit _|.label _=>true
 | .refuse s=>s != "cut"
 | .region _ ops _=>FF T P κ ops
 | .seq a b=>ez T P κ a&&ez T P κ b
 | .cond c a b=>Nj T κ .val c&&ez T P κ a&&ez T P κ b
 | .block _ c|.loop c|.scope c=>ez T P κ c
 | .rangeFunc f _ a b=>Nj T κ (.clo 1) f&&ez T P κ a&&ez T P κ b
 | .goto _=>false
def dX(T:P3)(P:Ps)(f:ba):Bool:=
 match P.funcs[f]? with
 | some fn=>fn.name != "runtime.NumGoroutine" && (match fn.body with|some c=>ez T P (T.kind f) c|none=>false) &&
   fn.results.all λr=>match r with
    | .tmp t=>if fn.results.size=1 then T.kind f t==.val||T.kind f t==T.ret f else T.kind f t==.val
    | .cell a _=>T.kind f a==.val||T.kind f a==.addr
 | none=>false
def C3(T:P3)(P:Ps):Ok:=⟨λf c=>ez T P (T.kind f) c=true⟩
def KR.getD(h:KR κ Z xs ys)(i:Nat):dM Z (κ i) (xs.getD i D) (ys.getD i D):=by
 rw[Array.getD_eq_getD_getElem?,Array.getD_eq_getD_getElem?]
 cases a:xs[i]? with
 | none=>
  have:ys[i]?=I:=by rw[Array.getElem?_eq_none_iff]at a |-; rw[<- h.1];exact a
  rw[this];exact dM.up (.tuple rfl λi x y h=>by simp at h)
 | some x=>
  have hi:i<ys.size:=by rw[<- h.1];exact(ec.1 a).1
  have b:=fi hi;rw[b];exact h.2 i x _ a b
def KR.put(h:KR κ Z xs ys){v v':M}(c:dM Z (κ d) v v'):KR κ Z (xs.setIfInBounds d v) (ys.setIfInBounds d v'):=by
 refine⟨by simp[h.1],λi x y a b=>?_⟩;rw[fc]at a b;by_cases hi:d=i
 .rw[qWB hi]at a b;subst hi;split at a
  .split at b
   .cases a;cases b;exact c
   .cases b
  .cases a
 .rw[qVB hi]at a b;exact h.2 i x y a b
def zL(κ:Nat->Kd)(Z:Ren)(e e':ae->M):Prop:=
 (∀t,dM Z (κ t) (e (.tmp t)) (e' (.tmp t)))/\(∀v,e (.const v)=v/\e' (.const v)=v)/\(∀f,e (.func f)=.func (.func f) #[] #[]/\e' (.func f)=.func (.func f) #[] #[])/\
 (∀g,Z.tab.glob g=true->dM Z .addr (e (.global g)) (e' (.global g)))
def bQ(b:Z.tab=T)(h:zL κ Z e e'){x:ae}(a:Nj T κ p x=true):dM Z p (e x) (e' x):=by
 cases x with
 | tmp t=>
  simp only[Nj,ib,nd]at a;have:=h.1 t;rcases a with a|a
  .rw[a]at this;exact this.up
  .rw[a]at this;exact this
 | const v=>
  rw[(h.2.1 v).1,(h.2.1 v).2];exact(tG 5 v a Z).up
 | global g=>
  simp only[Nj,du,nd]at a;rw[a.2];exact h.2.2.2 g (by rw[b];exact a.1)
 | func f=>
  simp only[Nj,du,nd]at a;rw[(h.2.2.1 f).1,(h.2.2.1 f).2];exact .funcOf (.func f (by rw[b];exact a.1) (by rw[b];exact a.2)) .nil .nil
def NG(b:Z.tab=T)(h:zL κ Z e e'){xs:Array ae}(a:C0 T κ k xs=true)(i:Nat)(x:ae)(hi:xs[i]?=Y x):dM Z (k i) (e x) (e' x):=by
 unfold C0 at a;rw[List.all_eq_true]at a;have:=a i (List.mem_range.2 (ec.1 hi).1);rw[hi]at this;exact bQ b h this
def oq(c:Z.tab=T)(h:zL κ Z e e'){xs:Array ae}(b:xs.all (Nj T κ .val)=true):pM Z (xs.map e) (xs.map e'):=by
 rw[kj]at b;exact eH.mapOf λa d=>bQ c h (b a d)
def Ah(c:Z.tab=T)(h:zL κ Z e e'){ps:Array (Nat×ae)}(b:(ps.all λp=>Nj T κ .val p.2)=true):
  PR Z (ps.map λ(i,x)=>(i,e x)).toList (ps.map λ(i,x)=>(i,e' x)).toList:=by
 rw[kj]at b;refine⟨by simp,?_⟩;have:=eH.mapOf (Z:=Z) (p:=.val) (l:=ps) (f:=λp=>e p.2) (g:=λp=>e' p.2) λa d=>bQ c h (b a d);have e1:∀g:ae->M,((ps.map λ(i,x)=>(i,g x)).toList.map (·.2)).toArray=ps.map λp=>g p.2:=λg=>by
  apply Array.toList_inj.1;simp
 rw[e1,e1];exact this
def Fits(κ:Nat->Kd)(dst:Option Tmp)(p:Kd):Prop:=∀d,dst=Y d->p=.val\/κ d=p
def ot(h:Be κ p dst=true):Fits κ dst p:=λd a=>by
 subst a;simpa[Be]using h
def cn:Fits κ dst .val:=λ_ _=>.inl rfl
inductive xF(ok:Ok)(κ:Nat->Kd)(dst:Option Tmp)(Z:Ren):Next->Next->Prop
 | value {p:Kd} {v v':M} (h:dM Z p v v') (hf:Fits κ dst p):xF ok κ dst Z (.value v) (.value v')
 | skip:xF ok κ dst Z .skip .skip
 | enter {f:ba} {xs ys:Array M} (hh:Z.tab.has f=true) (h:KR (Z.tab.kind f) Z xs ys) (hf:Fits κ dst (Z.tab.ret f)):xF ok κ dst Z (.enter f xs) (.enter f ys)
 | round {l l':Nat} (hl:Z l=Y (l',0)) {f:ba} {xs ys:Array M} (h:KR (Z.tab.kind f) Z xs ys) {a b:Ly} (ha:ok.code f a) (hb:ok.code f b):xF ok κ dst Z (.round l f xs a b) (.round l' f ys a b)
def ou(hF:∀f,Z.tab.has f=true->dX T P f=true){f:ba}(b:Z.tab.has f=true)(h:KR (Z.tab.kind f) Z xs ys)(k:Fits κ dst (Z.tab.ret f)):
  mO P ok Z N (xF ok κ dst Z) (callFunc f xs) (callFunc f ys):=by
 have a:=hF f b;unfold dX at a;unfold callFunc;refine af jS λp q j=>?_;obtain⟨rfl,rfl⟩:=j;split at a
 .rename_i fn e;simp only[du,bne_iff_ne,ne_eq]at a;have i:fn.body.isNone=false:=by
   cases d:fn.body with
   | none=>rw[d]at a;exact mi a.1.2 ss
   | some c=>rfl
  have g:(fn.name == "runtime.NumGoroutine")=false:=by simpa using a.1.1
  rw[e];dsimp only;simp only[g,i,lO,if_false];exact aj (.enter b h k)
 .cases a
def R3(h:pM Z xs ys):KR k Z xs ys:=⟨h.1,λi x y a b=>(h.2 i x y a b).up⟩
def KM{l l':Nat}(hl:Z l=Y (l',0))(h:pM Z xs ys):mO P ok Z N (xF ok κ dst Z) (Instr.yield l xs) (Instr.yield l' ys):=by
 unfold Instr.yield Instr.getLoop;refine af (R:=λa b=>LR ok Z a b) (af (gP hl) λo v g=>?_) λa b c=>?_
 .obtain⟨g,s,u⟩:=g
  cases g with
  | loop hl=>exact aj hl
  | cells _ _=>exact mi rfl (s _ _ _)
  | _=>exact aA
 .have m:=c.params;have n:=h.1;by_cases j:xs.size≠a.params.size
  .rw[qWB j];exact cQ (bO (Q:=λ_=>False) qYB λ_ h=>h.elim)
  .rw[qVB j,qVB (by rw[m,<- n];exact j)];rw[c.fn,c.assign,c.body];refine aj (.round hl ?_ c.assignOk c.bodyOk);rw[m];have key:∀(l:List (Tmp×M)) (l':List (Tmp×M)) (e vs:Array M),l.length=l'.length->(∀(i:Nat) x y,l[i]?=Y x->l'[i]?=Y y->x.1=y.1/\VR Z x.2 y.2)->KR (Z.tab.kind a.fn) Z e vs->
     KR (Z.tab.kind a.fn) Z (l.foldl (λtmps x=>tmps.setIfInBounds x.1 x.2) e) (l'.foldl (λtmps x=>tmps.setIfInBounds x.1 x.2) vs):=by
    intro l
    induction l with
    | nil=>intro l' e vs hl _ hk;cases l' with|nil=>exact hk|cons _ _=>cases hl
    | cons x l t=>
     intro l' e vs hl d hk
     cases l' with
     | nil=>cases hl
     | cons y l'=>
      obtain⟨e1,q⟩:=d 0 x y rfl rfl;refine t l' _ _ (by simpa using hl) (λi x y f h2=>d (i+1) x y (by simpa using f) (by simpa using h2)) ?_;show KR _ Z (e.setIfInBounds x.1 x.2) (vs.setIfInBounds y.1 y.2);rw[<- e1];exact hk.put q.up
   have:=key (a.params.zip xs).toList (a.params.zip ys).toList a.tmps b.tmps (by simp[n]) (λi x y d p=>by
    simp only[Array.getElem?_toList,Array.getElem?_zip_eq_some]at d p;obtain⟨f,h2⟩:=d;obtain⟨k,r⟩:=p;rw[f]at k;exact⟨by simpa using k,h.2 i _ _ h2 r⟩) c.tmps
   rw[<- Array.foldl_toList,<- Array.foldl_toList];exact this
variable{b b':Nat}{v v':M}{ts:Array Lk}
def NH(h:xD P t=true):Calm P (λb=>b=false) (isAgg t):=by
 unfold isAgg;refine bO (gv t) λd a=>?_;simp only[xD,a,du]at h;cases d<;>first|exact rfl|(simp at h)
def HR.xG{W w:H}(h:HR ok Z N W w)(j:Z b=Y (b',0))(l:Z.cls b=true){o:Obj}(n:W.heap[b]?=Y o):
  N<=b/\∃t v v',o=.cells #[v] t (0,0)/\w.heap[b']?=Y (.cells #[v'] t (0,0))/\dM Z (.clo Z.tab.mar) v v':=by
 obtain⟨r,s,u,d,g,f,i⟩:=h _ _ n;rw[j]at d;cases d;rw[l]at f
 cases f with
 | @clo t v v' q=>
  refine⟨q6A λm=>?_,t,v,v',rfl,g,q⟩;rcases i m with⟨c,e,hi,a,p⟩|⟨-, es,k,a⟩
  .cases a;simp at p
  .cases a
def FH(h:Z b=Y (b',0))(j:Z.cls b=true):mO P ok Z N (dM Z (.clo Z.tab.mar)) (load (b,0)) (load (b',0)):=by
 intro W w es q v p r s g a u;simp only[load,Sem.runT]at a;have i:W (b,0)=I\/∃t v v',W.heap[b]?=Y (.cells #[v] t (0,0))/\w.heap[b']?=Y (.cells #[v'] t (0,0))/\dM Z (.clo Z.tab.mar) v v':=by
  cases f:W.heap[b]? with
  | none=>left;simp[H.cell?,f]
  | some o=>
   obtain⟨-, t,v,v',rfl,h2,c⟩:=g.xG h j f;exact .inr ⟨t,v,v',rfl,h2,c⟩
 rcases i with i|⟨t,x,k,n,h2,c⟩
 .rw[i]at a;dsimp only at a;have:∃e,W.farLoad P ⟨b,0,I⟩ (Mode.plain==.atomic)=.error e:=by
   unfold H.farLoad
   cases f:W.heap[b]? with
   | none=>exact⟨_,rfl⟩
   | some o=>
    obtain⟨-, t,v,v',rfl,h2,c⟩:=g.xG h j f;exact⟨_,rfl⟩
  obtain⟨e,d⟩:=this;rw[d]at a;cases a
 .have l:W (b,0)=Y x:=by simp[H.cell?,n]
  have m:w (b',0)=Y k:=by simp[H.cell?,h2]
  rw[l]at a;cases a;refine⟨k,w, #[⟨.cell ⟨b',0,I⟩,false,false⟩],?_,c,g,.refl _ _,λe d=>?_⟩
  .simp only[load,Sem.runT,m];rfl
  .simp only[hZ,q8A]at d;subst d;exact⟨rfl,rfl,_,0,h,λx=>by cases x⟩
def KN(e:xD P t=true)(r:dM Z .addrM v v'):mO P ok Z N (dM Z (.clo Z.tab.mar)) (Instr.loadAt t v) (Instr.loadAt t v'):=by
 cases r with
 | @ptrM b b' hb d=>
  refine af (R:=λa c=>a=⟨b,0,I⟩/\c=⟨b',0,I⟩) (bM ⟨rfl,rfl⟩) λa c h=>?_;obtain⟨rfl,rfl⟩:=h;unfold loadVar;refine af (cJ (NH e)) λx y h=>?_;obtain⟨rfl,rfl⟩:=h;exact FH hb d
 | _=>exact aA
def C4(K:Sep Z N)(i:Z b=Y (b',0))(y:Z.cls b=true)(k:∀cs,v≠.agg cs)(l:∀cs,v≠.tuple cs)(q:dM Z (.clo Z.tab.mar) v v'):
  mO P ok Z N (λ_ _=>True) (store (b,0) v) (store (b',0) v'):=by
 intro W w es V u U a1 a2 s d a3
 have main:∀(v:M) (k:∀cs,v≠.agg cs) (l:∀cs,v≠.tuple cs) (a:Addr) (W:H) (es:Array Event),(store a v).runT P W es=match W.cell? a with
   | some _=>if W.frozen? a then(.halt (.unsupported (.unsafePointer "a write to bytes that a string shares")) W,es)else(.ok () (W.setCell a v),es.push ⟨.cell a,true,false⟩)
   | none=>match W.farStore P a v false with
    | .ok (W,S)=>(.ok () W,es++S.toArray.map (⟨.cell ·, true,false⟩))
    | .error h=>(.halt h W,es):=by
  intro v k l a W es;cases v<;>first|rfl|exact mi rfl (k _)|exact mi rfl (l _)
 have O:∀cs,v'≠.agg cs:=λcs e=>by subst e;cases q;exact k _ rfl
 have Q:∀cs,v'≠.tuple cs:=λcs e=>by subst e;cases q;exact l _ rfl
 rw[main v k l]at d
 cases g:W.heap[b]? with
 | none=>
  have m:W.cell? ⟨b,0,I⟩=I:=by simp[H.cell?,g]
  rw[m]at d;have:W.farStore P ⟨b,0,I⟩ v false=.error (.stuck "memory: no such cell")\/∃h,W.farStore P ⟨b,0,I⟩ v false=.error h:=.inr (by unfold H.farStore;simp only[g];exact⟨_,rfl⟩);rcases this with j|⟨h,j⟩<;>(rw[j]at d;cases d)
 | some o=>
  obtain⟨p,t,x,T,rfl,h2,h3⟩:=s.xG i y g;have m:W.cell? ⟨b,0,I⟩=Y x:=by simp[H.cell?,g]
  have z:w.cell? ⟨b',0,I⟩=Y T:=by simp[H.cell?,h2]
  have A:W.frozen? ⟨b,0,I⟩=false:=by simp[H.frozen?,g]
  have f2:w.frozen? ⟨b',0,I⟩=false:=by simp[H.frozen?,h2]
  rw[m]at d;simp only[A,lO,if_false]at d;cases d;obtain⟨-, L⟩:=K _ _ _ p i;refine⟨(),w.setCell ⟨b',0,I⟩ v', #[⟨.cell ⟨b',0,I⟩,true,false⟩],?_,qYB,?_,⟨?_,?_,qN _,rfl,rfl,rfl,rfl,rfl,?_⟩,λe j=>?_⟩
  .rw[main v' O Q,z];simp only[f2];rfl
  .intro c o f;rw[heap_setCell]at f;by_cases n:b=c
   .subst n;rw[qWB rfl,g]at f;simp only[ky,fg]at f;subst f;refine⟨b',0,.cells #[v'] t (0,0),i,by rw[heap_setCell,qWB rfl,h2];rfl,?_,λG=>zz⟩;rw[y];exact .clo q
   .rw[qVB n]at f;obtain⟨c',s',R,r,B,C,E⟩:=s c o f;refine⟨c',s',R,r,?_,C,E⟩;rw[heap_setCell,qVB]
    .exact B
    .intro e;have e':=e;subst e';exact n (L _ _ r).symm
  .simp[H.setCell]
  .simp[H.setCell];try omega
  .intro c' G J;rw[heap_setCell,qVB];intro e;have e':=e;subst e';exact J _ _ p i
  .simp only[hZ,q8A]at j;subst j;exact⟨rfl,rfl,_,_,i,λ_=>p⟩
def FJ(T:Sep Z N)(w:xD P t=true)(r:dM Z .addrM v v'){x x':M}(U:dM Z (.clo Z.tab.mar) x x'):mO P ok Z N (λ_ _=>True) (Instr.storeAt t v x) (Instr.storeAt t v' x'):=by
 cases r with
 | @ptrM b b' hb K=>
  refine af (R:=λa p=>a=⟨b,0,I⟩/\p=⟨b',0,I⟩) (bM ⟨rfl,rfl⟩) λa p h=>?_;obtain⟨rfl,rfl⟩:=h;unfold storeVar;refine af (cY t) λn m h=>?_;obtain⟨rfl,i,hi,rfl⟩:=h;have f:i.size=1:=by
   simp only[xD,hi,du,nd]at w;exact w.2.1
  rw[f];have key:(x.cells.size=1/\∃y y',x.cells= #[y]/\x'.cells= #[y']/\dM Z (.clo Z.tab.mar) y y')\/x.cells.size≠1:=by
   by_cases d:x.cells.size=1
   .left;refine⟨d,?_⟩
    cases U with
    | @agg _ xs ys s h=>
     have u:xs.size=1:=d;have E:xs[0]?=Y xs[0]:=fi zz;have G:ys[0]?=Y ys[0]:=fi zz;refine⟨xs[0],ys[0],?_,?_,(h 0 _ _ E G).up⟩
     .show xs=_;apply Array.ext<;>simp[u];intro j S;obtain rfl:j=0:=zz;rfl
     .show ys=_;apply Array.ext<;>simp[<- s,u];intro j S;obtain rfl:j=0:=zz;rfl
    | bool b=>exact⟨_,_,rfl,rfl,.bool b⟩
    | int k n=>exact⟨_,_,rfl,rfl,.int k n⟩
    | string s=>exact⟨_,_,rfl,rfl,.string s⟩
    | nilSlice l c=>exact⟨_,_,rfl,rfl,.nilSlice l c⟩
    | slice l c J=>exact⟨_,_,rfl,rfl,.slice l c J⟩
    | nilMap=>exact⟨_,_,rfl,rfl,.nilMap⟩
    | map o=>exact⟨_,_,rfl,rfl,.map o⟩
    | nilChan=>exact⟨_,_,rfl,rfl,.nilChan⟩
    | func L s1 f s2 h2=>exact⟨_,_,rfl,rfl,.func L s1 f s2 h2⟩
    | clo O o hk s2 h2=>exact⟨_,_,rfl,rfl,.clo O o hk s2 h2⟩
    | nilFunc=>exact⟨_,_,rfl,rfl,.nilFunc⟩
    | iface t h=>exact⟨_,_,rfl,rfl,.iface t h⟩
    | nilIface=>exact⟨_,_,rfl,rfl,.nilIface⟩
    | tuple s h=>exact⟨_,_,rfl,rfl,.tuple s h⟩
   .exact .inr d
  rcases key with⟨d,y,y',e1,q,V⟩|d
  .rw[qVB (by rw[d];simp),qVB (by rw[q];simp),e1,q];show mO P ok Z N (λ_ _=>True) (storeCells _ [y] 0) (storeCells _ [y'] 0);refine af (R:=λ_ _=>True) ?_ λ_ _ _=>bM qYB;show mO P ok Z N _ (store ⟨b,0,I⟩ y) (store ⟨b',0,I⟩ y');by_cases z:∃cs,y=.agg cs
   .obtain⟨cs,rfl⟩:=z;exact cm λW es a B C g=>by cases g
   by_cases A:∃cs,y=.tuple cs
   .obtain⟨cs,rfl⟩:=A;exact cm λW es a B C g=>by cases g
   exact C4 T hb K (λcs e=>z ⟨cs,e⟩) (λcs e=>A ⟨cs,e⟩) V
  .rw[qWB d];exact cQ (bO (Q:=λ_=>False) qYB λ_ h=>h.elim)
 | _=>exact aA
def Ai{s:Sem M}{s':Sem M}(h:mO P ok Z N (dM Z p) s s')(a:Fits κ dst p):
  mO P ok Z N (xF ok κ dst Z) (do pure (.value (<- s))) (do pure (.value (<- s'))):=af h λ_ _ r=>aj (.value r a)
def YX{s s':Sem Unit}(h:mO P ok Z N (λ_ _=>True) s s'):mO P ok Z N (xF ok κ dst Z) (do s;pure .skip) (do s';pure .skip):=af h λ_ _ _=>aj .skip
def Wq{f:ba}{k:Nat}{xs xs' ys ys':Array M}(a:pM Z xs xs')(hk:xs.size=k)(s2:ys.size=ys'.size)
  (h2:∀(i:Nat) (x y:M),ys[i]?=Y x->ys'[i]?=Y y->dM Z (Z.tab.kind f (k+i)) x y):KR (Z.tab.kind f) Z (xs++ys) (xs'++ys'):=by
 refine⟨by simp[a.1,s2],λi x y b c=>?_⟩;rw[Array.getElem?_append]at b c;by_cases hi:i<xs.size
 .rw[qWB hi]at b;rw[qWB (by rw[<- a.1];exact hi)]at c;exact(a.2 i x y b c).up
 .rw[qVB hi]at b;rw[qVB (by rw[<- a.1];exact hi),<- a.1]at c;have:=h2 _ x y b c;rwa[hk,show k+(i-k)=i by omega]at this
def mS(hF:∀f,Z.tab.has f=true->dX T P f=true)(r:dM Z p v v')(h:pM Z xs ys)(a:p=.val\/p=.clo xs.size):
  mO P ok Z N (xF ok κ dst Z) (do let d<-Deferred.ofValue v xs;invoke d.target d.args) (do let d<-Deferred.ofValue v' ys;invoke d.target d.args):=by
 cases r with
 | @func _ fn m us l vs g o s1 n s2 h2=>
  refine af (R:=λd d'=>d= {target:=.fn fn vs,args:=us++xs}/\d'= {target:=.fn m g,args:=l++ys}) (aj ⟨rfl,rfl⟩) λd d' b=>?_;obtain⟨rfl,rfl⟩:=b;have j:pM Z (us++xs) (l++ys):=eH.append ⟨s1,n⟩ h
  cases o with
  | func f c e=>exact ou hF c (R3 (j.append ⟨s2,h2⟩)) (by rw[e];exact cn)
  | yield hl=>exact KM hl j
 | @clo k f vs g c e hk s2 h2=>
  refine af (R:=λd d'=>d= {target:=.fn (.func f) vs,args:= #[]++xs}/\d'= {target:=.fn (.func f) g,args:= #[]++ys}) (aj ⟨rfl,rfl⟩) λd d' b=>?_;obtain⟨rfl,rfl⟩:=b;have q:xs.size=k:=by
   rcases a with a|a
   .cases a
   .cases a;rfl
  have e1:∀i:Array M, #[]++i=i:=λi=>by simp
  simp only[e1];exact ou hF c (Wq h q s2 h2) (by rw[e];exact cn)
 | nilFunc=>
  refine af (R:=λd d'=>d= {target:=.nil,args:=xs}/\d'= {target:=.nil,args:=ys}) (aj ⟨rfl,rfl⟩) λd d' b=>?_;obtain⟨rfl,rfl⟩:=b;exact cQ iF
 | junk=>rcases a with a|a<;>cases a
 | _=>exact cQ (bO (Q:=λ_=>False) qYB λ_ h=>h.elim)
def Aj{xs:Array ae}{k:Nat->Kd}(j:Z.tab=T)(l:zL κ Z e e')(h:C0 T κ k xs=true):KR k Z (xs.map e) (xs.map e'):=by
 refine⟨by simp,λi x y f g=>?_⟩;simp only[mf,Option.map_eq_some_iff]at f g;obtain⟨a,c,rfl⟩:=f;obtain⟨b,d,rfl⟩:=g;rw[c]at d;cases d;exact NG j l h i a c
def KO(j:Sep Z N)(q:Z.tab.rdm=false){t el:Lk}(p:ts[0]?=Y t)(m:P.underlying t=Y (.slice el))(u:pU P el){ty:Lk}(h:pM Z xs ys):
  mO P ok Z N (VR Z) (Builtin.clear_ ts ty xs) (Builtin.clear_ ts ty ys):=by
 have last:mO P ok Z N (VR Z) (pure (.tuple #[]):Sem M) (pure (.tuple #[])):=aj (.tuple rfl λi x y b=>by simp at b);unfold Builtin.clear_;rw[p]
 cases b:xs[0]? with
 | none=>exact aA
 | some x=>
  obtain⟨y,s,r⟩:=h.get b;rw[s];dsimp only;refine af (aO t) λd d' e=>?_;obtain⟨rfl,e⟩:=e;rw[m]at e;cases e
  cases r with
  | nilMap=>exact last
  | nilSlice l c=>exact last
  | @slice _ a w l c k=>
   cases l with
   | zero=>exact last
   | succ l=>exact af (fu u) λz C v=>af (j7 j k (Up (eH.cellsOf v) _)) λ_ _ _=>last
  | map g=>
   refine af (gP g) λo B f=>?_;obtain⟨f, -, n⟩:=f
   cases f with
   | map A h2=>exact af (jG j g (n.resolve_right λh=>by rw[q]at h;cases h.1) (.map rfl λi x y b=>by simp at b) (λ_ _ _ h=>by cases h)) λ_ _ _=>last
   | _=>exact aA
  | _=>exact aA
def C5(j:Sep Z N)(c:Z.tab=T)(d:zL κ Z e e'){b:Builtin}{xs:Array ae}(h:pZ T P κ dst {callee:=.builtin b,args:=xs,argTypes:=ts}=true)(cs:Array Bool):
  mO P ok Z N (xF ok κ dst Z) (builtin b ts t cs (xs.map e)) (builtin b ts t cs (xs.map e')):=by
 cases b with
 | len=>exact Ai (RY (oq c d h)) cn
 | min=>exact Ai (RZ (oq c d h)) cn
 | max=>exact Ai (R1 (oq c d h)) cn
 | append=>
  simp only[pZ,du]at h;obtain⟨a,h2⟩:=h;unfold IM at a;split at a
  .rename_i o p e1 l;simp only[du]at a;obtain⟨f,i⟩:=a;split at f
   .rename_i m g;refine Ai (FC j e1 l g (λk hk=>?_) (nu f) (oq c d h2)) cn;rw[hk]at i;cases i
   .cases f
  .cases a
 | clear=>
  simp only[pZ,du]at h;obtain⟨⟨n,a⟩,h2⟩:=h;split at a
  .rename_i o e1;split at a
   .rename_i m g;exact Ai (KO j (by rw[c];simpa using n) e1 g (nu a) (oq c d h2)) cn
   .cases a
  .cases a
 | _=>cases h
def R5(p:Sep Z N)(a:Z.tab=T)(hF:∀f,T.has f=true->dX T P f=true)(i:zL κ Z e e'){c:Call}(h:pZ T P κ dst c=true):
  mO P ok Z N (xF ok κ dst Z) (do let d<-ab e c t;invoke d.target d.args) (do let d<-ab e' c t;invoke d.target d.args):=by
 have m:∀f,Z.tab.has f=true->dX T P f=true:=by rw[a];exact hF
 obtain⟨callee,xs,ts⟩:=c
 cases callee with
 | invoke r n=>cases h
 | builtin b=>
  unfold ab;refine af (R:=λd d'=>d= {target:=.builtin b ts t (xs.map λ|.const _=>true|_=>false),args:=xs.map e}/\d'= {target:=.builtin b ts t (xs.map λ|.const _=>true|_=>false),args:=xs.map e' }) (aj ⟨rfl,rfl⟩) λd d' k=>?_;obtain⟨rfl,rfl⟩:=k;exact C5 p a i h _
 | value f=>
  unfold ab;dsimp only
  cases f with
  | const v=>cases h
  | global g=>cases h
  | func g=>
   simp only[pZ,du]at h;obtain⟨⟨j,h2⟩,o⟩:=h;rw[(i.2.2.1 g).1,(i.2.2.1 g).2];refine af (R:=λd d'=>d= {target:=.fn (.func g) #[],args:= #[]++xs.map e}/\d'= {target:=.fn (.func g) #[],args:= #[]++xs.map e' }) (aj ⟨rfl,rfl⟩) λd d' k=>?_;obtain⟨rfl,rfl⟩:=k;have e1:∀l:Array M,(#[]++l)++#[]=l:=λl=>by simp
   show mO P ok Z N _ (callFunc g ((#[]++xs.map e)++#[])) (callFunc g ((#[]++xs.map e')++#[]));rw[e1,e1];refine ou m (by rw[a];exact j) ?_ ?_
   .rw[a];exact Aj a i h2
   .rw[a];exact ot o
  | tmp t=>
   simp only[pZ,du,ib,nd]at h;obtain⟨j,h2⟩:=h;refine mS m (i.1 t) (oq a i j) ?_;rw[Array.size_map];exact h2
def IN(a:Z.tab=T)(b:zL κ Z e e'){x:Option ae}(h:(x.all (Nj T κ .val))=true):YW Z (x.map e) (x.map e'):=by
 cases x with
 | none=>exact .inl ⟨rfl,rfl⟩
 | some x=>exact .inr ⟨_,_,rfl,rfl,bQ a b h⟩
def C6(E:Sep Z N)(j:Z.tab=T)(hF:∀f,T.has f=true->dX T P f=true)(q:zL κ Z e e'){o:Kp}(h:eX T P κ o=true)(R:∀t d,o.op=.alloc t->o.dst=Y d->κ d≠.addrM):
  mO P ok Z N (xF ok κ o.dst Z) (Hn e o) (Hn e' o):=by
 obtain⟨dst,op,type,pos,after,guard⟩:=o;have O:∀x:ae,moveB T κ dst x=true->mO P ok Z N (xF ok κ dst Z) (pure (.value (e x))) (pure (.value (e' x))):=by
  intro x G
  cases dst with
  | none=>exact aj (.value (bQ j q G) cn)
  | some d=>exact aj (.value (bQ j q G) λd' J=>by cases J;exact .inr rfl)
 have V:∀{s s':Sem M} {p:Kd},mO P ok Z N (dM Z p) s s'->Fits κ dst p->mO P ok Z N (xF ok κ dst Z) (do pure (.value (<- s))) (do pure (.value (<- s'))):=λh u=>Ai h u;have U:∀{s s':Sem Unit},mO P ok Z N (λ_ _=>True) s s'->mO P ok Z N (xF ok κ dst Z) (do s;pure .skip) (do s';pure .skip):=λh=>YX h
 cases op with
 | move x=>exact O x h
 | assign x=>exact O x h
 | pick c a b=>
  simp only[eX,du]at h;refine af (sJ (bQ j q h.1.1)) λx y S=>?_;subst S;refine aj (.value ?_ cn);split
  .exact bQ j q h.1.2
  .exact bQ j q h.2
 | alloc t=>
  simp only[eX,du]at h;obtain⟨w,h2⟩:=h
  cases dst with
  | none=>cases h2
  | some d=>
   simp only[ib,nd,du]at h2;rcases h2 with h2|h2
   .exact V (KD (nu w)) λd' J=>by cases J;exact .inr h2
   .exact mi h2.1 (R t d rfl rfl)
 | box t x=>
  simp only[eX,du]at h;exact V (RX t (bQ j q h.1)) (ot h.2)
 | build t a1=>
  simp only[eX,du]at h;exact V (KI (nu h.1) (Ah j q h.2)) cn
 | buildSlice t l a1=>
  simp only[eX,du]at h;refine V (xy (λK C=>?_) (Ah j q h.2)) cn;have:=h.1;unfold UT at this;rw[C]at this;exact nu this
 | load t x=>
  cases x with
  | tmp a=>
   simp only[eX,du,ib,nd]at h;have z:=q.1 a;rcases h with(h|h)|h
   .rw[h]at z;exact V (sK t z.up) cn
   .rw[h]at z;exact V (sK t z) cn
   .rw[h.1.1]at z;exact V (KN h.1.2 z) (by rw[j];exact ot h.2)
  | global g=>exact V (sK t (q.2.2.2 g (by rw[j];exact h))) cn
  | _=>cases h
 | store t x y=>
  cases x with
  | tmp a=>
   simp only[eX,du,ib,nd]at h;have z:=q.1 a;rcases h with h|h
   .rw[h.1]at z;exact U (CH E t z (bQ j q h.2))
   .rw[h.1.1]at z;exact U (FJ E h.1.2 z (by rw[j];exact bQ j q h.2))
  | _=>cases h
 | binOp op t x y a2=>
  simp only[eX,du]at h;refine V (af (CP h.1.1 (bQ j q h.1.2) (bQ j q h.2)) λ_ _ _=>KE h.1.1 (bQ j q h.1.2) (bQ j q h.2)) cn
 | unOp op t x=>exact V (KF op (bQ j q h)) cn
 | convert s d x=>
  simp only[eX,du]at h;exact V (CQ h.1 (bQ j q h.2)) cn
 | makeFunc fn first captured=>
  cases fn with
  | func g=>
   simp only[eX,du,ib,nd,Array.isEmpty_iff]at h;obtain⟨⟨w,h2⟩,⟨⟨A,B⟩,Q⟩|⟨A,B⟩⟩:=h;rotate_left
   .subst A;refine V (bM ?_) cn;have:=oq j q B;exact .func (.func g (by rw[j];exact w) (by rw[j];exact h2)) this.1 this.2 ss (λi x y G=>by simp at G)
   subst A;refine V (bM ?_) (ot Q);rw[show(#[]:Array ae).map e= #[] by simp,show(#[]:Array ae).map e'= #[] by simp];have:=Aj j q B;exact .clo (by rw[j];exact w) (by rw[j];exact h2) (by rw[j]) this.1 (by rw[j];exact this.2)
  | _=>cases h
 | nilCheck x=>
  simp only[eX,du]at h;have r:=bQ j q h.1;have u:=ot h.2;unfold Hn;dsimp only;generalize e x=v at r|-;generalize e' x=v' at r|-
  cases r with
  | nilPtr=>exact cQ iF
  | nilIface=>exact cQ iF
  | nilFunc=>exact cQ iF
  | bool b=>exact aj (.value (.bool b) u)
  | int k n=>exact aj (.value (.int k n) u)
  | string s=>exact aj (.value (.string s) u)
  | ptr h=>exact aj (.value (.ptr h) u)
  | nilSlice l c=>exact aj (.value (.nilSlice l c) u)
  | slice l c h=>exact aj (.value (.slice l c h) u)
  | nilMap=>exact aj (.value .nilMap u)
  | map h=>exact aj (.value (.map h) u)
  | nilChan=>exact aj (.value .nilChan u)
  | func h s1 w s2 h2=>cases h with
   | func f a b=>exact aj (.value (.func (.func f a b) s1 w s2 h2) u)
   | yield a=>exact aj (.value (.func (.yield a) s1 w s2 h2) u)
  | iface t h=>exact aj (.value (.iface t h) u)
  | agg s h=>exact aj (.value (.agg s h) u)
  | tuple s h=>exact aj (.value (.tuple s h) u)
 | makeMap t r=>
  cases r with
  | none=>exact V (CY t) cn
  | some r=>cases h
 | slice t x lo hi W=>
  cases W with
  | some m=>cases h
  | none=>
   simp only[eX,du]at h;obtain⟨⟨⟨w,h2⟩,A⟩,B⟩:=h;refine V (CS t (bQ j q h2) (IN j q A) (IN j q B) (λn K C=>?_) (λK C=>?_)) cn
   .unfold sliceB at w;rw[C]at w;cases w
   .unfold sliceB at w;rw[C]at w;cases w
 | fieldAddr s x f=>
  simp only[eX,du]at h;exact V (CI (KJ h.1.1) (bQ j q h.1.2)) (ot h.2)
 | indexAddr t x L=>
  simp only[eX,du]at h;exact V (CJ t (bQ j q h.1.1) (bQ j q h.1.2)) (ot h.2)
 | index t x L=>
  simp only[eX,du]at h;exact V (KC t (bQ j q h.1) (bQ j q h.2)) cn
 | lookup t x L c=>
  simp only[eX,du]at h;exact V (FD (IL h.1.1) (bQ j q h.1.2) (bQ j q h.2) c) cn
 | mapEntry t m k=>
  simp only[eX,du]at h;exact V (Bd E (by rw[j];simpa using h.1.1.1) (IL h.1.1.2) (bQ j q h.1.2) (bQ j q h.2)) cn
 | entryStore t m s x=>
  simp only[eX,du]at h;exact U (xC E (by rw[j];simpa using h.1.1.1) (bQ j q h.1.1.2) (bQ j q h.1.2) (bQ j q h.2))
 | extract x i=>exact V (CK (bQ j q h) i) cn
 | call c=>exact R5 E j hF q h
 | _=>cases h
variable{α β:Type}{k:List Item}{fr da:Kf}{cs dp:List Kf}{n n' n1:Nat}{m:Bool}{W w W1:H}{es:Array Event}{ρ':Ren}
inductive L2{α β:Type}(R:α->β->Prop):List α->List β->Prop
 | nil:L2 R [] []
 | cons {a:α} {b:β} {l:List α} {l':List β} (h:R a b) (t:L2 R l l'):L2 R (a::l) (b::l')
def L2.mono{R R':α->β->Prop}(c:∀a b,R a b->R' a b){l:List α}{l':List β}(h:L2 R l l'):L2 R' l l':=by
 induction h with
 | nil=>exact .nil
 | cons h _ d=>exact .cons (c _ _ h) d
def L2.append{R:α->β->Prop}{l k:List α}{l' k':List β}(h:L2 R l l')(a:L2 R k k'):L2 R (l++k) (l'++k'):=by
 induction h with
 | nil=>exact a
 | cons h _ b=>exact .cons h b
inductive wC(T:P3)(P:Ps)(κ:Nat->Kd):Ly->Ly->Prop
 | stop:wC T P κ (.refuse "cut") T.rest
 | deadzz {s:String} {c':Ly} (h:s≠ "cut"):wC T P κ (.refuse s) c'
 | seqLzz {a a' b b':Ly} (ha:wC T P κ a a') (h:wC T P κ b b'):wC T P κ (.seq a b) (.seq a' b')
 | seqR {a b b':Ly} (ha:ez T P κ a=true) (h:wC T P κ b b'):wC T P κ (.seq a b) (.seq a b')
 | condL {c:ae} {a a' b:Ly} (hc:Nj T κ .val c=true) (hb:ez T P κ b=true) (h:wC T P κ a a'):wC T P κ (.cond c a b) (.cond c a' b)
inductive xH(T:P3)(P:Ps)(f:ba)(Z:Ren):Item->Item->Prop
 | cut {c c':Ly} (h:wC T P (T.kind f) c c'):xH T P f Z (.code c) (.code c')
 | code {c:Ly} (h:ez T P (T.kind f) c=true):xH T P f Z (.code c) (.code c)
 | inBlock (id:Nat):xH T P f Z (.inBlock id) (.inBlock id)
 | inLoop {c:Ly} (h:ez T P (T.kind f) c=true):xH T P f Z (.inLoop c) (.inLoop c)
 | inScope {c:Ly} (h:ez T P (T.kind f) c=true):xH T P f Z (.inScope c) (.inScope c)
 | inRegion {ops:Array Kp} (todo:List Nat) (h:si T P (T.kind f) ops todo=true):xH T P f Z (.inRegion ops todo) (.inRegion ops todo)
 | inRangeFunc {l l':Nat} (h:Z l=Y (l',0)):xH T P f Z (.inRangeFunc l) (.inRangeFunc l')
 | endRangeFunc {l l':Nat} (h:Z l=Y (l',0)):xH T P f Z (.endRangeFunc l) (.endRangeFunc l')
 | beginRound:xH T P f Z .beginRound .beginRound
def xH.mono(h:Z.le ρ'){f:ba}{x y:Item}(r:xH T P f Z x y):xH T P f ρ' x y:=by
 cases r with
 | cut h=>exact .cut h
 | code h=>exact .code h
 | inBlock id=>exact .inBlock id
 | inLoop h=>exact .inLoop h
 | inScope h=>exact .inScope h
 | inRegion t h=>exact .inRegion t h
 | inRangeFunc hl=>exact .inRangeFunc (h.at_ _ _ hl)
 | endRangeFunc hl=>exact .endRangeFunc (h.at_ _ _ hl)
 | beginRound=>exact .beginRound
inductive FK(Z:Ren):Deferred->Deferred->Prop
 | mk {r r':Nat} (h:Z r=Y (r',0)):FK Z {target:=.collected r,args:= #[]} {target:=.collected r',args:= #[]}
def FK.mono(h:Z.le ρ'){x y:Deferred}(r:FK Z x y):FK ρ' x y:=by
 cases r with
 | mk hl=>exact .mk (h.at_ _ _ hl)
inductive RD(Z:Ren):Option Nat->Option Nat->Prop
 | none:RD Z I I
 | some {l l':Nat} (h:Z l=Y (l',0)):RD Z (Y l) (Y l')
def RD.mono(h:Z.le ρ'){x y:Option Nat}(r:RD Z x y):RD ρ' x y:=by
 cases r with
 | none=>exact .none
 | some hl=>exact .some (h.at_ _ _ hl)
structure FL(T:P3)(P:Ps)(Z:Ren)(k:List Item)(ds:List Deferred)(fr da:Kf):Prop where
 fn:da.fn=fr.fn
 tmps:KR (T.kind fr.fn) Z fr.tmps da.tmps
 todo:∃t,da.todo=t++k/\L2 (xH T P fr.fn Z) fr.todo t
 defers:∃t,da.defers=t++ds/\L2 (FK Z) fr.defers t
 mode:da.mode=fr.mode
 live:fr.mode=.run\/(fr.mode=.returning/\fr.roundOf=I)
 early:fr.kind=.normal/\da.kind≠.early
 round:RD Z fr.roundOf da.roundOf
def FL.mono(h:Z.le ρ'){ds:List Deferred}(r:FL T P Z k ds fr da):FL T P ρ' k ds fr da:=
 ⟨r.fn,r.tmps.mono h,let⟨t,a,b⟩:=r.todo;⟨t,a,b.mono λ_ _=>xH.mono h⟩,let⟨t,a,b⟩:=r.defers;⟨t,a,b.mono λ_ _=>FK.mono h⟩,r.mode,r.live,r.early,r.round.mono h⟩
def C7(T:P3)(c:Kf)(p:Kd):Prop:=
 c.mode=.run/\match c.todo with
 | .inRegion ops (i::_)::_=>Fits (T.kind c.fn) ((ops[i]?).bind (·.dst)) p
 | .inRangeFunc _::_|.beginRound::_=>True
 | _=>False
def wJ(T:P3)(fr:Kf):Kd:=if fr.roundOf.isSome then .val else T.ret fr.fn
def c0:Kf:= { (default:Kf)with todo:=[.code (.refuse "")],mode:=.run,kind:=.normal,defers:=[{target:=.nil,args:= #[]}]}
inductive jA(T:P3)(P:Ps)(Z:Ren)(k:List Item)(ds:List Deferred)(co:List Kf×CallKind):Kf->List Kf->Kf->List Kf->Prop
 | bottom {fr da:Kf} (h:FL T P Z k ds fr da) (hb:fr.roundOf=I) (hkb:da.kind=co.2):jA T P Z k ds co fr [c0] da co.1
 | push {fr da c c':Kf} {cs dp:List Kf} (h:FL T P Z [] [] fr da) (hk:da.kind=.normal) (hh:T.has fr.fn=true\/fr.roundOf.isSome=true) (hw:C7 T c (wJ T fr)) (t:jA T P Z k ds co c cs c' dp):
   jA T P Z k ds co fr (c::cs) da (c'::dp)
def jA.mono(h:Z.le ρ'){ds:List Deferred}{co:List Kf×CallKind}(r:jA T P Z k ds co fr cs da dp):jA T P ρ' k ds co fr cs da dp:=by
 induction r with
 | bottom a hb c=>exact .bottom (a.mono h) hb c
 | push a hk b hw _ d=>exact .push (a.mono h) hk b hw d
def jA.ne{ds:List Deferred}{co:List Kf×CallKind}(r:jA T P Z k ds co fr cs da dp):cs≠[]:=by cases r<;>simp
def jA.top{ds:List Deferred}{co:List Kf×CallKind}(r:jA T P Z k ds co fr cs da dp):
  ∃k0 b,FL T P Z k0 b fr da/\(cs=[c0]->k0=k/\b=ds/\dp=co.1/\fr.roundOf=I/\da.kind=co.2)/\(cs≠[c0]->k0=[]/\b=[])/\
   ∀ρ' eI a,Z.le ρ'->FL T P ρ' k0 b eI a->eI.fn=fr.fn->eI.roundOf=fr.roundOf->a.kind=da.kind->jA T P ρ' k ds co eI cs a dp:=by
 cases r with
 | bottom h hb f=>exact⟨k,ds,h,λ_=>⟨rfl,rfl,rfl,hb,f⟩,λh=>mi rfl h,λρ' eI a hle d _ c hk=>.bottom d (c.tn hb) (hk.tn f)⟩
 | push h hk g hw t=>
  exact⟨[],[],h,λh=>mi (List.cons.inj h).2 t.ne,λ_=>⟨rfl,rfl⟩,λρ' eI a hle d e c i=>
   .push d (i.tn hk) (by rw[e,c];exact g) (by unfold wJ at hw |-; rw[e,c];exact hw) (t.mono hle)⟩
structure Mem(T:P3)(P:Ps)(Z:Ren)(N:Nat)(W w:H):Prop where
 dom:∀b x,Z b=Y x->b<W.heap.size
 cod:∀b b' s,Z b=Y (b',s)->b'<w.heap.size
 hN:N<=W.heap.size
 sep:Sep Z N
 hr:HR (C3 T P) Z N W w
 tab:Z.tab=T
def Ren.ext(Z:Ren)(n n' n1:Nat)(m:Bool):Ren:=
 {tO:=λb=>match Z b with
   | some x=>Y x
   | none=>if n<=b/\b<n1 then Y (n'+(b-n),0)else I
  cls:=λb=>match Z b with
   | some _=>Z.cls b
   | none=>m
  tab:=Z.tab
  glob:=λg c=>by
   obtain⟨a,h2⟩:=Z.glob g c;simp only[a,h2,and_self]}
def NI:Z.le (Z.ext n n' n1 m):=
 ⟨λb x h=>by show(match Z b with|some x=>Y x|none=>_)=_;rw[h],λb x h=>by show(match Z b with|some _=>Z.cls b|none=>m)=_;rw[h],rfl⟩
def IP(c:∀b x,Z b=Y x->b<n)(k:Nat)(h:n+k<n1):(Z.ext n n' n1 m) (n+k)=Y (n'+k,0)/\(Z.ext n n' n1 m).cls (n+k)=m:=by
 have a:Z (n+k)=I:=by
  cases d:Z (n+k)with
  | none=>rfl
  | some x=>have:=c _ _ d;omega
 refine⟨?_,?_⟩
 .show(match Z (n+k)with|some x=>Y x|none=>_)=_;rw[a];dsimp only;rw[qWB ⟨zz,h⟩,show n+k-n=k by omega]
 .show(match Z (n+k)with|some _=>Z.cls (n+k)|none=>m)=_;rw[a]
def iq(e:∀b x,Z b=Y x->b<n){b:Nat}{x:Nat×Nat}(h:(Z.ext n n' n1 m) b=Y x):(b<n/\Z b=Y x)\/(n<=b/\b<n1/\x=(n'+(b-n),0)):=by
 have a:(match Z b with|some x=>Y x|none=>if n<=b/\b<n1 then Y (n'+(b-n),0)else I)=Y x:=h
 cases d:Z b with
 | some y=>
  rw[d]at a;exact .inl ⟨e _ _ d,a⟩
 | none=>
  rw[d]at a;dsimp only at a;by_cases c:n<=b/\b<n1
  .rw[qWB c]at a;cases a;exact .inr ⟨c.1,c.2,rfl⟩
  .rw[qVB c]at a;cases a
def IQ(j:∀b x,Z b=Y x->b<n)(q:Sep Z N)(k:∀b d s,Z b=Y (d,s)->d<n'):Sep (Z.ext n n' n1 m) N:=by
 intro b d s p h;rcases iq j h with⟨l,h2⟩|⟨l,h2,o⟩
 .obtain⟨e,r⟩:=q b d s p h2;refine⟨e,λc s' i=>?_⟩;rcases iq j i with⟨f,a⟩|⟨f,a,g⟩
  .exact r c s' a
  .cases g;have:=k _ _ _ h2;omega
 .cases o;refine⟨rfl,λc s' i=>?_⟩;rcases iq j i with⟨f,a⟩|⟨f,a,g⟩
  .have:=k _ _ _ a;omega
  .have:=(Prod.mk.injEq _ _ _ _▸g:_/\_).1;omega
def HR.mono{ok:Ok}(h:Z.le ρ')(r:HR ok Z N W w):HR ok ρ' N W w:=by
 intro b o g;obtain⟨c,s,i,a,h2,d,e⟩:=r b o g;exact⟨c,s,i,h.at_ _ _ a,h2,by rw[h.cls _ _ a];exact d.mono h,λf=>(e f).mono h⟩
def Mem.fJ(h:Mem T P Z N W w):W.fJ:=by
 intro b o d;obtain⟨e,s,i,f,h2,a,g⟩:=h.hr b o d;revert a;generalize Z.cls b=c;intro a
 cases a with
 | plain a=>cases a<;>exact qYB
 | clo a=>exact qYB
structure Does(Z:Ren)(N:Nat)(W w W1 bj:H)(es:Array Event):Prop where
 frm:Kw Z N W w W1 bj
 evs:∀e∈es,US Z N e
 fresh:∀b b' s,Z b=Y (b',s)->b'<w.heap.size->b<W.heap.size
def Mem.step{R:Ren->α->β->Prop}(h:Mem T P Z N W w){s:Sem α}{s':Sem β}(t:∀ρ',Z.le ρ'->Sep ρ' N->ρ'.tab=T->mO P (C3 T P) ρ' N (R ρ') s s')
  {a:α}(r:s.runT P W #[]=(.ok a W1,es))(u:zB W.tape W.drawn w.tape w.drawn (W1.drawn-W.drawn)):
  ∃ρ' b bj e,Z.le ρ'/\s'.runT P w #[]=(.ok b bj,e)/\R ρ' a b/\Mem T P ρ' N W1 bj/\Does ρ' N W w W1 bj e:=by
 have hle:Z.le (Z.ext W w W1 false):=NI;have l:=IQ (n1:=W1.heap.size) (m:=false) h.dom h.sep h.cod;obtain⟨b,bj,e,o,h2,p,c,q⟩:=t _ hle l h.tab W w #[] #[] a W1 es h.hN (h.hr.mono hle) r ⟨λk hk=>IP h.dom k hk,u⟩;refine⟨_,b,bj,e,hle,by simpa using o,h2,⟨λb x d=>?_,λb n s d=>?_,qO h.hN c.size,l,p,h.tab⟩,⟨c,q,λb n s d v=>?_⟩⟩
 .have:=c.size;rcases iq h.dom d with⟨f,_⟩|⟨_,i,_⟩<;>omega
 .have g:=c.size;have g':=c.size';rcases iq h.dom d with⟨_,i⟩|⟨f,i,j⟩
  .have:=h.cod _ _ _ i;omega
  .cases j;omega
 .rcases iq h.dom d with⟨f,_⟩|⟨_,_,j⟩
  .exact f
  .cases j;omega
def Mem.Wr(h:Mem T P Z N W w){t:Lk}(d:JH P t=true)(a:xD P t=true){v:M}
  (o:(Instr.alloc t true (.tuple #[])).runT P W #[]=(.ok v W1,es)):
  ∃ρ' v' bj n,Z.le ρ'/\(Instr.alloc t true (.tuple #[])).runT P w #[]=(.ok v' bj,n)/\dM ρ' .addrM v v'/\Mem T P ρ' N W1 bj/\Does ρ' N W w W1 bj n:=by
 have key:∀w:H,(Instr.alloc t true (.tuple #[])).runT P w #[]=(.ok (.pointer (Y (w.heap.size,0))) {w with heap:=w.heap.push (.cells #[.nilFunc] t)}, #[]):=by
  intro w;simp only[xD,du]at a;obtain⟨-, a⟩:=a
  cases hi:P.info? t with
  | none=>rw[hi]at a;cases a
  | some i=>
   rw[hi]at a;simp only[du]at a;obtain⟨-, a⟩:=a;have d:i.zero=Y .nilFunc:=by
    cases d:i.zero with
    | none=>rw[d]at a;cases a
    | some z=>rw[d]at a;cases z<;>first|rfl|cases a
   simp only[Instr.alloc,zeroValue,typeInfo,program,bind,pure,Sem.bind,Sem.runT,hi,d,newVar,newRow,newObj,M.cells]
 rw[key]at o;cases o;have hle:Z.le (Z.ext W w (W.heap.size+1) true):=NI;have f:=IP (n':=w.heap.size) (n1:=W.heap.size+1) (m:=true) h.dom 0 zz;refine⟨_,_,_,_,hle,key w,.ptrM f.1 f.2,⟨λb x c=>?_,λb l s c=>?_,?_,IQ h.dom h.sep h.cod,?_,h.tab⟩,⟨⟨by simp,by simp;omega,qN _,rfl,rfl,rfl,rfl,rfl,?_⟩,by simp,λb l s c p=>?_⟩⟩
 .simp only[qQB];rcases iq h.dom c with⟨g,_⟩|⟨_,j,_⟩<;>omega
 .simp only[qQB];rcases iq h.dom c with⟨_,j⟩|⟨g,j,k⟩
  .have:=h.cod _ _ _ j;omega
  .have:=(Prod.mk.injEq _ _ _ _▸k:_/\_).1;omega
 .have:=h.hN;simp only[qQB];omega
 .refine(h.hr.mono hle).push ?_ f.1 h.hN;have e:(Z.ext W w (W.heap.size+1) true).cls W.heap.size=true:=f.2;rw[e];exact .clo .nilFunc
 .intro l c _;simp only[qPB];rw[qVB zz]
 .rcases iq h.dom c with⟨g,_⟩|⟨_,_,k⟩
  .exact g
  .have:=(Prod.mk.injEq _ _ _ _▸k:_/\_).1;omega
def mw{s:Sem M}(h:aB P s):aB P (do pure (.value (<- s)):Sem Next):=bL h λ_=>trivial
def YY{s:Sem Unit}(h:aB P s):aB P (do s;pure .skip:Sem Next):=bL h λ_=>trivial
def NJ(l:Nat)(xs:Array M):aB P (Instr.yield l xs):=by
 unfold Instr.yield Instr.getLoop;repeat' (first|assumption|exact qYB|(simp;done)|apply bL|apply fK|intro _|dsimp only|split)
def Bf(f:ba)(tm:Array M)(c:Array Tmp)(a b:Ly)(r:Option Nat):aB P (Instr.enterLoop f tm c a b r):=by
 unfold Instr.enterLoop Instr.getLoop;repeat' (first|assumption|exact qYB|exact E7 qYB|(simp;done)|apply bL|apply fK|intro _|dsimp only|split)
def sj(l:Nat):aB P (Instr.beginRound l):=by
 unfold Instr.beginRound Instr.getLoop;repeat' (first|assumption|exact qYB|exact iW _ qYB|(simp;done)|apply bL|apply fK|intro _|dsimp only|split)
def C8(l:Nat)(j:Option Ly):aB P (Instr.endRound l j):=by
 unfold Instr.endRound Instr.getLoop;repeat' (first|assumption|exact qYB|exact iW _ qYB|(simp;done)|apply bL|apply fK|intro _|dsimp only|split)
def xI(l:Nat):aB P (Instr.endLoop l):=by
 unfold Instr.endLoop Instr.getLoop;repeat' (first|assumption|exact qYB|exact iW _ qYB|(simp;done)|apply bL|apply fK|intro _|dsimp only|split)
def j9(l:Nat):aB P (Instr.takeDeferred l):=by
 unfold Instr.takeDeferred;repeat' (first|assumption|exact qYB|exact iW _ qYB|(simp;done)|apply bL|apply fK|intro _|dsimp only|split)
def FM(fn:Func)(tm:Array M):aB P (results fn tm):=by
 unfold results;repeat' (first|assumption|exact qYB|(simp;done)|apply bL|apply fK|apply kZ|intro _|dsimp only|split)
def p6{f:ba}(h:dX T P f=true)(xs:Array M):aB P (callFunc f xs):=by
 unfold dX at h;unfold callFunc;show aB P (_:Sem Next);split at h
 .rename_i fn b;simp only[du,bne_iff_ne,ne_eq]at h;have e:fn.body.isNone=false:=by
   cases a:fn.body with
   | none=>rw[a]at h;exact mi h.1.2 ss
   | some c=>rfl
  have d:(fn.name == "runtime.NumGoroutine")=false:=by simpa using h.1.1
  show aB P ((match P.funcs[f]? with|none=>stuck "call: no such function" | some fn=>_:Sem Next));simp only[b,d,e,lO,if_false];exact qYB
 .cases h
def Uu(hF:∀f,Z.tab.has f=true->dX T P f=true){p:Kd}{v v':M}(r:dM Z p v v')(c:p≠.junk)(xs:Array M):aB P (do let d<-Deferred.ofValue v xs;invoke d.target d.args):=by
 cases r with
 | @func _ fn g us i vs j b s1 h s2 h2=>
  cases b with
  | func f a e=>exact p6 (hF f a) _
  | yield hl=>exact NJ _ _
 | clo a e hk s2 h2=>exact p6 (hF _ a) _
 | junk=>exact mi rfl c
 | _=>exact qYB
def FN{b:Builtin}{xs:Array ae}{ts:Array Lk}(h:pZ T P κ dst {callee:=.builtin b,args:=xs,argTypes:=ts}=true)(t:Lk)(cs:Array Bool)(vs:Array M):aB P (builtin b ts t cs vs):=by
 cases b with
 | len=>exact mw (wu _ _ _)
 | min=>exact mw (wB _ _ _)
 | max=>exact mw (wA _ _ _)
 | append=>exact mw (sG _ _ _)
 | clear=>exact mw ss
 | _=>cases h
def Ws(j:Z.tab=T)(hF:∀f,T.has f=true->dX T P f=true)(a:zL κ Z e e'){c:Call}{t:Lk}(h:pZ T P κ dst c=true):
  aB P (do let d<-ab e c t;invoke d.target d.args):=by
 have i:∀f,Z.tab.has f=true->dX T P f=true:=by rw[j];exact hF
 obtain⟨callee,xs,l⟩:=c
 cases callee with
 | invoke r n=>cases h
 | builtin b=>exact FN h _ _ _
 | value f=>
  cases f with
  | const v=>cases h
  | global g=>cases h
  | func g=>
   simp only[pZ,du]at h;show aB P (do let d<-Deferred.ofValue (e (.func g)) (xs.map e);invoke d.target d.args);rw[(a.2.2.1 g).1];exact p6 (hF g h.1.1) _
  | tmp t=>
   simp only[pZ,du,ib,nd]at h;refine Uu i (a.1 t) (λk=>?_) _;rw[k]at h;rcases h.2 with h|h<;>cases h
def IS(g:Z.tab=T)(hF:∀f,T.has f=true->dX T P f=true)(j:zL κ Z e e'){o:Kp}(h:eX T P κ o=true):aB P (Hn e o):=by
 obtain⟨dst,op,type,pos,after,guard⟩:=o
 cases op with
 | move x=>exact qYB
 | assign x=>exact qYB
 | pick c a b=>exact bL ss λ_=>trivial
 | alloc t=>exact mw ss
 | box t x=>exact mw ss
 | build t u=>exact mw ss
 | buildSlice t l u=>exact mw ss
 | load t x=>exact mw ss
 | store t x y=>exact YY ss
 | binOp op t x y z=>exact mw (bL ss λ_=>by simp)
 | unOp op t x=>exact mw ss
 | convert s d x=>
  simp only[eX,du]at h;refine mw (Fz _ (λq=>?_) λp=>?_)
  .have:=h.1;unfold xx at this;rw[q]at this;revert this
   cases P.underlying d with
   | none=>simp
   | some d=>cases d<;>simp
  .have:=h.1;unfold xx at this;rw[p]at this;revert this
   cases P.underlying s with
   | none=>simp
   | some d=>cases d<;>simp
 | makeFunc fn first captured=>exact mw ss
 | nilCheck x=>
  simp only[eX,du]at h;have r:=bQ g j h.1;unfold Hn;dsimp only;generalize e x=v at r|-;generalize e' x=v' at r
  cases r with
  | func h=>cases h<;>simp
  | _=>simp
 | makeMap t r=>
  cases r with
  | none=>exact mw ss
  | some r=>cases h
 | slice t x lo hi w=>exact mw ss
 | fieldAddr s x f=>exact mw ss
 | indexAddr t x n=>exact mw ss
 | index t x n=>exact mw ss
 | lookup t x n c=>exact mw ss
 | mapEntry t m k=>exact mw ss
 | entryStore t m s x=>exact YY ss
 | extract x i=>exact mw ss
 | call c=>exact Ws g hF j h
 | _=>cases h
variable{l l':Nat}{f:ba}{tm tm':Array M}
def mE(hl:Z l=Y (l',0)):mO P ok Z N (λx y=>LR ok Z x y/\N<=l) (Instr.getLoop l) (Instr.getLoop l'):=by
 unfold Instr.getLoop;refine af (gP hl) λo d a=>?_;obtain⟨a,b,c⟩:=a
 cases a with
 | loop hl=>exact aj ⟨hl,c.resolve_right λ⟨_,es,k,h⟩=>by cases h⟩
 | cells _ _=>exact mi rfl (b _ _ _)
 | _=>exact aA
def JF(b:Sep Z N)(hl:Z l=Y (l',0))(a:N<=l){r r':Loop}(h:LR ok Z r r'):mO P ok Z N (λ_ _=>True) (setObj l (.loop r)) (setObj l' (.loop r')):=jG b hl a (.loop h) λ_ _ _ h=>by cases h
def sk(q:KR (Z.tab.kind f) Z tm tm')(g:Array Tmp){a b:Ly}(j:ok.code f a)(k:ok.code f b){r r':Option Nat}(p:RD Z r r'):
  mO P ok Z N (λx y:Nat×List Deferred=>Z x.1=Y (y.1,0)/\L2 (FK Z) x.2 y.2) (Instr.enterLoop f tm g a b r) (Instr.enterLoop f tm' g a b r'):=by
 unfold Instr.enterLoop;have i:∀{d d':Nat} {m m':List Deferred},Z d=Y (d',0)->L2 (FK Z) m m'->mO P ok Z N (λx y:Nat×List Deferred=>Z x.1=Y (y.1,0)/\L2 (FK Z) x.2 y.2)
   (do pure (<- newObj (.loop {state:=.ready,pending:=I,fn:=f,tmps:=tm,params:=g,assign:=a,body:=b,defers:=d}),m))
   (do pure (<- newObj (.loop {state:=.ready,pending:=I,fn:=f,tmps:=tm',params:=g,assign:=a,body:=b,defers:=d' }),m')):=λl o=>
  af (wI (.loop ⟨rfl,rfl,(λc h=>by cases h),rfl,q,rfl,rfl,rfl,j,k,l⟩)) λn n' e=>aj ⟨e.1,o⟩
 cases p with
 | none=>
  refine af (wI .nil) λn n' e=>?_;refine af (R:=λx y=>x=(n,[{target:=.collected n,args:= #[]}])/\y=(n',[{target:=.collected n',args:= #[]}])) (aj ⟨rfl,rfl⟩) λx y h=>?_;obtain⟨rfl,rfl⟩:=h;exact i e.1 (.cons (.mk e.1) .nil)
 | some hl=>
  refine af (mE hl) λu v h=>?_;refine af (R:=λx y=>x=(u.defers,[])/\y=(v.defers,[])) (aj ⟨rfl,rfl⟩) λx y s=>?_;obtain⟨rfl,rfl⟩:=s;exact i h.1.defers .nil
def xJ(a:Sep Z N)(hl:Z l=Y (l',0)):mO P ok Z N (λ_ _=>True) (Instr.beginRound l) (Instr.beginRound l'):=by
 unfold Instr.beginRound;refine af (mE hl) λx y h=>?_;refine af (JF a hl h.2 ⟨rfl,h.1.pending,h.1.pendOk,h.1.fn,h.1.tmps,h.1.params,h.1.assign,h.1.body,h.1.assignOk,h.1.bodyOk,h.1.defers⟩) λ_ _ _=>?_;rw[h.1.state]
 cases x.state with
 | ready=>exact aj qYB
 | done=>exact cm (ga (iP _))
 | busy=>exact cm (ga (iP _))
 | exhausted=>exact cm (ga (iP _))
def Bg(b:Sep Z N)(hl:Z l=Y (l',0)){j:Option Ly}(a:∀c,j=Y c->c=.ret\/∃d,c=.exit d):mO P ok Z N (VR Z) (Instr.endRound l j) (Instr.endRound l' j):=by
 unfold Instr.endRound;refine af (mE hl) λx y h=>?_;exact af (JF b hl h.2 ⟨rfl,rfl,a,h.1.fn,h.1.tmps,h.1.params,h.1.assign,h.1.body,h.1.assignOk,h.1.bodyOk,h.1.defers⟩) λ_ _ _=>aj (.bool _)
def Tu(d:Sep Z N)(hl:Z l=Y (l',0)):mO P ok Z N (λa b:Option Ly=>a=b/\∀c,a=Y c->c=.ret\/∃e,c=.exit e) (Instr.endLoop l) (Instr.endLoop l'):=by
 unfold Instr.endLoop;refine af (mE hl) λx y h=>?_;rw[h.1.state];split
 .exact cm (ga (bO (Q:=λ_=>False) (iP _) λ_ h=>h.elim))
 .exact af (JF d hl h.2 ⟨rfl,h.1.pending,h.1.pendOk,h.1.fn,h.1.tmps,h.1.params,h.1.assign,h.1.body,h.1.assignOk,h.1.bodyOk,h.1.defers⟩) λ_ _ _=>aj ⟨h.1.pending.symm,h.1.pendOk⟩
def uF(f:Sep Z N)(hl:Z l=Y (l',0)):mO P ok Z N (λa b:List Deferred=>a=[]/\b=[]) (Instr.takeDeferred l) (Instr.takeDeferred l'):=by
 unfold Instr.takeDeferred;refine af (gP hl) λo g c=>?_;obtain⟨c,d,e⟩:=c
 cases c with
 | nil=>exact af (jG f hl (e.resolve_right λ⟨_,es,k,h⟩=>by cases h) .none λ_ _ _ h=>by cases h) λ_ _ _=>aj ⟨rfl,rfl⟩
 | cells _ _=>exact mi rfl (d _ _ _)
 | _=>exact aA
def tH{α β β':Type}{R:β->β'->Prop}{f:α->Sem β}{f':α->Sem β'}:∀(l:List α),(∀a∈l,mO P ok Z N R (f a) (f' a))->mO P ok Z N (λxs c=>L2 R xs c/\xs.length=l.length) (l.mapM f) (l.mapM f')
 | [],_=>by simp only[List.mapM_nil];exact aj ⟨.nil,rfl⟩
 | a::l,h=>by
  rw[List.mapM_cons,List.mapM_cons];exact af (h a ss) λx y e=>af (tH l λa d=>h a (by simp[d])) λxs c b=>aj ⟨.cons e b.1,by simp[b.2]⟩
def L2.length{R:α->β->Prop}{l:List α}{l':List β}(h:L2 R l l'):l.length=l'.length:=by
 induction h with
 | nil=>rfl
 | cons _ _ a=>simp[a]
def L2.get{R:α->β->Prop}{l:List α}{l':List β}(h:L2 R l l'):∀(i:Nat) (x:α) (y:β),l[i]?=Y x->l'[i]?=Y y->R x y:=by
 induction h with
 | nil=>intro i x y a;simp at a
 | cons h _ c=>
  intro i x y a b
  cases i with
  | zero=>cases a;cases b;exact h
  | succ i=>exact c i x y (by simpa using a) (by simpa using b)
def Iw{fn:Func}(u:Z.tab=T)(n:P.funcs[f]?=Y fn)(d:dX T P f=true)(k:KR (T.kind f) Z tm tm'):mO P ok Z N (dM Z (T.ret f)) (results fn tm) (results fn tm'):=by
 unfold dX at d;rw[n]at d;simp only[du,kj]at d;obtain⟨-, d⟩:=d;unfold results;have l:∀r∈fn.results,mO P ok Z N (dM Z (if fn.results.size=1 then T.ret f else .val)) (match r with|.tmp t=>pure (tm.getD t D)|.cell a t=>do loadVar t (<- asAddr (tm.getD a D)):Sem M)
   (match r with|.tmp t=>pure (tm'.getD t D)|.cell a t=>do loadVar t (<- asAddr (tm'.getD a D)):Sem M):=by
  intro r p;have h:=d r p
  cases r with
  | tmp t=>
   refine aj ?_;have b:=k.getD t;simp only at h;split at h
   .rename_i c;rw[qWB c];simp only[ib,nd]at h;rcases h with h|h
    .rw[h]at b;exact b.up
    .rw[h]at b;exact b
   .rename_i c;rw[qVB c];simp only[nd]at h;rw[h]at b;exact b
  | cell a t=>
   simp only[ib,nd]at h;have b:SR Z (tm.getD a D) (tm'.getD a D):=by
    have b:=k.getD a;rcases h with h|h
    .rw[h]at b;exact b.up
    .rw[h]at b;exact b
   exact af (FB b) λx y h=>(vt t h).mono λ_ _ h=>h.up
 rw[Array.mapM_eq_mapM_toList,Array.mapM_eq_mapM_toList];have o:=tH fn.results.toList λa m=>l a (by simpa using m);refine af (R:=λxs e:Array M=>L2 (dM Z (if fn.results.size=1 then T.ret f else .val)) xs.toList e.toList/\xs.size=fn.results.size) (RV o λxs e h=>⟨by simpa using h.1,by simpa using h.2⟩) λxs e h=>?_;obtain⟨h,j⟩:=h;have hl:xs.size=e.size:=by simpa using h.length
 refine aj ?_;have g:=λ(i:Nat) (x y:M) (q:xs[i]?=Y x) (s:e[i]?=Y y)=>h.get i x y (by simpa using q) (by simpa using s);by_cases c:xs.size=1
 .rw[dif_pos c,dif_pos (hl.symm.tn c)];have:=g 0 _ _ (fi zz) (fi zz);rwa[qWB (j.symm.tn c)]at this
 .rw[dif_neg c,dif_neg (by rw[<- hl];exact c)];rw[qVB (by rw[<- j];exact c)]at g;exact .tuple hl g
open Go.Conc
variable{bj:H}{eI fr1':Kf}{fw cs1':List Kf}{k0:List Item}
section
variable{ds:List Deferred}{co:List Kf×CallKind}
def NK(fr:Kf)(cs:List Kf)(W:H):Prop:=
 (∃ch,fr.mode=.panicking ch)/\((∃a,cs=a++[c0]/\(∀d∈fr.defers,∃r,d.target=.collected r)/\(∀f∈a,f.mode=.run/\∀d∈f.defers,∃r,d.target=.collected r)/\W.fJ)\/
  fr.defers=[{target:=.nil,args:= #[]}])
def oy(T:P3)(P:Ps)(Z:Ren)(N:Nat)(k:List Item)(ds:List Deferred)(co:List Kf×CallKind)(W w:H)(S b:GStep):Prop:=
 (∃o W1 es,S=.ended o W1 es)\/(∃eI fw W1 es,S=.go (G eI fw) W1 es/\NK eI fw W1)\/
 ∃eI fw W1 es,S=.go (G eI fw) W1 es/\∃ρ' fr1' cs1' bj a,Z.le ρ'/\b=.go (G fr1' cs1') bj a/\jA T P ρ' k ds co eI fw fr1' cs1'/\Mem T P ρ' N W1 bj/\Does ρ' N W w W1 bj a
def oy.ended{o:Outcome}{S':GStep}:oy T P Z N k ds co W w (.ended o W1 es) S':=.inl ⟨_,_,_,rfl⟩
def oy.NL{es eJ:Array Event}(hle:Z.le ρ')(c:jA T P ρ' k ds co eI fw fr1' cs1')(b:Mem T P ρ' N W1 bj)(a:Does ρ' N W w W1 bj eJ):
  oy T P Z N k ds co W w (.go (G eI fw) W1 es) (.go (G fr1' cs1') bj eJ):=.inr (.inr ⟨_,_,_,_,rfl,ρ',_,_,_,_,hle,rfl,c,b,a⟩)
def Ren.le.refl(Z:Ren):Z.le Z:=⟨λ_ _ h=>h,λ_ _ _=>rfl,rfl⟩
def Ren.le.tn{Z ρ' ρ'':Ren}(h:Z.le ρ')(c:ρ'.le ρ''):Z.le ρ'':=⟨λb x a=>c.at_ b x (h.at_ b x a),λb x a=>(c.cls b x (h.at_ b x a)).tn (h.cls b x a),c.tab.tn h.tab⟩
def Does.refl{W w:H}(c:Mem T P Z N W w):Does Z N W w W w #[]:=⟨.refl _ _,by simp,λb d s a _=>c.dom _ _ a⟩
def oy.still(b:jA T P Z k ds co eI fw fr1' cs1')(a:Mem T P Z N W w):oy T P Z N k ds co W w (.go (G eI fw) W #[]) (.go (G fr1' cs1') w #[]):=
 .NL (.refl Z) b a (.refl a)
def FL.zL{ds0:List Deferred}(h:FL T P Z k0 ds0 fr da):zL (T.kind fr.fn) Z fr.eval da.eval:=
 ⟨λt=>h.tmps.getD t,λ_=>⟨rfl,rfl⟩,λ_=>⟨rfl,rfl⟩,λg a=>.ptr ⟨rfl,rfl,0,(Z.glob g a).1,rfl,(Z.glob g a).2⟩⟩
def L2.mem{α β:Type}{R:α->β->Prop}{l:List α}{l':List β}(h:L2 R l l'):∀a∈l,∃b∈l',R a b:=by
 induction h with
 | nil=>intro a c;cases c
 | cons h _ e=>
  intro a c;rcases dq.1 c with rfl|c
  .exact⟨_,by simp,h⟩
  .obtain⟨b,d,r⟩:=e a c;exact⟨b,by simp[d],r⟩
def jA.collected(r:jA T P Z k ds co fr cs da dp):
  ∃a,cs=a++[c0]/\(∀d∈fr.defers,∃r,d.target=.collected r)/\∀f∈a,f.mode=.run/\∀d∈f.defers,∃r,d.target=.collected r:=by
 have one:∀{k0 i} {f f':Kf},FL T P Z k0 i f f'->∀d∈f.defers,∃r,d.target=.collected r:=by
  intro k0 i f f' h d m;obtain⟨t, -, h2⟩:=h.defers;obtain⟨b, -, j⟩:=h2.mem d m
  cases j with
  | mk h=>exact⟨_,rfl⟩
 induction r with
 | bottom h j p=>exact⟨[],rfl,one h,by simp⟩
 | @push fr da c c' cs dp h hk o hw t n=>
  obtain⟨a,e,l,h2⟩:=n;refine⟨c::a,by rw[e];rfl,one h,λf g=>?_⟩;rcases dq.1 g with rfl|g
  .exact⟨hw.1,l⟩
  .exact h2 f g
def xK(r:jA T P Z k ds co fr cs da dp)(i:W1.fJ)(v:M)(g:∀ch,fr.mode≠.panicking ch)(a:Kf)(b:a.mode=fr.mode)(c:∀d∈a.defers,∃r,d.target=.collected r):
  NK (a.raise [{v,recovered:=false}]) cs W1:=by
 have f:a.raise [{v,recovered:=false}]= {a with mode:=.panicking [{v,recovered:=false}]}:=by
  unfold Kf.raise;split
  .rename_i ch h;exact mi (b.symm.tn h) (g ch)
  .rfl
 rw[f];obtain⟨j,e, -, h2⟩:=r.collected;exact⟨⟨_,rfl⟩,.inl ⟨j,e,c,h2,i⟩⟩
theorem FL.finish{ds0:List Deferred}(h:FL T P Z k0 ds0 fr da){p:Kd}(a:match fr.todo with
  | .inRegion ops (i::_)::_=>Fits (T.kind fr.fn) ((ops[i]?).bind (·.dst)) p
  | .inRangeFunc _::_|.beginRound::_=>True
  | _=>False){v v':M}(l:dM Z p v v'):FL T P Z k0 ds0 (fr.finish v) (da.finish v')/\(fr.finish v).fn=fr.fn/\(fr.finish v).roundOf=fr.roundOf/\(da.finish v').kind=da.kind:=by
 obtain⟨f,tm,td,df,mode,w,z⟩:=fr;obtain⟨f',C,B,u,y,x,A⟩:=da;obtain⟨m,h2,⟨t,n,o⟩,b,c,e,g,j⟩:=h;dsimp only at*;subst m n
 cases o with
 | nil=>cases a
 | cons s k=>
  cases s with
  | @inRegion ops todo r=>
   cases todo with
   | nil=>cases a
   | cons i rest=>
    dsimp only at a;simp only[Kf.finish,zR];refine⟨⟨rfl,?_,⟨_,rfl,.cons (.inRegion rest (FG r)) k⟩,b,c,e,g,j⟩,by simp⟩
    cases q:(ops[i]?).bind (·.dst)with
    | none=>exact h2
    | some d=>
     refine h2.put ?_;rcases a d q with h|h
     .subst h;exact l.up
     .rw[h];exact l
  | inRangeFunc hl=>exact⟨⟨rfl,h2,⟨_,rfl,.cons (.endRangeFunc hl) k⟩,b,c,e,g,j⟩,rfl,rfl,rfl⟩
  | beginRound=>exact⟨⟨rfl,h2,⟨_,rfl,k⟩,b,c,e,g,j⟩,rfl,rfl,rfl⟩
  | _=>cases a
def gQ{fn:ba}(h:∀e∈es,US Z N e):∀e∈seen P fn es,US Z N e:=λe a=>h e (Go.Conc.mem_seen a)
def Does.seen(h:Does Z N W w W1 bj es)(fn:ba):Does Z N W w W1 bj (seen P fn es):=⟨h.frm,gQ h.evs,h.fresh⟩
def NM{κ:Nat->Kd}(h:KR κ Z xs ys)(n:Nat):KR κ Z (xs++Array.replicate (n-xs.size) D) (ys++Array.replicate (n-ys.size) D):=by
 refine⟨by simp[h.1],λi x y a b=>?_⟩;rw[Array.getElem?_append]at a b;by_cases hi:i<xs.size
 .rw[qWB hi]at a;rw[qWB (by rw[<- h.1];exact hi)]at b;exact h.2 i x y a b
 .rw[qVB hi]at a;rw[qVB (by rw[<- h.1];exact hi)]at b;rw[Array.getElem?_replicate]at a b;split at a
  .split at b
   .cases a;cases b;exact dM.up (.tuple rfl λi x y h=>by simp at h)
   .cases b
  .cases a
def uG(a:dX T P f=true)(h:KR (T.kind f) Z xs ys):FL T P Z [] [] (Kf.enter P f xs .normal) (Kf.enter P f ys .normal):=by
 unfold dX at a
 cases d:P.funcs[f]? with
 | none=>rw[d]at a;cases a
 | some fn=>
  rw[d]at a;simp only[du]at a
  cases b:fn.body with
  | none=>rw[b]at a;exact mi a.1.2 ss
  | some c=>
   rw[b]at a;refine⟨rfl,?_,⟨[.code c],?_,?_⟩,⟨[],rfl,.nil⟩,rfl,.inl rfl,⟨rfl,by simp[Kf.enter]⟩,.none⟩
   .exact NM h _
   .simp[Kf.enter,d,b]
   .simp only[Kf.enter,d,b,Option.bind_some,zQ];exact .cons (.code a.1.2) .nil
def KP{l l':Nat}(hl:Z l=Y (l',0))(h:KR (T.kind f) Z xs ys){a b:Ly}(c:ez T P (T.kind f) a=true)(d:ez T P (T.kind f) b=true):
  FL T P Z [] [] (Kf.round l f xs a b .normal) (Kf.round l' f ys a b .normal):=
 ⟨rfl,h,⟨[.code a,.beginRound,.code b],by simp[Kf.round],.cons (.code c) (.cons .beginRound (.cons (.code d) .nil))⟩,⟨[],rfl,.nil⟩,rfl,.inl rfl,⟨rfl,by simp[Kf.round]⟩,.some hl⟩
def QD(T:P3)(fr:Kf)(dst:Option Tmp):Prop:=
 match fr.todo with
 | .inRegion ops (i::_)::_=>(ops[i]?).bind (·.dst)=dst
 | .inRangeFunc _::_|.beginRound::_=>True
 | _=>False
def qU(a6:Mem T P Z N W w)(B:jA T P Z k ds co fr cs da dp)(V:fr.mode=.run){dst:Option Tmp}(g:QD T fr dst)
  (a3:∀f,T.has f=true->dX T P f=true)
  {s s':Sem Next}(a7:aB P s)(b1:∀(W1:H) (es:Array Event) (a:Next),s.runT P W #[]=(.ok a W1,es)->∃ρ' b bj z,Z.le ρ'/\s'.runT P w #[]=(.ok b bj,z)/\xF (C3 T P) (T.kind fr.fn) dst ρ' a b/\Mem T P ρ' N W1 bj/\Does ρ' N W w W1 bj z):
  oy T P Z N k ds co W w (Lq.apply P true fr cs I s W) (Lq.apply P true da dp I s' w):=by
 obtain⟨k0,b2,E,b3,b4,a'⟩:=B.top;have O:(∃ops i r l d,fr.todo=.inRegion ops (i::r)::l/\da.todo=.inRegion ops (i::r)::d)\/(∃a l C d,fr.todo=.inRangeFunc a::l/\da.todo=.inRangeFunc C::d)\/∃l d,fr.todo=.beginRound::l/\da.todo=.beginRound::d:=by
  obtain⟨t,c,h2⟩:=E.todo;unfold QD at g;split at g
  .rename_i ops i r l j;rw[j]at h2
   cases h2 with
   | cons h _=>cases h;exact .inl ⟨_,_,_,_,_,j,c⟩
  .rename_i a l j;rw[j]at h2
   cases h2 with
   | cons h _=>cases h;exact .inr (.inl ⟨_,_,_,_,j,c⟩)
  .rename_i l j;rw[j]at h2
   cases h2 with
   | cons h _=>cases h;exact .inr (.inr ⟨_,_,j,c⟩)
  .exact g.elim
 have U:∀{p:Kd} {ρ':Ren} {v v':M},Z.le ρ'->Fits (T.kind fr.fn) dst p->dM ρ' p v v'->jA T P ρ' k ds co (fr.finish v) cs (da.finish v') dp:=by
  intro p ρ' v v' hle n R;have h:=(E.mono hle).finish (p:=p) (by
   unfold QD at g;split at g
   .rw[g];exact n
   .trivial
   .trivial
   .exact g.elim) R
  exact a' ρ' _ _ hle h.1 h.2.1 h.2.2.1 h.2.2.2
 have a2:∀{q:Kd},Fits (T.kind fr.fn) dst q->C7 T fr q:=by
  intro q a9;refine⟨V,?_⟩;unfold QD at g;rcases O with⟨ops,i,r,l,d,c,h2⟩|⟨a,l,C,d,c,h2⟩|⟨l,d,c,h2⟩
  .rw[c]at g|-;dsimp only at g|-;rw[g];exact a9
  .rw[c];trivial
  .rw[c];trivial
 have S:(fr.kind==CallKind.early)=false:=by rw[E.early.1];rfl
 have a5:(da.kind==CallKind.early)=false:=by
  have:=E.early.2;revert this;cases da.kind<;>simp
 rcases J:s.runT P W #[]with⟨r,es⟩;have Q:=E8 a7 W #[] a6.fJ;rw[J]at Q
 cases r with
 | ok nx W1=>
  obtain⟨ρ',b,bj,z,hle,a0,a8,o,e⟩:=b1 W1 es nx J;simp only[Lq.apply,J,a0,if_true,S,a5,lO,if_false]
  cases a8 with
  | @value p v v' R n=>exact .NL hle (U hle n R) o ⟨e.frm,by simpa using gQ e.evs,e.fresh⟩
  | skip=>exact .NL hle (U (p:=.val) hle cn (.tuple rfl λi x y h=>by simp at h)) o ⟨e.frm,by simpa using gQ e.evs,e.fresh⟩
  | @enter f xs ys L A n=>
   have K:oy T P Z N k ds co W w (.go (G (Kf.enter P f xs .normal) (fr::cs)) W1 (seen P fr.fn es++#[])) (.go (G (Kf.enter P f ys .normal) (da::dp)) bj (seen P da.fn z++#[])):=by
    rw[o.tab]at n L A;exact .NL hle (.push (uG (a3 f L) A) rfl (.inl L) (a2 n) (B.mono hle)) o ⟨e.frm,by simpa using gQ e.evs,e.fresh⟩
   rcases O with⟨ops,i,r,l,d,c,h2⟩|⟨a,l,C,d,c,h2⟩|⟨l,d,c,h2⟩<;>simp only[c,h2]<;>exact K
  | @round l d hl f xs ys A a b a4 hb=>
   have K:oy T P Z N k ds co W w (.go (G (Kf.round l f xs a b .normal) (fr::cs)) W1 (seen P fr.fn es++#[])) (.go (G (Kf.round d f ys a b .normal) (da::dp)) bj (seen P da.fn z++#[])):=by
    rw[o.tab]at A;exact .NL hle (.push (KP hl A a4 hb) rfl (.inr rfl) (a2 cn) (B.mono hle)) o ⟨e.frm,by simpa using gQ e.evs,e.fresh⟩
   rcases O with⟨ops,i,r,l,d,c,h2⟩|⟨a,l,C,d,c,h2⟩|⟨l,d,c,h2⟩<;>simp only[c,h2]<;>exact K
 | halt h W1=>
  have a1:=Q.2 h W1 rfl;simp only[Lq.apply,J,if_true,S,lO,if_false]
  cases h with
  | panic v=>
   refine .inr (.inl ⟨_,_,_,_,rfl,xK B Q.1 v (λch h=>by rw[V]at h;cases h) fr rfl B.collected.choose_spec.2.1⟩)
  | unsupported u=>
   cases u<;>first|exact .ended|exact a1.elim
  | stuck m=>exact .ended
  | _=>exact a1.elim
end
variable{td t:List Item}
section
variable{ds:List Deferred}{co:List Kf×CallKind}
def Bh(b:Nat)(k0:List Item)(h:L2 (xH T P f Z) td t){td1:List Item}(a:exitTo b td=Y td1):∃d,exitTo b (t++k0)=Y (d++k0)/\L2 (xH T P f Z) td1 d:=by
 induction h with
 | nil=>cases a
 | @cons x y l i e hl c=>
  cases e with
  | inBlock g=>
   simp only[exitTo,zR]at a|-;split at a
   .rename_i h;cases a;rw[qWB h];exact⟨_,rfl,hl⟩
   .rename_i h;rw[qVB h];exact c a
  | _=>exact c a
theorem jA.finish{c c':Kf}(g:jA T P Z k ds co c cs c' dp){p:Kd}(f:C7 T c p)(hle:Z.le ρ'){v v':M}(e:dM ρ' p v v'):jA T P ρ' k ds co (c.finish v) cs (c'.finish v') dp:=by
 obtain⟨k0,i,b,j,l,d⟩:=g.top;have h:=(b.mono hle).finish (by
  have:=f.2;revert this;split<;>intro h
  .rename_i a;(try rw[a]);exact h
  .rename_i a;(try rw[a]);trivial
  .rename_i a;(try rw[a]);trivial
  .exact h.elim) e
 exact d ρ' _ _ hle h.1 h.2.1 h.2.2.1 h.2.2.2
def Da(b:Nat)(h:L2 (xH T P f Z) td t)(a:exitTo b td=I):exitTo b t=I:=by
 induction h with
 | nil=>rfl
 | @cons x y l g d hl c=>
  cases d with
  | inBlock e=>
   simp only[exitTo]at a|-;split at a
   .cases a
   .rename_i h;rw[qVB h];exact c a
  | _=>exact c a
def abl{κ:Nat->Kd}{xs ys:Array M}(h:KR κ Z xs ys)(ops:Array Kp)(g:∀o∈ops,∀d,o.dst=Y d->κ d≠.junk):aw ops xs=aw ops ys:=by
 funext j;unfold aw
 cases e:(ops[j]?).bind (·.dst)with
 | none=>rfl
 | some d=>
  have b:κ d≠.junk:=by
   obtain⟨o,i,f⟩:=Option.bind_eq_some_iff.1 e;exact g o (kq i) d f
  simp only[Option.bind_some]
  cases a:xs[d]? with
  | none=>
   have:ys[d]?=I:=by rw[Array.getElem?_eq_none_iff]at a |-; rw[<- h.1];exact a
   rw[this]
  | some x=>
   have hi:d<ys.size:=by rw[<- h.1];exact(ec.1 a).1
   have c:=fi hi;rw[c];have:=h.2 d x _ a c;revert this b;generalize ys[d]=y;generalize κ d=p;intro b r;cases r<;>first|rfl|exact mi rfl b
def US.mono(h:Z.le ρ'){e:Event}(a:US Z N e):US ρ' N e:=by
 unfold US at a|-;split at a
 .obtain⟨c,h2,b,s,d,f⟩:=a;exact⟨c,h2,b,s,h.at_ _ _ d,f⟩
 .obtain⟨c,b,h2,d⟩:=a;exact⟨c,b,h.at_ _ _ h2,d⟩
 .exact a
 .exact a.elim
def Kw.mono(h:Z.le ρ')(f:Kw Z N W w W1 bj):Kw ρ' N W w W1 bj:=
 ⟨f.size,f.size',f.drawn,f.drawn',f.tape,f.tape',f.os,f.output,λa d e=>f.eff a d λb s c g=>e b s c (h.at_ _ _ g)⟩
def oy.after(hle:Z.le ρ'){es eJ:Array Event}(r:Mem T P ρ' N W1 bj)(a:Does ρ' N W w W1 bj eJ){S S':GStep}(h:oy T P ρ' N k ds co W1 bj S S'):oy T P Z N k ds co W w (S.after es) (S'.after eJ):=by
 rcases h with⟨o,g,e,rfl⟩|⟨eI,fw,g,e,rfl,n⟩|⟨eI,fw,g,e,rfl,G,A,v,y,z,d,rfl,t,q,f⟩
 .exact .inl ⟨_,_,_,rfl⟩
 .exact .inr (.inl ⟨_,_,_,_,rfl,n⟩)
 .refine .NL (hle.tn d) t q ⟨(a.frm.mono d).tn f.frm,λx c=>?_,λb i s l p=>?_⟩
  .rcases q9A.1 c with c|c
   .exact(a.evs x c).mono d
   .exact f.evs x c
  .have B:=a.frm.size;have h2:=a.frm.size';have m:=f.fresh b i s l zz;obtain⟨u,E,C,j,-⟩:=r.hr b _ (fi m);have:=d.at_ _ _ j;rw[l]at this;cases this;exact a.fresh b i s j p
def Ak(a:∀n,zB W.tape W.drawn w.tape w.drawn n)(f:Kw Z N W w W1 bj)(n:Nat):zB W1.tape W1.drawn bj.tape bj.drawn n:=by
 have b:=f.drawn;have c:=f.drawn';have:=(a ((W1.drawn-W.drawn)+n)).tail;rw[show W.drawn+(W1.drawn-W.drawn)=W1.drawn by omega,show w.drawn+(W1.drawn-W.drawn)=bj.drawn by omega]at this;rw[f.tape,f.tape'];exact this
def NN{main:Bool}{fr da:Kf}(C:Mem T P Z N W w)(a7:jA T P Z k ds co fr cs da dp)(a4:∀f,T.has f=true->dX T P f=true)
  (a8:∀n,zB W.tape W.drawn w.tape w.drawn n)(a6:fr.mode=.run)(e':cs=[c0]->fr.todo=[]->k=[]):
  oy T P Z N k ds co W w (Lq P true (G fr cs) W) (Lq P main (G da dp) w):=by
 obtain⟨k0,g7,g,c6,c7,b2⟩:=a7.top;have c2:da.mode=.run:=g.mode.tn a6;have e1:∀(main:Bool) (fr:Kf) (cs:List Kf) (w:H),fr.mode=.run->Lq P main (G fr cs) w=Lq.exec P main true fr cs I w:=by
  intro main fr cs w h;simp only[Lq,G,h]
 rw[e1 _ _ _ _ a6,e1 _ _ _ _ c2];obtain⟨t,A,d6⟩:=g.todo;have tO:∀{td t:List Item},L2 (xH T P fr.fn Z) td t->oy T P Z N k ds co W w (.go (G {fr with todo:=td} cs) W #[]) (.go (G {da with todo:=t++k0} dp) w #[]):=λh=>
  .still (b2 Z _ _ (.refl Z) ⟨g.fn,g.tmps,⟨_,rfl,h⟩,g.defers,g.mode,g.live,g.early,g.round⟩ rfl rfl rfl) C
 have e5:fr.roundOf=I->oy T P Z N k ds co W w (.go (G {fr with mode:=.returning} cs) W #[]) (.go (G {da with mode:=.returning} dp) w #[]):=λf6=>
  .still (b2 Z _ _ (.refl Z) ⟨g.fn,g.tmps,g.todo,g.defers,rfl,.inr ⟨rfl,f6⟩,g.early,g.round⟩ rfl rfl rfl) C
 have round:∀{l K:Nat} (j:Option Ly),fr.roundOf=Y l->da.roundOf=Y K->Z l=Y (K,0)->(∀c,j=Y c->c=.ret\/∃B,c=.exit B)->
   oy T P Z N k ds co W w (GStep.after (seen P fr.fn ((Instr.endRound l j).runT P W #[]).2) (match((Instr.endRound l j).runT P W #[]).1 with
    | .ok v w=>doReturn P true fr cs I v w
    | .halt _ w=>.ended (.stuck "range over a function: no such loop" (fr.pos P)) w))
   (GStep.after (seen P da.fn ((Instr.endRound K j).runT P w #[]).2) (match((Instr.endRound K j).runT P w #[]).1 with
    | .ok v w=>doReturn P main da dp I v w
    | .halt _ w=>.ended (.stuck "range over a function: no such loop" (da.pos P)) w)):=by
  intro l K j hl g0 b8 a0;rcases m:(Instr.endRound l j).runT P W #[]with⟨r,es⟩
  cases r with
  | halt h W1=>exact .ended
  | ok v W1=>
   obtain⟨ρ',v',bj,b4,hle,c2,a3,V,O⟩:=C.step (R:=λρ'=>VR ρ') (λρ' hle a1 _=>Bg a1 (hle.at_ _ _ b8) a0) m (a8 _);rw[c2]
   cases a7 with
   | bottom h a9 g'=>rw[hl]at a9;cases a9
   | @push _ _ c c' cs dp h hk b0 Q g6=>
    have f5:fr.kind=.normal:=h.early.1;have g1:doReturn P true fr (c::cs) I v W1=.go (G (c.finish v) cs) W1 #[]:=by simp[doReturn,f5,G]
    have g2:doReturn P main da (c'::dp) I v' bj=.go (G (c'.finish v') dp) bj #[]:=by simp[doReturn,hk,G]
    dsimp only;rw[g1,g2];have f':C7 T c .val:=by
     unfold wJ at Q;rw[hl]at Q;exact Q
    exact .NL hle (g6.finish f' hle a3) V ⟨O.frm,by simpa using gQ O.evs,O.fresh⟩
 have leave:∀(j:Option Ly),(∀c,j=Y c->c=.ret\/∃B,c=.exit B)->∀{S S':GStep},
   (fr.roundOf=I->(j=I\/j=Y .ret)->S=.go (G {fr with mode:=.returning} cs) W #[]/\S'=.go (G {da with mode:=.returning} dp) w #[])->
   (fr.roundOf=I->(∃B,j=Y (.exit B))->∃o,S=.ended o W #[])->
   (∀l K,fr.roundOf=Y l->da.roundOf=Y K->S=(GStep.after (seen P fr.fn ((Instr.endRound l j).runT P W #[]).2) (match((Instr.endRound l j).runT P W #[]).1 with
    | .ok v w=>doReturn P true fr cs I v w
    | .halt _ w=>.ended (.stuck "range over a function: no such loop" (fr.pos P)) w))/\
    S'=(GStep.after (seen P da.fn ((Instr.endRound K j).runT P w #[]).2) (match((Instr.endRound K j).runT P w #[]).1 with
    | .ok v w=>doReturn P main da dp I v w
    | .halt _ w=>.ended (.stuck "range over a function: no such loop" (da.pos P)) w)))->oy T P Z N k ds co W w S S':=by
  intro j a0 S S' U h2 h3;have J:=g.round
  cases m:fr.roundOf with
  | none=>
   have O:(j=I\/j=Y .ret)\/∃B,j=Y (.exit B):=by
    cases j with
    | none=>exact .inl (.inl rfl)
    | some c=>
     rcases a0 c rfl with rfl|⟨B,rfl⟩
     .exact .inl (.inr rfl)
     .exact .inr ⟨B,rfl⟩
   rcases O with O|O
   .obtain⟨rfl,rfl⟩:=U m O;exact e5 m
   .obtain⟨o,rfl⟩:=h2 m O;exact .ended
  | some l=>
   rw[m]at J
   cases L:da.roundOf with
   | none=>rw[L]at J;cases J
   | some K=>
    rw[L]at J
    cases J with
    | some b8=>
     obtain⟨rfl,rfl⟩:=h3 l K m L;exact round j m L b8 a0
 generalize u:fr.todo=td at d6
 cases d6 with
 | nil=>
  have c1:k0=[]:=by
   by_cases z:cs=[c0]
   .rw[(c6 z).1];exact e' z u
   .exact(c7 z).1
  subst c1;simp only[List.append_nil]at A;have J:=g.round;refine leave I (λc h=>by cases h) (λm _=>?_) (λm h=>by obtain⟨B,h⟩:=h;cases h) λl K m L=>?_
  .have L:da.roundOf=I:=by rw[m]at J;cases h:da.roundOf with
    | none=>rfl
    | some _=>rw[h]at J;cases J
   simp only[Lq.exec,u,A,m,L];exact⟨rfl,rfl⟩
  .simp only[Lq.exec,u,A,m,L];exact⟨rfl,rfl⟩
 | cons b3 E=>
  rw[List.cons_append]at A
  cases b3 with
  | inBlock B=>simp only[Lq.exec,u,A];exact tO E
  | inLoop z=>simp only[Lq.exec,u,A];exact tO (.cons (.code z) (.cons (.inLoop z) E))
  | inScope z=>simp only[Lq.exec,u,A];exact tO E
  | inRangeFunc hl=>simp only[Lq.exec,u,A];exact .ended
  | beginRound=>
   simp only[Lq.exec,u,A];have J:=g.round;have b0:QD T fr I:=by unfold QD;rw[u];trivial
   cases m:fr.roundOf with
   | none=>
    cases L:da.roundOf with
    | some K=>rw[m,L]at J;cases J
    | none=>exact qU C a7 a6 b0 a4 (by exact qYB) λW1 es a h=>by cases h
   | some l=>
    cases L:da.roundOf with
    | none=>rw[m,L]at J;cases J
    | some K=>
     rw[m,L]at J
     cases J with
     | some b8=>exact qU C a7 a6 b0 a4 (bL (sj l) λ_=>trivial) λW1 es a h=>C.step (R:=λρ'=>xF (C3 T P) (T.kind fr.fn) I ρ') (λρ' hle a1 _=>af (xJ a1 (hle.at_ _ _ b8)) λ_ _ _=>aj .skip) h (a8 _)
  | @endRangeFunc l K hl=>
   simp only[Lq.exec,u,A];rcases m:(Instr.endLoop l).runT P W #[]with⟨r,es⟩;have d7:=E8 (xI (P:=P) l) W #[] C.fJ;rw[m]at d7
   cases r with
   | halt h W1=>
    cases h with
    | panic v=>exact .inr (.inl ⟨_,_,_,_,rfl,xK a7 d7.1 v (λch h=>by rw[a6]at h;cases h) fr rfl a7.collected.choose_spec.2.1⟩)
    | _=>exact .ended
   | ok j W1=>
    obtain⟨ρ',j',bj,b4,hle,c3,⟨a0,f4⟩,V,O⟩:=C.step (R:=λ_ (a b:Option Ly)=>a=b/\∀c,a=Y c->c=.ret\/∃B,c=.exit B) (λρ' hle a1 _=>Tu a1 (hle.at_ _ _ hl)) m (a8 _);subst a0;rw[c3];refine .NL hle (b2 ρ' _ _ hle ⟨g.fn,g.tmps.mono hle,⟨(j.map Item.code).toList++_,by simp,L2.append ?_ (E.mono λ_ _=>xH.mono hle)⟩,(g.mono hle).defers,g.mode,g.live,g.early,g.round.mono hle⟩ rfl rfl rfl) V ⟨O.frm,by simpa using gQ O.evs,O.fresh⟩
    cases j with
    | none=>exact .nil
    | some c=>
     refine .cons (.code ?_) .nil;rcases f4 c rfl with rfl|⟨B,rfl⟩<;>rfl
  | @inRegion ops todo d4=>
   cases todo with
   | nil=>simp only[Lq.exec,u,A];exact tO E
   | cons i rest=>
    simp only[Lq.exec,u,A,<- abl g.tmps ops λo b1 d O=>KL d4 b1 O];by_cases Q:((ops[i]?).map (Region.wanted · (aw ops fr.tmps))).getD false=true
    .rw[qWB Q,qWB Q]
     cases b1:ops[i]? with
     | none=>rw[b1]at Q;cases Q
     | some o=>
      have a5:eX T P (T.kind fr.fn) o=true:=by
       exact xE d4 b1
      have f7:∀c,o.op≠.defer c:=by
       intro c z;unfold eX at a5;rw[z]at a5;cases a5
      have d3:∀(fr:Kf) (e2:List Item) (cs:List Kf) (w:H),fr.todo=.inRegion ops (i::rest)::e2->Lq.oper P true fr cs I w=Lq.apply P true fr cs I (Hn fr.eval o) w:=by
       intro fr e2 cs w u;unfold Lq.oper;have:fr.oper?=Y o:=by unfold Kf.oper?;rw[u];exact b1
       rw[this];dsimp only;split
       .rename_i l c U h2;exact mi h2 (f7 c)
       .rfl
      rw[d3 fr _ cs W u,d3 da _ dp w A];refine qU C a7 a6 (dst:=o.dst) (by unfold QD;rw[u];dsimp only;rw[b1];rfl) a4 (IS C.tab a4 g.zL a5) λW1 es a h=>?_;by_cases c5:∃t d,o.op=.alloc t/\o.dst=Y d/\T.kind fr.fn d=.addrM
      .obtain⟨t,d,U,h2,h3⟩:=c5;obtain⟨dst,op,ty,pos,e4,e6⟩:=o;dsimp only at U h2;subst U h2;have d9:JH P t=true/\xD P t=true:=by
        simp only[eX,du,ib,nd]at a5;rcases a5.2 with b3|b3
        .rw[h3]at b3;cases b3
        .exact⟨a5.1,b3.2⟩
       have c8:∀(e:ae->M) (w:H),(Hn e ⟨Y d,.alloc t,ty,pos,e4,e6⟩).runT P w #[]=(match(Instr.alloc t true (.tuple #[])).runT P w #[]with|(.ok v w,es)=>(.ok (.value v) w,es)|(.halt h w,es)=>(.halt h w,es)):=by
        intro e w;show((Instr.alloc t true (.tuple #[])).bind λv=>(Sem.pure (Next.value v):Sem Next)).runT P w #[]=_;rw[Sem.runT_bind'];rcases(Instr.alloc t true (.tuple #[])).runT P w #[]with⟨r,es⟩;cases r<;>rfl
       rw[c8]at h;rcases m:(Instr.alloc t true (.tuple #[])).runT P W #[]with⟨r,g8⟩;rw[m]at h
       cases r with
       | halt x y=>cases h
       | ok v W2=>
        cases h;obtain⟨ρ',v',bj,b4,g1,g2,g3,g4,g5⟩:=C.Wr d9.1 d9.2 m;refine⟨ρ',.value v',bj,b4,g1,by rw[c8,g2],.value g3 λd' f1=>?_,g4,g5⟩;cases f1;exact .inr h3
      .exact C.step (R:=λρ'=>xF (C3 T P) (T.kind fr.fn) o.dst ρ') (λρ' hle a1 b5=>C6 a1 b5 a4 (g.mono hle).zL a5 λt d U h2 h3=>c5 ⟨t,d,U,h2,h3⟩) h (a8 _)
    .rw[qVB Q,qVB Q];have b9:=g.finish (p:=.val) (v:=D) (v':=D) (by rw[u];exact cn) (.tuple rfl λi x y h=>by simp at h);exact .still (b2 Z _ _ (.refl Z) b9.1 b9.2.1 b9.2.2.1 b9.2.2.2) C
  | @cut c c' hcut=>
   cases hcut with
   | stop=>simp only[Lq.exec,u];exact .ended
   | deadzz h=>simp only[Lq.exec,u];exact .ended
   | seqLzz b6 h=>
    simp only[Lq.exec,u,A];exact tO (.cons (.cut b6) (.cons (.cut h) E))
   | seqR b6 h=>
    simp only[Lq.exec,u,A];exact tO (.cons (.code b6) (.cons (.cut h) E))
   | @condL c a a' b b6 a9 h=>
    have a3:=bQ C.tab g.zL b6;simp only[Lq.exec,u,A];revert a3;generalize fr.eval c=x;generalize da.eval c=x';intro a3
    cases a3 with
    | bool q=>
     cases q
     .exact tO (.cons (.code a9) E)
     .exact tO (.cons (.cut h) E)
    | _=>exact .ended
  | @code c z=>
   cases c with
   | skip=>simp only[Lq.exec,u,A];exact tO E
   | label l=>simp only[Lq.exec,u,A];exact tO E
   | refuse h4=>simp only[Lq.exec,u,A];exact .ended
   | goto l=>cases z
   | seq a b=>
    simp only[ez,du]at z;simp only[Lq.exec,u,A];exact tO (.cons (.code z.1) (.cons (.code z.2) E))
   | block B b=>simp only[Lq.exec,u,A];exact tO (.cons (.code (c:=b) z) (.cons (.inBlock B) E))
   | loop b=>simp only[Lq.exec,u,A];exact tO (.cons (.code (c:=b) z) (.cons (.inLoop (c:=b) z) E))
   | scope b=>simp only[Lq.exec,u,A];exact tO (.cons (.code (c:=b) z) (.cons (.inScope (c:=b) z) E))
   | cond c a b=>
    simp only[ez,du]at z;have a3:=bQ C.tab g.zL z.1.1;simp only[Lq.exec,u,A];revert a3;generalize fr.eval c=x;generalize da.eval c=x';intro a3
    cases a3 with
    | bool q=>
     refine tO (.cons (.code ?_) E);cases q
     .exact z.2
     .exact z.1.2
    | _=>exact .ended
   | ret=>
    refine leave (Y .ret) (λc h=>by cases h;exact .inl rfl) (λm _=>?_) (λm h=>by obtain⟨B,h⟩:=h;cases h) λl K m L=>?_
    .have L:da.roundOf=I:=by
      have J:=g.round;rw[m]at J
      cases h:da.roundOf with
      | none=>rfl
      | some _=>rw[h]at J;cases J
     simp only[Lq.exec,u,A,m,L];exact⟨rfl,rfl⟩
    .simp only[Lq.exec,u,A,m,L];exact⟨rfl,rfl⟩
   | exit B=>
    cases b7:exitTo B _ with
    | some h1=>
     obtain⟨t1,U,h2⟩:=Bh B k0 E b7;simp only[Lq.exec,u,A,b7,U,Option.elim];exact tO h2
    | none=>
     refine leave (Y (.exit B)) (λc h=>by cases h;exact .inr ⟨B,rfl⟩) (λm h=>by rcases h with h|h<;>cases h) (λm _=>?_) λl K m L=>?_
     .simp only[Lq.exec,u,b7,m,Option.elim];exact⟨_,rfl⟩
     .have c1:k0=[]:=by
       by_cases z:cs=[c0]
       .have:=(c6 z).2.2.2.1;rw[m]at this;cases this
       .exact(c7 z).1
      subst c1;simp only[List.append_nil]at A;simp only[Lq.exec,u,A,b7,Da B E b7,m,L,Option.elim];exact⟨rfl,rfl⟩
   | region B ops draw=>
    cases draw with
    | false=>
     simp only[Lq.exec,u,A,Bool.not_false,if_true];exact tO (.cons (.inRegion _ (XN z _)) E)
    | true=>
     simp only[Lq.exec,u,A,g.fn];have e0:∀w:H,(choose (.order fr.fn B)).run P w=.ok ((Question.order fr.fn B).cut (w.tape w.drawn (.order fr.fn B))) {w with drawn:=w.drawn+1}:=λw=>rfl;simp only[e0,Bool.not_true,lO,if_false];rw[(a8 1).head zz (.order fr.fn B)];refine .NL (.refl Z) (b2 Z _ _ (.refl Z) ⟨rfl,g.tmps,⟨_,rfl,.cons (.inRegion _ (XN z _)) E⟩,g.defers,g.mode,g.live,g.early,g.round⟩ rfl rfl rfl) ⟨C.dom,C.cod,C.hN,C.sep,C.hr,C.tab⟩ ⟨⟨qN _,rfl,by simp,by simp;omega,rfl,rfl,rfl,rfl,λ_ _ _=>rfl⟩,by simp,λb b' s a9 _=>C.dom _ _ a9⟩
   | rangeFunc f c4 a b=>
    simp only[ez,du]at z;simp only[Lq.exec,u,A];rcases m:(Instr.enterLoop fr.fn fr.tmps c4 a b fr.roundOf).runT P W #[]with⟨r,es⟩
    cases r with
    | halt h W1=>exact .ended
    | ok x W1=>
     obtain⟨ρ',y,bj,b4,hle,c3,⟨hl,d2⟩,V,O⟩:=C.step (R:=λρ' (x y:Nat×List Deferred)=>ρ' x.1=Y (y.1,0)/\L2 (FK ρ') x.2 y.2)
      (λρ' hle a1 b5=>sk (by rw[b5];exact g.tmps.mono hle) c4 z.1.2 z.2 (g.round.mono hle)) m (a8 _)
     have f8:(Instr.enterLoop da.fn da.tmps c4 a b da.roundOf).runT P w #[]=(.ok y bj,b4):=by rw[g.fn];exact c3
     rw[f8];refine .after hle V (O.seen da.fn) ?_;obtain⟨l,mk⟩:=x;obtain⟨K,d0⟩:=y;dsimp only at hl d2|-;obtain⟨f0,f2,f3⟩:=(g.mono hle).defers;have f9:=b2 ρ' {fr with todo:=.inRangeFunc l::_,defers:=mk++fr.defers} {da with todo:=.inRangeFunc K::(_++k0),defers:=d0++da.defers} hle
      ⟨g.fn,g.tmps.mono hle,⟨_,by simp;rfl,.cons (.inRangeFunc hl) (E.mono λ_ _=>xH.mono hle)⟩,⟨d0++f0,by simp[f2],L2.append d2 f3⟩,g.mode,g.live,g.early,g.round.mono hle⟩ rfl rfl rfl
     have e8:∀f,ρ'.tab.has f=true->dX T P f=true:=by rw[V.tab];exact a4
     have d8:=bQ V.tab (g.mono hle).zL z.1.1;have e9:pM ρ' #[.func (.yield l) #[] #[]] #[.func (.yield K) #[] #[]]:=eH.nil.push (.funcOf (.yield hl) .nil .nil);have d5:∀(fr:Kf) (l:Nat),(do let d<-ab fr.eval {callee:=.value f,args:= #[.const (.func (.yield l) #[] #[])],argTypes:= #[]} 0;invoke d.target d.args:Sem Next)=
       (do let d<-Deferred.ofValue (fr.eval f) #[.func (.yield l) #[] #[]];invoke d.target d.args):=λfr l=>by simp[ab,Kf.eval]
     have c9:∀(fr:Kf) (td:List Item) (df:List Deferred),({fr with todo:=td,defers:=df}:Kf).eval f=fr.eval f:=λfr td df=>by cases f<;>rfl
     rw[d5,d5,c9,c9];refine qU V f9 a6 (dst:=I) (by unfold QD;trivial) a4 (Uu e8 d8 (λh=>by cases h) _) λW2 g9 a2 e7=>?_;exact V.step (R:=λe3=>xF (C3 T P) (T.kind fr.fn) I e3) (λe3 d1 a1 b5=>mS (by rw[b5];exact a4) (d8.mono d1) (e9.mono d1) (.inr rfl)) e7 (Ak a8 O.frm _)
end
variable{main:Bool}
section
variable{ds:List Deferred}{co:List Kf×CallKind}
def step_ret(J:Mem T P Z N W w)(Q:jA T P Z k ds co fr cs da dp)(a2:∀f,T.has f=true->dX T P f=true)
  (S:∀n,zB W.tape W.drawn w.tape w.drawn n)(p:fr.mode=.returning)(a5:cs=[c0]->fr.defers≠[]):
  oy T P Z N k ds co W w (Lq P true (G fr cs) W) (Lq P main (G da dp) w):=by
 obtain⟨k0,V,e,b4,a4,a9⟩:=Q.top;have K:da.mode=.returning:=e.mode.tn p;have L:fr.roundOf=I:=by
  rcases e.live with h|h
  .rw[p]at h;cases h
  .exact h.2
 have e1:∀(main:Bool) (fr:Kf) (cs:List Kf) (w:H),fr.mode=.returning->Lq P main (G fr cs) w=unwind P main fr cs I w:=by
  intro main fr cs w h;simp only[Lq,G,h]
 rw[e1 _ _ _ _ p,e1 _ _ _ _ K];obtain⟨t,q,E⟩:=e.defers;generalize s:fr.defers=df at E
 cases E with
 | @cons d d' l l' b2 a'=>
  rw[List.cons_append]at q
  cases b2 with
  | @mk r r' b3=>
   simp only[unwind,s,q];rcases A:(Instr.takeDeferred r).runT P W #[]with⟨C,es⟩
   cases C with
   | halt h m=>exact .ended
   | ok x m=>
    obtain⟨j,y,bj,a1,hle,B,⟨rfl,rfl⟩,z,g⟩:=J.step (R:=λ_ (a b:List Deferred)=>a=[]/\b=[]) (λj hle O _=>uF O (hle.at_ _ _ b3)) A (S _);rw[B];exact .NL hle (a9 j _ _ hle ⟨e.fn,e.tmps.mono hle,(e.mono hle).todo,⟨l',rfl,a'.mono λ_ _=>FK.mono hle⟩,e.mode,e.live,e.early,e.round.mono hle⟩ rfl rfl rfl) z ⟨g.frm,by simpa using gQ g.evs,g.fresh⟩
 | nil=>
  cases Q with
  | bottom h hb b5=>exact mi s (a5 rfl)
  | @push _ _ c c' cs dp h hk i hw U=>
   have a7:V=[]:=(a4 (λh=>mi (List.cons.inj h).2 U.ne)).2;subst a7;have a6:da.defers=[]:=by simpa using q
   have a8:T.has fr.fn=true:=by
    rcases i with i|i
    .exact i
    .rw[L]at i;cases i
   have o:=a2 _ a8
   cases u:P.funcs[fr.fn]? with
   | none=>unfold dX at o;rw[u]at o;cases o
   | some fn=>
    simp only[unwind,s,a6,p,K,e.fn,u];rcases A:(results fn fr.tmps).runT P W #[]with⟨C,es⟩
    cases C with
    | halt x m=>cases x<;>exact .ended
    | ok v m=>
     obtain⟨j,v',bj,a1,hle,B,a0,z,g⟩:=J.step (R:=λj=>dM j (T.ret fr.fn)) (λj hle O a3=>Iw a3 u o (e.tmps.mono hle)) A (S _);rw[B];have g1:doReturn P true fr (c::cs) I v m=.go (G (c.finish v) cs) m #[]:=by simp[doReturn,h.early.1,G]
     have g2:doReturn P main da (c'::dp) I v' bj=.go (G (c'.finish v') dp) bj #[]:=by simp[doReturn,hk,G]
     dsimp only;rw[g1,g2];have b1:C7 T c (T.ret fr.fn):=by
      unfold wJ at hw;rw[L]at hw;exact hw
     exact .NL hle (U.finish b1 hle a0) z ⟨g.frm,by simpa using gQ g.evs,g.fresh⟩
def NO(d:Mem T P Z N W w)(b:jA T P Z k ds co fr cs da dp)(c:∀f,T.has f=true->dX T P f=true)
  (e:∀n,zB W.tape W.drawn w.tape w.drawn n)(g:cs=[c0]->fr.mode=.run->fr.todo=[]->k=[])(h2:cs=[c0]->fr.mode=.returning->fr.defers≠[]):
  oy T P Z N k ds co W w (Lq P true (G fr cs) W) (Lq P main (G da dp) w):=by
 obtain⟨k0,j,i,-⟩:=b.top;rcases i.live with h|h
 .exact NN d b c e h λa=>g a h
 .exact step_ret d b c e h.1 λa=>h2 a h.1
end
def mF{r:Nat}(h:W.fJ){x:List Deferred}(a:(Instr.takeDeferred r).runT P W #[]=(.ok x W1,es)):x=[]:=by
 cases b:W.heap[r]? with
 | none=>
  have:(Instr.takeDeferred r).runT P W #[]=(.halt (.stuck "getObj: no such block") W, #[]):=by
   simp only[Instr.takeDeferred,getObj,bind,Sem.bind,Sem.runT,b]
  rw[this]at a;cases a
 | some o=>
  have d:=h _ _ b
  cases o with
  | deferred c=>
   cases c with
   | none=>
    simp only[Instr.takeDeferred,getObj,bind,Sem.bind,Sem.runT,b]at a;cases a
   | some l=>
    cases l with
    | cons _ _=>exact d.elim
    | nil=>
     simp only[Instr.takeDeferred,getObj,setObj,bind,pure,Sem.bind,Sem.runT,b]at a;cases a;rfl
  | _=>
   simp only[Instr.takeDeferred,getObj,bind,Sem.bind,Sem.runT,b]at a;cases a
def KQ(h:NK fr cs W):(∃o W1 es,Lq P true (G fr cs) W=.ended o W1 es)\/(∃eI fw W1 es,Lq P true (G fr cs) W=.go (G eI fw) W1 es/\NK eI fw W1):=by
 obtain⟨⟨ch,i⟩,h⟩:=h;have e1:Lq P true (G fr cs) W=unwind P true fr cs I W:=by simp only[Lq,G,i]
 rw[e1];rcases h with⟨p,rfl,m,j,k⟩|t
 .cases g:fr.defers with
  | cons d l=>
   obtain⟨r,b⟩:=m d (by rw[g];simp);obtain⟨v,ar⟩:=d;dsimp only at b;subst b;simp only[unwind,g];rcases b:(Instr.takeDeferred r).runT P W #[]with⟨u,es⟩;have n:=E8 (j9 (P:=P) r) W #[] k;rw[b]at n
   cases u with
   | halt x W1=>exact .inl ⟨_,_,_,rfl⟩
   | ok x W1=>
    obtain rfl:=mF k b;exact .inr ⟨_,_,_,_,rfl,⟨ch,i⟩,.inl ⟨p,rfl,λd q=>m d (by rw[g];exact List.mem_cons_of_mem _ q),j,n.1⟩⟩
  | nil=>
   simp only[unwind,g,i];by_cases a:fr.catches P=true
   .rw[qWB a];exact .inl ⟨_,_,_,rfl⟩
   .rw[qVB a]
    cases p with
    | cons c rest=>
     have a:=j c ss;have e:c.raise ch= {c with mode:=.panicking ch}:=by
      unfold Kf.raise;rw[a.1]
     refine .inr ⟨_,_,_,_,rfl,?_⟩;rw[e];exact⟨⟨ch,rfl⟩,.inl ⟨rest,rfl,a.2,λf s=>j f (by simp[s]),k⟩⟩
    | nil=>exact .inr ⟨_,_,_,_,rfl,⟨ch,rfl⟩,.inr rfl⟩
 .simp only[unwind,t,callDeferred,i];exact .inl ⟨_,_,_,rfl⟩
def Qy{g:QP}(h:Lq P true (G fr cs) W=.go g W1 es)(b:g.status=.running):
  step P (lone fr cs W)=.next {world:=W1,gs:= #[g],rest:= {timers:= #[],alone:=I,slice:=I}}:=by
 have a:Lq P true {frame:=fr,callers:=cs,status:=.running,dying:=I} W=.go g W1 es:=h;rw[step,stepT,move_lone];simp[runT,lone,Array.swapAt!, a]
def FO{I:Machine->Prop}{m m':Machine}(j:StepsIn I P m m'):∀{fr:Kf} {cs:List Kf} {W:H} {da:Kf} {dp:List Kf} {c:H},m=lone fr cs W->NK fr cs W->m'=lone da dp c->(∀ch,da.mode≠.panicking ch)->False:=by
 induction j with
 | refl m=>
  intro fr cs W da dp c e d a f;rw[e]at a;have:fr=da:=by simp[lone]at a;exact a.2.1
  subst this;exact f _ d.1.choose_spec
 | @head m p m2 l b n k=>
  intro fr cs W da dp c e d a f;subst e;rcases KQ d with⟨o,W1,es,h⟩|⟨eI,fw,W1,es,h,i⟩
  .have:=step_lone_ended (P:=P) (fr:=fr) (cs:=cs) (w:=W) (o:=o) (w':=W1) (by
    have g:Lq P true {frame:=fr,callers:=cs,status:=.running,dying:=Fl} W=.ended o W1 es:=h;rw[g];rfl)
   rw[this]at b;cases b
  .rw[Qy h rfl]at b;cases b;exact k rfl i a f
section
variable{ds:List Deferred}{co:List Kf×CallKind}
def jT(W:H)(S:H->GStep):Prop:=∀eI fw a es,S W=.go (G eI fw) a es->(∀ch,eI.mode≠.panicking ch)->∃n,a.drawn=W.drawn+n/\a.tape=W.tape/\
 ∀b d,zB W.tape W.drawn b d n->S (tp W b d)=.go (G eI fw) (tp a b (d+n)) es
def jT.still{S:H->GStep}{g:QP}{es:Array Event}(h:∀w,S w=.go g w es):jT W S:=by
 intro eI fw b c a _;rw[h]at a;cases a;exact⟨0,rfl,rfl,λe d _=>by rw[h];rfl⟩
def jT.ended{S:H->GStep}(h:∃o a es,S W=.ended o a es):jT W S:=by
 intro eI fw a d b _;obtain⟨o,c,es,h⟩:=h;rw[h]at b;cases b
def jT.sem{α:Type}{s:Sem α}(J:aB P s){S:H->GStep}{f:Array Event->Array Event}{K:α->H->GStep}
  (q:∀a b es,s.runT P W #[]=(.ok a b,es)->∀w bj,s.runT P w #[]=(.ok a bj,es)->S w=GStep.after (f es) (K a bj))(B:∀a b es,s.runT P W #[]=(.ok a b,es)->jT b (K a))
  (E:∀h b es,s.runT P W #[]=(.halt h b,es)->∀eI fw k e,S W=.go (G eI fw) k e->∃ch,eI.mode=.panicking ch):jT W S:=by
 intro eI fw k Q i p;rcases c:s.runT P W #[]with⟨r,es⟩
 cases r with
 | halt h b=>
  obtain⟨ch,C⟩:=E h b es c _ _ _ _ i;exact mi C (p ch)
 | ok a b=>
  have t:=Ke J W #[] (by rw[c];trivial);rw[c]at t;obtain⟨n,z,h2,A⟩:=t;have l:b.drawn=W.drawn+n:=z;have o:b.tape=W.tape:=h2;rw[q a b es c W b c]at i
  cases hk:K a b with
  | go g N O=>
   rw[hk]at i;simp only[GStep.after,GStep.go.injEq]at i;obtain⟨rfl,rfl,rfl⟩:=i;obtain⟨m,v,x,y⟩:=B a b es c _ _ _ _ hk p;refine⟨n+m,by rw[v,l,Nat.add_assoc],x.tn o,λj d u=>?_⟩;have L:=A j d (u.le zz);rw[q a b es c _ (tp b j (d+n)) L,y j (d+n) (by rw[l,o];exact u.tail),Nat.add_assoc];rfl
  | _=>rw[hk]at i;cases i
def Plain:Next->Prop
 | .value _|.skip|.enter .. | .round .. => True
 | _=>False
def xF.plain{ok:Ok}{κ:Nat->Kd}{dst:Option Tmp}{a b:Next}(h:xF ok κ dst Z a b):Plain a:=by cases h<;>trivial
def sM{fr:Kf}{cs:List Kf}(q:fr.mode=.run)(hk:fr.kind=.normal){s:Sem Next}(k:aB P s)(r:W.fJ)(n:∀a c es,s.runT P W #[]=(.ok a c,es)->Plain a):
  jT W (λW=>Lq.apply P true fr cs I s W):=by
 have j:(fr.kind==CallKind.early)=false:=by rw[hk];rfl
 refine jT.sem k (f:=seen P fr.fn) (K:=λa w=>match a with
  | .value v=>.go (G (fr.finish v) cs) w
  | .skip=>.go (G (fr.finish D) cs) w
  | .enter f args=>.go (G (Kf.enter P f args (match fr.todo with|.call _ true _ _::_=>.wrapped|_=>.normal)) (fr::cs)) w
  | .round l f tmps a b=>.go (G (Kf.round l f tmps a b .normal) (fr::cs)) w
  | _=>.ended (.stuck "" "") w) (λa c es g w bj p=>?_) (λa c es g=>?_) λh c es g eI fw t e d=>?_
 .have i:=n a c es g;simp only[Lq.apply,p,if_true,j,lO,if_false];cases a<;>first|rfl|exact i.elim
 .have i:=n a c es g;cases a<;>first|exact .still λ_=>rfl|exact i.elim
 .have o:=(E8 k W #[] r).2 h c (by rw[g]);simp only[Lq.apply,g,if_true,j,lO,if_false]at d
  cases h with
  | panic v=>
   simp only[GStep.after,GStep.go.injEq]at d;obtain⟨d,-⟩:=d;have:eI=fr.raise [{v,recovered:=false}]:=by have:=cd QP.frame d;exact this.symm
   refine⟨[{v,recovered:=false}],?_⟩;rw[this];unfold Kf.raise;rw[q]
  | unsupported u=>
   cases u<;>first|exact o.elim|(cases d;done)
  | stuck m=>cases d
  | _=>exact o.elim
end
end Go.Co
