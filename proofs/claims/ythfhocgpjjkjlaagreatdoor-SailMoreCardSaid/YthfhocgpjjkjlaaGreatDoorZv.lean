import Derived.Test.YthfhocgpjjkjlaaGreatDoorZq
import Derived.Test.YthfhocgpjjkjlaaGreatDoorZr
import Derived.Test.YthfhocgpjjkjlaaGreatDoorZt
import Derived.Test.YthfhocgpjjkjlaaGreatDoorZu
import Derived.Conc.CompanyDraw
set_option maxRecDepth 100000
set_option maxHeartbeats 4000000
set_option linter.all false
noncomputable section
open Go renaming undef->D,World->H,Value->Ha,execOp->Hn,Frame->Kf,Oper->Kp,TypeId->Lk,Code->Ly,Value->M,Calls->PH,Goroutine->QP,heap_alloc_new->Sp,resolve->ab,Operand->ae,MemOp->al,yielded->aw,FuncId->ba
open Go.Proofs.Tryz renaming prog->F
open Option renaming none->I,some->Y
namespace Go
def rL{p:Prop}(h:p:=by
 have hk:=Ca 5;have o:=b.co;have j:=o.refl;refine WalkE.reg rfl ?_;refine WalkE.dV b.box b.gV rfl rfl (ft s) rfl zz rfl hk ?_
 first
 |have _:=ø
  refine cr.row (L:=[0]) o rfl rfl zz wnn hk (λ_=>EM rfl λ_=>rfl) dd λP q u t o l x=>?_;have b:=b.bH l;have j:=j.tn l;obtain⟨B,T,J⟩:=x.sl dd;refine WalkE.pv (aF 1 (fF P)) rfl rfl zz wnn hk (λ_=>(wX rfl (λ_=>rfl) (ft (rfl.tn B))).1) (λ_=>(wX rfl (λ_=>rfl) (ft (rfl.tn B))).2) ?_;refine cr.uu b.co rfl rfl (Is (ft rfl) (ft rfl) rfl) rfl zz wnn hk (λ_=>⟨rfl,rfl⟩) rfl rfl (λe0 hB=>ur (dD b.book) (qI J) (.int _ _)) (λe0 n=>by have h:=b.on e0 n (oH _ _ 1 (fF P) [0] 1) (pn T J n q.drawn);rw[MT]at h;exact h) λy w2 S R o v r=>?_;have x:=x.bH v;have b:=b.bH v;have j:=j.tn v;refine wss ?_;exact WalkE.aT (next _ _ _ _ j (λi hi n6 n7=>nk) _ r rfl rfl)
 |have _:=å
  refine cr.row (L:=[6]) o rfl rfl zz wnn hk (λ_=>EM rfl λ_=>rfl) dd λQ q u t o l A=>?_;have b:=b.bH l;have j:=j.tn l;obtain⟨G,Z,N⟩:=A.sl dd;refine WalkE.pv (aF 1 (fF Q)) rfl rfl zz wnn hk (λ_=>(wX rfl (λ_=>rfl) (ft (rfl.tn G))).1) (λ_=>(wX rfl (λ_=>rfl) (ft (rfl.tn G))).2) ?_;refine cr.jZ b.co rfl rfl (oh (ft rfl) (ft rfl)) rfl zz wnn hk (λ_=>⟨rfl,rfl⟩) rfl rfl (λe0 hB=>iO (dD b.book) (qI N)) (zg (dQ _) (aG _ _)) (λe0 n=>(b.on e0 n (pE _ _ 1 (fF Q) [6]) (pn Z N n q.drawn)).mono λe W h=>by rw[aam]at h;exact h.1) λw2 S R o v=>?_;have A:=A.bH v;have b:=b.bH v;have j:=j.tn v;refine wss ?_;exact WalkE.aT (next _ _ _ _ j (λi hi n8 n9=>nk)   rfl rfl)
 |have _:=æ
  refine cr.jZ b.co rfl rfl (mY (ft rfl)) rfl zz wnn hk (λ_=>⟨rfl,rfl⟩) rfl rfl (λe0 hB=>jy (dD b.book)) (zg (aG _ _) (aG _ _)) (λe0 n=>(b.on e0 n (vG _ _)).mono λe W h=>by rw[MU]at h;exact h.1) λq u t o l=>?_;have b:=b.bH l;have j:=j.tn l;refine wss ?_;exact WalkE.aT (next _ _ _ _ j (λi hi a3 a4=>nk)   rfl rfl)
 |have _:=ë
  refine cr.uu b.co rfl rfl (mY (ft rfl)) rfl zz wnn hk (λ_=>⟨rfl,rfl⟩) rfl rfl (λe0 hB=>jy (dD b.book)) (λe0 n=>by have h:=b.on e0 n (DT _ _);rw[MX]at h;exact h) λy q u t o l r=>?_;have b:=b.bH l;have j:=j.tn l;refine wss ?_;exact WalkE.aT (next _ _ _ _ j (λi hi a5 a6=>nk) _ r rfl rfl)
 |have _:=ï
  refine cr.jZ b.co rfl rfl (oh (ft rfl) rfl) rfl zz wnn hk (λ_=>⟨rfl,rfl⟩) rfl rfl (λe0 hB=>iO (dD b.book) (.int _ _)) (zg (aG _ _) (aG _ _)) (λe0 n=>(b.on e0 n (λ_ a c=>Lr _ _ 6 _ a c)).mono λe W h=>by rw[TU]at h;exact h.1) λq u t o l=>?_;have b:=b.bH l;have j:=j.tn l;refine wss ?_;exact WalkE.aT (next _ _ _ _ j (λi hi a7 n3=>nk)   rfl rfl)
 |have _:=ö
  refine cr.jZ b.co rfl rfl (Is (ft rfl) rfl rfl) rfl zz wnn hk (λ_=>⟨rfl,rfl⟩) rfl rfl (λe0 hB=>ur (dD b.book) (.int _ _) (.int _ _)) (zg (aG _ _) (aG _ _)) (λe0 n=>(b.on e0 n (ya _ _ 0 3)).mono λe W h=>by rw[MV]at h;exact h.1) λq u t o l=>?_;have b:=b.bH l;have j:=j.tn l;refine wss ?_;exact WalkE.aT (next _ _ _ _ j (λi hi a8 n5=>nk)   rfl rfl)
 |have _:=ü
  refine cr.jZ b.co rfl rfl (Is (ft rfl) rfl rfl) rfl zz wnn hk (λ_=>⟨rfl,rfl⟩) rfl rfl (λe0 hB=>ur (dD b.book) (.int _ _) (.int _ _)) (zg (aG _ _) (aG _ _)) (λe0 n=>(b.on e0 n (ya _ _ 1 4)).mono λe W h=>by rw[MW]at h;exact h.1) λq u t o l=>?_;have b:=b.bH l;have j:=j.tn l;refine wss ?_;exact WalkE.aT (next _ _ _ _ j (λi hi a9 n7=>nk)   rfl rfl)
 |have _:=þ
  refine cr.PX b.co rfl rfl (oh (ft rfl) rfl) rfl zz wnn hk (λ_=>⟨rfl,rfl⟩) rfl rfl (λe0 hB=>iO (dD b.book) (.int _ _)) (λe0 n=>by have h:=b.on e0 n (Of _ _ 1);rw[XZ]at h;exact h) λy z q u t o l r r9=>?_;have b:=b.bH l;have j:=j.tn l;refine wss ?_;exact WalkE.aT (next _ _ _ _ j (λi hi n2 n4 n9=>nk) _ _ r r9 rfl rfl rfl)
 |have _:=ð
  refine cr.uu b.co rfl rfl (mY (ft rfl)) rfl zz wnn hk (λ_=>⟨rfl,rfl⟩) rfl rfl (λe0 hB=>jy (dD b.book)) (λe0 n=>by have h:=b.on e0 n (Lu _ _);rw[TV]at h;exact h) λy q u t o l r=>?_;have b:=b.bH l;have j:=j.tn l;refine wss ?_;exact WalkE.aT (next _ _ _ _ j (λi hi n6 a1=>nk) _ r rfl rfl)
 |have _:=ñ
  refine WalkE.pv (aF 1 iy) rfl rfl zz wnn hk (λ_=>(wW rfl λ_=>rfl).1) (λ_=>(wW rfl λ_=>rfl).2) ?_;refine cr.uu b.co rfl rfl (Is (ft rfl) (ft rfl) rfl) rfl zz wnn hk (λ_=>⟨rfl,rfl⟩) rfl rfl (λe0 hB=>ur (dD b.book) (qI (PV (m:=0))) (.int _ _)) (λe0 n=>by have h:=b.on e0 n (oH _ _ 1 iy [] 1) PW;rw[MR]at h;exact h) λy q u t o l r=>?_;have b:=b.bH l;have j:=j.tn l;refine wss ?_;exact WalkE.aT (next _ _ _ _ j (λi hi n2 n3=>nk) _ r rfl rfl)
 |have _:=ç
  refine WalkE.pv (aF 1 iy) rfl rfl zz wnn hk (λ_=>(wW rfl λ_=>rfl).1) (λ_=>(wW rfl λ_=>rfl).2) ?_;refine cr.jZ b.co rfl rfl (oh (ft rfl) (ft rfl)) rfl zz wnn hk (λ_=>⟨rfl,rfl⟩) rfl rfl (λe0 hB=>iO (dD b.book) (qI (PV (m:=0)))) (zg (dQ _) (aG _ _)) (λe0 n=>(b.on e0 n (pE _ _ 1 iy []) PW).mono λe W h=>by rw[aan]at h;exact h.1) λq u t o l=>?_;have b:=b.bH l;have j:=j.tn l;refine wss ?_;exact WalkE.aT (next _ _ _ _ j (λi hi a2 a1=>nk)   rfl rfl)
 |refine WalkE.pv (aF 0 iy) rfl rfl zz wnn hk (λ_=>(JB rfl).1) (λ_=>(JB rfl).2) ?_
  refine cr.uu b.co rfl rfl (Is (ft rfl) (ft rfl) rfl) rfl zz wnn hk (λ_=>⟨rfl,rfl⟩) rfl rfl (λe0 hB=>ur (dD b.book) (qI (PV (m:=0))) (.int _ _)) (λe0 n=>by have h:=b.on e0 n (oH _ _ 0 iy [] 1) PW;rw[MS]at h;exact h) λy q u t o l r=>?_;have b:=b.bH l;have j:=j.tn l;refine wss ?_;exact WalkE.aT (next _ _ _ _ j (λi hi n4 n5=>nk) _ r rfl rfl)):p:=h
def sD{p:Prop}(h:p:=by
 have hk:=Ca 5;first|have _:=ø;have b:=a.co.refl|have j:=a.co;have b:=j.refl
 refine WalkE.reg rfl ?_;refine WalkE.dV a.box a.gV rfl rfl (ft k) rfl zz rfl hk ?_;first|have _:=å;refine cr.PY a.co rfl rfl (mY (ft rfl)) rfl zz wnn hk (λ_=>⟨rfl,rfl⟩) rfl rfl (λe0 hB=>jy (dD a.book)) (λe0 d=>by have h:=a.on e0 d (MG _ _);rw[TY]at h;exact h) λy n m l j c r=>?_;have a:=a.bH c;have b:=b.tn c;refine wss ?_;exact WalkE.aT (next _ _ _ _ b (λi hi a5 a6 J=>nk) _ r rfl rfl rfl)|have _:=æ;refine cr.jZ a.co rfl rfl (mY (ft rfl)) rfl zz wnn hk (λ_=>⟨rfl,rfl⟩) rfl rfl (λe0 hB=>jy (dD a.book)) (zg (aG _ _) (aG _ _)) (λe0 d=>(a.on e0 d (Ia _ _)).mono λe W h=>by rw[QH]at h;exact h.1) λn m l j c=>?_;have a:=a.bH c;have b:=b.tn c;refine wss ?_;exact WalkE.aT (next _ _ _ _ b (λi hi a7 Q=>nk)   rfl rfl)|have _:=ë;refine cr.jZ a.co rfl rfl (mY (ft rfl)) rfl zz wnn hk (λ_=>⟨rfl,rfl⟩) rfl rfl (λe0 hB=>jy (dD a.book)) (aas (aG _ _) (dQ _) (aG _ _)) (λe0 d=>(a.on e0 d (DZ _ _)).mono λe W h=>by rw[X0]at h;exact h.1) λn m l j c=>?_;have a:=a.bH c;have b:=b.tn c;refine wss ?_;exact WalkE.aT (next _ _ _ _ b (λi hi S T n3=>nk)   rfl rfl rfl)|have _:=ï;refine cr.jZ a.co rfl rfl (mY (ft rfl)) rfl zz wnn hk (λ_=>⟨rfl,rfl⟩) rfl rfl (λe0 hB=>jy (dD a.book)) (abw (aG _ _) (aG _ _) (aG _ _) (aG _ _)) (λe0 d=>(a.on e0 d (LG _ _)).mono λe W h=>by rw[X5]at h;exact h.1) λn m l j c=>?_;have a:=a.bH c;have b:=b.tn c;refine wss ?_;exact WalkE.aT (next _ _ _ _ b (λi hi Z a1 a2 n5=>nk)   rfl rfl rfl rfl)|have _:=ö;refine cr.jZ a.co rfl rfl (oh (ft rfl) rfl) rfl zz wnn hk (λ_=>⟨rfl,rfl⟩) rfl rfl (λe0 hB=>iO (dD a.book) (.int _ _)) (aas (dQ _) (dQ _) (aG _ _)) (λe0 d=>(a.on e0 d (Au _ _ 1)).mono λe W h=>by rw[TX]at h;exact h.1) λn m l j c=>?_;have a:=a.bH c;have b:=b.tn c;refine wss ?_;exact WalkE.aT (next _ _ _ _ b (λi hi n8 a4 P=>nk)   rfl rfl rfl)|have _:=ü;refine cr.QK a.co a.book (QJ C U E X) rfl rfl (oh (ft rfl) rfl) rfl zz wnn hk λC' s q X' n m l j c u=>?_;rw[Fa]at u;have b:=b.tn c;refine wss ?_;refine cr.box j u rfl rfl rfl zz rfl rfl rfl (ft rfl) (λv=>zu zz zz) rfl rfl hk λg' L B A G t N hle=>?_;have b:=b.tn t;refine wss ?_;exact WalkE.aT (next _ _ _ _ b (λi hi a3 n7=>nk) g' C' s q X' G rfl rfl)|(refine cr.jZ (v:=.tuple #[.agg #[.int .i64 0,.int .i64 2],.int .i64 0]) (args:= #[(dS C U E X).v,.int .i64 6]) a.co rfl rfl (oh (ft rfl) rfl) rfl zz wnn hk (λ_=>⟨rfl,rfl⟩) rfl rfl (λe0 hB=>iO (dD a.book) (.int _ _)) (zg (qV (by intro x z;simp at z;rcases z with rfl|rfl<;>exact aG _ _)) (aG _ _)) (λe0 d=>(Gr (dS C U E X) fR 6 (tp (gw TA V e0 w) d w.drawn) (a.book.gw d w.drawn) (a.co.checks.gw d w.drawn)).mono λe W h=>by rw[QG]at h;exact h.1) λn m l j c=>?_;have b:=b.tn c;refine wss ?_;refine cr.abv j rfl rfl rfl zz rfl rfl rfl (λv=>ft rfl) rfl rfl hk λo L B A j t hB=>?_;have b:=b.tn t;refine wss ?_;exact WalkE.aT (next _ _ _ _ b (λi hi R J=>nk) o hB rfl rfl))):p:=h
def xaL{p:Prop}(h:p:=by
 unfold Hn;simp only[f,g,zM];exact⟨by go_simp;try rfl,by simp[go_sem]⟩):p:=h
def vM{p:Prop}(h:p:=by
 have hk:=Ca 5;have d:=c.refl;first|have _:=ø;skip|refine WalkE.Zr rfl rfl (ft h229) (ft h230) rfl zz (az rfl rfl zz h228) hk ?_
 refine wss ?_;exact next _ _ _ _ c d (λi hi=>nk)   rfl):p:=h
def xap{p:Prop}(h:p:=by
 simp only[dq,fp,or_false]at k;have hk:=Ca 5;have g:=c.refl;rcases k with rfl|rfl
 first
 |have _:=ø
  (all_goals
    iterate 2 (first|refine WalkE.av (y6) rfl (.inl rfl) (ft h6) rfl zz (az rfl rfl zz h222) hk ?_|(refine cr.row (L:=[0,1]) c rfl rfl zz (az rfl rfl zz h222) hk (λ_=>qF rfl λ_=>rfl) dd λm r o n c j t=>?_;have g:=g.tn j))
    exact next _ _ _ _ c g (λi hi=>nk) _ t h222 rfl rfl)
 |have _:=å
  (all_goals
    iterate 2 (first|refine WalkE.JL hB rfl rfl (ft h19) rfl zz (az rfl rfl zz h228) hk ?_|(refine cr.jZ c rfl rfl (oh rfl rfl) rfl zz (az rfl rfl zz h228) hk (λ_=>⟨rfl,rfl⟩) rfl rfl (λe0 hB=>iO (.int _ _) (.int _ _)) (qV (by intro x q;simp at q;rcases q with rfl|rfl<;>exact aG _ _)) (λe0 u=>(H6 0 2 _).mono λe W h=>h.1) λr o n c j=>?_;have hB:=hB.bH j;have g:=g.tn j))
    exact next _ _ _ _ c g (λi hi=>nk)   h228 rfl rfl)
 |all_goals
   iterate 2 (first|refine WalkE.av (y4) rfl (.inl rfl) (ft h4) rfl zz (az rfl rfl zz h216) hk ?_|(refine cr.row (L:=[2,3,4,5,6]) c rfl rfl zz (az rfl rfl zz h216) hk (λ_=>yU rfl λ_=>rfl) dd λl r o n c j s=>?_;have g:=g.tn j))
   exact next _ _ _ _ c g (λi hi=>nk) _ s h216 rfl rfl):p:=h
def yX{p:Prop}(h:p:=by
 kernel_rfl):p:=h
end Go
namespace Go.Proofs.YthfhocgpjjkjlaaGreatDoor
open Go.RowKit Go.Co Go.Conc
variable{s c a b:Int}{Z:ae->M}{o:Kp}{w:H}
theorem kJ{fn:ba}{xs:Array ae}{ts:Array Lk}{args:Array M}(b:o.op=.call {callee:=.value (.func fn),args:=xs,argTypes:=ts})(a:xs.map Z=args)(c:Z (.func fn)=.func (.func fn) #[] #[])
  (hc:∀w,(callFunc fn args).run F w=.ok (.enter fn args) w/\(callFunc fn args).events F w #[]= #[]):(Hn Z o).run F w=.ok (.enter fn args) w/\(Hn Z o).events F w #[]= #[]:=xaH
theorem wW(a:o.op=.build 46 #[(0,.const (.int .i64 s))])(b:∀v,Z (.const v)=v):(Hn Z o).run F w=.ok (.value (aF s iy)) w/\(Hn Z o).events F w #[]= #[]:=by
 unfold Hn aF iy;simp only[a,b,zM];exact⟨by go_simp;try rfl,by simp[go_sem]⟩
theorem JB(a:o.op=.build 46 #[]):(Hn Z o).run F w=.ok (.value (aF 0 iy)) w/\(Hn Z o).events F w #[]= #[]:=by
 unfold Hn aF iy;simp only[a,zM];exact⟨by go_simp;try rfl,by simp[go_sem]⟩
theorem wX{t:Nat}{A:Option Addr}{m c:Nat}(a:o.op=.build 46 #[(0,.const (.int .i64 s)),(1,.tmp t)])(d:∀v,Z (.const v)=v)(b:Z (.tmp t)=.slice A m c):(Hn Z o).run F w=.ok (.value (aF s ⟨A,m,c⟩)) w/\(Hn Z o).events F w #[]= #[]:=by
 unfold Hn aF;simp only[a,d,b,zM];exact⟨by go_simp;try rfl,by simp[go_sem]⟩
theorem PS(a:o.op=.build 72 #[(0,.const (.int .i64 1)),(1,.const (.int .i64 2)),(2,.const (.bool true))])(b:∀v,Z (.const v)=v):(Hn Z o).run F w=.ok (.value (wV (1,2,true))) w/\(Hn Z o).events F w #[]= #[]:=by
 unfold Hn wV;simp only[a,b,zM];exact⟨by go_simp;try rfl,by simp[go_sem]⟩
theorem EM(f:o.op=.buildSlice 24 1 #[(0,.const (.int .i64 a))])(g:∀v,Z (.const v)=v):(Hn Z o).run F w=.ok (.value (.slice (Y (w.heap.size,0)) 1 1)) (w.alloc (.cells #[.int .i64 a] 3))/\(Hn Z o).events F w #[]= #[]:=xaL
theorem qF(f:o.op=.buildSlice 24 2 #[(0,.const (.int .i64 a)),(1,.const (.int .i64 b))])(g:∀v,Z (.const v)=v):(Hn Z o).run F w=.ok (.value (.slice (Y (w.heap.size,0)) 2 2)) (w.alloc (.cells #[.int .i64 a,.int .i64 b] 3))/\(Hn Z o).events F w #[]= #[]:=xaL
theorem PT(f:o.op=.buildSlice 24 3 #[(0,.const (.int .i64 a)),(1,.const (.int .i64 b)),(2,.const (.int .i64 c))])(g:∀v,Z (.const v)=v):(Hn Z o).run F w=.ok (.value (.slice (Y (w.heap.size,0)) 3 3)) (w.alloc (.cells #[.int .i64 a,.int .i64 b,.int .i64 c] 3))/\(Hn Z o).events F w #[]= #[]:=xaL
theorem yU{a b c d e:Int}(f:o.op=.buildSlice 24 5 #[(0,.const (.int .i64 a)),(1,.const (.int .i64 b)),(2,.const (.int .i64 c)),(3,.const (.int .i64 d)),(4,.const (.int .i64 e))])(g:∀v,Z (.const v)=v):(Hn Z o).run F w=.ok (.value (.slice (Y (w.heap.size,0)) 5 5)) (w.alloc (.cells #[.int .i64 a,.int .i64 b,.int .i64 c,.int .i64 d,.int .i64 e] 3))/\(Hn Z o).events F w #[]= #[]:=xaL
theorem vW(a:o.op=.alloc 31):(Hn Z o).run F w=.ok (.value (.pointer (Y (w.heap.size,0)))) (w.alloc (aE bI 31))/\(Hn Z o).events F w #[]= #[]:=by
 unfold Hn aE bI;simp only[a];exact⟨by go_simp;try rfl,by simp[go_sem]⟩
theorem vX(a:o.op=.alloc 23):(Hn Z o).run F w=.ok (.value (.pointer (Y (w.heap.size,0)))) (w.alloc (.cells #[.int .i64 0,.int .i64 0] 23))/\(Hn Z o).events F w #[]= #[]:=by
 unfold Hn;simp only[a];exact⟨by go_simp;try rfl,by simp[go_sem]⟩
variable{κ:Nat->Kd}{Z:Ren}{a b:M}{m i n d:Nat}{L:List Int}{main:Bool}{Stop:(Nat->Prop)->(Nat->Prop)->QP->H->Prop}{V O:Nat->Prop}{k:List Item}{cs:List Kf}{ops:Array Kp}{rest:List Nat}{f:Nat->M}{fn:ba}{xs:Array ae}{ts:Array Lk}{args:Array M}{bk:aC}{l:pK}
def iO(d:dM Z (κ 0) a a)(f:dM Z (κ 1) b b):KR κ Z #[a,b] #[a,b]:=⟨rfl,λi x y c g=>by
 have e:=c.symm.tn g;cases e
 match i,c with
 | 0,c=>cases c;exact d
 | 1,c=>cases c;exact f⟩
def ur{a b c:M}(f:dM Z (κ 0) a a)(g:dM Z (κ 1) b b)(h2:dM Z (κ 2) c c):KR κ Z #[a,b,c] #[a,b,c]:=⟨rfl,λi x y d h=>by
 have e:=d.symm.tn h;cases e
 match i,d with
 | 0,d=>cases d;exact f
 | 1,d=>cases d;exact g
 | 2,d=>cases d;exact h2⟩
def qH{xs:Array M}(h:∀x∈xs,eR x):eR (.tuple xs):=λZ v' r=>by
 cases r with
 | tuple s c=>
  congr 1;refine(Array.ext_getElem? λi=>?_).symm
  cases hi:xs[i]? with
  | none=>
   rw[Array.getElem?_eq_none_iff]at hi;exact(Array.getElem?_eq_none_iff.2 (by rw[<- s];exact hi)).symm
  | some x=>
   have b:=(ec.1 hi).1;have a:=fi (by rw[<- s];exact b:i<_);rw[a];exact cd Y (h x (kq hi) Z _ (c i _ _ hi a)).symm
section
variable{b:Kf}
def qI{e0:Lk}{hB:Base TA V w e0}{sh:Int}{s:Sl}(h:cM TA V w s m):VR (gr hB) (aF sh s) (aF sh s):=
 .agg rfl λi x y a b=>by
  have e:=a.symm.tn b;cases e
  match i,a with
  | 0,a=>cases a;exact .int _ _
  | 1,a=>cases a;exact jg h.flat
def PV{T:P3}:cM T V w iy m:=λa b=>by cases b
def PW:eC w iy []:=⟨rfl,qN _,qT _,λh=>mi h (dj _)⟩
def cr.call{R:M->H->Prop}(g:cr V O w)(x:ops[i]?=Y o)(m:o.op=.call {callee:=.value (.func fn),args:=xs,argTypes:=ts})(j:xs.map (fa n f).eval=args)(t:o.dst=Y d)(s:d<n)(A:Region.wanted o (aw ops (fa n f).tmps)=true)(hk:b.kind≠.early)
  (l:∀w,(callFunc fn args).run F w=.ok (.enter fn args) w/\(callFunc fn args).events F w #[]= #[])(u:TA.has fn=true)(y:TA.ret fn=.val)(q:∀e0 (hB:Base TA V w e0),KR (TA.kind fn) (gr hB) args args)
  (r:∀e0 B,PH F fn args (tp (gw TA V e0 w) B w.drawn) λe W=>∃v,e=.returned v/\R v W)
  (next:∀e0 (hB:Base TA V w e0) Z v W v' bj a c,R v W->VR Z v v'->ir TA F w V O w (gr hB) Z W bj a c->cr a c bj->dU V O w a c bj->WO main Stop a c b n (ah f d v') ops rest k cs bj):WO main Stop V O b n f ops (i::rest) k cs w:=by
 obtain⟨e0,hB⟩:=g.base;exact WalkE.ZB x t s A hk (λbj=>(kJ m j rfl l).1) (λbj=>(kJ m j rfl l).2) hB g.cX u y (q e0 hB) (r e0) λZ v W v' bj a c p z h=>next e0 hB Z v W v' bj a c p z h (g.bH h.bH) h.bH
def cr.jZ{v:M}(j:cr V O w)(A:ops[i]?=Y o)(B:o.op=.call {callee:=.value (.func fn),args:=xs,argTypes:=ts})(p:xs.map (fa n f).eval=args)(x:o.dst=Y d)(t:d<n)(J:Region.wanted o (aw ops (fa n f).tmps)=true)(hk:b.kind≠.early)
  (s:∀w,(callFunc fn args).run F w=.ok (.enter fn args) w/\(callFunc fn args).events F w #[]= #[])(y:TA.has fn=true)(C:TA.ret fn=.val)(q:∀e0 (hB:Base TA V w e0),KR (TA.kind fn) (gr hB) args args)
  (E:eR v)(r:∀e0 g,PH F fn args (tp (gw TA V e0 w) g w.drawn) λe _=>e=.returned v)
  (next:∀bj a c,cr a c bj->dU V O w a c bj->WO main Stop a c b n (ah f d v) ops rest k cs bj):WO main Stop V O b n f ops (i::rest) k cs w:=
 j.call (R:=λu _=>u=v) A B p x t J hk s y C q (λe0 g=>(r e0 g).mono λe W h=>⟨v,h,rfl⟩) λe0 hB Z u W v' bj a c m G K l z=>by
  subst m;rw[E Z v' G];exact next bj a c l z
def cr.uu{r:Int}(m:cr V O w)(J:ops[i]?=Y o)(K:o.op=.call {callee:=.value (.func fn),args:=xs,argTypes:=ts})(t:xs.map (fa n f).eval=args)(C:o.dst=Y d)(B:d<n)(S:Region.wanted o (aw ops (fa n f).tmps)=true)(hk:b.kind≠.early)
  (z:∀w,(callFunc fn args).run F w=.ok (.enter fn args) w/\(callFunc fn args).events F w #[]= #[])(E:TA.has fn=true)(P:TA.ret fn=.val)(v:∀e0 (hB:Base TA V w e0),KR (TA.kind fn) (gr hB) args args)
  (x:∀e0 g,PH F fn args (tp (gw TA V e0 w) g w.drawn) (ji (tp (gw TA V e0 w) g w.drawn).heap.size L r (tp (gw TA V e0 w) g w.drawn)))
  (next:∀y bj a j,cr a j bj->dU V O w a j bj->dK a bj y L->WO main Stop a j b n (ah f d (.tuple #[y,.int .i64 r])) ops rest k cs bj):WO main Stop V O b n f ops (i::rest) k cs w:=
 m.call (R:=λu W=>∃y,u=.tuple #[y,.int .i64 r]/\W.ownsRow w.heap.size 3 1 y L.length (L.map (M.int .i64))) J K t C B S hk z E P v (λe0 g=>(x e0 g).mono λe W h=>by
   obtain⟨A,c,l,h2,-⟩:=h;rw[show(tp (gw TA V e0 w) g w.drawn).heap.size=w.heap.size from dW]at h2;exact⟨_,l,_,rfl,h2⟩) λe0 hB Z u W v' bj a j s Q q p G=>by
  obtain⟨y,rfl,N⟩:=s;obtain⟨y',T,rfl,l,h2⟩:=Xl Q;obtain rfl:=aG _ _ Z _ h2;exact next y' bj a j p G (q.row N (qN _) l (rG L)).1.PN
def cr.PX{p:List Int×List Int×Int}(q:cr V O w)(J:ops[i]?=Y o)(K:o.op=.call {callee:=.value (.func fn),args:=xs,argTypes:=ts})(t:xs.map (fa n f).eval=args)(C:o.dst=Y d)(B:d<n)(S:Region.wanted o (aw ops (fa n f).tmps)=true)(hk:b.kind≠.early)
  (A:∀w,(callFunc fn args).run F w=.ok (.enter fn args) w/\(callFunc fn args).events F w #[]= #[])(E:TA.has fn=true)(N:TA.ret fn=.val)(v:∀e0 (hB:Base TA V w e0),KR (TA.kind fn) (gr hB) args args)
  (x:∀e0 g,PH F fn args (tp (gw TA V e0 w) g w.drawn) (wP p (tp (gw TA V e0 w) g w.drawn)))
  (next:∀y z bj a c,cr a c bj->dU V O w a c bj->dK a bj y p.1->dK a bj z p.2.1->WO main Stop a c b n (ah f d (.tuple #[y,z,.int .i64 p.2.2])) ops rest k cs bj):WO main Stop V O b n f ops (i::rest) k cs w:=
 q.call (R:=λu W=>∃y z,u=.tuple #[y,z,.int .i64 p.2.2]/\W.ownsRow w.heap.size 3 1 y p.1.length (p.1.map (M.int .i64))/\W.ownsRow w.heap.size 3 1 z p.2.1.length (p.2.1.map (M.int .i64))) J K t C B S hk A E N v (λe0 g=>(x e0 g).mono λe W h=>by
   obtain⟨y,z,l,⟨-, -, h2,j,-⟩,-⟩:=h;rw[show(tp (gw TA V e0 w) g w.drawn).heap.size=w.heap.size from dW]at h2 j;exact⟨_,l,_,_,rfl,h2,j⟩) λe0 hB Z u W v' bj a c s Q m r G=>by
  obtain⟨y,z,rfl,L,P⟩:=s;obtain⟨y',T,U,rfl,l,h2,j⟩:=ZC Q;obtain rfl:=aG _ _ Z _ j;exact next y' T bj a c r G (m.row L (qN _) l (rG _)).1.PN (m.row P (qN _) h2 (rG _)).1.PN
def cr.PY{p:List Int×Int×Int}(q:cr V O w)(K:ops[i]?=Y o)(L:o.op=.call {callee:=.value (.func fn),args:=xs,argTypes:=ts})(v:xs.map (fa n f).eval=args)(E:o.dst=Y d)(C:d<n)(S:Region.wanted o (aw ops (fa n f).tmps)=true)(hk:b.kind≠.early)
  (B:∀w,(callFunc fn args).run F w=.ok (.enter fn args) w/\(callFunc fn args).events F w #[]= #[])(G:TA.has fn=true)(P:TA.ret fn=.val)(x:∀e0 (hB:Base TA V w e0),KR (TA.kind fn) (gr hB) args args)
  (z:∀e0 j,PH F fn args (tp (gw TA V e0 w) j w.drawn) (EN p (tp (gw TA V e0 w) j w.drawn)))
  (next:∀y bj a g,cr a g bj->dU V O w a g bj->dK a bj y p.1->WO main Stop a g b n (ah f d (.tuple #[y,.int .i64 p.2.1,.int .i64 p.2.2])) ops rest k cs bj):WO main Stop V O b n f ops (i::rest) k cs w:=
 q.call (R:=λu W=>∃y,u=.tuple #[y,.int .i64 p.2.1,.int .i64 p.2.2]/\W.ownsRow w.heap.size 3 1 y p.1.length (p.1.map (M.int .i64))) K L v E C S hk B G P x (λe0 j=>(z e0 j).mono λe W h=>by
   obtain⟨A,c,l,h2,-⟩:=h;rw[show(tp (gw TA V e0 w) j w.drawn).heap.size=w.heap.size from dW]at h2;exact⟨_,l,_,rfl,h2⟩) λe0 hB Z u W v' bj a g t Q s r J=>by
  obtain⟨y,rfl,N⟩:=t;obtain⟨y',s',T,rfl,l,h2,m⟩:=ZC Q;obtain rfl:=aG _ _ Z _ h2;obtain rfl:=aG _ _ Z _ m;exact next y' bj a g r J (s.row N (qN _) l (rG _)).1.PN
def cr.row(j:cr V O w)(r:ops[i]?=Y o)(q:o.dst=Y d)(p:d<n)(t:Region.wanted o (aw ops (fa n f).tmps)=true)(hk:b.kind≠.early)
  (m:∀bj,(Hn (fa n f).eval o).run F bj=.ok (.value (.slice (Y (bj.heap.size,0)) L.length L.length)) (bj.alloc (.cells (L.map (M.int .i64)).toArray 3))/\(Hn (fa n f).eval o).events F bj #[]= #[])(hl:L.length<=1000)
  (next:∀y bj a c,cr a c bj->dU V O w a c bj->dK a bj y L->WO main Stop a c b n (ah f d y) ops rest k cs bj):WO main Stop V O b n f ops (i::rest) k cs w:=by
 refine WalkE.make (.cells (L.map (M.int .i64)).toArray 3) (λg=>.slice (Y ⟨g,0,I⟩) L.length L.length) r t hk (λbj _=>(m bj).1) (λbj _ e h=>by rw[(m bj).2]at h;simp at h) λbj s=>?_;rw[q,cw p];have l:=((dU.refl (O:=O) j.cX).step s).make (.cells (L.map (M.int .i64)).toArray 3);exact next _ _ _ _ (j.bH l) l (Tk (Sp _ _) (qO hl dd) (.inr rfl))
def cr.box{j:Nat}{o':Kp}{y:ae}(s:cr V O w)(J:cy TA V w bk l)(R:ops[i]?=Y o)(x:o.op=.alloc 31)(K:o.dst=Y d)(t:d<n)(P:o.guard=I)(S:ops[j]?=Y o')(z:o'.op=.store 31 (.tmp d) y)(C:(fa n (ah f d (.pointer (Y (0,0))))).eval y=bk.v)(E:∀v,(fa n (ah f d v)).eval y=(fa n (ah f d (.pointer (Y (0,0))))).eval y)(L:o'.dst=I)(Q:o'.guard=I)(hk:b.kind≠.early)
  (next:∀g bj q m,vV q m bj g bk l->dU V O w q m bj->m g->w.heap.size<=g->WO main Stop q m b n (ah f d (.pointer (Y (g,0)))) ops rest k cs bj):WO main Stop V O b n f ops (i::j::rest) k cs w:=by
 refine WalkE.make (aE bI 31) (λg=>.pointer (Y ⟨g,0,I⟩)) R (bY P) hk (λbj _=>(vW x).1) (λbj _ e h=>by rw[(vW x).2]at h;simp at h) λbj A=>?_;rw[K,cw t];have N:=((dU.refl (O:=O) s.cX).step A).make (aE bI 31);have u:aK (bj.alloc (aE bI 31)) bj 31 bI:=Sp _ _;have B:=A.size;refine WalkE.fill bj.heap.size (uq bj.heap.size bk) (.inr rfl) (.inr rfl) S L (bY Q) hk (λr a=>?_) (λr a=>?_) λr a=>?_
 .have c:aK r bj 31 bI:=(a.keep _ (.inr rfl)).tn u;exact⟨(rJ z ((fe t).tn (au _ _ _)) ((E _).tn C) c).1,(pq bk c).2⟩
 .have c:=(a.keep _ (.inr rfl)).tn u;exact(rJ z ((fe t).tn (au _ _ _)) ((E _).tn C) c).2
 .have c:=(a.keep _ (.inr rfl)).tn u;obtain⟨G,U,W⟩:=pq bk c;have p:=(N.step a).fill U W B s.cX;refine next _ _ _ _ ⟨s.bH p,J.mono p.vv p.rely.keep,.inr rfl,λj v T=>?_,dx G⟩ p (.inr rfl) B;unfold H.cell?;rw[G];exact T
end
def dS(C U E X:Sl):aC:= {vk 0 0 0 with C:=⟨C.A,0,C.c⟩,U:=⟨U.A,3,U.c⟩,E:=⟨E.A,2,E.c⟩,W:=⟨X.A,1,X.c⟩}
section
variable(C U E X:Sl)
def MR:cT (dS C U E X) fR 1 [] 1=([2,3,4,5,6],0):=yX
def MS:cT (dS C U E X) fR 0 [] 1=([3,4,5],0):=yX
def MT:cT (dS C U E X) fR 1 [0] 1=([],0):=yX
def aam:dI (dS C U E X) fR 1 [6]=(true,0):=yX
def aan:dI (dS C U E X) fR 1 []=(false,0):=yX
def MU:oK (dS C U E X) fR=(10,0):=yX
def TU:vH (dS C U E X) fR 6=(0,0):=yX
def MV:oQ (dS C U E X) fR 0 3=(2,0):=yX
def MW:oQ (dS C U E X) fR 1 4=(0,0):=yX
def XZ:DF (dS C U E X) fR 1=([],[2,3,4,5,6],0):=yX
def TV:qq (dS C U E X) fR=([0,1],0):=yX
def QG:qs (dS C U E X) fR 6=((0,2),0):=yX
def JI:cP (dS C U E X) fR true=0:=yX
def TW:o5 (dS C U E X) fR=(0,0):=yX
def X0:zV (dS C U E X) fR=(0,true,0):=yX
def X5:vL (dS C U E X) fR=(0,2,8,0):=yX
def TX:sv (dS C U E X) fR 1=(false,true,0):=yX
def TY:AU (dS C U E X) fR=([0,1],0,0):=yX
def QH:ve (dS C U E X) fR=(7,0):=yX
def TZ:cP {dS C U E X with D:=0} fR true=0:=yX
def QI:o5 {dS C U E X with D:=0} fR=(1,3):=yX
def VE:pK:= {fR with W:=fR.W++[(1,2,true)]}
def X6(a:Sl):ay {dS C U E X with D:=0,W:=a} VE=0:=yX
def T0(a:Sl):lK {dS C U E X with D:=0,W:=a} VE 0=false:=yX
def aao(a:Sl):ia {dS C U E X with D:=0,W:=a} VE 0=true:=yX
def aap(a:Sl):ia {dS C U E X with D:=0,W:=a} VE 1=true:=yX
def aaq(a:Sl):ia {dS C U E X with D:=0,W:=a} VE 2=true:=yX
def aar(a:Sl):ia {dS C U E X with D:=0,W:=a} VE 3=false:=yX
def MX:iM (dS C U E X) fR=([0,1],0):=by
 have h:uN (aJ (dS C U E X) fR 1)=[0,1]:=by
  have a:(aJ (dS C U E X) fR 1).map (·.1)=[0,0,0,0,0,0,0,0,1,0]:=by kernel_rfl
  have b:([0,0,0,0,0,0,0,0,1,0]:List Int).mergeSort (λx y=>decide (x<=y))=[0,0,0,0,0,0,0,0,0,1]:=by simp[List.mergeSort]
  unfold uN;rw[a,b];exact rfl
 unfold iM;rw[qWB (JI C U E X)];exact cd (λy=>(y,0)) h
def Fa:iY fR 6= {fR with C:=[6]}:=by
 unfold iY;simp[fR]
def QJ:pH (dS C U E X) fR 6=0:=by
 unfold pH;rw[Fa];have h:gI (dS C U E X) {fR with C:=[6]}=0:=by kernel_rfl
 rw[h];exact rfl
def Iq(C' c b X':Sl):oK {dS C U E X with C:=C',U:=c,E:=b,W:=X' } {fR with C:=[6]}=(8,0):=yX
end
variable{g:Nat}{v0 v1:M}{x y:ae}{p q:Int}{Z:ae->M}{b:Kf}
def JJ{t:Lk}(a b:M)(h:w.heap[g]?=Y (.cells #[v0,v1] t (0,0))):((w.setCell (g,0) a).setCell (g,1) b).heap.size=w.heap.size:=by simp[H.setCell]
theorem AX(c:o.op=.store 23 x y)(f:Z x=.pointer (Y ⟨g,0,I⟩))(h:Z y=.agg #[.int .i64 p,.int .i64 q])(a:w.heap[g]?=Y (.cells #[v0,v1] 23 (0,0))):
  (Hn Z o).run F w=.ok .skip ((w.setCell ⟨g,0,I⟩ (.int .i64 p)).setCell ⟨g,1,I⟩ (.int .i64 q))/\∀e∈(Hn Z o).events F w #[],∃j wr,e=⟨.cell ⟨g,j,I⟩,wr,false⟩:=by
 have k:=yT F g 23 [.int .i64 p,.int .i64 q] 0 _ w #[] a (qN 2) (by intro v d;simp at d;rcases d with rfl|rfl<;>rfl);have s:w.cell? ⟨g,0,I⟩=Y v0:=by unfold H.cell?;dsimp only;rw[a];rfl
 have t:w.cell? ⟨g,1,I⟩=Y v1:=by unfold H.cell?;dsimp only;rw[a];rfl
 have n:∀i,w.frozen? ⟨g,i,I⟩=false:=λi=>by simp[H.frozen?,a]
 refine⟨?_,λe b=>?_⟩
 .unfold Hn;simp only[c,f,h];go_simp
 .refine(k e ?_).resolve_left ss;unfold Hn at b;simp only[c,f,h]at b;have l:(Instr.sureAddr (.pointer (Y ⟨g,0,I⟩))).run F w=.ok ⟨g,0,I⟩ w:=rfl;have s2:∀es,(Instr.sureAddr (.pointer (Y ⟨g,0,I⟩))).events F w es=es:=λes=>rfl;have s3:(sizeOf 23).run F w=.ok 2 w:=by simp[go_sem]
  have m:∀es,(sizeOf 23).events F w es=es:=λes=>by simp[go_sem]
  have s5:(M.agg #[.int .i64 p,.int .i64 q]).cells= #[.int .i64 p,.int .i64 q]:=rfl;have s6:(#[M.int .i64 p,M.int .i64 q]).size=2:=rfl;simp only[Instr.storeAt,storeVar,Sem.events_bind,Sem.run_bind,l,s2,s3,m,s5,s6,Result.evThen_ok,Result.andThen_ok,ne_eq,not_true_eq_false,if_false,Sem.events_pure]at b;revert b;generalize Sem.run F (storeCells _ _) w=r;cases r<;>exact id
theorem Ir(b:o.op=.load 23 x)(c:Z x=.pointer (Y ⟨g,0,I⟩))(d:w.cell? ⟨g,0,I⟩=Y (.int .i64 p))(f:w.cell? ⟨g,1,I⟩=Y (.int .i64 q)):
  (Hn Z o).run F w=.ok (.value (.agg #[.int .i64 p,.int .i64 q])) w/\∀e∈(Hn Z o).events F w #[],∃j,e=⟨.cell ⟨g,j,I⟩,false,false⟩:=by
 unfold Hn;simp only[b,c];refine⟨by go_simp,λe a=>?_⟩;simp[go_sem,d,f]at a;rcases a with rfl|rfl<;>exact⟨_,rfl⟩
def og(V:Nat->Prop)(w:H)(g:Nat)(p q:Int):Prop:=V g/\w (g,0)=Y (.int .i64 p)/\w (g,1)=Y (.int .i64 q)
def og.bH{bm bo:Nat->Prop}{bj:H}(h:og V w g p q)(a:dU V O w bm bo bj):og bm bj g p q:=⟨a.vv _ h.1,aV (a.rely.keep _ h.1) h.2.1,aV (a.rely.keep _ h.1) h.2.2⟩
def cr.abv{j:Nat}{o':Kp}(r:cr V O w)(N:ops[i]?=Y o)(z:o.op=.alloc 23)(E:o.dst=Y d)(s:d<n)(K:o.guard=I)(P:ops[j]?=Y o')(A:o'.op=.store 23 (.tmp d) y)(C:∀v,(fa n (ah f d v)).eval y=.agg #[.int .i64 p,.int .i64 q])(G:o'.dst=I)(L:o'.guard=I)(hk:b.kind≠.early)
  (next:∀g bj l m,cr l m bj->dU V O w l m bj->og l bj g p q->WO main Stop l m b n (ah f d (.pointer (Y ⟨g,0,I⟩))) ops rest k cs bj):WO main Stop V O b n f ops (i::j::rest) k cs w:=by
 refine WalkE.make (.cells #[.int .i64 0,.int .i64 0] 23) (λg=>.pointer (Y ⟨g,0,I⟩)) N (bY K) hk (λbj _=>(vX z).1) (λbj _ e h=>by rw[(vX z).2]at h;simp at h) λbj B=>?_;rw[E,cw s];have J:=((dU.refl (O:=O) r.cX).step B).make (.cells #[.int .i64 0,.int .i64 0] 23);have t:(bj.alloc (.cells #[.int .i64 0,.int .i64 0] 23)).heap[bj.heap.size]?=Y (.cells #[.int .i64 0,.int .i64 0] 23 (0,0)):=Sp _ _;have Q:=B.size;refine WalkE.fill bj.heap.size (λw=>(w.setCell ⟨bj.heap.size,0,I⟩ (.int .i64 p)).setCell ⟨bj.heap.size,1,I⟩ (.int .i64 q)) (.inr rfl) (.inr rfl) P G (bY L) hk (λu a=>?_) (λu a=>?_) λu a=>?_
 .have c:=(a.keep _ (.inr rfl)).tn t;exact⟨(AX A ((fe s).tn (au _ _ _)) (C _) c).1,(tR _ _ c).2,JJ _ _ c⟩
 .exact(AX A ((fe s).tn (au _ _ _)) (C _) ((a.keep _ (.inr rfl)).tn t)).2
 .have c:=(a.keep _ (.inr rfl)).tn t;obtain⟨R,S⟩:=tR (.int .i64 p) (.int .i64 q) c;have x:=(J.step a).fill S (JJ _ _ c) Q r.cX;exact next _ _ _ _ (r.bH x) x ⟨.inr rfl,kV R⟩
def cr.X7(q:cr V O w)(G:ops[i]?=Y o)(J:o.op=.call {callee:=.value (.func 11),args:= #[],argTypes:=ts})(A:o.dst=Y d)(z:d<n)(N:Region.wanted o (aw ops (fa n f).tmps)=true)(hk:b.kind≠.early)
  (next:∀C U E X bj a g,cr a g bj->dU V O w a g bj->cy TA a bj (dS C U E X) fR->WO main Stop a g b n (ah f d (dS C U E X).v) ops rest k cs bj):WO main Stop V O b n f ops (i::rest) k cs w:=
 q.call (R:=λv W=>∃u e x,v=(vk u e x).v/\l5 W w.heap.size (vk u e x) fR) G J ss A z N hk (λ_=>⟨rfl,rfl⟩) rfl rfl (λe0 hB=>⟨rfl,λi x y P=>by simp at P⟩) (λe0 Q=>(E9 _).mono λe W h=>by
   obtain⟨u,v,x,p,h2,-⟩:=h;rw[show(tp (gw TA V e0 w) Q w.drawn).heap.size=w.heap.size from dW]at h2;exact⟨_,p,u,v,x,rfl,h2.rows⟩) λe0 hB Z u W v' bj a g t L s r B=>by
  obtain⟨u,e,x,rfl,K⟩:=t;obtain⟨C,U,E,X,rfl,c⟩:=EB s (qN _) K L;have n1:=c.at_.C.1;have j:=c.at_.U.1;have l:=c.at_.E.1;have m:=c.at_.W.1;have e:({vk u e x with C:=C,U:=U,E:=E,W:=X}:aC)=dS C U E X:=by
   obtain⟨S,b1,c1⟩:=C;obtain⟨T,b2,c2⟩:=U;obtain⟨a3,b3,c3⟩:=E;obtain⟨a4,b4,c4⟩:=X;simp only at n1 j l m;subst n1 j l m;rfl
  rw[e]at c|-;exact next C U E X bj a g r B c
def cr.QK{s:Int}(q:cr V O w)(r:cy TA V w bk l)(j:pH bk l s=0)(P:ops[i]?=Y o)(Q:o.op=.call {callee:=.value (.func 24),args:=xs,argTypes:=ts})(G:xs.map (fa n f).eval= #[bk.v,.int .i64 s])(L:o.dst=Y d)(K:d<n)(T:Region.wanted o (aw ops (fa n f).tmps)=true)(hk:b.kind≠.early)
  (next:∀C U E X bj a c,cr a c bj->dU V O w a c bj->cy TA a bj {bk with C:=C,U:=U,E:=E,W:=X} (iY l s)->WO main Stop a c b n (ah f d (.tuple #[({bk with C:=C,U:=U,E:=E,W:=X}:aC).v,.int .i64 0])) ops rest k cs bj):WO main Stop V O b n f ops (i::rest) k cs w:=
 q.call (R:=λv W=>∃C U E X:Sl,v=.tuple #[({bk with C:=C,U:=U,E:=E,W:=X}:aC).v,.int .i64 0]/\l5 W w.heap.size {bk with C:=C,U:=U,E:=E,W:=X} (iY l s)) P Q G L K T hk (λ_=>⟨rfl,rfl⟩) rfl rfl (λe0 hB=>iO (dD r) (.int _ _)) (λe0 m=>(LI bk l s _ (r.gw m _) (q.checks.gw m _) j).mono λe W h=>by
   obtain⟨b',g,h2,-⟩:=h;rw[qWB rfl]at h2;obtain⟨⟨C,U,E,X,rfl⟩,p⟩:=h2;rw[show(tp (gw TA V e0 w) m w.drawn).heap.size=w.heap.size from dW]at p;exact⟨_,g,C,U,E,X,rfl,p⟩) λe0 hB Z u W v' bj a c B S A z N=>by
  obtain⟨C,U,E,X,rfl,j⟩:=B;obtain⟨y,r',rfl,g,h2⟩:=Xl S;obtain rfl:=aG _ _ Z _ h2;obtain⟨C',x,t,X',rfl,J⟩:=EB A (qN _) j g;exact next C' x t X' bj a c z N J
def cr.X8{x:Int×Int×Bool}(r:cr V O w)(j:cy TA V w bk l)(T:0<l.W.length)(hl:l.W.length<1000)(K:ops[i]?=Y o)(L:o.op=.call {callee:=.value (.func 29),args:=xs,argTypes:=ts})(A:xs.map (fa n f).eval= #[bk.v,wV x])(E:o.dst=Y d)(C:d<n)(Q:Region.wanted o (aw ops (fa n f).tmps)=true)(hk:b.kind≠.early)
  (next:∀X bj c g,cr c g bj->dU V O w c g bj->cy TA c bj {bk with W:=X} {l with W:=l.W++[x]}->WO main Stop c g b n (ah f d ({bk with W:=X}:aC).v) ops rest k cs bj):WO main Stop V O b n f ops (i::rest) k cs w:=
 r.call (R:=λv W=>∃X:Sl,v=({bk with W:=X}:aC).v/\X.n=(l.W++[x]).length/\W.ownsRow w.heap.size 72 3 (.slice X.A X.n X.c) X.n ((l.W++[x]).flatMap rO)) K L A E C Q hk (λ_=>⟨rfl,rfl⟩) rfl rfl (λe0 hB=>iO (dD j) (by
   refine .agg rfl λi x y a S=>?_;have e:=a.symm.tn S;cases e
   match i,a with
   | 0,a=>cases a;exact .int _ _
   | 1,a=>cases a;exact .int _ _
   | 2,a=>cases a;exact .bool _)) (λe0 p=>(EL bk l x _ (j.gw p _).W).mono λe W h=>by
   obtain⟨X,q,h2,m,-⟩:=h;rw[show(tp (gw TA V e0 w) p w.drawn).heap.size=w.heap.size from dW]at m;exact⟨_,q,X,rfl,by rw[h2];simp,m⟩) λe0 hB Z u W v' bj c g z P t s G=>by
  obtain⟨X,rfl,J,N⟩:=z;obtain⟨X',rfl,B⟩:=BV t (qN _) j J so N P;exact next X' bj c g s G B
variable{b c:M}
def mY(b:Z x=a):(#[x]).map Z= #[a]:=by simp[b]
def oh(c:Z x=a)(d:Z y=b):(#[x,y]).map Z= #[a,b]:=by simp[c,d]
def Is{x y z:ae}(d:Z x=a)(e:Z y=b)(h2:Z z=c):(#[x,y,z]).map Z= #[a,b,c]:=by simp[d,e,h2]
def zg(d:eR a)(e:eR b):eR (.tuple #[a,b]):=qH λx c=>by
 simp at c;rcases c with rfl|rfl<;>assumption
def aas(e:eR a)(f:eR b)(h2:eR c):eR (.tuple #[a,b,c]):=qH λx d=>by
 simp at d;rcases d with rfl|rfl|rfl<;>assumption
def abw{a b c d:M}(f:eR a)(g:eR b)(h2:eR c)(h:eR d):eR (.tuple #[a,b,c,d]):=qH λx e=>by
 simp at e;rcases e with rfl|rfl|rfl|rfl<;>assumption
def JK{y:M}(h:dK V w y []):∃A c,y=.slice A 0 c:=by
 obtain⟨a,h2⟩:=h.1.fF;exact⟨_,_,a.tn (by rw[h2];rfl)⟩
section
variable{b:Kf}
def cr.mo{y z:Ha}{L M:List Int}(r:Bool)(m:cr V O w)(C:dK V w y L)(E:dK V w z M)(p:L.length<=1000)(q:M.length<=1000)(A:decide (L=M)=r)(v:ops[i]?=Y o)(x:o.op=.call {callee:=.value (.func 15),args:=xs,argTypes:=ts})(s:xs.map (fa n f).eval= #[y,z])(u:o.dst=Y d)(t:d<n)(B:Region.wanted o (aw ops (fa n f).tmps)=true)(hk:b.kind≠.early)
  (next:∀bj a c,cr a c bj->dU V O w a c bj->WO main Stop a c b n (ah f d (.bool r)) ops rest k cs bj):WO main Stop V O b n f ops (i::rest) k cs w:=by
 obtain⟨e1,G,l⟩:=C.sl p;obtain⟨j,J,f2⟩:=E.sl q;refine m.jZ v x s u t B hk (λ_=>⟨rfl,rfl⟩) rfl rfl (λe0 hB=>?_) (dQ _) (λe0 g=>?_) next
 .rw[e1,j];exact iO (jg l.flat) (jg f2.flat)
 .have h:=MD (fF y) (fF z) L M (tp (gw TA V e0 w) g w.drawn) (pn G l g w.drawn) (pn J f2 g w.drawn);rw[<- e1,<- j,A]at h;exact h.mono λe W h=>h.1
def WalkE.JL{p q:Int}(hB:og V w g p q)(r:ops[i]?=Y o)(s:o.op=.load 23 x)(u:(fa n f).eval x=.pointer (Y (g,0)))(l:o.dst=Y d)(c:d<n)(t:Region.wanted o (aw ops (fa n f).tmps)=true)(hk:b.kind≠.early)
  (next:WO main Stop V O b n (ah f d (.agg #[.int .i64 p,.int .i64 q])) ops rest k cs w):WO main Stop V O b n f ops (i::rest) k cs w:=by
 have hl:=λbj (a:aH V w bj)=>Ir s u (bu a hB.1 hB.2.1) (bu a hB.1 hB.2.2);refine WalkE.value _ r t hk (λbj a=>(hl bj a).1) (λbj a e m=>?_) (by rw[l,cw c];exact next);obtain⟨j,rfl⟩:=(hl bj a).2 e m;exact⟨rfl,hB.1,λh=>by cases h⟩
end
def vV.on{V O:Nat->Prop}{b:aC}{l:pK}(h:vV V O w g b l)(e0:Lk)(a:Nat->Question->Nat){P:H->Prop}(k:∀W,aI W b l->aD W->P W):P (tp (gw TA V e0 w) a w.drawn):=k _ (h.book.gw a w.drawn) (h.co.checks.gw a w.drawn)
def QL:Ly:=match Tryz.f5.body with|some c=>c|_=>.skip
def abx:Array Kp:=br [0] QL
def T1:Ly:=dk [1] QL
def T2:QL=.seq (.region 0 abx false) T1:=rfl
def aby:Array Kp:=br [0] T1
def QM:Ly:=dk [1] T1
def T3:T1=.seq (.region 1 aby false) QM:=rfl
def aat:Array Kp:=br [0] QM
def T4:Ly:=dk [1] QM
def T5:QM=.seq (.region 2 aat false) T4:=rfl
def aau:Array Kp:=br [0] T4
def T6:Ly:=dk [1] T4
def T7:T4=.seq (.region 3 aau false) T6:=rfl
def aav:Array Kp:=br [0] T6
def T8:Ly:=dk [1] T6
def T9:T6=.seq (.region 4 aav false) T8:=rfl
def aaw:Array Kp:=br [0] T8
def Ua:Ly:=dk [1] T8
def Ub:T8=.seq (.region 5 aaw false) Ua:=rfl
def aax:Array Kp:=br [0] Ua
def Ud:Ly:=dk [1] Ua
def Ue:Ua=.seq (.region 6 aax false) Ud:=rfl
def aay:Array Kp:=br [0] Ud
def Uf:Ly:=dk [1] Ud
def Ug:Ud=.seq (.region 7 aay false) Uf:=rfl
def aaz:Array Kp:=br [0] Uf
def QN:Ly:=dk [1] Uf
def Uh:Uf=.seq (.region 8 aaz false) QN:=rfl
def X9:Array Kp:=br [0,0] QN
def abz:Ly:=dk [0,1,4] QN
def JM:Ly:=dk [1] QN
def Ui:QN=.seq (.seq (.region 9 X9 false) (.cond (.tmp 135) abz .skip)) JM:=rfl
def VF:Array Kp:=br [0] JM
def JN:Ly:=dk [1] JM
def QO:JM=.seq (.region 11 VF false) JN:=rfl
def VG:Array Kp:=br [0] JN
def JO:Ly:=dk [1] JN
def QS:JN=.seq (.region 12 VG false) JO:=rfl
def VH:Array Kp:=br [0] JO
def JP:Ly:=dk [1] JO
def QT:JO=.seq (.region 13 VH false) JP:=rfl
def VI:Array Kp:=br [0] JP
def JQ:Ly:=dk [1] JP
def QU:JP=.seq (.region 14 VI false) JQ:=rfl
def VJ:Array Kp:=br [0] JQ
def JR:Ly:=dk [1] JQ
def QV:JQ=.seq (.region 15 VJ false) JR:=rfl
def VK:Array Kp:=br [0] JR
def JS:Ly:=dk [1] JR
def QW:JR=.seq (.region 16 VK false) JS:=rfl
def Fb:Array Kp:=br [0] JS
def we:Ly:=dk [1] JS
def QX:JS=.seq (.region 17 Fb false) we:=rfl
def eW:Array Kp:=br [0,0] we
def aaA:Ly:=dk [0,1,4] we
def JU:Ly:=dk [1] we
def QY:we=.seq (.seq (.region 18 eW true) (.cond (.tmp 240) aaA .skip)) JU:=rfl
def VL:Array Kp:=br [0] JU
def JV:Ly:=dk [1] JU
def QZ:JU=.seq (.region 20 VL false) JV:=rfl
def VM:Array Kp:=br [0] JV
def JW:Ly:=dk [1] JV
def Q2:JV=.seq (.region 21 VM false) JW:=rfl
def VN:Array Kp:=br [0] JW
def JX:Ly:=dk [1] JW
def Q3:JW=.seq (.region 22 VN false) JX:=rfl
def VO:Array Kp:=br [0] JX
def JY:Ly:=dk [1] JX
def Q4:JX=.seq (.region 23 VO false) JY:=rfl
def VP:Array Kp:=br [0] JY
def JZ:Ly:=dk [1] JY
def Q5:JY=.seq (.region 24 VP false) JZ:=rfl
def VQ:Array Kp:=br [0] JZ
def J0:Ly:=dk [1] JZ
def Q6:JZ=.seq (.region 25 VQ false) J0:=rfl
def VS:Array Kp:=br [0] J0
def Fc:Ly:=dk [1] J0
def Q7:J0=.seq (.region 26 VS false) Fc:=rfl
def Q8:Array Kp:=br [0,0] Fc
def aaB:Ly:=dk [0,1,4] Fc
def J5:Ly:=dk [1] Fc
def Q9:Fc=.seq (.seq (.region 27 Q8 false) (.cond (.tmp 351) aaB .skip)) J5:=rfl
def VT:Array Kp:=br [0] J5
def J6:Ly:=dk [1] J5
def Ra:J5=.seq (.region 29 VT false) J6:=rfl
def Fe:Array Kp:=br [0] J6
def zi:Ly:=dk [1] J6
def Rb:J6=.seq (.region 30 Fe false) zi:=rfl
def Ff:Array Kp:=br [0] zi
def zm:Ly:=dk [1] zi
def Rc:zi=.seq (.region 31 Ff false) zm:=rfl
def Re:Array Kp:=br [0] zm
def VU:Ly:=dk [1] zm
def Rf:zm=.seq (.region 32 Re false) VU:=rfl
def Rg:VU=.ret:=rfl
def Ca(r:ba):(bs .normal r).kind≠.early:=by simp[bs]
abbrev sF(f:Nat->M)(K:List Item):Kf:=(bs .normal 5).at (fa 385 f) K
abbrev W5(main:Bool)(Stop:(Nat->Prop)->(Nat->Prop)->QP->H->Prop)(V O:Nat->Prop)(f:Nat->M)(K:List Item)(cs:List Kf)(w:H):Prop:=WalkE F main Stop V O (G (sF f K) cs) w
variable{LL:List (List Nat)}{md:Region.Mode}{b:Kf}{a:Act}
def iK(md:Region.Mode)(ops:Array Kp):Nat->Array Bool->List (List Nat)
 | 0,_=>[[]]
 | k+1,L=>match Region.ready md ops L with
  | []=>[[]]
  | r::rs=>(r::rs).flatMap λi=>(iK md ops k (L.setIfInBounds i true)).map (i:: ·)
def AY(md:Region.Mode)(ops:Array Kp):∀(k t:Nat) (L:Array Bool),Region.linearise.go md ops k t L []∈iK md ops k L
 | 0,t,L=>by simp[Region.linearise.go,iK]
 | k+1,t,L=>by
  simp only[Region.linearise.go]
  change (match(Region.ready md ops L)[t%(Region.ready md ops L).length]? with
   | some i=>Region.linearise.go md ops k (t/(Region.ready md ops L).length) (L.setIfInBounds i true) [i]
   | none=>[].reverse)∈_
  rw[iK]
  cases b:Region.ready md ops L with
  | nil=>simp
  | cons x xs=>
   have a:t%(x::xs).length<(x::xs).length:=Nat.mod_lt _ ss;rw[iv a];dsimp only;rw[linearise_go_acc,List.reverse_singleton,List.singleton_append];exact List.mem_flatMap.2 ⟨_,List.getElem_mem a,List.mem_map.2 ⟨_,AY md ops k _ _,rfl⟩⟩
def WalkE.draw{id:Nat}(c:iK .any ops ops.size (Array.replicate ops.size false)=LL)
  (next:∀l∈LL,∀bj,aH V w bj->WalkE F main Stop V O (G (b.at a (.inRegion ops l::k)) cs) bj):WalkE F main Stop V O (G (b.at a (.code (.region id ops true)::k)) cs) w:=
 WalkE.step rfl λbj d=>by
  refine⟨_, {bj with drawn:=bj.drawn+1}, #[],V,O,stepG_region_draw,⟨_,_,rfl⟩,Df _ _ rfl rfl rfl rfl (λe h=>by simp at h),?_⟩;refine next _ ?_ _ (d.tn ⟨rfl,rfl,rfl,qN _,λ_ _=>rfl⟩);rw[<- c];simp only[Region.schedule,rR,Bool.true_or,if_true];exact AY .any ops ops.size _ _
def jM(md:Region.Mode)(ops:Array Kp):List (List Nat):=ops.toList.map λo=>(o.after.toList.filter (Region.binds md)).map (·.on)
def zo(D:List (List Nat))(m:Nat):List Nat:=(List.range D.length).filter λi=> !m.testBit i&&(D.getD i []).all m.testBit
def MY(D:List (List Nat)):Nat->Nat->List (List Nat)
 | 0,_=>[[]]
 | k+1,m=>match zo D m with
  | []=>[[]]
  | r::rs=>(r::rs).flatMap λi=>(MY D k (m ||| 1 <<< i)).map (i:: ·)
def Cd{α β:Type}{l:List α}{f g:α->List β}(h:∀a∈l,f a=g a):l.flatMap f=l.flatMap g:=by
 induction l with
 | nil=>rfl
 | cons a l d=>rw[lv,lv,h a ss,d λb c=>h b (by simp[c])]
def mZ(n m:Nat):Array Bool:=((List.range n).map m.testBit).toArray
def zq(d:Bool):(mZ n m).getD i d=if i<n then m.testBit i else d:=by
 unfold mZ;rw[Array.getD_eq_getD_getElem?];by_cases h:i<n
 .simp[h]
 .simp[h]
def It(hi:i<n):(mZ n m).setIfInBounds i true=mZ n (m ||| 1 <<< i):=by
 unfold mZ;refine Array.ext_getElem? λj=>?_;rw[fc];by_cases h:i=j
 .subst h;simp[hi,Nat.testBit_or,Nat.testBit_shiftLeft]
 .rw[qVB h];by_cases a:j<n
  .have b:(1 <<< i:Nat).testBit j=false:=by
    rw[Nat.testBit_shiftLeft];by_cases h2:i<=j
    .have:j-i≠0:=zz;obtain⟨q,c⟩:=Nat.exists_eq_succ_of_ne_zero this;simp[h2,c,Nat.testBit_succ]
    .simp[h2]
   simp[a,Nat.testBit_or,b]
  .simp[a]
def Iu{md:Region.Mode}{ops:Array Kp}{m:Nat}(f:m<2^ops.size):Region.ready md ops (mZ ops.size m)=zo (jM md ops) m:=by
 unfold Region.ready zo;have hl:(jM md ops).length=ops.size:=by simp[jM]
 rw[hl];refine List.filter_congr λi hi=>?_;have a:=List.mem_range.1 hi;rw[zq,if_pos a];congr 1;have c:(jM md ops).getD i []=(ops[i].after.toList.filter (Region.binds md)).map (·.on):=by
  simp[jM,List.getD_eq_getElem?_getD,a]
 rw[c,Array.getElem?_eq_getElem a];simp only[Option.map_some,Option.getD_some];rw[<- Array.all_toList];generalize ops[i].after.toList=l
 induction l with
 | nil=>rfl
 | cons e l g=>
  have d:(mZ ops.size m).getD e.on false=m.testBit e.on:=by
   rw[zq];by_cases h:e.on<ops.size
   .rw[if_pos h]
   .rw[if_neg h,Nat.testBit_lt_two_pow (Nat.lt_of_lt_of_le f (Nat.pow_le_pow_right zz zz))]
  rw[List.all_cons,g,d];cases b:Region.binds md e
  .simp[b]
  .simp[b]
def wj:∀(k m:Nat),m<2^ops.size->iK md ops k (mZ ops.size m)=MY (jM md ops) k m
 | 0,_,_=>rfl
 | k+1,m,hm=>by
  rw[iK,MY,Iu hm];have a:∀i∈zo (jM md ops) m,i<ops.size:=λi hi=>by
   have:=List.mem_range.1 (List.mem_filter.1 hi).1;simpa[jM]using this
  cases b:zo (jM md ops) m with
  | nil=>rfl
  | cons r rs=>
   rw[b]at a;refine Cd λi hi=>?_;rw[It (a i hi),wj k _ (Nat.or_lt_two_pow hm (by rw[Nat.one_shiftLeft];exact Nat.pow_lt_pow_right zz (a i hi)))]
def uA{D:List (List Nat)}(a:jM md ops=D)(c:MY D D.length 0=LL):iK md ops ops.size (Array.replicate ops.size false)=LL:=by
 have b:Array.replicate ops.size false=mZ ops.size 0:=by
  unfold mZ;refine Array.ext_getElem? λj=>?_;by_cases h:j<ops.size<;>simp[h,Array.getElem?_replicate]
 have hl:D.length=ops.size:=by rw[<- a];simp[jM]
 rw[b,wj _ _ (Nat.two_pow_pos _),a,<- hl,c]
def Vl:List (List Nat):=[[],[0],[1],[2],[3,2],[2,4],[5,2],[6],[7,6],[6,8],[9,6],[10],[11,10],[10,12],[13,10],[14],[15,14],[14,16],[17,14],[18],[19,18],[18,20],[21,18],[22],[23,22],[22,24],[25,22],[26],[27,26],[26,28],[29,26],[30],[31,30],[30,32],[33,30],[34],[35,34],[34,36],[37,34],[38],[39,38],[40,38],[38,41],[42,38],[43],[43],[44,45,43,43],[46,43],[43,47],[48,46],[49],[49],[50,51,49,49],[52,49],[49,53],[54,52],[55],[55,55],[56,57,55],[55,58],[59,57],[60],[61,60],[60,62],[63,60],[64],[65,64],[64,66]]
def VV:List (List Nat):=[[44,45],[45,44]].flatMap λa=>[[50,51],[51,50]].flatMap λb=>[[56,57],[57,56]].map λc=>List.range 44++(a++([46,47,48,49]++(b++([52,53,54,55]++(c++[58,59,60,61,62,63,64,65,66,67])))))
def Ya:jM .any eW=Vl:=yX
def Yb:MY Vl Vl.length 0=VV:=yX
def Rh:iK .any eW eW.size (Array.replicate eW.size false)=VV:=uA Ya Yb
section
variable{f:Nat->M}
section
variable{main:Bool}{Stop:(Nat->Prop)->(Nat->Prop)->QP->H->Prop}{V O:Nat->Prop}{w:H}{K:List Item}{cs:List Kf}{g:Nat}{C U E X:Sl}
def XU(b:vV V O w g (dS C U E X) fR)(s:f 1=(g,0))
  (next:∀f' bj d k,dU V O w d k bj->(∀i,i<33->i≠2->i≠3->f' i=f i)->∀y,dK d bj y [2,3,4,5,6]->f' 2=y->f' 3=.int .i64 0->W5 main Stop d k f' K cs bj):
  W5 main Stop V O f (.code (.region 2 aat false)::K) cs w:=by
 have ñ:=0;exact rL
def XV(b:vV V O w g (dS C U E X) fR)(s:f 1=(g,0))
  (next:∀f' bj d k,dU V O w d k bj->(∀i,i<33->i≠4->i≠5->f' i=f i)->∀y,dK d bj y [3,4,5]->f' 4=y->f' 5=.int .i64 0->W5 main Stop d k f' K cs bj):
  W5 main Stop V O f (.code (.region 3 aau false)::K) cs w:=rL
def XW(b:vV V O w g (dS C U E X) fR)(s:f 1=(g,0))
  (next:∀f' bj d k,dU V O w d k bj->(∀i,i<33->i≠6->i≠7->f' i=f i)->∀y,dK d bj y []->f' 6=y->f' 7=.int .i64 0->W5 main Stop d k f' K cs bj):
  W5 main Stop V O f (.code (.region 4 aav false)::K) cs w:=by
 have ø:=0;exact rL
def Yd(b:vV V O w g (dS C U E X) fR)(s:f 1=(g,0))
  (next:∀f' bj d k,dU V O w d k bj->(∀i,i<33->i≠8->i≠9->f' i=f i)->f' 8=.bool true->f' 9=.int .i64 0->W5 main Stop d k f' K cs bj):
  W5 main Stop V O f (.code (.region 5 aaw false)::K) cs w:=by
 have å:=0;exact rL
def Ye(b:vV V O w g (dS C U E X) fR)(s:f 1=(g,0))
  (next:∀f' bj d k,dU V O w d k bj->(∀i,i<33->i≠10->i≠11->f' i=f i)->f' 10=.bool false->f' 11=.int .i64 0->W5 main Stop d k f' K cs bj):
  W5 main Stop V O f (.code (.region 6 aax false)::K) cs w:=by
 have ç:=0;exact rL
def Yf(b:vV V O w g (dS C U E X) fR)(s:f 1=(g,0))
  (next:∀f' bj d k,dU V O w d k bj->(∀i,i<33->i≠12->i≠13->f' i=f i)->f' 12=.int .i64 10->f' 13=.int .i64 0->W5 main Stop d k f' K cs bj):
  W5 main Stop V O f (.code (.region 7 aay false)::K) cs w:=by
 have æ:=0;exact rL
def Yg(b:vV V O w g (dS C U E X) fR)(s:f 1=(g,0))
  (next:∀f' bj d k,dU V O w d k bj->(∀i,i<33->i≠14->i≠15->f' i=f i)->∀y,dK d bj y [0,1]->f' 14=y->f' 15=.int .i64 0->W5 main Stop d k f' K cs bj):
  W5 main Stop V O f (.code (.region 8 aaz false)::K) cs w:=by
 have ë:=0;exact rL
end
end
section
variable{f:Nat->M}
section
variable{main:Bool}{Stop:(Nat->Prop)->(Nat->Prop)->QP->H->Prop}{V O:Nat->Prop}{w:H}{K:List Item}{cs:List Kf}{g:Nat}{C U E X:Sl}
def abG(b:vV V O w g (dS C U E X) fR)(s:f 1=(g,0))
  (next:∀f' bj d k,dU V O w d k bj->(∀i,i<33->i≠16->i≠3->f' i=f i)->f' 16=.int .i64 0->f' 3=.int .i64 0->W5 main Stop d k f' K cs bj):
  W5 main Stop V O f (.code (.region 11 VF false)::K) cs w:=by
 have ï:=0;exact rL
def abH(b:vV V O w g (dS C U E X) fR)(s:f 1=(g,0))
  (next:∀f' bj d k,dU V O w d k bj->(∀i,i<33->i≠17->i≠5->f' i=f i)->f' 17=.int .i64 2->f' 5=.int .i64 0->W5 main Stop d k f' K cs bj):
  W5 main Stop V O f (.code (.region 12 VG false)::K) cs w:=by
 have ö:=0;exact rL
def abI(b:vV V O w g (dS C U E X) fR)(s:f 1=(g,0))
  (next:∀f' bj d k,dU V O w d k bj->(∀i,i<33->i≠18->i≠7->f' i=f i)->f' 18=.int .i64 0->f' 7=.int .i64 0->W5 main Stop d k f' K cs bj):
  W5 main Stop V O f (.code (.region 13 VH false)::K) cs w:=by
 have ü:=0;exact rL
def abJ(b:vV V O w g (dS C U E X) fR)(s:f 1=(g,0))
  (next:∀f' bj d k,dU V O w d k bj->(∀i,i<33->i≠2->i≠4->i≠9->f' i=f i)->∀y z,dK d bj y []->dK d bj z [2,3,4,5,6]->f' 2=y->f' 4=z->f' 9=.int .i64 0->W5 main Stop d k f' K cs bj):
  W5 main Stop V O f (.code (.region 14 VI false)::K) cs w:=by
 have þ:=0;exact rL
def abK(b:vV V O w g (dS C U E X) fR)(s:f 1=(g,0))
  (next:∀f' bj d k,dU V O w d k bj->(∀i,i<33->i≠6->i≠11->f' i=f i)->∀y,dK d bj y [0,1]->f' 6=y->f' 11=.int .i64 0->W5 main Stop d k f' K cs bj):
  W5 main Stop V O f (.code (.region 15 VJ false)::K) cs w:=by
 have ð:=0;exact rL
def abL(a:vV V O w g (dS C U E X) fR)(k:f 1=(g,0))
  (next:∀f' bj bm bo,dU V O w bm bo bj->(∀i,i<33->i≠22->i≠23->i≠3->f' i=f i)->f' 22=.int .i64 0->f' 23=.bool true->f' 3=.int .i64 0->W5 main Stop bm bo f' K cs bj):
  W5 main Stop V O f (.code (.region 20 VL false)::K) cs w:=by
 have ë:=0;exact sD
def abM(a:vV V O w g (dS C U E X) fR)(k:f 1=(g,0))
  (next:∀f' bj bm bo,dU V O w bm bo bj->(∀i,i<33->i≠24->i≠25->i≠26->i≠5->f' i=f i)->f' 24=.int .i64 0->f' 25=.int .i64 2->f' 26=.int .i64 8->f' 5=.int .i64 0->W5 main Stop bm bo f' K cs bj):
  W5 main Stop V O f (.code (.region 21 VM false)::K) cs w:=by
 have ï:=0;exact sD
def abN(a:vV V O w g (dS C U E X) fR)(k:f 1=(g,0))
  (next:∀f' bj bm bo,dU V O w bm bo bj->(∀i,i<33->i≠8->i≠28->i≠11->f' i=f i)->f' 8=.bool false->f' 28=.bool true->f' 11=.int .i64 0->W5 main Stop bm bo f' K cs bj):
  W5 main Stop V O f (.code (.region 24 VP false)::K) cs w:=by
 have ö:=0;exact sD
def abO(a:vV V O w g (dS C U E X) fR)(k:f 1=(g,0))
  (next:∀f' bj bm bo,dU V O w bm bo bj->(∀i,i<33->i≠29->i≠30->i≠13->f' i=f i)->∀y,dK bm bj y [0,1]->f' 29=y->f' 30=.int .i64 0->f' 13=.int .i64 0->W5 main Stop bm bo f' K cs bj):
  W5 main Stop V O f (.code (.region 25 VQ false)::K) cs w:=by
 have å:=0;exact sD
def abP(a:vV V O w g (dS C U E X) fR)(k:f 1=(g,0))
  (next:∀f' bj bm bo,dU V O w bm bo bj->(∀i,i<33->i≠31->i≠15->f' i=f i)->f' 31=.int .i64 7->f' 15=.int .i64 0->W5 main Stop bm bo f' K cs bj):
  W5 main Stop V O f (.code (.region 26 VS false)::K) cs w:=by
 have æ:=0;exact sD
end
end
section
variable{v:M}{f:Nat->M}{g:Nat}
structure Fx(V O:Nat->Prop)(w:H)(g:Nat)(b:aC)(l:pK):Prop where
 sh:vV V O w g b l
 uB:cy TA (λx=>V x/\x≠g) w b l
 chk:dJ TA (λx=>V x/\x≠g) w
 g0:g≠0
section
variable{V O bm bo:Nat->Prop}{w bj:H}{g:Nat}{b:aC}{l:pK}
def Fx.bH(h:Fx V O w g b l)(c:dU V O w bm bo bj):Fx bm bo bj g b l:=
 ⟨h.sh.bH c,h.uB.mono (λx a=>⟨c.vv x a.1,a.2⟩) λx a=>c.rely.keep x a.1,h.chk.mono (λx a=>⟨c.vv x a.1,a.2⟩) λx a=>c.rely.keep x a.1,h.g0⟩
def Fx.rely(h:Fx V O w g b l)(e:cr bm bo bj)(d:∀x,V x->bm x)(c:aH V w bj):Fx bm bo bj g b l:=
 ⟨⟨e,h.sh.book.mono d c.keep,d _ h.sh.gV,λi v f=>aV (c.keep _ h.sh.gV) (h.sh.box i v f),λi=>nY (c.keep _ h.sh.gV) (h.sh.free i)⟩,h.uB.mono (λx a=>⟨d x a.1,a.2⟩) λx a=>c.keep x a.1,h.chk.mono (λx a=>⟨d x a.1,a.2⟩) λx a=>c.keep x a.1,h.g0⟩
def dK.J7{xs:List Int}(h:dK V w v xs)(b:∀x,V x->bm x)(c:aH V w bj):dK bm bj v xs:=⟨h.1.keep λx a=>c.keep x (h.2 x a),λx a=>b x (h.2 x a)⟩
def og.J7{p q:Int}(h:og V w g p q)(b:∀x,V x->bm x)(a:aH V w bj):og bm bj g p q:=⟨b _ h.1,aV (a.keep _ h.1) h.2.1,aV (a.keep _ h.1) h.2.2⟩
end
def zu{n d t:Nat}{v v':M}(h:t<n)(a:t≠d):(fa n (ah f d v)).eval (.tmp t)=(fa n (ah f d v')).eval (.tmp t):=by
 rw[fe h,fe h,cu _ _ a,cu _ _ a]
section
variable{Z:ae->M}{o:Kp}{w:H}
theorem Ri(a:o.op=.fieldAddr 31 (.tmp 1) 1)(b:Z (.tmp 1)=.pointer (Y (g,0))):(Hn Z o).run F w=.ok (.value (.pointer (Y (g,1)))) w/\(Hn Z o).events F w #[]= #[]:=by
 unfold Hn;simp only[a,b];exact⟨by go_simp;try rfl,by simp[go_sem]⟩
theorem J8{g i:Nat}{x:ae}(c:o.op=.store 3 x (.const (.int .i64 0)))(e:Z x=.pointer (Y (g,i)))(a:Z (.const (.int .i64 0))=.int .i64 0)(d:w (g,i)=Y v)(b:w.frozen? (g,i)=false):(Hn Z o).run F w=.ok .skip (w.setCell (g,i) (.int .i64 0))/\(Hn Z o).events F w #[]= #[⟨.cell (g,i),true,false⟩]:=by
 unfold Hn;simp only[c,e,a];exact⟨by go_simp;try rfl,by simp[go_sem,d,b];try rfl⟩
end
def Yc:Kf.enter F 5 #[] .normal=sF (λ_=>D) [.code QL]:=by
 rw[enter_at #[] Tryz.func5 rfl];have: #[]++Array.replicate (Tryz.f5.ntmps-(#[]:Array M).size) D=(Array.range 385).map λ_=>D:=by
  have e:=iu (A:= #[]) (k:=385) (n:=385) rfl;refine Eq.tn ?_ (e.tn ?_)
  .rfl
  .exact cd (λh=>(Array.range 385).map h) (funext λi=>by simp)
 rw[this];rfl
section
variable{main:Bool}{Stop:(Nat->Prop)->(Nat->Prop)->QP->H->Prop}{V O:Nat->Prop}{w:H}{K:List Item}{cs:List Kf}{g:Nat}{C U E X:Sl}
def abB(n:cr V O w)
  (next:∀f bj bm bo g C U E X,Fx bm bo bj g (dS C U E X) fR->dU V O w bm bo bj->¬V g->f 1=.pointer (Y ⟨g,0,I⟩)->W5 main Stop bm bo f [.code QM] cs bj):
  WalkE F main Stop V O (G (Kf.enter F 5 #[] .normal) cs) w:=by
 have hk:=Ca 5;rw[Yc,T2];refine WalkE.seq (WalkE.reg rfl ?_);refine wss ?_;refine WalkE.aT ?_;rw[T3];refine WalkE.seq (WalkE.reg rfl ?_);refine cr.X7 n rfl rfl rfl zz wnn hk λC U E X s l p b d i=>?_;refine cr.box b i rfl rfl rfl zz rfl rfl rfl (ft rfl) (λv=>zu zz zz) rfl rfl hk λg t m q o a r hle=>?_;have c:=b.cX;have j:∀x,l x->m x/\x≠g:=λx k=>⟨a.vv x k,λe=>by have:=c x k;omega⟩;refine WalkE.aT (next _ _ _ _ g C U E X ⟨o,i.mono j a.rely.keep,b.checks.mono j a.rely.keep,?_⟩ (d.tn a) (λh=>by have:=c _ (d.vv _ h);omega) rfl);obtain⟨e0,hB⟩:=b.base;have:=c 0 hB.v0;omega
def abC(a:vV V O w g (dS C U E X) fR)(k:f 1=(g,0))
  (next:∀f' bj bm bo,dU V O w bm bo bj->(∀i,i<33->i≠19->i≠13->f' i=f i)->∀o,og bm bj o 0 2->f' 19=.pointer (Y (o,0))->f' 13=.int .i64 0->W5 main Stop bm bo f' K cs bj):
  W5 main Stop V O f (.code (.region 16 VK false)::K) cs w:=by
 have ø:=0;exact sD
def abD(a:vV V O w g (dS C U E X) fR)(k:f 1=(g,0))
  (next:∀f' bj bm bo,dU V O w bm bo bj->(∀i,i<33->i≠27->i≠7->f' i=f i)->∀g' C' s q X',vV bm bo bj g' {dS C U E X with C:=C',U:=s,E:=q,W:=X' } {fR with C:=[6]}->f' 27=.pointer (Y (g',0))->f' 7=.int .i64 0->W5 main Stop bm bo f' K cs bj):
  W5 main Stop V O f (.code (.region 22 VN false)::K) cs w:=by
 have ø:=0;have ü:=0;exact sD
def abE{C' U' E' X':Sl}(a:vV V O w g {dS C U E X with C:=C',U:=U',E:=E',W:=X' } {fR with C:=[6]})(j:f 27=(g,0))
  (next:∀f' bj bm bo,dU V O w bm bo bj->(∀i,i<33->i≠12->i≠9->f' i=f i)->f' 12=.int .i64 8->f' 9=.int .i64 0->W5 main Stop bm bo f' K cs bj):
  W5 main Stop V O f (.code (.region 23 VO false)::K) cs w:=by
 have hk:=Ca 5;have b:=a.co.refl;refine WalkE.reg rfl ?_;refine WalkE.dV a.box a.gV rfl rfl (ft j) rfl zz rfl hk ?_;refine cr.jZ a.co rfl rfl (mY (ft rfl)) rfl zz wnn hk (λ_=>⟨rfl,rfl⟩) rfl rfl (λe0 hB=>jy (dD a.book)) (zg (aG _ _) (aG _ _)) (λe0 c=>(vG {dS C U E X with C:=C',U:=U',E:=E',W:=X' } {fR with C:=[6]} (tp (gw TA V e0 w) c w.drawn) (a.book.gw c w.drawn) (a.co.checks.gw c w.drawn)).mono λe W h=>by rw[Iq]at h;exact h.1) λp l k m d=>?_;have b:=b.tn d;refine wss ?_;exact WalkE.aT (next _ _ _ _ b (λi hi n o=>nk) rfl rfl)
def Fx.kQ{b:aC}{l:pK}{bj:H}(h:Fx V O w g b l)(f:aH V w bj):Fx V O (bj.setCell (g,1) (.int .i64 0)) g {b with D:=0} l:=by
 have m:=h.sh.co;have hk:∀x,V x/\x≠g->(bj.setCell (g,1) (.int .i64 0)).heap[x]?=w.heap[x]?:=λx a=>
  (Go.RowKit.Below.heap_setCell bj ⟨g,1,I⟩ _ x λe=>a.2 e).tn (f.keep x a.1)
 have q:(bj.setCell (g,1) (.int .i64 0)).heap.size=bj.heap.size:=by simp[H.setCell]
 have d:=h.uB.mono (λ_=>id) hk;have o:=h.chk.mono (λ_=>id) hk;refine⟨⟨⟨m.vo,λx a=>by rw[q];exact qP (m.cX x a) f.size,?_,o.mono (λ_ a=>a.1) λ_ _=>rfl⟩,?_,h.sh.gV,λi v k=>?_,λi=>?_⟩,?_,o,h.g0⟩
 .obtain⟨e0,hB⟩:=m.base;exact⟨e0,hB.v0,let⟨c,z,x⟩:=hB.cells;⟨c,z,(hk 0 ⟨hB.v0,λe=>h.g0 e.symm⟩).tn x⟩,hB.glob⟩
 .have:=d.mono (λ_ a=>a.1) λ_ _=>rfl;exact⟨⟨this.at_.C,this.at_.U,this.at_.E,this.at_.W⟩,this.C,this.U,this.E,this.W⟩
 .have a:∀j u,(wE b)[j]?=Y u->bj (g,j)=Y u:=λj u r=>aV (f.keep _ h.sh.gV) (h.sh.box j u r);have n:=a 1 _ rfl;by_cases e:i=1
  .subst e;obtain rfl:M.int .i64 0=v:=km (k);exact H.cell?_setCell_same _ _ _ n
  .have p:(wE b)[i]?=Y v:=by
    unfold wE at k|-;rcases i with _|_|i
    .exact k
    .exact mi rfl e
    .exact k
   have:=a i v p;exact(H.cell?_setCell_other _ _ _ _ (by intro h;cases h;exact e rfl)).tn this
 .have n:=aV (f.keep _ h.sh.gV) (h.sh.box 1 _ rfl);have hi:=nY (f.keep _ h.sh.gV) (h.sh.free i);simpa using hi
 .exact⟨⟨d.at_.C,d.at_.U,d.at_.E,d.at_.W⟩,d.C,d.U,d.E,d.W⟩
def abF(a:Fx V O w g (dS C U E X) fR)(d:f 1=(g,0))
  (next:∀f' bj,Fx V O bj g {dS C U E X with D:=0} fR->(∀c j,aH c j w->(∀x,c x->V x)->¬c g->aH c j bj)->f' 1=.pointer (Y (g,0))->W5 main Stop V O f' K cs bj):
  W5 main Stop V O f (.code (.region 29 VT false)::K) cs w:=by
 have hk:=Ca 5;refine WalkE.reg rfl ?_;refine WalkE.pv (.pointer (Y ⟨g,1,I⟩)) rfl rfl zz wnn hk (λbj=>(Ri rfl (ft d)).1) (λbj=>(Ri rfl (ft d)).2) ?_;have k:=(a.sh.co.vo g).1 a.sh.gV;refine WalkE.xN ⟨g,1,I⟩ (.int .i64 0) k a.sh.gV rfl rfl rfl hk (λbj b=>?_) (λbj b e i=>?_) λbj b=>?_
 .exact(J8 rfl (ft rfl) rfl (aV (b.keep _ a.sh.gV) (a.sh.box 1 _ rfl)) (nY (b.keep _ a.sh.gV) (a.sh.free 1))).1
 .rw[(J8 rfl (ft rfl) rfl (aV (b.keep _ a.sh.gV) (a.sh.box 1 _ rfl)) (nY (b.keep _ a.sh.gV) (a.sh.free 1))).2]at i;simp at i;subst i;exact⟨rfl,a.sh.gV,λ_=>k⟩
 .exact WalkE.aT (next _ _ (a.kQ b) (λc j h m l=>(h.tn (b.mono m)).tn (nB l _)) (nt d))
end
def qR{p:Prop}(h:p:=by(repeat (first|assumption|(apply dK.bH;rotate_left;assumption)|(apply Fx.bH;rotate_left;assumption)|(apply og.bH;rotate_left;assumption)|(apply dU.tn;rotate_left;assumption)|apply Fx.sh))):p:=h
end
section
variable{rest:List Nat}{f:Nat->M}{y4:M}
def ek{p:Prop}(h:p:=by(repeat (first|assumption|(apply Eq.tn;(apply_assumption -symm -exfalso<;>omega))))):p:=h
section
variable{main:Bool}{Stop:(Nat->Prop)->(Nat->Prop)->QP->H->Prop}{V O:Nat->Prop}{w:H}{K:List Item}{cs:List Kf}{g:Nat}{C U E X:Sl}
def Yh{y14 y2 y4:M}{A6:Option Addr}{c6:Nat}(a:cr V O w)(h3:f 3=(0:Int))(h5:f 5=(0:Int))(h7:f 7=(0:Int))(h9:f 9=(0:Int))(S:f 11=(0:Int))(U:f 13=(0:Int))(Z:f 15=(0:Int))(h2:f 2=y2)(h4:f 4=y4)(h6:f 6=.slice A6 0 c6)(h8:f 8=true)(R:f 10=false)(T:f 12=(10:Int))(W:f 14=y14)(d:dK V w y2 [2,3,4,5,6])(r4:dK V w y4 [3,4,5])(c:dK V w y14 [0,1])
  (next:∀f' bj l s,cr l s bj->dU V O w l s bj->(∀i,i<33->f' i=f i)->∀t u v,dK l bj t [2,3,4,5,6]->dK l bj u [3,4,5]->dK l bj v [0,1]->f' 135=.bool false->W5 main Stop l s f' (.inRegion X9 rest::K) cs bj):
  W5 main Stop V O f (.inRegion X9 (0::1::2::3::4::5::6::7::8::9::10::11::12::13::14::15::16::17::18::19::20::21::22::23::24::25::26::27::28::29::30::31::32::33::34::35::36::37::38::39::40::41::42::43::44::45::46::47::48::49::50::51::52::53::54::55::56::57::58::59::rest)::K) cs w:=by
 have hk:=Ca 5;have b:=a.refl;refine wss ?_;refine cr.row (L:=[2,3,4,5,6]) a rfl rfl zz (az (j:=26) (g:=102) rfl rfl zz rfl) hk (λ_=>yU rfl λ_=>rfl) dd λt w1 E x a q e=>?_;have d:=d.bH q;have r4:=r4.bH q;have c:=c.bH q;have b:=b.tn q;refine cr.mo true a d e dd dd dd rfl rfl (oh (ft rfl) (ft rfl)) rfl zz (az (j:=26) (g:=102) rfl rfl zz rfl) hk λw2 G y a o=>?_;have d:=d.bH o;have r4:=r4.bH o;have c:=c.bH o;have e:=e.bH o;have b:=b.tn o;refine wss ?_;refine cr.row (L:=[3,4,5]) a rfl rfl zz (az (j:=32) (g:=108) rfl rfl zz rfl) hk (λ_=>PT rfl λ_=>rfl) dd λu w3 J z a p h=>?_;have d:=d.bH p;have r4:=r4.bH p;have c:=c.bH p;have e:=e.bH p;have b:=b.tn p;refine cr.mo true a r4 h dd dd dd rfl rfl (oh (ft rfl) (ft rfl)) rfl zz (az (j:=32) (g:=108) rfl rfl zz rfl) hk λw4 N A a m=>?_;have d:=d.bH m;have r4:=r4.bH m;have c:=c.bH m;have e:=e.bH m;have h:=h.bH m;have b:=b.tn m;refine wss ?_;refine cr.row (L:=[0,1]) a rfl rfl zz (az (j:=54) (g:=130) rfl rfl zz rfl) hk (λ_=>qF rfl λ_=>rfl) dd λv w5 P B a n r=>?_;have d:=d.bH n;have r4:=r4.bH n;have c:=c.bH n;have e:=e.bH n;have h:=h.bH n;have b:=b.tn n;refine cr.mo true a c r dd dd dd rfl rfl (oh (ft rfl) (ft rfl)) rfl zz (az (j:=54) (g:=130) rfl rfl zz rfl) hk λw6 Q C a k=>?_;have d:=d.bH k;have r4:=r4.bH k;have c:=c.bH k;have e:=e.bH k;have h:=h.bH k;have r:=r.bH k;have b:=b.tn k;refine wss ?_;exact next _ _ _ _ a b (λi hi=>nk) _ _ _ e h r rfl
def aaC{A2:Option Addr}{c2:Nat}(c:cr V O w)(q:f 3=(0:Int))(r:f 5=(0:Int))(s:f 7=(0:Int))(t:f 9=(0:Int))(e:f 11=(0:Int))(g:f 13=(0:Int))(j:f 15=(0:Int))(k:f 16=(0:Int))(l:f 17=(2:Int))(m:f 18=(0:Int))(h2:f 2=.slice A2 0 c2)
  (next:∀f' bj a b,cr a b bj->dU V O w a b bj->(∀i,i<33->f' i=f i)->f' 216=.bool false->W5 main Stop a b f' (.inRegion eW rest::K) cs bj):
  W5 main Stop V O f (.inRegion eW (0::1::2::3::4::5::6::7::8::9::10::11::12::13::14::15::16::17::18::19::20::21::22::23::24::25::26::27::28::29::30::31::32::33::34::35::36::37::38::39::40::41::42::43::rest)::K) cs w:=by
 have ø:=0;exact vM
def aaD{y218 y4:M}(a:cr V O w)(h:f 216=false)(j:f 217=y4)(k:f 218=y218)(r4:dK V w y4 [2,3,4,5,6])(g:dK V w y218 [2,3,4,5,6])
  (next:∀f' bj b c,cr b c bj->dU V O w b c bj->(∀i,i<33->f' i=f i)->f' 222=.bool false->W5 main Stop b c f' (.inRegion eW rest::K) cs bj):
  W5 main Stop V O f (.inRegion eW (46::47::48::49::rest)::K) cs w:=by
 have hk:=Ca 5;have e:=a.refl;refine cr.mo true a r4 g dd dd dd rfl rfl (oh (ft j) (ft k)) rfl zz (az rfl rfl zz h) hk λn m l a d=>?_;have r4:=r4.bH d;have g:=g.bH d;have e:=e.tn d;refine wss ?_;exact next _ _ _ _ a e (λi hi=>nk)   rfl
def aaE{y224 y6:M}(a:cr V O w)(h:f 222=false)(j:f 223=y6)(k:f 224=y224)(r6:dK V w y6 [0,1])(g:dK V w y224 [0,1])
  (next:∀f' bj b c,cr b c bj->dU V O w b c bj->(∀i,i<33->f' i=f i)->f' 228=.bool false->W5 main Stop b c f' (.inRegion eW rest::K) cs bj):
  W5 main Stop V O f (.inRegion eW (52::53::54::55::rest)::K) cs w:=by
 have hk:=Ca 5;have e:=a.refl;refine cr.mo true a r6 g dd dd dd rfl rfl (oh (ft j) (ft k)) rfl zz (az rfl rfl zz h) hk λn m l a d=>?_;have r6:=r6.bH d;have g:=g.bH d;have e:=e.tn d;refine wss ?_;exact next _ _ _ _ a e (λi hi=>nk)   rfl
def aaF(c:cr V O w)(h228:f 228=false)(h229:f 229=.agg #[.int .i64 0,.int .i64 2])(h230:f 230=.agg #[.int .i64 0,.int .i64 2])(n:f 20=(0:Int))(o:f 21=(0:Int))
  (next:∀f' bj a b,cr a b bj->dU V O w a b bj->(∀i,i<33->f' i=f i)->f' 240=.bool false->W5 main Stop a b f' (.inRegion eW rest::K) cs bj):
  W5 main Stop V O f (.inRegion eW (58::59::60::61::62::63::64::65::66::67::rest)::K) cs w:=vM
end
end
section
variable{rest:List Nat}{f:Nat->M}
section
variable{main:Bool}{Stop:(Nat->Prop)->(Nat->Prop)->QP->H->Prop}{V O:Nat->Prop}{w:H}{K:List Item}{cs:List Kf}{g:Nat}{C U E X:Sl}
def abQ{y29:M}(a:cr V O w)(E:f 3=(0:Int))(N:f 5=(0:Int))(P:f 7=(0:Int))(R:f 9=(0:Int))(r:f 11=(0:Int))(t:f 13=(0:Int))(u:f 15=(0:Int))(v:f 22=(0:Int))(x:f 23=true)(y:f 24=(0:Int))(z:f 25=(2:Int))(A:f 26=(8:Int))(s:f 12=(8:Int))(Q:f 8=false)(B:f 28=true)(C:f 29=y29)(G:f 30=(0:Int))(J:f 31=(7:Int))(c:dK V w y29 [0,1])
  (next:∀f' bj d h,cr d h bj->dU V O w d h bj->(∀i,i<33->f' i=f i)->∀m,dK d bj m [0,1]->f' 351=.bool false->W5 main Stop d h f' (.inRegion Q8 rest::K) cs bj):
  W5 main Stop V O f (.inRegion Q8 (0::1::2::3::4::5::6::7::8::9::10::11::12::13::14::15::16::17::18::19::20::21::22::23::24::25::26::27::28::29::30::31::32::33::34::35::36::37::38::39::40::41::42::43::44::45::46::47::48::49::50::51::52::53::54::55::56::57::58::59::60::61::62::63::64::65::66::67::68::69::70::rest)::K) cs w:=by
 have hk:=Ca 5;have b:=a.refl;refine wss ?_;refine cr.row (L:=[0,1]) a rfl rfl zz (az (j:=57) (g:=338) rfl rfl zz rfl) hk (λ_=>qF rfl λ_=>rfl) dd λm S p n a l e=>?_;have c:=c.bH l;have b:=b.tn l;refine cr.mo true a c e dd dd dd rfl rfl (oh (ft rfl) (ft rfl)) rfl zz (az (j:=57) (g:=338) rfl rfl zz rfl) hk λT q o a k=>?_;have c:=c.bH k;have e:=e.bH k;have b:=b.tn k;refine wss ?_;exact next _ _ _ _ a b (λi hi=>nk) _ e rfl
def abR{y32:M}(a:cr V O w)(t:f 3=(0:Int))(v:f 5=(0:Int))(r:f 20=(1:Int))(s:f 21=(3:Int))(u:f 32=y32)(c:dK V w y32 [0,1])
  (next:∀f' bj d h,cr d h bj->dU V O w d h bj->(∀i,i<33->i≠0->f' i=f i)->∀m,dK d bj m [0,1]->f' 0=.bool true->W5 main Stop d h f' (.inRegion Re rest::K) cs bj):
  W5 main Stop V O f (.inRegion Re (0::1::2::3::4::5::6::7::8::9::10::11::12::13::14::15::16::17::18::19::rest)::K) cs w:=by
 have hk:=Ca 5;have b:=a.refl;refine wss ?_;refine cr.row (L:=[0,1]) a rfl rfl zz (az (j:=14) (g:=380) rfl rfl zz rfl) hk (λ_=>qF rfl λ_=>rfl) dd λm y p n a l e=>?_;have c:=c.bH l;have b:=b.tn l;refine cr.mo true a c e dd dd dd rfl rfl (oh (ft rfl) (ft rfl)) rfl zz (az (j:=14) (g:=380) rfl rfl zz rfl) hk λz q o a k=>?_;have c:=c.bH k;have e:=e.bH k;have b:=b.tn k;refine wss ?_;exact next _ _ _ _ a b (λi hi x=>nk) _ e rfl
end
end
structure YQ(V O:Nat->Prop)(w:H)(f:Nat->M)(g:Nat)(C U E X:Sl):Prop where
 x:Fx V O w g (dS C U E X) fR
 h1:f 1=(g,0)
 h3:f 3=(0:Int)
 h5:f 5=(0:Int)
 h7:f 7=(0:Int)
 h9:f 9=(0:Int)
 h11:f 11=(0:Int)
 h13:f 13=(0:Int)
 h16:f 16=(0:Int)
 h17:f 17=(2:Int)
 h18:f 18=(0:Int)
 h2:∃A c,f 2=.slice A 0 c
 r4:dK V w (f 4) [2,3,4,5,6]
 r6:dK V w (f 6) [0,1]
 h19:∃gb,f 19=(gb,0)/\og V w gb 0 2
def YQ.rely{V O bm bo:Nat->Prop}{w bj:H}{f:Nat->M}{g:Nat}{C U E X:Sl}(h:YQ V O w f g C U E X)(e:cr bm bo bj)(c:∀x,V x->bm x)(d:aH V w bj):YQ bm bo bj f g C U E X:=
 {h with x:=h.x.rely e c d,r4:=h.r4.J7 c d,r6:=h.r6.J7 c d,h19:=let⟨gb,a,b⟩:=h.h19;⟨gb,a,b.J7 c d⟩}
def Uj(h:cr V O w)
  (next:∀f bj b c g C U E X,dU V O w b c bj->¬V g->YQ b c bj f g C U E X->WalkE F main Stop b c (G (Kf.enter F 21 #[(dS C U E X).v] .normal) (sF f (.inRegion Fb [1,2,3,4,5,6,7,8]::[.code we])::cs)) bj):
  WalkE F main Stop V O (G (Kf.enter F 5 #[] .normal) cs) w:=by
 refine abB h λf0 w0 V0 R g C U E X a g0 K e1=>?_;rw[T5];refine WalkE.seq (XU qR ek λf1 w1 V1 S g1 k1 y2 N t u=>?_);rw[T7];refine WalkE.seq (XV qR ek λf2 w2 V2 O2 g2 k2 y4 r4 v x=>?_);rw[T9];refine WalkE.seq (XW qR ek λf3 w3 V3 O3 g3 k3 j r6 y z=>?_);rw[Ub];refine WalkE.seq (Yd qR ek λf4 w4 V4 O4 g4 k4 e8 A=>?_);rw[Ue];refine WalkE.seq (Ye qR ek λf5 w5 V5 O5 g5 k5 a6 p=>?_);rw[Ug];refine WalkE.seq (Yf qR ek λf6 w6 V6 O6 g6 k6 a7 q=>?_);rw[Uh];refine WalkE.seq (Yg qR ek λf7 P n m g7 k7 d6 L a8 a9=>?_);obtain⟨Q,c6,rfl⟩:=JK r6;rw[Ui];refine WalkE.seq (WalkE.seq (WalkE.reg rfl ?_));refine Yh (qR:Fx n m P g (dS C U E X) fR).sh.co ek ek ek ek ek ek ek ek ek ek ek ek ek ek qR qR L λf8 w8 V8 O8 h g8 k8 d3 d4 d5 c5 c7 c8 r=>?_;refine WalkE.aT (WalkE.cond (ft r) (WalkE.skip ?_));rw[QO];refine WalkE.seq (abG qR ek λf9 w9 V9 O9 g9 k9 a' u=>?_);rw[QS];refine WalkE.seq (abH qR ek λb2 c9 a2 T b6 b0 a0 x=>?_);rw[QT];refine WalkE.seq (abI qR ek λb3 c' a3 W b7 c1 b1 z=>?_);rw[QU];refine WalkE.seq (abJ qR ek λb4 d1 a4 Z b8 c2 y2 y4 N r4 t v A=>?_);rw[QV];refine WalkE.seq (abK qR ek λb5 d2 a5 a1 b9 c3 j r6 y p=>?_);rw[QW];refine WalkE.seq (abC qR ek λe i d l b' c4 B J s q=>?_);rw[QX];refine WalkE.seq (WalkE.reg rfl ?_);have a:Fx d l i g (dS C U E X) fR:=qR;have hk:=Ca 5;refine WalkE.dV a.sh.box a.sh.gV rfl rfl (ft ek) rfl zz rfl hk ?_;obtain⟨k,o,rfl⟩:=JK (qR:dK d i y2 []);refine WalkE.enter rfl wnn hk (λbj=>(kJ rfl (mY (ft rfl)) rfl λ_=>⟨rfl,rfl⟩).1) (λbj=>(kJ rfl (mY (ft rfl)) rfl λ_=>⟨rfl,rfl⟩).2) ?_;refine next _ _ _ _ g C U E X qR K ⟨a,nt ek,nt ek,nt ek,nt ek,nt ek,nt ek,nt ek,nt ek,nt ek,nt ek,⟨k,o,nt ek⟩,?r4,?r6,B,nt s,J⟩
 .rw[nt (ek:e 4=y4)];exact qR
 .rw[nt (ek:e 6=j)];exact qR
variable{a:List Nat}{K:List Item}
def aaG(k:a∈[[44,45],[45,44]]){y4:M}(c:cr V O w)(h4:f 4=y4)(h216:f 216=false)
  (next:∀f' bj b d,cr b d bj->dU V O w b d bj->(∀i,i<33->f' i=f i)->∀l,dK b bj l [2,3,4,5,6]->f' 216=.bool false->f' 217=y4->f' 218=l->W5 main Stop b d f' (.inRegion eW rest::K) cs bj):
  W5 main Stop V O f (.inRegion eW (a++rest)::K) cs w:=xap
def aaH(k:a∈[[50,51],[51,50]]){y6:M}(c:cr V O w)(h6:f 6=y6)(h222:f 222=false)
  (next:∀f' bj b d,cr b d bj->dU V O w b d bj->(∀i,i<33->f' i=f i)->∀m,dK b bj m [0,1]->f' 222=.bool false->f' 223=y6->f' 224=m->W5 main Stop b d f' (.inRegion eW rest::K) cs bj):
  W5 main Stop V O f (.inRegion eW (a++rest)::K) cs w:=by
 have ø:=0;exact xap
def aaI(k:a∈[[56,57],[57,56]]){gb:Nat}(c:cr V O w)(h19:f 19=(gb,0))(h228:f 228=false)(hB:og V w gb 0 2)
  (next:∀f' bj b d,cr b d bj->dU V O w b d bj->(∀i,i<33->f' i=f i)->f' 228=.bool false->f' 229=.agg #[.int .i64 0,.int .i64 2]->f' 230=.agg #[.int .i64 0,.int .i64 2]->W5 main Stop b d f' (.inRegion eW rest::K) cs bj):
  W5 main Stop V O f (.inRegion eW (a++rest)::K) cs w:=by
 have å:=0;exact xap
def Uk{V O:Nat->Prop}{w:H}{f:Nat->M}{g:Nat}{C U E X:Sl}{Vs:Nat->Prop}{ws:H}(h:YQ V O w f g C U E X)(v:∀x,Vs x->V x)(a8:aH Vs ws w)(a5:¬Vs g)
  (next:∀f bj m s,(∀x,Vs x->m x)->aH Vs ws bj->Fx m s bj g {dS C U E X with D:=0} fR->f 1=.pointer (Y ⟨g,0,I⟩)->WalkE F main Stop m s (G (Kf.enter F 21 #[({dS C U E X with D:=0}:aC).v] .normal) (sF f (.inRegion Fe [1,2,3,4,5,6,7,8]::[.code zi])::cs)) bj):
  WalkE F main Stop V O (G ((sF f (.inRegion Fb [1,2,3,4,5,6,7,8]::[.code we])).finish (.tuple #[.int .i64 0,.int .i64 0,.int .i64 0])) cs) w:=by
 have hk:=Ca 5;obtain⟨j,e1,Z,e5,e7,e9,J,K,b0,c1,c3,⟨A2,c2,e2⟩,r4,r6,h2,c4,h5⟩:=h;rw[Kf.finish_at,show(Fb[1]?).bind (·.dst)=Y 169 from rfl,cw zz];refine WalkE.av (.tuple #[.int .i64 0,.int .i64 0,.int .i64 0]) rfl (.inl rfl) (ft rfl) rfl zz wnn hk ?_;refine WalkE.ack (.int .i64 0) rfl rfl (ft rfl) rfl rfl zz wnn hk ?_;refine WalkE.ack (.int .i64 0) rfl rfl (ft rfl) rfl rfl zz wnn hk ?_;refine WalkE.ack (.int .i64 0) rfl rfl (ft rfl) rfl rfl zz wnn hk ?_;refine WalkE.av (.int .i64 0) rfl (.inr rfl) (ft rfl) rfl zz wnn hk ?_;refine WalkE.av (.int .i64 0) rfl (.inr rfl) (ft rfl) rfl zz wnn hk ?_;refine WalkE.av (.int .i64 0) rfl (.inr rfl) (ft rfl) rfl zz wnn hk ?_;obtain⟨f0,e⟩:∃f0,f0=ah (ah (ah (ah (ah (ah (ah (ah f 169 (.tuple #[.int .i64 0,.int .i64 0,.int .i64 0])) 167 (.tuple #[.int .i64 0,.int .i64 0,.int .i64 0])) 170 (.int .i64 0)) 171 (.int .i64 0)) 172 (.int .i64 0)) 20 (.int .i64 0)) 21 (.int .i64 0)) 15 (.int .i64 0):=⟨_,rfl⟩;have k0:∀i,i<33->i≠20->i≠21->i≠15->f0 i=f i:=λi hi i2 i3 i1=>by rw[e];exact nk
 have c5:f0 20=.int .i64 0:=by rw[e];rfl
 have c6:f0 21=.int .i64 0:=by rw[e];rfl
 have L:f0 15=.int .i64 0:=by rw[e];rfl
 rw[<- e];clear e;obtain⟨y4,h4⟩:∃y4,f 4=y4:=⟨_,rfl⟩;obtain⟨q,h6⟩:∃q,f 6=q:=⟨_,rfl⟩;rw[h4]at r4;rw[h6]at r6;refine WalkE.aT ?_;rw[QY];refine WalkE.seq (WalkE.seq (WalkE.draw Rh λl hl bj a6=>?_));have g0:=j.sh.co.refl.step a6;obtain⟨a,a2,hl⟩:=List.mem_flatMap.1 hl;obtain⟨b,a3,hl⟩:=List.mem_flatMap.1 hl;obtain⟨c,a4,rfl⟩:=List.mem_map.1 hl;refine aaC (rest:=a++([46,47,48,49]++(b++([52,53,54,55]++(c++[58,59,60,61,62,63,64,65,66,67]))))) (qR:Fx V O bj g (dS C U E X) fR).sh.co ek ek ek ek ek ek ek ek ek ek ek λf1 w1 V1 O1 d g1 k1 n=>?_;refine aaG a2 d (ek:f1 4=y4) n λf2 w2 V2 O2 d g2 k2 j2 i4 n N P=>?_;refine aaD (rest:=b++([52,53,54,55]++(c++[58,59,60,61,62,63,64,65,66,67]))) d n N P qR qR λf3 w3 V3 O3 d g3 k3 o=>?_;refine aaH a3 d (ek:f3 6=q) o λf4 w4 V4 O4 d g4 k4 j3 i5 o Q R=>?_;refine aaE (rest:=c++[58,59,60,61,62,63,64,65,66,67]) d o Q R qR qR λf5 w5 V5 O5 d g5 k5 p=>?_;refine aaI a4 d ek p qR λf6 w6 V6 O6 d g6 k6 p S T=>?_;refine aaF (rest:=[]) d p S T ek ek λf7 w7 V7 O7 d g7 k7 W=>?_;refine WalkE.aT (WalkE.cond (ft W) (WalkE.skip ?_));rw[QZ];refine WalkE.seq (abL qR ek λf8 w8 V8 O8 g8 k8 c7 c8 Z=>?_);rw[Q2];refine WalkE.seq (abM qR ek λf9 w9 V9 O9 g9 k9 c9 c' d1 e5=>?_);rw[Q3];refine WalkE.seq (abD qR ek λd7 i8 b5 b1 e6 h7 g2 C2 U2 E2 b9 h3 d2 e7=>?_);rw[Q4];refine WalkE.seq (abE qR ek λd8 i9 b6 b2 e' h8 b' e9=>?_);rw[Q5];refine WalkE.seq (abN qR ek λd9 i' b7 b3 e0 h9 e8 d3 J=>?_);rw[Q6];refine WalkE.seq (abO qR ek λd' i0 b8 b4 f' h' j4 i6 d4 d5 K=>?_);rw[Q7];refine WalkE.seq (abP qR ek λd0 a0 B A g' h0 d6 L=>?_);rw[Q9];refine WalkE.seq (WalkE.seq (WalkE.reg rfl ?_));refine abQ (qR:Fx B A a0 g (dS C U E X) fR).sh.co ek ek ek ek ek ek ek ek ek ek ek ek ek ek ek ek ek ek qR λe3 z k r d h1 pQ j5 i7 a1=>?_;refine WalkE.aT (WalkE.cond (t:=false) (ft a1) (WalkE.skip ?_));rw[Ra];refine WalkE.seq (abF (qR:Fx k r z g (dS C U E X) fR) ek λe4 j1 j a7 e1=>?_);have u:dU V O w k r z:=qR;have y:∀x,Vs x->k x:=λx a'=>u.vv x (v x a');have a9:=a7 _ _ (a8.tn (u.rely.mono v)) y a5;rw[Rb];refine WalkE.seq (WalkE.reg (l:=[0,1,2,3,4,5,6,7,8]) rfl ?_);refine WalkE.dV j.sh.box j.sh.gV rfl rfl (ft ek) rfl zz rfl hk ?_;refine WalkE.enter rfl wnn hk (λbj=>(kJ rfl (mY (ft rfl)) rfl λ_=>⟨rfl,rfl⟩).1) (λbj=>(kJ rfl (mY (ft rfl)) rfl λ_=>⟨rfl,rfl⟩).2) ?_;exact next _ _ _ _ y a9 j (nt ek)
end Go.Proofs.YthfhocgpjjkjlaaGreatDoor
namespace Go.Proofs.YthfhocgpjjkjlaaGreatDoor
open Go.RowKit Go.Co Go.Conc
section
variable{c0:Kf}{J:Gh}{w:H}{V O:Nat->Prop}
section
variable{main:Bool}{Stop:(Nat->Prop)->(Nat->Prop)->QP->H->Prop}{V O:Nat->Prop}{w:H}{cs:List Kf}{f:Nat->M}{g:Nat}{C U E X:Sl}
def Ul(a:Fx V O w g {dS C U E X with D:=0} fR)(h:f 1=.pointer (Y ⟨g,0,I⟩))
  (next:∀f bj c d b,dU V O w c d bj->cr c d bj->cy TA c bj {dS C U E X with D:=0,W:=b} VE->f 3=.int .i64 0->f 20=.int .i64 1->f 21=.int .i64 3->WalkE F main Stop c d (G (Kf.enter F 28 #[({dS C U E X with D:=0,W:=b}:aC).v] .normal) (sF f (.inRegion Ff [3,4,5,6,7,8]::[.code zm])::cs)) bj):
  WalkE F main Stop V O (G ((sF f (.inRegion Fe [1,2,3,4,5,6,7,8]::[.code zi])).finish (.tuple #[.int .i64 1,.int .i64 3,.int .i64 0])) cs) w:=by
 have hk:=Ca 5;have m:=a.sh.co.refl;rw[Kf.finish_at,show(Fe[1]?).bind (·.dst)=Y 355 from rfl,cw zz];refine wss ?_;refine WalkE.aT ?_;rw[Rc];refine WalkE.seq (WalkE.reg rfl ?_);refine WalkE.dV a.sh.box a.sh.gV rfl rfl (ft ?e1) rfl zz rfl hk ?_
 case e1=>exact nt (nt (nt (nt (nt (nt (nt (nt h)))))))
 refine WalkE.pv (wV (1,2,true)) rfl rfl zz wnn hk (λ_=>(PS rfl λ_=>rfl).1) (λ_=>(PS rfl λ_=>rfl).2) ?_;refine cr.X8 a.sh.co a.sh.book dd dd rfl rfl (oh (ft rfl) (ft rfl)) rfl zz wnn hk λb n l k i e j=>?_;refine WalkE.enter rfl wnn hk (λbj=>(kJ rfl (mY (ft rfl)) rfl λ_=>⟨rfl,rfl⟩).1) (λbj=>(kJ rfl (mY (ft rfl)) rfl λ_=>⟨rfl,rfl⟩).2) ?_;exact next _ _ _ _ b e i j rfl rfl rfl
def Yj{v:M}(k:cr V O w)(j:f 3=(0:Int))(g:f 20=(1:Int))(h:f 21=(3:Int))(o:dK V w v [0,1])
  (next:∀bj a b,dU V O w a b bj->cr a b bj->WalkE F main Stop a b (G (c0.finish (.bool true)) cs) bj):
  WalkE F main Stop V O (G ((sF f (.inRegion Ff [3,4,5,6,7,8]::[.code zm])).finish (.tuple #[v,.int .i64 0])) (c0::cs)) w:=by
 have hk:=Ca 5;rw[Kf.finish_at,show(Ff[3]?).bind (·.dst)=Y 363 from rfl,cw zz];refine wss ?_;refine WalkE.aT ?_;rw[Rf];refine WalkE.seq (WalkE.reg (l:=List.range 20) rfl ?_);have q:∀i,i<33->i≠5->i≠32->ah (ah (ah (ah (ah (ah f 363 (.tuple #[v,.int .i64 0])) 359 (.tuple #[v,.int .i64 0])) 364 v) 365 (.int .i64 0)) 32 v) 5 (.int .i64 0) i=f i:=λi hi t s=>nk;refine abR k ((q 3 zz zz zz).tn j) rfl ((q 20 zz zz zz).tn g) ((q 21 zz zz zz).tn h) rfl o λf' u r p m e _ _ _ e0=>?_;refine WalkE.aT ?_;rw[Rg];refine WalkE.ret ?_;refine WalkE.leave (v:=.bool true) rfl rfl Tryz.func5 (λc _=>?_) (λc _=>?_) (next _ _ _ e m)
 .have d:((Array.range 385).map f')[0]?=Y (f' 0):=ej (n:=385) (f:=f') zz;show(results Tryz.f5 ((Array.range 385).map f')).run F c=_;generalize(Array.range 385).map f'=A at d;unfold results Tryz.f5;simp[d,e0]
 .show(results Tryz.f5 ((Array.range 385).map f')).events F c #[]=_;generalize(Array.range 385).map f'=A;unfold results Tryz.f5;simp
end
def Main.co(a:Main J w):cr (J.V 0) (J.O 0) w:=⟨a.idle.all,a.idle.cX,a.b0,a.checks⟩
def cr.main{J σ':Gh}{w w':H}(a:cr V O w')(c:Main J w)(hk:Fs 0 J σ')(e:∀b,σ'.V 0 b↔V b)(d:∀b,σ'.O 0 b↔O b):Main σ' w':=by
 obtain rfl:V=σ'.V 0:=funext λb=>propext (e b).symm;obtain rfl:O=σ'.O 0:=funext λb=>propext (d b).symm;exact⟨⟨hk.md.tn c.idle.md,hk.df.tn c.idle.df,hk.cD.2 c.idle.cD,a.vo,a.cX⟩,a.checks,a.base⟩
def cr.rely{w bj:H}(h:cr V O w)(a:aH V w bj):cr V O bj:=h.bH (h.refl.step a)
def Rj{post:M->H->Prop}{cs:List Kf}(a2:Main J w)
  (next:∀σ' w',Main σ' w'->(∀x,J.V 0 x->σ'.V 0 x)->aH (J.V 0) w w'->aQ fI F post (G (c0.finish (.bool true)) cs) σ' w'):
  aQ fI F post (G (Kf.enter F 5 #[] .normal) (c0::cs)) J w:=by
 refine aQ.walk (Stop:=λV' k g' w'=>∃f g C U E X,g'=G (Kf.enter F 21 #[(dS C U E X).v] .normal) (sF f (.inRegion Fb [1,2,3,4,5,6,7,8]::[.code we])::c0::cs)/\YQ V' k w' f g C U E X/\(∀x,J.V 0 x->V' x)/\aH (J.V 0) w w'/\¬J.V 0 g) (V:=J.V 0) (O:=J.O 0)
  (Uj a2.co λf q n p g C U E X i K hF=>WalkE.stop λo c=>⟨f,g,C,U,E,X,rfl,hF.rely (hF.x.sh.co.rely c) (λ_=>id) c,i.vv,i.rely.tn (c.mono i.vv),K⟩) (λ_=>il) (λ_=>il) (λn p g1 q σ1 m a j hk=>?_)
 obtain⟨f,g,C,U,E,X,rfl,hF,Q,a8,K⟩:=m;have a3:=hF.x.sh.co.main a2 hk a j;obtain rfl:n=σ1.V 0:=funext λb=>propext (a b).symm;refine Ju a3 hF.x.sh.book.win (JI C U E X) λσ2 o B R N=>?_;rw[TW];have a1:=hF.rely B.co R N;have a0:∀x,J.V 0 x->σ2.V 0 x:=λx e=>R x (Q x e);have a7:aH (J.V 0) w o:=a8.tn (N.mono Q);clear hF hk a j a3 R N a8 Q;refine aQ.walk (Stop:=λV' k g' w'=>∃f,g'=G (Kf.enter F 21 #[({dS C U E X with D:=0}:aC).v] .normal) (sF f (.inRegion Fe [1,2,3,4,5,6,7,8]::[.code zi])::c0::cs)/\Fx V' k w' g {dS C U E X with D:=0} fR/\f 1=.pointer (Y ⟨g,0,I⟩)/\(∀x,J.V 0 x->V' x)/\aH (J.V 0) w w') (V:=σ2.V 0) (O:=σ2.O 0)
  (Uk a1 a0 a7 K λf q n p a' c l z=>WalkE.stop λo L=>⟨f,rfl,l.rely (l.sh.co.rely L) (λ_=>id) L,z,a',c.tn (L.mono a')⟩) (λ_=>il) (λ_=>il) (λV3 O3 g3 w3 d4 m a j hk=>?_)
 obtain⟨f3,rfl,l,z,S,a9⟩:=m;have a4:=l.sh.co.main B hk a j;obtain rfl:V3=d4.V 0:=funext λb=>propext (a b).symm;refine Ju a4 l.sh.book.win (TZ C U E X) λZ w4 a5 T P=>?_;rw[QI];have b8:=l.rely a5.co T P;have b1:∀x,J.V 0 x->Z.V 0 x:=λx e=>T x (S x e);have c5:aH (J.V 0) w w4:=a9.tn (P.mono S);clear l hk a j a4 T P a9 S B a1 a0 a7;refine aQ.walk (Stop:=λV' k g' w'=>∃f d,g'=G (Kf.enter F 28 #[({dS C U E X with D:=0,W:=d}:aC).v] .normal) (sF f (.inRegion Ff [3,4,5,6,7,8]::[.code zm])::c0::cs)/\cr V' k w'/\cy TA V' w' {dS C U E X with D:=0,W:=d} VE/\f 3=.int .i64 0/\f 20=.int .i64 1/\f 21=.int .i64 3/\(∀x,J.V 0 x->V' x)/\aH (J.V 0) w w') (V:=Z.V 0) (O:=Z.O 0)
  (Ul b8 z λf q n p d i A b9 y t u=>WalkE.stop λo c=>⟨f,d,rfl,A.rely c,b9.mono (λ_=>id) c.keep,y,t,u,λx e=>i.vv x (b1 x e),c5.tn ((i.step c).rely.mono b1)⟩) (λ_=>il) (λ_=>il) (λV5 O5 g5 w5 σ5 m a j hk=>?_)
 obtain⟨f5,d,rfl,b4,c1,y,t,u,b3,c7⟩:=m;have b6:=b4.main a5 hk a j;obtain rfl:V5=σ5.V 0:=funext λb=>propext (a b).symm;refine PM b6 c1 (X6 C U E X d) (T0 C U E X d) ⟨3,by decide,aar C U E X d⟩ λr w6 v s a6 d2 c8 c2 c3 c' c4=>?_;have b':s=3:=by
  have b0:s<4:=c2
  match s,b0,c3 with
  | 0,_,h=>rw[aao C U E X d]at h;cases h
  | 1,_,h=>rw[aap C U E X d]at h;cases h
  | 2,_,h=>rw[aaq C U E X d]at h;cases h
  | 3,_,_=>rfl
 subst b';have d1:dK (r.V 0) w6 v [0,1]:=⟨c',c4⟩;have b2:∀x,J.V 0 x->r.V 0 x:=λx e=>d2 x (b3 x e);have c6:aH (J.V 0) w w6:=c7.tn (c8.mono b3);refine aQ.walk (Stop:=λV' k g' w'=>g'=G (c0.finish (.bool true)) cs/\cr V' k w'/\(∀x,J.V 0 x->V' x)/\aH (J.V 0) w w') (V:=r.V 0) (O:=r.O 0)
  (Yj a6.co y t u d1 λq n p i A=>WalkE.stop λo c=>⟨rfl,A.rely c,λx e=>i.vv x (b2 x e),c6.tn ((i.step c).rely.mono b2)⟩) (λ_=>il) (λ_=>il) (λV7 O7 g7 w7 σ7 m a j hk=>?_)
 obtain⟨rfl,b5,d3,c9⟩:=m;have b7:=b5.main a6 hk a j;exact next σ7 w7 b7 (λx e=>(a x).2 (d3 x e)) c9
end
end Go.Proofs.YthfhocgpjjkjlaaGreatDoor
