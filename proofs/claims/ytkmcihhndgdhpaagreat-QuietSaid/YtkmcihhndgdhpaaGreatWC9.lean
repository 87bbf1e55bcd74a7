/- Parts of the walk. -/
import Derived.Test.YtkmcihhndgdhpaaGreatWC8
set_option maxRecDepth 100000
set_option maxHeartbeats 4000000
set_option linter.unusedSimpArgs false
set_option linter.unusedVariables false
open Go.ChangeMaps Go.Maps Go.RowKit Go.Shelf Go.Proofs.Tryz
namespace Go.Proofs.YtkmcihhndgdhpaaGreat
variable {P:Pr}{st st0:PS}{x:Nat}{f:LF}
def rcX (next:Nat->List Nat):Nat->List Nat->Nat->Nat
 | 0,_,S=>S
 | _+1,[],S=>S
 | f+1,k::l,S=>if S.testBit k then rcX next f l S else rcX next f (next k++l) (S|||2 ^ k)
def clB (next:Nat->List Nat)(start:List Nat)(n S:Nat):Bool :=
 start.all (fun k=>S.testBit k)&&(List.range n).all (fun k=>!S.testBit k||(next k).all fun j=>S.testBit j)&&decide (S<2 ^ n)
theorem testBit_two_pow {k j:Nat}:(2 ^ k).testBit j=decide (k=j):=Nat.testBit_two_pow
theorem zob {next:Nat->List Nat}{start:List Nat}:∀ (f:Nat) (l:List Nat) (S:Nat),(∀ k,k ∈ l->xq next start k)->(∀ k,S.testBit k=true->xq next start k)->∀ k,(rcX next f l S).testBit k=true->xq next start k
 | 0,_,_,_,hS,k,h=>hS k h
 | _+1,[],_,_,hS,k,h=>hS k h
 | f+1,a::l,S,hl,hS,k,h=>by
  unfold rcX at h;split at h
  ·exact zob f l S (fun k D=>hl k (by simp[D])) hS k h
  ·refine zob f (next a++l) (S|||2 ^ a) (fun j A=>?_) (fun j A=>?_) k h
   ·rcases yu.1 A with A | A
    ·exact .step (hl a yy) A
    ·exact hl j (by simp[A])
   ·rw[yau,yQ,Nat.testBit_two_pow,decide_eq_true_eq]at A;rcases A with A | rfl
    ·exact hS j A
    ·exact hl _ yy
theorem zlw {next:Nat->List Nat}{start:List Nat}{n f:Nat}(h:clB next start n (rcX next f start 0)=true)(k:Nat):(rcX next f start 0).testBit k=true↔xq next start k:=by
 refine⟨zob f start 0 (fun k A=>.start A) (fun k A=>by simp at A) k,fun hr=>?_⟩;unfold clB at h;simp only[yH,yaj,yaf,decide_eq_true_eq,yQ,yb4]at h;obtain⟨⟨h1,h2⟩,h3⟩:=h
 induction hr with
 | start A=>exact h1 _ A
 | step _ hj ih =>
  rename_i k j _;have A:k<n:=by
   rcases yF k n with E | D
   ·exact E
   ·have:=ya6 (yi h3 (yO yo D):_<2 ^ k);rw[this]at ih;cases ih
  rcases h2 k A with h | h
  ·rw[ih]at h;cases h
  ·exact h j hj
def onX (P:Pr):Nat:=match P.fs[P.main]? with | some f=>rcX (zb6 P) 4000 [f.from_] 0 | none=>0
def onC (P:Pr):Bool:=match P.fs[P.main]? with | some f=>clB (zb6 P) [f.from_] P.code.length (onX P) | none=>true
theorem onX_eq (h:onC P=true):onB P=fun k=>(onX P).testBit k:=by
 funext k
 rw[yS];have hb:onB P k=true↔∃ f,P.fs[P.main]?=some f/\xq (zb6 P) [f.from_] k:=by unfold onB;simp
 rw[hb];unfold onC at h;unfold onX at h |-;cases hf:P.fs[P.main]? with
 | none=>simp
 | some f =>
  rw[hf]at h;simp only at h;simp only[Option.some.injEq,exists_eq_left'];exact(zlw h k).symm
def setX (p:Nat->Bool):Nat->Nat
 | 0=>0
 | n+1=>if p n then setX p n|||2 ^ n else setX p n
theorem zoh (p:Nat->Bool):∀ n k,(setX p n).testBit k=(decide (k<n)&&p k)
 | 0,k=>by simp[setX]
 | n+1,k=>by
  unfold setX;have D:=zoh p n k;split
  ·rename_i h;rw[yau,D,Nat.testBit_two_pow];by_cases A:k=n
   ·subst A;simp[h]
   ·have h1:decide (n=k)=false:=by rw[decide_eq_false_iff_not];omega
    have h2:decide (k<n+1)=decide (k<n):=by rw[decide_eq_decide];omega
    rw[h1,h2,yav]
  ·rename_i h;rw[D];by_cases A:k=n
   ·subst A;simp[h]
   ·have h2:decide (k<n+1)=decide (k<n):=by rw[decide_eq_decide];omega
    rw[h2]
def loX (P:Pr):Nat:=setX (fun k=>(rcX (zS P) 4000 (zS P k) 0).testBit k) P.code.length
def loC (P:Pr):Bool:=(List.range P.code.length).all fun k=>clB (zS P) (zS P k) P.code.length (rcX (zS P) 4000 (zS P k) 0)
theorem loX_eq (h:loC P=true):loB P=fun k=>(loX P).testBit k:=by
 funext k
 rw[yS];have hb:loB P k=true↔k<P.code.length/\xq (zS P) (zS P k) k:=by unfold loB;simp
 rw[hb];unfold loX;rw[zoh,yH,decide_eq_true_eq];refine and_congr_right fun A=>?_;unfold loC at h;have:=yaj.1 h k (yaf.2 A);exact(zlw this k).symm
def maStep (P:Pr)(on lo:Nat->Bool)(S:Nat):Nat:=setX (fun g=>S.testBit g||zei P on lo (fun g=>S.testBit g) g) P.fs.length
def maIt (P:Pr)(on lo:Nat->Bool):Nat->Nat
 | 0=>0
 | n+1=>maStep P on lo (maIt P on lo n)
def maX (P:Pr)(on lo:Nat->Bool):Nat:=maIt P on lo (P.fs.length+1)
def maC (P:Pr)(on lo:Nat->Bool):Bool:=(List.range P.fs.length).all fun g=>!zei P on lo (fun g=>(maX P on lo).testBit g) g||(maX P on lo).testBit g
theorem zny {P:Pr}{on lo:Nat->Bool}{S:Nat->Bool}(hS:∀ g,g<P.fs.length->zei P on lo S g=true->S g=true):∀ n g,(maIt P on lo n).testBit g=true->S g=true
 | 0,g,h=>by simp[maIt]at h
 | n+1,g,h=>by
  rw[maIt,maStep,zoh,yH,decide_eq_true_eq,yQ]at h;rcases h.2 with h2 | h2
  ·exact zny hS n g h2
  ·exact hS g h.1 (zt3 (zny hS n) h2)
theorem maX_iff {on lo:Nat->Bool}(h:maC P on lo=true)(g:Nat):(maX P on lo).testBit g=true↔zfs P on lo g:=by
 refine⟨fun A S D=>zny D _ g A,fun A=>?_⟩;refine A (fun g=>(maX P on lo).testBit g) fun g hlt h2=>?_;have:=yaj.1 h g (yaf.2 hlt);rw[h2]at this;simpa using this
theorem maX_eq (h:maC P (onB P) (loB P)=true):maB P=fun g=>(maX P (onB P) (loB P)).testBit g:=by
 funext g
 rw[yS];have hb:maB P g=true↔zfs P (onB P) (loB P) g:=by unfold maB;simp
 rw[hb];exact(maX_iff h g).symm
def rsX (P:Pr)(on:Nat->Bool):Nat->Nat
 | 0=>rcX (zbf P on) 4000 [P.main] 0
 | s+1=>match P.qg[s]? with
  | some k=>(match P.code[k]? with | some i=>if on k then rcX (zbf P on) 4000 [i.call] 0 else 0 | none=>0)
  | none=>0
def rsC (P:Pr)(on:Nat->Bool):Bool:=clB (zbf P on) [P.main] P.fs.length (rcX (zbf P on) 4000 [P.main] 0) &&
 P.qg.all fun k=>match P.code[k]? with | some i=>clB (zbf P on) [i.call] P.fs.length (rcX (zbf P on) 4000 [i.call] 0) | none=>true
theorem rsX_eq (h:rsC P (onB P)=true):rsB P=fun r g=>(rsX P (onB P) r).testBit g:=by
 funext r g
 rw[yS,zlz];unfold rsC at h;rw[yH]at h;cases r with
 | zero=>exact(zlw h.1 g).symm
 | succ s =>
  show(∃ k i,P.qg[s]?=some k/\P.code[k]?=some i/\onB P k=true/\xq (zbf P (onB P)) [i.call] g)↔_;cases hk:P.qg[s]? with
  | none =>
   have e:rsX P (onB P) (s+1)=0:=by simp only[rsX,hk]
   rw[e];simp
  | some k =>
   have h2:=yaj.1 h.2 k (yl hk);cases hi:P.code[k]? with
   | none =>
    have e:rsX P (onB P) (s+1)=0:=by simp only[rsX,hk,hi]
    rw[e];simp only[Nat.zero_testBit,yI,iff_false];rintro⟨G,E,e,A,_⟩;injection e with e;subst e;rw[hi]at A;cases A
   | some i =>
    rw[hi]at h2;have e:rsX P (onB P) (s+1)=if onB P k then rcX (zbf P (onB P)) 4000 [i.call] 0 else 0:=by simp only[rsX,hk,hi]
    rw[e];simp only at h2;cases hon:onB P k
    ·simp only[yI,if_false,Nat.zero_testBit,iff_false];rintro⟨G,E,e,_,ho,_⟩;injection e with e;subst e;rw[hon]at ho;cases ho
    ·simp only[if_true];rw[zlw h2 g];constructor
     ·rintro⟨G,E,e,A,_,D⟩;injection e with e;subst e;rw[hi]at A;injection A with A;subst A;exact D
     ·intro D;exact⟨k,i,rfl,hi,hon,D⟩
def zb2 {α : Type}(v:Nat)(k:Nat->α):α := match v with | 0=>k 0 | n+1=>k (n+1)
theorem zf1 {α: Type}(v:Nat)(k:Nat->α):zb2 v k=k v:=by cases v <;> rfl
def isBelG (on:Nat->Bool)(rs:Nat->Nat->Bool)(P:Pr)(r j:Nat):Bool:=match P.qg[j]? with | some k=>on k&&(match P.code[k]? with | some i=>rs r i.fn | none=>false) | none=>false
theorem zpt (P:Pr)(r:Nat):∀ n,xu P r n=setX (isBelG (onB P) (rsB P) P r) n
 | 0=>rfl
 | n+1=>by
  unfold xu setX;rw[zpt P r n];rfl
def zid (on:Nat->Bool)(rs:Nat->Nat->Bool)(P:Pr):List Nat:=(List.range P.qg.length).map fun s=>setX (isBelG on rs P (s+1)) P.qg.length
theorem zvg (P:Pr):zbt P=zid (onB P) (rsB P) P:=by
 unfold zbt zid;exact List.map_congr_left fun s _=>zpt P (s+1) _
def orB (bl:List Nat)(x:Nat):Nat->Nat->Nat
 | 0,a=>a
 | j+1,a=>orB bl x j (if x.testBit j then a|||bl.getD j 0 else a)
def zkz (bl:List Nat):List Nat:=bl.map fun x=>zb2 (orB bl x bl.length x) id
def belIt:Nat->List Nat->List Nat
 | 0,bl=>bl
 | n+1,bl=>belIt n (zkz bl)
def belCk (b0 bl:List Nat):Bool:=decide (bl.length=b0.length)&&bl.all (fun x=>decide (x<2 ^ b0.length))&&(List.range b0.length).all fun s=>(b0.getD s 0|||bl.getD s 0==bl.getD s 0)&&(List.range b0.length).all fun j=>!(bl.getD s 0).testBit j||(bl.getD j 0|||bl.getD s 0==bl.getD s 0)
theorem zmx (bl:List Nat)(s j:Nat):zg bl s j=(bl.getD s 0).testBit j:=by unfold zg;rw[yab]
theorem zsp {bl:List Nat}{x:Nat}{p:Nat->Prop}(hx:∀ j,x.testBit j=true->∀ k,(bl.getD j 0).testBit k=true->p k):∀ (n a:Nat),(∀ k,a.testBit k=true->p k)->∀ k,(orB bl x n a).testBit k=true->p k
 | 0,_,ha,k,h=>ha k h
 | n+1,a,ha,k,h=>by
  unfold orB at h;refine zsp hx n _ (fun k A=>?_) k h;split at A
  ·rename_i hb;rw[yau,yQ]at A;rcases A with A | A
   ·exact ha k A
   ·exact hx n hb k A
  ·exact ha k A
theorem zvi {b0 bl:List Nat}(h:∀ s j,zg bl s j=true->BelP b0 s j):∀ s j,zg (zkz bl) s j=true->BelP b0 s j:=by
 intro s j A;unfold zg zkz at A;rw[yV]at A;cases hx:bl[s]? with
 | none=>rw[hx]at A;simp at A
 | some x =>
  rw[hx]at A;simp only[ybv,ybb,zf1,id]at A;have hb:∀ j,x.testBit j=true->BelP b0 s j:=fun j D=>h s j (by unfold zg;rw[hx];exact D);exact zsp (p:=fun k=>BelP b0 s k) (fun j D k hk=>(hb j D).trans (h j k (by rw[zmx];exact hk))) _ _ hb j A
theorem zps {b0:List Nat}:∀ (n:Nat) (bl:List Nat),(∀ s j,zg bl s j=true->BelP b0 s j)->∀ s j,zg (belIt n bl) s j=true->BelP b0 s j
 | 0,_,h=>h
 | n+1,bl,h=>zps n (zkz bl) (zvi h)
theorem zj8 {a b:Nat}(h:a|||b=b){k:Nat}(ha:a.testBit k=true):b.testBit k=true:=by rw[<- h,yau,ha];rfl
theorem bel_uniq {b0 bl Bs:List Nat}(H:∀ s j,zg bl s j=true->BelP b0 s j)(hc:belCk b0 bl=true)(h1:Bs.length=b0.length)(h3:∀ s j,zg Bs s j=true↔BelP b0 s j):Bs=bl:=by
 unfold belCk at hc;simp only[yH,yaj,yaf,decide_eq_true_eq,yQ,yb4,beq_iff_eq]at hc;obtain⟨⟨hl,L⟩,D⟩:=hc;have A:∀ s j,zg bl s j=true->s<b0.length/\j<b0.length:=fun s j h=>by
  unfold zg at h;cases hx:bl[s]? with
  | none=>rw[hx]at h;simp at h
  | some x =>
   have G:=(yh.1 hx).1;rw[hx]at h;have h2:=L x (yl hx);refine⟨by omega,?_⟩;rcases yF j b0.length with E | E
   ·exact E
   ·have:=ya6 (yi h2 (yO yo E):x<2 ^ j);simp only[ybb]at h;rw[this]at h;cases h
 have hb:∀ s j,BelP b0 s j->zg bl s j=true:=fun s j h=>h (fun s j=>zg bl s j) (fun s j h=>by
  rw[zmx]at h |-;have I:s<b0.length:=by
   rcases yF s b0.length with G | A
   ·exact G
   ·rw[yab,yb0 A]at h;simp at h
  exact zj8 (D s I).1 h) fun s j k h1 h2=>by
  obtain⟨H,E⟩:=A s j h1;rw[zmx]at h1 h2 |-;rcases(D s H).2 j E with h | h
  ·rw[h]at h1;cases h1
  ·exact zj8 h h2
 refine List.ext_getElem (h1.trans hl.symm) fun s J K=>?_;refine ycj fun j=>?_;rw[yS];have N:zg Bs s j=Bs[s].testBit j:=by unfold zg;rw[yc J];rfl
 have O:zg bl s j=bl[s].testBit j:=by unfold zg;rw[yc K];rfl
 rw[<- N,<- O];exact⟨fun h=>hb s j ((h3 s j).1 h),fun h=>(h3 s j).2 (H s j h)⟩
structure PX where
 ho:List (Nd×Nat)
 ht:List (Nd×Nat)
 ed:List (Nd×Nd)
 us:List (Nd×Use)
def lkX:List (Nd×Nat)->Nd->Nat
 | [],_=>0
 | (m,o)::l,x=>if x=m then lkX l x|||o else lkX l x
def edX:List (Nd×Nd)->Nd->Nd->Bool
 | [],_,_=>false
 | (a,b)::l,x,y=>decide (x=a/\y=b)||edX l x y
def usX:List (Nd×Use)->Nd->List Use
 | [],_=>[]
 | (n,u)::l,x=>if x=n then usX l x++[u]else usX l x
def PX.ps (p:PX):PS:=⟨lkX p.ho,lkX p.ht,edX p.ed,usX p.us⟩
def PX.grow (p:PX)(n:Nd)(o t:Nat):PX:={ p with ho:=(n,o)::p.ho,ht:=(n,t)::p.ht }
def PX.edge (p:PX)(a b:Nd):PX:={ p with ed:=(a,b)::p.ed }
def PX.use (p:PX)(n:Nd)(u:Use):PX:={ p with us:=(n,u)::p.us }
theorem PX.grow_ps (p:PX)(n:Nd)(o t:Nat):(p.grow n o t).ps=zar p.ps n o t:=rfl
theorem PX.edge_ps (p:PX)(a b:Nd):(p.edge a b).ps=zx p.ps a b:=rfl
theorem PX.use_ps (p:PX)(n:Nd)(u:Use):(p.use n u).ps=useM p.ps n u:=rfl
def zim (p:PX)(fn:Nat)(a:Ar)(n:Nd):PX:=if a.c then p else p.edge (loc fn a.n) n
theorem zqz (p:PX)(fn:Nat)(a:Ar)(n:Nd):(zim p fn a n).ps=zak p.ps fn a n:=by unfold zim zak;split <;> rfl
def zh9 (p:PX)(fn call:Nat):List Ar->Nat->PX
 | [],_=>p
 | a::l,k=>zh9 (zim p fn a (loc call k)) fn call l (k+1)
theorem zpr (fn call:Nat):∀ (l:List Ar) (k:Nat) (p:PX),(zh9 p fn call l k).ps=zax p.ps fn call l k
 | [],_,_=>rfl
 | a::l,k,p=>by unfold zh9 zax;rw[zpr fn call l,zqz]
def ruleX (p:PX)(i:In):PX :=
 if i.op=1 then(if i.bin=0 then zim p i.fn i.y (loc i.fn i.x)else p)
 else if i.op=2 then p.edge ⟨118,i.var,0⟩ (loc i.fn i.x)
 else if i.op=3 then zim p i.fn i.y ⟨118,i.var,0⟩
 else if i.op=6 then p.grow (loc i.fn i.x) (2 ^ i.site) 0
 else if i.op=4 then(if i.y.c then p else p.use (loc i.fn i.y.n) ⟨i.var,loc i.fn i.x,false⟩)
 else if i.op=5 then(if i.y.c then p else p.use (loc i.fn i.x) ⟨i.var,loc i.fn i.y.n,true⟩)
 else if i.op=12 then zim p i.fn i.y ⟨114,i.fn,0⟩
 else if i.op=7\/i.op=11 then
  if i.x<0 then zh9 p i.fn i.call i.args 0 else if i.op=7 then(zh9 p i.fn i.call i.args 0).grow (loc i.fn i.x) 0 (2 ^ i.site)else(zh9 p i.fn i.call i.args 0).edge ⟨114,i.call,0⟩ (loc i.fn i.x)
 else p
theorem ruleX_ps (p:PX)(i:In):(ruleX p i).ps=zM p.ps i:=by
 unfold ruleX zM;simp only[apply_ite PX.ps,zqz,zpr,PX.grow_ps,PX.edge_ps,PX.use_ps]
def zl0 (on:Nat->Bool):List In->Nat->PX->PX
 | [],_,p=>p
 | i::l,k,p=>zl0 on l (k+1) (if on k then ruleX p i else p)
theorem zti (on:Nat->Bool):∀ (l:List In) (k:Nat) (p:PX),(zl0 on l k p).ps=zf8 on l k p.ps
 | [],_,_=>rfl
 | i::l,k,p=>by
  unfold zl0 zf8;rw[zti on l];split
  ·rw[ruleX_ps]
  ·rfl
def px0 (on:Nat->Bool)(P:Pr):PX:=zl0 on P.code 0 ⟨[],[],[],[]⟩
theorem px0_ps (P:Pr):(px0 (onB P) P).ps=zgx P:=zti _ _ _ _
def grX (p:PX)(e:Nd×Nd):PX:=zb2 (lkX p.ho e.1) fun o=>zb2 (lkX p.ht e.1) fun t=>zb2 (lkX p.ho e.2) fun o2=>zb2 (lkX p.ht e.2) fun t2=>if(o2|||o)==o2&&(t2|||t)==t2 then p else p.grow e.2 o t
def adX (p:PX)(a b:Nd):PX:=if edX p.ed a b then p else p.edge a b
def fdX (n:Nd)(u:Use):Nat->PX->PX
 | 0,p=>p
 | o+1,p=>fdX n u o (if(lkX p.ho n).testBit o then adX p (useA o u) (useB o u)else p)
def zod (p:PX):PX:=p.ed.foldl grX (p.us.foldl (fun q c=>fdX c.1 c.2 8 q) p)
def ptIt:Nat->PX->PX
 | 0,p=>p
 | n+1,p=>ptIt n (zod p)
def ptCk (p:PX):Bool:=p.ed.all (fun e=>!zb3 p.ps e.2 (lkX p.ho e.1) (lkX p.ht e.1))&&p.us.all fun c=>decide (lkX p.ho c.1<2 ^ 8)&&(List.range 8).all fun o=>!(lkX p.ho c.1).testBit o||edX p.ed (useA o c.2) (useB o c.2)
theorem zm7:∀ {l:List (Nd×Nd)} {a b:Nd},edX l a b=true↔(a,b) ∈ l
 | [],a,b=>by simp[edX]
 | (x,y)::l,a,b=>by
  unfold edX;rw[yQ,decide_eq_true_eq,zm7 (l:=l),yW,Prod.mk.injEq]
theorem zl7:∀ {l:List (Nd×Use)} {n:Nd} {u:Use},u ∈ usX l n↔(n,u) ∈ l
 | [],n,u=>by simp[usX]
 | (m,v)::l,n,u=>by
  unfold usX;split
  ·rename_i h;subst h;rw[yu,zl7 (l:=l),yG,yW,Prod.mk.injEq];constructor
   ·rintro(h | h)
    ·exact .inr h
    ·exact .inl ⟨rfl,h⟩
   ·rintro(⟨_,h⟩ | h)
    ·exact .inr h
    ·exact .inl h
  ·rename_i h;rw[zl7 (l:=l),yW,Prod.mk.injEq];exact⟨.inr,fun h'=>h'.resolve_left fun⟨e,_⟩=>h e⟩
theorem grX_snd {p:PX}(h:PSnd st0 p.ps){e:Nd×Nd}(he:zen st0 e.1 e.2):PSnd st0 (grX p e).ps:=by
 unfold grX;simp only[zf1];split
 ·exact h
 ·rw[PX.grow_ps];exact h.grow he
theorem zq7 {st0:PS}:∀ (l:List (Nd×Nd)) (p:PX),(∀ e ∈ l,zen st0 e.1 e.2)->PSnd st0 p.ps->PSnd st0 (l.foldl grX p).ps
 | [],_,_,h=>h
 | e::l,p,hl,h=>zq7 l _ (fun e' A=>hl e' (by simp[A])) (grX_snd h (hl e yy))
theorem adX_snd {p:PX}(h:PSnd st0 p.ps){a b:Nd}(he:zen st0 a b):PSnd st0 (adX p a b).ps:=by
 unfold adX;split
 ·exact h
 ·rw[PX.edge_ps];exact h.edge he
theorem use_edge (h:PSnd st0 st){n:Nd}{u:Use}{o:Nat}(hu:u ∈ st.us n)(ho:(st.ho n).testBit o=true):zen st0 (useA o u) (useB o u):=by
 rw[h.us]at hu;unfold useA useB;cases hp:u.put
 ·exact(zgn st0).get n u o hu hp (h.ho n o ho)
 ·exact(zgn st0).put n u o hu hp (h.ho n o ho)
theorem zqp {st0:PS}{n:Nd}{u:Use}(hu:u ∈ st0.us n):∀ (k:Nat) (p:PX),PSnd st0 p.ps->PSnd st0 (fdX n u k p).ps
 | 0,_,h=>h
 | k+1,p,h=>by
  unfold fdX;refine zqp hu k _ ?_;split
  ·rename_i hb;exact adX_snd h (use_edge h (by rw[h.us];exact hu) hb)
  ·exact h
theorem zqq {st0:PS}:∀ (l:List (Nd×Use)) (p:PX),(∀ c ∈ l,c.2 ∈ st0.us c.1)->PSnd st0 p.ps->PSnd st0 (l.foldl (fun q c=>fdX c.1 c.2 8 q) p).ps
 | [],_,_,h=>h
 | c::l,p,hl,h=>zqq l _ (fun D A=>hl D (by simp[A])) (zqp (hl c yy) 8 p h)
theorem zzz {p:PX}(h:PSnd st0 p.ps):PSnd st0 (zod p).ps:=by
 unfold zod;refine zq7 _ _ (fun e A=>h.ed _ _ (zm7.2 A)) (zqq _ _ (fun c hc=>?_) h);have:c.2 ∈ p.ps.us c.1:=zl7.2 hc;rw[h.us]at this;exact this
theorem zs1 {st0:PS}:∀ (n:Nat) (p:PX),PSnd st0 p.ps->PSnd st0 (ptIt n p).ps
 | 0,_,h=>h
 | n+1,p,h=>zs1 n _ (zzz h)
theorem zzn {p:PX}(h:PSnd st0 p.ps)(hc:ptCk p=true):(∀ n k,(lkX p.ho n).testBit k=true↔zc2 st0 n false k)/\(∀ n k,(lkX p.ht n).testBit k=true↔zc2 st0 n true k):=by
 unfold ptCk at hc;simp only[yH,yaj,yaf,decide_eq_true_eq,yQ,yb4]at hc;obtain⟨h1,h2⟩:=hc;refine h.done (fun a b H=>h1 (a,b) (zm7.1 H)) fun n u o hu ho=>?_;obtain⟨h3,h4⟩:=h2 (n,u) (zl7.1 hu);have G:o<8:=by
  rcases yF o 8 with E | D
  ·exact E
  ·have:=ya6 (yi h3 (yO yo D):lkX p.ho n<2 ^ o);have A:(lkX p.ho n).testBit o=true:=ho;rw[this]at A;cases A
 rcases h4 o G with h | h
 ·have A:(lkX p.ho n).testBit o=true:=ho;rw[h]at A;cases A
 ·exact h
theorem zq4 {f g:Nd->Nat}(h:∀ n k,(f n).testBit k=true↔(g n).testBit k=true):f=g:=funext fun n=>ycj fun k=>yS.2 (h n k)
def ptX (on:Nat->Bool)(P:Pr):PX:=ptIt 40 (px0 on P)
theorem ptX_eq (h:PtsIs P st x)(hc:ptCk (ptX (onB P) P)=true):st.ho=lkX (ptX (onB P) P).ho/\st.ht=lkX (ptX (onB P) P).ht:=by
 obtain⟨h1,h2⟩:=zzn (st0:=zgx P) (p:=ptX (onB P) P) (zs1 40 _ (by rw[px0_ps];exact PSnd.refl _)) hc;exact⟨zq4 fun n k=>(h.ho n k).trans (h1 n k).symm,zq4 fun n k=>(h.ht n k).trans (h2 n k).symm⟩
theorem zu5 {st':PS}(h:st.ho=st'.ho)(fn:Nat)(a:Ar):argO st fn a=argO st' fn a:=by unfold argO;rw[h]
theorem zuc {st st':PS}(h:st.ho=st'.ho):∀ v,zek st v=zek st' v
 | 0=>rfl
 | v+1=>by unfold zek;rw[zuc h v,h]
theorem zpo {st st':PS}(h:st.ho=st'.ho)(fn:Nat):∀ (l:List Ar) (x:Nat),zdn st fn x l=zdn st' fn x l
 | [],_=>rfl
 | a::l,x=>by unfold zdn;rw[zpo h fn l,zu5 h]
theorem zqd {st st':PS}(h:st.ho=st'.ho)(on:Nat->Bool):∀ (l:List In) (x k:Nat),ze7 st on x k l=ze7 st' on x k l
 | [],_,_=>rfl
 | i::l,x,k=>by unfold ze7;rw[zqd h on l,zpo h]
def zlu (ho:Nd->Nat):Nat->Nat->Nat
 | 0,x=>x
 | o+1,x=>zb2 (if x.testBit o then x|||ho ⟨102,o,0⟩|||ho ⟨102,o,1⟩else x) fun y=>zlu ho o y
def ouIt (ho:Nd->Nat):Nat->Nat->Nat
 | 0,x=>x
 | n+1,x=>ouIt ho n (zlu ho 8 x)
def ouCk (ho:Nd->Nat)(x0 x:Nat):Bool:=(x0|||x==x)&&decide (x<2 ^ 8)&&(List.range 8).all fun o=>!x.testBit o||(ho ⟨102,o,0⟩|||x==x&&ho ⟨102,o,1⟩|||x==x)
theorem zsr {st:PS}{x0:Nat}:∀ (n x:Nat),(∀ o,x.testBit o=true->OutP st x0 o)->∀ o,(zlu st.ho n x).testBit o=true->OutP st x0 o
 | 0,_,h,o,ho=>h o ho
 | n+1,x,h,o,ho=>by
  unfold zlu at ho;rw[zf1]at ho;refine zsr n _ (fun k A=>?_) o ho;split at A
  ·rename_i hb;rw[yau,yau,yQ,yQ]at A;rcases A with(A | A) | A
   ·exact h k A
   ·exact fun S h1 h2=>h2 n 0 k (h n hb S h1 h2) yo A
   ·exact fun S h1 h2=>h2 n 1 k (h n hb S h1 h2) yo A
  ·exact h k A
theorem zsq {st:PS}{x0:Nat}:∀ (n x:Nat),(∀ o,x.testBit o=true->OutP st x0 o)->∀ o,(ouIt st.ho n x).testBit o=true->OutP st x0 o
 | 0,_,h=>h
 | n+1,x,h=>zsq n _ (zsr 8 x h)
theorem ou_uniq {x0 y:Nat}(hs:∀ o,y.testBit o=true->OutP st x0 o)(hc:ouCk st.ho x0 y=true)(h:∀ o,x.testBit o=true↔OutP st x0 o):x=y:=by
 unfold ouCk at hc;simp only[yH,yaj,yaf,decide_eq_true_eq,yQ,yb4,beq_iff_eq]at hc;obtain⟨⟨h1,h2⟩,h3⟩:=hc;have key:∀ o,OutP st x0 o->y.testBit o=true:=fun o ho=>ho (fun o=>y.testBit o=true) (fun o ho=>zj8 h1 ho) fun o f o' hy hf hb=>by
  have E:o<8:=by
   rcases yF o 8 with D | A
   ·exact D
   ·have:=ya6 (yi h2 (yO yo A):y<2 ^ o);rw[this]at hy;cases hy
  rcases h3 o E with h | h
  ·rw[h]at hy;cases hy
  ·obtain rfl | rfl:f=0\/f=1:=yo
   ·exact zj8 h.1 hb
   ·exact zj8 h.2 hb
 exact ycj fun o=>yS.2 ⟨fun hx=>key o ((h o).1 hx),fun hy=>(h o).2 (hs o hy)⟩
abbrev LL:=List ((Nat×Nat)×Nat)
def lfX (base:LF):LL->LF
 | [],r,i=>base r i
 | ((r0,i0),v)::l,r,i=>if r=r0/\i=i0 then v else lfX base l r i
def embX (base:LF)(s:LL×Bool):LS:=(lfX base s.1,s.2)
def setL (o v r i:Nat)(s:LL×Bool):LL×Bool:=if v==o then s else(((r,i),v)::s.1,true)
def zf2 (base:LF)(s:LL×Bool)(r i t:Nat):LL×Bool:=zb2 (lfX base s.1 r i) fun o=>zb2 (o&&&t) fun v=>setL o v r i s
def zgt (base:LF)(s:LL×Bool)(r i t:Nat):LL×Bool:=zb2 (lfX base s.1 r i) fun o=>zb2 (o|||t) fun v=>setL o v r i s
theorem ztm (base:LF)(s:LL×Bool)(r i v:Nat):embX base (setL (lfX base s.1 r i) v r i s)=(upd2 (lfX base s.1) r i v,s.2||(v != lfX base s.1 r i)):=by
 unfold setL embX;cases hv:v==lfX base s.1 r i
 ·simp only[yI,if_false,bne,hv,yct,yao,Prod.mk.injEq,and_true];rfl
 ·have e:v=lfX base s.1 r i:=by simpa using hv
  simp only[if_true,bne,hv,ych,yav,Prod.mk.injEq,and_true];funext r' i'
  unfold upd2;split
  ·rename_i h;rw[h.1,h.2,e]
  ·rfl
theorem znv (base:LF)(s:LL×Bool)(r i t:Nat):embX base (zf2 base s r i t)=zac (embX base s) r i t:=by
 unfold zf2;simp only[zf1];rw[ztm];rfl
theorem zlo (base:LF)(s:LL×Bool)(r i t:Nat):embX base (zgt base s r i t)=zo (embX base s) r i t:=by
 unfold zgt;simp only[zf1];rw[ztm];rfl
theorem emb1 (base:LF)(s:LL×Bool):(embX base s).1=lfX base s.1:=rfl
def zjn (base:LF)(on:Nat->Bool):List In->Nat->LL×Bool->LL×Bool
 | [],_,s=>s
 | i::l,k,s=>zjn base on l (k+1) (if on k then zgt base s 3 i.fn (zb1 (lfX base s.1) i)else s)
theorem zql (base:LF)(on:Nat->Bool):∀ (l:List In) (k:Nat) (s:LL×Bool),embX base (zjn base on l k s)=zc9 on l k (embX base s)
 | [],_,_=>rfl
 | i::l,k,s=>by
  unfold zjn zc9;rw[zql base on l];split
  ·rw[zlo];rfl
  ·rfl
def zka (base:LF):List Fu->Nat->LL×Bool->LL×Bool
 | [],_,s=>s
 | f::l,g,s=>zka base l (g+1) (zf2 base s 0 f.from_ (lfX base s.1 1 g))
theorem zss (base:LF):∀ (l:List Fu) (g:Nat) (s:LL×Bool),embX base (zka base l g s)=zev l g (embX base s)
 | [],_,_=>rfl
 | f::l,g,s=>by
  unfold zka zev;rw[zss base l,znv];rfl
def zkb (base:LF)(s:LL×Bool)(k:Nat)(i:In):(LL×Bool)×Nat :=
 if i.op=9 then(s,lfX base s.1 0 k|||2 ^ i.var)
 else if i.op=10 then(s,dif (lfX base s.1 0 k) (2 ^ i.var))
 else if i.op=7 then(zf2 base s 1 i.call 0,lfX base s.1 0 k)
 else if i.op=11 then(zf2 base s 1 i.call (lfX base s.1 0 k),lfX base (zf2 base s 1 i.call (lfX base s.1 0 k)).1 2 i.call|||dif (lfX base s.1 0 k) (lfX base (zf2 base s 1 i.call (lfX base s.1 0 k)).1 3 i.call))
 else if i.op=12 then(zf2 base s 2 i.fn (lfX base s.1 0 k),lfX base s.1 0 k)
 else(s,lfX base s.1 0 k)
theorem zza (base:LF)(s:LL×Bool)(k:Nat)(i:In):zam (embX base s) k i=(embX base (zkb base s k i).1,(zkb base s k i).2):=by
 unfold zam zkb;simp only[<- znv,emb1]
 repeat' split
 all_goals rfl
def nextX (base:LF)(r h:Nat):List Nat->LL×Bool->LL×Bool
 | [],s=>s
 | j::l,s=>nextX base r h l (zf2 base s r j h)
theorem zsd (base:LF)(r h:Nat):∀ (l:List Nat) (s:LL×Bool),embX base (nextX base r h l s)=zdy r h l (embX base s)
 | [],_=>rfl
 | j::l,s=>by
  unfold nextX zdy;rw[zsd base r h l,znv]
def zkc (base:LF)(P:Pr)(on:Nat->Bool):List In->Nat->LL×Bool->LL×Bool
 | [],_,s=>s
 | i::l,k,s=>zkc base P on l (k+1) (if on k then zb2 (zkb base s k i).2 fun h=>nextX base 0 h (zS P k) (zkb base s k i).1 else s)
theorem zst (base:LF)(P:Pr)(on:Nat->Bool):∀ (l:List In) (k:Nat) (s:LL×Bool),embX base (zkc base P on l k s)=zde P on l k (embX base s)
 | [],_,_=>rfl
 | i::l,k,s=>by
  unfold zkc zde;rw[zst base P on l,zf1];split
  ·rw[zsd,zza]
  ·rfl
def growX (base:LF)(r h:Nat):List Nat->LL×Bool->LL×Bool
 | [],s=>s
 | j::l,s=>growX base r h l (zgt base s r j h)
theorem zq8 (base:LF)(r h:Nat):∀ (l:List Nat) (s:LL×Bool),embX base (growX base r h l s)=zdt r h l (embX base s)
 | [],_=>rfl
 | j::l,s=>by
  unfold growX zdt;rw[zq8 base r h l,zlo]
def zkx (base:LF)(P:Pr)(s:LL×Bool)(k:Nat)(i:In):LL×Bool:=match P.fs[i.fn]? with
 | some f=>if k=f.from_ then zgt base s 4 k (lfX base s.1 5 i.fn)else s
 | none=>s
theorem zuv (base:LF)(P:Pr)(s:LL×Bool)(k:Nat)(i:In):embX base (zkx base P s k i)=zcb P (embX base s) k i:=by
 unfold zkx zcb;cases P.fs[i.fn]? with
 | none=>rfl
 | some f =>
  simp only;split
  ·rw[zlo];rfl
  ·rfl
def zje (base:LF)(many:List Bool)(ht:Nd->Nat)(Bs:List Nat)(s:LL×Bool)(k:Nat)(i:In):(LL×Bool)×Nat :=
 if i.op=7 then(s,lfX base s.1 4 k|||(2 ^ i.site|||Bs.getD i.site 0))
 else if i.op=8 then(s,ze9 (if i.y.c then 0 else ht (loc i.fn i.y.n)) many 0 (lfX base s.1 4 k))
 else if i.op=11 then(zgt base s 5 i.call (lfX base s.1 4 k),lfX base (zgt base s 5 i.call (lfX base s.1 4 k)).1 6 i.call)
 else if i.op=12 then(zgt base s 6 i.fn (lfX base s.1 4 k),lfX base s.1 4 k)
 else(s,lfX base s.1 4 k)
theorem zuy (base:LF)(P:Pr)(st:PS)(Bs:List Nat)(s:LL×Bool)(k:Nat)(i:In):zai P st Bs (embX base s) k i=(embX base (zje base (zW P) st.ht Bs s k i).1,(zje base (zW P) st.ht Bs s k i).2):=by
 unfold zai zje argT;simp only[<- zlo,emb1]
 repeat' split
 all_goals rfl
def zjf (base:LF)(P:Pr)(on:Nat->Bool)(rs:Nat->Nat->Bool)(many:List Bool)(ht:Nd->Nat)(Bs:List Nat):List In->Nat->LL×Bool->LL×Bool
 | [],_,s=>s
 | i::l,k,s=>zjf base P on rs many ht Bs l (k+1) (if on k&&rs 0 i.fn then zb2 (zje base many ht Bs (zkx base P s k i) k i).2 fun h=>growX base 4 h (zS P k) (zje base many ht Bs (zkx base P s k i) k i).1 else s)
theorem zpf (base:LF)(P:Pr)(st:PS)(Bs:List Nat):∀ (l:List In) (k:Nat) (s:LL×Bool),embX base (zjf base P (onB P) (rsB P) (zW P) st.ht Bs l k s)=zc5 P st Bs l k (embX base s)
 | [],_,_=>rfl
 | i::l,k,s=>by
  unfold zjf zc5;rw[zpf base P st Bs l,zf1];split
  ·rw[zq8,<- zuv,zuy]
  ·rfl
def itX (p:LL×Bool->LL×Bool):Nat->LL->LL
 | 0,l=>l
 | n+1,l=>match p (l,false)with
  | (l2,true)=>itX p n l2
  | (l2,false)=>l2
theorem znp (p:LS->LS):∀ (n:Nat) (f:LF),zcl p (n+1) f=zcl p n (p (f,false)).1
 | 0,_=>rfl
 | n+1,f=>by
  show(p (zcl p (n+1) f,false)).1=(p (zcl p n (p (f,false)).1,false)).1;rw[znp p n f]
theorem zno {p:LS->LS}{f:LF}(h:(p (f,false)).1=f):∀ n,zcl p n f=f
 | 0=>rfl
 | n+1=>by rw[znp,h,zno h n]
theorem znn (p:LS->LS)(f:LF)(a:Nat):∀ b,zcl p (a+b) f=zcl p b (zcl p a f)
 | 0=>rfl
 | b+1=>by
  show(p (zcl p (a+b) f,false)).1=(p (zcl p b (zcl p a f),false)).1;rw[znn p f a b]
theorem fix_uniq {p:LS->LS}{f0 g:LF}(hf:zh3 p f0 f)(hg:∃ n,g=zcl p n f0)(hs:(p (g,false)).1=g):f=g:=by
 obtain⟨⟨n,hn⟩,_,A⟩:=hf;obtain⟨m,hm⟩:=hg;rcases Nat.le_total n m with h | h
 ·obtain⟨d,rfl⟩:=Nat.exists_eq_add_of_le h;rw[hm,znn,<- hn,zno A]
 ·obtain⟨d,rfl⟩:=Nat.exists_eq_add_of_le h;rw[hn,znn,<- hm,zno hs]
theorem zrg {base:LF}{p:LS->LS}{q:LL×Bool->LL×Bool}(h:∀ s,embX base (q s)=p (embX base s)):∀ (n:Nat) (l:LL),∃ m,lfX base (itX q n l)=zcl p m (lfX base l)
 | 0,l=>⟨0,rfl⟩
 | n+1,l=>by
  have h1:lfX base (q (l,false)).1=(p (lfX base l,false)).1:=congrArg Prod.fst (h (l,false));unfold itX;cases hq:q (l,false)with
  | mk l2 b =>
   rw[hq]at h1;cases b
   ·exact⟨1,h1⟩
   ·obtain⟨m,hm⟩:=zrg h n l2;exact⟨m+1,by rw[znp,<- h1];exact hm⟩
def stB (q:LL×Bool->LL×Bool)(l:LL):Bool:=decide ((q (l,false)).1=l)
theorem znc {base:LF}{p:LS->LS}{q:LL×Bool->LL×Bool}(h:∀ s,embX base (q s)=p (embX base s)){n:Nat}{l:LL}{f0:LF}(h0:f0=lfX base l)(hf:zh3 p f0 f)(hc:stB q (itX q n l)=true):f=lfX base (itX q n l):=by
 subst h0;refine fix_uniq hf (zrg h n l) ?_;have h1:lfX base (q (itX q n l,false)).1=(p (lfX base (itX q n l),false)).1:=congrArg Prod.fst (h (itX q n l,false));rw[<- h1,of_decide_eq_true hc]
def bsF (nm:Nat):LF:=fun r _=>if r<3 then 2 ^ nm-1 else 0
def lkXa (P:Pr)(on:Nat->Bool):LL:=itX (fun s=>zjn (bsF P.nm) on P.code 0 s) 60 [((1,P.main),0)]
def lkXb (P:Pr)(on:Nat->Bool):LL:=itX (fun s=>zkc (bsF P.nm) P on P.code 0 (zka (bsF P.nm) P.fs 0 s)) 100 (lkXa P on)
def lkXc (P:Pr)(on:Nat->Bool)(rs:Nat->Nat->Bool)(many:List Bool)(ht:Nd->Nat)(Bs:List Nat):LL:=itX (fun s=>zjf (bsF P.nm) P on rs many ht Bs P.code 0 s) 100 (lkXb P on)
def lkC (P:Pr)(on:Nat->Bool)(rs:Nat->Nat->Bool)(many:List Bool)(ht:Nd->Nat)(Bs:List Nat):Bool :=
 stB (fun s=>zjn (bsF P.nm) on P.code 0 s) (lkXa P on)&&stB (fun s=>zkc (bsF P.nm) P on P.code 0 (zka (bsF P.nm) P.fs 0 s)) (lkXb P on)&&stB (fun s=>zjf (bsF P.nm) P on rs many ht Bs P.code 0 s) (lkXc P on rs many ht Bs)
theorem lk_eq {Bs:List Nat}(h:LkIs P st Bs f)(hc:lkC P (onB P) (rsB P) (zW P) st.ht Bs=true):f=lfX (bsF P.nm) (lkXc P (onB P) (rsB P) (zW P) st.ht Bs):=by
 obtain⟨f1,f2,h1,h2,h3⟩:=h;unfold lkC at hc;simp only[yH]at hc;have A:f1=lfX (bsF P.nm) (lkXa P (onB P)):=znc (fun s=>zql _ _ _ _ _) rfl h1 hc.1.1;have D:f2=lfX (bsF P.nm) (lkXb P (onB P)):=znc (p:=passS P) (fun s=>by rw[zst,zss];rfl) A h2 hc.1.2;exact znc (p:=zky P st Bs) (fun s=>zpf _ _ _ _ _ _ _) D h3 hc.2
def stG (rs:Nat->Nat->Bool)(P:Pr)(f:LF)(s:Nat):Nat:=zfh P rs f (zju P s) (fnAt P (zju P s))
def besideG (rs:Nat->Nat->Bool)(many:List Bool)(P:Pr)(f:LF)(r a t b:Nat):Bool :=
 if(rs r (fnAt P a)&&rs t (fnAt P b))=true then
  if r=0 then(if t=0 then false else(f 4 a).testBit (t-1))
  else if t=0 then(f 4 b).testBit (r-1)
  else if r=t then many.getD (r-1) false
  else(stG rs P f (r-1)).testBit (t-1)||(stG rs P f (t-1)).testBit (r-1)
 else false
def rootsG (rs:Nat->Nat->Bool)(many:List Bool)(P:Pr)(f:LF)(a b:Nat):Option (Nat×Nat):=zhg (fun r=>zf0 (fun t=>besideG rs many P f r a t b) (P.qg.length+1) 0) (P.qg.length+1) 0
def whereG (ho:Nd->Nat)(x:Nat)(i:In):Int×Nat×Nat :=
 if i.op=2\/i.op=3 then(-1,i.var,0)
 else if i.op=4 then(0,i.var,(if i.y.c then 0 else ho (loc i.fn i.y.n))&&&x)
 else(0,i.var,ho (loc i.fn i.x.toNat)&&&x)
def pairG (rs:Nat->Nat->Bool)(many:List Bool)(P:Pr)(ho:Nd->Nat)(x:Nat)(f:LF)(a b:Nat):Option Rp :=
 match P.code[a]?,P.code[b]? with
 | some ia,some ib=>if(!zbq ia.op && !zbq ib.op)=true\/f 0 a&&&f 0 b≠0 then none
  else pairR ia ib (mems (f 0 a)) (mems (f 0 b)) (zfy (whereG ho x ia) (whereG ho x ib)) (rootsG rs many P f a b)
 | _,_=>none
def allG (on:Nat->Bool)(rs:Nat->Nat->Bool)(many:List Bool)(P:Pr)(ho:Nd->Nat)(x:Nat)(f:LF):List Rp:=zfe (pairG rs many P ho x f) (accM on P.code 0)
theorem allG_eq (P:Pr)(st:PS)(x:Nat)(f:LF):allM P st x f=allG (onB P) (rsB P) (zW P) P st.ho x f:=by
 rfl
def manyG (P:Pr)(lo ma:Nat->Bool):List Bool:=P.qg.map fun k=>lo k||(match P.code[k]? with | some i=>ma i.fn | none=>false)
def bitF (x:Nat)(k:Nat):Bool:=x.testBit k
def rowF (l:List Nat)(r k:Nat):Bool:=(l.getD r 0).testBit k
def zjr {α : Type}:List Nat->(List Nat->α)->α
 | [],k=>k []
 | a::l,k=>zb2 a fun a=>zjr l fun l=>k (a::l)
theorem zqx {α : Type}:∀ (l:List Nat) (k:List Nat->α),zjr l k=k l
 | [],_=>rfl
 | a::l,k=>by unfold zjr;rw[zf1,zqx l]
def zik {α : Type}:List Bool->(List Bool->α)->α
 | [],k=>k []
 | true::l,k=>zik l fun l=>k (true::l)
 | false::l,k=>zik l fun l=>k (false::l)
theorem znh {α : Type}:∀ (l:List Bool) (k:List Bool->α),zik l k=k l
 | [],_=>rfl
 | true::l,k=>by unfold zik;rw[znh l]
 | false::l,k=>by unfold zik;rw[znh l]
theorem rsX_out (P:Pr)(on:Nat->Bool)(r:Nat):(((List.range (P.qg.length+1)).map (rsX P on)).getD r 0)=rsX P on r:=by
 rw[yab,yV];rcases yF r (P.qg.length+1)with h | h
 ·rw[List.getElem?_range h];rfl
 ·rw[yb0 (by simpa using h)];cases r with
  | zero=>omega
  | succ s =>
   have:P.qg[s]? = none:=yb0 yo;simp[rsX,this]
def evA (P:Pr):Option (List Rp) :=
 zb2 (onX P) fun on=>zb2 (loX P) fun lo=>zb2 (maX P (bitF on) (bitF lo)) fun ma=>zjr ((List.range (P.qg.length+1)).map (rsX P (bitF on))) fun rs=>zik (manyG P (bitF lo) (bitF ma)) fun many=>zjr (belIt 6 (zid (bitF on) (rowF rs) P)) fun bs =>
 if onC P&&loC P&&maC P (bitF on) (bitF lo)&&rsC P (bitF on)&&belCk (zid (bitF on) (rowF rs) P) bs&&ptCk (ptX (bitF on) P)&&lkC P (bitF on) (rowF rs) many (lkX (ptX (bitF on) P).ht) bs then
  zb2 (ouIt (lkX (ptX (bitF on) P).ho) 6 (out0 P (bitF on) (ptX (bitF on) P).ps)) fun out =>
  if ouCk (lkX (ptX (bitF on) P).ho) (out0 P (bitF on) (ptX (bitF on) P).ps) out then
   some (allG (bitF on) (rowF rs) many P (lkX (ptX (bitF on) P).ho) out (lfX (bsF P.nm) (lkXc P (bitF on) (rowF rs) many (lkX (ptX (bitF on) P).ht) bs)))
  else none
 else none
theorem out0_px {p:PX}(h:st.ho=lkX p.ho)(P:Pr)(on:Nat->Bool):out0 P on st=out0 P on p.ps:=by
 have h':st.ho=p.ps.ho:=h;unfold out0;rw[zuc h',zqd h']
theorem ou_fin {x0:Nat}{h:Nd->Nat}(e:st.ho=h)(h1:ouCk h x0 (ouIt h 6 x0)=true)(h2:∀ o,x.testBit o=true↔OutP st x0 o):x=ouIt h 6 x0:=by
 subst e;exact ou_uniq (zsq 6 _ fun o h S h1 _=>h1 o h) h1 h2
theorem evA_eq {rs0 l:List Rp}(hR:zgh P rs0)(h:evA P=some l):rs0=l:=by
 obtain⟨st,x,Bs,f,U,⟨Q,Z,R⟩,hL,rfl⟩:=hR;unfold evA at h;simp only[zf1,zqx,znh]at h;split at h
 case isFalse=>cases h
 rename_i W;split at h
 case isFalse=>cases h
 rename_i ho;simp only[yH]at W;obtain⟨⟨⟨⟨⟨⟨h1,h2⟩,h3⟩,h4⟩,h5⟩,h6⟩,h7⟩:=W;have A:onB P=bitF (onX P):=onX_eq h1;have L:loB P=bitF (loX P):=loX_eq h2;have O:=maX_eq (P:=P) (by rw[A,L];exact h3);have N:=rsX_eq (P:=P) (by rw[A];exact h4);have J:rsB P=rowF ((List.range (P.qg.length+1)).map (rsX P (bitF (onX P)))):=by
  rw[N];funext r g
  unfold rowF;rw[rsX_out,A]
 have D:zW P=manyG P (bitF (loX P)) (bitF (maX P (bitF (onX P)) (bitF (loX P)))):=by
  show manyG P (loB P) (maB P)=_;rw[O,A,L];rfl
 have G:zbt P=zid (bitF (onX P)) (rowF ((List.range (P.qg.length+1)).map (rsX P (bitF (onX P))))) P:=by rw[zvg,J,A]
 have K:Bs=belIt 6 (zid (bitF (onX P)) (rowF ((List.range (P.qg.length+1)).map (rsX P (bitF (onX P))))) P):=by
  rw[<- G];exact bel_uniq (zps 6 _ fun s j h S h1 _=>h1 s j h) (by rw[G];exact h5) (by rw[Q];simp[zbt]) R
 obtain⟨E,I⟩:=ptX_eq U (by rw[A];exact h6);rw[A]at E I;have Y:=lk_eq hL (by rw[A,J,D,I,K];exact h7);have eo:out0 P (onB P) st=out0 P (bitF (onX P)) (ptX (bitF (onX P)) P).ps:=by
  rw[A];exact out0_px E P _
 have H:=U.o;rw[eo]at H;have ex:x=ouIt (lkX (ptX (bitF (onX P)) P).ho) 6 (out0 P (bitF (onX P)) (ptX (bitF (onX P)) P).ps):=ou_fin E ho H;rw[allG_eq,Y,ex,J,D,E,I,K,A];exact Option.some.inj h
deriving instance DecidableEq for Rp
def inOkB (i:In):Bool:=decide (i.op<1000000)&&decide (i.fn<1000000)&&decide (-1000000<i.x)&&decide (i.x<1000000)&&decide (i.y.n<1000000)&&decide (i.var<1000000)&&decide (i.site<40)&&decide (i.call<1000000)&&decide (i.bin<1000000)&&i.args.all (fun a=>decide (a.n<1000000))&&decide (i.args.length<1000)
def wfIns (P:Pr)(k:Nat)(i:In):Bool :=
 inOkB i&&decide (i.fn<P.fs.length)&&(!(i.op==11||i.op==7)||(match P.fs[i.call]? with | some f=>decide (i.args.length=f.params) | none=>false)) &&
 (i.op==12||i.op==20||decide (k+1<P.code.length))&&(!(i.op==13||i.op==14||i.op==20)||decide (i.to<P.code.length))&&decide (i.args.length<=3) &&
 (!(i.op==9||i.op==10)||decide (i.var<3))&&(!(i.op==7)||decide (P.qg[i.site]?=some k))&&(!(i.op==5)||decide (0<=i.x))
def wfB (P:Pr):Bool :=
 decide (P.code.length<=300)&&decide (1<=P.code.length)&&decide (P.fs.length<=5)&&decide (P.news.length<=6)&&decide (P.qg.length<=5)&&decide (P.nv<=5)&&decide (P.nm<=3)&&decide (P.main<P.fs.length) &&
 (List.range P.code.length).all (fun k=>match P.code[k]? with | some i=>wfIns P k i | none=>true) &&
 P.fs.all (fun f=>decide (f.from_<P.code.length)&&decide (f.to<=P.code.length)) &&
 (List.range P.qg.length).all (fun s=>match P.qg[s]? with | some k=>(match P.code[k]? with | some i=>i.op==7&&i.site==s | none=>false) | none=>true)
structure WfP (P:Pr):Prop where
 p:WfPr P
 l:WfLk P
 r:WfRp P
 io:∀ (k:Nat) (i:In),P.code[k]?=some i->InOk i
theorem wfB_ok (h:wfB P=true):WfP P:=by
 unfold wfB at h;simp only[yH,decide_eq_true_eq,yaj,yaf]at h;obtain⟨⟨⟨⟨⟨⟨⟨⟨⟨⟨h1,h2⟩,h3⟩,h4⟩,h5⟩,h6⟩,h7⟩,h8⟩,h9⟩,h10⟩,O⟩:=h;have hi:∀ (k:Nat) (i:In),P.code[k]?=some i->wfIns P k i=true:=fun k i A=>by
  have:=h9 k (yh.1 A).1;rw[A]at this;exact this
 have D:∀ (k:Nat) (i:In),P.code[k]?=some i->InOk i/\i.fn<P.fs.length/\(i.op=11\/i.op=7->∃ f:Fu,P.fs[i.call]?=some f/\i.args.length=f.params)/\(i.op≠12->i.op≠20->k+1<P.code.length)/\(i.op=13\/i.op=14\/i.op=20->i.to<P.code.length)/\i.args.length<=3/\(i.op=9\/i.op=10->i.var<3)/\(i.op=7->P.qg[i.site]?=some k)/\(i.op=5->0<=i.x):=fun k i A=>by
  have h:=hi k i A;unfold wfIns inOkB at h;simp only[yH,decide_eq_true_eq,yaj,yQ,yb4,beq_iff_eq,yck,beq_eq_false_iff_ne]at h;obtain⟨⟨⟨⟨⟨⟨⟨⟨⟨⟨⟨⟨⟨⟨⟨⟨⟨⟨R,S⟩,U⟩,W⟩,Y⟩,Z⟩,a7⟩,a8⟩,a9⟩,L⟩,N⟩,b1⟩,E⟩,G⟩,H⟩,b5⟩,I⟩,J⟩,K⟩:=h;refine⟨⟨R,S,⟨U,W⟩,Y,Z,a7,a8,a9,L,N⟩,b1,fun ho=>?_,fun x y=>?_,fun ho=>?_,b5,fun ho=>?_,fun ho=>?_,fun ho=>?_⟩
  ·rcases E with E | E
   ·omega
   ·cases hf:P.fs[i.call]? with
    | none=>rw[hf]at E;cases E
    | some f=>rw[hf]at E;exact⟨f,rfl,of_decide_eq_true E⟩
  ·rcases G with G | G
   ·omega
   ·exact G
  ·rcases H with H | H
   ·omega
   ·exact H
  ·rcases I with I | I
   ·omega
   ·exact I
  ·rcases J with J | J
   ·omega
   ·exact J
  ·rcases K with K | K
   ·omega
   ·exact K
 have Q:∀ (s k:Nat),P.qg[s]?=some k->∃ i:In,P.code[k]?=some i/\i.op=7/\i.site=s:=fun s k A=>by
  have:=O s (yh.1 A).1;rw[A]at this;simp only at this;cases hi:P.code[k]? with
  | none=>rw[hi]at this;cases this
  | some i =>
   rw[hi]at this;simp only[yH,beq_iff_eq]at this;exact⟨i,rfl,this⟩
 exact⟨⟨h1,h2,h3,h4,h5,h6,h7,h8,fun k i A=>(D k i A).2.1,fun k i A=>(D k i A).2.2.1,fun k i A=>(D k i A).2.2.2.1,fun k i A=>(D k i A).2.2.2.2.1,fun k f A=>h10 f (yl A),Q,fun k i A=>(D k i A).2.2.2.2.2.1⟩,
  ⟨fun k i A=>(D k i A).1,fun k i A=>(D k i A).2.2.2.2.2.2.1,fun k i A=>(D k i A).2.2.2.2.2.2.2.1⟩,⟨fun k i A=>(D k i A).1,fun k i A=>(D k i A).2.2.2.2.2.2.2.2,fun s k A=>by
   obtain⟨i,hi,_⟩:=Q s k A;exact(yh.1 hi).1⟩,fun k i A=>(D k i A).1⟩
def chkT (t:List UInt8)(want:List Rp):Bool:=match z8 (bytes t)with
 | .ok P=>wfB P&&decide (evA P=some want)
 | .error _=>false
theorem chkT_ok {t:List UInt8}{want:List Rp}(h:chkT t want=true):∃ P,z8 (bytes t)=.ok P/\WfP P/\∀ rs,zgh P rs->rs=want:=by
 unfold chkT at h;cases hl:z8 (bytes t)with
 | error f=>rw[hl]at h;cases h
 | ok P =>
  rw[hl]at h;simp only[yH]at h;exact⟨P,rfl,wfB_ok h.1,fun rs A=>evA_eq A (of_decide_eq_true h.2)⟩
def zo5 (n:Nat)(w:World)(e:Ending)(w':World):Prop:=∃ k:Nat,k<n/\e=.r (.i k)/\w=w'
theorem zsv (c:Int)(n:Nat)(w:World)(hn:1<=n):zo5 n w (.r (.i (c % (n:Int)))) w:=by
 have h1:=Int.emod_nonneg c (b:=(n:Int)) yo;have h2:=Int.emod_lt_of_pos c (b:=(n:Int)) yo;exact⟨(c % (n:Int)).toNat,by omega,by rw[Int.toNat_of_nonneg h1],rfl⟩
theorem zsu (c:Int)(n:Nat)(w:World)(h1:-9223372036854775808<=c)(h2:c<=9223372036854775807)(hn:1<=n/\n<=1000):Calls prog 13 #[.i c,.i n] w (zo5 n w):=by
 cases hneg:decide (c<0)
 ·have D:0<=c:=yq (of_decide_eq_false hneg);have A:=zH (zsv c n w hn.1);go_enter func13,ntmps13;go_wp2;go_ret;exact A.o
 ·have E:c<0:=of_decide_eq_true hneg;have A:=zH (zsv (-(c+1)) n w hn.1);go_enter func13,ntmps13;go_wp2;go_ret;rw[<- Int.neg_tmod,Int.tmod_eq_emod_of_nonneg yo];exact A.o
def zbb (t:ByteArray):Nat->ByteArray
 | 0=>⟨#[]⟩
 | n+1=>zbb t n++t
theorem zdg (t:ByteArray):∀ n,(zbb t n).size=n*t.size
 | 0=>by rw[ycn];rfl
 | n+1=>by rw[zbb,ByteArray.size_append,zdg t n,ycx,Nat.one_mul]
def TmRel (t:ByteArray)(n:Nat)(w:World)(gk:Nat)(v1 v5:Value)(W:World):Prop:=∃ k:Nat,k<=n/\gk=n-k/\v1=.i ((n-k:Nat):Int)/\v5=.string (zbb t k)/\W=w
theorem zeh (t:ByteArray)(n:Nat)(w:World)(ht:t.size<=100)(hn:n<=100):Calls prog 66 #[.string t,.i n] w fun e w'=>e=.r (.string (zbb t n))/\w=w':=by
 have J:=zH (show TmRel t n w n (.i n) (.string ⟨#[]⟩) w from⟨0,yD _,rfl,rfl,rfl,rfl⟩);have E:=zH ht;go_enter func66,ntmps66;go_wp2_with fail;go_loopg [1,5] n (fun gk v1 v5 wr=>TmRel t n w gk v1 v5 wr)
 case atStart=>exact J.o
 case round =>
  obtain⟨k,L,G,rfl,rfl,rfl⟩:=hrel;have I:=zH G;clear G;by_cases D:k<n
  ·have H:0<n-k:=yo;have K:¬ 9223372036854775807<(zbb t k).size+t.size:=by
    rw[zdg];have:k*t.size<=100*100:=ycq yo E.o;have:=E.o;omega
   have A:=zH (show TmRel t n wr (n-(k+1)) (.i ((n-(k+1):Nat):Int)) (.string (zbb t (k+1))) wr from⟨k+1,D,rfl,rfl,rfl,rfl⟩);go_wp2;go_roundg (n-(k+1))
   case measure=>have:=I.o;omega
   case rel=>rw[show((n-k:Nat):Int)-1=((n-(k+1):Nat):Int) by omega];exact A.o
  ·obtain rfl:k=n:=yo;go_wp2;go_ret;exact⟨rfl,rfl⟩
def SiPost (b:Bool)(w:World)(e:Ending)(w':World):Prop:=e=.r (.bool b)/\Below w.heap.size w w'
def SiRel (la lb:List Nat)(w:World)(gk:Nat)(v5:Value)(W:World):Prop:=∃ k:Nat,v5=.i k/\gk=la.length-k/\k<=la.length/\la.take k=lb.take k/\Below w.heap.size w W
end Go.Proofs.YtkmcihhndgdhpaaGreat
