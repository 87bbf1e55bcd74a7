/- EvA EvB EvC EvD: parts of the walk. -/
import Derived.Test.YtkmcihhndgdhpaaGreatWC2
set_option maxRecDepth 100000
set_option maxHeartbeats 4000000
set_option linter.unusedSimpArgs false
set_option linter.unusedVariables false
namespace Go.Proofs.YtkmcihhndgdhpaaGreat
section
def rcX (next:Nat→List Nat):Nat→List Nat→Nat→Nat
 | 0,_,S=>S
 | _+1,[],S=>S
 | f+1,k::l,S=>if S.testBit k then rcX next f l S else rcX next f (next k++l) (S|||2 ^ k)
def clB (next:Nat→List Nat)(start:List Nat)(n S:Nat):Bool :=
 start.all (fun k=>S.testBit k)&&(List.range n).all (fun k=>!S.testBit k||(next k).all fun j=>S.testBit j)&&decide (S<2 ^ n)
theorem testBit_two_pow {k j:Nat}:(2 ^ k).testBit j=decide (k=j):=Nat.testBit_two_pow
theorem zm8 {next:Nat→List Nat}{start:List Nat}:∀ (f:Nat) (l:List Nat) (S:Nat),(∀ k,k ∈ l→zbr next start k)→(∀ k,S.testBit k=true→zbr next start k)→∀ k,(rcX next f l S).testBit k=true→zbr next start k
 | 0,_,_,_,hS,k,h=>hS k h
 | _+1,[],_,_,hS,k,h=>hS k h
 | f+1,a::l,S,hl,hS,k,h=>by
  unfold rcX at h
  split at h
  ·exact zm8 f l S (fun k hk=>hl k (by simp[hk])) hS k h
  ·refine zm8 f (next a++l) (S|||2 ^ a) (fun j hj=>?_) (fun j hj=>?_) k h
   ·rcases List.mem_append.1 hj with hj | hj
    ·exact .step (hl a (by simp)) hj
    ·exact hl j (by simp[hj])
   ·rw[Nat.testBit_or,Bool.or_eq_true,Nat.testBit_two_pow,decide_eq_true_eq]at hj
    rcases hj with hj | rfl
    ·exact hS j hj
    ·exact hl _ (by simp)
theorem zk6 {next:Nat→List Nat}{start:List Nat}{n f:Nat}(h:clB next start n (rcX next f start 0)=true)(k:Nat):(rcX next f start 0).testBit k=true↔zbr next start k:=by
 refine⟨zm8 f start 0 (fun k hk=>.start hk) (fun k hk=>by simp at hk) k,fun hr=>?_⟩
 unfold clB at h
 simp only[Bool.and_eq_true,List.all_eq_true,List.mem_range,decide_eq_true_eq,Bool.or_eq_true,Bool.not_eq_true']at h
 obtain⟨⟨h1,h2⟩,h3⟩:=h
 induction hr with
 | start hk=>exact h1 _ hk
 | step _ hj ih =>
  rename_i k j _
  have hk:k<n:=by
   rcases Nat.lt_or_ge k n with hlt | hge
   ·exact hlt
   ·have:=Nat.testBit_lt_two_pow (Nat.lt_of_lt_of_le h3 (Nat.pow_le_pow_right (by omega) hge):_<2 ^ k)
    rw[this]at ih
    cases ih
  rcases h2 k hk with h | h
  ·rw[ih]at h;cases h
  ·exact h j hj
def onX (P:Pr):Nat:=match P.fs[P.main]? with | some f=>rcX (zdk P) 4000 [f.from_] 0 | none=>0
def onC (P:Pr):Bool:=match P.fs[P.main]? with | some f=>clB (zdk P) [f.from_] P.code.length (onX P) | none=>true
theorem onX_eq {P:Pr}(h:onC P=true):onB P=fun k=>(onX P).testBit k:=by
 funext k
 rw[Bool.eq_iff_iff]
 have hb:onB P k=true↔∃ f,P.fs[P.main]? = some f∧zbr (zdk P) [f.from_] k:=by unfold onB;simp
 rw[hb]
 unfold onC at h
 unfold onX at h ⊢
 cases hf:P.fs[P.main]? with
 | none=>simp
 | some f =>
  rw[hf]at h
  simp only at h
  simp only[Option.some.injEq,exists_eq_left']
  exact(zk6 h k).symm
def setX (p:Nat→Bool):Nat→Nat
 | 0=>0
 | n+1=>if p n then setX p n|||2 ^ n else setX p n
theorem zni (p:Nat→Bool):∀ n k,(setX p n).testBit k=(decide (k<n)&&p k)
 | 0,k=>by simp[setX]
 | n+1,k=>by
  unfold setX
  have ih:=zni p n k
  split
  ·rename_i h
   rw[Nat.testBit_or,ih,Nat.testBit_two_pow]
   by_cases hk:k=n
   ·subst hk;simp[h]
   ·have h1:decide (n=k)=false:=by rw[decide_eq_false_iff_not];omega
    have h2:decide (k<n+1)=decide (k<n):=by rw[decide_eq_decide];omega
    rw[h1,h2,Bool.or_false]
  ·rename_i h
   rw[ih]
   by_cases hk:k=n
   ·subst hk;simp[h]
   ·have h2:decide (k<n+1)=decide (k<n):=by rw[decide_eq_decide];omega
    rw[h2]
def loX (P:Pr):Nat:=setX (fun k=>(rcX (zap P) 4000 (zap P k) 0).testBit k) P.code.length
def loC (P:Pr):Bool:=(List.range P.code.length).all fun k=>clB (zap P) (zap P k) P.code.length (rcX (zap P) 4000 (zap P k) 0)
theorem loX_eq {P:Pr}(h:loC P=true):loB P=fun k=>(loX P).testBit k:=by
 funext k
 rw[Bool.eq_iff_iff]
 have hb:loB P k=true↔k<P.code.length∧zbr (zap P) (zap P k) k:=by unfold loB;simp
 rw[hb]
 unfold loX
 rw[zni,Bool.and_eq_true,decide_eq_true_eq]
 refine and_congr_right fun hk=>?_
 unfold loC at h
 have:=List.all_eq_true.1 h k (List.mem_range.2 hk)
 exact(zk6 this k).symm
def maStep (P:Pr)(on lo:Nat→Bool)(S:Nat):Nat:=setX (fun g=>S.testBit g||zff P on lo (fun g=>S.testBit g) g) P.fs.length
def maIt (P:Pr)(on lo:Nat→Bool):Nat→Nat
 | 0=>0
 | n+1=>maStep P on lo (maIt P on lo n)
def maX (P:Pr)(on lo:Nat→Bool):Nat:=maIt P on lo (P.fs.length+1)
def maC (P:Pr)(on lo:Nat→Bool):Bool:=(List.range P.fs.length).all fun g=>!zff P on lo (fun g=>(maX P on lo).testBit g) g||(maX P on lo).testBit g
theorem znt {P:Pr}{on lo:Nat→Bool}{S:Nat→Bool}(hS:∀ g,g<P.fs.length→zff P on lo S g=true→S g=true):∀ n g,(maIt P on lo n).testBit g=true→S g=true
 | 0,g,h=>by simp[maIt]at h
 | n+1,g,h=>by
  rw[maIt,maStep,zni,Bool.and_eq_true,decide_eq_true_eq,Bool.or_eq_true]at h
  rcases h.2 with h2 | h2
  ·exact znt hS n g h2
  ·exact hS g h.1 (zsr (znt hS n) h2)
theorem maX_iff {P:Pr}{on lo:Nat→Bool}(h:maC P on lo=true)(g:Nat):(maX P on lo).testBit g=true↔zgr P on lo g:=by
 refine⟨fun hg S hS=>znt hS _ g hg,fun hg=>?_⟩
 refine hg (fun g=>(maX P on lo).testBit g) fun g hlt h2=>?_
 have:=List.all_eq_true.1 h g (List.mem_range.2 hlt)
 rw[h2]at this
 simpa using this
theorem maX_eq {P:Pr}(h:maC P (onB P) (loB P)=true):maB P=fun g=>(maX P (onB P) (loB P)).testBit g:=by
 funext g
 rw[Bool.eq_iff_iff]
 have hb:maB P g=true↔zgr P (onB P) (loB P) g:=by unfold maB;simp
 rw[hb]
 exact(maX_iff h g).symm
def rsX (P:Pr)(on:Nat→Bool):Nat→Nat
 | 0=>rcX (zcy P on) 4000 [P.main] 0
 | s+1=>match P.gos[s]? with
  | some k=>(match P.code[k]? with | some i=>if on k then rcX (zcy P on) 4000 [i.call] 0 else 0 | none=>0)
  | none=>0
def rsC (P:Pr)(on:Nat→Bool):Bool:=clB (zcy P on) [P.main] P.fs.length (rcX (zcy P on) 4000 [P.main] 0) &&
 P.gos.all fun k=>match P.code[k]? with | some i=>clB (zcy P on) [i.call] P.fs.length (rcX (zcy P on) 4000 [i.call] 0) | none=>true
theorem rsX_eq {P:Pr}(h:rsC P (onB P)=true):rsB P=fun r g=>(rsX P (onB P) r).testBit g:=by
 funext r g
 rw[Bool.eq_iff_iff,zk5]
 unfold rsC at h
 rw[Bool.and_eq_true]at h
 cases r with
 | zero=>exact(zk6 h.1 g).symm
 | succ s =>
  show(∃ k i,P.gos[s]? = some k∧P.code[k]? = some i∧onB P k=true∧zbr (zcy P (onB P)) [i.call] g)↔_
  cases hk:P.gos[s]? with
  | none =>
   have e:rsX P (onB P) (s+1)=0:=by simp only[rsX,hk]
   rw[e]
   simp
  | some k =>
   have h2:=List.all_eq_true.1 h.2 k (List.mem_of_getElem? hk)
   cases hi:P.code[k]? with
   | none =>
    have e:rsX P (onB P) (s+1)=0:=by simp only[rsX,hk,hi]
    rw[e]
    simp only[Nat.zero_testBit,Bool.false_eq_true,iff_false]
    rintro⟨k',i',e,hi',_⟩
    injection e with e
    subst e
    rw[hi]at hi'
    cases hi'
   | some i =>
    rw[hi]at h2
    have e:rsX P (onB P) (s+1)=if onB P k then rcX (zcy P (onB P)) 4000 [i.call] 0 else 0:=by simp only[rsX,hk,hi]
    rw[e]
    simp only at h2
    cases hon:onB P k
    ·simp only[Bool.false_eq_true,if_false,Nat.zero_testBit,iff_false]
     rintro⟨k',i',e,_,ho,_⟩
     injection e with e
     subst e
     rw[hon]at ho
     cases ho
    ·simp only[if_true]
     rw[zk6 h2 g]
     constructor
     ·rintro⟨k',i',e,hi',_,hr⟩
      injection e with e
      subst e
      rw[hi]at hi'
      injection hi' with hi'
      subst hi'
      exact hr
     ·intro hr
      exact⟨k,i,rfl,hi,hon,hr⟩
end
section
def zdg {α : Type}(v:Nat)(k:Nat→α):α := match v with | 0=>k 0 | n+1=>k (n+1)
theorem zha {α : Type}(v:Nat)(k:Nat→α):zdg v k=k v:=by cases v <;> rfl
def isBelG (on:Nat→Bool)(rs:Nat→Nat→Bool)(P:Pr)(r j:Nat):Bool:=match P.gos[j]? with | some k=>on k&&(match P.code[k]? with | some i=>rs r i.fn | none=>false) | none=>false
theorem zru (P:Pr)(r:Nat):∀ n,zby P r n=setX (isBelG (onB P) (rsB P) P r) n
 | 0=>rfl
 | n+1=>by
  unfold zby setX
  rw[zru P r n]
  rfl
def zi4 (on:Nat→Bool)(rs:Nat→Nat→Bool)(P:Pr):List Nat:=(List.range P.gos.length).map fun s=>setX (isBelG on rs P (s+1)) P.gos.length
theorem zx0 (P:Pr):zdb P=zi4 (onB P) (rsB P) P:=by
 unfold zdb zi4
 exact List.map_congr_left fun s _=>zru P (s+1) _
def orB (bl:List Nat)(x:Nat):Nat→Nat→Nat
 | 0,a=>a
 | j+1,a=>orB bl x j (if x.testBit j then a|||bl.getD j 0 else a)
def zlc (bl:List Nat):List Nat:=bl.map fun x=>zdg (orB bl x bl.length x) id
def belIt:Nat→List Nat→List Nat
 | 0,bl=>bl
 | n+1,bl=>belIt n (zlc bl)
def belCk (b0 bl:List Nat):Bool:=decide (bl.length=b0.length)&&bl.all (fun x=>decide (x<2 ^ b0.length))&&(List.range b0.length).all fun s=>(b0.getD s 0|||bl.getD s 0==bl.getD s 0)&&(List.range b0.length).all fun j=>!(bl.getD s 0).testBit j||(bl.getD j 0|||bl.getD s 0==bl.getD s 0)
theorem zna (bl:List Nat)(s j:Nat):za0 bl s j=(bl.getD s 0).testBit j:=by unfold za0;rw[List.getD_eq_getElem?_getD]
theorem zsb {bl:List Nat}{x:Nat}{p:Nat→Prop}(hx:∀ j,x.testBit j=true→∀ k,(bl.getD j 0).testBit k=true→p k):∀ (n a:Nat),(∀ k,a.testBit k=true→p k)→∀ k,(orB bl x n a).testBit k=true→p k
 | 0,_,ha,k,h=>ha k h
 | n+1,a,ha,k,h=>by
  unfold orB at h
  refine zsb hx n _ (fun k hk=>?_) k h
  split at hk
  ·rename_i hb
   rw[Nat.testBit_or,Bool.or_eq_true]at hk
   rcases hk with hk | hk
   ·exact ha k hk
   ·exact hx n hb k hk
  ·exact ha k hk
theorem zuz {b0 bl:List Nat}(h:∀ s j,za0 bl s j=true→BelP b0 s j):∀ s j,za0 (zlc bl) s j=true→BelP b0 s j:=by
 intro s j hs
 unfold za0 zlc at hs
 rw[List.getElem?_map]at hs
 cases hx:bl[s]? with
 | none=>rw[hx]at hs;simp at hs
 | some x =>
  rw[hx]at hs
  simp only[Option.map_some,Option.getD_some,zha,id]at hs
  have hb:∀ j,x.testBit j=true→BelP b0 s j:=fun j hj=>h s j (by unfold za0;rw[hx];exact hj)
  exact zsb (p:=fun k=>BelP b0 s k) (fun j hj k hk=>(hb j hj).trans (h j k (by rw[zna];exact hk))) _ _ hb j hs
theorem zo4 {b0:List Nat}:∀ (n:Nat) (bl:List Nat),(∀ s j,za0 bl s j=true→BelP b0 s j)→∀ s j,za0 (belIt n bl) s j=true→BelP b0 s j
 | 0,_,h=>h
 | n+1,bl,h=>zo4 n (zlc bl) (zuz h)
theorem zkj {a b:Nat}(h:a|||b=b){k:Nat}(ha:a.testBit k=true):b.testBit k=true:=by rw[← h,Nat.testBit_or,ha];rfl
theorem bel_uniq {b0 bl Bs:List Nat}(hs:∀ s j,za0 bl s j=true→BelP b0 s j)(hc:belCk b0 bl=true)(h1:Bs.length=b0.length)(h3:∀ s j,za0 Bs s j=true↔BelP b0 s j):Bs=bl:=by
 unfold belCk at hc
 simp only[Bool.and_eq_true,List.all_eq_true,List.mem_range,decide_eq_true_eq,Bool.or_eq_true,Bool.not_eq_true',beq_iff_eq]at hc
 obtain⟨⟨hl,hsm⟩,hcl⟩:=hc
 have hge:∀ s j,za0 bl s j=true→s<b0.length∧j<b0.length:=fun s j h=>by
  unfold za0 at h
  cases hx:bl[s]? with
  | none=>rw[hx]at h;simp at h
  | some x =>
   have hlt:=(List.getElem?_eq_some_iff.1 hx).1
   rw[hx]at h
   have h2:=hsm x (List.mem_of_getElem? hx)
   refine⟨by omega,?_⟩
   rcases Nat.lt_or_ge j b0.length with hj | hj
   ·exact hj
   ·have:=Nat.testBit_lt_two_pow (Nat.lt_of_lt_of_le h2 (Nat.pow_le_pow_right (by omega) hj):x<2 ^ j)
    simp only[Option.getD_some]at h
    rw[this]at h
    cases h
 have hb:∀ s j,BelP b0 s j→za0 bl s j=true:=fun s j h=>h (fun s j=>za0 bl s j) (fun s j h=>by
  rw[zna]at h ⊢
  have hs0:s<b0.length:=by
   rcases Nat.lt_or_ge s b0.length with hlt | hge
   ·exact hlt
   ·rw[List.getD_eq_getElem?_getD,List.getElem?_eq_none hge]at h
    simp at h
  exact zkj (hcl s hs0).1 h) fun s j k h1 h2=>by
  obtain⟨hs,hj⟩:=hge s j h1
  rw[zna]at h1 h2 ⊢
  rcases(hcl s hs).2 j hj with h | h
  ·rw[h]at h1;cases h1
  ·exact zkj h h2
 refine List.ext_getElem (h1.trans hl.symm) fun s hs1 hs2=>?_
 refine Nat.eq_of_testBit_eq fun j=>?_
 rw[Bool.eq_iff_iff]
 have e1:za0 Bs s j=Bs[s].testBit j:=by unfold za0;rw[List.getElem?_eq_getElem hs1];rfl
 have e2:za0 bl s j=bl[s].testBit j:=by unfold za0;rw[List.getElem?_eq_getElem hs2];rfl
 rw[← e1,← e2]
 exact⟨fun h=>hb s j ((h3 s j).1 h),fun h=>(h3 s j).2 (hs s j h)⟩
structure PX where
 ho:List (Nd×Nat)
 ht:List (Nd×Nat)
 ed:List (Nd×Nd)
 us:List (Nd×Use)
def lkX:List (Nd×Nat)→Nd→Nat
 | [],_=>0
 | (m,o)::l,x=>if x=m then lkX l x|||o else lkX l x
def edX:List (Nd×Nd)→Nd→Nd→Bool
 | [],_,_=>false
 | (a,b)::l,x,y=>decide (x=a∧y=b)||edX l x y
def usX:List (Nd×Use)→Nd→List Use
 | [],_=>[]
 | (n,u)::l,x=>if x=n then usX l x++[u]else usX l x
def PX.ps (p:PX):PS:=⟨lkX p.ho,lkX p.ht,edX p.ed,usX p.us⟩
def PX.grow (p:PX)(n:Nd)(o t:Nat):PX:={ p with ho:=(n,o)::p.ho,ht:=(n,t)::p.ht }
def PX.edge (p:PX)(a b:Nd):PX:={ p with ed:=(a,b)::p.ed }
def PX.use (p:PX)(n:Nd)(u:Use):PX:={ p with us:=(n,u)::p.us }
theorem PX.grow_ps (p:PX)(n:Nd)(o t:Nat):(p.grow n o t).ps=zcj p.ps n o t:=rfl
theorem PX.edge_ps (p:PX)(a b:Nd):(p.edge a b).ps=zbd p.ps a b:=rfl
theorem PX.use_ps (p:PX)(n:Nd)(u:Use):(p.use n u).ps=useM p.ps n u:=rfl
def zit (p:PX)(fn:Nat)(a:Ar)(n:Nd):PX:=if a.c then p else p.edge (loc fn a.n) n
theorem zre (p:PX)(fn:Nat)(a:Ar)(n:Nd):(zit p fn a n).ps=zb8 p.ps fn a n:=by unfold zit zb8;split <;> rfl
def zi2 (p:PX)(fn call:Nat):List Ar→Nat→PX
 | [],_=>p
 | a::l,k=>zi2 (zit p fn a (loc call k)) fn call l (k+1)
theorem zrv (fn call:Nat):∀ (l:List Ar) (k:Nat) (p:PX),(zi2 p fn call l k).ps=zcp p.ps fn call l k
 | [],_,_=>rfl
 | a::l,k,p=>by unfold zi2 zcp;rw[zrv fn call l,zre]
def ruleX (p:PX)(i:In):PX :=
 if i.op=1 then(if i.bin=0 then zit p i.fn i.y (loc i.fn i.x)else p)
 else if i.op=2 then p.edge ⟨118,i.var,0⟩ (loc i.fn i.x)
 else if i.op=3 then zit p i.fn i.y ⟨118,i.var,0⟩
 else if i.op=6 then p.grow (loc i.fn i.x) (2 ^ i.site) 0
 else if i.op=4 then(if i.y.c then p else p.use (loc i.fn i.y.n) ⟨i.var,loc i.fn i.x,false⟩)
 else if i.op=5 then(if i.y.c then p else p.use (loc i.fn i.x) ⟨i.var,loc i.fn i.y.n,true⟩)
 else if i.op=12 then zit p i.fn i.y ⟨114,i.fn,0⟩
 else if i.op=7∨i.op=11 then
  if i.x<0 then zi2 p i.fn i.call i.args 0 else if i.op=7 then(zi2 p i.fn i.call i.args 0).grow (loc i.fn i.x) 0 (2 ^ i.site)else(zi2 p i.fn i.call i.args 0).edge ⟨114,i.call,0⟩ (loc i.fn i.x)
 else p
theorem ruleX_ps (p:PX)(i:In):(ruleX p i).ps=zak p.ps i:=by
 unfold ruleX zak
 simp only[apply_ite PX.ps,zre,zrv,PX.grow_ps,PX.edge_ps,PX.use_ps]
def zlo (on:Nat→Bool):List In→Nat→PX→PX
 | [],_,p=>p
 | i::l,k,p=>zlo on l (k+1) (if on k then ruleX p i else p)
theorem zsi (on:Nat→Bool):∀ (l:List In) (k:Nat) (p:PX),(zlo on l k p).ps=zg1 on l k p.ps
 | [],_,_=>rfl
 | i::l,k,p=>by
  unfold zlo zg1
  rw[zsi on l]
  split
  ·rw[ruleX_ps]
  ·rfl
def px0 (on:Nat→Bool)(P:Pr):PX:=zlo on P.code 0 ⟨[],[],[],[]⟩
theorem px0_ps (P:Pr):(px0 (onB P) P).ps=zhi P:=zsi _ _ _ _
def grX (p:PX)(e:Nd×Nd):PX:=zdg (lkX p.ho e.1) fun o=>zdg (lkX p.ht e.1) fun t=>zdg (lkX p.ho e.2) fun o2=>zdg (lkX p.ht e.2) fun t2=>if(o2|||o)==o2&&(t2|||t)==t2 then p else p.grow e.2 o t
def adX (p:PX)(a b:Nd):PX:=if edX p.ed a b then p else p.edge a b
def fdX (n:Nd)(u:Use):Nat→PX→PX
 | 0,p=>p
 | o+1,p=>fdX n u o (if(lkX p.ho n).testBit o then adX p (useA o u) (useB o u)else p)
def zmr (p:PX):PX:=p.ed.foldl grX (p.us.foldl (fun q c=>fdX c.1 c.2 8 q) p)
def ptIt:Nat→PX→PX
 | 0,p=>p
 | n+1,p=>ptIt n (zmr p)
def ptCk (p:PX):Bool:=p.ed.all (fun e=>!zdn p.ps e.2 (lkX p.ho e.1) (lkX p.ht e.1))&&p.us.all fun c=>decide (lkX p.ho c.1<2 ^ 8)&&(List.range 8).all fun o=>!(lkX p.ho c.1).testBit o||edX p.ed (useA o c.2) (useB o c.2)
theorem zmd:∀ {l:List (Nd×Nd)} {a b:Nd},edX l a b=true↔(a,b) ∈ l
 | [],a,b=>by simp[edX]
 | (x,y)::l,a,b=>by
  unfold edX
  rw[Bool.or_eq_true,decide_eq_true_eq,zmd (l:=l),List.mem_cons,Prod.mk.injEq]
theorem zl7:∀ {l:List (Nd×Use)} {n:Nd} {u:Use},u ∈ usX l n↔(n,u) ∈ l
 | [],n,u=>by simp[usX]
 | (m,v)::l,n,u=>by
  unfold usX
  split
  ·rename_i h
   subst h
   rw[List.mem_append,zl7 (l:=l),List.mem_singleton,List.mem_cons,Prod.mk.injEq]
   constructor
   ·rintro(h | h)
    ·exact .inr h
    ·exact .inl ⟨rfl,h⟩
   ·rintro(⟨_,h⟩ | h)
    ·exact .inr h
    ·exact .inl h
  ·rename_i h
   rw[zl7 (l:=l),List.mem_cons,Prod.mk.injEq]
   exact⟨.inr,fun h'=>h'.resolve_left fun⟨e,_⟩=>h e⟩
theorem grX_snd {st0:PS}{p:PX}(h:PSnd st0 p.ps){e:Nd×Nd}(he:zfy st0 e.1 e.2):PSnd st0 (grX p e).ps:=by
 unfold grX
 simp only[zha]
 split
 ·exact h
 ·rw[PX.grow_ps]
  exact h.grow he
theorem zpv {st0:PS}:∀ (l:List (Nd×Nd)) (p:PX),(∀ e ∈ l,zfy st0 e.1 e.2)→PSnd st0 p.ps→PSnd st0 (l.foldl grX p).ps
 | [],_,_,h=>h
 | e::l,p,hl,h=>zpv l _ (fun e' he'=>hl e' (by simp[he'])) (grX_snd h (hl e (by simp)))
theorem adX_snd {st0:PS}{p:PX}(h:PSnd st0 p.ps){a b:Nd}(he:zfy st0 a b):PSnd st0 (adX p a b).ps:=by
 unfold adX
 split
 ·exact h
 ·rw[PX.edge_ps]
  exact h.edge he
theorem use_edge {st0 st:PS}(h:PSnd st0 st){n:Nd}{u:Use}{o:Nat}(hu:u ∈ st.us n)(ho:(st.ho n).testBit o=true):zfy st0 (useA o u) (useB o u):=by
 rw[h.us]at hu
 unfold useA useB
 cases hp:u.put
 ·exact(zhh st0).get n u o hu hp (h.ho n o ho)
 ·exact(zhh st0).put n u o hu hp (h.ho n o ho)
theorem zro {st0:PS}{n:Nd}{u:Use}(hu:u ∈ st0.us n):∀ (k:Nat) (p:PX),PSnd st0 p.ps→PSnd st0 (fdX n u k p).ps
 | 0,_,h=>h
 | k+1,p,h=>by
  unfold fdX
  refine zro hu k _ ?_
  split
  ·rename_i hb
   exact adX_snd h (use_edge h (by rw[h.us];exact hu) hb)
  ·exact h
theorem zo2 {st0:PS}:∀ (l:List (Nd×Use)) (p:PX),(∀ c ∈ l,c.2 ∈ st0.us c.1)→PSnd st0 p.ps→PSnd st0 (l.foldl (fun q c=>fdX c.1 c.2 8 q) p).ps
 | [],_,_,h=>h
 | c::l,p,hl,h=>zo2 l _ (fun c' hc'=>hl c' (by simp[hc'])) (zro (hl c (by simp)) 8 p h)
theorem zw7 {st0:PS}{p:PX}(h:PSnd st0 p.ps):PSnd st0 (zmr p).ps:=by
 unfold zmr
 refine zpv _ _ (fun e he=>h.ed _ _ (zmd.2 he)) (zo2 _ _ (fun c hc=>?_) h)
 have:c.2 ∈ p.ps.us c.1:=zl7.2 hc
 rw[h.us]at this
 exact this
theorem zpe {st0:PS}:∀ (n:Nat) (p:PX),PSnd st0 p.ps→PSnd st0 (ptIt n p).ps
 | 0,_,h=>h
 | n+1,p,h=>zpe n _ (zw7 h)
theorem zx3 {st0:PS}{p:PX}(h:PSnd st0 p.ps)(hc:ptCk p=true):(∀ n k,(lkX p.ho n).testBit k=true↔zei st0 n false k)∧(∀ n k,(lkX p.ht n).testBit k=true↔zei st0 n true k):=by
 unfold ptCk at hc
 simp only[Bool.and_eq_true,List.all_eq_true,List.mem_range,decide_eq_true_eq,Bool.or_eq_true,Bool.not_eq_true']at hc
 obtain⟨h1,h2⟩:=hc
 refine h.done (fun a b he=>h1 (a,b) (zmd.1 he)) fun n u o hu ho=>?_
 obtain⟨h3,h4⟩:=h2 (n,u) (zl7.1 hu)
 have ho8:o<8:=by
  rcases Nat.lt_or_ge o 8 with hlt | hge
  ·exact hlt
  ·have:=Nat.testBit_lt_two_pow (Nat.lt_of_lt_of_le h3 (Nat.pow_le_pow_right (by omega) hge):lkX p.ho n<2 ^ o)
   have ho':(lkX p.ho n).testBit o=true:=ho
   rw[this]at ho'
   cases ho'
 rcases h4 o ho8 with h | h
 ·have ho':(lkX p.ho n).testBit o=true:=ho
  rw[h]at ho'
  cases ho'
 ·exact h
theorem zov {f g:Nd→Nat}(h:∀ n k,(f n).testBit k=true↔(g n).testBit k=true):f=g:=funext fun n=>Nat.eq_of_testBit_eq fun k=>Bool.eq_iff_iff.2 (h n k)
def ptX (on:Nat→Bool)(P:Pr):PX:=ptIt 40 (px0 on P)
theorem ptX_eq {P:Pr}{st:PS}{x:Nat}(h:PtsIs P st x)(hc:ptCk (ptX (onB P) P)=true):st.ho=lkX (ptX (onB P) P).ho∧st.ht=lkX (ptX (onB P) P).ht:=by
 obtain⟨h1,h2⟩:=zx3 (st0:=zhi P) (p:=ptX (onB P) P) (zpe 40 _ (by rw[px0_ps];exact PSnd.refl _)) hc
 exact⟨zov fun n k=>(h.ho n k).trans (h1 n k).symm,zov fun n k=>(h.ht n k).trans (h2 n k).symm⟩
theorem zwf {st st':PS}(h:st.ho=st'.ho)(fn:Nat)(a:Ar):argO st fn a=argO st' fn a:=by unfold argO;rw[h]
theorem zr7 {st st':PS}(h:st.ho=st'.ho):∀ v,ze8 st v=ze8 st' v
 | 0=>rfl
 | v+1=>by unfold ze8;rw[zr7 h v,h]
theorem zp9 {st st':PS}(h:st.ho=st'.ho)(fn:Nat):∀ (l:List Ar) (x:Nat),ze2 st fn x l=ze2 st' fn x l
 | [],_=>rfl
 | a::l,x=>by unfold ze2;rw[zp9 h fn l,zwf h]
theorem zsa {st st':PS}(h:st.ho=st'.ho)(on:Nat→Bool):∀ (l:List In) (x k:Nat),zgh st on x k l=zgh st' on x k l
 | [],_,_=>rfl
 | i::l,x,k=>by unfold zgh;rw[zsa h on l,zp9 h]
def zlr (ho:Nd→Nat):Nat→Nat→Nat
 | 0,x=>x
 | o+1,x=>zdg (if x.testBit o then x|||ho ⟨102,o,0⟩|||ho ⟨102,o,1⟩else x) fun y=>zlr ho o y
def ouIt (ho:Nd→Nat):Nat→Nat→Nat
 | 0,x=>x
 | n+1,x=>ouIt ho n (zlr ho 8 x)
def ouCk (ho:Nd→Nat)(x0 x:Nat):Bool:=(x0|||x==x)&&decide (x<2 ^ 8)&&(List.range 8).all fun o=>!x.testBit o||(ho ⟨102,o,0⟩|||x==x&&ho ⟨102,o,1⟩|||x==x)
theorem zr8 {st:PS}{x0:Nat}:∀ (n x:Nat),(∀ o,x.testBit o=true→OutP st x0 o)→∀ o,(zlr st.ho n x).testBit o=true→OutP st x0 o
 | 0,_,h,o,ho=>h o ho
 | n+1,x,h,o,ho=>by
  unfold zlr at ho
  rw[zha]at ho
  refine zr8 n _ (fun k hk=>?_) o ho
  split at hk
  ·rename_i hb
   rw[Nat.testBit_or,Nat.testBit_or,Bool.or_eq_true,Bool.or_eq_true]at hk
   rcases hk with(hk | hk) | hk
   ·exact h k hk
   ·exact fun S h1 h2=>h2 n 0 k (h n hb S h1 h2) (by omega) hk
   ·exact fun S h1 h2=>h2 n 1 k (h n hb S h1 h2) (by omega) hk
  ·exact h k hk
theorem zqr {st:PS}{x0:Nat}:∀ (n x:Nat),(∀ o,x.testBit o=true→OutP st x0 o)→∀ o,(ouIt st.ho n x).testBit o=true→OutP st x0 o
 | 0,_,h=>h
 | n+1,x,h=>zqr n _ (zr8 8 x h)
theorem ou_uniq {st:PS}{x0 y x:Nat}(hs:∀ o,y.testBit o=true→OutP st x0 o)(hc:ouCk st.ho x0 y=true)(h:∀ o,x.testBit o=true↔OutP st x0 o):x=y:=by
 unfold ouCk at hc
 simp only[Bool.and_eq_true,List.all_eq_true,List.mem_range,decide_eq_true_eq,Bool.or_eq_true,Bool.not_eq_true',beq_iff_eq]at hc
 obtain⟨⟨h1,h2⟩,h3⟩:=hc
 have key:∀ o,OutP st x0 o→y.testBit o=true:=fun o ho=>ho (fun o=>y.testBit o=true) (fun o ho=>zkj h1 ho) fun o f o' hy hf hb=>by
  have ho8:o<8:=by
   rcases Nat.lt_or_ge o 8 with hlt | hge
   ·exact hlt
   ·have:=Nat.testBit_lt_two_pow (Nat.lt_of_lt_of_le h2 (Nat.pow_le_pow_right (by omega) hge):y<2 ^ o)
    rw[this]at hy
    cases hy
  rcases h3 o ho8 with h | h
  ·rw[h]at hy;cases hy
  ·obtain rfl | rfl:f=0∨f=1:=by omega
   ·exact zkj h.1 hb
   ·exact zkj h.2 hb
 exact Nat.eq_of_testBit_eq fun o=>Bool.eq_iff_iff.2 ⟨fun hx=>key o ((h o).1 hx),fun hy=>(h o).2 (hs o hy)⟩
end
section
abbrev LL:=List ((Nat×Nat)×Nat)
def lfX (base:LF):LL→LF
 | [],r,i=>base r i
 | ((r0,i0),v)::l,r,i=>if r=r0∧i=i0 then v else lfX base l r i
def embX (base:LF)(s:LL×Bool):LS:=(lfX base s.1,s.2)
def setL (o v r i:Nat)(s:LL×Bool):LL×Bool:=if v==o then s else(((r,i),v)::s.1,true)
def zgz (base:LF)(s:LL×Bool)(r i t:Nat):LL×Bool:=zdg (lfX base s.1 r i) fun o=>zdg (o&&&t) fun v=>setL o v r i s
def zhs (base:LF)(s:LL×Bool)(r i t:Nat):LL×Bool:=zdg (lfX base s.1 r i) fun o=>zdg (o|||t) fun v=>setL o v r i s
theorem zrj (base:LF)(s:LL×Bool)(r i v:Nat):embX base (setL (lfX base s.1 r i) v r i s)=(upd2 (lfX base s.1) r i v,s.2||(v != lfX base s.1 r i)):=by
 unfold setL embX
 cases hv:v==lfX base s.1 r i
 ·simp only[Bool.false_eq_true,if_false,bne,hv,Bool.not_false,Bool.or_true,Prod.mk.injEq,and_true]
  rfl
 ·have e:v=lfX base s.1 r i:=by simpa using hv
  simp only[if_true,bne,hv,Bool.not_true,Bool.or_false,Prod.mk.injEq,and_true]
  funext r' i'
  unfold upd2
  split
  ·rename_i h;rw[h.1,h.2,e]
  ·rfl
theorem zoc (base:LF)(s:LL×Bool)(r i t:Nat):embX base (zgz base s r i t)=zb4 (embX base s) r i t:=by
 unfold zgz
 simp only[zha]
 rw[zrj]
 rfl
theorem zlg (base:LF)(s:LL×Bool)(r i t:Nat):embX base (zhs base s r i t)=za7 (embX base s) r i t:=by
 unfold zhs
 simp only[zha]
 rw[zrj]
 rfl
theorem emb1 (base:LF)(s:LL×Bool):(embX base s).1=lfX base s.1:=rfl
def zkp (base:LF)(on:Nat→Bool):List In→Nat→LL×Bool→LL×Bool
 | [],_,s=>s
 | i::l,k,s=>zkp base on l (k+1) (if on k then zhs base s 3 i.fn (zdl (lfX base s.1) i)else s)
theorem zpf (base:LF)(on:Nat→Bool):∀ (l:List In) (k:Nat) (s:LL×Bool),embX base (zkp base on l k s)=zes on l k (embX base s)
 | [],_,_=>rfl
 | i::l,k,s=>by
  unfold zkp zes
  rw[zpf base on l]
  split
  ·rw[zlg];rfl
  ·rfl
def zkk (base:LF):List Fu→Nat→LL×Bool→LL×Bool
 | [],_,s=>s
 | f::l,g,s=>zkk base l (g+1) (zgz base s 0 f.from_ (lfX base s.1 1 g))
theorem zsf (base:LF):∀ (l:List Fu) (g:Nat) (s:LL×Bool),embX base (zkk base l g s)=zfw l g (embX base s)
 | [],_,_=>rfl
 | f::l,g,s=>by
  unfold zkk zfw
  rw[zsf base l,zoc]
  rfl
def zks (base:LF)(s:LL×Bool)(k:Nat)(i:In):(LL×Bool)×Nat :=
 if i.op=9 then(s,lfX base s.1 0 k|||2 ^ i.var)
 else if i.op=10 then(s,dif (lfX base s.1 0 k) (2 ^ i.var))
 else if i.op=7 then(zgz base s 1 i.call 0,lfX base s.1 0 k)
 else if i.op=11 then(zgz base s 1 i.call (lfX base s.1 0 k),lfX base (zgz base s 1 i.call (lfX base s.1 0 k)).1 2 i.call|||dif (lfX base s.1 0 k) (lfX base (zgz base s 1 i.call (lfX base s.1 0 k)).1 3 i.call))
 else if i.op=12 then(zgz base s 2 i.fn (lfX base s.1 0 k),lfX base s.1 0 k)
 else(s,lfX base s.1 0 k)
theorem zxp (base:LF)(s:LL×Bool)(k:Nat)(i:In):zca (embX base s) k i=(embX base (zks base s k i).1,(zks base s k i).2):=by
 unfold zca zks
 simp only[← zoc,emb1]
 repeat' split
 all_goals rfl
def nextX (base:LF)(r h:Nat):List Nat→LL×Bool→LL×Bool
 | [],s=>s
 | j::l,s=>nextX base r h l (zgz base s r j h)
theorem zqg (base:LF)(r h:Nat):∀ (l:List Nat) (s:LL×Bool),embX base (nextX base r h l s)=ze3 r h l (embX base s)
 | [],_=>rfl
 | j::l,s=>by
  unfold nextX ze3
  rw[zqg base r h l,zoc]
def zjk (base:LF)(P:Pr)(on:Nat→Bool):List In→Nat→LL×Bool→LL×Bool
 | [],_,s=>s
 | i::l,k,s=>zjk base P on l (k+1) (if on k then zdg (zks base s k i).2 fun h=>nextX base 0 h (zap P k) (zks base s k i).1 else s)
theorem zoi (base:LF)(P:Pr)(on:Nat→Bool):∀ (l:List In) (k:Nat) (s:LL×Bool),embX base (zjk base P on l k s)=zet P on l k (embX base s)
 | [],_,_=>rfl
 | i::l,k,s=>by
  unfold zjk zet
  rw[zoi base P on l,zha]
  split
  ·rw[zqg,zxp]
  ·rfl
def growX (base:LF)(r h:Nat):List Nat→LL×Bool→LL×Bool
 | [],s=>s
 | j::l,s=>growX base r h l (zhs base s r j h)
theorem zq6 (base:LF)(r h:Nat):∀ (l:List Nat) (s:LL×Bool),embX base (growX base r h l s)=zew r h l (embX base s)
 | [],_=>rfl
 | j::l,s=>by
  unfold growX zew
  rw[zq6 base r h l,zlg]
def zld (base:LF)(P:Pr)(s:LL×Bool)(k:Nat)(i:In):LL×Bool:=match P.fs[i.fn]? with
 | some f=>if k=f.from_ then zhs base s 4 k (lfX base s.1 5 i.fn)else s
 | none=>s
theorem zx2 (base:LF)(P:Pr)(s:LL×Bool)(k:Nat)(i:In):embX base (zld base P s k i)=zdo P (embX base s) k i:=by
 unfold zld zdo
 cases P.fs[i.fn]? with
 | none=>rfl
 | some f =>
  simp only
  split
  ·rw[zlg];rfl
  ·rfl
def zjt (base:LF)(many:List Bool)(ht:Nd→Nat)(Bs:List Nat)(s:LL×Bool)(k:Nat)(i:In):(LL×Bool)×Nat :=
 if i.op=7 then(s,lfX base s.1 4 k|||(2 ^ i.site|||Bs.getD i.site 0))
 else if i.op=8 then(s,zge (if i.y.c then 0 else ht (loc i.fn i.y.n)) many 0 (lfX base s.1 4 k))
 else if i.op=11 then(zhs base s 5 i.call (lfX base s.1 4 k),lfX base (zhs base s 5 i.call (lfX base s.1 4 k)).1 6 i.call)
 else if i.op=12 then(zhs base s 6 i.fn (lfX base s.1 4 k),lfX base s.1 4 k)
 else(s,lfX base s.1 4 k)
theorem zxg (base:LF)(P:Pr)(st:PS)(Bs:List Nat)(s:LL×Bool)(k:Nat)(i:In):zb7 P st Bs (embX base s) k i=(embX base (zjt base (zau P) st.ht Bs s k i).1,(zjt base (zau P) st.ht Bs s k i).2):=by
 unfold zb7 zjt argT
 simp only[← zlg,emb1]
 repeat' split
 all_goals rfl
def zkh (base:LF)(P:Pr)(on:Nat→Bool)(rs:Nat→Nat→Bool)(many:List Bool)(ht:Nd→Nat)(Bs:List Nat):List In→Nat→LL×Bool→LL×Bool
 | [],_,s=>s
 | i::l,k,s=>zkh base P on rs many ht Bs l (k+1) (if on k&&rs 0 i.fn then zdg (zjt base many ht Bs (zld base P s k i) k i).2 fun h=>growX base 4 h (zap P k) (zjt base many ht Bs (zld base P s k i) k i).1 else s)
theorem zsj (base:LF)(P:Pr)(st:PS)(Bs:List Nat):∀ (l:List In) (k:Nat) (s:LL×Bool),embX base (zkh base P (onB P) (rsB P) (zau P) st.ht Bs l k s)=zer P st Bs l k (embX base s)
 | [],_,_=>rfl
 | i::l,k,s=>by
  unfold zkh zer
  rw[zsj base P st Bs l,zha]
  split
  ·rw[zq6,← zx2,zxg]
  ·rfl
def itX (p:LL×Bool→LL×Bool):Nat→LL→LL
 | 0,l=>l
 | n+1,l=>match p (l,false)with
  | (l2,true)=>itX p n l2
  | (l2,false)=>l2
theorem znc (p:LS→LS):∀ (n:Nat) (f:LF),zd5 p (n+1) f=zd5 p n (p (f,false)).1
 | 0,_=>rfl
 | n+1,f=>by
  show(p (zd5 p (n+1) f,false)).1=(p (zd5 p n (p (f,false)).1,false)).1
  rw[znc p n f]
theorem znk {p:LS→LS}{f:LF}(h:(p (f,false)).1=f):∀ n,zd5 p n f=f
 | 0=>rfl
 | n+1=>by rw[znc,h,znk h n]
theorem znr (p:LS→LS)(f:LF)(a:Nat):∀ b,zd5 p (a+b) f=zd5 p b (zd5 p a f)
 | 0=>rfl
 | b+1=>by
  show(p (zd5 p (a+b) f,false)).1=(p (zd5 p b (zd5 p a f),false)).1
  rw[znr p f a b]
theorem fix_uniq {p:LS→LS}{f0 f g:LF}(hf:zjg p f0 f)(hg:∃ n,g=zd5 p n f0)(hs:(p (g,false)).1=g):f=g:=by
 obtain⟨⟨n,hn⟩,_,hst⟩:=hf
 obtain⟨m,hm⟩:=hg
 rcases Nat.le_total n m with h | h
 ·obtain⟨d,rfl⟩:=Nat.exists_eq_add_of_le h
  rw[hm,znr,← hn,znk hst]
 ·obtain⟨d,rfl⟩:=Nat.exists_eq_add_of_le h
  rw[hn,znr,← hm,znk hs]
theorem zqc {base:LF}{p:LS→LS}{q:LL×Bool→LL×Bool}(h:∀ s,embX base (q s)=p (embX base s)):∀ (n:Nat) (l:LL),∃ m,lfX base (itX q n l)=zd5 p m (lfX base l)
 | 0,l=>⟨0,rfl⟩
 | n+1,l=>by
  have h1:lfX base (q (l,false)).1=(p (lfX base l,false)).1:=congrArg Prod.fst (h (l,false))
  unfold itX
  cases hq:q (l,false)with
  | mk l2 b =>
   rw[hq]at h1
   cases b
   ·exact⟨1,h1⟩
   ·obtain⟨m,hm⟩:=zqc h n l2
    exact⟨m+1,by rw[znc,← h1];exact hm⟩
def stB (q:LL×Bool→LL×Bool)(l:LL):Bool:=decide ((q (l,false)).1=l)
theorem znw {base:LF}{p:LS→LS}{q:LL×Bool→LL×Bool}(h:∀ s,embX base (q s)=p (embX base s)){n:Nat}{l:LL}{f0 f:LF}(h0:f0=lfX base l)(hf:zjg p f0 f)(hc:stB q (itX q n l)=true):f=lfX base (itX q n l):=by
 subst h0
 refine fix_uniq hf (zqc h n l) ?_
 have h1:lfX base (q (itX q n l,false)).1=(p (lfX base (itX q n l),false)).1:=congrArg Prod.fst (h (itX q n l,false))
 rw[← h1,of_decide_eq_true hc]
def bsF (nm:Nat):LF:=fun r _=>if r<3 then 2 ^ nm-1 else 0
def lkXa (P:Pr)(on:Nat→Bool):LL:=itX (fun s=>zkp (bsF P.nm) on P.code 0 s) 60 [((1,P.main),0)]
def lkXb (P:Pr)(on:Nat→Bool):LL:=itX (fun s=>zjk (bsF P.nm) P on P.code 0 (zkk (bsF P.nm) P.fs 0 s)) 100 (lkXa P on)
def lkXc (P:Pr)(on:Nat→Bool)(rs:Nat→Nat→Bool)(many:List Bool)(ht:Nd→Nat)(Bs:List Nat):LL:=itX (fun s=>zkh (bsF P.nm) P on rs many ht Bs P.code 0 s) 100 (lkXb P on)
def lkC (P:Pr)(on:Nat→Bool)(rs:Nat→Nat→Bool)(many:List Bool)(ht:Nd→Nat)(Bs:List Nat):Bool :=
 stB (fun s=>zkp (bsF P.nm) on P.code 0 s) (lkXa P on)&&stB (fun s=>zjk (bsF P.nm) P on P.code 0 (zkk (bsF P.nm) P.fs 0 s)) (lkXb P on)&&stB (fun s=>zkh (bsF P.nm) P on rs many ht Bs P.code 0 s) (lkXc P on rs many ht Bs)
theorem lk_eq {P:Pr}{st:PS}{Bs:List Nat}{f:LF}(h:LkIs P st Bs f)(hc:lkC P (onB P) (rsB P) (zau P) st.ht Bs=true):f=lfX (bsF P.nm) (lkXc P (onB P) (rsB P) (zau P) st.ht Bs):=by
 obtain⟨f1,f2,h1,h2,h3⟩:=h
 unfold lkC at hc
 simp only[Bool.and_eq_true]at hc
 have e1:f1=lfX (bsF P.nm) (lkXa P (onB P)):=znw (fun s=>zpf _ _ _ _ _) rfl h1 hc.1.1
 have e2:f2=lfX (bsF P.nm) (lkXb P (onB P)):=znw (p:=passS P) (fun s=>by rw[zoi,zsf];rfl) e1 h2 hc.1.2
 exact znw (p:=zlw P st Bs) (fun s=>zsj _ _ _ _ _ _ _) e2 h3 hc.2
def stG (rs:Nat→Nat→Bool)(P:Pr)(f:LF)(s:Nat):Nat:=zgm P rs f (zj3 P s) (fnAt P (zj3 P s))
def besideG (rs:Nat→Nat→Bool)(many:List Bool)(P:Pr)(f:LF)(r a t b:Nat):Bool :=
 if(rs r (fnAt P a)&&rs t (fnAt P b))=true then
  if r=0 then(if t=0 then false else(f 4 a).testBit (t-1))
  else if t=0 then(f 4 b).testBit (r-1)
  else if r=t then many.getD (r-1) false
  else(stG rs P f (r-1)).testBit (t-1)||(stG rs P f (t-1)).testBit (r-1)
 else false
def rootsG (rs:Nat→Nat→Bool)(many:List Bool)(P:Pr)(f:LF)(a b:Nat):Option (Nat×Nat):=zh8 (fun r=>zgy (fun t=>besideG rs many P f r a t b) (P.gos.length+1) 0) (P.gos.length+1) 0
def whereG (ho:Nd→Nat)(x:Nat)(i:In):Int×Nat×Nat :=
 if i.op=2∨i.op=3 then(-1,i.var,0)
 else if i.op=4 then(0,i.var,(if i.y.c then 0 else ho (loc i.fn i.y.n))&&&x)
 else(0,i.var,ho (loc i.fn i.x.toNat)&&&x)
def pairG (rs:Nat→Nat→Bool)(many:List Bool)(P:Pr)(ho:Nd→Nat)(x:Nat)(f:LF)(a b:Nat):Option Rp :=
 match P.code[a]?,P.code[b]? with
 | some ia,some ib=>if(!zc7 ia.op && !zc7 ib.op)=true∨f 0 a&&&f 0 b≠0 then none
  else pairR ia ib (mems (f 0 a)) (mems (f 0 b)) (zgx (whereG ho x ia) (whereG ho x ib)) (rootsG rs many P f a b)
 | _,_=>none
def allG (on:Nat→Bool)(rs:Nat→Nat→Bool)(many:List Bool)(P:Pr)(ho:Nd→Nat)(x:Nat)(f:LF):List Rp:=zf5 (pairG rs many P ho x f) (accM on P.code 0)
theorem allG_eq (P:Pr)(st:PS)(x:Nat)(f:LF):allM P st x f=allG (onB P) (rsB P) (zau P) P st.ho x f:=by
 rfl
def manyG (P:Pr)(lo ma:Nat→Bool):List Bool:=P.gos.map fun k=>lo k||(match P.code[k]? with | some i=>ma i.fn | none=>false)
def bitF (x:Nat)(k:Nat):Bool:=x.testBit k
def rowF (l:List Nat)(r k:Nat):Bool:=(l.getD r 0).testBit k
def zjs {α : Type}:List Nat→(List Nat→α)→α
 | [],k=>k []
 | a::l,k=>zdg a fun a=>zjs l fun l=>k (a::l)
theorem zp4 {α : Type}:∀ (l:List Nat) (k:List Nat→α),zjs l k=k l
 | [],_=>rfl
 | a::l,k=>by unfold zjs;rw[zha,zp4 l]
def zjd {α : Type}:List Bool→(List Bool→α)→α
 | [],k=>k []
 | true::l,k=>zjd l fun l=>k (true::l)
 | false::l,k=>zjd l fun l=>k (false::l)
theorem znd {α : Type}:∀ (l:List Bool) (k:List Bool→α),zjd l k=k l
 | [],_=>rfl
 | true::l,k=>by unfold zjd;rw[znd l]
 | false::l,k=>by unfold zjd;rw[znd l]
theorem rsX_out (P:Pr)(on:Nat→Bool)(r:Nat):(((List.range (P.gos.length+1)).map (rsX P on)).getD r 0)=rsX P on r:=by
 rw[List.getD_eq_getElem?_getD,List.getElem?_map]
 rcases Nat.lt_or_ge r (P.gos.length+1)with h | h
 ·rw[List.getElem?_range h]
  rfl
 ·rw[List.getElem?_eq_none (by simpa using h)]
  cases r with
  | zero=>omega
  | succ s =>
   have:P.gos[s]? = none:=List.getElem?_eq_none (by omega)
   simp[rsX,this]
def evA (P:Pr):Option (List Rp) :=
 zdg (onX P) fun on=>zdg (loX P) fun lo=>zdg (maX P (bitF on) (bitF lo)) fun ma=>zjs ((List.range (P.gos.length+1)).map (rsX P (bitF on))) fun rs=>zjd (manyG P (bitF lo) (bitF ma)) fun many=>zjs (belIt 6 (zi4 (bitF on) (rowF rs) P)) fun bs =>
 if onC P&&loC P&&maC P (bitF on) (bitF lo)&&rsC P (bitF on)&&belCk (zi4 (bitF on) (rowF rs) P) bs&&ptCk (ptX (bitF on) P)&&lkC P (bitF on) (rowF rs) many (lkX (ptX (bitF on) P).ht) bs then
  zdg (ouIt (lkX (ptX (bitF on) P).ho) 6 (out0 P (bitF on) (ptX (bitF on) P).ps)) fun out =>
  if ouCk (lkX (ptX (bitF on) P).ho) (out0 P (bitF on) (ptX (bitF on) P).ps) out then
   some (allG (bitF on) (rowF rs) many P (lkX (ptX (bitF on) P).ho) out (lfX (bsF P.nm) (lkXc P (bitF on) (rowF rs) many (lkX (ptX (bitF on) P).ht) bs)))
  else none
 else none
theorem out0_px {st:PS}{p:PX}(h:st.ho=lkX p.ho)(P:Pr)(on:Nat→Bool):out0 P on st=out0 P on p.ps:=by
 have h':st.ho=p.ps.ho:=h
 unfold out0
 rw[zr7 h',zsa h']
theorem ou_fin {st:PS}{x x0:Nat}{h:Nd→Nat}(e:st.ho=h)(h1:ouCk h x0 (ouIt h 6 x0)=true)(h2:∀ o,x.testBit o=true↔OutP st x0 o):x=ouIt h 6 x0:=by
 subst e
 exact ou_uniq (zqr 6 _ fun o h S h1 _=>h1 o h) h1 h2
theorem evA_eq {P:Pr}{rs0 l:List Rp}(hR:zij P rs0)(h:evA P=some l):rs0=l:=by
 obtain⟨st,x,Bs,f,hP,⟨hB1,hB2,hB3⟩,hL,rfl⟩:=hR
 unfold evA at h
 simp only[zha,zp4,znd]at h
 split at h
 case isFalse=>cases h
 rename_i hc
 split at h
 case isFalse=>cases h
 rename_i ho
 simp only[Bool.and_eq_true]at hc
 obtain⟨⟨⟨⟨⟨⟨h1,h2⟩,h3⟩,h4⟩,h5⟩,h6⟩,h7⟩:=hc
 have eon:onB P=bitF (onX P):=onX_eq h1
 have elo:loB P=bitF (loX P):=loX_eq h2
 have ema:=maX_eq (P:=P) (by rw[eon,elo];exact h3)
 have ers0:=rsX_eq (P:=P) (by rw[eon];exact h4)
 have ers:rsB P=rowF ((List.range (P.gos.length+1)).map (rsX P (bitF (onX P)))):=by
  rw[ers0]
  funext r g
  unfold rowF
  rw[rsX_out,eon]
 have emany:zau P=manyG P (bitF (loX P)) (bitF (maX P (bitF (onX P)) (bitF (loX P)))):=by
  show manyG P (loB P) (maB P)=_
  rw[ema,eon,elo]
  rfl
 have ebel:zdb P=zi4 (bitF (onX P)) (rowF ((List.range (P.gos.length+1)).map (rsX P (bitF (onX P))))) P:=by rw[zx0,ers,eon]
 have ebs:Bs=belIt 6 (zi4 (bitF (onX P)) (rowF ((List.range (P.gos.length+1)).map (rsX P (bitF (onX P))))) P):=by
  rw[← ebel]
  exact bel_uniq (zo4 6 _ fun s j h S h1 _=>h1 s j h) (by rw[ebel];exact h5) (by rw[hB1];simp[zdb]) hB3
 obtain⟨eho,eht⟩:=ptX_eq hP (by rw[eon];exact h6)
 rw[eon]at eho eht
 have ef:=lk_eq hL (by rw[eon,ers,emany,eht,ebs];exact h7)
 have eo:out0 P (onB P) st=out0 P (bitF (onX P)) (ptX (bitF (onX P)) P).ps:=by
  rw[eon]
  exact out0_px eho P _
 have hout:=hP.out
 rw[eo]at hout
 have ex:x=ouIt (lkX (ptX (bitF (onX P)) P).ho) 6 (out0 P (bitF (onX P)) (ptX (bitF (onX P)) P).ps):=ou_fin eho ho hout
 rw[allG_eq,ef,ex,ers,emany,eho,eht,ebs,eon]
 exact Option.some.inj h
end
section
deriving instance DecidableEq for Rp
def inOkB (i:In):Bool:=decide (i.op<1000000)&&decide (i.fn<1000000)&&decide (-1000000<i.x)&&decide (i.x<1000000)&&decide (i.y.n<1000000)&&decide (i.var<1000000)&&decide (i.site<40)&&decide (i.call<1000000)&&decide (i.bin<1000000)&&i.args.all (fun a=>decide (a.n<1000000))&&decide (i.args.length<1000)
def wfIns (P:Pr)(k:Nat)(i:In):Bool :=
 inOkB i&&decide (i.fn<P.fs.length)&&(!(i.op==11||i.op==7)||(match P.fs[i.call]? with | some f=>decide (i.args.length=f.params) | none=>false)) &&
 (i.op==12||i.op==20||decide (k+1<P.code.length))&&(!(i.op==13||i.op==14||i.op==20)||decide (i.to<P.code.length))&&decide (i.args.length≤3) &&
 (!(i.op==9||i.op==10)||decide (i.var<3))&&(!(i.op==7)||decide (P.gos[i.site]? = some k))&&(!(i.op==5)||decide (0≤i.x))
def wfB (P:Pr):Bool :=
 decide (P.code.length≤300)&&decide (1≤P.code.length)&&decide (P.fs.length≤5)&&decide (P.news.length≤6)&&decide (P.gos.length≤5)&&decide (P.nv≤5)&&decide (P.nm≤3)&&decide (P.main<P.fs.length) &&
 (List.range P.code.length).all (fun k=>match P.code[k]? with | some i=>wfIns P k i | none=>true) &&
 P.fs.all (fun f=>decide (f.from_<P.code.length)&&decide (f.to≤P.code.length)) &&
 (List.range P.gos.length).all (fun s=>match P.gos[s]? with | some k=>(match P.code[k]? with | some i=>i.op==7&&i.site==s | none=>false) | none=>true)
structure WfP (P:Pr):Prop where
 p:WfPr P
 l:WfLk P
 r:WfRp P
 io:∀ (k:Nat) (i:In),P.code[k]? = some i→InOk i
theorem wfB_ok {P:Pr}(h:wfB P=true):WfP P:=by
 unfold wfB at h
 simp only[Bool.and_eq_true,decide_eq_true_eq,List.all_eq_true,List.mem_range]at h
 obtain⟨⟨⟨⟨⟨⟨⟨⟨⟨⟨h1,h2⟩,h3⟩,h4⟩,h5⟩,h6⟩,h7⟩,h8⟩,h9⟩,h10⟩,h11⟩:=h
 have hi:∀ (k:Nat) (i:In),P.code[k]? = some i→wfIns P k i=true:=fun k i hk=>by
  have:=h9 k (List.getElem?_eq_some_iff.1 hk).1
  rw[hk]at this
  exact this
 have hd:∀ (k:Nat) (i:In),P.code[k]? = some i→InOk i∧i.fn<P.fs.length∧(i.op=11∨i.op=7→∃ f:Fu,P.fs[i.call]? = some f∧i.args.length=f.params)∧(i.op≠12→i.op≠20→k+1<P.code.length)∧(i.op=13∨i.op=14∨i.op=20→i.to<P.code.length)∧i.args.length≤3∧(i.op=9∨i.op=10→i.var<3)∧(i.op=7→P.gos[i.site]? = some k)∧(i.op=5→0≤i.x):=fun k i hk=>by
  have h:=hi k i hk
  unfold wfIns inOkB at h
  simp only[Bool.and_eq_true,decide_eq_true_eq,List.all_eq_true,Bool.or_eq_true,Bool.not_eq_true',beq_iff_eq,Bool.or_eq_false_iff,beq_eq_false_iff_ne]at h
  obtain⟨⟨⟨⟨⟨⟨⟨⟨⟨⟨⟨⟨⟨⟨⟨⟨⟨⟨a1,a2⟩,a3⟩,a4⟩,a5⟩,a6⟩,a7⟩,a8⟩,a9⟩,a10⟩,a11⟩,b1⟩,b2⟩,b3⟩,b4⟩,b5⟩,b6⟩,b7⟩,b8⟩:=h
  refine⟨⟨a1,a2,⟨a3,a4⟩,a5,a6,a7,a8,a9,a10,a11⟩,b1,fun ho=>?_,fun x y=>?_,fun ho=>?_,b5,fun ho=>?_,fun ho=>?_,fun ho=>?_⟩
  ·rcases b2 with b2 | b2
   ·omega
   ·cases hf:P.fs[i.call]? with
    | none=>rw[hf]at b2;cases b2
    | some f=>rw[hf]at b2;exact⟨f,rfl,of_decide_eq_true b2⟩
  ·rcases b3 with b3 | b3
   ·omega
   ·exact b3
  ·rcases b4 with b4 | b4
   ·omega
   ·exact b4
  ·rcases b6 with b6 | b6
   ·omega
   ·exact b6
  ·rcases b7 with b7 | b7
   ·omega
   ·exact b7
  ·rcases b8 with b8 | b8
   ·omega
   ·exact b8
 have hg:∀ (s k:Nat),P.gos[s]? = some k→∃ i:In,P.code[k]? = some i∧i.op=7∧i.site=s:=fun s k hk=>by
  have:=h11 s (List.getElem?_eq_some_iff.1 hk).1
  rw[hk]at this
  simp only at this
  cases hi:P.code[k]? with
  | none=>rw[hi]at this;cases this
  | some i =>
   rw[hi]at this
   simp only[Bool.and_eq_true,beq_iff_eq]at this
   exact⟨i,rfl,this⟩
 exact⟨⟨h1,h2,h3,h4,h5,h6,h7,h8,fun k i hk=>(hd k i hk).2.1,fun k i hk=>(hd k i hk).2.2.1,fun k i hk=>(hd k i hk).2.2.2.1,fun k i hk=>(hd k i hk).2.2.2.2.1,fun k f hk=>h10 f (List.mem_of_getElem? hk),hg,fun k i hk=>(hd k i hk).2.2.2.2.2.1⟩,
  ⟨fun k i hk=>(hd k i hk).1,fun k i hk=>(hd k i hk).2.2.2.2.2.2.1,fun k i hk=>(hd k i hk).2.2.2.2.2.2.2.1⟩,⟨fun k i hk=>(hd k i hk).1,fun k i hk=>(hd k i hk).2.2.2.2.2.2.2.2,fun s k hk=>by
   obtain⟨i,hi,_⟩:=hg s k hk
   exact(List.getElem?_eq_some_iff.1 hi).1⟩,fun k i hk=>(hd k i hk).1⟩
def chkT (t:List UInt8)(want:List Rp):Bool:=match zbu (bytes t)with
 | .ok P=>wfB P&&decide (evA P=some want)
 | .error _=>false
theorem chkT_ok {t:List UInt8}{want:List Rp}(h:chkT t want=true):∃ P,zbu (bytes t)=.ok P∧WfP P∧∀ rs,zij P rs→rs=want:=by
 unfold chkT at h
 cases hl:zbu (bytes t)with
 | error f=>rw[hl]at h;cases h
 | ok P =>
  rw[hl]at h
  simp only[Bool.and_eq_true]at h
  exact⟨P,rfl,wfB_ok h.1,fun rs hr=>evA_eq hr (of_decide_eq_true h.2)⟩
def zcd:List UInt8:=[118,97,114,32,103,59,118,97,114,32,104,59,109,117,116,101,120,32,109,59,109,117,116,101,120,32,110,59]
def zb1:Nat→List UInt8
 | 0=>[]
 | n+1=>zb1 n++[120,61,49,59]
def ndA0:List UInt8:=[102,117,110,99,32,119,40,41,123,103,61,49,59,125,102,117,110,99,32,109,97,105,110,40,41,123]
def ndB0:List UInt8:=[103,111,32,119,40,41,59,103,61,50,59,125]
def ndA1:List UInt8:=[102,117,110,99,32,119,40,41,123,103,61,49,59,125,102,117,110,99,32,109,97,105,110,40,41,123]
def ndB1:List UInt8:=[103,111,32,119,40,41,59,103,111,32,119,40,41,59,125]
def ndA2:List UInt8:=[102,117,110,99,32,119,40,41,123,103,61,49,59,125,102,117,110,99,32,109,97,105,110,40,41,123]
def ndB2:List UInt8:=[119,104,105,108,101,32,49,123,103,111,32,119,40,41,59,125,125]
def ndA3:List UInt8:=[102,117,110,99,32,119,40,41,123,108,111,99,107,32,109,59,103,61,49,59,117,110,108,111,99,107,32,109,59,125,102,117,110,99,32,109,97,105,110,40,41,123]
def ndB3:List UInt8:=[103,111,32,119,40,41,59,108,111,99,107,32,110,59,120,61,103,59,117,110,108,111,99,107,32,110,59,125]
def ndA4:List UInt8:=[102,117,110,99,32,119,40,41,123,108,111,99,107,32,109,59,103,61,49,59,117,110,108,111,99,107,32,109,59,125,102,117,110,99,32,109,97,105,110,40,41,123]
def ndB4:List UInt8:=[103,111,32,119,40,41,59,108,111,99,107,32,109,59,117,110,108,111,99,107,32,109,59,120,61,103,59,125]
def ndA5:List UInt8:=[102,117,110,99,32,119,40,41,123,103,61,49,59,125,102,117,110,99,32,102,40,41,123,104,61,49,59,125,102,117,110,99,32,109,97,105,110,40,41,123]
def ndB5:List UInt8:=[116,61,103,111,32,119,40,41,59,117,61,103,111,32,102,40,41,59,106,111,105,110,32,117,59,120,61,103,59,120,61,104,59,125]
def ndA6:List UInt8:=[102,117,110,99,32,119,40,112,41,123,112,46,114,61,49,59,125,102,117,110,99,32,109,97,105,110,40,41,123]
def ndB6:List UInt8:=[111,61,110,101,119,59,103,111,32,119,40,111,41,59,120,61,111,46,114,59,125]
def ndA7:List UInt8:=[102,117,110,99,32,119,40,41,123,108,111,99,107,32,109,59,111,61,103,59,117,110,108,111,99,107,32,109,59,111,46,108,61,50,59,125,102,117,110,99,32,109,97,105,110,40,41,123]
def ndB7:List UInt8:=[111,61,110,101,119,59,108,111,99,107,32,109,59,103,61,111,59,117,110,108,111,99,107,32,109,59,103,111,32,119,40,41,59,120,61,111,46,108,59,125]
def ndA8:List UInt8:=[102,117,110,99,32,119,40,112,41,123,105,102,32,112,123,108,111,99,107,32,109,59,125,103,61,49,59,125,102,117,110,99,32,109,97,105,110,40,41,123]
def ndB8:List UInt8:=[103,111,32,119,40,49,41,59,108,111,99,107,32,109,59,103,61,50,59,117,110,108,111,99,107,32,109,59,125]
def ndA9:List UInt8:=[102,117,110,99,32,119,40,112,41,123,121,61,112,46,114,59,121,46,108,61,49,59,125,102,117,110,99,32,109,97,105,110,40,41,123]
def ndB9:List UInt8:=[111,61,110,101,119,59,120,61,110,101,119,59,111,46,114,61,120,59,103,111,32,119,40,111,41,59,120,46,108,61,50,59,125]
def ndA10:List UInt8:=[102,117,110,99,32,119,40,41,123,103,61,49,59,125,102,117,110,99,32,109,97,105,110,40,41,123]
def ndB10:List UInt8:=[116,61,103,111,32,119,40,41,59,121,61,104,59,105,102,32,121,123,116,61,103,111,32,119,40,41,59,125,106,111,105,110,32,116,59,120,61,103,59,125]
def ndA11:List UInt8:=[102,117,110,99,32,102,40,41,123,103,61,49,59,125,102,117,110,99,32,119,40,41,123,103,111,32,102,40,41,59,125,102,117,110,99,32,109,97,105,110,40,41,123]
def ndB11:List UInt8:=[116,61,103,111,32,119,40,41,59,106,111,105,110,32,116,59,103,61,50,59,125]
def zaz (k n:Nat):List UInt8:=match k with
 | 0=>zcd++ndA0++zb1 n++ndB0
 | 1=>zcd++ndA1++zb1 n++ndB1
 | 2=>zcd++ndA2++zb1 n++ndB2
 | 3=>zcd++ndA3++zb1 n++ndB3
 | 4=>zcd++ndA4++zb1 n++ndB4
 | 5=>zcd++ndA5++zb1 n++ndB5
 | 6=>zcd++ndA6++zb1 n++ndB6
 | 7=>zcd++ndA7++zb1 n++ndB7
 | 8=>zcd++ndA8++zb1 n++ndB8
 | 9=>zcd++ndA9++zb1 n++ndB9
 | 10=>zcd++ndA10++zb1 n++ndB10
 | _=>zcd++ndA11++zb1 n++ndB11
def zdd (k n:Nat):List Rp:=match k with
 | 0=>[⟨0,n+2,-1,0,1,0,[],[]⟩]
 | 1=>[⟨0,0,-1,0,1,2,[],[]⟩]
 | 2=>[⟨0,0,-1,0,1,1,[],[]⟩]
 | 3=>[⟨1,n+5,-1,0,1,0,[0],[1]⟩]
 | 4=>[⟨1,n+6,-1,0,1,0,[0],[]⟩]
 | 5=>[⟨0,n+5,-1,0,1,0,[],[]⟩]
 | 6=>[⟨0,n+3,0,1,1,0,[],[]⟩]
 | 7=>[⟨3,n+9,0,0,1,0,[],[]⟩]
 | 8=>[⟨2,n+5,-1,0,1,0,[],[0]⟩]
 | 9=>[⟨1,n+6,1,0,1,0,[],[]⟩]
 | 10=>[⟨0,0,-1,0,1,2,[],[]⟩,⟨0,n+6,-1,0,1,0,[],[]⟩]
 | _=>[⟨0,n+4,-1,0,1,0,[],[]⟩]
theorem nd_all:((List.range 12).all fun k=>(List.range 4).all fun n=>chkT (zaz k n) (zdd k n))=true:=by kernel_rfl
theorem nd_ok {k n:Nat}(hk:k<12)(hn:n<4):∃ P,zbu (bytes (zaz k n))=.ok P∧WfP P∧∀ rs,zij P rs→rs=zdd k n:=by
 have h:=List.all_eq_true.1 nd_all k (List.mem_range.2 hk)
 exact chkT_ok (List.all_eq_true.1 h n (List.mem_range.2 hn))
end
end Go.Proofs.YtkmcihhndgdhpaaGreat
