/- PtsS PtsH PtsI PtsJ: parts of the walk. -/
import Derived.Test.YtkmcihhndgdhpaaGreatWA8
set_option maxRecDepth 100000
set_option maxHeartbeats 4000000
set_option linter.unusedSimpArgs false
set_option linter.unusedVariables false
namespace Go.Proofs.YtkmcihhndgdhpaaGreat
section
open Go.RowKit Go.Maps Go.ChangeMaps
structure PCl (st0:PS)(H:Nd→Bool→Nat→Prop)(E:Nd→Nd→Prop):Prop where
 ho:∀ n k,(st0.ho n).testBit k=true→H n false k
 ht:∀ n k,(st0.ht n).testBit k=true→H n true k
 ed:∀ a b,st0.to a b=true→E a b
 get:∀ n u o,u ∈ st0.us n→u.put=false→H n false o→E ⟨102,o,u.f⟩ u.n
 put:∀ n u o,u ∈ st0.us n→u.put=true→H n false o→E u.n ⟨102,o,u.f⟩
 flow:∀ a b t k,E a b→H a t k→H b t k
def zei (st0:PS)(n:Nd)(t:Bool)(k:Nat):Prop:=∀ H E,PCl st0 H E→H n t k
def zfy (st0:PS)(a b:Nd):Prop:=∀ H E,PCl st0 H E→E a b
theorem zhh (st0:PS):PCl st0 (zei st0) (zfy st0) :=
 ⟨fun n k h _ _ c=>c.ho n k h,fun n k h _ _ c=>c.ht n k h,fun a b h _ _ c=>c.ed a b h,fun n u o h1 h2 h3 H E c=>c.get n u o h1 h2 (h3 H E c),fun n u o h1 h2 h3 H E c=>c.put n u o h1 h2 (h3 H E c),fun a b t k h1 h2 H E c=>c.flow a b t k (h1 H E c) (h2 H E c)⟩
structure PSnd (st0 st:PS):Prop where
 ho:∀ n k,(st.ho n).testBit k=true→zei st0 n false k
 ht:∀ n k,(st.ht n).testBit k=true→zei st0 n true k
 ed:∀ a b,st.to a b=true→zfy st0 a b
 us:st.us=st0.us
 ho0:∀ n k,(st0.ho n).testBit k=true→(st.ho n).testBit k=true
 ht0:∀ n k,(st0.ht n).testBit k=true→(st.ht n).testBit k=true
 ed0:∀ a b,st0.to a b=true→st.to a b=true
theorem PSnd.refl (st0:PS):PSnd st0 st0 :=
 ⟨(zhh st0).ho,(zhh st0).ht,(zhh st0).ed,rfl,fun _ _ h=>h,fun _ _ h=>h,fun _ _ h=>h⟩
theorem PSnd.grow {st0 st:PS}(h:PSnd st0 st){a b:Nd}(he:zfy st0 a b):PSnd st0 (zcj st b (st.ho a) (st.ht a)):=by
 have key:∀ (n:Nd) (k:Nat) (f:Nd→Nat) (t:Bool),(∀ n k,(f n).testBit k=true→zei st0 n t k)→((if n=b then f n|||f a else f n).testBit k=true)→zei st0 n t k:=by
  intro n k f t hf hk
  split at hk
  ·rename_i e
   subst e
   rw[Nat.testBit_or,Bool.or_eq_true]at hk
   rcases hk with hk | hk
   ·exact hf _ _ hk
   ·exact(zhh st0).flow _ _ _ _ he (hf _ _ hk)
  ·exact hf _ _ hk
 have keep:∀ (n:Nd) (k:Nat) (f:Nd→Nat),(f n).testBit k=true→(if n=b then f n|||f a else f n).testBit k=true:=by
  intro n k f hk
  split
  ·rw[Nat.testBit_or,hk,Bool.true_or]
  ·exact hk
 exact⟨fun n k hk=>key n k st.ho false h.ho hk,fun n k hk=>key n k st.ht true h.ht hk,h.ed,h.us,fun n k hk=>keep n k st.ho (h.ho0 n k hk),fun n k hk=>keep n k st.ht (h.ht0 n k hk),h.ed0⟩
theorem PSnd.edge {st0 st:PS}(h:PSnd st0 st){a b:Nd}(he:zfy st0 a b):PSnd st0 (zbd st a b):=by
 refine⟨h.ho,h.ht,fun x y hxy=>?_,h.us,h.ho0,h.ht0,fun x y hxy=>?_⟩
 ·simp only[zbd,Bool.or_eq_true,decide_eq_true_eq]at hxy
  rcases hxy with⟨rfl,rfl⟩ | hxy
  ·exact he
  ·exact h.ed _ _ hxy
 ·simp only[zbd,h.ed0 x y hxy,Bool.or_true]
def SpCl (st:PS):Prop:=∀ a b,st.to a b=true→zdn st b (st.ho a) (st.ht a)=false
def useA (o:Nat)(u:Use):Nd:=if u.put then u.n else⟨102,o,u.f⟩
def useB (o:Nat)(u:Use):Nd:=if u.put then⟨102,o,u.f⟩else u.n
def FdCl (st:PS):Prop:=∀ n u o,u ∈ st.us n→(st.ho n).testBit o=true→st.to (useA o u) (useB o u)=true
theorem PSnd.done {st0 st:PS}(h:PSnd st0 st)(h1:SpCl st)(h2:FdCl st):(∀ n k,(st.ho n).testBit k=true↔zei st0 n false k)∧(∀ n k,(st.ht n).testBit k=true↔zei st0 n true k):=by
 have hc:PCl st0 (fun n t k=>(if t then st.ht n else st.ho n).testBit k=true) (fun a b=>st.to a b=true):=by
  refine⟨h.ho0,h.ht0,h.ed0,fun n u o hu hp ho=>?_,fun n u o hu hp ho=>?_,fun a b t k he hk=>?_⟩
  ·have:=h2 n u o (by rw[h.us];exact hu) ho
   simpa [useA,useB,hp] using this
  ·have:=h2 n u o (by rw[h.us];exact hu) ho
   simpa [useA,useB,hp] using this
  ·have:=h1 a b he
   simp only[zdn,Bool.or_eq_false_iff,bne_eq_false_iff_eq]at this
   cases t
   ·have e:=this.1
    simp only[Bool.false_eq_true,if_false]at hk ⊢
    rw[← e,Nat.testBit_or,hk,Bool.or_true]
   ·have e:=this.2
    simp only[if_true]at hk ⊢
    rw[← e,Nat.testBit_or,hk,Bool.or_true]
 exact⟨fun n k=>⟨h.ho n k,fun hk=>hk _ _ hc⟩,fun n k=>⟨h.ht n k,fun hk=>hk _ _ hc⟩⟩
structure PtU (U:List Nd)(st:PS):Prop where
 ed:∀ a b,st.to a b=true→a ∈ U∧b ∈ U
 us:∀ n u,u ∈ st.us n→NdOk u.n∧u.f<1000000∧u.n ∈ U∧∀ o:Nat,o<48→(⟨102,o,u.f⟩:Nd) ∈ U
 ul:∀ n,(st.us n).length<1000
theorem PtU.grow {U:List Nd}{st:PS}(h:PtU U st)(n:Nd)(o t:Nat):PtU U (zcj st n o t):=⟨h.ed,h.us,h.ul⟩
theorem PtU.edge {U:List Nd}{st:PS}(h:PtU U st){a b:Nd}(ha:a ∈ U)(hb:b ∈ U):PtU U (zbd st a b) :=
 ⟨fun x y hxy=>by
  simp only[zbd,Bool.or_eq_true,decide_eq_true_eq]at hxy
  rcases hxy with⟨rfl,rfl⟩ | hxy
  ·exact⟨ha,hb⟩
  ·exact h.ed _ _ hxy,h.us,h.ul⟩
def zc6 (U:List Nd)(st:PS):Nat :=
 (U.map fun n=>2 ^ 48-st.ho n).sum+(U.map fun n=>2 ^ 48-st.ht n).sum+(U.map fun a=>(U.map fun b=>if st.to a b then 0 else 1).sum).sum
theorem zjw {α : Type}{f g:α → Nat}:∀ {l:List α},(∀ x ∈ l,g x≤f x)→(l.map g).sum≤(l.map f).sum
 | [],_=>Nat.le_refl _
 | x::l,h=>by
  have h1:=h x (by simp)
  have h2:=zjw (l:=l) (f:=f) (g:=g) fun y hy=>h y (by simp[hy])
  simp only[List.map_cons,List.sum_cons]
  omega
theorem zj4 {α : Type}{f g:α → Nat}:∀ {l:List α},(∀ x ∈ l,g x≤f x)→(∃ x ∈ l,g x<f x)→(l.map g).sum<(l.map f).sum
 | [],_,h=>by obtain⟨_,hx,_⟩:=h;simp at hx
 | x::l,h,⟨y,hy,hlt⟩=>by
  have h1:=h x (by simp)
  have h2:=zjw (l:=l) (f:=f) (g:=g) fun y hy=>h y (by simp[hy])
  simp only[List.map_cons,List.sum_cons]
  rcases List.mem_cons.1 hy with rfl | hy
  ·omega
  ·have:=zj4 (l:=l) (f:=f) (g:=g) (fun y hy=>h y (by simp[hy])) ⟨y,hy,hlt⟩
   omega
theorem zvs {U:List Nd}{st:PS}{n:Nd}{o t:Nat}(hn:n ∈ U)(hs:∀ x,st.ho x<2 ^ 48∧st.ht x<2 ^ 48)(ho:o<2 ^ 48)(ht:t<2 ^ 48)(h:zdn st n o t=true):zc6 U (zcj st n o t)<zc6 U st:=by
 have le:∀ (f:Nd→Nat) (z:Nat) (x:Nd),2 ^ 48-(if x=n then f x|||z else f x)≤2 ^ 48-f x:=by
  intro f z x
  split
  ·have:=Nat.left_le_or (n:=f x) (m:=z);omega
  ·exact Nat.le_refl _
 have lt:∀ (f:Nd→Nat) (z:Nat),f n<2 ^ 48→z<2 ^ 48→(f n|||z)≠f n→2 ^ 48-(if n=n then f n|||z else f n)<2 ^ 48-f n:=by
  intro f z h1 h2 h3
  rw[if_pos rfl]
  have:=Nat.left_le_or (n:=f n) (m:=z)
  have:=Nat.or_lt_two_pow h1 h2
  omega
 have a1:=zjw (l:=U) (f:=fun x=>2 ^ 48-st.ho x) (g:=fun x=>2 ^ 48-(zcj st n o t).ho x) fun x _=>le st.ho o x
 have a2:=zjw (l:=U) (f:=fun x=>2 ^ 48-st.ht x) (g:=fun x=>2 ^ 48-(zcj st n o t).ht x) fun x _=>le st.ht t x
 simp only[zdn,Bool.or_eq_true,bne_iff_ne,ne_eq]at h
 unfold zc6
 have e:(zcj st n o t).to=st.to:=rfl
 rw[e]
 rcases h with h | h
 ·have:=zj4 (l:=U) (f:=fun x=>2 ^ 48-st.ho x) (g:=fun x=>2 ^ 48-(zcj st n o t).ho x) (fun x _=>le st.ho o x) ⟨n,hn,lt st.ho o (hs n).1 ho h⟩
  omega
 ·have:=zj4 (l:=U) (f:=fun x=>2 ^ 48-st.ht x) (g:=fun x=>2 ^ 48-(zcj st n o t).ht x) (fun x _=>le st.ht t x) ⟨n,hn,lt st.ht t (hs n).2 ht h⟩
  omega
theorem zut {U:List Nd}{st:PS}{a b:Nd}(ha:a ∈ U)(hb:b ∈ U)(h:st.to a b=false):zc6 U (zbd st a b)<zc6 U st:=by
 have le:∀ x y:Nd,(if(zbd st a b).to x y then 0 else 1)≤(if st.to x y then 0 else 1):=by
  intro x y
  by_cases hxy:st.to x y=true
  ·rw[if_pos hxy,if_pos (show(zbd st a b).to x y=true by simp[zbd,hxy])]
   exact Nat.le_refl _
  ·rw[if_neg hxy]
   split <;> omega
 have:=zj4 (l:=U) (f:=fun x=>(U.map fun y=>if st.to x y then 0 else 1).sum) (g:=fun x=>(U.map fun y=>if(zbd st a b).to x y then 0 else 1).sum) (fun x _=>zjw fun y _=>le x y)
  ⟨a,ha,zj4 (fun y _=>le a y) ⟨b,hb,by simp[zbd,h]⟩⟩
 unfold zc6
 have e1:(zbd st a b).ho=st.ho:=rfl
 have e2:(zbd st a b).ht=st.ht:=rfl
 rw[e1,e2]
 omega
theorem zaf.uniq {w:World}{b:Nat}{κ ν : Type}{enc:κ → Value}{ok ok':κ → Prop}{encv:ν → Value}{m m':List (κ × ν)}(h:zaf w b enc ok encv m)(h':zaf w b enc ok' encv m')(hk:∀ x y,enc x=enc y→x=y)(hv:∀ x y,encv x=encv y→x=y):m=m':=by
 obtain⟨es,c,h1,h2,h3⟩:=h
 obtain⟨es',c',h1',h2',h3'⟩:=h'
 clear h3 h3'
 rw[h1]at h1'
 injection h1' with h1'
 injection h1' with e1 e2
 subst e1
 rw[h2]at h2'
 clear h1 h2
 induction m generalizing m' with
 | nil=>cases m' with
  | nil=>rfl
  | cons p r=>simp at h2'
 | cons p r ih=>cases m' with
  | nil=>simp at h2'
  | cons p' r' =>
   simp only[List.map_cons,List.cons.injEq,Prod.mk.injEq]at h2'
   obtain⟨⟨a,b⟩,c⟩:=h2'
   have:=ih c
   rw[this,show p=p' from Prod.ext (hk _ _ a) (hv _ _ b)]
end
section
open Go.RowKit Go.Maps Go.ChangeMaps
set_option linter.unusedSimpArgs false
structure NmFr (w w':World):Prop where
 size:w.heap.size≤w'.heap.size
 same:∀ (k:Nat) (o:Obj),w.heap[k]? = some o→(∀ es c,o≠.map es c)→w'.heap[k]? = some o
theorem NmFr.refl (w:World):NmFr w w:=⟨Nat.le_refl _,fun _ _ h _=>h⟩
theorem NmFr.trans {w w1 w2:World}(h:NmFr w w1)(h':NmFr w1 w2):NmFr w w2:=⟨Nat.le_trans h.size h'.size,fun k o a b=>h'.same k o (h.same k o a b) b⟩
theorem NmFr.below {w w':World}(h:Below w.heap.size w w'):NmFr w w':=⟨h.size,fun k _ ho _=>(h.block k (lt_of_block ho)).trans ho⟩
theorem NmFr.grown {w w':World}{b:Nat}(h:w.grownBy w' (some b))(hm:∃ es c,w.heap[b]? = some (.map es c)):NmFr w w' :=
 ⟨h.size,fun k o ho hc=>(h.block k (lt_of_block ho) (fun e=>by
  injection e with e
  subst e
  obtain⟨es,c,hm⟩:=hm
  rw[ho]at hm
  injection hm with hm
  exact hc _ _ hm)).trans ho⟩
theorem Blk.nm {w w':World}{g:Nat}{t:TypeId}{cs:Array Value}(h:Blk w g t cs)(hn:NmFr w w'):Blk w' g t cs:=hn.same g _ h (fun _ _ e=>by cases e)
theorem PtAt.iter {B fb:Nat}{wf:World}{V:PtV}{st:PS}{out:Nat}{w w':World}{r:Nat}(h:PtAt B fb wf V st out w)(hg:w.grownBy w' (some r))(hB:B≤r)(hr:∃ a b c d,w.heap[r]? = some (.mapIter a b c d)):PtAt B fb wf V st out w':=by
 obtain⟨h1,h2,mh,mt,mu,h3⟩:=h
 refine⟨h1.grown hg h2 (fun k e=>by cases e;exact hB),Nat.le_trans h2 hg.size,mh,mt,mu,h3.kp ⟨hg.size,fun k o ho hp=>(hg.block k (lt_of_block ho) (fun e=>by
  injection e with e
  subst e
  obtain⟨a,b,c,d,hr⟩:=hr
  rw[ho]at hr
  injection hr with hr
  subst hr
  cases hp)).trans ho⟩⟩
theorem za6.obj {κ ν : Type}{enc:κ → Value}{ok:κ → Prop}{encv:ν → Value}{w:World}{b r:Nat}{m left:List (κ × ν)}(h:za6 w b r enc ok encv m left):∃ a b c d,w.heap[r]? = some (.mapIter a b c d):=by
 obtain⟨es,clock,seen,_,h2,_⟩:=h
 exact⟨_,_,_,_,h2⟩
structure zct (U:List Nd)(st0:PS)(fb:Nat)(wf wR:World)(V:PtV)(out:Nat)(st:PS)(W:World):Prop where
 p:PtAt wf.heap.size fb wf V st out W
 u:PtU U st
 s:PSnd st0 st
 n:NmFr wR W
theorem zct.below {U:List Nd}{st0:PS}{fb:Nat}{wf wR:World}{V:PtV}{out:Nat}{st:PS}{W W':World}(h:zct U st0 fb wf wR V out st W)(hb:Below W.heap.size W W'):zct U st0 fb wf wR V out st W' :=
 ⟨h.p.below hb,h.u,h.s,h.n.trans (NmFr.below hb)⟩
theorem zct.iter {U:List Nd}{st0:PS}{fb:Nat}{wf wR:World}{V:PtV}{out:Nat}{st:PS}{W W':World}{r:Nat}(h:zct U st0 fb wf wR V out st W)(hg:W.grownBy W' (some r))(hB:wf.heap.size≤r)(hr:∃ a b c d,W.heap[r]? = some (.mapIter a b c d))(hrR:wR.heap.size≤r):zct U st0 fb wf wR V out st W' :=
 ⟨h.p.iter hg hB hr,h.u,h.s,⟨Nat.le_trans h.n.size hg.size,fun k o ho hc=>(hg.block k (lt_of_block (h.n.same k o ho hc)) (fun e=>by
  injection e with e
  have:=lt_of_block ho
  omega)).trans (h.n.same k o ho hc)⟩⟩
structure SpO (U:List Nd)(st0:PS)(fb:Nat)(wf wR:World)(V:PtV)(out:Nat)(st:PS)(mt:List (Nd×Nat))(r:Nat)(gk:Nat)(cv:Value)(W:World):Prop where
 ex:∃ (c:Bool) (st':PS) (left:List (Nd×Nat)),cv=.bool c∧gk=left.length∧za6 W V.tb r ndV NdOk (fun b=>.map (some b)) mt left∧zct U st0 fb wf wR V out st' W∧(c=true→zc6 U st'<zc6 U st) ∧
  (c=false→st'=st∧∀ a b',(a,b') ∈ mt→(a,b') ∈ left∨∀ y,st.to a y=true→zdn st y (st.ho a) (st.ht a)=false)∧st'.to=st.to
theorem PtM.look {w:World}{B fb:Nat}{V:PtV}{st:PS}{out:Nat}{mh:List (Nd×(Nat×Nat))}{mt:List (Nd×Nat)}{mu:List (Nd×Value)}(h:PtM w B fb V st out mh mt mu){n:Nd}(hn:NdOk n) :
  (Instr.lookup 378 (.map (some V.hb)) (.agg #[.int .u8 n.k,.int .i64 n.a,.int .i64 n.b]) false).run Tryz.prog w=.ok (.agg #[zaa (st.ho n),zaa (st.ht n)]) w:=by
 have hl:=h.h.lookup (t:=378) (e:=424) ze5 Tryz.underlying378 (z:=.agg #[zaa 0,zaa 0]) (Tryz.zeroValue424 w) hn false
 have hv:=h.hv n
 rw[hl]
 cases hg:mget mh n with
 | none=>rw[hg]at hv;simp only[Option.getD_none,Prod.mk.injEq]at hv;rw[← hv.1,← hv.2];rfl
 | some p=>rw[hg]at hv;simp only[Option.getD_some]at hv;rw[hv];rfl
structure SpI (U:List Nd)(st0:PS)(fb:Nat)(wf wR:World)(V:PtV)(out:Nat)(st:PS)(mt:List (Nd×Nat))(r:Nat)(lo:List (Nd×Nat))(a:Nd)(b' r2 ab:Nat)(mm:List (Nd×Nat))(gk:Nat)(cv:Value)(W:World):Prop where
 ex:∃ (c:Bool) (st':PS) (li:List (Nd×Nat)),cv=.bool c∧gk=li.length∧za6 W b' r2 ndV NdOk zeg mm li∧za6 W V.tb r ndV NdOk (fun b=>.map (some b)) mt lo∧zct U st0 fb wf wR V out st' W∧(c=true→zc6 U st'<zc6 U st) ∧
  (c=false→st'=st∧(∀ a1 b1,(a1,b1) ∈ mt→(a1,b1) ∈ lo∨a1=a∨∀ y,st.to a1 y=true→zdn st y (st.ho a1) (st.ht a1)=false)∧∀ y v,(y,v) ∈ mm→(y,v) ∈ li∨zdn st y (st.ho a) (st.ht a)=false)∧Blk W ab 419 #[.int .u8 a.k,.int .i64 a.a,.int .i64 a.b]∧st'.to=st.to
theorem zxl (U:List Nd)(st0:PS)(fb:Nat)(wf wR:World)(V:PtV)(out:Nat)(st:PS)(w:World)(h:zct U st0 fb wf wR V out st w) :
  Calls Tryz.prog 226 #[.pointer (some ⟨V.sb,0,none⟩)] w (zhm (zct U st0 fb wf wR V out) (zc6 U) SpCl st):=by
 obtain⟨mh,mt,mu,hm⟩:=h.p.m
 have hsc:=hm.s.cell
 unfold zeh at hsc
 have hsl:=hm.s.lt
 have HM:=zH hm
 have H:=zH h
 clear hm h
 go_enter Tryz.func226,Tryz.ntmps226
 go_wp2_with (at_range;refine zg8 ?_)
 refine zg2 ?_
 refine zmn rfl _ _ rfl Tryz.underlying379 rfl HM.out.t ?_
 intro w1 hr1 hb1 hz1
 have ST:=zH (show SpO U st0 fb wf wR V out st mt w.heap.size mt.length (.bool false) w1 from⟨false,st,mt,rfl,rfl,hr1,H.out.below hb1,fun h=>(by cases h),fun _=>⟨rfl,fun a b' hb'=>.inl hb'⟩,rfl⟩)
 clear hr1 hb1 hz1 hsc hsl
 go_frame
 go_wp2_with fail
 go_loopg [3] mt.length (fun gk v3 wr=>SpO U st0 fb wf wR V out st mt w.heap.size gk v3 wr)
 case atStart=>exact ST.out
 case round =>
  obtain⟨c,st',left,rfl,hg,hR,hI,hc1,hc2,hto⟩:=hrel.ex
  have HG:=zH hg
  have HR:=zH hR
  have HI:=zH hI
  have HC1:=zH hc1
  have HC2:=zH hc2
  clear hg hR hI hc1 hc2 hrel
  go_wp2_with (at_next;refine zg8 ?_)
  refine zg2 ?_
  refine zny rfl _ rfl rfl HR.out ?_ ?_
  ·intro hl
   subst hl
   have FIN:=zH (show zhm (zct U st0 fb wf wR V out) (zc6 U) SpCl st (.returned (.bool c)) wr from⟨st',c,rfl,HI.out,HC1.out,fun hc=>⟨(HC2.out hc).1,fun a b hab=>by
    cases hga:mget mt a with
    | none=>have:=HM.out.t0 a hga b;rw[hab]at this;cases this
    | some b'=>exact((HC2.out hc).2 a b' (zfi hga)).resolve_left (by simp) b hab⟩⟩)
   clear HC1 HC2 HI
   go_wp2_with fail
   go_ret
   exact FIN.out
  ·intro p l1 l2 w2 hl hr2 hg2 hz2 hen
   obtain⟨a,b'⟩:=p
   simp only at hen
   go_wp2_with (at_range;refine zg8 ?_)
   refine zg2 ?_
   have hb3:Below w2.heap.size w2 (w2.alloc (.cells #[.int .u8 a.k,.int .i64 a.a,.int .i64 a.b] 419)):=(Below.refl _ _).alloc (Nat.le_refl _) _
   have hn3:Blk (w2.alloc (.cells #[.int .u8 a.k,.int .i64 a.a,.int .i64 a.b] 419)) wr.heap.size 419 #[.int .u8 a.k,.int .i64 a.a,.int .i64 a.b]:=Blk.newAt hz2.symm
   generalize hW:w2.alloc (.cells #[.int .u8 a.k,.int .i64 a.a,.int .i64 a.b] 419)=w3 at hb3 hn3 ⊢
   clear hW hen
   obtain⟨ab,hab⟩:∃ ab,ab=wr.heap.size:=⟨_,rfl⟩
   rw[← hab]at hn3 ⊢
   have hI2:=(HI.out.iter hg2 H.out.p.bs HR.out.obj H.out.n.size).below hb3
   have hR3:za6 w3 V.tb w.heap.size ndV NdOk (fun b=>.map (some b)) mt (l1++l2):=hr2.of_blocks (hb3.block _ hr2.lt.1) (hb3.block _ hr2.lt.2)
   have hmem:(a,b') ∈ mt:=HR.out.sub _ (by rw[hl];simp)
   obtain⟨mh3,mt3,mu3,hm3⟩:=hI2.p.m
   have hmt:mt3=mt:=hm3.t.uniq hR3.map (fun x y e=>ze5.inj x y e) (fun x y e=>by injection e with e;injection e)
   subst hmt
   obtain⟨⟨mm,hmm,hm1,hmh⟩,hbB,hb1,hb2,hb4⟩:=hm3.ti a b' hmem
   rw[hto]at hmh
   have HMH:=zH hmh
   have HAO:=zH (show NdOk a from by obtain⟨_,_,_,_,_,h,_⟩:=hR3.map;exact h _ hmem)
   have HBN:=zH (show b'≠V.hb∧V.tb≠V.hb from⟨hb1,hm3.ne.1.symm⟩)
   refine zmn rfl _ _ rfl Tryz.underlying429 rfl hmm ?_
   intro w4 hr4 hb4' hz4
   have ST2:=zH (show SpI U st0 fb wf wR V out st mt3 w.heap.size (l1++l2) a b' w3.heap.size ab mm mm.length (.bool c) w4 from
    ⟨c,st',mm,rfl,rfl,hr4,hR3.of_blocks (hb4'.block _ hR3.lt.1) (hb4'.block _ hR3.lt.2),hI2.below hb4',HC1.out,fun hc=>⟨(HC2.out hc).1,fun a1 b1 h1=>by
     rcases(HC2.out hc).2 a1 b1 h1 with h2 | h2
     ·rw[hl]at h2
      rcases List.mem_append.1 h2 with h2 | h2
      ·exact .inl (List.mem_append.2 (.inl h2))
      ·rcases List.mem_cons.1 h2 with h2 | h2
       ·injection h2 with h2 _;exact .inr (.inl h2)
       ·exact .inl (List.mem_append.2 (.inr h2))
     ·exact .inr (.inr h2),fun y v hy=>.inl hy⟩,hn3.below hb4' hn3.lt,hto⟩)
   have HLL:=zH (show(l1++l2).length<left.length by rw[hl];simp)
   have hz34:=zH (show w.heap.size<w3.heap.size∧ab<w3.heap.size∧V.tb<w3.heap.size∧V.hb<w3.heap.size from⟨Nat.lt_of_lt_of_le hr2.lt.2 hb3.size,hn3.lt,hm3.t.lt,hm3.h.lt⟩)
   have HZ:=zH (show wf.heap.size≤w3.heap.size∧wR.heap.size≤w3.heap.size from⟨hI2.p.bs,hI2.n.size⟩)
   clear hab hb3 hn3 hI2 hR3 hmem hm3 hmm hm1 hmh hbB hb1 hb2 hb4 hr4 hb4' hz4 hr2 hg2 hz2 HR HI HC1 HC2 hto hl
   go_frame
   go_wp2_with fail
   go_loopg [3] mm.length (fun gk v3 wi=>SpI U st0 fb wf wR V out st mt3 w.heap.size (l1++l2) a b' w3.heap.size ab mm gk v3 wi)
   case atStart=>exact ST2.out
   case round =>
    obtain⟨c,st',li,rfl,hg,hR2,hR,hI,hc1,hc2,hbk,hto⟩:=hrel.ex
    have HG2:=zH hg
    have HR2:=zH hR2
    have HR:=zH hR
    have HI:=zH hI
    have HC1:=zH hc1
    have HC2:=zH hc2
    have HBK:=zH hbk
    have HTO:=zH hto
    clear hg hR2 hR hI hc1 hc2 hbk hto hrel
    go_wp2_with (at_next;refine zg8 ?_)
    refine zg2 ?_
    refine zny rfl _ rfl rfl HR2.out ?_ ?_
    ·intro hli
     subst hli
     have REL:=zH (show SpO U st0 fb wf wR V out st mt3 w.heap.size (l1++l2).length (.bool c) wr from⟨c,st',l1++l2,rfl,rfl,HR.out,HI.out,HC1.out,fun hc=>⟨(HC2.out hc).1,fun a1 b1 h1=>by
      rcases(HC2.out hc).2.1 a1 b1 h1 with h2 | h2 | h2
      ·exact .inl h2
      ·subst h2
       refine .inr fun y hy=>?_
       have h3:=HMH.out y
       rw[hy]at h3
       obtain⟨v,hv⟩:=Option.isSome_iff_exists.1 h3
       exact((HC2.out hc).2.2 y v (zfi hv)).resolve_left (by simp)
      ·exact .inr h2⟩,HTO.out⟩)
     clear HC1 HC2 HI
     go_wp2_with fail
     go_roundg (l1++l2).length
     case measure=>have h1:=HG.out;have h2:=HLL.out;omega
     case rel=>exact REL.out
    ·intro p k1 k2 w5 hli hr5 hg5 hz5 hen
     obtain⟨y,v⟩:=p
     simp only at hen
     have hym:(y,v) ∈ mm:=HR2.out.sub _ (by rw[hli];simp)
     have hnd:(mm.map Prod.fst).Nodup:=by obtain⟨_,_,_,_,h,_⟩:=HR2.out.map;exact h
     have hyo:NdOk y:=by obtain⟨_,_,_,_,_,h,_⟩:=HR2.out.map;exact h _ hym
     have hty:st'.to a y=true:=by
      rw[HTO.out,← HMH.out y,zhl hnd hym];rfl
     have hI5:=HI.out.iter hg5 (Nat.le_trans HZ.out.1 (Nat.le_refl _)) HR2.out.obj HZ.out.2
     have hR5:za6 w5 V.tb w.heap.size ndV NdOk (fun b=>.map (some b)) mt3 (l1++l2):=HR.out.of_blocks (hg5.block _ HR.out.lt.1 (fun e=>by injection e with e;have:=hz34.out.2.2.1;omega)) (hg5.block _ HR.out.lt.2 (fun e=>by injection e with e;have:=hz34.out.1;omega))
     have hK5:=HBK.out.grown hg5 (fun e=>by injection e with e;have:=hz34.out.2.1;omega)
     have HKL:=zH (show(k1++k2).length<li.length by rw[hli];simp)
     have HCL:=zH (show c=false→∀ y1 v1,(y1,v1) ∈ mm→(y1,v1) ∈ k1++k2∨y1=y∨zdn st y1 (st.ho a) (st.ht a)=false from fun hc y1 v1 h1=>by
      rcases(HC2.out hc).2.2 y1 v1 h1 with h2 | h2
      ·rw[hli]at h2
       rcases List.mem_append.1 h2 with h2 | h2
       ·exact .inl (List.mem_append.2 (.inl h2))
       ·rcases List.mem_cons.1 h2 with h2 | h2
        ·injection h2 with h2 _;exact .inr (.inl h2)
        ·exact .inl (List.mem_append.2 (.inr h2))
      ·exact .inr (.inr h2))
     have hb6:Below w5.heap.size w5 (w5.alloc (.cells #[.int .u8 y.k,.int .i64 y.a,.int .i64 y.b] 419)):=(Below.refl _ _).alloc (Nat.le_refl _) _
     have hn6:Blk (w5.alloc (.cells #[.int .u8 y.k,.int .i64 y.a,.int .i64 y.b] 419)) w5.heap.size 419 #[.int .u8 y.k,.int .i64 y.a,.int .i64 y.b]:=Blk.newAt rfl
     have HR5:=zH hR5
     have HI5:=zH hI5
     have HYO:=zH hyo
     have HTY:=zH hty
     have HNM5:=zH (show ∀ W',Below w5.heap.size w5 W'→za6 W' b' w3.heap.size ndV NdOk zeg mm (k1++k2)from fun W' hb=>hr5.of_blocks (hb.block _ hr5.lt.1) (hb.block _ hr5.lt.2))
     clear hR5 hI5 hyo hty hym hnd hli HR HI HR2 hr5 hg5 hz5
     go_wp2_with fail
     generalize hW:w5.alloc (.cells #[.int .u8 y.k,.int .i64 y.a,.int .i64 y.b] 419)=w6 at hb6 hn6 ⊢
     obtain⟨yb,hyb⟩:∃ yb,yb=w5.heap.size:=⟨_,rfl⟩
     rw[← hyb]at hn6 ⊢
     clear hW hen hyb
     have HI6:=zH (HI5.out.below hb6)
     have HK6:=zH (hK5.below hb6 hK5.lt)
     have HR6:=zH (HR5.out.of_blocks (hb6.block _ HR5.out.lt.1) (hb6.block _ HR5.out.lt.2))
     have HN6:=zH (HNM5.out _ hb6)
     obtain⟨mh6,mt6,mu6,hm6⟩:=HI6.out.p.m
     have HL:=zH (show ∀ W',PtKp w6 W'→(∀ j,W'.cell? ⟨V.sb,j,none⟩=#[.pointer (some ⟨fb,0,none⟩),.map (some V.hb),.map (some V.tb),.map (some V.ub),zaa out][j]?)∧(Instr.lookup 378 (.map (some V.hb)) (.agg #[.int .u8 a.k,.int .i64 a.a,.int .i64 a.b]) false).run Tryz.prog W'=.ok (.agg #[zaa (st'.ho a),zaa (st'.ht a)]) W' from fun W' hk=>⟨(hm6.kp hk).s.cell,(hm6.kp hk).look HAO.out⟩)
     have HSM:=zH hm6.sm
     clear hm6 HR5 HI5 HNM5 hK5 hb6
     refine zah 8 (fun(W':World)=>((∀ j,W'.cell? ⟨V.sb,j,none⟩=#[.pointer (some ⟨fb,0,none⟩),.map (some V.hb),.map (some V.tb),.map (some V.ub),zaa out][j]?)∧(Instr.lookup 378 (.map (some V.hb)) (.agg #[.int .u8 a.k,.int .i64 a.a,.int .i64 a.b]) false).run Tryz.prog W'=.ok (.agg #[zaa (st'.ho a),zaa (st'.ht a)]) W')∧(∀ j,W'.cell? ⟨ab,j,none⟩=#[.int .u8 a.k,.int .i64 a.a,.int .i64 a.b][j]?)∧(∀ j,W'.cell? ⟨yb,j,none⟩=#[.int .u8 y.k,.int .i64 y.a,.int .i64 y.b][j]?)) (by kernel_rfl) rfl rfl (by kernel_rfl) ?_
     simp only[List.take_succ_cons,List.take_zero]
     have hHeld:=And.intro (HL.out w6.drew (PtKp.drew _)) (And.intro HK6.out.drew.cell hn6.drew.cell)
     iterate 8(refine tk 0 rfl (by kernel_rfl) (fun _ _ _ h=>h) hHeld (fun w hSw=>by go_simp;try with_reducible rfl) (by simp only[pA,pB,pC,pD,pE,pF,pG,pH];exact rfl) ?_)
     refine lst (by kernel_rfl) rfl fun K hK=>?_
     go_simp
     refine(zob wf.heap.size fb wf V st' out y (st'.ho a) (st'.ht a) w6.drew (HI6.out.p.below (Below.refl _ _).drew) HYO.out (HSM.out a).1 (HSM.out a).2).mono ?_
     rintro e w7 ⟨rfl,hp7,hg7⟩
     refine hK _ _ ?_
     clear hK K hHeld HL
     have hdd:Below w6.heap.size w6 w6.drew:=(Below.refl _ _).drew
     have hkp:∀ {k:Nat},k<w6.heap.size→k≠V.hb→w7.heap[k]? = w6.heap[k]? := fun h1 h2=>(hg7.block _ h1 (fun e=>h2 (by injection e))).trans (hdd.block _ h1)
     have hobj:∃ es c,w6.drew.heap[V.hb]? = some (.map es c):=by obtain⟨_,_,_,h⟩:=HI6.out.p.m;exact h.h.obj
     have hN7:=HN6.out.of_blocks (hkp HN6.out.lt.1 HBN.out.1) (hkp HN6.out.lt.2 (fun e=>by have:=hz34.out.2.2.2;omega))
     have hR7:=HR6.out.of_blocks (hkp HR6.out.lt.1 HBN.out.2) (hkp HR6.out.lt.2 (fun e=>by have:=HM.out.h.lt;omega))
     have hK7:Blk w7 ab 419 #[.int .u8 a.k,.int .i64 a.a,.int .i64 a.b]:=HK6.out.nm ((NmFr.below hdd).trans (NmFr.grown hg7 hobj))
     have hI7:zct U st0 fb wf wR V out (zcj st' y (st'.ho a) (st'.ht a)) w7:=⟨hp7,HI6.out.u.grow _ _ _,HI6.out.s.grow (HI6.out.s.ed _ _ HTY.out),HI6.out.n.trans ((NmFr.below hdd).trans (NmFr.grown hg7 hobj))⟩
     cases hgb:zdn st' y (st'.ho a) (st'.ht a)
     ·rw[zvp hgb]at hI7
      have REL:=zH (show SpI U st0 fb wf wR V out st mt3 w.heap.size (l1++l2) a b' w3.heap.size ab mm (k1++k2).length (.bool c) w7 from
       ⟨c,st',k1++k2,rfl,rfl,hN7,hR7,hI7,HC1.out,fun hc=>⟨(HC2.out hc).1,(HC2.out hc).2.1,fun y1 v1 h1=>by
        rcases HCL.out hc y1 v1 h1 with h2 | h2 | h2
        ·exact .inl h2
        ·subst h2
         rw[(HC2.out hc).1]at hgb
         exact .inr hgb
        ·exact .inr h2⟩,hK7,HTO.out⟩)
      clear hdd hkp hobj hN7 hR7 hK7 hI7 hp7 hg7 hgb hn6
      go_wp2_with fail
      go_roundg (k1++k2).length
      case measure=>have h1:=HG2.out;have h2:=HKL.out;omega
      case rel=>exact REL.out
     ·have hlt:=zvs (U:=U) (HI6.out.u.ed _ _ HTY.out).2 HSM.out (HSM.out a).1 (HSM.out a).2 hgb
      have REL:=zH (show SpI U st0 fb wf wR V out st mt3 w.heap.size (l1++l2) a b' w3.heap.size ab mm (k1++k2).length (.bool true) w7 from
       ⟨true,_,k1++k2,rfl,rfl,hN7,hR7,hI7,fun _=>by
        cases hc:c
        ·rw[(HC2.out hc).1]at hlt ⊢;exact hlt
        ·exact Nat.lt_trans hlt (HC1.out hc),fun h=>(by cases h),hK7,HTO.out⟩)
      clear hdd hkp hobj hN7 hR7 hK7 hI7 hp7 hg7 hgb hn6 hlt
      go_wp2_with fail
      go_roundg (k1++k2).length
      case measure=>have h1:=HG2.out;have h2:=HKL.out;omega
      case rel=>exact REL.out
end
section
open Go.RowKit Go.Maps Go.ChangeMaps Go.Shelf
attribute [local go_sem] Oper.semAt_some
set_option linter.unusedSimpArgs false
theorem za6.recs {κ ν : Type}{enc:κ → Value}{ok:κ → Prop}{encv:ν → Value}{w w':World}{b r N:Nat}{m left:List (κ × ν)}(h:za6 w b r enc ok encv m left)(hr:Recs N w w'):za6 w' b r enc ok encv m left:=by
 obtain⟨es,clock,seen,h1,h2,h3⟩:=h
 exact⟨es,clock,seen,hr.same _ _ h1 rfl,hr.same _ _ h2 rfl,h3⟩
theorem PtAt.recs {B fb N:Nat}{wf:World}{V:PtV}{st:PS}{out:Nat}{w w':World}(h:PtAt B fb wf V st out w)(hr:Recs N w w')(hN:B≤N):PtAt B fb wf V st out w':=by
 obtain⟨h1,h2,mh,mt,mu,h3⟩:=h
 exact⟨h1.trans (hr.below.mono hN),Nat.le_trans h2 hr.size,mh,mt,mu,h3.kp (PtKp.recs hr)⟩
theorem NmFr.recs {w w1 w2:World}{N:Nat}(h:NmFr w w1)(hr:Recs N w1 w2)(hN:w.heap.size≤N):NmFr w w2 :=
 ⟨Nat.le_trans h.size hr.size,fun k o ho hc=>(hr.low k (Nat.lt_of_lt_of_le (lt_of_block ho) hN)).trans (h.same k o ho hc)⟩
theorem NmFr.ed {V:PtV}{w w':World}(h:EdFr V w w'):NmFr w w':=⟨h.size,fun k o ho hc=>h.same k o ho (.inl hc)⟩
theorem zct.recs {U:List Nd}{st0:PS}{fb N:Nat}{wf wR:World}{V:PtV}{out:Nat}{st:PS}{W W':World}(h:zct U st0 fb wf wR V out st W)(hr:Recs N W W')(hN:wf.heap.size≤N)(hR:wR.heap.size≤N):zct U st0 fb wf wR V out st W' :=
 ⟨h.p.recs hr hN,h.u,h.s,h.n.recs hr hR⟩
theorem za6.ed {κ : Type}{V:PtV}{enc:κ → Value}{ok:κ → Prop}{encv:Value→Value}{w w':World}{r:Nat}{m left:List (κ × Value)}(h:za6 w V.ub r enc ok encv m left)(hf:EdFr V w w'):za6 w' V.ub r enc ok encv m left:=by
 obtain⟨es,clock,seen,h1,h2,h3⟩:=h
 exact⟨es,clock,seen,hf.same _ _ h1 (.inr (.inl rfl)),hf.same _ _ h2 (.inl fun _ _ e=>by cases e),h3⟩
theorem zbm.ed {V:PtV}{B:Nat}{w w':World}{ds:List Deferred}(h:zbm B w ds)(hf:EdFr V w w'):zbm B w' ds:=h.kept ⟨hf.size,fun k o ho hr=>hf.same k o ho (.inl fun _ _ e=>by subst e;cases hr)⟩
def UCl (st:PS)(n:Nd)(u:Use):Prop:=∀ o,(st.ho n).testBit o=true→st.to (useA o u) (useB o u)=true
structure FdP (U:List Nd)(st0:PS)(fb:Nat)(wf wR:World)(V:PtV)(out:Nat)(st:PS)(w:World)(c:Bool)(st':PS)(W:World):Prop where
 inv:zct U st0 fb wf wR V out st' W
 cb:Blk W (w.heap.size+1) 4 #[.bool c]
 sx:Blk W w.heap.size 298 #[.pointer (some ⟨V.sb,0,none⟩)]
 ls:c=true→zc6 U st'<zc6 U st
 eqs:c=false→st'=st
 sm:st'.ho=st.ho∧st'.us=st.us
section
variable {U:List Nd} {st0:PS} {fb N:Nat} {wf wR:World} {V:PtV} {out:Nat} {st:PS} {w:World} {c:Bool} {st':PS} {W W':World}
theorem FdP.below (h:FdP U st0 fb wf wR V out st w c st' W)(hb:Below W.heap.size W W'):FdP U st0 fb wf wR V out st w c st' W' :=
 ⟨h.inv.below hb,h.cb.below hb h.cb.lt,h.sx.below hb h.sx.lt,h.ls,h.eqs,h.sm⟩
theorem FdP.recs (h:FdP U st0 fb wf wR V out st w c st' W)(hr:Recs N W W')(hN:wf.heap.size≤N)(hR:wR.heap.size≤N):FdP U st0 fb wf wR V out st w c st' W' :=
 ⟨h.inv.recs hr hN hR,h.cb.recs hr,h.sx.recs hr,h.ls,h.eqs,h.sm⟩
theorem FdP.iter {r:Nat}(h:FdP U st0 fb wf wR V out st w c st' W)(hg:W.grownBy W' (some r))(hB:wf.heap.size≤r)(hr:∃ a b c d,W.heap[r]? = some (.mapIter a b c d))(hrR:wR.heap.size≤r):FdP U st0 fb wf wR V out st w c st' W':=by
 have hc:∀ {g t cs},Blk W g t cs→Blk W' g t cs:=fun hb=>hb.grown hg (fun e=>by
  injection e with e
  subst e
  obtain⟨a,b,c,d,hr⟩:=hr
  rw[show W.heap[_]? = _ from hb]at hr
  cases hr)
 exact⟨h.inv.iter hg hB hr hrR,hc h.cb,hc h.sx,h.ls,h.eqs,h.sm⟩
theorem FdP.old {a b:Nd}(h:FdP U st0 fb wf wR V out st w c st' W)(hp:PtAt wf.heap.size fb wf V (zbd st' a b) out W')(hf:EdFr V W W')(he:st'.to a b=true):FdP U st0 fb wf wR V out st w c st' W':=by
 rw[zmk he]at hp
 exact⟨⟨hp,h.inv.u,h.inv.s,h.inv.n.trans (NmFr.ed hf)⟩,h.cb.nm (NmFr.ed hf),h.sx.nm (NmFr.ed hf),h.ls,h.eqs,h.sm⟩
theorem FdP.fresh {a b:Nd}(h:FdP U st0 fb wf wR V out st w c st' W)(hp:PtAt wf.heap.size fb wf V (zbd st' a b) out W')(hf:EdFr V W W')(he:st'.to a b=false)(hE:zfy st0 a b)(ha:a ∈ U)(hb:b ∈ U)(hw:wf.heap.size≤w.heap.size)(hR:wR.heap.size≤w.heap.size) :
  FdP U st0 fb wf wR V out st w true (zbd st' a b) (W'.setCell ⟨w.heap.size+1,0,none⟩ (.bool true)):=by
 have hcb:=h.cb.nm (NmFr.ed hf)
 have hp':PtAt wf.heap.size fb wf V (zbd st' a b) out (W'.setCell ⟨w.heap.size+1,0,none⟩ (.bool true)):=by
  obtain⟨h1,h2,mh,mt,mu,h3⟩:=hp
  exact⟨h1.setCell (p:=⟨w.heap.size+1,0,none⟩) (Nat.le_trans hw (Nat.le_succ _)) _,by simpa [World.setCell] using h2,mh,mt,mu,h3.kp (PtKp.set hcb (by decide) (by decide) 0 _)⟩
 refine⟨⟨hp',h.inv.u.edge ha hb,h.inv.s.edge hE,?_⟩,(hcb.set_ 0 _).cast rfl,(h.sx.nm (NmFr.ed hf)).far (p:=⟨w.heap.size+1,0,none⟩) (by show w.heap.size≠w.heap.size+1;omega) _,fun _=>?_,fun h=>(by cases h),h.sm⟩
 ·have hn:=h.inv.n.trans (NmFr.ed hf)
  exact⟨by simpa [World.setCell] using hn.size,fun k o ho hc=>(Below.heap_setCell W' ⟨w.heap.size+1,0,none⟩ (.bool true) k (by have:=lt_of_block ho;show k≠w.heap.size+1;omega)).trans (hn.same k o ho hc)⟩
 ·have:=zut ha hb he
  cases hc:c
  ·rw[← h.eqs hc];exact this
  ·exact Nat.lt_trans this (h.ls hc)
end
def FdO (U:List Nd)(st0:PS)(fb:Nat)(wf wR:World)(V:PtV)(out:Nat)(st:PS)(w:World)(mu:List (Nd×Value))(r:Nat)(gk:Nat)(ds:List Deferred)(W:World):Prop :=
 ∃ (c:Bool) (st':PS) (left:List (Nd×Value)),gk=left.length∧za6 W V.ub r ndV NdOk id mu left∧FdP U st0 fb wf wR V out st w c st' W∧(c=false→∀ n v,(n,v) ∈ mu→(n,v) ∈ left∨∀ u ∈ st.us n,UCl st n u)∧zbm w.heap.size W ds
def FdM (U:List Nd)(st0:PS)(fb:Nat)(wf wR:World)(V:PtV)(out:Nat)(st:PS)(w:World)(mu:List (Nd×Value))(r:Nat)(lo:List (Nd×Value))(n:Nd)(nb:Nat)(gk:Nat)(jv:Value)(ds:List Deferred)(W:World):Prop :=
 ∃ (c:Bool) (st':PS) (j:Nat),jv=.int .i64 j∧gk=(st.us n).length-j∧j≤(st.us n).length∧za6 W V.ub r ndV NdOk id mu lo∧FdP U st0 fb wf wR V out st w c st' W ∧
  (c=false→(∀ n1 v1,(n1,v1) ∈ mu→(n1,v1) ∈ lo∨n1=n∨∀ u ∈ st.us n1,UCl st n1 u)∧∀ u ∈ (st.us n).take j,UCl st n u)∧Blk W nb 419 #[.int .u8 n.k,.int .i64 n.a,.int .i64 n.b]∧zbm w.heap.size W ds
structure FdI (U:List Nd)(st0:PS)(fb:Nat)(wf wR:World)(V:PtV)(out:Nat)(st:PS)(w:World)(mu:List (Nd×Value))(r:Nat)(lo:List (Nd×Value))(n:Nd)(nb j:Nat)(u:Use)(vb N:Nat)(ds:List Deferred)(i:Nat)(W:World):Prop where
 ex:∃ (c:Bool) (st':PS),FdP U st0 fb wf wR V out st w c st' W ∧
  (c=false→(∀ n1 v1,(n1,v1) ∈ mu→(n1,v1) ∈ lo∨n1=n∨∀ u ∈ st.us n1,UCl st n1 u)∧(∀ u ∈ (st.us n).take j,UCl st n u)∧∀ o ∈ (mems (st.ho n)).take i,st.to (useA o u) (useB o u)=true)
 rg:za6 W V.ub r ndV NdOk id mu lo
 nb:Blk W nb 419 #[.int .u8 n.k,.int .i64 n.a,.int .i64 n.b]
 vb:Blk W vb 427 (zd6 u).toArray
 m:zbm w.heap.size W ds
 z:N≤W.heap.size
theorem FdP.row {U:List Nd}{st0:PS}{fb:Nat}{wf wR:World}{V:PtV}{out:Nat}{st:PS}{w:World}{c:Bool}{st':PS}{W:World}{r:Nat}{mu left:List (Nd×Value)}{n:Nd}{v:Value}(h:FdP U st0 fb wf wR V out st w c st' W)(hr:za6 W V.ub r ndV NdOk id mu left)(hm:(n,v) ∈ mu) :
  W.ownsRow wf.heap.size 427 5 v (st.us n).length ((st.us n).flatMap zd6):=by
 obtain⟨mh,mt,mu',h3⟩:=h.inv.p.m
 have e:mu'=mu:=h3.u.uniq hr.map (fun x y e=>ze5.inj x y e) (fun x y e=>e)
 subst e
 have:=h3.ur n v hm
 rw[h.sm.2]at this
 exact this
theorem zoj:∀ {l:List Use} {j:Nat} {u:Use},l[j]? = some u→∀ i,i<5→(l.flatMap zd6)[j*5+i]? = (zd6 u)[i]?
 | [],_,_,h,_,_=>by simp at h
 | b::l,0,u,h,i,hi=>by
  simp at h
  subst h
  rw[List.flatMap_cons,Nat.zero_mul,Nat.zero_add,List.getElem?_append_left (by show i<5;omega)]
 | b::l,j+1,u,h,i,hi=>by
  rw[List.flatMap_cons,List.getElem?_append_right (by show 5≤_;omega),show(j+1)*5+i-(zd6 b).length=j*5+i by show _-5=_;omega]
  exact zoj (by simpa using h) i hi
theorem zl2 (a b:Value)(w:World):(Instr.field 424 (.agg #[a,b]) 0).run Tryz.prog w=.ok a w:=by kernel_rfl
theorem FdI.recs {U:List Nd}{st0:PS}{fb:Nat}{wf wR:World}{V:PtV}{out:Nat}{st:PS}{w:World}{mu:List (Nd×Value)}{r:Nat}{lo:List (Nd×Value)}{n:Nd}{nb j:Nat}{u:Use}{vb N N':Nat}{ds:List Deferred}{i:Nat}{W W':World}(h:FdI U st0 fb wf wR V out st w mu r lo n nb j u vb N' ds i W)(h1:wf.heap.size≤N)(h2:wR.heap.size≤N)(hd:zil N ds)(hr:Recs N W W') :
  FdI U st0 fb wf wR V out st w mu r lo n nb j u vb N' ds i W':=by
 obtain⟨c,st',a,b⟩:=h.ex
 exact⟨⟨c,st',a.recs hr h1 h2,b⟩,h.rg.recs hr,h.nb.recs hr,h.vb.recs hr,h.m.recs hd hr,Nat.le_trans h.z hr.size⟩
theorem zva (U:List Nd)(st0:PS)(fb:Nat)(wf wR:World)(V:PtV)(out:Nat)(st:PS)(w:World)(h:zct U st0 fb wf wR V out st w) :
  Calls Tryz.prog 225 #[.pointer (some ⟨V.sb,0,none⟩)] w (zhm (zct U st0 fb wf wR V out) (zc6 U) FdCl st):=by
 obtain⟨mh,mt,mu,hm⟩:=h.p.m
 have hsc:=hm.s.cell
 unfold zeh at hsc
 have hsl:=hm.s.lt
 have HM:=zH hm
 have H:=zH h
 clear hm h
 have hmf:∀ (fn:Fn) (first cap:Array Value) (w:World),(Instr.makeFunc fn first cap).run Tryz.prog w=.ok (.func fn first cap) w:=fun _ _ _ _=>rfl
 have hfo:=fun(a b:Nat) (w:World)=>zl2 (zaa a) (zaa b) w
 refine zjv Tryz.func225 rfl ?_
 simp only[Tryz.ntmps225,List.size_toArray,List.length_cons,List.length_nil,Nat.reduceAdd,Nat.reduceSub,Array.replicate_succ,Array.replicate_zero,List.push_toArray,List.append_toArray,List.nil_append,List.cons_append]
 go_wp2_with (at_range;refine zg8 ?_)
 refine zg2 ?_
 have hb0:Below w.heap.size w ((w.alloc (.cells #[.pointer (some ⟨V.sb,0,none⟩)] 298)).alloc (.cells #[.bool false] 4)):=((Below.refl _ _).alloc (Nat.le_refl _) _).alloc (by simp) _
 have hx0:Blk ((w.alloc (.cells #[.pointer (some ⟨V.sb,0,none⟩)] 298)).alloc (.cells #[.bool false] 4)) w.heap.size 298 #[.pointer (some ⟨V.sb,0,none⟩)]:=(Blk.newAt rfl).alloc _
 have hc0:Blk ((w.alloc (.cells #[.pointer (some ⟨V.sb,0,none⟩)] 298)).alloc (.cells #[.bool false] 4)) (w.heap.size+1) 4 #[.bool false]:=Blk.newAt (by simp)
 generalize hW:((w.alloc (.cells #[.pointer (some ⟨V.sb,0,none⟩)] 298)).alloc (.cells #[.bool false] 4))=wA at hb0 hx0 hc0 ⊢
 have hzA:wA.heap.size=w.heap.size+2:=by rw[← hW];simp
 clear hW
 refine zmn rfl _ _ rfl Tryz.underlying380 rfl (HM.out.u.pt (PtKp.below hb0 (Nat.le_refl _))) ?_
 intro w1 hr1 hb1 hz1
 obtain⟨r,hr⟩:∃ r,r=wA.heap.size:=⟨_,rfl⟩
 rw[← hr]at hr1 ⊢
 have ST:=zH (show FdO U st0 fb wf wR V out st w mu r mu.length [] w1 from⟨false,st,mu,rfl,hr1,⟨(H.out.below hb0).below hb1,hc0.below hb1 hc0.lt,hx0.below hb1 hx0.lt,fun h=>(by cases h),fun _=>rfl,rfl,rfl⟩,fun _ n v h=>.inl h,zbm.nil _ _⟩)
 have HZ:=zH (show wf.heap.size≤w.heap.size∧wR.heap.size≤w.heap.size∧r=w.heap.size+2 from⟨H.out.p.bs,H.out.n.size,by omega⟩)
 clear hr1 hb1 hz1 hsc hsl hb0 hx0 hc0 hzA hr
 go_frame
 go_wp2_with fail
 refine wp_loop_ghost_k (fun gk a W=>∃ ds u4 u5 u6 u7 u8 u9 u10 u16 u17 u18 u19 u20 u21 u22 u23 u24 u25 u26 u27 u28 u29 u30 u31 u32 u33 u34 u35 u36 u37 u38 u39 u40 u41 u42 u43 u44 u45 u46 u47 u48 u49 u50,FdO U st0 fb wf wR V out st w mu r gk ds W ∧
  a={ tmps:=#[.pointer (some ⟨V.sb,0,none⟩),.pointer (some ⟨w.heap.size,0,none⟩),.bool false,.pointer (some ⟨w.heap.size+1,0,none⟩),u4,u5,u6,u7,u8,u9,u10,.pointer (some ⟨V.sb,0,none⟩),.pointer (some ⟨V.sb,0,none⟩),.pointer (some ⟨V.sb,3,none⟩),.map (some V.ub),.pointer (some ⟨r,0,none⟩),u16,u17,u18,u19,u20,u21,u22,u23,u24,u25,u26,u27,u28,u29,u30,u31,u32,u33,u34,u35,u36,u37,u38,u39,u40,u41,u42,u43,u44,u45,u46,u47,u48,u49,u50,undef],defers:=ds }) mu.length
  ⟨_,_,_,_,_,_,_,_,_,_,_,_,_,_,_,_,_,_,_,_,_,_,_,_,_,_,_,_,_,_,_,_,_,_,_,_,_,_,_,_,_,_,_,ST.out,rfl⟩ ?_
 rintro gk a wr ⟨ds,u4,u5,u6,u7,u8,u9,u10,u16,u17,u18,u19,u20,u21,u22,u23,u24,u25,u26,u27,u28,u29,u30,u31,u32,u33,u34,u35,u36,u37,u38,u39,u40,u41,u42,u43,u44,u45,u46,u47,u48,u49,u50,hrel,rfl⟩ J K hJ hK
 obtain⟨c,st',left,hg,hR,hP,hcl,hmk⟩:=hrel
 have HG:=zH hg
 have HR:=zH hR
 have HP:=zH hP
 have HCL:=zH hcl
 have HMK:=zH hmk
 have hcbc:=hP.cb.cell
 have hcbl:=hP.cb.lt
 clear hg hR hP hcl hmk
 go_wp2_with (at_next;refine zg8 ?_)
 refine zg2 ?_
 refine zny rfl _ rfl rfl HR.out ?_ ?_
 ·intro hl
  subst hl
  have FIN:=zH (show ∃ st2 c2,c2=c∧zct U st0 fb wf wR V out st2 wr∧(c2=true→zc6 U st2<zc6 U st)∧(c2=false→st2=st∧FdCl st)from
   ⟨st',c,rfl,HP.out.inv,HP.out.ls,fun hc=>⟨HP.out.eqs hc,fun n u o hu ho=>by
    cases hgn:mget mu n with
    | none=>rw[HM.out.u0 n hgn]at hu;cases hu
    | some v=>exact((HCL.out hc) n v (zfi hgn)).resolve_left (by simp) u hu o ho⟩⟩)
  clear HCL
  go_wp2_with fail
  refine zia (B:=w.heap.size) (fun W=>∃ st2 c2,c2=c∧zct U st0 fb wf wR V out st2 W∧(c2=true→zc6 U st2<zc6 U st)∧(c2=false→st2=st∧FdCl st)) (fun W W' hr h=>?_) (fun W h=>?_) _ wr HMK.out FIN.out
  ·obtain⟨st2,c2,h1,h2,h3⟩:=h
   exact⟨st2,c2,h1,h2.recs hr HZ.out.1 HZ.out.2.1,h3⟩
  ·obtain⟨st2,c2,rfl,h2,h3,h4⟩:=h
   exact⟨.bool c2,(results_tmp rfl _ _ _).trans rfl,st2,c2,rfl,h2,h3,h4⟩
 ·intro p l1 l2 w2 hl hr2 hg2 hz2 hen
  obtain⟨n,v⟩:=p
  simp only[id]at hen
  have hmem:(n,v) ∈ mu:=HR.out.sub _ (by rw[hl];simp)
  obtain⟨va,vc,hv⟩:=zbx (HM.out.ur n v hmem)
  subst hv
  have HMEM:=zH hmem
  have hno:NdOk n:=by obtain⟨_,_,_,_,_,h,_⟩:=HR.out.map;exact h _ hmem
  have HNO:=zH hno
  have hul:(st.us n).length<1000:=H.out.u.ul n
  have hP2:=HP.out.iter hg2 (by have:=HZ.out;omega) HR.out.obj (by have:=HZ.out;omega)
  have HMK2:=zH (HMK.out.kept ⟨hg2.size,fun k o ho hro=>(hg2.block k (lt_of_block ho) (fun e=>by
   injection e with e
   subst e
   obtain⟨a,b,c,d,h⟩:=HR.out.obj
   rw[ho]at h
   injection h with h
   subst h
   cases hro)).trans ho⟩)
  have hb3:Below w2.heap.size w2 (w2.alloc (.cells #[.int .u8 n.k,.int .i64 n.a,.int .i64 n.b] 419)):=(Below.refl _ _).alloc (Nat.le_refl _) _
  have hn3:Blk (w2.alloc (.cells #[.int .u8 n.k,.int .i64 n.a,.int .i64 n.b] 419)) w2.heap.size 419 #[.int .u8 n.k,.int .i64 n.a,.int .i64 n.b]:=Blk.newAt rfl
  have HLL:=zH (show(l1++l2).length<left.length by rw[hl];simp)
  have HNBL:=zH (show w.heap.size+2≤w2.heap.size by have:=HP.out.cb.lt;omega)
  have ST2:=zH (show FdM U st0 fb wf wR V out st w mu r (l1++l2) n w2.heap.size (st.us n).length (.int .i64 (0:Int)) ds (w2.alloc (.cells #[.int .u8 n.k,.int .i64 n.a,.int .i64 n.b] 419))from
   ⟨c,st',0,rfl,rfl,Nat.zero_le _,hr2.of_blocks (hb3.block _ hr2.lt.1) (hb3.block _ hr2.lt.2),hP2.below hb3,fun hc=>⟨fun n1 v1 h1=>by
    rcases HCL.out hc n1 v1 h1 with h2 | h2
    ·rw[hl]at h2
     rcases List.mem_append.1 h2 with h2 | h2
     ·exact .inl (List.mem_append.2 (.inl h2))
     ·rcases List.mem_cons.1 h2 with h2 | h2
      ·injection h2 with h2 _;exact .inr (.inl h2)
      ·exact .inl (List.mem_append.2 (.inr h2))
    ·exact .inr (.inr h2),fun u hu=>by simp at hu⟩,hn3,HMK2.out.low (Nat.le_refl _) hb3.block⟩)
  clear hl hr2 hg2 hz2 hmem hno hP2 HMK2 hb3 hn3 HR HP HCL HMK hcbc hcbl
  go_wp2_with fail
  obtain⟨nb,hnb⟩:∃ nb,nb=w2.heap.size:=⟨_,rfl⟩
  rw[← hnb]at ST2 HNBL ⊢
  clear hnb hen
  refine wp_loop_ghost_k (fun gk a W=>∃ ds j5 u5 u6 u7 u8 u9 u10 u16 u17 u18 u19 u20 u24 u25 u26 u27 u28 u29 u30 u31 u32 u33 u34 u35 u36 u37 u38 u39 u40 u41 u42 u43 u44 u45 u46 u47 u48 u49 u50,FdM U st0 fb wf wR V out st w mu r (l1++l2) n nb gk j5 ds W ∧
   a={ tmps:=#[.pointer (some ⟨V.sb,0,none⟩),.pointer (some ⟨w.heap.size,0,none⟩),.bool false,.pointer (some ⟨w.heap.size+1,0,none⟩),.pointer (some ⟨nb,0,none⟩),u5,u6,u7,u8,u9,u10,.pointer (some ⟨V.sb,0,none⟩),.pointer (some ⟨V.sb,0,none⟩),.pointer (some ⟨V.sb,3,none⟩),.map (some V.ub),.pointer (some ⟨r,0,none⟩),u16,u17,u18,u19,u20,.slice va (st.us n).length vc,.int .i64 ((st.us n).length:Int),j5,u24,u25,u26,u27,u28,u29,u30,u31,u32,u33,u34,u35,u36,u37,u38,u39,u40,u41,u42,u43,u44,u45,u46,u47,u48,u49,u50,undef],defers:=ds }) (st.us n).length
   ⟨_,_,_,_,_,_,_,_,_,_,_,_,_,_,_,_,_,_,_,_,_,_,_,_,_,_,_,_,_,_,_,_,_,_,_,_,_,_,_,_,ST2.out,rfl⟩ ?_
  clear ST2
  rintro gk a wm ⟨ds2,j5,u5,u6,u7,u8,u9,u10,u16,u17,u18,u19,u20,u24,u25,u26,u27,u28,u29,u30,u31,u32,u33,u34,u35,u36,u37,u38,u39,u40,u41,u42,u43,u44,u45,u46,u47,u48,u49,u50,hrel,rfl⟩ J2 K2 hJ2 hK2
  obtain⟨c,st',j,rfl,hg,hj,hR,hP,hcl,hnb,hmk⟩:=hrel
  have HG2:=zH hg
  have HR:=zH hR
  have HP:=zH hP
  have HCL:=zH hcl
  have HNB:=zH hnb
  have HMK:=zH hmk
  clear hg hR hP hcl hnb hmk
  by_cases hlt:j<(st.us n).length
  ·obtain⟨u,hu⟩:∃ u,(st.us n)[j]? = some u:=⟨_,List.getElem?_eq_getElem hlt⟩
   have hrow:=HP.out.row HR.out HMEM.out
   obtain⟨vg,vc',hv,hvB,hvl⟩:=hrow.form (by omega)
   injection hv with e1 e2 e3
   subst e1 e3
   have hcu:∀ i,i<5→wm.cell? ⟨vg,j*5+i,none⟩=(zd6 u)[i]? := fun i hi=>by
    rw[hrow.cellAt (j*5+i) (by omega),zoj hu i hi]
   have c0:wm.cell? ⟨vg,j*5,none⟩=some (.int .i64 u.f):=hcu 0 (by omega)
   have c1:wm.cell? ⟨vg,j*5+1,none⟩=some (.int .u8 u.n.k):=hcu 1 (by omega)
   have c2:wm.cell? ⟨vg,j*5+2,none⟩=some (.int .i64 u.n.a):=hcu 2 (by omega)
   have c3:wm.cell? ⟨vg,j*5+3,none⟩=some (.int .i64 u.n.b):=hcu 3 (by omega)
   have c4:wm.cell? ⟨vg,j*5+4,none⟩=some (.bool u.put):=hcu 4 (by omega)
   have HU:=zH hu
   have hb1:Below wm.heap.size wm (wm.alloc (.cells #[.int .i64 (u.f:Int),.int .u8 (u.n.k:Int),.int .i64 (u.n.a:Int),.int .i64 u.n.b,.bool u.put] 427)):=(Below.refl _ _).alloc (Nat.le_refl _) _
   have hub:Blk (wm.alloc (.cells #[.int .i64 (u.f:Int),.int .u8 (u.n.k:Int),.int .i64 (u.n.a:Int),.int .i64 u.n.b,.bool u.put] 427)) wm.heap.size 427 #[.int .i64 (u.f:Int),.int .u8 (u.n.k:Int),.int .i64 (u.n.a:Int),.int .i64 u.n.b,.bool u.put]:=Blk.newAt rfl
   clear hcu hu hrow
   go_wp2_with fail
   generalize hW:wm.alloc (.cells #[.int .i64 (u.f:Int),.int .u8 (u.n.k:Int),.int .i64 (u.n.a:Int),.int .i64 u.n.b,.bool u.put] 427)=wu at hb1 hub ⊢
   obtain⟨vb,hvb⟩:∃ vb,vb=wm.heap.size:=⟨_,rfl⟩
   rw[← hvb]at hub ⊢
   have HVB:=zH (show w.heap.size+2≤vb by rw[hvb];have:=HP.out.cb.lt;omega)
   clear hW c0 c1 c2 c3 c4 hvb
   have HP1:=zH (HP.out.below hb1)
   have HR1:=zH (HR.out.of_blocks (hb1.block _ HR.out.lt.1) (hb1.block _ HR.out.lt.2))
   have HN1:=zH (HNB.out.below hb1 HNB.out.lt)
   have HM1:=zH (HMK.out.low (Nat.le_refl _) hb1.block)
   obtain⟨mh6,mt6,mu6,hm6⟩:=HP1.out.inv.p.m
   have hho:st'.ho n=st.ho n:=by rw[HP.out.sm.1]
   have hsm:=(HM.out.sm n).1
   have hHeld:(∀ j,wu.drew.cell? ⟨V.sb,j,none⟩=#[.pointer (some ⟨fb,0,none⟩),.map (some V.hb),.map (some V.tb),.map (some V.ub),zaa out][j]?)∧(Instr.lookup 378 (.map (some V.hb)) (.agg #[.int .u8 n.k,.int .i64 n.a,.int .i64 n.b]) false).run Tryz.prog wu.drew=.ok (.agg #[zaa (st.ho n),zaa (st'.ht n)]) wu.drew∧wu.drew.cell? ⟨w.heap.size,0,none⟩=some (.pointer (some ⟨V.sb,0,none⟩))∧(∀ j,wu.drew.cell? ⟨nb,j,none⟩=#[.int .u8 n.k,.int .i64 n.a,.int .i64 n.b][j]?):=by
    have hd:=hm6.kp (PtKp.drew wu)
    have hl:=hd.look HNO.out
    rw[hho]at hl
    exact⟨hd.s.cell,hl,HP1.out.sx.drew.cell 0,HN1.out.drew.cell⟩
   clear hm6 hb1 hho
   refine zn7 ?_
   refine zah 7 (fun(W':World)=>(∀ j,W'.cell? ⟨V.sb,j,none⟩=#[.pointer (some ⟨fb,0,none⟩),.map (some V.hb),.map (some V.tb),.map (some V.ub),zaa out][j]?)∧(Instr.lookup 378 (.map (some V.hb)) (.agg #[.int .u8 n.k,.int .i64 n.a,.int .i64 n.b]) false).run Tryz.prog W'=.ok (.agg #[zaa (st.ho n),zaa (st'.ht n)]) W'∧W'.cell? ⟨w.heap.size,0,none⟩=some (.pointer (some ⟨V.sb,0,none⟩))∧(∀ j,W'.cell? ⟨nb,j,none⟩=#[.int .u8 n.k,.int .i64 n.a,.int .i64 n.b][j]?)) (by kernel_rfl) rfl rfl (by kernel_rfl) ?_
   simp only[List.take_succ_cons,List.take_zero]
   iterate 7(refine tk 0 rfl (by kernel_rfl) (fun _ _ _ h=>h) hHeld (fun w hSw=>by go_simp;try with_reducible rfl) (by simp only[pA,pB,pC,pD,pE,pF,pG,pH];exact rfl) ?_)
   refine lst (by kernel_rfl) rfl fun K hK=>?_
   go_simp
   refine hK _ _ ?_
   refine zgo ?_
   clear hK
   have hdd:Below wu.heap.size wu wu.drew:=(Below.refl _ _).drew
   have HMT:=zH (show zil wu.drew.heap.size ds2 from fun d hd D e=>HM1.out.lt d hd D e)
   have hwz:w.heap.size≤wu.drew.heap.size:=Nat.le_of_lt HP1.out.sx.lt
   have INI:=zH (show FdI U st0 fb wf wR V out st w mu r (l1++l2) n nb j u vb wu.drew.heap.size ds2 0 wu.drew from
    ⟨⟨c,st',HP1.out.below hdd,fun hc=>⟨(HCL.out hc).1,(HCL.out hc).2,fun o ho=>by simp at ho⟩⟩,HR1.out.of_blocks (hdd.block _ HR1.out.lt.1) (hdd.block _ HR1.out.lt.2),HN1.out.drew,hub.drew,HM1.out.low (Nat.le_refl _) hdd.block,Nat.le_refl _⟩)
   have HUB:=zH hub
   clear hHeld hdd hub
   go_wp2_with fail
   refine(wpIn_wide (n:=3)).1 (zkx (gf:=237) (first:=#[zaa (st.ho n)]) (cap:=#[]) rfl zkc (zkv 2 (st.ho n) hsm) rfl
    (FdI U st0 fb wf wR V out st w mu r (l1++l2) n nb j u vb wu.drew.heap.size ds2) (fun _ _=>False) (fun i W W' hr h=>h.recs (Nat.le_trans HZ.out.1 hwz) (Nat.le_trans HZ.out.2.1 hwz) HMT.out hr) (fun _ _ _ _ h=>h) INI.out
    (fun y=>{ tmps:=#[.pointer (some ⟨V.sb,0,none⟩),.pointer (some ⟨w.heap.size,0,none⟩),.bool false,.pointer (some ⟨w.heap.size+1,0,none⟩),.pointer (some ⟨nb,0,none⟩),u5,u6,.pointer (some ⟨vb,0,none⟩),y,u9,u10,.pointer (some ⟨V.sb,0,none⟩),.pointer (some ⟨V.sb,0,none⟩),.pointer (some ⟨V.sb,3,none⟩),.map (some V.ub),.pointer (some ⟨r,0,none⟩),u16,u17,u18,u19,u20,.slice (some ⟨vg,0,none⟩) (st.us n).length vc,.int .i64 ((st.us n).length:Int),.int .i64 (j:Int),.bool true,.pointer (some ⟨vg,j*5,none⟩),.agg #[.int .i64 (u.f:Int),.int .u8 (u.n.k:Int),.int .i64 (u.n.a:Int),.int .i64 u.n.b,.bool u.put],.pointer (some ⟨V.sb,0,none⟩),.pointer (some ⟨V.sb,0,none⟩),.pointer (some ⟨V.sb,1,none⟩),.map (some V.hb),.agg #[.int .u8 (n.k:Int),.int .i64 (n.a:Int),.int .i64 n.b],.agg #[zaa (st.ho n),zaa (st'.ht n)],zaa (st.ho n),.func (.func 237) #[zaa (st.ho n)] #[],y,u36,u37,u38,u39,u40,u41,u42,u43,u44,u45,u46,u47,u48,u49,u50,undef],defers:=[] }) ?assign ?body ?done ?stop)
   case assign =>
    intro l x W K hK
    gi_wp2
    exact hK
   case stop=>exact fun c W h _=>h.elim
   case done =>
    rintro W hI hD
    obtain⟨c2,st2,h1,h2⟩:=hI.ex
    have REL:=zH (show FdM U st0 fb wf wR V out st w mu r (l1++l2) n nb ((st.us n).length-(j+1)) (.int .i64 ((j+1:Nat):Int)) ({ target:=.collected wu.drew.heap.size,args:=#[] }::ds2) W from
     ⟨c2,st2,j+1,rfl,rfl,hlt,hI.rg,h1,fun hc=>⟨(h2 hc).1,fun u' hu'=>by
      rw[List.take_add_one,HU.out]at hu'
      rcases List.mem_append.1 hu' with hu' | hu'
      ·exact(h2 hc).2.1 u' hu'
      ·have e:u'=u:=by simpa using hu'
       subst e
       intro o ho
       refine(h2 hc).2.2 o ?_
       rw[show((mems (st.ho n)).map fun k:Nat=>Value.int .i64 (k:Int)).length=(mems (st.ho n)).length by simp,List.take_length,zje hsm]
       exact ho⟩,hI.nb,hI.m.more HMT.out hwz hD⟩)
    clear h1 h2 hI hD
    go_wp2_with fail
    go_roundg ((st.us n).length-(j+1))
    case measure=>have:=HG2.out;omega
    case rel=>exact REL.out
   case body =>
    rintro l i y W hy hI hz
    obtain⟨o,ho,rfl⟩:∃ o,(mems (st.ho n))[i]? = some o∧Value.int .i64 (o:Int)=y:=by simpa using hy
    obtain⟨c2,st2,P2,hc2⟩:=hI.ex
    have HI:=zH hI
    have HP2:=zH P2
    have HC2:=zH hc2
    have HO:=zH ho
    have hvbc:=HI.out.vb.cell
    have HVS:=zH (show ∀ W',Below W.heap.size W W'→∀ j,W'.cell? ⟨vb,j,none⟩=#[.int .i64 (u.f:Int),.int .u8 (u.n.k:Int),.int .i64 (u.n.a:Int),.int .i64 u.n.b,.bool u.put][j]? from fun W' hb=>(HI.out.vb.below hb HI.out.vb.lt).cell)
    have hHeld:∀ j,W.drew.cell? ⟨vb,j,none⟩=#[.int .i64 (u.f:Int),.int .u8 (u.n.k:Int),.int .i64 (u.n.a:Int),.int .i64 u.n.b,.bool u.put][j]? := hvbc
    have HUI:=zH (show NdOk ⟨102,o,u.f⟩∧NdOk u.n∧(⟨102,o,u.f⟩:Nd) ∈ U∧u.n ∈ U∧(u.put=false→zfy st0 ⟨102,o,u.f⟩ u.n)∧(u.put=true→zfy st0 u.n ⟨102,o,u.f⟩)from by
     have hum:u ∈ st2.us n:=by rw[P2.sm.2];exact List.mem_of_getElem? HU.out
     obtain⟨u1,u2,u3,u4⟩:=P2.inv.u.us n u hum
     have ho48:=zoy (List.mem_of_getElem? ho)
     have hob:zei st0 n false o:=P2.inv.s.ho n o (by rw[P2.sm.1];exact(zje hsm).1 (List.mem_of_getElem? ho))
     rw[P2.inv.s.us]at hum
     exact⟨⟨by show 102<256;omega,by show o<1000000;omega,by show -1000000<(u.f:Int);omega,by show(u.f:Int)<1000000;omega⟩,u1,u4 o ho48,u3,fun hp=>(zhh st0).get n u o hum hp hob,fun hp=>(zhh st0).put n u o hum hp hob⟩)
    clear hI P2 hc2 ho hy hvbc
    refine wpIn_block (wpIn_seq_k fun K1 hK1=>?_)
    refine zlm 9 (fun(w':World)=>∀ j,w'.cell? ⟨vb,j,none⟩=#[.int .i64 (u.f:Int),.int .u8 (u.n.k:Int),.int .i64 (u.n.a:Int),.int .i64 u.n.b,.bool u.put][j]?) (by kernel_rfl) rfl rfl (by kernel_rfl) (by kernel_rfl) ?_
    simp only[List.take_succ_cons,List.take_zero]
    iterate 6(refine tk 0 rfl (by kernel_rfl) (fun _ _ _ h=>h) hHeld (fun w hSw=>by go_simp;try with_reducible rfl) (by simp only[pA,pB,pC,pD,pE,pF,pG,pH];exact rfl) ?_)
    refine wpAnyH_ready (rs:=[6,7]) (by kernel_rfl) (by simp) ?_
    refine AllReadyH.cons rfl (fun K hK=>?_) (AllReadyH.cons rfl (fun K hK=>?_) AllReadyH.nil)
    ·go_simp
     refine hK.out _ _ (HVS.out _ (((Below.refl _ _).alloc (Nat.le_refl _) _).drew)) (fun hHeld=>?_)
     clear hK K
     refine rdy 7 (by kernel_rfl) rfl fun K hK=>?_
     go_simp
     refine hK.out _ _ (HVS.out _ (((Below.refl _ _).alloc (Nat.le_refl _) _).alloc (by simp) _).drew) (fun hHeld=>?_)
     clear hK K
     refine rdy 8 (by kernel_rfl) rfl fun K hK=>?_
     go_simp
     refine hK.out _ _ (HVS.out _ (((Below.refl _ _).alloc (Nat.le_refl _) _).alloc (by simp) _).drew) (fun hHeld=>?_)
     clear hK K
     refine lst (by kernel_rfl) rfl fun K hK=>?_
     go_simp
     refine hK _ _ ?_
     refine zgo ?_
     refine hK1 _ _ ?_
     clear hK K hK1 K1 hHeld
     have hvbc:=HI.out.vb.cell
     have hvbl:=HI.out.vb.lt
     have hsxc:=HP2.out.sx.cell
     have hsxl:=HP2.out.sx.lt
     simp only[zd6]at hvbc
     cases hup:u.put
     ·rw[hup]at hvbc
      have hbB:=zH (show Below W.heap.size W _ from(((Below.refl W.heap.size W).alloc (Nat.le_refl _) (.cells #[.int .u8 (102:Int),.int .i64 (o:Int),.int .i64 (u.f:Int)] 419)).alloc (by simp) (.cells #[.int .u8 (u.n.k:Int),.int .i64 (u.n.a:Int),.int .i64 u.n.b] 419)).drew)
      have HUS:=zH (show useA o u=⟨102,o,u.f⟩∧useB o u=u.n by unfold useA useB;rw[hup];exact⟨rfl,rfl⟩)
      have HED:=zH (HUI.out.2.2.2.2.1 hup)
      clear hup
      gi_wp2
      refine⟨trivial,CallsIn.inRound l ((callsIn_wide.2 (zih wf.heap.size fb wf V st2 out (⟨102,o,u.f⟩:Nd) u.n _ (HP2.out.inv.p.below hbB.out) HUI.out.1 HUI.out.2.1)).mono ?_)⟩
      rintro e w7 ⟨rfl,hp7,hf7⟩
      clear hvbc hvbl hsxc hsxl
      have hf:=(EdFr.below (V:=V) hbB.out).trans hf7
      have hkr:zan W w7:=⟨hf.size,fun k o ho hr=>hf.same k o ho (.inl fun _ _ e=>by subst e;cases hr)⟩
      have hrg:za6 w7 V.ub r ndV NdOk id mu (l1++l2):=HI.out.rg.ed hf
      have hnb7:=HI.out.nb.nm (NmFr.ed hf)
      have hvb7:=HI.out.vb.nm (NmFr.ed hf)
      have hm7:=HI.out.m.ed hf
      have hcb7:=HP2.out.cb.nm (NmFr.ed hf)
      cases hto:st2.to (⟨102,o,u.f⟩:Nd) u.n
      ·have hP7:=(HP2.out.below hbB.out).fresh hp7 hf7 hto HED.out HUI.out.2.2.1 HUI.out.2.2.2.1 HZ.out.1 HZ.out.2.1
       have hcbc:=hcb7.cell
       have hcbf:=hcb7.frozen
       have hcbl:=hcb7.lt
       have FIN:=zH (show zan W (w7.setCell ⟨w.heap.size+1,0,none⟩ (.bool true))∧FdI U st0 fb wf wR V out st w mu r (l1++l2) n nb j u vb wu.drew.heap.size ds2 (i+1) (w7.setCell ⟨w.heap.size+1,0,none⟩ (.bool true))from
        ⟨hkr.setCell (p:=⟨w.heap.size+1,0,none⟩) hcb7 _,⟨⟨true,_,hP7,fun h=>by cases h⟩,
         hrg.of_blocks (Below.heap_setCell w7 ⟨w.heap.size+1,0,none⟩ _ V.ub (by have:=HM.out.u.lt;show V.ub≠w.heap.size+1;omega)) (Below.heap_setCell w7 ⟨w.heap.size+1,0,none⟩ _ r (by have:=HZ.out.2.2;show r≠w.heap.size+1;omega)),
         hnb7.far (p:=⟨w.heap.size+1,0,none⟩) (by have:=HNBL.out;show nb≠w.heap.size+1;omega) _,hvb7.far (p:=⟨w.heap.size+1,0,none⟩) (by have:=HVB.out;show vb≠w.heap.size+1;omega) _,
         hm7.kept ((zan.refl _).setCell (p:=⟨w.heap.size+1,0,none⟩) hcb7 _),Nat.le_trans HI.out.z (Nat.le_trans hf.size (by simp[World.setCell]))⟩⟩)
       clear hf hkr hrg hnb7 hvb7 hm7 hcb7 hP7 hp7 hf7 hto
       gi_wp2
       exact FIN.out
      ·have hP7:=(HP2.out.below hbB.out).old hp7 hf7 hto
       have FIN:=zH (show zan W w7∧FdI U st0 fb wf wR V out st w mu r (l1++l2) n nb j u vb wu.drew.heap.size ds2 (i+1) w7 from
        ⟨hkr,⟨⟨c2,st2,hP7,fun hc=>⟨(HC2.out hc).1,(HC2.out hc).2.1,fun o' ho'=>by
         rw[List.take_add_one,HO.out]at ho'
         rcases List.mem_append.1 ho' with ho' | ho'
         ·exact(HC2.out hc).2.2 o' ho'
         ·have e:o'=o:=by simpa using ho'
          subst e
          rw[HUS.out.1,HUS.out.2,← HP2.out.eqs hc]
          exact hto⟩⟩,hrg,hnb7,hvb7,hm7,Nat.le_trans HI.out.z hf.size⟩⟩)
       clear hf hkr hrg hnb7 hvb7 hm7 hcb7 hP7 hp7 hf7 hto
       gi_wp2
       exact FIN.out
     ·rw[hup]at hvbc
      have hbB:=zH (show Below W.heap.size W _ from(((Below.refl W.heap.size W).alloc (Nat.le_refl _) (.cells #[.int .u8 (u.n.k:Int),.int .i64 (u.n.a:Int),.int .i64 u.n.b] 419)).alloc (by simp) (.cells #[.int .u8 (102:Int),.int .i64 (o:Int),.int .i64 (u.f:Int)] 419)).drew)
      have HUS:=zH (show useA o u=u.n∧useB o u=⟨102,o,u.f⟩ by unfold useA useB;rw[hup];exact⟨rfl,rfl⟩)
      have HED:=zH (HUI.out.2.2.2.2.2 hup)
      clear hup
      gi_wp2
      refine⟨trivial,CallsIn.inRound l ((callsIn_wide.2 (zih wf.heap.size fb wf V st2 out u.n (⟨102,o,u.f⟩:Nd) _ (HP2.out.inv.p.below hbB.out) HUI.out.2.1 HUI.out.1)).mono ?_)⟩
      rintro e w7 ⟨rfl,hp7,hf7⟩
      clear hvbc hvbl hsxc hsxl
      have hf:=(EdFr.below (V:=V) hbB.out).trans hf7
      have hkr:zan W w7:=⟨hf.size,fun k o ho hr=>hf.same k o ho (.inl fun _ _ e=>by subst e;cases hr)⟩
      have hrg:za6 w7 V.ub r ndV NdOk id mu (l1++l2):=HI.out.rg.ed hf
      have hnb7:=HI.out.nb.nm (NmFr.ed hf)
      have hvb7:=HI.out.vb.nm (NmFr.ed hf)
      have hm7:=HI.out.m.ed hf
      have hcb7:=HP2.out.cb.nm (NmFr.ed hf)
      cases hto:st2.to u.n (⟨102,o,u.f⟩:Nd)
      ·have hP7:=(HP2.out.below hbB.out).fresh hp7 hf7 hto HED.out HUI.out.2.2.2.1 HUI.out.2.2.1 HZ.out.1 HZ.out.2.1
       have hcbc:=hcb7.cell
       have hcbf:=hcb7.frozen
       have hcbl:=hcb7.lt
       have FIN:=zH (show zan W (w7.setCell ⟨w.heap.size+1,0,none⟩ (.bool true))∧FdI U st0 fb wf wR V out st w mu r (l1++l2) n nb j u vb wu.drew.heap.size ds2 (i+1) (w7.setCell ⟨w.heap.size+1,0,none⟩ (.bool true))from
        ⟨hkr.setCell (p:=⟨w.heap.size+1,0,none⟩) hcb7 _,⟨⟨true,_,hP7,fun h=>by cases h⟩,
         hrg.of_blocks (Below.heap_setCell w7 ⟨w.heap.size+1,0,none⟩ _ V.ub (by have:=HM.out.u.lt;show V.ub≠w.heap.size+1;omega)) (Below.heap_setCell w7 ⟨w.heap.size+1,0,none⟩ _ r (by have:=HZ.out.2.2;show r≠w.heap.size+1;omega)),
         hnb7.far (p:=⟨w.heap.size+1,0,none⟩) (by have:=HNBL.out;show nb≠w.heap.size+1;omega) _,hvb7.far (p:=⟨w.heap.size+1,0,none⟩) (by have:=HVB.out;show vb≠w.heap.size+1;omega) _,
         hm7.kept ((zan.refl _).setCell (p:=⟨w.heap.size+1,0,none⟩) hcb7 _),Nat.le_trans HI.out.z (Nat.le_trans hf.size (by simp[World.setCell]))⟩⟩)
       clear hf hkr hrg hnb7 hvb7 hm7 hcb7 hP7 hp7 hf7 hto
       gi_wp2
       exact FIN.out
      ·have hP7:=(HP2.out.below hbB.out).old hp7 hf7 hto
       have FIN:=zH (show zan W w7∧FdI U st0 fb wf wR V out st w mu r (l1++l2) n nb j u vb wu.drew.heap.size ds2 (i+1) w7 from
        ⟨hkr,⟨⟨c2,st2,hP7,fun hc=>⟨(HC2.out hc).1,(HC2.out hc).2.1,fun o' ho'=>by
         rw[List.take_add_one,HO.out]at ho'
         rcases List.mem_append.1 ho' with ho' | ho'
         ·exact(HC2.out hc).2.2 o' ho'
         ·have e:o'=o:=by simpa using ho'
          subst e
          rw[HUS.out.1,HUS.out.2,← HP2.out.eqs hc]
          exact hto⟩⟩,hrg,hnb7,hvb7,hm7,Nat.le_trans HI.out.z hf.size⟩⟩)
       clear hf hkr hrg hnb7 hvb7 hm7 hcb7 hP7 hp7 hf7 hto
       gi_wp2
       exact FIN.out
    ·go_simp
     refine hK.out _ _ (HVS.out _ (((Below.refl _ _).alloc (Nat.le_refl _) _).drew)) (fun hHeld=>?_)
     clear hK K
     refine rdy 6 (by kernel_rfl) rfl fun K hK=>?_
     go_simp
     refine hK.out _ _ (HVS.out _ (((Below.refl _ _).alloc (Nat.le_refl _) _).alloc (by simp) _).drew) (fun hHeld=>?_)
     clear hK K
     refine rdy 8 (by kernel_rfl) rfl fun K hK=>?_
     go_simp
     refine hK.out _ _ (HVS.out _ (((Below.refl _ _).alloc (Nat.le_refl _) _).alloc (by simp) _).drew) (fun hHeld=>?_)
     clear hK K
     refine lst (by kernel_rfl) rfl fun K hK=>?_
     go_simp
     refine hK _ _ ?_
     refine zgo ?_
     refine hK1 _ _ ?_
     clear hK K hK1 K1 hHeld
     have hvbc:=HI.out.vb.cell
     have hvbl:=HI.out.vb.lt
     have hsxc:=HP2.out.sx.cell
     have hsxl:=HP2.out.sx.lt
     simp only[zd6]at hvbc
     cases hup:u.put
     ·rw[hup]at hvbc
      have hbB:=zH (show Below W.heap.size W _ from(((Below.refl W.heap.size W).alloc (Nat.le_refl _) (.cells #[.int .u8 (u.n.k:Int),.int .i64 (u.n.a:Int),.int .i64 u.n.b] 419)).alloc (by simp) (.cells #[.int .u8 (102:Int),.int .i64 (o:Int),.int .i64 (u.f:Int)] 419)).drew)
      have HUS:=zH (show useA o u=⟨102,o,u.f⟩∧useB o u=u.n by unfold useA useB;rw[hup];exact⟨rfl,rfl⟩)
      have HED:=zH (HUI.out.2.2.2.2.1 hup)
      clear hup
      gi_wp2
      refine⟨trivial,CallsIn.inRound l ((callsIn_wide.2 (zih wf.heap.size fb wf V st2 out (⟨102,o,u.f⟩:Nd) u.n _ (HP2.out.inv.p.below hbB.out) HUI.out.1 HUI.out.2.1)).mono ?_)⟩
      rintro e w7 ⟨rfl,hp7,hf7⟩
      clear hvbc hvbl hsxc hsxl
      have hf:=(EdFr.below (V:=V) hbB.out).trans hf7
      have hkr:zan W w7:=⟨hf.size,fun k o ho hr=>hf.same k o ho (.inl fun _ _ e=>by subst e;cases hr)⟩
      have hrg:za6 w7 V.ub r ndV NdOk id mu (l1++l2):=HI.out.rg.ed hf
      have hnb7:=HI.out.nb.nm (NmFr.ed hf)
      have hvb7:=HI.out.vb.nm (NmFr.ed hf)
      have hm7:=HI.out.m.ed hf
      have hcb7:=HP2.out.cb.nm (NmFr.ed hf)
      cases hto:st2.to (⟨102,o,u.f⟩:Nd) u.n
      ·have hP7:=(HP2.out.below hbB.out).fresh hp7 hf7 hto HED.out HUI.out.2.2.1 HUI.out.2.2.2.1 HZ.out.1 HZ.out.2.1
       have hcbc:=hcb7.cell
       have hcbf:=hcb7.frozen
       have hcbl:=hcb7.lt
       have FIN:=zH (show zan W (w7.setCell ⟨w.heap.size+1,0,none⟩ (.bool true))∧FdI U st0 fb wf wR V out st w mu r (l1++l2) n nb j u vb wu.drew.heap.size ds2 (i+1) (w7.setCell ⟨w.heap.size+1,0,none⟩ (.bool true))from
        ⟨hkr.setCell (p:=⟨w.heap.size+1,0,none⟩) hcb7 _,⟨⟨true,_,hP7,fun h=>by cases h⟩,
         hrg.of_blocks (Below.heap_setCell w7 ⟨w.heap.size+1,0,none⟩ _ V.ub (by have:=HM.out.u.lt;show V.ub≠w.heap.size+1;omega)) (Below.heap_setCell w7 ⟨w.heap.size+1,0,none⟩ _ r (by have:=HZ.out.2.2;show r≠w.heap.size+1;omega)),
         hnb7.far (p:=⟨w.heap.size+1,0,none⟩) (by have:=HNBL.out;show nb≠w.heap.size+1;omega) _,hvb7.far (p:=⟨w.heap.size+1,0,none⟩) (by have:=HVB.out;show vb≠w.heap.size+1;omega) _,
         hm7.kept ((zan.refl _).setCell (p:=⟨w.heap.size+1,0,none⟩) hcb7 _),Nat.le_trans HI.out.z (Nat.le_trans hf.size (by simp[World.setCell]))⟩⟩)
       clear hf hkr hrg hnb7 hvb7 hm7 hcb7 hP7 hp7 hf7 hto
       gi_wp2
       exact FIN.out
      ·have hP7:=(HP2.out.below hbB.out).old hp7 hf7 hto
       have FIN:=zH (show zan W w7∧FdI U st0 fb wf wR V out st w mu r (l1++l2) n nb j u vb wu.drew.heap.size ds2 (i+1) w7 from
        ⟨hkr,⟨⟨c2,st2,hP7,fun hc=>⟨(HC2.out hc).1,(HC2.out hc).2.1,fun o' ho'=>by
         rw[List.take_add_one,HO.out]at ho'
         rcases List.mem_append.1 ho' with ho' | ho'
         ·exact(HC2.out hc).2.2 o' ho'
         ·have e:o'=o:=by simpa using ho'
          subst e
          rw[HUS.out.1,HUS.out.2,← HP2.out.eqs hc]
          exact hto⟩⟩,hrg,hnb7,hvb7,hm7,Nat.le_trans HI.out.z hf.size⟩⟩)
       clear hf hkr hrg hnb7 hvb7 hm7 hcb7 hP7 hp7 hf7 hto
       gi_wp2
       exact FIN.out
     ·rw[hup]at hvbc
      have hbB:=zH (show Below W.heap.size W _ from(((Below.refl W.heap.size W).alloc (Nat.le_refl _) (.cells #[.int .u8 (102:Int),.int .i64 (o:Int),.int .i64 (u.f:Int)] 419)).alloc (by simp) (.cells #[.int .u8 (u.n.k:Int),.int .i64 (u.n.a:Int),.int .i64 u.n.b] 419)).drew)
      have HUS:=zH (show useA o u=u.n∧useB o u=⟨102,o,u.f⟩ by unfold useA useB;rw[hup];exact⟨rfl,rfl⟩)
      have HED:=zH (HUI.out.2.2.2.2.2 hup)
      clear hup
      gi_wp2
      refine⟨trivial,CallsIn.inRound l ((callsIn_wide.2 (zih wf.heap.size fb wf V st2 out u.n (⟨102,o,u.f⟩:Nd) _ (HP2.out.inv.p.below hbB.out) HUI.out.2.1 HUI.out.1)).mono ?_)⟩
      rintro e w7 ⟨rfl,hp7,hf7⟩
      clear hvbc hvbl hsxc hsxl
      have hf:=(EdFr.below (V:=V) hbB.out).trans hf7
      have hkr:zan W w7:=⟨hf.size,fun k o ho hr=>hf.same k o ho (.inl fun _ _ e=>by subst e;cases hr)⟩
      have hrg:za6 w7 V.ub r ndV NdOk id mu (l1++l2):=HI.out.rg.ed hf
      have hnb7:=HI.out.nb.nm (NmFr.ed hf)
      have hvb7:=HI.out.vb.nm (NmFr.ed hf)
      have hm7:=HI.out.m.ed hf
      have hcb7:=HP2.out.cb.nm (NmFr.ed hf)
      cases hto:st2.to u.n (⟨102,o,u.f⟩:Nd)
      ·have hP7:=(HP2.out.below hbB.out).fresh hp7 hf7 hto HED.out HUI.out.2.2.2.1 HUI.out.2.2.1 HZ.out.1 HZ.out.2.1
       have hcbc:=hcb7.cell
       have hcbf:=hcb7.frozen
       have hcbl:=hcb7.lt
       have FIN:=zH (show zan W (w7.setCell ⟨w.heap.size+1,0,none⟩ (.bool true))∧FdI U st0 fb wf wR V out st w mu r (l1++l2) n nb j u vb wu.drew.heap.size ds2 (i+1) (w7.setCell ⟨w.heap.size+1,0,none⟩ (.bool true))from
        ⟨hkr.setCell (p:=⟨w.heap.size+1,0,none⟩) hcb7 _,⟨⟨true,_,hP7,fun h=>by cases h⟩,
         hrg.of_blocks (Below.heap_setCell w7 ⟨w.heap.size+1,0,none⟩ _ V.ub (by have:=HM.out.u.lt;show V.ub≠w.heap.size+1;omega)) (Below.heap_setCell w7 ⟨w.heap.size+1,0,none⟩ _ r (by have:=HZ.out.2.2;show r≠w.heap.size+1;omega)),
         hnb7.far (p:=⟨w.heap.size+1,0,none⟩) (by have:=HNBL.out;show nb≠w.heap.size+1;omega) _,hvb7.far (p:=⟨w.heap.size+1,0,none⟩) (by have:=HVB.out;show vb≠w.heap.size+1;omega) _,
         hm7.kept ((zan.refl _).setCell (p:=⟨w.heap.size+1,0,none⟩) hcb7 _),Nat.le_trans HI.out.z (Nat.le_trans hf.size (by simp[World.setCell]))⟩⟩)
       clear hf hkr hrg hnb7 hvb7 hm7 hcb7 hP7 hp7 hf7 hto
       gi_wp2
       exact FIN.out
      ·have hP7:=(HP2.out.below hbB.out).old hp7 hf7 hto
       have FIN:=zH (show zan W w7∧FdI U st0 fb wf wR V out st w mu r (l1++l2) n nb j u vb wu.drew.heap.size ds2 (i+1) w7 from
        ⟨hkr,⟨⟨c2,st2,hP7,fun hc=>⟨(HC2.out hc).1,(HC2.out hc).2.1,fun o' ho'=>by
         rw[List.take_add_one,HO.out]at ho'
         rcases List.mem_append.1 ho' with ho' | ho'
         ·exact(HC2.out hc).2.2 o' ho'
         ·have e:o'=o:=by simpa using ho'
          subst e
          rw[HUS.out.1,HUS.out.2,← HP2.out.eqs hc]
          exact hto⟩⟩,hrg,hnb7,hvb7,hm7,Nat.le_trans HI.out.z hf.size⟩⟩)
       clear hf hkr hrg hnb7 hvb7 hm7 hcb7 hP7 hp7 hf7 hto
       gi_wp2
       exact FIN.out
  ·have hj2:j=(st.us n).length:=by omega
   subst hj2
   have REL:=zH (show FdO U st0 fb wf wR V out st w mu r (l1++l2).length ds2 wm from⟨c,st',l1++l2,rfl,HR.out,HP.out,fun hc n1 v1 h1=>by
    rcases(HCL.out hc).1 n1 v1 h1 with h2 | h2 | h2
    ·exact .inl h2
    ·subst h2
     have h3:=(HCL.out hc).2
     rw[List.take_length]at h3
     exact .inr h3
    ·exact .inr h2,HMK.out⟩)
   clear HCL
   go_wp2_with fail
   go_roundg (l1++l2).length
   case measure=>have h1:=HG.out;have h2:=HLL.out;omega
   case rel=>exact REL.out
end
section
open Go.RowKit Go.Maps Go.ChangeMaps Go.Shelf
attribute [local go_sem] Oper.semAt_some
set_option linter.unusedSimpArgs false
def OutP (st:PS)(x0 o:Nat):Prop:=∀ S:Nat→Prop,(∀ o,x0.testBit o=true→S o)→(∀ o f o':Nat,S o→f<2→(st.ho ⟨102,o,f⟩).testBit o'=true→S o')→S o
def zkm (st:PS)(x:Nat):Prop:=∀ o,x.testBit o=true→∀ f:Nat,f<2→x|||st.ho ⟨102,o,f⟩=x
theorem OutP.done {st:PS}{x0 x:Nat}(hs:∀ o,x.testBit o=true→OutP st x0 o)(hg:∀ o,x0.testBit o=true→x.testBit o=true)(hc:zkm st x)(o:Nat):x.testBit o=true↔OutP st x0 o :=
 ⟨hs o,fun h=>h (fun o=>x.testBit o=true) hg fun o f o' h1 h2 h3=>by rw[← hc o h1 f h2,Nat.testBit_or,h3,Bool.or_true]⟩
theorem PtM.setOut {w:World}{B fb:Nat}{V:PtV}{st:PS}{out:Nat}{mh:List (Nd×(Nat×Nat))}{mt:List (Nd×Nat)}{mu:List (Nd×Value)}(h:PtM w B fb V st out mh mt mu)(x:Nat):PtM (w.setCell ⟨V.sb,4,none⟩ (zaa x)) B fb V st x mh mt mu:=by
 have hm:∀ {κ ν : Type} {enc:κ → Value} {ok:κ → Prop} {encv:ν → Value} {m:List (κ × ν)} {b:Nat},zaf w b enc ok encv m→zaf (w.setCell ⟨V.sb,4,none⟩ (zaa x)) b enc ok encv m:=fun h'=>h'.far (p:=⟨V.sb,4,none⟩) (h'.cellFar h.s) _
 refine⟨(h.s.set_ 4 _).cast rfl,hm h.h,h.hv,hm h.t,h.tn,fun n b hb=>?_,h.t0,hm h.u,fun n v hv=>?_,h.un,h.u0,h.bB,h.ne,h.sm⟩
 ·obtain⟨⟨m,a,b1⟩,c⟩:=h.ti n b hb
  exact⟨⟨m,hm a,b1⟩,c⟩
 ·exact zaj (h.ur n v hv) h.s (by decide) 4 _
theorem PtAt.setOut {B fb:Nat}{wf:World}{V:PtV}{st:PS}{out:Nat}{w:World}(h:PtAt B fb wf V st out w)(x:Nat):PtAt B fb wf V st x (w.setCell ⟨V.sb,4,none⟩ (zaa x)):=by
 obtain⟨h1,h2,mh,mt,mu,h3⟩:=h
 exact⟨h1.setCell (p:=⟨V.sb,4,none⟩) h3.bB.1 _,by simpa [World.setCell] using h2,mh,mt,mu,h3.setOut x⟩
theorem zir (w:World)(g i:Nat)(u:Value):w.grownBy (w.setCell ⟨g,i,none⟩ u) (some g):=by
 have hx:=(Below.refl 0 w).setCell (p:=⟨g,i,none⟩) (Nat.zero_le _) u
 exact⟨hx.os,hx.tape,hx.output,hx.size,fun k _ hk=>Below.heap_setCell _ _ _ _ (fun e=>hk (by rw[e]))⟩
structure zc9 (fb:Nat)(wf wR:World)(V:PtV)(st:PS)(x0:Nat)(x:Nat)(W:World):Prop where
 p:PtAt wf.heap.size fb wf V st x W
 s:∀ o,x.testBit o=true→OutP st x0 o
 g:∀ o,x0.testBit o=true→x.testBit o=true
 n:wR.grownBy W (some V.sb)
 b:x<2 ^ 48
section
variable {fb:Nat} {wf wR:World} {V:PtV} {st:PS} {x0 x N:Nat} {W W':World}
theorem PtAt.pt {B:Nat}{out:Nat}{w w':World}(h:PtAt B fb wf V st out w)(hk:PtKp w w')(hb:Below N w w')(hN:B≤N):PtAt B fb wf V st out w':=by
 obtain⟨h1,h2,mh,mt,mu,h3⟩:=h
 exact⟨h1.trans (hb.mono hN),Nat.le_trans h2 hk.size,mh,mt,mu,h3.kp hk⟩
theorem zc9.below (h:zc9 fb wf wR V st x0 x W)(hb:Below W.heap.size W W'):zc9 fb wf wR V st x0 x W':=⟨h.p.below hb,h.s,h.g,zri h.n hb,h.b⟩
theorem zc9.recs (h:zc9 fb wf wR V st x0 x W)(hr:Recs N W W')(hN:wf.heap.size≤N)(hR:wR.heap.size≤N):zc9 fb wf wR V st x0 x W' :=
 ⟨h.p.pt (PtKp.recs hr) hr.below hN,h.s,h.g,⟨hr.os.trans h.n.os,hr.tape.trans h.n.tape,hr.output.trans h.n.output,Nat.le_trans h.n.size hr.size,fun k hk hrow=>(hr.low k (by omega)).trans (h.n.block k hk hrow)⟩,h.b⟩
theorem zc9.grow {o f:Nat}(h:zc9 fb wf wR V st x0 x W)(ho:OutP st x0 o)(hf:f<2)(hs:st.ho ⟨102,o,f⟩<2 ^ 48):zc9 fb wf wR V st x0 (x|||st.ho ⟨102,o,f⟩) (W.setCell ⟨V.sb,4,none⟩ (zaa (x|||st.ho ⟨102,o,f⟩))) :=
 ⟨h.p.setOut _,fun o' ho'=>by
  rw[Nat.testBit_or,Bool.or_eq_true]at ho'
  rcases ho' with ho' | ho'
  ·exact h.s o' ho'
  ·exact fun S h1 h2=>h2 o f o' (ho S h1 h2) hf ho',fun o' ho'=>by rw[Nat.testBit_or,h.g o' ho',Bool.true_or],by
  have hk:=zir W V.sb 4 (zaa (x|||st.ho ⟨102,o,f⟩))
  exact⟨h.n.os,h.n.tape,h.n.output,Nat.le_trans h.n.size hk.size,fun k hk' hrow=>(hk.block k (Nat.lt_of_lt_of_le hk' h.n.size) hrow).trans (h.n.block k hk' hrow)⟩,Nat.or_lt_two_pow h.b hs⟩
theorem zc9.note {g:Nat}{cs:Array Value}(h:zc9 fb wf wR V st x0 x W)(hb:Blk W g 4 cs)(hg:wf.heap.size≤g)(hgR:wR.heap.size≤g)(u:Value):zc9 fb wf wR V st x0 x (W.setCell ⟨g,0,none⟩ u):=by
 refine⟨?_,h.s,h.g,?_,h.b⟩
 ·obtain⟨h1,h2,mh,mt,mu,h3⟩:=h.p
  exact⟨h1.setCell (p:=⟨g,0,none⟩) hg _,by simpa [World.setCell] using h2,mh,mt,mu,h3.kp (PtKp.set hb (by decide) (by decide) 0 _)⟩
 ·exact⟨h.n.os,h.n.tape,h.n.output,by simpa [World.setCell] using h.n.size,fun k hk hrow=>(Below.heap_setCell W ⟨g,0,none⟩ u k (by show k≠g;omega)).trans (h.n.block k hk hrow)⟩
end
structure EsP (fb:Nat)(wf wR:World)(V:PtV)(st:PS)(x0 xA:Nat)(w:World)(c:Bool)(x:Nat)(W:World):Prop where
 inv:zc9 fb wf wR V st x0 x W
 cb:Blk W w.heap.size 4 #[.bool c]
 ls:c=true→2 ^ 48-x<2 ^ 48-xA
 eqs:c=false→x=xA
structure EsI (fb:Nat)(wf wR:World)(V:PtV)(st:PS)(x0 xA:Nat)(w:World)(N i:Nat)(W:World):Prop where
 ex:∃ c x,EsP fb wf wR V st x0 xA w c x W∧(c=false→∀ o ∈ (mems xA).take i,∀ f:Nat,f<2→xA|||st.ho ⟨102,o,f⟩=xA)
 z:N≤W.heap.size
theorem EsI.recs {fb:Nat}{wf wR:World}{V:PtV}{st:PS}{x0 xA:Nat}{w:World}{N N' i:Nat}{W W':World}(h:EsI fb wf wR V st x0 xA w N' i W)(h1:wf.heap.size≤N)(h2:wR.heap.size≤N)(hr:Recs N W W'):EsI fb wf wR V st x0 xA w N' i W':=by
 obtain⟨c,x,a,b⟩:=h.ex
 exact⟨⟨c,x,⟨a.inv.recs hr h1 h2,a.cb.recs hr,a.ls,a.eqs⟩,b⟩,Nat.le_trans h.z hr.size⟩
def EsF (fb:Nat)(wf wR:World)(V:PtV)(st:PS)(x0 xA:Nat)(w:World)(N i o:Nat)(W0:World)(v11:Value)(W:World):Prop :=
 ∃ (f:Nat) (c:Bool) (x:Nat),v11=.int .i64 f∧f≤2∧EsP fb wf wR V st x0 xA w c x W∧(c=false→(∀ o ∈ (mems xA).take i,∀ f:Nat,f<2→xA|||st.ho ⟨102,o,f⟩=xA)∧∀ f':Nat,f'<f→xA|||st.ho ⟨102,o,f'⟩=xA)∧zan W0 W∧N≤W.heap.size
theorem zvv (fb:Nat)(wf wR:World)(V:PtV)(st:PS)(x0 xA:Nat)(vx:Nat)(w:World)(h:zc9 fb wf wR V st x0 xA w)(hvx:Blk wR vx 298 #[.pointer (some ⟨V.sb,0,none⟩)])(hne:vx≠V.sb) :
  Calls Tryz.prog 282 #[.pointer (some ⟨vx,0,none⟩)] w (zhm (zc9 fb wf wR V st x0) (fun x=>2 ^ 48-x) (zkm st) xA):=by
 have HVX:=zH (fun x W (h:zc9 fb wf wR V st x0 x W)=>hvx.grown h.n (fun e=>hne (by injection e)))
 have hvxc:=(HVX.out xA w h).cell
 have hvxl:=(HVX.out xA w h).lt
 obtain⟨mh,mt,mu,hm⟩:=h.p.m
 have hsc:=hm.s.cell
 unfold zeh at hsc
 have hsl:=hm.s.lt
 have HSM:=zH hm.sm
 have H:=zH h
 clear hm h hvx
 have hmf:∀ (fn:Fn) (first cap:Array Value) (w:World),(Instr.makeFunc fn first cap).run Tryz.prog w=.ok (.func fn first cap) w:=fun _ _ _ _=>rfl
 have hfo:=fun(a b:Nat) (w:World)=>zl2 (zaa a) (zaa b) w
 refine zjv Tryz.func282 rfl ?_
 simp only[Tryz.ntmps282,List.size_toArray,List.length_cons,List.length_nil,Nat.reduceAdd,Nat.reduceSub,Array.replicate_succ,Array.replicate_zero,List.push_toArray,List.append_toArray,List.nil_append,List.cons_append]
 go_wp2_with fail
 have hb1:Below w.heap.size w (w.alloc (.cells #[.bool false] 4)):=(Below.refl _ _).alloc (Nat.le_refl _) _
 have hcb1:Blk (w.alloc (.cells #[.bool false] 4)) w.heap.size 4 #[.bool false]:=Blk.newAt rfl
 generalize hW:w.alloc (.cells #[.bool false] 4)=w1 at hb1 hcb1 ⊢
 have hz1:w1.heap.size=w.heap.size+1:=by rw[← hW];simp
 clear hW hvxc hvxl hsc hsl
 have HZ:=zH (show wf.heap.size≤w.heap.size∧wR.heap.size≤w.heap.size∧w.heap.size≤w1.heap.size from⟨H.out.p.bs,H.out.n.size,by omega⟩)
 have INI:=zH (show EsI fb wf wR V st x0 xA w w1.heap.size 0 w1 from⟨⟨false,xA,⟨H.out.below hb1,hcb1,fun h=>(by cases h),fun _=>rfl⟩,fun _ o ho=>by simp at ho⟩,Nat.le_refl _⟩)
 have hx48:=H.out.b
 clear hb1 hcb1
 refine(wpIn_wide (n:=3)).1 (zkx (gf:=237) (first:=#[zaa xA]) (cap:=#[]) rfl zkc (zkv 2 xA hx48) rfl
  (EsI fb wf wR V st x0 xA w w1.heap.size) (fun _ _=>False) (fun i W W' hr h=>h.recs (Nat.le_trans HZ.out.1 HZ.out.2.2) (Nat.le_trans HZ.out.2.1 HZ.out.2.2) hr) (fun _ _ _ _ h=>h) INI.out
  (fun y=>{ tmps:=#[.pointer (some ⟨vx,0,none⟩),.bool false,.pointer (some ⟨w.heap.size,0,none⟩),y,undef,.pointer (some ⟨V.sb,0,none⟩),.pointer (some ⟨V.sb,0,none⟩),.pointer (some ⟨V.sb,4,none⟩),zaa xA,.func (.func 237) #[zaa xA] #[],y,undef,undef,undef,undef,undef,undef,undef,undef,undef,undef,undef,undef,undef,undef,undef,undef,undef,undef],defers:=[] }) ?assign ?body ?done ?stop)
 case assign =>
  intro l x W K hK
  gi_wp2
  exact hK
 case stop=>exact fun c W h _=>h.elim
 case done =>
  rintro W hI hD
  obtain⟨c,x,hP,hcl⟩:=hI.ex
  have hcbc:=hP.cb.cell
  have FIN:=zH (show ∃ x2 c2,c2=c∧zc9 fb wf wR V st x0 x2 W∧(c2=true→2 ^ 48-x2<2 ^ 48-xA)∧(c2=false→x2=xA∧zkm st xA)from
   ⟨x,c,rfl,hP.inv,hP.ls,fun hc=>⟨hP.eqs hc,fun o ho f hf=>hcl hc o (by
    rw[show((mems xA).map fun k:Nat=>Value.int .i64 (k:Int)).length=(mems xA).length by simp,List.take_length,zje hx48]
    exact ho) f hf⟩⟩)
  have HD:=zH hD
  have HCB:=zH hP.cb
  clear hP hcl hI hD
  go_wp2_with fail
  refine zia (B:=w.heap.size) (fun W=>∃ x2 c2,c2=c∧zc9 fb wf wR V st x0 x2 W∧(c2=true→2 ^ 48-x2<2 ^ 48-xA)∧(c2=false→x2=xA∧zkm st xA)) (fun W W' hr h=>?_) (fun W h=>?_) _ W ?_ FIN.out
  ·obtain⟨x2,c2,h1,h2,h3⟩:=h
   exact⟨x2,c2,h1,h2.recs hr HZ.out.1 HZ.out.2.1,h3⟩
  ·obtain⟨x2,c2,rfl,h2,h3,h4⟩:=h
   exact⟨.bool c2,(results_tmp rfl _ _ _).trans rfl,x2,c2,rfl,h2,h3,h4⟩
  ·refine⟨?_,by simp⟩
   rintro d hd
   simp at hd
   exact⟨_,HZ.out.2.2,hd,HD.out⟩
 case body =>
  rintro l i y W hy hI hz
  obtain⟨o,ho,rfl⟩:∃ o,(mems xA)[i]? = some o∧Value.int .i64 (o:Int)=y:=by simpa using hy
  obtain⟨c,x,hP,hcl⟩:=hI.ex
  have HO:=zH ho
  have ho48:=zoy (List.mem_of_getElem? ho)
  have HOP:=zH (show OutP st x0 o from H.out.s o ((zje hx48).1 (List.mem_of_getElem? ho)))
  have ST:=zH (show EsF fb wf wR V st x0 xA w w1.heap.size i o W (.int .i64 (0:Int)) W from⟨0,c,x,rfl,by omega,hP,fun hc=>⟨hcl hc,fun f' hf=>by omega⟩,zan.refl W,hI.z⟩)
  clear hI hP hcl hy ho
  gi_wp2
  gi_loopw [11] (fun v11 wr=>EsF fb wf wR V st x0 xA w w1.heap.size i o W v11 wr) (fun v11 _=>2-(intOf v11).toNat)
  case atStart=>exact ST.out
  case round =>
   obtain⟨f,c,x,rfl,hf2,hP,hcl,hkr,hzN⟩:=hrel
   have HP:=zH hP
   have HCL:=zH hcl
   have HKR:=zH hkr
   have HZN:=zH hzN
   clear hP hcl hkr hzN
   by_cases hlt:f<2
   ·have hd:decide ((f:Int)<2)=true:=by simp;omega
    have hno:NdOk ⟨102,o,f⟩:=⟨by show 102<256;omega,by show o<1000000;omega,by show -1000000<(f:Int);omega,by show(f:Int)<1000000;omega⟩
    obtain⟨mh3,mt3,mu3,hm3⟩:=HP.out.inv.p.m
    have hsf:=(HSM.out ⟨102,o,f⟩).1
    have hHeld:(∀ j,wr.drew.cell? ⟨V.sb,j,none⟩=#[.pointer (some ⟨fb,0,none⟩),.map (some V.hb),.map (some V.tb),.map (some V.ub),zaa x][j]?)∧(Instr.lookup 378 (.map (some V.hb)) (.agg #[.int .u8 (102:Int),.int .i64 (o:Int),.int .i64 (f:Int)]) false).run Tryz.prog wr.drew=.ok (.agg #[zaa (st.ho ⟨102,o,f⟩),zaa (st.ht ⟨102,o,f⟩)]) wr.drew∧wr.drew.cell? ⟨vx,0,none⟩=some (.pointer (some ⟨V.sb,0,none⟩)) :=
     ⟨(hm3.kp (PtKp.drew wr)).s.cell,(hm3.kp (PtKp.drew wr)).look hno,(HVX.out x wr HP.out.inv).drew.cell 0⟩
    have hsd:=hm3.s.drew
    have hsc:=hsd.cell
    have hsf4:=hsd.frozen
    clear hm3
    gi_wp2
    refine zlm 12 (fun(W':World)=>(∀ j,W'.cell? ⟨V.sb,j,none⟩=#[.pointer (some ⟨fb,0,none⟩),.map (some V.hb),.map (some V.tb),.map (some V.ub),zaa x][j]?)∧(Instr.lookup 378 (.map (some V.hb)) (.agg #[.int .u8 (102:Int),.int .i64 (o:Int),.int .i64 (f:Int)]) false).run Tryz.prog W'=.ok (.agg #[zaa (st.ho ⟨102,o,f⟩),zaa (st.ht ⟨102,o,f⟩)]) W'∧W'.cell? ⟨vx,0,none⟩=some (.pointer (some ⟨V.sb,0,none⟩))) (by kernel_rfl) rfl rfl (by kernel_rfl) (by kernel_rfl) ?_
    simp only[List.take_succ_cons,List.take_zero]
    iterate 12(refine tk 0 rfl (by kernel_rfl) (fun _ _ _ h=>h) hHeld (fun w hSw=>by go_simp;try with_reducible rfl) (by simp only[pA,pB,pC,pD,pE,pF,pG,pH];exact rfl) ?_)
    refine lst (by kernel_rfl) rfl fun K hK=>?_
    go_simp
    refine(zhx x (st.ho ⟨102,o,f⟩) ⟨V.sb,4,none⟩ wr.drew HP.out.inv.b hsf (hsc 4) (hsf4 4)).mono ?_
    rintro e w4 ⟨rfl,rfl⟩
    refine hK _ _ ?_
    refine zgo ?_
    have hbd:Below wr.heap.size wr wr.drew:=(Below.refl _ _).drew
    have hI4:=(HP.out.inv.below hbd).grow (o:=o) (f:=f) HOP.out hlt hsf
    have hc4:=HP.out.cb.drew.far (p:=⟨V.sb,4,none⟩) (HP.out.cb.drew.ne_ hsd (by decide)) (zaa (x|||st.ho ⟨102,o,f⟩))
    have hk4:zan W (wr.drew.setCell ⟨V.sb,4,none⟩ (zaa (x|||st.ho ⟨102,o,f⟩))):=(HKR.out.trans (zan.of_below hbd)).setCell (p:=⟨V.sb,4,none⟩) hsd _
    have hz4:w1.heap.size≤(wr.drew.setCell ⟨V.sb,4,none⟩ (zaa (x|||st.ho ⟨102,o,f⟩))).heap.size:=Nat.le_trans HZN.out (by simp[World.setCell])
    generalize wr.drew.setCell ⟨V.sb,4,none⟩ (zaa (x|||st.ho ⟨102,o,f⟩))=w5 at hI4 hc4 hk4 hz4 ⊢
    clear hK hHeld hsd hsc hsf4 hd hno
    cases hne2:((x|||st.ho ⟨102,o,f⟩) != x)
    ·have he:x|||st.ho ⟨102,o,f⟩=x:=by simpa using hne2
     rw[he]at hI4
     have REL:=zH (show EsF fb wf wR V st x0 xA w w1.heap.size i o W (.int .i64 ((f+1:Nat):Int)) w5 from⟨f+1,c,x,rfl,hlt,⟨hI4,hc4,HP.out.ls,HP.out.eqs⟩,fun hc=>⟨(HCL.out hc).1,fun f' hf'=>by
      rcases Nat.lt_or_ge f' f with h | h
      ·exact(HCL.out hc).2 f' h
      ·obtain rfl:f'=f:=by omega
       have e:=HP.out.eqs hc
       rw[← e];exact he⟩,hk4,hz4⟩)
     clear hI4 hc4 hk4 hz4 he hne2
     gi_wp2
     go_roundw
     case rel=>rw[show((f:Int)+1)=((f+1:Nat):Int) by omega];exact REL.out
     case measure=>simp only[intOf];omega
    ·have he:x|||st.ho ⟨102,o,f⟩≠x:=by simpa using hne2
     have hl2:2 ^ 48-(x|||st.ho ⟨102,o,f⟩)<2 ^ 48-x:=by
      have h1:=Nat.left_le_or (n:=x) (m:=st.ho ⟨102,o,f⟩)
      have h2:=Nat.or_lt_two_pow HP.out.inv.b hsf
      omega
     have hcbc:=hc4.cell
     have hcbf:=hc4.frozen
     have hcbl:=hc4.lt
     have REL:=zH (show EsF fb wf wR V st x0 xA w w1.heap.size i o W (.int .i64 ((f+1:Nat):Int)) (w5.setCell ⟨w.heap.size,0,none⟩ (.bool true))from⟨f+1,true,_,rfl,hlt,⟨hI4.note hc4 HZ.out.1 HZ.out.2.1 _,(hc4.set_ 0 _).cast rfl,fun _=>by
      cases hc:c
      ·rw[← HP.out.eqs hc];exact hl2
      ·exact Nat.lt_trans hl2 (HP.out.ls hc),fun h=>(by cases h)⟩,fun h=>(by cases h),hk4.setCell (p:=⟨w.heap.size,0,none⟩) hc4 _,Nat.le_trans hz4 (by simp[World.setCell])⟩)
     clear hI4 hc4 hk4 hz4 he hne2 hl2
     gi_wp2
     go_roundw
     case rel=>rw[show((f:Int)+1)=((f+1:Nat):Int) by omega];exact REL.out
     case measure=>simp only[intOf];omega
   ·obtain rfl:f=2:=by omega
    have FIN:=zH (show zan W wr∧EsI fb wf wR V st x0 xA w w1.heap.size (i+1) wr from⟨HKR.out,⟨c,x,HP.out,fun hc o' ho' f' hf'=>by
     rw[List.take_add_one,HO.out]at ho'
     rcases List.mem_append.1 ho' with ho' | ho'
     ·exact(HCL.out hc).1 o' ho' f' hf'
     ·have e:o'=o:=by simpa using ho'
      subst e
      exact(HCL.out hc).2 f' hf'⟩,HZN.out⟩)
    gi_wp2
    exact FIN.out
end
end Go.Proofs.YtkmcihhndgdhpaaGreat
