/- Parts of the walk. -/
import Derived.Test.YtkmcihhndgdhpaaGreatWA8
set_option maxRecDepth 100000
set_option maxHeartbeats 4000000
set_option linter.unusedSimpArgs false
set_option linter.unusedVariables false
open Go.ChangeMaps Go.Maps Go.RowKit Go.Shelf Go.Proofs.Tryz
namespace Go.Proofs.YtkmcihhndgdhpaaGreat
variable {w w' wf:World}{st st0:PS}{r B out fb:Nat}{a b n:Nd}{U:List Nd}{V:PtV}{mu:List (Nd×Value)}
theorem mDa {p:Prop}(h:p:=by
  have hcbc:=hcb7.cell;have hcbf:=hcb7.frozen;have hcbl:=hcb7.lt;have FIN:=zH (show zP W (w7.setCell (.a (w.heap.size+1) 0) (.bool true))/\FdI U st0 fb wf wR V out st w mu r (l1++l2) n nb j u vb wu.drew.heap.size ds2 (i+1) (w7.setCell (.a (w.heap.size+1) 0) (.bool true))from
   ⟨hkr.setCell (p:=(.a (w.heap.size+1) 0)) hcb7 _,⟨⟨true,_,hP7,fun h=>by cases h⟩,
    hrg.qj (yt w7 ⟨w.heap.size+1,0,none⟩ _ V.ub (by have:=HM.o.u.lt;show V.ub≠w.heap.size+1;omega)) (yt w7 ⟨w.heap.size+1,0,none⟩ _ r (by have:=HZ.o.2.2;show r≠w.heap.size+1;omega)),
    hnb7.qi (p:=(.a (w.heap.size+1) 0)) (by have:=HNBL.o;show nb≠w.heap.size+1;omega) _,hvb7.qi (p:=(.a (w.heap.size+1) 0)) (by have:=HVB.o;show vb≠w.heap.size+1;omega) _,
    hm7.kept ((zP.refl _).setCell (p:=(.a (w.heap.size+1) 0)) hcb7 _),ya HI.o.z (ya hf.size (by simp[World.setCell]))⟩⟩)
  clear hf hkr hrg hnb7 hvb7 hm7 hcb7 hP7 hp7 hf7 hto
  gi_wp2
  exact FIN.o):p:=h
theorem mJa {p:Prop}(h:p:=by
  have hP7:=(HP2.o.below hbB.o).old hp7 hf7 hto;have FIN:=zH (show zP W w7/\FdI U st0 fb wf wR V out st w mu r (l1++l2) n nb j u vb wu.drew.heap.size ds2 (i+1) w7 from
   ⟨hkr,⟨⟨c2,st2,hP7,fun hc=>⟨(HC2.o hc).1,(HC2.o hc).2.1,fun o' ho'=>by
    rw[yam,HO.o]at ho';rcases yu.1 ho' with ho' | ho'
    ·exact(HC2.o hc).2.2 o' ho'
    ·have e:o'=o:=by simpa using ho'
     subst e;rw[HUS.o.1,HUS.o.2,<- HP2.o.eqs hc];exact hto⟩⟩,hrg,hnb7,hvb7,hm7,ya HI.o.z hf.size⟩⟩)
  clear hf hkr hrg hnb7 hvb7 hm7 hcb7 hP7 hp7 hf7 hto
  gi_wp2
  exact FIN.o):p:=h
theorem mJb {p:Prop}(h:p:=by
  rcases yu.1 h2 with h2 | h2
  ·exact .inl (yu.2 (.inl h2))
  ·rcases yW.1 h2 with h2 | h2
   ·injection h2 with h2 _;exact .inr (.inl h2)
   ·exact .inl (yu.2 (.inr h2))):p:=h
theorem mTc {p:Prop}(h:p:=by
  gi_wp2
  go_roundw
  case rel=>rw[show((f:Int)+1)=((f+1:Nat):Int) by omega];exact REL.o
  case measure=>simp only[intOf];omega):p:=h
theorem mVc {p:Prop}(h:p:=by
  go_wp2;go_roundg (k1++k2).length
  case measure=>have h1:=HG2.o;have h2:=HKL.o;omega
  case rel=>exact REL.o):p:=h
theorem mWc {p:Prop}(h:p:=by
  go_wp2;go_roundg (l1++l2).length
  case measure=>have h1:=HG.o;have h2:=HLL.o;omega
  case rel=>exact REL.o):p:=h
structure PCl (st0:PS)(H:Nd->Bool->Nat->Prop)(E:Nd->Nd->Prop):Prop where
 ho:∀ n k,(st0.ho n).testBit k=true->H n false k
 ht:∀ n k,(st0.ht n).testBit k=true->H n true k
 ed:∀ a b,st0.to a b=true->E a b
 get:∀ n u o,u ∈ st0.us n->u.put=false->H n false o->E ⟨102,o,u.f⟩ u.n
 put:∀ n u o,u ∈ st0.us n->u.put=true->H n false o->E u.n ⟨102,o,u.f⟩
 flow:∀ a b t k,E a b->H a t k->H b t k
def zc2 (st0:PS)(n:Nd)(t:Bool)(k:Nat):Prop:=∀ H E,PCl st0 H E->H n t k
def zen (st0:PS)(a b:Nd):Prop:=∀ H E,PCl st0 H E->E a b
theorem zgn (st0:PS):PCl st0 (zc2 st0) (zen st0) :=
 ⟨fun n k h _ _ c=>c.ho n k h,fun n k h _ _ c=>c.ht n k h,fun a b h _ _ c=>c.ed a b h,fun n u o h1 h2 h3 H E c=>c.get n u o h1 h2 (h3 H E c),fun n u o h1 h2 h3 H E c=>c.put n u o h1 h2 (h3 H E c),fun a b t k h1 h2 H E c=>c.flow a b t k (h1 H E c) (h2 H E c)⟩
structure PSnd (st0 st:PS):Prop where
 ho:∀ n k,(st.ho n).testBit k=true->zc2 st0 n false k
 ht:∀ n k,(st.ht n).testBit k=true->zc2 st0 n true k
 ed:∀ a b,st.to a b=true->zen st0 a b
 us:st.us=st0.us
 ho0:∀ n k,(st0.ho n).testBit k=true->(st.ho n).testBit k=true
 ht0:∀ n k,(st0.ht n).testBit k=true->(st.ht n).testBit k=true
 ed0:∀ a b,st0.to a b=true->st.to a b=true
theorem PSnd.refl (st0:PS):PSnd st0 st0 :=
 ⟨(zgn st0).ho,(zgn st0).ht,(zgn st0).ed,rfl,fun _ _ h=>h,fun _ _ h=>h,fun _ _ h=>h⟩
theorem PSnd.grow (h:PSnd st0 st)(he:zen st0 a b):PSnd st0 (zar st b (st.ho a) (st.ht a)):=by
 have key:∀ (n:Nd) (k:Nat) (f:Nd->Nat) (t:Bool),(∀ n k,(f n).testBit k=true->zc2 st0 n t k)->((if n=b then f n|||f a else f n).testBit k=true)->zc2 st0 n t k:=by
  intro n k f t hf A;split at A
  ·rename_i e;subst e;rw[yau,yQ]at A;rcases A with A | A
   ·exact hf _ _ A
   ·exact(zgn st0).flow _ _ _ _ he (hf _ _ A)
  ·exact hf _ _ A
 have D:∀ (n:Nd) (k:Nat) (f:Nd->Nat),(f n).testBit k=true->(if n=b then f n|||f a else f n).testBit k=true:=by
  intro n k f A;split
  ·rw[yau,A,ybc]
  ·exact A
 exact⟨fun n k A=>key n k st.ho false h.ho A,fun n k A=>key n k st.ht true h.ht A,h.ed,h.us,fun n k A=>D n k st.ho (h.ho0 n k A),fun n k A=>D n k st.ht (h.ht0 n k A),h.ed0⟩
theorem PSnd.edge (h:PSnd st0 st)(he:zen st0 a b):PSnd st0 (zx st a b):=by
 refine⟨h.ho,h.ht,fun x y A=>?_,h.us,h.ho0,h.ht0,fun x y A=>?_⟩
 ·simp only[zx,yQ,decide_eq_true_eq]at A;rcases A with⟨rfl,rfl⟩ | A
  ·exact he
  ·exact h.ed _ _ A
 ·simp only[zx,h.ed0 x y A,yao]
def SpCl (st:PS):Prop:=∀ a b,st.to a b=true->zb3 st b (st.ho a) (st.ht a)=false
def useA (o:Nat)(u:Use):Nd:=if u.put then u.n else⟨102,o,u.f⟩
def useB (o:Nat)(u:Use):Nd:=if u.put then⟨102,o,u.f⟩else u.n
def FdCl (st:PS):Prop:=∀ n u o,u ∈ st.us n->(st.ho n).testBit o=true->st.to (useA o u) (useB o u)=true
theorem PSnd.done (h:PSnd st0 st)(h1:SpCl st)(h2:FdCl st):(∀ n k,(st.ho n).testBit k=true↔zc2 st0 n false k)/\(∀ n k,(st.ht n).testBit k=true↔zc2 st0 n true k):=by
 have D:PCl st0 (fun n t k=>(if t then st.ht n else st.ho n).testBit k=true) (fun a b=>st.to a b=true):=by
  refine⟨h.ho0,h.ht0,h.ed0,fun n u o hu A ho=>?_,fun n u o hu A ho=>?_,fun a b t k he hk=>?_⟩
  ·have:=h2 n u o (by rw[h.us];exact hu) ho;simpa [useA,useB,A] using this
  ·have:=h2 n u o (by rw[h.us];exact hu) ho;simpa [useA,useB,A] using this
  ·have:=h1 a b he;simp only[zb3,yck,bne_eq_false_iff_eq]at this;cases t
   ·have e:=this.1;simp only[yI,if_false]at hk |-;rw[<- e,yau,hk,yao]
   ·have e:=this.2;simp only[if_true]at hk |-;rw[<- e,yau,hk,yao]
 exact⟨fun n k=>⟨h.ho n k,fun hk=>hk _ _ D⟩,fun n k=>⟨h.ht n k,fun hk=>hk _ _ D⟩⟩
structure PtU (U:List Nd)(st:PS):Prop where
 ed:∀ a b,st.to a b=true->a ∈ U/\b ∈ U
 us:∀ n u,u ∈ st.us n->NdOk u.n/\u.f<1000000/\u.n ∈ U/\∀ o:Nat,o<48->(⟨102,o,u.f⟩:Nd) ∈ U
 ul:∀ n,(st.us n).length<1000
theorem PtU.grow (h:PtU U st)(n:Nd)(o t:Nat):PtU U (zar st n o t):=⟨h.ed,h.us,h.ul⟩
theorem PtU.edge (h:PtU U st)(ha:a ∈ U)(hb:b ∈ U):PtU U (zx st a b) :=
 ⟨fun x y A=>by
  simp only[zx,yQ,decide_eq_true_eq]at A;rcases A with⟨rfl,rfl⟩ | A
  ·exact⟨ha,hb⟩
  ·exact h.ed _ _ A,h.us,h.ul⟩
def zbm (U:List Nd)(st:PS):Nat :=
 (U.map fun n=>2 ^ 48-st.ho n).sum+(U.map fun n=>2 ^ 48-st.ht n).sum+(U.map fun a=>(U.map fun b=>if st.to a b then 0 else 1).sum).sum
theorem zkn {α : Type}{f g:α -> Nat}:∀ {l:List α},(∀ x ∈ l,g x<=f x)->(l.map g).sum<=(l.map f).sum
 | [],_=>yr _
 | x::l,h=>by
  have h1:=h x yy;have h2:=zkn (l:=l) (f:=f) (g:=g) fun y A=>h y (by simp[A]);simp only[yT,yb6];omega
theorem zko {α : Type}{f g:α -> Nat}:∀ {l:List α},(∀ x ∈ l,g x<=f x)->(∃ x ∈ l,g x<f x)->(l.map g).sum<(l.map f).sum
 | [],_,h=>by obtain⟨_,hx,_⟩:=h;simp at hx
 | x::l,h,⟨y,A,hlt⟩=>by
  have h1:=h x yy;have h2:=zkn (l:=l) (f:=f) (g:=g) fun y A=>h y (by simp[A]);simp only[yT,yb6];rcases yW.1 A with rfl | A
  ·omega
  ·have:=zko (l:=l) (f:=f) (g:=g) (fun y A=>h y (by simp[A])) ⟨y,A,hlt⟩;omega
theorem zx1 {o t:Nat}(hn:n ∈ U)(hs:∀ x,st.ho x<2 ^ 48/\st.ht x<2 ^ 48)(ho:o<2 ^ 48)(ht:t<2 ^ 48)(h:zb3 st n o t=true):zbm U (zar st n o t)<zbm U st:=by
 have le:∀ (f:Nd->Nat) (z:Nat) (x:Nd),2 ^ 48-(if x=n then f x|||z else f x)<=2 ^ 48-f x:=by
  intro f z x;split
  ·have:=ycr (n:=f x) (m:=z);omega
  ·exact yr _
 have lt:∀ (f:Nd->Nat) (z:Nat),f n<2 ^ 48->z<2 ^ 48->(f n|||z)≠f n->2 ^ 48-(if n=n then f n|||z else f n)<2 ^ 48-f n:=by
  intro f z h1 h2 h3;rw[yj rfl];have:=ycr (n:=f n) (m:=z);have:=yJ h1 h2;omega
 have A:=zkn (l:=U) (f:=fun x=>2 ^ 48-st.ho x) (g:=fun x=>2 ^ 48-(zar st n o t).ho x) fun x _=>le st.ho o x;have D:=zkn (l:=U) (f:=fun x=>2 ^ 48-st.ht x) (g:=fun x=>2 ^ 48-(zar st n o t).ht x) fun x _=>le st.ht t x;simp only[zb3,yQ,bne_iff_ne,ne_eq]at h;unfold zbm;have e:(zar st n o t).to=st.to:=rfl;rw[e];rcases h with h | h
 ·have:=zko (l:=U) (f:=fun x=>2 ^ 48-st.ho x) (g:=fun x=>2 ^ 48-(zar st n o t).ho x) (fun x _=>le st.ho o x) ⟨n,hn,lt st.ho o (hs n).1 ho h⟩;omega
 ·have:=zko (l:=U) (f:=fun x=>2 ^ 48-st.ht x) (g:=fun x=>2 ^ 48-(zar st n o t).ht x) (fun x _=>le st.ht t x) ⟨n,hn,lt st.ht t (hs n).2 ht h⟩;omega
theorem zx0 (ha:a ∈ U)(hb:b ∈ U)(h:st.to a b=false):zbm U (zx st a b)<zbm U st:=by
 have le:∀ x y:Nd,(if(zx st a b).to x y then 0 else 1)<=(if st.to x y then 0 else 1):=by
  intro x y;by_cases A:st.to x y=true
  ·rw[yj A,yj (show(zx st a b).to x y=true by simp[zx,A])];exact yr _
  ·rw[yg A];split <;> omega
 have:=zko (l:=U) (f:=fun x=>(U.map fun y=>if st.to x y then 0 else 1).sum) (g:=fun x=>(U.map fun y=>if(zx st a b).to x y then 0 else 1).sum) (fun x _=>zkn fun y _=>le x y)
  ⟨a,ha,zko (fun y _=>le a y) ⟨b,hb,by simp[zx,h]⟩⟩
 unfold zbm;have D:(zx st a b).ho=st.ho:=rfl;have E:(zx st a b).ht=st.ht:=rfl;rw[D,E];omega
theorem zG.uniq {b:Nat}{κ ν: Type}{enc:κ -> Value}{ok ok':κ -> Prop}{encv:ν -> Value}{m m':List (κ × ν)}(h:zG w b enc ok encv m)(h':zG w b enc ok' encv m')(hk:∀ x y,enc x=enc y->x=y)(hv:∀ x y,encv x=encv y->x=y):m=m':=by
 obtain⟨K,c,h1,h2,h3⟩:=h;obtain⟨H,I,D,A,E⟩:=h';clear h3 E;rw[h1]at D;injection D with D;injection D with G J;subst G;rw[h2]at A;clear h1 h2
 induction m generalizing m' with
 | nil=>cases m' with
  | nil=>rfl
  | cons p r=>simp at A
 | cons p r ih=>cases m' with
  | nil=>simp at A
  | cons p' r' =>
   simp only[yT,List.cons.injEq,Prod.mk.injEq]at A;obtain⟨⟨a,b⟩,c⟩:=A;have:=ih c;rw[this,show p=p' from Prod.ext (hk _ _ a) (hv _ _ b)]
structure NmFr (w w':World):Prop where
 size:w.heap.size<=w'.heap.size
 same:∀ (k:Nat) (o:Obj),w.heap[k]?=some o->(∀ es c,o≠.map es c)->w'.heap[k]?=some o
theorem NmFr.refl (w:World):NmFr w w:=⟨yr _,fun _ _ h _=>h⟩
theorem NmFr.trans {w1 w2:World}(h:NmFr w w1)(h':NmFr w1 w2):NmFr w w2:=⟨ya h.size h'.size,fun k o a b=>h'.same k o (h.same k o a b) b⟩
theorem NmFr.below (h:Below w.heap.size w w'):NmFr w w':=⟨h.size,fun k _ ho _=>(h.block k (lt_of_block ho)).trans ho⟩
theorem NmFr.grown {b:Nat}(h:w.grownBy w' (some b))(hm:∃ A c,w.heap[b]?=some (.map A c)):NmFr w w' :=
 ⟨h.size,fun k o ho D=>(h.block k (lt_of_block ho) (fun e=>by
  injection e with e;subst e;obtain⟨A,c,hm⟩:=hm;rw[ho]at hm;injection hm with hm;exact D _ _ hm)).trans ho⟩
theorem Blk.nm {g:Nat}{t:TypeId}{cs:Array Value}(h:Blk w g t cs)(hn:NmFr w w'):Blk w' g t cs:=hn.same g _ h (fun _ _ e=>by cases e)
theorem PtAt.iter (h:PtAt B fb wf V st out w)(hg:w.grownBy w' (some r))(hB:B<=r)(A:∃ a b c d,w.heap[r]?=some (.mapIter a b c d)):PtAt B fb wf V st out w':=by
 obtain⟨h1,h2,E,G,mu,h3⟩:=h;refine⟨h1.grown hg h2 (fun k e=>by cases e;exact hB),ya h2 hg.size,E,G,mu,h3.kp ⟨hg.size,fun k o ho D=>(hg.block k (lt_of_block ho) (fun e=>by
  injection e with e;subst e;obtain⟨a,b,c,d,A⟩:=A;rw[ho]at A;injection A with A;subst A;cases D)).trans ho⟩⟩
theorem zY.obj {κ ν: Type}{enc:κ -> Value}{ok:κ -> Prop}{encv:ν -> Value}{b:Nat}{m left:List (κ × ν)}(h:zY w b r enc ok encv m left):∃ a b c d,w.heap[r]?=some (.mapIter a b c d):=by
 obtain⟨D,clock,A,_,h2,_⟩:=h;exact⟨_,_,_,_,h2⟩
structure za5 (U:List Nd)(st0:PS)(fb:Nat)(wf wR:World)(V:PtV)(out:Nat)(st:PS)(W:World):Prop where
 p:PtAt wf.heap.size fb wf V st out W
 u:PtU U st
 s:PSnd st0 st
 n:NmFr wR W
theorem za5.below {wR:World}{W W':World}(h:za5 U st0 fb wf wR V out st W)(hb:Below W.heap.size W W'):za5 U st0 fb wf wR V out st W' :=
 ⟨h.p.below hb,h.u,h.s,h.n.trans (NmFr.below hb)⟩
theorem za5.iter {wR:World}{W W':World}(h:za5 U st0 fb wf wR V out st W)(hg:W.grownBy W' (some r))(hB:wf.heap.size<=r)(hr:∃ a b c d,W.heap[r]?=some (.mapIter a b c d))(hrR:wR.heap.size<=r):za5 U st0 fb wf wR V out st W' :=
 ⟨h.p.iter hg hB hr,h.u,h.s,⟨ya h.n.size hg.size,fun k o ho A=>(hg.block k (lt_of_block (h.n.same k o ho A)) (fun e=>by
  injection e with e;have:=lt_of_block ho;omega)).trans (h.n.same k o ho A)⟩⟩
structure SpO (U:List Nd)(st0:PS)(fb:Nat)(wf wR:World)(V:PtV)(out:Nat)(st:PS)(mt:List (Nd×Nat))(r:Nat)(gk:Nat)(cv:Value)(W:World):Prop where
 ex:∃ (c:Bool) (st':PS) (left:List (Nd×Nat)),cv=.bool c/\gk=left.length/\zY W V.tb r ndV NdOk (fun b=>.map (some b)) mt left/\za5 U st0 fb wf wR V out st' W/\(c=true->zbm U st'<zbm U st) /\
  (c=false->st'=st/\∀ a b',(a,b') ∈ mt->(a,b') ∈ left\/∀ y,st.to a y=true->zb3 st y (st.ho a) (st.ht a)=false)/\st'.to=st.to
theorem PtM.look {mh:List (Nd×(Nat×Nat))}{mt:List (Nd×Nat)}(h:PtM w B fb V st out mh mt mu)(hn:NdOk n) :
  (Instr.lookup 378 (.m V.hb) (.agg #[.u n.k,.i n.a,.i n.b]) false).run prog w=.ok (.agg #[zA (st.ho n),zA (st.ht n)]) w:=by
 have hl:=h.h.lookup (t:=378) (e:=424) zdx underlying378 (z:=.agg #[zA 0,zA 0]) (zeroValue424 w) hn false;have hv:=h.hv n;rw[hl];cases hg:mget mh n with
 | none=>rw[hg]at hv;simp only[Option.getD_none,Prod.mk.injEq]at hv;rw[<- hv.1,<- hv.2];rfl
 | some p=>rw[hg]at hv;simp only[ybb]at hv;rw[hv];rfl
structure SpI (U:List Nd)(st0:PS)(fb:Nat)(wf wR:World)(V:PtV)(out:Nat)(st:PS)(mt:List (Nd×Nat))(r:Nat)(lo:List (Nd×Nat))(a:Nd)(b' r2 ab:Nat)(mm:List (Nd×Nat))(gk:Nat)(cv:Value)(W:World):Prop where
 ex:∃ (c:Bool) (st':PS) (li:List (Nd×Nat)),cv=.bool c/\gk=li.length/\zY W b' r2 ndV NdOk zdb mm li/\zY W V.tb r ndV NdOk (fun b=>.map (some b)) mt lo/\za5 U st0 fb wf wR V out st' W/\(c=true->zbm U st'<zbm U st) /\
  (c=false->st'=st/\(∀ a1 b1,(a1,b1) ∈ mt->(a1,b1) ∈ lo\/a1=a\/∀ y,st.to a1 y=true->zb3 st y (st.ho a1) (st.ht a1)=false)/\∀ y v,(y,v) ∈ mm->(y,v) ∈ li\/zb3 st y (st.ho a) (st.ht a)=false)/\Blk W ab 419 #[.u a.k,.i a.a,.i a.b]/\st'.to=st.to
theorem z0o (U:List Nd)(st0:PS)(fb:Nat)(wf wR:World)(V:PtV)(out:Nat)(st:PS)(w:World)(h:za5 U st0 fb wf wR V out st w) :
  Calls prog 226 #[.p V.sb] w (zgi (za5 U st0 fb wf wR V out) (zbm U) SpCl st):=by
 obtain⟨mh,mt,mu,hm⟩:=h.p.m;have bo:=hm.s.cell;unfold zdf at bo;have cc:=hm.s.lt;have HM:=zH hm;have H:=zH h;clear hm h;go_enter func226,ntmps226;go_wp2_with (at_range;refine zbj ?_);refine zbk ?_;refine zh1 rfl _ _ rfl underlying379 rfl HM.o.t ?_;intro w1 bm aa cd;have ST:=zH (show SpO U st0 fb wf wR V out st mt w.heap.size mt.length (.bool false) w1 from⟨false,st,mt,rfl,rfl,bm,H.o.below aa,fun h=>(by cases h),fun _=>⟨rfl,fun a b' hb'=>.inl hb'⟩,rfl⟩);clear bm aa cd bo cc
 go_frame
 go_wp2_with fail;go_loopg [3] mt.length (fun gk v3 wr=>SpO U st0 fb wf wR V out st mt w.heap.size gk v3 wr)
 case atStart=>exact ST.o
 case round =>
  obtain⟨c,A,left,rfl,hg,hR,hI,ac,ad,a4⟩:=hrel.ex;have HG:=zH hg;have HR:=zH hR;have HI:=zH hI;have E:=zH ac;have D:=zH ad;clear hg hR hI ac ad hrel;go_wp2_with (at_next;refine zbj ?_);refine zbk ?_;refine zg3 rfl _ rfl rfl HR.o ?_ ?_
  ·intro hl;subst hl;have bz:=zH (show zgi (za5 U st0 fb wf wR V out) (zbm U) SpCl st (.r (.bool c)) wr from⟨A,c,rfl,HI.o,E.o,fun G=>⟨(D.o G).1,fun a b a9=>by
    cases hga:mget mt a with
    | none=>have:=HM.o.t0 a hga b;rw[a9]at this;cases this
    | some b'=>exact((D.o G).2 a b' (zdd hga)).resolve_left yy b a9⟩⟩)
   clear E D HI;go_wp2;go_ret;exact bz.o
  ·intro p l1 l2 w2 hl ak bi bu af;obtain⟨a,b'⟩:=p;simp only at af;go_wp2_with (at_range;refine zbj ?_);refine zbk ?_;have Y:Below w2.heap.size w2 (w2.alloc (.k #[.u a.k,.i a.a,.i a.b] 419)):=yB.alloc yL _;have a3:Blk (w2.alloc (.k #[.u a.k,.i a.a,.i a.b] 419)) wr.heap.size 419 #[.u a.k,.i a.a,.i a.b]:=Blk.newAt bu.symm;generalize hW:w2.alloc (.k #[.u a.k,.i a.a,.i a.b] 419)=w3 at Y a3 |-;clear hW af;obtain⟨ab,a9⟩:∃ ab,ab=wr.heap.size:=⟨_,rfl⟩;rw[<- a9]at a3 |-;have a7:=(HI.o.iter bi H.o.p.bs HR.o.obj H.o.n.size).below Y;have W:zY w3 V.tb w.heap.size ndV NdOk (fun b=>.map (some b)) mt (l1++l2):=ak.qj (Y.block _ ak.lt.1) (Y.block _ ak.lt.2);have ai:(a,b') ∈ mt:=HR.o.sub _ (by rw[hl];simp);obtain⟨ch,O,ck,a2⟩:=a7.p.m;have ca:O=mt:=a2.t.uniq W.map (fun x y e=>zdx.inj x y e) (fun x y e=>by injection e with e;injection e);subst ca;obtain⟨⟨mm,bj,c9,b4⟩,c8,aa,c6,c7⟩:=a2.ti a b' ai;rw[a4]at b4;have bb:=zH b4;have c0:=zH (show NdOk a from by obtain⟨_,_,_,_,_,h,_⟩:=W.map;exact h _ ai);have b7:=zH (show b'≠V.hb/\V.tb≠V.hb from⟨aa,a2.ne.1.symm⟩);refine zh1 rfl _ _ rfl underlying429 rfl bj ?_;intro w4 bn J ce;have c5:=zH (show SpI U st0 fb wf wR V out st O w.heap.size (l1++l2) a b' w3.heap.size ab mm mm.length (.bool c) w4 from
    ⟨c,A,mm,rfl,rfl,bn,W.qj (J.block _ W.lt.1) (J.block _ W.lt.2),a7.below J,E.o,fun G=>⟨(D.o G).1,fun a1 b1 h1=>by
     rcases(D.o G).2 a1 b1 h1 with h2 | h2
     ·rw[hl]at h2;exact mJb
     ·exact .inr (.inr h2),fun y v hy=>.inl hy⟩,a3.below J a3.lt,a4⟩)
   have HLL:=zH (show(l1++l2).length<left.length by rw[hl];simp);have R:=zH (show w.heap.size<w3.heap.size/\ab<w3.heap.size/\V.tb<w3.heap.size/\V.hb<w3.heap.size from⟨yi ak.lt.2 Y.size,a3.lt,a2.t.lt,a2.h.lt⟩);have HZ:=zH (show wf.heap.size<=w3.heap.size/\wR.heap.size<=w3.heap.size from⟨a7.p.bs,a7.n.size⟩);clear a9 Y a3 a7 W ai a2 bj c9 b4 c8 aa c6 c7 bn J ce ak bi bu HR HI E D a4 hl
   go_frame
   go_wp2_with fail;go_loopg [3] mm.length (fun gk v3 wi=>SpI U st0 fb wf wR V out st O w.heap.size (l1++l2) a b' w3.heap.size ab mm gk v3 wi)
   case atStart=>exact c5.o
   case round =>
    obtain⟨c,A,li,rfl,hg,bf,hR,hI,ac,ad,bh,a4⟩:=hrel.ex;have HG2:=zH hg;have S:=zH bf;have HR:=zH hR;have HI:=zH hI;have E:=zH ac;have D:=zH ad;have c2:=zH bh;have an:=zH a4;clear hg bf hR hI ac ad bh a4 hrel;go_wp2_with (at_next;refine zbj ?_);refine zbk ?_;refine zg3 rfl _ rfl rfl S.o ?_ ?_
    ·intro a0;subst a0;have REL:=zH (show SpO U st0 fb wf wR V out st O w.heap.size (l1++l2).length (.bool c) wr from⟨c,A,l1++l2,rfl,rfl,HR.o,HI.o,E.o,fun G=>⟨(D.o G).1,fun a1 b1 h1=>by
      rcases(D.o G).2.1 a1 b1 h1 with h2 | h2 | h2
      ·exact .inl h2
      ·subst h2;refine .inr fun y hy=>?_;have h3:=bb.o y;rw[hy]at h3;obtain⟨v,hv⟩:=Option.isSome_iff_exists.1 h3;exact((D.o G).2.2 y v (zdd hv)).resolve_left yy
      ·exact .inr h2⟩,an.o⟩)
     clear E D HI;exact mWc
    ·intro p k1 k2 w5 a0 ax ag cf af;obtain⟨y,v⟩:=p;simp only at af;have b6:(y,v) ∈ mm:=S.o.sub _ (by rw[a0];simp);have bk:(mm.map Prod.fst).Nodup:=by obtain⟨_,_,_,_,h,_⟩:=S.o.map;exact h
     have br:NdOk y:=by obtain⟨_,_,_,_,_,h,_⟩:=S.o.map;exact h _ b6
     have bp:A.to a y=true:=by
      rw[an.o,<- bb.o y,zea bk b6];rfl
     have be:=HI.o.iter ag (ya HZ.o.1 yL) S.o.obj HZ.o.2;have bg:zY w5 V.tb w.heap.size ndV NdOk (fun b=>.map (some b)) O (l1++l2):=HR.o.qj (ag.block _ HR.o.lt.1 (fun e=>by injection e with e;have:=R.o.2.2.1;omega)) (ag.block _ HR.o.lt.2 (fun e=>by injection e with e;have:=R.o.1;omega));have b3:=c2.o.grown ag (fun e=>by injection e with e;have:=R.o.2.1;omega);have HKL:=zH (show(k1++k2).length<li.length by rw[a0];simp);have c3:=zH (show c=false->∀ y1 v1,(y1,v1) ∈ mm->(y1,v1) ∈ k1++k2\/y1=y\/zb3 st y1 (st.ho a) (st.ht a)=false from fun G y1 v1 h1=>by
      rcases(D.o G).2.2 y1 v1 h1 with h2 | h2
      ·rw[a0]at h2;exact mJb
      ·exact .inr (.inr h2))
     have N:Below w5.heap.size w5 (w5.alloc (.k #[.u y.k,.i y.a,.i y.b] 419)):=yB.alloc yL _;have aj:Blk (w5.alloc (.k #[.u y.k,.i y.a,.i y.b] 419)) w5.heap.size 419 #[.u y.k,.i y.a,.i y.b]:=Blk.newAt rfl;have am:=zH bg;have b8:=zH be;have c4:=zH br;have bd:=zH bp;have ay:=zH (show ∀ L,Below w5.heap.size w5 L->zY L b' w3.heap.size ndV NdOk zdb mm (k1++k2)from fun L hb=>ax.qj (hb.block _ ax.lt.1) (hb.block _ ax.lt.2));clear bg be br bp b6 bk a0 HR HI S ax ag cf;go_wp2_with fail;generalize hW:w5.alloc (.k #[.u y.k,.i y.a,.i y.b] 419)=w6 at N aj |-;obtain⟨yb,bq⟩:∃ yb,yb=w5.heap.size:=⟨_,rfl⟩;rw[<- bq]at aj |-;clear hW af bq;have I:=zH (b8.o.below N);have b9:=zH (b3.below N b3.lt);have b2:=zH (am.o.qj (N.block _ am.o.lt.1) (N.block _ am.o.lt.2));have az:=zH (ay.o _ N);obtain⟨ci,cj,cm,aw⟩:=I.o.p.m;have HL:=zH (show ∀ L,PtKp w6 L->(∀ j,L.cell? (.a V.sb j)=#[.p fb,.m V.hb,.m V.tb,.m V.ub,zA out][j]?)/\(Instr.lookup 378 (.m V.hb) (.agg #[.u a.k,.i a.a,.i a.b]) false).run prog L=.ok (.agg #[zA (A.ho a),zA (A.ht a)]) L from fun L hk=>⟨(aw.kp hk).s.cell,(aw.kp hk).look c0.o⟩);have a5:=zH aw.sm;clear aw am b8 ay b3 N;refine rgl 8 (fun(L:World)=>((∀ j,L.cell? (.a V.sb j)=#[.p fb,.m V.hb,.m V.tb,.m V.ub,zA out][j]?)/\(Instr.lookup 378 (.m V.hb) (.agg #[.u a.k,.i a.a,.i a.b]) false).run prog L=.ok (.agg #[zA (A.ho a),zA (A.ht a)]) L)/\(∀ j,L.cell? (.a ab j)=#[.u a.k,.i a.a,.i a.b][j]?)/\(∀ j,L.cell? (.a yb j)=#[.u y.k,.i y.a,.i y.b][j]?)) ?_;have a6:=And.intro (HL.o w6.drew (PtKp.drew _)) (And.intro b9.o.drew.cell aj.drew.cell)
     iterate 8(refine tK 0 rfl a6 ?_)
     refine lst rfl fun K hK=>?_;go_simp;refine(znl wf.heap.size fb wf V A out y (A.ho a) (A.ht a) w6.drew (I.o.p.below yB.drew) c4.o (a5.o a).1 (a5.o a).2).mono ?_;rintro e w7 ⟨rfl,b5,ah⟩;refine hK _ _ ?_;clear hK K a6 HL;have ae:Below w6.heap.size w6 w6.drew:=yB.drew;have Z:∀ {k:Nat},k<w6.heap.size->k≠V.hb->w7.heap[k]? = w6.heap[k]? := fun h1 h2=>(ah.block _ h1 (fun e=>h2 (by injection e))).trans (ae.block _ h1);have Q:∃ es c,w6.drew.heap[V.hb]?=some (.map es c):=by obtain⟨_,_,_,h⟩:=I.o.p.m;exact h.h.obj
     have ap:=az.o.qj (Z az.o.lt.1 b7.o.1) (Z az.o.lt.2 (fun e=>by have:=R.o.2.2.2;omega));have aq:=b2.o.qj (Z b2.o.lt.1 b7.o.2) (Z b2.o.lt.2 (fun e=>by have:=HM.o.h.lt;omega));have ao:Blk w7 ab 419 #[.u a.k,.i a.a,.i a.b]:=b9.o.nm ((NmFr.below ae).trans (NmFr.grown ah Q));have a8:za5 U st0 fb wf wR V out (zar A y (A.ho a) (A.ht a)) w7:=⟨b5,I.o.u.grow _ _ _,I.o.s.grow (I.o.s.ed _ _ bd.o),I.o.n.trans ((NmFr.below ae).trans (NmFr.grown ah Q))⟩;cases hgb:zb3 A y (A.ho a) (A.ht a)
     ·rw[zxn hgb]at a8;have REL:=zH (show SpI U st0 fb wf wR V out st O w.heap.size (l1++l2) a b' w3.heap.size ab mm (k1++k2).length (.bool c) w7 from
       ⟨c,A,k1++k2,rfl,rfl,ap,aq,a8,E.o,fun G=>⟨(D.o G).1,(D.o G).2.1,fun y1 v1 h1=>by
        rcases c3.o G y1 v1 h1 with h2 | h2 | h2
        ·exact .inl h2
        ·subst h2;rw[(D.o G).1]at hgb;exact .inr hgb
        ·exact .inr h2⟩,ao,an.o⟩)
      clear ae Z Q ap aq ao a8 b5 ah hgb aj;exact mVc
     ·have au:=zx1 (U:=U) (I.o.u.ed _ _ bd.o).2 a5.o (a5.o a).1 (a5.o a).2 hgb;have REL:=zH (show SpI U st0 fb wf wR V out st O w.heap.size (l1++l2) a b' w3.heap.size ab mm (k1++k2).length (.bool true) w7 from
       ⟨true,_,k1++k2,rfl,rfl,ap,aq,a8,fun _=>by
        cases G:c
        ·rw[(D.o G).1]at au |-;exact au
        ·exact yb9 au (E.o G),fun h=>(by cases h),ao,an.o⟩)
      clear ae Z Q ap aq ao a8 b5 ah hgb aj au;exact mVc
section
attribute [local go_sem] Oper.semAt_some
theorem zY.qo {κ ν: Type}{enc:κ -> Value}{ok:κ -> Prop}{encv:ν -> Value}{w:World}{b N:Nat}{m left:List (κ × ν)}(h:zY w b r enc ok encv m left)(hr:Recs N w w'):zY w' b r enc ok encv m left:=by
 obtain⟨D,clock,A,h1,h2,h3⟩:=h;exact⟨D,clock,A,hr.same _ _ h1 rfl,hr.same _ _ h2 rfl,h3⟩
theorem PtAt.qo {fb N:Nat}{wf:World}{V:PtV}{st:PS}{out:Nat}{w:World}(h:PtAt B fb wf V st out w)(hr:Recs N w w')(hN:B<=N):PtAt B fb wf V st out w':=by
 obtain⟨h1,h2,A,D,mu,h3⟩:=h;exact⟨h1.trans (hr.below.mono hN),ya h2 hr.size,A,D,mu,h3.kp (PtKp.qo hr)⟩
theorem NmFr.qo {w w1 w2:World}{N:Nat}(h:NmFr w w1)(hr:Recs N w1 w2)(hN:w.heap.size<=N):NmFr w w2 :=
 ⟨ya h.size hr.size,fun k o ho A=>(hr.low k (yi (lt_of_block ho) hN)).trans (h.same k o ho A)⟩
theorem NmFr.ed {V:PtV}{w:World}(h:EdFr V w w'):NmFr w w':=⟨h.size,fun k o ho A=>h.same k o ho (.inl A)⟩
theorem za5.qo {U:List Nd}{st0:PS}{fb N:Nat}{wf wR:World}{V:PtV}{out:Nat}{st:PS}{W W':World}(h:za5 U st0 fb wf wR V out st W)(hr:Recs N W W')(hN:wf.heap.size<=N)(hR:wR.heap.size<=N):za5 U st0 fb wf wR V out st W' :=
 ⟨h.p.qo hr hN,h.u,h.s,h.n.qo hr hR⟩
theorem zY.ed {κ: Type}{V:PtV}{enc:κ -> Value}{ok:κ -> Prop}{encv:Value->Value}{w:World}{m left:List (κ × Value)}(h:zY w V.ub r enc ok encv m left)(hf:EdFr V w w'):zY w' V.ub r enc ok encv m left:=by
 obtain⟨D,clock,A,h1,h2,h3⟩:=h;exact⟨D,clock,A,hf.same _ _ h1 (.inr (.inl rfl)),hf.same _ _ h2 (.inl fun _ _ e=>by cases e),h3⟩
theorem xk.ed {V:PtV}{w:World}{ds:List Deferred}(h:xk B w ds)(hf:EdFr V w w'):xk B w' ds:=h.kept ⟨hf.size,fun k o ho A=>hf.same k o ho (.inl fun _ _ e=>by subst e;cases A)⟩
def UCl (st:PS)(n:Nd)(u:Use):Prop:=∀ o,(st.ho n).testBit o=true->st.to (useA o u) (useB o u)=true
structure FdP (U:List Nd)(st0:PS)(fb:Nat)(wf wR:World)(V:PtV)(out:Nat)(st:PS)(w:World)(c:Bool)(st':PS)(W:World):Prop where
 inv:za5 U st0 fb wf wR V out st' W
 cb:Blk W (w.heap.size+1) 4 #[.bool c]
 sx:Blk W w.heap.size 298 #[.p V.sb]
 ls:c=true->zbm U st'<zbm U st
 eqs:c=false->st'=st
 sm:st'.ho=st.ho/\st'.us=st.us
section
variable {U:List Nd} {st0:PS} {fb N:Nat} {wf wR:World} {V:PtV} {out:Nat} {st:PS} {w:World} {c:Bool} {st':PS} {W W':World}
theorem FdP.below (h:FdP U st0 fb wf wR V out st w c st' W)(hb:Below W.heap.size W W'):FdP U st0 fb wf wR V out st w c st' W' :=
 ⟨h.inv.below hb,h.cb.below hb h.cb.lt,h.sx.below hb h.sx.lt,h.ls,h.eqs,h.sm⟩
theorem FdP.qo (h:FdP U st0 fb wf wR V out st w c st' W)(hr:Recs N W W')(hN:wf.heap.size<=N)(hR:wR.heap.size<=N):FdP U st0 fb wf wR V out st w c st' W' :=
 ⟨h.inv.qo hr hN hR,h.cb.qo hr,h.sx.qo hr,h.ls,h.eqs,h.sm⟩
theorem FdP.iter (h:FdP U st0 fb wf wR V out st w c st' W)(hg:W.grownBy W' (some r))(hB:wf.heap.size<=r)(A:∃ a b c d,W.heap[r]?=some (.mapIter a b c d))(hrR:wR.heap.size<=r):FdP U st0 fb wf wR V out st w c st' W':=by
 have D:∀ {g t cs},Blk W g t cs->Blk W' g t cs:=fun hb=>hb.grown hg (fun e=>by
  injection e with e;subst e;obtain⟨a,b,c,d,A⟩:=A;rw[show W.heap[_]? = _ from hb]at A;cases A)
 exact⟨h.inv.iter hg hB A hrR,D h.cb,D h.sx,h.ls,h.eqs,h.sm⟩
theorem FdP.old (h:FdP U st0 fb wf wR V out st w c st' W)(hp:PtAt wf.heap.size fb wf V (zx st' a b) out W')(hf:EdFr V W W')(he:st'.to a b=true):FdP U st0 fb wf wR V out st w c st' W':=by
 rw[zm8 he]at hp;exact⟨⟨hp,h.inv.u,h.inv.s,h.inv.n.trans (NmFr.ed hf)⟩,h.cb.nm (NmFr.ed hf),h.sx.nm (NmFr.ed hf),h.ls,h.eqs,h.sm⟩
theorem FdP.fresh (h:FdP U st0 fb wf wR V out st w c st' W)(hp:PtAt wf.heap.size fb wf V (zx st' a b) out W')(hf:EdFr V W W')(he:st'.to a b=false)(hE:zen st0 a b)(ha:a ∈ U)(hb:b ∈ U)(hw:wf.heap.size<=w.heap.size)(hR:wR.heap.size<=w.heap.size) :
  FdP U st0 fb wf wR V out st w true (zx st' a b) (W'.setCell (.a (w.heap.size+1) 0) (.bool true)):=by
 have A:=h.cb.nm (NmFr.ed hf);have E:PtAt wf.heap.size fb wf V (zx st' a b) out (W'.setCell (.a (w.heap.size+1) 0) (.bool true)):=by
  obtain⟨h1,h2,G,H,mu,h3⟩:=hp;exact⟨h1.setCell (p:=(.a (w.heap.size+1) 0)) (ya hw (ya3 _)) _,by simpa [World.setCell] using h2,G,H,mu,h3.kp (PtKp.set A yd yd 0 _)⟩
 refine⟨⟨E,h.inv.u.edge ha hb,h.inv.s.edge hE,?_⟩,(A.qe 0 _).cast rfl,(h.sx.nm (NmFr.ed hf)).qi (p:=(.a (w.heap.size+1) 0)) (by show w.heap.size≠w.heap.size+1;omega) _,fun _=>?_,fun h=>(by cases h),h.sm⟩
 ·have hn:=h.inv.n.trans (NmFr.ed hf);exact⟨by simpa [World.setCell] using hn.size,fun k o ho D=>(yt W' ⟨w.heap.size+1,0,none⟩ (.bool true) k (by have:=lt_of_block ho;show k≠w.heap.size+1;omega)).trans (hn.same k o ho D)⟩
 ·have:=zx0 ha hb he;cases D:c
  ·rw[<- h.eqs D];exact this
  ·exact yb9 this (h.ls D)
end
def FdO (U:List Nd)(st0:PS)(fb:Nat)(wf wR:World)(V:PtV)(out:Nat)(st:PS)(w:World)(mu:List (Nd×Value))(r:Nat)(gk:Nat)(ds:List Deferred)(W:World):Prop :=
 ∃ (c:Bool) (st':PS) (left:List (Nd×Value)),gk=left.length/\zY W V.ub r ndV NdOk id mu left/\FdP U st0 fb wf wR V out st w c st' W/\(c=false->∀ n v,(n,v) ∈ mu->(n,v) ∈ left\/∀ u ∈ st.us n,UCl st n u)/\xk w.heap.size W ds
def FdM (U:List Nd)(st0:PS)(fb:Nat)(wf wR:World)(V:PtV)(out:Nat)(st:PS)(w:World)(mu:List (Nd×Value))(r:Nat)(lo:List (Nd×Value))(n:Nd)(nb:Nat)(gk:Nat)(jv:Value)(ds:List Deferred)(W:World):Prop :=
 ∃ (c:Bool) (st':PS) (j:Nat),jv=.i j/\gk=(st.us n).length-j/\j<=(st.us n).length/\zY W V.ub r ndV NdOk id mu lo/\FdP U st0 fb wf wR V out st w c st' W /\
  (c=false->(∀ n1 v1,(n1,v1) ∈ mu->(n1,v1) ∈ lo\/n1=n\/∀ u ∈ st.us n1,UCl st n1 u)/\∀ u ∈ (st.us n).take j,UCl st n u)/\Blk W nb 419 #[.u n.k,.i n.a,.i n.b]/\xk w.heap.size W ds
structure FdI (U:List Nd)(st0:PS)(fb:Nat)(wf wR:World)(V:PtV)(out:Nat)(st:PS)(w:World)(mu:List (Nd×Value))(r:Nat)(lo:List (Nd×Value))(n:Nd)(nb j:Nat)(u:Use)(vb N:Nat)(ds:List Deferred)(i:Nat)(W:World):Prop where
 ex:∃ (c:Bool) (st':PS),FdP U st0 fb wf wR V out st w c st' W /\
  (c=false->(∀ n1 v1,(n1,v1) ∈ mu->(n1,v1) ∈ lo\/n1=n\/∀ u ∈ st.us n1,UCl st n1 u)/\(∀ u ∈ (st.us n).take j,UCl st n u)/\∀ o ∈ (mems (st.ho n)).take i,st.to (useA o u) (useB o u)=true)
 rg:zY W V.ub r ndV NdOk id mu lo
 nb:Blk W nb 419 #[.u n.k,.i n.a,.i n.b]
 vb:Blk W vb 427 (zcq u).toArray
 m:xk w.heap.size W ds
 z:N<=W.heap.size
theorem FdP.row {U:List Nd}{st0:PS}{fb:Nat}{wf wR:World}{V:PtV}{out:Nat}{st:PS}{w:World}{c:Bool}{st':PS}{W:World}{left:List (Nd×Value)}{v:Value}(h:FdP U st0 fb wf wR V out st w c st' W)(hr:zY W V.ub r ndV NdOk id mu left)(hm:(n,v) ∈ mu) :
  W.ownsRow wf.heap.size 427 5 v (st.us n).length ((st.us n).flatMap zcq):=by
 obtain⟨D,E,A,h3⟩:=h.inv.p.m;have e:A=mu:=h3.u.uniq hr.map (fun x y e=>zdx.inj x y e) (fun x y e=>e);subst e;have:=h3.ur n v hm;rw[h.sm.2]at this;exact this
theorem zt9:∀ {l:List Use} {j:Nat} {u:Use},l[j]?=some u->∀ i,i<5->(l.flatMap zcq)[j*5+i]? = (zcq u)[i]?
 | [],_,_,h,_,_=>by simp at h
 | b::l,0,u,h,i,hi=>by
  simp at h;subst h;rw[yax,ycn,ybf,yz (by show i<5;omega)]
 | b::l,j+1,u,h,i,hi=>by
  rw[yax,yC (by show 5<=_;omega),show(j+1)*5+i-(zcq b).length=j*5+i by show _-5=_;omega];exact zt9 (by simpa using h) i hi
theorem zl1 (a b:Value)(w:World):(Instr.field 424 (.agg #[a,b]) 0).run prog w=.ok a w:=yk
theorem FdI.qo {U:List Nd}{st0:PS}{fb:Nat}{wf wR:World}{V:PtV}{out:Nat}{st:PS}{w:World}{lo:List (Nd×Value)}{nb j:Nat}{u:Use}{vb N N':Nat}{ds:List Deferred}{i:Nat}{W W':World}(h:FdI U st0 fb wf wR V out st w mu r lo n nb j u vb N' ds i W)(h1:wf.heap.size<=N)(h2:wR.heap.size<=N)(hd:zg7 N ds)(hr:Recs N W W') :
  FdI U st0 fb wf wR V out st w mu r lo n nb j u vb N' ds i W':=by
 obtain⟨c,A,a,b⟩:=h.ex;exact⟨⟨c,A,a.qo hr h1 h2,b⟩,h.rg.qo hr,h.nb.qo hr,h.vb.qo hr,h.m.qo hd hr,ya h.z hr.size⟩
theorem zxa (U:List Nd)(st0:PS)(fb:Nat)(wf wR:World)(V:PtV)(out:Nat)(st:PS)(w:World)(h:za5 U st0 fb wf wR V out st w) :
  Calls prog 225 #[.p V.sb] w (zgi (za5 U st0 fb wf wR V out) (zbm U) FdCl st):=by
 obtain⟨mh,mt,mu,hm⟩:=h.p.m;have bd:=hm.s.cell;unfold zdf at bd;have bj:=hm.s.lt;have HM:=zH hm;have H:=zH h;clear hm h;have bu:∀ (fn:Fn) (first cap:Array Value) (w:World),(Instr.makeFunc fn first cap).run prog w=.ok (.func fn first cap) w:=fun _ _ _ _=>rfl;have br:=fun(a b:Nat) (w:World)=>zl1 (zA a) (zA b) w;refine zjk func225 rfl ?_;simp only[ntmps225,yb2,yai,ya8,Nat.reduceAdd,Nat.reduceSub,ybn,ybm,yb3,ybp,yas,ya1];go_wp2_with (at_range;refine zbj ?_);refine zbk ?_;have ad:Below w.heap.size w ((w.alloc (.k #[.p V.sb] 298)).alloc (.k #[.bool false] 4)):=(yB.alloc yL _).alloc yy _;have ai:Blk ((w.alloc (.k #[.p V.sb] 298)).alloc (.k #[.bool false] 4)) w.heap.size 298 #[.p V.sb]:=(Blk.newAt rfl).alloc _;have ae:Blk ((w.alloc (.k #[.p V.sb] 298)).alloc (.k #[.bool false] 4)) (w.heap.size+1) 4 #[.bool false]:=Blk.newAt yy;generalize hW:((w.alloc (.k #[.p V.sb] 298)).alloc (.k #[.bool false] 4))=wA at ad ai ae |-;have bn:wA.heap.size=w.heap.size+2:=by rw[<- hW];simp
 clear hW;refine zh1 rfl _ _ rfl underlying380 rfl (HM.o.u.pt (PtKp.below ad yL)) ?_;intro w1 an L bk;obtain⟨r,hr⟩:∃ r,r=wA.heap.size:=⟨_,rfl⟩;rw[<- hr]at an |-;have ST:=zH (show FdO U st0 fb wf wR V out st w mu r mu.length [] w1 from⟨false,st,mu,rfl,an,⟨(H.o.below ad).below L,ae.below L ae.lt,ai.below L ai.lt,fun h=>(by cases h),fun _=>rfl,rfl,rfl⟩,fun _ n v h=>.inl h,xk.nil _ _⟩);have HZ:=zH (show wf.heap.size<=w.heap.size/\wR.heap.size<=w.heap.size/\r=w.heap.size+2 from⟨H.o.p.bs,H.o.n.size,by omega⟩);clear an L bk bd bj ad ai ae bn hr
 go_frame
 go_wp2_with fail;refine wp_loop_ghost_k (fun gk a W=>∃ ds u4 u5 u6 u7 u8 u9 u10 u16 u17 u18 u19 u20 u21 u22 u23 u24 u25 u26 u27 u28 u29 u30 u31 u32 u33 u34 u35 u36 u37 u38 u39 u40 u41 u42 u43 u44 u45 u46 u47 u48 u49 u50,FdO U st0 fb wf wR V out st w mu r gk ds W /\
  a={ tmps:=#[.p V.sb,.p w.heap.size,.bool false,.p (w.heap.size+1),u4,u5,u6,u7,u8,u9,u10,.p V.sb,.p V.sb,.q V.sb 3,.m V.ub,.p r,u16,u17,u18,u19,u20,u21,u22,u23,u24,u25,u26,u27,u28,u29,u30,u31,u32,u33,u34,u35,u36,u37,u38,u39,u40,u41,u42,u43,u44,u45,u46,u47,u48,u49,u50,undef],defers:=ds }) mu.length
  ⟨_,_,_,_,_,_,_,_,_,_,_,_,_,_,_,_,_,_,_,_,_,_,_,_,_,_,_,_,_,_,_,_,_,_,_,_,_,_,_,_,_,_,_,ST.o,rfl⟩ ?_
 rintro gk a wr ⟨ds,u4,u5,u6,u7,u8,u9,u10,u16,u17,u18,u19,u20,u21,u22,u23,u24,u25,u26,u27,u28,u29,u30,u31,u32,u33,u34,u35,u36,u37,u38,u39,u40,u41,u42,u43,u44,u45,u46,u47,u48,u49,u50,hrel,rfl⟩ J K hJ I;obtain⟨c,O,left,hg,hR,hP,a5,a7⟩:=hrel;have HG:=zH hg;have HR:=zH hR;have HP:=zH hP;have N:=zH a5;have a0:=zH a7;have hcbc:=hP.cb.cell;have hcbl:=hP.cb.lt;clear hg hR hP a5 a7;go_wp2_with (at_next;refine zbj ?_);refine zbk ?_;refine zg3 rfl _ rfl rfl HR.o ?_ ?_
 ·intro hl;subst hl;have FIN:=zH (show ∃ st2 c2,c2=c/\za5 U st0 fb wf wR V out st2 wr/\(c2=true->zbm U st2<zbm U st)/\(c2=false->st2=st/\FdCl st)from
   ⟨O,c,rfl,HP.o.inv,HP.o.ls,fun hc=>⟨HP.o.eqs hc,fun n u o hu ho=>by
    cases hgn:mget mu n with
    | none=>rw[HM.o.u0 n hgn]at hu;cases hu
    | some v=>exact((N.o hc) n v (zdd hgn)).resolve_left yy u hu o ho⟩⟩)
  clear N;go_wp2_with fail;refine zhj (B:=w.heap.size) (fun W=>∃ st2 c2,c2=c/\za5 U st0 fb wf wR V out st2 W/\(c2=true->zbm U st2<zbm U st)/\(c2=false->st2=st/\FdCl st)) (fun W W' hr h=>?_) (fun W h=>?_) _ wr a0.o FIN.o
  ·obtain⟨st2,c2,h1,h2,h3⟩:=h;exact⟨st2,c2,h1,h2.qo hr HZ.o.1 HZ.o.2.1,h3⟩
  ·obtain⟨st2,c2,rfl,h2,h3,h4⟩:=h;exact⟨.bool c2,(results_tmp rfl _ _ _).trans rfl,st2,c2,rfl,h2,h3,h4⟩
 ·intro p l1 l2 w2 hl ag af bm b3;obtain⟨n,v⟩:=p;simp only[id]at b3;have Z:(n,v) ∈ mu:=HR.o.sub _ (by rw[hl];simp);obtain⟨va,vc,hv⟩:=zZ (HM.o.ur n v Z);subst hv;have aw:=zH Z;have b8:NdOk n:=by obtain⟨_,_,_,_,_,h,_⟩:=HR.o.map;exact h _ Z
  have bf:=zH b8;have bz:(st.us n).length<1000:=H.o.u.ul n;have b1:=HP.o.iter af (yq HZ.o) HR.o.obj (yq HZ.o);have aj:=zH (a0.o.kept ⟨af.size,fun k o ho bi=>(af.block k (lt_of_block ho) (fun e=>by
   injection e with e;subst e;obtain⟨a,b,c,d,h⟩:=HR.o.obj;rw[ho]at h;injection h with h;subst h;cases bi)).trans ho⟩)
  have a4:Below w2.heap.size w2 (w2.alloc (.k #[.u n.k,.i n.a,.i n.b] 419)):=yB.alloc yL _;have b7:Blk (w2.alloc (.k #[.u n.k,.i n.a,.i n.b] 419)) w2.heap.size 419 #[.u n.k,.i n.a,.i n.b]:=Blk.newAt rfl;have HLL:=zH (show(l1++l2).length<left.length by rw[hl];simp);have HNBL:=zH (show w.heap.size+2<=w2.heap.size by have:=HP.o.cb.lt;omega);have am:=zH (show FdM U st0 fb wf wR V out st w mu r (l1++l2) n w2.heap.size (st.us n).length (.i 0) ds (w2.alloc (.k #[.u n.k,.i n.a,.i n.b] 419))from
   ⟨c,O,0,rfl,rfl,yD _,ag.qj (a4.block _ ag.lt.1) (a4.block _ ag.lt.2),b1.below a4,fun hc=>⟨fun n1 v1 h1=>by
    rcases N.o hc n1 v1 h1 with h2 | h2
    ·rw[hl]at h2;exact mJb
    ·exact .inr (.inr h2),fun u hu=>by simp at hu⟩,b7,aj.o.low yL a4.block⟩)
  clear hl ag af bm Z b8 b1 aj a4 b7 HR HP N a0 hcbc hcbl;go_wp2_with fail;obtain⟨nb,a8⟩:∃ nb,nb=w2.heap.size:=⟨_,rfl⟩;rw[<- a8]at am HNBL |-;clear a8 b3;refine wp_loop_ghost_k (fun gk a W=>∃ ds j5 u5 u6 u7 u8 u9 u10 u16 u17 u18 u19 u20 u24 u25 u26 u27 u28 u29 u30 u31 u32 u33 u34 u35 u36 u37 u38 u39 u40 u41 u42 u43 u44 u45 u46 u47 u48 u49 u50,FdM U st0 fb wf wR V out st w mu r (l1++l2) n nb gk j5 ds W /\
   a={ tmps:=#[.p V.sb,.p w.heap.size,.bool false,.p (w.heap.size+1),.p nb,u5,u6,u7,u8,u9,u10,.p V.sb,.p V.sb,.q V.sb 3,.m V.ub,.p r,u16,u17,u18,u19,u20,.slice va (st.us n).length vc,.i ((st.us n).length:Int),j5,u24,u25,u26,u27,u28,u29,u30,u31,u32,u33,u34,u35,u36,u37,u38,u39,u40,u41,u42,u43,u44,u45,u46,u47,u48,u49,u50,undef],defers:=ds }) (st.us n).length
   ⟨_,_,_,_,_,_,_,_,_,_,_,_,_,_,_,_,_,_,_,_,_,_,_,_,_,_,_,_,_,_,_,_,_,_,_,_,_,_,_,_,am.o,rfl⟩ ?_
  clear am;rintro gk a wm ⟨ds2,j5,u5,u6,u7,u8,u9,u10,u16,u17,u18,u19,u20,u24,u25,u26,u27,u28,u29,u30,u31,u32,u33,u34,u35,u36,u37,u38,u39,u40,u41,u42,u43,u44,u45,u46,u47,u48,u49,u50,hrel,rfl⟩ J2 K2 bp bq;obtain⟨c,O,j,rfl,hg,hj,hR,hP,a5,a8,a7⟩:=hrel;have be:=zH hg;have HR:=zH hR;have HP:=zH hP;have N:=zH a5;have az:=zH a8;have a0:=zH a7;clear hg hR hP a5 a8 a7;by_cases b5:j<(st.us n).length
  ·obtain⟨u,hu⟩:∃ u,(st.us n)[j]?=some u:=⟨_,yc b5⟩;have a9:=HP.o.row HR.o aw.o;obtain⟨vg,ca,hv,c5,c6⟩:=a9.form yo;injection hv with e1 e2 e3;subst e1 e3;have a2:∀ i,i<5->wm.cell? (.a vg (j*5+i))=(zcq u)[i]? := fun i hi=>by
    rw[a9.cellAt (j*5+i) yo,zt9 hu i hi]
   have c0:wm.cell? (.a vg (j*5))=some (.i u.f):=a2 0 yo;have c1:wm.cell? (.a vg (j*5+1))=some (.u u.n.k):=a2 1 yo;have c2:wm.cell? (.a vg (j*5+2))=some (.i u.n.a):=a2 2 yo;have c3:wm.cell? (.a vg (j*5+3))=some (.i u.n.b):=a2 3 yo;have c4:wm.cell? (.a vg (j*5+4))=some (.bool u.put):=a2 4 yo;have HU:=zH hu;have L:Below wm.heap.size wm (wm.alloc (.k #[.i u.f,.u u.n.k,.i u.n.a,.i u.n.b,.bool u.put] 427)):=yB.alloc yL _;have aa:Blk (wm.alloc (.k #[.i u.f,.u u.n.k,.i u.n.a,.i u.n.b,.bool u.put] 427)) wm.heap.size 427 #[.i u.f,.u u.n.k,.i u.n.a,.i u.n.b,.bool u.put]:=Blk.newAt rfl;clear a2 hu a9;go_wp2_with fail;generalize hW:wm.alloc (.k #[.i u.f,.u u.n.k,.i u.n.a,.i u.n.b,.bool u.put] 427)=wu at L aa |-;obtain⟨vb,ap⟩:∃ vb,vb=wm.heap.size:=⟨_,rfl⟩;rw[<- ap]at aa |-;have HVB:=zH (show w.heap.size+2<=vb by rw[ap];have:=HP.o.cb.lt;omega);clear hW c0 c1 c2 c3 c4 ap;have ab:=zH (HP.o.below L);have ak:=zH (HR.o.qj (L.block _ HR.o.lt.1) (L.block _ HR.o.lt.2));have ay:=zH (az.o.below L az.o.lt);have au:=zH (a0.o.low yL L.block);obtain⟨c7,c8,c9,b6⟩:=ab.o.inv.p.m;have b4:O.ho n=st.ho n:=by rw[HP.o.sm.1]
   have ao:=(HM.o.sm n).1;have A:(∀ j,wu.drew.cell? (.a V.sb j)=#[.p fb,.m V.hb,.m V.tb,.m V.ub,zA out][j]?)/\(Instr.lookup 378 (.m V.hb) (.agg #[.u n.k,.i n.a,.i n.b]) false).run prog wu.drew=.ok (.agg #[zA (st.ho n),zA (O.ht n)]) wu.drew/\wu.drew.cell? (.a w.heap.size 0)=some (.p V.sb)/\(∀ j,wu.drew.cell? (.a nb j)=#[.u n.k,.i n.a,.i n.b][j]?):=by
    have hd:=b6.kp (PtKp.drew wu);have hl:=hd.look bf.o;rw[b4]at hl;exact⟨hd.s.cell,hl,ab.o.sx.drew.cell 0,ay.o.drew.cell⟩
   clear b6 L b4;refine zov ?_;refine rgl 7 (fun(W':World)=>(∀ j,W'.cell? (.a V.sb j)=#[.p fb,.m V.hb,.m V.tb,.m V.ub,zA out][j]?)/\(Instr.lookup 378 (.m V.hb) (.agg #[.u n.k,.i n.a,.i n.b]) false).run prog W'=.ok (.agg #[zA (st.ho n),zA (O.ht n)]) W'/\W'.cell? (.a w.heap.size 0)=some (.p V.sb)/\(∀ j,W'.cell? (.a nb j)=#[.u n.k,.i n.a,.i n.b][j]?)) ?_
   iterate 7(refine tK 0 rfl A ?_)
   refine lst rfl fun K I=>?_;go_simp;refine I _ _ ?_;refine zf5 ?_;clear I;have a6:Below wu.heap.size wu wu.drew:=yB.drew;have ax:=zH (show zg7 wu.drew.heap.size ds2 from fun d hd D e=>au.o.lt d hd D e);have aq:w.heap.size<=wu.drew.heap.size:=yaw ab.o.sx.lt;have bg:=zH (show FdI U st0 fb wf wR V out st w mu r (l1++l2) n nb j u vb wu.drew.heap.size ds2 0 wu.drew from
    ⟨⟨c,O,ab.o.below a6,fun hc=>⟨(N.o hc).1,(N.o hc).2,fun o ho=>by simp at ho⟩⟩,ak.o.qj (a6.block _ ak.o.lt.1) (a6.block _ ak.o.lt.2),ay.o.drew,aa.drew,au.o.low yL a6.block,yr _⟩)
   have bo:=zH aa;clear A a6 aa;go_wp2_with fail;refine(wpIn_wide (n:=3)).1 (zkq (gf:=237) (first:=#[zA (st.ho n)]) (cap:=#[]) rfl zkj (zkl 2 (st.ho n) ao) rfl
    (FdI U st0 fb wf wR V out st w mu r (l1++l2) n nb j u vb wu.drew.heap.size ds2) (fun _ _=>False) (fun i W W' hr h=>h.qo (ya HZ.o.1 aq) (ya HZ.o.2.1 aq) ax.o hr) (fun _ _ _ _ h=>h) bg.o
    (fun y=>{ tmps:=#[.p V.sb,.p w.heap.size,.bool false,.p (w.heap.size+1),.p nb,u5,u6,.p vb,y,u9,u10,.p V.sb,.p V.sb,.q V.sb 3,.m V.ub,.p r,u16,u17,u18,u19,u20,.s vg (st.us n).length vc,.i ((st.us n).length:Int),.i j,.bool true,.q vg (j*5),.agg #[.i u.f,.u u.n.k,.i u.n.a,.i u.n.b,.bool u.put],.p V.sb,.p V.sb,.q V.sb 1,.m V.hb,.agg #[.u n.k,.i n.a,.i n.b],.agg #[zA (st.ho n),zA (O.ht n)],zA (st.ho n),.func (.func 237) #[zA (st.ho n)] #[],y,u36,u37,u38,u39,u40,u41,u42,u43,u44,u45,u46,u47,u48,u49,u50,undef],defers:=[] }) ?assign ?body ?done ?stop)
   case assign =>
    intro l x W K I
    gi_wp2
    exact I
   case stop=>exact fun c W h _=>h.elim
   case done =>
    rintro W hI hD;obtain⟨c2,st2,h1,h2⟩:=hI.ex;have REL:=zH (show FdM U st0 fb wf wR V out st w mu r (l1++l2) n nb ((st.us n).length-(j+1)) (.i ((j+1:Nat):Int)) ({ target:=.collected wu.drew.heap.size,args:=#[] }::ds2) W from
     ⟨c2,st2,j+1,rfl,rfl,b5,hI.rg,h1,fun hc=>⟨(h2 hc).1,fun u' a3=>by
      rw[yam,HU.o]at a3;rcases yu.1 a3 with a3 | a3
      ·exact(h2 hc).2.1 u' a3
      ·have e:u'=u:=by simpa using a3
       subst e;intro o ho;refine(h2 hc).2.2 o ?_;rw[show((mems (st.ho n)).map fun k:Nat=>Value.int .i64 (k:Int)).length=(mems (st.ho n)).length by simp,yaz,zit ao];exact ho⟩,hI.nb,hI.m.more ax.o aq hD⟩)
    clear h1 h2 hI hD;go_wp2;go_roundg ((st.us n).length-(j+1))
    case measure=>have:=be.o;omega
    case rel=>exact REL.o
   case body =>
    rintro l i y W hy hI hz;obtain⟨o,ho,rfl⟩:∃ o,(mems (st.ho n))[i]?=some o/\Value.int .i64 (o:Int)=y:=by simpa using hy
    obtain⟨c2,st2,P2,b2⟩:=hI.ex;have HI:=zH hI;have HP2:=zH P2;have HC2:=zH b2;have HO:=zH ho;have E:=HI.o.vb.cell;have a1:=zH (show ∀ W',Below W.heap.size W W'->∀ j,W'.cell? (.a vb j)=#[.i u.f,.u u.n.k,.i u.n.a,.i u.n.b,.bool u.put][j]? from fun W' hb=>(HI.o.vb.below hb HI.o.vb.lt).cell);have A:∀ j,W.drew.cell? (.a vb j)=#[.i u.f,.u u.n.k,.i u.n.a,.i u.n.b,.bool u.put][j]? := E;have G:=zH (show NdOk ⟨102,o,u.f⟩/\NdOk u.n/\(⟨102,o,u.f⟩:Nd) ∈ U/\u.n ∈ U/\(u.put=false->zen st0 ⟨102,o,u.f⟩ u.n)/\(u.put=true->zen st0 u.n ⟨102,o,u.f⟩)from by
     have ah:u ∈ st2.us n:=by rw[P2.sm.2];exact yl HU.o
     obtain⟨u1,u2,u3,u4⟩:=P2.inv.u.us n u ah;have b9:=zrq (yl ho);have bb:zc2 st0 n false o:=P2.inv.s.ho n o (by rw[P2.sm.1];exact(zit ao).1 (yl ho));rw[P2.inv.s.us]at ah;exact⟨⟨by show 102<256;omega,by show o<1000000;omega,by show -1000000<(u.f:Int);omega,by show(u.f:Int)<1000000;omega⟩,u1,u4 o b9,u3,fun hp=>(zgn st0).get n u o ah hp bb,fun hp=>(zgn st0).put n u o ah hp bb⟩)
    clear hI P2 b2 ho hy E;refine wpIn_block (wpIn_seq_k fun K1 ac=>?_);refine zl8 9 (fun(w':World)=>∀ j,w'.cell? (.a vb j)=#[.i u.f,.u u.n.k,.i u.n.a,.i u.n.b,.bool u.put][j]?) yk rfl rfl yk yk ?_;simp only[yM,yY]
    iterate 6(refine tK 0 rfl A ?_)
    refine wpAnyH_ready (rs:=[6,7]) yk yy ?_;refine AllReadyH.cons rfl (fun K I=>?_) (AllReadyH.cons rfl (fun K I=>?_) AllReadyH.nil)
    ·go_simp;refine I.o _ _ (a1.o _ ((yB.alloc yL _).drew)) (fun A=>?_);clear I K;refine rdy 7 rfl fun K I=>?_;go_simp;refine I.o _ _ (a1.o _ ((yB.alloc yL _).alloc yy _).drew) (fun A=>?_);clear I K;refine rdy 8 rfl fun K I=>?_;go_simp;refine I.o _ _ (a1.o _ ((yB.alloc yL _).alloc yy _).drew) (fun A=>?_);clear I K;refine lst rfl fun K I=>?_;go_simp;refine I _ _ ?_;refine zf5 ?_;refine ac _ _ ?_;clear I K ac K1 A;have E:=HI.o.vb.cell;have S:=HI.o.vb.lt;have Q:=HP2.o.sx.cell;have R:=HP2.o.sx.lt;simp only[zcq]at E;cases hup:u.put
     ·rw[hup]at E;have hbB:=zH (show Below W.heap.size W _ from(((yn W.heap.size W).alloc yL (.k #[.u 102,.i o,.i u.f] 419)).alloc yy (.k #[.u u.n.k,.i u.n.a,.i u.n.b] 419)).drew);have HUS:=zH (show useA o u=⟨102,o,u.f⟩/\useB o u=u.n by unfold useA useB;rw[hup];exact⟨rfl,rfl⟩);have Y:=zH (G.o.2.2.2.2.1 hup);clear hup
      gi_wp2
      refine⟨trivial,CallsIn.inRound l ((callsIn_wide.2 (zhe wf.heap.size fb wf V st2 out (⟨102,o,u.f⟩:Nd) u.n _ (HP2.o.inv.p.below hbB.o) G.o.1 G.o.2.1)).mono ?_)⟩;rintro e w7 ⟨rfl,hp7,hf7⟩;clear E S Q R;have hf:=(EdFr.below (V:=V) hbB.o).trans hf7;have hkr:zP W w7:=⟨hf.size,fun k o ho hr=>hf.same k o ho (.inl fun _ _ e=>by subst e;cases hr)⟩;have hrg:zY w7 V.ub r ndV NdOk id mu (l1++l2):=HI.o.rg.ed hf;have hnb7:=HI.o.nb.nm (NmFr.ed hf);have hvb7:=HI.o.vb.nm (NmFr.ed hf);have hm7:=HI.o.m.ed hf;have hcb7:=HP2.o.cb.nm (NmFr.ed hf);cases hto:st2.to (⟨102,o,u.f⟩:Nd) u.n
      ·have hP7:=(HP2.o.below hbB.o).fresh hp7 hf7 hto Y.o G.o.2.2.1 G.o.2.2.2.1 HZ.o.1 HZ.o.2.1;exact mDa
      ·exact mJa
     ·rw[hup]at E;have hbB:=zH (show Below W.heap.size W _ from(((yn W.heap.size W).alloc yL (.k #[.u u.n.k,.i u.n.a,.i u.n.b] 419)).alloc yy (.k #[.u 102,.i o,.i u.f] 419)).drew);have HUS:=zH (show useA o u=u.n/\useB o u=⟨102,o,u.f⟩ by unfold useA useB;rw[hup];exact⟨rfl,rfl⟩);have Y:=zH (G.o.2.2.2.2.2 hup);clear hup
      gi_wp2
      refine⟨trivial,CallsIn.inRound l ((callsIn_wide.2 (zhe wf.heap.size fb wf V st2 out u.n (⟨102,o,u.f⟩:Nd) _ (HP2.o.inv.p.below hbB.o) G.o.2.1 G.o.1)).mono ?_)⟩;rintro e w7 ⟨rfl,hp7,hf7⟩;clear E S Q R;have hf:=(EdFr.below (V:=V) hbB.o).trans hf7;have hkr:zP W w7:=⟨hf.size,fun k o ho hr=>hf.same k o ho (.inl fun _ _ e=>by subst e;cases hr)⟩;have hrg:zY w7 V.ub r ndV NdOk id mu (l1++l2):=HI.o.rg.ed hf;have hnb7:=HI.o.nb.nm (NmFr.ed hf);have hvb7:=HI.o.vb.nm (NmFr.ed hf);have hm7:=HI.o.m.ed hf;have hcb7:=HP2.o.cb.nm (NmFr.ed hf);cases hto:st2.to u.n (⟨102,o,u.f⟩:Nd)
      ·have hP7:=(HP2.o.below hbB.o).fresh hp7 hf7 hto Y.o G.o.2.2.2.1 G.o.2.2.1 HZ.o.1 HZ.o.2.1;exact mDa
      ·exact mJa
    ·go_simp;refine I.o _ _ (a1.o _ ((yB.alloc yL _).drew)) (fun A=>?_);clear I K;refine rdy 6 rfl fun K I=>?_;go_simp;refine I.o _ _ (a1.o _ ((yB.alloc yL _).alloc yy _).drew) (fun A=>?_);clear I K;refine rdy 8 rfl fun K I=>?_;go_simp;refine I.o _ _ (a1.o _ ((yB.alloc yL _).alloc yy _).drew) (fun A=>?_);clear I K;refine lst rfl fun K I=>?_;go_simp;refine I _ _ ?_;refine zf5 ?_;refine ac _ _ ?_;clear I K ac K1 A;have E:=HI.o.vb.cell;have S:=HI.o.vb.lt;have Q:=HP2.o.sx.cell;have R:=HP2.o.sx.lt;simp only[zcq]at E;cases hup:u.put
     ·rw[hup]at E;have hbB:=zH (show Below W.heap.size W _ from(((yn W.heap.size W).alloc yL (.k #[.u u.n.k,.i u.n.a,.i u.n.b] 419)).alloc yy (.k #[.u 102,.i o,.i u.f] 419)).drew);have HUS:=zH (show useA o u=⟨102,o,u.f⟩/\useB o u=u.n by unfold useA useB;rw[hup];exact⟨rfl,rfl⟩);have Y:=zH (G.o.2.2.2.2.1 hup);clear hup
      gi_wp2
      refine⟨trivial,CallsIn.inRound l ((callsIn_wide.2 (zhe wf.heap.size fb wf V st2 out (⟨102,o,u.f⟩:Nd) u.n _ (HP2.o.inv.p.below hbB.o) G.o.1 G.o.2.1)).mono ?_)⟩;rintro e w7 ⟨rfl,hp7,hf7⟩;clear E S Q R;have hf:=(EdFr.below (V:=V) hbB.o).trans hf7;have hkr:zP W w7:=⟨hf.size,fun k o ho hr=>hf.same k o ho (.inl fun _ _ e=>by subst e;cases hr)⟩;have hrg:zY w7 V.ub r ndV NdOk id mu (l1++l2):=HI.o.rg.ed hf;have hnb7:=HI.o.nb.nm (NmFr.ed hf);have hvb7:=HI.o.vb.nm (NmFr.ed hf);have hm7:=HI.o.m.ed hf;have hcb7:=HP2.o.cb.nm (NmFr.ed hf);cases hto:st2.to (⟨102,o,u.f⟩:Nd) u.n
      ·have hP7:=(HP2.o.below hbB.o).fresh hp7 hf7 hto Y.o G.o.2.2.1 G.o.2.2.2.1 HZ.o.1 HZ.o.2.1;exact mDa
      ·exact mJa
     ·rw[hup]at E;have hbB:=zH (show Below W.heap.size W _ from(((yn W.heap.size W).alloc yL (.k #[.u 102,.i o,.i u.f] 419)).alloc yy (.k #[.u u.n.k,.i u.n.a,.i u.n.b] 419)).drew);have HUS:=zH (show useA o u=u.n/\useB o u=⟨102,o,u.f⟩ by unfold useA useB;rw[hup];exact⟨rfl,rfl⟩);have Y:=zH (G.o.2.2.2.2.2 hup);clear hup
      gi_wp2
      refine⟨trivial,CallsIn.inRound l ((callsIn_wide.2 (zhe wf.heap.size fb wf V st2 out u.n (⟨102,o,u.f⟩:Nd) _ (HP2.o.inv.p.below hbB.o) G.o.2.1 G.o.1)).mono ?_)⟩;rintro e w7 ⟨rfl,hp7,hf7⟩;clear E S Q R;have hf:=(EdFr.below (V:=V) hbB.o).trans hf7;have hkr:zP W w7:=⟨hf.size,fun k o ho hr=>hf.same k o ho (.inl fun _ _ e=>by subst e;cases hr)⟩;have hrg:zY w7 V.ub r ndV NdOk id mu (l1++l2):=HI.o.rg.ed hf;have hnb7:=HI.o.nb.nm (NmFr.ed hf);have hvb7:=HI.o.vb.nm (NmFr.ed hf);have hm7:=HI.o.m.ed hf;have hcb7:=HP2.o.cb.nm (NmFr.ed hf);cases hto:st2.to u.n (⟨102,o,u.f⟩:Nd)
      ·have hP7:=(HP2.o.below hbB.o).fresh hp7 hf7 hto Y.o G.o.2.2.2.1 G.o.2.2.1 HZ.o.1 HZ.o.2.1;exact mDa
      ·exact mJa
  ·have bh:j=(st.us n).length:=yo;subst bh;have REL:=zH (show FdO U st0 fb wf wR V out st w mu r (l1++l2).length ds2 wm from⟨c,O,l1++l2,rfl,HR.o,HP.o,fun hc n1 v1 h1=>by
    rcases(N.o hc).1 n1 v1 h1 with h2 | h2 | h2
    ·exact .inl h2
    ·subst h2;have h3:=(N.o hc).2;rw[yaz]at h3;exact .inr h3
    ·exact .inr h2,a0.o⟩)
   clear N;exact mWc
end
section
attribute [local go_sem] Oper.semAt_some
def OutP (st:PS)(x0 o:Nat):Prop:=∀ S:Nat->Prop,(∀ o,x0.testBit o=true->S o)->(∀ o f o':Nat,S o->f<2->(st.ho ⟨102,o,f⟩).testBit o'=true->S o')->S o
def zi9 (st:PS)(x:Nat):Prop:=∀ o,x.testBit o=true->∀ f:Nat,f<2->x|||st.ho ⟨102,o,f⟩=x
theorem OutP.done {st:PS}{x0 x:Nat}(hs:∀ o,x.testBit o=true->OutP st x0 o)(hg:∀ o,x0.testBit o=true->x.testBit o=true)(hc:zi9 st x)(o:Nat):x.testBit o=true↔OutP st x0 o :=
 ⟨hs o,fun h=>h (fun o=>x.testBit o=true) hg fun o f o' h1 h2 h3=>by rw[<- hc o h1 f h2,yau,h3,yao]⟩
theorem PtM.setOut {fb:Nat}{V:PtV}{st:PS}{mh:List (Nd×(Nat×Nat))}{mt:List (Nd×Nat)}(h:PtM w B fb V st out mh mt mu)(x:Nat):PtM (w.setCell (.a V.sb 4) (zA x)) B fb V st x mh mt mu:=by
 have hm:∀ {κ ν : Type} {enc:κ -> Value} {ok:κ -> Prop} {encv:ν -> Value} {m:List (κ × ν)} {b:Nat},zG w b enc ok encv m->zG (w.setCell (.a V.sb 4) (zA x)) b enc ok encv m:=fun h'=>h'.qi (p:=(.a V.sb 4)) (h'.qf h.s) _;refine⟨(h.s.qe 4 _).cast rfl,hm h.h,h.hv,hm h.t,h.tn,fun n b hb=>?_,h.t0,hm h.u,fun n v hv=>?_,h.un,h.u0,h.bB,h.ne,h.sm⟩
 ·obtain⟨⟨m,a,A⟩,c⟩:=h.ti n b hb;exact⟨⟨m,hm a,A⟩,c⟩
 ·exact zL (h.ur n v hv) h.s yd 4 _
theorem PtAt.setOut {fb:Nat}{wf:World}{V:PtV}{st:PS}(h:PtAt B fb wf V st out w)(x:Nat):PtAt B fb wf V st x (w.setCell (.a V.sb 4) (zA x)):=by
 obtain⟨h1,h2,A,D,mu,h3⟩:=h;exact⟨h1.setCell (p:=(.a V.sb 4)) h3.bB.1 _,by simpa [World.setCell] using h2,A,D,mu,h3.setOut x⟩
theorem zin (w:World)(g i:Nat)(u:Value):w.grownBy (w.setCell (.a g i) u) (some g):=by
 have hx:=(yn 0 w).setCell (p:=(.a g i)) yZ u;exact⟨hx.os,hx.tape,hx.output,hx.size,fun k _ A=>yt _ _ _ _ (fun e=>A (by rw[e]))⟩
structure zbs (fb:Nat)(wf wR:World)(V:PtV)(st:PS)(x0:Nat)(x:Nat)(W:World):Prop where
 p:PtAt wf.heap.size fb wf V st x W
 s:∀ o,x.testBit o=true->OutP st x0 o
 g:∀ o,x0.testBit o=true->x.testBit o=true
 n:wR.grownBy W (some V.sb)
 b:x<2 ^ 48
section
variable {fb:Nat} {wf wR:World} {V:PtV} {st:PS} {x0 x N:Nat} {W W':World}
theorem PtAt.pt (h:PtAt B fb wf V st out w)(hk:PtKp w w')(hb:Below N w w')(hN:B<=N):PtAt B fb wf V st out w':=by
 obtain⟨h1,h2,A,D,mu,h3⟩:=h;exact⟨h1.trans (hb.mono hN),ya h2 hk.size,A,D,mu,h3.kp hk⟩
theorem zbs.below (h:zbs fb wf wR V st x0 x W)(hb:Below W.heap.size W W'):zbs fb wf wR V st x0 x W':=⟨h.p.below hb,h.s,h.g,zra h.n hb,h.b⟩
theorem zbs.qo (h:zbs fb wf wR V st x0 x W)(hr:Recs N W W')(hN:wf.heap.size<=N)(hR:wR.heap.size<=N):zbs fb wf wR V st x0 x W' :=
 ⟨h.p.pt (PtKp.qo hr) hr.below hN,h.s,h.g,⟨hr.os.trans h.n.os,hr.tape.trans h.n.tape,hr.output.trans h.n.output,ya h.n.size hr.size,fun k D A=>(hr.low k yo).trans (h.n.block k D A)⟩,h.b⟩
theorem zbs.grow {o f:Nat}(h:zbs fb wf wR V st x0 x W)(ho:OutP st x0 o)(hf:f<2)(hs:st.ho ⟨102,o,f⟩<2 ^ 48):zbs fb wf wR V st x0 (x|||st.ho ⟨102,o,f⟩) (W.setCell (.a V.sb 4) (zA (x|||st.ho ⟨102,o,f⟩))) :=
 ⟨h.p.setOut _,fun G A=>by
  rw[yau,yQ]at A;rcases A with A | A
  ·exact h.s G A
  ·exact fun S h1 h2=>h2 o f G (ho S h1 h2) hf A,fun G A=>by rw[yau,h.g G A,ybc],by
  have H:=zin W V.sb 4 (zA (x|||st.ho ⟨102,o,f⟩));exact⟨h.n.os,h.n.tape,h.n.output,ya h.n.size H.size,fun k E D=>(H.block k (yi E h.n.size) D).trans (h.n.block k E D)⟩,yJ h.b hs⟩
theorem zbs.note {g:Nat}{cs:Array Value}(h:zbs fb wf wR V st x0 x W)(hb:Blk W g 4 cs)(hg:wf.heap.size<=g)(hgR:wR.heap.size<=g)(u:Value):zbs fb wf wR V st x0 x (W.setCell (.a g 0) u):=by
 refine⟨?_,h.s,h.g,?_,h.b⟩
 ·obtain⟨h1,h2,E,G,mu,h3⟩:=h.p;exact⟨h1.setCell (p:=(.a g 0)) hg _,by simpa [World.setCell] using h2,E,G,mu,h3.kp (PtKp.set hb yd yd 0 _)⟩
 ·exact⟨h.n.os,h.n.tape,h.n.output,by simpa [World.setCell] using h.n.size,fun k D A=>(yt W ⟨g,0,none⟩ u k (by show k≠g;omega)).trans (h.n.block k D A)⟩
end
structure EsP (fb:Nat)(wf wR:World)(V:PtV)(st:PS)(x0 xA:Nat)(w:World)(c:Bool)(x:Nat)(W:World):Prop where
 inv:zbs fb wf wR V st x0 x W
 cb:Blk W w.heap.size 4 #[.bool c]
 ls:c=true->2 ^ 48-x<2 ^ 48-xA
 eqs:c=false->x=xA
structure EsI (fb:Nat)(wf wR:World)(V:PtV)(st:PS)(x0 xA:Nat)(w:World)(N i:Nat)(W:World):Prop where
 ex:∃ c x,EsP fb wf wR V st x0 xA w c x W/\(c=false->∀ o ∈ (mems xA).take i,∀ f:Nat,f<2->xA|||st.ho ⟨102,o,f⟩=xA)
 z:N<=W.heap.size
theorem EsI.qo {fb:Nat}{wf wR:World}{V:PtV}{st:PS}{x0 xA:Nat}{N N' i:Nat}{W W':World}(h:EsI fb wf wR V st x0 xA w N' i W)(h1:wf.heap.size<=N)(h2:wR.heap.size<=N)(hr:Recs N W W'):EsI fb wf wR V st x0 xA w N' i W':=by
 obtain⟨c,x,a,b⟩:=h.ex;exact⟨⟨c,x,⟨a.inv.qo hr h1 h2,a.cb.qo hr,a.ls,a.eqs⟩,b⟩,ya h.z hr.size⟩
def EsF (fb:Nat)(wf wR:World)(V:PtV)(st:PS)(x0 xA:Nat)(w:World)(N i o:Nat)(W0:World)(v11:Value)(W:World):Prop :=
 ∃ (f:Nat) (c:Bool) (x:Nat),v11=.i f/\f<=2/\EsP fb wf wR V st x0 xA w c x W/\(c=false->(∀ o ∈ (mems xA).take i,∀ f:Nat,f<2->xA|||st.ho ⟨102,o,f⟩=xA)/\∀ f':Nat,f'<f->xA|||st.ho ⟨102,o,f'⟩=xA)/\zP W0 W/\N<=W.heap.size
theorem zw7 (fb:Nat)(wf wR:World)(V:PtV)(st:PS)(x0 xA:Nat)(vx:Nat)(w:World)(h:zbs fb wf wR V st x0 xA w)(hvx:Blk wR vx 298 #[.p V.sb])(hne:vx≠V.sb) :
  Calls prog 282 #[.p vx] w (zgi (zbs fb wf wR V st x0) (fun x=>2 ^ 48-x) (zi9 st) xA):=by
 have a4:=zH (fun x W (h:zbs fb wf wR V st x0 x W)=>hvx.grown h.n (fun e=>hne (by injection e)));have ag:=(a4.o xA w h).cell;have ah:=(a4.o xA w h).lt;obtain⟨mh,mt,mu,hm⟩:=h.p.m;have S:=hm.s.cell;unfold zdf at S;have an:=hm.s.lt;have ak:=zH hm.sm;have H:=zH h;clear hm h hvx;have ay:∀ (fn:Fn) (first cap:Array Value) (w:World),(Instr.makeFunc fn first cap).run prog w=.ok (.func fn first cap) w:=fun _ _ _ _=>rfl;have ax:=fun(a b:Nat) (w:World)=>zl1 (zA a) (zA b) w;refine zjk func282 rfl ?_;simp only[ntmps282,yb2,yai,ya8,Nat.reduceAdd,Nat.reduceSub,ybn,ybm,yb3,ybp,yas,ya1];go_wp2_with fail;have a5:Below w.heap.size w (w.alloc (.k #[.bool false] 4)):=yB.alloc yL _;have Q:Blk (w.alloc (.k #[.bool false] 4)) w.heap.size 4 #[.bool false]:=Blk.newAt rfl;generalize hW:w.alloc (.k #[.bool false] 4)=w1 at a5 Q |-;have az:w1.heap.size=w.heap.size+1:=by rw[<- hW];simp
 clear hW ag ah S an;have HZ:=zH (show wf.heap.size<=w.heap.size/\wR.heap.size<=w.heap.size/\w.heap.size<=w1.heap.size from⟨H.o.p.bs,H.o.n.size,by omega⟩);have am:=zH (show EsI fb wf wR V st x0 xA w w1.heap.size 0 w1 from⟨⟨false,xA,⟨H.o.below a5,Q,fun h=>(by cases h),fun _=>rfl⟩,fun _ o ho=>by simp at ho⟩,yr _⟩);have Y:=H.o.b;clear a5 Q;refine(wpIn_wide (n:=3)).1 (zkq (gf:=237) (first:=#[zA xA]) (cap:=#[]) rfl zkj (zkl 2 xA Y) rfl
  (EsI fb wf wR V st x0 xA w w1.heap.size) (fun _ _=>False) (fun i W W' hr h=>h.qo (ya HZ.o.1 HZ.o.2.2) (ya HZ.o.2.1 HZ.o.2.2) hr) (fun _ _ _ _ h=>h) am.o
  (fun y=>{ tmps:=#[.p vx,.bool false,.p w.heap.size,y,undef,.p V.sb,.p V.sb,.q V.sb 4,zA xA,.func (.func 237) #[zA xA] #[],y,undef,undef,undef,undef,undef,undef,undef,undef,undef,undef,undef,undef,undef,undef,undef,undef,undef,undef],defers:=[] }) ?assign ?body ?done ?stop)
 case assign =>
  intro l x W K hK
  gi_wp2
  exact hK
 case stop=>exact fun c W h _=>h.elim
 case done =>
  rintro W hI hD;obtain⟨c,x,N,D⟩:=hI.ex;have ad:=N.cb.cell;have a3:=zH (show ∃ x2 L,L=c/\zbs fb wf wR V st x0 x2 W/\(L=true->2 ^ 48-x2<2 ^ 48-xA)/\(L=false->x2=xA/\zi9 st xA)from
   ⟨x,c,rfl,N.inv,N.ls,fun E=>⟨N.eqs E,fun o ho f hf=>D E o (by
    rw[show((mems xA).map fun k:Nat=>Value.int .i64 (k:Int)).length=(mems xA).length by simp,yaz,zit Y];exact ho) f hf⟩⟩)
  have HD:=zH hD;have au:=zH N.cb;clear N D hI hD;go_wp2_with fail;refine zhj (B:=w.heap.size) (fun W=>∃ x2 L,L=c/\zbs fb wf wR V st x0 x2 W/\(L=true->2 ^ 48-x2<2 ^ 48-xA)/\(L=false->x2=xA/\zi9 st xA)) (fun W W' hr h=>?_) (fun W h=>?_) _ W ?_ a3.o
  ·obtain⟨x2,L,h1,h2,h3⟩:=h;exact⟨x2,L,h1,h2.qo hr HZ.o.1 HZ.o.2.1,h3⟩
  ·obtain⟨x2,L,rfl,h2,h3,h4⟩:=h;exact⟨.bool L,(results_tmp rfl _ _ _).trans rfl,x2,L,rfl,h2,h3,h4⟩
  ·refine⟨?_,by simp⟩;rintro d hd;simp at hd;exact⟨_,HZ.o.2.2,hd,HD.o⟩
 case body =>
  rintro l i y W hy hI hz;obtain⟨o,ho,rfl⟩:∃ o,(mems xA)[i]?=some o/\Value.int .i64 (o:Int)=y:=by simpa using hy
  obtain⟨c,x,N,D⟩:=hI.ex;have HO:=zH ho;have aq:=zrq (yl ho);have aj:=zH (show OutP st x0 o from H.o.s o ((zit Y).1 (yl ho)));have ST:=zH (show EsF fb wf wR V st x0 xA w w1.heap.size i o W (.i 0) W from⟨0,c,x,rfl,by omega,N,fun E=>⟨D E,fun f' hf=>by omega⟩,zP.refl W,hI.z⟩);clear hI N D hy ho
  gi_wp2
  gi_loopw [11] (fun v11 wr=>EsF fb wf wR V st x0 xA w w1.heap.size i o W v11 wr) (fun v11 _=>2-(intOf v11).toNat)
  case atStart=>exact ST.o
  case round =>
   obtain⟨f,c,x,rfl,aw,N,D,ae,ai⟩:=hrel;have G:=zH N;have a0:=zH D;have aa:=zH ae;have ab:=zH ai;clear N D ae ai;by_cases a8:f<2
   ·have hd:decide ((f:Int)<2)=true:=by simp;omega
    have af:NdOk ⟨102,o,f⟩:=⟨by show 102<256;omega,by show o<1000000;omega,by show -1000000<(f:Int);omega,by show(f:Int)<1000000;omega⟩;obtain⟨b1,b2,b3,a1⟩:=G.o.inv.p.m;have a9:=(ak.o ⟨102,o,f⟩).1;have O:(∀ j,wr.drew.cell? (.a V.sb j)=#[.p fb,.m V.hb,.m V.tb,.m V.ub,zA x][j]?)/\(Instr.lookup 378 (.m V.hb) (.agg #[.u 102,.i o,.i f]) false).run prog wr.drew=.ok (.agg #[zA (st.ho ⟨102,o,f⟩),zA (st.ht ⟨102,o,f⟩)]) wr.drew/\wr.drew.cell? (.a vx 0)=some (.p V.sb) :=
     ⟨(a1.kp (PtKp.drew wr)).s.cell,(a1.kp (PtKp.drew wr)).look af,(a4.o x wr G.o.inv).drew.cell 0⟩
    have U:=a1.s.drew;have S:=U.cell;have a2:=U.frozen;clear a1
    gi_wp2
    refine zl8 12 (fun(W':World)=>(∀ j,W'.cell? (.a V.sb j)=#[.p fb,.m V.hb,.m V.tb,.m V.ub,zA x][j]?)/\(Instr.lookup 378 (.m V.hb) (.agg #[.u 102,.i o,.i f]) false).run prog W'=.ok (.agg #[zA (st.ho ⟨102,o,f⟩),zA (st.ht ⟨102,o,f⟩)]) W'/\W'.cell? (.a vx 0)=some (.p V.sb)) yk rfl rfl yk yk ?_;simp only[yM,yY]
    iterate 12(refine tK 0 rfl O ?_)
    refine lst rfl fun K hK=>?_;go_simp;refine(zg0 x (st.ho ⟨102,o,f⟩) ⟨V.sb,4,none⟩ wr.drew G.o.inv.b a9 (S 4) (a2 4)).mono ?_;rintro e w4 ⟨rfl,rfl⟩;refine hK _ _ ?_;refine zf5 ?_;have ac:Below wr.heap.size wr wr.drew:=yB.drew;have I:=(G.o.inv.below ac).grow (o:=o) (f:=f) aj.o a8 a9;have A:=G.o.cb.drew.qi (p:=(.a V.sb 4)) (G.o.cb.drew.qs U yd) (zA (x|||st.ho ⟨102,o,f⟩));have R:zP W (wr.drew.setCell (.a V.sb 4) (zA (x|||st.ho ⟨102,o,f⟩))):=(aa.o.trans (zP.qz ac)).setCell (p:=(.a V.sb 4)) U _;have Z:w1.heap.size<=(wr.drew.setCell (.a V.sb 4) (zA (x|||st.ho ⟨102,o,f⟩))).heap.size:=ya ab.o (by simp[World.setCell]);generalize wr.drew.setCell (.a V.sb 4) (zA (x|||st.ho ⟨102,o,f⟩))=w5 at I A R Z |-;clear hK O U S a2 hd af;cases hne2:((x|||st.ho ⟨102,o,f⟩) != x)
    ·have he:x|||st.ho ⟨102,o,f⟩=x:=by simpa using hne2
     rw[he]at I;have REL:=zH (show EsF fb wf wR V st x0 xA w w1.heap.size i o W (.i ((f+1:Nat):Int)) w5 from⟨f+1,c,x,rfl,a8,⟨I,A,G.o.ls,G.o.eqs⟩,fun E=>⟨(a0.o E).1,fun f' a6=>by
      rcases yF f' f with h | h
      ·exact(a0.o E).2 f' h
      ·obtain rfl:f'=f:=yo;have e:=G.o.eqs E;rw[<- e];exact he⟩,R,Z⟩)
     clear I A R Z he hne2;exact mTc
    ·have he:x|||st.ho ⟨102,o,f⟩≠x:=by simpa using hne2
     have a7:2 ^ 48-(x|||st.ho ⟨102,o,f⟩)<2 ^ 48-x:=by
      have h1:=ycr (n:=x) (m:=st.ho ⟨102,o,f⟩);have h2:=yJ G.o.inv.b a9;omega
     have ad:=A.cell;have ao:=A.frozen;have ap:=A.lt;have REL:=zH (show EsF fb wf wR V st x0 xA w w1.heap.size i o W (.i ((f+1:Nat):Int)) (w5.setCell (.a w.heap.size 0) (.bool true))from⟨f+1,true,_,rfl,a8,⟨I.note A HZ.o.1 HZ.o.2.1 _,(A.qe 0 _).cast rfl,fun _=>by
      cases E:c
      ·rw[<- G.o.eqs E];exact a7
      ·exact yb9 a7 (G.o.ls E),fun h=>(by cases h)⟩,fun h=>(by cases h),R.setCell (p:=(.a w.heap.size 0)) A _,ya Z (by simp[World.setCell])⟩)
     clear I A R Z he hne2 a7;exact mTc
   ·obtain rfl:f=2:=yo;have a3:=zH (show zP W wr/\EsI fb wf wR V st x0 xA w w1.heap.size (i+1) wr from⟨aa.o,⟨c,x,G.o,fun E o' J f' a6=>by
     rw[yam,HO.o]at J;rcases yu.1 J with J | J
     ·exact(a0.o E).1 o' J f' a6
     ·have e:o'=o:=by simpa using J
      subst e;exact(a0.o E).2 f' a6⟩,ab.o⟩)
    gi_wp2
    exact a3.o
end
end Go.Proofs.YtkmcihhndgdhpaaGreat
