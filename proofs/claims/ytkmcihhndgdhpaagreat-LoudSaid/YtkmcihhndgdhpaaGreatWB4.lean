/- LkD LkE: parts of the walk. -/
import Derived.Test.YtkmcihhndgdhpaaGreatWB3
set_option maxRecDepth 100000
set_option maxHeartbeats 4000000
set_option linter.unusedSimpArgs false
set_option linter.unusedVariables false
namespace Go.Proofs.YtkmcihhndgdhpaaGreat
section
open Go.RowKit Go.Maps Go.ChangeMaps Go.Shelf
set_option linter.unusedSimpArgs false
def zew (r h:Nat):List Nat→LS→LS
 | [],s=>s
 | j::l,s=>zew r h l (za7 s r j h)
def zge (t:Nat):List Bool→Nat→Nat→Nat
 | [],_,l=>l
 | m::r,s,l=>zge t r (s+1) (if t=2 ^ s∧m=false then dif l t else l)
def zdo (P:Pr)(s:LS)(k:Nat)(i:In):LS:=match P.fs[i.fn]? with
 | some f=>if k=f.from_ then za7 s 4 k (s.1 5 i.fn)else s
 | none=>s
noncomputable def zb7 (P:Pr)(st:PS)(Bs:List Nat)(s:LS)(k:Nat)(i:In):LS×Nat :=
 if i.op=7 then(s,s.1 4 k|||(2 ^ i.site|||Bs.getD i.site 0))
 else if i.op=8 then(s,zge (argT st i.fn i.y) (zau P) 0 (s.1 4 k))
 else if i.op=11 then(za7 s 5 i.call (s.1 4 k),(za7 s 5 i.call (s.1 4 k)).1 6 i.call)
 else if i.op=12 then(za7 s 6 i.fn (s.1 4 k),s.1 4 k)
 else(s,s.1 4 k)
noncomputable def zer (P:Pr)(st:PS)(Bs:List Nat):List In→Nat→LS→LS
 | [],_,s=>s
 | i::l,k,s=>zer P st Bs l (k+1) (if onB P k&&rsB P 0 i.fn then zew 4 (zb7 P st Bs (zdo P s k i) k i).2 (zap P k) (zb7 P st Bs (zdo P s k i) k i).1 else s)
theorem znx {t:Nat}:∀ (L:List Bool) (s l:Nat),l<2 ^ 48→zge t L s l<2 ^ 48
 | [],_,_,h=>h
 | _::L,s,l,h=>znx L (s+1) _ (by split;exact ziv h;exact h)
theorem zmy {α : Type}{w:World}{B:Nat}{e:TypeId}{v:Value}{l:List α}(enc:α → Value)(hr:w.ownsRow B e 1 v l.length (l.map enc)) :
  ∃ va vc,v=.slice va l.length vc∧∀ (j:Nat) (x:α),l[j]? = some x→∃ gb,va=some ⟨gb,0,none⟩∧∀ W,Below w.heap.size w W→W.cell? ⟨gb,j,none⟩=some (enc x):=by
 obtain⟨va,vc,rfl⟩:=zbx hr
 refine⟨va,vc,rfl,fun j x hj=>?_⟩
 have hlt:j<l.length:=(List.getElem?_eq_some_iff.1 hj).1
 obtain⟨gb,gc,hva,hgB,hgl⟩:=hr.form (by omega)
 injection hva with h1 h2 h3
 subst h1
 refine⟨gb,rfl,fun W hW=>?_⟩
 rw[hW.cell (p:=⟨gb,j,none⟩) hgl,hr.cellAt j (by omega)]
 simp[hj]
structure LkY (C:AX)(wf:World)(VF:FV)(Rs Bs:List Nat)(wp:World)(VP:PtV)(st:PS)(x:Nat):Prop where
 l:LkX C wf VF Rs Bs
 p:PtAt wp.heap.size VF.fb wp VP st x wf
structure LkSee (C:AX)(VF:FV)(sa:Option Addr)(sc rg rc:Nat)(ba:Option Addr)(bc r0:Nat)(Bs:List Nat)(W:World):Prop where
 f:∀ i,W.cell? ⟨VF.fb,i,none⟩=#[.pointer (some ⟨C.pb,0,none⟩),.map (some VF.onb),.slice sa C.P.gos.length sc,.slice (some ⟨rg,0,none⟩) (C.P.gos.length+1) rc,.slice ba C.P.gos.length bc,.map (some VF.lob),.map (some VF.mab)][i]?
 fl:VF.fb<W.heap.size
 p:∀ i,W.cell? ⟨C.pb,i,none⟩=#[.pointer (some ⟨C.X.tb,0,none⟩),.int .i64 C.P.nv,.int .i64 C.P.nm,.slice (some ⟨C.fg,0,none⟩) C.P.fs.length C.fcap,.slice (some ⟨C.cg,0,none⟩) C.P.code.length C.ccap,C.X.av,C.X.nv,C.X.gv,.int .i64 C.P.main][i]?
 on:MkE W VF.onb (onB C.P)
 onw:C.on W
 rc:W.cell? ⟨rg,0,none⟩=some (.map (some r0))
 r0:MkE W r0 (rsB C.P 0)
 many:∀ (s:Nat) (x:Bool),(zau C.P)[s]? = some x→∃ gb,sa=some ⟨gb,0,none⟩∧W.cell? ⟨gb,s,none⟩=some (.bool x)
 bel:∀ (s:Nat) (x:Nat),Bs[s]? = some x→∃ gb,ba=some ⟨gb,0,none⟩∧W.cell? ⟨gb,s,none⟩=some (zaa x)
theorem lk_see {C:AX}{wf:World}{VF:FV}{Rs Bs:List Nat}(h:zec C wf VF Rs Bs):∃ sa sc rg rc ba bc r0,∀ W,Below wf.heap.size wf W→LkSee C VF sa sc rg rc ba bc r0 Bs W:=by
 obtain⟨sa,sc,hsv,hs⟩:=zmy Value.bool h.f.s
 obtain⟨ra,rc,hrv,hr⟩:=zmy (fun b=>Value.map (some b)) h.f.r
 obtain⟨ba,bc,hbv,hb⟩:=zmy zaa h.f.b
 obtain⟨r0,hr0⟩:∃ r0,Rs[0]? = some r0:=⟨_,List.getElem?_eq_getElem (by rw[h.rl];omega)⟩
 obtain⟨rg,hra,hrc⟩:=hr 0 r0 hr0
 subst hra
 refine⟨sa,sc,rg,rc,ba,bc,r0,fun W hW=>?_⟩
 have h2:=h.below hW (Nat.le_refl _)
 obtain⟨hf,hp⟩:=h2.f.h.cells
 rw[hsv,hrv,hbv,h.rl,h.bl,show(zau C.P).length=C.P.gos.length by simp[zau]]at hf
 refine⟨hf,h2.f.h.f.lt,hp,h2.f.h.on,h2.f.h.onw,hrc W hW,(h2.f.rm 0 r0 hr0).1,fun s x hx=>?_,fun s x hx=>?_⟩
 ·obtain⟨gb,h1,h2⟩:=hs s x hx
  exact⟨gb,h1,h2 W hW⟩
 ·obtain⟨gb,h1,h2⟩:=hb s x hx
  exact⟨gb,h1,h2 W hW⟩
theorem zvo (a b:Value)(w:World):(Instr.field 424 (.agg #[a,b]) 1).run Tryz.prog w=.ok b w:=by kernel_rfl
def AbR (C:AX)(wf:World)(VF:FV)(sb:Nat)(V:LkV)(cb:Nat)(w:World)(st:PS)(Bs:List Nat)(M:LS)(gk:Nat)(v25:Value)(W:World):Prop :=
 ∃ (k:Nat) (s:LS),v25=.int .i64 k∧gk=C.P.code.length-k∧k≤C.P.code.length∧PsW C wf VF sb V cb w s W∧zer C.P st Bs (C.P.code.drop k) k s=M
def AbN (C:AX)(wf:World)(VF:FV)(sb:Nat)(V:LkV)(cb:Nat)(w w5:World)(l:List Nat)(h:Nat)(M:LS)(gk:Nat)(v194:Value)(W:World):Prop :=
 ∃ (j:Nat) (s:LS),v194=.int .i64 j∧gk=l.length-j∧j≤l.length∧PsW C wf VF sb V cb w s W∧LkFr V cb w5 W∧zew 4 h (l.drop j) s=M
def AbK (C:AX)(wf:World)(VF:FV)(sb:Nat)(V:LkV)(cb:Nat)(w:World)(s3:LS)(t:Nat)(M:Nat)(gk:Nat)(v7 v137:Value)(W:World):Prop :=
 ∃ (s:Nat) (l:Nat),v137=.int .i64 s∧v7=zaa l∧gk=C.P.gos.length-s∧s≤C.P.gos.length∧l<2 ^ 48∧PsW C wf VF sb V cb w s3 W∧zge t ((zau C.P).drop s) s l=M
structure AbI (ib:Nat)(cs:Array Value)(C:AX)(wf:World)(VF:FV)(sb:Nat)(V:LkV)(cb:Nat)(w:World)(s:LS)(W:World):Prop where
 p:PsW C wf VF sb V cb w s W
 i:Blk W ib 309 cs
theorem AbI.below {ib:Nat}{cs:Array Value}{C:AX}{wf w W W':World}{VF:FV}{sb cb:Nat}{V:LkV}{s:LS}(h:AbI ib cs C wf VF sb V cb w s W)(hb:Below W.heap.size W W'):AbI ib cs C wf VF sb V cb w s W':=⟨h.p.below hb,h.i.below hb h.i.lt⟩
theorem AbI.drew {ib:Nat}{cs:Array Value}{C:AX}{wf w W:World}{VF:FV}{sb cb:Nat}{V:LkV}{s:LS}(h:AbI ib cs C wf VF sb V cb w s W):AbI ib cs C wf VF sb V cb w s W.drew:=h.below (Below.refl _ _).drew
theorem AbI.step {ib:Nat}{cs:Array Value}{C:AX}{wf w W W':World}{VF:FV}{sb cb:Nat}{V:LkV}{s s':LS}(h:AbI ib cs C wf VF sb V cb w s W){e:Ending}(hs:zhk wf.heap.size VF.fb sb C.P V cb s' W e W'):e=.returned (.tuple #[])∧AbI ib cs C wf VF sb V cb w s' W' :=
 ⟨hs.1,(h.p.step hs).2,h.i.lkfr hs.2.2 (h.i.ne_ h.p.k.c (by decide)) (h.p.k.m.ne h.i (by decide))⟩
end
section
open Go.RowKit Go.Maps Go.ChangeMaps Go.Shelf
set_option linter.unusedSimpArgs false
def DN (μ : LF→Nat)(s s':LS):Prop:=s'=s∨(s'.2=true∧μ s'.1 < μ s.1)
theorem DN.refl (μ : LF→Nat)(s:LS):DN μ s s:=.inl rfl
theorem DN.trans {μ : LF→Nat}{s s1 s2:LS}(h:DN μ s s1)(h':DN μ s1 s2):DN μ s s2:=by
 rcases h with rfl | ⟨h1,h2⟩
 ·exact h'
 ·rcases h' with rfl | ⟨h3,h4⟩
  ·exact .inr ⟨h1,h2⟩
  ·exact .inr ⟨h3,Nat.lt_trans h4 h2⟩
def zg5 (l:List (Nat×Nat))(g:LF):Nat:=(l.map fun p=>g p.1 p.2).sum
theorem zrt {g g':LF}(hg:∀ r i,g' r i≤g r i):∀ l,zg5 l g'≤zg5 l g
 | []=>Nat.le_refl _
 | p::l=>by
  have:=zrt hg l
  have:=hg p.1 p.2
  simp only[zg5,List.map_cons,List.sum_cons]at *
  omega
theorem zl9 {g g':LF}(hg:∀ r i,g' r i≤g r i){r i:Nat}(hs:g' r i<g r i):∀ l,(r,i) ∈ l→zg5 l g'<zg5 l g
 | p::l,h=>by
  rcases List.mem_cons.1 h with e | h
  ·have:=zrt hg l
   subst e
   simp only[zg5,List.map_cons,List.sum_cons]at *
   omega
  ·have:=zl9 hg hs l h
   have:=hg p.1 p.2
   simp only[zg5,List.map_cons,List.sum_cons]at *
   omega
def muL (l:List (Nat×Nat))(f:LF):Nat:=zg5 l f
def muG (l:List (Nat×Nat))(f:LF):Nat:=zg5 l fun r i=>2 ^ 48-f r i
def Sm (s:LS):Prop:=∀ r i,s.1 r i<2 ^ 48
theorem zkt {l:List (Nat×Nat)}{s:LS}{r i t:Nat}(h:(r,i) ∈ l):DN (muL l) s (zb4 s r i t):=by
 by_cases e:s.1 r i&&&t=s.1 r i
 ·left
  unfold zb4
  rw[e,zrr]
  simp
 ·right
  have hle:s.1 r i&&&t≤s.1 r i:=Nat.and_le_left
  refine⟨by simp[zb4,e],zl9 (r:=r) (i:=i) (fun r' i'=>?_) ?_ l h⟩
  ·simp only[zb4,upd2]
   split
   ·rename_i e';rw[e'.1,e'.2];exact hle
   ·exact Nat.le_refl _
  ·simp only[zb4,upd2,and_self,if_true]
   omega
theorem zib {s:LS}{r i t:Nat}(h:Sm s):Sm (zb4 s r i t):=fun r' i'=>by
 simp only[zb4,upd2]
 split
 ·exact Nat.lt_of_le_of_lt Nat.and_le_left (h r i)
 ·exact h r' i'
theorem zh2 {s:LS}{r i t:Nat}(h:Sm s)(ht:t<2 ^ 48):Sm (za7 s r i t):=fun r' i'=>by
 simp only[za7,upd2]
 split
 ·exact Nat.or_lt_two_pow (h r i) ht
 ·exact h r' i'
theorem zjz {l:List (Nat×Nat)}{s:LS}{r i t:Nat}(h:(r,i) ∈ l)(hs:Sm s)(ht:t<2 ^ 48):DN (muG l) s (za7 s r i t):=by
 by_cases e:s.1 r i|||t=s.1 r i
 ·left
  unfold za7
  rw[e,zrr]
  simp
 ·right
  have hle:s.1 r i≤s.1 r i|||t:=Nat.left_le_or
  have hlt:s.1 r i|||t<2 ^ 48:=Nat.or_lt_two_pow (hs r i) ht
  refine⟨by simp[za7,e],zl9 (r:=r) (i:=i) (fun r' i'=>?_) ?_ l h⟩
  ·simp only[za7,upd2]
   split
   ·rename_i e';rw[e'.1,e'.2];omega
   ·exact Nat.le_refl _
  ·simp only[za7,upd2,and_self,if_true]
   omega
def zek (P:Pr):List (Nat×Nat):=(List.range 7).flatMap fun r=>(List.range (P.code.length+P.fs.length)).map fun i=>(r,i)
theorem zf7 {P:Pr}{r i:Nat}(hr:r<7)(hi:i<P.code.length+P.fs.length):(r,i) ∈ zek P:=by
 unfold zek
 rw[List.mem_flatMap]
 exact⟨r,List.mem_range.2 hr,List.mem_map.2 ⟨i,List.mem_range.2 hi,rfl⟩⟩
theorem zl4 {α : Type}{l l':List α}{k:Nat}{a:α}(h:a::l'=l.drop k):l[k]? = some a∧l'=l.drop (k+1):=by
 constructor
 ·have:(l.drop k)[0]? = some a:=by rw[← h];rfl
  simpa using this
 ·have:(l.drop k).tail=l':=by rw[← h];rfl
  rw[← this,List.tail_drop]
def zds (μ : LF→Nat)(s s':LS):Prop:=DN μ s s'∧Sm s'
theorem zds.trans {μ : LF→Nat}{s s1 s2:LS}(h:zds μ s s1)(h':zds μ s1 s2):zds μ s s2:=⟨h.1.trans h'.1,h'.2⟩
theorem zm5 {P:Pr}(wf:WfPr P)(wl:WfLk P):∀ (l:List In) (k:Nat) (s:LS),l=P.code.drop k→Sm s→zds (muG (zek P)) s (zes (onB P) l k s)
 | [],_,s,_,h=>⟨DN.refl _ _,h⟩
 | i::l,k,s,hl,h=>by
  obtain⟨hi,hl'⟩:=zl4 hl
  unfold zes
  split
  ·have hb:zdl s.1 i<2 ^ 48:=by
    unfold zdl
    split
    ·rename_i h10
     have:=wl.mu k i hi (.inr h10)
     exact Nat.pow_lt_pow_right (by omega) (by omega)
    ·split
     ·exact h _ _
     ·omega
   have hf:=wf.fn k i hi
   exact zds.trans ⟨zjz (zf7 (by omega) (by omega)) h hb,zh2 h hb⟩ (zm5 wf wl l (k+1) _ hl' (zh2 h hb))
  ·exact zm5 wf wl l (k+1) s hl' h
theorem zr2 {P:Pr}{r h:Nat}(hr:r<7):∀ (l:List Nat) (s:LS),(∀ j ∈ l,j<P.code.length)→Sm s→zds (muL (zek P)) s (ze3 r h l s)
 | [],_,_,hs=>⟨DN.refl _ _,hs⟩
 | j::l,s,hl,hs=>zds.trans ⟨zkt (zf7 hr (by have:=hl j (List.mem_cons_self ..);omega)),zib hs⟩ (zr2 hr l _ (fun j hj=>hl j (List.mem_cons_of_mem _ hj)) (zib hs))
theorem zpn {P:Pr}{r h:Nat}(hr:r<7)(hh:h<2 ^ 48):∀ (l:List Nat) (s:LS),(∀ j ∈ l,j<P.code.length)→Sm s→zds (muG (zek P)) s (zew r h l s)
 | [],_,_,hs=>⟨DN.refl _ _,hs⟩
 | j::l,s,hl,hs=>zds.trans ⟨zjz (zf7 hr (by have:=hl j (List.mem_cons_self ..);omega)) hs hh,zh2 hs hh⟩ (zpn hr hh l _ (fun j hj=>hl j (List.mem_cons_of_mem _ hj)) (zh2 hs hh))
theorem znf {P:Pr}(wf:WfPr P):∀ (l:List Fu) (g:Nat) (s:LS),l=P.fs.drop g→Sm s→zds (muL (zek P)) s (zfw l g s)
 | [],_,_,_,h=>⟨DN.refl _ _,h⟩
 | f::l,g,s,hl,h=>by
  obtain⟨hf,hl'⟩:=zl4 hl
  have:=(wf.from_ g f hf).1
  exact zds.trans ⟨zkt (zf7 (by omega) (by omega)),zib h⟩ (znf wf l (g+1) _ hl' (zib h))
theorem zwq {P:Pr}(wf:WfPr P){s:LS}{k:Nat}{i:In}(hi:P.code[k]? = some i)(h:Sm s):zds (muL (zek P)) s (zca s k i).1:=by
 unfold zca
 split
 ·exact⟨DN.refl _ _,h⟩
 split
 ·exact⟨DN.refl _ _,h⟩
 split
 ·rename_i h7
  obtain⟨f,hf,_⟩:=wf.call k i hi (.inr h7)
  have:=(List.getElem?_eq_some_iff.1 hf).1
  exact⟨zkt (zf7 (by omega) (by omega)),zib h⟩
 split
 ·rename_i h11
  obtain⟨f,hf,_⟩:=wf.call k i hi (.inl h11)
  have:=(List.getElem?_eq_some_iff.1 hf).1
  exact⟨zkt (zf7 (by omega) (by omega)),zib h⟩
 split
 ·have:=wf.fn k i hi
  exact⟨zkt (zf7 (by omega) (by omega)),zib h⟩
 ·exact⟨DN.refl _ _,h⟩
theorem zn1 {P:Pr}(wf:WfPr P)(on:Nat→Bool):∀ (l:List In) (k:Nat) (s:LS),l=P.code.drop k→Sm s→zds (muL (zek P)) s (zet P on l k s)
 | [],_,_,_,h=>⟨DN.refl _ _,h⟩
 | i::l,k,s,hl,h=>by
  obtain⟨hi,hl'⟩:=zl4 hl
  unfold zet
  split
  ·have h1:=zwq wf hi h
   have h2:=zr2 (P:=P) (r:=0) (h:=(zca s k i).2) (by omega) (zap P k) _ (zi1 wf k) h1.2
   exact(h1.trans h2).trans (zn1 wf on l (k+1) _ hl' h2.2)
  ·exact zn1 wf on l (k+1) s hl' h
theorem zt7 {P:Pr}(wf:WfPr P){s:LS}{k:Nat}{i:In}(hi:P.code[k]? = some i)(h:Sm s):zds (muG (zek P)) s (zdo P s k i):=by
 unfold zdo
 split
 ·split
  ·have:=(List.getElem?_eq_some_iff.1 hi).1
   exact⟨zjz (zf7 (by omega) (by omega)) h (h _ _),zh2 h (h _ _)⟩
  ·exact⟨DN.refl _ _,h⟩
 ·exact⟨DN.refl _ _,h⟩
theorem zv1 {P:Pr}(wf:WfPr P)(wl:WfLk P){st:PS}{Bs:List Nat}(hB:∀ s,Bs.getD s 0<2 ^ 48){s:LS}{k:Nat}{i:In}(hi:P.code[k]? = some i)(h:Sm s) :
  zds (muG (zek P)) s (zb7 P st Bs s k i).1∧(zb7 P st Bs s k i).2<2 ^ 48:=by
 have hsite:=(wl.io k i hi).site
 unfold zb7
 split
 ·exact⟨⟨DN.refl _ _,h⟩,Nat.or_lt_two_pow (h _ _) (Nat.or_lt_two_pow (Nat.pow_lt_pow_right (by omega) (by omega)) (hB _))⟩
 split
 ·exact⟨⟨DN.refl _ _,h⟩,znx _ _ _ (h _ _)⟩
 split
 ·rename_i h11
  obtain⟨f,hf,_⟩:=wf.call k i hi (.inl h11)
  have:=(List.getElem?_eq_some_iff.1 hf).1
  have h2:=zh2 (r:=5) (i:=i.call) h (h 4 k)
  exact⟨⟨zjz (zf7 (by omega) (by omega)) h (h _ _),h2⟩,h2 6 i.call⟩
 split
 ·have:=wf.fn k i hi
  exact⟨⟨zjz (zf7 (by omega) (by omega)) h (h _ _),zh2 h (h _ _)⟩,h _ _⟩
 ·exact⟨⟨DN.refl _ _,h⟩,h _ _⟩
theorem zod {P:Pr}(wf:WfPr P)(wl:WfLk P){st:PS}{Bs:List Nat}(hB:∀ s,Bs.getD s 0<2 ^ 48):∀ (l:List In) (k:Nat) (s:LS),l=P.code.drop k→Sm s→zds (muG (zek P)) s (zer P st Bs l k s)
 | [],_,_,_,h=>⟨DN.refl _ _,h⟩
 | i::l,k,s,hl,h=>by
  obtain⟨hi,hl'⟩:=zl4 hl
  unfold zer
  split
  ·have h0:=zt7 wf hi h
   obtain⟨h1,h1'⟩:=zv1 wf wl hB (st:=st) (s:=zdo P s k i) hi h0.2
   have h2:=zpn (P:=P) (r:=4) (by omega) h1' (zap P k) _ (zi1 wf k) h1.2
   exact((h0.trans h1).trans h2).trans (zod wf wl hB l (k+1) _ hl' h2.2)
  ·exact zod wf wl hB l (k+1) s hl' h
def zd5 (p:LS→LS):Nat→LF→LF
 | 0,f=>f
 | n+1,f=>(p (zd5 p n f,false)).1
def zjg (p:LS→LS)(f f':LF):Prop:=(∃ n,f'=zd5 p n f)∧(p (f',false)).2=false∧(p (f',false)).1=f'
noncomputable def dropsS (P:Pr)(s:LS):LS:=zes (onB P) P.code 0 s
noncomputable def passS (P:Pr)(s:LS):LS:=zet P (onB P) P.code 0 (zfw P.fs 0 s)
noncomputable def zlw (P:Pr)(st:PS)(Bs:List Nat)(s:LS):LS:=zer P st Bs P.code 0 s
structure LkInv (wf:World)(fb sb:Nat)(P:Pr)(V:LkV)(p:LS→LS)(f0:LF)(w:World)(f:LF)(W:World):Prop where
 m:LkM W wf.heap.size fb sb P V f
 fr:LkFr V (V.g 3) w W
 n:∃ n,f=zd5 p n f0
def zxv (wf:World)(fb sb:Nat)(P:Pr)(V:LkV)(p:LS→LS)(f0:LF)(w:World)(e:Ending)(W:World):Prop :=
 e=.returned (.tuple #[])∧∃ f',LkM W wf.heap.size fb sb P V f'∧zjg p f0 f'∧LkFr V (V.g 3) w W
theorem znm {C:AX}{wf w:World}{VF:FV}{sb:Nat}{V:LkV}(p:LS→LS)(μ : LF→Nat)(fid:FuncId)(rb:Nat)(f0:LF)(h:LkM w wf.heap.size VF.fb sb C.P V f0)(hb:Below wf.heap.size wf w)
  (hent:∀ args w,(callFunc fid args).run Tryz.prog w=.ok (.enter fid args) w)
  (hr:Blk w rb 37 #[.func (.func fid) #[.pointer (some ⟨V.xb,0,none⟩)] #[]])
  (hcall:∀ f W,LkM W wf.heap.size VF.fb sb C.P V f→Below wf.heap.size wf W→Calls Tryz.prog fid #[.pointer (some ⟨V.xb,0,none⟩)] W (zi8 C wf VF sb V (p (f,false)) W))
  (hdn:∀ f,Sm (f,false)→DN μ (f,false) (p (f,false))) :
  Calls Tryz.prog 221 #[.slice (some ⟨rb,0,none⟩) 1 1] w (zxv wf VF.fb sb C.P V p f0 w):=by
 refine(zkb (LkInv wf VF.fb sb C.P V p f0 w) μ [⟨fid,#[.pointer (some ⟨V.xb,0,none⟩)],#[]⟩] [fun f=>p (f,false)=(f,false)] rb 1 w f0 rfl (by simp) ⟨h,LkFr.refl _ _ _,0,rfl⟩ ?_ ?_).mono ?_
 ·intro s W hI j r hj
  have hb:=hr.lkfr hI.fr (fun e=>by
   have h3:=h.r 3 (by omega)
   rw[← e]at h3
   exact absurd rfl (hr.ne_ h3 (by decide))) (h.ne hr (by decide))
  cases j with
  | zero=>simp at hj;subst hj;exact hb.cell 0
  | succ j=>simp at hj
 ·intro j r c hj hc
  cases j with
  | zero =>
   simp at hj hc
   subst hj hc
   refine⟨hent,fun s W hI=>?_⟩
   refine(hcall s W hI.m (hb.trans (hI.fr.base h.bB.2 (h.bB.2 3 (by omega)) hb.size))).mono ?_
   rintro e W' ⟨rfl,hm,hfr⟩
   obtain⟨n,hn⟩:=hI.n
   refine⟨(p (s,false)).1,(p (s,false)).2,rfl,⟨hm,hI.fr.trans hfr,n+1,by rw[hn];rfl⟩,fun hc=>?_,fun hc=>?_⟩
   ·rcases hdn s hI.m.sm with e | ⟨_,hl⟩
    ·rw[e]at hc;cases hc
    ·exact hl
   ·rcases hdn s hI.m.sm with e | ⟨ht,_⟩
    ·exact⟨by rw[e],e⟩
    ·rw[ht]at hc;cases hc
  | succ j=>simp at hj
 ·rintro e w' ⟨f',rfl,hI,hcl⟩
  have hp:p (f',false)=(f',false):=hcl (fun f=>p (f,false)=(f,false)) (List.mem_cons_self ..)
  exact⟨rfl,f',hI.m,⟨hI.n,by rw[hp],by rw[hp]⟩,hI.fr⟩
end
end Go.Proofs.YtkmcihhndgdhpaaGreat
