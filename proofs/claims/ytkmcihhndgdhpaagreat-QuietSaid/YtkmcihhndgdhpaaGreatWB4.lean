/- Parts of the walk. -/
import Derived.Test.YtkmcihhndgdhpaaGreatWB3
set_option maxRecDepth 100000
set_option maxHeartbeats 4000000
set_option linter.unusedSimpArgs false
set_option linter.unusedVariables false
open Go.ChangeMaps Go.Maps Go.RowKit Go.Shelf Go.Proofs.Tryz
namespace Go.Proofs.YtkmcihhndgdhpaaGreat
variable {s:LS}{w wf W:World}{C:AX}{VF:FV}{r i sb t k ib cb:Nat}{V:LkV}{P:Pr}{cs:Array Value}
def zdt (r h:Nat):List Nat->LS->LS
 | [],s=>s
 | j::l,s=>zdt r h l (zo s r j h)
def ze9 (t:Nat):List Bool->Nat->Nat->Nat
 | [],_,l=>l
 | m::r,s,l=>ze9 t r (s+1) (if t=2 ^ s/\m=false then dif l t else l)
def zcb (P:Pr)(s:LS)(k:Nat)(i:In):LS:=match P.fs[i.fn]? with
 | some f=>if k=f.from_ then zo s 4 k (s.1 5 i.fn)else s
 | none=>s
noncomputable def zai (P:Pr)(st:PS)(Bs:List Nat)(s:LS)(k:Nat)(i:In):LS×Nat :=
 if i.op=7 then(s,s.1 4 k|||(2 ^ i.site|||Bs.getD i.site 0))
 else if i.op=8 then(s,ze9 (argT st i.fn i.y) (zW P) 0 (s.1 4 k))
 else if i.op=11 then(zo s 5 i.call (s.1 4 k),(zo s 5 i.call (s.1 4 k)).1 6 i.call)
 else if i.op=12 then(zo s 6 i.fn (s.1 4 k),s.1 4 k)
 else(s,s.1 4 k)
noncomputable def zc5 (P:Pr)(st:PS)(Bs:List Nat):List In->Nat->LS->LS
 | [],_,s=>s
 | i::l,k,s=>zc5 P st Bs l (k+1) (if onB P k&&rsB P 0 i.fn then zdt 4 (zai P st Bs (zcb P s k i) k i).2 (zS P k) (zai P st Bs (zcb P s k i) k i).1 else s)
theorem znr {t:Nat}:∀ (L:List Bool) (s l:Nat),l<2 ^ 48->ze9 t L s l<2 ^ 48
 | [],_,_,h=>h
 | _::L,s,l,h=>znr L (s+1) _ (by split;exact zih h;exact h)
theorem zoe {α: Type}{B:Nat}{e:TypeId}{v:Value}{l:List α}(enc:α -> Value)(hr:w.ownsRow B e 1 v l.length (l.map enc)) :
  ∃ D H,v=.slice D l.length H/\∀ (j:Nat) (x:α),l[j]?=some x->∃ A,D=some (.a A 0)/\∀ W,Below w.heap.size w W->W.cell? (.a A j)=some (enc x):=by
 obtain⟨D,H,rfl⟩:=zZ hr;refine⟨D,H,rfl,fun j x I=>?_⟩;have L:j<l.length:=(yh.1 I).1;obtain⟨A,gc,G,K,E⟩:=hr.form yo;injection G with h1 h2 h3;subst h1;refine⟨A,rfl,fun W J=>?_⟩;rw[J.cell (p:=(.a A j)) E,hr.cellAt j yo];simp[I]
structure LkY (C:AX)(wf:World)(VF:FV)(Rs Bs:List Nat)(wp:World)(VP:PtV)(st:PS)(x:Nat):Prop where
 l:LkX C wf VF Rs Bs
 p:PtAt wp.heap.size VF.fb wp VP st x wf
structure LkSee (C:AX)(VF:FV)(sa:Option Addr)(sc rg rc:Nat)(ba:Option Addr)(bc r0:Nat)(Bs:List Nat)(W:World):Prop where
 f:∀ i,W.cell? (.a VF.fb i)=#[.p C.pb,.m VF.jf,.slice sa C.P.qg.length sc,.s rg (C.P.qg.length+1) rc,.slice ba C.P.qg.length bc,.m VF.vz,.m VF.vu][i]?
 fl:VF.fb<W.heap.size
 p:∀ i,W.cell? (.a C.pb i)=(.c C:Array Value)[i]?
 on:MkE W VF.jf (onB C.P)
 ve:C.on W
 rc:W.cell? (.a rg 0)=some (.m r0)
 r0:MkE W r0 (rsB C.P 0)
 many:∀ (s:Nat) (x:Bool),(zW C.P)[s]?=some x->∃ gb,sa=some (.a gb 0)/\W.cell? (.a gb s)=some (.bool x)
 qk:∀ (s:Nat) (x:Nat),Bs[s]?=some x->∃ gb,ba=some (.a gb 0)/\W.cell? (.a gb s)=some (zA x)
theorem lk_see {Rs Bs:List Nat}(h:zcs C wf VF Rs Bs):∃ sa sc rg rc ba bc r0,∀ W,Below wf.heap.size wf W->LkSee C VF sa sc rg rc ba bc r0 Bs W:=by
 obtain⟨sa,sc,K,O⟩:=zoe Value.bool h.f.s;obtain⟨ra,rc,J,N⟩:=zoe (fun b=>Value.map (some b)) h.f.r;obtain⟨ba,bc,G,hb⟩:=zoe zA h.f.b;obtain⟨r0,A⟩:∃ r0,Rs[0]?=some r0:=⟨_,yc (by rw[h.rl];omega)⟩;obtain⟨rg,H,I⟩:=N 0 r0 A;subst H;refine⟨sa,sc,rg,rc,ba,bc,r0,fun W D=>?_⟩;have h2:=h.below D yL;obtain⟨hf,L⟩:=h2.f.h.cells;rw[K,J,G,h.rl,h.bl,show(zW C.P).length=C.P.qg.length by simp[zW]]at hf;refine⟨hf,h2.f.h.f.lt,L,h2.f.h.on,h2.f.h.ve,I W D,(h2.f.rm 0 r0 A).1,fun s x hx=>?_,fun s x hx=>?_⟩
 ·obtain⟨E,h1,h2⟩:=O s x hx;exact⟨E,h1,h2 W D⟩
 ·obtain⟨E,h1,h2⟩:=hb s x hx;exact⟨E,h1,h2 W D⟩
theorem z0c (a b:Value)(w:World):(Instr.field 424 (.agg #[a,b]) 1).run prog w=.ok b w:=yk
def AbR (C:AX)(wf:World)(VF:FV)(sb:Nat)(V:LkV)(cb:Nat)(w:World)(st:PS)(Bs:List Nat)(M:LS)(gk:Nat)(v25:Value)(W:World):Prop :=
 ∃ (k:Nat) (s:LS),v25=.i k/\gk=C.P.code.length-k/\k<=C.P.code.length/\PsW C wf VF sb V cb w s W/\zc5 C.P st Bs (C.P.code.drop k) k s=M
def AbN (C:AX)(wf:World)(VF:FV)(sb:Nat)(V:LkV)(cb:Nat)(w w5:World)(l:List Nat)(h:Nat)(M:LS)(gk:Nat)(v194:Value)(W:World):Prop :=
 ∃ (j:Nat) (s:LS),v194=.i j/\gk=l.length-j/\j<=l.length/\PsW C wf VF sb V cb w s W/\LkFr V cb w5 W/\zdt 4 h (l.drop j) s=M
def AbK (C:AX)(wf:World)(VF:FV)(sb:Nat)(V:LkV)(cb:Nat)(w:World)(s3:LS)(t:Nat)(M:Nat)(gk:Nat)(v7 v137:Value)(W:World):Prop :=
 ∃ (s:Nat) (l:Nat),v137=.i s/\v7=zA l/\gk=C.P.qg.length-s/\s<=C.P.qg.length/\l<2 ^ 48/\PsW C wf VF sb V cb w s3 W/\ze9 t ((zW C.P).drop s) s l=M
structure AbI (ib:Nat)(cs:Array Value)(C:AX)(wf:World)(VF:FV)(sb:Nat)(V:LkV)(cb:Nat)(w:World)(s:LS)(W:World):Prop where
 p:PsW C wf VF sb V cb w s W
 i:Blk W ib 309 cs
theorem AbI.below {W':World}(h:AbI ib cs C wf VF sb V cb w s W)(hb:Below W.heap.size W W'):AbI ib cs C wf VF sb V cb w s W':=⟨h.p.below hb,h.i.below hb h.i.lt⟩
theorem AbI.drew (h:AbI ib cs C wf VF sb V cb w s W):AbI ib cs C wf VF sb V cb w s W.drew:=h.below yB.drew
theorem AbI.step {W':World}{s':LS}(h:AbI ib cs C wf VF sb V cb w s W){e:Ending}(hs:zgg wf.heap.size VF.fb sb C.P V cb s' W e W'):e=.e/\AbI ib cs C wf VF sb V cb w s' W' :=
 ⟨hs.1,(h.p.step hs).2,h.i.lkfr hs.2.2 (h.i.qs h.p.k.c yd) (h.p.k.m.ne h.i yd)⟩
def DN (μ : LF->Nat)(s s':LS):Prop:=s'=s\/(s'.2=true/\μ s'.1 < μ s.1)
theorem DN.refl (μ : LF->Nat)(s:LS):DN μ s s:=.inl rfl
theorem DN.trans {μ: LF->Nat}{s1 s2:LS}(h:DN μ s s1)(h':DN μ s1 s2):DN μ s s2:=by
 rcases h with rfl | ⟨h1,h2⟩
 ·exact h'
 ·rcases h' with rfl | ⟨h3,h4⟩
  ·exact .inr ⟨h1,h2⟩
  ·exact .inr ⟨h3,yb9 h4 h2⟩
def zga (l:List (Nat×Nat))(g:LF):Nat:=(l.map fun p=>g p.1 p.2).sum
theorem ztz {g g':LF}(hg:∀ r i,g' r i<=g r i):∀ l,zga l g'<=zga l g
 | []=>yr _
 | p::l=>by
  have:=ztz hg l;have:=hg p.1 p.2;simp only[zga,yT,yb6]at *;omega
theorem zol {g g':LF}(hg:∀ r i,g' r i<=g r i){r i:Nat}(hs:g' r i<g r i):∀ l,(r,i) ∈ l->zga l g'<zga l g
 | p::l,h=>by
  rcases yW.1 h with e | h
  ·have:=ztz hg l;subst e;simp only[zga,yT,yb6]at *;omega
  ·have:=zol hg hs l h;have:=hg p.1 p.2;simp only[zga,yT,yb6]at *;omega
def muL (l:List (Nat×Nat))(f:LF):Nat:=zga l f
def muG (l:List (Nat×Nat))(f:LF):Nat:=zga l fun r i=>2 ^ 48-f r i
def Sm (s:LS):Prop:=∀ r i,s.1 r i<2 ^ 48
theorem zj1 {l:List (Nat×Nat)}(h:(r,i) ∈ l):DN (muL l) s (zac s r i t):=by
 by_cases e:s.1 r i&&&t=s.1 r i
 ·left;unfold zac;rw[e,zt8];simp
 ·right;have A:s.1 r i&&&t<=s.1 r i:=Nat.and_le_left;refine⟨by simp[zac,e],zol (r:=r) (i:=i) (fun r' D=>?_) ?_ l h⟩
  ·simp only[zac,upd2];split
   ·rename_i e';rw[e'.1,e'.2];exact A
   ·exact yr _
  ·simp only[zac,upd2,and_self,if_true];omega
theorem zhk (h:Sm s):Sm (zac s r i t):=fun r' A=>by
 simp only[zac,upd2];split
 ·exact yag Nat.and_le_left (h r i)
 ·exact h r' A
theorem zhm (h:Sm s)(ht:t<2 ^ 48):Sm (zo s r i t):=fun r' A=>by
 simp only[zo,upd2];split
 ·exact yJ (h r i) ht
 ·exact h r' A
theorem zj5 {l:List (Nat×Nat)}(h:(r,i) ∈ l)(hs:Sm s)(ht:t<2 ^ 48):DN (muG l) s (zo s r i t):=by
 by_cases e:s.1 r i|||t=s.1 r i
 ·left;unfold zo;rw[e,zt8];simp
 ·right;have A:s.1 r i<=s.1 r i|||t:=ycr;have D:s.1 r i|||t<2 ^ 48:=yJ (hs r i) ht;refine⟨by simp[zo,e],zol (r:=r) (i:=i) (fun r' E=>?_) ?_ l h⟩
  ·simp only[zo,upd2];split
   ·rename_i e';rw[e'.1,e'.2];omega
   ·exact yr _
  ·simp only[zo,upd2,and_self,if_true];omega
def zdc (P:Pr):List (Nat×Nat):=(List.range 7).flatMap fun r=>(List.range (P.code.length+P.fs.length)).map fun i=>(r,i)
theorem ze8 (hr:r<7)(hi:i<P.code.length+P.fs.length):(r,i) ∈ zdc P:=by
 unfold zdc;rw[List.mem_flatMap];exact⟨r,yaf.2 hr,yae.2 ⟨i,yaf.2 hi,rfl⟩⟩
theorem zk6 {α: Type}{l l':List α}{a:α}(h:a::l'=l.drop k):l[k]?=some a/\l'=l.drop (k+1):=by
 constructor
 ·have:(l.drop k)[0]?=some a:=by rw[<- h];rfl
  simpa using this
 ·have:(l.drop k).tail=l':=by rw[<- h];rfl
  rw[<- this,List.tail_drop]
def zca (μ : LF->Nat)(s s':LS):Prop:=DN μ s s'/\Sm s'
theorem zca.trans {μ: LF->Nat}{s1 s2:LS}(h:zca μ s s1)(h':zca μ s1 s2):zca μ s s2:=⟨h.1.trans h'.1,h'.2⟩
theorem zm6 {P:Pr}(wf:WfPr P)(wl:WfLk P):∀ (l:List In) (k:Nat) (s:LS),l=P.code.drop k->Sm s->zca (muG (zdc P)) s (zc9 (onB P) l k s)
 | [],_,s,_,h=>⟨DN.refl _ _,h⟩
 | i::l,k,s,hl,h=>by
  obtain⟨hi,A⟩:=zk6 hl;unfold zc9;split
  ·have hb:zb1 s.1 i<2 ^ 48:=by
    unfold zb1;split
    ·rename_i h10;have:=wl.mu k i hi (.inr h10);exact yap yo yo
    ·split
     ·exact h _ _
     ·omega
   have hf:=wf.fn k i hi;exact zca.trans ⟨zj5 (ze8 yo yo) h hb,zhm h hb⟩ (zm6 wf wl l (k+1) _ A (zhm h hb))
  ·exact zm6 wf wl l (k+1) s A h
theorem zse {P:Pr}{r h:Nat}(hr:r<7):∀ (l:List Nat) (s:LS),(∀ j ∈ l,j<P.code.length)->Sm s->zca (muL (zdc P)) s (zdy r h l s)
 | [],_,_,hs=>⟨DN.refl _ _,hs⟩
 | j::l,s,hl,hs=>zca.trans ⟨zj1 (ze8 hr (yq (hl j (ycs ..)))),zhk hs⟩ (zse hr l _ (fun j A=>hl j (yad _ A)) (zhk hs))
theorem zq9 {P:Pr}{r h:Nat}(hr:r<7)(hh:h<2 ^ 48):∀ (l:List Nat) (s:LS),(∀ j ∈ l,j<P.code.length)->Sm s->zca (muG (zdc P)) s (zdt r h l s)
 | [],_,_,hs=>⟨DN.refl _ _,hs⟩
 | j::l,s,hl,hs=>zca.trans ⟨zj5 (ze8 hr (yq (hl j (ycs ..)))) hs hh,zhm hs hh⟩ (zq9 hr hh l _ (fun j A=>hl j (yad _ A)) (zhm hs hh))
theorem zn7 {P:Pr}(wf:WfPr P):∀ (l:List Fu) (g:Nat) (s:LS),l=P.fs.drop g->Sm s->zca (muL (zdc P)) s (zev l g s)
 | [],_,_,_,h=>⟨DN.refl _ _,h⟩
 | f::l,g,s,hl,h=>by
  obtain⟨hf,A⟩:=zk6 hl;have:=(wf.from_ g f hf).1;exact zca.trans ⟨zj1 (ze8 yo yo),zhk h⟩ (zn7 wf l (g+1) _ A (zhk h))
theorem zzb (wf:WfPr P){i:In}(hi:P.code[k]?=some i)(h:Sm s):zca (muL (zdc P)) s (zam s k i).1:=by
 unfold zam;split
 ·exact⟨DN.refl _ _,h⟩
 split
 ·exact⟨DN.refl _ _,h⟩
 split
 ·rename_i h7;obtain⟨f,hf,_⟩:=wf.call k i hi (.inr h7);have:=(yh.1 hf).1;exact⟨zj1 (ze8 yo yo),zhk h⟩
 split
 ·rename_i A;obtain⟨f,hf,_⟩:=wf.call k i hi (.inl A);have:=(yh.1 hf).1;exact⟨zj1 (ze8 yo yo),zhk h⟩
 split
 ·have:=wf.fn k i hi;exact⟨zj1 (ze8 yo yo),zhk h⟩
 ·exact⟨DN.refl _ _,h⟩
theorem zn8 {P:Pr}(wf:WfPr P)(on:Nat->Bool):∀ (l:List In) (k:Nat) (s:LS),l=P.code.drop k->Sm s->zca (muL (zdc P)) s (zde P on l k s)
 | [],_,_,_,h=>⟨DN.refl _ _,h⟩
 | i::l,k,s,hl,h=>by
  obtain⟨hi,A⟩:=zk6 hl;unfold zde;split
  ·have h1:=zzb wf hi h;have h2:=zse (P:=P) (r:=0) (h:=(zam s k i).2) yo (zS P k) _ (zij wf k) h1.2;exact(h1.trans h2).trans (zn8 wf on l (k+1) _ A h2.2)
  ·exact zn8 wf on l (k+1) s A h
theorem zuw (wf:WfPr P){i:In}(hi:P.code[k]?=some i)(h:Sm s):zca (muG (zdc P)) s (zcb P s k i):=by
 unfold zcb;split
 ·split
  ·have:=(yh.1 hi).1;exact⟨zj5 (ze8 yo yo) h (h _ _),zhm h (h _ _)⟩
  ·exact⟨DN.refl _ _,h⟩
 ·exact⟨DN.refl _ _,h⟩
theorem zuz (wf:WfPr P)(wl:WfLk P){st:PS}{Bs:List Nat}(hB:∀ s,Bs.getD s 0<2 ^ 48){i:In}(hi:P.code[k]?=some i)(h:Sm s) :
  zca (muG (zdc P)) s (zai P st Bs s k i).1/\(zai P st Bs s k i).2<2 ^ 48:=by
 have D:=(wl.io k i hi).site;unfold zai;split
 ·exact⟨⟨DN.refl _ _,h⟩,yJ (h _ _) (yJ (yap yo yo) (hB _))⟩
 split
 ·exact⟨⟨DN.refl _ _,h⟩,znr _ _ _ (h _ _)⟩
 split
 ·rename_i A;obtain⟨f,hf,_⟩:=wf.call k i hi (.inl A);have:=(yh.1 hf).1;have h2:=zhm (r:=5) (i:=i.call) h (h 4 k);exact⟨⟨zj5 (ze8 yo yo) h (h _ _),h2⟩,h2 6 i.call⟩
 split
 ·have:=wf.fn k i hi;exact⟨⟨zj5 (ze8 yo yo) h (h _ _),zhm h (h _ _)⟩,h _ _⟩
 ·exact⟨⟨DN.refl _ _,h⟩,h _ _⟩
theorem zmq {P:Pr}(wf:WfPr P)(wl:WfLk P){st:PS}{Bs:List Nat}(hB:∀ s,Bs.getD s 0<2 ^ 48):∀ (l:List In) (k:Nat) (s:LS),l=P.code.drop k->Sm s->zca (muG (zdc P)) s (zc5 P st Bs l k s)
 | [],_,_,_,h=>⟨DN.refl _ _,h⟩
 | i::l,k,s,hl,h=>by
  obtain⟨hi,A⟩:=zk6 hl;unfold zc5;split
  ·have E:=zuw wf hi h;obtain⟨h1,D⟩:=zuz wf wl hB (st:=st) (s:=zcb P s k i) hi E.2;have h2:=zq9 (P:=P) (r:=4) yo D (zS P k) _ (zij wf k) h1.2;exact((E.trans h1).trans h2).trans (zmq wf wl hB l (k+1) _ A h2.2)
  ·exact zmq wf wl hB l (k+1) s A h
def zcl (p:LS->LS):Nat->LF->LF
 | 0,f=>f
 | n+1,f=>(p (zcl p n f,false)).1
def zh3 (p:LS->LS)(f f':LF):Prop:=(∃ n,f'=zcl p n f)/\(p (f',false)).2=false/\(p (f',false)).1=f'
noncomputable def dropsS (P:Pr)(s:LS):LS:=zc9 (onB P) P.code 0 s
noncomputable def passS (P:Pr)(s:LS):LS:=zde P (onB P) P.code 0 (zev P.fs 0 s)
noncomputable def zky (P:Pr)(st:PS)(Bs:List Nat)(s:LS):LS:=zc5 P st Bs P.code 0 s
structure LkInv (wf:World)(fb sb:Nat)(P:Pr)(V:LkV)(p:LS->LS)(f0:LF)(w:World)(f:LF)(W:World):Prop where
 m:LkM W wf.heap.size fb sb P V f
 fr:LkFr V (V.g 3) w W
 n:∃ n,f=zcl p n f0
def zuu (wf:World)(fb sb:Nat)(P:Pr)(V:LkV)(p:LS->LS)(f0:LF)(w:World)(e:Ending)(W:World):Prop :=
 e=.e/\∃ f',LkM W wf.heap.size fb sb P V f'/\zh3 p f0 f'/\LkFr V (V.g 3) w W
theorem znd (p:LS->LS)(μ : LF->Nat)(fid:FuncId)(rb:Nat)(f0:LF)(h:LkM w wf.heap.size VF.fb sb C.P V f0)(hb:Below wf.heap.size wf w)
  (hent:∀ args w,(callFunc fid args).run prog w=.ok (.enter fid args) w)
  (hr:Blk w rb 37 #[.func (.func fid) #[.p V.xb] #[]])
  (hcall:∀ f W,LkM W wf.heap.size VF.fb sb C.P V f->Below wf.heap.size wf W->Calls prog fid #[.p V.xb] W (zh7 C wf VF sb V (p (f,false)) W))
  (hdn:∀ f,Sm (f,false)->DN μ (f,false) (p (f,false))) :
  Calls prog 221 #[.s rb 1 1] w (zuu wf VF.fb sb C.P V p f0 w):=by
 refine(zjo (LkInv wf VF.fb sb C.P V p f0 w) μ [⟨fid,#[.p V.xb],#[]⟩] [fun f=>p (f,false)=(f,false)] rb 1 w f0 rfl yy ⟨h,LkFr.refl _ _ _,0,rfl⟩ ?_ ?_).mono ?_
 ·intro s W A j r E;have hb:=hr.lkfr A.fr (fun e=>by
   have h3:=h.r 3 yo;rw[<- e]at h3;exact absurd rfl (hr.qs h3 yd)) (h.ne hr yd)
  cases j with
  | zero=>simp at E;subst E;exact hb.cell 0
  | succ j=>simp at E
 ·intro j r c E D;cases j with
  | zero =>
   simp at E D;subst E D;refine⟨hent,fun s W A=>?_⟩;refine(hcall s W A.m (hb.trans (A.fr.base h.bB.2 (h.bB.2 3 yo) hb.size))).mono ?_;rintro e J ⟨rfl,hm,H⟩;obtain⟨n,hn⟩:=A.n;refine⟨(p (s,false)).1,(p (s,false)).2,rfl,⟨hm,A.fr.trans H,n+1,by rw[hn];rfl⟩,fun D=>?_,fun D=>?_⟩
   ·rcases hdn s A.m.sm with e | ⟨_,hl⟩
    ·rw[e]at D;cases D
    ·exact hl
   ·rcases hdn s A.m.sm with e | ⟨ht,_⟩
    ·exact⟨by rw[e],e⟩
    ·rw[ht]at D;cases D
  | succ j=>simp at E
 ·rintro e w' ⟨f',rfl,A,G⟩;have I:p (f',false)=(f',false):=G (fun f=>p (f,false)=(f,false)) (ycs ..);exact⟨rfl,f',A.m,⟨A.n,by rw[I],by rw[I]⟩,A.fr⟩
end Go.Proofs.YtkmcihhndgdhpaaGreat
