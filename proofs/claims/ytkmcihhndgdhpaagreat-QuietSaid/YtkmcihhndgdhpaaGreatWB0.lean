/- Parts of the walk. -/
import Derived.Test.YtkmcihhndgdhpaaGreatWA8
set_option maxRecDepth 100000
set_option maxHeartbeats 4000000
set_option linter.unusedSimpArgs false
set_option linter.unusedVariables false
open Go.ChangeMaps Go.Maps Go.RowKit Go.Proofs.Tryz
namespace Go.Proofs.YtkmcihhndgdhpaaGreat
theorem mFa {p:Prop}(h:p:=by
  obtain⟨a,ha⟩:∃ a,i.args[j]?=some a:=⟨_,yc hlt⟩;obtain⟨ag,hae,hac⟩:=HAR.o j a ha;subst hae;have hcc:=hac wr HPr.o.on;have hbw:Below wr.heap.size wr (wr.alloc (.k #[.bool a.c,.i a.n] 306)):=yB.alloc yL _;have hba:Blk (wr.alloc (.k #[.bool a.c,.i a.n] 306)) wr.heap.size 306 #[.bool a.c,.i a.n]:=Blk.newAt rfl;have HA:=zH ha;have kan:=kargs a (yl ha);clear ha hac;go_wp2_with fail;generalize hW:(wr.alloc (.k #[.bool a.c,.i a.n] 306))=wa at hbw hba |-;clear hW hcc;have HPa:=zH (HPr.o.below hbw);have HBA:=zH hba;have HFa:=zH (HFr.o.trans (EdFr.below hbw));refine rgl 12 (fun(W':World)=>(W'.cell? (.a C.cg (k*14))=some (.i i.op)/\W'.cell? (.n C.cg k 2)=some (.i i.fn)/\W'.cell? (.n C.cg k 3)=some (.i i.x)/\W'.cell? (.n C.cg k 4)=some (.bool i.y.c)/\W'.cell? (.n C.cg k 5)=some (.i i.y.n)/\W'.cell? (.n C.cg k 8)=some (.i i.bin)/\W'.cell? (.n C.cg k 9)=some (.i i.var)/\W'.cell? (.n C.cg k 10)=some (.i i.site)/\W'.cell? (.n C.cg k 11)=some (.i i.call))/\∀ j,W'.cell? (.a wr.heap.size j)=#[.bool a.c,.i a.n][j]?) ?_;have hHeld:=(show(fun(W':World)=>(W'.cell? (.a C.cg (k*14))=some (.i i.op)/\W'.cell? (.n C.cg k 2)=some (.i i.fn)/\W'.cell? (.n C.cg k 3)=some (.i i.x)/\W'.cell? (.n C.cg k 4)=some (.bool i.y.c)/\W'.cell? (.n C.cg k 5)=some (.i i.y.n)/\W'.cell? (.n C.cg k 8)=some (.i i.bin)/\W'.cell? (.n C.cg k 9)=some (.i i.var)/\W'.cell? (.n C.cg k 10)=some (.i i.site)/\W'.cell? (.n C.cg k 11)=some (.i i.call))/\∀ j,W'.cell? (.a wr.heap.size j)=#[.bool a.c,.i a.n][j]?) wa.drew from⟨HRC.o _ HPa.o.on.drew,hba.drew.cell⟩)
  iterate 12(refine tK 0 rfl hHeld ?_)
  refine lst rfl fun K hK=>?_;go_simp;refine(zjs wf.heap.size fb wf V st' out i.fn a (loc i.call j) wa.drew (HPa.o.below yB.drew) ⟨by show 108<256;omega,kcall,by show -1000000<(j:Int);omega,by show(j:Int)<1000000;omega⟩ kfn kan).mono ?_;rintro e w5 ⟨rfl,hp5,hf5⟩;have REL:=zH (show zja wf V fb st out i w1 (i.args.length-(j+1)) (.i ((j+1:Nat):Int)) w5 from⟨j+1,_,rfl,rfl,hlt,hp5,by rw[<- HMr.o,zae HA.o,zax],HFa.o.trans ((EdFr.below yB.drew).trans hf5)⟩);refine hK _ _ ?_;clear hK K hHeld hp5 hf5 hba hbw;go_wp2;go_roundg (i.args.length-(j+1))
  case measure=>have:=HG.o;omega
  case rel=>rw[show((j:Int)+1)=((j+1:Nat):Int) by omega];exact REL.o):p:=h
theorem mNa {p:Prop}(h:p:=by
  rintro e w5 ⟨rfl,hp5,_⟩;have FIN:=zH (show zch fb wf V (zM st i) out (.e) w5 from⟨rfl,by rw[HE.o];exact hp5⟩);refine hK _ _ ?_;clear hK K hHeld hp5 HE;go_wp2_with fail
  first | go_end0 | refine ym (yp rfl _ _ _) rfl ?_
  exact FIN.o):p:=h
theorem mGb {p:Prop}(h:p:=by
  have HS5:=zH (HRU.o _ HO5.o (hf5 HC4.o yd) (hf5 HN4.o yd) (hf5 HS4.o yd));clear hrow5 hg5 hat5 hv4 hm6 hg6 hz6 hf5 HST hv hg4 hz4 hsl4 hsl hbe;refine hK.o _ _ HS5.o (fun hHeld=>?_);clear hK K;refine lst rfl fun K hK=>?_;go_simp;refine hK _ _ ?_;clear hK K hHeld hrun6;have FIN:=zH (show zch fb wf V (zM st i) out (.e) w6 from⟨rfl,by rw[HE.o];exact HFIN.o⟩);clear HFIN;go_wp2_with fail
  first | go_end0 | refine ym (yp rfl _ _ _) rfl ?_
  exact FIN.o):p:=h
theorem mUb {p:Prop}(h:p:=by
  have hxd:decide (i.x<0)=true:=decide_eq_true hx;have FIN:=zH (show zch fb wf V (zM st i) out (.e) wr from⟨rfl,by rw[HE.o,yj hx];exact HPr.o⟩);clear hx;go_wp2_with fail
  first | go_end0 | refine ym (yp rfl _ _ _) rfl ?_
  exact FIN.o):p:=h
theorem mZb {p:Prop}(h:p:=by
  rw[hyc]at hrc HE;simp only[if_true]at HE;have FIN:=zH (show zch fb wf V (zM st i) out (.e) w2 from⟨rfl,by rw[HE.o];exact HP2.o⟩);clear hrs;go_wp2_with fail
  first | go_end0 | refine ym (yp rfl _ _ _) rfl ?_
  exact FIN.o):p:=h
def zax (st:PS)(fn call:Nat):List Ar->Nat->PS
 | [],_=>st
 | a::l,k=>zax (zak st fn a (loc call k)) fn call l (k+1)
def zM (st:PS)(i:In):PS :=
 if i.op=1 then(if i.bin=0 then zak st i.fn i.y (loc i.fn i.x)else st)
 else if i.op=2 then zx st ⟨118,i.var,0⟩ (loc i.fn i.x)
 else if i.op=3 then zak st i.fn i.y ⟨118,i.var,0⟩
 else if i.op=6 then zar st (loc i.fn i.x) (2 ^ i.site) 0
 else if i.op=4 then(if i.y.c then st else useM st (loc i.fn i.y.n) ⟨i.var,loc i.fn i.x,false⟩)
 else if i.op=5 then(if i.y.c then st else useM st (loc i.fn i.x) ⟨i.var,loc i.fn i.y.n,true⟩)
 else if i.op=12 then zak st i.fn i.y ⟨114,i.fn,0⟩
 else if i.op=7\/i.op=11 then
  let st1:=zax st i.fn i.call i.args 0
  if i.x<0 then st1 else if i.op=7 then zar st1 (loc i.fn i.x) 0 (2 ^ i.site)else zx st1 ⟨114,i.call,0⟩ (loc i.fn i.x)
 else st
structure InOk (i:In):Prop where
 op:i.op<1000000
 fn:i.fn<1000000
 x:-1000000<i.x/\i.x<1000000
 y:i.y.n<1000000
 var:i.var<1000000
 site:i.site<40
 call:i.call<1000000
 bin:i.bin<1000000
 args:∀ a ∈ i.args,a.n<1000000
 al:i.args.length<1000
theorem zpq (fn call:Nat):∀ (l:List Ar) (k:Nat) (st:PS),(zax st fn call l k).us=st.us
 | [],_,_=>rfl
 | a::l,k,st=>by
  unfold zax;rw[zpq fn call l (k+1)];unfold zak;split <;> rfl
theorem tyUse:zj prog 425 427 5 40:=zj.mk' underlying425 (z:=.agg #[.i 0,.u 0,.i 0,.i 0,.bool false]) yk rfl yd yd
theorem znz {κ ν: Type} [DecidableEq κ] {m:List (κ × ν)} {x:κ} {v:ν} {p:κ × ν} (hn:(m.map Prod.fst).Nodup) (h:p ∈ mput m x v):p=(x,v)\/(p ∈ m/\p.1≠x):=by
 by_cases e:p.1=x
 ·left;have h1:=zea (zls hn x v) (show(p.1,p.2) ∈ mput m x v from h);rw[xd,yj e.symm]at h1;injection h1 with h1;rw[<- e,h1]
 ·rcases zf3 h with rfl | h
  ·exact absurd rfl e
  ·exact .inr ⟨h,e⟩
theorem PtM.row {w:World}{B fb:Nat}{V:PtV}{st:PS}{out:Nat}{mh:List (Nd×(Nat×Nat))}{mt:List (Nd×Nat)}{mu:List (Nd×Value)}(h:PtM w B fb V st out mh mt mu){n:Nd}{v:Value}(hv:mget mu n=some v\/(mget mu n=none/\v=.z)) :
  w.ownsRow B 427 5 v (st.us n).length ((st.us n).flatMap zcq):=by
 rcases hv with hv | ⟨hv,rfl⟩
 ·exact h.ur n v (zdd hv)
 ·rw[h.u0 n hv];exact yA _ _ _ _
theorem PtM.addU {w w2 w3 w4:World}{B fb:Nat}{V:PtV}{st:PS}{out:Nat}{mh:List (Nd×(Nat×Nat))}{mt:List (Nd×Nat)}{mu:List (Nd×Value)}{n:Nd}{u:Use}{v:Value}{g cap:Nat}(h:PtM w B fb V st out mh mt mu)(hv:mget mu n=some v\/(mget mu n=none/\v=.z))
  (hg2:w.grownBy w2 (some V.ub)) (hz:w2.heap.size=w.heap.size) (hrow:w3.ownsRow B 427 5 (.s g ((st.us n).length+1) cap) ((st.us n).length+1) ((st.us n).flatMap zcq++zcq u)) (hg3:w2.grownBy w3 v.ownBlock) (A:v.ownBlock=some g\/g=w2.heap.size)
  (hm:zG w4 V.ub ndV NdOk id (mput mu n (.s g ((st.us n).length+1) cap))) (hg4:w3.grownBy w4 (some V.ub)):PtM w4 B fb V (useM st n u) out mh mt (mput mu n (.s g ((st.us n).length+1) cap)):=by
 have N:=h.row hv;have O:∀ {k},k<w.heap.size->k≠V.ub->v.ownBlock≠some k->w4.heap[k]? = w.heap[k]? := fun {k} h1 h2 h3 =>
  ((hg4.block k (yi h1 (ya hg2.size hg3.size)) (fun e=>h2 (by injection e))).trans (hg3.block k (yi h1 hg2.size) (fun e=>h3 e.symm))).trans (hg2.block k h1 (fun e=>h2 (by injection e)))
 have a1:∀ {k t cs},Blk w k t cs->t≠427->v.ownBlock≠some k:=fun {k t cs} hb ht e=>by
  obtain⟨cs',U⟩:=zs8 N e;exact ht (hb.inj U).1
 have L:∀ {k κ ν} {enc:κ -> Value} {ok:κ -> Prop} {encv:ν -> Value} {m:List (κ × ν)},zG w k enc ok encv m->v.ownBlock≠some k:=fun hm=>hm.vw N;have K:(mu.map Prod.fst).Nodup:=by obtain⟨_,_,_,_,H,_⟩:=h.u;exact H
 have a0:∀ {b S},NkE w b S->v.ownBlock≠some b:=fun⟨m,h1,_⟩=>h1.vw N;refine⟨(O h.s.lt (fun e=>h.u.qf h.s e.symm) (a1 h.s yd)).trans h.s,h.h.qa (O h.h.lt h.ne.2.1 (L h.h)),h.hv,h.t.qa (O h.t.lt h.ne.2.2 (L h.t)),h.tn,fun G b hb=>?_,h.t0,hm,fun G v' D=>?_,fun n1 v1 n2 v2 h1 h2 he E=>?_,fun G hn'=>?_,h.bB,h.ne,h.sm⟩
 ·obtain⟨a,b1,c,d,e⟩:=h.ti G b hb;exact⟨a.qa (O a.lt e (a0 a)),b1,c,d,e⟩
 ·rcases znz K D with e | ⟨D,E⟩
  ·injection e with I J;subst I J;simp only[useM,yj,yx,yby,List.flatMap_append,yax,List.flatMap_nil,ya9];exact xx hrow fun k H=>hg4.block k (hrow.lt k H).2 (fun e=>by
    have W:g=k:=by simpa [Value.ownBlock] using H
    have h5:=h.u.lt;injection e with e;rcases A with A | A
    ·exact L h.u (by rw[A,W,e])
    ·omega)
  ·simp only[useM,yg E];refine xx (h.ur G v' D) fun k H=>O ((h.ur G v' D).lt k H).2 (fun e=>h.u.vw (h.ur G v' D) (by rw[H,e])) (fun e=>E ?_);rcases hv with hv | ⟨_,rfl⟩
   ·exact h.un G v' n v D (zdd hv) (by rw[H,e]) (by rw[H];simp)
   ·cases e
 ·have key:∀ {G v'},(G,v') ∈ mu->G≠n->v'.ownBlock≠some g:=fun {G v'} D E e=>by
   rcases A with A | A
   ·rcases hv with hv | ⟨_,rfl⟩
    ·exact E (h.un G v' n v D (zdd hv) (by rw[e,A]) (by rw[e];simp))
    ·cases A
   ·have:=((h.ur G v' D).lt g e).2;omega
  rcases znz K h1 with I | ⟨h1,Y⟩ <;> rcases znz K h2 with J | ⟨h2,Z⟩
  ·injection I with I _;injection J with J _;rw[I,J]
  ·injection I with I Q;subst Q;exact absurd he.symm (key h2 Z)
  ·injection J with J R;subst R;exact absurd he (key h1 Y)
  ·exact h.un n1 v1 n2 v2 h1 h2 he E
 ·rw[xd]at hn';split at hn'
  ·cases hn'
  ·rename_i E;simp only[useM,yg (fun e:G=n=>E e.symm)];exact h.u0 G hn'
theorem AXok.rcells {C:AX}(HC:AXok C){W':World}(hon:C.on W'){k:Nat}{i:In}(hi:C.P.code[k]?=some i):(W'.cell? (.a C.cg (k*14))=some (.i i.op)/\W'.cell? (.n C.cg k 2)=some (.i i.fn)/\W'.cell? (.n C.cg k 3)=some (.i i.x)/\W'.cell? (.n C.cg k 4)=some (.bool i.y.c)/\W'.cell? (.n C.cg k 5)=some (.i i.y.n)/\W'.cell? (.n C.cg k 8)=some (.i i.bin)/\W'.cell? (.n C.cg k 9)=some (.i i.var)/\W'.cell? (.n C.cg k 10)=some (.i i.site)/\W'.cell? (.n C.cg k 11)=some (.i i.call)):=by
 obtain⟨D,E,A,_,_⟩:=HC.ql hon hi;exact⟨A 0 yo,A 2 yo,A 3 yo,A 4 yo,A 5 yo,A 8 yo,A 9 yo,A 10 yo,A 11 yo⟩
theorem zmu:∀ {l:List Ar} {j:Nat} {a:Ar},l[j]?=some a->(l.flatMap zdm)[j*2]?=some (.bool a.c)/\(l.flatMap zdm)[j*2+1]?=some (.i a.n)
 | [],_,_,h=>by simp at h
 | b::l,0,a,h=>by
  simp at h;subst h;exact⟨rfl,rfl⟩
 | b::l,j+1,a,h=>by
  have:=zmu (l:=l) (j:=j) (a:=a) (by simpa using h);rw[yax,show(j+1)*2=j*2+2 by omega,show j*2+2+1=(j*2+1)+2 by omega];exact this
def zch (fb:Nat)(wf:World)(V:PtV)(st:PS)(out:Nat)(e:Ending)(w':World):Prop:=e=.e/\PtAt wf.heap.size fb wf V st out w'
def zja (wf:World)(V:PtV)(fb:Nat)(st:PS)(out:Nat)(i:In)(w1:World)(gk:Nat)(kv:Value)(W:World):Prop :=
 ∃ (j:Nat) (st':PS),kv=.i j/\gk=i.args.length-j/\j<=i.args.length/\PtAt wf.heap.size fb wf V st' out W/\zax st' i.fn i.call (i.args.drop j) j=zax st i.fn i.call i.args 0/\EdFr V w1 W
theorem rule_any (C:AX)(HC:AXok C)(wf:World)(hwf:C.on wf)(fb:Nat)(V:PtV)(st:PS)(out k:Nat)(i:In)(hi:C.P.code[k]?=some i)(hk:InOk i)(w:World)(h:PtAt wf.heap.size fb wf V st out w)(hus:∀ n,(st.us n).length<1000) :
  Calls prog 224 #[.p V.sb,.q C.cg (k*14)] w (zch fb wf V (zM st i) out):=by
 have HRC:=zH (fun(W':World) (hb:Below wf.heap.size wf W')=>HC.rcells (hwf.trans (hb.mono hwf.size)) hi);obtain⟨aa,ac,ao,ab,b3⟩:=HC.ql (hwf.trans (h.on.mono hwf.size)) hi;have b2:=HC.wf.cl;obtain⟨k0,kfn,kx,ky,ae,aw,kcall,az,kargs,b4⟩:=hk;have HI:=zH hi;have ah:=zH h.on;have aq:=zH (show ∀ W',Below wf.heap.size wf W'->W'.cell? (.n C.cg k 12)=some (.slice aa i.args.length ac)from fun W' hb=>by
  have ad:=hwf.trans (hb.mono hwf.size);have e:=(ao 12 yo);have hr:=HC.prog.cr;rw[HC.cv]at hr;have a7:=(hr.lt C.cg rfl).2;rw[ad.cell (p:=(.a C.cg _)) a7,<- (hwf.trans (h.on.mono hwf.size)).cell (p:=(.a C.cg _)) a7,e];rfl)
 have HAR:=zH (show ∀ (j:Nat) (a:Ar),i.args[j]?=some a->∃ ag,aa=some (.a ag 0)/\∀ W',Below wf.heap.size wf W'->W'.cell? (.a ag (j*2))=some (.bool a.c)/\W'.cell? (.a ag (j*2+1))=some (.i a.n)from fun j a hj=>by
  have hlt:j<i.args.length:=(yh.1 hj).1;obtain⟨ag,b1,hv,_,a7⟩:=ab.form yo;injection hv with e1 e2 e3;subst e1 e3;refine⟨ag,rfl,fun W' hb=>?_⟩;have ad:=hwf.trans (hb.mono hwf.size);rw[ad.cell (p:=(.a ag _)) a7,ad.cell (p:=(.a ag _)) a7,ab.cellAt (j*2) yo,ab.cellAt (j*2+1) yo];exact zmu hj)
 have H:=zH h;clear ao ab hi;have hrc:=HRC.o w h.on;have am:NdOk (loc i.fn i.x):=⟨by show 108<256;omega,kfn,kx⟩;have a1:=zH am;have au:=zH (show NdOk (loc i.fn i.y.n)from⟨by show 108<256;omega,kfn,by show -1000000<(i.y.n:Int);omega,by show(i.y.n:Int)<1000000;omega⟩);clear h am;go_enter func224,ntmps224;go_wp2_with fail;clear hrc;refine rgl 10 (fun(W':World)=>(W'.cell? (.a C.cg (k*14))=some (.i i.op)/\W'.cell? (.n C.cg k 2)=some (.i i.fn)/\W'.cell? (.n C.cg k 3)=some (.i i.x)/\W'.cell? (.n C.cg k 4)=some (.bool i.y.c)/\W'.cell? (.n C.cg k 5)=some (.i i.y.n)/\W'.cell? (.n C.cg k 8)=some (.i i.bin)/\W'.cell? (.n C.cg k 9)=some (.i i.var)/\W'.cell? (.n C.cg k 10)=some (.i i.site)/\W'.cell? (.n C.cg k 11)=some (.i i.call))) ?_;have hHeld:=HRC.o w.drew ah.o.drew
 iterate 9(refine tK 0 rfl hHeld ?_)
 refine rdy 9 rfl fun K hK=>?_;go_simp;have hbw:Below w.heap.size w (w.alloc (.k #[.u 0,.i 0,.i 0] 419)).drew:=(yB.alloc yL _).drew;have hcc:Blk (w.alloc (.k #[.u 0,.i 0,.i 0] 419)).drew w.heap.size 419 #[.u 0,.i 0,.i 0]:=(Blk.newAt rfl).drew;refine hK.o _ _ (HRC.o _ (ah.o.trans (hbw.mono H.o.bs))) (fun hHeld=>?_);clear hK K;refine lst rfl fun K hK=>?_;go_simp;refine hK _ _ ?_;clear hK K hHeld hbw hcc;have hbw:Below w.heap.size w (w.alloc (.k #[.u 108,.i i.fn,.i i.x] 419)).drew:=(yB.alloc yL _).drew;have hcc:Blk (w.alloc (.k #[.u 108,.i i.fn,.i i.x] 419)).drew w.heap.size 419 #[.u 108,.i i.fn,.i i.x]:=(Blk.newAt rfl).drew;generalize hW:(w.alloc (.k #[.u 108,.i i.fn,.i i.x] 419)).drew=w1 at hbw hcc |-;have Z:=zH (H.o.below hbw);have D:=zH (show ∀ W',Below w1.heap.size w1 W'->(fun(W':World)=>(W'.cell? (.a C.cg (k*14))=some (.i i.op)/\W'.cell? (.n C.cg k 2)=some (.i i.fn)/\W'.cell? (.n C.cg k 3)=some (.i i.x)/\W'.cell? (.n C.cg k 4)=some (.bool i.y.c)/\W'.cell? (.n C.cg k 5)=some (.i i.y.n)/\W'.cell? (.n C.cg k 8)=some (.i i.bin)/\W'.cell? (.n C.cg k 9)=some (.i i.var)/\W'.cell? (.n C.cg k 10)=some (.i i.site)/\W'.cell? (.n C.cg k 11)=some (.i i.call))/\∀ j,W'.cell? (.a w.heap.size j)=#[.u 108,.i i.fn,.i i.x][j]?) W' from fun W' hb=>⟨HRC.o W' (Z.o.on.trans (hb.mono Z.o.bs)),(hcc.below hb hcc.lt).cell⟩);have hrc:=HRC.o w1 Z.o.on;have a0:=zH hcc;clear hW hbw hcc H ah;by_cases h1:i.op=1
 ·have o1:((i.op:Int)==1)=true:=by rw[h1];rfl
  by_cases hb:i.bin=0
  ·have ob:((i.bin:Int)==0)=true:=by rw[hb];rfl
   have HE:=zH (show zM st i=zak st i.fn i.y (loc i.fn i.x) by unfold zM;rw[yj h1,yj hb]);clear h1 hb;go_wp2_with fail;refine zfp 10 (fun(W':World)=>(W'.cell? (.a C.cg (k*14))=some (.i i.op)/\W'.cell? (.n C.cg k 2)=some (.i i.fn)/\W'.cell? (.n C.cg k 3)=some (.i i.x)/\W'.cell? (.n C.cg k 4)=some (.bool i.y.c)/\W'.cell? (.n C.cg k 5)=some (.i i.y.n)/\W'.cell? (.n C.cg k 8)=some (.i i.bin)/\W'.cell? (.n C.cg k 9)=some (.i i.var)/\W'.cell? (.n C.cg k 10)=some (.i i.site)/\W'.cell? (.n C.cg k 11)=some (.i i.call))/\∀ j,W'.cell? (.a w.heap.size j)=#[.u 108,.i i.fn,.i i.x][j]?) yk rfl rfl yk ?_;simp only[yM,yY];have hHeld:=D.o w1.drew (yn _ w1).drew;clear hrc
   iterate 10(refine tK 0 rfl hHeld ?_)
   refine lst rfl fun K hK=>?_;go_simp;refine(zjs wf.heap.size fb wf V st out i.fn i.y (loc i.fn i.x) w1.drew (Z.o.below yB.drew) a1.o kfn ky).mono ?_;exact mNa
  ·have ob:((i.bin:Int)==0)=false:=zI yo;have FIN:=zH (show zch fb wf V (zM st i) out (.e) w1 from⟨rfl,by
    have e:zM st i=st:=by unfold zM;rw[yj h1,yg hb]
    rw[e];exact Z.o⟩)
   clear h1 hb;go_wp2_with fail
   first | go_end0 | refine ym (yp rfl _ _ _) rfl ?_
   exact FIN.o
 have o1:((i.op:Int)==1)=false:=zI yo;by_cases h2:i.op=2
 ·have o2:((i.op:Int)==2)=true:=by rw[h2];rfl
  have HE:=zH (show zM st i=zx st ⟨118,i.var,0⟩ (loc i.fn i.x) by unfold zM;rw[yg h1,yj h2]);clear h1 h2;go_wp2_with fail;refine zfp 7 (fun(W':World)=>(W'.cell? (.a C.cg (k*14))=some (.i i.op)/\W'.cell? (.n C.cg k 2)=some (.i i.fn)/\W'.cell? (.n C.cg k 3)=some (.i i.x)/\W'.cell? (.n C.cg k 4)=some (.bool i.y.c)/\W'.cell? (.n C.cg k 5)=some (.i i.y.n)/\W'.cell? (.n C.cg k 8)=some (.i i.bin)/\W'.cell? (.n C.cg k 9)=some (.i i.var)/\W'.cell? (.n C.cg k 10)=some (.i i.site)/\W'.cell? (.n C.cg k 11)=some (.i i.call))/\∀ j,W'.cell? (.a w.heap.size j)=#[.u 108,.i i.fn,.i i.x][j]?) yk rfl rfl yk ?_;simp only[yM,yY];have hHeld:=D.o w1.drew (yn _ w1).drew;clear hrc
  iterate 7(refine tK 0 rfl hHeld ?_)
  refine lst rfl fun K hK=>?_;go_simp;refine(zhe wf.heap.size fb wf V st out ⟨118,i.var,0⟩ (loc i.fn i.x) w1.drew (Z.o.below yB.drew) ⟨by show 118<256;omega,ae,by show(-1000000:Int)<0;omega,by show(0:Int)<1000000;omega⟩ a1.o).mono ?_;exact mNa
 have o2:((i.op:Int)==2)=false:=zI yo;by_cases h3:i.op=3
 ·have o3:((i.op:Int)==3)=true:=by rw[h3];rfl
  have HE:=zH (show zM st i=zak st i.fn i.y ⟨118,i.var,0⟩ by unfold zM;rw[yg h1,yg h2,yj h3]);clear h1 h2 h3;go_wp2_with fail;refine zfp 14 (fun(W':World)=>(W'.cell? (.a C.cg (k*14))=some (.i i.op)/\W'.cell? (.n C.cg k 2)=some (.i i.fn)/\W'.cell? (.n C.cg k 3)=some (.i i.x)/\W'.cell? (.n C.cg k 4)=some (.bool i.y.c)/\W'.cell? (.n C.cg k 5)=some (.i i.y.n)/\W'.cell? (.n C.cg k 8)=some (.i i.bin)/\W'.cell? (.n C.cg k 9)=some (.i i.var)/\W'.cell? (.n C.cg k 10)=some (.i i.site)/\W'.cell? (.n C.cg k 11)=some (.i i.call))/\∀ j,W'.cell? (.a w.heap.size j)=#[.u 108,.i i.fn,.i i.x][j]?) yk rfl rfl yk ?_;simp only[yM,yY];have hHeld:=D.o w1.drew (yn _ w1).drew;clear hrc
  iterate 14(refine tK 0 rfl hHeld ?_)
  refine lst rfl fun K hK=>?_;go_simp;refine(zjs wf.heap.size fb wf V st out i.fn i.y ⟨118,i.var,0⟩ w1.drew (Z.o.below yB.drew) ⟨by show 118<256;omega,ae,by show(-1000000:Int)<0;omega,by show(0:Int)<1000000;omega⟩ kfn ky).mono ?_;exact mNa
 have o3:((i.op:Int)==3)=false:=zI yo;by_cases h6:i.op=6
 ·have o6:((i.op:Int)==6)=true:=by rw[h6];rfl
  have HE:=zH (show zM st i=zar st (loc i.fn i.x) (2 ^ i.site) 0 by unfold zM;rw[yg h1,yg h2,yg h3,yj h6]);clear h1 h2 h3 h6;go_wp2_with fail;refine zfp 9 (fun(W':World)=>(W'.cell? (.a C.cg (k*14))=some (.i i.op)/\W'.cell? (.n C.cg k 2)=some (.i i.fn)/\W'.cell? (.n C.cg k 3)=some (.i i.x)/\W'.cell? (.n C.cg k 4)=some (.bool i.y.c)/\W'.cell? (.n C.cg k 5)=some (.i i.y.n)/\W'.cell? (.n C.cg k 8)=some (.i i.bin)/\W'.cell? (.n C.cg k 9)=some (.i i.var)/\W'.cell? (.n C.cg k 10)=some (.i i.site)/\W'.cell? (.n C.cg k 11)=some (.i i.call))/\∀ j,W'.cell? (.a w.heap.size j)=#[.u 108,.i i.fn,.i i.x][j]?) yk rfl rfl yk ?_;simp only[yM,yY];have hHeld:=D.o w1.drew (yn _ w1).drew;clear hrc
  iterate 6(refine tK 0 rfl hHeld ?_)
  refine rdy 6 rfl fun K hK=>?_;go_simp;have hbe:Below w1.heap.size w1 (w1.alloc (.k #[.i i.site] 3)).drew:=(yB.alloc yL _).drew;have hsl:Blk (w1.alloc (.k #[.i i.site] 3)).drew w1.heap.size 3 #[.i i.site]:=(Blk.newAt rfl).drew;refine hK.o _ _ (D.o _ hbe) (fun hHeld=>?_);clear hK K;refine rdy 7 rfl fun K hK=>?_;go_simp;refine(zf9 i.site w1.heap.size 1 _ yo (hsl.cell 0)).mono ?_;rintro e w4 ⟨rfl,aj⟩;subst aj;refine hK.o _ _ hHeld (fun hHeld=>?_);clear hK K;refine tK 8 rfl hHeld ?_;refine lst rfl fun K hK=>?_;go_simp;refine(znl wf.heap.size fb wf V st out (loc i.fn i.x) (2 ^ i.site) 0 _ (Z.o.below hbe) a1.o (yap yo yo) yo).mono ?_;clear hsl hbe;exact mNa
 have o6:((i.op:Int)==6)=false:=zI yo;by_cases h4:i.op=4
 ·have o4:((i.op:Int)==4)=true:=by rw[h4];rfl
  have HE:=zH (show zM st i=if i.y.c then st else useM st (loc i.fn i.y.n) ⟨i.var,loc i.fn i.x,false⟩ by unfold zM;rw[yg h1,yg h2,yg h3,yg h6,yj h4]);clear h1 h2 h3 h6 h4;go_wp2_with fail;refine zfp 11 (fun(W':World)=>(W'.cell? (.a C.cg (k*14))=some (.i i.op)/\W'.cell? (.n C.cg k 2)=some (.i i.fn)/\W'.cell? (.n C.cg k 3)=some (.i i.x)/\W'.cell? (.n C.cg k 4)=some (.bool i.y.c)/\W'.cell? (.n C.cg k 5)=some (.i i.y.n)/\W'.cell? (.n C.cg k 8)=some (.i i.bin)/\W'.cell? (.n C.cg k 9)=some (.i i.var)/\W'.cell? (.n C.cg k 10)=some (.i i.site)/\W'.cell? (.n C.cg k 11)=some (.i i.call))/\∀ j,W'.cell? (.a w.heap.size j)=#[.u 108,.i i.fn,.i i.x][j]?) yk rfl rfl yk ?_;simp only[yM,yY];have hHeld:=D.o w1.drew (yn _ w1).drew;clear hrc
  iterate 10(refine tK 0 rfl hHeld ?_)
  refine rdy 10 rfl fun K hK=>?_;go_simp;have hbe:Below w1.heap.size w1 (w1.alloc (.k #[.u 0,.i 0,.i 0] 419)).drew:=(yB.alloc yL _).drew;refine hK.o _ _ (D.o _ hbe) (fun hHeld=>?_);clear hK K;refine lst rfl fun K hK=>?_;go_simp;refine hK _ _ ?_;clear hK K hHeld hbe;have hbe:Below w1.heap.size w1 (w1.alloc (.k #[.u 108,.i i.fn,.i i.y.n] 419)).drew:=(yB.alloc yL _).drew;have Y:Blk (w1.alloc (.k #[.u 108,.i i.fn,.i i.y.n] 419)).drew w1.heap.size 419 #[.u 108,.i i.fn,.i i.y.n]:=(Blk.newAt rfl).drew;have hrs:=D.o _ hbe;generalize hW:(w1.alloc (.k #[.u 108,.i i.fn,.i i.y.n] 419)).drew=w2 at hbe Y hrs |-;have HP2:=zH (Z.o.below (hbe.mono yL));have L:=zH Y;have E:=zH (a0.o.below hbe a0.o.lt);obtain⟨nb,a8⟩:∃ nb,nb=w1.heap.size:=⟨_,rfl⟩;rw[<- a8]at L |-;clear hW Y a8;have hrc:=hrs.1;cases hyc:i.y.c
  ·rw[hyc]at hrc HE;simp only[yI,if_false]at HE;obtain⟨ap,ak,mh,mt,mu,W⟩:=HP2.o;have af:=zH W;have ai:=zH W.s;have HRU:=zH (show ∀ W',Below wf.heap.size wf W'->Blk W' w.heap.size 419 #[.u 108,.i i.fn,.i i.x]->Blk W' nb 419 #[.u 108,.i i.fn,.i i.y.n]->Blk W' V.sb 383 (zdf fb V out)->_ from fun W' h1 h2 h3 h4=>(⟨HRC.o W' h1,h2.cell,h3.cell,h4.cell⟩:(W'.cell? (.a C.cg (k*14))=some (.i i.op)/\W'.cell? (.n C.cg k 2)=some (.i i.fn)/\W'.cell? (.n C.cg k 3)=some (.i i.x)/\W'.cell? (.n C.cg k 4)=some (.bool i.y.c)/\W'.cell? (.n C.cg k 5)=some (.i i.y.n)/\W'.cell? (.n C.cg k 8)=some (.i i.bin)/\W'.cell? (.n C.cg k 9)=some (.i i.var)/\W'.cell? (.n C.cg k 10)=some (.i i.site)/\W'.cell? (.n C.cg k 11)=some (.i i.call))/\(∀ j,W'.cell? (.a w.heap.size j)=#[.u 108,.i i.fn,.i i.x][j]?)/\(∀ j,W'.cell? (.a nb j)=#[.u 108,.i i.fn,.i i.y.n][j]?)/\(∀ j,W'.cell? (.a V.sb j)=#[.p fb,.m V.hb,.m V.tb,.m V.ub,zA out][j]?)));clear W;go_wp2_with fail;have R:=hus (loc i.fn i.y.n);have a3:=zH R;clear R hrc hrs;refine rgl 16 (fun(W':World)=>(W'.cell? (.a C.cg (k*14))=some (.i i.op)/\W'.cell? (.n C.cg k 2)=some (.i i.fn)/\W'.cell? (.n C.cg k 3)=some (.i i.x)/\W'.cell? (.n C.cg k 4)=some (.bool i.y.c)/\W'.cell? (.n C.cg k 5)=some (.i i.y.n)/\W'.cell? (.n C.cg k 8)=some (.i i.bin)/\W'.cell? (.n C.cg k 9)=some (.i i.var)/\W'.cell? (.n C.cg k 10)=some (.i i.site)/\W'.cell? (.n C.cg k 11)=some (.i i.call))/\(∀ j,W'.cell? (.a w.heap.size j)=#[.u 108,.i i.fn,.i i.x][j]?)/\(∀ j,W'.cell? (.a nb j)=#[.u 108,.i i.fn,.i i.y.n][j]?)/\(∀ j,W'.cell? (.a V.sb j)=#[.p fb,.m V.hb,.m V.tb,.m V.ub,zA out][j]?)) ?_;have hHeld:=HRU.o w2.drew (HP2.o.on.drew) E.o.drew L.o.drew ai.o.drew
   iterate 11(refine tK 0 rfl hHeld ?_)
   refine rdy 11 rfl fun K hK=>?_;go_simp;have hbe:Below w2.heap.size w2 (w2.alloc (.k #[.i i.var,.u 108,.i i.fn,.i i.x,.bool false] 427)).drew:=(yB.alloc yL _).drew;have hsl:Blk (w2.alloc (.k #[.i i.var,.u 108,.i i.fn,.i i.x,.bool false] 427)).drew w2.heap.size 427 #[.i i.var,.u 108,.i i.fn,.i i.x,.bool false]:=(Blk.newAt rfl).drew;generalize hW:(w2.alloc (.k #[.i i.var,.u 108,.i i.fn,.i i.x,.bool false] 427)).drew=wA at hbe hsl |-;clear hW;have A:=zH (af.o.kp (PtKp.below hbe yL));have a5:=zH (HP2.o.on.trans (hbe.mono HP2.o.bs));have a2:=zH (E.o.below hbe E.o.lt);have a4:=zH (L.o.below hbe L.o.lt);refine hK.o _ _ (HRU.o _ a5.o a2.o a4.o A.o.s) (fun hHeld=>?_);clear hK K;obtain⟨w4,v,sx,J,hg4,hz4,hv,a9⟩:=A.o.u.entry (t:=380) (e:=425) zdx underlying380 (zeroValue425 wA) (x:=(loc i.fn i.y.n)) au.o;have O:(Instr.mapEntry 380 (.m V.ub) (.agg #[.u 108,.i i.fn,.i i.y.n])).run prog wA=.ok (.tuple #[v,.i sx]) w4:=J;clear J;have G:∀ {g t cs},Blk wA g t cs->Blk w4 g t cs:=fun hb=>hb.grown hg4 (fun e=>A.o.u.qf hb (by injection e with e;exact e.symm));have HST:=zH a9;have I:w4.ownsRow wf.heap.size 427 5 v (st.us (loc i.fn i.y.n)).length ((st.us (loc i.fn i.y.n)).flatMap zcq):=xx (A.o.row hv) fun k hk=>hg4.block k ((A.o.row hv).lt k hk).2 (fun e=>A.o.u.vw (A.o.row hv) (by injection e with e;rw[hk,e]));have S:=zH I;have N:=zH (a5.o.grown hg4 (ya HP2.o.bs hbe.size) (fun k e=>by cases e;exact A.o.bB.2.2.2));have hsl4:=G hsl;have HC4:=zH (G a2.o);have HN4:=zH (G a4.o);have HS4:=zH (G A.o.s);clear a9 I G;refine rdy 12 rfl fun K hK=>?_;go_simp;refine hK.o _ _ (HRU.o _ N.o HC4.o HN4.o HS4.o) (fun hHeld=>?_);clear hK K O;refine tK 13 rfl hHeld ?_;refine tK 15 rfl hHeld ?_
   try simp only[List.getElem_toArray,List.getElem_cons_succ,List.getElem_cons_zero,yU,yR]
   refine rdy 14 rfl fun K hK=>?_;refine zan tyUse rfl _ _ rfl wf.heap.size _ (st.us (loc i.fn i.y.n)).length ((st.us (loc i.fn i.y.n)).flatMap zcq) w2.heap.size _ _ S.o hsl4 rfl rfl rfl yE (yq a3.o) (by have:=N.o.size;exact this) ?_;intro g cap w5 hrow5 hg5 hat5;have hv4:v.ownBlock≠some V.ub:=fun e=>A.o.u.vw (A.o.row hv) e;obtain⟨w6,hrun6,hm6,hg6,hz6⟩:=HST.o w5 (.s g ((st.us (loc i.fn i.y.n)).length+1) cap) (hg5.block _ (by rw[hz4];exact A.o.u.lt) (fun e=>hv4 e.symm));have hf5:∀ {g t cs},Blk w4 g t cs->427≠t->Blk w5 g t cs:=fun hb ht=>hb.append S.o hg5 ht;have HO5:=zH (N.o.grown hg5 (by have:=N.o.size;exact this) (fun k e=>(S.o.lt k e).1));have HFIN:=zH (show PtAt wf.heap.size fb wf V (useM st (loc i.fn i.y.n) (⟨i.var,loc i.fn i.x,false⟩:Use)) out w6 from⟨HO5.o.grown hg6 HO5.o.size (fun k e=>by cases e;exact A.o.bB.2.2.2),ya HO5.o.size hg6.size,_,_,_,A.o.addU hv hg4 hz4 hrow5 hg5 hat5 hm6 hg6⟩);exact mGb
  ·exact mZb
 have o4:((i.op:Int)==4)=false:=zI yo;by_cases h5:i.op=5
 ·have o5:((i.op:Int)==5)=true:=by rw[h5];rfl
  have HE:=zH (show zM st i=if i.y.c then st else useM st (loc i.fn i.x) ⟨i.var,loc i.fn i.y.n,true⟩ by unfold zM;rw[yg h1,yg h2,yg h3,yg h6,yg h4,yj h5]);clear h1 h2 h3 h6 h4 h5;go_wp2_with fail;refine zfp 11 (fun(W':World)=>(W'.cell? (.a C.cg (k*14))=some (.i i.op)/\W'.cell? (.n C.cg k 2)=some (.i i.fn)/\W'.cell? (.n C.cg k 3)=some (.i i.x)/\W'.cell? (.n C.cg k 4)=some (.bool i.y.c)/\W'.cell? (.n C.cg k 5)=some (.i i.y.n)/\W'.cell? (.n C.cg k 8)=some (.i i.bin)/\W'.cell? (.n C.cg k 9)=some (.i i.var)/\W'.cell? (.n C.cg k 10)=some (.i i.site)/\W'.cell? (.n C.cg k 11)=some (.i i.call))/\∀ j,W'.cell? (.a w.heap.size j)=#[.u 108,.i i.fn,.i i.x][j]?) yk rfl rfl yk ?_;simp only[yM,yY];have hHeld:=D.o w1.drew (yn _ w1).drew;clear hrc
  iterate 10(refine tK 0 rfl hHeld ?_)
  refine rdy 10 rfl fun K hK=>?_;go_simp;have hbe:Below w1.heap.size w1 (w1.alloc (.k #[.u 0,.i 0,.i 0] 419)).drew:=(yB.alloc yL _).drew;refine hK.o _ _ (D.o _ hbe) (fun hHeld=>?_);clear hK K;refine lst rfl fun K hK=>?_;go_simp;refine hK _ _ ?_;clear hK K hHeld hbe;have hbe:Below w1.heap.size w1 (w1.alloc (.k #[.u 108,.i i.fn,.i i.y.n] 419)).drew:=(yB.alloc yL _).drew;have Y:Blk (w1.alloc (.k #[.u 108,.i i.fn,.i i.y.n] 419)).drew w1.heap.size 419 #[.u 108,.i i.fn,.i i.y.n]:=(Blk.newAt rfl).drew;have hrs:=D.o _ hbe;generalize hW:(w1.alloc (.k #[.u 108,.i i.fn,.i i.y.n] 419)).drew=w2 at hbe Y hrs |-;have HP2:=zH (Z.o.below (hbe.mono yL));have L:=zH Y;have E:=zH (a0.o.below hbe a0.o.lt);obtain⟨nb,a8⟩:∃ nb,nb=w1.heap.size:=⟨_,rfl⟩;rw[<- a8]at L |-;clear hW Y a8;have hrc:=hrs.1;cases hyc:i.y.c
  ·rw[hyc]at hrc HE;simp only[yI,if_false]at HE;obtain⟨ap,ak,mh,mt,mu,W⟩:=HP2.o;have af:=zH W;have ai:=zH W.s;have HRU:=zH (show ∀ W',Below wf.heap.size wf W'->Blk W' w.heap.size 419 #[.u 108,.i i.fn,.i i.x]->Blk W' nb 419 #[.u 108,.i i.fn,.i i.y.n]->Blk W' V.sb 383 (zdf fb V out)->_ from fun W' h1 h2 h3 h4=>(⟨HRC.o W' h1,h2.cell,h3.cell,h4.cell⟩:(W'.cell? (.a C.cg (k*14))=some (.i i.op)/\W'.cell? (.n C.cg k 2)=some (.i i.fn)/\W'.cell? (.n C.cg k 3)=some (.i i.x)/\W'.cell? (.n C.cg k 4)=some (.bool i.y.c)/\W'.cell? (.n C.cg k 5)=some (.i i.y.n)/\W'.cell? (.n C.cg k 8)=some (.i i.bin)/\W'.cell? (.n C.cg k 9)=some (.i i.var)/\W'.cell? (.n C.cg k 10)=some (.i i.site)/\W'.cell? (.n C.cg k 11)=some (.i i.call))/\(∀ j,W'.cell? (.a w.heap.size j)=#[.u 108,.i i.fn,.i i.x][j]?)/\(∀ j,W'.cell? (.a nb j)=#[.u 108,.i i.fn,.i i.y.n][j]?)/\(∀ j,W'.cell? (.a V.sb j)=#[.p fb,.m V.hb,.m V.tb,.m V.ub,zA out][j]?)));clear W;go_wp2_with fail;have R:=hus (loc i.fn i.x);have a3:=zH R;clear R hrc hrs;refine rgl 16 (fun(W':World)=>(W'.cell? (.a C.cg (k*14))=some (.i i.op)/\W'.cell? (.n C.cg k 2)=some (.i i.fn)/\W'.cell? (.n C.cg k 3)=some (.i i.x)/\W'.cell? (.n C.cg k 4)=some (.bool i.y.c)/\W'.cell? (.n C.cg k 5)=some (.i i.y.n)/\W'.cell? (.n C.cg k 8)=some (.i i.bin)/\W'.cell? (.n C.cg k 9)=some (.i i.var)/\W'.cell? (.n C.cg k 10)=some (.i i.site)/\W'.cell? (.n C.cg k 11)=some (.i i.call))/\(∀ j,W'.cell? (.a w.heap.size j)=#[.u 108,.i i.fn,.i i.x][j]?)/\(∀ j,W'.cell? (.a nb j)=#[.u 108,.i i.fn,.i i.y.n][j]?)/\(∀ j,W'.cell? (.a V.sb j)=#[.p fb,.m V.hb,.m V.tb,.m V.ub,zA out][j]?)) ?_;have hHeld:=HRU.o w2.drew (HP2.o.on.drew) E.o.drew L.o.drew ai.o.drew
   iterate 11(refine tK 0 rfl hHeld ?_)
   refine rdy 11 rfl fun K hK=>?_;go_simp;have hbe:Below w2.heap.size w2 (w2.alloc (.k #[.i i.var,.u 108,.i i.fn,.i i.y.n,.bool true] 427)).drew:=(yB.alloc yL _).drew;have hsl:Blk (w2.alloc (.k #[.i i.var,.u 108,.i i.fn,.i i.y.n,.bool true] 427)).drew w2.heap.size 427 #[.i i.var,.u 108,.i i.fn,.i i.y.n,.bool true]:=(Blk.newAt rfl).drew;generalize hW:(w2.alloc (.k #[.i i.var,.u 108,.i i.fn,.i i.y.n,.bool true] 427)).drew=wA at hbe hsl |-;clear hW;have A:=zH (af.o.kp (PtKp.below hbe yL));have a5:=zH (HP2.o.on.trans (hbe.mono HP2.o.bs));have a2:=zH (E.o.below hbe E.o.lt);have a4:=zH (L.o.below hbe L.o.lt);refine hK.o _ _ (HRU.o _ a5.o a2.o a4.o A.o.s) (fun hHeld=>?_);clear hK K;obtain⟨w4,v,sx,J,hg4,hz4,hv,a9⟩:=A.o.u.entry (t:=380) (e:=425) zdx underlying380 (zeroValue425 wA) (x:=(loc i.fn i.x)) a1.o;have O:(Instr.mapEntry 380 (.m V.ub) (.agg #[.u 108,.i i.fn,.i i.x])).run prog wA=.ok (.tuple #[v,.i sx]) w4:=J;clear J;have G:∀ {g t cs},Blk wA g t cs->Blk w4 g t cs:=fun hb=>hb.grown hg4 (fun e=>A.o.u.qf hb (by injection e with e;exact e.symm));have HST:=zH a9;have I:w4.ownsRow wf.heap.size 427 5 v (st.us (loc i.fn i.x)).length ((st.us (loc i.fn i.x)).flatMap zcq):=xx (A.o.row hv) fun k hk=>hg4.block k ((A.o.row hv).lt k hk).2 (fun e=>A.o.u.vw (A.o.row hv) (by injection e with e;rw[hk,e]));have S:=zH I;have N:=zH (a5.o.grown hg4 (ya HP2.o.bs hbe.size) (fun k e=>by cases e;exact A.o.bB.2.2.2));have hsl4:=G hsl;have HC4:=zH (G a2.o);have HN4:=zH (G a4.o);have HS4:=zH (G A.o.s);clear a9 I G;refine rdy 12 rfl fun K hK=>?_;go_simp;refine hK.o _ _ (HRU.o _ N.o HC4.o HN4.o HS4.o) (fun hHeld=>?_);clear hK K O;refine tK 13 rfl hHeld ?_;refine tK 15 rfl hHeld ?_
   try simp only[List.getElem_toArray,List.getElem_cons_succ,List.getElem_cons_zero,yU,yR]
   refine rdy 14 rfl fun K hK=>?_;refine zan tyUse rfl _ _ rfl wf.heap.size _ (st.us (loc i.fn i.x)).length ((st.us (loc i.fn i.x)).flatMap zcq) w2.heap.size _ _ S.o hsl4 rfl rfl rfl yE (yq a3.o) (by have:=N.o.size;exact this) ?_;intro g cap w5 hrow5 hg5 hat5;have hv4:v.ownBlock≠some V.ub:=fun e=>A.o.u.vw (A.o.row hv) e;obtain⟨w6,hrun6,hm6,hg6,hz6⟩:=HST.o w5 (.s g ((st.us (loc i.fn i.x)).length+1) cap) (hg5.block _ (by rw[hz4];exact A.o.u.lt) (fun e=>hv4 e.symm));have hf5:∀ {g t cs},Blk w4 g t cs->427≠t->Blk w5 g t cs:=fun hb ht=>hb.append S.o hg5 ht;have HO5:=zH (N.o.grown hg5 (by have:=N.o.size;exact this) (fun k e=>(S.o.lt k e).1));have HFIN:=zH (show PtAt wf.heap.size fb wf V (useM st (loc i.fn i.x) (⟨i.var,loc i.fn i.y.n,true⟩:Use)) out w6 from⟨HO5.o.grown hg6 HO5.o.size (fun k e=>by cases e;exact A.o.bB.2.2.2),ya HO5.o.size hg6.size,_,_,_,A.o.addU hv hg4 hz4 hrow5 hg5 hat5 hm6 hg6⟩);exact mGb
  ·exact mZb
 have o5:((i.op:Int)==5)=false:=zI yo;by_cases U:i.op=12
 ·have ay:((i.op:Int)==12)=true:=by rw[U];rfl
  have HE:=zH (show zM st i=zak st i.fn i.y ⟨114,i.fn,0⟩ by unfold zM;rw[yg h1,yg h2,yg h3,yg h6,yg h4,yg h5,yj U]);clear h1 h2 h3 h6 h4 h5 U;go_wp2_with fail;refine zfp 14 (fun(W':World)=>(W'.cell? (.a C.cg (k*14))=some (.i i.op)/\W'.cell? (.n C.cg k 2)=some (.i i.fn)/\W'.cell? (.n C.cg k 3)=some (.i i.x)/\W'.cell? (.n C.cg k 4)=some (.bool i.y.c)/\W'.cell? (.n C.cg k 5)=some (.i i.y.n)/\W'.cell? (.n C.cg k 8)=some (.i i.bin)/\W'.cell? (.n C.cg k 9)=some (.i i.var)/\W'.cell? (.n C.cg k 10)=some (.i i.site)/\W'.cell? (.n C.cg k 11)=some (.i i.call))/\∀ j,W'.cell? (.a w.heap.size j)=#[.u 108,.i i.fn,.i i.x][j]?) yk rfl rfl yk ?_;simp only[yM,yY];have hHeld:=D.o w1.drew (yn _ w1).drew;clear hrc
  iterate 14(refine tK 0 rfl hHeld ?_)
  refine lst rfl fun K hK=>?_;go_simp;refine(zjs wf.heap.size fb wf V st out i.fn i.y ⟨114,i.fn,0⟩ w1.drew (Z.o.below yB.drew) ⟨by show 114<256;omega,kfn,by show(-1000000:Int)<0;omega,by show(0:Int)<1000000;omega⟩ kfn ky).mono ?_;exact mNa
 have ay:((i.op:Int)==12)=false:=zI yo;by_cases h7:i.op=7\/i.op=11
 ·have HE:=zH (show zM st i=(if i.x<0 then zax st i.fn i.call i.args 0 else if i.op=7 then zar (zax st i.fn i.call i.args 0) (loc i.fn i.x) 0 (2 ^ i.site)else zx (zax st i.fn i.call i.args 0) ⟨114,i.call,0⟩ (loc i.fn i.x)) by unfold zM;rw[yg h1,yg h2,yg h3,yg h6,yg h4,yg h5,yg U,yj h7]);clear h1 h2 h3 h6 h4 h5 U;have an:=aq.o w1 Z.o.on;have ST:=zH (show zja wf V fb st out i w1 i.args.length (.i 0) w1 from⟨0,st,rfl,rfl,yD _,Z.o,by rw[yal],EdFr.below yB⟩);rcases h7 with h7 | h7
  ·have o7:((i.op:Int)==7)=true:=by rw[h7];rfl
   rw[yj h7]at HE;clear h7;go_wp2_with fail;clear hrc an;go_loopg [172] i.args.length (fun gk v172 wr=>zja wf V fb st out i w1 gk v172 wr)
   case atStart=>exact ST.o
   case round =>
    obtain⟨j,st',rfl,hg,hj,hP,hM,hF⟩:=hrel;have HG:=zH hg;have HPr:=zH hP;have HMr:=zH hM;have HFr:=zH hF;clear hg hP hM hF;by_cases hlt:j<i.args.length
    ·exact mFa
    ·obtain rfl:j=i.args.length:=yo;have a6:st'=zax st i.fn i.call i.args 0:=by rw[<- HMr.o,yaa,zax]
     rw[a6]at HPr;have hrc:=HRC.o wr HPr.o.on;have Q:=zH (show Blk wr w.heap.size 419 #[.u 108,.i i.fn,.i i.x]from HFr.o.same _ _ a0.o (.inl fun _ _ e=>by cases e));clear a6 HMr;by_cases hx:i.x<0
     ·exact mUb
     have hxd:decide (i.x<0)=false:=decide_eq_false hx;rw[yg hx]at HE;clear hx
     ·have b5:((i.op:Int)==7)=true:=o7;go_wp2_with fail;refine rgl 9 (fun(W':World)=>(W'.cell? (.a C.cg (k*14))=some (.i i.op)/\W'.cell? (.n C.cg k 2)=some (.i i.fn)/\W'.cell? (.n C.cg k 3)=some (.i i.x)/\W'.cell? (.n C.cg k 4)=some (.bool i.y.c)/\W'.cell? (.n C.cg k 5)=some (.i i.y.n)/\W'.cell? (.n C.cg k 8)=some (.i i.bin)/\W'.cell? (.n C.cg k 9)=some (.i i.var)/\W'.cell? (.n C.cg k 10)=some (.i i.site)/\W'.cell? (.n C.cg k 11)=some (.i i.call))/\∀ j,W'.cell? (.a w.heap.size j)=#[.u 108,.i i.fn,.i i.x][j]?) ?_;have hHeld:=(show(fun(W':World)=>(W'.cell? (.a C.cg (k*14))=some (.i i.op)/\W'.cell? (.n C.cg k 2)=some (.i i.fn)/\W'.cell? (.n C.cg k 3)=some (.i i.x)/\W'.cell? (.n C.cg k 4)=some (.bool i.y.c)/\W'.cell? (.n C.cg k 5)=some (.i i.y.n)/\W'.cell? (.n C.cg k 8)=some (.i i.bin)/\W'.cell? (.n C.cg k 9)=some (.i i.var)/\W'.cell? (.n C.cg k 10)=some (.i i.site)/\W'.cell? (.n C.cg k 11)=some (.i i.call))/\∀ j,W'.cell? (.a w.heap.size j)=#[.u 108,.i i.fn,.i i.x][j]?) wr.drew from⟨HRC.o _ HPr.o.on.drew,Q.o.drew.cell⟩);clear hrc
      iterate 6(refine tK 0 rfl hHeld ?_)
      refine rdy 6 rfl fun K hK=>?_;go_simp;have hbe:Below wr.heap.size wr (wr.alloc (.k #[.i i.site] 3)).drew:=(yB.alloc yL _).drew;have hsl:Blk (wr.alloc (.k #[.i i.site] 3)).drew wr.heap.size 3 #[.i i.site]:=(Blk.newAt rfl).drew;refine hK.o _ _ (show(fun(W':World)=>(W'.cell? (.a C.cg (k*14))=some (.i i.op)/\W'.cell? (.n C.cg k 2)=some (.i i.fn)/\W'.cell? (.n C.cg k 3)=some (.i i.x)/\W'.cell? (.n C.cg k 4)=some (.bool i.y.c)/\W'.cell? (.n C.cg k 5)=some (.i i.y.n)/\W'.cell? (.n C.cg k 8)=some (.i i.bin)/\W'.cell? (.n C.cg k 9)=some (.i i.var)/\W'.cell? (.n C.cg k 10)=some (.i i.site)/\W'.cell? (.n C.cg k 11)=some (.i i.call))/\∀ j,W'.cell? (.a w.heap.size j)=#[.u 108,.i i.fn,.i i.x][j]?) _ from⟨HRC.o _ (HPr.o.below hbe).on,(Q.o.below hbe Q.o.lt).cell⟩) (fun hHeld=>?_);clear hK K;refine rdy 7 rfl fun K hK=>?_;go_simp;refine(zf9 i.site wr.heap.size 1 _ yo (hsl.cell 0)).mono ?_;rintro e w4 ⟨rfl,aj⟩;subst aj;refine hK.o _ _ hHeld (fun hHeld=>?_);clear hK K;refine tK 8 rfl hHeld ?_;refine lst rfl fun K hK=>?_;go_simp;refine(znl wf.heap.size fb wf V _ out (loc i.fn i.x) 0 (2 ^ i.site) _ (HPr.o.below hbe) a1.o yo (yap yo yo)).mono ?_;clear hsl hbe;exact mNa
  ·have o7:((i.op:Int)==7)=false:=by rw[h7];rfl
   have ax:((i.op:Int)==11)=true:=by rw[h7];rfl
   rw[yg (show ¬ i.op=7 by omega)]at HE;clear h7;go_wp2_with fail;clear hrc an;go_loopg [172] i.args.length (fun gk v172 wr=>zja wf V fb st out i w1 gk v172 wr)
   case atStart=>exact ST.o
   case round =>
    obtain⟨j,st',rfl,hg,hj,hP,hM,hF⟩:=hrel;have HG:=zH hg;have HPr:=zH hP;have HMr:=zH hM;have HFr:=zH hF;clear hg hP hM hF;by_cases hlt:j<i.args.length
    ·exact mFa
    ·obtain rfl:j=i.args.length:=yo;have a6:st'=zax st i.fn i.call i.args 0:=by rw[<- HMr.o,yaa,zax]
     rw[a6]at HPr;have hrc:=HRC.o wr HPr.o.on;have Q:=zH (show Blk wr w.heap.size 419 #[.u 108,.i i.fn,.i i.x]from HFr.o.same _ _ a0.o (.inl fun _ _ e=>by cases e));clear a6 HMr;by_cases hx:i.x<0
     ·exact mUb
     have hxd:decide (i.x<0)=false:=decide_eq_false hx;rw[yg hx]at HE;clear hx
     ·go_wp2_with fail;refine rgl 7 (fun(W':World)=>(W'.cell? (.a C.cg (k*14))=some (.i i.op)/\W'.cell? (.n C.cg k 2)=some (.i i.fn)/\W'.cell? (.n C.cg k 3)=some (.i i.x)/\W'.cell? (.n C.cg k 4)=some (.bool i.y.c)/\W'.cell? (.n C.cg k 5)=some (.i i.y.n)/\W'.cell? (.n C.cg k 8)=some (.i i.bin)/\W'.cell? (.n C.cg k 9)=some (.i i.var)/\W'.cell? (.n C.cg k 10)=some (.i i.site)/\W'.cell? (.n C.cg k 11)=some (.i i.call))/\∀ j,W'.cell? (.a w.heap.size j)=#[.u 108,.i i.fn,.i i.x][j]?) ?_;have hHeld:=(show(fun(W':World)=>(W'.cell? (.a C.cg (k*14))=some (.i i.op)/\W'.cell? (.n C.cg k 2)=some (.i i.fn)/\W'.cell? (.n C.cg k 3)=some (.i i.x)/\W'.cell? (.n C.cg k 4)=some (.bool i.y.c)/\W'.cell? (.n C.cg k 5)=some (.i i.y.n)/\W'.cell? (.n C.cg k 8)=some (.i i.bin)/\W'.cell? (.n C.cg k 9)=some (.i i.var)/\W'.cell? (.n C.cg k 10)=some (.i i.site)/\W'.cell? (.n C.cg k 11)=some (.i i.call))/\∀ j,W'.cell? (.a w.heap.size j)=#[.u 108,.i i.fn,.i i.x][j]?) wr.drew from⟨HRC.o _ HPr.o.on.drew,Q.o.drew.cell⟩);clear hrc
      iterate 7(refine tK 0 rfl hHeld ?_)
      refine lst rfl fun K hK=>?_;go_simp;refine(zhe wf.heap.size fb wf V _ out ⟨114,i.call,0⟩ (loc i.fn i.x) wr.drew (HPr.o.below yB.drew) ⟨by show 114<256;omega,kcall,by show(-1000000:Int)<0;omega,by show(0:Int)<1000000;omega⟩ a1.o).mono ?_;exact mNa
 ·have o7:((i.op:Int)==7)=false:=zI yo;have ax:((i.op:Int)==11)=false:=zI yo;have FIN:=zH (show zch fb wf V (zM st i) out (.e) w1 from⟨rfl,by
   have e:zM st i=st:=by unfold zM;rw[yg h1,yg h2,yg h3,yg h6,yg h4,yg h5,yg U,yg h7]
   rw[e];exact Z.o⟩)
  clear h1 h2 h3 h6 h4 h5 U h7;go_wp2_with fail
  first | go_end0 | refine ym (yp rfl _ _ _) rfl ?_
  exact FIN.o
end Go.Proofs.YtkmcihhndgdhpaaGreat
