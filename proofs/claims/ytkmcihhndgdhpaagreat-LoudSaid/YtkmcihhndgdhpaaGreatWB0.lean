/- PtsG: parts of the walk. -/
import Derived.Test.YtkmcihhndgdhpaaGreatWA8
set_option maxRecDepth 100000
set_option maxHeartbeats 4000000
set_option linter.unusedSimpArgs false
set_option linter.unusedVariables false
namespace Go.Proofs.YtkmcihhndgdhpaaGreat
section
open Go.RowKit Go.Maps Go.ChangeMaps
set_option linter.unusedSimpArgs false
def zcp (st:PS)(fn call:Nat):List Ar→Nat→PS
 | [],_=>st
 | a::l,k=>zcp (zb8 st fn a (loc call k)) fn call l (k+1)
def zak (st:PS)(i:In):PS :=
 if i.op=1 then(if i.bin=0 then zb8 st i.fn i.y (loc i.fn i.x)else st)
 else if i.op=2 then zbd st ⟨118,i.var,0⟩ (loc i.fn i.x)
 else if i.op=3 then zb8 st i.fn i.y ⟨118,i.var,0⟩
 else if i.op=6 then zcj st (loc i.fn i.x) (2 ^ i.site) 0
 else if i.op=4 then(if i.y.c then st else useM st (loc i.fn i.y.n) ⟨i.var,loc i.fn i.x,false⟩)
 else if i.op=5 then(if i.y.c then st else useM st (loc i.fn i.x) ⟨i.var,loc i.fn i.y.n,true⟩)
 else if i.op=12 then zb8 st i.fn i.y ⟨114,i.fn,0⟩
 else if i.op=7∨i.op=11 then
  let st1:=zcp st i.fn i.call i.args 0
  if i.x<0 then st1 else if i.op=7 then zcj st1 (loc i.fn i.x) 0 (2 ^ i.site)else zbd st1 ⟨114,i.call,0⟩ (loc i.fn i.x)
 else st
structure InOk (i:In):Prop where
 op:i.op<1000000
 fn:i.fn<1000000
 x:-1000000<i.x∧i.x<1000000
 y:i.y.n<1000000
 var:i.var<1000000
 site:i.site<40
 call:i.call<1000000
 bin:i.bin<1000000
 args:∀ a ∈ i.args,a.n<1000000
 al:i.args.length<1000
theorem zr1 (fn call:Nat):∀ (l:List Ar) (k:Nat) (st:PS),(zcp st fn call l k).us=st.us
 | [],_,_=>rfl
 | a::l,k,st=>by
  unfold zcp
  rw[zr1 fn call l (k+1)]
  unfold zb8
  split <;> rfl
theorem tyUse:zbl Tryz.prog 425 427 5 40:=zbl.mk' Tryz.underlying425 (z:=.agg #[.int .i64 0,.int .u8 0,.int .i64 0,.int .i64 0,.bool false]) (by kernel_rfl) rfl (by decide) (by decide)
theorem zml {κ ν : Type} [DecidableEq κ] {m:List (κ × ν)} {x:κ} {v:ν} {p:κ × ν} (hn:(m.map Prod.fst).Nodup) (h:p ∈ mput m x v):p=(x,v)∨(p ∈ m∧p.1≠x):=by
 by_cases e:p.1=x
 ·left
  have h1:=zhl (zl8 hn x v) (show(p.1,p.2) ∈ mput m x v from h)
  rw[zh1,if_pos e.symm]at h1
  injection h1 with h1
  rw[← e,h1]
 ·rcases zg6 h with rfl | h
  ·exact absurd rfl e
  ·exact .inr ⟨h,e⟩
theorem PtM.row {w:World}{B fb:Nat}{V:PtV}{st:PS}{out:Nat}{mh:List (Nd×(Nat×Nat))}{mt:List (Nd×Nat)}{mu:List (Nd×Value)}(h:PtM w B fb V st out mh mt mu){n:Nd}{v:Value}(hv:mget mu n=some v∨(mget mu n=none∧v=.slice none 0 0)) :
  w.ownsRow B 427 5 v (st.us n).length ((st.us n).flatMap zd6):=by
 rcases hv with hv | ⟨hv,rfl⟩
 ·exact h.ur n v (zfi hv)
 ·rw[h.u0 n hv];exact World.ownsRow_nil _ _ _ _
theorem PtM.addU {w w2 w3 w4:World}{B fb:Nat}{V:PtV}{st:PS}{out:Nat}{mh:List (Nd×(Nat×Nat))}{mt:List (Nd×Nat)}{mu:List (Nd×Value)}{n:Nd}{u:Use}{v:Value}{g cap:Nat}(h:PtM w B fb V st out mh mt mu)(hv:mget mu n=some v∨(mget mu n=none∧v=.slice none 0 0))
  (hg2:w.grownBy w2 (some V.ub)) (hz:w2.heap.size=w.heap.size) (hrow:w3.ownsRow B 427 5 (.slice (some ⟨g,0,none⟩) ((st.us n).length+1) cap) ((st.us n).length+1) ((st.us n).flatMap zd6++zd6 u)) (hg3:w2.grownBy w3 v.ownBlock) (hat:v.ownBlock=some g∨g=w2.heap.size)
  (hm:zaf w4 V.ub ndV NdOk id (mput mu n (.slice (some ⟨g,0,none⟩) ((st.us n).length+1) cap))) (hg4:w3.grownBy w4 (some V.ub)):PtM w4 B fb V (useM st n u) out mh mt (mput mu n (.slice (some ⟨g,0,none⟩) ((st.us n).length+1) cap)):=by
 have hvr:=h.row hv
 have hs:∀ {k},k<w.heap.size→k≠V.ub→v.ownBlock≠some k→w4.heap[k]? = w.heap[k]? := fun {k} h1 h2 h3 =>
  ((hg4.block k (Nat.lt_of_lt_of_le h1 (Nat.le_trans hg2.size hg3.size)) (fun e=>h2 (by injection e))).trans (hg3.block k (Nat.lt_of_lt_of_le h1 hg2.size) (fun e=>h3 e.symm))).trans (hg2.block k h1 (fun e=>h2 (by injection e)))
 have hnr:∀ {k t cs},Blk w k t cs→t≠427→v.ownBlock≠some k:=fun {k t cs} hb ht e=>by
  obtain⟨cs',hb'⟩:=zr0 hvr e
  exact ht (hb.inj hb').1
 have hnm:∀ {k κ ν} {enc:κ → Value} {ok:κ → Prop} {encv:ν → Value} {m:List (κ × ν)},zaf w k enc ok encv m→v.ownBlock≠some k:=fun hm=>hm.neRow hvr
 have hnd:(mu.map Prod.fst).Nodup:=by obtain⟨_,_,_,_,hk,_⟩:=h.u;exact hk
 have hnn:∀ {b S},NkE w b S→v.ownBlock≠some b:=fun⟨m,h1,_⟩=>h1.neRow hvr
 refine⟨(hs h.s.lt (fun e=>h.u.cellFar h.s e.symm) (hnr h.s (by decide))).trans h.s,h.h.of_block (hs h.h.lt h.ne.2.1 (hnm h.h)),h.hv,h.t.of_block (hs h.t.lt h.ne.2.2 (hnm h.t)),h.tn,fun n' b hb=>?_,h.t0,hm,fun n' v' hv'=>?_,fun n1 v1 n2 v2 h1 h2 he hne=>?_,fun n' hn'=>?_,h.bB,h.ne,h.sm⟩
 ·obtain⟨a,b1,c,d,e⟩:=h.ti n' b hb
  exact⟨a.of_block (hs a.lt e (hnn a)),b1,c,d,e⟩
 ·rcases zml hnd hv' with e | ⟨hv',hne⟩
  ·injection e with e1 e2
   subst e1 e2
   simp only[useM,if_pos,List.length_append,List.length_singleton,List.flatMap_append,List.flatMap_cons,List.flatMap_nil,List.append_nil]
   exact zhf hrow fun k hk=>hg4.block k (hrow.lt k hk).2 (fun e=>by
    have hk2:g=k:=by simpa [Value.ownBlock] using hk
    have h5:=h.u.lt
    injection e with e
    rcases hat with hat | hat
    ·exact hnm h.u (by rw[hat,hk2,e])
    ·omega)
  ·simp only[useM,if_neg hne]
   refine zhf (h.ur n' v' hv') fun k hk=>hs ((h.ur n' v' hv').lt k hk).2 (fun e=>h.u.neRow (h.ur n' v' hv') (by rw[hk,e])) (fun e=>hne ?_)
   rcases hv with hv | ⟨_,rfl⟩
   ·exact h.un n' v' n v hv' (zfi hv) (by rw[hk,e]) (by rw[hk];simp)
   ·cases e
 ·have key:∀ {n' v'},(n',v') ∈ mu→n'≠n→v'.ownBlock≠some g:=fun {n' v'} hv' hne e=>by
   rcases hat with hat | hat
   ·rcases hv with hv | ⟨_,rfl⟩
    ·exact hne (h.un n' v' n v hv' (zfi hv) (by rw[e,hat]) (by rw[e];simp))
    ·cases hat
   ·have:=((h.ur n' v' hv').lt g e).2
    omega
  rcases zml hnd h1 with e1 | ⟨h1,hn1⟩ <;> rcases zml hnd h2 with e2 | ⟨h2,hn2⟩
  ·injection e1 with e1 _;injection e2 with e2 _;rw[e1,e2]
  ·injection e1 with e1 e1'
   subst e1'
   exact absurd he.symm (key h2 hn2)
  ·injection e2 with e2 e2'
   subst e2'
   exact absurd he (key h1 hn1)
  ·exact h.un n1 v1 n2 v2 h1 h2 he hne
 ·rw[zh1]at hn'
  split at hn'
  ·cases hn'
  ·rename_i hne
   simp only[useM,if_neg (fun e:n'=n=>hne e.symm)]
   exact h.u0 n' hn'
theorem AXok.rcells {C:AX}(HC:AXok C){W':World}(hon:C.on W'){k:Nat}{i:In}(hi:C.P.code[k]? = some i):(W'.cell? ⟨C.cg,k*14,none⟩=some (.int .i64 i.op)∧W'.cell? ⟨C.cg,k*14+2,none⟩=some (.int .i64 i.fn)∧W'.cell? ⟨C.cg,k*14+3,none⟩=some (.int .i64 i.x)∧W'.cell? ⟨C.cg,k*14+4,none⟩=some (.bool i.y.c)∧W'.cell? ⟨C.cg,k*14+5,none⟩=some (.int .i64 i.y.n)∧W'.cell? ⟨C.cg,k*14+8,none⟩=some (.int .i64 i.bin)∧W'.cell? ⟨C.cg,k*14+9,none⟩=some (.int .i64 i.var)∧W'.cell? ⟨C.cg,k*14+10,none⟩=some (.int .i64 i.site)∧W'.cell? ⟨C.cg,k*14+11,none⟩=some (.int .i64 i.call)):=by
 obtain⟨aa,ac,hic,_,_⟩:=HC.icells hon hi
 exact⟨hic 0 (by omega),hic 2 (by omega),hic 3 (by omega),hic 4 (by omega),hic 5 (by omega),hic 8 (by omega),hic 9 (by omega),hic 10 (by omega),hic 11 (by omega)⟩
theorem zm9:∀ {l:List Ar} {j:Nat} {a:Ar},l[j]? = some a→(l.flatMap zgj)[j*2]? = some (.bool a.c)∧(l.flatMap zgj)[j*2+1]? = some (.int .i64 a.n)
 | [],_,_,h=>by simp at h
 | b::l,0,a,h=>by
  simp at h
  subst h
  exact⟨rfl,rfl⟩
 | b::l,j+1,a,h=>by
  have:=zm9 (l:=l) (j:=j) (a:=a) (by simpa using h)
  rw[List.flatMap_cons,show(j+1)*2=j*2+2 by omega,show j*2+2+1=(j*2+1)+2 by omega]
  exact this
def zd7 (fb:Nat)(wf:World)(V:PtV)(st:PS)(out:Nat)(e:Ending)(w':World):Prop:=e=.returned (.tuple #[])∧PtAt wf.heap.size fb wf V st out w'
def zka (wf:World)(V:PtV)(fb:Nat)(st:PS)(out:Nat)(i:In)(w1:World)(gk:Nat)(kv:Value)(W:World):Prop :=
 ∃ (j:Nat) (st':PS),kv=.int .i64 j∧gk=i.args.length-j∧j≤i.args.length∧PtAt wf.heap.size fb wf V st' out W∧zcp st' i.fn i.call (i.args.drop j) j=zcp st i.fn i.call i.args 0∧EdFr V w1 W
theorem rule_any (C:AX)(HC:AXok C)(wf:World)(hwf:C.on wf)(fb:Nat)(V:PtV)(st:PS)(out k:Nat)(i:In)(hi:C.P.code[k]? = some i)(hk:InOk i)(w:World)(h:PtAt wf.heap.size fb wf V st out w)(hus:∀ n,(st.us n).length<1000) :
  Calls Tryz.prog 224 #[.pointer (some ⟨V.sb,0,none⟩),.pointer (some ⟨C.cg,k*14,none⟩)] w (zd7 fb wf V (zak st i) out):=by
 have HRC:=zH (fun(W':World) (hb:Below wf.heap.size wf W')=>HC.rcells (hwf.trans (hb.mono hwf.size)) hi)
 obtain⟨aa,ac,hic,har,hkl⟩:=HC.icells (hwf.trans (h.on.mono hwf.size)) hi
 have hcl:=HC.wf.cl
 obtain⟨k0,kfn,kx,ky,kvar,ksite,kcall,kbin,kargs,kal⟩:=hk
 have HI:=zH hi
 have HON:=zH h.on
 have HIA:=zH (show ∀ W',Below wf.heap.size wf W'→W'.cell? ⟨C.cg,k*14+12,none⟩=some (.slice aa i.args.length ac)from fun W' hb=>by
  have hon:=hwf.trans (hb.mono hwf.size)
  have e:=(hic 12 (by omega))
  have hr:=HC.prog.cr
  rw[HC.cv]at hr
  have hgl:=(hr.lt C.cg rfl).2
  rw[hon.cell (p:=⟨C.cg,_,none⟩) hgl,← (hwf.trans (h.on.mono hwf.size)).cell (p:=⟨C.cg,_,none⟩) hgl,e]
  rfl)
 have HAR:=zH (show ∀ (j:Nat) (a:Ar),i.args[j]? = some a→∃ ag,aa=some ⟨ag,0,none⟩∧∀ W',Below wf.heap.size wf W'→W'.cell? ⟨ag,j*2,none⟩=some (.bool a.c)∧W'.cell? ⟨ag,j*2+1,none⟩=some (.int .i64 a.n)from fun j a hj=>by
  have hlt:j<i.args.length:=(List.getElem?_eq_some_iff.1 hj).1
  obtain⟨ag,ac',hv,_,hgl⟩:=har.form (by omega)
  injection hv with e1 e2 e3
  subst e1 e3
  refine⟨ag,rfl,fun W' hb=>?_⟩
  have hon:=hwf.trans (hb.mono hwf.size)
  rw[hon.cell (p:=⟨ag,_,none⟩) hgl,hon.cell (p:=⟨ag,_,none⟩) hgl,har.cellAt (j*2) (by omega),har.cellAt (j*2+1) (by omega)]
  exact zm9 hj)
 have H:=zH h
 clear hic har hi
 have hrc:=HRC.out w h.on
 have hdn:NdOk (loc i.fn i.x):=⟨by show 108<256;omega,kfn,kx⟩
 have HDN:=zH hdn
 have HYN:=zH (show NdOk (loc i.fn i.y.n)from⟨by show 108<256;omega,kfn,by show -1000000<(i.y.n:Int);omega,by show(i.y.n:Int)<1000000;omega⟩)
 clear h hdn
 go_enter Tryz.func224,Tryz.ntmps224
 go_wp2_with fail
 clear hrc
 refine zah 10 (fun(W':World)=>(W'.cell? ⟨C.cg,k*14,none⟩=some (.int .i64 i.op)∧W'.cell? ⟨C.cg,k*14+2,none⟩=some (.int .i64 i.fn)∧W'.cell? ⟨C.cg,k*14+3,none⟩=some (.int .i64 i.x)∧W'.cell? ⟨C.cg,k*14+4,none⟩=some (.bool i.y.c)∧W'.cell? ⟨C.cg,k*14+5,none⟩=some (.int .i64 i.y.n)∧W'.cell? ⟨C.cg,k*14+8,none⟩=some (.int .i64 i.bin)∧W'.cell? ⟨C.cg,k*14+9,none⟩=some (.int .i64 i.var)∧W'.cell? ⟨C.cg,k*14+10,none⟩=some (.int .i64 i.site)∧W'.cell? ⟨C.cg,k*14+11,none⟩=some (.int .i64 i.call))) (by kernel_rfl) rfl rfl (by kernel_rfl) ?_
 simp only[List.take_succ_cons,List.take_zero]
 have hHeld:=HRC.out w.drew HON.out.drew
 iterate 9(refine tk 0 rfl (by kernel_rfl) (fun _ _ _ h=>h) hHeld (fun w hSw=>by go_simp;try with_reducible rfl) (by simp only[pA,pB,pC,pD,pE,pF,pG,pH];exact rfl) ?_)
 refine rdy 9 (by kernel_rfl) rfl fun K hK=>?_
 go_simp
 have hbw:Below w.heap.size w (w.alloc (.cells #[.int .u8 (0:Int),.int .i64 (0:Int),.int .i64 (0:Int)] 419)).drew:=((Below.refl _ _).alloc (Nat.le_refl _) _).drew
 have hcc:Blk (w.alloc (.cells #[.int .u8 (0:Int),.int .i64 (0:Int),.int .i64 (0:Int)] 419)).drew w.heap.size 419 #[.int .u8 (0:Int),.int .i64 (0:Int),.int .i64 (0:Int)]:=(Blk.newAt rfl).drew
 refine hK.out _ _ (HRC.out _ (HON.out.trans (hbw.mono H.out.bs))) (fun hHeld=>?_)
 clear hK K
 refine lst (by kernel_rfl) rfl fun K hK=>?_
 go_simp
 refine hK _ _ ?_
 clear hK K hHeld hbw hcc
 have hbw:Below w.heap.size w (w.alloc (.cells #[.int .u8 (108:Int),.int .i64 (i.fn:Int),.int .i64 i.x] 419)).drew:=((Below.refl _ _).alloc (Nat.le_refl _) _).drew
 have hcc:Blk (w.alloc (.cells #[.int .u8 (108:Int),.int .i64 (i.fn:Int),.int .i64 i.x] 419)).drew w.heap.size 419 #[.int .u8 (108:Int),.int .i64 (i.fn:Int),.int .i64 i.x]:=(Blk.newAt rfl).drew
 generalize hW:(w.alloc (.cells #[.int .u8 (108:Int),.int .i64 (i.fn:Int),.int .i64 i.x] 419)).drew=w1 at hbw hcc ⊢
 have HP:=zH (H.out.below hbw)
 have HRS:=zH (show ∀ W',Below w1.heap.size w1 W'→(fun(W':World)=>(W'.cell? ⟨C.cg,k*14,none⟩=some (.int .i64 i.op)∧W'.cell? ⟨C.cg,k*14+2,none⟩=some (.int .i64 i.fn)∧W'.cell? ⟨C.cg,k*14+3,none⟩=some (.int .i64 i.x)∧W'.cell? ⟨C.cg,k*14+4,none⟩=some (.bool i.y.c)∧W'.cell? ⟨C.cg,k*14+5,none⟩=some (.int .i64 i.y.n)∧W'.cell? ⟨C.cg,k*14+8,none⟩=some (.int .i64 i.bin)∧W'.cell? ⟨C.cg,k*14+9,none⟩=some (.int .i64 i.var)∧W'.cell? ⟨C.cg,k*14+10,none⟩=some (.int .i64 i.site)∧W'.cell? ⟨C.cg,k*14+11,none⟩=some (.int .i64 i.call))∧∀ j,W'.cell? ⟨w.heap.size,j,none⟩=#[.int .u8 (108:Int),.int .i64 (i.fn:Int),.int .i64 i.x][j]?) W' from fun W' hb=>⟨HRC.out W' (HP.out.on.trans (hb.mono HP.out.bs)),(hcc.below hb hcc.lt).cell⟩)
 have hrc:=HRC.out w1 HP.out.on
 have HCC:=zH hcc
 clear hW hbw hcc H HON
 by_cases h1:i.op=1
 ·have o1:((i.op:Int)==1)=true:=by rw[h1];rfl
  by_cases hb:i.bin=0
  ·have ob:((i.bin:Int)==0)=true:=by rw[hb];rfl
   have HE:=zH (show zak st i=zb8 st i.fn i.y (loc i.fn i.x) by unfold zak;rw[if_pos h1,if_pos hb])
   clear h1 hb
   go_wp2_with fail
   refine zah 10 (fun(W':World)=>(W'.cell? ⟨C.cg,k*14,none⟩=some (.int .i64 i.op)∧W'.cell? ⟨C.cg,k*14+2,none⟩=some (.int .i64 i.fn)∧W'.cell? ⟨C.cg,k*14+3,none⟩=some (.int .i64 i.x)∧W'.cell? ⟨C.cg,k*14+4,none⟩=some (.bool i.y.c)∧W'.cell? ⟨C.cg,k*14+5,none⟩=some (.int .i64 i.y.n)∧W'.cell? ⟨C.cg,k*14+8,none⟩=some (.int .i64 i.bin)∧W'.cell? ⟨C.cg,k*14+9,none⟩=some (.int .i64 i.var)∧W'.cell? ⟨C.cg,k*14+10,none⟩=some (.int .i64 i.site)∧W'.cell? ⟨C.cg,k*14+11,none⟩=some (.int .i64 i.call))∧∀ j,W'.cell? ⟨w.heap.size,j,none⟩=#[.int .u8 (108:Int),.int .i64 (i.fn:Int),.int .i64 i.x][j]?) (by kernel_rfl) rfl rfl (by kernel_rfl) ?_
   simp only[List.take_succ_cons,List.take_zero]
   have hHeld:=HRS.out w1.drew (Below.refl _ w1).drew
   clear hrc
   iterate 10(refine tk 0 rfl (by kernel_rfl) (fun _ _ _ h=>h) hHeld (fun w hSw=>by go_simp;try with_reducible rfl) (by simp only[pA,pB,pC,pD,pE,pF,pG,pH];exact rfl) ?_)
   refine lst (by kernel_rfl) rfl fun K hK=>?_
   go_simp
   refine(zjp wf.heap.size fb wf V st out i.fn i.y (loc i.fn i.x) w1.drew (HP.out.below (Below.refl _ _).drew) HDN.out kfn ky).mono ?_
   rintro e w5 ⟨rfl,hp5,_⟩
   have FIN:=zH (show zd7 fb wf V (zak st i) out (.returned (.tuple #[])) w5 from⟨rfl,by rw[HE.out];exact hp5⟩)
   refine hK _ _ ?_
   clear hK K hHeld hp5 HE
   go_wp2_with fail
   first | go_end0 | refine bodyPost_ret (results_none rfl _ _ _) rfl ?_
   exact FIN.out
  ·have ob:((i.bin:Int)==0)=false:=zai (by omega)
   have FIN:=zH (show zd7 fb wf V (zak st i) out (.returned (.tuple #[])) w1 from⟨rfl,by
    have e:zak st i=st:=by unfold zak;rw[if_pos h1,if_neg hb]
    rw[e];exact HP.out⟩)
   clear h1 hb
   go_wp2_with fail
   first | go_end0 | refine bodyPost_ret (results_none rfl _ _ _) rfl ?_
   exact FIN.out
 have o1:((i.op:Int)==1)=false:=zai (by omega)
 by_cases h2:i.op=2
 ·have o2:((i.op:Int)==2)=true:=by rw[h2];rfl
  have HE:=zH (show zak st i=zbd st ⟨118,i.var,0⟩ (loc i.fn i.x) by unfold zak;rw[if_neg h1,if_pos h2])
  clear h1 h2
  go_wp2_with fail
  refine zah 7 (fun(W':World)=>(W'.cell? ⟨C.cg,k*14,none⟩=some (.int .i64 i.op)∧W'.cell? ⟨C.cg,k*14+2,none⟩=some (.int .i64 i.fn)∧W'.cell? ⟨C.cg,k*14+3,none⟩=some (.int .i64 i.x)∧W'.cell? ⟨C.cg,k*14+4,none⟩=some (.bool i.y.c)∧W'.cell? ⟨C.cg,k*14+5,none⟩=some (.int .i64 i.y.n)∧W'.cell? ⟨C.cg,k*14+8,none⟩=some (.int .i64 i.bin)∧W'.cell? ⟨C.cg,k*14+9,none⟩=some (.int .i64 i.var)∧W'.cell? ⟨C.cg,k*14+10,none⟩=some (.int .i64 i.site)∧W'.cell? ⟨C.cg,k*14+11,none⟩=some (.int .i64 i.call))∧∀ j,W'.cell? ⟨w.heap.size,j,none⟩=#[.int .u8 (108:Int),.int .i64 (i.fn:Int),.int .i64 i.x][j]?) (by kernel_rfl) rfl rfl (by kernel_rfl) ?_
  simp only[List.take_succ_cons,List.take_zero]
  have hHeld:=HRS.out w1.drew (Below.refl _ w1).drew
  clear hrc
  iterate 7(refine tk 0 rfl (by kernel_rfl) (fun _ _ _ h=>h) hHeld (fun w hSw=>by go_simp;try with_reducible rfl) (by simp only[pA,pB,pC,pD,pE,pF,pG,pH];exact rfl) ?_)
  refine lst (by kernel_rfl) rfl fun K hK=>?_
  go_simp
  refine(zih wf.heap.size fb wf V st out ⟨118,i.var,0⟩ (loc i.fn i.x) w1.drew (HP.out.below (Below.refl _ _).drew) ⟨by show 118<256;omega,kvar,by show(-1000000:Int)<0;omega,by show(0:Int)<1000000;omega⟩ HDN.out).mono ?_
  rintro e w5 ⟨rfl,hp5,_⟩
  have FIN:=zH (show zd7 fb wf V (zak st i) out (.returned (.tuple #[])) w5 from⟨rfl,by rw[HE.out];exact hp5⟩)
  refine hK _ _ ?_
  clear hK K hHeld hp5 HE
  go_wp2_with fail
  first | go_end0 | refine bodyPost_ret (results_none rfl _ _ _) rfl ?_
  exact FIN.out
 have o2:((i.op:Int)==2)=false:=zai (by omega)
 by_cases h3:i.op=3
 ·have o3:((i.op:Int)==3)=true:=by rw[h3];rfl
  have HE:=zH (show zak st i=zb8 st i.fn i.y ⟨118,i.var,0⟩ by unfold zak;rw[if_neg h1,if_neg h2,if_pos h3])
  clear h1 h2 h3
  go_wp2_with fail
  refine zah 14 (fun(W':World)=>(W'.cell? ⟨C.cg,k*14,none⟩=some (.int .i64 i.op)∧W'.cell? ⟨C.cg,k*14+2,none⟩=some (.int .i64 i.fn)∧W'.cell? ⟨C.cg,k*14+3,none⟩=some (.int .i64 i.x)∧W'.cell? ⟨C.cg,k*14+4,none⟩=some (.bool i.y.c)∧W'.cell? ⟨C.cg,k*14+5,none⟩=some (.int .i64 i.y.n)∧W'.cell? ⟨C.cg,k*14+8,none⟩=some (.int .i64 i.bin)∧W'.cell? ⟨C.cg,k*14+9,none⟩=some (.int .i64 i.var)∧W'.cell? ⟨C.cg,k*14+10,none⟩=some (.int .i64 i.site)∧W'.cell? ⟨C.cg,k*14+11,none⟩=some (.int .i64 i.call))∧∀ j,W'.cell? ⟨w.heap.size,j,none⟩=#[.int .u8 (108:Int),.int .i64 (i.fn:Int),.int .i64 i.x][j]?) (by kernel_rfl) rfl rfl (by kernel_rfl) ?_
  simp only[List.take_succ_cons,List.take_zero]
  have hHeld:=HRS.out w1.drew (Below.refl _ w1).drew
  clear hrc
  iterate 14(refine tk 0 rfl (by kernel_rfl) (fun _ _ _ h=>h) hHeld (fun w hSw=>by go_simp;try with_reducible rfl) (by simp only[pA,pB,pC,pD,pE,pF,pG,pH];exact rfl) ?_)
  refine lst (by kernel_rfl) rfl fun K hK=>?_
  go_simp
  refine(zjp wf.heap.size fb wf V st out i.fn i.y ⟨118,i.var,0⟩ w1.drew (HP.out.below (Below.refl _ _).drew) ⟨by show 118<256;omega,kvar,by show(-1000000:Int)<0;omega,by show(0:Int)<1000000;omega⟩ kfn ky).mono ?_
  rintro e w5 ⟨rfl,hp5,_⟩
  have FIN:=zH (show zd7 fb wf V (zak st i) out (.returned (.tuple #[])) w5 from⟨rfl,by rw[HE.out];exact hp5⟩)
  refine hK _ _ ?_
  clear hK K hHeld hp5 HE
  go_wp2_with fail
  first | go_end0 | refine bodyPost_ret (results_none rfl _ _ _) rfl ?_
  exact FIN.out
 have o3:((i.op:Int)==3)=false:=zai (by omega)
 by_cases h6:i.op=6
 ·have o6:((i.op:Int)==6)=true:=by rw[h6];rfl
  have HE:=zH (show zak st i=zcj st (loc i.fn i.x) (2 ^ i.site) 0 by unfold zak;rw[if_neg h1,if_neg h2,if_neg h3,if_pos h6])
  clear h1 h2 h3 h6
  go_wp2_with fail
  refine zah 9 (fun(W':World)=>(W'.cell? ⟨C.cg,k*14,none⟩=some (.int .i64 i.op)∧W'.cell? ⟨C.cg,k*14+2,none⟩=some (.int .i64 i.fn)∧W'.cell? ⟨C.cg,k*14+3,none⟩=some (.int .i64 i.x)∧W'.cell? ⟨C.cg,k*14+4,none⟩=some (.bool i.y.c)∧W'.cell? ⟨C.cg,k*14+5,none⟩=some (.int .i64 i.y.n)∧W'.cell? ⟨C.cg,k*14+8,none⟩=some (.int .i64 i.bin)∧W'.cell? ⟨C.cg,k*14+9,none⟩=some (.int .i64 i.var)∧W'.cell? ⟨C.cg,k*14+10,none⟩=some (.int .i64 i.site)∧W'.cell? ⟨C.cg,k*14+11,none⟩=some (.int .i64 i.call))∧∀ j,W'.cell? ⟨w.heap.size,j,none⟩=#[.int .u8 (108:Int),.int .i64 (i.fn:Int),.int .i64 i.x][j]?) (by kernel_rfl) rfl rfl (by kernel_rfl) ?_
  simp only[List.take_succ_cons,List.take_zero]
  have hHeld:=HRS.out w1.drew (Below.refl _ w1).drew
  clear hrc
  iterate 6(refine tk 0 rfl (by kernel_rfl) (fun _ _ _ h=>h) hHeld (fun w hSw=>by go_simp;try with_reducible rfl) (by simp only[pA,pB,pC,pD,pE,pF,pG,pH];exact rfl) ?_)
  refine rdy 6 (by kernel_rfl) rfl fun K hK=>?_
  go_simp
  have hbe:Below w1.heap.size w1 (w1.alloc (.cells #[.int .i64 (i.site:Int)] 3)).drew:=((Below.refl _ _).alloc (Nat.le_refl _) _).drew
  have hsl:Blk (w1.alloc (.cells #[.int .i64 (i.site:Int)] 3)).drew w1.heap.size 3 #[.int .i64 (i.site:Int)]:=(Blk.newAt rfl).drew
  refine hK.out _ _ (HRS.out _ hbe) (fun hHeld=>?_)
  clear hK K
  refine rdy 7 (by kernel_rfl) rfl fun K hK=>?_
  go_simp
  refine(zg0 i.site w1.heap.size 1 _ (by omega) (hsl.cell 0)).mono ?_
  rintro e w4 ⟨rfl,hw4⟩
  subst hw4
  refine hK.out _ _ hHeld (fun hHeld=>?_)
  clear hK K
  refine tk 8 rfl (by kernel_rfl) (fun _ _ _ h=>h) hHeld (fun w hSw=>by go_simp;try with_reducible rfl) (by simp only[pA,pB,pC,pD,pE,pF,pG,pH];exact rfl) ?_
  refine lst (by kernel_rfl) rfl fun K hK=>?_
  go_simp
  refine(zob wf.heap.size fb wf V st out (loc i.fn i.x) (2 ^ i.site) 0 _ (HP.out.below hbe) HDN.out (Nat.pow_lt_pow_right (by omega) (by omega)) (by omega)).mono ?_
  clear hsl hbe
  rintro e w5 ⟨rfl,hp5,_⟩
  have FIN:=zH (show zd7 fb wf V (zak st i) out (.returned (.tuple #[])) w5 from⟨rfl,by rw[HE.out];exact hp5⟩)
  refine hK _ _ ?_
  clear hK K hHeld hp5 HE
  go_wp2_with fail
  first | go_end0 | refine bodyPost_ret (results_none rfl _ _ _) rfl ?_
  exact FIN.out
 have o6:((i.op:Int)==6)=false:=zai (by omega)
 by_cases h4:i.op=4
 ·have o4:((i.op:Int)==4)=true:=by rw[h4];rfl
  have HE:=zH (show zak st i=if i.y.c then st else useM st (loc i.fn i.y.n) ⟨i.var,loc i.fn i.x,false⟩ by unfold zak;rw[if_neg h1,if_neg h2,if_neg h3,if_neg h6,if_pos h4])
  clear h1 h2 h3 h6 h4
  go_wp2_with fail
  refine zah 11 (fun(W':World)=>(W'.cell? ⟨C.cg,k*14,none⟩=some (.int .i64 i.op)∧W'.cell? ⟨C.cg,k*14+2,none⟩=some (.int .i64 i.fn)∧W'.cell? ⟨C.cg,k*14+3,none⟩=some (.int .i64 i.x)∧W'.cell? ⟨C.cg,k*14+4,none⟩=some (.bool i.y.c)∧W'.cell? ⟨C.cg,k*14+5,none⟩=some (.int .i64 i.y.n)∧W'.cell? ⟨C.cg,k*14+8,none⟩=some (.int .i64 i.bin)∧W'.cell? ⟨C.cg,k*14+9,none⟩=some (.int .i64 i.var)∧W'.cell? ⟨C.cg,k*14+10,none⟩=some (.int .i64 i.site)∧W'.cell? ⟨C.cg,k*14+11,none⟩=some (.int .i64 i.call))∧∀ j,W'.cell? ⟨w.heap.size,j,none⟩=#[.int .u8 (108:Int),.int .i64 (i.fn:Int),.int .i64 i.x][j]?) (by kernel_rfl) rfl rfl (by kernel_rfl) ?_
  simp only[List.take_succ_cons,List.take_zero]
  have hHeld:=HRS.out w1.drew (Below.refl _ w1).drew
  clear hrc
  iterate 10(refine tk 0 rfl (by kernel_rfl) (fun _ _ _ h=>h) hHeld (fun w hSw=>by go_simp;try with_reducible rfl) (by simp only[pA,pB,pC,pD,pE,pF,pG,pH];exact rfl) ?_)
  refine rdy 10 (by kernel_rfl) rfl fun K hK=>?_
  go_simp
  have hbe:Below w1.heap.size w1 (w1.alloc (.cells #[.int .u8 (0:Int),.int .i64 (0:Int),.int .i64 (0:Int)] 419)).drew:=((Below.refl _ _).alloc (Nat.le_refl _) _).drew
  refine hK.out _ _ (HRS.out _ hbe) (fun hHeld=>?_)
  clear hK K
  refine lst (by kernel_rfl) rfl fun K hK=>?_
  go_simp
  refine hK _ _ ?_
  clear hK K hHeld hbe
  have hbe:Below w1.heap.size w1 (w1.alloc (.cells #[.int .u8 (108:Int),.int .i64 (i.fn:Int),.int .i64 (i.y.n:Int)] 419)).drew:=((Below.refl _ _).alloc (Nat.le_refl _) _).drew
  have hnn:Blk (w1.alloc (.cells #[.int .u8 (108:Int),.int .i64 (i.fn:Int),.int .i64 (i.y.n:Int)] 419)).drew w1.heap.size 419 #[.int .u8 (108:Int),.int .i64 (i.fn:Int),.int .i64 (i.y.n:Int)]:=(Blk.newAt rfl).drew
  have hrs:=HRS.out _ hbe
  generalize hW:(w1.alloc (.cells #[.int .u8 (108:Int),.int .i64 (i.fn:Int),.int .i64 (i.y.n:Int)] 419)).drew=w2 at hbe hnn hrs ⊢
  have HP2:=zH (HP.out.below (hbe.mono (Nat.le_refl _)))
  have HNN:=zH hnn
  have HCC2:=zH (HCC.out.below hbe HCC.out.lt)
  obtain⟨nb,hnb⟩:∃ nb,nb=w1.heap.size:=⟨_,rfl⟩
  rw[← hnb]at HNN ⊢
  clear hW hnn hnb
  have hrc:=hrs.1
  cases hyc:i.y.c
  ·rw[hyc]at hrc HE
   simp only[Bool.false_eq_true,if_false]at HE
   obtain⟨hon2,hbs2,mh,mt,mu,hm2⟩:=HP2.out
   have HM2:=zH hm2
   have HSB:=zH hm2.s
   have HRU:=zH (show ∀ W',Below wf.heap.size wf W'→Blk W' w.heap.size 419 #[.int .u8 (108:Int),.int .i64 (i.fn:Int),.int .i64 i.x]→Blk W' nb 419 #[.int .u8 (108:Int),.int .i64 (i.fn:Int),.int .i64 (i.y.n:Int)]→Blk W' V.sb 383 (zeh fb V out)→_ from fun W' h1 h2 h3 h4=>(⟨HRC.out W' h1,h2.cell,h3.cell,h4.cell⟩:(W'.cell? ⟨C.cg,k*14,none⟩=some (.int .i64 i.op)∧W'.cell? ⟨C.cg,k*14+2,none⟩=some (.int .i64 i.fn)∧W'.cell? ⟨C.cg,k*14+3,none⟩=some (.int .i64 i.x)∧W'.cell? ⟨C.cg,k*14+4,none⟩=some (.bool i.y.c)∧W'.cell? ⟨C.cg,k*14+5,none⟩=some (.int .i64 i.y.n)∧W'.cell? ⟨C.cg,k*14+8,none⟩=some (.int .i64 i.bin)∧W'.cell? ⟨C.cg,k*14+9,none⟩=some (.int .i64 i.var)∧W'.cell? ⟨C.cg,k*14+10,none⟩=some (.int .i64 i.site)∧W'.cell? ⟨C.cg,k*14+11,none⟩=some (.int .i64 i.call))∧(∀ j,W'.cell? ⟨w.heap.size,j,none⟩=#[.int .u8 (108:Int),.int .i64 (i.fn:Int),.int .i64 i.x][j]?)∧(∀ j,W'.cell? ⟨nb,j,none⟩=#[.int .u8 (108:Int),.int .i64 (i.fn:Int),.int .i64 (i.y.n:Int)][j]?)∧(∀ j,W'.cell? ⟨V.sb,j,none⟩=#[.pointer (some ⟨fb,0,none⟩),.map (some V.hb),.map (some V.tb),.map (some V.ub),zaa out][j]?)))
   clear hm2
   go_wp2_with fail
   have hus1:=hus (loc i.fn i.y.n)
   have HLEN:=zH hus1
   clear hus1 hrc hrs
   refine zah 16 (fun(W':World)=>(W'.cell? ⟨C.cg,k*14,none⟩=some (.int .i64 i.op)∧W'.cell? ⟨C.cg,k*14+2,none⟩=some (.int .i64 i.fn)∧W'.cell? ⟨C.cg,k*14+3,none⟩=some (.int .i64 i.x)∧W'.cell? ⟨C.cg,k*14+4,none⟩=some (.bool i.y.c)∧W'.cell? ⟨C.cg,k*14+5,none⟩=some (.int .i64 i.y.n)∧W'.cell? ⟨C.cg,k*14+8,none⟩=some (.int .i64 i.bin)∧W'.cell? ⟨C.cg,k*14+9,none⟩=some (.int .i64 i.var)∧W'.cell? ⟨C.cg,k*14+10,none⟩=some (.int .i64 i.site)∧W'.cell? ⟨C.cg,k*14+11,none⟩=some (.int .i64 i.call))∧(∀ j,W'.cell? ⟨w.heap.size,j,none⟩=#[.int .u8 (108:Int),.int .i64 (i.fn:Int),.int .i64 i.x][j]?)∧(∀ j,W'.cell? ⟨nb,j,none⟩=#[.int .u8 (108:Int),.int .i64 (i.fn:Int),.int .i64 (i.y.n:Int)][j]?)∧(∀ j,W'.cell? ⟨V.sb,j,none⟩=#[.pointer (some ⟨fb,0,none⟩),.map (some V.hb),.map (some V.tb),.map (some V.ub),zaa out][j]?)) (by kernel_rfl) rfl rfl (by kernel_rfl) ?_
   simp only[List.take_succ_cons,List.take_zero]
   have hHeld:=HRU.out w2.drew (HP2.out.on.drew) HCC2.out.drew HNN.out.drew HSB.out.drew
   iterate 11(refine tk 0 rfl (by kernel_rfl) (fun _ _ _ h=>h) hHeld (fun w hSw=>by go_simp;try with_reducible rfl) (by simp only[pA,pB,pC,pD,pE,pF,pG,pH];exact rfl) ?_)
   refine rdy 11 (by kernel_rfl) rfl fun K hK=>?_
   go_simp
   have hbe:Below w2.heap.size w2 (w2.alloc (.cells #[.int .i64 (i.var:Int),.int .u8 (108:Int),.int .i64 (i.fn:Int),.int .i64 i.x,.bool false] 427)).drew:=((Below.refl _ _).alloc (Nat.le_refl _) _).drew
   have hsl:Blk (w2.alloc (.cells #[.int .i64 (i.var:Int),.int .u8 (108:Int),.int .i64 (i.fn:Int),.int .i64 i.x,.bool false] 427)).drew w2.heap.size 427 #[.int .i64 (i.var:Int),.int .u8 (108:Int),.int .i64 (i.fn:Int),.int .i64 i.x,.bool false]:=(Blk.newAt rfl).drew
   generalize hW:(w2.alloc (.cells #[.int .i64 (i.var:Int),.int .u8 (108:Int),.int .i64 (i.fn:Int),.int .i64 i.x,.bool false] 427)).drew=wA at hbe hsl ⊢
   clear hW
   have HMA:=zH (HM2.out.kp (PtKp.below hbe (Nat.le_refl _)))
   have HOA:=zH (HP2.out.on.trans (hbe.mono HP2.out.bs))
   have HCA:=zH (HCC2.out.below hbe HCC2.out.lt)
   have HNA:=zH (HNN.out.below hbe HNN.out.lt)
   refine hK.out _ _ (HRU.out _ HOA.out HCA.out HNA.out HMA.out.s) (fun hHeld=>?_)
   clear hK K
   obtain⟨w4,v,sx,hrunE,hg4,hz4,hv,hst⟩:=HMA.out.u.entry (t:=380) (e:=425) ze5 Tryz.underlying380 (Tryz.zeroValue425 wA) (x:=(loc i.fn i.y.n)) HYN.out
   have hrunE':(Instr.mapEntry 380 (.map (some V.ub)) (.agg #[.int .u8 (108:Int),.int .i64 (i.fn:Int),.int .i64 (i.y.n:Int)])).run Tryz.prog wA=.ok (.tuple #[v,.int .i64 sx]) w4:=hrunE
   clear hrunE
   have hf4:∀ {g t cs},Blk wA g t cs→Blk w4 g t cs:=fun hb=>hb.grown hg4 (fun e=>HMA.out.u.cellFar hb (by injection e with e;exact e.symm))
   have HST:=zH hst
   have hrow4:w4.ownsRow wf.heap.size 427 5 v (st.us (loc i.fn i.y.n)).length ((st.us (loc i.fn i.y.n)).flatMap zd6):=zhf (HMA.out.row hv) fun k hk=>hg4.block k ((HMA.out.row hv).lt k hk).2 (fun e=>HMA.out.u.neRow (HMA.out.row hv) (by injection e with e;rw[hk,e]))
   have HRW:=zH hrow4
   have HO4:=zH (HOA.out.grown hg4 (Nat.le_trans HP2.out.bs hbe.size) (fun k e=>by cases e;exact HMA.out.bB.2.2.2))
   have hsl4:=hf4 hsl
   have HC4:=zH (hf4 HCA.out)
   have HN4:=zH (hf4 HNA.out)
   have HS4:=zH (hf4 HMA.out.s)
   clear hst hrow4 hf4
   refine rdy 12 (by kernel_rfl) rfl fun K hK=>?_
   go_simp
   refine hK.out _ _ (HRU.out _ HO4.out HC4.out HN4.out HS4.out) (fun hHeld=>?_)
   clear hK K hrunE'
   refine tk 13 rfl (by kernel_rfl) (fun _ _ _ h=>h) hHeld (fun w hSw=>by go_simp;try with_reducible rfl) (by simp only[pA,pB,pC,pD,pE,pF,pG,pH];exact rfl) ?_
   refine tk 15 rfl (by kernel_rfl) (fun _ _ _ h=>h) hHeld (fun w hSw=>by go_simp;try with_reducible rfl) (by simp only[pA,pB,pC,pD,pE,pF,pG,pH];exact rfl) ?_
   try simp only[List.getElem_toArray,List.getElem_cons_succ,List.getElem_cons_zero,List.set_cons_zero,List.set_cons_succ]
   refine rdy 14 (by kernel_rfl) rfl fun K hK=>?_
   refine zc5 tyUse rfl _ _ rfl wf.heap.size _ (st.us (loc i.fn i.y.n)).length ((st.us (loc i.fn i.y.n)).flatMap zd6) w2.heap.size _ _ HRW.out hsl4 rfl rfl rfl (by simp[Value.oneCell']) (by have:=HLEN.out;omega) (by have:=HO4.out.size;exact this) ?_
   intro g cap w5 hrow5 hg5 hat5
   have hv4:v.ownBlock≠some V.ub:=fun e=>HMA.out.u.neRow (HMA.out.row hv) e
   obtain⟨w6,hrun6,hm6,hg6,hz6⟩:=HST.out w5 (.slice (some ⟨g,0,none⟩) ((st.us (loc i.fn i.y.n)).length+1) cap) (hg5.block _ (by rw[hz4];exact HMA.out.u.lt) (fun e=>hv4 e.symm))
   have hf5:∀ {g t cs},Blk w4 g t cs→427≠t→Blk w5 g t cs:=fun hb ht=>hb.append HRW.out hg5 ht
   have HO5:=zH (HO4.out.grown hg5 (by have:=HO4.out.size;exact this) (fun k e=>(HRW.out.lt k e).1))
   have HFIN:=zH (show PtAt wf.heap.size fb wf V (useM st (loc i.fn i.y.n) (⟨i.var,loc i.fn i.x,false⟩:Use)) out w6 from⟨HO5.out.grown hg6 HO5.out.size (fun k e=>by cases e;exact HMA.out.bB.2.2.2),Nat.le_trans HO5.out.size hg6.size,_,_,_,HMA.out.addU hv hg4 hz4 hrow5 hg5 hat5 hm6 hg6⟩)
   have HS5:=zH (HRU.out _ HO5.out (hf5 HC4.out (by decide)) (hf5 HN4.out (by decide)) (hf5 HS4.out (by decide)))
   clear hrow5 hg5 hat5 hv4 hm6 hg6 hz6 hf5 HST hv hg4 hz4 hsl4 hsl hbe
   refine hK.out _ _ HS5.out (fun hHeld=>?_)
   clear hK K
   refine lst (by kernel_rfl) rfl fun K hK=>?_
   go_simp
   refine hK _ _ ?_
   clear hK K hHeld hrun6
   have FIN:=zH (show zd7 fb wf V (zak st i) out (.returned (.tuple #[])) w6 from⟨rfl,by rw[HE.out];exact HFIN.out⟩)
   clear HFIN
   go_wp2_with fail
   first | go_end0 | refine bodyPost_ret (results_none rfl _ _ _) rfl ?_
   exact FIN.out
  ·rw[hyc]at hrc HE
   simp only[if_true]at HE
   have FIN:=zH (show zd7 fb wf V (zak st i) out (.returned (.tuple #[])) w2 from⟨rfl,by rw[HE.out];exact HP2.out⟩)
   clear hrs
   go_wp2_with fail
   first | go_end0 | refine bodyPost_ret (results_none rfl _ _ _) rfl ?_
   exact FIN.out
 have o4:((i.op:Int)==4)=false:=zai (by omega)
 by_cases h5:i.op=5
 ·have o5:((i.op:Int)==5)=true:=by rw[h5];rfl
  have HE:=zH (show zak st i=if i.y.c then st else useM st (loc i.fn i.x) ⟨i.var,loc i.fn i.y.n,true⟩ by unfold zak;rw[if_neg h1,if_neg h2,if_neg h3,if_neg h6,if_neg h4,if_pos h5])
  clear h1 h2 h3 h6 h4 h5
  go_wp2_with fail
  refine zah 11 (fun(W':World)=>(W'.cell? ⟨C.cg,k*14,none⟩=some (.int .i64 i.op)∧W'.cell? ⟨C.cg,k*14+2,none⟩=some (.int .i64 i.fn)∧W'.cell? ⟨C.cg,k*14+3,none⟩=some (.int .i64 i.x)∧W'.cell? ⟨C.cg,k*14+4,none⟩=some (.bool i.y.c)∧W'.cell? ⟨C.cg,k*14+5,none⟩=some (.int .i64 i.y.n)∧W'.cell? ⟨C.cg,k*14+8,none⟩=some (.int .i64 i.bin)∧W'.cell? ⟨C.cg,k*14+9,none⟩=some (.int .i64 i.var)∧W'.cell? ⟨C.cg,k*14+10,none⟩=some (.int .i64 i.site)∧W'.cell? ⟨C.cg,k*14+11,none⟩=some (.int .i64 i.call))∧∀ j,W'.cell? ⟨w.heap.size,j,none⟩=#[.int .u8 (108:Int),.int .i64 (i.fn:Int),.int .i64 i.x][j]?) (by kernel_rfl) rfl rfl (by kernel_rfl) ?_
  simp only[List.take_succ_cons,List.take_zero]
  have hHeld:=HRS.out w1.drew (Below.refl _ w1).drew
  clear hrc
  iterate 10(refine tk 0 rfl (by kernel_rfl) (fun _ _ _ h=>h) hHeld (fun w hSw=>by go_simp;try with_reducible rfl) (by simp only[pA,pB,pC,pD,pE,pF,pG,pH];exact rfl) ?_)
  refine rdy 10 (by kernel_rfl) rfl fun K hK=>?_
  go_simp
  have hbe:Below w1.heap.size w1 (w1.alloc (.cells #[.int .u8 (0:Int),.int .i64 (0:Int),.int .i64 (0:Int)] 419)).drew:=((Below.refl _ _).alloc (Nat.le_refl _) _).drew
  refine hK.out _ _ (HRS.out _ hbe) (fun hHeld=>?_)
  clear hK K
  refine lst (by kernel_rfl) rfl fun K hK=>?_
  go_simp
  refine hK _ _ ?_
  clear hK K hHeld hbe
  have hbe:Below w1.heap.size w1 (w1.alloc (.cells #[.int .u8 (108:Int),.int .i64 (i.fn:Int),.int .i64 (i.y.n:Int)] 419)).drew:=((Below.refl _ _).alloc (Nat.le_refl _) _).drew
  have hnn:Blk (w1.alloc (.cells #[.int .u8 (108:Int),.int .i64 (i.fn:Int),.int .i64 (i.y.n:Int)] 419)).drew w1.heap.size 419 #[.int .u8 (108:Int),.int .i64 (i.fn:Int),.int .i64 (i.y.n:Int)]:=(Blk.newAt rfl).drew
  have hrs:=HRS.out _ hbe
  generalize hW:(w1.alloc (.cells #[.int .u8 (108:Int),.int .i64 (i.fn:Int),.int .i64 (i.y.n:Int)] 419)).drew=w2 at hbe hnn hrs ⊢
  have HP2:=zH (HP.out.below (hbe.mono (Nat.le_refl _)))
  have HNN:=zH hnn
  have HCC2:=zH (HCC.out.below hbe HCC.out.lt)
  obtain⟨nb,hnb⟩:∃ nb,nb=w1.heap.size:=⟨_,rfl⟩
  rw[← hnb]at HNN ⊢
  clear hW hnn hnb
  have hrc:=hrs.1
  cases hyc:i.y.c
  ·rw[hyc]at hrc HE
   simp only[Bool.false_eq_true,if_false]at HE
   obtain⟨hon2,hbs2,mh,mt,mu,hm2⟩:=HP2.out
   have HM2:=zH hm2
   have HSB:=zH hm2.s
   have HRU:=zH (show ∀ W',Below wf.heap.size wf W'→Blk W' w.heap.size 419 #[.int .u8 (108:Int),.int .i64 (i.fn:Int),.int .i64 i.x]→Blk W' nb 419 #[.int .u8 (108:Int),.int .i64 (i.fn:Int),.int .i64 (i.y.n:Int)]→Blk W' V.sb 383 (zeh fb V out)→_ from fun W' h1 h2 h3 h4=>(⟨HRC.out W' h1,h2.cell,h3.cell,h4.cell⟩:(W'.cell? ⟨C.cg,k*14,none⟩=some (.int .i64 i.op)∧W'.cell? ⟨C.cg,k*14+2,none⟩=some (.int .i64 i.fn)∧W'.cell? ⟨C.cg,k*14+3,none⟩=some (.int .i64 i.x)∧W'.cell? ⟨C.cg,k*14+4,none⟩=some (.bool i.y.c)∧W'.cell? ⟨C.cg,k*14+5,none⟩=some (.int .i64 i.y.n)∧W'.cell? ⟨C.cg,k*14+8,none⟩=some (.int .i64 i.bin)∧W'.cell? ⟨C.cg,k*14+9,none⟩=some (.int .i64 i.var)∧W'.cell? ⟨C.cg,k*14+10,none⟩=some (.int .i64 i.site)∧W'.cell? ⟨C.cg,k*14+11,none⟩=some (.int .i64 i.call))∧(∀ j,W'.cell? ⟨w.heap.size,j,none⟩=#[.int .u8 (108:Int),.int .i64 (i.fn:Int),.int .i64 i.x][j]?)∧(∀ j,W'.cell? ⟨nb,j,none⟩=#[.int .u8 (108:Int),.int .i64 (i.fn:Int),.int .i64 (i.y.n:Int)][j]?)∧(∀ j,W'.cell? ⟨V.sb,j,none⟩=#[.pointer (some ⟨fb,0,none⟩),.map (some V.hb),.map (some V.tb),.map (some V.ub),zaa out][j]?)))
   clear hm2
   go_wp2_with fail
   have hus1:=hus (loc i.fn i.x)
   have HLEN:=zH hus1
   clear hus1 hrc hrs
   refine zah 16 (fun(W':World)=>(W'.cell? ⟨C.cg,k*14,none⟩=some (.int .i64 i.op)∧W'.cell? ⟨C.cg,k*14+2,none⟩=some (.int .i64 i.fn)∧W'.cell? ⟨C.cg,k*14+3,none⟩=some (.int .i64 i.x)∧W'.cell? ⟨C.cg,k*14+4,none⟩=some (.bool i.y.c)∧W'.cell? ⟨C.cg,k*14+5,none⟩=some (.int .i64 i.y.n)∧W'.cell? ⟨C.cg,k*14+8,none⟩=some (.int .i64 i.bin)∧W'.cell? ⟨C.cg,k*14+9,none⟩=some (.int .i64 i.var)∧W'.cell? ⟨C.cg,k*14+10,none⟩=some (.int .i64 i.site)∧W'.cell? ⟨C.cg,k*14+11,none⟩=some (.int .i64 i.call))∧(∀ j,W'.cell? ⟨w.heap.size,j,none⟩=#[.int .u8 (108:Int),.int .i64 (i.fn:Int),.int .i64 i.x][j]?)∧(∀ j,W'.cell? ⟨nb,j,none⟩=#[.int .u8 (108:Int),.int .i64 (i.fn:Int),.int .i64 (i.y.n:Int)][j]?)∧(∀ j,W'.cell? ⟨V.sb,j,none⟩=#[.pointer (some ⟨fb,0,none⟩),.map (some V.hb),.map (some V.tb),.map (some V.ub),zaa out][j]?)) (by kernel_rfl) rfl rfl (by kernel_rfl) ?_
   simp only[List.take_succ_cons,List.take_zero]
   have hHeld:=HRU.out w2.drew (HP2.out.on.drew) HCC2.out.drew HNN.out.drew HSB.out.drew
   iterate 11(refine tk 0 rfl (by kernel_rfl) (fun _ _ _ h=>h) hHeld (fun w hSw=>by go_simp;try with_reducible rfl) (by simp only[pA,pB,pC,pD,pE,pF,pG,pH];exact rfl) ?_)
   refine rdy 11 (by kernel_rfl) rfl fun K hK=>?_
   go_simp
   have hbe:Below w2.heap.size w2 (w2.alloc (.cells #[.int .i64 (i.var:Int),.int .u8 (108:Int),.int .i64 (i.fn:Int),.int .i64 (i.y.n:Int),.bool true] 427)).drew:=((Below.refl _ _).alloc (Nat.le_refl _) _).drew
   have hsl:Blk (w2.alloc (.cells #[.int .i64 (i.var:Int),.int .u8 (108:Int),.int .i64 (i.fn:Int),.int .i64 (i.y.n:Int),.bool true] 427)).drew w2.heap.size 427 #[.int .i64 (i.var:Int),.int .u8 (108:Int),.int .i64 (i.fn:Int),.int .i64 (i.y.n:Int),.bool true]:=(Blk.newAt rfl).drew
   generalize hW:(w2.alloc (.cells #[.int .i64 (i.var:Int),.int .u8 (108:Int),.int .i64 (i.fn:Int),.int .i64 (i.y.n:Int),.bool true] 427)).drew=wA at hbe hsl ⊢
   clear hW
   have HMA:=zH (HM2.out.kp (PtKp.below hbe (Nat.le_refl _)))
   have HOA:=zH (HP2.out.on.trans (hbe.mono HP2.out.bs))
   have HCA:=zH (HCC2.out.below hbe HCC2.out.lt)
   have HNA:=zH (HNN.out.below hbe HNN.out.lt)
   refine hK.out _ _ (HRU.out _ HOA.out HCA.out HNA.out HMA.out.s) (fun hHeld=>?_)
   clear hK K
   obtain⟨w4,v,sx,hrunE,hg4,hz4,hv,hst⟩:=HMA.out.u.entry (t:=380) (e:=425) ze5 Tryz.underlying380 (Tryz.zeroValue425 wA) (x:=(loc i.fn i.x)) HDN.out
   have hrunE':(Instr.mapEntry 380 (.map (some V.ub)) (.agg #[.int .u8 (108:Int),.int .i64 (i.fn:Int),.int .i64 i.x])).run Tryz.prog wA=.ok (.tuple #[v,.int .i64 sx]) w4:=hrunE
   clear hrunE
   have hf4:∀ {g t cs},Blk wA g t cs→Blk w4 g t cs:=fun hb=>hb.grown hg4 (fun e=>HMA.out.u.cellFar hb (by injection e with e;exact e.symm))
   have HST:=zH hst
   have hrow4:w4.ownsRow wf.heap.size 427 5 v (st.us (loc i.fn i.x)).length ((st.us (loc i.fn i.x)).flatMap zd6):=zhf (HMA.out.row hv) fun k hk=>hg4.block k ((HMA.out.row hv).lt k hk).2 (fun e=>HMA.out.u.neRow (HMA.out.row hv) (by injection e with e;rw[hk,e]))
   have HRW:=zH hrow4
   have HO4:=zH (HOA.out.grown hg4 (Nat.le_trans HP2.out.bs hbe.size) (fun k e=>by cases e;exact HMA.out.bB.2.2.2))
   have hsl4:=hf4 hsl
   have HC4:=zH (hf4 HCA.out)
   have HN4:=zH (hf4 HNA.out)
   have HS4:=zH (hf4 HMA.out.s)
   clear hst hrow4 hf4
   refine rdy 12 (by kernel_rfl) rfl fun K hK=>?_
   go_simp
   refine hK.out _ _ (HRU.out _ HO4.out HC4.out HN4.out HS4.out) (fun hHeld=>?_)
   clear hK K hrunE'
   refine tk 13 rfl (by kernel_rfl) (fun _ _ _ h=>h) hHeld (fun w hSw=>by go_simp;try with_reducible rfl) (by simp only[pA,pB,pC,pD,pE,pF,pG,pH];exact rfl) ?_
   refine tk 15 rfl (by kernel_rfl) (fun _ _ _ h=>h) hHeld (fun w hSw=>by go_simp;try with_reducible rfl) (by simp only[pA,pB,pC,pD,pE,pF,pG,pH];exact rfl) ?_
   try simp only[List.getElem_toArray,List.getElem_cons_succ,List.getElem_cons_zero,List.set_cons_zero,List.set_cons_succ]
   refine rdy 14 (by kernel_rfl) rfl fun K hK=>?_
   refine zc5 tyUse rfl _ _ rfl wf.heap.size _ (st.us (loc i.fn i.x)).length ((st.us (loc i.fn i.x)).flatMap zd6) w2.heap.size _ _ HRW.out hsl4 rfl rfl rfl (by simp[Value.oneCell']) (by have:=HLEN.out;omega) (by have:=HO4.out.size;exact this) ?_
   intro g cap w5 hrow5 hg5 hat5
   have hv4:v.ownBlock≠some V.ub:=fun e=>HMA.out.u.neRow (HMA.out.row hv) e
   obtain⟨w6,hrun6,hm6,hg6,hz6⟩:=HST.out w5 (.slice (some ⟨g,0,none⟩) ((st.us (loc i.fn i.x)).length+1) cap) (hg5.block _ (by rw[hz4];exact HMA.out.u.lt) (fun e=>hv4 e.symm))
   have hf5:∀ {g t cs},Blk w4 g t cs→427≠t→Blk w5 g t cs:=fun hb ht=>hb.append HRW.out hg5 ht
   have HO5:=zH (HO4.out.grown hg5 (by have:=HO4.out.size;exact this) (fun k e=>(HRW.out.lt k e).1))
   have HFIN:=zH (show PtAt wf.heap.size fb wf V (useM st (loc i.fn i.x) (⟨i.var,loc i.fn i.y.n,true⟩:Use)) out w6 from⟨HO5.out.grown hg6 HO5.out.size (fun k e=>by cases e;exact HMA.out.bB.2.2.2),Nat.le_trans HO5.out.size hg6.size,_,_,_,HMA.out.addU hv hg4 hz4 hrow5 hg5 hat5 hm6 hg6⟩)
   have HS5:=zH (HRU.out _ HO5.out (hf5 HC4.out (by decide)) (hf5 HN4.out (by decide)) (hf5 HS4.out (by decide)))
   clear hrow5 hg5 hat5 hv4 hm6 hg6 hz6 hf5 HST hv hg4 hz4 hsl4 hsl hbe
   refine hK.out _ _ HS5.out (fun hHeld=>?_)
   clear hK K
   refine lst (by kernel_rfl) rfl fun K hK=>?_
   go_simp
   refine hK _ _ ?_
   clear hK K hHeld hrun6
   have FIN:=zH (show zd7 fb wf V (zak st i) out (.returned (.tuple #[])) w6 from⟨rfl,by rw[HE.out];exact HFIN.out⟩)
   clear HFIN
   go_wp2_with fail
   first | go_end0 | refine bodyPost_ret (results_none rfl _ _ _) rfl ?_
   exact FIN.out
  ·rw[hyc]at hrc HE
   simp only[if_true]at HE
   have FIN:=zH (show zd7 fb wf V (zak st i) out (.returned (.tuple #[])) w2 from⟨rfl,by rw[HE.out];exact HP2.out⟩)
   clear hrs
   go_wp2_with fail
   first | go_end0 | refine bodyPost_ret (results_none rfl _ _ _) rfl ?_
   exact FIN.out
 have o5:((i.op:Int)==5)=false:=zai (by omega)
 by_cases h12:i.op=12
 ·have o12:((i.op:Int)==12)=true:=by rw[h12];rfl
  have HE:=zH (show zak st i=zb8 st i.fn i.y ⟨114,i.fn,0⟩ by unfold zak;rw[if_neg h1,if_neg h2,if_neg h3,if_neg h6,if_neg h4,if_neg h5,if_pos h12])
  clear h1 h2 h3 h6 h4 h5 h12
  go_wp2_with fail
  refine zah 14 (fun(W':World)=>(W'.cell? ⟨C.cg,k*14,none⟩=some (.int .i64 i.op)∧W'.cell? ⟨C.cg,k*14+2,none⟩=some (.int .i64 i.fn)∧W'.cell? ⟨C.cg,k*14+3,none⟩=some (.int .i64 i.x)∧W'.cell? ⟨C.cg,k*14+4,none⟩=some (.bool i.y.c)∧W'.cell? ⟨C.cg,k*14+5,none⟩=some (.int .i64 i.y.n)∧W'.cell? ⟨C.cg,k*14+8,none⟩=some (.int .i64 i.bin)∧W'.cell? ⟨C.cg,k*14+9,none⟩=some (.int .i64 i.var)∧W'.cell? ⟨C.cg,k*14+10,none⟩=some (.int .i64 i.site)∧W'.cell? ⟨C.cg,k*14+11,none⟩=some (.int .i64 i.call))∧∀ j,W'.cell? ⟨w.heap.size,j,none⟩=#[.int .u8 (108:Int),.int .i64 (i.fn:Int),.int .i64 i.x][j]?) (by kernel_rfl) rfl rfl (by kernel_rfl) ?_
  simp only[List.take_succ_cons,List.take_zero]
  have hHeld:=HRS.out w1.drew (Below.refl _ w1).drew
  clear hrc
  iterate 14(refine tk 0 rfl (by kernel_rfl) (fun _ _ _ h=>h) hHeld (fun w hSw=>by go_simp;try with_reducible rfl) (by simp only[pA,pB,pC,pD,pE,pF,pG,pH];exact rfl) ?_)
  refine lst (by kernel_rfl) rfl fun K hK=>?_
  go_simp
  refine(zjp wf.heap.size fb wf V st out i.fn i.y ⟨114,i.fn,0⟩ w1.drew (HP.out.below (Below.refl _ _).drew) ⟨by show 114<256;omega,kfn,by show(-1000000:Int)<0;omega,by show(0:Int)<1000000;omega⟩ kfn ky).mono ?_
  rintro e w5 ⟨rfl,hp5,_⟩
  have FIN:=zH (show zd7 fb wf V (zak st i) out (.returned (.tuple #[])) w5 from⟨rfl,by rw[HE.out];exact hp5⟩)
  refine hK _ _ ?_
  clear hK K hHeld hp5 HE
  go_wp2_with fail
  first | go_end0 | refine bodyPost_ret (results_none rfl _ _ _) rfl ?_
  exact FIN.out
 have o12:((i.op:Int)==12)=false:=zai (by omega)
 by_cases h7:i.op=7∨i.op=11
 ·have HE:=zH (show zak st i=(if i.x<0 then zcp st i.fn i.call i.args 0 else if i.op=7 then zcj (zcp st i.fn i.call i.args 0) (loc i.fn i.x) 0 (2 ^ i.site)else zbd (zcp st i.fn i.call i.args 0) ⟨114,i.call,0⟩ (loc i.fn i.x)) by unfold zak;rw[if_neg h1,if_neg h2,if_neg h3,if_neg h6,if_neg h4,if_neg h5,if_neg h12,if_pos h7])
  clear h1 h2 h3 h6 h4 h5 h12
  have hia:=HIA.out w1 HP.out.on
  have ST:=zH (show zka wf V fb st out i w1 i.args.length (.int .i64 (0:Int)) w1 from⟨0,st,rfl,rfl,Nat.zero_le _,HP.out,by rw[List.drop_zero],EdFr.below (Below.refl _ _)⟩)
  rcases h7 with h7 | h7
  ·have o7:((i.op:Int)==7)=true:=by rw[h7];rfl
   rw[if_pos h7]at HE
   clear h7
   go_wp2_with fail
   clear hrc hia
   go_loopg [172] i.args.length (fun gk v172 wr=>zka wf V fb st out i w1 gk v172 wr)
   case atStart=>exact ST.out
   case round =>
    obtain⟨j,st',rfl,hg,hj,hP,hM,hF⟩:=hrel
    have HG:=zH hg
    have HPr:=zH hP
    have HMr:=zH hM
    have HFr:=zH hF
    clear hg hP hM hF
    by_cases hlt:j<i.args.length
    ·obtain⟨a,ha⟩:∃ a,i.args[j]? = some a:=⟨_,List.getElem?_eq_getElem hlt⟩
     obtain⟨ag,hae,hac⟩:=HAR.out j a ha
     subst hae
     have hcc:=hac wr HPr.out.on
     have hbw:Below wr.heap.size wr (wr.alloc (.cells #[.bool a.c,.int .i64 (a.n:Int)] 306)):=(Below.refl _ _).alloc (Nat.le_refl _) _
     have hba:Blk (wr.alloc (.cells #[.bool a.c,.int .i64 (a.n:Int)] 306)) wr.heap.size 306 #[.bool a.c,.int .i64 (a.n:Int)]:=Blk.newAt rfl
     have HA:=zH ha
     have kan:=kargs a (List.mem_of_getElem? ha)
     clear ha hac
     go_wp2_with fail
     generalize hW:(wr.alloc (.cells #[.bool a.c,.int .i64 (a.n:Int)] 306))=wa at hbw hba ⊢
     clear hW hcc
     have HPa:=zH (HPr.out.below hbw)
     have HBA:=zH hba
     have HFa:=zH (HFr.out.trans (EdFr.below hbw))
     refine zah 12 (fun(W':World)=>(W'.cell? ⟨C.cg,k*14,none⟩=some (.int .i64 i.op)∧W'.cell? ⟨C.cg,k*14+2,none⟩=some (.int .i64 i.fn)∧W'.cell? ⟨C.cg,k*14+3,none⟩=some (.int .i64 i.x)∧W'.cell? ⟨C.cg,k*14+4,none⟩=some (.bool i.y.c)∧W'.cell? ⟨C.cg,k*14+5,none⟩=some (.int .i64 i.y.n)∧W'.cell? ⟨C.cg,k*14+8,none⟩=some (.int .i64 i.bin)∧W'.cell? ⟨C.cg,k*14+9,none⟩=some (.int .i64 i.var)∧W'.cell? ⟨C.cg,k*14+10,none⟩=some (.int .i64 i.site)∧W'.cell? ⟨C.cg,k*14+11,none⟩=some (.int .i64 i.call))∧∀ j,W'.cell? ⟨wr.heap.size,j,none⟩=#[.bool a.c,.int .i64 (a.n:Int)][j]?) (by kernel_rfl) rfl rfl (by kernel_rfl) ?_
     simp only[List.take_succ_cons,List.take_zero]
     have hHeld:=(show(fun(W':World)=>(W'.cell? ⟨C.cg,k*14,none⟩=some (.int .i64 i.op)∧W'.cell? ⟨C.cg,k*14+2,none⟩=some (.int .i64 i.fn)∧W'.cell? ⟨C.cg,k*14+3,none⟩=some (.int .i64 i.x)∧W'.cell? ⟨C.cg,k*14+4,none⟩=some (.bool i.y.c)∧W'.cell? ⟨C.cg,k*14+5,none⟩=some (.int .i64 i.y.n)∧W'.cell? ⟨C.cg,k*14+8,none⟩=some (.int .i64 i.bin)∧W'.cell? ⟨C.cg,k*14+9,none⟩=some (.int .i64 i.var)∧W'.cell? ⟨C.cg,k*14+10,none⟩=some (.int .i64 i.site)∧W'.cell? ⟨C.cg,k*14+11,none⟩=some (.int .i64 i.call))∧∀ j,W'.cell? ⟨wr.heap.size,j,none⟩=#[.bool a.c,.int .i64 (a.n:Int)][j]?) wa.drew from⟨HRC.out _ HPa.out.on.drew,hba.drew.cell⟩)
     iterate 12(refine tk 0 rfl (by kernel_rfl) (fun _ _ _ h=>h) hHeld (fun w hSw=>by go_simp;try with_reducible rfl) (by simp only[pA,pB,pC,pD,pE,pF,pG,pH];exact rfl) ?_)
     refine lst (by kernel_rfl) rfl fun K hK=>?_
     go_simp
     refine(zjp wf.heap.size fb wf V st' out i.fn a (loc i.call j) wa.drew (HPa.out.below (Below.refl _ _).drew) ⟨by show 108<256;omega,kcall,by show -1000000<(j:Int);omega,by show(j:Int)<1000000;omega⟩ kfn kan).mono ?_
     rintro e w5 ⟨rfl,hp5,hf5⟩
     have REL:=zH (show zka wf V fb st out i w1 (i.args.length-(j+1)) (.int .i64 ((j+1:Nat):Int)) w5 from⟨j+1,_,rfl,rfl,hlt,hp5,by rw[← HMr.out,zcc HA.out,zcp],HFa.out.trans ((EdFr.below (Below.refl _ _).drew).trans hf5)⟩)
     refine hK _ _ ?_
     clear hK K hHeld hp5 hf5 hba hbw
     go_wp2_with fail
     go_roundg (i.args.length-(j+1))
     case measure=>have:=HG.out;omega
     case rel=>rw[show((j:Int)+1)=((j+1:Nat):Int) by omega];exact REL.out
    ·obtain rfl:j=i.args.length:=by omega
     have hMe:st'=zcp st i.fn i.call i.args 0:=by rw[← HMr.out,List.drop_length,zcp]
     rw[hMe]at HPr
     have hrc:=HRC.out wr HPr.out.on
     have HCCr:=zH (show Blk wr w.heap.size 419 #[.int .u8 (108:Int),.int .i64 (i.fn:Int),.int .i64 i.x]from HFr.out.same _ _ HCC.out (.inl fun _ _ e=>by cases e))
     clear hMe HMr
     by_cases hx:i.x<0
     ·have hxd:decide (i.x<0)=true:=decide_eq_true hx
      have FIN:=zH (show zd7 fb wf V (zak st i) out (.returned (.tuple #[])) wr from⟨rfl,by rw[HE.out,if_pos hx];exact HPr.out⟩)
      clear hx
      go_wp2_with fail
      first | go_end0 | refine bodyPost_ret (results_none rfl _ _ _) rfl ?_
      exact FIN.out
     have hxd:decide (i.x<0)=false:=decide_eq_false hx
     rw[if_neg hx]at HE
     clear hx
     ·have o7x:((i.op:Int)==7)=true:=o7
      go_wp2_with fail
      refine zah 9 (fun(W':World)=>(W'.cell? ⟨C.cg,k*14,none⟩=some (.int .i64 i.op)∧W'.cell? ⟨C.cg,k*14+2,none⟩=some (.int .i64 i.fn)∧W'.cell? ⟨C.cg,k*14+3,none⟩=some (.int .i64 i.x)∧W'.cell? ⟨C.cg,k*14+4,none⟩=some (.bool i.y.c)∧W'.cell? ⟨C.cg,k*14+5,none⟩=some (.int .i64 i.y.n)∧W'.cell? ⟨C.cg,k*14+8,none⟩=some (.int .i64 i.bin)∧W'.cell? ⟨C.cg,k*14+9,none⟩=some (.int .i64 i.var)∧W'.cell? ⟨C.cg,k*14+10,none⟩=some (.int .i64 i.site)∧W'.cell? ⟨C.cg,k*14+11,none⟩=some (.int .i64 i.call))∧∀ j,W'.cell? ⟨w.heap.size,j,none⟩=#[.int .u8 (108:Int),.int .i64 (i.fn:Int),.int .i64 i.x][j]?) (by kernel_rfl) rfl rfl (by kernel_rfl) ?_
      simp only[List.take_succ_cons,List.take_zero]
      have hHeld:=(show(fun(W':World)=>(W'.cell? ⟨C.cg,k*14,none⟩=some (.int .i64 i.op)∧W'.cell? ⟨C.cg,k*14+2,none⟩=some (.int .i64 i.fn)∧W'.cell? ⟨C.cg,k*14+3,none⟩=some (.int .i64 i.x)∧W'.cell? ⟨C.cg,k*14+4,none⟩=some (.bool i.y.c)∧W'.cell? ⟨C.cg,k*14+5,none⟩=some (.int .i64 i.y.n)∧W'.cell? ⟨C.cg,k*14+8,none⟩=some (.int .i64 i.bin)∧W'.cell? ⟨C.cg,k*14+9,none⟩=some (.int .i64 i.var)∧W'.cell? ⟨C.cg,k*14+10,none⟩=some (.int .i64 i.site)∧W'.cell? ⟨C.cg,k*14+11,none⟩=some (.int .i64 i.call))∧∀ j,W'.cell? ⟨w.heap.size,j,none⟩=#[.int .u8 (108:Int),.int .i64 (i.fn:Int),.int .i64 i.x][j]?) wr.drew from⟨HRC.out _ HPr.out.on.drew,HCCr.out.drew.cell⟩)
      clear hrc
      iterate 6(refine tk 0 rfl (by kernel_rfl) (fun _ _ _ h=>h) hHeld (fun w hSw=>by go_simp;try with_reducible rfl) (by simp only[pA,pB,pC,pD,pE,pF,pG,pH];exact rfl) ?_)
      refine rdy 6 (by kernel_rfl) rfl fun K hK=>?_
      go_simp
      have hbe:Below wr.heap.size wr (wr.alloc (.cells #[.int .i64 (i.site:Int)] 3)).drew:=((Below.refl _ _).alloc (Nat.le_refl _) _).drew
      have hsl:Blk (wr.alloc (.cells #[.int .i64 (i.site:Int)] 3)).drew wr.heap.size 3 #[.int .i64 (i.site:Int)]:=(Blk.newAt rfl).drew
      refine hK.out _ _ (show(fun(W':World)=>(W'.cell? ⟨C.cg,k*14,none⟩=some (.int .i64 i.op)∧W'.cell? ⟨C.cg,k*14+2,none⟩=some (.int .i64 i.fn)∧W'.cell? ⟨C.cg,k*14+3,none⟩=some (.int .i64 i.x)∧W'.cell? ⟨C.cg,k*14+4,none⟩=some (.bool i.y.c)∧W'.cell? ⟨C.cg,k*14+5,none⟩=some (.int .i64 i.y.n)∧W'.cell? ⟨C.cg,k*14+8,none⟩=some (.int .i64 i.bin)∧W'.cell? ⟨C.cg,k*14+9,none⟩=some (.int .i64 i.var)∧W'.cell? ⟨C.cg,k*14+10,none⟩=some (.int .i64 i.site)∧W'.cell? ⟨C.cg,k*14+11,none⟩=some (.int .i64 i.call))∧∀ j,W'.cell? ⟨w.heap.size,j,none⟩=#[.int .u8 (108:Int),.int .i64 (i.fn:Int),.int .i64 i.x][j]?) _ from⟨HRC.out _ (HPr.out.below hbe).on,(HCCr.out.below hbe HCCr.out.lt).cell⟩) (fun hHeld=>?_)
      clear hK K
      refine rdy 7 (by kernel_rfl) rfl fun K hK=>?_
      go_simp
      refine(zg0 i.site wr.heap.size 1 _ (by omega) (hsl.cell 0)).mono ?_
      rintro e w4 ⟨rfl,hw4⟩
      subst hw4
      refine hK.out _ _ hHeld (fun hHeld=>?_)
      clear hK K
      refine tk 8 rfl (by kernel_rfl) (fun _ _ _ h=>h) hHeld (fun w hSw=>by go_simp;try with_reducible rfl) (by simp only[pA,pB,pC,pD,pE,pF,pG,pH];exact rfl) ?_
      refine lst (by kernel_rfl) rfl fun K hK=>?_
      go_simp
      refine(zob wf.heap.size fb wf V _ out (loc i.fn i.x) 0 (2 ^ i.site) _ (HPr.out.below hbe) HDN.out (by omega) (Nat.pow_lt_pow_right (by omega) (by omega))).mono ?_
      clear hsl hbe
      rintro e w5 ⟨rfl,hp5,_⟩
      have FIN:=zH (show zd7 fb wf V (zak st i) out (.returned (.tuple #[])) w5 from⟨rfl,by rw[HE.out];exact hp5⟩)
      refine hK _ _ ?_
      clear hK K hHeld hp5 HE
      go_wp2_with fail
      first | go_end0 | refine bodyPost_ret (results_none rfl _ _ _) rfl ?_
      exact FIN.out
  ·have o7:((i.op:Int)==7)=false:=by rw[h7];rfl
   have o11:((i.op:Int)==11)=true:=by rw[h7];rfl
   rw[if_neg (show ¬ i.op=7 by omega)]at HE
   clear h7
   go_wp2_with fail
   clear hrc hia
   go_loopg [172] i.args.length (fun gk v172 wr=>zka wf V fb st out i w1 gk v172 wr)
   case atStart=>exact ST.out
   case round =>
    obtain⟨j,st',rfl,hg,hj,hP,hM,hF⟩:=hrel
    have HG:=zH hg
    have HPr:=zH hP
    have HMr:=zH hM
    have HFr:=zH hF
    clear hg hP hM hF
    by_cases hlt:j<i.args.length
    ·obtain⟨a,ha⟩:∃ a,i.args[j]? = some a:=⟨_,List.getElem?_eq_getElem hlt⟩
     obtain⟨ag,hae,hac⟩:=HAR.out j a ha
     subst hae
     have hcc:=hac wr HPr.out.on
     have hbw:Below wr.heap.size wr (wr.alloc (.cells #[.bool a.c,.int .i64 (a.n:Int)] 306)):=(Below.refl _ _).alloc (Nat.le_refl _) _
     have hba:Blk (wr.alloc (.cells #[.bool a.c,.int .i64 (a.n:Int)] 306)) wr.heap.size 306 #[.bool a.c,.int .i64 (a.n:Int)]:=Blk.newAt rfl
     have HA:=zH ha
     have kan:=kargs a (List.mem_of_getElem? ha)
     clear ha hac
     go_wp2_with fail
     generalize hW:(wr.alloc (.cells #[.bool a.c,.int .i64 (a.n:Int)] 306))=wa at hbw hba ⊢
     clear hW hcc
     have HPa:=zH (HPr.out.below hbw)
     have HBA:=zH hba
     have HFa:=zH (HFr.out.trans (EdFr.below hbw))
     refine zah 12 (fun(W':World)=>(W'.cell? ⟨C.cg,k*14,none⟩=some (.int .i64 i.op)∧W'.cell? ⟨C.cg,k*14+2,none⟩=some (.int .i64 i.fn)∧W'.cell? ⟨C.cg,k*14+3,none⟩=some (.int .i64 i.x)∧W'.cell? ⟨C.cg,k*14+4,none⟩=some (.bool i.y.c)∧W'.cell? ⟨C.cg,k*14+5,none⟩=some (.int .i64 i.y.n)∧W'.cell? ⟨C.cg,k*14+8,none⟩=some (.int .i64 i.bin)∧W'.cell? ⟨C.cg,k*14+9,none⟩=some (.int .i64 i.var)∧W'.cell? ⟨C.cg,k*14+10,none⟩=some (.int .i64 i.site)∧W'.cell? ⟨C.cg,k*14+11,none⟩=some (.int .i64 i.call))∧∀ j,W'.cell? ⟨wr.heap.size,j,none⟩=#[.bool a.c,.int .i64 (a.n:Int)][j]?) (by kernel_rfl) rfl rfl (by kernel_rfl) ?_
     simp only[List.take_succ_cons,List.take_zero]
     have hHeld:=(show(fun(W':World)=>(W'.cell? ⟨C.cg,k*14,none⟩=some (.int .i64 i.op)∧W'.cell? ⟨C.cg,k*14+2,none⟩=some (.int .i64 i.fn)∧W'.cell? ⟨C.cg,k*14+3,none⟩=some (.int .i64 i.x)∧W'.cell? ⟨C.cg,k*14+4,none⟩=some (.bool i.y.c)∧W'.cell? ⟨C.cg,k*14+5,none⟩=some (.int .i64 i.y.n)∧W'.cell? ⟨C.cg,k*14+8,none⟩=some (.int .i64 i.bin)∧W'.cell? ⟨C.cg,k*14+9,none⟩=some (.int .i64 i.var)∧W'.cell? ⟨C.cg,k*14+10,none⟩=some (.int .i64 i.site)∧W'.cell? ⟨C.cg,k*14+11,none⟩=some (.int .i64 i.call))∧∀ j,W'.cell? ⟨wr.heap.size,j,none⟩=#[.bool a.c,.int .i64 (a.n:Int)][j]?) wa.drew from⟨HRC.out _ HPa.out.on.drew,hba.drew.cell⟩)
     iterate 12(refine tk 0 rfl (by kernel_rfl) (fun _ _ _ h=>h) hHeld (fun w hSw=>by go_simp;try with_reducible rfl) (by simp only[pA,pB,pC,pD,pE,pF,pG,pH];exact rfl) ?_)
     refine lst (by kernel_rfl) rfl fun K hK=>?_
     go_simp
     refine(zjp wf.heap.size fb wf V st' out i.fn a (loc i.call j) wa.drew (HPa.out.below (Below.refl _ _).drew) ⟨by show 108<256;omega,kcall,by show -1000000<(j:Int);omega,by show(j:Int)<1000000;omega⟩ kfn kan).mono ?_
     rintro e w5 ⟨rfl,hp5,hf5⟩
     have REL:=zH (show zka wf V fb st out i w1 (i.args.length-(j+1)) (.int .i64 ((j+1:Nat):Int)) w5 from⟨j+1,_,rfl,rfl,hlt,hp5,by rw[← HMr.out,zcc HA.out,zcp],HFa.out.trans ((EdFr.below (Below.refl _ _).drew).trans hf5)⟩)
     refine hK _ _ ?_
     clear hK K hHeld hp5 hf5 hba hbw
     go_wp2_with fail
     go_roundg (i.args.length-(j+1))
     case measure=>have:=HG.out;omega
     case rel=>rw[show((j:Int)+1)=((j+1:Nat):Int) by omega];exact REL.out
    ·obtain rfl:j=i.args.length:=by omega
     have hMe:st'=zcp st i.fn i.call i.args 0:=by rw[← HMr.out,List.drop_length,zcp]
     rw[hMe]at HPr
     have hrc:=HRC.out wr HPr.out.on
     have HCCr:=zH (show Blk wr w.heap.size 419 #[.int .u8 (108:Int),.int .i64 (i.fn:Int),.int .i64 i.x]from HFr.out.same _ _ HCC.out (.inl fun _ _ e=>by cases e))
     clear hMe HMr
     by_cases hx:i.x<0
     ·have hxd:decide (i.x<0)=true:=decide_eq_true hx
      have FIN:=zH (show zd7 fb wf V (zak st i) out (.returned (.tuple #[])) wr from⟨rfl,by rw[HE.out,if_pos hx];exact HPr.out⟩)
      clear hx
      go_wp2_with fail
      first | go_end0 | refine bodyPost_ret (results_none rfl _ _ _) rfl ?_
      exact FIN.out
     have hxd:decide (i.x<0)=false:=decide_eq_false hx
     rw[if_neg hx]at HE
     clear hx
     ·go_wp2_with fail
      refine zah 7 (fun(W':World)=>(W'.cell? ⟨C.cg,k*14,none⟩=some (.int .i64 i.op)∧W'.cell? ⟨C.cg,k*14+2,none⟩=some (.int .i64 i.fn)∧W'.cell? ⟨C.cg,k*14+3,none⟩=some (.int .i64 i.x)∧W'.cell? ⟨C.cg,k*14+4,none⟩=some (.bool i.y.c)∧W'.cell? ⟨C.cg,k*14+5,none⟩=some (.int .i64 i.y.n)∧W'.cell? ⟨C.cg,k*14+8,none⟩=some (.int .i64 i.bin)∧W'.cell? ⟨C.cg,k*14+9,none⟩=some (.int .i64 i.var)∧W'.cell? ⟨C.cg,k*14+10,none⟩=some (.int .i64 i.site)∧W'.cell? ⟨C.cg,k*14+11,none⟩=some (.int .i64 i.call))∧∀ j,W'.cell? ⟨w.heap.size,j,none⟩=#[.int .u8 (108:Int),.int .i64 (i.fn:Int),.int .i64 i.x][j]?) (by kernel_rfl) rfl rfl (by kernel_rfl) ?_
      simp only[List.take_succ_cons,List.take_zero]
      have hHeld:=(show(fun(W':World)=>(W'.cell? ⟨C.cg,k*14,none⟩=some (.int .i64 i.op)∧W'.cell? ⟨C.cg,k*14+2,none⟩=some (.int .i64 i.fn)∧W'.cell? ⟨C.cg,k*14+3,none⟩=some (.int .i64 i.x)∧W'.cell? ⟨C.cg,k*14+4,none⟩=some (.bool i.y.c)∧W'.cell? ⟨C.cg,k*14+5,none⟩=some (.int .i64 i.y.n)∧W'.cell? ⟨C.cg,k*14+8,none⟩=some (.int .i64 i.bin)∧W'.cell? ⟨C.cg,k*14+9,none⟩=some (.int .i64 i.var)∧W'.cell? ⟨C.cg,k*14+10,none⟩=some (.int .i64 i.site)∧W'.cell? ⟨C.cg,k*14+11,none⟩=some (.int .i64 i.call))∧∀ j,W'.cell? ⟨w.heap.size,j,none⟩=#[.int .u8 (108:Int),.int .i64 (i.fn:Int),.int .i64 i.x][j]?) wr.drew from⟨HRC.out _ HPr.out.on.drew,HCCr.out.drew.cell⟩)
      clear hrc
      iterate 7(refine tk 0 rfl (by kernel_rfl) (fun _ _ _ h=>h) hHeld (fun w hSw=>by go_simp;try with_reducible rfl) (by simp only[pA,pB,pC,pD,pE,pF,pG,pH];exact rfl) ?_)
      refine lst (by kernel_rfl) rfl fun K hK=>?_
      go_simp
      refine(zih wf.heap.size fb wf V _ out ⟨114,i.call,0⟩ (loc i.fn i.x) wr.drew (HPr.out.below (Below.refl _ _).drew) ⟨by show 114<256;omega,kcall,by show(-1000000:Int)<0;omega,by show(0:Int)<1000000;omega⟩ HDN.out).mono ?_
      rintro e w5 ⟨rfl,hp5,_⟩
      have FIN:=zH (show zd7 fb wf V (zak st i) out (.returned (.tuple #[])) w5 from⟨rfl,by rw[HE.out];exact hp5⟩)
      refine hK _ _ ?_
      clear hK K hHeld hp5 HE
      go_wp2_with fail
      first | go_end0 | refine bodyPost_ret (results_none rfl _ _ _) rfl ?_
      exact FIN.out
 ·have o7:((i.op:Int)==7)=false:=zai (by omega)
  have o11:((i.op:Int)==11)=false:=zai (by omega)
  have FIN:=zH (show zd7 fb wf V (zak st i) out (.returned (.tuple #[])) w1 from⟨rfl,by
   have e:zak st i=st:=by unfold zak;rw[if_neg h1,if_neg h2,if_neg h3,if_neg h6,if_neg h4,if_neg h5,if_neg h12,if_neg h7]
   rw[e];exact HP.out⟩)
  clear h1 h2 h3 h6 h4 h5 h12 h7
  go_wp2_with fail
  first | go_end0 | refine bodyPost_ret (results_none rfl _ _ _) rfl ?_
  exact FIN.out
end
end Go.Proofs.YtkmcihhndgdhpaaGreat
