/- Parts of the walk. -/
import Derived.Test.YtkmcihhndgdhpaaGreatWA7
set_option maxRecDepth 100000
set_option maxHeartbeats 4000000
set_option linter.unusedSimpArgs false
set_option linter.unusedVariables false
open Go.ChangeMaps Go.Maps Go.RowKit Go.Proofs.Tryz
namespace Go.Proofs.YtkmcihhndgdhpaaGreat
theorem mIa {p:Prop}(h:p:=by
  have HFR5:=zH (HFR.o.trans (EdFr.below hb5));have HON5:=zH (HONW.o.trans (hb5.mono (ya hbs HFR.o.size)));have HBA5:=zH (HBA.o.below hb5 HBA.o.lt);have HBC5:=zH (HBC.o.below hb5 HBC.o.lt);clear he5 hb5;cases hto:st.to a c
  ·have FIN:=zH (show zfr B fb wf V st out a c w (.r (.bool true)) w5->zfr B fb wf V st out a c w (.r (.bool true)) w5 from id);have HTO:=zH hto;clear hto FIN;go_wp2_with fail;obtain⟨w6,hrun,hm6,hg6,hz6⟩:=(((HM5.o.kp (PtKp.drew _)).ti a b HMEM.o).1).put HC.o;have FIN:=zH (show zfr B fb wf V st out a c w (.r (.bool true)) w6 from by
    obtain⟨i1,i2,i3,i4,i5⟩:=HM5.o.ti a b HMEM.o;exact⟨by rw[HTO.o];rfl,⟨HON5.o.drew.grown hg6 (ya hbs HFR5.o.size) (fun k e=>by cases e;exact i2),ya hbs (ya HFR5.o.size hg6.size),_,_,_,(HM5.o.kp (PtKp.drew _)).setT HMEM.o hm6 hg6⟩,HFR5.o.trans ((EdFr.below (yn _ w5).drew).trans (EdFr.grown hg6 i5 i3 i1.obj))⟩)
   clear hm6 hg6 hz6;refine rgl 7 (fun W'=>(∀ i,W'.cell? (.a V.sb i)=#[.p fb,.m V.hb,.m V.tb,.m V.ub,zA out][i]?)/\(∀ i,W'.cell? (.a w.heap.size i)=#[.u a.k,.i a.a,.i a.b][i]?)/\(∀ i,W'.cell? (.a (w.heap.size+1) i)=#[.u c.k,.i c.a,.i c.b][i]?)/\(Instr.lookup 379 (.m V.tb) (.agg #[.u a.k,.i a.a,.i a.b]) false).run prog W'=.ok (.m b) W') ?_;have hHeld:=HEDS.o w5.drew (HM5.o.kp (PtKp.drew _)) HBA5.o.drew HBC5.o.drew
   iterate 7(refine tK 0 rfl hHeld ?_)
   refine lst rfl fun K hK=>?_;go_simp;refine hK _ _ ?_;clear hK K hHeld hrun;go_wp2;go_ret;exact FIN.o
  ·have FIN:=zH (show zfr B fb wf V st out a c w (.r (.bool false)) w5 from
    ⟨by rw[hto];rfl,⟨HON5.o,ya hbs HFR5.o.size,by rw[zm8 hto];exact⟨_,_,_,HM5.o⟩⟩,HFR5.o⟩)
   clear hto;go_wp2;go_ret;exact FIN.o):p:=h
section
section
variable {w w':World} {b:Nat} {S:Nd->Bool}
theorem NkE.alloc (h:NkE w b S)(o:Obj):NkE (w.alloc o) b S:=h.qa (yak w o b h.lt)
theorem NkE.look (h:NkE w b S){n:Nd}(hn:NdOk n):(Instr.lookup 429 (.m b) (ndV n) false).run prog w=.ok (.i (if S n then 1 else 0)) w:=by
 obtain⟨m,h1,h2,h3⟩:=h;have:=h1.lookup (t:=429) (e:=3) zdx underlying429 (z:=.i 0) (zeroValue3 w) hn false;rw[this];have h4:=h3 n;cases hg:mget m n with
 | none=>rw[hg]at h4;rw[<- h4];rfl
 | some u=>rw[hg]at h4;have h5:=h2 _ (zdd hg);simp only at h5;rw[<- h4,h5];rfl
end
theorem zsf (w:World)(b:Nat)(S:Nd->Bool)(n:Nd)(h:NkE w b S)(hn:NdOk n) :
  Calls prog 309 #[.m b,ndV n] w fun e w'=>e=.r (.bool (S n))/\w'=w.alloc (.k #[.u n.k,.i n.a,.i n.b] 419):=by
 have hl:=(h.alloc (.k #[.u n.k,.i n.a,.i n.b] 419)).look hn;clear h;cases hS:S n
 all_goals
  rw[hS]at hl;clear hS;simp only[yI,if_true,if_false]at hl;go_enter func309,ntmps309;go_wp2;go_ret;exact⟨rfl,rfl⟩
structure PtAt (B fb:Nat)(wf:World)(V:PtV)(st:PS)(out:Nat)(w:World):Prop where
 on:Below B wf w
 bs:B<=w.heap.size
 m:∃ mh mt mu,PtM w B fb V st out mh mt mu
theorem zxp {w w1 w2:World}{row:Option Nat}(h:Below w.heap.size w w1)(h':w1.grownBy w2 row):w.grownBy w2 row :=
 ⟨h'.os.trans h.os,h'.tape.trans h.tape,h'.output.trans h.output,ya h.size h'.size,fun k A D=>(h'.block k (yi A h.size) D).trans (h.block k A)⟩
def zku (B fb:Nat)(wf:World)(V:PtV)(st:PS)(out:Nat)(n:Nd)(o t:Nat)(w:World)(e:Ending)(w':World):Prop :=
 e=.r (.bool (zb3 st n o t))/\PtAt B fb wf V (zar st n o t) out w'/\w.grownBy w' (some V.hb)
theorem znl (B fb:Nat)(wf:World)(V:PtV)(st:PS)(out:Nat)(n:Nd)(o t:Nat)(w:World)(h:PtAt B fb wf V st out w)(hn:NdOk n)(ho:o<2 ^ 48)(ht:t<2 ^ 48) :
  Calls prog 280 #[.p V.sb,.agg #[.u n.k,.i n.a,.i n.b],.agg #[zA o,zA t]] w (zku B fb wf V st out n o t w):=by
 obtain⟨ao,ac,mh,mt,mu,hm⟩:=h;have ap:=hm.s.cell;unfold zdf at ap;have au:=hm.s.lt;have HM:=zH hm;have aq:=zH ao;have HN:=zH hn;clear hm ao hn;go_enter func280,ntmps280;go_wp2_with fail;have L:Blk ((w.alloc (.k #[.u n.k,.i n.a,.i n.b] 419)).alloc (.k #[zA o,zA t] 424)) w.heap.size 419 #[.u n.k,.i n.a,.i n.b]:=(Blk.newAt rfl).alloc _;have Q:Blk ((w.alloc (.k #[.u n.k,.i n.a,.i n.b] 419)).alloc (.k #[zA o,zA t] 424)) (w.heap.size+1) 424 #[zA o,zA t]:=Blk.newAt yy;have O:Below w.heap.size w ((w.alloc (.k #[.u n.k,.i n.a,.i n.b] 419)).alloc (.k #[zA o,zA t] 424)):=(yB.alloc yL _).alloc yy _;generalize hW:((w.alloc (.k #[.u n.k,.i n.a,.i n.b] 419)).alloc (.k #[zA o,zA t] 424))=w1 at L Q O |-;clear hW ap au;have a5:∀ E,Below w1.heap.size w1 E->PtM E B fb V st out mh mt mu:=fun E hb=>HM.o.kp ((PtKp.below O yL).trans (PtKp.below hb yL));have HS:=zH (show ∀ E,Below w1.heap.size w1 E->(∀ i,E.cell? (.a V.sb i)=#[.p fb,.m V.hb,.m V.tb,.m V.ub,zA out][i]?)/\(∀ i,E.cell? (.a w.heap.size i)=#[.u n.k,.i n.a,.i n.b][i]?) /\
   (Instr.lookup 378 (.m V.hb) (.agg #[.u n.k,.i n.a,.i n.b]) false).run prog E=.ok (.agg #[zA (st.ho n),zA (st.ht n)]) E from fun E hb=>by
  refine⟨(a5 E hb).s.cell,(L.below hb L.lt).cell,?_⟩;have hl:=(a5 E hb).h.lookup (t:=378) (e:=424) zdx underlying378 (z:=.agg #[zA 0,zA 0]) (zeroValue424 E) HN.o false;have hv:=HM.o.hv n;rw[hl];cases hg:mget mh n with
  | none=>rw[hg]at hv;simp only[Option.getD_none,Prod.mk.injEq]at hv;rw[<- hv.1,<- hv.2];rfl
  | some p=>rw[hg]at hv;simp only[ybb]at hv;rw[hv];rfl)
 refine zfp 7 (fun E=>(∀ i,E.cell? (.a V.sb i)=#[.p fb,.m V.hb,.m V.tb,.m V.ub,zA out][i]?)/\(∀ i,E.cell? (.a w.heap.size i)=#[.u n.k,.i n.a,.i n.b][i]?) /\
   (Instr.lookup 378 (.m V.hb) (.agg #[.u n.k,.i n.a,.i n.b]) false).run prog E=.ok (.agg #[zA (st.ho n),zA (st.ht n)]) E) yk rfl rfl yk ?_
 simp only[yM,yY];have D:=HS.o _ (yn _ w1).drew
 iterate 6(refine tK 0 rfl D ?_)
 refine rdy 6 rfl fun K hK=>?_;go_simp;have a8:Below w1.heap.size w1 (w1.alloc (.k #[zA 0,zA 0] 424)).drew:=(yB.alloc yL _).drew;have a4:Blk (w1.alloc (.k #[zA 0,zA 0] 424)).drew w1.heap.size 424 #[zA 0,zA 0]:=(Blk.newAt rfl).drew;refine hK.o _ _ (HS.o _ a8) (fun D=>?_);clear hK K;have aj:=a4.cell;have ak:=a4.frozen;have am:=a4.lt;refine lst rfl fun K hK=>?_;go_simp;refine hK _ _ ?_;clear hK K D;have I:Blk (w1.alloc (.k #[zA (st.ho n),zA (st.ht n)] 424)).drew w1.heap.size 424 #[zA (st.ho n),zA (st.ht n)]:=(Blk.newAt rfl).drew;have A:Below w1.heap.size w1 (w1.alloc (.k #[zA (st.ho n),zA (st.ht n)] 424)).drew:=(yB.alloc yL _).drew;generalize hW:(w1.alloc (.k #[zA (st.ho n),zA (st.ht n)] 424)).drew=w2 at I A |-;obtain⟨kb,ae⟩:∃ kb,kb=w1.heap.size:=⟨_,rfl⟩;rw[<- ae]at I |-;have N:=zH (show w.heap.size+1<kb by rw[ae];exact Q.lt);have a7:=zH (O.trans (A.mono O.size));have a9:=L.below A L.lt;have R:=Q.below A Q.lt;have aa:∀ E,PtKp w2 E->PtM E B fb V st out mh mt mu:=fun E hk=>(a5 _ A).kp hk;have ai:=zH aa;have ah:=HM.o.sm n;clear hW ae aj ak am a4 a8 a5 aa A O HS L Q;have a0:=I.cell;have a1:=I.frozen;have af:=I.lt;have ad:=R.cell;go_wp2_with fail;refine(zg0 (st.ho n) o ⟨kb,0,none⟩ w2 ah.1 ho (a0 0) (a1 0)).mono ?_;rintro e w3 ⟨rfl,rfl⟩;have G:=(I.qe 0 (zA (st.ho n|||o))).cast (show _=#[zA (st.ho n|||o),zA (st.ht n)] by simp);have S:=R.qi (p:=(.a kb 0)) (ybr N.o) (zA (st.ho n|||o));have W:=a9.qi (p:=(.a kb 0)) (ybr (show w.heap.size<kb from ycw N.o)) (zA (st.ho n|||o));have a2:=PtKp.set I yd yd 0 (zA (st.ho n|||o));have A:=a7.o.setCell (p:=(.a kb 0)) (yaw (ycw N.o)) (zA (st.ho n|||o));generalize hW:w2.setCell (.a kb 0) (zA (st.ho n|||o))=w3 at G S W a2 A |-;clear hW a0 a1 af ad I R a9 a7;have a0:=G.cell;have a1:=G.frozen;have af:=G.lt;have ad:=S.cell;go_wp2_with fail;refine(zg0 (st.ht n) t ⟨kb,1,none⟩ w3 ah.2 ht (a0 1) (a1 1)).mono ?_;rintro e w4 ⟨rfl,rfl⟩;have U:=(G.qe 1 (zA (st.ht n|||t))).cast (show _=#[zA (st.ho n|||o),zA (st.ht n|||t)] by simp);have Y:=W.qi (p:=(.a kb 1)) (ybr (show w.heap.size<kb from ycw N.o)) (zA (st.ht n|||t));have a3:=a2.trans (PtKp.set G yd yd 1 (zA (st.ht n|||t)));have H:=A.setCell (p:=(.a kb 1)) (yaw (ycw N.o)) (zA (st.ht n|||t));generalize hW:w3.setCell (.a kb 1) (zA (st.ht n|||t))=w4 at U Y a3 H |-;clear hW a0 a1 af ad G S W A a2;have a6:=ai.o w4 a3;clear ai a3;obtain⟨w5,ab,an,Z,aw⟩:=(a6.kp (PtKp.drew w4)).h.update (t:=378) (e:=424) zdx underlying378 HN.o (st.ho n|||o,st.ht n|||t);have ag:(Instr.mapUpdate 378 (.m V.hb) (.agg #[.u n.k,.i n.a,.i n.b]) (.agg #[zA (st.ho n|||o),zA (st.ht n|||t)])).run prog w4.drew=.ok () w5:=ab;have J:=zH (show zku B fb wf V st out n o t w (.r (.bool (zb3 st n o t))) w5 from⟨rfl,⟨(aq.o.trans (H.drew.mono ac)).grown Z (ya ac H.size) (fun k e=>by cases e;exact HM.o.bB.2.1),ya ac (ya H.size Z.size),_,_,_,(a6.kp (PtKp.drew w4)).setH an Z rfl ho ht⟩,zxp H.drew Z⟩);have HS:=zH (show(∀ i,w4.drew.cell? (.a V.sb i)=#[.p fb,.m V.hb,.m V.tb,.m V.ub,zA out][i]?)/\(∀ i,w4.drew.cell? (.a w.heap.size i)=#[.u n.k,.i n.a,.i n.b][i]?)/\(∀ i,w4.drew.cell? (.a kb i)=#[zA (st.ho n|||o),zA (st.ht n|||t)][i]?)from⟨a6.s.cell,Y.cell,U.cell⟩);clear U Y H a6 ab an Z aw ah;go_wp2_with fail;refine rgl 6 (fun E=>(∀ i,E.cell? (.a V.sb i)=#[.p fb,.m V.hb,.m V.tb,.m V.ub,zA out][i]?)/\(∀ i,E.cell? (.a w.heap.size i)=#[.u n.k,.i n.a,.i n.b][i]?)/\(∀ i,E.cell? (.a kb i)=#[zA (st.ho n|||o),zA (st.ht n|||t)][i]?)) ?_;have D:=HS.o
 iterate 6(refine tK 0 rfl D ?_)
 refine lst rfl fun K hK=>?_;go_simp;refine hK _ _ ?_;clear hK K D ag;cases hc:(st.ho n|||o != st.ho n)
 ·have HF:=zH (show zku B fb wf V st out n o t w (.r (.bool (st.ht n|||t != st.ht n))) w5 from by
   have h1:=J.o;rw[show zb3 st n o t=(st.ht n|||t != st.ht n) by unfold zb3;rw[hc,yc5]]at h1;exact h1)
  clear hc J;go_wp2;go_ret;exact HF.o
 ·have HF:=zH (show zku B fb wf V st out n o t w (.r (.bool true)) w5 from by
   have h1:=J.o;rw[show zb3 st n o t=true by unfold zb3;rw[hc,ybc]]at h1;exact h1)
  clear hc J;go_wp2;go_ret;exact HF.o
end
section
section
variable {w w' w2:World} {B fb:Nat} {V:PtV} {st:PS} {out:Nat} {mh:List (Nd×(Nat×Nat))} {mt:List (Nd×Nat)} {mu:List (Nd×Value)} {N b g:Nat}
theorem NkE.new (w:World):NkE (w.alloc (.map #[] 0)) w.heap.size (fun _=>false):=⟨[],zG.made w _ _ _,by simp,fun _=>rfl⟩
theorem NkE.put {S:Nd->Bool}{n:Nd}(h:NkE w b S)(hn:NdOk n):∃ w',(Instr.mapUpdate 429 (.m b) (.agg #[.u n.k,.i n.a,.i n.b]) (.i 1)).run prog w=.ok () w'/\NkE w' b (fun y=>decide (y=n)||S y)/\w.grownBy w' (some b)/\w'.heap.size=w.heap.size:=by
 obtain⟨m,h1,h2,h3⟩:=h;obtain⟨w3,A,E,D,H⟩:=h1.update (t:=429) (e:=3) zdx underlying429 hn 1;refine⟨w3,A,⟨_,E,?_,?_⟩,D,H⟩
 ·intro p G;rcases zf3 G with rfl | G
  ·rfl
  ·exact h2 p G
 ·intro y;rw[xd];by_cases e:n=y
  ·subst e;simp
  ·rw[yg e,h3 y];show S y=(decide (y=n)||S y);rw[decide_eq_false (fun e':y=n=>e e'.symm),yc5]
theorem zrp {κ ν: Type} [DecidableEq κ] {m:List (κ × ν)} {x:κ} {v:ν} (h:mget m x=none):mput m x v=m++[(x,v)]:=zrz m x v (zhl.1 h)
theorem PtM.newT {a:Nd}(h:PtM w B fb V st out mh mt mu)(ha:mget mt a=none)(hb:NkE w b (fun _=>false))(hB:B<=b)(hne:b≠V.hb/\b≠V.tb/\b≠V.ub)(hnew:∀ n b',(n,b') ∈ mt->b'≠b)
  (hm:zG w' V.tb ndV NdOk (fun b=>.map (some b)) (mput mt a b)) (hg:w.grownBy w' (some V.tb)):PtM w' B fb V st out mh (mput mt a b) mu:=by
 have D:∀ {g},g<w.heap.size->g≠V.tb->w'.heap[g]? = w.heap[g]? := fun h1 h2=>hg.block _ h1 (fun e=>h2 (by injection e));refine⟨(D h.s.lt (fun e=>h.t.qf h.s e.symm)).trans h.s,h.h.qa (D h.h.lt h.ne.1),h.hv,hm,?_,fun n b' A=>?_,fun n hn y=>?_,h.u.qa (D h.u.lt h.ne.2.2.symm),fun n v hv=>?_,h.un,h.u0,h.bB,h.ne,h.sm⟩
 ·rw[zrp ha,yat,ycy];refine⟨h.tn,by simp,fun x hx y H e=>?_⟩;simp at H;subst H e;obtain⟨p,N,E⟩:=yae.1 hx;exact hnew p.1 p.2 N E
 ·rcases zf3 A with e | A
  ·injection e with K L;subst K L;refine⟨?_,hB,hne⟩;have h1:(fun _=>false)=st.to n:=funext fun y=>(h.t0 n ha y).symm;rw[<- h1];exact hb.qa (D hb.lt hne.2.1)
  ·obtain⟨I,J⟩:=h.ti n b' A;exact⟨I.qa (D I.lt J.2.2.1),J⟩
 ·refine h.t0 n ?_ y;rw[xd]at hn;split at hn
  ·cases hn
  ·exact hn
 ·exact xx (h.ur n v hv) fun k G=>D ((h.ur n v hv).lt k G).2 (fun e=>h.t.vw (h.ur n v hv) (by rw[G,e]))
end
structure EdFr (V:PtV)(w w':World):Prop where
 os:w'.os=w.os
 tape:w'.tape=w.tape
 output:w'.output=w.output
 size:w.heap.size<=w'.heap.size
 same:∀ (k:Nat) (o:Obj),w.heap[k]?=some o->((∀ es c,o≠.map es c)\/k=V.ub\/k=V.hb)->w'.heap[k]?=some o
def zfr (B fb:Nat)(wf:World)(V:PtV)(st:PS)(out:Nat)(a c:Nd)(w:World)(e:Ending)(w':World):Prop :=
 e=.r (.bool (!st.to a c))/\PtAt B fb wf V (zx st a c) out w'/\EdFr V w w'
theorem EdFr.below {V:PtV}{w w':World}(h:Below w.heap.size w w'):EdFr V w w':=⟨h.os,h.tape,h.output,h.size,fun k _ ho _=>(h.block k (lt_of_block ho)).trans ho⟩
theorem EdFr.trans {V:PtV}{w w1 w2:World}(h:EdFr V w w1)(h':EdFr V w1 w2):EdFr V w w2:=⟨h'.os.trans h.os,h'.tape.trans h.tape,h'.output.trans h.output,ya h.size h'.size,fun k o ho A=>h'.same k o (h.same k o ho A) A⟩
theorem EdFr.grown {V:PtV}{w w':World}{b:Nat}(h:w.grownBy w' (some b))(hu:b≠V.ub)(hh:b≠V.hb)(hm:∃ D c,w.heap[b]?=some (.map D c)):EdFr V w w' :=
 ⟨h.os,h.tape,h.output,h.size,fun k o ho A=>(h.block k (lt_of_block ho) (fun e=>by
  injection e with e;subst e;rcases A with A | A | A
  ·obtain⟨D,c,hm⟩:=hm;rw[ho]at hm;injection hm with hm;exact A _ _ hm
  ·exact hu A
  ·exact hh A)).trans ho⟩
theorem zG.obj {w:World}{b:Nat}{κ ν: Type}{enc:κ -> Value}{ok:κ -> Prop}{encv:ν -> Value}{m:List (κ × ν)}(h:zG w b enc ok encv m):∃ A c,w.heap[b]?=some (.map A c):=by
 obtain⟨A,c,h,_⟩:=h;exact⟨A,c,h⟩
theorem NkE.obj {w:World}{b:Nat}{S:Nd->Bool}(h:NkE w b S):∃ es c,w.heap[b]?=some (.map es c):=by
 obtain⟨m,h,_⟩:=h;exact h.obj
theorem zhe (B fb:Nat)(wf:World)(V:PtV)(st:PS)(out:Nat)(a c:Nd)(w:World)(h:PtAt B fb wf V st out w)(ha:NdOk a)(hc:NdOk c) :
  Calls prog 279 #[.p V.sb,.agg #[.u a.k,.i a.a,.i a.b],.agg #[.u c.k,.i c.a,.i c.b]] w (zfr B fb wf V st out a c w):=by
 obtain⟨a9,hbs,mh,S,mu,hm⟩:=h;have ad:=@run_makeMap prog;have a5:=hm.s.cell;unfold zdf at a5;have aa:=hm.s.lt;have HM:=zH hm;have a6:=zH a9;have HA:=zH ha;have HC:=zH hc;have I:=zH (show ∀ W',PtM W' B fb V st out mh S mu->(Instr.lookup 379 (.m V.tb) (.agg #[.u a.k,.i a.a,.i a.b]) false).run prog W'=.ok (match mget S a with | some b=>.map (some b) | none=>.map none) W' from fun W' h=>by
  have:=h.t.lookup (t:=379) (e:=429) zdx underlying379 (z:=.map none) (zeroValue429 W') HA.o false;rw[this];cases mget S a <;> rfl)
 clear hm a9 ha hc;have D:Below w.heap.size w ((w.alloc (.k #[.u a.k,.i a.a,.i a.b] 419)).alloc (.k #[.u c.k,.i c.a,.i c.b] 419)):=(yB.alloc yL _).alloc yy _;have E:Blk ((w.alloc (.k #[.u a.k,.i a.a,.i a.b] 419)).alloc (.k #[.u c.k,.i c.a,.i c.b] 419)) w.heap.size 419 #[.u a.k,.i a.a,.i a.b]:=(Blk.newAt rfl).alloc _;have G:Blk ((w.alloc (.k #[.u a.k,.i a.a,.i a.b] 419)).alloc (.k #[.u c.k,.i c.a,.i c.b] 419)) (w.heap.size+1) 419 #[.u c.k,.i c.a,.i c.b]:=Blk.newAt yy;cases hg:mget S a with
 | none =>
  rw[hg]at I;simp only at I;have HG:=zH hg;clear hg;have J:=zH (show ∀ W',PtM W' B fb V st out mh S mu->Blk W' w.heap.size 419 #[.u a.k,.i a.a,.i a.b]->Blk W' (w.heap.size+1) 419 #[.u c.k,.i c.a,.i c.b]->(fun W'=>(∀ i,W'.cell? (.a V.sb i)=#[.p fb,.m V.hb,.m V.tb,.m V.ub,zA out][i]?)/\(∀ i,W'.cell? (.a w.heap.size i)=#[.u a.k,.i a.a,.i a.b][i]?)/\(∀ i,W'.cell? (.a (w.heap.size+1) i)=#[.u c.k,.i c.a,.i c.b][i]?)/\(Instr.lookup 379 (.m V.tb) (.agg #[.u a.k,.i a.a,.i a.b]) false).run prog W'=.ok (.map none) W') W' from fun W' h h1 h2=>⟨h.s.cell,h1.cell,h2.cell,I.o W' h⟩);go_enter func279,ntmps279;go_wp2_with fail;generalize hW:((w.alloc (.k #[.u a.k,.i a.a,.i a.b] 419)).alloc (.k #[.u c.k,.i c.a,.i c.b] 419))=w1 at D E G |-;clear hW a5 aa I;have A:=zH (HM.o.kp (PtKp.below D yL));refine rgl 6 (fun W'=>(∀ i,W'.cell? (.a V.sb i)=#[.p fb,.m V.hb,.m V.tb,.m V.ub,zA out][i]?)/\(∀ i,W'.cell? (.a w.heap.size i)=#[.u a.k,.i a.a,.i a.b][i]?)/\(∀ i,W'.cell? (.a (w.heap.size+1) i)=#[.u c.k,.i c.a,.i c.b][i]?)/\(Instr.lookup 379 (.m V.tb) (.agg #[.u a.k,.i a.a,.i a.b]) false).run prog W'=.ok (.map none) W') ?_;have hHeld:=J.o w1.drew (A.o.kp (PtKp.drew _)) E.drew G.drew
  iterate 6(refine tK 0 rfl hHeld ?_)
  refine lst rfl fun K hK=>?_;go_simp;refine hK _ _ ?_;clear hK K hHeld;go_wp2_with fail;refine rgl 6 (fun W'=>(∀ i,W'.cell? (.a V.sb i)=#[.p fb,.m V.hb,.m V.tb,.m V.ub,zA out][i]?)/\(∀ i,W'.cell? (.a w.heap.size i)=#[.u a.k,.i a.a,.i a.b][i]?)/\(∀ i,W'.cell? (.a (w.heap.size+1) i)=#[.u c.k,.i c.a,.i c.b][i]?)/\(Instr.lookup 379 (.m V.tb) (.agg #[.u a.k,.i a.a,.i a.b]) false).run prog W'=.ok (.map none) W') ?_;have hHeld:=J.o w1.drew.drew (A.o.kp ((PtKp.drew _).trans (PtKp.drew _))) E.drew.drew G.drew.drew
  iterate 5(refine tK 0 rfl hHeld ?_)
  refine rdy 5 rfl fun K hK=>?_;go_simp;obtain⟨wb,Z⟩:∃ wb,wb=(w1.alloc (.map #[] 0)).drew.drew:=⟨_,rfl⟩;have a3:NkE wb w1.heap.size (fun _=>false):=by rw[Z];exact(NkE.new w1).pt ((PtKp.drew _).trans (PtKp.drew _))
  have R:Below w1.heap.size w1 wb:=by rw[Z];exact((yn _ w1).alloc yL _).drew.drew
  rw[<- Z];have H:=zH (A.o.kp (PtKp.below R yL));have L:=E.below R E.lt;have N:=G.below R G.lt;have O:=D.trans (R.mono D.size);refine hK.o _ _ (J.o wb H.o L N) (fun hHeld=>?_);clear hK K Z;obtain⟨b,Y⟩:∃ b,b=w1.heap.size:=⟨_,rfl⟩;rw[<- Y]at a3 |-;have a2:∀ n b',(n,b') ∈ S->b'≠b:=fun n b' ab=>ybr (by rw[Y];exact(A.o.ti n b' ab).1.lt);have a1:b≠V.hb/\b≠V.tb/\b≠V.ub:=⟨by have:=A.o.h.lt;omega,by have:=A.o.t.lt;omega,by have:=A.o.u.lt;omega⟩;have a7:B<=b:=by rw[Y];exact ya hbs D.size
  obtain⟨wc,hrun,a8,Q,ac⟩:=H.o.t.update (t:=379) (e:=429) zdx underlying379 HA.o b;have a4:(Instr.mapUpdate 379 (.m V.tb) (.agg #[.u a.k,.i a.a,.i a.b]) (.m b)).run prog wb=.ok () wc:=hrun;have U:=zH (H.o.newT HG.o a3 a7 a1 a2 a8 Q);have HBA:=zH (L.grown Q (fun e=>H.o.t.qf L (by injection e with e;exact e.symm)));have HBC:=zH (N.grown Q (fun e=>H.o.t.qf N (by injection e with e;exact e.symm)));have HFR:=zH (show EdFr V w wc from(EdFr.below O).trans (EdFr.grown Q H.o.ne.2.2 H.o.ne.1.symm H.o.t.obj));have HONW:=zH (show Below B wf wc from(a6.o.trans (O.mono hbs)).grown Q (ya hbs O.size) (fun k e=>by cases e;exact HM.o.bB.2.2.1));have HMEM:=zH (show(a,b) ∈ mput S a b from by rw[zrp HG.o];simp);have a0:=zH (show((mput S a b).map Prod.fst).Nodup from by obtain⟨_,_,_,_,h,_⟩:=U.o.t;exact h);have HEDS:=zH (show ∀ W',PtM W' B fb V st out mh (mput S a b) mu->Blk W' w.heap.size 419 #[.u a.k,.i a.a,.i a.b]->Blk W' (w.heap.size+1) 419 #[.u c.k,.i c.a,.i c.b]->(fun W'=>(∀ i,W'.cell? (.a V.sb i)=#[.p fb,.m V.hb,.m V.tb,.m V.ub,zA out][i]?)/\(∀ i,W'.cell? (.a w.heap.size i)=#[.u a.k,.i a.a,.i a.b][i]?)/\(∀ i,W'.cell? (.a (w.heap.size+1) i)=#[.u c.k,.i c.a,.i c.b][i]?)/\(Instr.lookup 379 (.m V.tb) (.agg #[.u a.k,.i a.a,.i a.b]) false).run prog W'=.ok (.m b) W') W' from fun W' h h1 h2=>⟨h.s.cell,h1.cell,h2.cell,by
   have:=h.t.lookup (t:=379) (e:=429) zdx underlying379 (z:=.map none) (zeroValue429 W') HA.o false;rw[this,zea a0.o HMEM.o];rfl⟩)
  clear a3 R L N O a2 a1 a7 Y hrun a8 Q ac J E G D A H a0 HG;refine lst rfl fun K hK=>?_;go_simp;refine hK _ _ ?_;clear hK K hHeld a4;go_wp2_with fail;refine rgl 7 (fun W'=>(∀ i,W'.cell? (.a V.sb i)=#[.p fb,.m V.hb,.m V.tb,.m V.ub,zA out][i]?)/\(∀ i,W'.cell? (.a w.heap.size i)=#[.u a.k,.i a.a,.i a.b][i]?)/\(∀ i,W'.cell? (.a (w.heap.size+1) i)=#[.u c.k,.i c.a,.i c.b][i]?)/\(Instr.lookup 379 (.m V.tb) (.agg #[.u a.k,.i a.a,.i a.b]) false).run prog W'=.ok (.m b) W') ?_;have hHeld:=HEDS.o (wc.drew) (U.o.kp (PtKp.drew _)) HBA.o.drew HBC.o.drew
  iterate 7(refine tK 0 rfl hHeld ?_)
  refine lst rfl fun K hK=>?_;go_simp;refine(zsf wc.drew b (st.to a) c ((U.o.ti a b HMEM.o).1.pt (PtKp.drew _)) HC.o).mono ?_;rintro e w5 ⟨rfl,he5⟩;refine hK _ _ ?_;clear hK K hHeld;have hb5:Below wc.heap.size wc w5:=by rw[he5];exact(yn _ wc).drew.alloc yL _
  have HM5:=zH (U.o.kp (PtKp.below hb5 yL));exact mIa
 | some b =>
  rw[hg]at I;simp only at I;have HMEM:=zH (zdd hg);have HEDS:=zH (show ∀ W',PtM W' B fb V st out mh S mu->Blk W' w.heap.size 419 #[.u a.k,.i a.a,.i a.b]->Blk W' (w.heap.size+1) 419 #[.u c.k,.i c.a,.i c.b]->(fun W'=>(∀ i,W'.cell? (.a V.sb i)=#[.p fb,.m V.hb,.m V.tb,.m V.ub,zA out][i]?)/\(∀ i,W'.cell? (.a w.heap.size i)=#[.u a.k,.i a.a,.i a.b][i]?)/\(∀ i,W'.cell? (.a (w.heap.size+1) i)=#[.u c.k,.i c.a,.i c.b][i]?)/\(Instr.lookup 379 (.m V.tb) (.agg #[.u a.k,.i a.a,.i a.b]) false).run prog W'=.ok (.m b) W') W' from fun W' h h1 h2=>⟨h.s.cell,h1.cell,h2.cell,I.o W' h⟩);clear hg;go_enter func279,ntmps279;go_wp2_with fail;generalize hW:((w.alloc (.k #[.u a.k,.i a.a,.i a.b] 419)).alloc (.k #[.u c.k,.i c.a,.i c.b] 419))=w1 at D E G |-;clear hW a5 aa I;have A:=zH (HM.o.kp (PtKp.below D yL));refine rgl 6 (fun W'=>(∀ i,W'.cell? (.a V.sb i)=#[.p fb,.m V.hb,.m V.tb,.m V.ub,zA out][i]?)/\(∀ i,W'.cell? (.a w.heap.size i)=#[.u a.k,.i a.a,.i a.b][i]?)/\(∀ i,W'.cell? (.a (w.heap.size+1) i)=#[.u c.k,.i c.a,.i c.b][i]?)/\(Instr.lookup 379 (.m V.tb) (.agg #[.u a.k,.i a.a,.i a.b]) false).run prog W'=.ok (.m b) W') ?_;have hHeld:=HEDS.o w1.drew (A.o.kp (PtKp.drew _)) E.drew G.drew
  iterate 6(refine tK 0 rfl hHeld ?_)
  refine lst rfl fun K hK=>?_;go_simp;refine hK _ _ ?_;clear hK K hHeld;have W:=zH (A.o.kp (PtKp.drew _));have HBA:=zH E.drew;have HBC:=zH G.drew;have HFR:=zH (show EdFr V w w1.drew from(EdFr.below D).trans (EdFr.below yB.drew));have HONW:=zH (show Below B wf w1.drew from a6.o.trans (D.drew.mono hbs));generalize hW:w1.drew=wd at W HBA HBC HFR HONW |-;clear hW D E G A;go_wp2_with fail;refine rgl 7 (fun W'=>(∀ i,W'.cell? (.a V.sb i)=#[.p fb,.m V.hb,.m V.tb,.m V.ub,zA out][i]?)/\(∀ i,W'.cell? (.a w.heap.size i)=#[.u a.k,.i a.a,.i a.b][i]?)/\(∀ i,W'.cell? (.a (w.heap.size+1) i)=#[.u c.k,.i c.a,.i c.b][i]?)/\(Instr.lookup 379 (.m V.tb) (.agg #[.u a.k,.i a.a,.i a.b]) false).run prog W'=.ok (.m b) W') ?_;have hHeld:=HEDS.o (wd.drew) (W.o.kp (PtKp.drew _)) HBA.o.drew HBC.o.drew
  iterate 7(refine tK 0 rfl hHeld ?_)
  refine lst rfl fun K hK=>?_;go_simp;refine(zsf wd.drew b (st.to a) c ((W.o.ti a b HMEM.o).1.pt (PtKp.drew _)) HC.o).mono ?_;rintro e w5 ⟨rfl,he5⟩;refine hK _ _ ?_;clear hK K hHeld;have hb5:Below wd.heap.size wd w5:=by rw[he5];exact(yn _ wd).drew.alloc yL _
  have HM5:=zH (W.o.kp (PtKp.below hb5 yL));exact mIa
end
def loc (fn:Nat)(x:Int):Nd:=⟨108,fn,x⟩
def zak (st:PS)(fn:Nat)(a:Ar)(n:Nd):PS:=if a.c then st else zx st (loc fn a.n) n
def zmo (B fb:Nat)(wf:World)(V:PtV)(st:PS)(out:Nat)(w:World)(e:Ending)(w':World):Prop :=
 e=.e/\PtAt B fb wf V st out w'/\EdFr V w w'
theorem PtAt.below {B fb:Nat}{wf:World}{V:PtV}{st:PS}{out:Nat}{w w':World}(h:PtAt B fb wf V st out w)(hb:Below w.heap.size w w'):PtAt B fb wf V st out w':=by
 obtain⟨h1,h2,A,D,mu,h3⟩:=h;exact⟨h1.trans (hb.mono h2),ya h2 hb.size,A,D,mu,h3.kp (PtKp.below hb yL)⟩
theorem zjs (B fb:Nat)(wf:World)(V:PtV)(st:PS)(out:Nat)(fn:Nat)(a:Ar)(n:Nd)(w:World)(h:PtAt B fb wf V st out w)(hn:NdOk n)(hf:fn<1000000)(ha:a.n<1000000) :
  Calls prog 278 #[.p V.sb,.i fn,.agg #[.bool a.c,.i a.n],.agg #[.u n.k,.i n.a,.i n.b]] w (zmo B fb wf V (zak st fn a n) out w):=by
 have A:Below w.heap.size w ((w.alloc (.k #[.bool a.c,.i a.n] 306)).alloc (.k #[.u n.k,.i n.a,.i n.b] 419)):=(yB.alloc yL _).alloc yy _;cases hc:a.c
 ·have E:=zH (zhe B fb wf V st out (loc fn a.n) n _ (h.below A) ⟨by show 108<256;omega,hf,by show -1000000<(a.n:Int);omega,by show(a.n:Int)<1000000;omega⟩ hn);have H:=zH (show zak st fn a n=zx st (loc fn a.n) n by unfold zak;rw[hc];rfl);rw[hc]at A E;have G:=zH A;clear h A;go_enter func278,ntmps278;go_wp2_with fail;refine E.o.mono ?_;rintro e w' ⟨rfl,h1,h2⟩;have D:=zH (show zmo B fb wf V (zak st fn a n) out w (.e) w' from⟨rfl,by rw[H.o];exact h1,(EdFr.below G.o).trans h2⟩);clear h1 h2;go_wp2_with fail
  first | go_end0 | refine ym (yp rfl _ _ _) rfl ?_
  exact D.o
 ·have D:=zH (show zmo B fb wf V (zak st fn a n) out w (.e) ((w.alloc (.k #[.bool a.c,.i a.n] 306)).alloc (.k #[.u n.k,.i n.a,.i n.b] 419))from⟨rfl,by
   have e:zak st fn a n=st:=by unfold zak;rw[hc];rfl
   rw[e];exact h.below A,EdFr.below A⟩)
  rw[hc]at D;clear h A;go_enter func278,ntmps278;go_wp2_with fail
  first | go_end0 | refine ym (yp rfl _ _ _) rfl ?_
  exact D.o
def argO (st:PS)(fn:Nat)(a:Ar):Nat:=if a.c then 0 else st.ho (loc fn a.n)
def argT (st:PS)(fn:Nat)(a:Ar):Nat:=if a.c then 0 else st.ht (loc fn a.n)
def zo1 (st:PS)(fn:Nat)(a:Ar)(w:World)(e:Ending)(w':World):Prop:=e=.r (.agg #[zA (argO st fn a),zA (argT st fn a)])/\Below w.heap.size w w'
theorem zlt (B fb:Nat)(wf:World)(V:PtV)(st:PS)(out:Nat)(fn:Nat)(a:Ar)(w:World)(h:PtAt B fb wf V st out w)(hf:fn<1000000)(ha:a.n<1000000) :
  Calls prog 281 #[.p V.sb,.i fn,.agg #[.bool a.c,.i a.n]] w (zo1 st fn a w):=by
 cases hc:a.c
 ·obtain⟨R,Z,mh,mt,mu,hm⟩:=h;have hn:NdOk (loc fn a.n):=⟨by show 108<256;omega,hf,by show -1000000<(a.n:Int);omega,by show(a.n:Int)<1000000;omega⟩;have I:=hm.s.cell;unfold zdf at I;have S:=hm.s.lt;have A:argO st fn a=st.ho (loc fn a.n)/\argT st fn a=st.ht (loc fn a.n):=by unfold argO argT;rw[hc];exact⟨rfl,rfl⟩
  have U:=hm.sm (loc fn a.n);have L:=zH (show ∀ D,Below w.heap.size w D->(∀ i,D.cell? (.a V.sb i)=#[.p fb,.m V.hb,.m V.tb,.m V.ub,zA out][i]?)/\(Instr.lookup 378 (.m V.hb) (.agg #[.u 108,.i fn,.i a.n]) false).run prog D=.ok (.agg #[zA (argO st fn a),zA (argT st fn a)]) D from fun D hb=>by
   have H:=hm.kp (PtKp.below hb yL);refine⟨H.s.cell,?_⟩;have hl:=H.h.lookup (t:=378) (e:=424) zdx underlying378 (z:=.agg #[zA 0,zA 0]) (zeroValue424 D) hn false;have hv:=hm.hv (loc fn a.n);have Q:(Instr.lookup 378 (.m V.hb) (.agg #[.u 108,.i fn,.i a.n]) false).run prog D=_:=hl;rw[Q,A.1,A.2];cases hg:mget mh (loc fn a.n)with
   | none=>rw[hg]at hv;simp only[Option.getD_none,Prod.mk.injEq]at hv;rw[<- hv.1,<- hv.2];rfl
   | some p=>rw[hg]at hv;simp only[ybb]at hv;rw[hv];rfl)
  clear hm R hn A U;go_enter func281,ntmps281;go_wp2_with fail;have G:Below w.heap.size w ((w.alloc (.k #[.bool false,.i a.n] 306)).alloc (.k #[zA 0,zA 0] 424)):=(yB.alloc yL _).alloc yy _;have N:Blk ((w.alloc (.k #[.bool false,.i a.n] 306)).alloc (.k #[zA 0,zA 0] 424)) w.heap.size 306 #[.bool false,.i a.n]:=(Blk.newAt rfl).alloc _;have O:Blk ((w.alloc (.k #[.bool false,.i a.n] 306)).alloc (.k #[zA 0,zA 0] 424)) (w.heap.size+1) 424 #[zA 0,zA 0]:=Blk.newAt yy;clear I S;refine rgl 9 (fun D=>(∀ i,D.cell? (.a V.sb i)=#[.p fb,.m V.hb,.m V.tb,.m V.ub,zA out][i]?)/\(∀ i,D.cell? (.a w.heap.size i)=#[.bool false,.i a.n][i]?)/\(Instr.lookup 378 (.m V.hb) (.agg #[.u 108,.i fn,.i a.n]) false).run prog D=.ok (.agg #[zA (argO st fn a),zA (argT st fn a)]) D) ?_;have E:=(show(∀ i,(((w.alloc (.k #[.bool false,.i a.n] 306)).alloc (.k #[zA 0,zA 0] 424))).drew.cell? (.a V.sb i)=#[.p fb,.m V.hb,.m V.tb,.m V.ub,zA out][i]?)/\(∀ i,(((w.alloc (.k #[.bool false,.i a.n] 306)).alloc (.k #[zA 0,zA 0] 424))).drew.cell? (.a w.heap.size i)=#[.bool false,.i a.n][i]?)/\(Instr.lookup 378 (.m V.hb) (.agg #[.u 108,.i fn,.i a.n]) false).run prog (((w.alloc (.k #[.bool false,.i a.n] 306)).alloc (.k #[zA 0,zA 0] 424))).drew=.ok (.agg #[zA (argO st fn a),zA (argT st fn a)]) (((w.alloc (.k #[.bool false,.i a.n] 306)).alloc (.k #[zA 0,zA 0] 424))).drew from⟨(L.o _ G.drew).1,N.drew.cell,(L.o _ G.drew).2⟩)
  iterate 9(refine tK 0 rfl E ?_)
  have Y:=O.drew;refine lst rfl fun K W=>?_;go_simp;refine W _ _ ?_;clear W K E L;go_wp2;exact ym (v:=.agg #[zA (argO st fn a),zA (argT st fn a)]) (by simp[results,results281,go_sem]) rfl ⟨rfl,((yB.alloc yL _).alloc yy _).drew⟩
 ·have A:argO st fn a=0/\argT st fn a=0:=by unfold argO argT;rw[hc];exact⟨rfl,rfl⟩
  have J:=zH (show ∀ w',Below w.heap.size w w'->zo1 st fn a w (.r (.agg #[zA 0,zA 0])) w' from fun w' hb=>⟨by rw[A.1,A.2],hb⟩);clear h A;go_enter func281,ntmps281;go_wp2;exact ym (v:=.agg #[zA 0,zA 0]) (by simp[results,results281,go_sem]) rfl (J.o _ ((yB.alloc yL _).alloc yy _))
end Go.Proofs.YtkmcihhndgdhpaaGreat
