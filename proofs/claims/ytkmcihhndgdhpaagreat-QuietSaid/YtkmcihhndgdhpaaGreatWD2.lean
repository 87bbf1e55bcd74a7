/- Parts of the walk. -/
import Derived.Test.YtkmcihhndgdhpaaGreatWD1
set_option maxRecDepth 100000
set_option maxHeartbeats 4000000
set_option linter.unusedSimpArgs false
set_option linter.unusedVariables false
open Go.ChangeMaps Go.Maps Go.RowKit Go.Proofs.Tryz
namespace Go.Proofs.YtkmcihhndgdhpaaGreat
variable {c:List (Int×Int)}{k m:Nat}{F:Fr}{P:Pr}{v:Vl}{b' b:Int}
section
section
variable {C:AX} {mb eb:Nat} {lab0 lab:Lab} {w0 w:World} {M:Mc} {V:MV} {e:Evn}
theorem St.pushT {h:Th}{v:TV}{w2:World}{g cap:Nat}(s:St C mb eb lab0 w0 lab M V e w)(hT:ThIs w lab M.qd.length h v)
  (hrow:w2.ownsRow 0 254 3 (.s g (M.qd.length+1) cap) (M.qd.length+1) (zcg M.qd V.tl++zgb h v)) (hg:w.grownBy w2 (some V.tb)) (hat:V.tb=g\/g=w.heap.size) :
  ∃ lab',St C mb eb lab0 w0 lab' { M with qd:=M.qd++[h] } { V with tb:=g,vd:=cap,tl:=V.tl++[v] } e (w2.setCell (.a mb 1) (.s g (M.qd.length+1) cap)):=by
 have W:g<w2.heap.size:=(hrow.lt g rfl).2;have G:lab V.tb=.ths:=s.g.mi.rl;have D:lab mb=.m:=s.g.mi.ml;have H:lab g=.ths\/(lab g=.out/\g=w.heap.size):=by
  rcases hat with h | h
  ·exact .inl (h ▸ G)
  ·exact .inr ⟨s.g.hi g yo,h⟩
 have O:g≠mb:=fun e=>by
  rcases H with h | h
  ·rw[e,D]at h;cases h
  ·rw[e,D]at h;exact absurd h.1 yy
 let lab':Lab:=fun k=>if k=g then .ths else lab k
 have hl:∀ k,lab k≠.out->lab' k=lab k:=fun k E=>by
  show(if k=g then _ else _)=_;split
  ·rename_i e;subst e;rcases H with h | h
   ·exact h.symm
   ·exact absurd h.1 E
  ·rfl
 have Q:∀ k,lab' k≠.ths->lab' k=lab k/\k≠g:=fun k E=>by
  have:k≠g:=fun e=>E (by show(if k=g then _ else _)=_;rw[yj e]);exact⟨yg this,this⟩
 have I:lab' mb=.m:=(hl _ (by rw[D];simp)).trans D;have A:=s.g.mi.vq hl;have U:∀ k,lab' k≠.out->lab' k≠.ths->w2.heap[k]? = w.heap[k]? := fun k h1 h2=>by
  have h3:=(Q k h2).1;rw[h3]at h1 h2;exact hg.block k (s.g.own h1).2 (fun e=>by injection e with e;exact h2 (by rw[e];exact G))
 have J:Same lab' (fun r=>r≠.out/\r≠.ths/\r≠.m) w (w2.setCell (.a mb 1) (.s g (M.qd.length+1) cap)):=fun k E=>by
  rw[yt _ _ _ _ (fun e=>E.2.2 (by rw[e];exact I))];exact U k E.1 E.2.1
 have L:ThIs w lab' M.qd.length h v:=hT.vq hl;have K:C.on w2:=s.g.on.grown hg s.g.on.size (fun k e=>by injection e with e;subst e;exact(s.g.own (by rw[G];simp)).1);have S:=s.g.own (k:=mb) (by rw[D];simp);have N:lab' eb=.out:=by
  show(if eb=g then _ else _)=_;rw[yg,s.eo];rintro rfl;rcases H with h | h
  ·rw[s.eo]at h;cases h
  ·have:=s.b.lt;omega
 have R:Blk w2 mb 246 (zbv C M V):=s.g.mi.m.grown hg (fun e=>by injection e with e;rw[e,G]at D;cases D);refine⟨lab',⟨⟨K.setCell (p:=(.a mb 1)) S.1 _,?_,fun k E=>?_,fun k E=>?_⟩,?_,?_,fun k E=>?_,N,s.ew⟩⟩
 ·refine⟨(R.qe 1 _).cast (by simp[zbv]),I,by simp[s.g.mi.n],?_,yj rfl,fun t2 h2 v2 a b=>?_,A.h.qa (J _ (by rw[A.hl];simp)),A.hl,A.o.qa (J _ (by rw[A.ol];simp)),A.ol,A.k.qa (J _ (by rw[A.kl];simp)),A.kl,
   fun x b e=>by obtain⟨c,a,l,i⟩:=A.kc x b e;exact⟨c,a,l,i.qa (J _ (by rw[l];simp))⟩,A.kn,
   A.u.qa (J _ (by rw[A.ul];simp)),A.ul,fun x b e=>by obtain⟨c,a,l,i⟩:=A.uc x b e;exact⟨c,a,l,i.qa (J _ (by rw[l];simp))⟩,A.un,
   A.a.qa (J _ (by rw[A.al];simp)),A.al⟩
  ·show World.ownsRow _ 0 _ 3 (.s g (M.qd++[h]).length cap) (M.qd++[h]).length (zcg (M.qd++[h]) (V.tl++[v]));unfold zcg;rw[zjp s.g.mi.n,yx,yby];exact ownsRow_setCell_other hrow (fun e=>O (by injection e)) _
  ·have key:ThIs w lab' t2 h2 v2:=by
    have hn:=s.g.mi.n;rcases yF t2 M.qd.length with hi | hi
    ·rw[show({ M with qd:=M.qd++[h] }:Mc).qd=M.qd++[h]from rfl,yz hi]at a;rw[yz (by rw[hn];exact hi)]at b;exact A.t t2 h2 v2 a b
    ·rw[show({ M with qd:=M.qd++[h] }:Mc).qd=M.qd++[h]from rfl,yC hi]at a;rw[yC (by rw[hn];exact hi)]at b;have e0:t2-M.qd.length=0:=by
      have:=(yh.1 a).1;simp at this;omega
     rw[e0]at a;rw[hn,e0]at b;simp at a b;subst a b;rw[show t2=M.qd.length by omega];exact L
   exact key.vo J yy yy yy
 ·show(if k=g then _ else _)=_;rw[yg]
  ·exact s.g.lo k E
  ·rintro rfl;rcases H with h | h
   ·rw[s.g.lo _ E]at h;cases h
   ·have:=s.g.on.size;omega
 ·simp[World.setCell]at E;show(if k=g then _ else _)=_;rw[yg yo];exact s.g.hi k (ya hg.size E)
 ·refine(s.b.grown hg (fun e=>?_)).qi (p:=(.a mb 1)) (fun e=>?_) _
  ·injection e with e;have:=s.eo;rw[e,G]at this;cases this
  ·have:=s.eo;rw[show eb=mb from e,D]at this;cases this
 ·have ho:∀ b,lab b≠.out->lab0 b≠.out\/b=eb\/w0.heap.size<=b:=fun b hb=>by
   rcases yF b w0.heap.size with h | h
   ·exact .inl (by rw[<- s.l b h];exact hb)
   ·exact .inr (.inr h)
  exact(s.o.grown hg fun k e=>ho k (by injection e with e;rw[<- e,G];simp)).qe (p:=(.a mb 1)) (ho mb (by rw[D];simp)) _
 ·show(if k=g then _ else _)=_;rcases H with h | h
  ·by_cases e:k=g
   ·rw[yj e,<- h,<- e];exact s.l k E
   ·rw[yg e];exact s.l k E
  ·have:=s.o.size;rw[yg yo];exact s.l k E
end
end
section
section
variable {C:AX} {mb eb:Nat} {lab0 lab lab':Lab} {w0 w w':World} {M M':Mc} {V:MV} {e:Evn}
theorem St.relab (s:St C mb eb lab0 w0 lab M V e w)(hl:∀ k,lab k≠.out->lab' k=lab k)(h0:∀ k,k<w0.heap.size->lab' k=lab k)(hC:∀ k,k<C.w0.heap.size->lab' k=lab k)(hz:∀ k,w.heap.size<=k->lab' k=.out)(he:lab' eb=.out):St C mb eb lab0 w0 lab' M V e w :=
 ⟨⟨s.g.on,s.g.mi.vq hl,fun k A=>(hC k A).trans (s.g.lo k A),hz⟩,s.b,s.o,fun k A=>(h0 k A).trans (s.l k A),he,s.ew⟩
theorem St.ms (s:St C mb eb lab0 w0 lab M V e w)(g:MSt C lab mb M' V w')(ho:∀ eb,Out lab eb w w'):St C mb eb lab0 w0 lab M' V e w' :=
 ⟨g,((ho (eb+1)).block eb s.b.lt s.eo yo).trans s.b,s.o.trans (ho eb) s.l,s.l,s.eo,s.ew⟩
end
section
variable {C:AX} {mb eb:Nat} {lab:Lab} {w:World} {M:Mc} {V:MV} {e:Evn} {t n fg fc k:Nat} {f:Fr} {h:Th} {v:TV} {lv:Value} {i:In}
def zcp (h:Th)(f:Fr)(x:Int)(T:Nat):Th:=if 0<=x then zh h (xc f x (.thr T))else h
def zl3 (P:Pr)(M:Mc)(t:Nat)(h:Th)(f:Fr)(x:Int)(F:Fr):Mc :=
 { setTh M t { zcp h f x M.qd.length with clock:=mput h.clock t (zJ h.clock t+1) } with
  qd:=(setTh M t { zcp h f x M.qd.length with clock:=mput h.clock t (zJ h.clock t+1) }).qd++[{ qb:=[{ F with at_:=zah P P.code.length F.at_ }],ended:=false,clock:=mput h.clock M.qd.length 1 }] }
theorem spawn_eq (ho:i.op=7)(hF:zdr C.P f i (-1)=some F):doM C.P M t h f i e=if M.qd.length=6 then none else some (zl3 C.P M t h f i.x F,{ e with obj:=M.qd.length }):=by
 unfold doM;rw[yg yo,yg yo,yg yo,yg yo,yg yo,yg yo,yg yo,yj ho,hF];by_cases hx:0<=i.x
 ·simp only[zl3,zcp,yj hx]
 ·simp only[zl3,zcp,yg hx]
theorem z0n {M7:Mc}{T:Nat}(hn:M7.qd.length=T):zbo P { M7 with qd:=M7.qd++[{ qb:=[F],ended:=false,clock:=c }] } T={ M7 with qd:=M7.qd++[{ qb:=[{ F with at_:=zah P P.code.length F.at_ }],ended:=false,clock:=c }] }:=by
 subst hn;unfold zbo;simp only[show(M7.qd++[({ qb:=[F],ended:=false,clock:=c }:Th)])[M7.qd.length]?=some { qb:=[F],ended:=false,clock:=c } by simp];simp only[List.getLast?_singleton];unfold zQ setTh zh;simp
theorem spawn_do (HC:AXok C)(O:zu C.P)(s:St C mb eb lab w lab M V e w)(p:TopP M V t h f n v fg fc lv)(hi:C.P.code[k]?=some i)(W:WfD C.P M h f i)(ho:i.op=7) :
  Calls prog 257 #[.p mb,.i t,.q fg (n*3),.q C.cg (k*14),.p eb] w
   (zdk C mb eb lab w M V (doM C.P M t h f i e)):=by
 obtain⟨R,hR⟩:∃ R,doM C.P M t h f i e=R:=⟨_,rfl⟩;rw[hR];obtain⟨F,hF⟩:=zqn W (.inl ho) (-1);have HM:=zH (show R=if M.qd.length=6 then none else some (zl3 C.P M t h f i.x F,{ e with obj:=M.qd.length }) by rw[<- hR];exact spawn_eq ho hF);have HE:=zH (fun(q:World) (ev:Evn) (sq:St C mb eb lab w lab M V ev q)=>zqm HC O sq p hi W (.inl ho) (-1) F hF);have cj:=zH (show F.at_<C.P.code.length by
  obtain⟨_,g,hg,_⟩:=W.io.c (.inl ho);rw[zk8 hg]at hF;injection hF with hF;obtain⟨_,j,hj,_⟩:=O.fs _ g hg;rw[<- hF];exact(yh.1 hj).1)
 have HN:=zH W.n;have co:=zH W.io.xl;have ci:=zH (show iw (zJ h.clock t+1) by
  have h1:=W.c t;have h2:=W.s;unfold zJ;cases hc:mget h.clock t with
  | none=>exact⟨by simp,by simp⟩
  | some z=>have:=h1 z hc;exact⟨by simp;omega,by simp;omega⟩)
 have m1:w.cell? (.a mb 1)=some (.s V.tb M.qd.length V.vd):=s.g.cells 1;have S:=zH s;have HI:=zH hi;have HP:=zH p;have TL:=zH (p.top s.g).lt;have ck:=zH O.s;clear hR W ho hF s hi p O;by_cases h6:M.qd.length=6
 ·have o6:((M.qd.length:Int)==6)=true:=by rw[h6];rfl
  have HR:=zH (HM.o.trans (yj h6));clear h6;go_enter func257,ntmps257;go_wp2;go_ret;rw[HR.o];exact⟨rfl,e,S.o⟩
 ·have o6:((M.qd.length:Int)==6)=false:=zI yo;have HR:=zH (HM.o.trans (yg h6));clear h6;have e3:w.cell? (.a eb 3)=some (.i e.obj):=S.o.b.cell 3;have ez:=S.o.fz;have el:=S.o.b.lt;have S1:=zH (S.o.ev 3 (.i M.qd.length) (e':={ e with obj:=M.qd.length }) rfl);go_enter func257,ntmps257;go_wp2_with fail;clear m1 e3 ez el o6;generalize w.setCell (.a eb 3) (.i M.qd.length)=w1 at S1 |-;refine(HE.o w1 _ S1.o).mono ?_;rintro x w2 ⟨d8,rfl,I,c3⟩;obtain⟨D,bd,c5,_,_⟩:=S1.o.nameF c3 I M.qd.length 0;obtain⟨la,kc,rfl⟩:=zZ I;have S3:=zH (bd.alloc (.k #[.i F.at_,.slice la F.qc.length kc,.i F.back] 250));have a0:=zH (c5.alloc (.k #[.i F.at_,.slice la F.qc.length kc,.i F.back] 250));have aj:Blk (w2.alloc (.k #[.i F.at_,.slice la F.qc.length kc,.i F.back] 250)) w2.heap.size 250 #[.i F.at_,.slice la F.qc.length kc,.i F.back]:=Blk.newAt rfl;have ad:=zH (show D w2.heap.size=.out from bd.g.hi _ yL);clear I c3 bd c5 HE S1;go_upto_region 6 with fail
  generalize w2.alloc (.k #[.i F.at_,.slice la F.qc.length kc,.i F.back] 250)=w3 at S3 a0 aj |-;generalize w2.heap.size=gb at aj ad |-;have b3:=zH aj;clear aj;have i3:=ic3 HC S3.o HI.o;go_upto_if 33 with fail
  clear i3;go_cut [] (fun wx=>St C mb eb lab w D (setTh M t (zcp h f i.x M.qd.length)) V { e with obj:=M.qd.length } wx/\FrIs wx D M.qd.length 0 F (.slice la F.qc.length kc)/\Blk wx gb 250 #[.i F.at_,.slice la F.qc.length kc,.i F.back])
  case first =>
   by_cases N:0<=i.x
   ·have hd:decide (i.x ≥ 0)=true:=decide_eq_true N;have HX:=zH (And.intro N co.o);have ae:=zH (show zcp h f i.x M.qd.length=zh h (xc f i.x (.thr M.qd.length))from yj N);obtain⟨x,hx⟩:∃ x:Nat,i.x=(x:Int):=⟨i.x.toNat,by have:=HX.o.1;omega⟩;have cw:x<f.qc.length:=yq HX.o.2;obtain⟨x0,N⟩:∃ x0,f.qc[x]?=some x0:=⟨_,yc cw⟩;have T:=HP.o.top S3.o.g;obtain⟨lg,lc,L⟩:=T.locP yo;have f1:=T.f1;have hc:=L.c x x0 N;have hz:=L.z;have d5:=L.l;have hu:=L.u;have d6:lg≠eb:=fun h1=>by have:=T.F.l lg (by rw[hu];rfl);rw[h1,S3.o.eo]at this;cases this
    have d7:lg≠mb:=fun h1=>by have:=T.F.l lg (by rw[hu];rfl);rw[h1,S3.o.g.mi.ml]at this;cases this
    have d4:fg≠mb:=fun h1=>by have:=T.l;rw[h1,S3.o.g.mi.ml]at this;cases this
    have d3:fg≠eb:=fun h1=>by have:=T.l;rw[h1,S3.o.eo]at this;cases this
    have fl:=T.fl;obtain⟨d9,z1,ch⟩:=za3 x0;rw[ch]at hc;have HU:=zH hu;rw[hu]at f1;have i3:=ic3 HC S3.o HI.o;have cl:=icl HC S3.o HI.o;have S4:=zH ((S3.o.locI (x:=i.x) (y:=.thr M.qd.length) HP.o hu).drew);have b8:D lg=.locs t n:=T.F.l lg (by rw[hu];rfl);have Q:=zH (show FrIs (w3.setCell (.a lg x) (vlV (.thr M.qd.length))).drew D M.qd.length 0 F (.slice la F.qc.length kc)from⟨zn a0.o.r fun q e=>yt _ _ _ _ (fun h1=>by
     have h2:=a0.o.l q e;rw[show q=lg from h1,b8]at h2;injection h2 with h2 _;have:=TL.o;omega),a0.o.l⟩)
    have U:=zH (show Blk (w3.setCell (.a lg x) (vlV (.thr M.qd.length))).drew gb 250 #[.i F.at_,.slice la F.qc.length kc,.i F.back]from b3.o.qi (p:=(.a lg x)) (fun h1=>by
     have:=ad.o;rw[show gb=lg from h1,b8]at this;cases this) _)
    rw[hx]at i3 S4 ae hd;rw[ybl]at S4;simp only[vlV]at S4 Q U;have cp:=zH hx;rw[hx];clear T L hx N ch hu b8;go_wp2_with fail;go_region;go_wp2;go_meet;exact⟨by rw[cp.o,ae.o];exact S4.o,Q.o,U.o⟩
   ·have hd:decide (0<=i.x)=false:=decide_eq_false N;have ae:=zH (show zcp h f i.x M.qd.length=h from yg N);have cn:=zH (show setTh M t h=M by unfold setTh;rw[zgz HP.o.ht]);have d2:i.x<0:=yo;go_wp2;go_meet;exact⟨by rw[ae.o,cn.o];exact S3.o,a0.o,b3.o⟩
  case rest =>
   obtain⟨cd,c4,c6⟩:=hcut;have S4:=zH cd;have Q:=zH c4;have U:=zH c6;clear cd c4 c6 S3 a0 b3;have bg:=zH (show(zcp h f i.x M.qd.length).clock=h.clock by unfold zcp;split <;> rfl)
   have a7:=zH (show(setTh M t (zcp h f i.x M.qd.length)).qd[t]?=some (zcp h f i.x M.qd.length)from setAt HP.o.ht);have d1:=zH (show(setTh M t (zcp h f i.x M.qd.length)).qd.length=M.qd.length by simp[setTh]);have T4:=S4.o.g.mi.t t _ v a7.o HP.o.hv;have ao:zb wc v.cb h.clock:=by have:=T4.c;rw[bg.o]at this;exact this
   have bh:=zH (zk4 wc ao);have m1:wc.cell? (.a mb 1)=some (.s V.tb M.qd.length V.vd):=(S4.o.g.cells 1).trans (by simp[zbv,setTh]);have t2:wc.cell? (.a V.tb (t*3+2))=some (.m v.cb):=zfi S4.o.g.mi a7.o HP.o.hv 2 yo;have tl:=TL.o;clear T4 ao;go_wp2_with fail;refine bh.o.mono ?_;rintro x w5 ⟨rfl,b9,ag,cx⟩;obtain⟨cb,Y⟩:∃ cb,cb=wc.heap.size:=⟨_,rfl⟩;have E:=zH (show D cb=.out/\w.heap.size<=cb/\C.w0.heap.size<=cb/\cb≠eb/\cb≠gb/\cb<w5.heap.size from⟨by rw[Y];exact S4.o.g.hi _ yL,by rw[Y];exact S4.o.o.size,by rw[Y];exact S4.o.g.on.size,by rw[Y];exact ybk S4.o.b.lt,by rw[Y];exact ybk U.o.lt,by omega⟩);have S5:=zH (S4.o.below ag);have bj:=zH (U.o.below ag U.o.lt);have a4:=zH (show FrIs w5 D M.qd.length 0 F (.slice la F.qc.length kc)from⟨zn Q.o.r fun q e=>ag.block q (Q.o.r.lt q e).2,Q.o.l⟩);rw[<- Y]at b9 |-;have aw:zb w5 cb h.clock:=b9;clear b9 ag cx Y bh m1 t2 S4 U Q;have cf:(Lit.int .i64 (M.qd.length:Int)).wf=true:=wfI (iwNat (yq HN.o));obtain⟨w6,be,c9,ai,cy⟩:=aw.update zdu underlying252 cf (1:Int);have S6:=zH (S5.o.iter ai E.o.1 E.o.2.1 E.o.2.2.1 E.o.2.2.2.1);have bk:=zH (bj.o.grown ai (fun e=>by injection e with e;exact E.o.2.2.2.2.1 e.symm));have a5:=zH (show FrIs w6 D M.qd.length 0 F (.slice la F.qc.length kc)from⟨zn a4.o.r fun q e=>ai.block q (a4.o.r.lt q e).2 (fun e2=>by
    injection e2 with e2;have h1:=a4.o.l q e;rw[e2,E.o.1]at h1;cases h1),a4.o.l⟩)
   have bn:=zH c9;have bu:=zH (show cb<w6.heap.size by have:=E.o.2.2.2.2.2;omega);clear aw cf c9 ai cy S5 bj a4;go_upto_region 10 with fail
   clear be;have T6:=S6.o.g.mi.t t _ v a7.o HP.o.hv;have a8:zb w6 v.cb h.clock:=by have:=T6.c;rw[bg.o]at this;exact this
   have am:D v.cb=.clk t:=T6.cl;have m1:w6.cell? (.a mb 1)=some (.s V.tb M.qd.length V.vd):=(S6.o.g.cells 1).trans (by simp[zbv,setTh]);have t2:w6.cell? (.a V.tb (t*3+2))=some (.m v.cb):=zfi S6.o.g.mi a7.o HP.o.hv 2 yo;have bf:(Lit.int .i64 (t:Int)).wf=true:=wfI (iwNat (yq HN.o));have cs:=a8.look underlying252 bf;obtain⟨w7,be,ca,a9,cz⟩:=a8.update zdu underlying252 bf (zJ h.clock t+1);have S7:=zH (S6.o.clkS a7.o HP.o.hv a9 ca);have bm:=zH (bk.o.grown a9 (fun e=>by
    injection e with e;have:=ad.o;rw[e,am]at this;cases this))
   have az:=zH (show FrIs w7 D M.qd.length 0 F (.slice la F.qc.length kc)from⟨zn a5.o.r fun q e=>a9.block q (a5.o.r.lt q e).2 (fun e2=>by
    injection e2 with e2;have h1:=a5.o.l q e;rw[e2,am]at h1;cases h1),a5.o.l⟩)
   have bo:=zH (show zb w7 cb (mput h.clock M.qd.length 1)from bn.o.qa (a9.block _ bu.o (fun e=>by
    injection e with e;have:=E.o.1;rw[e,am]at this;cases this)))
   have bz:=zH (show cb<w7.heap.size by have:=bu.o;omega);have cu:wrap64 (zJ h.clock t+1)=zJ h.clock t+1:=IntWalk.wrap64_in _ ci.o;clear T6 a8 am bf ca a9 cz S6 bk a5 bn;go_wp2_with fail;clear be cs cu m1 t2;refine rgl 13 (fun(W':World)=>W'.cell? (.a mb 1)=some (.s V.tb M.qd.length V.vd)/\(∀ j,W'.cell? (.a gb j)=#[.i F.at_,.slice la F.qc.length kc,.i F.back][j]?)) ?_;have H:=zH (show(setTh (setTh M t (zcp h f i.x M.qd.length)) t { zcp h f i.x M.qd.length with clock:=mput h.clock t (zJ h.clock t+1) }).qd.length=M.qd.length by simp[setTh]);obtain⟨M7,b7⟩:∃ M7,setTh (setTh M t (zcp h f i.x M.qd.length)) t { zcp h f i.x M.qd.length with clock:=mput h.clock t (zJ h.clock t+1) }=M7:=⟨_,rfl⟩;rw[b7]at S7 H;have bp:=zH b7;have S8:=zH S7.o.drew;have ab:=zH bm.o.drew;have b1:=zH (show FrIs w7.drew D M.qd.length 0 F (.slice la F.qc.length kc)from⟨az.o.r,az.o.l⟩);have b4:=zH (bo.o.drew);have af:=zH (show cb<w7.drew.heap.size from bz.o);clear b7 S7 bm az bo bz;generalize w7.drew=w8 at S8 ab b1 b4 af |-;have A:=And.intro (show w8.cell? (.a mb 1)=some (.s V.tb M.qd.length V.vd)from(S8.o.g.cells 1).trans (by simp[zbv,H.o])) ab.o.cell
   iterate 6(refine tK 0 rfl A ?_)
   refine tK 7 rfl A ?_;refine rdy 6 rfl fun K O=>?_;go_simp;have S9:=zH (S8.o.alloc (.k #[.i F.at_,.slice la F.qc.length kc,.i F.back] 250));have ac:=zH (ab.o.alloc (.k #[.i F.at_,.slice la F.qc.length kc,.i F.back] 250));have b2:=zH (b1.o.alloc (.k #[.i F.at_,.slice la F.qc.length kc,.i F.back] 250));have bb:zb (w8.alloc (.k #[.i F.at_,.slice la F.qc.length kc,.i F.back] 250)) cb (mput h.clock M.qd.length 1):=b4.o.qa (yak _ _ _ af.o);have ah:Blk (w8.alloc (.k #[.i F.at_,.slice la F.qc.length kc,.i F.back] 250)) w8.heap.size 250 #[.i F.at_,.slice la F.qc.length kc,.i F.back]:=Blk.newAt rfl;have a1:=zH (show D w8.heap.size=.out/\w.heap.size<=w8.heap.size/\C.w0.heap.size<=w8.heap.size/\w8.heap.size≠eb/\w8.heap.size≠cb from⟨S8.o.g.hi _ yL,S8.o.o.size,S8.o.g.on.size,ybk S8.o.b.lt,ybk af.o⟩);clear S8 ab b1 b4 af A;generalize w8.alloc (.k #[.i F.at_,.slice la F.qc.length kc,.i F.back] 250)=w9 at S9 ac b2 bb ah |-;generalize w8.heap.size=fb at ah a1 |-;have b5:=zH bb;have bi:=zH ah;clear bb ah;have c0:w9.cell? (.a mb 1)=some (.s V.tb M.qd.length V.vd):=(S9.o.g.cells 1).trans (by simp[zbv,H.o]);refine O.o _ _ ⟨c0,ac.o.cell⟩ (fun A=>?_);clear O K c0;refine tK 8 rfl A ?_;refine rdy 9 rfl fun K O=>?_;go_simp;have G:=zH (S9.o.alloc (.k #[.s fb 1 1,.bool false,.m cb] 254));have Z:=zH (ac.o.alloc (.k #[.s fb 1 1,.bool false,.m cb] 254));have a3:=zH (b2.o.alloc (.k #[.s fb 1 1,.bool false,.m cb] 254));have aa:zb (w9.alloc (.k #[.s fb 1 1,.bool false,.m cb] 254)) cb (mput h.clock M.qd.length 1):=b5.o.qa (yak _ _ _ b5.o.lt);have J:=zH (bi.o.alloc (.k #[.s fb 1 1,.bool false,.m cb] 254));have ak:Blk (w9.alloc (.k #[.s fb 1 1,.bool false,.m cb] 254)) w9.heap.size 254 #[.s fb 1 1,.bool false,.m cb]:=Blk.newAt rfl;clear S9 ac b2 b5 bi A;generalize w9.alloc (.k #[.s fb 1 1,.bool false,.m cb] 254)=w10 at G Z a3 aa J ak |-;generalize w9.heap.size=nb at ak |-;have a6:=zH aa;have bq:=zH ak;clear aa ak;have an:w10.cell? (.a mb 1)=some (.s V.tb M.qd.length V.vd):=(G.o.g.cells 1).trans (by simp[zbv,H.o]);refine O.o _ _ ⟨an,Z.o.cell⟩ (fun A=>?_);clear O K an;refine rdy 10 rfl fun K O=>?_;refine zan zoq rfl _ _ rfl 0 _ M.qd.length (zcg M7.qd V.tl) nb _ _ (by have:=G.o.g.mi.r;rw[H.o]at this;exact this) bq.o rfl rfl rfl yE (yq HN.o) yZ ?_;intro g cap a2 I hg c2;have br:=zH (show ∃ lab',St C mb eb lab w lab' { M7 with qd:=M7.qd++[{ qb:=[F],ended:=false,clock:=mput h.clock M.qd.length 1 }] } { V with tb:=g,vd:=cap,tl:=V.tl++[⟨.s fb 1 1,[.slice la F.qc.length kc],cb⟩] } { e with obj:=M.qd.length } (a2.setCell (.a mb 1) (.s g (M.qd.length+1) cap))from by
    have au:∀ k,D k≠.out->(if k=fb then Rl.frs M.qd.length else if k=cb then .clk M.qd.length else D k)=D k:=fun k hk=>by
     rw[yg (fun e=>hk (by rw[e];exact a1.o.1)),yg (fun e=>hk (by rw[e];exact E.o.1))]
    have d0:=G.o.relab (lab':=fun k=>if k=fb then Rl.frs M.qd.length else if k=cb then .clk M.qd.length else D k) au
     (fun k hk=>by rw[yg (yq a1.o.2.1),yg (yq E.o.2.1)])
     (fun k hk=>by rw[yg (yq a1.o.2.2.1),yg (yq E.o.2.2.1)])
     (fun k hk=>by
      rw[yg (yq J.o.lt),yg (yq a6.o.lt)];exact G.o.g.hi k hk)
     (by rw[yg (fun e=>a1.o.2.2.2.1 e.symm),yg (fun e=>E.o.2.2.2.1 e.symm)];exact G.o.eo)
    have hT:ThIs w10 (fun k=>if k=fb then Rl.frs M.qd.length else if k=cb then .clk M.qd.length else D k) M.qd.length { qb:=[F],ended:=false,clock:=mput h.clock M.qd.length 1 } ⟨.s fb 1 1,[.slice la F.qc.length kc],cb⟩ :=
     ⟨rfl,⟨rfl,.inr ⟨fb,1,_,rfl,yD _,J.o,yr _,by decide,rfl,rfl⟩⟩,fun q e=>by
      injection e with e;exact yj e.symm,fun j f' u a b=>by
      cases j with
      | zero =>
       simp at a b;subst a b;exact a3.o.vq au
      | succ j=>simp at a,a6.o,by
      show(if cb=fb then _ else _)=_;rw[yg (fun e=>a1.o.2.2.2.2 e.symm),yj rfl]⟩
    have:=d0.pushT (h:={ qb:=[F],ended:=false,clock:=mput h.clock M.qd.length 1 }) (v:=⟨.s fb 1 1,[.slice la F.qc.length kc],cb⟩) (by rw[H.o];exact hT) (by rw[H.o];exact I) hg (by
     rcases c2 with h | h
     ·left;injection h
     ·exact .inr h)
    rw[H.o]at this;exact this)
   have cc:mb≠V.tb:=fun e=>by have h1:=G.o.g.mi.ml;rw[e,G.o.g.mi.rl]at h1;cases h1
   have c7:gb≠V.tb:=fun e=>by have h1:=ad.o;rw[e,G.o.g.mi.rl]at h1;cases h1
   have k1:=hg.block mb G.o.mbl (fun e=>cc (by injection e));have k2:=hg.block gb Z.o.lt (fun e=>c7 (by injection e));have ct:∀ j,a2.frozen? (.a mb j)=false:=fun j=>by
    have:=G.o.mbf j;unfold World.frozen? at this |-;rw[show a2.heap[(⟨mb,j,none⟩:Addr).block]? = w10.heap[(⟨mb,j,none⟩:Addr).block]? from k1];exact this
   have c8:a2.cell? (.a mb 1)=some (.s V.tb M.qd.length V.vd):=(zjl k1).trans A.1;have ap:∀ j,a2.cell? (.a gb j)=#[.i F.at_,.slice la F.qc.length kc,.i F.back][j]? := fun j=>(zjl k2).trans (A.2 j);clear I hg c2 cc c7 k1 k2 A G Z a3 a6 J bq;refine O.o _ _ ⟨c8,ap⟩ (fun A=>?_);clear O K
   iterate 2(refine tK 11 rfl A ?_)
   refine lst rfl fun K O=>?_;go_simp;refine O _ _ ?_;clear O K A ct c8 ap;obtain⟨ay,ce⟩:=br.o;have b6:=zH ce;clear ce br;generalize a2.setCell (.a mb 1) (.s g (M.qd.length+1) cap)=w12 at b6 |-;have cm:=zH (zoi C HC ck.o ay mb _ _ M.qd.length { qb:=[F],ended:=false,clock:=mput h.clock M.qd.length 1 } F w12 b6.o.g (by show(M7.qd++[_])[M.qd.length]? = _;rw[<- H.o];simp) rfl cj.o);go_wp2_with fail;refine cm.o.mono ?_;rintro x da ⟨rfl,aq,ax⟩;have cq:=zH (b6.o.ms aq ax);clear aq ax;go_wp2;go_ret;rw[HR.o];refine⟨rfl,ay,_,cq.o.cast ?_⟩;rw[z0n (H.o),<- bp.o,zgy];rfl
end
end
section
theorem skip_nil {C:AX}{lab:Lab}{mb:Nat}{M:Mc}{V:MV}{t:Nat}{h:Th}{w:World}(g:MSt C lab mb M V w)(ht:M.qd[t]?=some h)(hl:h.qb=[]) :
  Calls prog 117 #[.p mb,.i t] w (zi6 C lab mb (zbo C.P M t) V w):=by
 obtain⟨v,hv⟩:∃ v,V.tl[t]?=some v:=⟨_,yc (by rw[g.mi.n];exact(yh.1 ht).1)⟩;have D:zbo C.P M t=M:=by unfold zbo;rw[ht];simp[hl]
 have T:=g.mi.t t h v ht hv;obtain⟨a,c,hu⟩:=zZ T.r;have t0:w.cell? (.a V.tb (t*3))=some (.slice a 0 c):=(zfi g.mi ht hv 0 yo).trans (by show some v.fv=_;rw[hu,hl];rfl);have G:w.cell? (.a mb 1)=some (.s V.tb M.qd.length V.vd):=g.cells 1;have tl:t<M.qd.length:=(yh.1 ht).1;rw[D];have A:=zH (show zi6 C lab mb M V w (.e) w from⟨rfl,g,fun E=>Out.refl _ _ _⟩);clear g ht hl hv D T hu;go_enter func117,ntmps117;go_wp2_with fail;refine ym (yp rfl _ _ _) rfl ?_;exact A.o
def zcw (op:Nat):Nat:=if op=1 then 250 else if op=13\/op=14 then 251 else if op=2\/op=3\/op=4\/op=5 then 252 else if op=6 then 253 else if op=9 then 254 else if op=10 then 255 else if op=8 then 256 else if op=7 then 257 else if op=11 then 258 else 259
theorem does_any (w:World)(mb op:Nat)(ho:1<=op/\op<=14):Calls prog 165 #[.p mb,.i op] w fun e w'=>e=.r (.func (.func (zcw op)) #[.p mb] #[])/\w'=w:=by
 have D:∀ (fn:Fn) (first cap:Array Value) (w:World),(Instr.makeFunc fn first cap).run prog w=.ok (.func fn first cap) w:=fun _ _ _ _=>rfl;have A:op=1\/op=2\/op=3\/op=4\/op=5\/op=6\/op=7\/op=8\/op=9\/op=10\/op=11\/op=12\/op=13\/op=14:=yo;clear ho;rcases A with rfl | rfl | rfl | rfl | rfl | rfl | rfl | rfl | rfl | rfl | rfl | rfl | rfl | rfl
 all_goals
  go_enter func165,ntmps165;go_wp2;go_ret;exact⟨rfl,rfl⟩
section
variable {C:AX} {mb eb:Nat} {lab:Lab} {w:World} {M:Mc} {V:MV} {e:Evn} {t n fg fc k:Nat} {f:Fr} {h:Th} {v:TV} {lv:Value} {i:In}
theorem do_any (HC:AXok C)(hK:zu C.P)(s:St C mb eb lab w lab M V e w)(p:TopP M V t h f n v fg fc lv)(hi:C.P.code[k]?=some i)(W:WfD C.P M h f i)(ho:1<=i.op/\i.op<=14)(hr:i.op=8->∀ z:Nat,f.qc[i.y.n]?=some (.thr z)->z≠t)(hev:e.val=.num 0) :
  Calls prog (zcw i.op) #[.p mb,.i t,.q fg (n*3),.q C.cg (k*14),.p eb] w
   (zdk C mb eb lab w M V (doM C.P M t h f i e)):=by
 unfold zcw;split
 ·exact set_do HC s p hi W (by assumption)
 split
 ·exact test_do HC s p hi W (by assumption)
 split
 ·exact zu1 HC s p hi W (by assumption) hev
 split
 ·exact make_do HC s p hi W (by assumption)
 split
 ·exact lock_do HC s p hi W (by assumption)
 split
 ·exact z04 HC s p hi W (by assumption)
 split
 ·exact join_do HC s p hi W (by assumption) (hr (by assumption))
 split
 ·exact spawn_do HC hK s p hi W (by assumption)
 split
 ·exact call_do HC hK s p hi W (by assumption)
 ·exact back_do HC s p hi W yo
end
end
section
section
variable {P:Pr} {M M':Mc} {b:Int} {t n:Nat} {h h':Th} {f f':Fr} {x:In} {e ev:Evn}
theorem VlOk.mono {n:Nat}(h:VlOk n v)(hn:n<=m):VlOk m v:=by
 cases v with
 | num _=>exact h
 | obj _=>exact h
 | thr z=>exact⟨h.1,Int.lt_of_lt_of_le h.2 yo⟩
theorem WfFr.mono {n:Nat}(h:WfFr P n f)(hn:n<=m):WfFr P m f:=⟨h.at_,fun x hx=>(h.v x hx).mono hn⟩
theorem WfTh.mono {n:Nat}(w:WfTh P n b h)(hn:n<=m)(hb:b<=b'):WfTh P m b' h:=⟨w.l,w.e,fun f hf=>(w.f f hf).mono hn,w.b,fun x n hx=>⟨(w.c x n hx).1,Int.le_trans (w.c x n hx).2 hb⟩⟩
theorem WfMb.mono (w:WfMb P b M)(hb:b<=b'):WfMb P b' M:=⟨w.n,fun h A=>(w.t h A).mono yL hb,w.o,w.h,fun x c hx y n hy=>⟨(w.k x c hx y n hy).1,Int.le_trans (w.k x c hx y n hy).2 hb⟩⟩
theorem WfMb.setTh (w:WfMb P b M)(h1:WfTh P M.qd.length b h'):WfMb P b (setTh M t h') :=
 ⟨by simpa [Go.Proofs.YtkmcihhndgdhpaaGreat.setTh] using w.n,fun u hu=>by
  rw[show(Go.Proofs.YtkmcihhndgdhpaaGreat.setTh M t h').qd.length=M.qd.length by simp[Go.Proofs.YtkmcihhndgdhpaaGreat.setTh]];rcases ya2 hu with hu | rfl
  ·exact w.t u hu
  ·exact h1,w.o,by simpa [Go.Proofs.YtkmcihhndgdhpaaGreat.setTh] using w.h,w.k⟩
theorem zua {a:Ar}(hf:∀ v ∈ f.qc,VlOk n v)(ha:a.c=true->iw a.n):VlOk n (valM f a):=by
 unfold valM;split
 ·rename_i A;exact ha A
 ·rw[yab];cases hg:f.qc[a.n]? with
  | none=>exact⟨by omega,by omega⟩
  | some v=>exact hf v (yl hg)
theorem zkp (w:WfTh P n b h)(hf:h.qb[k]?=some f)(h1:WfFr P n f')(h2:f'.back=f.back)(h3:f'.qc.length=f.qc.length):WfTh P n b { h with qb:=h.qb.set k f' }:=by
 refine⟨by simpa using w.l,fun G hx=>w.e G (by simpa using hx),fun u hu=>?_,fun i u g hu A=>?_,w.c⟩
 ·rcases ya2 hu with hu | rfl
  ·exact w.f u hu
  ·exact h1
 ·rw[yc0]at hu A;have H:=(yh.1 hf).1;by_cases D:k=i+1
  ·rw[yj D,yj yo]at hu;rw[yg yo]at A;injection hu with hu;subst hu;rw[h2];exact w.b i f g (D ▸ hf) A
  ·rw[yg D]at hu;by_cases E:k=i
   ·rw[yj E,yj yo]at A;injection A with A;subst A;rw[h3];exact w.b i u f hu (E ▸ hf)
   ·rw[yg E]at A;exact w.b i u g hu A
theorem zou (w:WfFr P n f){x:Int}(hv:VlOk n v):WfFr P n (xc f x v):=by
 obtain⟨i,g,h1,h2,h3⟩:=w.at_;refine⟨⟨i,g,h1,h2,by simpa [xc] using h3⟩,fun y A=>?_⟩;rcases ya2 A with A | rfl
 ·exact w.v y A
 ·exact hv
theorem zus (x:Int):iw (IntKind.i64.wrap x):=by
 rw[<- wrapE];unfold wrap64 iw;omega
theorem zt2 (c:Bool):VlOk n (zdh c):=by cases c <;> exact⟨by omega,by omega⟩
theorem bin_ok {u r:Vl}(hu:VlOk n u)(h:binM k u v=some r):VlOk n r:=by
 unfold binM at h;split at h
 ·injection h with h;exact h ▸ hu
 ·split at h
  ·injection h with h;subst h;split
   ·exact zus _
   split
   ·exact zus _
   split <;> exact zt2 _
  ·split at h
   ·injection h with h;exact h ▸ zt2 _
   ·cases h
theorem zrt {d:List (Int×Int)}(hc:∀ x n,mget c x=some n->0<=n/\n<=b)(hd:∀ x n,mget d x=some n->0<=n/\n<=b)(hb:0<=b):∀ x n,mget (zd9 c d) x=some n->0<=n/\n<=b:=fun x n hx=>by
 rw[zrr]at hx;unfold mgM at hx;split at hx
 ·exact hc x n hx
 ·rename_i m hm;injection hx with hx;have h1:=hd x m hm;have h2:0<=zJ c x/\zJ c x<=b:=by
   unfold zJ;cases hg:mget c x with
   | none=>exact⟨by simp,by simpa using hb⟩
   | some z=>exact hc x z hg
  omega
theorem zn2 {y z:Int}(hc:∀ x n,mget c x=some n->0<=n/\n<=b)(hz:0<=z/\z<=b')(hb:b<=b'):∀ x n,mget (mput c y z) x=some n->0<=n/\n<=b':=fun x n hx=>by
 rw[xd]at hx;split at hx
 ·injection hx with hx;omega
 ·have:=hc x n hx;omega
theorem zrv (hc:∀ x n,mget c x=some n->0<=n/\n<=b)(hb:0<=b)(x:Int):0<=zJ c x/\zJ c x<=b:=by
 unfold zJ;cases hg:mget c x with
 | none=>exact⟨by simp,by simpa using hb⟩
 | some z=>exact hc x z hg
theorem ent_wf (hK:zu P){back:Int}(hio:zi4 P f.qc.length x)(ho:x.op=7\/x.op=11)(hv:∀ v ∈ f.qc,VlOk n v)(D:zdr P f x back=some F):WfFr P n F/\F.back=back:=by
 obtain⟨_,g,E,hl⟩:=hio.c ho;rw[zk8 E]at D;injection D with D;subst D;obtain⟨_,j,I,G⟩:=hK.fs _ g E;refine⟨⟨⟨j,g,I,by rw[G];exact E,zna yL hl⟩,fun y A=>?_⟩,rfl⟩;rcases yu.1 A with A | A
 ·obtain⟨a,H,rfl⟩:=yae.1 A;exact zua hv fun _=>hio.k.2.2 a (List.mem_of_mem_take H)
 ·obtain rfl:y=.num 0:=ybo (List.mem_of_mem_drop A);exact⟨by omega,by omega⟩
structure Stp (P:Pr)(M:Mc)(t:Nat)(h:Th)(n:Nat)(f:Fr)(x:In):Prop where
 ht:M.qd[t]?=some h
 hn:h.qb.length=n+1
 hf:h.qb[n]?=some f
 hx:P.code[f.at_]?=some x
 op:x.op≠20
 en:h.ended=false
theorem Stp.last {n:Nat}(s:Stp P M t h n f x):h.qb.getLast? = some f:=by
 rw[yar,s.hn,ya4];exact s.hf
theorem Stp.top {n:Nat}(s:Stp P M t h n f x)(f':Fr):zh h f'={ h with qb:=h.qb.set n f' }:=by
 unfold zh;rw[s.hn,ya4]
theorem Stp.io {n:Nat}(s:Stp P M t h n f x)(hK:zu P)(w:WfMb P b M):zi4 P f.qc.length x/\WfFr P M.qd.length f/\(x.op≠12->WfFr P M.qd.length { f with at_:=f.at_+1 }):=by
 have E:=(w.t h (yl s.ht)).f f (yl s.hf);obtain⟨i,g,h1,h2,h3⟩:=E.at_;rw[s.hx]at h1;injection h1 with h1;subst h1;obtain⟨H,h4,h5⟩:=hK.ins _ x s.hx;rw[h2]at h4;injection h4 with h4;subst h4;refine⟨by rw[h3];exact h5,E,fun A=>?_⟩;obtain⟨j,G,D⟩:=hK.nx _ x s.hx A s.op;exact⟨⟨j,g,G,by rw[D];exact h2,h3⟩,E.v⟩
theorem ztp (hK:zu P):∀ (n k:Nat) (i:In),P.code[k]?=some i->∃ j,P.code[zah P n k]?=some j/\j.fn=i.fn
 | 0,k,i,h=>⟨i,h,rfl⟩
 | n+1,k,i,h=>by
  by_cases A:i.op=20
  ·rw[ztq h A];obtain⟨_,_,D⟩:=hK.ins k i h;obtain⟨j,H,E⟩:=D.tgt (.inr (.inr A));obtain⟨q,I,G⟩:=ztp hK n i.to j H;exact⟨q,I,G.trans E⟩
  ·rw[zts h A];exact⟨i,h,rfl⟩
theorem zud (hK:zu P){n:Nat}(w:WfFr P n f):WfFr P n { f with at_:=zah P P.code.length f.at_ }:=by
 obtain⟨i,g,h1,h2,h3⟩:=w.at_;obtain⟨j,D,A⟩:=ztp hK P.code.length f.at_ i h1;exact⟨⟨j,g,D,by rw[A];exact h2,h3⟩,w.v⟩
theorem WfMb.cast {M':Mc}(w:WfMb P b M)(h1:M'.qd=M.qd)(h2:M'.qt=M.qt)(h3:M'.held=M.held)(h4:M'.qq=M.qq):WfMb P b M' :=
 ⟨by rw[h1];exact w.n,by rw[h1];exact w.t,by rw[h2];exact w.o,by rw[h3,h1];exact w.h,by rw[h4];exact w.k⟩
theorem wf_do {n:Nat}(hK:zu P)(w:WfMb P b M)(hb:0<=b)(s:Stp P M t h n f x)(A:doM P (zQ M t h { f with at_:=f.at_+1 }) t (zh h { f with at_:=f.at_+1 }) { f with at_:=f.at_+1 } x e=some (M',ev)):WfMb P (b+1) M':=by
 obtain⟨U,aa,ac⟩:=s.io hK w;have hT:=w.t h (yl s.ht);obtain⟨I,K⟩:∃ I:Fr,I={ f with at_:=f.at_+1 }:=⟨_,rfl⟩;obtain⟨h1,a6⟩:∃ h1,h1=zh h I:=⟨_,rfl⟩;obtain⟨D,a8⟩:∃ D,D=zQ M t h I:=⟨_,rfl⟩;rw[<- K,<- a6,<- a8]at A;have e1:h1={ h with qb:=h.qb.set n I }:=by rw[a6,s.top]
 have eM:D=setTh M t h1:=by rw[a8,a6];rfl
 have hv:∀ v ∈ I.qc,VlOk M.qd.length v:=by rw[K];exact aa.v
 have L:D.qd.length=M.qd.length:=by rw[eM];simp[setTh]
 have a0:h1.qb.length=n+1:=by rw[e1];simpa using s.hn
 have ab:h1.qb[n]?=some I:=by rw[e1];exact setAt s.hf
 have a5:∀ G:Fr,WfFr P M.qd.length G->G.back=f.back->G.qc.length=f.qc.length->WfMb P b (zQ D t h1 G):=fun G J g2 g3=>by
  have:zQ D t h1 G=setTh M t { h with qb:=h.qb.set n G }:=by
   rw[eM];unfold zQ;rw[zgy];unfold zh;rw[a0,ya4,e1];simp
  rw[this];exact w.setTh (zkp hT s.hf J g2 g3)
 have N:x.op≠12->WfMb P b D/\WfTh P M.qd.length b h1:=fun S=>by
  have g:=zkp hT s.hf (f':=I) (by rw[K];exact ac S) (by rw[K]) (by rw[K]);rw[<- e1]at g;exact⟨by rw[eM];exact w.setTh g,g⟩
 have a2:x.op≠12->WfFr P M.qd.length I:=fun S=>by rw[K];exact ac S
 have Y:∀ (S:x.op≠12) (q:Int) (v:Vl),VlOk M.qd.length v->WfMb P b (zQ D t h1 (xc I q v)):=fun S q v hv=>a5 _ (zou (a2 S) hv) (by rw[K];rfl) (by rw[K];simp[xc]);have E:b<=b+1:=yo;have hy:VlOk M.qd.length (valM I x.y):=zua hv fun _=>U.k.1;have a4:=hT.c;have a3:h1.clock=h.clock:=by rw[e1]
 unfold doM at A;by_cases ad:x.op=1
 ·rw[yj ad]at A;cases hbn:binM x.bin (valM I x.y) (valM I x.z)with
  | none=>rw[hbn]at A;cases A
  | some v =>
   rw[hbn]at A;injection A with A;injection A with A _;rw[<- A];exact(Y yo _ _ (bin_ok hy hbn)).mono E
 rw[yg ad]at A;by_cases ae:x.op=13\/x.op=14
 ·rw[yj ae]at A;injection A with A;injection A with A _;rw[<- A];by_cases hz:valM I x.y=.num 0
  ·rw[yj hz];obtain⟨j,hj,ay⟩:=U.tgt yo;obtain⟨i,g,q1,q2,q3⟩:=aa.at_;rw[s.hx]at q1;injection q1 with q1;subst q1;refine(a5 { I with at_:=x.to } ⟨⟨j,g,hj,by rw[ay];exact q2,by rw[K];exact q3⟩,hv⟩ (by rw[K]) (by rw[K])).mono E
  ·rw[yg hz];exact(N yo).1.mono E
 rw[yg ae]at A;by_cases af:x.op=2\/x.op=3\/x.op=4\/x.op=5
 ·rw[yj af]at A
  dsimp only at A
  generalize (if x.op=4 then valM I x.y else if x.op=5 then I.qc.getD x.x.toNat (.num 0)else .obj (-1))=ov at A;cases ov with
  | num _=>cases A
  | thr _=>cases A
  | obj o =>
   dsimp only at A
   by_cases an:x.op=3\/x.op=5
   ·rw[yj an]at A;injection A with A;injection A with A _;rw[<- A];have H:=(N yo).1.mono E;refine⟨H.n,H.t,H.o,fun q v Q=>?_,H.k⟩;rw[show(ze0 { D with held:=mput D.held (o,(x.var:Int)) (valM I x.y) } t h1.clock (o,x.var) x.place true).held=mput D.held (o,(x.var:Int)) (valM I x.y)from rfl,xd]at Q;show VlOk D.qd.length v;split at Q
    ·injection Q with Q;rw[<- Q,L];exact hy
    ·exact H.h q v Q
   ·rw[yg an]at A;injection A with A;injection A with A _;rw[<- A];have aw:VlOk M.qd.length ((mget D.held (o,(x.var:Int))).getD (.num 0)):=by
     cases O:mget D.held (o,(x.var:Int))with
     | none=>exact⟨by omega,by omega⟩
     | some v=>rw[<- L];exact(N yo).1.h _ v O
    have H:=(Y yo x.x _ aw).mono E;exact⟨H.n,H.t,H.o,H.h,H.k⟩
 rw[yg af]at A;by_cases ag:x.op=6
 ·rw[yj ag]at A;by_cases h8:D.qt=8
  ·rw[yj h8]at A;cases A
  ·rw[yg h8]at A;injection A with A;injection A with A _;rw[<- A];have a1:D.qt<=8:=by rw[eM];exact w.o
   have H:=(Y yo x.x (.obj D.qt) ⟨by omega,by omega⟩).mono E;exact⟨H.n,H.t,by show D.qt+1<=8;omega,H.h,H.k⟩
 rw[yg ag]at A;by_cases ah:x.op=9
 ·rw[yj ah]at A;injection A with A;injection A with A _;rw[<- A];obtain⟨H,J⟩:=N yo;have R:WfTh P D.qd.length b { h1 with clock:=zd9 h1.clock ((mget D.qq x.var).getD []) }:=by
   rw[L];refine⟨J.l,J.e,J.f,J.b,zrt J.c (fun q m Q=>?_) hb⟩;cases O:mget D.qq (x.var:Int)with
   | none=>rw[O]at Q;cases Q
   | some c=>rw[O]at Q;exact H.k _ c O q m Q
  have w2:=(H.setTh (t:=t) R).mono E;exact⟨w2.n,w2.t,w2.o,w2.h,w2.k⟩
 rw[yg ah]at A;by_cases ai:x.op=10
 ·rw[yj ai]at A;by_cases ak:mget D.owner x.var=some (t:Int)
  ·rw[yj ak]at A;injection A with A;injection A with A _;rw[<- A];obtain⟨H,J⟩:=N yo;have R:WfTh P D.qd.length (b+1) { h1 with clock:=mput h1.clock t (zJ h1.clock t+1) }:=by
    rw[L];have:=zrv J.c hb (t:Int);exact⟨J.l,J.e,J.f,J.b,zn2 J.c yo E⟩
   have w2:=(H.mono E).setTh (t:=t) R;refine⟨w2.n,w2.t,w2.o,w2.h,fun q c Q y m hm=>?_⟩;have W:mget (mput D.qq (x.var:Int) h1.clock) q=some c:=Q;rw[xd]at W;split at W
   ·injection W with W;subst W;have:=J.c y m hm;omega
   ·have:=H.k q c W y m hm;omega
  ·rw[yg ak]at A;cases A
 rw[yg ai]at A;by_cases aj:x.op=8
 ·rw[yj aj]at A;generalize I.qc.getD x.y.n (.num 0)=ov at A;cases ov with
  | num _=>cases A
  | obj _=>cases A
  | thr z =>
   dsimp only at A
   cases hu:D.qd[z.toNat]? with
   | none=>rw[hu]at A;cases A
   | some u =>
    rw[hu]at A;injection A with A;injection A with A _;rw[<- A];obtain⟨H,J⟩:=N yo;have gu:=H.t u (yl hu);have R:WfTh P D.qd.length b { h1 with clock:=zd9 h1.clock u.clock }:=by
     rw[L];exact⟨J.l,J.e,J.f,J.b,zrt J.c gu.c hb⟩
    exact(H.setTh (t:=t) R).mono E
 rw[yg aj]at A;by_cases a1:x.op=7
 ·rw[yj a1]at A;by_cases h6:D.qd.length=6
  ·rw[yj h6]at A;cases A
  ·rw[yg h6]at A;cases hF:zdr P I x (-1)with
   | none=>rw[hF]at A;cases A
   | some F =>
    rw[hF]at A;injection A with A;injection A with A _;rw[<- A];obtain⟨H,J⟩:=N yo;obtain⟨gF,_⟩:=ent_wf hK (f:=I) (by rw[K];exact U) (.inl a1) hv hF;have b4:D.qd.length<=6:=H.n.2;have b2:=zrv J.c hb (t:Int);have gT:WfTh P (M.qd.length+1) (b+1) { (if 0<=x.x then zh h1 (xc I x.x (.thr D.qd.length))else h1)with clock:=mput h1.clock t (zJ h1.clock t+1) }:=by
     have g2:WfTh P (M.qd.length+1) b h1:=J.mono yo (Int.le_refl _);have g3:WfTh P (M.qd.length+1) b (if 0<=x.x then zh h1 (xc I x.x (.thr D.qd.length))else h1):=by
      split
      ·have e2:zh h1 (xc I x.x (.thr D.qd.length))={ h1 with qb:=h1.qb.set n (xc I x.x (.thr D.qd.length)) }:=by
        unfold zh;rw[a0,ya4]
       rw[e2];exact zkp g2 ab (zou ((a2 yo).mono yo) ⟨by omega,by rw[L];omega⟩) rfl (by simp[xc])
      ·exact g2
     exact⟨g3.l,g3.e,g3.f,g3.b,zn2 J.c yo E⟩
    refine⟨by simp[setTh];omega,fun u hu=>?_,H.o,fun q v Q=>?_,fun q c Q y m hm=>?_⟩
    ·simp only[yx,yby,setTh,ybw,L];rcases yu.1 hu with hu | hu
     ·rcases ya2 hu with hu | rfl
      ·have:=H.t u hu;rw[L]at this;exact this.mono yo E
      ·exact gT
     ·obtain rfl:=yG.1 hu;refine⟨by simp,fun _=>by simp,fun u hu=>?_,fun i u g hu _=>by simp at hu,zn2 J.c yo E⟩;obtain rfl:=yG.1 hu;exact zud hK (gF.mono yo)
    ·have:=H.h q v Q;exact this.mono (by simp[setTh])
    ·have:=H.k q c Q y m hm;omega
 rw[yg a1]at A;by_cases a7:x.op=11
 ·rw[yj a7]at A;by_cases h6:h1.qb.length=6
  ·rw[yj h6]at A;cases A
  ·rw[yg h6]at A;cases hF:zdr P I x x.x with
   | none=>rw[hF]at A;cases A
   | some F =>
    rw[hF]at A;injection A with A;injection A with A _;rw[<- A];obtain⟨H,J⟩:=N yo;obtain⟨gF,gB⟩:=ent_wf hK (f:=I) (by rw[K];exact U) (.inr a7) hv hF;have R:WfTh P D.qd.length b { h1 with qb:=h1.qb++[F] }:=by
     rw[L];refine⟨by have:=J.l;simp;omega,fun _ hx=>by simp at hx,fun u hu=>?_,fun i u g hu O=>?_,J.c⟩
     ·rcases yu.1 hu with hu | hu
      ·exact J.f u hu
      ·obtain rfl:=yG.1 hu;exact gF
     ·rcases yF (i+1) h1.qb.length with hi | hi
      ·rw[yz hi]at hu;rw[yz yo]at O;exact J.b i u g hu O
      ·have ax:i=n:=by
        have:=(yh.1 hu).1;simp at this;omega
       subst ax;rw[yC hi,a0,Nat.sub_self]at hu;rw[yz yo,ab]at O;simp at hu;injection O with O;subst hu O;rw[gB,K];exact U.xl
    exact(H.setTh (t:=t) R).mono E
 rw[yg a7]at A;have az:x.op=12:=by
  have:=U.op;have:=s.op;omega
 have aq:h1.qb.dropLast=h.qb.take n:=by
  rw[List.dropLast_eq_take,a0,ya4,e1,List.take_set_of_le yL]
 dsimp only at A
 rw[aq]at A;have eS:∀ u,setTh D t u=setTh M t u:=fun u=>by rw[eM,zgy]
 have b3:h1.ended=h.ended:=by rw[e1]
 have am:∀ u ∈ h.qb.take n,WfFr P M.qd.length u:=fun u hu=>hT.f u (List.mem_of_mem_take hu);cases O:(h.qb.take n).getLast? with
 | none =>
  rw[O]at A;injection A with A;injection A with A _;rw[<- A,eS];exact(w.setTh ⟨by simp,fun h=>by simp at h,fun u hu=>by simp at hu,fun i u g hu _=>by simp at hu,by rw[a3];exact a4⟩).mono E
 | some g =>
  rw[O]at A;injection A with A;injection A with A _;rw[<- A,eS];have Z:(h.qb.take n).length=n:=by rw[yah,s.hn];omega
  rw[yar,Z]at O;have b1:0<n:=by
   have:=(yh.1 O).1;omega
  have gB:WfTh P M.qd.length b { h1 with qb:=h.qb.take n }:=⟨by have:=hT.l;have:=s.hn;show(h.qb.take n).length<=6;omega,fun _ hx=>by
   rw[show h.qb.take n=[]from hx]at Z;simp at Z;omega,am,fun i u g' hu au=>by
   have hi:i+1<n:=by have:=(yh.1 hu).1;rw[Z]at this;exact this
   have ao:h.qb[i+1]?=some u:=by rw[<- hu];show _=(h.qb.take n)[i+1]?;rw[ybs,yj hi]
   have ap:h.qb[i]?=some g':=by rw[<- au];show _=(h.qb.take n)[i]?;rw[ybs,yj yo]
   exact hT.b i u g' ao ap,by rw[a3];exact a4⟩
  refine(w.setTh ?_).mono E;by_cases a9:0<=I.back
  ·rw[yj a9,Z];have:=zkp gB (f:=g) (f':=xc g I.back (valM I x.y)) (k:=n-1) O (zou (am g (yl O)) hy) rfl (by simp[xc]);exact this
  ·rw[yg a9];exact gB
end
end
section
section
variable {P:Pr} {M M':Mc} {b:Int} {t n:Nat} {h:Th} {f:Fr} {x:In} {e ev:Evn}
def Shp (P:Pr)(t:Nat)(l l':List Th):Prop:=(∃ h',l'=l.set t h')\/∃ (h':Th) (F:Fr) (c:List (Int×Int)),l'=l.set t h'++[{ qb:=[{ F with at_:=zah P P.code.length F.at_ }],ended:=false,clock:=c }]/\F.at_<P.code.length
theorem zm3 (hK:zu P)(ht:M.qd[t]?=some h)(A:doM P M t h f x e=some (M',ev)):Shp P t M.qd M'.qd/\M'.steps=M.steps:=by
 unfold doM at A;by_cases E:x.op=1
 ·rw[yj E]at A;cases hbn:binM x.bin (valM f x.y) (valM f x.z)with
  | none=>rw[hbn]at A;cases A
  | some v =>
   rw[hbn]at A;injection A with A;injection A with A _;rw[<- A];exact⟨.inl ⟨_,rfl⟩,rfl⟩
 rw[yg E]at A;by_cases G:x.op=13\/x.op=14
 ·rw[yj G]at A;injection A with A;injection A with A _;rw[<- A];by_cases S:valM f x.y=.num 0
  ·rw[yj S];exact⟨.inl ⟨_,rfl⟩,rfl⟩
  ·rw[yg S];exact⟨.inl ⟨h,(zgz ht).symm⟩,rfl⟩
 rw[yg G]at A;by_cases H:x.op=2\/x.op=3\/x.op=4\/x.op=5
 ·rw[yj H]at A
  dsimp only at A
  generalize (if x.op=4 then valM f x.y else if x.op=5 then f.qc.getD x.x.toNat (.num 0)else .obj (-1))=ov at A;cases ov with
  | num _=>cases A
  | thr _=>cases A
  | obj o =>
   dsimp only at A
   by_cases R:x.op=3\/x.op=5
   ·rw[yj R]at A;injection A with A;injection A with A _;rw[<- A];exact⟨.inl ⟨h,(zgz ht).symm⟩,rfl⟩
   ·rw[yg R]at A;injection A with A;injection A with A _;rw[<- A];exact⟨.inl ⟨_,rfl⟩,rfl⟩
 rw[yg H]at A;by_cases I:x.op=6
 ·rw[yj I]at A;by_cases h8:M.qt=8
  ·rw[yj h8]at A;cases A
  ·rw[yg h8]at A;injection A with A;injection A with A _;rw[<- A];exact⟨.inl ⟨_,rfl⟩,rfl⟩
 rw[yg I]at A;by_cases J:x.op=9
 ·rw[yj J]at A;injection A with A;injection A with A _;rw[<- A];exact⟨.inl ⟨_,rfl⟩,rfl⟩
 rw[yg J]at A;by_cases K:x.op=10
 ·rw[yj K]at A;by_cases Q:mget M.owner x.var=some (t:Int)
  ·rw[yj Q]at A;injection A with A;injection A with A _;rw[<- A];exact⟨.inl ⟨_,rfl⟩,rfl⟩
  ·rw[yg Q]at A;cases A
 rw[yg K]at A;by_cases L:x.op=8
 ·rw[yj L]at A;generalize f.qc.getD x.y.n (.num 0)=ov at A;cases ov with
  | num _=>cases A
  | obj _=>cases A
  | thr z =>
   dsimp only at A
   cases hu:M.qd[z.toNat]? with
   | none=>rw[hu]at A;cases A
   | some u =>
    rw[hu]at A;injection A with A;injection A with A _;rw[<- A];exact⟨.inl ⟨_,rfl⟩,rfl⟩
 rw[yg L]at A;by_cases N:x.op=7
 ·rw[yj N]at A;by_cases h6:M.qd.length=6
  ·rw[yj h6]at A;cases A
  ·rw[yg h6]at A;cases D:zdr P f x (-1)with
   | none=>rw[D]at A;cases A
   | some F =>
    rw[D]at A;injection A with A;injection A with A _;rw[<- A];refine⟨.inr ⟨_,F,_,rfl,?_⟩,rfl⟩;unfold zdr at D;cases hg:P.fs[x.call]? with
    | none=>rw[hg]at D;cases D
    | some g =>
     rw[hg]at D;injection D with D;obtain⟨_,j,U,_⟩:=hK.fs _ g hg;rw[<- D];exact(yh.1 U).1
 rw[yg N]at A;by_cases O:x.op=11
 ·rw[yj O]at A;by_cases h6:h.qb.length=6
  ·rw[yj h6]at A;cases A
  ·rw[yg h6]at A;cases D:zdr P f x x.x with
   | none=>rw[D]at A;cases A
   | some F =>
    rw[D]at A;injection A with A;injection A with A _;rw[<- A];exact⟨.inl ⟨_,rfl⟩,rfl⟩
 rw[yg O]at A
 dsimp only at A
 cases hg:h.qb.dropLast.getLast? with
 | none =>
  rw[hg]at A;injection A with A;injection A with A _;rw[<- A];exact⟨.inl ⟨_,rfl⟩,rfl⟩
 | some g =>
  rw[hg]at A;injection A with A;injection A with A _;rw[<- A];exact⟨.inl ⟨_,rfl⟩,rfl⟩
theorem do_len (hK:zu P)(ht:M.qd[t]?=some h)(hd:doM P M t h f x e=some (M',ev)):M.qd.length<=M'.qd.length:=by
 rcases(zm3 hK ht hd).1 with⟨h',e⟩ | ⟨h',F,c,e,_⟩
 ·rw[e];simp
 ·rw[e];simp
theorem zve {l:List Fr}(hb:∀ (i:Nat) f g,l[i+1]?=some f->l[i]?=some g->f.back<(g.qc.length:Int)){f f':Fr}(hf:l[k]?=some f)(h2:f'.back=f.back)(h3:f'.qc.length=f.qc.length):∀ (i:Nat) u g,(l.set k f')[i+1]?=some u->(l.set k f')[i]?=some g->u.back<(g.qc.length:Int):=fun i u g hu A=>by
 rw[yc0]at hu A;have G:=(yh.1 hf).1;by_cases D:k=i+1
 ·rw[yj D,yj yo]at hu;rw[yg yo]at A;injection hu with hu;subst hu;rw[h2];exact hb i f g (D ▸ hf) A
 ·rw[yg D]at hu;by_cases E:k=i
  ·rw[yj E,yj yo]at A;injection A with A;subst A;rw[h3];exact hb i u f hu (E ▸ hf)
  ·rw[yg E]at A;exact hb i u g hu A
theorem Stp.wfD (s:Stp P M t h n f x)(hK:zu P)(w:WfMb P b M)(hb:b<=(M.steps:Int)+1)(hs:M.steps<4000000000000000000):WfD P (zQ M t h { f with at_:=f.at_+1 }) (zh h { f with at_:=f.at_+1 }) { f with at_:=f.at_+1 } x:=by
 obtain⟨E,D,_⟩:=s.io hK w;have A:=w.t h (yl s.ht);have hl:(zQ M t h { f with at_:=f.at_+1 }).qd.length=M.qd.length:=by simp[zQ,setTh]
 refine⟨by rw[hl];exact w.n.2,hs,w.o,by rw[s.top];simpa using A.l,fun y m G=>?_,E,by rw[hl];exact D.v,?_⟩
 ·rw[s.top]at G;have:=A.c y m G;exact⟨this.1,Int.le_trans this.2 hb⟩
 ·rw[s.top];exact zve A.b s.hf rfl rfl
theorem zro (w:WfMb P b M)(hm:mayM P M t=true)(hj:∀ h ∈ M.qd,∀ f,h.qb.getLast? = some f->∀ i,P.code[f.at_]?=some i->i.op≠20):∃ h n f x,Stp P M t h n f x/\(x.op=8->∀ z:Nat,f.qc[x.y.n]?=some (.thr z)->z≠t):=by
 unfold mayM at hm;cases ht:M.qd[t]? with
 | none=>rw[ht]at hm;cases hm
 | some h =>
  rw[ht]at hm
  dsimp only at hm
  cases he:h.ended
  ·rw[he,yg yy]at hm;cases hl:h.qb.getLast? with
   | none=>rw[hl]at hm;cases hm
   | some f =>
    rw[hl]at hm
    dsimp only at hm
    cases hx:P.code[f.at_]? with
    | none=>rw[hx]at hm;cases hm
    | some x =>
     rw[hx]at hm
     dsimp only at hm
     have A:=hl;rw[yar]at A;have D:=(yh.1 A).1;refine⟨h,h.qb.length-1,f,x,⟨ht,by omega,A,hx,hj h (yl ht) f hl x hx,he⟩,fun h8 z E e=>?_⟩;subst e;rw[yg yo,yj h8,show f.qc.getD x.y.n (.num 0)=.thr (z:Int) by simp[List.getD,E]]at hm;simp only[ybl,ht,he]at hm;cases hm
  ·rw[he,yj rfl]at hm;cases hm
end
end
section
def zbi:Array Value:=#[.i 0,.i 0,.i 0,.i 0,.i 0,.nilIface,.bool false]
theorem do_ret {C:AX}{mb eb:Nat}{lab0:Lab}{w0 w:World}{M:Mc}{V:MV}{r:Option (Mc×Evn)}{x:Ending}(h:zdk C mb eb lab0 w0 M V r x w):∃ bb,x=.r (.bool bb):=by
 cases r with
 | none=>exact⟨false,h.1⟩
 | some p=>exact⟨true,h.1⟩
theorem doesN_in (op:Nat):zcw op=250\/zcw op=251\/zcw op=252\/zcw op=253\/zcw op=254\/zcw op=255\/zcw op=256\/zcw op=257\/zcw op=258\/zcw op=259:=by
 unfold zcw;split
 ·exact .inl rfl
 split
 ·exact .inr (.inl rfl)
 split
 ·exact .inr (.inr (.inl rfl))
 split
 ·exact .inr (r2 (.inl rfl))
 split
 ·exact .inr (r3 (.inl rfl))
 split
 ·exact .inr (r4 (.inl rfl))
 split
 ·exact .inr (r5 (.inl rfl))
 split
 ·exact .inr (r6 (.inl rfl))
 split
 ·exact .inr (r7 (.inl rfl))
 exact .inr (r8 rfl)
def zo9 (C:AX)(lab:Lab)(mb:Nat)(w:World)(r:Mc×Evn)(x:Ending)(w':World):Prop :=
 x=.r (.agg (za7 r.2))/\∃ lab' V',MSt C lab' mb r.1 V' w'/\(∀ k,k<w.heap.size->lab' k=lab k)/\∀ eb,Out lab eb w w'
section
variable {C:AX} {mb eb:Nat} {lab0 lab:Lab} {w0 w:World} {M:Mc} {V:MV} {e:Evn}
theorem Out.final {w':World}{rb:Nat}(h:Out lab eb w w')(he:w.heap.size<=eb)(hr:w.heap.size<=rb)(cs:Array Value):∀ q,Out lab q w (w'.setRow rb cs):=fun q =>
 ⟨h.os,h.tape,h.output,by simpa using h.size,fun k A ho _=>(setRow_other _ _ _ _ yo).trans (h.block k A ho yo)⟩
theorem MSt.row (g:MSt C lab mb M V w)(b:Nat)(hb:lab b=.out)(hB:C.w0.heap.size<=b)(cs:Array Value):MSt C lab mb M V (w.setRow b cs) :=
 g.o (fun k A=>setRow_other _ _ _ _ (fun e=>A (by rw[e];exact hb))) (g.on.trans ⟨rfl,rfl,rfl,by simp,fun k A=>setRow_other _ _ _ _ yo⟩) yy
end
section
variable {C:AX} {mb eb:Nat} {lab:Lab} {w:World} {M:Mc} {V:MV} {e:Evn} {t n:Nat} {f:Fr} {h:Th} {x:In}
theorem z0e (M:Mc)(t:Nat)(h:Th)(f:Fr):zQ M t h f=setTh M t (zh h f):=rfl
theorem z0l (HC:AXok C)(hK:zu C.P)(g:MSt C lab mb M V w)(W:WfMb C.P b M)(ht:t<M.qd.length) :
  Calls prog 117 #[.p mb,.i t] w (zi6 C lab mb (zbo C.P M t) V w):=by
 obtain⟨h,A⟩:∃ h,M.qd[t]?=some h:=⟨_,yc ht⟩;cases hl:h.qb.getLast? with
 | none=>exact skip_nil g A (List.getLast?_eq_none_iff.1 hl)
 | some f =>
  refine zoi C HC hK.s lab mb M V t h f w g A hl ?_;obtain⟨i,_,hi,_⟩:=((W.t h (yl A)).f f (List.mem_of_getLast? hl)).at_;exact(yh.1 hi).1
theorem step_any (HC:AXok C)(hK:zu C.P)(g:MSt C lab mb M V w)(W:WfMb C.P b M)(hb:0<=b)(hbs:b<=(M.steps:Int)+1)(hs:M.steps<4000000000000000000)(S:Stp C.P M t h n f x)(hj:x.op=8->∀ z:Nat,f.qc[x.y.n]?=some (.thr z)->z≠t) :
  Calls prog 119 #[.p mb,.i t] w (zo9 C lab mb w (zeg C.P M t)):=by
 obtain⟨n',v,fg,fc,lv,p⟩:=g.topP S.ht S.last;obtain rfl:n'=n:=by have:=p.hn;have:=S.hn;omega
 obtain⟨R,hR⟩:∃ R,zeg C.P M t=R:=⟨_,rfl⟩;rw[hR];have HM:=zH (show R=(match doM C.P (zQ M t h { f with at_:=f.at_+1 }) t (zh h { f with at_:=f.at_+1 }) { f with at_:=f.at_+1 } x { kind:=x.op,place:=x.place } with
   | none=>(setTh M t { h with qb:=[],ended:=true },{ kind:=15,place:=x.place,ended:=true })
   | some (M2,e)=>(zbo C.P M2 t,e)) by
  rw[<- hR];unfold zeg;rw[S.ht];simp only[S.last,S.hx];rfl)
 have HD:=zH (fun(M':Mc) (ev:Evn) hd=>And.intro (wf_do (e:={ kind:=x.op,place:=x.place }) (M':=M') (ev:=ev) hK W hb S hd) (do_len hK (p.qe _).ht hd));have az:=zH (S.wfD hK W hbs hs);have af:=zH (show 1<=x.op/\x.op<=14 by have:=(S.io hK W).1.op;have:=S.op;omega);have HJ:=zH hj;have HX:=zH S.hx;have HP:=zH p;have G:=zH g;have m1:w.cell? (.a mb 1)=some (.s V.tb M.qd.length V.vd):=g.cells 1;have T:=p.top g;have t0:=T.t0;have tl:=T.lt;have hn:(h.qb.length:Int)-1=(n':Int):=yq p.hn;have b5:n'<h.qb.length:=yq p.hn;have bi:wrap64 (n':Int)=(n':Int):=zki T.T.r (yaw b5);have ml:mb<w.heap.size:=zaq m1;have ap:V.tb<w.heap.size:=zaq t0;have g1:=g.alloc (.cells zbi 95);have O:Blk (w.alloc (.cells zbi 95)) w.heap.size 95 zbi:=Blk.newAt rfl;have Y:Below w.heap.size w (w.alloc (.cells zbi 95)):=yB.alloc yL _;have G1:=zH (And.intro g1 (And.intro O Y));have H:=zH (show lab w.heap.size=.out from g.hi _ yL);have a2:=zH (show C.w0.heap.size<=w.heap.size from g.on.size);clear hR S hj g p T W hb hbs hs g1 O Y;go_enter func119,ntmps119;go_wp2_with fail;clear m1 t0 tl hn b5 bi ml ap;obtain⟨g1,O,Y⟩:=G1.o;clear G1;change Code.wp _ _ _ _ (w.alloc (.cells zbi 95))
 generalize w.alloc (.cells zbi 95)=w1 at g1 O Y |-;generalize b7:w.heap.size=rb at O H a2 |-;have a9:=zH b7;clear b7;have m0:w1.cell? (.a mb 0)=some (.p C.pb):=g1.cells 0;have hp:w1.cell? (.a C.pb 4)=some (.s C.cg C.P.code.length C.ccap):=HC.vt g1.on 4;have f0:=(HP.o.top g1).f0;have bg:f.at_<C.P.code.length:=(yh.1 HX.o).1;have G1:=zH (fun N=>g1.drewN N);have a1:=zH (fun N=>O.drewN N);have aq:=zH (fun N=>zc7 Y N);clear g1 O Y;go_quiet (fail);clear m0 hp f0;obtain⟨K,a5⟩:∃ K,K=w1.drewN nq:=⟨_,rfl⟩;have g2:=G1.o nq;have an:=a1.o nq;have aj:=aq.o nq;rw[<- a5]at g2 an aj |-;clear a5 G1 a1 aq bg;have G2:=zH g2;have a8:=zH an;have ae:=zH aj;clear g2 an aj;go_wp2_with fail;obtain⟨aa,ac,ak,_,_⟩:=HC.ql G2.o.on HX.o;have i0:K.cell? (.a C.cg (f.at_*14))=some (.i x.op):=ak 0 yo;have i1:K.cell? (.a C.cg (f.at_*14+1))=some (.i x.place):=ak 1 yo;have cl:C.cg<K.heap.size:=zaq i0;clear ak;go_region;clear i0 i1 cl;have G3:=zH ((G2.o.alloc (.k #[.i 0,.i x.op,.i x.place,.i (-1),.i 0,.iface 256 (.i 0),.bool false] 95)).drew);have ad:Blk (K.alloc (.k #[.i 0,.i x.op,.i x.place,.i (-1),.i 0,.iface 256 (.i 0),.bool false] 95)).drew K.heap.size 95 (za7 { kind:=x.op,place:=x.place }):=Blk.newAt rfl;have ab:Below K.heap.size K (K.alloc (.k #[.i 0,.i x.op,.i x.place,.i (-1),.i 0,.iface 256 (.i 0),.bool false] 95)).drew:=(yB.alloc yL _).drew;have D:=zH (show lab K.heap.size=.out/\C.w0.heap.size<=K.heap.size/\rb<K.heap.size from⟨G2.o.hi _ yL,G2.o.on.size,a8.o.lt⟩);change Exit.then _ _ _ _ ((K.alloc (.k #[.i 0,.i x.op,.i x.place,.i (-1),.i 0,.iface 256 (.i 0),.bool false] 95)).drew)
 generalize (K.alloc (.k #[.i 0,.i x.op,.i x.place,.i (-1),.i 0,.iface 256 (.i 0),.bool false] 95)).drew=w3 at G3 ad ab |-;have au:=zH (a8.o.below ab a8.o.lt);have a7:=zH (ae.o.trans (ab.mono ae.o.size));clear ab G2 a8 ae;generalize K.heap.size=eb at ad D |-;have S3:=zH (G3.o.st ad D.o.1 D.o.2.1);clear ad;have f0:=(HP.o.top G3.o).f0;have fz:=(HP.o.top G3.o).fz;have fl:=(HP.o.top G3.o).fl;have S4:=zH (S3.o.atS HP.o (f.at_+1));have E:=zH (au.o.qi (p:=(.a fg (n'*3))) (fun e=>by have h1:=(HP.o.top G3.o).l;rw[<- show rb=fg from e,H.o]at h1;cases h1) (.i ((f.at_+1:Nat):Int)));have bj:wrap64 ((f.at_:Int)+1)=(f.at_:Int)+1:=IntWalk.wrap64_in _ (yw ((yh.1 HX.o).1) HC.wf.cl);have L:=zH (fun q=>does_any q mb x.op af.o);rw[show((f.at_+1:Nat):Int)=(f.at_:Int)+1 by omega]at S4 E;have i0:=ic0 HC S3.o HX.o;have cl:=icl HC S3.o HX.o;have bf:C.cg≠fg:=fun e=>by have h1:=(HP.o.top G3.o).l;rw[<- e,G3.o.lo C.cg (HC.prog.cr.lt C.cg (by rw[HC.cv];rfl)).2]at h1;cases h1
 go_wp2_with fail;refine(L.o _).mono ?_;rintro e w' ⟨rfl,rfl⟩;clear f0 fz fl bj i0 cl bf L;have U:=zH (fun q=>(S3.o.g.atS HP.o (f.at_+1)).2 q);rw[show((f.at_+1:Nat):Int)=(f.at_:Int)+1 by omega]at U;generalize w3.setCell (.a fg (n'*3)) (.i ((f.at_:Int)+1))=w4 at S4 E U |-;have S5:=zH (S4.o.g.st S4.o.b S4.o.eo S4.o.ew);have L:=zH (do_any HC hK S5.o (HP.o.qe { f with at_:=f.at_+1 }) HX.o az.o af.o HJ.o rfl);obtain⟨R1,ai⟩:∃ R1,doM C.P (zQ M t h { f with at_:=f.at_+1 }) t (zh h { f with at_:=f.at_+1 }) { f with at_:=f.at_+1 } x { kind:=x.op,place:=x.place }=R1:=⟨_,rfl⟩;rw[ai]at L HM;have a1:=zH ai;clear ai;obtain⟨N,hN⟩:∃ N,zcw x.op=N:=⟨_,rfl⟩;have bd:=zH (show N=250\/N=251\/N=252\/N=253\/N=254\/N=255\/N=256\/N=257\/N=258\/N=259 from hN ▸ doesN_in x.op);rw[hN]at L |-;clear hN;go_upto_region 7 with fail
 go_cut [9,63] (fun v9 v63 wx=>∃ bb,v63=.bool (!bb)/\zdk C mb eb lab w4 (zQ M t h { f with at_:=f.at_+1 }) V R1 (.r (.bool bb)) wx)
 case first =>
  go_wp2_with fail;clear S4 S3 G3 HM E U a7 au D az HD HJ af HX H a2 HP G a1 S5;rcases bd.o with h1 | h1 | h1 | h1 | h1 | h1 | h1 | h1 | h1 | h1
  all_goals
   rw[h1]at L |-;clear h1;go_wp2_with fail;refine L.o.mono ?_;rintro e w' Z;obtain⟨bb,rfl⟩:=do_ret Z;have be:=zH Z;clear Z;go_wp2;go_meet;exact⟨bb,rfl,be.o⟩
 case rest =>
  obtain⟨bb,rfl,Z⟩:=hcut;cases R1 with
  | none =>
   obtain⟨A,e',a4⟩:=Z;injection A with A;injection A with A;subst A;have HR:=zH (show R=(setTh M t { h with qb:=[],ended:=true },{ kind:=15,place:=x.place,ended:=true })from HM.o);have J:=zH a4;have p6:=HP.o.qe { f with at_:=f.at_+1 };have T6:=p6.top J.o.g;have b4:(zQ M t h { f with at_:=f.at_+1 }).qd.length=M.qd.length:=by simp[zQ,setTh]
   have m1:wc.cell? (.a mb 1)=some (.s V.tb M.qd.length V.vd):=(J.o.g.cells 1).trans (by simp[zbv,b4]);have tl:t<M.qd.length:=by have:=T6.lt;rw[b4]at this;exact this
   have t0:=T6.t0;have t1:=T6.t1;have tz:=zhs J.o.g.mi.r;have ap:V.tb<wc.heap.size:=zaq t0;have ml:=J.o.mbl;have TT:=T6.T;have Q:=zH (J.o.thrS (j:=1) (x:=.bool true) (h':={ zh h { f with at_:=f.at_+1 } with ended:=true }) (v':=v) p6.ht p6.hv yo rfl ⟨TT.n,TT.r,TT.l,TT.f,TT.c,TT.cl⟩);have S8:=zH (Q.o.thrS (j:=0) (x:=.z) (h':={ zh h { f with at_:=f.at_+1 } with ended:=true,qb:=[] }) (v':={ v with fv:=.z,ls:=[] }) (setAt p6.ht) (setAt p6.hv) yo rfl ⟨rfl,yA _ _ _ _,fun q e=>(by cases e),fun i f u a _=>by simp at a,(Q.o.g.mi.t t _ v (setAt p6.ht) (setAt p6.hv)).c,TT.cl⟩);have bh:mb≠V.tb:=fun e=>by have h1:=J.o.g.mi.ml;rw[e,J.o.g.mi.rl]at h1;cases h1
   have ao:rb≠V.tb:=fun e=>by have h1:=J.o.g.mi.rl;rw[<- show rb=V.tb from e,H.o]at h1;cases h1
   have a3:Blk wc rb 95 zbi:=(J.o.o.block rb E.o.lt H.o (ybr D.o.2.2)).trans E.o;have b6:=(a3.qi (p:=(.a V.tb (t*3+1))) ao (.bool true)).qi (p:=(.a V.tb (t*3))) ao (.z);have I1:=zH (ic1 HC S8.o HX.o);have ag:=zH b6;clear p6 T6 TT a4 a3 b6 HM;go_upto_region 10 with fail
   clear m1 tl t0 t1 tz ap ml ao bh Q J;have i1:=I1.o;have S9:=zH S8.o;simp only[Nat.add_zero]at S9 i1;generalize (wc.setCell (.a V.tb (t*3+1)) (.bool true)).setCell (.a V.tb (t*3)) (.z)=w9 at S9 ag i1 |-;clear I1 S8;have bk:C.cg≠rb:=fun e=>by have h1:=(HC.prog.cr.lt C.cg (by rw[HC.cv];rfl)).2;have:=a2.o;omega
   go_wp2_with (refine wpList_store_row rfl 95 _ _ rfl rb _ rfl rfl _ _ ag.o yk rfl yE ?_);have I:Blk (w9.setRow rb #[.i 0,.i 15,.i x.place,.i (-1),.i 0,.iface 256 (.i 0),.bool true]) rb 95 #[.i 0,.i 15,.i x.place,.i (-1),.i 0,.iface 256 (.i 0),.bool true]:=setRow_heap _ _ _ _ _ _ ag.o;have b1:=zH (S9.o.g.row rb H.o a2.o #[.i 0,.i 15,.i x.place,.i (-1),.i 0,.iface 256 (.i 0),.bool true]);have a0:=zH ((((Out.refl lab eb w).below a7.o yL |>.trans (U.o eb) (fun _ _=>rfl)).trans S9.o.o (fun _ _=>rfl)).final (rb:=rb) (yw D.o.2.2 a9.o) (by rw[a9.o];exact yr _) #[.i 0,.i 15,.i x.place,.i (-1),.i 0,.iface 256 (.i 0),.bool true]);change bodyPost _ _ _ _ _ (w9.setRow rb #[.i 0,.i 15,.i x.place,.i (-1),.i 0,.iface 256 (.i 0),.bool true])
   generalize w9.setRow rb #[.i 0,.i 15,.i x.place,.i (-1),.i 0,.iface 256 (.i 0),.bool true]=wz at I b1 a0 |-;have q0:=I.cell 0;have q1:=I.cell 1;have q2:=I.cell 2;have q3:=I.cell 3;have q4:=I.cell 4;have q5:=I.cell 5;have q6:=I.cell 6;refine ym (v:=.agg (za7 { kind:=15,place:=x.place,ended:=true })) (by simp[results,results119,go_sem,q0,q1,q2,q3,q4,q5,q6,za7,vlV]) rfl ?_;have hS:=b1.o;rw[zgy,z0e,zgy]at hS;rw[HR.o];exact⟨rfl,lab,_,hS,fun _ _=>rfl,a0.o⟩
  | some r =>
   obtain⟨M2,ev⟩:=r;obtain⟨A,a6,V2,a4⟩:=Z;injection A with A;injection A with A;subst A;have HR:=zH (show R=(zbo C.P M2 t,ev)from HM.o);have J:=zH a4;obtain⟨a5,b3⟩:=HD.o M2 ev a1.o;have b8:t<M2.qd.length:=by
    have h1:=(HP.o.top G3.o).lt;simp[zQ,setTh]at b3;omega
   have ay:=zH (z0l HC hK J.o.g a5 b8);have a3:Blk wc rb 95 zbi:=(J.o.o.block rb E.o.lt H.o (ybr D.o.2.2)).trans E.o;have ah:=zH a3;have ax:=zH (show a6 rb=.out by rw[J.o.l rb E.o.lt];exact H.o);clear a4 a5 b3 b8 a3 HM;go_wp2_with fail;refine ay.o.mono ?_;rintro e w7 ⟨rfl,b2,am⟩;have Q:=zH (J.o.ms b2 am);have aw:=zH (show Blk w7 rb 95 zbi from((am eb).block rb ah.o.lt ax.o (ybr D.o.2.2)).trans ah.o);obtain⟨ty,z,hy⟩:=za3 ev.val;have e0:w7.cell? (.a eb 0)=some (.i ev.qw):=Q.o.b.cell 0;have e1:w7.cell? (.a eb 1)=some (.i ev.kind):=Q.o.b.cell 1;have e2:w7.cell? (.a eb 2)=some (.i ev.place):=Q.o.b.cell 2;have e3:w7.cell? (.a eb 3)=some (.i ev.obj):=Q.o.b.cell 3;have e4:w7.cell? (.a eb 4)=some (.i ev.field):=Q.o.b.cell 4;have e5:w7.cell? (.a eb 5)=some (.iface ty (.i z)):=(Q.o.b.cell 5).trans (by rw[<- hy];rfl);have e6:w7.cell? (.a eb 6)=some (.bool ev.ended):=Q.o.b.cell 6;have HY:=zH hy;clear b2 am hy J ay ah;go_wp2_with (refine wpList_store_row rfl 95 _ _ rfl rb _ rfl rfl _ _ aw.o yk rfl yE ?_);clear e0 e1 e2 e3 e4 e5 e6;have I:Blk (w7.setRow rb #[.i ev.qw,.i ev.kind,.i ev.place,.i ev.obj,.i ev.field,.iface ty (.i z),.bool ev.ended]) rb 95 #[.i ev.qw,.i ev.kind,.i ev.place,.i ev.obj,.i ev.field,.iface ty (.i z),.bool ev.ended]:=setRow_heap _ _ _ _ _ _ aw.o;have S8:=zH (Q.o.g.row rb ax.o a2.o #[.i ev.qw,.i ev.kind,.i ev.place,.i ev.obj,.i ev.field,.iface ty (.i z),.bool ev.ended]);have a0:=zH ((((Out.refl lab eb w).below a7.o yL |>.trans (U.o eb) (fun _ _=>rfl)).trans Q.o.o (fun _ _=>rfl)).final (rb:=rb) (yw D.o.2.2 a9.o) (by rw[a9.o];exact yr _) #[.i ev.qw,.i ev.kind,.i ev.place,.i ev.obj,.i ev.field,.iface ty (.i z),.bool ev.ended]);have b9:=zH (show ∀ k,k<w.heap.size->a6 k=lab k from fun k hk=>Q.o.l k (yi hk (ya a7.o.size (U.o eb).size)));change bodyPost _ _ _ _ _ (w7.setRow rb #[.i ev.qw,.i ev.kind,.i ev.place,.i ev.obj,.i ev.field,.iface ty (.i z),.bool ev.ended])
   generalize w7.setRow rb #[.i ev.qw,.i ev.kind,.i ev.place,.i ev.obj,.i ev.field,.iface ty (.i z),.bool ev.ended]=wz at I S8 a0 |-;have q0:=I.cell 0;have q1:=I.cell 1;have q2:=I.cell 2;have q3:=I.cell 3;have q4:=I.cell 4;have q5:=I.cell 5;have q6:=I.cell 6;refine ym (v:=.agg (za7 ev)) (by simp[results,results119,go_sem,q0,q1,q2,q3,q4,q5,q6,za7,HY.o]) rfl ?_;exact⟨by rw[HR.o],a6,_,by rw[HR.o];exact S8.o,b9.o,a0.o⟩
end
end
section
def NoJ (P:Pr)(M:Mc):Prop:=∀ h ∈ M.qd,∀ f,h.qb.getLast? = some f->∀ i,P.code[f.at_]?=some i->i.op≠20
section
variable {C:AX} {mb:Nat} {lab:Lab} {w:World} {M:Mc} {V:MV} {t n:Nat} {f:Fr} {h:Th} {x:In}
theorem MSt.stepsS (g:MSt C lab mb M V w)(o:Nat):MSt C lab mb { M with steps:=o } V (w.setCell (.a mb 8) (.i o))/\∀ eb,Out lab eb w (w.setCell (.a mb 8) (.i o)):=by
 have hb:lab mb=.m:=g.mi.ml;refine⟨g.vk (b:=mb) (zey _ _ _) hb yy fun A=>?_,fun eb=>(Out.refl lab eb w).qe (.inl (by show lab mb≠_;rw[hb];simp)) _⟩;exact g.mi.cellsE (o:=M.qt) A (by have:=g.mi.m.qe 8 (.i o);exact this)
theorem pick_lt {c:Int}{n:Nat}(h:0<n):zfg c n<n:=by
 unfold zfg;have h1:0<=(if c<0 then -(c+1)else c) % (n:Int):=Int.emod_nonneg _ yo;have h2:(if c<0 then -(c+1)else c) % (n:Int)<n:=Int.emod_lt_of_pos _ yo;omega
theorem zs4 {M:Mc}{t:Nat}(h:t ∈ zex P M):mayM P M t=true:=(List.mem_filter.1 h).2
theorem zuf (w:WfMb P b M)(s:Nat):WfMb P b { M with steps:=s }:=⟨w.n,w.t,w.o,w.h,w.k⟩
theorem Step_any (HC:AXok C)(hK:zu C.P)(g:MSt C lab mb M V w)(W:WfM C.P M)(hJ:NoJ C.P M)(hs:M.steps+1<4000000000000000000)(c:Int)(hc:iw c) :
  Calls prog 73 #[.p mb,.i c] w (zo9 C lab mb w (za6 C.P M c)):=by
 obtain⟨R,hR⟩:∃ R,za6 C.P M c=R:=⟨_,rfl⟩;rw[hR];have HR:=zH hR;have G:=zH g;have g1:=g.alloc (.cells zbi 95);have an:=zH (zs3 HC W hK g1);have K:Blk (w.alloc (.cells zbi 95)) w.heap.size 95 zbi:=Blk.newAt rfl;have J:Below w.heap.size w (w.alloc (.cells zbi 95)):=yB.alloc yL _;have G1:=zH (And.intro g1 (And.intro K J));have Y:=zH (show lab w.heap.size=.out from g.hi _ yL);have ad:=zH (show C.w0.heap.size<=w.heap.size from g.on.size);have HW:=zH (And.intro W (And.intro hJ (And.intro hs hc)));clear hR g W hJ hs hc g1 K J;go_enter func73,ntmps73;go_wp2_with fail;refine an.o.mono ?_;rintro e w2 ⟨rv,rfl,a1,ax,a7⟩;obtain⟨g1,K,J⟩:=G1.o;have G2:=zH (g1.below a7);have a4:=zH (K.below a7 K.lt);have ak:=zH (J.trans (a7.mono J.size));have A:=zH a1;obtain⟨la,lc,rfl⟩:=zZ a1;clear g1 K J a7 a1 ax G1 an;generalize b1:w.heap.size=rb at a4 Y ad |-;have a6:=zH b1;clear b1;obtain⟨L,hL⟩:∃ L,zex C.P M=L:=⟨_,rfl⟩;have HL:=zH hL;rw[hL]at A |-;clear hL;cases L with
 | nil =>
  have b5:=zH (show R=(M,{ obj:=0 }) by rw[<- HR.o];unfold za6;rw[HL.o]);clear HW HL A;go_wp2_with (refine wpList_store_row rfl 95 _ _ rfl rb _ rfl rfl _ _ a4.o yk rfl yE ?_);have E:Blk (w2.setRow rb #[.i 0,.i 0,.i 0,.i 0,.i 0,.iface 256 (.i 0),.bool false]) rb 95 #[.i 0,.i 0,.i 0,.i 0,.i 0,.iface 256 (.i 0),.bool false]:=setRow_heap _ _ _ _ _ _ a4.o;have S8:=zH (G2.o.row rb Y.o ad.o #[.i 0,.i 0,.i 0,.i 0,.i 0,.iface 256 (.i 0),.bool false]);have S:=zH (((Out.refl lab rb w).below ak.o yL).final (rb:=rb) (by rw[a6.o];exact yr _) (by rw[a6.o];exact yr _) #[.i 0,.i 0,.i 0,.i 0,.i 0,.iface 256 (.i 0),.bool false]);change bodyPost _ _ _ _ _ (w2.setRow rb #[.i 0,.i 0,.i 0,.i 0,.i 0,.iface 256 (.i 0),.bool false])
  generalize w2.setRow rb #[.i 0,.i 0,.i 0,.i 0,.i 0,.iface 256 (.i 0),.bool false]=wz at E S8 S |-;have q0:=E.cell 0;have q1:=E.cell 1;have q2:=E.cell 2;have q3:=E.cell 3;have q4:=E.cell 4;have q5:=E.cell 5;have q6:=E.cell 6;refine ym (v:=.agg (za7 { obj:=0 })) (by simp[results,results73,go_sem,q0,q1,q2,q3,q4,q5,q6,za7,vlV]) rfl ?_;rw[b5.o];exact⟨rfl,lab,V,S8.o,fun _ _=>rfl,S.o⟩
 | cons r0 L =>
  have b7:(((r0::L).length:Int)==0)=false:=zI (by simp;omega);obtain⟨lg,bh,ah,_,_⟩:=A.o.form yy;injection ah with ah _ aw;subst ah;subst aw;have hc:=HW.o.2.2.2;obtain⟨nl,ai⟩:∃ nl,nl=(r0::L).length:=⟨_,rfl⟩;have a2:=zH ai;rw[<- ai]at A b7 |-;clear ai;go_upto_if 16 with fail
  go_cut [1] (fun v1 wx=>v1=.i (if c<0 then -(c+1)else c)/\wx=w2)
  case first =>
   have w1:wrap64 (c+1)=c+1\/¬ c<0:=if h:c<0 then .inl (IntWalk.wrap64_in _ (yq hc.1))else .inr h
   by_cases a0:c<0
   ·have w2:=w1.resolve_right (fun h=>h a0);have w3:wrap64 (-(c+1))=-(c+1):=IntWalk.wrap64_in _ (yq hc.1);have aa:=zH (show(if c<0 then -(c+1)else c)=-(c+1)from yj a0);clear w1 hc;go_wp2;go_meet;exact⟨by rw[aa.o,w3],rfl⟩
   ·have bg:0<=c:=yo;have aa:=zH (show(if c<0 then -(c+1)else c)=c from yg a0);clear w1 hc;go_wp2;go_meet;exact⟨by rw[aa.o],rfl⟩
  case rest =>
   obtain⟨rfl,rfl⟩:=hcut;obtain⟨c',a8⟩:∃ c',(if c<0 then -(c+1)else c)=c':=⟨_,rfl⟩;rw[a8];have a0:0<=c':=by rw[<- a8];split <;> omega
   have b8:c' % (nl:Int)=(zfg c nl:Int):=by
    unfold zfg;rw[a8,Int.toNat_of_nonneg (Int.emod_nonneg _ (by have:=a2.o;simp at this;omega))]
   have az:zfg c nl<nl:=pick_lt (by have:=a2.o;simp at this;omega);obtain⟨u,hu⟩:∃ u,(r0::L)[zfg c nl]?=some u:=⟨_,yc (by rw[<- a2.o];exact az)⟩;have b9:wc.cell? (.a lg (zfg c nl))=some (.i u):=by
    rw[A.o.cellAt (zfg c nl) yo];unfold ints;rw[yV,hu];rfl
   obtain⟨W,hJ,hs,_⟩:=HW.o;have ap:=zH (show R=(let r:=zeg C.P { M with steps:=M.steps+1 } u;(r.1,{ r.2 with qw:=u })) by
    rw[<- HR.o];unfold za6;rw[HL.o];simp only;rw[show L.length+1=nl from a2.o.symm,hu])
   have a9:mayM C.P M u=true:=zs4 (by rw[HL.o];exact yl hu);obtain⟨h,n,f,x,hS,au⟩:=zro W a9 hJ;obtain⟨g3,ay⟩:=G2.o.stepsS (M.steps+1);have ae:=zH (step_any HC hK g3 (zuf W (M.steps+1)) yo (by show(M.steps:Int)+1<=((M.steps+1:Nat):Int)+1;omega) hs ⟨hS.ht,hS.hn,hS.hf,hS.hx,hS.op,hS.en⟩ au);have m8:wc.cell? (.a mb 8)=some (.i M.steps):=G2.o.cells 8;have mz:=G2.o.mi.m.frozen;have be:wrap64 ((M.steps:Int)+1)=(M.steps:Int)+1:=IntWalk.wrap64_in _ yo;have b2:rb≠mb:=fun e=>by have h1:=G2.o.mi.ml;rw[<- e,Y.o]at h1;cases h1
   have U:=zH (a4.o.qi (p:=(.a mb 8)) b2 (.i ((M.steps+1:Nat):Int)));have a3:=zH (fun q=>((Out.refl lab q w).below ak.o yL).trans (ay q) (fun _ _=>rfl));rw[show((M.steps+1:Nat):Int)=(M.steps:Int)+1 by omega]at ae U a3;clear hc a8 hu W hJ hs a9 hS au g3 ay b2 A;go_wp2_with fail;clear m8 mz be b9 b8 az a0;generalize wc.setCell (.a mb 8) (.i ((M.steps:Int)+1))=w3 at ae U a3 |-;refine ae.o.mono ?_;rintro e O ⟨rfl,I,V4,af,ag,aj⟩;obtain⟨r,hr⟩:∃ r,zeg C.P { M with steps:=M.steps+1 } u=r:=⟨_,rfl⟩;rw[hr]at ap af |-;obtain⟨M4,ev⟩:=r;obtain⟨N,z,hy⟩:=za3 ev.val;have G4:=zH af;have a5:=zH (show Blk O rb 95 zbi from((aj (rb+1)).block rb U.o.lt Y.o yo).trans U.o);have ab:=zH (fun q=>(a3.o q).trans (aj q) (fun _ _=>rfl));have b3:=zH (show ∀ k,k<w.heap.size->I k=lab k from fun k hk=>ag k (yi hk (a3.o 0).size));have ao:=zH (show I rb=.out by rw[ag rb U.o.lt];exact Y.o);have aq:za7 ev=#[.i ev.qw,.i ev.kind,.i ev.place,.i ev.obj,.i ev.field,.iface N (.i z),.bool ev.ended]:=by unfold za7;rw[hy]
   have HY:=zH hy;simp only[aq];clear af ag aj hr hy aq;have HU:=zH (show R=(M4,{ ev with qw:=u })from ap.o);go_upto_region 9 with fail
   have Z:Below O.heap.size O (O.alloc (.k #[.i ev.qw,.i ev.kind,.i ev.place,.i ev.obj,.i ev.field,.iface N (.i z),.bool ev.ended] 95)):=yB.alloc yL _;have H:Blk (O.alloc (.k #[.i ev.qw,.i ev.kind,.i ev.place,.i ev.obj,.i ev.field,.iface N (.i z),.bool ev.ended] 95)) O.heap.size 95 #[.i ev.qw,.i ev.kind,.i ev.place,.i ev.obj,.i ev.field,.iface N (.i z),.bool ev.ended]:=Blk.newAt rfl;generalize O.alloc (.k #[.i ev.qw,.i ev.kind,.i ev.place,.i ev.obj,.i ev.field,.iface N (.i z),.bool ev.ended] 95)=w5 at Z H |-;have G5:=zH (G4.o.below Z);have b6:=zH (a5.o.below Z a5.o.lt);have b4:=zH (fun q=>(ab.o q).below Z yL);have Q:=zH (show O.heap.size≠rb/\I O.heap.size=.out/\C.w0.heap.size<=O.heap.size/\w.heap.size<=O.heap.size from⟨ybk a5.o.lt,G4.o.hi _ yL,G4.o.on.size,(ab.o 0).size⟩);clear Z G4 a5 ab;generalize O.heap.size=wb at H Q |-;have bb:=H.cell;have bf:=H.frozen;have bd:=H.lt;have D:=zH ((H.qe 0 (.i u)).cast (cs':=#[.i u,.i ev.kind,.i ev.place,.i ev.obj,.i ev.field,.iface N (.i z),.bool ev.ended]) yy);have G6:=zH (G5.o.qi (p:=(.a wb 0)) Q.o.2.1 Q.o.2.2.1 (.i u));have ac:=zH (b6.o.qi (p:=(.a wb 0)) Q.o.1.symm (.i u));have am:=zH (fun q=>(b4.o q).qe (p:=(.a wb 0)) (.inr (.inr Q.o.2.2.2)) (.i u));clear H;go_upto_region 10 with fail
   clear bb bf bd;generalize w5.setCell (.a wb 0) (.i u)=w6 at D G6 ac am |-;have e0:w6.cell? (.a wb 0)=some (.i u):=D.o.cell 0;have e1:w6.cell? (.a wb 1)=some (.i ev.kind):=D.o.cell 1;have e2:w6.cell? (.a wb 2)=some (.i ev.place):=D.o.cell 2;have e3:w6.cell? (.a wb 3)=some (.i ev.obj):=D.o.cell 3;have e4:w6.cell? (.a wb 4)=some (.i ev.field):=D.o.cell 4;have e5:w6.cell? (.a wb 5)=some (.iface N (.i z)):=D.o.cell 5;have e6:w6.cell? (.a wb 6)=some (.bool ev.ended):=D.o.cell 6;go_wp2_with (refine wpList_store_row rfl 95 _ _ rfl rb _ rfl rfl _ _ ac.o yk rfl yE ?_);clear e0 e1 e2 e3 e4 e5 e6;have E:Blk (w6.setRow rb #[.i u,.i ev.kind,.i ev.place,.i ev.obj,.i ev.field,.iface N (.i z),.bool ev.ended]) rb 95 #[.i u,.i ev.kind,.i ev.place,.i ev.obj,.i ev.field,.iface N (.i z),.bool ev.ended]:=setRow_heap _ _ _ _ _ _ ac.o;have S8:=zH (G6.o.row rb ao.o ad.o #[.i u,.i ev.kind,.i ev.place,.i ev.obj,.i ev.field,.iface N (.i z),.bool ev.ended]);have S:=zH ((am.o rb).final (rb:=rb) (by rw[a6.o];exact yr _) (by rw[a6.o];exact yr _) #[.i u,.i ev.kind,.i ev.place,.i ev.obj,.i ev.field,.iface N (.i z),.bool ev.ended]);change bodyPost _ _ _ _ _ (w6.setRow rb #[.i u,.i ev.kind,.i ev.place,.i ev.obj,.i ev.field,.iface N (.i z),.bool ev.ended])
   generalize w6.setRow rb #[.i u,.i ev.kind,.i ev.place,.i ev.obj,.i ev.field,.iface N (.i z),.bool ev.ended]=wz at E S8 S |-;have q0:=E.cell 0;have q1:=E.cell 1;have q2:=E.cell 2;have q3:=E.cell 3;have q4:=E.cell 4;have q5:=E.cell 5;have q6:=E.cell 6;refine ym (v:=.agg (za7 { ev with qw:=u })) (by simp[results,results73,go_sem,q0,q1,q2,q3,q4,q5,q6,za7,HY.o]) rfl ?_;rw[HU.o];exact⟨rfl,I,_,S8.o,b3.o,S.o⟩
end
end
section
section
variable {P:Pr} {M M':Mc} {b:Int} {t n:Nat} {h:Th} {f:Fr} {x:In} {e ev:Evn}
theorem ztr (hK:zu P)(hk:k<P.code.length){i:In}(hi:P.code[zah P P.code.length k]?=some i):i.op≠20:=by
 obtain⟨j,h1,h2⟩:=hK.s.skip k hk;rw[h1]at hi;injection hi with hi;exact hi ▸ h2
theorem zue (hK:zu P)(w:WfMb P b M)(hj:∀ (u:Nat) h,M.qd[u]?=some h->u≠t->∀ f,h.qb.getLast? = some f->∀ i,P.code[f.at_]?=some i->i.op≠20):WfMb P b (zbo P M t)/\NoJ P (zbo P M t):=by
 unfold zbo;cases ht:M.qd[t]? with
 | none =>
  refine⟨w,fun h E f hf i hi=>?_⟩;obtain⟨u,hu⟩:=ybx.1 E;exact hj u h hu (fun e=>by rw[e,ht]at hu;cases hu) f hf i hi
 | some h =>
  dsimp only
  cases hl:h.qb.getLast? with
  | none =>
   refine⟨w,fun h' E f hf i hi=>?_⟩;obtain⟨u,hu⟩:=ybx.1 E;by_cases e:u=t
   ·rw[e,ht]at hu;injection hu with hu;rw[<- hu,hl]at hf;cases hf
   ·exact hj u h' hu e f hf i hi
  | some f =>
   dsimp only
   have D:=hl;rw[yar]at D;have I:=w.t h (yl ht);have H:=I.f f (List.mem_of_getLast? hl);have G:f.at_<P.code.length:=by
    obtain⟨i,_,hi,_⟩:=H.at_;exact(yh.1 hi).1
   refine⟨?_,fun h' E f' A i hi=>?_⟩
   ·unfold zQ zh;exact w.setTh (zkp I D (zud hK H) rfl rfl)
   ·obtain⟨u,hu⟩:=ybx.1 E;unfold zQ setTh at hu;by_cases e:t=u
    ·subst e;rw[show({ M with qd:=M.qd.set t (zh h { f with at_:=zah P P.code.length f.at_ }) }:Mc).qd=M.qd.set t (zh h { f with at_:=zah P P.code.length f.at_ })from rfl,setAt ht]at hu;injection hu with hu;rw[<- hu]at A;unfold zh at A;rw[yar]at A;simp only[ybw]at A;rw[setAt D]at A;injection A with A;rw[<- A]at hi;exact ztr hK G hi
    ·rw[show({ M with qd:=M.qd.set t (zh h { f with at_:=zah P P.code.length f.at_ }) }:Mc).qd=M.qd.set t (zh h { f with at_:=zah P P.code.length f.at_ })from rfl,zhv e]at hu;exact hj u h' hu (fun J=>e J.symm) f' A i hi
theorem wf_step (hK:zu P)(w:WfMb P b M)(hb:0<=b)(hJ:NoJ P M)(s:Stp P M t h n f x):WfMb P (b+1) (zeg P M t).1/\NoJ P (zeg P M t).1:=by
 unfold zeg;rw[s.ht];simp only[s.last,s.hx];have O:(zQ M t h { f with at_:=f.at_+1 }).qd[t]?=some (zh h { f with at_:=f.at_+1 }):=setAt s.ht;cases hd:doM P (setTh M t (zh h { f with at_:=f.at_+1 })) t (zh h { f with at_:=f.at_+1 }) { f with at_:=f.at_+1 } x { kind:=x.op,place:=x.place } with
 | none =>
  dsimp only
  have N:=w.t h (yl s.ht);refine⟨(w.setTh (h':={ h with qb:=[],ended:=true }) ⟨by simp,fun h=>by simp at h,fun u hu=>by simp at hu,fun i u g hu _=>by simp at hu,N.c⟩).mono yo,fun h' I f' A i hi=>?_⟩;rcases ya2 I with I | rfl
  ·exact hJ h' I f' A i hi
  ·simp at A
 | some r =>
  obtain⟨Q,ev⟩:=r
  dsimp only
  refine zue hK (wf_do hK w hb s hd) fun u h' hu G f' A i hi=>?_;have E:∀ (D:Th) (l:List Th),l=(zQ M t h { f with at_:=f.at_+1 }).qd.set t D->l[u]?=some h'->i.op≠20:=fun D l hl hu=>by
   rw[hl,zhv (fun e=>G e.symm)]at hu;rw[show(zQ M t h { f with at_:=f.at_+1 }).qd=M.qd.set t (zh h { f with at_:=f.at_+1 })from rfl,zhv (fun e=>G e.symm)]at hu;exact hJ h' (yl hu) f' A i hi
  rcases(zm3 hK O hd).1 with⟨D,e⟩ | ⟨D,F,c,e,L⟩
  ·exact E D _ e hu
  ·rw[e]at hu;rcases yF u ((zQ M t h { f with at_:=f.at_+1 }).qd.set t D).length with J | H
   ·rw[yz J]at hu;exact E D _ rfl hu
   ·rw[yC H]at hu;have K:u-((zQ M t h { f with at_:=f.at_+1 }).qd.set t D).length=0:=by
     have:=(yh.1 hu).1;simp only[yby]at this;omega
    rw[K]at hu;simp at hu;rw[<- hu]at A;simp at A;rw[<- A]at hi;exact ztr hK L hi
theorem z0r:(zbo P M t).steps=M.steps:=by
 unfold zbo;cases M.qd[t]? with
 | none=>rfl
 | some h =>
  dsimp only
  cases h.qb.getLast? <;> rfl
theorem z0s (hK:zu P)(s:Stp P M t h n f x):(zeg P M t).1.steps=M.steps:=by
 unfold zeg;rw[s.ht];simp only[s.last,s.hx];cases hd:doM P (setTh M t (zh h { f with at_:=f.at_+1 })) t (zh h { f with at_:=f.at_+1 }) { f with at_:=f.at_+1 } x { kind:=x.op,place:=x.place } with
 | none=>rfl
 | some r =>
  obtain⟨A,ev⟩:=r
  dsimp only
  rw[z0r,(zm3 hK (setAt s.ht) hd).2];rfl
theorem wf_Step (hK:zu P)(w:WfM P M)(hJ:NoJ P M)(c:Int):WfM P (za6 P M c).1/\NoJ P (za6 P M c).1/\(za6 P M c).1.steps<=M.steps+1:=by
 unfold za6;cases hR:zex P M with
 | nil=>exact⟨w,hJ,ya3 _⟩
 | cons r0 L =>
  dsimp only
  cases hu:(r0::L)[zfg c (L.length+1)]? with
  | none=>exact⟨w,hJ,ya3 _⟩
  | some u =>
   dsimp only
   have hm:mayM P M u=true:=zs4 (by rw[hR];exact yl hu);obtain⟨h,n,f,x,A,_⟩:=zro w hm hJ;have D:(zeg P { M with steps:=M.steps+1 } u).1.steps=M.steps+1:=z0s hK (n:=n) (f:=f) (x:=x) ⟨A.ht,A.hn,A.hf,A.hx,A.op,A.en⟩;have:=wf_step (b:=(M.steps:Int)+1) hK (zuf w (M.steps+1)) yo (show NoJ P { M with steps:=M.steps+1 } from hJ) (t:=u) ⟨A.ht,A.hn,A.hf,A.hx,A.op,A.en⟩;refine⟨?_,this.2,by rw[D];exact yr _⟩;show WfMb P _ _;rw[D];have h2:=this.1;rw[show(M.steps:Int)+1+1=((M.steps+1:Nat):Int)+1 by omega]at h2;exact h2
end
end
section
section
variable {P:Program} {ops:Array Oper} {Q:Exit->Act->World->Prop} {md:Region.Mode} {S:World->Prop}
theorem z1h {I:Nat->Array Bool->Act->World->Prop}
  (h:∀ n L a w,I n L a w->wpAnyH P md ops Q S n L a w\/∃ D,n=D+1/\Region.ready md ops L≠[]/\∀ i ∈ Region.ready md ops L,wpOp P ops Q i (fun a' w'=>S w'/\I D (L.setIfInBounds i true) a' w') a w) :
  ∀ n L a w,I n L a w->wpAnyH P md ops Q S n L a w:=by
 intro n
 induction n with
 | zero =>
  intro L a w E;rcases h 0 L a w E with h | ⟨D,e,_⟩
  ·exact h
  ·omega
 | succ n ih =>
  intro L a w E;rcases h _ L a w E with h | ⟨D,e,G,A⟩
  ·exact h
  ·obtain rfl:n=D:=yo;exact⟨fun H=>absurd H G,fun i hi=>wpOp_mono (fun a' w' q=>⟨q.1,ih _ _ _ q.2⟩) (A i hi)⟩
def set6 (L:Array Bool)(k0 k1 k2 k3 k4 k5:Nat)(b0 b1 b2 b3 b4 b5:Bool):Array Bool :=
 (((((L.setIfInBounds k0 b0).setIfInBounds k1 b1).setIfInBounds k2 b2).setIfInBounds k3 b3).setIfInBounds k4 b4).setIfInBounds k5 b5
def SixAt (L:Array Bool)(k0 k1 k2 k3 k4 k5:Nat)(v:Bool->Bool->Bool->Bool->Bool->Bool->Bool)(b0 b1 b2 b3 b4 b5:Bool)(i:Nat):Prop :=
 (i=k0/\b0=false/\v true b1 b2 b3 b4 b5=true/\(set6 L k0 k1 k2 k3 k4 k5 b0 b1 b2 b3 b4 b5).setIfInBounds i true=set6 L k0 k1 k2 k3 k4 k5 true b1 b2 b3 b4 b5) \/
 (i=k1/\b1=false/\v b0 true b2 b3 b4 b5=true/\(set6 L k0 k1 k2 k3 k4 k5 b0 b1 b2 b3 b4 b5).setIfInBounds i true=set6 L k0 k1 k2 k3 k4 k5 b0 true b2 b3 b4 b5) \/
 (i=k2/\b2=false/\v b0 b1 true b3 b4 b5=true/\(set6 L k0 k1 k2 k3 k4 k5 b0 b1 b2 b3 b4 b5).setIfInBounds i true=set6 L k0 k1 k2 k3 k4 k5 b0 b1 true b3 b4 b5) \/
 (i=k3/\b3=false/\v b0 b1 b2 true b4 b5=true/\(set6 L k0 k1 k2 k3 k4 k5 b0 b1 b2 b3 b4 b5).setIfInBounds i true=set6 L k0 k1 k2 k3 k4 k5 b0 b1 b2 true b4 b5) \/
 (i=k4/\b4=false/\v b0 b1 b2 b3 true b5=true/\(set6 L k0 k1 k2 k3 k4 k5 b0 b1 b2 b3 b4 b5).setIfInBounds i true=set6 L k0 k1 k2 k3 k4 k5 b0 b1 b2 b3 true b5) \/
 (i=k5/\b5=false/\v b0 b1 b2 b3 b4 true=true/\(set6 L k0 k1 k2 k3 k4 k5 b0 b1 b2 b3 b4 b5).setIfInBounds i true=set6 L k0 k1 k2 k3 k4 k5 b0 b1 b2 b3 b4 true)
instance {L:Array Bool} {k0 k1 k2 k3 k4 k5:Nat} {v:Bool->Bool->Bool->Bool->Bool->Bool->Bool} {b0 b1 b2 b3 b4 b5:Bool} {i:Nat}:Decidable (SixAt L k0 k1 k2 k3 k4 k5 v b0 b1 b2 b3 b4 b5 i):=by
 unfold SixAt;infer_instance
def Six (md:Region.Mode)(ops:Array Oper)(L:Array Bool)(k0 k1 k2 k3 k4 k5:Nat)(v:Bool->Bool->Bool->Bool->Bool->Bool->Bool):Prop :=
 (set6 L k0 k1 k2 k3 k4 k5 false false false false false false=L/\v false false false false false false=true)/\∀ b0 b1 b2 b3 b4 b5,v b0 b1 b2 b3 b4 b5=true ->
  ((b0&&b1&&b2&&b3&&b4&&b5)=true\/Region.ready md ops (set6 L k0 k1 k2 k3 k4 k5 b0 b1 b2 b3 b4 b5)≠[]/\∀ i ∈ Region.ready md ops (set6 L k0 k1 k2 k3 k4 k5 b0 b1 b2 b3 b4 b5),SixAt L k0 k1 k2 k3 k4 k5 v b0 b1 b2 b3 b4 b5 i)
instance {md:Region.Mode} {ops:Array Oper} {L:Array Bool} {k0 k1 k2 k3 k4 k5:Nat} {v:Bool->Bool->Bool->Bool->Bool->Bool->Bool}:Decidable (Six md ops L k0 k1 k2 k3 k4 k5 v):=by
 unfold Six;infer_instance
def cnt6 (b0 b1 b2 b3 b4 b5:Bool):Nat:=(!b0).toNat+(!b1).toNat+(!b2).toNat+(!b3).toNat+(!b4).toNat+(!b5).toNat
def Goes (P:Program)(Q:Exit->Act->World->Prop)(o:Oper)(ops:Array Oper)(I:Act->World->Prop)(a:Act)(w:World):Prop :=
 ∀ K:Act->World->Prop,Shut (∀ a' w',I a' w'->K a' w')->if Region.wanted o (yielded ops a.tmps)=true then Oper.wp P o a w K Q else K (a.put o.dst undef) w
theorem Goes.op {o:Oper}{I J:Act->World->Prop}{a:Act}{w:World}{i:Nat}(ho:ops[i]?=some o)(h:Goes P Q o ops I a w)(hJ:∀ a w,I a w->J a w):wpOp P ops Q i J a w :=
 wpOp_step ho fun K A=>h K fun a' w' q=>A a' w' (hJ a' w' q)
theorem zul {n k0 k1 k2 k3 k4 k5:Nat}{o0 o1 o2 o3 o4 o5:Oper}{L:Array Bool}{a0:Act}{w0:World}(v:Bool->Bool->Bool->Bool->Bool->Bool->Bool)(I:Act->Bool->Bool->Bool->Bool->Bool->Bool->Act->World->Prop)
  (e0:ops[k0]?=some o0) (e1:ops[k1]?=some o1) (e2:ops[k2]?=some o2) (e3:ops[k3]?=some o3) (e4:ops[k4]?=some o4) (e5:ops[k5]?=some o5)
  (d:decide (Six md ops L k0 k1 k2 k3 k4 k5 v)=true) (hS:∀ b0 A D E G H a w,I a0 b0 A D E G H a w->S w) (h0:I a0 false false false false false false a0 w0)
  (r:∀ a w,I a0 true true true true true true a w->wpAnyH P md ops Q S n (set6 L k0 k1 k2 k3 k4 k5 true true true true true true) a w)
  (s0:∀ A D E G H,v false A D E G H=true->v true A D E G H=true->∀ a w,I a0 false A D E G H a w->Goes P Q o0 ops (I a0 true A D E G H) a w)
  (s1:∀ b0 D E G H,v b0 false D E G H=true->v b0 true D E G H=true->∀ a w,I a0 b0 false D E G H a w->Goes P Q o1 ops (I a0 b0 true D E G H) a w)
  (s2:∀ b0 A E G H,v b0 A false E G H=true->v b0 A true E G H=true->∀ a w,I a0 b0 A false E G H a w->Goes P Q o2 ops (I a0 b0 A true E G H) a w)
  (s3:∀ b0 A D G H,v b0 A D false G H=true->v b0 A D true G H=true->∀ a w,I a0 b0 A D false G H a w->Goes P Q o3 ops (I a0 b0 A D true G H) a w)
  (s4:∀ b0 A D E H,v b0 A D E false H=true->v b0 A D E true H=true->∀ a w,I a0 b0 A D E false H a w->Goes P Q o4 ops (I a0 b0 A D E true H) a w)
  (s5:∀ b0 A D E G,v b0 A D E G false=true->v b0 A D E G true=true->∀ a w,I a0 b0 A D E G false a w->Goes P Q o5 ops (I a0 b0 A D E G true) a w) :
  wpAnyH P md ops Q S (n+6) L a0 w0:=by
 obtain⟨⟨U,W⟩,Y⟩:=of_decide_eq_true d;refine z1h (I:=fun m R a w=>∃ b0 A D E G H,m=n+cnt6 b0 A D E G H/\R=set6 L k0 k1 k2 k3 k4 k5 b0 A D E G H/\v b0 A D E G H=true/\I a0 b0 A D E G H a w) ?_ _ _ _ _ ⟨false,false,false,false,false,false,rfl,U.symm,W,h0⟩;rintro m R a w ⟨b0,A,D,E,G,H,rfl,rfl,hv,K⟩;rcases Y b0 A D E G H hv with J | ⟨O,J⟩
 ·left;simp only[yH]at J;obtain⟨⟨⟨⟨⟨rfl,rfl⟩,rfl⟩,rfl⟩,rfl⟩,rfl⟩:=J;exact r a w K
 ·right;obtain⟨c,N⟩:∃ c,cnt6 b0 A D E G H=c+1:=by
   rcases hr:Region.ready md ops (set6 L k0 k1 k2 k3 k4 k5 b0 A D E G H)with _ | ⟨i,l⟩
   ·exact absurd hr O
   ·rcases J i (by rw[hr];exact ycs ..)with⟨_,rfl,_⟩ | ⟨_,rfl,_⟩ | ⟨_,rfl,_⟩ | ⟨_,rfl,_⟩ | ⟨_,rfl,_⟩ | ⟨_,rfl,_⟩
    all_goals exact⟨_,(Nat.succ_pred_eq_of_pos (by unfold cnt6;simp only[yct,Bool.toNat_true];omega)).symm⟩
  refine⟨n+c,by omega,O,fun i hi=>?_⟩;rcases J i hi with⟨rfl,rfl,h3,h4⟩ | ⟨rfl,rfl,h3,h4⟩ | ⟨rfl,rfl,h3,h4⟩ | ⟨rfl,rfl,h3,h4⟩ | ⟨rfl,rfl,h3,h4⟩ | ⟨rfl,rfl,h3,h4⟩
  ·exact(s0 _ _ _ _ _ hv h3 a w K).op e0 fun a w q=>⟨hS _ _ _ _ _ _ _ _ q,_,_,_,_,_,_,by simp[cnt6]at N |-;omega,h4,h3,q⟩
  ·exact(s1 _ _ _ _ _ hv h3 a w K).op e1 fun a w q=>⟨hS _ _ _ _ _ _ _ _ q,_,_,_,_,_,_,by simp[cnt6]at N |-;omega,h4,h3,q⟩
  ·exact(s2 _ _ _ _ _ hv h3 a w K).op e2 fun a w q=>⟨hS _ _ _ _ _ _ _ _ q,_,_,_,_,_,_,by simp[cnt6]at N |-;omega,h4,h3,q⟩
  ·exact(s3 _ _ _ _ _ hv h3 a w K).op e3 fun a w q=>⟨hS _ _ _ _ _ _ _ _ q,_,_,_,_,_,_,by simp[cnt6]at N |-;omega,h4,h3,q⟩
  ·exact(s4 _ _ _ _ _ hv h3 a w K).op e4 fun a w q=>⟨hS _ _ _ _ _ _ _ _ q,_,_,_,_,_,_,by simp[cnt6]at N |-;omega,h4,h3,q⟩
  ·exact(s5 _ _ _ _ _ hv h3 a w K).op e5 fun a w q=>⟨hS _ _ _ _ _ _ _ _ q,_,_,_,_,_,_,by simp[cnt6]at N |-;omega,h4,h3,q⟩
end
theorem zzq {C:AX}{lab:Lab}{mb:Nat}{M:Mc}{V:MV}{w:World}(g:MSt C lab mb M V w) :
  Calls prog 77 #[.p mb] w fun e w'=>e=.r (.m w.heap.size)/\MapE w' w.heap.size spV SpOk intV M.races/\Below w.heap.size w w':=by
 have I:w.cell? (.a mb 7)=some (.m V.rb):=g.cells 7;have H:=zH (zqa w g.mi.a);clear g;go_enter func77,ntmps77;go_wp2_with fail;refine H.o.mono ?_;rintro x J ⟨rfl,D,A,G⟩;have E:=zH (And.intro D A);clear D A G;go_wp2;go_ret;exact⟨rfl,E.o⟩
end
end Go.Proofs.YtkmcihhndgdhpaaGreat
