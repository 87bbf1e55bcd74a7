/- Parts of the walk. -/
import Derived.Test.YtkmcihhndgdhpaaGreatWD0
set_option maxRecDepth 100000
set_option maxHeartbeats 4000000
set_option linter.unusedSimpArgs false
set_option linter.unusedVariables false
open Go.ChangeMaps Go.Maps Go.RowKit Go.Proofs.Tryz
namespace Go.Proofs.YtkmcihhndgdhpaaGreat
variable {c:List (Int×Int)}{b g L B:Nat}{r cur:List (Sp×Int)}{place:Int}{write:Bool}{M':Mc}{D:Sp×Tc→Prop}{ars:List Ar}{xs:List Value}
section
section
variable {C:AX} {mb eb:Nat} {lab0 lab:Lab} {w0 w w':World} {M:Mc} {V:MV} {e:Evn} {t n fg fc k:Nat} {f:Fr} {h:Th} {v:TV} {lv:Value} {i:In}
theorem TopP.mono {V':MV}(p:TopP M V t h f n v fg fc lv)(hM:M'.qd=M.qd)(hV:V'.tl=V.tl):TopP M' V' t h f n v fg fc lv:=⟨by rw[hM];exact p.ht,by rw[hV];exact p.hv,p.hn,p.hf,p.hu,p.hlv⟩
theorem St.objsS (s:St C mb eb lab0 w0 lab M V e w)(o:Nat):St C mb eb lab0 w0 lab { M with qt:=o } V e (w.setCell (.a mb 3) (.i o)):=by
 have hb:lab mb=.m:=s.g.mi.ml;refine s.vk (b:=mb) (zey _ _ _) (by rw[hb];simp) (s.g.vk (b:=mb) (zey _ _ _) hb yy fun A=>?_);exact s.g.mi.cellsE (s:=M.steps) A (by have:=s.g.mi.m.qe 3 (.i o);exact this)
theorem St.stepsS (s:St C mb eb lab0 w0 lab M V e w)(o:Nat):St C mb eb lab0 w0 lab { M with steps:=o } V e (w.setCell (.a mb 8) (.i o)):=by
 have hb:lab mb=.m:=s.g.mi.ml;refine s.vk (b:=mb) (zey _ _ _) (by rw[hb];simp) (s.g.vk (b:=mb) (zey _ _ _) hb yy fun A=>?_);exact s.g.mi.cellsE (o:=M.qt) A (by have:=s.g.mi.m.qe 8 (.i o);exact this)
theorem St.ownerS {m:List (Int×Int)}(s:St C mb eb lab0 w0 lab M V e w)(hg:w.grownBy w' (some V.ob))(hm:zb w' V.ob m):St C mb eb lab0 w0 lab { M with owner:=m } V e w' :=
 s.vk hg (by rw[s.g.mi.ol];simp) (s.g.vk hg s.g.mi.ol yy fun A=>s.g.mi.ownerE A hm)
theorem St.heldS {m:List (Sp×Vl)}(s:St C mb eb lab0 w0 lab M V e w)(hg:w.grownBy w' (some V.hb))(hm:MapE w' V.hb spV SpOk vlV m):St C mb eb lab0 w0 lab { M with held:=m } V e w' :=
 s.vk hg (by rw[s.g.mi.hl];simp) (s.g.vk hg s.g.mi.hl yy fun A=>s.g.mi.heldE A hm)
theorem St.clkS (s:St C mb eb lab0 w0 lab M V e w)(ht:M.qd[t]?=some h)(hv:V.tl[t]?=some v)(hg:w.grownBy w' (some v.cb))(hm:zb w' v.cb c):St C mb eb lab0 w0 lab (setTh M t { h with clock:=c }) V e w':=by
 have hl:=(s.g.mi.t t h v ht hv).cl;exact s.vk hg (by rw[hl];simp) (s.g.vk hg hl yy fun A=>s.g.mi.clkE ht hv A hm)
theorem St.mbl (s:St C mb eb lab0 w0 lab M V e w):mb<w.heap.size:=s.g.mi.m.lt
theorem St.mbe (s:St C mb eb lab0 w0 lab M V e w):mb≠eb:=fun h=>by have:=s.g.mi.ml;rw[h,s.eo]at this;cases this
theorem St.mbf (s:St C mb eb lab0 w0 lab M V e w):∀ j,w.frozen? (.a mb j)=false:=s.g.mi.m.frozen
end
section
variable {C:AX} {mb eb:Nat} {lab:Lab} {w:World} {M:Mc} {V:MV} {e:Evn} {t n fg fc k:Nat} {f:Fr} {h:Th} {v:TV} {lv:Value} {i:In}
theorem make_do (HC:AXok C)(s:St C mb eb lab w lab M V e w)(p:TopP M V t h f n v fg fc lv)(hi:C.P.code[k]?=some i)(W:WfD C.P M h f i)(ho:i.op=6) :
  Calls prog 253 #[.p mb,.i t,.q fg (n*3),.q C.cg (k*14),.p eb] w
   (zdk C mb eb lab w M V (doM C.P M t h f i e)):=by
 obtain⟨R,O⟩:∃ R,doM C.P M t h f i e=R:=⟨_,rfl⟩;rw[O];have HM:=zH (show R=if M.qt=8 then none else some ({ zQ M t h (xc f i.x (.obj M.qt))with qt:=M.qt+1 },{ e with obj:=M.qt,val:=.obj M.qt }) by
  rw[<- O];unfold doM;rw[yg yo,yg yo,yg yo,yj ho])
 have HX:=zH (And.intro (W.io.x yo) W.io.xl);have HO:=zH W.o;have m3:w.cell? (.a mb 3)=some (.i M.qt):=s.g.cells 3;have mf:=s.mbf;have ml:=s.mbl;have S:=zH s;have HI:=zH hi;have HP:=zH p;clear O W ho s hi p;by_cases h8:M.qt=8
 ·have o8:((M.qt:Int)==8)=true:=by rw[h8];rfl
  have I:=zH (HM.o.trans (yj h8));clear h8 mf;go_enter func253,ntmps253;go_wp2;go_ret;rw[I.o];exact⟨rfl,e,S.o⟩
 ·have o8:((M.qt:Int)==8)=false:=zI yo;have I:=zH (HM.o.trans (yg h8));clear h8;have S3:=zH (S.o.ev 3 (.i M.qt) (e':={ e with obj:=M.qt }) rfl);have A:=zH (S3.o.ev 5 (vlV (.obj M.qt)) (e':={ e with obj:=M.qt,val:=.obj M.qt }) rfl);have e3:w.cell? (.a eb 3)=some (.i e.obj):=S.o.b.cell 3;obtain⟨a0,z2,H⟩:=za3 e.val;have e5:w.cell? (.a eb 5)=some (.iface a0 (.i z2)):=(S.o.b.cell 5).trans (by rw[<- H];rfl);have ez:=S.o.fz;have el:=S.o.b.lt;have U:=S.o.mbe;have Q:=S.o.mbe.symm;simp only[vlV]at A;clear H;go_enter func253,ntmps253;go_wp2_with fail;clear m3 mf ml e3 e5 ez el U Q;generalize (w.setCell (.a eb 3) (.i M.qt)).setCell (.a eb 5) (.iface 451 (.i M.qt))=w2 at A |-;obtain⟨x,hx⟩:∃ x:Nat,i.x=(x:Int):=⟨i.x.toNat,by have:=HX.o.1;omega⟩;have Z:x<f.qc.length:=yq HX.o.2;obtain⟨N,E⟩:∃ N,f.qc[x]?=some N:=⟨_,yc Z⟩;have T:=HP.o.top A.o.g;obtain⟨K,lc,L⟩:=T.locP yo;have f1:=T.f1;have hc:=L.c x N E;have hz:=L.z;have a4:=L.l;have hu:=L.u;have a5:K≠eb:=fun h1=>by have:=T.F.l K (by rw[hu];rfl);rw[h1,A.o.eo]at this;cases this
  have Y:K≠mb:=fun h1=>by have:=T.F.l K (by rw[hu];rfl);rw[h1,A.o.g.mi.ml]at this;cases this
  have a3:fg≠mb:=fun h1=>by have:=T.l;rw[h1,A.o.g.mi.ml]at this;cases this
  have a2:fg≠eb:=fun h1=>by have:=T.l;rw[h1,A.o.eo]at this;cases this
  have fl:=T.fl;obtain⟨a6,z1,G⟩:=za3 N;rw[G]at hc;have HU:=zH hu;rw[hu]at f1;have i3:=ic3 HC A.o HI.o;have cl:=icl HC A.o HI.o;have e5:w2.cell? (.a eb 5)=some (.iface 451 (.i M.qt)):=A.o.b.cell 5;have el:=A.o.b.lt;have m3:w2.cell? (.a mb 3)=some (.i M.qt):=A.o.g.cells 3;have mf:=A.o.mbf;have ml:=A.o.mbl;have J:=zH ((A.o.locI (x:=i.x) (y:=.obj M.qt) HP.o hu).drew);have D:=zH (J.o.objsS (M.qt+1));rw[hx]at i3 J D I;simp only[vlV]at J D;rw[ybl]at J D;rw[show((M.qt+1:Nat):Int)=(M.qt:Int)+1 by omega]at D;have hw:wrap64 ((M.qt:Int)+1)=(M.qt:Int)+1:=IntWalk.wrap64_in _ (yq HO.o);have a1:=Y.symm;clear T L hx E G hu;go_region;go_wp2;go_ret;rw[I.o];exact⟨rfl,lab,V,D.o⟩
end
end
section
section
variable {C:AX} {mb eb:Nat} {lab0 lab:Lab} {w0 w w':World} {M:Mc} {V:MV} {e:Evn} {t n fg fc k:Nat} {f:Fr} {h:Th} {v:TV} {lv:Value} {i:In}
theorem MIs.mclk (g:MIs w lab mb C M V)(x:Int):(mget V.kl x=none/\(mget M.qq x).getD []=[])\/∃ b c,mget V.kl x=some b/\(mget M.qq x).getD []=c/\zb w b c/\lab b=.mclk x:=by
 cases hk:mget V.kl x with
 | none=>exact .inl ⟨rfl,by rw[g.kn x hk];rfl⟩
 | some b =>
  obtain⟨c,h1,h2,h3⟩:=g.kc x b hk;exact .inr ⟨b,c,rfl,by rw[h1];rfl,h3,h2⟩
theorem zru (s:St C mb eb lab0 w0 lab M V e w)(ht:M.qd[t]?=some h)(hv:V.tl[t]?=some v)(d:List (Int×Int))(dv:Option Nat)(hd:(dv=none/\d=[])\/∃ b,dv=some b/\zb w b d/\lab b≠.clk t) :
  Calls prog 304 #[.m v.cb,.map dv] w fun x w'=>x=.e/\St C mb eb lab0 w0 lab (setTh M t { h with clock:=zd9 h.clock d }) V e w':=by
 have A:=s.g.mi.t t h v ht hv;rcases hd with⟨rfl,rfl⟩ | ⟨b,rfl,E,hl⟩
 ·refine(zyj w v.cb h.clock A.c).mono ?_;rintro x w' ⟨rfl,hm,D⟩;exact⟨rfl,s.clkS ht hv D hm⟩
 ·refine(zyi w v.cb b h.clock d A.c E (fun e=>by rw[<- e,A.cl]at hl;exact hl rfl)).mono ?_;rintro x w' ⟨rfl,hm,D⟩;exact⟨rfl,s.clkS ht hv D hm⟩
theorem iwNat {n:Nat}(h:n<1000000):iw (n:Int):=⟨by omega,by omega⟩
theorem lock_do (HC:AXok C)(s:St C mb eb lab w lab M V e w)(p:TopP M V t h f n v fg fc lv)(hi:C.P.code[k]?=some i)(W:WfD C.P M h f i)(ho:i.op=9) :
  Calls prog 254 #[.p mb,.i t,.q fg (n*3),.q C.cg (k*14),.p eb] w
   (zdk C mb eb lab w M V (doM C.P M t h f i e)):=by
 obtain⟨R,Y⟩:∃ R,doM C.P M t h f i e=R:=⟨_,rfl⟩;rw[Y];have HR:=zH (show R=some (setTh { M with owner:=mput M.owner i.var t } t { h with clock:=zd9 h.clock ((mget M.qq i.var).getD []) },{ e with field:=i.var }) by
  rw[<- Y];unfold doM;rw[yg yo,yg yo,yg yo,yg yo,yj ho])
 have HV:=zH W.io.vr;have i9:=ic9 HC s hi;have e4:w.cell? (.a eb 4)=some (.i e.field):=s.b.cell 4;have ez:=s.fz;have el:=s.b.lt;have H:=zH (s.ev 4 (.i i.var) (e':={ e with field:=i.var }) rfl);have HI:=zH hi;have HP:=zH p;clear Y W ho s hi p;go_enter func254,ntmps254;go_wp2_with fail;clear i9 e4 ez el;generalize w.setCell (.a eb 4) (.i i.var)=w1 at H |-;obtain⟨E,Z,O,L,_⟩:=(H.o.drew.g.mi.o).update zdu underlying241 (wfI HV.o) (t:Int);have G:=zH (H.o.drew.ownerS L O);refine rgl 9 (fun(D:World)=>D.cell? (.a mb 4)=some (.m V.ob)/\D.cell? (.n C.cg k 9)=some (.i i.var)) ?_;have A:=And.intro (show w1.drew.cell? (.a mb 4)=some (.m V.ob)from H.o.drew.g.cells 4) (show w1.drew.cell? (.n C.cg k 9)=some (.i i.var)from ic9 HC H.o.drew HI.o)
 iterate 9(refine tK 0 rfl A ?_)
 refine lst rfl fun K I=>?_;go_simp;refine I _ _ ?_;clear I K A Z O L;have S:TopP { M with owner:=mput M.owner i.var t } V t h f n v fg fc lv:=HP.o.mono rfl rfl;obtain⟨dv,J,N⟩:∃ dv:Option Nat,((dv=none/\(mget M.qq i.var).getD []=[])\/∃ b,dv=some b/\zb E.drew b ((mget M.qq i.var).getD [])/\lab b≠.clk t)/\(Instr.lookup 242 (.m V.kb) (.i i.var) false).run prog E.drew=.ok (.map dv) E.drew:=by
  have hl:=G.o.drew.g.mi.k.lookup zdu underlying242 (zeroValue252 E.drew) (wfI HV.o) false;rcases G.o.drew.g.mi.mclk i.var with⟨h1,h2⟩ | ⟨b,c,h1,h2,h3,h4⟩
  ·exact⟨none,.inl ⟨rfl,h2⟩,by rw[hl,h1];rfl⟩
  ·exact⟨some b,.inr ⟨b,rfl,by rw[show(mget M.qq i.var).getD []=c from h2];exact h3,by rw[h4];simp⟩,by rw[hl,h1];rfl⟩
 have U:=zH (zru G.o.drew S.ht S.hv _ dv J);have T:=S.top G.o.g;have tl:=T.lt;have t2:=T.t2
 dsimp only at tl
 clear S J T;go_wp2_with fail;refine rgl 17 (fun(D:World)=>D.cell? (.a mb 1)=some (.s V.tb M.qd.length V.vd)/\D.cell? (.a mb 5)=some (.m V.kb)/\D.cell? (.a V.tb (t*3+2))=some (.m v.cb)/\D.cell? (.n C.cg k 9)=some (.i i.var)/\(Instr.lookup 242 (.m V.kb) (.i i.var) false).run prog D=.ok (.map dv) D) ?_;have A:=And.intro (show E.drew.cell? (.a mb 1)=some (.s V.tb M.qd.length V.vd)from G.o.drew.g.cells 1) (And.intro (show E.drew.cell? (.a mb 5)=some (.m V.kb)from G.o.drew.g.cells 5) (And.intro (show E.drew.cell? (.a V.tb (t*3+2))=some (.m v.cb)from t2) (And.intro (show E.drew.cell? (.n C.cg k 9)=some (.i i.var)from ic9 HC G.o.drew HI.o) N)))
 iterate 17(refine tK 0 rfl A ?_)
 refine lst rfl fun K I=>?_;go_simp;refine U.o.mono ?_;rintro x w3 ⟨rfl,Q⟩;refine I _ _ ?_;have S3:=zH Q;clear I K A Q N t2 tl;go_wp2;go_ret;rw[HR.o];exact⟨rfl,lab,V,S3.o⟩
end
end
section
section
variable {C:AX} {mb eb:Nat} {lab0 lab lab':Lab} {w0 w w':World} {M:Mc} {V:MV} {e:Evn} {t n fg fc k:Nat} {f:Fr} {h:Th} {v:TV} {lv:Value} {i:In}
theorem FrIs.vq {t i:Nat}{f:Fr}{u:Value}(g:FrIs w lab t i f u)(hl:∀ k,lab k≠.out->lab' k=lab k):FrIs w lab' t i f u :=
 ⟨g.r,fun k e=>(hl k (by rw[g.l k e];simp)).trans (g.l k e)⟩
theorem ThIs.vq (g:ThIs w lab t h v)(hl:∀ k,lab k≠.out->lab' k=lab k):ThIs w lab' t h v :=
 ⟨g.n,g.r,fun k e=>(hl k (by rw[g.l k e];simp)).trans (g.l k e),fun i f u a b=>(g.f i f u a b).vq hl,g.c,(hl _ (by rw[g.cl];simp)).trans g.cl⟩
theorem MIs.vq (g:MIs w lab mb C M V)(hl:∀ k,lab k≠.out->lab' k=lab k):MIs w lab' mb C M V :=
 ⟨g.m,(hl _ (by rw[g.ml];simp)).trans g.ml,g.n,g.r,(hl _ (by rw[g.rl];simp)).trans g.rl,fun t h v a b=>(g.t t h v a b).vq hl,g.h,(hl _ (by rw[g.hl];simp)).trans g.hl,g.o,(hl _ (by rw[g.ol];simp)).trans g.ol,
  g.k,(hl _ (by rw[g.kl];simp)).trans g.kl,fun x b e=>by obtain⟨c,a,l,i⟩:=g.kc x b e;exact⟨c,a,(hl _ (by rw[l];simp)).trans l,i⟩,g.kn,
  g.u,(hl _ (by rw[g.ul];simp)).trans g.ul,fun x b e=>by obtain⟨c,a,l,i⟩:=g.uc x b e;exact⟨c,a,(hl _ (by rw[l];simp)).trans l,i⟩,g.un,g.a,(hl _ (by rw[g.al];simp)).trans g.al⟩
theorem MSt.name (g:MSt C lab mb M V w)(hb:Below w.heap.size w w')(hz:w'.heap.size=w.heap.size+1)(R:Rl):MSt C (fun k=>if k=w.heap.size then R else lab k) mb M V w':=by
 have h1:=g.below hb;refine⟨h1.on,h1.mi.vq fun k A=>?_,fun k A=>?_,fun k A=>?_⟩
 ·rw[yg];rintro rfl;exact A (g.hi _ yL)
 ·have:=g.on.size;rw[yg yo];exact g.lo k A
 ·rw[yg yo];exact g.hi k yo
theorem St.name (s:St C mb eb lab0 w0 lab M V e w)(hb:Below w.heap.size w w')(hz:w'.heap.size=w.heap.size+1)(R:Rl):St C mb eb lab0 w0 (fun k=>if k=w.heap.size then R else lab k) M V e w' :=
 ⟨s.g.name hb hz R,s.b.below hb s.b.lt,s.o.below hb yL,fun k A=>by
  have:=s.o.size;rw[yg yo];exact s.l k A,by
  have:=s.b.lt;rw[yg yo];exact s.eo,s.ew⟩
theorem MapE.delete {P:Program}{k e t:TypeId}{κ ν: Type} [DecidableEq κ] {enc:κ -> Value} {ok:κ -> Prop} {encv:ν -> Value}  {m:List (κ × ν)} (h:MapE w b enc ok encv m) (K:zaw P k enc ok) (ht:P.underlying t=some (.map k e)) {x:κ} (hx:ok x) (ty t':TypeId) :
  ∃ w',(Builtin.delete_ #[t,t'] ty #[.m b,enc x]).run P w=.ok (.tuple #[]) w'/\MapE w' b enc ok encv (mdel m x)/\w.grownBy w' (some b)/\w'.heap.size=w.heap.size:=by
 obtain⟨A,h1,h2⟩:=h;obtain⟨w',a,b',c⟩:=h1.delete K ht hx ty t';exact⟨w',a,⟨_,b',fun y=>by rw[zrw,zrw,h2]⟩,c⟩
theorem St.mclkS {x:Int}(s:St C mb eb lab0 w0 lab M V e w)(hg:w.grownBy w' (some V.kb))(hb:lab b=.mclk x)(hc:zb w b c)(hk:MapE w' V.kb intV (fun n=>(Lit.int .i64 n).wf=true) mapV (mput V.kl x b)) :
  St C mb eb lab0 w0 lab { M with qq:=mput M.qq x c } { V with kl:=mput V.kl x b } e w' :=
 s.vk hg (by rw[s.g.mi.kl];simp) (s.g.vk hg s.g.mi.kl yy fun A=>s.g.mi.mclkE A hb hc hk)
theorem z04 (HC:AXok C)(s:St C mb eb lab w lab M V e w)(p:TopP M V t h f n v fg fc lv)(hi:C.P.code[k]?=some i)(W:WfD C.P M h f i)(ho:i.op=10) :
  Calls prog 255 #[.p mb,.i t,.q fg (n*3),.q C.cg (k*14),.p eb] w
   (zdk C mb eb lab w M V (doM C.P M t h f i e)):=by
 obtain⟨R,hR⟩:∃ R,doM C.P M t h f i e=R:=⟨_,rfl⟩;rw[hR];have HM:=zH (show R=if mget M.owner i.var=some (t:Int)then some (setTh { M with owner:=mdel M.owner i.var,qq:=mput M.qq i.var h.clock } t { h with clock:=mput h.clock t (zJ h.clock t+1) },{ e with field:=i.var })else none by
  rw[<- hR];unfold doM;rw[yg yo,yg yo,yg yo,yg yo,yg yo,yj ho])
 have HV:=zH W.io.vr;have HN:=zH W.n;have ab:=zH (show iw (zJ h.clock t+1) by
  have h1:=W.c t;have h2:=W.s;unfold zJ;cases hc:mget h.clock t with
  | none=>exact⟨by simp,by simp⟩
  | some z=>have:=h1 z hc;exact⟨by simp;omega,by simp;omega⟩)
 have i9:=ic9 HC s hi;have e4:w.cell? (.a eb 4)=some (.i e.field):=s.b.cell 4;have ez:=s.fz;have el:=s.b.lt;have Z:=zH (s.ev 4 (.i i.var) (e':={ e with field:=i.var }) rfl);have HI:=zH hi;have HP:=zH p;have TL:=zH (p.top s.g).lt;clear hR W ho s hi p;go_enter func255,ntmps255;go_wp2_with fail;clear i9 e4 ez el;generalize w.setCell (.a eb 4) (.i i.var)=w1 at Z |-;obtain⟨z,b,hb,D⟩:∃ (z:Int) (b:Bool),(if b then mget M.owner (i.var:Int)=some z else mget M.owner (i.var:Int)=none)/\(Instr.lookup 241 (.m V.ob) (.i i.var) true).run prog w1.drew=.ok (.tuple #[.i z,.bool b]) w1.drew:=by
  have D:=Z.o.drew.g.mi.o.lookup zdu underlying241 (zeroValue3 w1.drew) (wfI HV.o) true;cases hO:mget M.owner (i.var:Int)with
  | none=>exact⟨0,false,rfl,by rw[D,hO];rfl⟩
  | some z=>exact⟨z,true,rfl,by rw[D,hO];rfl⟩
 have HB:=zH hb;clear hb;refine rgl 13 (fun(G:World)=>G.cell? (.a mb 4)=some (.m V.ob)/\G.cell? (.n C.cg k 9)=some (.i i.var)/\(Instr.lookup 241 (.m V.ob) (.i i.var) true).run prog G=.ok (.tuple #[.i z,.bool b]) G) ?_;have A:=And.intro (show w1.drew.cell? (.a mb 4)=some (.m V.ob)from Z.o.drew.g.cells 4) (And.intro (show w1.drew.cell? (.n C.cg k 9)=some (.i i.var)from ic9 HC Z.o.drew HI.o) D)
 iterate 13(refine tK 0 rfl A ?_)
 refine lst rfl fun K H=>?_;go_simp;refine H _ _ ?_;clear H K A D;have L:=zH Z.o.drew;generalize w1.drew=w2 at L |-;cases b
 ·have Y:=zH (HM.o.trans (yg (by have:=HB.o;simp at this;rw[this];simp)));go_wp2;go_ret;rw[Y.o];exact⟨rfl,_,L.o⟩
 ·by_cases hz:z=(t:Int)
  ·subst hz;have Y:=zH (HM.o.trans (yj (by have:=HB.o;simpa using this)));have a8:((t:Int) != (t:Int))=false:=by simp
   go_wp2_with fail;clear a8;obtain⟨w3,a1,a5,a2,af⟩:=(L.o.drew.g.mi.o).delete zdu underlying241 (wfI HV.o) 0 3;have S:=zH (L.o.drew.ownerS a2 a5);refine rgl 8 (fun(G:World)=>G.cell? (.a mb 4)=some (.m V.ob)/\G.cell? (.n C.cg k 9)=some (.i i.var)) ?_;have A:=And.intro (show w2.drew.cell? (.a mb 4)=some (.m V.ob)from L.o.drew.g.cells 4) (show w2.drew.cell? (.n C.cg k 9)=some (.i i.var)from ic9 HC L.o.drew HI.o)
   iterate 8(refine tK 0 rfl A ?_)
   refine lst rfl fun K H=>?_;go_simp;refine H _ _ ?_;clear H K A a1 a5 a2 af;have p3:TopP { M with owner:=mdel M.owner i.var } V t h f n v fg fc lv:=HP.o.mono rfl rfl;have T3:=p3.top S.o.g;have U:=zH p3;have tl:=TL.o;have t2:=T3.t2;have ac:=zH (zk4 (b:=v.cb) w3.drew (S.o.drew.g.mi.t t h v p3.ht p3.hv).c);clear p3 T3;go_wp2_with fail;refine rgl 17 (fun(G:World)=>G.cell? (.a mb 5)=some (.m V.kb)/\G.cell? (.a mb 1)=some (.s V.tb M.qd.length V.vd)/\G.cell? (.n C.cg k 9)=some (.i i.var)/\G.cell? (.a V.tb (t*3+2))=some (.m v.cb)) ?_;have A:=And.intro (show w3.drew.cell? (.a mb 5)=some (.m V.kb)from S.o.drew.g.cells 5) (And.intro (show w3.drew.cell? (.a mb 1)=some (.s V.tb M.qd.length V.vd)from S.o.drew.g.cells 1) (And.intro (show w3.drew.cell? (.n C.cg k 9)=some (.i i.var)from ic9 HC S.o.drew HI.o) (show w3.drew.cell? (.a V.tb (t*3+2))=some (.m v.cb)from t2)))
   iterate 16(refine tK 0 rfl A ?_)
   refine rdy 16 rfl fun K H=>?_;go_simp;refine ac.o.mono ?_;rintro x w4 ⟨rfl,a6,a0,aa⟩;have J:=zH (show St C mb eb lab w (fun q=>if q=w3.drew.heap.size then .mclk i.var else lab q) { M with owner:=mdel M.owner i.var } V { e with field:=i.var } w4 from S.o.drew.name a0 aa (.mclk i.var));have E:zb w4 w3.drew.heap.size h.clock:=a6;clear a6 a0 aa;generalize w3.drew.heap.size=nb at J E |-;obtain⟨I,O⟩:∃ I:Lab,I=fun q=>if q=nb then .mclk i.var else lab q:=⟨_,rfl⟩
   rw[<- O]at J;have ae:I nb=.mclk i.var:=by rw[O];simp
   clear O;have ad:=zH E;clear E;refine H.o _ _ ⟨J.o.g.cells 5,J.o.g.cells 1,ic9 HC J.o HI.o,(U.o.top J.o.g).t2⟩ (fun A=>?_);clear H K;obtain⟨w5,a9,E,a3,ag⟩:=J.o.g.mi.k.update zdu underlying242 (wfI HV.o) nb;have S5:=zH (J.o.mclkS a3 ae ad.o E);clear ag;refine lst rfl fun K H=>?_;go_simp;refine H _ _ ?_;clear H K A a9 E a3 t2;have p5:=U.o.mono (M':={ M with owner:=mdel M.owner i.var,qq:=mput M.qq i.var h.clock }) (V':={ V with kl:=mput V.kl i.var nb }) rfl rfl;have T5:=p5.top S5.o.g;have t2:w5.cell? (.a V.tb (t*3+2))=some (.m v.cb):=T5.t2;have m1:w5.cell? (.a mb 1)=some (.s V.tb M.qd.length V.vd):=S5.o.g.cells 1;have N:=T5.T.c;have Q:(Lit.int .i64 (t:Int)).wf=true:=wfI (iwNat (yq HN.o));have D:=N.look underlying252 Q;obtain⟨w6,a9,a7,a4,ah⟩:=N.update zdu underlying252 Q (zJ h.clock t+1);have S6:=zH (S5.o.clkS p5.ht p5.hv a4 a7);have ai:wrap64 (zJ h.clock t+1)=zJ h.clock t+1:=IntWalk.wrap64_in _ ab.o;clear p5 T5 N Q a7 a4 ah;go_wp2;go_ret;rw[Y.o];exact⟨rfl,_,_,S6.o⟩
  ·have Y:=zH (HM.o.trans (yg (by have:=HB.o;simp at this;rw[this];simp[hz])));have a8:(z != (t:Int))=true:=by simp[hz]
   clear hz;go_wp2;go_ret;rw[Y.o];exact⟨rfl,_,L.o⟩
end
end
section
theorem thr_form (y:Vl):∃ T z a one,vlV y=.iface T (.i z)/\(∀ w,(Instr.typeAssert (.iface T (.i z)) 93 401 true).run prog w=.ok (.tuple #[.i a,.bool one]) w)/\(one=true->y=.thr a)/\(one=false->∀ n,y≠.thr n):=by
 cases y with
 | thr n=>exact⟨_,n,n,true,rfl,fun w=>zia w (.thr n),fun _=>rfl,fun h=>(by cases h)⟩
 | obj n=>exact⟨_,n,0,false,rfl,fun w=>zia w (.obj n),fun h=>(by cases h),fun _ _ h=>by cases h⟩
 | num n=>exact⟨_,n,0,false,rfl,fun w=>zia w (.num n),fun h=>(by cases h),fun _ _ h=>by cases h⟩
theorem obj_form (y:Vl):∃ T z a one,vlV y=.iface T (.i z)/\(∀ w,(Instr.typeAssert (.iface T (.i z)) 93 451 true).run prog w=.ok (.tuple #[.i a,.bool one]) w)/\(one=true->y=.obj a)/\(one=false->∀ n,y≠.obj n):=by
 cases y with
 | obj n=>exact⟨_,n,n,true,rfl,fun w=>zmw w (.obj n),fun _=>rfl,fun h=>(by cases h)⟩
 | thr n=>exact⟨_,n,0,false,rfl,fun w=>zmw w (.thr n),fun h=>(by cases h),fun _ _ h=>by cases h⟩
 | num n=>exact⟨_,n,0,false,rfl,fun w=>zmw w (.num n),fun h=>(by cases h),fun _ _ h=>by cases h⟩
def joinR (M:Mc)(t:Nat)(h:Th)(e:Evn)(x:Vl):Option (Mc×Evn):=match x with
 | .thr v=>match M.qd[v.toNat]? with
  | some u=>some (setTh M t { h with clock:=zd9 h.clock u.clock },{ e with obj:=v })
  | none=>none
 | _=>none
section
variable {C:AX} {mb eb:Nat} {lab:Lab} {w:World} {M:Mc} {V:MV} {e:Evn} {t n fg fc k:Nat} {f:Fr} {h:Th} {v:TV} {lv:Value} {i:In}
theorem join_do (HC:AXok C)(s:St C mb eb lab w lab M V e w)(p:TopP M V t h f n v fg fc lv)(hi:C.P.code[k]?=some i)(W:WfD C.P M h f i)(ho:i.op=8)(J:∀ z:Nat,f.qc[i.y.n]?=some (.thr z)->z≠t) :
  Calls prog 256 #[.p mb,.i t,.q fg (n*3),.q C.cg (k*14),.p eb] w
   (zdk C mb eb lab w M V (doM C.P M t h f i e)):=by
 obtain⟨R,hR⟩:∃ R,doM C.P M t h f i e=R:=⟨_,rfl⟩;rw[hR];have a1:=W.io.j ho;obtain⟨x,hx⟩:∃ x,f.qc[i.y.n]?=some x:=⟨_,yc a1⟩;have HM:=zH (show R=joinR M t h e x by
  rw[<- hR];unfold doM;rw[yg yo,yg yo,yg yo,yg yo,yg yo,yg yo,yj ho,show f.qc.getD i.y.n (.num 0)=x by simp[List.getD,hx]];cases x <;> rfl)
 have a0:=W.v x (yl hx);rw[hx]at J;have T:=p.top s.g;obtain⟨lg,lc,L⟩:=T.locP yo;have f1:=T.f1;rw[L.u]at f1;have hc:=L.c _ x hx;obtain⟨T1,z,a,one,hy,a5,Q,U⟩:=thr_form x;rw[hy]at hc;have i5:=ic5 HC s hi;have S:=zH s;have HI:=zH hi;have HP:=zH p;have HO:=zH (And.intro Q U);have N:=zH (And.intro a0 J);clear hR W ho s hi p L Q U T hy a0 J hx;go_enter func256,ntmps256;go_wp2_with fail;refine rgl 16 (fun(H:World)=>H.cell? (.a fg (n*3+1))=some (.s lg f.qc.length lc)/\H.cell? (.n C.cg k 5)=some (.i i.y.n)/\H.cell? (.a lg i.y.n)=some (.iface T1 (.i z))) ?_;have A:=And.intro (show w.drew.cell? (.a fg (n*3+1))=some (.s lg f.qc.length lc)from f1) (And.intro (show w.drew.cell? (.n C.cg k 5)=some (.i i.y.n)from i5) (show w.drew.cell? (.a lg i.y.n)=some (.iface T1 (.i z))from hc))
 iterate 16(refine tK 0 rfl A ?_)
 refine lst rfl fun K O=>?_;go_simp;refine O _ _ ?_;have G:=zH S.o.drew;clear O K A f1 i5 hc a5 a1;generalize w.drew=w1 at G |-;cases one
 ·have HR:=zH (show R=none by
   rw[HM.o];cases x with
   | thr v=>exact absurd rfl (HO.o.2 rfl v)
   | num v=>rfl
   | obj v=>rfl)
  go_wp2;go_ret;rw[HR.o];exact⟨rfl,_,G.o⟩
 ·obtain rfl:=HO.o.1 rfl;obtain⟨⟨a3,a4⟩,J⟩:=N.o;obtain⟨q,rfl⟩:∃ q:Nat,a=(q:Int):=⟨a.toNat,by omega⟩;have E:q≠t:=J q rfl;have Y:q<M.qd.length:=yo;obtain⟨u,hu⟩:∃ u,M.qd[q]?=some u:=⟨_,yc Y⟩;obtain⟨uv,D⟩:∃ v,V.tl[q]?=some v:=⟨_,yc (by rw[G.o.g.mi.n];exact Y)⟩;have HR:=zH (show R=some (setTh M t { h with clock:=zd9 h.clock u.clock },{ e with obj:=q }) by
   rw[HM.o];simp[joinR,hu])
  have I:=zH (G.o.ev 3 (.i q) (e':={ e with obj:=q }) rfl);have e3:w1.cell? (.a eb 3)=some (.i e.obj):=G.o.b.cell 3;have ez:=G.o.fz;have el:=G.o.b.lt;have HQ:=zH (And.intro E (And.intro hu D));clear a3 a4 J E hu D HM N HO;go_wp2_with fail;clear e3 ez el;generalize w1.setCell (.a eb 3) (.i q)=w2 at I |-;obtain⟨E,hu,D⟩:=HQ.o;have p2:=HP.o;have T:=p2.top I.o.g;have TU:=I.o.drew.g.mi.t q u uv hu D;have a2:=zH (zru I.o.drew p2.ht p2.hv u.clock (some uv.cb) (.inr ⟨uv.cb,rfl,TU.c,by rw[TU.cl];simp;exact E⟩));have tl:=T.lt;have t2:=T.t2;have tq:w2.drew.cell? (.a V.tb (q*3+2))=some (.m uv.cb):=zfi I.o.drew.g.mi hu D 2 yo;clear p2 T TU E hu D;refine rgl 16 (fun(H:World)=>H.cell? (.a mb 1)=some (.s V.tb M.qd.length V.vd)/\H.cell? (.a V.tb (t*3+2))=some (.m v.cb)/\H.cell? (.a V.tb (q*3+2))=some (.m uv.cb)) ?_;have A:=And.intro (show w2.drew.cell? (.a mb 1)=some (.s V.tb M.qd.length V.vd)from I.o.drew.g.cells 1) (And.intro (show w2.drew.cell? (.a V.tb (t*3+2))=some (.m v.cb)from t2) tq)
  iterate 16(refine tK 0 rfl A ?_)
  refine lst rfl fun K O=>?_;go_simp;refine a2.o.mono ?_;rintro x w3 ⟨rfl,Z⟩;refine O _ _ ?_;have S3:=zH Z;clear O K A Z t2 tl tq;go_wp2;go_ret;rw[HR.o];exact⟨rfl,lab,V,S3.o⟩
end
end
section
theorem zsi {n:Int}{D:Sp->Prop} [DecidablePred D] (h:∀ q,mget cur q=if D q/\zJ r q=0 then some n else mget r q) (R:Bool) (p:Sp) {D':Sp->Prop} [DecidablePred D'] (hd:∀ q,D' q↔D q\/(R=true/\p=q)) (q:Sp) :
  mget (if R then zgv n cur p else cur) q=if D' q/\zJ r q=0 then some n else mget r q:=by
 have I:∀ q,zJ cur q=if D q/\zJ r q=0 then n else zJ r q:=fun q=>by
  unfold zJ;rw[h q];split <;> simp_all [zJ]
 cases R
 ·have e:D' q↔D q:=by rw[hd q];simp
  rw[yg yy,h q];simp only[e]
 ·rw[yj rfl];unfold zgv;by_cases H:p=q
  ·subst H;have e:D' p:=(hd p).2 (.inr ⟨rfl,rfl⟩);by_cases A:zJ r p=0
   ·rw[show(if D' p/\zJ r p=0 then some n else mget r p)=some n from yj ⟨e,A⟩];by_cases E:zJ cur p=0
    ·rw[yj E,xd,yj rfl]
    ·rw[yg E,h p];by_cases G:D p
     ·rw[yj ⟨G,A⟩]
     ·have:=I p;rw[yg (fun h=>G h.1),A]at this;exact absurd this E
   ·rw[show(if D' p/\zJ r p=0 then some n else mget r p)=mget r p from yg fun h=>A h.2];have h1:=I p;rw[yg (fun h=>A h.2)]at h1;rw[yg (by rw[h1];exact A),h p,yg (fun h=>A h.2)]
  ·have e:D' q↔D q:=by rw[hd q];simp[H]
   simp only[e];rw[<- h q];by_cases E:zJ cur p=0
   ·rw[yj E,xd,yg H]
   ·rw[yg E]
theorem zsh (R:Sp×Tc->Bool)(P:Sp×Tc->Sp)(n:Int)(r:List (Sp×Int))(q:Sp):∀ (l:List (Sp×Tc)) (cur:List (Sp×Int)) (D:Sp->Prop) [DecidablePred D],(∀ q,mget cur q=if D q/\zJ r q=0 then some n else mget r q)->∀ (D':Sp->Prop) [DecidablePred D'],(∀ q,D' q↔D q\/∃ p ∈ l,R p=true/\P p=q) ->
  mget (l.foldl (fun r p=>if R p then zgv n r (P p)else r) cur) q=if D' q/\zJ r q=0 then some n else mget r q
 | [],cur,D,_,h,D',_,hd=>by
  have e:D' q↔D q:=by rw[hd q];simp
  rw[List.foldl_nil,h q];simp only[e]
 | p::l,cur,D,_,h,D',_,hd=>by
  classical
  rw[List.foldl_cons];refine zsh R P n r q l _ (fun q=>D q\/(R p=true/\P p=q)) (zsi h (R p) (P p) (D':=fun q=>D q\/(R p=true/\P p=q)) fun _=>Iff.rfl) D' fun q=>?_;rw[hd q];constructor
  ·rintro(h | ⟨x,hx,h1,h2⟩)
   ·exact .inl (.inl h)
   ·rcases yW.1 hx with rfl | hx
    ·exact .inl (.inr ⟨h1,h2⟩)
    ·exact .inr ⟨x,hx,h1,h2⟩
  ·rintro((h | ⟨h1,h2⟩) | ⟨x,hx,h1,h2⟩)
   ·exact .inl h
   ·exact .inr ⟨p,by simp,h1,h2⟩
   ·exact .inr ⟨x,by simp[hx],h1,h2⟩
def NtIs (c:List (Int×Int))(t place:Int)(write:Bool)(n:Int)(r cur:List (Sp×Int))(D:Sp×Tc->Prop):Prop :=
 ∀ q,(mget cur q=some n/\(∃ p,D p/\zb8 c t write p=true/\zc0 p.1.2 place=q)/\zJ r q=0)\/(mget cur q=mget r q/\((¬∃ p,D p/\zb8 c t write p=true/\zc0 p.1.2 place=q)\/zJ r q≠0))
theorem zn5 {t:Int}{n:Int}:NtIs c t place write n r cur D↔∀ (E:Sp->Prop) [DecidablePred E],(∀ q,E q↔∃ p,D p/\zb8 c t write p=true/\zc0 p.1.2 place=q)->∀ q,mget cur q=if E q/\zJ r q=0 then some n else mget r q:=by
 classical
 constructor
 ·intro h E _ A q;rcases h q with⟨h1,h2,h3⟩ | ⟨h1,h2⟩
  ·rw[yj ⟨(A q).2 h2,h3⟩,h1]
  ·rw[yg (fun h=>by rcases h2 with h2 | h2;exact h2 ((A q).1 h.1);exact h2 h.2),h1]
 ·intro h q;have:=h (fun q=>∃ p,D p/\zb8 c t write p=true/\zc0 p.1.2 place=q) (fun _=>Iff.rfl) q;by_cases h1:∃ p,D p/\zb8 c t write p=true/\zc0 p.1.2 place=q
  ·by_cases h2:zJ r q=0
   ·rw[yj ⟨h1,h2⟩]at this;exact .inl ⟨this,h1,h2⟩
   ·rw[yg (fun h=>h2 h.2)]at this;exact .inr ⟨this,.inr h2⟩
  ·rw[yg (fun h=>h1 h.1)]at this;exact .inr ⟨this,.inl h1⟩
theorem NtIs.start {t:Int}{n:Int}(h:∀ p,¬D p):NtIs c t place write n r r D:=fun q=>.inr ⟨rfl,.inl fun⟨p,hp,_⟩=>h p hp⟩
theorem NtIs.step {t:Int}{n:Int}{D':Sp×Tc->Prop}(h:NtIs c t place write n r cur D)(p:Sp×Tc)(hd:∀ x,D' x↔D x\/x=p):NtIs c t place write n r (if zb8 c t write p then zgv n cur (zc0 p.1.2 place)else cur) D':=by
 classical
 rw[zn5];intro E _ A;have h2:=zn5.1 h (fun q=>∃ p,D p/\zb8 c t write p=true/\zc0 p.1.2 place=q) (fun _=>Iff.rfl);refine zsi h2 (zb8 c t write p) (zc0 p.1.2 place) fun q=>?_;rw[A q];constructor
 ·rintro⟨x,hx,h1,h2⟩;rcases(hd x).1 hx with hx | rfl
  ·exact .inl ⟨x,hx,h1,h2⟩
  ·exact .inr ⟨h1,h2⟩
 ·rintro(⟨x,hx,h1,h2⟩ | ⟨h1,h2⟩)
  ·exact⟨x,(hd x).2 (.inl hx),h1,h2⟩
  ·exact⟨p,(hd p).2 (.inr rfl),h1,h2⟩
theorem NtIs.done {t:Int}{n:Int}{m l:List (Sp×Tc)}(h:NtIs c t place write n r cur (· ∈ m))(hn:(m.map Prod.fst).Nodup)(hm:∀ x,mget m x=mget l x)(q:Sp):mget cur q=mget (zl6 c t place write n l r) q:=by
 classical
 unfold zl6;have h2:=zn5.1 h (fun q=>∃ p,p ∈ m/\zb8 c t write p=true/\zc0 p.1.2 place=q) (fun _=>Iff.rfl) q;rw[h2];refine(zsh (fun p=>zb8 c t write (p.1,(mget l p.1).getD p.2)) (fun p=>zc0 p.1.2 place) n r q l r (fun _=>False) (fun q=>by simp) (fun q=>∃ p,p ∈ m/\zb8 c t write p=true/\zc0 p.1.2 place=q) fun q=>?_).symm;constructor
 ·rintro⟨p,A,h1,h2⟩;have e:mget l p.1=some p.2:=(hm p.1).symm.trans (zea hn A);exact .inr ⟨p,zdd e,by rw[e];exact h1,h2⟩
 ·rintro(h | ⟨p,A,h1,h2⟩)
  ·exact h.elim
  ·cases hg:mget l p.1 with
   | none=>exact absurd rfl (zhl.1 hg p A)
   | some u =>
    rw[hg]at h1;exact⟨(p.1,u),zdd ((hm p.1).trans hg),h1,h2⟩
theorem MapE.lookD {κ: Type} [DecidableEq κ] {enc:κ -> Value} {ok:κ -> Prop} {w:World}  {m:List (κ × Int)} {k t:TypeId} (h:MapE w b enc ok intV m) (K:zaw prog k enc ok) (ht:prog.underlying t=some (.map k 3)) {x:κ} (hx:ok x):(Instr.lookup t (.m b) (enc x) false).run prog w=.ok (.i (zJ m x)) w:=by
 rw[h.lookup K ht (zeroValue3 w) hx false];unfold zJ;cases mget m x <;> rfl
theorem zry {κ ν : Type} [DecidableEq κ] (x:κ) (u v:ν):∀ m:List (κ × ν),mput (mput m x u) x v=mput m x v
 | []=>by simp[mput]
 | p::r=>by
  by_cases h:p.1=x
  ·simp[mput,h]
  ·simp[mput,h,zry x u v r]
section
variable {C:AX} {mb eb:Nat} {lab0 lab:Lab} {w0 w w':World} {M:Mc} {V:MV} {e:Evn} {t n fg fc k:Nat} {f:Fr} {h:Th} {v:TV} {lv:Value} {i:In}
theorem St.utchS {c:List (Sp×Tc)}{x:Sp}(s:St C mb eb lab0 w0 lab M V e w)(hg:w.grownBy w' (some V.ub))(hb:lab b=.tch x)(hc:ze3 w b c)(hk:MapE w' V.ub spV SpOk mapV (mput V.ul x b)) :
  St C mb eb lab0 w0 lab { M with qp:=mput M.qp x c } { V with ul:=mput V.ul x b } e w' :=
 s.vk hg (by rw[s.g.mi.ul];simp) (s.g.vk hg s.g.mi.ul yy fun A=>s.g.mi.utchE A hb hc hk)
theorem St.tchS {c c':List (Sp×Tc)}{x:Sp}(s:St C mb eb lab0 w0 lab M V e w)(hk:mget V.ul x=some b)(hx:mget M.qp x=some c)(hg:w.grownBy w' (some b))(hc:ze3 w' b c') :
  St C mb eb lab0 w0 lab { M with qp:=mput M.qp x c' } V e w':=by
 obtain⟨_,_,hl,_⟩:=s.g.mi.uc x b hk;exact s.vk hg (by rw[hl];simp) (s.g.vk hg hl yy fun A=>s.g.mi.tchE hk hx A hc)
theorem St.racesS {m:List (Sp×Int)}(s:St C mb eb lab0 w0 lab M V e w)(hg:w.grownBy w' (some V.rb))(hm:MapE w' V.rb spV SpOk intV m):St C mb eb lab0 w0 lab { M with races:=m } V e w' :=
 s.vk hg (by rw[s.g.mi.al];simp) (s.g.vk hg s.g.mi.al yy fun A=>s.g.mi.racesE A hm)
theorem St.racesC {r':List (Sp×Int)}(s:St C mb eb lab0 w0 lab M V e w)(h:∀ q,mget M.races q=mget r' q):St C mb eb lab0 w0 lab { M with races:=r' } V e w:=s.racesS (gb_refl w V.rb) (s.g.mi.a.cast h)
theorem St.cast (s:St C mb eb lab0 w0 lab M V e w)(hM:M'=M):St C mb eb lab0 w0 lab M' V e w:=hM ▸ s
end
section
variable {C:AX} {mb eb:Nat} {lab0 lab:Lab} {w0 w:World} {M:Mc} {V:MV} {e:Evn} {t n fg fc k:Nat} {f:Fr} {h:Th} {v:TV} {lv:Value} {i:In}
theorem St.iter {r:Nat}{w':World}(s:St C mb eb lab0 w0 lab M V e w)(hg:w.grownBy w' (some r))(hr:lab r=.out)(h0:w0.heap.size<=r)(hB:C.w0.heap.size<=r)(he:r≠eb):St C mb eb lab0 w0 lab M V e w' :=
 ⟨s.g.o (fun k A=>hg.block k (s.g.own A).2 (fun e=>by injection e with e;subst e;exact A hr)) (s.g.on.grown hg s.g.on.size (fun k e=>by injection e with e;subst e;exact hB)) hg.size,
  s.b.grown hg (fun e=>by injection e with e;exact he e.symm),s.o.grown hg (fun k e=>by injection e with e;subst e;exact .inr (.inr h0)),s.l,s.eo,s.ew⟩
structure zjc (C:AX)(mb eb:Nat)(lab0 lab:Lab)(w0:World)(M:Mc)(V:MV)(e:Evn)(c:List (Int×Int))(t place:Int)(write:Bool)(sp:Sp)(m':List (Sp×Tc))(ub rb xb:Nat)(gk:Nat)(W:World):Prop where
 ex:∃ left cur,gk=left.length/\zY W ub rb spV SpOk tcV m' left/\St C mb eb lab0 w0 lab { M with races:=cur } V e W/\Blk W xb 342 #[.i sp.1,.i sp.2]/\NtIs c t place write M.steps M.races cur (fun p=>p ∈ m'/\p ∉ left)
def TcPost (C:AX)(mb eb:Nat)(lab0:Lab)(w0:World)(M:Mc)(e:Evn)(x:Ending)(w:World):Prop:=x=.e/\∃ lab V,St C mb eb lab0 w0 lab M V e w
theorem z00 (s:St C mb eb lab0 w0 lab M V e w)(ht:M.qd[t]?=some h)(hv:V.tl[t]?=some v)(sp:Sp)(place:Int)(write:Bool)(hsp:SpOk sp)(hpl:iw place)(hn:M.qd.length<=6) :
  Calls prog 303 #[.p mb,.i t,.agg #[.i sp.1,.i sp.2],.i place,.bool write] w
   (TcPost C mb eb lab0 w0 (ze0 M t h.clock sp place write) e):=by
 obtain⟨R,hR⟩:∃ R,ze0 M t h.clock sp place write=R:=⟨_,rfl⟩;rw[hR];have HR:=zH hR;have S:=zH s;have HT:=zH (And.intro ht hv);have a7:=zH (And.intro hsp hpl);have HN:=zH hn;have t2:w.cell? (.a V.tb (t*3+2))=some (.m v.cb):=zfi s.g.mi ht hv 2 yo;have tl:t<M.qd.length:=(yh.1 ht).1;have m1:w.cell? (.a mb 1)=some (.s V.tb M.qd.length V.vd):=s.g.cells 1;have TL:=zH tl;have ml:=s.mbl;have d3:V.tb<w.heap.size:=zaq t2;clear hR s ht hv hsp hpl hn;go_enter func303,ntmps303;go_wp2_with fail;clear t2 tl m1 ml d3;have S1:=zH (S.o.alloc (.k #[.i sp.1,.i sp.2] 342));have L:Blk (w.alloc (.k #[.i sp.1,.i sp.2] 342)) w.heap.size 342 #[.i sp.1,.i sp.2]:=Blk.newAt rfl;obtain⟨xb,bn⟩:∃ xb,xb=w.heap.size:=⟨_,rfl⟩;rw[<- bn]at L |-;have am:=zH (show lab xb=.out by rw[bn];exact S.o.g.hi _ yL);clear bn;generalize w.alloc (.k #[.i sp.1,.i sp.2] 342)=w1 at S1 L |-;have b3:=zH L;clear L;have cs:∀ w,(binOp .eql 346 (.map none) (.map none)).run prog w=.ok (.bool true) w:=fun w=>run_eql_map_nil_sl (P:=prog) w 346 _ _ none underlying346;have ct:∀ b w,(binOp .eql 346 (.m b) (.map none)).run prog w=.ok (.bool false) w:=fun b w=>run_eql_map_nil_sl (P:=prog) w 346 _ _ (some b) underlying346;obtain⟨dv,c6,I⟩:∃ dv:Option Nat,dv=mget V.ul sp/\(Instr.lookup 243 (.m V.ub) (.agg #[.i sp.1,.i sp.2]) false).run prog w1.drew=.ok (.map dv) w1.drew:=by
  have hl:=S1.o.drew.g.mi.u.lookup zg1 underlying243 (zeroValue346 w1.drew) a7.o.1 false;cases hg:mget V.ul sp with
  | none=>exact⟨none,rfl,by rw[hl,hg];rfl⟩
  | some b=>exact⟨some b,rfl,by rw[hl,hg];rfl⟩
 have ai:=zH c6;clear c6;go_wp2_with fail;refine rgl 6 (fun(G:World)=>G.cell? (.a mb 6)=some (.m V.ub)/\(∀ j,G.cell? (.a xb j)=#[.i sp.1,.i sp.2][j]?)/\(Instr.lookup 243 (.m V.ub) (.agg #[.i sp.1,.i sp.2]) false).run prog G=.ok (.map dv) G) ?_;have A:=And.intro (show w1.drew.cell? (.a mb 6)=some (.m V.ub)from S1.o.drew.g.cells 6) (And.intro (show ∀ j,w1.drew.cell? (.a xb j)=#[.i sp.1,.i sp.2][j]? from b3.o.drew.cell) I)
 iterate 6(refine tK 0 rfl A ?_)
 have cu:∀ w,(binOp .eql 346 (.map dv) (.map none)).run prog w=.ok (.bool dv.isNone) w:=fun w=>by
  cases dv with
  | none=>exact cs w
  | some b=>exact ct b w
 refine lst rfl fun K W=>?_;go_simp;refine W _ _ ?_;have S2:=zH S1.o.drew;have a5:=zH b3.o.drew;clear W K A I cu;generalize w1.drew=w2 at S2 a5 |-;go_upto_if 28 with fail
 go_cut [] (fun wx=>∃ (E:Lab) (ub:Nat) (ul:List (Sp×Nat)) (tm:List (Sp×List (Sp×Tc))),St C mb eb lab0 w0 E { M with qp:=tm } { V with ul:=ul } e wx/\mget ul sp=some ub/\mget tm sp=some ((mget M.qp sp).getD [])/\(∀ c,mput tm sp c=mput M.qp sp c)/\Blk wx xb 342 #[.i sp.1,.i sp.2]/\E xb=.out)
 case first =>
  cases dv with
  | none =>
   have cy:mget M.qp sp=none:=S2.o.g.mi.un sp ai.o.symm;have S3:=zH S2.o.drew;have Z:=zH a5.o.drew;go_wp2_with fail;refine rgl 6 (fun(G:World)=>G.cell? (.a mb 6)=some (.m V.ub)/\(∀ j,G.cell? (.a xb j)=#[.i sp.1,.i sp.2][j]?)) ?_;generalize w2.drew=w3 at S3 Z |-;have af:ze3 (w3.alloc (.map #[] 0)) w3.heap.size []:=(zG.made w3 spV SpOk tcV).toE;have S4:=zH (S3.o.name (w':=w3.alloc (.map #[] 0)) (yB.alloc yL _) yy (.tch sp));have c9:(fun q=>if q=w3.heap.size then Rl.tch sp else lab q) w3.heap.size=.tch sp:=yj rfl;obtain⟨w5,ah,cc,bg,d0⟩:=S4.o.g.mi.u.update zg1 underlying243 a7.o.1 w3.heap.size;have S5:=zH (S4.o.utchS bg c9 af cc);have aa:=zH (show Blk w5 xb 342 #[.i sp.1,.i sp.2]from(Z.o.alloc (.map #[] 0)).grown bg (fun e=>by
    injection e with e;have:=S3.o.g.mi.ul;rw[<- e,am.o]at this;cases this))
   have cn:=zH (show(fun q=>if q=w3.heap.size then Rl.tch sp else lab q) xb=.out by
    have:=Z.o.lt;show(if xb=w3.heap.size then _ else _)=_;rw[yg yo];exact am.o)
   clear d0 af c9 cc bg;have A:=And.intro (show w3.cell? (.a mb 6)=some (.m V.ub)from S3.o.g.cells 6) Z.o.cell
   iterate 5(refine tK 0 rfl A ?_)
   refine rdy 5 rfl fun K W=>?_;go_simp;refine W.o _ _ ⟨S4.o.g.cells 6,(Z.o.alloc (.map #[] 0)).cell⟩ (fun A=>?_);clear W K;refine lst rfl fun K W=>?_;go_simp;refine W _ _ ?_;clear W K A ah;go_wp2;go_meet;exact⟨_,_,_,_,S5.o,by rw[xd,yj rfl],by rw[xd,yj rfl,cy];rfl,fun c=>zry _ _ _ _,aa.o,cn.o⟩
  | some ub =>
   obtain⟨c,hc,_,_⟩:=S2.o.g.mi.uc sp ub ai.o.symm;have a3:=zH (show mget M.qp sp=some ((mget M.qp sp).getD []) by rw[hc];rfl);clear hc;go_wp2;go_meet;exact⟨lab,ub,V.ul,M.qp,S2.o,ai.o.symm,a3.o,fun _=>rfl,a5.o,am.o⟩
 case rest =>
  obtain⟨E,ub,ul,tm,cj,aq,a4,ay,L,ck⟩:=hcut;have c2:=zH cj;have a8:=zH (And.intro aq a4);have bq:=zH ay;have au:=zH L;have bu:=zH ck;clear cj ay L ck S1 S2 b3 a5 am ai;have SD:=zH c2.o.drew;have Q:=zH au.o.drew;go_wp2_with fail;refine rgl 6 (fun(G:World)=>G.cell? (.a mb 6)=some (.m V.ub)/\(∀ j,G.cell? (.a xb j)=#[.i sp.1,.i sp.2][j]?)/\(Instr.lookup 243 (.m V.ub) (.agg #[.i sp.1,.i sp.2]) false).run prog G=.ok (.m ub) G) ?_;generalize wc.drew=wd at SD Q |-;have I:(Instr.lookup 243 (.m V.ub) (.agg #[.i sp.1,.i sp.2]) false).run prog wd=.ok (.m ub) wd:=by
   have hl:=SD.o.g.mi.u.lookup zg1 underlying243 (zeroValue346 wd) a7.o.1 false;rw[hl,show mget ({ V with ul:=ul }:MV).ul sp=some ub from aq];rfl
  obtain⟨c0,be⟩:∃ c0,(mget M.qp sp).getD []=c0:=⟨_,rfl⟩;rw[be]at a8 a4;have cm:=zH be;have Y:ze3 wd ub c0/\E ub=.tch sp:=by
   obtain⟨c,h1,h2,h3⟩:=SD.o.g.mi.uc sp ub aq;rw[show mget tm sp=some c from h1]at a4;injection a4 with a4;subst a4;exact⟨h3,h2⟩
  clear be a4 aq;obtain⟨m',bi,ca⟩:=Y.1;have b5:=zH (And.intro bi ca);have co:=zH Y.2;obtain⟨wr,cw,ci,O,cx⟩:=bi.range (t:=346) underlying346;have A:=And.intro (show wd.cell? (.a mb 6)=some (.m V.ub)from SD.o.g.cells 6) (And.intro Q.o.cell I)
  iterate 6(refine tK 0 rfl A ?_)
  clear I bi ca Y;have br:=zH ci;have b8:=zH O;clear ci O cx;refine lst rfl fun K W=>?_;go_simp;refine W _ _ ?_;clear W K A cw;obtain⟨rb,O⟩:∃ rb,rb=wd.heap.size:=⟨_,rfl⟩;have S4:=zH (SD.o.below b8.o);have a6:=zH (show E rb=.out/\w0.heap.size<=rb/\C.w0.heap.size<=rb/\rb≠eb/\rb≠xb from⟨by rw[O];exact SD.o.g.hi _ yL,by rw[O];exact SD.o.o.size,by rw[O];exact SD.o.g.on.size,by rw[O];exact ybk SD.o.b.lt,by rw[O];exact ybk Q.o.lt⟩);have ST:=zH (show zjc C mb eb lab0 E w0 { M with qp:=tm } { V with ul:=ul } e h.clock t place write sp m' ub wd.heap.size xb m'.length wr from⟨m',M.races,rfl,br.o,S4.o,Q.o.below b8.o Q.o.lt,.start fun p hp=>hp.2 hp.1⟩);rw[<- O]at ST |-;clear O br b8 c2 SD Q au S4;go_wp2_with fail;go_loopg [] m'.length (fun gk wr=>zjc C mb eb lab0 E w0 { M with qp:=tm } { V with ul:=ul } e h.clock t place write sp m' ub rb xb gk wr)
  case atStart=>exact ST.o
  case round =>
   obtain⟨left,H,hg,hR,hs,L,ap⟩:=hrel.ex;have HG:=zH hg;have ak:=zH hR;have SR:=zH hs;have b2:=zH L;have b7:=zH ap;clear hg hR hs L ap hrel;go_wp2_with (at_next;refine zbj ?_);refine zbk ?_;refine zg3 rfl _ rfl rfl ak.o ?_ ?_
   ·intro hl;subst hl;clear HG;go_wp2_with fail;refine rgl 14 (fun(G:World)=>G.cell? (.a mb 6)=some (.m V.ub)/\(∀ j,G.cell? (.a xb j)=#[.i sp.1,.i sp.2][j]?)/\(Instr.lookup 243 (.m V.ub) (.agg #[.i sp.1,.i sp.2]) false).run prog G=.ok (.m ub) G/\(Instr.lookup 252 (.m v.cb) (.i t) false).run prog G=.ok (.i (zJ h.clock t)) G) ?_;have S8:=zH SR.o.drew;have bo:=zH b2.o.drew;generalize wr.drew=w8 at S8 bo |-;have I:(Instr.lookup 243 (.m V.ub) (.agg #[.i sp.1,.i sp.2]) false).run prog w8=.ok (.m ub) w8:=by
     have hl:=S8.o.g.mi.u.lookup zg1 underlying243 (zeroValue346 w8) a7.o.1 false;rw[hl,show mget ({ V with ul:=ul }:MV).ul sp=some ub from a8.o.1];rfl
    have c5:zb w8 v.cb h.clock:=(S8.o.g.mi.t t h v HT.o.1 HT.o.2).c;have bm:iw (t:Int):=iwNat (yw HN.o TL.o);have ax:=c5.look underlying252 (wfI bm);have Y:ze3 w8 ub c0:=by
     obtain⟨c,h1,h2,h3⟩:=S8.o.g.mi.uc sp ub a8.o.1;have h4:=a8.o.2;rw[show mget tm sp=some c from h1]at h4;injection h4 with h4;subst h4;exact h3
    obtain⟨w9,ah,ce,c8,d2⟩:=Y.update whKey underlying346 (x:=((t:Int),place)) ⟨bm,a7.o.2⟩ ⟨write,zJ h.clock t⟩;have S9:=zH ((S8.o.tchS (x:=sp) a8.o.1 a8.o.2 c8 ce).racesC (r':=zl6 h.clock t place write M.steps c0 M.races) fun q=>by
     have ap:NtIs h.clock t place write M.steps M.races H (· ∈ m'):=by
      have h1:=b7.o;have e:(fun p=>p ∈ m'/\¬p ∈ ([]:List (Sp×Tc)))=(· ∈ m'):=by funext p;simp
      rw[e]at h1;exact h1
     obtain⟨_,_,_,_,hn,_⟩:=b5.o.1;exact ap.done hn b5.o.2 q)
    have A:=And.intro (show w8.cell? (.a mb 6)=some (.m V.ub)from S8.o.g.cells 6) (And.intro bo.o.cell (And.intro I ax));clear d2 c5 bm Y ce c8
    iterate 14(refine tK 0 rfl A ?_)
    refine lst rfl fun K W=>?_;go_simp;refine W _ _ ?_;clear W K A I ax ah;go_wp2_with fail;refine ym (yp rfl _ _ _) rfl ?_;exact⟨rfl,E,_,S9.o.cast (by rw[<- HR.o,bq.o];unfold ze0;rw[cm.o])⟩
   ·intro p l1 l2 w2 hl ch bf cz c7;obtain⟨⟨J,D⟩,ow,tk⟩:=p;simp only[spV,tcV]at c7;have bk:((J,D),(⟨ow,tk⟩:Tc)) ∈ m':=ak.o.sub _ (by rw[hl];simp);have bp:=zH (show SpOk (J,D) by
     obtain⟨_,_,_,_,_,h,_⟩:=b5.o.1;exact h _ bk)
    have bj:=ak.o.nodup;have U:=zH (b7.o.step ((J,D),⟨ow,tk⟩) (D':=fun p=>p ∈ m'/\p ∉ l1++l2) fun x=>by
     rw[hl]at bj |-;have hp:((J,D),(⟨ow,tk⟩:Tc)) ∉ l1++l2:=fun cq=>by
      have h2:=(ya0.1 (List.perm_middle.nodup_iff.1 (by simpa using bj))).1;exact h2 (by simpa using List.mem_map_of_mem (f:=Prod.fst) cq)
     constructor
     ·rintro⟨h1,h2⟩;by_cases e:x=((J,D),⟨ow,tk⟩)
      ·exact .inr e
      ·refine .inl ⟨h1,fun h=>?_⟩;rcases yu.1 h with h | h
       ·exact h2 (yu.2 (.inl h))
       ·rcases yW.1 h with h | h
        ·exact e h
        ·exact h2 (yu.2 (.inr h))
     ·rintro(⟨h1,h2⟩ | rfl)
      ·refine⟨h1,fun h=>h2 ?_⟩;rcases yu.1 h with h | h
       ·exact yu.2 (.inl h)
       ·exact yu.2 (.inr (yad _ h))
      ·exact⟨bk,hp⟩)
    have b4:=zH (show(l1++l2).length<gk by rw[HG.o,hl];simp);have S2:=zH (SR.o.iter bf a6.o.1 a6.o.2.1 a6.o.2.2.1 a6.o.2.2.2.1);have az:=zH (b2.o.grown bf (fun e=>by injection e with e;exact a6.o.2.2.2.2 e.symm));have aj:=zH ch;clear hl bk bj ch bf cz SR b2 ak b7 HG;have S4:=zH ((S2.o.alloc (.k #[.i J,.i D] 349)).alloc (.k #[.bool ow,.i tk] 351));have ac:Below w2.heap.size w2 ((w2.alloc (.k #[.i J,.i D] 349)).alloc (.k #[.bool ow,.i tk] 351)):=(yB.alloc yL _).alloc yy _;have a9:Blk ((w2.alloc (.k #[.i J,.i D] 349)).alloc (.k #[.bool ow,.i tk] 351)) w2.heap.size 349 #[.i J,.i D]:=(Blk.newAt rfl).alloc _;have ag:Blk ((w2.alloc (.k #[.i J,.i D] 349)).alloc (.k #[.bool ow,.i tk] 351)) (w2.heap.size+1) 351 #[.bool ow,.i tk]:=Blk.newAt yy;go_upto_region 7 with fail
    clear c7;generalize (w2.alloc (.k #[.i J,.i D] 349)).alloc (.k #[.bool ow,.i tk] 351)=w4 at S4 ac a9 ag |-;have ao:=zH (az.o.below ac az.o.lt);have ab:=zH (aj.o.qj (ac.block _ aj.o.lt.1) (ac.block _ aj.o.lt.2));clear ac az aj S2;generalize w2.heap.size=N at a9 ag |-;have a0:w4.cell? (.a N 0)=some (.i J):=a9.cell 0;have a1:w4.cell? (.a N 1)=some (.i D):=a9.cell 1;have b0:w4.cell? (.a (N+1) 0)=some (.bool ow):=ag.cell 0;have b1:w4.cell? (.a (N+1) 1)=some (.i tk):=ag.cell 1;have cp:=zH a9;have I:(Instr.lookup 252 (.m v.cb) (.i J) false).run prog w4=.ok (.i (zJ h.clock J)) w4:=(S4.o.g.mi.t t h v HT.o.1 HT.o.2).c.look underlying252 (wfI bp.o.1);clear a9 ag;go_cut [66] (fun v66 wx=>v66=.bool (zb8 h.clock t write ((J,D),⟨ow,tk⟩))/\wx=w4)
    case first =>
     by_cases h1:J=(t:Int)
     ·have n1:(J != (t:Int))=false:=by simp[h1]
      have HE:=zH (show zb8 h.clock t write ((J,D),⟨ow,tk⟩)=false by simp[zb8,h1]);clear h1;go_wp2;go_meet;exact⟨by rw[HE.o],rfl⟩
     ·have n1:(J != (t:Int))=true:=by simp[h1]
      have HE:=zH (show zb8 h.clock t write ((J,D),⟨ow,tk⟩)=((ow||write)&&decide (zJ h.clock J<tk)) by simp[zb8,h1]);clear h1;cases ow
      ·cases write
       ·go_wp2;go_meet;exact⟨by rw[HE.o];rfl,rfl⟩
       ·go_wp2;go_meet;exact⟨by rw[HE.o];simp,rfl⟩
      ·go_wp2;go_meet;exact⟨by rw[HE.o];simp,rfl⟩
    case rest =>
     obtain⟨rfl,rfl⟩:=hcut;clear b0 b1 I a0;have U:=zH U.o;cases hb:zb8 h.clock t write ((J,D),⟨ow,tk⟩)
     ·rw[hb]at U;have a3:=zH (show zjc C mb eb lab0 E w0 { M with qp:=tm } { V with ul:=ul } e h.clock t place write sp m' ub rb xb (l1++l2).length wc from⟨l1++l2,H,rfl,ab.o,S4.o,ao.o,U.o⟩);clear a1 hb;go_wp2;go_roundg (l1++l2).length
      case measure=>exact b4.o
      case rel=>exact a3.o
     ·have aw:=zH (show NtIs h.clock t place write M.steps M.races (zgv M.steps H (zc0 D place)) (fun p=>p ∈ m'/\p ∉ l1++l2)from by have:=U.o;rw[yj hb]at this;exact this);clear hb U;go_upto_region 8 with fail
      go_cut [13] (fun v13 wx=>∃ pb,v13=.p pb/\Blk wx pb 51 #[.i (min D place),.i (max D place)]/\Below wc.heap.size wc wx)
      case first =>
       have c4:∀ x y:Int,Below wc.heap.size wc (wc.alloc (.k #[.i x,.i y] 51)):=fun x y=>yB.alloc yL _;have aa:=zH c4;clear c4;rcases Int.lt_trichotomy D place with bh | bh | bh
       ·have q1:¬place<D:=yo;have a2:=zH (show min D place=D/\max D place=place by omega);go_wp2;go_meet;exact⟨_,rfl,by rw[a2.o.1,a2.o.2];exact Blk.newAt rfl,aa.o _ _⟩
       ·subst bh;have q1:¬D<D:=yo;have a2:=zH (show min D D=D/\max D D=D by omega);go_wp2;go_meet;exact⟨_,rfl,by rw[a2.o.1,a2.o.2];exact Blk.newAt rfl,aa.o _ _⟩
       ·have q1:¬D<place:=yo;have a2:=zH (show min D place=place/\max D place=D by omega);go_wp2;go_meet;exact⟨_,rfl,by rw[a2.o.1,a2.o.2];exact Blk.newAt rfl,aa.o _ _⟩
      case rest =>
       obtain⟨pb,rfl,cf,ad⟩:=hcut;have S6:=zH ((S4.o.below ad).drew);have bd:=zH (ao.o.below ad ao.o.lt).drew;have bb:=zH (show zY wc.drew ub rb spV SpOk tcV m' (l1++l2)from ab.o.qj (ad.block _ ab.o.lt.1) (ad.block _ ab.o.lt.2));have b9:=zH cf.drew;clear ad cf a1 S4 ao ab cp;have HQ:=zH (show SpOk (min D place,max D place)from by
        have h1:=bp.o.2;have h2:=a7.o.2;simp only[SpOk,iw]at h1 h2 |-;omega)
       go_wp2_with fail;refine rgl 6 (fun(G:World)=>G.cell? (.a mb 7)=some (.m V.rb)/\(∀ j,G.cell? (.a pb j)=#[.i (min D place),.i (max D place)][j]?)/\(Instr.lookup 98 (.m V.rb) (.agg #[.i (min D place),.i (max D place)]) false).run prog G=.ok (.i (zJ H (min D place,max D place))) G) ?_;generalize wc.drew=w6 at S6 bd bb b9 |-;have I:(Instr.lookup 98 (.m V.rb) (.agg #[.i (min D place),.i (max D place)]) false).run prog w6=.ok (.i (zJ H (min D place,max D place))) w6:=by
        exact MapE.lookD S6.o.g.mi.a prKey underlying98 HQ.o
       have A:=And.intro (show w6.cell? (.a mb 7)=some (.m V.rb)from S6.o.g.cells 7) (And.intro b9.o.cell I)
       iterate 6(refine tK 0 rfl A ?_)
       refine lst rfl fun K W=>?_;go_simp;refine W _ _ ?_;clear W K A I;by_cases h0:zJ H (min D place,max D place)=0
       ·have o0:(zJ H (min D place,max D place)==0)=true:=by rw[h0];rfl
        have b6:=zH (show zgv M.steps H (zc0 D place)=mput H (min D place,max D place) M.steps from yj h0);clear h0;go_wp2_with fail;refine rgl 9 (fun(G:World)=>G.cell? (.a mb 7)=some (.m V.rb)/\G.cell? (.a mb 8)=some (.i M.steps)/\(∀ j,G.cell? (.a pb j)=#[.i (min D place),.i (max D place)][j]?)) ?_;have S7:=zH S6.o.drew;have c3:=zH bd.o.drew;have bz:=zH b9.o.drew;have an:=zH (show zY w6.drew ub rb spV SpOk tcV m' (l1++l2)from bb.o.qj rfl rfl);generalize w6.drew=w7 at S7 c3 bz an |-;obtain⟨w8,ah,cd,ae,d1⟩:=S7.o.g.mi.a.update prKey underlying98 HQ.o (M.steps:Int);have S8:=zH (S7.o.racesS ae cd);have a3:=zH (show zjc C mb eb lab0 E w0 { M with qp:=tm } { V with ul:=ul } e h.clock t place write sp m' ub rb xb (l1++l2).length w8 from⟨l1++l2,_,rfl,an.o.qj (ae.block _ an.o.lt.1 (fun e=>by
         injection e with e;have:=S7.o.g.mi.al;rw[<- show ub=V.rb from e,co.o]at this;cases this)) (ae.block _ an.o.lt.2 (fun e=>by
         injection e with e;have:=S7.o.g.mi.al;rw[<- show rb=V.rb from e,a6.o.1]at this;cases this)),S8.o,c3.o.grown ae (fun e=>by
         injection e with e;have:=S7.o.g.mi.al;rw[<- show xb=V.rb from e,bu.o]at this;cases this),by rw[<- b6.o];exact aw.o⟩)
        clear cd ae d1;have A:=And.intro (show w7.cell? (.a mb 7)=some (.m V.rb)from S7.o.g.cells 7) (And.intro (show w7.cell? (.a mb 8)=some (.i M.steps)from S7.o.g.cells 8) bz.o.cell)
        iterate 9(refine tK 0 rfl A ?_)
        refine lst rfl fun K W=>?_;go_simp;refine W _ _ ?_;clear W K A ah;go_wp2;go_roundg (l1++l2).length
        case measure=>exact b4.o
        case rel=>exact a3.o
       ·have o0:(zJ H (min D place,max D place)==0)=false:=zI h0;have b6:=zH (show zgv M.steps H (zc0 D place)=H from yg h0);have a3:=zH (show zjc C mb eb lab0 E w0 { M with qp:=tm } { V with ul:=ul } e h.clock t place write sp m' ub rb xb (l1++l2).length w6 from⟨l1++l2,H,rfl,bb.o,S6.o,bd.o,by have:=aw.o;rw[b6.o]at this;exact this⟩);clear h0;go_wp2;go_roundg (l1++l2).length
        case measure=>exact b4.o
        case rel=>exact a3.o
end
end
section
def accV (f:Fr)(i:In):Vl:=if i.op=4 then valM f i.y else if i.op=5 then f.qc.getD i.x.toNat (.num 0)else .obj (-1)
def accR (M:Mc)(t:Nat)(h:Th)(f:Fr)(i:In)(e:Evn)(o:Int):Mc×Evn :=
 if i.op=3\/i.op=5 then(ze0 { M with held:=mput M.held (o,(i.var:Int)) (valM f i.y) } t h.clock (o,i.var) i.place true,{ e with obj:=o,field:=i.var,val:=valM f i.y })
 else(ze0 (zQ M t h (xc f i.x ((mget M.held (o,(i.var:Int))).getD (.num 0)))) t h.clock (o,i.var) i.place false,{ e with obj:=o,field:=i.var,val:=(mget M.held (o,(i.var:Int))).getD (.num 0) })
def accsM (M:Mc)(t:Nat)(h:Th)(f:Fr)(i:In)(e:Evn):Vl->Option (Mc×Evn)
 | .obj o=>some (accR M t h f i e o)
 | _=>none
section
variable {C:AX} {mb eb:Nat} {lab:Lab} {w:World} {M:Mc} {V:MV} {e:Evn} {t n fg fc k:Nat} {f:Fr} {h:Th} {v:TV} {lv:Value} {i:In}
theorem acc_eq (ho:i.op=2\/i.op=3\/i.op=4\/i.op=5):doM C.P M t h f i e=accsM M t h f i e (accV f i):=by
 unfold doM;rw[yg yo,yg yo,yj ho];show(match accV f i with | .obj o=>_ | _=>none)=_;cases accV f i with
 | num _=>rfl
 | thr _=>rfl
 | obj o =>
  unfold accsM accR;by_cases h:i.op=3\/i.op=5
  ·simp only[yj h]
  ·simp only[yg h]
theorem acc_ok (W:WfD C.P M h f i){o:Int}(A:accV f i=.obj o):iw o:=by
 have hv:∀ x ∈ f.qc,VlOk M.qd.length x:=W.v;have E:∀ k,f.qc.getD k (.num 0)=.obj o->iw o:=fun k D=>by
  by_cases hl:k<f.qc.length
  ·have h1:=hv _ (List.getElem_mem hl);rw[List.getD,yc hl]at D;rw[show f.qc[k]=.obj o from D]at h1;exact h1
  ·rw[List.getD,yb0 yo]at D;cases D
 unfold accV at A;split at A
 ·unfold valM at A;split at A
  ·cases A
  ·exact E _ A
 ·split at A
  ·exact E _ A
  ·injection A with A;subst A;exact⟨by omega,by omega⟩
theorem zu1 (HC:AXok C)(s:St C mb eb lab w lab M V e w)(p:TopP M V t h f n v fg fc lv)(hi:C.P.code[k]?=some i)(W:WfD C.P M h f i)(ho:i.op=2\/i.op=3\/i.op=4\/i.op=5)(hev:e.val=.num 0) :
  Calls prog 252 #[.p mb,.i t,.q fg (n*3),.q C.cg (k*14),.p eb] w
   (zdk C mb eb lab w M V (doM C.P M t h f i e)):=by
 obtain⟨R,hR⟩:∃ R,doM C.P M t h f i e=R:=⟨_,rfl⟩;rw[hR];have HM:=zH (show R=accsM M t h f i e (accV f i) by rw[<- hR,acc_eq ho]);have ad:=zH (fun o=>acc_ok (o:=o) W);have E:=zH W;have b5:=zH ho;have b3:=zH hev;have i9:=ic9 HC s hi;have e4:w.cell? (.a eb 4)=some (.i e.field):=s.b.cell 4;have ez:=s.fz;have el:=s.b.lt;have J:=zH (s.ev 4 (.i i.var) (e':={ e with field:=i.var }) rfl);have HI:=zH hi;have HP:=zH p;clear hR W s hi p ho hev;go_enter func252,ntmps252;go_upto_region 3 with fail
 clear i9 e4 ez el;generalize w.setCell (.a eb 4) (.i i.var)=w1 at J |-;have i0:=ic0 HC J.o HI.o;obtain⟨wr,D⟩:∃ wr,decide (i.op=3\/i.op=5)=wr:=⟨_,rfl⟩;have ae:=zH D;go_cut [12] (fun v12 wx=>v12=.bool wr/\wx=w1)
 case first =>
  by_cases h3:i.op=3
  ·have o3:((i.op:Int)==3)=true:=by rw[h3];rfl
   have HB:=zH (show wr=true by rw[<- D];simp[h3]);clear h3 D;go_wp2;go_meet;exact⟨by rw[HB.o],rfl⟩
  ·have o3:((i.op:Int)==3)=false:=zI yo;by_cases h5:i.op=5
   ·have o5:((i.op:Int)==5)=true:=by rw[h5];rfl
    have HB:=zH (show wr=true by rw[<- D];simp[h5]);clear h3 h5 D;go_wp2;go_meet;exact⟨by rw[HB.o],rfl⟩
   ·have o5:((i.op:Int)==5)=false:=zI yo;have HB:=zH (show wr=false by rw[<- D];simp[h3,h5]);clear h3 h5 D;go_wp2;go_meet;exact⟨by rw[HB.o],rfl⟩
 case rest =>
  obtain⟨rfl,rfl⟩:=hcut;clear D;go_upto_block 0 with fail
  go_cut [11] (fun v11 wx=>v11=vlV (accV f i)/\St C mb eb lab w lab M V { e with field:=i.var } wx)
  case first =>
   by_cases h4:i.op=4
   ·have o4:((i.op:Int)==4)=true:=by rw[h4];rfl
    have T:=HP.o.top J.o.g;have HV:=zH (zhz wc fg (n*3) i.y f lv T.f1 T.F.r (E.o.io.y yo));have i4:=ic4 HC J.o HI.o;have i5:=ic5 HC J.o HI.o;have HE:=zH (show accV f i=valM f i.y from yj h4);clear T h4;go_wp2_with fail;refine HV.o.mono ?_;rintro x w2 ⟨rfl,ah⟩;have S2:=zH (J.o.below ah);clear ah;go_wp2;go_meet;exact⟨by rw[HE.o],S2.o⟩
   ·have o4:((i.op:Int)==4)=false:=zI yo;by_cases h5:i.op=5
    ·have o5:((i.op:Int)==5)=true:=by rw[h5];rfl
     have HX:=zH (And.intro (E.o.io.x yo) E.o.io.xl);obtain⟨x,hx⟩:∃ x:Nat,i.x=(x:Int):=⟨i.x.toNat,by have:=HX.o.1;omega⟩;have aa:x<f.qc.length:=yq HX.o.2;obtain⟨x0,U⟩:∃ x0,f.qc[x]?=some x0:=⟨_,yc aa⟩;have T:=HP.o.top J.o.g;obtain⟨lg,lc,L⟩:=T.locP yo;have f1:=T.f1;have hc:=L.c x x0 U;have hz:=L.z;have bf:=L.l;have hu:=L.u;have bg:lg≠eb:=fun h1=>by have:=T.F.l lg (by rw[hu];rfl);rw[h1,J.o.eo]at this;cases this
     have bh:lg≠mb:=fun h1=>by have:=T.F.l lg (by rw[hu];rfl);rw[h1,J.o.g.mi.ml]at this;cases this
     have be:fg≠mb:=fun h1=>by have:=T.l;rw[h1,J.o.g.mi.ml]at this;cases this
     have bd:fg≠eb:=fun h1=>by have:=T.l;rw[h1,J.o.eo]at this;cases this
     have fl:=T.fl;obtain⟨bk,z1,Z⟩:=za3 x0;rw[Z]at hc;have HU:=zH hu;rw[hu]at f1;have i3:=ic3 HC J.o HI.o;rw[hx]at i3;have HE:=zH (show accV f i=x0 by unfold accV;rw[yg h4,yj h5,hx];simp[List.getD,U]);have HY:=zH Z;have S2:=zH (fun N=>J.o.drewN N);clear T L hx U Z hu h4 h5;go_wp2_with fail;go_quiet (fail);go_wp2;go_meet;exact⟨by rw[HE.o,HY.o],S2.o _⟩
    ·have o5:((i.op:Int)==5)=false:=zI yo;have HE:=zH (show accV f i=.obj (-1) by unfold accV;rw[yg h4,yg h5]);clear h4 h5;go_wp2;go_meet;exact⟨by rw[HE.o];rfl,J.o⟩
  case rest =>
   obtain⟨rfl,au⟩:=hcut;have S2:=zH au;obtain⟨T1,z,a,one,Y,bi,ao,ap⟩:=obj_form (accV f i);have HO:=zH (And.intro ao ap);rw[Y];clear au Y ao ap i0 J;cases one
   ·have HR:=zH (show R=none by
     rw[HM.o];cases hx:accV f i with
     | obj v=>exact absurd hx (HO.o.2 rfl v)
     | num v=>rfl
     | thr v=>rfl)
    go_wp2;go_ret;rw[HR.o];exact⟨rfl,_,S2.o⟩
   ·have a9:=HO.o.1 rfl;have HR:=zH (show R=some (accR M t h f i e a) by rw[HM.o,a9];rfl);have HA:=zH (ad.o a a9);have S3:=zH (S2.o.ev 3 (.i a) (e':={ e with field:=i.var,obj:=a }) rfl);have e3:wc.cell? (.a eb 3)=some (.i e.obj):=S2.o.b.cell 3;have ez:=S2.o.fz;have el:=S2.o.b.lt;clear a9 HM HO ad;go_wp2_with fail;clear e3 ez el bi;generalize wc.setCell (.a eb 3) (.i a)=w3 at S3 |-;have e3:w3.cell? (.a eb 3)=some (.i a):=S3.o.b.cell 3;have e4:w3.cell? (.a eb 4)=some (.i i.var):=S3.o.b.cell 4;have el:=S3.o.b.lt;go_region;have S4:=zH ((S3.o.alloc (.k #[.i a,.i i.var] 342)).drew);have a2:Blk (w3.alloc (.k #[.i a,.i i.var] 342)).drew w3.heap.size 342 #[.i a,.i i.var]:=(Blk.newAt rfl).drew;have a0:=zH (show lab w3.heap.size=.out/\w3.heap.size≠eb from⟨S3.o.g.hi _ yL,ybk el⟩);clear e3 e4 el;change Exit.then _ _ _ _ ((w3.alloc (.k #[.i a,.i i.var] 342)).drew)
    generalize (w3.alloc (.k #[.i a,.i i.var] 342)).drew=w4 at S4 a2 |-;generalize w3.heap.size=sb at a2 a0 |-;have a5:=zH a2;clear a2 S3 S2;go_upto_if 82 with fail
    go_cut [] (fun wx=>∃ (M':Mc) (e':Evn) (h':Th),R=some (ze0 M' t h.clock (a,(i.var:Int)) i.place wr,e')/\St C mb eb lab w lab M' V e' wx/\M'.qd[t]?=some h'/\h'.clock=h.clock/\M'.qd.length=M.qd.length/\Blk wx sb 342 #[.i a,.i i.var])
    case first =>
     have a6:=zH (show SpOk (a,(i.var:Int))from⟨HA.o,E.o.io.vr⟩);cases wr
     ·have D:¬(i.op=3\/i.op=5):=by have:=ae.o;simpa using this
      have HX:=zH (show 0<=i.x/\i.x<(f.qc.length:Int)from⟨E.o.io.x (yq b5.o),E.o.io.xl⟩);obtain⟨yv,G⟩:∃ yv,(mget M.held (a,(i.var:Int))).getD (.num 0)=yv:=⟨_,rfl⟩;have HE:=zH (show R=some (ze0 (zQ M t h (xc f i.x yv)) t h.clock (a,i.var) i.place false,{ e with obj:=a,field:=i.var,val:=yv }) by rw[HR.o];unfold accR;rw[yg D,G]);clear D;obtain⟨xv,b,ak,hb⟩:∃ (xv:Value) (b:Bool),(∀ W,St C mb eb lab w lab M V { e with field:=i.var,obj:=a } W->(Instr.lookup 240 (.m V.hb) (.agg #[.i a,.i i.var]) true).run prog W=.ok (.tuple #[xv,.bool b]) W)/\(if b then xv=vlV yv else yv=.num 0):=by
       cases hg:mget M.held (a,(i.var:Int))with
       | none =>
        rw[hg]at G;refine⟨.nilIface,false,fun w s=>?_,G.symm⟩;have hl:=s.g.mi.h.lookup zg1 underlying240 (zeroValue93 w) a6.o true;rw[hl,hg];rfl
       | some u =>
        rw[hg]at G;obtain rfl:u=yv:=G;refine⟨vlV u,true,fun w s=>?_,rfl⟩;have hl:=s.g.mi.h.lookup zg1 underlying240 (zeroValue93 w) a6.o true;rw[hl,hg];rfl
      have b4:=zH ak;have HB:=zH hb;clear ak hb G;go_wp2_with fail;refine rgl 10 (fun(W':World)=>W'.cell? (.a mb 2)=some (.m V.hb)/\(∀ j,W'.cell? (.a sb j)=#[.i a,.i i.var][j]?)/\(Instr.lookup 240 (.m V.hb) (.agg #[.i a,.i i.var]) true).run prog W'=.ok (.tuple #[xv,.bool b]) W') ?_;have S:=zH S4.o.drew;have O:=zH a5.o.drew;generalize w4.drew=w5 at S O |-;have A:=And.intro (show w5.cell? (.a mb 2)=some (.m V.hb)from S.o.g.cells 2) (And.intro O.o.cell (b4.o w5 S.o))
      iterate 10(refine tK 0 rfl A ?_)
      refine lst rfl fun K hK=>?_;go_simp;refine hK _ _ ?_;clear hK K A;go_upto_if 110 with fail
      go_cut [16,17] (fun v16 v17 wx=>St C mb eb lab w lab M V { e with field:=i.var,obj:=a,val:=yv } wx/\Blk wx sb 342 #[.i a,.i i.var])
      case first =>
       cases b
       ·have h0:yv=.num 0:=by have:=HB.o;simpa using this
        have b2:=zH (show St C mb eb lab w lab M V { e with field:=i.var,obj:=a,val:=yv } w5 by rw[h0,<- b3.o];exact S.o);clear h0;go_wp2;go_meet;exact⟨b2.o,O.o⟩
       ·have h0:xv=vlV yv:=by have:=HB.o;simpa using this
        subst h0;obtain⟨ty,tz,Y⟩:=za3 yv;have I:=zH (S.o.ev 5 (vlV yv) (e':={ e with field:=i.var,obj:=a,val:=yv }) rfl);have H:=zH (O.o.qi (p:=(.a eb 5)) a0.o.2 (vlV yv));obtain⟨ab,z0,a1⟩:=za3 e.val;have e5:w5.cell? (.a eb 5)=some (.iface ab (.i z0)):=(S.o.b.cell 5).trans (by rw[<- a1];rfl);have ez:=S.o.fz;have el:=S.o.b.lt;rw[Y]at I H |-;clear Y a1;go_wp2;go_meet;exact⟨I.o,H.o⟩
      case rest =>
       obtain⟨aw,ai⟩:=hcut;have I:=zH aw;have H:=zH ai;clear aw ai;obtain⟨x,hx⟩:∃ x:Nat,i.x=(x:Int):=⟨i.x.toNat,by have:=HX.o.1;omega⟩;have aa:x<f.qc.length:=yq HX.o.2;obtain⟨x0,U⟩:∃ x0,f.qc[x]?=some x0:=⟨_,yc aa⟩;have T:=HP.o.top I.o.g;obtain⟨lg,lc,L⟩:=T.locP yo;have f1:=T.f1;have hc:=L.c x x0 U;have hz:=L.z;have bf:=L.l;have hu:=L.u;have bg:lg≠eb:=fun h1=>by have:=T.F.l lg (by rw[hu];rfl);rw[h1,I.o.eo]at this;cases this
       have bh:lg≠mb:=fun h1=>by have:=T.F.l lg (by rw[hu];rfl);rw[h1,I.o.g.mi.ml]at this;cases this
       have be:fg≠mb:=fun h1=>by have:=T.l;rw[h1,I.o.g.mi.ml]at this;cases this
       have bd:fg≠eb:=fun h1=>by have:=T.l;rw[h1,I.o.eo]at this;cases this
       have fl:=T.fl;obtain⟨bk,z1,Z⟩:=za3 x0;rw[Z]at hc;have HU:=zH hu;rw[hu]at f1;have i3:=ic3 HC I.o HI.o;have cl:=icl HC I.o HI.o;obtain⟨ty,tz,Y⟩:=za3 yv;have e5:wc.cell? (.a eb 5)=some (.iface ty (.i tz)):=(I.o.b.cell 5).trans (by rw[<- Y];rfl);have el:=I.o.b.lt;have S7:=zH ((I.o.locI (x:=i.x) (y:=yv) HP.o hu).drew);have Q:=zH (show Blk (wc.setCell (.a lg x) (vlV yv)).drew sb 342 #[.i a,.i i.var]from H.o.qi (p:=(.a lg x)) (fun h1=>by
        have:=T.F.l lg (by rw[hu];rfl);rw[<- show sb=lg from h1,a0.o.1]at this;cases this) (vlV yv))
       have pt:=HP.o.qe (xc f i.x yv);have b6:=zH pt.ht;rw[hx]at i3 S7;rw[ybl]at S7;rw[Y]at S7 Q;clear T L U Z hu Y pt;have b9:=zH hx;clear hx;go_wp2_with fail;go_region;go_wp2;go_meet;exact⟨_,_,_,HE.o,by rw[b9.o];exact S7.o,b6.o,rfl,by simp[zQ,setTh],Q.o⟩
     ·have D:i.op=3\/i.op=5:=by have:=ae.o;simpa using this
      have T:=HP.o.top S4.o.g;have HV:=zH (zhz w4 fg (n*3) i.y f lv T.f1 T.F.r (E.o.io.y yo));have i4:=ic4 HC S4.o HI.o;have i5:=ic5 HC S4.o HI.o;have HE:=zH (show R=some (ze0 { M with held:=mput M.held (a,(i.var:Int)) (valM f i.y) } t h.clock (a,i.var) i.place true,{ e with obj:=a,field:=i.var,val:=valM f i.y }) by rw[HR.o];unfold accR;rw[yj D]);clear T D;go_wp2_with fail;refine HV.o.mono ?_;rintro x w5 ⟨rfl,a7⟩;have S:=zH (S4.o.below a7);have O:=zH (a5.o.below a7 a5.o.lt);obtain⟨yv,G⟩:∃ yv,valM f i.y=yv:=⟨_,rfl⟩;rw[G]at HE |-;obtain⟨ty,tz,Y⟩:=za3 yv;have I:=zH (S.o.ev 5 (vlV yv) (e':={ e with field:=i.var,obj:=a,val:=yv }) rfl);have H:=zH (O.o.qi (p:=(.a eb 5)) a0.o.2 (vlV yv));obtain⟨ab,z0,a1⟩:=za3 e.val;have e5:w5.cell? (.a eb 5)=some (.iface ab (.i z0)):=(S.o.b.cell 5).trans (by rw[<- a1];rfl);have ez:=S.o.fz;have el:=S.o.b.lt;have HY:=zH Y;rw[Y]at I H |-;clear a7 i4 i5 Y a1 G;go_wp2_with fail;clear e5 ez el;generalize w5.setCell (.a eb 5) (.iface ty (.i tz))=w6 at I H |-;refine rgl 9 (fun(W':World)=>W'.cell? (.a mb 2)=some (.m V.hb)/\(∀ j,W'.cell? (.a sb j)=#[.i a,.i i.var][j]?)/\W'.cell? (.a eb 5)=some (.iface ty (.i tz))) ?_;have S7:=zH I.o.drew;have Q:=zH H.o.drew;generalize w6.drew=w7 at S7 Q |-;have A:=And.intro (show w7.cell? (.a mb 2)=some (.m V.hb)from S7.o.g.cells 2) (And.intro Q.o.cell (show w7.cell? (.a eb 5)=some (.iface ty (.i tz))from(S7.o.b.cell 5).trans (by rw[<- HY.o];rfl)));obtain⟨w8,ay,am,a8,bj⟩:=S7.o.g.mi.h.update zg1 underlying240 a6.o yv;rw[HY.o]at ay;have S8:=zH (S7.o.heldS a8 am);have a4:=zH (Q.o.grown a8 (fun e=>by
       injection e with e;have:=S7.o.g.mi.hl;rw[<- e,a0.o.1]at this;cases this))
      clear am a8 bj
      iterate 9(refine tK 0 rfl A ?_)
      refine lst rfl fun K hK=>?_;go_simp;refine hK _ _ ?_;clear hK K A ay;go_wp2;go_meet;exact⟨_,_,h,HE.o,S8.o,HP.o.ht,rfl,rfl,a4.o⟩
    case rest =>
     obtain⟨M',e',h',af,aq,ax,aj,an,ag⟩:=hcut;have S8:=zH aq;have a4:=zH ag;have HQ:=zH (And.intro ax (And.intro aj an));obtain⟨uv,az⟩:∃ uv,V.tl[t]?=some uv:=⟨_,HP.o.hv⟩;have b8:=zH az;have b7:=zH af;clear aq ag ax aj an af az;go_wp2_with fail;refine rgl 8 (fun(W':World)=>W'.cell? (.n C.cg k 1)=some (.i i.place)/\(∀ j,W'.cell? (.a sb j)=#[.i a,.i i.var][j]?)) ?_;have S9:=zH S8.o.drew;have ac:=zH a4.o.drew;generalize wc.drew=w9 at S9 ac |-;have A:=And.intro (ic1 HC S9.o HI.o) ac.o.cell
     iterate 8(refine tK 0 rfl A ?_)
     refine lst rfl fun K hK=>?_;go_simp;refine(z00 S9.o HQ.o.1 b8.o (a,(i.var:Int)) i.place wr ⟨HA.o,E.o.io.vr⟩ E.o.io.pl (by rw[HQ.o.2.2];exact E.o.n)).mono ?_;rintro x bm ⟨rfl,b1,V2,a3⟩;refine hK _ _ ?_;have bb:=zH a3;clear hK K A a3;go_wp2;go_ret;rw[b7.o];exact⟨rfl,b1,V2,by rw[<- HQ.o.2.1];exact bb.o⟩
end
end
section
def zdq (f:Fr)(ars:List Ar)(L k:Nat):List Vl:=(ars.take k).map (valM f)++(zp L).drop k
theorem zna {f:Fr}{k:Nat}(h:k<=ars.length)(hl:ars.length<=L):(zdq f ars L k).length=L:=by
 simp[zdq,zp];omega
theorem zw5 {f:Fr}{k:Nat}{a:Ar}(ha:ars[k]?=some a)(hl:ars.length<=L):(zdq f ars L k).set k (valM f a)=zdq f ars L (k+1):=by
 have A:k<ars.length:=(yh.1 ha).1;have hn:((ars.take k).map (valM f)).length=k:=by rw[ybd,yah,Nat.min_eq_left yo]
 unfold zdq;rw[yce _ _ (by rw[hn];exact yr _),List.take_add_one,ha,hn,Nat.sub_self,zae (l:=zp L) (n:=.num 0) (by unfold zp;rw[List.getElem?_replicate,yj yo])];simp
theorem zw4 {f:Fr}{k:Nat}(hk:k<ars.length)(hl:ars.length<=L):(zdq f ars L k)[k]?=some (.num 0):=by
 have hn:((ars.take k).map (valM f)).length=k:=by rw[ybd,yah,Nat.min_eq_left yo]
 unfold zdq;rw[yC (by rw[hn];exact yr _),hn,Nat.sub_self,List.getElem?_drop];unfold zp;rw[List.getElem?_replicate,yj yo]
theorem zk8 {P:Pr}{f:Fr}{x:In}{back:Int}{g:Fu}(hg:P.fs[x.call]?=some g):zdr P f x back=some { at_:=g.from_,qc:=zdq f x.args g.locals x.args.length,back:=back }:=by
 unfold zdr;rw[hg];simp[zdq]
theorem zmt:∀ {l:List Ar} {j:Nat} {a:Ar},l[j]?=some a->(l.flatMap zdm)[j*2]?=some (.bool a.c)/\(l.flatMap zdm)[j*2+1]?=some (.i a.n)
 | [],j,a,h=>by simp at h
 | b::l,0,a,h=>by
  simp at h;subst h;exact⟨rfl,rfl⟩
 | b::l,j+1,a,h=>by
  have:=zmt (l:=l) (j:=j) (a:=a) (by simpa using h);rw[show(j+1)*2=j*2+2 by omega];exact this
theorem zte {w:World}{e size n t o c:Nat}{cs:Array Value}(h:w.ownsRow B e size (.t g o n c) n xs)(hb:Blk w b t cs)(hne:e≠t){k:Nat}(hk:k=g)(h2:k=b):False:=by
 subst hk;obtain⟨cs',h1⟩:=zr h rfl;exact h1.qs hb hne h2
def EnPost (w:World)(F:Fr)(e:Ending)(w':World):Prop:=∃ lv,e=.r (.agg #[.i F.at_,lv,.i F.back])/\w'.ownsRow w.heap.size 93 1 lv F.qc.length (F.qc.map vlV)/\Below w.heap.size w w'
def EnRel (w:World)(nb rb:Nat)(fr:Nat)(la:Option Addr)(lc:Nat)(f:Fr)(ars:List Ar)(L:Nat)(back:Int)(gk:Nat)(v38:Value)(W:World):Prop :=
 ∃ k:Nat,v38=.i k/\gk=ars.length-k/\k<=ars.length/\Blk W nb 250 #[.i fr,.slice la L lc,.i back]/\Blk W rb 250 #[.i 0,.z,.i 0] /\
  W.ownsRow w.heap.size 93 1 (.slice la L lc) L ((zdq f ars L k).map vlV)/\Below w.heap.size w W
section
variable {C:AX} {mb eb:Nat} {lab0 lab:Lab} {w0 w:World} {M:Mc} {V:MV} {e:Evn} {t n fg fc k:Nat} {f:Fr} {h:Th} {v:TV} {lv:Value} {i:In}
theorem zqm (HC:AXok C)(G:zu C.P)(s:St C mb eb lab0 w0 lab M V e w)(p:TopP M V t h f n v fg fc lv)(hi:C.P.code[k]?=some i)(W:WfD C.P M h f i)(ho:i.op=7\/i.op=11)(back:Int)(F:Fr)(hF:zdr C.P f i back=some F) :
  Calls prog 305 #[.p mb,.q fg (n*3),.q C.cg (k*14),.i back] w (EnPost w F):=by
 obtain⟨has,gf,hg,hL⟩:=W.io.c ho;rw[zk8 hg]at hF;injection hF with hF;subst hF;have bg:=(G.fs _ gf hg).1;obtain⟨aa,ac,ah,bi,_⟩:=HC.ql s.g.on hi;have bu:=zH has;have HL:=zH (And.intro hL bg);have cm:=zH bi;have HI:=zH hi;have HG:=zH hg;have HP:=zH p;have S:=zH s;have g1:=s.alloc (.k #[.i 0,.z,.i 0] 250);have ak:Blk (w.alloc (.k #[.i 0,.z,.i 0] 250)) w.heap.size 250 #[.i 0,.z,.i 0]:=Blk.newAt rfl;have b2:Below w.heap.size w (w.alloc (.k #[.i 0,.z,.i 0] 250)):=yB.alloc yL _;clear has hL bg bi hi hg p s W ah ho G;go_enter func305,ntmps305;go_wp2_with fail;obtain⟨rb,a0⟩:∃ rb,rb=w.heap.size:=⟨_,rfl⟩;have ay:=zH a0;rw[<- a0]at ak |-;clear a0;change Code.wp _ _ _ _ (w.alloc (.k #[.i 0,.z,.i 0] 250))
 generalize w.alloc (.k #[.i 0,.z,.i 0] 250)=w1 at g1 ak b2 |-;have S1:=zH g1;have ax:=zH ak;have au:=zH b2;clear g1 ak b2;have m0:w1.cell? (.a mb 0)=some (.p C.pb):=S1.o.g.cells 0;have hp:w1.cell? (.a C.pb 3)=some (.s C.fg C.P.fs.length C.fcap):=HC.vt S1.o.g.on 3;have br:=ic11 HC S1.o HI.o;have Z:=fun j hj=>HC.jd S1.o.g.on HG.o j hj;have u0:w1.cell? (.a C.fg (i.call*5))=some (.string gf.name):=Z 0 yo;have u1:w1.cell? (.a C.fg (i.call*5+1))=some (.i gf.params):=Z 1 yo;have u2:w1.cell? (.a C.fg (i.call*5+2))=some (.i gf.locals):=Z 2 yo;have u3:w1.cell? (.a C.fg (i.call*5+3))=some (.i gf.from_):=Z 3 yo;have u4:w1.cell? (.a C.fg (i.call*5+4))=some (.i gf.to):=Z 4 yo;have ca:i.call<C.P.fs.length:=(yh.1 HG.o).1;have cc:mb<w1.heap.size:=zaq m0;have cf:C.pb<w1.heap.size:=zaq hp;have c9:C.cg<w1.heap.size:=zaq br;have bm:C.fg<w1.heap.size:=zaq u0;clear Z;go_region;have b4:Blk (w1.alloc (.k #[.string gf.name,.i gf.params,.i gf.locals,.i gf.from_,.i gf.to] 228)).drew w1.heap.size 228 #[.string gf.name,.i gf.params,.i gf.locals,.i gf.from_,.i gf.to]:=Blk.newAt rfl;have a4:Below w1.heap.size w1 (w1.alloc (.k #[.string gf.name,.i gf.params,.i gf.locals,.i gf.from_,.i gf.to] 228)).drew:=(yB.alloc yL _).drew;change Exit.then _ _ _ _ ((w1.alloc (.k #[.string gf.name,.i gf.params,.i gf.locals,.i gf.from_,.i gf.to] 228)).drew)
 generalize (w1.alloc (.k #[.string gf.name,.i gf.params,.i gf.locals,.i gf.from_,.i gf.to] 228)).drew=w2 at b4 a4 |-;clear m0 hp br u0 u1 u2 u3 u4 ca cc cf c9 bm;have S2:=zH (S1.o.below a4);have a8:=zH (ax.o.below a4 ax.o.lt);have aw:=zH (au.o.trans (a4.mono au.o.size));have az:=zH b4;clear a4 b4 S1 ax au;generalize w1.heap.size=ub at az |-;go_upto_region 2 with fail
 go_cut [10] (fun v10 wx=>∃ (nb:Nat) (la:Option Addr) (lc:Nat),v10=.p nb/\Blk wx nb 250 #[.i gf.from_,.slice la gf.locals lc,.i back]/\wx.ownsRow w.heap.size 93 1 (.slice la gf.locals lc) gf.locals ((zp gf.locals).map vlV)/\Below w2.heap.size w2 wx/\w2.heap.size<=nb)
 case first =>
  refine rgl 8 (fun(W':World)=>∀ j,W'.cell? (.a ub j)=#[.string gf.name,.i gf.params,.i gf.locals,.i gf.from_,.i gf.to][j]?) ?_;have I:=zH (show Below w2.heap.size w2 w2.drew from yB.drew);have O:=zH az.o.drew;have b8:=zH aw.o.size;generalize w2.drew=w3 at I O |-;have A:=O.o.cell
  iterate 4(refine tK 0 rfl A ?_)
  refine tK 5 rfl A ?_;refine wpAnyH_ready (rs:=[4,7]) yk yy ?_;refine AllReadyH.cons rfl (fun K G=>?_) (AllReadyH.cons rfl (fun K G=>?_) AllReadyH.nil)
  ·go_simp;refine(zn4 w3 gf.locals HL.o.2).mono ?_;rintro x w4 ⟨ci,rfl,D,N⟩;rw[show(zp gf.locals).length=gf.locals by simp[zp]]at D;obtain⟨la,lc,rfl⟩:=zZ D;have ad:=zH (O.o.below N O.o.lt);have a1:=zH (I.o.trans (N.mono I.o.size));have J:=zH (zm D (ya b8.o I.o.size));clear D N;refine G.o _ _ ad.o.cell (fun A=>?_);clear G K;refine tK 6 rfl A ?_;refine rdy 7 rfl fun K G=>?_;go_simp;refine G.o _ _ (ad.o.alloc _).cell (fun A=>?_);clear G K;refine lst rfl fun K G=>?_;go_simp;refine G _ _ ?_;clear G K A;go_wp2;go_meet;exact⟨_,la,lc,rfl,Blk.newAt rfl,World.ownsRow.alloc J.o _,a1.o.alloc a1.o.size _,a1.o.size⟩
  ·go_simp;refine G.o _ _ (O.o.alloc _).cell (fun A=>?_);clear G K;refine rdy 4 rfl fun K G=>?_;go_simp;refine(zn4 (w3.alloc (.k #[.i 0,.z,.i 0] 250)) gf.locals HL.o.2).mono ?_;rintro x w4 ⟨ci,rfl,D,N⟩;rw[show(zp gf.locals).length=gf.locals by simp[zp]]at D;obtain⟨la,lc,rfl⟩:=zZ D;have R:Below w3.heap.size w3 (w3.alloc (.k #[.i 0,.z,.i 0] 250)):=yB.alloc yL _;have aj:Blk (w3.alloc (.k #[.i 0,.z,.i 0] 250)) w3.heap.size 250 #[.i 0,.z,.i 0]:=Blk.newAt rfl;have ad:=zH ((O.o.alloc _).below N (O.o.alloc _).lt);have a7:=zH (aj.below N aj.lt);have a1:=zH (I.o.trans ((R.trans (N.mono R.size)).mono I.o.size));have J:=zH (zm D (ya b8.o (ya I.o.size R.size)));have ab:=zH (show ∀ k,(Value.slice la gf.locals lc).ownBlock=some k->w3.heap.size≠k from fun k hk=>by have:=(D.lt k hk).1;have h2:=aj.lt;omega);have H:=zH (show w2.heap.size<=w3.heap.size from I.o.size);clear D N R aj A;refine G.o _ _ ad.o.cell (fun A=>?_);clear G K;generalize w3.heap.size=nb at a7 ab H |-;refine tK 6 rfl A ?_;have bo:=a7.o.cell;have cd:=a7.o.frozen;refine lst rfl fun K G=>?_;go_simp;refine G _ _ ?_;clear G K A bo cd;go_wp2;go_meet;exact⟨nb,la,lc,rfl,(((a7.o.qe 0 _).qe 1 _).qe 2 _).cast yy,ownsRow_setCell_other (ownsRow_setCell_other (ownsRow_setCell_other J.o (fun e=>ab.o nb e rfl) _) (fun e=>ab.o nb e rfl) _) (fun e=>ab.o nb e rfl) _,((a1.o.setCell H.o _).setCell H.o _).setCell H.o _,H.o⟩
 case rest =>
  obtain⟨nb,la,lc,rfl,a6,D,af,cj⟩:=hcut;have bb:=zH (show rb≠nb by have:=a8.o.lt;omega);have S3:=zH (S2.o.below af);obtain⟨c5,c6,ah,aq,_⟩:=HC.ql S3.o.g.on HI.o;have c8:wc.cell? (.n C.cg k 12)=some (.slice c5 i.args.length c6):=ah 12 yo;have am:=zH aq;have ST:=zH (show EnRel w nb rb gf.from_ la lc f i.args gf.locals back i.args.length (.i 0) wc from⟨0,rfl,rfl,yD _,a6,a8.o.below af a8.o.lt,by simpa [zdq] using D,aw.o.trans (af.mono aw.o.size)⟩);clear a6 D af ah aq a8 S2 az;go_wp2_with fail;clear c8;go_loopg [38] i.args.length (fun gk v38 wr=>EnRel w nb rb gf.from_ la lc f i.args gf.locals back gk v38 wr)
  case atStart=>exact ST.o
  case round =>
   obtain⟨j,rfl,hg,hj,a6,a0,D,hB⟩:=hrel;have c2:=zH hg;have H:=zH a6;have E:=zH a0;have J:=zH D;have HB:=zH hB;clear hg a6 a0 D hB;by_cases ai:j<i.args.length
   ·obtain⟨a,ha⟩:∃ a,i.args[j]?=some a:=⟨_,yc ai⟩;obtain⟨ag,cn,b1,_,_⟩:=am.o.form yo;injection b1 with b1 _ bh;subst b1;subst bh;obtain⟨lg,ct,b3,bp,_⟩:=J.o.form (yq HL.o.1);injection b3 with b3 _ bn;subst b3;subst bn;have a5:∀ q,q<i.args.length*2->wr.cell? (.a ag q)=(i.args.flatMap zdm)[q]? := fun q hq=>by
     have hr:=am.o;unfold zfq at hr;have ce:C.on wr:=S.o.g.on.trans (HB.o.mono S.o.g.on.size);rw[ce.cell (p:=(.a ag q)) (hr.lt ag rfl).2,hr.cellAt q yo]
    have c0:wr.cell? (.a ag (j*2))=some (.bool a.c):=by rw[a5 _ yo];exact(zmt ha).1
    have c1:wr.cell? (.a ag (j*2+1))=some (.i a.n):=by rw[a5 _ yo];exact(zmt ha).2
    have c7:ag<wr.heap.size:=zaq c0;have HA:=zH (And.intro ha (bu.o a (yl ha)));have c3:=zH bp;clear a5 ha bp;go_wp2_with fail;have SR:=zH (S.o.below HB.o);have S5:=zH (SR.o.alloc (.k #[.bool a.c,.i a.n] 306));have bq:Blk (wr.alloc (.k #[.bool a.c,.i a.n] 306)) wr.heap.size 306 #[.bool a.c,.i a.n]:=Blk.newAt rfl;have bj:Below wr.heap.size wr (wr.alloc (.k #[.bool a.c,.i a.n] 306)):=yB.alloc yL _;refine rgl 7 (fun(W':World)=>W'.cell? (.a nb 1)=some (.s lg gf.locals lc)/\(∀ q,W'.cell? (.a wr.heap.size q)=#[.bool a.c,.i a.n][q]?)) ?_;have S6:=zH S5.o.drew;have b5:=bq.drew;have U:=bj.drew;generalize (wr.alloc (.k #[.bool a.c,.i a.n] 306)).drew=w6 at S6 b5 U |-;have ae:=zH b5;have b6:=zH (HB.o.trans (U.mono HB.o.size));have a2:=zH (H.o.below U H.o.lt);have an:=zH (E.o.below U E.o.lt);have ap:=zH (zn J.o fun k e=>U.block k (J.o.lt k e).2);clear bq bj b5 U c0 c1 c7 S5 SR;generalize wr.heap.size=xb at ae |-;have A:=And.intro (show w6.cell? (.a nb 1)=some (.s lg gf.locals lc)from a2.o.cell 1) ae.o.cell;have co:j<gf.locals:=yi ai HL.o.1
    iterate 5(refine tK 0 rfl A ?_)
    refine rdy 5 rfl fun K G=>?_;go_simp;have T6:=HP.o.top S6.o.g;refine(zhz w6 fg (n*3) a f lv T6.f1 T6.F.r HA.o.2).mono ?_;rintro x w7 ⟨rfl,Y⟩;have bz:=zH (b6.o.trans (Y.mono b6.o.size));have a3:=zH (a2.o.below Y a2.o.lt);have ao:=zH (an.o.below Y an.o.lt);have L:=zH (zn ap.o fun k e=>Y.block k (ap.o.lt k e).2);have c4:=zH (ae.o.below Y ae.o.lt);clear Y T6 A;refine G.o _ _ ⟨a3.o.cell 1,c4.o.cell⟩ (fun A=>?_);clear G K;refine tK 6 rfl A ?_;have bk:w7.cell? (.a lg j)=some (vlV (.num 0)):=zlg (l:=zdq f i.args gf.locals j) (lc:=lc) (by
     rw[zna yo HL.o.1];exact zm L.o yZ) (zw4 ai HL.o.1)
    have ch:=zhs L.o;obtain⟨ty,tz,hy⟩:=za3 (valM f a);have Q:=(L.o.stored j (vlV (valM f a))).1;rw[<- yco,zw5 HA.o.1 HL.o.1]at Q;have b9:=zH (a3.o.qi (p:=(.a lg j)) (fun e=>zte L.o a3.o yd rfl e.symm) (vlV (valM f a)));have bd:=zH (ao.o.qi (p:=(.a lg j)) (fun e=>zte L.o ao.o yd rfl e.symm) (vlV (valM f a)));have bf:=zH (show EnRel w nb rb gf.from_ (some (.a lg 0)) lc f i.args gf.locals back (i.args.length-(j+1)) (.i ((j+1:Nat):Int)) (w7.setCell (.a lg j) (vlV (valM f a)))from⟨j+1,rfl,rfl,ai,b9.o,bd.o,Q,bz.o.setCell c3.o _⟩);rw[hy]at bf |-;simp only[vlV]at bk;clear Q hy b9 bd;refine lst rfl fun K G=>?_;go_simp;refine G _ _ ?_;clear G K A bk ch;go_wp2;go_roundg (i.args.length-(j+1))
    case measure=>have:=c2.o;omega
    case rel=>rw[zdj (yq HL.o)];exact bf.o
   ·obtain rfl:j=i.args.length:=yo;have bo:=H.o.cell;have cq:=E.o.cell;have cs:=E.o.frozen;have cp:=bb.o;have ck:=bb.o.symm;have a9:=zH ((((E.o.qe 0 (.i gf.from_)).qe 1 (.slice la gf.locals lc)).qe 2 (.i back)).cast (cs':=#[.i gf.from_,.slice la gf.locals lc,.i back]) yy);have be:=zH (zL (zL (zL J.o E.o yd 0 (.i gf.from_)) (E.o.qe 0 (.i gf.from_)) yd 1 (.slice la gf.locals lc)) ((E.o.qe 0 (.i gf.from_)).qe 1 (.slice la gf.locals lc)) yd 2 (.i back));have b7:=zH (((HB.o.setCell (p:=(.a rb 0)) (by rw[ay.o];exact yr _) (.i gf.from_)).setCell (p:=(.a rb 1)) (by rw[ay.o];exact yr _) (.slice la gf.locals lc)).setCell (p:=(.a rb 2)) (by rw[ay.o];exact yr _) (.i back));go_wp2_with fail;generalize ((wr.setCell (.a rb 0) (.i gf.from_)).setCell (.a rb 1) (.slice la gf.locals lc)).setCell (.a rb 2) (.i back)=w9 at a9 be b7 |-;have q0:w9.cell? (.a rb 0)=some (.i gf.from_):=a9.o.cell 0;have q1:w9.cell? (.a rb 1)=some (.slice la gf.locals lc):=a9.o.cell 1;have q2:w9.cell? (.a rb 2)=some (.i back):=a9.o.cell 2;refine ym (v:=.agg #[.i gf.from_,.slice la gf.locals lc,.i back]) (by simp[results,results305,go_sem,q0,q1,q2]) rfl ?_;exact⟨.slice la gf.locals lc,rfl,by rw[show(zdq f i.args gf.locals i.args.length).length=gf.locals from zna yL HL.o.1];exact be.o,b7.o⟩
end
end
section
section
variable {C:AX} {mb eb:Nat} {lab0 lab lab':Lab} {w0 w w1 w':World} {M:Mc} {V:MV} {e:Evn} {t:Nat} {h h':Th} {v v':TV}
theorem MSt.names (g:MSt C lab mb M V w)(hb:Below w.heap.size w w')(h2:∀ k,k<w.heap.size->lab' k=lab k)(h3:∀ k,w'.heap.size<=k->lab' k=.out):MSt C lab' mb M V w':=by
 have h1:=g.below hb;have hl:∀ k,lab k≠.out->lab' k=lab k:=fun k A=>h2 k (by
  rcases yF k w.heap.size with h | h
  ·exact h
  ·exact absurd (g.hi k h) A)
 exact⟨h1.on,h1.mi.vq hl,fun k A=>(h2 k (yi A g.on.size)).trans (g.lo k A),h3⟩
theorem St.names (s:St C mb eb lab0 w0 lab M V e w)(hb:Below w.heap.size w w')(h2:∀ k,k<w.heap.size->lab' k=lab k)(h3:∀ k,w'.heap.size<=k->lab' k=.out):St C mb eb lab0 w0 lab' M V e w' :=
 ⟨s.g.names hb h2 h3,s.b.below hb s.b.lt,s.o.below hb yL,fun k A=>(h2 k (yi A s.o.size)).trans (s.l k A),(h2 _ s.b.lt).trans s.eo,s.ew⟩
theorem St.thrS {j:Nat}{x:Value}(s:St C mb eb lab0 w0 lab M V e w)(ht:M.qd[t]?=some h)(hv:V.tl[t]?=some v)(hj:j<3)(he:zgb h' v'=(zgb h v).set j x)(hT:ThIs w lab t h' v') :
  St C mb eb lab0 w0 lab (setTh M t h') { V with tl:=V.tl.set t v' } e (w.setCell (.a V.tb (t*3+j)) x):=by
 have hl:lab V.tb=.ths:=s.g.mi.rl;refine s.vk (b:=V.tb) (zey _ _ _) (by rw[hl];simp) (s.g.vk (b:=V.tb) (zey _ _ _) hl yy fun D=>?_);exact s.g.mi.thrE ht hv (fun k A=>D k ⟨A.1,A.2.1⟩) (s.g.mi.rowSet ht hv hj he) (hT.vo D ⟨by simp,by simp⟩ (fun _=>⟨by simp,by simp⟩) ⟨by simp,by simp⟩)
theorem St.pushF {F:Fr}{lv:Value}{w2:World}{cap:Nat}(s:St C mb eb lab0 w0 lab M V e w)(ht:M.qd[t]?=some h)(hv:V.tl[t]?=some v)(hF:FrIs w lab t h.qb.length F lv)
  (hrow:w2.ownsRow 0 250 3 (.s g (h.qb.length+1) cap) (h.qb.length+1) (zds h.qb v.ls++zlc F lv)) (hg:w.grownBy w2 v.fv.ownBlock) (hat:v.fv.ownBlock=some g\/g=w.heap.size) :
  ∃ lab',St C mb eb lab0 w0 lab' (setTh M t { h with qb:=h.qb++[F] }) { V with tl:=V.tl.set t { v with fv:=.s g (h.qb.length+1) cap,ls:=v.ls++[lv] } } e (w2.setCell (.a V.tb (t*3)) (.s g (h.qb.length+1) cap)):=by
 have T:=s.g.mi.t t h v ht hv;have Y:g<w2.heap.size:=(hrow.lt g rfl).2;have E:lab g=.frs t\/(lab g=.out/\g=w.heap.size):=by
  rcases hat with h | h
  ·exact .inl (T.l g h)
  ·exact .inr ⟨s.g.hi g yo,h⟩
 have H:∀ k,v.fv.ownBlock=some k->lab k=.frs t:=T.l;have G:∀ k,lab k≠.out->lab k≠.frs t->w2.heap[k]? = w.heap[k]? := fun k h1 h2=>hg.block k (s.g.own h1).2 (fun e=>h2 (H k e.symm));let lab':Lab:=fun k=>if k=g then .frs t else lab k
 have hl:∀ k,lab k≠.out->lab' k=lab k:=fun k A=>by
  show(if k=g then _ else _)=_;split
  ·rename_i e;subst e;rcases E with h | h
   ·exact h.symm
   ·exact absurd h.1 A
  ·rfl
 have O:∀ k,lab' k≠.frs t->lab' k=lab k/\k≠g:=fun k A=>by
  have:k≠g:=fun e=>A (by show(if k=g then _ else _)=_;rw[yj e]);exact⟨yg this,this⟩
 have D:lab V.tb=.ths:=s.g.mi.rl;have K:lab' V.tb=.ths:=(hl _ (by rw[D];simp)).trans D;have N:g≠V.tb:=fun e=>by
  rcases E with h | h
  ·rw[e,D]at h;cases h
  ·rw[e,D]at h;exact absurd h.1 yy
 refine⟨lab',?_⟩;have Z:=s.g.mi.vq hl;have R:∀ k,lab' k≠.out->lab' k≠.frs t->w2.heap[k]? = w.heap[k]? := fun k h1 h2=>by
  have:=(O k h2).1;exact G k (by rw[<- this];exact h1) (by rw[<- this];exact h2)
 have I:∀ k,lab' k≠.out->lab' k≠.frs t->lab' k≠.ths->(w2.setCell (.a V.tb (t*3)) (.s g (h.qb.length+1) cap)).heap[k]? = w.heap[k]? := fun k h1 h2 h3=>by
  rw[yt _ _ _ _ (fun e=>h3 (by rw[e];exact K))];exact R k h1 h2
 have Q:w2.ownsRow 0 254 3 (.s V.tb M.qd.length V.vd) M.qd.length (zcg M.qd V.tl):=xx s.g.mi.r fun k e=>by
  injection e with e;subst e;exact G _ (by show lab V.tb≠_;rw[D];simp) (by show lab V.tb≠_;rw[D];simp)
 have U:=Z.thrE (t:=t) (h:=h) (v:=v) (h':={ h with qb:=h.qb++[F] }) (v':={ v with fv:=.s g (h.qb.length+1) cap,ls:=v.ls++[lv] }) (w':=w2.setCell (.a V.tb (t*3)) (.s g (h.qb.length+1) cap)) ht hv
  (fun k A=>I k A.1 A.2.2.1 A.2.1)
  (by
   have:=(Q.stored (t*3+0) (.s g (h.qb.length+1) cap)).1;unfold zcg at this;rw[zla (n:=3) (fun _ _=>rfl) ht hv (a':={ h with qb:=h.qb++[F] }) (b':={ v with fv:=.s g (h.qb.length+1) cap,ls:=v.ls++[lv] }) yo rfl]at this;exact this)
  ⟨by simp[T.n],by
   show World.ownsRow _ 0 _ 3 (.s g (h.qb.length+1) cap) (h.qb++[F]).length (zds (h.qb++[F]) (v.ls++[lv]));unfold zds;rw[zjp T.n,yx,yby];exact ownsRow_setCell_other hrow (fun e=>N (by injection e)) _,fun k e=>by
    injection e with e;subst e;exact yj rfl,fun i f u a b=>by
   have hb:∀ k,lab k=.locs t i->(w2.setCell (.a V.tb (t*3)) (.s g (h.qb.length+1) cap)).heap[k]? = w.heap[k]? := fun k A=>by
    have e:=hl k (by rw[A];simp);exact I k (by rw[e,A];simp) (by rw[e,A];simp) (by rw[e,A];simp)
   have key:FrIs w lab t i f u:=by
    rcases yF i h.qb.length with hi | hi
    ·rw[yz hi]at a;rw[yz (by rw[T.n];exact hi)]at b;exact T.f i f u a b
    ·rw[yC hi]at a;rw[yC (by rw[T.n];exact hi)]at b;have e0:i-h.qb.length=0:=by
      have:=(yh.1 a).1;simp at this;omega
     have W:i=h.qb.length:=yo;rw[e0]at a;rw[T.n,e0]at b;simp at a b;subst a b;rw[W];exact hF
   exact⟨xx key.r fun k e=>hb k (key.l k e),fun k e=>(hl k (by rw[key.l k e];simp)).trans (key.l k e)⟩,
  T.c.qa (I _ (by rw[hl _ (by rw[T.cl];simp),T.cl];simp) (by rw[hl _ (by rw[T.cl];simp),T.cl];simp) (by rw[hl _ (by rw[T.cl];simp),T.cl];simp)),(hl _ (by rw[T.cl];simp)).trans T.cl⟩
 have J:C.on w2:=s.g.on.grown hg s.g.on.size (fun k e=>(s.g.own (by rw[H k e];simp)).1);have S:=(s.g.own (k:=V.tb) (by rw[D];simp));have L:lab' eb=.out:=by
  show(if eb=g then _ else _)=_;rw[yg,s.eo];rintro rfl;rcases E with h | h
  ·rw[s.eo]at h;cases h
  ·have:=s.b.lt;omega
 refine⟨⟨J.setCell (p:=(.a V.tb (t*3))) S.1 _,U,fun k A=>?_,fun k A=>?_⟩,?_,?_,fun k A=>?_,L,s.ew⟩
 ·show(if k=g then _ else _)=_;rw[yg]
  ·exact s.g.lo k A
  ·rintro rfl;rcases E with h | h
   ·rw[s.g.lo _ A]at h;cases h
   ·have:=s.g.on.size;omega
 ·simp[World.setCell]at A;show(if k=g then _ else _)=_;rw[yg yo];exact s.g.hi k (ya hg.size A)
 ·refine(s.b.grown hg (fun e=>?_)).qi (p:=(.a V.tb (t*3))) (fun e=>?_) _
  ·have:=H eb e.symm;rw[s.eo]at this;cases this
  ·have:=s.eo;rw[show eb=V.tb from e,D]at this;cases this
 ·have ho:∀ b,lab b≠.out->lab0 b≠.out\/b=eb\/w0.heap.size<=b:=fun b hb=>by
   rcases yF b w0.heap.size with h | h
   ·exact .inl (by rw[<- s.l b h];exact hb)
   ·exact .inr (.inr h)
  exact(s.o.grown hg fun k e=>ho k (by rw[H k e];simp)).qe (p:=(.a V.tb (t*3))) (ho V.tb (by rw[D];simp)) _
 ·show(if k=g then _ else _)=_;rcases E with h | h
  ·by_cases e:k=g
   ·rw[yj e,<- h,<- e];exact s.l k A
   ·rw[yg e];exact s.l k A
  ·have:=s.o.size;rw[yg yo];exact s.l k A
end
end
section
section
variable {C:AX} {mb eb:Nat} {lab0 lab lab':Lab} {w0 w w1 w':World} {M:Mc} {V:MV} {e:Evn} {t n fg fc k:Nat} {f:Fr} {h h':Th} {v v':TV} {lv:Value} {i:In}
theorem St.nameF {F:Fr}{lv:Value}(s:St C mb eb lab0 w0 lab M V e w)(hb:Below w.heap.size w w')(hr:w'.ownsRow w.heap.size 93 1 lv F.qc.length (F.qc.map vlV))(a b:Nat) :
  ∃ lab',St C mb eb lab0 w0 lab' M V e w'/\FrIs w' lab' a b F lv/\(∀ q,q<w.heap.size->lab' q=lab q)/\∀ q,lv.ownBlock≠some q->lab' q=lab q:=by
 refine⟨fun q=>if lv.ownBlock=some q then .locs a b else lab q,s.names hb (fun q hq=>?_) (fun q hq=>?_),⟨zm hr yZ,fun q e=>yj e⟩,fun q hq=>?_,fun q hq=>yg hq⟩
 ·rw[yg];intro e;have:=(hr.lt q e).1;omega
 ·show(if _ then _ else _)=_;rw[yg]
  ·exact s.g.hi q (ya hb.size hq)
  ·intro e;have:=(hr.lt q e).2;omega
 ·show(if _ then _ else _)=_;rw[yg];intro e;have:=(hr.lt q e).1;omega
theorem zjl {w w':World}{a:Addr}(h:w'.heap[a.block]? = w.heap[a.block]?):w'.cell? a=w.cell? a:=by unfold World.cell?;rw[h]
theorem FrIs.alloc {i:Nat}{f:Fr}{u:Value}(g:FrIs w lab t i f u)(o:Obj):FrIs (w.alloc o) lab t i f u:=⟨World.ownsRow.alloc g.r o,g.l⟩
end
section
variable {C:AX} {mb eb:Nat} {lab:Lab} {w:World} {M:Mc} {V:MV} {e:Evn} {t n fg fc k:Nat} {f:Fr} {h:Th} {v:TV} {lv:Value} {i:In}
theorem zqn (W:WfD C.P M h f i)(ho:i.op=7\/i.op=11)(b:Int):∃ F,zdr C.P f i b=some F:=by
 obtain⟨_,g,A,_⟩:=W.io.c ho;exact⟨_,zk8 A⟩
theorem call_do (HC:AXok C)(E:zu C.P)(s:St C mb eb lab w lab M V e w)(p:TopP M V t h f n v fg fc lv)(hi:C.P.code[k]?=some i)(W:WfD C.P M h f i)(ho:i.op=11) :
  Calls prog 258 #[.p mb,.i t,.q fg (n*3),.q C.cg (k*14),.p eb] w
   (zdk C mb eb lab w M V (doM C.P M t h f i e)):=by
 obtain⟨R,hR⟩:∃ R,doM C.P M t h f i e=R:=⟨_,rfl⟩;rw[hR];obtain⟨F,hF⟩:=zqn W (.inr ho) i.x;have HM:=zH (show R=if h.qb.length=6 then none else some (setTh M t { h with qb:=h.qb++[F] },e) by
  rw[<- hR];unfold doM;rw[yg yo,yg yo,yg yo,yg yo,yg yo,yg yo,yg yo,yg yo,yj ho,hF])
 have HE:=zH (fun(q:World) (sq:St C mb eb lab w lab M V e q)=>zqm HC E sq p hi W (.inr ho) i.x F hF);have Y:=zH W.l;have T:=p.top s.g;have m1:w.cell? (.a mb 1)=some (.s V.tb M.qd.length V.vd):=s.g.cells 1;have t0:=T.t0;have tl:=T.lt;have S:=zH s;have HI:=zH hi;have J:=zH p;clear hR W ho hF s hi p T E;by_cases h6:h.qb.length=6
 ·have o6:((h.qb.length:Int)==6)=true:=by rw[h6];rfl
  have HR:=zH (HM.o.trans (yj h6));clear h6;go_enter func258,ntmps258;go_wp2;go_ret;rw[HR.o];exact⟨rfl,e,S.o⟩
 ·have o6:((h.qb.length:Int)==6)=false:=zI yo;have HR:=zH (HM.o.trans (yg h6));have a6:=zH (show h.qb.length<6 by have:=Y.o;omega);clear h6;go_enter func258,ntmps258;go_wp2_with fail;refine rgl 25 (fun(W':World)=>W'.cell? (.a mb 1)=some (.s V.tb M.qd.length V.vd)/\W'.cell? (.a V.tb (t*3))=some (.s fg h.qb.length fc)/\W'.cell? (.n C.cg k 3)=some (.i i.x)) ?_;have S1:=zH S.o.drew;clear m1 t0;generalize w.drew=w1 at S1 |-;have HS:=zH (show ∀ (lb:Lab) (q:World),St C mb eb lab w lb M V e q->q.cell? (.a mb 1)=some (.s V.tb M.qd.length V.vd)/\q.cell? (.a V.tb (t*3))=some (.s fg h.qb.length fc)/\q.cell? (.n C.cg k 3)=some (.i i.x)from fun lb q sq=>⟨sq.g.cells 1,(J.o.top sq.g).t0,ic3 HC sq HI.o⟩);have A:=HS.o _ _ S1.o
  iterate 20(refine tK 0 rfl A ?_)
  refine rdy 20 rfl fun K E=>?_;go_simp;refine(HE.o w1 S1.o).mono ?_;rintro x w2 ⟨a9,rfl,D,a1⟩;obtain⟨L,a3,a2,_,_⟩:=S1.o.nameF a1 D t h.qb.length;obtain⟨la,lc,rfl⟩:=zZ D;have S2:=zH a3;have U:=zH a2;clear D a1 a3 a2 A HE;refine E.o _ _ (HS.o _ _ S2.o) (fun A=>?_);clear E K;refine rdy 21 rfl fun K E=>?_;go_simp;have G:=zH (S2.o.alloc (.k #[.i F.at_,.slice la F.qc.length lc,.i F.back] 250));have N:=zH (U.o.alloc (.k #[.i F.at_,.slice la F.qc.length lc,.i F.back] 250));have I:Blk (w2.alloc (.k #[.i F.at_,.slice la F.qc.length lc,.i F.back] 250)) w2.heap.size 250 #[.i F.at_,.slice la F.qc.length lc,.i F.back]:=Blk.newAt rfl;clear S2 U A;generalize w2.alloc (.k #[.i F.at_,.slice la F.qc.length lc,.i F.back] 250)=w3 at G N I |-;refine E.o _ _ (HS.o _ _ G.o) (fun A=>?_);clear E K;generalize w2.heap.size=nb at I |-;have Q:=zH I;clear I;refine rdy 22 rfl fun K E=>?_;refine zan zt5 rfl _ _ rfl 0 _ h.qb.length (zds h.qb v.ls) nb _ _ (by have:=(J.o.top G.o.g).T.r;rw[J.o.hu]at this;exact this) Q.o rfl rfl rfl yE (yq a6.o) yZ ?_;intro g cap O D hg a0;have Z:=zH (G.o.pushF (F:=F) (lv:=.slice la F.qc.length lc) J.o.ht J.o.hv N.o D (by rw[J.o.hu];exact hg) (by rw[J.o.hu];exact a0));have H:(O.cell? (.a mb 1)=some (.s V.tb M.qd.length V.vd)/\O.cell? (.a V.tb (t*3))=some (.s fg h.qb.length fc)/\O.cell? (.n C.cg k 3)=some (.i i.x))/\(∀ j,O.frozen? (.a V.tb j)=false):=by
   have T3:=J.o.top G.o.g;have key:∀ q,q<w3.heap.size->L q≠.frs t->O.heap[q]? = w3.heap[q]? := fun q hq hl=>hg.block q hq (fun e=>by
    injection e with e;exact hl (by rw[e];exact T3.l))
   have c1:=HS.o _ _ G.o;have k1:=key mb (zaq c1.1) (by rw[G.o.g.mi.ml];simp);have k2:=key V.tb (zaq c1.2.1) (by rw[G.o.g.mi.rl];simp);have a7:L C.cg=.out:=G.o.g.lo C.cg (HC.prog.cr.lt C.cg (by rw[HC.cv];rfl)).2;have k3:=key C.cg (zaq c1.2.2) (by rw[a7];simp);refine⟨⟨by rw[zjl k1];exact c1.1,by rw[zjl k2];exact c1.2.1,by rw[zjl k3];exact c1.2.2⟩,fun j=>?_⟩;have:=zhs G.o.g.mi.r j;unfold World.frozen? at this |-;rw[show O.heap[(⟨V.tb,j,none⟩:Addr).block]? = w3.heap[(⟨V.tb,j,none⟩:Addr).block]? from k2];exact this
  have hz:=H.2;have a8:=H.1.2.1;clear D hg a0 G N Q;refine E.o _ _ H.1 (fun A=>?_);clear E K H
  iterate 2(refine tK 23 rfl A ?_)
  refine lst rfl fun K E=>?_;go_simp;refine E _ _ ?_;clear E K A hz a8;obtain⟨a5,a4⟩:=Z.o;have S5:=zH a4;clear a4 Z;go_wp2;go_ret;rw[HR.o];exact⟨rfl,a5,_,S5.o⟩
end
end
section
theorem ztf {w:World}{e size n c:Nat}(h:w.ownsRow B e size (.s g n c) n xs){m:Nat}(hm:m<=n):w.ownsRow B e size (.s g m c) m (xs.take (m*size)):=by
 have A:m*size<=n*size:=yac _ hm;refine⟨by rw[yah,h.1,Nat.min_eq_left A],?_⟩;rcases h.2 with⟨h',_⟩ | ⟨L,J,E,h',hb,K,I,G,H,D⟩
 ·cases h'
 ·injection h' with h' _ h2;injection h' with h';injection h' with h';subst h' h2;exact .inr ⟨g,c,E,rfl,hb,K,ya hm I,G,H,by rw[<- D,List.take_take,Nat.min_eq_left A]⟩
theorem zs7 {w:World}{e size n c:Nat}(h:w.ownsRow B e size (.s g n c) n xs):n<=c:=by
 rcases h.2 with⟨h',_⟩ | ⟨G,A,D,h',hb,H,E,_⟩
 ·cases h'
 ·injection h' with _ _ h2;omega
theorem zqw {α β : Type}{fn:α -> β -> List Value}{n:Nat}(hf:∀ a b,(fn a b).length=n):∀ (m:Nat) {l:List α} {vs:List β},vs.length=l.length->((List.zipWith fn l vs).flatten).take (m*n)=(List.zipWith fn (l.take m) (vs.take m)).flatten
 | 0,l,vs,_=>by simp
 | m+1,[],[],_=>by simp
 | m+1,a::l,b::vs,h=>by
  show(fn a b++(List.zipWith fn l vs).flatten).take ((m+1)*n)=fn a b++(List.zipWith fn (l.take m) (vs.take m)).flatten;rw[ycx,Nat.one_mul,Nat.add_comm,List.take_append,hf,Nat.add_sub_cancel_left,ycb (by rw[hf];omega),zqw hf m (by simpa using h)]
 | _+1,[],_::_,h=>by simp at h
 | _+1,_::_,[],h=>by simp at h
section
variable {C:AX} {mb eb:Nat} {lab0 lab:Lab} {w0 w:World} {M:Mc} {V:MV} {e:Evn} {t n fg fc k:Nat} {f:Fr} {h:Th} {v:TV} {lv:Value} {i:In}
theorem St.popF (s:St C mb eb lab0 w0 lab M V e w)(p:TopP M V t h f n v fg fc lv) :
  St C mb eb lab0 w0 lab (setTh M t { h with qb:=h.qb.take n }) { V with tl:=V.tl.set t { v with fv:=.s fg n fc,ls:=v.ls.take n } } e (w.setCell (.a V.tb (t*3)) (.s fg n fc)):=by
 have T:=s.g.mi.t t h v p.ht p.hv;have hn:=p.hn;have hl:=T.n;have A:=T.r;rw[p.hu]at A;refine s.thrS (j:=0) p.ht p.hv yo rfl ⟨by simp;omega,?_,fun q e=>T.l q (by rw[p.hu];exact e),fun j f' u a b=>?_,T.c,T.cl⟩
 ·have:=ztf A (m:=n) yo;unfold zds at this |-;rw[zqw (n:=3) (fun _ _=>rfl) n hl]at this;rw[show(h.qb.take n).length=n by simp;omega];exact this
 ·have D:j<n:=by have:=(yh.1 a).1;simp at this;omega
  rw[ybs,yj D]at a b;exact T.f j f' u a b
theorem TopP.pop {g:Fr}{m:Nat}{V':MV}{h':Th}(p:TopP M V t h f (m+1) v fg fc lv)(hg:h.qb[m]?=some g)(hM:M'.qd[t]?=some h')(hh:h'.qb=h.qb.take (m+1))(hV:V'.tl[t]?=some { v with fv:=.s fg (m+1) fc,ls:=v.ls.take (m+1) })(hlen:v.ls.length=h.qb.length) :
  ∃ A,TopP M' V' t h' g m { v with fv:=.s fg (m+1) fc,ls:=v.ls.take (m+1) } fg fc A:=by
 have hn:=p.hn;obtain⟨A,hlv⟩:∃ u,v.ls[m]?=some u:=⟨_,yc yo⟩;have D:h'.qb.length=m+1:=by rw[hh];simp;omega
 exact⟨A,hM,hV,D,by rw[hh,ybs,yj yo];exact hg,by rw[D],by show(v.ls.take (m+1))[m]? = _;rw[ybs,yj yo];exact hlv⟩
def zjh (M:Mc)(t:Nat)(h:Th)(f:Fr)(e:Evn)(y:Vl)(n:Nat):Mc×Evn:=match n with
 | 0=>(setTh M t { h with qb:=[],ended:=true },{ e with val:=y,ended:=true })
 | m+1=>(setTh M t { h with qb:=if 0<=f.back then(h.qb.take (m+1)).set m (xc (h.qb.getD m f) f.back y)else h.qb.take (m+1) },{ e with val:=y })
theorem back_eq (p:TopP M V t h f n v fg fc lv)(ho:i.op=12):doM C.P M t h f i e=some (zjh M t h f e (valM f i.y) n):=by
 unfold doM;rw[yg yo,yg yo,yg yo,yg yo,yg yo,yg yo,yg yo,yg yo,yg yo];have hn:=p.hn;rw[List.dropLast_eq_take,hn,ya4];cases n with
 | zero=>rfl
 | succ m =>
  obtain⟨g,A⟩:∃ g,h.qb[m]?=some g:=⟨_,yc yo⟩;have h1:(h.qb.take (m+1)).getLast? = some g:=by
   rw[yar,ybs];simp only[yah];rw[show min (m+1) h.qb.length-1=m by omega,yj yo,A]
  simp only[h1];unfold zjh;simp only[yah,show min (m+1) h.qb.length-1=m by omega];rw[show h.qb.getD m f=g by simp[List.getD,A]]
theorem back_do (HC:AXok C)(s:St C mb eb lab w lab M V e w)(p:TopP M V t h f n v fg fc lv)(hi:C.P.code[k]?=some i)(W:WfD C.P M h f i)(ho:i.op=12) :
  Calls prog 259 #[.p mb,.i t,.q fg (n*3),.q C.cg (k*14),.p eb] w
   (zdk C mb eb lab w M V (doM C.P M t h f i e)):=by
 obtain⟨R,hR⟩:∃ R,doM C.P M t h f i e=R:=⟨_,rfl⟩;rw[hR];have HM:=zH (show R=some (zjh M t h f e (valM f i.y) n) by rw[<- hR];exact back_eq p ho);have T:=p.top s.g;have HV:=zH (zhz w fg (n*3) i.y f lv T.f1 T.F.r (W.io.y yo));have a9:=zH W.b;have a8:=zH (s.g.mi.t t h v p.ht p.hv).n;have i4:=ic4 HC s hi;have i5:=ic5 HC s hi;have S:=zH s;have HI:=zH hi;have D:=zH p;clear hR T W ho s hi p;go_enter func259,ntmps259;go_wp2_with fail;refine HV.o.mono ?_;rintro x w1 ⟨rfl,Y⟩;have Q:=zH (S.o.below Y);obtain⟨y,a4⟩:∃ y,valM f i.y=y:=⟨_,rfl⟩;rw[a4]at HM |-;obtain⟨ty,z,hy⟩:=za3 y;have H:=zH (Q.o.ev 5 (vlV y) (e':={ e with val:=y }) rfl);obtain⟨ae,z0,a2⟩:=za3 e.val;have e5:w1.cell? (.a eb 5)=some (.iface ae (.i z0)):=(Q.o.b.cell 5).trans (by rw[<- a2];rfl);have ez:=Q.o.fz;have el:=Q.o.b.lt;have HY:=zH hy;rw[hy]at H |-;clear Y i4 i5 hy a2 a4 S;go_upto_region 2 with fail
 clear e5 ez el;generalize w1.setCell (.a eb 5) (.iface ty (.i z))=w2 at H |-;have T:=D.o.top H.o.g;have m1:w2.cell? (.a mb 1)=some (.s V.tb M.qd.length V.vd):=H.o.g.cells 1;have t0:=T.t0;have tl:=T.lt;have f2:=T.f2;have fl:=T.fl;have hn:(h.qb.length:Int)-1=(n:Int):=yq D.o.hn;have Z:wrap64 (n:Int)=(n:Int):=zki T.T.r (yq D.o.hn);have tz:=zhs H.o.g.mi.r;have K:V.tb<w2.heap.size:=zaq t0;have a5:=H.o.mbl;have ac:n<=fc:=by
  have hr:=T.T.r;rw[D.o.hu]at hr;have:=zs7 hr;have:=D.o.hn;omega
 have A:=zH ((H.o.popF D.o).drew);clear T;go_wp2_with fail;go_region;clear m1 t0 f2 fl tz K a5 ac;change Exit.then _ _ _ _ ((w2.setCell (.a V.tb (t*3)) (.s fg n fc)).drew)
 generalize (w2.setCell (.a V.tb (t*3)) (.s fg n fc)).drew=w3 at A |-;rw[Z];clear hn Z H Q;by_cases h0:n=0
 ·subst h0;have O:=zH (show R=some (setTh M t { h with qb:=[],ended:=true },{ e with val:=y,ended:=true })from HM.o);have E:(setTh M t { h with qb:=h.qb.take 0 }).qd[t]?=some { h with qb:=h.qb.take 0 }:=setAt D.o.ht;have G:(V.tl.set t { v with fv:=.s fg 0 fc,ls:=v.ls.take 0 })[t]?=some { v with fv:=.s fg 0 fc,ls:=v.ls.take 0 }:=setAt D.o.hv;have I:=A.o.g.mi.t t _ _ E G;have S4:=zH ((A.o.thrS (j:=1) (x:=.bool true) (h':={ h with qb:=h.qb.take 0,ended:=true }) (v':={ v with fv:=.s fg 0 fc,ls:=v.ls.take 0 }) E G yo rfl ⟨I.n,I.r,I.l,I.f,I.c,I.cl⟩));have S5:=zH (S4.o.ev 6 (.bool true) (e':={ e with val:=y,ended:=true }) rfl);have m1:w3.cell? (.a mb 1)=some (.s V.tb M.qd.length V.vd):=(A.o.g.cells 1).trans (by simp[zbv,setTh]);have t1:w3.cell? (.a V.tb (t*3+1))=some (.bool h.ended):=zfi A.o.g.mi E G 1 yo;have tz:=zhs A.o.g.mi.r;have K:V.tb<w3.heap.size:=zaq t1;have ad:V.tb≠eb:=fun e=>by have:=A.o.g.mi.rl;rw[show({ V with tl:=V.tl.set t { v with fv:=.s fg 0 fc,ls:=v.ls.take 0 } }:MV).tb=eb from e,A.o.eo]at this;cases this
  have af:=ad.symm;have e6:w3.cell? (.a eb 6)=some (.bool e.ended):=A.o.b.cell 6;have ez:=A.o.fz;have el:=A.o.b.lt;clear E G I;go_wp2;go_ret;rw[O.o];exact⟨rfl,lab,_,S5.o.cast (by rw[zgy];rfl)⟩
 ·obtain⟨m,rfl⟩:∃ m,n=m+1:=⟨n-1,by omega⟩;have ag:(((m+1:Nat):Int)==0)=false:=zI yo;clear h0;by_cases hb:0<=f.back
  ·have U:decide (f.back ≥ 0)=true:=decide_eq_true hb;obtain⟨b,J⟩:∃ b:Nat,f.back=(b:Int):=⟨f.back.toNat,by omega⟩;obtain⟨g,hg⟩:∃ g,h.qb[m]?=some g:=⟨_,yc (yq D.o.hn)⟩;have ab:b<g.qc.length:=yq (a9.o m f g D.o.hf hg);have O:=zH (show R=some (setTh M t { h with qb:=(h.qb.take (m+1)).set m (xc g b y) },{ e with val:=y }) by
    rw[HM.o];unfold zjh;simp only[J];rw[show h.qb.getD m f=g by simp[List.getD,hg],yj yo])
   have aa:=(A.o.g.mi.t t _ _ (setAt D.o.ht) (setAt D.o.hv));have a0:v.ls.length=h.qb.length:=a8.o;obtain⟨aj,N⟩:=D.o.pop (M':=setTh M t { h with qb:=h.qb.take (m+1) }) (V':={ V with tl:=V.tl.set t { v with fv:=.s fg (m+1) fc,ls:=v.ls.take (m+1) } }) (h':={ h with qb:=h.qb.take (m+1) }) hg (setAt D.o.ht) rfl (setAt D.o.hv) a0;have T:=N.top A.o.g;obtain⟨lg,lc,L⟩:=T.locP yo;obtain⟨x0,a1⟩:∃ x0,g.qc[b]?=some x0:=⟨_,yc ab⟩;have f1:=T.f1;have hc:=L.c b x0 a1;have hz:=L.z;have ah:=L.l;have hu:=L.u;have fl:=T.fl;obtain⟨ak,z1,a3⟩:=za3 x0;rw[a3]at hc;have a7:=zH (show({ h with qb:=h.qb.take (m+1) }:Th).qb.length=m+1 from N.hn);have t0:w3.cell? (.a V.tb (t*3))=some (.s fg (m+1) fc):=by have:=T.t0;rw[N.hn]at this;exact this
   have m1:w3.cell? (.a mb 1)=some (.s V.tb M.qd.length V.vd):=(A.o.g.cells 1).trans (by simp[zbv,setTh]);have K:V.tb<w3.heap.size:=zaq t0;have a5:=A.o.mbl;have e5:w3.cell? (.a eb 5)=some (.iface ty (.i z)):=(A.o.b.cell 5).trans (by rw[<- HY.o];rfl);have el:=A.o.b.lt;have ai:wrap64 (m:Int)=(m:Int):=zki T.T.r (by rw[N.hn];omega);have S4:=zH ((A.o.locS (x:=b) (y:=y) N hu).drew);have a6:=zH (show setTh M t { h with qb:=(h.qb.take (m+1)).set m (xc g b y) }=zQ (setTh M t { h with qb:=h.qb.take (m+1) }) t { h with qb:=h.qb.take (m+1) } { g with qc:=g.qc.set b y } by
    unfold zQ;rw[zgy];unfold zh;rw[a7.o];simp[xc])
   rw[hu]at f1;rw[HY.o]at S4;rw[J]at U |-;clear T L a1 a3 hu aa hg N a0 hb J;go_wp2_with fail;go_region;go_wp2;go_ret;rw[O.o];exact⟨rfl,lab,_,S4.o.cast a6.o⟩
  ·have U:decide (f.back ≥ 0)=false:=decide_eq_false hb;have O:=zH (show R=some (setTh M t { h with qb:=h.qb.take (m+1) },{ e with val:=y }) by rw[HM.o];unfold zjh;simp only[yg hb]);clear hb;go_wp2;go_ret;rw[O.o];exact⟨rfl,lab,_,A.o⟩
end
end
end Go.Proofs.YtkmcihhndgdhpaaGreat
