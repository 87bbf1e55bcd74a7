/- Parts of the walk. -/
import Derived.Test.YtkmcihhndgdhpaaGreatWB4
set_option maxRecDepth 100000
set_option maxHeartbeats 4000000
set_option linter.unusedSimpArgs false
set_option linter.unusedVariables false
open Go.ChangeMaps Go.Maps Go.RowKit Go.Shelf Go.Proofs.Tryz
namespace Go.Proofs.YtkmcihhndgdhpaaGreat
variable {W:World}{k:Nat}
theorem mZa {p:Prop}(h:p:=by
  go_wp2_with fail;have k6:=((h6.qe 0 (.i 0)).qi (p:=(.a c7 0)) n67 (.i 0)).qi (p:=(.a c8 0)) n68 (.bool false);have k7:=((h7.qi (p:=(.a c6 0)) n76 (.i 0)).qe 0 (.i 0)).qi (p:=(.a c8 0)) n78 (.bool false);have k8:=((h8.qi (p:=(.a c6 0)) n86 (.i 0)).qi (p:=(.a c7 0)) n87 (.i 0)).qe 0 (.bool false);have FB:=zH (STO.o w6 0 0 false HB6.o h6 h7 h8);refine⟨comV none,?_,?_⟩
  ·have q6:=k6.cell 0;have q7:=k7.cell 0;have q8:=k8.cell 0;generalize (((w6.setCell (.a c6 0) (.i 0)).setCell (.a c7 0) (.i 0)).setCell (.a c8 0) (.bool false))=wz at q6 q7 q8 |-;have r6:wz.cell? (.a c6 0)=some (.i 0):=q6;have r7:wz.cell? (.a c7 0)=some (.i 0):=q7;have r8:wz.cell? (.a c8 0)=some (.bool false):=q8;simp[results,results234,go_sem,r6,r7,r8,comV]
  ·rw[<- HMM.o,hM];exact⟨rfl,FB.o⟩):p:=h
theorem mHb {p:Prop}(h:p:=by
  clear h2 h23;go_wp2_with fail;have hHeld:=HBK.o.drew.cell;refine rgl 4 (fun(W':World)=>∀ j,W'.cell? (.a w.heap.size j)=(.j i (.slice aa i.args.length ac):Array Value)[j]?) ?_
  iterate 4(refine tK 0 rfl hHeld ?_)
  refine lst rfl fun K hK=>?_;go_simp;refine hK _ _ ?_;clear hK K hHeld;go_wp2;exact ym (v:=.tuple #[.i (-1),.i i.var,zA 0]) (by simp[results,results286,go_sem]) rfl (FIN.o _ HBD.o)):p:=h
section
structure JV where
 C:AX
 VF:FV
 VP:PtV
 V:LkV
 wp:World
 st:PS
 x:Nat
 Rs:List Nat
 Bs:List Nat
 f:LF
 jb:Nat
 B:Nat
 sa:Option Addr
 sc:Nat
 rg:Nat
 rc:Nat
 ba:Option Addr
 bc:Nat
 r0:Nat
 ga:Option Addr
 gc:Nat
structure WfRp (P:Pr):Prop where
 io:∀ (k:Nat) (i:In),P.code[k]?=some i->InOk i
 put:∀ (k:Nat) (i:In),P.code[k]?=some i->i.op=5->0<=i.x
 gs:∀ (s k:Nat),P.qg[s]?=some k->k<P.code.length
structure zi5 (J:JV)(W:World):Prop where
 c:AXok J.C
 w:WfRp J.C.P
 l:LkSee J.C J.VF J.sa J.sc J.rg J.rc J.ba J.bc J.r0 J.Bs W
 j:Blk W J.jb 304 #[.p J.C.pb,.p J.VF.fb,.p J.VP.sb,.p J.V.xb]
 p:PtAt J.wp.heap.size J.VF.fb J.wp J.VP J.st J.x W
 xo:W.cell? (.a J.VP.sb 4)=some (zA J.x)
 x48:J.x<2 ^ 48
 k:LkM W J.B J.VF.fb J.VP.sb J.C.P J.V J.f
 rl:J.Rs.length=J.C.P.qg.length+1
 rcl:J.C.P.qg.length+1<=J.rc
 bl:J.Bs.length=J.C.P.qg.length
 rts:∀ (i rb:Nat),J.Rs[i]?=some rb->W.cell? (.a J.rg i)=some (.m rb)/\MkE W rb (rsB J.C.P i)
 gv:J.C.X.gv=.slice J.ga J.C.P.qg.length J.gc
 qg:∀ (s k:Nat),J.C.P.qg[s]?=some k->∃ gb,J.ga=some (.a gb 0)/\W.cell? (.a gb s)=some (.i k)
def JgOn (J:JV)(wj:World):Prop:=∀ W,Below wj.heap.size wj W->zi5 J W
section
variable {J:JV} {wj w w':World}
theorem JgOn.from (h:JgOn J wj)(hb:Below wj.heap.size wj w):JgOn J w:=fun W A=>h W (hb.trans (A.mono hb.size))
end
def zbq (op:Nat):Bool:=op==3||op==5
theorem zut (op:Nat)(w:World)(h:op<1000000) :
  Calls prog 233 #[.i op] w fun e w'=>e=.r (.bool (zbq op))/\w=w':=by
 by_cases h3:op=3
 ·have E:((op:Int)==3)=true:=by rw[h3];rfl
  have D:zbq op=true:=by simp[zbq,h3]
  have A:=zH D;clear D h3;go_enter func233,ntmps233;go_wp2;go_ret;rw[A.o];simp
 ·have E:((op:Int)==3)=false:=zI yo;have D:zbq op=((op:Int)==5):=by
   by_cases h5:op=5
   ·simp[zbq,h5]
   ·rw[zI yo];simp[zbq,h3,h5]
  have A:=zH D;clear D h3;cases o5:((op:Int)==5)
  ·rw[o5]at A;go_enter func233,ntmps233;go_wp2;go_ret;rw[A.o];simp
  ·rw[o5]at A;go_enter func233,ntmps233;go_wp2;go_ret;rw[A.o];simp
def zbp (P:Pr)(st:PS)(x:Nat)(i:In):Int×Nat×Nat :=
 if i.op=2\/i.op=3 then(-1,i.var,0)
 else if i.op=4 then(0,i.var,argO st i.fn i.y&&&x)
 else(0,i.var,argO st i.fn ⟨false,i.x.toNat⟩&&&x)
def zjd (r:Int×Nat×Nat)(w:World)(e:Ending)(w':World):Prop:=e=.r (.tuple #[.i r.1,.i r.2.1,zA r.2.2])/\Below w.heap.size w w'
theorem zui (J:JV)(wj w:World)(k:Nat)(i:In)(H:JgOn J wj)(hb:Below wj.heap.size wj w)(hi:J.C.P.code[k]?=some i)(hop:2<=i.op/\i.op<=5) :
  Calls prog 286 #[.p J.jb,.i k] w (zjd (zbp J.C.P J.st J.x i) w):=by
 obtain⟨C,VF,VP,V,wp,st,x,Rs,Bs,f,jb,B,sa,sc,rg,rc,ba,bc,r0,ga,gc⟩:=J
 dsimp only at hi |-
 have H0:=zH (fun(W:World) (U:Below w.heap.size w W)=>H W (hb.trans (U.mono hb.size)));have Z:=zH (H w hb);clear H hb;have HC:=Z.o.c;obtain⟨aa,ac,A,a3,ag⟩:=HC.ql Z.o.l.ve hi;have i0:w.cell? (.a C.cg (k*14))=some (.i i.op):=A 0 yo;have i1:w.cell? (.n C.cg k 1)=some (.i i.place):=A 1 yo;have i2:w.cell? (.n C.cg k 2)=some (.i i.fn):=A 2 yo;have i3:w.cell? (.n C.cg k 3)=some (.i i.x):=A 3 yo;have i4:w.cell? (.n C.cg k 4)=some (.bool i.y.c):=A 4 yo;have i5:w.cell? (.n C.cg k 5)=some (.i i.y.n):=A 5 yo;have i6:w.cell? (.n C.cg k 6)=some (.bool i.z.c):=A 6 yo;have i7:w.cell? (.n C.cg k 7)=some (.i i.z.n):=A 7 yo;have i8:w.cell? (.n C.cg k 8)=some (.i i.bin):=A 8 yo;have i9:w.cell? (.n C.cg k 9)=some (.i i.var):=A 9 yo;have a7:w.cell? (.n C.cg k 10)=some (.i i.site):=A 10 yo;have a8:w.cell? (.n C.cg k 11)=some (.i i.call):=A 11 yo;have a9:w.cell? (.n C.cg k 12)=some (.slice aa i.args.length ac):=A 12 yo;have ab:w.cell? (.n C.cg k 13)=some (.i i.to):=A 13 yo;have HI:=zH hi;have Q:=Z.o.w.io k i hi;have a5:=Z.o.l.p;have a4:=Z.o.j.cell;have af:=Z.o.j.lt;have ad:=HC.wf.cl;have Y:Below w.heap.size w (w.alloc (.k (.j i (.slice aa i.args.length ac)) 309)):=yB.alloc yL _;have N:Blk (w.alloc (.k (.j i (.slice aa i.args.length ac)) 309)) w.heap.size 309 (.j i (.slice aa i.args.length ac)):=Blk.newAt rfl;clear A hi a3;go_enter func286,ntmps286;go_upto_block 0 with fail
 have a1:=N.cell;have a2:=N.lt;have HBK:=zH N;have HBD:=zH Y.drew;have D:=zH (H0.o _ Y.drew);generalize w.alloc (.k (.j i (.slice aa i.args.length ac)) 309)=wi at Y N a1 a2 HBK HBD D |-;clear N i0 i1 i2 i3 i4 i5 i6 i7 i8 i9 a7 a8 a9 ab a5 a4;by_cases h23:i.op=2\/i.op=3
 ·have HM:=zH (show zbp C.P st x i=(-1,i.var,0) by unfold zbp;rw[yj h23]);have FIN:=zH (show ∀ W,Below w.heap.size w W->zjd (zbp C.P st x i) w (.r (.tuple #[.i (-1),.i i.var,zA 0])) W from fun W U=>⟨by rw[HM.o],U⟩);by_cases h2:i.op=2
  ·have o2:((i.op:Int)==2)=true:=by rw[h2];rfl
   exact mHb
  ·have o2:((i.op:Int)==2)=false:=zI yo;have o3:((i.op:Int)==3)=true:=by rw[show i.op=3 by omega];rfl
   exact mHb
 ·have o2:((i.op:Int)==2)=false:=zI yo;have o3:((i.op:Int)==3)=false:=zI yo;have ae:=zl1;have S:=D.o.x48;by_cases h4:i.op=4
  ·have o4:((i.op:Int)==4)=true:=by rw[h4];rfl
   have HM:=zH (show zbp C.P st x i=(0,i.var,argO st i.fn i.y&&&x) by unfold zbp;rw[yg h23,yj h4]);have FIN:=zH (show ∀ W,Below w.heap.size w W->zjd (zbp C.P st x i) w (.r (.tuple #[.i 0,.i i.var,zA (argO st i.fn i.y&&&x)])) W from fun W U=>⟨by rw[HM.o],U⟩);have O:argO st i.fn i.y<2 ^ 48:=by
    obtain⟨_,_,_,_,_,hm⟩:=D.o.p;exact zjg (fun n=>(hm.sm n).1) _ _
   have a0:=ziy (argO st i.fn i.y) x O S;clear h4 h23;go_wp2_with fail;have hHeld:=And.intro HBK.o.drew.cell (And.intro D.o.j.cell D.o.xo);refine rgl 22 (fun(W':World)=>(∀ j,W'.cell? (.a w.heap.size j)=(.j i (.slice aa i.args.length ac):Array Value)[j]?)/\(∀ j,W'.cell? (.a jb j)=#[.p C.pb,.p VF.fb,.p VP.sb,.p V.xb][j]?)/\W'.cell? (.a VP.sb 4)=some (zA x)) ?_
   iterate 10(refine tK 0 rfl hHeld ?_)
   iterate 7(refine tK 12 rfl hHeld ?_)
   refine rdy 10 rfl fun K hK=>?_;go_simp;refine(zlt wp.heap.size VF.fb wp VP st x i.fn i.y _ D.o.p Q.fn Q.y).mono ?_;rintro e w5 ⟨rfl,E⟩;have I:=zH (HBK.o.drew.below E HBK.o.drew.lt);have G:=zH (HBD.o.trans (E.mono HBD.o.size));have L:=zH (H0.o _ G.o);refine hK.o _ _ (And.intro I.o.cell (And.intro L.o.j.cell L.o.xo)) (fun hHeld=>?_);clear hK K E;refine tK 11 rfl hHeld ?_
   iterate 3(refine tK 19 rfl hHeld ?_)
   refine lst rfl fun K hK=>?_;go_simp;refine hK _ _ ?_;clear hK K hHeld;go_wp2;exact ym (v:=.tuple #[.i 0,.i i.var,zA (argO st i.fn i.y&&&x)]) (by simp[results,results286,go_sem]) rfl (FIN.o _ G.o)
  ·have o4:((i.op:Int)==4)=false:=zI yo;have a6:0<=i.x:=D.o.w.put k i HI.o yo;have HM:=zH (show zbp C.P st x i=(0,i.var,argO st i.fn ⟨false,i.x.toNat⟩&&&x) by unfold zbp;rw[yg h23,yg h4]);have FIN:=zH (show ∀ W,Below w.heap.size w W->zjd (zbp C.P st x i) w (.r (.tuple #[.i 0,.i i.var,zA (argO st i.fn ⟨false,i.x.toNat⟩&&&x)])) W from fun W U=>⟨by rw[HM.o],U⟩);have O:argO st i.fn ⟨false,i.x.toNat⟩<2 ^ 48:=by
    obtain⟨_,_,_,_,_,hm⟩:=D.o.p;exact zjg (fun n=>(hm.sm n).1) _ _
   have a0:=ziy (argO st i.fn ⟨false,i.x.toNat⟩) x O S;clear h4 h23;go_wp2_with fail;have hHeld:=And.intro HBK.o.drew.cell (And.intro D.o.j.cell D.o.xo);refine rgl 23 (fun(W':World)=>(∀ j,W'.cell? (.a w.heap.size j)=(.j i (.slice aa i.args.length ac):Array Value)[j]?)/\(∀ j,W'.cell? (.a jb j)=#[.p C.pb,.p VF.fb,.p VP.sb,.p V.xb][j]?)/\W'.cell? (.a VP.sb 4)=some (zA x)) ?_
   iterate 11(refine tK 0 rfl hHeld ?_)
   iterate 7(refine tK 13 rfl hHeld ?_)
   refine rdy 11 rfl fun K hK=>?_;go_simp;have R:=zlt wp.heap.size VF.fb wp VP st x i.fn ⟨false,i.x.toNat⟩ _ D.o.p Q.fn (by have:=Q.x;show i.x.toNat<1000000;omega)
   dsimp only at R
   rw[Int.toNat_of_nonneg a6]at R;refine R.mono ?_;clear R;rintro e w5 ⟨rfl,E⟩;have I:=zH (HBK.o.drew.below E HBK.o.drew.lt);have G:=zH (HBD.o.trans (E.mono HBD.o.size));have L:=zH (H0.o _ G.o);refine hK.o _ _ (And.intro I.o.cell (And.intro L.o.j.cell L.o.xo)) (fun hHeld=>?_);clear hK K E;refine tK 12 rfl hHeld ?_
   iterate 3(refine tK 20 rfl hHeld ?_)
   refine lst rfl fun K hK=>?_;go_simp;refine hK _ _ ?_;clear hK K hHeld;go_wp2;exact ym (v:=.tuple #[.i 0,.i i.var,zA (argO st i.fn ⟨false,i.x.toNat⟩&&&x)]) (by simp[results,results286,go_sem]) rfl (FIN.o _ G.o)
end
def ziu (P:Pr)(RS:Nat->Nat->Bool)(g:Nat):Bool:=((List.range P.qg.length).all fun r=>!RS (r+1) g)&&RS 0 g
def OnR (P:Pr)(w:World)(g:Nat)(gk:Nat)(v34:Value)(W:World):Prop :=
 ∃ k:Nat,v34=.i k/\gk=P.qg.length-k/\k<=P.qg.length/\W=w/\∀ r,r<k->rsB P (r+1) g=false
theorem gos_code {J:JV}(h:zi5 J W){s:Nat}(hs:J.C.P.qg[s]?=some k):∃ i,J.C.P.code[k]?=some i/\k<J.C.P.code.length :=
 ⟨_,yc (h.w.gs s k hs),h.w.gs s k hs⟩
theorem once_any (J:JV)(wj w:World)(s k:Nat)(i:In)(H:JgOn J wj)(hb:Below wj.heap.size wj w)(hs:J.C.P.qg[s]?=some k)(hi:J.C.P.code[k]?=some i) :
  Calls prog 314 #[.p J.VF.fb,.i s] w fun e w'=>e=.r (.bool (ziu J.C.P (rsB J.C.P) i.fn))/\Below w.heap.size w w':=by
 obtain⟨C,VF,VP,V,wp,st,x,Rs,Bs,f,jb,B,sa,sc,rg,rc,ba,bc,r0,ga,gc⟩:=J
 dsimp only at hs hi |-
 have H0:=zH (fun(W:World) (hW:Below w.heap.size w W)=>H W (hb.trans (hW.mono hb.size)));clear H hb;have A:=zH (H0.o w.drew yB.drew);have U:=A.o.c;have ah:=U.wf.cl;have aj:=U.wf.gl;have ai:=U.wf.fn k i hi;have ag:=U.wf.fl;have an:s<C.P.qg.length:=(yh.1 hs).1;have ak:k<C.P.code.length:=(yh.1 hi).1;have R:=A.o.gv
 dsimp only at R
 obtain⟨gb,ae,a0⟩:=A.o.qg s k hs;subst ae;obtain⟨aa,ac,a2,ad,_⟩:=U.ql A.o.l.ve hi;have a1:w.drew.cell? (.n C.cg k 2)=some (.i i.fn):=a2 2 yo;clear a2 ad;have S:=A.o.l.p;rw[R]at S;have D:=And.intro A.o.l.f (And.intro S (And.intro a0 a1));clear a0 a1 R;obtain⟨M,hM⟩:∃ M,M=ziu C.P (rsB C.P) i.fn:=⟨_,rfl⟩;have HM:=zH hM;rw[<- hM];clear hM;go_enter func314,ntmps314;go_wp2_with fail;refine rgl 20 (fun(W':World)=>(∀ i,W'.cell? (.a VF.fb i)=#[.p C.pb,.m VF.jf,.slice sa C.P.qg.length sc,.s rg (C.P.qg.length+1) rc,.slice ba C.P.qg.length bc,.m VF.vz,.m VF.vu][i]?)/\(∀ i,W'.cell? (.a C.pb i)=#[.p C.X.tb,.i C.P.nv,.i C.P.nm,.s C.fg C.P.fs.length C.fcap,.s C.cg C.P.code.length C.ccap,C.X.av,C.X.nv,.s gb C.P.qg.length gc,.i C.P.main][i]?)/\W'.cell? (.a gb s)=some (.i k)/\W'.cell? (.n C.cg k 2)=some (.i i.fn)) ?_
 iterate 20(refine tK 0 rfl D ?_)
 refine lst rfl fun K hK=>?_;go_simp;refine hK _ _ ?_;clear hK K D S;have O:=zH (show Below w.heap.size w w.drew from yB.drew);generalize w.drew=w1 at A O |-;have G:=A.o.l.f;have I:=A.o.l.fl;have ST:=zH (show OnR C.P w1 i.fn C.P.qg.length (.i 0) w1 from⟨0,rfl,rfl,yD _,rfl,fun r hr=>by omega⟩)
 dsimp only at G I
 have a6:=A.o.rcl
 dsimp only at a6
 go_wp2_with fail;clear G I;go_loopg [34] C.P.qg.length (fun gk v34 wr=>OnR C.P w1 i.fn gk v34 wr)
 case atStart=>exact ST.o
 case round =>
  obtain⟨r,rfl,hg,hr,hW,a4⟩:=hrel;subst hW;have HG:=zH hg;have Y:=zH a4;clear a4 hg;by_cases a3:r<C.P.qg.length
  ·obtain⟨rb,a5⟩:∃ rb,Rs[r+1]?=some rb:=⟨_,yc (by have:=A.o.rl;dsimp only at this;omega)⟩;obtain⟨L,a7⟩:=A.o.rts (r+1) rb a5;have a9:=zH a7;have N:wr.cell? (.a rg (1+r))=some (.m rb):=by rw[Nat.add_comm];exact L
   dsimp only at L
   clear a7 a5;go_wp2_with fail;refine(hasE _ rb i.fn (rsB C.P (r+1)) a9.o yo).mono ?_;rintro e w7 ⟨rfl,rfl⟩;cases hb:rsB C.P (r+1) i.fn
   ·have ab:=zH (show OnR C.P wr i.fn (C.P.qg.length-(r+1)) (.i ((r+1:Nat):Int)) wr from⟨r+1,rfl,rfl,a3,rfl,fun r' am=>by
     by_cases e:r'=r
     ·rw[e];exact hb
     ·exact Y.o r' yo⟩)
    clear hb L N;go_wp2;go_roundg (C.P.qg.length-(r+1))
    case measure=>have:=HG.o;omega
    case rel=>rw[show((r:Int)+1)=((r+1:Nat):Int) by omega];exact ab.o
   ·have E:M=false:=by
     rw[HM.o];unfold ziu;rw[Bool.and_eq_false_iff];left;rw[Bool.eq_false_iff];intro Z;have:=yaj.1 Z r (yaf.2 a3);rw[hb]at this;cases this
    have Q:=zH E;clear hb L N E;go_wp2;go_ret;exact⟨by rw[Q.o];rfl,O.o⟩
  ·obtain rfl:r=C.P.qg.length:=yo;have G:=A.o.l.f;have I:=A.o.l.fl;have af:=A.o.l.rc;have a8:=zH A.o.l.r0;have E:M=rsB C.P 0 i.fn:=by
    rw[HM.o];unfold ziu;rw[show((List.range C.P.qg.length).all fun r=>!rsB C.P (r+1) i.fn)=true from yaj.2 fun r hr=>by rw[Y.o r (yaf.1 hr)];rfl];rfl
   have Q:=zH E
   dsimp only at G I af
   clear E;go_wp2_with fail;refine(hasE _ r0 i.fn (rsB C.P 0) a8.o yo).mono ?_;rintro e w7 ⟨rfl,rfl⟩;go_wp2;go_ret;exact⟨by rw[Q.o];rfl,O.o⟩
def zfh (P:Pr)(RS:Nat->Nat->Bool)(f:LF)(k:Nat)(fn:Nat):Nat:=if ziu P RS fn then f 4 k else 2 ^ P.qg.length-1
theorem z0q (J:JV)(wj w:World)(s k:Nat)(i:In)(H:JgOn J wj)(hb:Below wj.heap.size wj w)(hs:J.C.P.qg[s]?=some k)(hi:J.C.P.code[k]?=some i) :
  Calls prog 310 #[.p J.jb,.i s] w fun e w'=>e=.r (zA (zfh J.C.P (rsB J.C.P) J.f k i.fn))/\Below w.heap.size w w':=by
 have HO:=zH (once_any J wj w s k i H hb hs hi);obtain⟨C,VF,VP,V,wp,st,x,Rs,Bs,f,jb,B,sa,sc,rg,rc,ba,bc,r0,ga,gc⟩:=J
 dsimp only at hs hi |-
 have H0:=zH (fun(W:World) (hW:Below w.heap.size w W)=>H W (hb.trans (hW.mono hb.size)));clear H hb;have U:=zH (H0.o w yB);have HC:=U.o.c;have a4:=HC.wf.gl;have a6:s<C.P.qg.length:=(yh.1 hs).1;have a2:k<C.P.code.length:=(yh.1 hi).1;have S:=U.o.gv
 dsimp only at S
 obtain⟨gb,a1,L⟩:=U.o.qg s k hs;subst a1;have N:=U.o.j.cell;have O:=U.o.j.lt
 dsimp only at N O
 go_enter func310,ntmps310;go_wp2_with fail;refine HO.o.mono ?_;rintro e w2 ⟨rfl,I⟩;have R:=zH I;have G:=zH (H0.o w2 I);clear N O L;have N:=G.o.j.cell;have O:=G.o.j.lt;have Z:=G.o.l.p
 dsimp only at N O Z
 rw[S]at Z;cases ho:ziu C.P (rsB C.P) i.fn
 ·have HM:=zH (show zfh C.P (rsB C.P) f k i.fn=2 ^ C.P.qg.length-1 by unfold zfh;rw[ho];rfl);have a0:=zH (zto C.P.qg.length w2 yo);have a5:C.pb<w2.heap.size:=yi HC.prog.p.lt G.o.l.ve.size;clear ho I;go_wp2_with fail;refine a0.o.mono ?_;rintro e w3 ⟨rfl,rfl⟩;go_wp2;go_ret;exact⟨by rw[HM.o];rfl,R.o⟩
 ·have HM:=zH (show zfh C.P (rsB C.P) f k i.fn=f 4 k by unfold zfh;rw[ho];rfl);clear ho I;go_wp2_with fail;have D:=zH (H0.o w2.drew R.o.drew);have Q:=D.o.l.p
  dsimp only at Q
  rw[S]at Q;obtain⟨a3,A,L⟩:=D.o.qg s k hs;injection A with A;injection A with A;subst A;have E:=And.intro D.o.j.cell (And.intro D.o.k.x.cell (And.intro Q (And.intro L (D.o.k.cell (r:=4) (i:=k) yo (by unfold zq;simpa using a2)))));clear Q L;refine rgl 19 (fun(Y:World)=>(∀ j,Y.cell? (.a jb j)=#[.p C.pb,.p VF.fb,.p VP.sb,.p V.xb][j]?)/\(∀ j,Y.cell? (.a V.xb j)=(.k VF.fb VP.sb V.g C.P:Array Value)[j]?)/\(∀ i,Y.cell? (.a C.pb i)=#[.p C.X.tb,.i C.P.nv,.i C.P.nm,.s C.fg C.P.fs.length C.fcap,.s C.cg C.P.code.length C.ccap,C.X.av,C.X.nv,.s gb C.P.qg.length gc,.i C.P.main][i]?)/\Y.cell? (.a gb s)=some (.i k)/\Y.cell? (.a (V.g 4) k)=some (zA (f 4 k))) ?_
  iterate 19(refine tK 0 rfl E ?_)
  refine lst rfl fun K hK=>?_;go_simp;refine hK _ _ ?_;clear hK K E;go_wp2;go_ret;exact⟨by rw[HM.o];rfl,R.o.drew⟩
def fnAt (P:Pr)(k:Nat):Nat:=match P.code[k]? with | some i=>i.fn | none=>0
def zju (P:Pr)(s:Nat):Nat:=match P.qg[s]? with | some k=>k | none=>0
noncomputable def stM (P:Pr)(f:LF)(s:Nat):Nat:=zfh P (rsB P) f (zju P s) (fnAt P (zju P s))
noncomputable def zd4 (P:Pr)(f:LF)(r a t b:Nat):Bool :=
 if(rsB P r (fnAt P a)&&rsB P t (fnAt P b))=true then
  if r=0 then(if t=0 then false else(f 4 a).testBit (t-1))
  else if t=0 then(f 4 b).testBit (r-1)
  else if r=t then(zW P).getD (r-1) false
  else(stM P f (r-1)).testBit (t-1)||(stM P f (t-1)).testBit (r-1)
 else false
theorem zng {P:Pr}{i:In}(h:P.code[k]?=some i):fnAt P k=i.fn:=by unfold fnAt;rw[h]
theorem ztv {P:Pr}{RS:Nat->Nat->Bool}{f:LF}{fn:Nat}(hf:∀ r i,f r i<2 ^ 48)(hg:P.qg.length<=5):zfh P RS f k fn<2 ^ 48:=by
 unfold zfh;split
 ·exact hf _ _
 ·have:2 ^ P.qg.length<=2 ^ 5:=yO yo hg;omega
theorem st_any (J:JV)(wj w:World)(s:Nat)(H:JgOn J wj)(hb:Below wj.heap.size wj w)(hs:s<J.C.P.qg.length) :
  Calls prog 310 #[.p J.jb,.i s] w fun e w'=>e=.r (zA (stM J.C.P J.f s))/\Below w.heap.size w w':=by
 obtain⟨k,A⟩:∃ k,J.C.P.qg[s]?=some k:=⟨_,yc hs⟩;obtain⟨i,hi,_⟩:=gos_code (H w hb) A;have e:stM J.C.P J.f s=zfh J.C.P (rsB J.C.P) J.f k i.fn:=by unfold stM zju;rw[A];simp only[zng hi]
 rw[e];exact z0q J wj w s k i H hb A hi
def BesPost (b:Bool)(w:World)(e:Ending)(w':World):Prop:=e=.r (.bool b)/\Below w.heap.size w w'
theorem zvk (J:JV)(wj w:World)(r a t b:Nat)(H:JgOn J wj)(hb:Below wj.heap.size wj w)(hr:r<J.C.P.qg.length+1)(ht:t<J.C.P.qg.length+1)(ha:a<J.C.P.code.length)(hbl:b<J.C.P.code.length) :
  Calls prog 287 #[.p J.jb,.i r,.i a,.i t,.i b] w (BesPost (zd4 J.C.P J.f r a t b) w):=by
 have a0:=zH (fun(s:Nat) (W:World) (hW:Below w.heap.size w W) (hs:s<J.C.P.qg.length)=>st_any J wj W s H (hb.trans (hW.mono hb.size)) hs);obtain⟨C,VF,VP,V,wp,st,x,Rs,Bs,f,jb,B,sa,sc,rg,rc,ba,bc,r0,ga,gc⟩:=J
 dsimp only at hr ht ha hbl a0 |-
 have H0:=zH (fun(W:World) (hW:Below w.heap.size w W)=>H W (hb.trans (hW.mono hb.size)));clear H hb;have D:=zH (H0.o w.drew yB.drew);have Z:=D.o.c;have b4:=Z.wf.cl;have a7:=Z.wf.gl;have b2:=Z.wf.fl;have ay:=D.o.rl
 dsimp only at ay
 obtain⟨i,hi⟩:∃ i,C.P.code[a]?=some i:=⟨_,yc ha⟩;obtain⟨i',R⟩:∃ i,C.P.code[b]?=some i:=⟨_,yc hbl⟩;have b5:=Z.wf.fn a i hi;have b3:=Z.wf.fn b i' R;obtain⟨_,_,a8,_,_⟩:=Z.ql D.o.l.ve hi;obtain⟨_,_,U,_,_⟩:=Z.ql D.o.l.ve R;obtain⟨rb,ab⟩:∃ rb,Rs[r]?=some rb:=⟨_,yc yo⟩;obtain⟨tb,ai⟩:∃ tb,Rs[t]?=some tb:=⟨_,yc yo⟩;obtain⟨ac,ad⟩:=D.o.rts r rb ab;obtain⟨aj,ak⟩:=D.o.rts t tb ai;have ao:=zH ad;have ap:=zH ak;have A:=And.intro D.o.j.cell (And.intro D.o.l.f (And.intro D.o.l.p (And.intro (show w.drew.cell? (.n C.cg a 2)=some (.i i.fn)from a8 2 yo) (And.intro (show w.drew.cell? (.n C.cg b 2)=some (.i i'.fn)from U 2 yo) (And.intro ac aj)))));obtain⟨M,hM⟩:∃ M,M=zd4 C.P f r a t b:=⟨_,rfl⟩;have Q:=zH (show M=(if(rsB C.P r i.fn&&rsB C.P t i'.fn)=true then(if r=0 then(if t=0 then false else(f 4 a).testBit (t-1))else if t=0 then(f 4 b).testBit (r-1)else if r=t then(zW C.P).getD (r-1) false else(stM C.P f (r-1)).testBit (t-1)||(stM C.P f (t-1)).testBit (r-1))else false) by rw[hM];unfold zd4;rw[zng hi,zng R]);rw[<- hM];clear hM a8 U ad ak ab ai ac aj hi R;have b7:(r:Int)<(C.P.qg.length:Int)+1:=yo;have b8:(t:Int)<(C.P.qg.length:Int)+1:=yo;go_enter func287,ntmps287;go_wp2_with fail;refine rgl 47 (fun(W':World)=>(∀ j,W'.cell? (.a jb j)=#[.p C.pb,.p VF.fb,.p VP.sb,.p V.xb][j]?)/\(∀ i,W'.cell? (.a VF.fb i)=#[.p C.pb,.m VF.jf,.slice sa C.P.qg.length sc,.s rg (C.P.qg.length+1) rc,.slice ba C.P.qg.length bc,.m VF.vz,.m VF.vu][i]?)/\(∀ i,W'.cell? (.a C.pb i)=(.c C:Array Value)[i]?)/\W'.cell? (.n C.cg a 2)=some (.i i.fn)/\W'.cell? (.n C.cg b 2)=some (.i i'.fn)/\W'.cell? (.a rg r)=some (.m rb)/\W'.cell? (.a rg t)=some (.m tb)) ?_
 iterate 21(refine tK 0 rfl A ?_)
 refine rdy 21 rfl fun K N=>?_;go_simp;refine(hasE _ rb i.fn (rsB C.P r) ao.o yo).mono ?_;rintro e w7 ⟨rfl,rfl⟩;refine N.o _ _ A (fun A=>?_);clear N K;cases h1:rsB C.P r i.fn
 ·have I:=zH (show M=false by rw[Q.o,h1];rfl);clear h1
  iterate 2(refine tK 22 rfl A ?_)
  iterate 23(refine sK 24 rfl A ?_)
  refine lst rfl fun K N=>?_;go_simp;refine N _ _ ?_;clear N K A;go_wp2;go_ret;exact⟨by rw[I.o];rfl,yB.drew⟩
 ·iterate 23(refine tK 22 rfl A ?_)
  refine rdy 45 rfl fun K N=>?_;go_simp;refine(hasE _ tb i'.fn (rsB C.P t) ap.o yo).mono ?_;rintro e w7 ⟨rfl,rfl⟩;refine N.o _ _ A (fun A=>?_);clear N K;refine tK 46 rfl A ?_;refine lst rfl fun K N=>?_;go_simp;refine N _ _ ?_;clear N K A;cases h2:rsB C.P t i'.fn
  ·have I:=zH (show M=false by rw[Q.o,h1,h2];rfl);clear h1 h2;go_wp2;go_ret;exact⟨by rw[I.o];rfl,yB.drew⟩
  ·have L:=zH (show M=(if r=0 then(if t=0 then false else(f 4 a).testBit (t-1))else if t=0 then(f 4 b).testBit (r-1)else if r=t then(zW C.P).getD (r-1) false else(stM C.P f (r-1)).testBit (t-1)||(stM C.P f (t-1)).testBit (r-1)) by rw[Q.o,h1,h2];rfl);have E:=zH (show Below w.heap.size w w.drew from yB.drew);clear h1 h2 Q;generalize w.drew=w1 at D E |-;have a9:=D.o.j.cell;have aa:=D.o.j.lt;have a2:=D.o.k.x.cell;have am:=D.o.k.x.lt;have aw:w1.cell? (.a (V.g 4) a)=some (zA (f 4 a)):=D.o.k.cell (r:=4) (i:=a) yo (by unfold zq;simpa using ha);have ax:w1.cell? (.a (V.g 4) b)=some (zA (f 4 b)):=D.o.k.cell (r:=4) (i:=b) yo (by unfold zq;simpa using hbl);have ae:=D.o.k.sm 4 a;have af:=D.o.k.sm 4 b
   dsimp only at a9 aa a2 am ae af
   unfold za2 at a2;by_cases G:r=0
   ·have az:((r:Int)==0)=true:=by rw[G];rfl
    by_cases ht0:t=0
    ·have a3:((t:Int)==0)=true:=by rw[ht0];rfl
     have I:=zH (show M=false by rw[L.o,yj G,yj ht0]);clear G ht0;go_wp2;go_ret;exact⟨by rw[I.o];rfl,E.o⟩
    ·have a3:((t:Int)==0)=false:=zI yo;have I:=zH (show M=(f 4 a).testBit (t-1) by rw[L.o,yj G,yg ht0]);have et:(t:Int)-1=((t-1:Nat):Int):=yo;clear G;go_wp2_with fail;refine(zkm (f 4 a) (t-1) w1 ae yo).mono ?_;rintro e w7 ⟨rfl,rfl⟩;go_wp2;go_ret;exact⟨by rw[I.o];rfl,E.o⟩
   ·have az:((r:Int)==0)=false:=zI yo;have er:(r:Int)-1=((r-1:Nat):Int):=yo;by_cases ht0:t=0
    ·have a3:((t:Int)==0)=true:=by rw[ht0];rfl
     have I:=zH (show M=(f 4 b).testBit (r-1) by rw[L.o,yg G,yj ht0]);clear ht0;go_wp2_with fail;refine(zkm (f 4 b) (r-1) w1 af yo).mono ?_;rintro e w7 ⟨rfl,rfl⟩;go_wp2;go_ret;exact⟨by rw[I.o];rfl,E.o⟩
    ·have a3:((t:Int)==0)=false:=zI yo;have et:(t:Int)-1=((t-1:Nat):Int):=yo;by_cases S:r=t
     ·have b1:((r:Int)==(t:Int))=true:=by rw[S];simp
      obtain⟨mx,a1⟩:∃ mx,(zW C.P)[r-1]?=some mx:=⟨_,yc (by simp only[zW,ybd];omega)⟩;obtain⟨gb,Y,b6⟩:=D.o.l.many (r-1) mx a1;have I:=zH (show M=mx by rw[L.o,yg G,yg ht0,yj S,yab,a1];rfl);have aq:=D.o.l.f;have au:=D.o.l.fl
      dsimp only at aq au Y
      subst Y;clear S a1;go_wp2;go_ret;exact⟨by rw[I.o];rfl,E.o⟩
     ·have b1:((r:Int)==(t:Int))=false:=zI yo;have ag:stM C.P f (r-1)<2 ^ 48:=ztv D.o.k.sm a7;have ah:stM C.P f (t-1)<2 ^ 48:=ztv D.o.k.sm a7;have a4:=zH (show M=((stM C.P f (r-1)).testBit (t-1)||(stM C.P f (t-1)).testBit (r-1)) by rw[L.o,yg G,yg ht0,yg S]);clear a9 aa a2 am aw ax L;go_wp2_with fail;refine(a0.o (r-1) w1 E.o yo).mono ?_;rintro e w2 ⟨rfl,a5⟩;have O:=zH (E.o.trans (a5.mono E.o.size));clear a5;go_wp2_with fail;refine(zkm (stM C.P f (r-1)) (t-1) w2 ag yo).mono ?_;rintro e w3 ⟨rfl,rfl⟩;cases hbit:(stM C.P f (r-1)).testBit (t-1)
      ·have I:=zH (show M=(stM C.P f (t-1)).testBit (r-1) by rw[a4.o,hbit];rfl);clear hbit;go_wp2_with fail;refine(a0.o (t-1) w2 O.o yo).mono ?_;rintro e w4 ⟨rfl,a6⟩;have an:=zH (O.o.trans (a6.mono O.o.size));clear a6;go_wp2_with fail;refine(zkm (stM C.P f (t-1)) (r-1) w4 ah yo).mono ?_;rintro e w5 ⟨rfl,rfl⟩;go_wp2;go_ret;exact⟨by rw[I.o];rfl,an.o⟩
      ·have I:=zH (show M=true by rw[a4.o,hbit];rfl);clear hbit;go_wp2;go_ret;exact⟨by rw[I.o];rfl,O.o⟩
def zf0 (p:Nat->Bool):Nat->Nat->Option Nat
 | 0,_=>none
 | k+1,t=>if p t then some t else zf0 p k (t+1)
def pickR (o:Option Nat)(r:Nat)(d:Option (Nat×Nat)):Option (Nat×Nat):=match o with | some t=>some (r,t) | none=>d
def zhg (q:Nat->Option Nat):Nat->Nat->Option (Nat×Nat)
 | 0,_=>none
 | k+1,r=>pickR (q r) r (zhg q k (r+1))
noncomputable def zkg (P:Pr)(f:LF)(a b:Nat):Option (Nat×Nat):=zhg (fun r=>zf0 (fun t=>zd4 P f r a t b) (P.qg.length+1) 0) (P.qg.length+1) 0
def zoc:Option (Nat×Nat)->Value
 | some (r,t)=>.tuple #[.i r,.i t,.bool true]
 | none=>.tuple #[.i 0,.i 0,.bool false]
def zmn (o:Option (Nat×Nat))(w:World)(e:Ending)(w':World):Prop:=e=.r (zoc o)/\Below w.heap.size w w'
def RoR (n:Nat)(q:Nat->Option Nat)(M:Option (Nat×Nat))(w:World)(gk:Nat)(v19:Value)(W:World):Prop :=
 ∃ r:Nat,v19=.i r/\gk=n-r/\r<=n/\Below w.heap.size w W/\zhg q (n-r) r=M
def RoT (n:Nat)(p:Nat->Bool)(X:Option Nat)(w:World)(gk:Nat)(v30:Value)(W:World):Prop :=
 ∃ t:Nat,v30=.i t/\gk=n-t/\t<=n/\Below w.heap.size w W/\zf0 p (n-t) t=X
theorem zzy (J:JV)(wj w:World)(a b:Nat)(H:JgOn J wj)(hb:Below wj.heap.size wj w)(ha:a<J.C.P.code.length)(hbl:b<J.C.P.code.length) :
  Calls prog 235 #[.p J.jb,.i a,.i b] w (zmn (zkg J.C.P J.f a b) w):=by
 have S:=zH (fun(r t:Nat) (W:World) (hW:Below w.heap.size w W) (hr:r<J.C.P.qg.length+1) (ht:t<J.C.P.qg.length+1)=>zvk J wj W r a t b H (hb.trans (hW.mono hb.size)) hr ht ha hbl);obtain⟨C,VF,VP,V,wp,st,x,Rs,Bs,f,jb,B,sa,sc,rg,rc,ba,bc,r0,ga,gc⟩:=J
 dsimp only at ha hbl S |-
 have H0:=zH (fun(W:World) (hW:Below w.heap.size w W)=>H W (hb.trans (hW.mono hb.size)));clear H hb;have O:=zH (H0.o w yB);have G:=O.o.j.cell;have I:=O.o.j.lt;have D:=O.o.l.f;have E:=O.o.l.fl;have a8:=O.o.c.wf.gl;have a7:=O.o.c.wf.cl
 dsimp only at G I D E a8 a7
 obtain⟨n,hn⟩:∃ n,n=C.P.qg.length+1:=⟨_,rfl⟩;obtain⟨q,hq⟩:∃ q:Nat->Option Nat,q=fun r=>zf0 (fun t=>zd4 C.P f r a t b) n 0:=⟨_,rfl⟩
 have HQ:=zH (show ∀ r,q r=zf0 (fun t=>zd4 C.P f r a t b) n 0 from fun r=>by rw[hq]);obtain⟨M,hM⟩:∃ M,M=zkg C.P f a b:=⟨_,rfl⟩;rw[<- hM];have ST:=zH (show RoR n q M w n (.i 0) w from⟨0,rfl,rfl,yD _,yn _ _,by rw[hM,hq,Nat.sub_zero];unfold zkg;rw[<- hn]⟩);clear hM hq;go_enter func235,ntmps235;go_wp2_with fail;clear G I D E;go_loopg [19] n (fun gk v19 wr=>RoR n q M w gk v19 wr)
 case atStart=>exact ST.o
 case round =>
  obtain⟨r,rfl,hg,hr,Z,hR⟩:=hrel;have HG:=zH hg;have HB:=zH Z;have HR:=zH hR;clear hg Z hR;by_cases a9:r<n
  ·have ab:(r:Int)<(C.P.qg.length:Int)+1:=yo;have A:=zH (H0.o _ HB.o);have G:=A.o.j.cell;have I:=A.o.j.lt;have D:=A.o.l.f;have E:=A.o.l.fl
   dsimp only at G I D E
   obtain⟨X,Q⟩:∃ X,X=q r:=⟨_,rfl⟩;have U:=zH (show pickR X r (zhg q (n-(r+1)) (r+1))=M by
    have h:=HR.o;rw[show n-r=(n-(r+1))+1 by omega,zhg,<- Q]at h;exact h)
   have a4:=zH (show RoT n (fun t=>zd4 C.P f r a t b) X w n (.i 0) wr from⟨0,rfl,rfl,yD _,HB.o,by rw[Nat.sub_zero,Q,HQ.o]⟩);clear Q HR A;go_wp2_with fail;clear G I D E;go_loopg [30] n (fun gk v30 wr=>RoT n (fun t=>zd4 C.P f r a t b) X w gk v30 wr)
   case atStart=>exact a4.o
   case round =>
    obtain⟨t,rfl,hg,ht,Z,hT⟩:=hrel;have a3:=zH hg;have K:=zH Z;have HT:=zH hT;clear hg Z hT;by_cases a1:t<n
    ·have aa:(t:Int)<(C.P.qg.length:Int)+1:=yo;have Y:=zH (show(if zd4 C.P f r a t b then some t else zf0 (fun t=>zd4 C.P f r a t b) (n-(t+1)) (t+1))=X by
      have h:=HT.o;rw[show n-t=(n-(t+1))+1 by omega,zf0]at h;exact h)
     clear HT;go_wp2_with fail;refine(S.o r t _ K.o yo yo).mono ?_;rintro e w5 ⟨rfl,a0⟩;have R:=zH (K.o.trans (a0.mono K.o.size));clear a0;cases hbe:zd4 C.P f r a t b
     ·have N:=zH (show RoT n (fun t=>zd4 C.P f r a t b) X w (n-(t+1)) (.i ((t+1:Nat):Int)) w5 from⟨t+1,rfl,rfl,a1,R.o,by have:=Y.o;rw[hbe]at this;exact this⟩);clear hbe;go_wp2;go_roundg (n-(t+1))
      case measure=>have:=a3.o;omega
      case rel=>rw[show((t:Int)+1)=((t+1:Nat):Int) by omega];exact N.o
     ·have a6:M=some (r,t):=by
       have h:=Y.o;rw[hbe]at h;rw[<- U.o,<- h];rfl
      subst a6;have L:=zH (show zmn (some (r,t)) w (.r (.tuple #[.i r,.i t,.bool true])) w5 from⟨rfl,R.o⟩);clear hbe;go_wp2;exact ym (v:=.tuple #[.i r,.i t,.bool true]) (by simp[results,results235,go_sem]) rfl L.o
    ·obtain rfl:t=n:=yo;have Q:X=none:=by rw[<- HT.o,Nat.sub_self,zf0]
     have N:=zH (show RoR t q M w (t-(r+1)) (.i ((r+1:Nat):Int)) wr from⟨r+1,rfl,rfl,a9,K.o,by have:=U.o;rw[Q]at this;exact this⟩);have a2:¬ ((t:Int)<(C.P.qg.length:Int)+1):=yo;clear Q HT;go_wp2;go_roundg (t-(r+1))
     case measure=>have:=HG.o;omega
     case rel=>rw[show((r:Int)+1)=((r+1:Nat):Int) by omega];exact N.o
  ·obtain rfl:r=n:=yo;have a5:M=none:=by rw[<- HR.o,Nat.sub_self,zhg]
   subst a5;have a2:¬ ((r:Int)<(C.P.qg.length:Int)+1):=yo;have L:=zH (show zmn none w (.r (.tuple #[.i 0,.i 0,.bool false])) wr from⟨rfl,HB.o⟩);go_wp2;exact ym (v:=.tuple #[.i 0,.i 0,.bool false]) (by simp[results,results235,go_sem]) rfl L.o
def zfy (r r':Int×Nat×Nat):Option (Int×Nat) :=
 if r.2.1≠r'.2.1\/r.1≠r'.1 then none
 else if r.1<0 then some (-1,r.2.1)
 else match mems (r.2.2&&&r'.2.2)with
  | []=>none
  | o::_=>some ((o:Int),r.2.1)
def comV:Option (Int×Nat)->Value
 | some (o,u)=>.tuple #[.i o,.i u,.bool true]
 | none=>.tuple #[.i 0,.i 0,.bool false]
def ComPost (o:Option (Int×Nat))(w:World)(e:Ending)(w':World):Prop:=e=.r (comV o)/\Below w.heap.size w w'
theorem zuh {J:JV}(h:zi5 J W)(i:In):(zbp J.C.P J.st J.x i).2.2<2 ^ 48:=by
 have hx:=h.x48;unfold zbp;split
 ·show 0<2 ^ 48;omega
 split
 ·exact yag Nat.and_le_right hx
 ·exact yag Nat.and_le_right hx
structure CmI (w:World)(c6 c7 c8 c10 u1:Nat)(i:Nat)(W:World):Prop where
 i:i=0
 h6:Blk W c6 3 #[.i 0]
 h7:Blk W c7 3 #[.i 0]
 h8:Blk W c8 4 #[.bool false]
 h10:Blk W c10 3 #[.i u1]
 b:Below w.heap.size w W
theorem CmI.qo {w:World}{c6 c7 c8 c10 u1 i N:Nat}{W':World}(h:CmI w c6 c7 c8 c10 u1 i W)(hN:w.heap.size<=N)(hr:Recs N W W'):CmI w c6 c7 c8 c10 u1 i W' :=
 ⟨h.i,h.h6.qo hr,h.h7.qo hr,h.h8.qo hr,h.h10.qo hr,h.b.trans (hr.below.mono hN)⟩
structure CmX (w:World)(c6 c7 c8:Nat)(M:Option (Int×Nat))(c:Code)(W:World):Prop where
 c:c=.ret
 r:∃ (o u:Nat),M=some ((o:Int),u)/\Blk W c6 3 #[.i o]/\Blk W c7 3 #[.i u]
 h8:Blk W c8 4 #[.bool true]
 b:Below w.heap.size w W
theorem CmX.qo {w:World}{c6 c7 c8 N:Nat}{M:Option (Int×Nat)}{c:Code}{W':World}(h:CmX w c6 c7 c8 M c W)(hN:w.heap.size<=N)(hr:Recs N W W'):CmX w c6 c7 c8 M c W':=by
 obtain⟨o,u,h1,h2,h3⟩:=h.r;exact⟨h.c,⟨o,u,h1,h2.qo hr,h3.qo hr⟩,h.h8.qo hr,h.b.trans (hr.below.mono hN)⟩
theorem zwm (J:JV)(wj w:World)(a b:Nat)(ia ib:In)(H:JgOn J wj)(hb:Below wj.heap.size wj w)(ha:J.C.P.code[a]?=some ia)(hb':J.C.P.code[b]?=some ib)(hoa:2<=ia.op/\ia.op<=5)(hob:2<=ib.op/\ib.op<=5) :
  Calls prog 234 #[.p J.jb,.i a,.i b] w (ComPost (zfy (zbp J.C.P J.st J.x ia) (zbp J.C.P J.st J.x ib)) w):=by
 have a1:=zH (fun(W:World) (hW:Below w.heap.size w W)=>zui J wj W a ia H (hb.trans (hW.mono hb.size)) ha hoa);have a2:=zH (fun(W:World) (hW:Below w.heap.size w W)=>zui J wj W b ib H (hb.trans (hW.mono hb.size)) hb' hob);have a3:=zuh (H w hb) ia;have ac:=zuh (H w hb) ib;generalize zbp J.C.P J.st J.x ia=r1 at a1 a3 |-;generalize zbp J.C.P J.st J.x ib=r2 at a2 ac |-;obtain⟨L,u1,s1⟩:=r1;obtain⟨x2,u2,s2⟩:=r2
 dsimp only at a3 ac
 unfold zjd at a1 a2
 dsimp only at a1 a2
 clear H hb ha hb' hoa hob;have ao:∀ (fn:Fn) (first cap:Array Value) (w:World),(Instr.makeFunc fn first cap).run prog w=.ok (.func fn first cap) w:=fun _ _ _ _=>rfl;refine zjk func234 rfl ?_;simp only[ntmps234,yb2,yai,ya8,Nat.reduceAdd,Nat.reduceSub,ybn,ybm,yb3,ybp,yas,ya1];go_wp2_with fail;have S:Below w.heap.size w (((w.alloc (.k #[.i 0] 3)).alloc (.k #[.i 0] 3)).alloc (.k #[.bool false] 4)):=((yB.alloc yL _).alloc yy _).alloc (by simp;omega) _;have h6:Blk (((w.alloc (.k #[.i 0] 3)).alloc (.k #[.i 0] 3)).alloc (.k #[.bool false] 4)) w.heap.size 3 #[.i 0]:=((Blk.newAt rfl).alloc _).alloc _;have h7:Blk (((w.alloc (.k #[.i 0] 3)).alloc (.k #[.i 0] 3)).alloc (.k #[.bool false] 4)) (w.heap.size+1) 3 #[.i 0]:=(Blk.newAt yy).alloc _;have h8:Blk (((w.alloc (.k #[.i 0] 3)).alloc (.k #[.i 0] 3)).alloc (.k #[.bool false] 4)) (w.heap.size+1+1) 4 #[.bool false]:=Blk.newAt yy;generalize ((w.alloc (.k #[.i 0] 3)).alloc (.k #[.i 0] 3)).alloc (.k #[.bool false] 4)=w3 at S h6 h7 h8 |-;obtain⟨c6,a8⟩:∃ c,c=w.heap.size:=⟨_,rfl⟩;obtain⟨c7,a9⟩:∃ c,c=w.heap.size+1:=⟨_,rfl⟩;obtain⟨c8,aa⟩:∃ c,c=w.heap.size+1+1:=⟨_,rfl⟩;have N:=zH (show w.heap.size<=c6/\w.heap.size<=c7/\w.heap.size<=c8/\c6≠c7/\c6≠c8/\c7≠c8 by omega);rw[<- aa]at h8;rw[<- a9]at h7;rw[<- a8]at h6;rw[<- aa,<- a9,<- a8];refine(a1.o w3 S).mono ?_;rintro e Z ⟨rfl,U⟩;have a4:=zH (S.trans (U.mono S.size));have h6:=h6.below U h6.lt;have h7:=h7.below U h7.lt;have h8:=h8.below U h8.lt;clear S U a8 a9 aa;have HL:=zH (show c6≠Z.heap.size/\c7≠Z.heap.size/\c8≠Z.heap.size from⟨fun e=>by have:=h6.lt;omega,fun e=>by have:=h7.lt;omega,fun e=>by have:=h8.lt;omega⟩);go_wp2_with fail;have Q:Below Z.heap.size Z (Z.alloc (.k #[.i u1] 3)):=yB.alloc yL _;have h10:Blk (Z.alloc (.k #[.i u1] 3)) Z.heap.size 3 #[.i u1]:=Blk.newAt rfl;have h6:=h6.below Q h6.lt;have h7:=h7.below Q h7.lt;have h8:=h8.below Q h8.lt;have a0:=zH (a4.o.trans (Q.mono a4.o.size));have af:w.heap.size<=Z.heap.size:=a4.o.size;obtain⟨E,G⟩:∃ c,c=Z.heap.size:=⟨_,rfl⟩;rw[<- G]at h10 af HL;simp only[<- G];generalize Z.alloc (.k #[.i u1] 3)=w5 at Q h10 h6 h7 h8 a0 |-;refine(a2.o w5 a0.o).mono ?_;rintro e w6 ⟨rfl,O⟩;have h6:=h6.below O h6.lt;have h7:=h7.below O h7.lt;have h8:=h8.below O h8.lt;have h10:=h10.below O h10.lt;have HB6:=zH (a0.o.trans (O.mono a0.o.size));clear O Q G;have STO:=zH (fun(W:World) (o:Int) (u:Nat) (ok:Bool) (hB:Below w.heap.size w W) (k6:Blk W c6 3 #[.i 0]) (k7:Blk W c7 3 #[.i 0]) (k8:Blk W c8 4 #[.bool false]) =>
  show Below w.heap.size w (((W.setCell (.a c6 0) (.i o)).setCell (.a c7 0) (.i u)).setCell (.a c8 0) (.bool ok))from
   ((hB.setCell (p:=(.a c6 0)) N.o.1 _).setCell (p:=(.a c7 0)) N.o.2.1 _).setCell (p:=(.a c8 0)) N.o.2.2.1 _)
 have e6:=h6.cell;have f6:=h6.frozen;have l6:=h6.lt;have e7:=h7.cell;have f7:=h7.frozen;have l7:=h7.lt;have e8:=h8.cell;have f8:=h8.frozen;have l8:=h8.lt;have am:=h10.cell;have ap:=h10.lt;have n67:=N.o.2.2.2.1;have n68:=N.o.2.2.2.2.1;have n78:=N.o.2.2.2.2.2;obtain⟨na,nb,nc⟩:=HL.o;have n76:=n67.symm;have n86:=n68.symm;have n87:=n78.symm;obtain⟨R,a7⟩:∃ R,R=zfy (L,u1,s1) (x2,u2,s2):=⟨_,rfl⟩;have HMM:=zH a7;rw[<- a7];clear a7;by_cases hu:u1=u2
 ·have ou:((u1:Int)==(u2:Int))=true:=by rw[hu];simp
  have ah:((u1:Int) != (u2:Int))=false:=by simp only[bne,ou];rfl
  by_cases hx:L=x2
  ·have ox:(L==x2)=true:=by rw[hx];simp
   have ai:(L != x2)=false:=by simp only[bne,ox];rfl
   by_cases Y:L<0
   ·have hM:R=some (-1,u1):=by rw[HMM.o];unfold zfy;rw[yg (fun h=>by rcases h with h | h;exact h hu;exact h hx),yj Y]
    clear hu hx;go_wp2_with fail;refine zov ?_;have A:w6.drew.cell? (.a E 0)=some (.i u1):=h10.drew.cell 0;refine rgl 3 (fun W'=>W'.cell? (.a E 0)=some (.i u1)) ?_;refine tK 0 rfl A ?_;refine rdy 1 rfl fun K D=>?_;go_simp;refine D.o _ _ ((h10.qi (p:=(.a c6 0)) na.symm (.i (-1))).drew.cell 0) (fun A=>?_);clear D K;refine rdy 2 rfl fun K D=>?_;go_simp;refine D.o _ _ (((h10.qi (p:=(.a c6 0)) na.symm (.i (-1))).qi (p:=(.a c7 0)) nb.symm (.i u1)).drew.cell 0) (fun A=>?_);clear D K;refine lst rfl fun K D=>?_;go_simp;refine D _ _ ?_;refine zf5 ?_;clear D K A;go_wp2_with fail;have k6:=(((h6.qe 0 (.i (-1))).qi (p:=(.a c7 0)) n67 (.i u1)).qi (p:=(.a c8 0)) n68 (.bool true)).drew;have k7:=(((h7.qi (p:=(.a c6 0)) n76 (.i (-1))).qe 0 (.i u1)).qi (p:=(.a c8 0)) n78 (.bool true)).drew;have k8:=(((h8.qi (p:=(.a c6 0)) n86 (.i (-1))).qi (p:=(.a c7 0)) n87 (.i u1)).qe 0 (.bool true)).drew;have FB:=zH (STO.o w6 (-1) u1 true HB6.o h6 h7 h8).drew;refine⟨comV (some (-1,u1)),?_,?_⟩
    ·have q6:=k6.cell 0;have q7:=k7.cell 0;have q8:=k8.cell 0;generalize ((((w6.setCell (.a c6 0) (.i (-1))).setCell (.a c7 0) (.i u1)).setCell (.a c8 0) (.bool true))).drew=wz at q6 q7 q8 |-;have r6:wz.cell? (.a c6 0)=some (.i (-1)):=q6;have r7:wz.cell? (.a c7 0)=some (.i u1):=q7;have r8:wz.cell? (.a c8 0)=some (.bool true):=q8;simp[results,results234,go_sem,r6,r7,r8,comV]
    ·rw[<- HMM.o,hM];exact⟨rfl,FB.o⟩
   ·have ae:R=(match mems (s1&&&s2)with | []=>none | o::_=>some ((o:Int),u1)):=by rw[HMM.o];unfold zfy;rw[yg (fun h=>by rcases h with h | h;exact h hu;exact h hx),yg Y]
    have HM:=zH ae;have an:s1&&&s2<2 ^ 48:=yag Nat.and_le_left a3;have ad:=ziy s1 s2 a3 ac;clear hu hx ae;go_wp2_with fail;have ak:=zH (show CmI w c6 c7 c8 E u1 0 w6 from⟨rfl,h6,h7,h8,h10,HB6.o⟩);have HZ:=zH (show w.heap.size<=w6.heap.size from HB6.o.size);have a6:=zH (show c6<w6.heap.size/\c7<w6.heap.size/\c8<w6.heap.size from⟨h6.lt,h7.lt,h8.lt⟩);refine(wpIn_wide (n:=3)).1 (zkq (gf:=237) (first:=#[zA (s1&&&s2)]) (cap:=#[]) rfl zkj (zkl 2 (s1&&&s2) an) rfl
     (CmI w c6 c7 c8 E u1) (CmX w c6 c7 c8 R) (fun i W W' hr h=>h.qo HZ.o hr) (fun c W W' hr h=>h.qo HZ.o hr) ak.o
     (fun y=>{ tmps:=#[.p J.jb,.i a,.i b,undef,undef,undef,.p c6,.p c7,.p c8,.i L,.p E,zA s1,.i x2,.i u2,zA s2,y,.tuple #[.i L,.i u1,zA s1],.p J.jb,.i a,.tuple #[.i L,.i u1,zA s1],.i L,.i u1,zA s1,.tuple #[.i x2,.i u2,zA s2],.p J.jb,.i b,.tuple #[.i x2,.i u2,zA s2],.i x2,.i u2,zA s2,.i u1,.i u2,.bool false,.bool false,.i L,.i x2,.bool false,.bool false,.i L,.bool (decide (L<0)),undef,zA s1,zA s2,zA (s1&&&s2),.func (.func 237) #[zA (s1&&&s2)] #[],y,undef,undef],defers:=[] }) ?assign ?body ?done ?stop)
    case assign =>
     intro l y W K D;clear e6 f6 l6 e7 f7 l7 e8 f8 l8 am ap ou ah ox ai ad ao Y
     gi_wp2
     rw[Oper.semAt_eq _ _ _ (by intro c h;cases h)];simp only[go_sem,execOp];go_simp
     gi_wp2
     exact D
    case stop =>
     rintro c W hX hD;have HX:=zH hX;have HD:=zH hD;obtain rfl:=hX.c;clear hX hD
     gi_wp2
     refine zhj (B:=w6.heap.size) (fun W=>CmX w c6 c7 c8 R .ret W) (fun W W' hr h=>h.qo HZ.o hr) (fun W h=>?_) _ W ?_ HX.o
     ·obtain⟨o,u,h1,h2,h3⟩:=h.r;have q6:=h2.cell 0;have q7:=h3.cell 0;have q8:=h.h8.cell 0;have r6:W.cell? (.a c6 0)=some (.i o):=q6;have r7:W.cell? (.a c7 0)=some (.i u):=q7;have r8:W.cell? (.a c8 0)=some (.bool true):=q8;refine⟨comV (some ((o:Int),u)),?_,?_⟩
      ·simp[results,results234,go_sem,r6,r7,r8,comV]
      ·rw[<- HMM.o,h1];exact⟨rfl,h.b⟩
     ·refine⟨?_,by simp⟩;rintro d hd;simp at hd;exact⟨_,yr _,hd,HD.o⟩
    case done =>
     rintro W I hD;have HD:=zH hD;have h6:=I.h6;have h7:=I.h7;have h8:=I.h8;have hl:=I.i;have a5:=zH I.b;have hM:R=none:=by
      rw[HM.o];rw[ybd]at hl;rw[List.length_eq_zero_iff.1 hl]
     have e6:=h6.cell;have f6:=h6.frozen;have l6:=h6.lt;have e7:=h7.cell;have f7:=h7.frozen;have l7:=h7.lt;have e8:=h8.cell;have f8:=h8.frozen;have l8:=h8.lt;clear I hD hl;go_wp2_with fail;have k6:=((h6.qe 0 (.i 0)).qi (p:=(.a c7 0)) n67 (.i 0)).qi (p:=(.a c8 0)) n68 (.bool false);have k7:=((h7.qi (p:=(.a c6 0)) n76 (.i 0)).qe 0 (.i 0)).qi (p:=(.a c8 0)) n78 (.bool false);have k8:=((h8.qi (p:=(.a c6 0)) n86 (.i 0)).qi (p:=(.a c7 0)) n87 (.i 0)).qe 0 (.bool false);have FB:=zH (STO.o W 0 0 false a5.o h6 h7 h8);have ag:(((W.setCell (.a c6 0) (.i 0)).setCell (.a c7 0) (.i 0)).setCell (.a c8 0) (.bool false)).heap[w6.heap.size]?=some (.deferred (some [])):=by
      have p6:c6≠w6.heap.size:=fun e=>by have:=a6.o.1;omega
      have p7:c7≠w6.heap.size:=fun e=>by have:=a6.o.2.1;omega
      have p8:c8≠w6.heap.size:=fun e=>by have:=a6.o.2.2;omega
      have ab:=(yP.1 HD.o).1;rw[(zin _ c8 0 _).block w6.heap.size (by simpa [World.setCell] using ab) (fun e=>p8 (by injection e with e;exact e.symm)),(zin _ c7 0 _).block w6.heap.size (by simpa [World.setCell] using ab) (fun e=>p7 (by injection e with e;exact e.symm)),(zin _ c6 0 _).block w6.heap.size (by simpa [World.setCell] using ab) (fun e=>p6 (by injection e with e;exact e.symm))];exact HD.o
     generalize ((W.setCell (.a c6 0) (.i 0)).setCell (.a c7 0) (.i 0)).setCell (.a c8 0) (.bool false)=wz at k6 k7 k8 FB ag |-;refine zhj (B:=w6.heap.size) (fun W=>Blk W c6 3 #[.i 0]/\Blk W c7 3 #[.i 0]/\Blk W c8 4 #[.bool false]/\Below w.heap.size w W) (fun W W' hr h=>⟨h.1.qo hr,h.2.1.qo hr,h.2.2.1.qo hr,h.2.2.2.trans (hr.below.mono HZ.o)⟩) (fun W h=>?_) _ wz ?_ ⟨k6,k7,k8,FB.o⟩
     ·have r6:W.cell? (.a c6 0)=some (.i 0):=h.1.cell 0;have r7:W.cell? (.a c7 0)=some (.i 0):=h.2.1.cell 0;have r8:W.cell? (.a c8 0)=some (.bool false):=h.2.2.1.cell 0;refine⟨comV none,?_,?_⟩
      ·simp[results,results234,go_sem,r6,r7,r8,comV]
      ·rw[<- HMM.o,hM];exact⟨rfl,h.2.2.2⟩
     ·refine⟨?_,by simp⟩;rintro d hd;simp at hd;exact⟨_,yr _,hd,ag⟩
    case body =>
     rintro l i y W hy I hz;obtain⟨o,ho,rfl⟩:∃ o,(mems (s1&&&s2))[i]?=some o/\Value.int .i64 (o:Int)=y:=by simpa using hy
     obtain rfl:=I.i;have hM:R=some ((o:Int),u1):=by
      rw[HM.o];cases hmm:mems (s1&&&s2)with
      | nil=>rw[hmm]at ho;simp at ho
      | cons o' r=>rw[hmm]at ho;simp at ho;rw[ho]
     have h6:=I.h6;have h7:=I.h7;have h8:=I.h8;have h10:=I.h10;have e6:=h6.cell;have f6:=h6.frozen;have l6:=h6.lt;have e7:=h7.cell;have f7:=h7.frozen;have l7:=h7.lt;have e8:=h8.cell;have f8:=h8.frozen;have l8:=h8.lt;have a5:=zH I.b;clear I hy ho
     gi_wp2
     have A:W.drew.cell? (.a E 0)=some (.i u1):=h10.drew.cell 0;refine zl8 4 (fun(W':World)=>W'.cell? (.a E 0)=some (.i u1)) yk rfl rfl yk yk ?_;simp only[yM,yY]
     iterate 2(refine tK 0 rfl A ?_)
     refine rdy 2 rfl fun K D=>?_;go_simp;refine D.o _ _ ((h10.qi (p:=(.a c6 0)) na.symm (.i o)).drew.cell 0) (fun A=>?_);clear D K;refine rdy 3 rfl fun K D=>?_;go_simp;refine D.o _ _ (((h10.qi (p:=(.a c6 0)) na.symm (.i o)).qi (p:=(.a c7 0)) nb.symm (.i u1)).drew.cell 0) (fun A=>?_);clear D K;refine lst rfl fun K D=>?_;go_simp;refine D _ _ ?_;refine zf5 ?_;clear D K A;have k6:=(((h6.qe 0 (.i o)).qi (p:=(.a c7 0)) n67 (.i u1)).qi (p:=(.a c8 0)) n68 (.bool true)).drew;have k7:=(((h7.qi (p:=(.a c6 0)) n76 (.i o)).qe 0 (.i u1)).qi (p:=(.a c8 0)) n78 (.bool true)).drew;have k8:=(((h8.qi (p:=(.a c6 0)) n86 (.i o)).qi (p:=(.a c7 0)) n87 (.i u1)).qe 0 (.bool true)).drew;have FB:=zH (STO.o W (o:Int) u1 true a5.o h6 h7 h8).drew;have kr:=((((zP.refl W).setCell (p:=(.a c6 0)) h6 (.i o)).setCell (p:=(.a c7 0)) (h7.qi (p:=(.a c6 0)) n76 (.i o)) (.i u1)).setCell (p:=(.a c8 0)) ((h8.qi (p:=(.a c6 0)) n86 (.i o)).qi (p:=(.a c7 0)) n87 (.i u1)) (.bool true)).trans (zP.qz yB.drew);have aj:=zH (And.intro kr (show CmX w c6 c7 c8 R .ret _ from⟨rfl,⟨o,u1,hM,k6,k7⟩,k8,FB.o⟩));clear k6 k7 k8 kr FB
     gi_wp2
     exact aj.o
  ·have hM:R=none:=by rw[HMM.o];unfold zfy;rw[yj (.inr hx)]
   have ox:(L==x2)=false:=by simpa using hx
   have ai:(L != x2)=true:=by simp only[bne,ox];rfl
   clear hu hx;exact mZa
 ·have hM:R=none:=by rw[HMM.o];unfold zfy;rw[yj (.inl hu)]
  have ou:((u1:Int)==(u2:Int))=false:=zI yo;have ah:((u1:Int) != (u2:Int))=true:=by simp only[bne,ou];rfl
  clear hu;exact mZa
end Go.Proofs.YtkmcihhndgdhpaaGreat
