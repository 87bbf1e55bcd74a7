/- Parts of the walk. -/
import Derived.Test.YtkmcihhndgdhpaaGreatWA9
import Derived.Test.YtkmcihhndgdhpaaGreatWB0
set_option maxRecDepth 100000
set_option maxHeartbeats 4000000
set_option linter.unusedSimpArgs false
set_option linter.unusedVariables false
open Go.ChangeMaps Go.Maps Go.RowKit Go.Shelf Go.Proofs.Tryz
namespace Go.Proofs.YtkmcihhndgdhpaaGreat
variable {st:PS}{w wf:World}{fb:Nat}{V:PtV}
theorem mLa {p:Prop}(h:p:=by
  go_wp2_with fail;go_roundw
  case rel=>rw[show((k:Int)+1)=((k+1:Nat):Int) by omega];exact REL.o
  case measure=>simp only[intOf];omega):p:=h
def zek (st:PS):Nat->Nat
 | 0=>0
 | v+1=>zek st v|||st.ho ⟨118,v,0⟩
def zdn (st:PS)(fn:Nat):Nat->List Ar->Nat
 | x,[]=>x
 | x,a::l=>zdn st fn (x|||argO st fn a) l
def ze7 (st:PS)(on:Nat->Bool):Nat->Nat->List In->Nat
 | x,_,[]=>x
 | x,k,i::l=>ze7 st on (if on k&&decide (i.op=7)then zdn st i.fn x i.args else x) (k+1) l
def out0 (P:Pr)(on:Nat->Bool)(st:PS):Nat:=ze7 st on (zek st P.nv) 0 P.code
theorem zot {st:PS}(h:∀ n,st.ho n<2 ^ 48):∀ v,zek st v<2 ^ 48
 | 0=>by simp[zek]
 | v+1=>yJ (zot h v) (h _)
theorem zjg (h:∀ n,st.ho n<2 ^ 48)(fn:Nat)(a:Ar):argO st fn a<2 ^ 48:=by
 unfold argO;split
 ·omega
 ·exact h _
theorem zpp {st:PS}(h:∀ n,st.ho n<2 ^ 48)(fn:Nat):∀ (l:List Ar) (x:Nat),x<2 ^ 48->zdn st fn x l<2 ^ 48
 | [],_,hx=>hx
 | a::l,_,hx=>zpp h fn l _ (yJ hx (zjg h fn a))
theorem zcs.below {C:AX}{w':World}{V:FV}{Rs Bs:List Nat}{N:Nat}(h:zcs C w V Rs Bs)(hb:Below N w w')(hN:w.heap.size<=N):zcs C w' V Rs Bs:=⟨h.f.below hb hN,h.rl,h.bl,h.small,h.qk⟩
theorem zz7 (args:Array Value)(w:World):(callFunc 282 args).run prog w=.ok (.enter 282 args) w:=enters_of func282 yk rfl args w
theorem zxf {x0:Nat}(h:PtAt wf.heap.size fb wf V st x0 w)(hx:x0<2 ^ 48)(vx rb:Nat)(hvx:Blk w vx 298 #[.p V.sb])(hr:Blk w rb 37 #[.func (.func 282) #[] #[.p vx]]) :
  Calls prog 221 #[.s rb 1 1] w fun e w'=>e=.e/\∃ x,PtAt wf.heap.size fb wf V st x w'/\x<2 ^ 48/\∀ o,x.testBit o=true↔OutP st x0 o:=by
 have E:Blk w V.sb 383 (zdf fb V x0):=by
  obtain⟨_,_,_,h3⟩:=h.m;exact h3.s
 refine(zjo (zbs fb wf w V st x0) (fun x=>2 ^ 48-x) [⟨282,#[],#[.p vx]⟩] [zi9 st] rb 1 w x0 rfl yy ⟨h,fun o ho S h1 _=>h1 o ho,fun _ h=>h,ycp _ _,hx⟩ ?_ ?_).mono ?_
 ·intro s W A j r D;have hb:=hr.grown A.n (fun e=>hr.qs E yd (by injection e));cases j with
  | zero=>simp at D;subst D;exact hb.cell 0
  | succ j=>simp at D
 ·intro j r c D H;cases j with
  | zero =>
   simp at D H;subst D H;exact⟨zz7,fun s W A=>zw7 fb wf w V st x0 s vx W A hvx (hvx.qs E yd)⟩
  | succ j=>simp at D
 ·rintro e w' ⟨x,rfl,A,G⟩;exact⟨rfl,x,A.p,A.b,fun o=>OutP.done A.s A.g (G _ (yG.2 rfl)) o⟩
structure EcP (fb:Nat)(wf:World)(V:PtV)(st:PS)(w:World)(x:Nat)(W:World):Prop where
 p:PtAt wf.heap.size fb wf V st x W
 bx:Blk W w.heap.size 298 #[.p V.sb]
theorem EcP.below {x:Nat}{W W':World}(h:EcP fb wf V st w x W)(hb:Below W.heap.size W W'):EcP fb wf V st w x W':=⟨h.p.below hb,h.bx.below hb h.bx.lt⟩
theorem EcP.setOut {x:Nat}{W:World}(h:EcP fb wf V st w x W)(y:Nat):EcP fb wf V st w y (W.setCell (.a V.sb 4) (zA y)):=by
 have A:w.heap.size≠V.sb:=by
  obtain⟨_,_,_,h3⟩:=h.p.m;exact h.bx.qs h3.s yd
 exact⟨h.p.setOut y,h.bx.qi (p:=(.a V.sb 4)) A _⟩
def EcV (fb:Nat)(wf:World)(V:PtV)(st:PS)(w:World)(nv:Nat)(v2:Value)(W:World):Prop:=∃ v:Nat,v2=.i v/\v<=nv/\EcP fb wf V st w (zek st v) W
def EcC (fb:Nat)(wf:World)(V:PtV)(st:PS)(w:World)(P:Pr)(on:Nat->Bool)(v47:Value)(W:World):Prop:=∃ k x:Nat,v47=.i k/\k<=P.code.length/\x<2 ^ 48/\EcP fb wf V st w x W/\ze7 st on x k (P.code.drop k)=out0 P on st
def EcA (fb:Nat)(wf:World)(V:PtV)(st:PS)(w:World)(i:In)(M ib:Nat)(cs:Array Value)(v69:Value)(W:World):Prop:=∃ j x:Nat,v69=.i j/\j<=i.args.length/\x<2 ^ 48/\EcP fb wf V st w x W/\zdn st i.fn x (i.args.drop j)=M/\Blk W ib 309 cs
theorem zw8 (C:AX)(wf:World)(VF:FV)(Rs Bs:List Nat)(hF:zcs C wf VF Rs Bs)(V:PtV)(st:PS)(w:World)(h:PtAt wf.heap.size VF.fb wf V st 0 w)(hio:∀ (k:Nat) (i:In),C.P.code[k]?=some i->InOk i) :
  Calls prog 227 #[.p V.sb] w fun e w'=>e=.e/\∃ x,PtAt wf.heap.size VF.fb wf V st x w'/\x<2 ^ 48/\∀ o,x.testBit o=true↔OutP st (out0 C.P (onB C.P) st) o:=by
 have HF:=zH (fun(I:World) (hb:Below wf.heap.size wf I)=>(hF.below hb yL).f.h);have cc:=hF.f.h.c.wf.vl;have c7:=hF.f.h.c.wf.cl;have HC:=hF.f.h.c;have S:=zH (show ∀ n,st.ho n<2 ^ 48 from by
  obtain⟨_,_,_,h3⟩:=h.m;exact fun n=>(h3.sm n).1)
 have b5:Below w.heap.size w (w.alloc (.k #[.p V.sb] 298)):=yB.alloc yL _;have ST:=zH (show EcV VF.fb wf V st w C.P.nv (.i 0) (w.alloc (.k #[.p V.sb] 298))from⟨0,rfl,yD _,h.below b5,Blk.newAt rfl⟩);have c5:=zH hF;have bk:=zH hio;have H:=zH h;clear h hF b5 hio;have ca:∀ (fn:Fn) (first cap:Array Value) (w:World),(Instr.makeFunc fn first cap).run prog w=.ok (.func fn first cap) w:=fun _ _ _ _=>rfl;have c8:=fun(a b:Nat) (w:World)=>zl1 (zA a) (zA b) w;go_enter func227,ntmps227;go_wp2_with fail;go_loopw [2] (fun v2 wr=>EcV VF.fb wf V st w C.P.nv v2 wr) (fun v2 _=>C.P.nv-(intOf v2).toNat)
 case atStart=>exact ST.o
 case round =>
  obtain⟨v,rfl,hv,L⟩:=hrel;have Q:=zH L;obtain⟨mh,mt,mu,hm⟩:=L.p.m;have E:=hm.s;have G:=E.cell;unfold zdf at G;have R:=L.bx.cell;have a1:=L.bx.lt;have ap:=E.lt;obtain⟨a2,a3⟩:=(HF.o wr L.p.on).cells;have ak:=(HF.o wr L.p.on).f.lt;clear L;by_cases W:v<C.P.nv
  ·have bd:NdOk ⟨118,v,0⟩:=⟨by show 118<256;omega,by show v<1000000;omega,by show(-1000000:Int)<0;omega,by show(0:Int)<1000000;omega⟩;have A:(∀ j,wr.drew.cell? (.a V.sb j)=#[.p VF.fb,.m V.hb,.m V.tb,.m V.ub,zA (zek st v)][j]?)/\(Instr.lookup 378 (.m V.hb) (.agg #[.u 118,.i v,.i 0]) false).run prog wr.drew=.ok (.agg #[zA (st.ho ⟨118,v,0⟩),zA (st.ht ⟨118,v,0⟩)]) wr.drew/\wr.drew.cell? (.a w.heap.size 0)=some (.p V.sb) :=
    ⟨(hm.kp (PtKp.drew wr)).s.cell,(hm.kp (PtKp.drew wr)).look bd,Q.o.bx.drew.cell 0⟩
   have am:=zfj (zek st v) (st.ho ⟨118,v,0⟩) (zot S.o v) (S.o _);clear hm bd;go_wp2_with fail;clear G R a2 a3;have an:=E.drew;have G:=an.cell;have ao:=an.frozen;unfold zdf at G;refine rgl 15 (fun(I:World)=>(∀ j,I.cell? (.a V.sb j)=#[.p VF.fb,.m V.hb,.m V.tb,.m V.ub,zA (zek st v)][j]?)/\(Instr.lookup 378 (.m V.hb) (.agg #[.u 118,.i v,.i 0]) false).run prog I=.ok (.agg #[zA (st.ho ⟨118,v,0⟩),zA (st.ht ⟨118,v,0⟩)]) I/\I.cell? (.a w.heap.size 0)=some (.p V.sb)) ?_
   iterate 15(refine tK 0 rfl A ?_)
   refine lst rfl fun K hK=>?_;go_simp;refine hK _ _ ?_;clear hK K A;have REL:=zH (show EcV VF.fb wf V st w C.P.nv (.i ((v+1:Nat):Int)) (wr.drew.setCell (.a V.sb 4) (zA (zek st v|||st.ho ⟨118,v,0⟩)))from⟨v+1,rfl,W,(Q.o.below yB.drew).setOut _⟩);clear an G ao E am;go_wp2_with fail;go_roundw
   case rel=>rw[show((v:Int)+1)=((v+1:Nat):Int) by omega];exact REL.o
   case measure=>simp only[intOf];omega
  ·obtain rfl:v=C.P.nv:=yo;have bm:=zH (show EcC VF.fb wf V st w C.P (onB C.P) (.i 0) wr from⟨0,_,rfl,yD _,zot S.o _,Q.o,by rw[yal];rfl⟩);clear hm E;go_wp2_with fail;clear G R a1 ap a2 a3 ak Q;go_loopw [47] (fun v47 wr=>EcC VF.fb wf V st w C.P (onB C.P) v47 wr) (fun v47 _=>C.P.code.length-(intOf v47).toNat)
   case atStart=>exact bm.o
   case round =>
    obtain⟨k,x,rfl,hk,hx,L,hM⟩:=hrel;have Q:=zH L;have HM:=zH hM;obtain⟨mh,mt,mu,hm⟩:=L.p.m;have E:=hm.s;have G:=E.cell;unfold zdf at G;have R:=L.bx.cell;have a1:=L.bx.lt;have ap:=E.lt;have Y:=zH (HF.o wr L.p.on);obtain⟨a2,a3⟩:=Y.o.cells;have ak:=Y.o.f.lt;clear L hM hm;by_cases W:k<C.P.code.length
    ·obtain⟨i,hi⟩:∃ i,C.P.code[k]?=some i:=⟨_,yc W⟩;obtain⟨aa,ac,D,a7,c9⟩:=HC.ql Y.o.ve hi;have i0:wr.cell? (.a C.cg (k*14))=some (.i i.op):=D 0 yo;have i1:wr.cell? (.n C.cg k 1)=some (.i i.place):=D 1 yo;have i2:wr.cell? (.n C.cg k 2)=some (.i i.fn):=D 2 yo;have i3:wr.cell? (.n C.cg k 3)=some (.i i.x):=D 3 yo;have i4:wr.cell? (.n C.cg k 4)=some (.bool i.y.c):=D 4 yo;have i5:wr.cell? (.n C.cg k 5)=some (.i i.y.n):=D 5 yo;have i6:wr.cell? (.n C.cg k 6)=some (.bool i.z.c):=D 6 yo;have i7:wr.cell? (.n C.cg k 7)=some (.i i.z.n):=D 7 yo;have i8:wr.cell? (.n C.cg k 8)=some (.i i.bin):=D 8 yo;have i9:wr.cell? (.n C.cg k 9)=some (.i i.var):=D 9 yo;have br:wr.cell? (.n C.cg k 10)=some (.i i.site):=D 10 yo;have bu:wr.cell? (.n C.cg k 11)=some (.i i.call):=D 11 yo;have bz:wr.cell? (.n C.cg k 12)=some (.slice aa i.args.length ac):=D 12 yo;have c0:wr.cell? (.n C.cg k 13)=some (.i i.to):=D 13 yo;have HI:=zH hi;have ae:=zH (show ze7 st (onB C.P) (if onB C.P k&&decide (i.op=7)then zdn st i.fn x i.args else x) (k+1) (C.P.code.drop (k+1))=out0 C.P (onB C.P) st from by rw[<- HM.o,zae hi,ze7]);clear D hi HM;have ai:Below wr.heap.size wr (wr.alloc (.k (.j i (.slice aa i.args.length ac)) 309)):=yB.alloc yL _;have U:Blk (wr.alloc (.k (.j i (.slice aa i.args.length ac)) 309)) wr.heap.size 309 (.j i (.slice aa i.args.length ac)):=Blk.newAt rfl;have bj:=zH (show ∀ (j:Nat) (a:Ar),i.args[j]?=some a->∃ ag,aa=some (.a ag 0)/\∀ I,Below wf.heap.size wf I->I.cell? (.a ag (j*2))=some (.bool a.c)/\I.cell? (.a ag (j*2+1))=some (.i a.n)from fun j a hj=>by
      have W:j<i.args.length:=(yh.1 hj).1;obtain⟨ag,c6,hv,_,b7⟩:=a7.form yo;injection hv with e1 e2 e3;subst e1 e3;refine⟨ag,rfl,fun I hb=>?_⟩;have O:=(HF.o I hb).ve;rw[O.cell (p:=(.a ag _)) b7,O.cell (p:=(.a ag _)) b7,a7.cellAt (j*2) yo,a7.cellAt (j*2+1) yo];exact zmu hj)
     clear a7;go_wp2_with fail;generalize hW:wr.alloc (.k (.j i (.slice aa i.args.length ac)) 309)=wi at ai U |-;obtain⟨ib,a9⟩:∃ ib,ib=wr.heap.size:=⟨_,rfl⟩;rw[<- a9]at U |-;clear hW i0 i1 i2 i3 i4 i5 i6 i7 i8 i9 br bu bz c0 G a2 a3 R a1 ap ak E a9;have a6:=zH (Q.o.below ai);have au:=zH (HF.o wi a6.o.p.on);have Z:=zH U;have b8:=U.cell;have b9:=U.lt;clear U;refine(hasE _ VF.jf k (onB C.P) au.o.on yo).mono ?_;rintro e w2 ⟨rfl,rfl⟩;have a4:∀ b:Bool,(onB C.P k&&decide (i.op=7))=false->EcC VF.fb wf V st w C.P (onB C.P) (.i ((k+1:Nat):Int)) wi:=fun b hb=>⟨k+1,x,rfl,W,hx,a6.o,by have:=ae.o;rw[hb]at this;exact this⟩;have a0:=zH a4;clear a4;cases O:onB C.P k
     ·have REL:=zH (a0.o true (by rw[O];rfl));clear O a0;exact mLa
     ·by_cases h7:i.op=7
      ·have o7:((i.op:Int)==7)=true:=by rw[h7];rfl
       have aw:=zH (show ze7 st (onB C.P) (zdn st i.fn x i.args) (k+1) (C.P.code.drop (k+1))=out0 C.P (onB C.P) st from by have:=ae.o;rw[O,h7]at this;exact this);have az:=zH (show EcA VF.fb wf V st w i (zdn st i.fn x i.args) ib (.j i (.slice aa i.args.length ac)) (.i 0) wi from⟨0,x,rfl,yD _,hx,a6.o,by rw[yal],Z.o⟩);clear O h7 a0 ae;go_wp2_with fail;clear b8 b9;have bp:=hx;obtain⟨M,af⟩:∃ M,M=zdn st i.fn x i.args:=⟨_,rfl⟩;have b3:M<2 ^ 48:=by rw[af];exact zpp S.o _ _ _ hx
       rw[<- af]at aw az;clear af ai Q a6 au Y Z hx bp;obtain⟨_,c4,_,_,_,_,_,_,c3,cd⟩:=bk.o k i HI.o;go_loopw [69] (fun v69 wr=>EcA VF.fb wf V st w i M ib (.j i (.slice aa i.args.length ac)) v69 wr) (fun v69 _=>i.args.length-(intOf v69).toNat)
       case atStart=>exact az.o
       case round =>
        obtain⟨j,y,rfl,hj,hy,L,b2,b1⟩:=hrel;have Q:=zH L;have ad:=zH b2;have Z:=zH b1;clear L b2 b1;by_cases ab:j<i.args.length
        ·obtain⟨a,ha⟩:∃ a,i.args[j]?=some a:=⟨_,yc ab⟩;obtain⟨ag,bn,b4⟩:=bj.o j a ha;subst bn;have bo:=b4 wr Q.o.p.on;have a8:Below wr.heap.size wr (wr.alloc (.k #[.bool a.c,.i a.n] 306)):=yB.alloc yL _;have ah:Blk (wr.alloc (.k #[.bool a.c,.i a.n] 306)) wr.heap.size 306 #[.bool a.c,.i a.n]:=Blk.newAt rfl;have HA:=zH ha;have c2:=c3 a (yl ha);clear ha b4;go_wp2_with fail;generalize hW:(wr.alloc (.k #[.bool a.c,.i a.n] 306))=wa at a8 ah |-;clear hW bo;have a5:=zH (Q.o.below a8);have aq:=zH ah;have J:=zH (Z.o.below a8 Z.o.lt);have ay:=zH (show ∀ I,Below wa.heap.size wa I->(∀ j,I.cell? (.a V.sb j)=#[.p VF.fb,.m V.hb,.m V.tb,.m V.ub,zA y][j]?)/\I.cell? (.a w.heap.size 0)=some (.p V.sb)/\I.cell? (.a ib 2)=some (.i i.fn)/\(∀ j,I.cell? (.a wr.heap.size j)=#[.bool a.c,.i a.n][j]?)from fun I hb=>by
          obtain⟨_,_,_,h3⟩:=(a5.o.below hb).p.m;exact⟨h3.s.cell,(a5.o.below hb).bx.cell 0,(J.o.below hb J.o.lt).cell 2,(aq.o.below hb aq.o.lt).cell⟩)
         clear a8 ah;refine rgl 13 (fun(I:World)=>(∀ j,I.cell? (.a V.sb j)=#[.p VF.fb,.m V.hb,.m V.tb,.m V.ub,zA y][j]?)/\I.cell? (.a w.heap.size 0)=some (.p V.sb)/\I.cell? (.a ib 2)=some (.i i.fn)/\(∀ j,I.cell? (.a wr.heap.size j)=#[.bool a.c,.i a.n][j]?)) ?_;have A:=ay.o wa.drew yB.drew
         iterate 8(refine tK 0 rfl A ?_)
         refine rdy 8 rfl fun K hK=>?_;go_simp;refine(zlt wf.heap.size VF.fb wf V st y i.fn a wa.drew (a5.o.p.below yB.drew) c4 c2).mono ?_;rintro e w5 ⟨rfl,b6⟩;have N:Below wa.heap.size wa w5:=(yn _ wa).drew.trans (b6.mono yL);refine hK.o _ _ (ay.o w5 N) (fun A=>?_);clear hK K;have am:=zfj y (argO st i.fn a) hy (zjg S.o _ _)
         iterate 4(refine tK 9 rfl A ?_)
         have ax:=zH (a5.o.below N);obtain⟨_,_,_,bb⟩:=ax.o.p.m;have E:=bb.s;have G:=E.cell;have ao:=E.frozen;unfold zdf at G;clear bb;refine lst rfl fun K hK=>?_;go_simp;refine hK _ _ ?_;clear hK K A;have REL:=zH (show EcA VF.fb wf V st w i M ib _ (.i ((j+1:Nat):Int)) (w5.setCell (.a V.sb 4) (zA (y|||argO st i.fn a)))from
          ⟨j+1,_,rfl,ab,yJ hy (zjg S.o _ _),ax.o.setOut _,by rw[<- ad.o,zae HA.o,zdn],(J.o.below N J.o.lt).qi (p:=(.a V.sb 4)) ((J.o.below N J.o.lt).qs E yd) _⟩)
         clear E G ao am b6 N;go_wp2_with fail;go_roundw
         case rel=>rw[show((j:Int)+1)=((j+1:Nat):Int) by omega];exact REL.o
         case measure=>simp only[intOf];omega
        ·obtain rfl:j=i.args.length:=yo;have bh:y=M:=by rw[<- ad.o,yaa,zdn]
         rw[bh]at Q;have REL:=zH (show EcC VF.fb wf V st w C.P (onB C.P) (.i ((k+1:Nat):Int)) wr from⟨k+1,M,rfl,W,b3,Q.o,aw.o⟩);clear bh ad;exact mLa
      ·have o7:((i.op:Int)==7)=false:=zI yo;have REL:=zH (a0.o true (by rw[decide_eq_false h7,ycc]));clear O a0 h7;exact mLa
    ·obtain rfl:k=C.P.code.length:=yo;have bq:x=out0 C.P (onB C.P) st:=by rw[<- HM.o,yaa,ze7]
     subst bq;clear E a2 a3 G Y;go_wp2_with fail;have aj:Below wr.heap.size wr (wr.alloc (.k #[.func (.func 282) #[] #[.p w.heap.size]] 37)):=yB.alloc yL _;refine(zxf (Q.o.below aj).p hx w.heap.size wr.heap.size (Q.o.below aj).bx (Blk.newAt rfl)).mono ?_;rintro e w9 ⟨rfl,y,bf,bg,be⟩;have bi:=zH (show ∃ x,PtAt wf.heap.size VF.fb wf V st x w9/\x<2 ^ 48/\∀ o,x.testBit o=true↔OutP st (out0 C.P (onB C.P) st) o from⟨y,bf,bg,be⟩);clear bf bg be aj;go_wp2_with fail
     first | go_end0 | refine ym (yp rfl _ _ _) rfl ?_
     exact⟨rfl,bi.o⟩
def zf8 (on:Nat->Bool):List In->Nat->PS->PS
 | [],_,st=>st
 | i::l,k,st=>zf8 on l (k+1) (if on k then zM st i else st)
noncomputable def zgx (P:Pr):PS:=zf8 (onB P) P.code 0 PS.none
structure PtsIs (P:Pr)(st:PS)(x:Nat):Prop where
 ho:∀ n k,(st.ho n).testBit k=true↔zc2 (zgx P) n false k
 ht:∀ n k,(st.ht n).testBit k=true↔zc2 (zgx P) n true k
 sm:∀ n,st.ho n<2 ^ 48/\st.ht n<2 ^ 48
 o:∀ o,x.testBit o=true↔OutP st (out0 P (onB P) st) o
 xs:x<2 ^ 48
theorem PtU.sub {U U':List Nd}(h:PtU U st)(hs:∀ n ∈ U,n ∈ U'):PtU U' st :=
 ⟨fun a b e=>⟨hs _ (h.ed a b e).1,hs _ (h.ed a b e).2⟩,fun n u hu=>⟨(h.us n u hu).1,(h.us n u hu).2.1,hs _ (h.us n u hu).2.2.1,fun o ho=>hs _ ((h.us n u hu).2.2.2 o ho)⟩,h.ul⟩
def UEx (st:PS):Prop:=∃ U,PtU U st
theorem UEx.edge (h:UEx st)(a b:Nd):UEx (zx st a b):=by
 obtain⟨U,h⟩:=h;exact⟨a::b::U,(h.sub fun n hn=>yad _ (yad _ hn)).edge yy yy⟩
theorem UEx.grow (h:UEx st)(n:Nd)(o t:Nat):UEx (zar st n o t):=by
 obtain⟨U,h⟩:=h;exact⟨U,h.grow n o t⟩
theorem UEx.from (h:UEx st)(fn:Nat)(a:Ar)(n:Nd):UEx (zak st fn a n):=by
 unfold zak;split
 ·exact h
 ·exact h.edge _ _
theorem UEx.args (fn call:Nat):∀ (l:List Ar) (k:Nat) (st:PS),UEx st->UEx (zax st fn call l k)
 | [],_,_,h=>h
 | _::l,k,_,h=>UEx.args fn call l (k+1) _ (h.from _ _ _)
theorem UEx.use (h:UEx st)(n:Nd)(u:Use)(hn:NdOk u.n)(hf:u.f<1000000)(hl:(st.us n).length<999):UEx (useM st n u):=by
 obtain⟨U,h⟩:=h;have D:∀ m ∈ U,m ∈ u.n::((List.range 48).map fun o=>(⟨102,o,u.f⟩:Nd))++U:=fun m hm=>yu.2 (.inr hm);refine⟨_,⟨fun a b e=>⟨D _ (h.ed a b e).1,D _ (h.ed a b e).2⟩,fun m v hv=>?_,fun m=>?_⟩⟩
 ·simp only[useM]at hv;have A:v ∈ st.us m->NdOk v.n/\v.f<1000000/\v.n ∈ u.n::((List.range 48).map fun o=>(⟨102,o,u.f⟩:Nd))++U/\∀ o:Nat,o<48->(⟨102,o,v.f⟩:Nd) ∈ u.n::((List.range 48).map fun o=>(⟨102,o,u.f⟩:Nd))++U:=fun hv =>
   ⟨(h.us m v hv).1,(h.us m v hv).2.1,D _ (h.us m v hv).2.2.1,fun o ho=>D _ ((h.us m v hv).2.2.2 o ho)⟩
  split at hv
  ·rcases yu.1 hv with hv | hv
   ·exact A hv
   ·have e:v=u:=by simpa using hv
    subst e;exact⟨hn,hf,by simp,fun o ho=>yu.2 (.inl (yad _ (yae.2 ⟨o,yaf.2 ho,rfl⟩)))⟩
  ·exact A hv
 ·simp only[useM];split
  ·rename_i e;subst e;rw[yx];simp;omega
  ·exact h.ul m
theorem zni (st:PS)(fn:Nat)(a:Ar)(n:Nd):(zak st fn a n).us=st.us:=by
 unfold zak;split <;> rfl
theorem ruleM_ok {i:In}{k:Nat}(hi:InOk i)(h:UEx st)(hk:k<900)(hl:∀ n,(st.us n).length<=k):UEx (zM st i)/\∀ n,((zM st i).us n).length<=k+1:=by
 have A:∀ n,(st.us n).length<=k+1:=fun n=>ya (hl n) (ya3 _);have I:NdOk (loc i.fn i.x):=⟨by show 108<256;omega,hi.fn,hi.x⟩;have J:NdOk (loc i.fn i.y.n):=⟨by show 108<256;omega,hi.fn,by have:=hi.y;show -1000000<(i.y.n:Int);omega,by have:=hi.y;show(i.y.n:Int)<1000000;omega⟩;have hu:∀ (n:Nd) (u:Use) m,((useM st n u).us m).length<=k+1:=fun n u m=>by
  simp only[useM];split
  ·rw[yx];have:=hl m;simp;omega
  ·exact A m
 have E:∀ n,(st.us n).length<999:=fun n=>by have:=hl n;omega
 by_cases h1:i.op=1
 ·by_cases hb:i.bin=0
  ·have e:zM st i=zak st i.fn i.y (loc i.fn i.x):=by unfold zM;rw[yj h1,yj hb]
   rw[e];exact⟨h.from _ _ _,fun n=>by rw[zni];exact A n⟩
  ·have e:zM st i=st:=by unfold zM;rw[yj h1,yg hb]
   rw[e];exact⟨h,A⟩
 by_cases h2:i.op=2
 ·have e:zM st i=zx st ⟨118,i.var,0⟩ (loc i.fn i.x):=by unfold zM;rw[yg h1,yj h2]
  rw[e];exact⟨h.edge _ _,A⟩
 by_cases h3:i.op=3
 ·have e:zM st i=zak st i.fn i.y ⟨118,i.var,0⟩:=by unfold zM;rw[yg h1,yg h2,yj h3]
  rw[e];exact⟨h.from _ _ _,fun n=>by rw[zni];exact A n⟩
 by_cases h6:i.op=6
 ·have e:zM st i=zar st (loc i.fn i.x) (2 ^ i.site) 0:=by unfold zM;rw[yg h1,yg h2,yg h3,yj h6]
  rw[e];exact⟨h.grow _ _ _,A⟩
 by_cases h4:i.op=4
 ·have e:zM st i=if i.y.c then st else useM st (loc i.fn i.y.n) ⟨i.var,loc i.fn i.x,false⟩:=by unfold zM;rw[yg h1,yg h2,yg h3,yg h6,yj h4]
  rw[e];cases i.y.c
  ·exact⟨h.use _ _ I hi.var (E _),hu _ _⟩
  ·exact⟨h,A⟩
 by_cases h5:i.op=5
 ·have e:zM st i=if i.y.c then st else useM st (loc i.fn i.x) ⟨i.var,loc i.fn i.y.n,true⟩:=by unfold zM;rw[yg h1,yg h2,yg h3,yg h6,yg h4,yj h5]
  rw[e];cases i.y.c
  ·exact⟨h.use _ _ J hi.var (E _),hu _ _⟩
  ·exact⟨h,A⟩
 by_cases D:i.op=12
 ·have e:zM st i=zak st i.fn i.y ⟨114,i.fn,0⟩:=by unfold zM;rw[yg h1,yg h2,yg h3,yg h6,yg h4,yg h5,yj D]
  rw[e];exact⟨h.from _ _ _,fun n=>by rw[zni];exact A n⟩
 by_cases h7:i.op=7\/i.op=11
 ·have e:zM st i=(if i.x<0 then zax st i.fn i.call i.args 0 else if i.op=7 then zar (zax st i.fn i.call i.args 0) (loc i.fn i.x) 0 (2 ^ i.site)else zx (zax st i.fn i.call i.args 0) ⟨114,i.call,0⟩ (loc i.fn i.x)):=by unfold zM;rw[yg h1,yg h2,yg h3,yg h6,yg h4,yg h5,yg D,yj h7]
  rw[e];have G:=UEx.args i.fn i.call i.args 0 st h;have H:∀ n,((zax st i.fn i.call i.args 0).us n).length<=k+1:=fun n=>by rw[zpq];exact A n
  by_cases hx:i.x<0
  ·rw[yj hx];exact⟨G,H⟩
  rw[yg hx];by_cases ho:i.op=7
  ·rw[yj ho];exact⟨G.grow _ _ _,H⟩
  ·rw[yg ho];exact⟨G.edge _ _,H⟩
 ·have e:zM st i=st:=by unfold zM;rw[yg h1,yg h2,yg h3,yg h6,yg h4,yg h5,yg D,yg h7]
  rw[e];exact⟨h,A⟩
theorem UEx.none:UEx PS.none:=⟨[],⟨fun _ _ h=>(by cases h),fun _ _ h=>(by cases h),fun _=>by simp[PS.none]⟩⟩
theorem zz8 (args:Array Value)(w:World):(callFunc 225 args).run prog w=.ok (.enter 225 args) w:=enters_of func225 yk rfl args w
theorem z0b (args:Array Value)(w:World):(callFunc 226 args).run prog w=.ok (.enter 226 args) w:=enters_of func226 yk rfl args w
theorem fix_sets {U:List Nd}{st0:PS}{out:Nat}(h:PtAt wf.heap.size fb wf V st0 out w)(hu:PtU U st0)(rb:Nat)
  (hr:Blk w rb 37 #[.func (.func 225) #[.p V.sb] #[],.func (.func 226) #[.p V.sb] #[]]) :
  Calls prog 221 #[.s rb 2 2] w fun e w'=>e=.e/\∃ st,PtAt wf.heap.size fb wf V st out w'/\(∀ n k,(st.ho n).testBit k=true↔zc2 st0 n false k)/\(∀ n k,(st.ht n).testBit k=true↔zc2 st0 n true k):=by
 refine(zjo (za5 U st0 fb wf w V out) (zbm U) [⟨225,#[.p V.sb],#[]⟩,⟨226,#[.p V.sb],#[]⟩] [FdCl,SpCl] rb 2 w st0 rfl yy ⟨h,hu,PSnd.refl st0,NmFr.refl w⟩ ?_ ?_).mono ?_
 ·intro s W D j r A;have hb:=hr.nm D.n;cases j with
  | zero=>simp at A;subst A;exact hb.cell 0
  | succ j=>cases j with
   | zero=>simp at A;subst A;exact hb.cell 1
   | succ j=>simp at A
 ·intro j r c A G;cases j with
  | zero =>
   simp at A G;subst A G;exact⟨zz8,fun s W D=>zxa U st0 fb wf w V out s W D⟩
  | succ j=>cases j with
   | zero =>
    simp at A G;subst A G;exact⟨z0b,fun s W D=>z0o U st0 fb wf w V out s W D⟩
   | succ j=>simp at A
 ·rintro e w' ⟨st,rfl,D,E⟩;exact⟨rfl,st,D.p,D.s.done (E SpCl yy) (E FdCl yy)⟩
def PoR (C:AX)(VF:FV)(w:World)(V:PtV)(v19:Value)(W:World):Prop :=
 ∃ (k:Nat) (st:PS),v19=.i k/\k<=C.P.code.length/\PtAt w.heap.size VF.fb w V st 0 W/\UEx st/\(∀ n,(st.us n).length<=k)/\zf8 (onB C.P) (C.P.code.drop k) k st=zgx C.P
def zo6 (C:AX)(VF:FV)(w:World)(e:Ending)(w':World):Prop :=
 ∃ (V:PtV) (st:PS) (x:Nat),e=.r (.p V.sb)/\PtAt w.heap.size VF.fb w V st x w'/\PtsIs C.P st x/\Below w.heap.size w w'
theorem zzo (C:AX)(w:World)(VF:FV)(Rs Bs:List Nat)(hF:zcs C w VF Rs Bs)(hio:∀ (k:Nat) (i:In),C.P.code[k]?=some i->InOk i) :
  Calls prog 152 #[.p VF.fb] w (zo6 C VF w):=by
 have HF:=zH (fun(W':World) (hb:Below w.heap.size w W')=>(hF.below hb yL).f.h);have af:=hF.f.h.c.wf.cl;have HC:=hF.f.h.c;have a8:=zH hF;have J:=zH hio;clear hio hF;have ag:∀ (fn:Fn) (first cap:Array Value) (w:World),(Instr.makeFunc fn first cap).run prog w=.ok (.func fn first cap) w:=fun _ _ _ _=>rfl;have ad:=@run_makeMap prog;have G:Below w.heap.size w ((((w.alloc (.map #[] 0)).alloc (.map #[] 0)).alloc (.map #[] 0)).alloc (.k #[.p VF.fb,.m w.heap.size,.m (w.heap.size+1),.m (w.heap.size+1+1),.int .u64 0] 383)):=(((yB.alloc yL _).alloc yy _).alloc (by simp;omega) _).alloc (by simp;omega) _;obtain⟨D,E⟩:=(HF.o _ G).cells;have Q:PtM ((((w.alloc (.map #[] 0)).alloc (.map #[] 0)).alloc (.map #[] 0)).alloc (.k #[.p VF.fb,.m w.heap.size,.m (w.heap.size+1),.m (w.heap.size+1+1),.int .u64 0] 383)) w.heap.size VF.fb ⟨w.heap.size+1+1+1,w.heap.size,w.heap.size+1,w.heap.size+1+1⟩ PS.none 0 [] [] []:=by
  have m1:∀ {ν : Type} {A:ν -> Value},zG ((((w.alloc (.map #[] 0)).alloc (.map #[] 0)).alloc (.map #[] 0)).alloc (.k #[.p VF.fb,.m w.heap.size,.m (w.heap.size+1),.m (w.heap.size+1+1),.int .u64 0] 383)) w.heap.size ndV NdOk A []:=fun {ν A}=>zG.alloc (zG.alloc (zG.alloc (zG.made w ndV NdOk A) _) _) _;have m2:∀ {ν : Type} {A:ν -> Value},zG ((((w.alloc (.map #[] 0)).alloc (.map #[] 0)).alloc (.map #[] 0)).alloc (.k #[.p VF.fb,.m w.heap.size,.m (w.heap.size+1),.m (w.heap.size+1+1),.int .u64 0] 383)) (w.heap.size+1) ndV NdOk A []:=fun {ν A}=>zG.alloc (zG.alloc (by have:=zG.made (w.alloc (.map #[] 0)) ndV NdOk A;rwa [ybq]at this) _) _;have m3:∀ {ν : Type} {A:ν -> Value},zG ((((w.alloc (.map #[] 0)).alloc (.map #[] 0)).alloc (.map #[] 0)).alloc (.k #[.p VF.fb,.m w.heap.size,.m (w.heap.size+1),.m (w.heap.size+1+1),.int .u64 0] 383)) (w.heap.size+1+1) ndV NdOk A []:=fun {ν A}=>zG.alloc (by have:=zG.made ((w.alloc (.map #[] 0)).alloc (.map #[] 0)) ndV NdOk A;rwa [ybq,ybq]at this) _;exact⟨Blk.newAt yy,m1,fun _=>rfl,m2,by simp,fun _ _ h=>by simp at h,fun _ _ _=>rfl,m3,fun _ _ h=>by simp at h,fun _ _ _ _ h=>by simp at h,fun _ _=>rfl,⟨by show w.heap.size<=w.heap.size+1+1+1;omega,yr _,by show w.heap.size<=w.heap.size+1;omega,by show w.heap.size<=w.heap.size+1+1;omega⟩,
   ⟨by show w.heap.size≠w.heap.size+1;omega,by show w.heap.size≠w.heap.size+1+1;omega,by show w.heap.size+1≠w.heap.size+1+1;omega⟩,fun _=>⟨by simp[PS.none],by simp[PS.none]⟩⟩
 have ST:=zH (show PoR C VF w ⟨w.heap.size+1+1+1,w.heap.size,w.heap.size+1,w.heap.size+1+1⟩ (.i 0) ((((w.alloc (.map #[] 0)).alloc (.map #[] 0)).alloc (.map #[] 0)).alloc (.k #[.p VF.fb,.m w.heap.size,.m (w.heap.size+1),.m (w.heap.size+1+1),.int .u64 0] 383))from⟨0,PS.none,rfl,yD _,⟨G,G.size,_,_,_,Q⟩,UEx.none,fun n=>by simp[PS.none],by rw[yal];rfl⟩);clear Q G;go_enter func152,ntmps152;go_wp2_with fail;obtain⟨V,hV⟩:∃ V:PtV,V=⟨w.heap.size+1+1+1,w.heap.size,w.heap.size+1,w.heap.size+1+1⟩:=⟨_,rfl⟩;rw[<- hV]at ST;have S:w.heap.size+1+1+1=V.sb:=by rw[hV]
 generalize hW:((((w.alloc (.map #[] 0)).alloc (.map #[] 0)).alloc (.map #[] 0)).alloc (.k #[.p VF.fb,.m w.heap.size,.m (w.heap.size+1),.m (w.heap.size+1+1),.int .u64 0] 383))=w1 at D E ST |-;simp only[S];clear hW hV S D E ad;go_loopw [19] (fun v19 wr=>PoR C VF w V v19 wr) (fun v19 _=>C.P.code.length-(intOf v19).toNat)
 case atStart=>exact ST.o
 case round =>
  obtain⟨k,st,rfl,hk,hP,R,hL,hM⟩:=hrel;have HP:=zH hP;have HU:=zH R;have HL:=zH hL;have HM:=zH hM;have I:=zH (HF.o wr hP.on);obtain⟨D,E⟩:=I.o.cells;have Y:=I.o.f.lt;clear hP R hL hM;by_cases L:k<C.P.code.length
  ·obtain⟨i,hi⟩:∃ i,C.P.code[k]?=some i:=⟨_,yc L⟩;have HI:=zH hi;have K:=zH (show zf8 (onB C.P) (C.P.code.drop (k+1)) (k+1) (if onB C.P k then zM st i else st)=zgx C.P from by rw[<- HM.o,zae hi,zf8]);clear hi HM;go_wp2_with fail;refine(hasE _ VF.jf k (onB C.P) I.o.on yo).mono ?_;rintro e w2 ⟨rfl,rfl⟩;cases hon:onB C.P k
   ·have REL:=zH (show PoR C VF w V (.i ((k+1:Nat):Int)) wr from⟨k+1,st,rfl,L,HP.o,HU.o,fun n=>ya (HL.o n) (ya3 _),by have:=K.o;rw[hon]at this;exact this⟩);clear hon;exact mLa
   ·have a2:=ruleM_ok (J.o k i HI.o) HU.o yo HL.o;have O:=zH a2;have ac:=zH (rule_any C HC w (HF.o w yB).ve VF.fb V st 0 k i HI.o (J.o k i HI.o) wr HP.o (fun n=>by have:=HL.o n;omega));have ab:=zH (show zf8 (onB C.P) (C.P.code.drop (k+1)) (k+1) (zM st i)=zgx C.P from by have:=K.o;rw[hon]at this;exact this);clear a2 hon K;go_wp2_with fail;refine ac.o.mono ?_;rintro e w3 ⟨rfl,a3⟩;have REL:=zH (show PoR C VF w V (.i ((k+1:Nat):Int)) w3 from⟨k+1,_,rfl,L,a3,O.o.1,O.o.2,ab.o⟩);clear a3 D E Y;exact mLa
  ·obtain rfl:k=C.P.code.length:=yo;have a4:st=zgx C.P:=by rw[<- HM.o,yaa,zf8]
   rw[a4]at HP HU;clear a4 HL HM;obtain⟨U,R⟩:=HU.o;have W:Below wr.heap.size wr (wr.alloc (.k #[.func (.func 225) #[.p V.sb] #[],.func (.func 226) #[.p V.sb] #[]] 37)):=yB.alloc yL _;have HX:=zH (fix_sets (HP.o.below W) R wr.heap.size (Blk.newAt rfl));clear W R;go_wp2_with fail;refine HX.o.mono ?_;rintro e w5 ⟨rfl,st,N,Z,a0⟩;have a7:=zH (zw8 C w VF Rs Bs a8.o V st w5 N J.o);have a9:=zH Z;have aa:=zH a0;have ae:=zH N;clear N Z a0 D E Y;go_wp2_with fail;refine a7.o.mono ?_;rintro e w6 ⟨rfl,x,H,a5,a1⟩;have a6:=zH (show zo6 C VF w (.r (.p V.sb)) w6 from⟨V,st,x,rfl,H,⟨a9.o,aa.o,by
    obtain⟨_,_,_,h3⟩:=H.m;exact h3.sm,a1,a5⟩,H.on⟩)
   clear H a5 a1;go_wp2;go_ret;exact a6.o
end Go.Proofs.YtkmcihhndgdhpaaGreat
