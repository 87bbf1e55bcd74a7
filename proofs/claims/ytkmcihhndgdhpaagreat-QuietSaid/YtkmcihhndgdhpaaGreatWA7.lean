/- Parts of the walk. -/
import Derived.Test.YtkmcihhndgdhpaaGreatWA6
import Derived.OrdersIn
import Derived.Shelf.Abstract
import Derived.Shelf.RegionOpen
import Derived.OwnWalkIn
import Derived.TacticsInMore
import Derived.LoopNIn
import Derived.LoopIn
set_option maxRecDepth 100000
set_option maxHeartbeats 4000000
set_option linter.unusedSimpArgs false
set_option linter.unusedVariables false
open Go.Maps Go.RowKit Go.Shelf Go.Proofs.Tryz
namespace Go.Proofs.YtkmcihhndgdhpaaGreat
variable {w W W':World}{k g s B N i cap x j:Nat}{a:Act}{last o:Oper}{t:TypeId}{l:List Oper}{lo ma S:Nat→Bool}{cs:Array Value}{P:Pr}{ds:List Deferred}{Ms:List Bool}{Rs b0:List Nat}{RS:Nat→Nat→Bool}
theorem mSa {p:Prop}(h:p:=by
  go_wp2;go_roundg (C.P.code.length-(k+1))
  case measure=>have:=HGK.o;omega
  case rel=>rw[show((k:Int)+1)=((k+1:Nat):Int) by omega];exact REL.o):p:=h
theorem mOb {p:Prop}(h:p:=by
  go_wp2;go_roundg (C.P.fs.length-(j+1))
  case measure=>have:=HG.o;omega
  case rel=>rw[show((j:Int)+1)=((j+1:Nat):Int) by omega];exact REL.o):p:=h
theorem mQb {p:Prop}(h:p:=by
  go_wp2;go_roundg (f.to-(k+1))
  case measure=>have:=HK.o;omega
  case rel=>rw[show((k:Int)+1)=((k+1:Nat):Int) by omega];exact REL.o):p:=h
theorem mLc {p:Prop}(h:p:=by
  clear h13;have HK:=zH hk1;clear hk1;go_enter func219,ntmps219;go_wp2;go_ret;exact .made (l:=[k+1,i.to]) (Blk.newAt yy) yy yy yy ((yB.alloc yL _).alloc yy _)):p:=h
section
structure WfPr (P:Pr):Prop where
 cl:P.code.length<=300
 c1:1<=P.code.length
 fl:P.fs.length<=5
 nl:P.news.length<=6
 gl:P.qg.length<=5
 vl:P.nv<=5
 ml:P.nm<=3
 main:P.main<P.fs.length
 fn:∀ (k:Nat) (i:In),P.code[k]?=some i->i.fn<P.fs.length
 call:∀ (k:Nat) (i:In),P.code[k]?=some i->i.op=11\/i.op=7->∃ f:Fu,P.fs[i.call]?=some f/\i.args.length=f.params
 next:∀ (k:Nat) (i:In),P.code[k]?=some i->i.op≠12->i.op≠20->k+1<P.code.length
 jump:∀ (k:Nat) (i:In),P.code[k]?=some i->i.op=13\/i.op=14\/i.op=20->i.to<P.code.length
 from_:∀ (k:Nat) (f:Fu),P.fs[k]?=some f->f.from_<P.code.length/\f.to<=P.code.length
 qg:∀ (s k:Nat),P.qg[s]?=some k->∃ i:In,P.code[k]?=some i/\i.op=7/\i.site=s
 args:∀ (k:Nat) (i:In),P.code[k]?=some i->i.args.length<=3
structure AX where
 w0:World
 B:Nat
 pb:Nat
 P:Pr
 X:PV
 fg:Nat
 fcap:Nat
 cg:Nat
 ccap:Nat
structure AXok (C:AX):Prop where
 prog:zc3 C.w0 C.B C.pb C.P C.X
 wf:WfPr C.P
 fsv:C.X.fsv=.s C.fg C.P.fs.length C.fcap
 cv:C.X.cv=.s C.cg C.P.code.length C.ccap
theorem zc3.ax {w:World}{pb:Nat}{X:PV}(h:zc3 w B pb P X)(hw:WfPr P):∃ fg fcap cg ccap,AXok ⟨w,B,pb,P,X,fg,fcap,cg,ccap⟩:=by
 obtain⟨fg,fcap,h1,_,_⟩:=h.fr.form (yag yZ hw.main);obtain⟨cg,ccap,h2,_,_⟩:=h.cr.form hw.c1;exact⟨fg,fcap,cg,ccap,h,hw,h1,h2⟩
abbrev AX.on (C:AX)(w:World):Prop:=Below C.w0.heap.size C.w0 w
theorem zqc:∀ {ags:List Value} {code:List In} {k:Nat} {a:Value} {i:In},ags[k]?=some a->code[k]?=some i->∀ j,j<14->(zbg ags code)[k*14+j]? = (zV i a)[j]?
 | [],_,k,a,i,h,_,_,_=>by simp at h
 | _::_,[],k,a,i,_,h,_,_=>by simp at h
 | b::ags,c::code,0,a,i,h,hi,j,hj=>by
  simp at h hi;subst h hi;show(zV c b++zbg ags code)[0*14+j]? = _;rw[yz (by show _<14;omega),ycn,ybf]
 | b::ags,c::code,k+1,a,i,h,hi,j,hj=>by
  show(zV c b++zbg ags code)[(k+1)*14+j]? = _;rw[yC (by show 14<=_;omega),show(k+1)*14+j-(zV c b).length=k*14+j by show _-14=_;omega];exact zqc (by simpa using h) (by simpa using hi) j hj
section
variable {C:AX} {w:World}
theorem AXok.vt (h:AXok C)(hb:C.on w):∀ i,w.cell? (.a C.pb i)=#[.p C.X.tb,.i C.P.nv,.i C.P.nm,.s C.fg C.P.fs.length C.fcap,.s C.cg C.P.code.length C.ccap,C.X.av,C.X.nv,C.X.gv,.i C.P.main][i]? := by
 have:=(h.prog.p.below hb h.prog.p.lt).cell;unfold zoa at this;rw[h.fsv,h.cv]at this;exact this
theorem AXok.jd (h:AXok C)(hb:C.on w){f:Fu}(hf:C.P.fs[k]?=some f)(j:Nat)(hj:j<5):w.cell? (.a C.fg (k*5+j))=(zal f)[j]? := by
 have A:=h.prog.fr;rw[h.fsv]at A;have D:k<C.P.fs.length:=(yh.1 hf).1;rw[hb.cell (p:=(.a C.fg _)) (A.lt C.fg rfl).2,A.cellAt (k*5+j) yo,zjt hf j hj]
theorem AXok.ql (h:AXok C)(hb:C.on w){i:In}(hi:C.P.code[k]?=some i):∃ E G,(∀ j,j<14->w.cell? (.n C.cg k j)=(zV i (.slice E i.args.length G))[j]?)/\zfq C.w0 C.B (.slice E i.args.length G) i.args/\k<C.P.code.length:=by
 have H:=h.prog.cr;rw[h.cv]at H;have D:k<C.P.code.length:=(yh.1 hi).1;obtain⟨a,I⟩:∃ a,C.X.ags[k]?=some a:=⟨_,yc (by rw[h.prog.asl];exact D)⟩;have A:=h.prog.ar k a i I hi;obtain⟨E,G,rfl⟩:=zX A;refine⟨E,G,fun j J=>?_,A,D⟩;rw[hb.cell (p:=(.a C.cg _)) (H.lt C.cg rfl).2,H.cellAt (k*14+j) yo,zqc I hi j J]
end
def zf4 (k:Nat)(i:In):List Nat:=if i.op=12 then []else if i.op=20 then [i.to]else if i.op=13\/i.op=14 then [k+1,i.to]else [k+1]
def zS (P:Pr)(k:Nat):List Nat:=match P.code[k]? with | some i=>zf4 k i | none=>[]
theorem row_made {w:World}{l:List Nat}(hb:Blk W g 3 (ints l).toArray)(hB:B<=g)(hl:l.length<1000000):W.ownsRow B 3 1 (.s g l.length l.length) l.length (ints l) :=
 ⟨by simp,.inr ⟨g,l.length,(ints l).toArray,rfl,hB,hb,yr _,by unfold maxLen;omega,by simp,by simp[ycb]⟩⟩
theorem zad.nil {w:World}(hb:Below w.heap.size w W):zad w [] (.r (.z)) W:=⟨_,rfl,yA _ _ _ _,fun _=>rfl,hb⟩
theorem zad.made {w:World}{l:List Nat}(hb:Blk W g 3 (ints l).toArray)(hB:w.heap.size<=g)(hl:l.length<1000000)(h1:1<=l.length)(hbl:Below w.heap.size w W):zad w l (.r (.s g l.length l.length)) W :=
 ⟨_,rfl,row_made (w:=w) hb hB hl,fun h=>by omega,hbl⟩
theorem zjq (C:AX)(HC:AXok C)(w:World)(fb k:Nat)(i:In)(hon:C.on w)(hf:w.cell? (.a fb 0)=some (.p C.pb))(hi:C.P.code[k]?=some i) :
  Calls prog 219 #[.p fb,.i k] w (zad w (zS C.P k)):=by
 obtain⟨I,J,A,_,L⟩:=HC.ql hon hi;have Y:=HC.vt hon;have G:zS C.P k=zf4 k i:=by unfold zS;rw[hi]
 rw[G];have K:=HC.wf.cl;have Z:w.cell? (.a C.cg (k*14))=some (.i i.op):=A 0 yo;have i1:w.cell? (.n C.cg k 1)=some (.i i.place):=A 1 yo;have i2:w.cell? (.n C.cg k 2)=some (.i i.fn):=A 2 yo;have i3:w.cell? (.n C.cg k 3)=some (.i i.x):=A 3 yo;have i4:w.cell? (.n C.cg k 4)=some (.bool i.y.c):=A 4 yo;have i5:w.cell? (.n C.cg k 5)=some (.i i.y.n):=A 5 yo;have i6:w.cell? (.n C.cg k 6)=some (.bool i.z.c):=A 6 yo;have i7:w.cell? (.n C.cg k 7)=some (.i i.z.n):=A 7 yo;have i8:w.cell? (.n C.cg k 8)=some (.i i.bin):=A 8 yo;have i9:w.cell? (.n C.cg k 9)=some (.i i.var):=A 9 yo;have N:w.cell? (.n C.cg k 10)=some (.i i.site):=A 10 yo;have O:w.cell? (.n C.cg k 11)=some (.i i.call):=A 11 yo;have Q:w.cell? (.n C.cg k 12)=some (.slice I i.args.length J):=A 12 yo;have R:w.cell? (.n C.cg k 13)=some (.i i.to):=A 13 yo;clear A G hi;unfold zf4;by_cases D:i.op=12
 ·rw[yj D];have S:((i.op:Int)==12)=true:=by rw[D];rfl
  clear D;go_enter func219,ntmps219;go_wp2;go_ret;exact .nil (yB.alloc yL _)
 have S:((i.op:Int)==12)=false:=zI yo;rw[yg D];clear D;by_cases E:i.op=20
 ·rw[yj E];have U:((i.op:Int)==20)=true:=by rw[E];rfl
  clear E;go_enter func219,ntmps219;go_wp2;go_ret;exact .made (l:=[i.to]) (Blk.newAt yy) yy yy yy ((yB.alloc yL _).alloc yy _)
 have U:((i.op:Int)==20)=false:=zI yo;rw[yg E];clear E;have hk1:((k+1:Nat):Int)=(k:Int)+1:=yo;by_cases h13:i.op=13\/i.op=14
 ·rw[yj h13];rcases h13 with h13 | h13
  ·have H:((i.op:Int)==13)=true:=by rw[h13];rfl
   exact mLc
  ·have H:((i.op:Int)==13)=false:=by rw[h13];rfl
   have W:((i.op:Int)==14)=true:=by rw[h13];rfl
   exact mLc
 ·have H:((i.op:Int)==13)=false:=zI yo;have W:((i.op:Int)==14)=false:=zI yo;rw[yg h13];clear h13;have HK:=zH hk1;clear hk1;go_enter func219,ntmps219;go_wp2;go_ret;exact .made (l:=[k+1]) (Blk.newAt yy) yy yy yy ((yB.alloc yL _).alloc yy _)
end
inductive Jc | mk (C:AX)
instance {C:AX}:CoeDep Jc (.mk C) (Array Value):=⟨#[.pointer (some ⟨C.X.tb,0,none⟩),.int .i64 (C.P.nv:Int),.int .i64 (C.P.nm:Int),.slice (some ⟨C.fg,0,none⟩) C.P.fs.length C.fcap,.slice (some ⟨C.cg,0,none⟩) C.P.code.length C.ccap,C.X.av,C.X.nv,C.X.gv,.int .i64 (C.P.main:Int)]⟩
end Go.Proofs.YtkmcihhndgdhpaaGreat
namespace Array
abbrev c:=Go.Proofs.YtkmcihhndgdhpaaGreat.Jc.mk
end Array
namespace Go.Proofs.YtkmcihhndgdhpaaGreat
variable {w W W':World}{k g s B N i cap x j:Nat}{a:Act}{last o:Oper}{t:TypeId}{l:List Oper}{lo ma S:Nat→Bool}{cs:Array Value}{P:Pr}{ds:List Deferred}{Ms:List Bool}{Rs b0:List Nat}{RS:Nat→Nat→Bool}
def zfz (i:In):Bool:=decide (i.op=11)||decide (i.op=7)
theorem zqo (C:AX)(HC:AXok C)(w:World)(k:Nat)(i:In)(hon:C.on w)(hi:C.P.code[k]?=some i) :
  Calls prog 220 #[.q C.cg (k*14)] w fun e w'=>e=.r (.bool (zfz i))/\w=w':=by
 obtain⟨K,L,E,_,H⟩:=HC.ql hon hi;have N:w.cell? (.a C.cg (k*14))=some (.i i.op):=E 0 yo;clear E;unfold zfz;by_cases A:i.op=11
 ·have I:((i.op:Int)==11)=true:=by rw[A];rfl
  have D:=zH A;clear A;go_enter func220,ntmps220;go_wp2;go_ret;exact⟨zce (by rw[D.o];rfl),rfl⟩
 ·have I:((i.op:Int)==11)=false:=zI yo;by_cases h7:i.op=7
  ·have J:((i.op:Int)==7)=true:=by rw[h7];rfl
   have D:=zH h7;clear A h7;go_enter func220,ntmps220;go_wp2;go_ret;exact⟨zce (by rw[D.o];rfl),rfl⟩
  ·have J:((i.op:Int)==7)=false:=zI yo;have D:=zH h7;have G:=zH A;clear A h7;go_enter func220,ntmps220;go_wp2;go_ret;exact⟨zce (by rw[decide_eq_false G.o,decide_eq_false D.o];rfl),rfl⟩
def zb6 (P:Pr)(k:Nat):List Nat:=match P.code[k]? with
 | some i=>zf4 k i++(if zfz i then(match P.fs[i.call]? with | some f=>[f.from_] | none=>[])else [])
 | none=>[]
theorem zyy (C:AX)(HC:AXok C)(w:World)(fb vf vp k:Nat)(i:In)(D:C.on w)(hf:w.cell? (.a fb 0)=some (.p C.pb))(hvf:w.cell? (.a vf 0)=some (.p fb))(hvp:w.cell? (.a vp 0)=some (.p C.pb))(hi:C.P.code[k]?=some i)(hvpl:vp<w.heap.size) :
  Calls prog 218 #[.i k,.p vf,.p vp] w (zad w (zb6 C.P k)):=by
 have HN:=zH (zjq C HC w fb k i D hf hi);have ab:k<C.P.code.length:=(yh.1 hi).1;have a7:=HC.wf.cl;have Y:=zH hi;have J:=zH D;have hM:=zH (show zb6 C.P k=zS C.P k++(if zfz i then(match C.P.fs[i.call]? with | some f=>[f.from_] | none=>[])else []) by unfold zb6 zS;rw[hi]);clear hi hf D;go_enter func218,ntmps218;go_wp2_with fail;refine HN.o.mono ?_;rintro e N ⟨v,rfl,Q,h0,L⟩;have H:C.on N:=J.o.trans (L.mono J.o.size);have hp:=HC.vt H;have a6:N.cell? (.a vp 0)=some (.p C.pb):=by rw[L.cell (p:=(.a vp 0)) hvpl];exact hvp
 have HR:=zH Q;have H0:=zH h0;have E:=zH L;have G:=zH H;clear Q h0 L H hvf;go_wp2_with fail;refine(zqo C HC N k i G.o Y.o).mono ?_;rintro e w2 ⟨rfl,rfl⟩;cases hen:zfz i
 ·have R:=zH (show zad w (zb6 C.P k) (.r v) N from⟨v,rfl,by rw[hM.o,hen];simpa using HR.o,fun h=>H0.o (by rw[hM.o,hen]at h;simpa using h),E.o⟩);clear hen;go_wp2;go_ret;exact R.o
 ·have U:=HC.wf.call k i Y.o (by unfold zfz at hen;simpa using hen);obtain⟨f,hf,_⟩:=U;have a0:=zH (show zb6 C.P k=zS C.P k++[f.from_] by rw[hM.o,hen,hf];rfl);have a8:N.cell? (.a C.fg (i.call*5+3))=some (.i f.from_):=HC.jd G.o hf 3 yo;have a5:i.call<C.P.fs.length:=(yh.1 hf).1;have a9:=HC.wf.fl;obtain⟨aa,ac,a3,_,_⟩:=HC.ql G.o Y.o;have ae:N.cell? (.n C.cg k 11)=some (.i i.call):=a3 11 yo;obtain⟨va,vc,hv⟩:=zZ HR.o;subst hv;have ad:(zS C.P k).length<=2:=by unfold zS;rw[Y.o];unfold zf4;simp only;split;simp;split;simp;split <;> simp
  have S:=zH (show ∀ w',Below w.heap.size w w'->w'.cell? (.a vp 0)=some (.p C.pb)/\(∀ j,w'.cell? (.a C.pb j)=(.c C:Array Value)[j]?)/\w'.cell? (.n C.cg k 11)=some (.i i.call)/\w'.cell? (.a C.fg (i.call*5+3))=some (.i f.from_)from fun w' hb=>by
   have D:=J.o.trans (hb.mono J.o.size);obtain⟨_,_,a4,_,_⟩:=HC.ql D Y.o;exact⟨by rw[hb.cell (p:=(.a vp 0)) hvpl];exact hvp,HC.vt D,a4 11 yo,HC.jd D hf 3 yo⟩)
  clear hen hf a3;go_wp2_with fail;refine zh2 14 (fun w'=>w'.cell? (.a vp 0)=some (.p C.pb)/\(∀ j,w'.cell? (.a C.pb j)=(.c C:Array Value)[j]?)/\w'.cell? (.n C.cg k 11)=some (.i i.call)/\w'.cell? (.a C.fg (i.call*5+3))=some (.i f.from_)) yk rfl rfl yk ?_;simp only[yM,yY];have A:=S.o N.drew E.o.drew
  iterate 12(refine tK 0 rfl A ?_)
  refine rdy 12 rfl fun K O=>?_;go_simp;have Z:=zH ((E.o.drew).alloc (ya E.o.size yL) (.k #[.i f.from_] 3));refine O.o _ _ (S.o _ Z.o) (fun A=>?_);clear O K;refine rdy 13 rfl fun K O=>?_;refine zan zhx rfl _ _ rfl w.heap.size _ (zS C.P k).length (ints (zS C.P k)) N.heap.size _ _ ((HR.o.alloc _)) (Blk.newAt (w:=N) rfl) rfl rfl rfl yE yo (ya E.o.size yy) ?_;intro g cap w2 I a2 a1;have W:=zH (Z.o.grown a2 (ya E.o.size yy) (fun k e=>(HR.o.lt k e).1));have R:=zH (show zad w (zb6 C.P k) (.r (.s g ((zS C.P k).length+1) cap)) w2 from
   ⟨_,rfl,by rw[a0.o,yx];simpa [ints] using I,fun h=>by rw[a0.o]at h;simp at h,W.o⟩)
  refine O.o _ _ (S.o _ W.o) (fun A=>?_);clear O K I a2 a1;refine lst rfl fun K O=>?_;go_simp;refine O _ _ ?_;clear O K A;go_wp2;go_ret;exact R.o
section
def MkE (w:World)(b:Nat)(S:Nat->Bool):Prop:=∃ m,Mk w b S m
section
variable {w w':World} {b:Nat} {S:Nat->Bool}
theorem MkE.drewN (h:MkE w b S)(n:Nat):MkE (w.drewN n) b S:=by obtain⟨m,h⟩:=h;exact⟨m,h.is.drewN n,h.one,h.has⟩
theorem MkE.drew (h:MkE w b S):MkE w.drew b S:=by obtain⟨m,h⟩:=h;exact⟨m,h.is.drew,h.one,h.has⟩
theorem MkE.qa (h:MkE w b S)(hb:w'.heap[b]? = w.heap[b]?):MkE w' b S:=by obtain⟨m,h⟩:=h;exact⟨m,h.qa hb⟩
theorem MkE.lt (h:MkE w b S):b<w.heap.size:=by obtain⟨m,h⟩:=h;exact h.lt
theorem MkE.alloc (h:MkE w b S)(o:Obj):MkE (w.alloc o) b S:=h.qa (yak w o b h.lt)
theorem MkE.below (h:MkE w b S)(hb:Below N w w')(hN:b<N):MkE w' b S:=h.qa (hb.block b hN)
theorem MkE.qi (h:MkE w b S){p:Addr}(hp:b≠p.block)(u:Value):MkE (w.setCell p u) b S:=h.qa (yt w p u b hp)
theorem MkE.qf (h:MkE w b S)(hg:Blk w g t cs):b≠g:=by obtain⟨m,h⟩:=h;exact h.is.qf hg
theorem MkE.farB (h:MkE w b S)(hg:Blk w g t cs)(i:Nat)(u:Value):MkE (w.setCell (.a g i) u) b S:=h.qi (h.qf hg) u
end
theorem hasE (w:World)(b k:Nat)(S:Nat->Bool)(h:MkE w b S)(hk:k<1000000) :
  Calls prog 154 #[.m b,.i k] w fun e w'=>e=.r (.bool (S k))/\w=w':=by
 obtain⟨m,h⟩:=h;exact zrb w b k S m h hk
structure FV where
 fb:Nat
 jf:Nat
 vz:Nat
 vu:Nat
 sv:Value
 rv:Value
 bv:Value
def zii (C:AX)(V:FV):Array Value:=#[.p C.pb,.m V.jf,V.sv,V.rv,V.bv,.m V.vz,.m V.vu]
structure FlH (C:AX)(w:World)(V:FV)(on lo ma:Nat->Bool):Prop where
 c:AXok C
 ve:C.on w
 fB:C.w0.heap.size<=V.fb
 f:Blk w V.fb 314 (zii C V)
 on:MkE w V.jf on
 lo:MkE w V.vz lo
 ma:MkE w V.vu ma
 mB:C.w0.heap.size<=V.vu
 mo:V.vu≠V.jf
 ml:V.vu≠V.vz
section
variable {C:AX} {w w':World} {V:FV} {on lo ma:Nat->Bool}
theorem FlH.drewN (h:FlH C w V on lo ma)(n:Nat):FlH C (w.drewN n) V on lo ma:=⟨h.c,zc7 h.ve n,h.fB,h.f,h.on.drewN n,h.lo.drewN n,h.ma.drewN n,h.mB,h.mo,h.ml⟩
theorem FlH.drew (h:FlH C w V on lo ma):FlH C w.drew V on lo ma:=⟨h.c,h.ve.drew,h.fB,h.f,h.on.drew,h.lo.drew,h.ma.drew,h.mB,h.mo,h.ml⟩
theorem FlH.same (h:FlH C w V on lo ma)(hb:C.on w')(h1:w'.heap[V.fb]? = w.heap[V.fb]?)(h2:w'.heap[V.jf]? = w.heap[V.jf]?)(h3:w'.heap[V.vz]? = w.heap[V.vz]?)(h4:w'.heap[V.vu]? = w.heap[V.vu]?):FlH C w' V on lo ma :=
 ⟨h.c,hb,h.fB,h1.trans h.f,h.on.qa h2,h.lo.qa h3,h.ma.qa h4,h.mB,h.mo,h.ml⟩
theorem FlH.below (h:FlH C w V on lo ma)(hb:Below N w w')(hN:w.heap.size<=N):FlH C w' V on lo ma:=by
 have A:=h.ve.size;exact h.same (h.ve.trans (hb.mono (ya A hN))) (hb.block _ (yi h.f.lt hN)) (hb.block _ (yi h.on.lt hN)) (hb.block _ (yi h.lo.lt hN)) (hb.block _ (yi h.ma.lt hN))
theorem FlH.cells (h:FlH C w V on lo ma):(∀ i,w.cell? (.a V.fb i)=#[.p C.pb,.m V.jf,V.sv,V.rv,V.bv,.m V.vz,.m V.vu][i]?)/\(∀ i,w.cell? (.a C.pb i)=(.c C:Array Value)[i]?) :=
 ⟨h.f.cell,h.c.vt h.ve⟩
end
def zdi (on lo ma:Nat->Bool)(g:Nat):List In->Nat->Nat->Bool
 | [],_,n=>decide (1<n)
 | i::r,k,n=>if on k&&zfz i&&decide (i.call=g)then(if lo k||ma i.fn then true else zdi on lo ma g r (k+1) (n+1))else zdi on lo ma g r (k+1) n
def zei (P:Pr)(on lo ma:Nat->Bool)(g:Nat):Bool:=zdi on lo ma g P.code 0 (if g=P.main then 1 else 0)
theorem zm5 (w:World)(a b:Nat):(w.drewN a).drewN b=w.drewN (a+b):=by
 simp[World.drewN,yc4]
def zgj (P:Pr)(on lo ma:Nat->Bool)(g:Nat)(M:Bool)(w:World)(gk:Nat)(nv kv:Value)(W:World):Prop :=
 ∃ k n d:Nat,nv=.i n/\kv=.i k/\gk=P.code.length-k/\k<=P.code.length/\n<=k+1/\W=w.drewN d/\M=zdi on lo ma g (P.code.drop k) k n
def QuietB (w:World)(b:Bool)(e:Ending)(w':World):Prop:=e=.r (.bool b)/\∃ d,w'=w.drewN d
theorem z03 (C:AX)(w:World)(V:FV)(on lo ma:Nat->Bool)(g:Nat)(h:FlH C w V on lo ma)(hg:g<1000) :
  Calls prog 273 #[.p V.fb,.i g] w (QuietB w (zei C.P on lo ma g)):=by
 obtain⟨hf,hp⟩:=h.cells;have H:=zH h;have a6:=h.c.wf.cl;obtain⟨M,U⟩:∃ M,M=zei C.P on lo ma g:=⟨_,rfl⟩;rw[<- U];have HM:=zH U;obtain⟨n0,K⟩:∃ n0:Nat,n0=if g=C.P.main then 1 else 0:=⟨_,rfl⟩
 have a4:n0<=1:=by rw[K];split <;> omega
 have ST:=zH (show zgj C.P on lo ma g M w C.P.code.length (.i n0) (.i 0) w from⟨0,n0,0,rfl,rfl,rfl,yD _,by omega,rfl,by rw[U,K];rfl⟩);have HG:∀ {gk:Nat} {nv kv:Value} {W:World},zgj C.P on lo ma g M w gk nv kv W->Hid (zgj C.P on lo ma g M w gk nv kv W):=fun h=>zH h;clear h U HG;have D:((g:Int)==(C.P.main:Int))=decide (g=C.P.main):=by rw[yS];simp;omega
 by_cases J:g=C.P.main
 all_goals first | rw[yj J]at K | rw[yg J]at K
 all_goals first | rw[decide_eq_true J]at D | rw[decide_eq_false J]at D
 all_goals
  subst K;have a5:=zH J;clear J a4;go_enter func273,ntmps273;go_wp2_with fail;clear D;go_loopg [5,27] C.P.code.length (fun gk v5 v27 wr=>zgj C.P on lo ma g M w gk v5 v27 wr)
  case atStart=>exact ST.o
  case round =>
   obtain⟨k,n,d,rfl,rfl,Z,hk,hn,hW,U⟩:=hrel;have O:=zH (show FlH C wr V on lo ma by rw[hW];exact H.o.drewN d);have S:=zH hW;clear hf hp hW;obtain⟨hf,hp⟩:=O.o.cells;have HGK:=zH Z;have HM:=zH U;clear Z U;by_cases a3:k<C.P.code.length
   ·obtain⟨i,hi⟩:∃ i,C.P.code[k]?=some i:=⟨_,yc a3⟩;have HI:=zH hi;obtain⟨aa,ac,N,_,_⟩:=H.o.c.ql O.o.ve hi;have i9:wr.cell? (.n C.cg k 9)=some (.i i.var):=N 9 yo;have i2:wr.cell? (.n C.cg k 2)=some (.i i.fn):=N 2 yo;have a7:wr.cell? (.n C.cg k 11)=some (.i i.call):=N 11 yo;have HT:=zH (show M=if on k&&zfz i&&decide (i.call=g)then(if lo k||ma i.fn then true else zdi on lo ma g (C.P.code.drop (k+1)) (k+1) (n+1))else zdi on lo ma g (C.P.code.drop (k+1)) (k+1) n by rw[HM.o,zae hi,zdi]);clear N hi;have a1:k<1000000:=yo;have Y:i.fn<1000000:=by have:=H.o.c.wf.fn k i HI.o;have:=H.o.c.wf.fl;omega
    go_wp2_with fail;refine(hasE _ V.jf k on O.o.on yo).mono ?_;rintro e w2 ⟨rfl,rfl⟩;cases hon:on k
    ·have REL:=zH (show zgj C.P on lo ma g M w (C.P.code.length-(k+1)) (.i n) (.i ((k+1:Nat):Int)) wr from⟨k+1,n,d,rfl,rfl,rfl,by omega,by omega,S.o,by rw[HT.o,yg (by simp[hon])]⟩);clear hon;exact mSa
    ·go_wp2_with fail;refine(zqo C H.o.c _ k i O.o.ve HI.o).mono ?_;rintro e w2 ⟨rfl,rfl⟩;cases hen:zfz i
     ·have REL:=zH (show zgj C.P on lo ma g M w (C.P.code.length-(k+1)) (.i n) (.i ((k+1:Nat):Int)) wr from⟨k+1,n,d,rfl,rfl,rfl,by omega,by omega,S.o,by rw[HT.o,yg (by simp[hen])]⟩);clear hen;exact mSa
     ·have G:((i.call:Int) != (g:Int))=!decide (i.call=g):=by rw[yS];simp;omega
      by_cases I:i.call=g
      ·rw[decide_eq_true I]at G;have R:=zH (show M=if(lo k||ma i.fn)=true then true else zdi on lo ma g (C.P.code.drop (k+1)) (k+1) (n+1) by rw[HT.o,yj (by rw[hon,hen,decide_eq_true I];rfl)]);clear hon hen I;simp only[ych]at G;cases hlo:lo k
       ·have L:=zH (show ∀ n,Calls prog 154 #[.m V.vz,.i ((k:Nat):Int)] (wr.drewN n) fun e E=>e=.r (.bool false)/\∃ m,E=wr.drewN m from fun n=>by have:=hasE _ V.vz k lo ((O.o.lo).drewN n) a1;rw[hlo]at this;exact zav this);cases hma:ma i.fn
        ·have Q:=zH (show ∀ n,Calls prog 154 #[.m V.vu,.i ((i.fn:Nat):Int)] (wr.drewN n) fun e E=>e=.r (.bool false)/\∃ m,E=wr.drewN m from fun n=>by have:=hasE _ V.vu i.fn ma ((O.o.ma).drewN n) Y;rw[hma]at this;exact zav this);have A:=zH (show M=zdi on lo ma g (C.P.code.drop (k+1)) (k+1) (n+1) by rw[R.o,yg (by rw[hlo,hma];simp)]);clear hlo hma;go_wp2_with fail;go_quiet ((go_at_call 154;first | with_reducible exact L.o _ | with_reducible exact Q.o _));have REL:=zH (show zgj C.P on lo ma g M w (C.P.code.length-(k+1)) (.i ((n+1:Nat):Int)) (.i ((k+1:Nat):Int)) (wr.drewN nq)from⟨k+1,n+1,d+nq,rfl,rfl,rfl,by omega,by omega,by rw[S.o];exact zm5 w d nq,A.o⟩);go_wp2;go_roundg (C.P.code.length-(k+1))
         case measure=>have:=HGK.o;omega
         case rel=>rw[show((k:Int)+1)=((k+1:Nat):Int) by omega,show((n:Int)+1)=((n+1:Nat):Int) by omega];exact REL.o
        ·have Q:=zH (show ∀ n,Calls prog 154 #[.m V.vu,.i ((i.fn:Nat):Int)] (wr.drewN n) fun e E=>e=.r (.bool true)/\∃ m,E=wr.drewN m from fun n=>by have:=hasE _ V.vu i.fn ma ((O.o.ma).drewN n) Y;rw[hma]at this;exact zav this);have A:=zH (show M=true by rw[R.o,yj (by rw[hma];simp)]);clear hlo hma;go_wp2_with fail;go_quiet ((go_at_call 154;first | with_reducible exact L.o _ | with_reducible exact Q.o _));go_wp2;go_ret;exact⟨zce A.o.symm,d+nq,by rw[S.o];exact zm5 w d nq⟩
       ·have L:=zH (show ∀ n,Calls prog 154 #[.m V.vz,.i ((k:Nat):Int)] (wr.drewN n) fun e E=>e=.r (.bool true)/\∃ m,E=wr.drewN m from fun n=>by have:=hasE _ V.vz k lo ((O.o.lo).drewN n) a1;rw[hlo]at this;exact zav this);have A:=zH (show M=true by rw[R.o,yj (by rw[hlo];rfl)]);clear hlo;go_wp2_with fail;go_quiet ((go_at_call 154;exact L.o _));go_wp2;go_ret;exact⟨zce A.o.symm,d+nq,by rw[S.o];exact zm5 w d nq⟩
      ·rw[decide_eq_false I]at G;simp only[yct]at G;have REL:=zH (show zgj C.P on lo ma g M w (C.P.code.length-(k+1)) (.i n) (.i ((k+1:Nat):Int)) wr from⟨k+1,n,d,rfl,rfl,rfl,by omega,by omega,S.o,by rw[HT.o,yg (by simp[I])]⟩);clear I;exact mSa
   ·have a0:k=C.P.code.length:=yo;have A:=zH (show M=decide (1<n) by rw[HM.o,a0,yaa,zdi]);have hd:decide ((1:Int)<(n:Int))=decide (1<n):=by rw[yS];simp;omega
    have a2:=zH hd;clear hd;subst a0;go_wp2;go_ret;exact⟨zce (by rw[A.o];first | rfl | exact a2.o),d,S.o⟩
end
section
theorem zon {on lo ma mb:Nat->Bool}{g:Nat}(hm:∀ k,ma k=true->mb k=true):∀ (l:List In) (k n m:Nat),n<=m->zdi on lo ma g l k n=true->zdi on lo mb g l k m=true
 | [],_,n,m,hn,h=>by
  simp only[zdi,decide_eq_true_eq]at h |-;omega
 | i::r,k,n,m,hn,h=>by
  unfold zdi at h |-;split at h
  ·rename_i D;rw[yj D];split at h
   ·rename_i A;rw[yj (by
     rcases yQ _ _ ▸ A with A | A
     ·rw[A];rfl
     ·rw[hm _ A,yao])]
   ·split
    ·rfl
    ·exact zon hm r (k+1) (n+1) (m+1) yo h
  ·rename_i D;rw[yg D];exact zon hm r (k+1) n m hn h
theorem zt3 {on lo ma mb:Nat->Bool}(hm:∀ k,ma k=true->mb k=true)(h:zei P on lo ma g=true):zei P on lo mb g=true:=zon hm _ _ _ _ yL h
def zfs (P:Pr)(on lo:Nat->Bool)(g:Nat):Prop:=∀ S:Nat->Bool,(∀ g,g<P.fs.length->zei P on lo S g=true->S g=true)->S g=true
theorem zfs.lt {on lo:Nat->Bool}(h:zfs P on lo g):g<P.fs.length:=by
 have:=h (fun g=>decide (g<P.fs.length)) (fun g hg _=>by simpa using hg);simpa using this
def zfk (S:Nat->Bool)(n:Nat):Nat:=(List.range n).countP fun k=>!S k
theorem zt7 {S:Nat->Bool}{g:Nat}:∀ {n:Nat},g<n->S g=false->zfk (fun k=>decide (k=g)||S k) n<zfk S n
 | 0,h,_=>by omega
 | n+1,h,hs=>by
  unfold zfk;rw[List.range_succ,List.countP_append,List.countP_append];by_cases A:g=n
  ·subst A;have h1:(List.range g).countP (fun k=>!(decide (k=g)||S k))=(List.range g).countP (fun k=>!S k):=by
    apply List.countP_congr;intro k D;have:k≠g:=yq (yaf.1 D);simp[this]
   rw[h1];simp[hs]
  ·have:=zt7 (S:=S) (g:=g) (n:=n) yo hs;unfold zfk at this;have h2:([n].countP fun k=>!(decide (k=g)||S k))=[n].countP fun k=>!S k:=by
    have:n≠g:=yo;simp[this]
   rw[h2];omega
structure zd1 (C:AX)(w0:World)(V:FV)(on lo:Nat->Bool)(ma:Nat->Bool)(W:World):Prop where
 h:FlH C W V on lo ma
 s:∀ g,ma g=true->zfs C.P on lo g
 k:w0.grownBy W (some V.vu)
section
variable {C:AX} {w0 w:World} {V:FV} {on lo ma:Nat->Bool}
theorem zxo (w w':World)(row:Option Nat)(n:Nat)(h:w.grownBy w' row):w.grownBy (w'.drewN n) row:=⟨h.os,h.tape,h.output,h.size,h.block⟩
theorem zd1.drewN (h:zd1 C w0 V on lo ma w)(n:Nat):zd1 C w0 V on lo ma (w.drewN n):=⟨h.h.drewN n,h.s,zxo _ _ _ n h.k⟩
theorem zd1.mark {w':World}(h:zd1 C w0 V on lo ma w)(hg:g<C.P.fs.length)(ht:zei C.P on lo ma g=true)(hm:MkE w' V.vu (fun k=>decide (k=g)||ma k))(hk:w.grownBy w' (some V.vu)) :
  zd1 C w0 V on lo (fun k=>decide (k=g)||ma k) w':=by
 have hb:C.on w':=h.h.ve.grown hk h.h.ve.size (fun k e=>by cases e;exact h.h.mB);have D:V.fb≠V.vu:=fun e=>(h.h.ma.qf h.h.f) e.symm;refine⟨⟨h.h.c,hb,h.h.fB,(hk.block _ h.h.f.lt (fun e=>by injection e with e;exact D e)).trans h.h.f,h.h.on.qa (hk.block _ h.h.on.lt (fun e=>by injection e with e;exact h.h.mo e.symm)),h.h.lo.qa (hk.block _ h.h.lo.lt (fun e=>by injection e with e;exact h.h.ml e.symm)),hm,h.h.mB,h.h.mo,h.h.ml⟩,?_,h.k.trans hk⟩;intro k A;rcases yQ _ _ ▸ A with A | A
 ·have:k=g:=by simpa using A
  subst this;intro S E;exact E k hg (zt3 (fun j G=>h.s j G S E) ht)
 ·exact h.s k A
theorem MkE.put {b:Nat}(h:MkE w b S)(hk:k<1000000):∃ w',(Instr.mapUpdate 310 (.m b) (.i k) (.i 1)).run prog w=.ok () w'/\MkE w' b (fun j=>decide (j=k)||S j)/\w.grownBy w' (some b):=by
 obtain⟨m,h⟩:=h;obtain⟨w3,A,E,D,H⟩:=h.is.update (t:=310) (e:=3) ikey underlying310 (x:=k) hk 1;refine⟨w3,A,⟨_,E,?_,?_⟩,D⟩
 ·intro p G;rcases zf3 G with rfl | G
  ·rfl
  ·exact h.one p G
 ·intro j;rw[xd];by_cases e:k=j
  ·subst e;simp
  ·rw[yg e];simp[show j≠k from fun h=>e h.symm,h.has]
end
def zi8 (C:AX)(w0:World)(V:FV)(on lo ma0:Nat->Bool)(gk:Nat)(cv kv:Value)(W:World):Prop :=
 ∃ (j:Nat) (c:Bool) (ma:Nat->Bool),cv=.bool c/\kv=.i j/\gk=C.P.fs.length-j/\j<=C.P.fs.length/\zd1 C w0 V on lo ma W/\(c=true->zfk ma C.P.fs.length<zfk ma0 C.P.fs.length) /\
  (c=false->ma=ma0/\∀ g,g<j->ma0 g=false->zei C.P on lo ma0 g=false)
def zi7 (P:Pr)(on lo:Nat->Bool)(ma:Nat->Bool):Prop:=∀ g,g<P.fs.length->ma g=false->zei P on lo ma g=false
theorem zyx (C:AX)(w0 w:World)(V:FV)(on lo ma:Nat->Bool)(h:zd1 C w0 V on lo ma w) :
  Calls prog 222 #[.p V.fb] w (zgi (zd1 C w0 V on lo) (fun ma=>zfk ma C.P.fs.length) (zi7 C.P on lo) ma):=by
 obtain⟨hf,hp⟩:=h.h.cells;have a1:=h.h.c.wf.fl;have ST:=zH (show zi8 C w0 V on lo ma C.P.fs.length (.bool false) (.i 0) w from⟨0,false,ma,rfl,rfl,rfl,yD _,h,fun h=>(by cases h),fun _=>⟨rfl,fun g K=>by omega⟩⟩);clear h;go_enter func222,ntmps222;go_wp2_with fail;clear hf hp;go_loopg [3,13] C.P.fs.length (fun gk v3 v13 wr=>zi8 C w0 V on lo ma gk v3 v13 wr)
 case atStart=>exact ST.o
 case round =>
  obtain⟨j,c,mb,rfl,rfl,K,hj,hI,L,N⟩:=hrel;have J:=zH hI;have HG:=zH K;have I:=zH L;have A:=zH N;clear K hI L N;obtain⟨hf,hp⟩:=J.o.h.cells;by_cases E:j<C.P.fs.length
  ·have Q:j<1000000:=yo;go_wp2_with fail;refine(hasE wr V.vu j mb J.o.h.ma Q).mono ?_;rintro e w2 ⟨rfl,rfl⟩;cases hmj:mb j
   ·go_wp2_with fail;refine(z03 C wr V on lo mb j J.o.h yo).mono ?_;rintro e w2 ⟨rfl,d,rfl⟩;have U:=zH (J.o.drewN d);obtain⟨hf,hp⟩:=U.o.h.cells;cases htw:zei C.P on lo mb j
    ·have REL:=zH (show zi8 C w0 V on lo ma (C.P.fs.length-(j+1)) (.bool c) (.i ((j+1:Nat):Int)) (wr.drewN d)from
      ⟨j+1,c,mb,rfl,rfl,rfl,E,U.o,I.o,fun H=>⟨(A.o H).1,fun g K h0=>by
       rcases yF g j with D | D
       ·exact(A.o H).2 g D h0
       ·obtain rfl:g=j:=yo;rw[<- (A.o H).1];exact htw⟩⟩)
     clear hmj htw;exact mOb
    ·obtain⟨w3,a0,R,O⟩:=U.o.h.ma.put Q;have Y:=zH (U.o.mark E htw R O);have G:=zt7 (S:=mb) E hmj;have REL:=zH (show zi8 C w0 V on lo ma (C.P.fs.length-(j+1)) (.bool true) (.i ((j+1:Nat):Int)) w3 from
      ⟨j+1,true,_,rfl,rfl,rfl,E,Y.o,fun _=>by
       cases c
       ·rw[<- (A.o rfl).1];exact G
       ·exact yb9 G (I.o rfl),fun h=>by cases h⟩)
     clear hmj htw R O G;exact mOb
   ·have REL:=zH (show zi8 C w0 V on lo ma (C.P.fs.length-(j+1)) (.bool c) (.i ((j+1:Nat):Int)) wr from
     ⟨j+1,c,mb,rfl,rfl,rfl,E,J.o,I.o,fun H=>⟨(A.o H).1,fun g K h0=>by
      rcases yF g j with D | D
      ·exact(A.o H).2 g D h0
      ·obtain rfl:g=j:=yo;rw[<- (A.o H).1,hmj]at h0;cases h0⟩⟩)
    clear hmj;exact mOb
  ·have Z:j=C.P.fs.length:=yo;have W:=zH (show zgi (zd1 C w0 V on lo) (fun ma=>zfk ma C.P.fs.length) (zi7 C.P on lo) ma (.r (.bool c)) wr from
    ⟨mb,c,rfl,J.o,I.o,fun H=>⟨(A.o H).1,fun g K h0=>(A.o H).2 g yo h0⟩⟩)
   subst Z;go_wp2;go_ret;exact W.o
end
def zfx (P:Pr)(on:Nat->Bool)(k:Nat):List Nat:=match P.code[k]? with | some i=>if on k&&decide (i.op=11)then [i.call]else [] | none=>[]
def zc8 (P:Pr)(on:Nat->Bool):Nat->Nat->List Nat
 | _,0=>[]
 | k,n+1=>zfx P on k++zc8 P on (k+1) n
def zbf (P:Pr)(on:Nat->Bool)(g:Nat):List Nat:=match P.fs[g]? with | some f=>zc8 P on f.from_ (f.to-f.from_) | none=>[]
structure zi2 (C:AX)(w:World)(V:FV)(on lo ma:Nat->Bool)(f:Fu)(M:List Nat)(gk:Nat)(lv kv:Value)(W:World):Prop where
 ex:∃ (k:Nat) (l:List Nat),kv=.i k/\gk=f.to-k/\W.ownsRow w.heap.size 3 1 lv l.length (ints l)/\(l.length=0->lv=.z)/\l.length<=k/\k<=900/\M=l++zc8 C.P on k (f.to-k)
 h:FlH C W V on lo ma
 b:Below w.heap.size w W
theorem zwd (C:AX)(w:World)(V:FV)(on lo ma:Nat->Bool)(g:Nat)(f:Fu)(h:FlH C w V on lo ma)(hg:C.P.fs[g]?=some f) :
  Calls prog 274 #[.p V.fb,.i g] w (zad w (zbf C.P on g)):=by
 obtain⟨hf,hp⟩:=h.cells;have a5:=h.c.wf.fl;have a3:=h.c.wf.cl;have a6:g<C.P.fs.length:=(yh.1 hg).1;have a1:w.cell? (.a C.fg (g*5+3))=some (.i f.from_):=h.c.jd h.ve hg 3 yo;have HF:=zH (h.c.wf.from_ g f hg);have J:f.from_<=900:=yq HF.o;have HG:=zH hg;obtain⟨M,L⟩:∃ M,M=zbf C.P on g:=⟨_,rfl⟩;rw[<- L];have ST:=zH (show zi2 C w V on lo ma f M (f.to-f.from_) (.z) (.i f.from_) w from
  ⟨⟨f.from_,[],rfl,rfl,yA _ _ _ _,fun _=>rfl,yD _,J,by rw[L];unfold zbf;rw[hg];rfl⟩,h,yn _ _⟩)
 have H:=zH h;clear h hg L;go_enter func274,ntmps274;go_wp2_with fail;clear hf hp a1;go_loopg [5,6] (f.to-f.from_) (fun gk v5 v6 wr=>zi2 C w V on lo ma f M gk v5 v6 wr)
 case atStart=>exact ST.o
 case round =>
  obtain⟨⟨k,l,rfl,S,hr,h0,a8,a7,L⟩,D,hb⟩:=hrel;obtain⟨va,vc,rfl⟩:=zZ hr;have N:=zH D;have O:=zH hr;have W:=zH h0;have Z:=zH L;have G:=zH hb;have HK:=zH S;obtain⟨hf,hp⟩:=D.cells;have a4:wr.cell? (.a C.fg (g*5+4))=some (.i f.to):=D.c.jd D.ve HG.o 4 yo;clear D hr h0 L hb S;have ab:=HF.o.2;by_cases a9:k<f.to
  ·have a2:k<C.P.code.length:=yo;obtain⟨i,hi⟩:∃ i,C.P.code[k]?=some i:=⟨_,yc a2⟩;obtain⟨aa,ac,K,_,_⟩:=N.o.c.ql N.o.ve hi;have i0:wr.cell? (.a C.cg (k*14))=some (.i i.op):=K 0 yo;have ad:wr.cell? (.n C.cg k 11)=some (.i i.call):=K 11 yo;have Y:=zH hi;have HS:=zH (show M=(l++zfx C.P on k)++zc8 C.P on (k+1) (f.to-(k+1)) by
    rw[Z.o,show f.to-k=(f.to-(k+1))+1 by omega,zc8,ya7])
   clear K hi;have hd:decide ((k:Int)<(f.to:Int))=true:=by rw[decide_eq_true_iff];omega
   go_wp2_with fail;refine(hasE wr V.jf k on N.o.on yo).mono ?_;rintro e w2 ⟨rfl,rfl⟩;cases hon:on k
   ·have REL:=zH (show zi2 C w V on lo ma f M (f.to-(k+1)) (.slice va l.length vc) (.i ((k+1:Nat):Int)) wr from
     ⟨⟨k+1,l,rfl,rfl,O.o,W.o,by omega,by omega,by rw[HS.o];unfold zfx;rw[Y.o];simp[hon]⟩,N.o,G.o⟩)
    clear hon;exact mQb
   ·by_cases A:i.op=11
    ·have o1:((i.op:Int)==11)=true:=by rw[A];rfl
     have a0:=zH (show M=(l++[i.call])++zc8 C.P on (k+1) (f.to-(k+1)) by rw[HS.o];unfold zfx;rw[Y.o];simp[hon,A]);clear hon A;go_wp2_with (refine ze2 zhx rfl _ _ rfl w.heap.size _ l.length (ints l) wr.heap.size _ _ (O.o.alloc _) (Blk.newAt rfl) rfl rfl rfl yE yo (by have:=G.o.size;simp;omega) ?_;intro g5 c5 w5 E R Q);have I:Below w.heap.size w w5:=(G.o.alloc G.o.size _).grown R (by have:=G.o.size;simp;omega) (fun k e=>(O.o.lt k e).1);have REL:=zH (show zi2 C w V on lo ma f M (f.to-(k+1)) (.s g5 (l.length+1) c5) (.i ((k+1:Nat):Int)) w5 from
      ⟨⟨k+1,l++[i.call],rfl,rfl,by simpa [ints] using E,fun h=>by simp at h,by simp;omega,by omega,a0.o⟩,H.o.below I yL,I⟩)
     clear I E R Q;exact mQb
    ·have o1:((i.op:Int)==11)=false:=zI yo;have REL:=zH (show zi2 C w V on lo ma f M (f.to-(k+1)) (.slice va l.length vc) (.i ((k+1:Nat):Int)) wr from
      ⟨⟨k+1,l,rfl,rfl,O.o,W.o,by omega,by omega,by rw[HS.o];unfold zfx;rw[Y.o];simp[A]⟩,N.o,G.o⟩)
     clear hon A;exact mQb
  ·have hd:decide ((k:Int)<(f.to:Int))=false:=by rw[decide_eq_false_iff_not];omega
   have U:=zH (show zad w M (.r (.slice va l.length vc)) wr from
    ⟨_,rfl,by rw[Z.o,show f.to-k=0 by omega,zc8,ya9];exact O.o,fun h=>W.o (by rw[Z.o,show f.to-k=0 by omega,zc8,ya9]at h;exact h),G.o⟩)
   go_wp2;go_ret;exact U.o
def zeq (Q:Act->World->Prop):Exit->Act->World->Prop
 | .normal,a,w=>Q a w
 | _,_,_=>False
theorem zeq.shut {Q:Act->World->Prop}:¬ LetsOut (zeq Q):=fun⟨_,_,h⟩=>h
theorem zov {P:Program}{c:Code}{Q:Exit->Act->World->Prop}(h:c.wp P (zeq (fun a w=>Q .normal a w)) a w):c.wp P Q a w :=
 wp_mono h fun e a w h=>by cases e <;> first | exact h | exact h.elim
theorem zf5 {Q:Act->World->Prop}(h:Q a w):zeq Q .normal a w:=h
section
def zkf (ops:Array Oper):Bool:=ops.all fun o=>match o.op with | .defer _=>false | _=>true
theorem zsy {ops:Array Oper}(h:zkf ops=true)(hi:ops[i]?=some o):∀ c,o.op≠.defer c:=fun c e=>by
 have:=yb8.1 h o (Array.mem_of_getElem? hi);rw[e]at this;cases this
section
variable {P:Program} {Q:Exit->Act->World->Prop} {md:Region.Mode} {l n:Nat}
theorem zso {K:Act->World->Prop}(ho:∀ c,o.op≠.defer c)(h:o.wp P a w K Q):o.wpIn (Fence.wide.inRound l) n P a w K Q:=by
 unfold Oper.wpIn;refine⟨fun _ _=>trivial,?_⟩;rw[Oper.semAt_eq _ _ _ ho];unfold Oper.wp at h;generalize (execOp a.eval o).run P w=r at *;have A:(Fence.wide.inRound l).depth.isSome=true->1<=n:=fun h=>by simp[Fence.wide,Fence.inRound]at h
 cases r with
 | ok x w' =>
  cases x with
  | value v=>exact h
  | skip=>exact h
  | defer d=>exact h
  | enter f args=>exact⟨A,CallsIn.inRound l (callsIn_wide.2 h)⟩
  | row r args=>exact⟨A,fun c cs _=>by obtain⟨v,w2,h1,h2⟩:=h c cs;exact⟨v,w2,h1,stepsIn_wide.2 h2⟩⟩
  | _=>exact h.elim
 | halt x w'=>cases x <;> first | exact h | exact h.elim
theorem z1m {ops:Array Oper}{K K':Act->World->Prop}(ho:zkf ops=true)(hq:¬ LetsOut Q)(hK:∀ a w,K a w->K' a w)(h:wpOp P ops Q i K a w):wpOpIn (Fence.wide.inRound l) n P ops Q i K' a w:=by
 unfold wpOp at h;unfold wpOpIn;cases hi:ops[i]? with
 | none=>rw[hi]at h;exact hK _ _ h
 | some o =>
  rw[hi]at h;simp only at h |-;split at h
  ·rename_i A;rw[yj A];rcases h with h | ⟨_,h⟩
   ·exact Oper.wpIn_mono hK (zso (zsy ho hi) h)
   ·exact absurd h hq
  ·rename_i A;rw[yg A];exact⟨fun _ _=>trivial,hK _ _ h⟩
theorem zun {ops:Array Oper}(ho:zkf ops=true)(hq:¬ LetsOut Q):∀ (f:Nat) (L:Array Bool) (a:Act) (w:World),wpAny P md ops Q f L a w->wpAnyIn (Fence.wide.inRound l) n P md ops Q f L a w
 | 0,_,_,_,h=>h
 | f+1,_,_,_,h=>⟨h.1,fun i hi=>z1m ho hq (fun a w hk=>zun ho hq f _ a w hk) (h.2 i hi)⟩
theorem zl8 {ops:List Oper}{id:Nat}(m:Nat)(S:World->Prop)(hm:P.follows .mixedOrders=true)(hn:ops.length=m+1)(hlast:ops[m]?=some last)(hB:zjx .any (ops.take m) last=true)(ho:zkf ops.toArray=true)
  (h:wpAnyH P .any (ops.take m).toArray (zbx P ops.toArray m (zeq fun a w=>Q .normal a w)) S m (Array.replicate m false) a w.drew):(Code.region id ops.toArray true).wpIn (Fence.wide.inRound l) n P Q a w:=by
 have hl:ops=ops.take m++[last]:=by
  have h1:=List.take_append_drop m ops;rw[yay yo]at h1;have h2:ops[m]=last:=by
   have:=yc (l:=ops) (i:=m) yo;rw[this]at hlast;injection hlast
  rw[h2,ybg yo]at h1;exact h1.symm
 have A:(ops.take m).length=m:=by rw[yah];omega
 refine wpIn_mono (Q:=zeq fun a w=>Q .normal a w) ?_ (fun e a w h=>by cases e <;> first | exact h | exact h.elim)
 refine wpIn_region_any hm (zun ho zeq.shut _ _ _ _ ?_);have key:=zum (Q:=zeq fun a w=>Q .normal a w) (l:=ops.take m) (last:=last) hB m (Array.replicate m false) (Array.replicate (m+1) false) a w.drew
  ⟨by rw[A];simp,by rw[A];simp,fun i hi=>by rw[A]at hi;simp[hi,yb1 hi],by rw[A];simp⟩
  ⟨by simp[hn],fun j D _ hl=>(by rw[getD_replicate_false]at hl;cases hl),fun t _ ht=>getD_in (by have h1:t<((ops.take m)++[last]).toArray.size:=ht;rw[<- hl]at h1;simpa [hn] using h1) (getD_replicate_false _ _)⟩ (by rw[<- hl,A];exact h)
 rw[<- hl]at key;rw[show ops.toArray.size=m+1 by simpa using hn];exact key
theorem zup {ops:Array Oper}(hq:¬ LetsOut Q):∀ (xs:List Oper) (a:Act) (w:World),(∀ o ∈ xs,∀ c,o.op≠.defer c)->wpList P ops Q xs a w->wpListIn (Fence.wide.inRound l) n P ops Q xs a w
 | [],_,_,_,h=>h
 | o::rest,a,w,ho,h=>by
  unfold wpList at h;unfold wpListIn;have D:=fun a w h=>zup (ops:=ops) hq rest a w (fun p hp=>ho p (yad _ hp)) h;split at h
  ·rename_i A;rw[yj A];rcases h with h | ⟨_,h⟩
   ·exact Oper.wpIn_mono D (zso (ho o yy) h)
   ·exact absurd h hq
  ·rename_i A;rw[yg A];exact⟨fun _ _=>trivial,D _ _ h⟩
theorem z1j {ops:List Oper}{id:Nat}(ho:zkf ops.toArray=true)(h:wpList P ops.toArray (zeq fun a w=>Q .normal a w) ops a w):(Code.region id ops.toArray false).wpIn (Fence.wide.inRound l) n P Q a w:=by
 refine wpIn_mono (Q:=zeq fun a w=>Q .normal a w) ?_ (fun e a w h=>by cases e <;> first | exact h | exact h.elim)
 refine wpIn_region_lit (zup zeq.shut _ _ _ (fun o h c=>?_) h);obtain⟨i,hi⟩:=ybx.1 h;exact zsy ho (by simpa using hi) c
theorem zjk {f:FuncId}{fn:Func}{c:Code}{args:Array Value}{R:Ending->World->Prop}(hf:P.funcs[f]?=some fn)(hb:fn.body=some c)
  (h:c.wp P (bodyPostM Fence.wide 3 P fn R) { tmps:=args++Array.replicate (fn.ntmps-args.size) undef,defers:=[] } w):Calls P f args w R :=
 (callsIn_wide (n:=3)).1 (callsIn_of_wp_marks hf hb trivial (wpIn_wide.2 h))
end
end
section
section
variable {P:Program} {Q Q':Exit->Act->World->Prop} {md:Region.Mode} {S:World->Prop} {ls nn:Nat}
def zjy (md:Region.Mode)(l:List Oper)(last:Oper):Bool :=
 Region.sinkB md (l++[last]).toArray l.length&&Region.chainB md (l++[last]).toArray l.length&&last.after.all (fun e=>!Region.binds md e||decide (e.on<l.length)) &&
 (List.range l.length).all (fun j=>match l[j]? with | some o=>o.guard.all (fun g=>decide (g.1<l.length))&&o.after.all (fun e=>!Region.binds md e||decide (e.on<j)) | none=>true)
theorem z1p {tmps:Array Value}(h:i<l.length):yielded (l++[last]).toArray tmps i=yielded l.toArray tmps i:=by
 unfold yielded;rw[zj4 h]
theorem z05 {tmps:Array Value}(h:o.guard.all (fun g=>decide (g.1<l.length))=true):Region.wanted o (yielded (l++[last]).toArray tmps)=Region.wanted o (yielded l.toArray tmps):=by
 unfold Region.wanted;cases hg:o.guard with
 | none=>rfl
 | some g =>
  rw[hg]at h;simp only[Option.all_some,decide_eq_true_eq]at h;simp only[z1p h]
theorem z1i (hB:zjy md l last=true):∀ (f:Nat) (L D:Array Bool) (a:Act) (w:World),Both l.length L D->HeadInv md (l++[last]).toArray l.length D ->
  wpAnyH P md l.toArray (zbx P (l++[last]).toArray l.length Q) S f L a w->wpAny P md (l++[last]).toArray Q (f+1) D a w:=by
 unfold zjy at hB;simp only[yH]at hB;obtain⟨⟨⟨hw,hc⟩,W⟩,hl⟩:=hB;have hn:l.length<(l++[last]).toArray.size:=by simp
 have h0:∀ e ∈ last.after,Region.binds md e=true->e.on<l.length:=fun e I hb=>by
  have:=yb8.1 W e I;simpa [hb] using this
 have h2:∀ j o,l[j]?=some o->o.guard.all (fun g=>decide (g.1<l.length))=true/\∀ e ∈ o.after,Region.binds md e=true->e.on<j:=fun j o ho=>by
  have hj:j<l.length:=(yh.1 ho).1;have:=yaj.1 hl j (yaf.2 hj);rw[ho]at this;simp only[yH]at this;refine⟨this.1,fun e I hb=>?_⟩;have h3:=yb8.1 this.2 e I;simpa [hb] using h3
 have Y:∀ {L D:Array Bool} {i:Nat},Both l.length L D->i<l.length->(i ∈ Region.ready md l.toArray L↔i ∈ Region.ready md (l++[last]).toArray D):=fun {L D i} hb hi=>by
  rw[mem_ready,mem_ready,zj4 hi,zda (by rw[hb.s];exact hi),zda (by rw[hb.s'];omega),hb.eq i hi];refine and_congr_right fun _=>exists_congr fun o=>and_congr_right fun ho=>forall_congr' fun e=>forall_congr' fun I=>forall_congr' fun J=>?_;have:=(h2 i o (by simpa using ho)).2 e I J;rw[hb.eq e.on yo]
 have a2:∀ {L:Array Bool},L.size=l.length->Region.ready md l.toArray L=[]->∀ i,i<l.length->L.getD i false=true:=fun {L} hs O i=>by
  induction i using Nat.strongRecOn with
  | _ i ih =>
   intro hi;cases hc:L.getD i false with
   | true=>rfl
   | false =>
    exfalso;have:i ∈ Region.ready md l.toArray L:=mem_ready.2 ⟨by rw[zda yo];exact hc,l[i],by simp[hi],fun e I hb=>by
     have:=(h2 i l[i] (yc hi)).2 e I hb;exact ih _ this yo⟩
    rw[O]at this;cases this
 have a3:∀ {L D:Array Bool},Both l.length L D->(∀ i,i<l.length->L.getD i false=true)->l.length ∈ Region.ready md (l++[last]).toArray D:=fun {L D} hb ha =>
  mem_ready.2 ⟨by rw[zda (by rw[hb.s'];omega)];exact hb.last,last,zrj,fun e I J=>by rw[hb.eq _ (h0 e I J)];exact ha _ (h0 e I J)⟩
 have K:∀ {D:Array Bool} {i:Nat},i ∈ Region.ready md (l++[last]).toArray D->i<=l.length:=fun {D i} hi=>by
  obtain⟨_,o,ho,_⟩:=mem_ready.1 hi;have:=(yP.1 ho).1;simp at this;omega
 have N:∀ {L D:Array Bool} {a:Act} {w:World} (g:Nat),Both l.length L D->Region.ready md l.toArray L=[]->zbx P (l++[last]).toArray l.length Q .normal a w->wpAny P md (l++[last]).toArray Q (g+1) D a w:=fun {L D a w} g hb O hq=>by
  have ha:=a2 hb.s O;have hn:=a3 hb ha;refine⟨fun h=>(by rw[h]at hn;cases hn),fun i hi=>?_⟩;have E:i=l.length:=by
   rcases yF i l.length with h | h
   ·have:=(Y hb h).2 hi;rw[O]at this;cases this
   ·have:=K hi;omega
  subst E;have H:Region.ready md (l++[last]).toArray (D.setIfInBounds l.length true)=[]:=by
   refine List.eq_nil_iff_forall_not_mem.2 fun j hj=>?_;have a5:=K hj;obtain⟨U,_⟩:=mem_ready.1 hj;by_cases a0:l.length=j
   ·subst a0;simp[hb.s']at U
   ·rw[getD_set_ne true a0,zda (by rw[hb.s'];omega),hb.eq j yo,ha j yo]at U;cases U
  refine wpOp_mono (fun a' w' q=>?_) hq;cases g with
  | zero=>exact⟨H,q⟩
  | succ g=>exact⟨fun _=>q,by rw[H];intro i hi;cases hi⟩
 intro f
 induction f with
 | zero =>
  intro L D a w hb _ h;exact N 0 hb h.1 h.2
 | succ f ih =>
  intro L D a w hb inv h;by_cases O:Region.ready md l.toArray L=[]
  ·exact N (f+1) hb O (h.1 O)
  ·obtain⟨i0,R⟩:=List.exists_mem_of_ne_nil _ O;have G:i0<l.length:=by
    obtain⟨_,o,ho,_⟩:=mem_ready.1 R;simpa using (yP.1 ho).1
   refine⟨fun hn=>?_,fun i hi=>?_⟩
   ·have:=(Y hb G).1 R;rw[hn]at this;cases this
   ·have E:i<l.length:=by
     rcases yF i l.length with h' | h'
     ·exact h'
     ·exfalso;obtain⟨h4,_⟩:=mem_ready.1 R;rw[zda (by rw[hb.s];exact G)]at h4;exact tail_waits hw hc hn inv _ i0 rfl G (by rw[zda (by rw[hb.s'];omega),hb.eq i0 G,h4]) i h' hi
    have A:=h.2 i ((Y hb E).2 hi);unfold wpOp at A |-;rw[zj4 E];obtain⟨o,ho⟩:∃ o,l[i]?=some o:=⟨_,yc E⟩;have a4:l.toArray[i]?=some o:=by simpa using ho
    rw[a4]at A |-;simp only at A |-;have hg:=(h2 i o ho).1;rw[z05 hg];split at A
    case isFalse Z =>
     rw[yg Z];exact ih _ _ _ w (hb.set E) (inv.set hi E) A.2
    rename_i Z;rw[yj Z];rcases A with A | ⟨h5,h6⟩
    ·exact .inl (Oper.wp_mono (fun a' w' q=>ih _ _ a' w' (hb.set E) (inv.set hi E) q.2) (zur zbx.exits A))
    ·obtain⟨a1,w1,q⟩:=h6;exact .inr ⟨h5,a1,w1,q⟩
theorem z1o {id:Nat}(S:World->Prop)(hm:P.follows .mixedOrders=true)(hB:zjy .any l last=true)
  (h:wpAnyH P .any l.toArray (zbx P (l++[last]).toArray l.length Q) S l.length (Array.replicate l.length false) a w.drew):(Code.region id (l++[last]).toArray true).wp P Q a w:=by
 refine wp_region_any hm ?_;have A:(l++[last]).toArray.size=l.length+1:=by simp
 rw[A];exact z1i hB _ _ _ a w.drew ⟨by simp,by simp,fun i hi=>by simp[hi,yb1 hi],by simp⟩
  ⟨by simp,fun j D _ hl=>(by rw[getD_replicate_false]at hl;cases hl),fun t _ ht=>getD_in (by simpa using ht) (getD_replicate_false _ _)⟩ h
theorem zfp {id:Nat}(n:Nat)(S:World->Prop)(hm:P.follows .mixedOrders=true)(hn:l.length=n+1)(hlast:l[n]?=some last)(hB:zjy .any (l.take n) last=true)
  (h:wpAnyH P .any (l.take n).toArray (zbx P l.toArray n Q) S n (Array.replicate n false) a w.drew):(Code.region id l.toArray true).wp P Q a w:=by
 have hl:l=l.take n++[last]:=by
  have h1:=List.take_append_drop n l;rw[yay yo]at h1;have h2:l[n]=last:=by
   have:=yc (l:=l) (i:=n) yo;rw[this]at hlast;injection hlast
  rw[h2,ybg yo]at h1;exact h1.symm
 have A:(l.take n).length=n:=by rw[yah];omega
 have key:=z1o (Q:=Q) (id:=id) (a:=a) (w:=w) S hm hB (by rw[A,<- hl];exact h);rw[<- hl]at key;exact key
end
theorem rgl {P:Program}{Q:Exit->Act->World->Prop}{l2:List Oper}{id:Nat}(n:Nat)(S:World->Prop)(h:wpAnyH P .any l2.toArray (zbx P l.toArray n Q) S n (Array.replicate n false) a w.drew)
  (hm:P.follows .mixedOrders=true:=by kernel_rfl) (hn:l.length=n+1:=by exact rfl) (hlast:l[n]?=some last:=by exact rfl) (hB:zjy .any (l.take n) last=true:=by kernel_rfl) (h2:l.take n=l2:=by exact rfl):(Code.region id l.toArray true).wp P Q a w :=
 zfp n S hm hn hlast hB (h2 ▸ h)
end
section
section
variable {P:Pr}
theorem zsc (wf:WfPr P){i:In}(hi:P.code[k]?=some i):∀ j ∈ zf4 k i,j<P.code.length:=by
 intro j D;unfold zf4 at D;split at D
 ·simp at D
 ·rename_i E;split at D
  ·rename_i A;have:j=i.to:=by simpa using D
   subst this;exact wf.jump k i hi (.inr (.inr A))
  ·rename_i A;split at D
   ·rename_i G;have:j=k+1\/j=i.to:=by simpa using D
    rcases this with rfl | rfl
    ·exact wf.next k i hi E A
    ·exact wf.jump k i hi (G.elim .inl fun h=>.inr (.inl h))
   ·have:j=k+1:=by simpa using D
    subst this;exact wf.next k i hi E A
theorem zsb (k:Nat)(i:In):(zf4 k i).length<=2:=by
 unfold zf4;split
 ·simp
 ·split
  ·simp
  ·split <;> simp
theorem zij (wf:WfPr P)(k:Nat):∀ j ∈ zS P k,j<P.code.length:=by
 intro j A;unfold zS at A;split at A
 ·rename_i i hi;exact zsc wf hi j A
 ·simp at A
theorem zlb (P:Pr)(k:Nat):(zS P k).length<=2:=by
 unfold zS;split
 ·exact zsb _ _
 ·simp
theorem zsn (wf:WfPr P)(k:Nat):∀ j ∈ zb6 P k,j<P.code.length:=by
 intro j A;unfold zb6 at A;split at A
 ·rename_i i hi;rcases yu.1 A with A | A
  ·exact zsc wf hi j A
  ·split at A
   ·split at A
    ·rename_i f hf;have:j=f.from_:=by simpa using A
     subst this;exact(wf.from_ _ f hf).1
    ·simp at A
   ·simp at A
 ·simp at A
theorem zyz (P:Pr)(k:Nat):(zb6 P k).length<=3:=by
 unfold zb6;split
 ·rename_i i _;have:=zsb k i;rw[yx];split
  ·split <;> simp <;> omega
  ·simp;omega
 ·simp
theorem zwa (wf:WfPr P)(on:Nat->Bool)(k:Nat):∀ j ∈ zfx P on k,j<P.fs.length:=by
 intro j A;unfold zfx at A;split at A
 ·rename_i i hi;split at A
  ·rename_i h;simp at h;have:j=i.call:=by simpa using A
   subst this;obtain⟨f,hf,_⟩:=wf.call k i hi (.inl h.2);exact(yh.1 hf).1
  ·simp at A
 ·simp at A
theorem zp8 (wf:WfPr P)(on:Nat->Bool):∀ (n k:Nat),∀ j ∈ zc8 P on k n,j<P.fs.length
 | 0,k,j,A=>by simp[zc8]at A
 | n+1,k,j,A=>by
  unfold zc8 at A;rcases yu.1 A with A | A
  ·exact zwa wf on k j A
  ·exact zp8 wf on n (k+1) j A
theorem zv9 (P:Pr)(on:Nat->Bool)(k:Nat):(zfx P on k).length<=1:=by
 unfold zfx;split
 ·split <;> simp
 ·simp
theorem zp7 (P:Pr)(on:Nat->Bool):∀ (n k:Nat),(zc8 P on k n).length<=n
 | 0,k=>by simp[zc8]
 | n+1,k=>by
  unfold zc8;rw[yx];have:=zv9 P on k;have:=zp7 P on n (k+1);omega
theorem zwc (wf:WfPr P)(on:Nat->Bool)(g:Nat):∀ j ∈ zbf P on g,j<P.fs.length:=by
 intro j A;unfold zbf at A;split at A
 ·exact zp8 wf on _ _ j A
 ·simp at A
theorem zwb (wf:WfPr P)(on:Nat->Bool)(g:Nat):(zbf P on g).length<=300:=by
 unfold zbf;split
 ·rename_i f hf;have h1:=zp7 P on (f.to-f.from_) f.from_;have h2:=(wf.from_ g f hf).2;have h3:=wf.cl;omega
 ·simp
theorem xq.lt {next:Nat->List Nat}{start:List Nat}(hs:∀ k ∈ start,k<N)(hn:∀ k,∀ j ∈ next k,j<N)(h:xq next start k):k<N:=by
 induction h with
 | start h=>exact hs _ h
 | step _ h2 _=>exact hn _ _ h2
end
abbrev zhb (l:List Bool):List Value:=l.map Value.bool
abbrev zgs (l:List Nat):List Value:=l.map fun b=>Value.map (some b)
abbrev sets (l:List Nat):List Value:=l.map zA
theorem zt4:zj prog 113 4 1 1:=zj.mk' underlying113 (z:=.bool false) yk rfl yd yd
theorem zop:zj prog 311 310 1 8:=zj.mk' underlying311 (z:=.map none) yk rfl yd yd
theorem tySets:zj prog 312 381 1 8:=zj.mk' underlying312 (z:=.int .u64 0) yk rfl yd yd
structure FlM (C:AX)(w:World)(V:FV)(on lo ma:Nat->Bool)(Ms:List Bool)(Rs:List Nat)(RS:Nat->Nat->Bool)(Bs:List Nat):Prop where
 h:FlH C w V on lo ma
 lB:C.w0.heap.size<=V.vz
 lon:V.vz≠V.jf
 s:w.ownsRow C.w0.heap.size 4 1 V.sv Ms.length (zhb Ms)
 r:w.ownsRow C.w0.heap.size 310 1 V.rv Rs.length (zgs Rs)
 b:w.ownsRow C.w0.heap.size 381 1 V.bv Bs.length (sets Bs)
 rm:∀ i rb,Rs[i]?=some rb->MkE w rb (RS i)/\V.vz≠rb/\V.vu≠rb
section
variable {C:AX} {w w':World} {V:FV} {on lo ma:Nat->Bool} {Ms:List Bool} {Rs:List Nat} {RS:Nat->Nat->Bool} {Bs:List Nat}
theorem FlM.below (h:FlM C w V on lo ma Ms Rs RS Bs)(hb:Below N w w')(hN:w.heap.size<=N):FlM C w' V on lo ma Ms Rs RS Bs :=
 ⟨h.h.below hb hN,h.lB,h.lon,zbn h.s hb fun k e=>yi (h.s.lt k e).2 hN,zbn h.r hb fun k e=>yi (h.r.lt k e).2 hN,zbn h.b hb fun k e=>yi (h.b.lt k e).2 hN,
  fun i rb hi=>⟨(h.rm i rb hi).1.below hb (yi (h.rm i rb hi).1.lt hN),(h.rm i rb hi).2⟩⟩
theorem FlM.drewN (h:FlM C w V on lo ma Ms Rs RS Bs)(n:Nat):FlM C (w.drewN n) V on lo ma Ms Rs RS Bs:=h.below (zc7 (yn _ w) n) yL
theorem FlM.drew (h:FlM C w V on lo ma Ms Rs RS Bs):FlM C w.drew V on lo ma Ms Rs RS Bs:=h.below (yn _ w).drew yL
theorem FlM.alloc (h:FlM C w V on lo ma Ms Rs RS Bs)(o:Obj):FlM C (w.alloc o) V on lo ma Ms Rs RS Bs:=h.below ((yn w.heap.size w).alloc yL o) yL
theorem FlH.turned (h:FlH C w V on lo ma)(hb:Blk w g t cs)(ht:314≠t)(hB:C.w0.heap.size<=g)(hg:w.grownBy w' (some g)):FlH C w' V on lo ma:=by
 have hf:∀ b S,MkE w b S->w'.heap[b]? = w.heap[b]? := fun b S hm=>hg.block b hm.lt (fun e=>hm.qf hb (by injection e));exact h.same (h.ve.grown hg h.ve.size (fun k e=>by cases e;exact hB)) (hg.block _ h.f.lt (fun e=>h.f.qs hb ht (by injection e))) (hf _ _ h.on) (hf _ _ h.lo) (hf _ _ h.ma)
theorem zht {B0:Nat}{e:TypeId}{size n:Nat}{v:Value}{xs:List Value}(h:w.ownsRow B e size v n xs)(hb:Blk w g t cs)(ht:e≠t)(hg:w.grownBy w' (some g)):w'.ownsRow B e size v n xs :=
 zn h fun k A=>hg.block k (h.lt k A).2 (fun e'=>by
  injection e' with e';subst e';obtain⟨cs',h'⟩:=zr h A;exact ht (Blk.inj h' hb).1)
theorem FlM.grown {size n:Nat}{v:Value}{xs:List Value}(h:FlM C w V on lo ma Ms Rs RS Bs)(hr:w.ownsRow C.w0.heap.size t size v n xs)(hg:w.grownBy w' v.ownBlock)(ht:314≠t) :
  FlH C w' V on lo ma/\(4≠t->w'.ownsRow C.w0.heap.size 4 1 V.sv Ms.length (zhb Ms))/\(310≠t->w'.ownsRow C.w0.heap.size 310 1 V.rv Rs.length (zgs Rs)) /\
  (381≠t->w'.ownsRow C.w0.heap.size 381 1 V.bv Bs.length (sets Bs))/\(∀ i rb,Rs[i]?=some rb->MkE w' rb (RS i)/\V.vz≠rb/\V.vu≠rb):=by
 cases hv:v.ownBlock with
 | none =>
  rw[hv]at hg;have hb:Below w.heap.size w w':=yB.grown hg yL (fun k e=>by cases e);have h':=h.below hb yL;exact⟨h'.h,fun _=>h'.s,fun _=>h'.r,fun _=>h'.b,h'.rm⟩
 | some g =>
  rw[hv]at hg;obtain⟨cs,hb⟩:=zr hr hv;exact⟨h.h.turned hb ht (hr.lt g hv).1 hg,fun e=>zht (B0:=0) h.s hb e hg,fun e=>zht (B0:=0) h.r hb e hg,fun e=>zht (B0:=0) h.b hb e hg,
   fun i rb hi=>⟨(h.rm i rb hi).1.qa (hg.block _ (h.rm i rb hi).1.lt (fun e=>(h.rm i rb hi).1.qf hb (by injection e))),(h.rm i rb hi).2⟩⟩
theorem FlH.store (h:FlH C w V on lo ma)(V':FV)(j:Nat)(u:Value)(h1:V'.fb=V.fb)(h2:V'.jf=V.jf)(h3:V'.vz=V.vz)(h4:V'.vu=V.vu)(hc:(zii C V).setIfInBounds j u=zii C V'):FlH C (w.setCell (.a V.fb j) u) V' on lo ma:=by
 refine⟨h.c,h.ve.setCell h.fB _,by rw[h1];exact h.fB,?_,by rw[h2];exact h.on.farB h.f _ _,by rw[h3];exact h.lo.farB h.f _ _,by rw[h4];exact h.ma.farB h.f _ _,by rw[h4];exact h.mB,by rw[h4,h2];exact h.mo,by rw[h4,h3];exact h.ml⟩;rw[h1];exact(h.f.qe j u).cast hc
theorem FlM.many {x:Bool}(h:FlM C w V on lo ma Ms Rs RS Bs)(hrow:w'.ownsRow C.w0.heap.size 4 1 (.s g (Ms.length+1) cap) (Ms.length+1) (zhb Ms++[.bool x]))(hg:w.grownBy w' V.sv.ownBlock) :
  FlM C (w'.setCell (.a V.fb 2) (.s g (Ms.length+1) cap)) { V with sv:=.s g (Ms.length+1) cap } on lo ma (Ms++[x]) Rs RS Bs:=by
 obtain⟨a,_,c,d,e⟩:=h.grown h.s hg yd;exact⟨a.store { V with sv:=_ } 2 _ rfl rfl rfl rfl (by simp[zii]),h.lB,h.lon,by have:=zL hrow a.f yd 2 (.s g (Ms.length+1) cap);simpa [zhb] using this,zL (c yd) a.f yd _ _,zL (d yd) a.f yd _ _,
  fun i rb hi=>⟨(e i rb hi).1.farB a.f _ _,(e i rb hi).2⟩⟩
theorem FlM.belows (h:FlM C w V on lo ma Ms Rs RS Bs)(hrow:w'.ownsRow C.w0.heap.size 381 1 (.s g (Bs.length+1) cap) (Bs.length+1) (sets Bs++[zA x]))(hg:w.grownBy w' V.bv.ownBlock) :
  FlM C (w'.setCell (.a V.fb 4) (.s g (Bs.length+1) cap)) { V with bv:=.s g (Bs.length+1) cap } on lo ma Ms Rs RS (Bs++[x]):=by
 obtain⟨a,b,c,_,e⟩:=h.grown h.b hg yd;exact⟨a.store { V with bv:=_ } 4 _ rfl rfl rfl rfl (by simp[zii]),h.lB,h.lon,zL (b yd) a.f yd _ _,zL (c yd) a.f yd _ _,by have:=zL hrow a.f yd 4 (.s g (Bs.length+1) cap);simpa [sets] using this,
  fun i rb hi=>⟨(e i rb hi).1.farB a.f _ _,(e i rb hi).2⟩⟩
theorem FlM.roots {m:Nat}(h:FlM C w V on lo ma Ms Rs RS Bs)(hm:MkE w m S)(hml:V.vz≠m)(hmm:V.vu≠m)(hS:RS Rs.length=S)(hrow:w'.ownsRow C.w0.heap.size 310 1 (.s g (Rs.length+1) cap) (Rs.length+1) (zgs Rs++[.m m]))(hg:w.grownBy w' V.rv.ownBlock) :
  FlM C (w'.setCell (.a V.fb 3) (.s g (Rs.length+1) cap)) { V with rv:=.s g (Rs.length+1) cap } on lo ma Ms (Rs++[m]) RS Bs:=by
 obtain⟨a,b,_,d,e⟩:=h.grown h.r hg yd;have E:MkE w' m S:=hm.qa (hg.block _ hm.lt (fun e'=>by
  obtain⟨cs,hb⟩:=zr h.r e'.symm;exact hm.qf hb rfl))
 refine⟨a.store { V with rv:=_ } 3 _ rfl rfl rfl rfl (by simp[zii]),h.lB,h.lon,zL (b yd) a.f yd _ _,by have:=zL hrow a.f yd 3 (.s g (Rs.length+1) cap);simpa [zgs] using this,zL (d yd) a.f yd _ _,?_⟩;intro i rb hi;rcases yF i Rs.length with hl | hl
 ·rw[yz hl]at hi;exact⟨(e i rb hi).1.farB a.f _ _,(e i rb hi).2⟩
 ·rw[yC hl]at hi;have D:=(yh.1 hi).1;simp at D;have A:i=Rs.length:=yo;subst A;simp at hi;subst hi;rw[hS];exact⟨E.farB a.f _ _,hml,hmm⟩
theorem FlM.markLo (h:FlM C w V on lo ma Ms Rs RS Bs)(hm:MkE w' V.vz (fun j=>decide (j=k)||lo j))(hg:w.grownBy w' (some V.vz)):FlM C w' V on (fun j=>decide (j=k)||lo j) ma Ms Rs RS Bs:=by
 have hb:C.on w':=h.h.ve.grown hg h.h.ve.size (fun k e=>by cases e;exact h.lB);have A:∀ {B e size n v xs},w.ownsRow B e size v n xs->w'.ownsRow B e size v n xs:=fun D=>zn D fun k hk=>hg.block k (D.lt k hk).2 (fun e=>by
  injection e with e;subst e;obtain⟨cs,hb⟩:=zr D hk;exact h.h.lo.qf hb rfl)
 refine⟨⟨h.h.c,hb,h.h.fB,(hg.block _ h.h.f.lt (fun e=>h.h.lo.qf h.h.f (by injection e with e;exact e.symm))).trans h.h.f,h.h.on.qa (hg.block _ h.h.on.lt (fun e=>h.lon (by injection e with e;exact e.symm))),hm,h.h.ma.qa (hg.block _ h.h.ma.lt (fun e=>h.h.ml (by injection e))),h.h.mB,h.h.mo,h.h.ml⟩,h.lB,h.lon,A h.s,A h.r,A h.b,?_⟩;intro i rb hi;obtain⟨a,b,c⟩:=h.rm i rb hi;exact⟨a.qa (hg.block _ a.lt (fun e=>b (by injection e with e;exact e.symm))),b,c⟩
end
end
section
theorem ent (g:Nat){fn:Func}(hf:prog.funcs[g]?=some fn) (hn:(fn.name == "runtime.NumGoroutine")=false) (hb:fn.body.isSome=true) (args:Array Value) (w:World):(callFunc g args).run prog w=.ok (.enter g args) w:=by
 obtain⟨c,A⟩:=Option.isSome_iff_exists.1 hb;exact enters_of hf hn A args w
section
variable {C:AX} (HC:AXok C)
include HC
theorem from_on (w:World)(fb vf vp rb:Nat)(m:Nat)(f:Fu)(hf:C.P.fs[m]?=some f)(hon:C.on w)(h0:w.cell? (.a fb 0)=some (.p C.pb))(hvf:w.cell? (.a vf 0)=some (.p fb))(hvp:w.cell? (.a vp 0)=some (.p C.pb))
  (hl:fb<w.heap.size/\vf<w.heap.size/\vp<w.heap.size) (hr:Blk w rb 3 #[.i f.from_]) :
  Calls prog 217 #[.func (.func 218) #[] #[.p vf,.p vp],.s rb 1 1] w (zg5 w (zb6 C.P) [f.from_]):=by
 refine znj 218 #[] #[.p vf,.p vp] (zb6 C.P) [f.from_] (some (.a rb 0)) 1 rb C.P.code.length 3 w (ent _ func218 yk rfl) (yq HC.wf.cl) yo yy
  ⟨rfl,.inr ⟨rb,1,_,rfl,yr _,hr,by simp,by simp[maxLen],by simp,by simp[ints]⟩⟩ yy (fun k D=>⟨D.lt (fun j A=>by rw[yG.1 A];exact(HC.wf.from_ m f hf).1) (zsn HC.wf),zyz _ _⟩) ?_
 intro k W D hb;have E:k<C.P.code.length:=D.lt (fun j A=>by rw[yG.1 A];exact(HC.wf.from_ m f hf).1) (zsn HC.wf);obtain⟨i,hi⟩:∃ i,C.P.code[k]?=some i:=⟨_,yc E⟩;exact zyy C HC W fb vf vp k i (hon.trans (hb.mono hon.size)) ((hb.cell (p:=(.a fb 0)) hl.1).trans h0) ((hb.cell (p:=(.a vf 0)) hl.2.1).trans hvf) ((hb.cell (p:=(.a vp 0)) hl.2.2).trans hvp) hi (yi hl.2.2 hb.size)
theorem zxj (w:World)(fb k:Nat)(b0:Option Addr)(c0 B0:Nat)(hon:C.on w)(h0:w.cell? (.a fb 0)=some (.p C.pb))(hl:fb<w.heap.size)
  (hr:w.ownsRow B0 3 1 (.slice b0 (zS C.P k).length c0) (zS C.P k).length (ints (zS C.P k))) (hn:(zS C.P k).length=0->b0=none/\c0=0) :
  Calls prog 217 #[.func (.func 219) #[.p fb] #[],.slice b0 (zS C.P k).length c0] w (zg5 w (zS C.P) (zS C.P k)):=by
 have D:∀ j,xq (zS C.P) (zS C.P k) j->j<C.P.code.length:=fun j A=>A.lt (zij HC.wf k) (zij HC.wf);refine znj 219 #[.p fb] #[] (zS C.P) (zS C.P k) b0 c0 B0 C.P.code.length 2 w (ent _ func219 yk rfl) (yq HC.wf.cl) yo (yq (zlb C.P k))
  hr hn (fun j A=>⟨D j A,zlb _ _⟩) ?_
 intro j W A hb;obtain⟨i,hi⟩:∃ i,C.P.code[j]?=some i:=⟨_,yc (D j A)⟩;exact zjq C HC W fb j i (hon.trans (hb.mono hon.size)) ((hb.cell (p:=(.a fb 0)) hl).trans h0) hi
theorem zq0 {V:FV}{on:Nat->Bool}(h:FlH C w V on lo ma)(rb g:Nat)(hg:g<C.P.fs.length)(hr:Blk w rb 3 #[.i g]) :
  Calls prog 217 #[.func (.func 274) #[.p V.fb] #[],.s rb 1 1] w (zg5 w (zbf C.P on) [g]):=by
 have A:∀ j,xq (zbf C.P on) [g] j->j<C.P.fs.length:=fun j D=>D.lt (fun k E=>by rw[yG.1 E];exact hg) (zwc HC.wf on);refine znj 274 #[.p V.fb] #[] (zbf C.P on) [g] (some (.a rb 0)) 1 rb C.P.fs.length 300 w (ent _ func274 yk rfl) (yq HC.wf.fl) yo yy
  ⟨rfl,.inr ⟨rb,1,_,rfl,yr _,hr,by simp,by simp[maxLen],by simp,by simp[ints]⟩⟩ yy (fun k E=>⟨A k E,zwb HC.wf on k⟩) ?_
 intro j W D hb;obtain⟨f,hf⟩:∃ f,C.P.fs[j]?=some f:=⟨_,yc (A j D)⟩;exact zwd C W V on lo ma j f (h.below hb yL) hf
end
def OnIs (P:Pr)(on:Nat->Bool):Prop:=∀ k,on k=true↔∃ f,P.fs[P.main]?=some f/\xq (zb6 P) [f.from_] k
def LoIs (P:Pr)(lo:Nat->Bool):Prop:=∀ k,lo k=true↔k<P.code.length/\xq (zS P) (zS P k) k
def MaIs (P:Pr)(on lo ma:Nat->Bool):Prop:=∀ g,ma g=true↔zfs P on lo g
theorem zz1 (C:AX)(w0:World)(V:FV)(on lo:Nat->Bool):zo7 (zd1 C w0 V on lo) (fun ma=>zfk ma C.P.fs.length) ⟨222,#[.p V.fb],#[]⟩ (zi7 C.P on lo) :=
 ⟨ent _ func222 yk rfl,fun s W h=>zyx C w0 W V on lo s h⟩
theorem often_is {on:Nat->Bool}(hs:∀ g,ma g=true->zfs P on lo g)(hc:zi7 P on lo ma):MaIs P on lo ma:=fun g=>⟨hs g,fun h=>by
 refine h ma fun g A ht=>?_;cases hm:ma g
 ·rw[hc g A hm]at ht;cases ht
 ·rfl⟩
theorem zxg {C:AX}{V:FV}{on:Nat->Bool}(h:FlH C w V on lo fun _=>false)(rb:Nat)(hr:Blk w rb 37 #[.func (.func 222) #[.p V.fb] #[]]) :
  Calls prog 221 #[.s rb 1 1] w fun e w'=>e=.e/\∃ ma,FlH C w' V on lo ma/\MaIs C.P on lo ma/\w.grownBy w' (some V.vu):=by
 have G:rb≠V.vu:=fun e=>h.ma.qf hr e.symm;refine(zjo (zd1 C w V on lo) (fun ma=>zfk ma C.P.fs.length) [⟨222,#[.p V.fb],#[]⟩] [zi7 C.P on lo] rb 1 w (fun _=>false) rfl yy ⟨h,by simp,ycp _ _⟩ ?_ ?_).mono ?_
 ·intro s W D j r A;have hb:Blk W rb 37 #[.func (.func 222) #[.p V.fb] #[]]:=hr.grown D.k (fun e=>G (by injection e));cases j with
  | zero=>simp at A;subst A;exact hb.cell 0
  | succ j=>simp at A
 ·intro j r c A H;cases j with
  | zero=>simp at A H;subst A H;exact zz1 C w V on lo
  | succ j=>simp at A
 ·rintro e w' ⟨ma,rfl,D,E⟩;exact⟨rfl,ma,D.h,often_is D.s (E _ yy),D.k⟩
end
attribute [local go_sem] Oper.semAt_some
def mems (s:Nat):List Nat:=(List.range 48).filter fun k=>s.testBit k
def zcx (s k:Nat):List Nat:=(List.range k).filter fun k=>s.testBit k
theorem zn0 (s k:Nat):zcx s (k+1)=if s.testBit k then zcx s k++[k]else zcx s k:=by
 unfold zcx;rw[List.range_succ,yb7];cases h:s.testBit k <;> simp[h]
theorem mems_at (hk:k<48)(h:s.testBit k=true):(mems s)[(zcx s k).length]?=some k:=by
 have h1:mems s=zcx s (k+1)++((List.range (47-k)).map (k+1 + ·)).filter fun k=>s.testBit k:=by
  unfold mems zcx;rw[<- yb7,<- List.range_add];congr 2;omega
 rw[h1,zn0,yj h,ya7,yC yL];simp
theorem zyh (hk:k<=48)(h:s >>> k=0):zcx s k=mems s:=by
 have h1:mems s=zcx s k++((List.range (48-k)).map (k + ·)).filter fun k=>s.testBit k:=by
  unfold mems zcx;rw[<- yb7,<- List.range_add];congr 2;omega
 rw[h1,List.filter_eq_nil_iff.2,ya9];intro j A;obtain⟨i,_,rfl⟩:=yae.1 A;rw[<- Nat.testBit_shiftRight,h];simp
theorem zit (hs:s<2 ^ 48):k ∈ mems s↔s.testBit k=true:=by
 unfold mems;rw[List.mem_filter,yaf];refine⟨fun h=>h.2,fun h=>⟨?_,h⟩⟩;rcases yF k 48 with h1 | h1
 ·exact h1
 ·rw[ya6 (yi hs (yO yo h1))]at h;cases h
theorem zrq (h:k ∈ mems s):k<48:=by
 unfold mems at h;have:=(List.mem_filter.1 h).1;simpa using this
theorem shr_zero (hs:s<2 ^ 48)(hk:48<=k):s >>> k=0:=by
 rw[ybj];exact Nat.div_eq_of_lt (yi hs (yO yo hk))
theorem zkl (n s:Nat)(hs:s<2 ^ 48):SeqOf n prog 237 #[zA s] #[] ((mems s).map fun k:Nat=>Value.int .i64 (k:Int)):=by
 intro l J Jx W Q Y;have U:=zH Q;clear Q;refine callsIn_of_wp func237 rfl trivial ?_ rfl;simp only[ntmps237,yb2,yai,ya8,Nat.reduceAdd,Nat.reduceSub,ybn,ybm,yb3,ybp,yas,ya1]
 gi_wp2
 gi_loopw [4] (fun v4 wr=>∃ k:Nat,v4=.i k/\k<=48/\J (zcx s k).length wr) (fun v4 _=>48-(intOf v4).toNat)
 case atStart=>exact⟨0,rfl,yD _,Y⟩
 case round =>
  obtain⟨k,rfl,hk,O⟩:=hrel;have a1:=zt6 s k;have Z:s >>> k<2 ^ 48:=yag (by rw[ybj];exact Nat.div_le_self _ _) hs;have a0:(k:Int)<64:=yo;have I:=zH O;have S:=zH hk;clear O;by_cases D:s >>> k=0
  ·have hd:decide ((0:Int)<(s:Int) >>> k)=false:=by
    have e:(s:Int) >>> k=((s >>> k:Nat):Int):=rfl;rw[e,D];rfl
   have R:=zH (zyh S.o D);clear D
   gi_wp2
   first | go_end0 | refine ym (yp rfl _ _ _) rfl ?_
   exact⟨⟨_,rfl⟩,.inl (by have:=I.o;rw[R.o]at this;simpa using this)⟩
  ·have hd:decide ((0:Int)<(s:Int) >>> k)=true:=by
    have e:(s:Int) >>> k=((s >>> k:Nat):Int):=rfl;rw[e,decide_eq_true_iff];exact_mod_cast Nat.pos_of_ne_zero D
   have A:k<48:=by
    rcases yF k 48 with h | h
    ·exact h
    ·exact absurd (shr_zero hs h) D
   have N:=zH (zkm s k wr hs A);clear D;cases hb:s.testBit k
   ·have K:=zH (show zcx s (k+1)=zcx s k by rw[zn0,hb];rfl);have H:=zH hb;clear hb
    gi_wp2
    refine⟨trivial,(fun h=>by simp[Fence.wide]at h),?_⟩;refine(callsIn_wide.2 N.o).mono ?_;rw[H.o];rintro e w' ⟨rfl,rfl⟩
    gi_wp2
    refine⟨fun _ h=>(by cases h),?_⟩
    gi_wp2
    go_roundw
    case rel=>exact⟨k+1,by push_cast;rfl,A,by rw[K.o];exact I.o⟩
    case measure=>simp only[intOf];omega
   ·have K:=zH (show zcx s (k+1)=zcx s k++[k] by rw[zn0,hb];rfl);have H:=zH hb;obtain⟨fn,tmps,G,body,hy,hR⟩:=U.o _ _ wr (by rw[yV,mems_at A hb];rfl) I.o;clear hb
    gi_wp2
    refine⟨trivial,(fun h=>by simp[Fence.wide]at h),?_⟩;refine(callsIn_wide.2 N.o).mono ?_;rw[H.o];rintro e w' ⟨rfl,rfl⟩
    gi_wp2
    refine⟨(fun h=>by simp[Fence.wide]at h),hR.mono ?_⟩;rintro e W' (⟨rfl,L⟩ | ⟨rfl,E⟩)
    ·gi_wp2
     go_roundw
     case rel=>exact⟨k+1,by push_cast;rfl,A,by rw[K.o,yx];exact L⟩
     case measure=>simp only[intOf];omega
    ·gi_wp2
     refine ym (yp rfl _ _ _) rfl ?_;exact⟨⟨_,rfl⟩,.inr E⟩
attribute [local go_sem] Oper.semAt_some
structure ApI (w:World)(l:List Nat)(i:Nat)(W:World):Prop where
 v:∃ v,Blk W w.heap.size 67 #[v]/\W.ownsRow w.heap.size 3 1 v i (ints (l.take i))/\(i=0->v=.z)
 b:Below w.heap.size w W
theorem ApI.qo {l:List Nat}(hB:w.heap.size<=B)(h:ApI w l i W)(hr:Recs B W W'):ApI w l i W':=by
 obtain⟨⟨v,h1,h2,h3⟩,h4⟩:=h;exact⟨⟨v,h1.qo hr,zkh h2 hr,h3⟩,h4.trans (hr.below.mono hB)⟩
theorem zu4 (gf:Nat)(first cap:Array Value)(l:List Nat)(w:World)(hl:l.length<=1000)(eg:∀ args w,(callFunc gf args).run prog w=.ok (.enter gf args) w)
  (hseq:SeqOf 2 prog gf first cap (ints l)) :
  Calls prog 288 #[.z,.func (.func gf) first cap] w (zad w l):=by
 refine zjk func288 rfl ?_;simp only[ntmps288,yb2,yai,ya8,Nat.reduceAdd,Nat.reduceSub,ybn,ybm,yb3,ybp,yas,ya1];go_wp2_with fail;refine(wpIn_wide (n:=3)).1 (zkq (gf:=gf) (first:=first) (cap:=cap) rfl eg hseq rfl (ApI w l) (fun _ _=>False) (fun i W W' D h=>h.qo yy D) (fun _ _ _ _ h=>h)
  ⟨⟨_,Blk.newAt rfl,yA _ _ _ _,fun _=>rfl⟩,(yn _ w).alloc yL _⟩
  (fun x=>{ tmps:=#[Value.slice none 0 0,Value.func (Fn.func gf) first cap,Value.pointer (some { block:=w.heap.size,off:=0 }),undef,Value.slice none 0 0,x,Value.func (Fn.func gf) first cap,x,undef,undef,undef,undef,undef],defers:=[] }) ?assign ?body ?done ?stop)
 case assign =>
  intro l x W K hK
  gi_wp2
  exact hK
 case body =>
  rintro lr i x W hx J hz;obtain⟨y,O,rfl⟩:∃ y,l[i]?=some y/\zdb y=x:=by simpa [ints] using hx
  obtain⟨⟨v,hv,D,hn⟩,hb⟩:=J;have N:=hv.cell;have a1:=hv.frozen;have a2:=hv.lt;have hi:i<l.length:=(yh.1 O).1;have Q:=zH hv;have H:=zH D;have HN:=zH hn;have HB:=zH hb;have HY:=zH O;clear hv D hn hb O hx;refine wpIn_block ?_;refine z1j yk ?_;go_wp2_with (refine ze2 zhx rfl _ _ rfl w.heap.size _ i (ints (l.take i)) W.heap.size _ _ (H.o.alloc _) (Blk.newAt rfl) rfl rfl rfl (by simp[Value.oneCell',zdb]) yo (by simp;omega) ?_;intro g cap w2 G E S;have A:=(Q.o.alloc (.k #[zdb y] 3)).append (H.o.alloc (.k #[zdb y] 3)) E yd;have Y:=A.cell;have Z:=A.frozen;have a0:=A.lt);refine zf5 ?_;have L:Below w.heap.size w w2:=(HB.o.alloc yo _).grown E (by simp;omega) (fun k e=>(H.o.lt k e).1);refine⟨((zP.refl W).alloc _ |>.trans (.of_grown E fun k o e ho=>row_rec (H.o.alloc _) e ho)).setCell A _,⟨⟨.s g (i+1) cap,(A.qe 0 _).cast yy,?_,fun h=>by omega⟩,L.setCell yL _⟩⟩;refine zL (t:=67) ?_ A yd 0 _;rw[show ints (l.take (i+1))=ints (l.take i)++[zdb y] by rw[yam,HY.o];simp[ints]];exact G
 case done =>
  rintro W J R;obtain⟨⟨v,hv,D,hn⟩,hb⟩:=J;have N:=hv.cell;have Q:=zH hv;have HD:=zH R;have I:=zH (show zad w l (.r v) W from⟨v,rfl,by
   have:=D;rw[show(ints l).length=l.length by simp,yaz]at this;exact this,fun h=>hn (by simpa using h),hb⟩)
  clear hv D hn hb R;go_wp2_with fail;refine zhj (B:=w.heap.size) (fun W=>zad w l (.r v) W) (fun W W' D h=>?_) (fun W h=>?_) _ W ⟨?_,?_⟩ I.o
  ·obtain⟨u,h1,h2,h3,h4⟩:=h;exact⟨u,h1,zkh h2 D,h3,h4.trans D.below⟩
  ·exact⟨v,(results_tmp rfl _ _ _).trans rfl,h⟩
  ·rintro d U;simp at U;exact⟨_,by simp,U,by simpa using HD.o⟩
  ·simp
 case stop=>exact fun c W h _=>h.elim
theorem mems_len (s:Nat):(mems s).length<=48:=by
 have:=ycf (fun k=>s.testBit k) (List.range 48);simpa [mems] using this
theorem zkj (args:Array Value)(w:World):(callFunc 237 args).run prog w=.ok (.enter 237 args) w:=enters_of func237 yk rfl args w
theorem zqe (s:Nat)(hs:s<2 ^ 48)(w:World):Calls prog 236 #[.func (.func 237) #[zA s] #[]] w (zad w (mems s)):=by
 have A:=zH (zu4 237 #[zA s] #[] (mems s) w (ya (mems_len s) yo) zkj (zkl 2 s hs));go_enter func236,ntmps236;go_wp2_with fail;refine A.o.mono ?_;rintro e w' ⟨v,rfl,h1,h2,h3⟩;have H:=zH (show zad w (mems s) (.r v) w' from⟨v,rfl,h1,h2,h3⟩);clear h1 h2 h3;go_wp2;go_ret;exact H.o
section
attribute [local go_sem] Oper.semAt_some
def zg (bl:List Nat)(s j:Nat):Bool:=(bl[s]?.getD 0).testBit j
def BelP (b0:List Nat)(s j:Nat):Prop:=∀ S:Nat->Nat->Bool,(∀ s j,zg b0 s j=true->S s j=true)->(∀ s j k,S s j=true->S j k=true->S s k=true)->S s j=true
theorem BelP.trans {b0:List Nat}(h:BelP b0 s j)(h':BelP b0 j k):BelP b0 s k:=fun S h1 h2=>h2 _ _ _ (h S h1 h2) (h' S h1 h2)
def lack (bl:List Nat):Nat:=(bl.map fun s=>2 ^ 48-s).sum
theorem zri:∀ {bl:List Nat} {s x y:Nat},bl[s]?=some x->x<y->y<2 ^ 48->lack (bl.set s y)<lack bl
 | [],s,x,y,h,_,_=>by simp at h
 | a::r,0,x,y,h,h1,h2=>by
  simp at h;subst h;simp only[lack,yU,yT,yb6];omega
 | a::r,s+1,x,y,h,h1,h2=>by
  have:=zri (bl:=r) (s:=s) (by simpa using h) h1 h2;simp only[lack,yR,yT,yb6]at this |-;omega
def zi1 (bl:List Nat)(s:Nat):Prop:=∀ j,zg bl s j=true->∀ k,zg bl j k=true->zg bl s k=true
structure zbr (C:AX)(w0:World)(V:FV)(on lo ma:Nat->Bool)(Ms:List Bool)(Rs:List Nat)(RS:Nat->Nat->Bool)(b0:List Nat)(bl:List Nat)(W:World):Prop where
 f:FlM C W V on lo ma Ms Rs RS bl
 len:bl.length=b0.length
 small:∀ (s x:Nat),bl[s]?=some x->x<2 ^ b0.length
 s:∀ s j,zg bl s j=true->BelP b0 s j
 g:∀ s j,zg b0 s j=true->zg bl s j=true
 k:w0.grownBy W V.bv.ownBlock
 n5:b0.length<=5
section
variable {C:AX} {w0 w w':World} {V:FV} {on lo ma:Nat->Bool} {Ms:List Bool} {Rs:List Nat} {RS:Nat->Nat->Bool} {b0 bl:List Nat}
theorem zra {row:Option Nat}(h:w0.grownBy w row)(hb:Below w.heap.size w w'):w0.grownBy w' row:=⟨hb.os.trans h.os,hb.tape.trans h.tape,hb.output.trans h.output,ya h.size hb.size,fun k A D=>(hb.block k (yi A h.size)).trans (h.block k A D)⟩
theorem zbr.below (h:zbr C w0 V on lo ma Ms Rs RS b0 bl w)(hb:Below w.heap.size w w'):zbr C w0 V on lo ma Ms Rs RS b0 bl w' :=
 ⟨h.f.below hb yL,h.len,h.small,h.s,h.g,zra h.k hb,h.n5⟩
theorem FlM.qo (h:FlM C w V on lo ma Ms Rs RS bl)(hr:Recs B w w')(hB:C.w0.heap.size<=B):FlM C w' V on lo ma Ms Rs RS bl:=by
 have hm:∀ {b S},MkE w b S->MkE w' b S:=fun {b S} hm=>hm.qa (by
  obtain⟨m,h⟩:=hm;obtain⟨o,ho,A⟩:∃ o,w.heap[b]?=some o/\ziq o=false:=by
   obtain⟨D,cl,h1,_⟩:=h.is;exact⟨_,h1,rfl⟩
  rw[hr.same b o ho A,ho])
 exact⟨⟨h.h.c,h.h.ve.trans (hr.below.mono hB),h.h.fB,h.h.f.qo hr,hm h.h.on,hm h.h.lo,hm h.h.ma,h.h.mB,h.h.mo,h.h.ml⟩,h.lB,h.lon,zkh h.s hr,zkh h.r hr,zkh h.b hr,fun i rb hi=>⟨hm (h.rm i rb hi).1,(h.rm i rb hi).2⟩⟩
theorem zbr.qo (h:zbr C w0 V on lo ma Ms Rs RS b0 bl w)(hr:Recs B w w')(hB:C.w0.heap.size<=B)(hB0:w0.heap.size<=B):zbr C w0 V on lo ma Ms Rs RS b0 bl w' :=
 ⟨h.f.qo hr hB,h.len,h.small,h.s,h.g,⟨hr.os.trans h.k.os,hr.tape.trans h.k.tape,hr.output.trans h.k.output,ya h.k.size hr.size,fun k D A=>(hr.low k yo).trans (h.k.block k D A)⟩,h.n5⟩
theorem zbr.vi (h:zbr C w0 V on lo ma Ms Rs RS b0 bl w)(hb:Blk w g t cs)(hg:w0.heap.size<=g)(hg2:C.w0.heap.size<=g)(ht:314≠t)(ht1:310≠t)(ht2:381≠t)(hs:V.sv.ownBlock≠some g)(u:Value):zbr C w0 V on lo ma Ms Rs RS b0 bl (w.setCell (.a g 0) u):=by
 have A:=grownBy_setCell' w g u;refine⟨⟨h.f.h.turned hb ht hg2 A,h.f.lB,h.f.lon,zn h.f.s fun k e=>A.block k (h.f.s.lt k e).2 (fun e'=>hs (by rw[e,e'])),zht (B0:=0) h.f.r hb ht1 A,zht (B0:=0) h.f.b hb ht2 A,fun i rb hi=>⟨(h.f.rm i rb hi).1.farB hb _ _,(h.f.rm i rb hi).2⟩⟩,h.len,h.small,h.s,h.g,?_,h.n5⟩;exact⟨h.k.os,h.k.tape,h.k.output,ya h.k.size A.size,fun k E D=>(yt _ _ _ _ (by show k≠g;omega)).trans (h.k.block k E D)⟩
theorem zbr.grow {bg y:Nat}(h:zbr C w0 V on lo ma Ms Rs RS b0 bl w)(hv:V.bv=.s bg bl.length cap)(hx:bl[s]?=some x)(hy:bl[j]?=some y)(H:x.testBit j=true\/BelP b0 s j) :
  zbr C w0 V on lo ma Ms Rs RS b0 (bl.set s (x|||y)) (w.setCell (.a bg s) (zA (x|||y))):=by
 have hb:=h.f.b;rw[hv]at hb;obtain⟨cs,D⟩:=zr hb (k:=bg) rfl;have J:=(hb.lt bg rfl).1;have I:s<bl.length:=(yh.1 hx).1;have E:w.grownBy (w.setCell (.a bg s) (zA (x|||y))) (some bg):=by
  have hx:=(yn 0 w).setCell (p:=(.a bg s)) yZ (zA (x|||y));exact⟨hx.os,hx.tape,hx.output,hx.size,fun k _ E=>yt _ _ _ _ (fun e=>E (by rw[e]))⟩
 refine⟨⟨h.f.h.turned D yd J E,h.f.lB,h.f.lon,zht (B0:=0) h.f.s D yd E,zht (B0:=0) h.f.r D yd E,?_,fun i rb hi=>⟨(h.f.rm i rb hi).1.farB D _ _,(h.f.rm i rb hi).2⟩⟩,by rw[ybw];exact h.len,?_,?_,?_,?_,h.n5⟩
 ·rw[ybw,hv,show sets (bl.set s (x|||y))=(sets bl).set s (zA (x|||y)) by simp[sets]];have:=(hb.stored s (zA (x|||y))).1;exact this
 ·intro i z G;rcases Nat.decEq i s with hi | hi
  ·rw[yb5 (fun e=>hi e.symm)]at G;exact h.small i z G
  ·subst hi;rw[ybt I]at G;injection G with G;subst G;exact yJ (h.small _ _ hx) (h.small _ _ hy)
 ·intro i k A;unfold zg at A;rcases Nat.decEq i s with hi | hi
  ·rw[yb5 (fun e=>hi e.symm)]at A;exact h.s i k A
  ·subst hi;rw[ybt I]at A;simp only[ybb,yau,yQ]at A;rcases A with A | A
   ·exact h.s i k (by unfold zg;rw[hx];exact A)
   ·exact(H.elim (fun H=>h.s i j (by unfold zg;rw[hx];exact H)) id).trans (h.s j k (by unfold zg;rw[hy];exact A))
 ·intro i k A;have:=h.g i k A;unfold zg at this |-;rcases Nat.decEq i s with hi | hi
  ·rw[yb5 (fun e=>hi e.symm)];exact this
  ·subst hi;rw[hx]at this;rw[ybt I];simp only[ybb,yau]at this |-;rw[this];rfl
 ·have h3:=h.k;rw[hv]at h3 |-;exact h3.trans E
end
end
attribute [local go_sem] Oper.semAt_some
structure BlP (C:AX)(w0 w:World)(V:FV)(on lo ma:Nat->Bool)(Ms:List Bool)(Rs:List Nat)(RS:Nat->Nat->Bool)(b0 bA bl:List Nat)(c:Bool)(s:Nat)(W:World):Prop where
 inv:zbr C w0 V on lo ma Ms Rs RS b0 bl W
 cb:Blk W w.heap.size 4 #[.bool c]
 ls:c=true->lack bl<lack bA
 eq:c=false->bl=bA/\∀ i,i<s->zi1 bA i
 z0:w0.heap.size<=w.heap.size
 zC:C.w0.heap.size<=w.heap.size
 sv:∀ k,V.sv.ownBlock=some k->k<w.heap.size
def BlO (C:AX)(w0 w:World)(V:FV)(on lo ma:Nat->Bool)(Ms:List Bool)(Rs:List Nat)(RS:Nat->Nat->Bool)(b0 bA:List Nat)(gk:Nat)(sv:Value)(ds:List Deferred)(W:World):Prop :=
 ∃ (s:Nat) (bl:List Nat) (c:Bool),sv=.i s/\gk=b0.length-s/\s<=b0.length/\BlP C w0 w V on lo ma Ms Rs RS b0 bA bl c s W/\xk w.heap.size W ds
def zg7 (N:Nat)(ds:List Deferred):Prop:=∀ d ∈ ds,∀ D,d={ target:=.collected D,args:=#[] }->D<N
theorem xk.lt (h:xk B W ds):zg7 W.heap.size ds:=fun d A D e=>by
 obtain⟨D',_,h1,h2⟩:=h.1 d A;rw[e]at h1;injection h1 with h1;injection h1 with h1;rw[h1];exact(yP.1 h2).1
theorem xk.qo (h:xk B W ds)(hN:zg7 N ds)(hr:Recs N W W'):xk B W' ds :=
 ⟨fun d A=>by obtain⟨D,h0,h1,h2⟩:=h.1 d A;exact⟨D,h0,h1,(hr.low D (hN d A D h1)).trans h2⟩,h.2⟩
theorem xk.more (h:xk B W ds)(hN:zg7 N ds)(hB:B<=N)(hD:W.heap[N]?=some (.deferred (some []))):xk B W ({ target:=.collected N,args:=#[] }::ds):=by
 refine⟨fun d A=>?_,ya0.2 ⟨fun A=>?_,h.2⟩⟩
 ·rcases yW.1 A with rfl | A
  ·exact⟨N,hB,rfl,hD⟩
  ·exact h.1 d A
 ·exact Nat.lt_irrefl _ (hN _ A N rfl)
structure BlI (C:AX)(w0 w:World)(V:FV)(on lo ma:Nat->Bool)(Ms:List Bool)(Rs:List Nat)(RS:Nat->Nat->Bool)(b0 bA:List Nat)(s x sb N:Nat)(ds:List Deferred)(i:Nat)(W:World):Prop where
 ex:∃ bl c,BlP C w0 w V on lo ma Ms Rs RS b0 bA bl c s W/\(c=false->bA[s]?=some x/\∀ j ∈ (mems x).take i,∀ k,zg bA j k=true->zg bA s k=true)
 sb:Blk W sb 3 #[.i s]
 m:xk w.heap.size W ds
 z:N<=W.heap.size
theorem BlP.qo {C:AX}{w0:World}{V:FV}{on:Nat->Bool}{bA bl:List Nat}{c:Bool}(h:BlP C w0 w V on lo ma Ms Rs RS b0 bA bl c s W)(hr:Recs N W W')(hN:w.heap.size<=N) :
  BlP C w0 w V on lo ma Ms Rs RS b0 bA bl c s W':=⟨h.inv.qo hr (ya h.zC hN) (ya h.z0 hN),h.cb.qo hr,h.ls,h.eq,h.z0,h.zC,h.sv⟩
theorem BlI.qo {C:AX}{w0:World}{V:FV}{on:Nat->Bool}{bA:List Nat}{sb:Nat}(h:BlI C w0 w V on lo ma Ms Rs RS b0 bA s x sb N ds i W)(hN:w.heap.size<=N)(hd:zg7 N ds)(hr:Recs N W W') :
  BlI C w0 w V on lo ma Ms Rs RS b0 bA s x sb N ds i W':=by
 obtain⟨bl,c,h1,h2⟩:=h.ex;exact⟨⟨bl,c,h1.qo hr hN,h2⟩,h.sb.qo hr,h.m.qo hd hr,ya h.z hr.size⟩
theorem zvj (C:AX)(w0 w:World)(V:FV)(on lo ma:Nat->Bool)(Ms:List Bool)(Rs:List Nat)(RS:Nat->Nat->Bool)(b0 bA:List Nat)(vf:Nat)(h:zbr C w0 V on lo ma Ms Rs RS b0 bA w)(hvf:Blk w0 vf 296 #[.p V.fb])(hne:V.bv.ownBlock≠some vf) :
  Calls prog 276 #[.p vf] w (zgi (zbr C w0 V on lo ma Ms Rs RS b0) lack (fun bl=>∀ s,s<b0.length->zi1 bl s) bA):=by
 have U:=zH (fun bl W (h:zbr C w0 V on lo ma Ms Rs RS b0 bl W)=>hvf.grown h.k (fun e=>hne e.symm));have L:=(U.o bA w h).cell;have a8:=(U.o bA w h).lt;obtain⟨hf,hp⟩:=h.f.h.cells;have a5:=h.f.h.f.lt;obtain⟨va,vc,hv⟩:=zZ h.f.b;rw[hv]at hf;have c5:=h.n5;have I:=h.len;rw[I]at hv hf;have HV:=zH hv;have H:=zH h;have ST:=zH (show BlO C w0 w V on lo ma Ms Rs RS b0 bA b0.length (.i 0) [] (w.alloc (.k #[.bool false] 4))from
  ⟨0,bA,false,rfl,rfl,yD _,⟨h.below (yB.alloc yL _),Blk.newAt rfl,fun h=>(by cases h),fun _=>⟨rfl,fun i hi=>by omega⟩,h.k.size,h.f.h.ve.size,fun k e=>(h.f.s.lt k e).2⟩,xk.nil _ _⟩)
 clear h hvf hv;have c4:∀ (fn:Fn) (first cap:Array Value) (w:World),(Instr.makeFunc fn first cap).run prog w=.ok (.func fn first cap) w:=fun _ _ _ _=>rfl;refine zjk func276 rfl ?_;simp only[ntmps276,yb2,yai,ya8,Nat.reduceAdd,Nat.reduceSub,ybn,ybm,yb3,ybp,yas,ya1];go_wp2_with fail;clear L hf hp;refine wp_loop_ghost_k (fun gk a W=>∃ v10 ds u3 u4 u11 u12 u13 u14 u15 u16 u17 u18 u19 u20 u21 u22 u23 u24 u25 u26 u27 u28 u29 u30 u31 u32 u33 u34 u35 u36,BlO C w0 w V on lo ma Ms Rs RS b0 bA gk v10 ds W /\
  a={ tmps:=#[.p vf,.bool false,.p w.heap.size,u3,u4,.p V.fb,.p V.fb,.q V.fb 4,.slice va b0.length vc,.i b0.length,v10,u11,u12,u13,u14,u15,u16,u17,u18,u19,u20,u21,u22,u23,u24,u25,u26,u27,u28,u29,u30,u31,u32,u33,u34,u35,u36,undef],defers:=ds }) b0.length
  ⟨_,_,_,_,_,_,_,_,_,_,_,_,_,_,_,_,_,_,_,_,_,_,_,_,_,_,_,_,_,_,ST.o,rfl⟩ ?_
 rintro gk a wr ⟨v10,ds,u3,u4,u11,u12,u13,u14,u15,u16,u17,u18,u19,u20,u21,u22,u23,u24,u25,u26,u27,u28,u29,u30,u31,u32,u33,u34,u35,u36,hrel,rfl⟩ J K hJ hK;obtain⟨s,bl,c,rfl,hg,hs,hP,hm⟩:=hrel;have HG:=zH hg;have HM:=zH hm;have R:=zH hP;have L:=(U.o bl wr hP.inv).cell;obtain⟨hf,hp⟩:=hP.inv.f.h.cells;rw[HV.o]at hf;have ae:=hP.cb.lt;have a5:=hP.inv.f.h.f.lt;have a8:=(U.o bl wr hP.inv).lt;have hb:=hP.inv.f.b;have I:=hP.inv.len;rw[HV.o,I]at hb;have HB:=zH hb;clear hg hm hb;by_cases bm:s<b0.length
 ·obtain⟨x,hx⟩:∃ x,bl[s]?=some x:=⟨_,yc yo⟩;obtain⟨O,bc,bo,bz,c0⟩:=HB.o.form yo;injection bo with h1 h2 h3;subst h1 h3;have bf:wr.cell? (.a O s)=some (zA x):=by
   rw[HB.o.cellAt s yo];simp[sets,hx]
  have HX:=zH hx;clear hP hx;go_wp2_with fail;go_quiet (fail);go_wp2_with fail;clear L hf hp ae a5 a8 I bf;have a3:Below wr.heap.size wr ((wr.alloc (.k #[.i s] 3)).drewN nq):=zc7 (yB.alloc yL _) nq;have ah:Blk ((wr.alloc (.k #[.i s] 3)).drewN nq) wr.heap.size 3 #[.i s]:=(Blk.newAt rfl).drewN nq;have bq:((wr.alloc (.k #[.i s] 3)).drewN nq).heap.size=wr.heap.size+1:=by simp
  generalize bd:(wr.alloc (.k #[.i s] 3)).drewN nq=W1 at a3 ah bq |-;clear bd;have c6:w.heap.size<=wr.heap.size:=yaw R.o.cb.lt;have b4:=R.o.inv.small s x HX.o;have a9:x<2 ^ 48:=yi b4 (yO yo yo);have ap:=zH (show zg7 W1.heap.size ds from fun d hd D e=>yi (HM.o.lt d hd D e) a3.size);have b9:=zH (show BlI C w0 w V on lo ma Ms Rs RS b0 bA s x wr.heap.size W1.heap.size ds 0 W1 from
   ⟨⟨bl,c,⟨R.o.inv.below a3,R.o.cb.below a3 R.o.cb.lt,R.o.ls,R.o.eq,R.o.z0,R.o.zC,R.o.sv⟩,fun hc=>⟨by rw[<- (R.o.eq hc).1];exact HX.o,fun j hj=>by simp at hj⟩⟩,ah,HM.o.low yL a3.block,yr _⟩)
  have b8:=zH (show ∀ j,x.testBit j=true->BelP b0 s j from fun j hj=>R.o.inv.s s j (by unfold zg;rw[HX.o];exact hj));have ag:w.heap.size<=W1.heap.size:=yo;clear ah HM HX R;refine(wpIn_wide (n:=3)).1 (zkq (gf:=237) (first:=#[zA x]) (cap:=#[]) rfl zkj (zkl 2 x a9) rfl
   (BlI C w0 w V on lo ma Ms Rs RS b0 bA s x wr.heap.size W1.heap.size ds) (fun _ _=>False) (fun i W W' hr h=>h.qo ag ap.o hr) (fun _ _ _ _ h=>h) b9.o
   (fun y=>{ tmps:=#[Value.pointer (some { block:=vf,off:=0 }),Value.bool false,
     Value.pointer (some { block:=w.heap.size,off:=0 }),
     Value.pointer (some { block:=wr.heap.size,off:=0 }),y,
     Value.pointer (some { block:=V.fb,off:=0 }),Value.pointer (some { block:=V.fb,off:=0 }),
     Value.pointer (some { block:=V.fb,off:=4 }),Value.slice (some { block:=O,off:=0 }) b0.length vc,
     Value.int IntKind.i64 ↑b0.length,Value.int IntKind.i64 ↑s,Value.bool true,Value.int IntKind.i64 ↑s,
     Value.pointer (some { block:=V.fb,off:=0 }),Value.pointer (some { block:=V.fb,off:=0 }),
     Value.pointer (some { block:=V.fb,off:=4 }),Value.slice (some { block:=O,off:=0 }) b0.length vc,
     Value.int IntKind.i64 ↑s,Value.pointer (some { block:=O,off:=s }),zA x,
     Value.func (Fn.func 237) #[zA x] #[],y,u22,u23,u24,u25,u26,u27,u28,u29,u30,u31,u32,u33,u34,
     u35,u36,undef],defers:=[] }) ?assign ?body ?done ?stop)
  case assign =>
   intro l x W K hK
   gi_wp2
   exact hK
  case stop=>exact fun c W h _=>h.elim
  case done =>
   rintro W hI hD;obtain⟨A,S,h1,h2⟩:=hI.ex;have bb:=zH (show BlO C w0 w V on lo ma Ms Rs RS b0 bA (b0.length-(s+1)) (.i ((s+1:Nat):Int)) ({ target:=.collected W1.heap.size,args:=#[] }::ds) W from
    ⟨s+1,A,S,rfl,rfl,bm,⟨h1.inv,h1.cb,h1.ls,fun hc=>⟨(h1.eq hc).1,fun i hi=>by
     rcases yF i s with h | h
     ·exact(h1.eq hc).2 i h
     ·obtain rfl:i=s:=yo;intro j hj k hk;obtain⟨e1,e2⟩:=h2 hc;refine e2 j ?_ k hk;rw[show((mems x).map fun k:Nat=>Value.int .i64 (k:Int)).length=(mems x).length by simp,yaz,zit a9];unfold zg at hj;rw[e1]at hj;exact hj⟩,h1.z0,h1.zC,h1.sv⟩,hI.m.more ap.o ag hD⟩)
   clear h1 h2 hI hD;go_wp2;go_roundg (b0.length-(s+1))
   case measure=>have:=HG.o;omega
   case rel=>exact bb.o
  case body =>
   rintro l i y W hy hI hz;obtain⟨j,hj,rfl⟩:∃ j,(mems x)[i]?=some j/\Value.int .i64 (j:Int)=y:=by simpa using hy
   obtain⟨A,S,Y,ay⟩:=hI.ex;have L:=(U.o A W Y.inv).cell;obtain⟨hf,hp⟩:=Y.inv.f.h.cells;rw[HV.o]at hf;have ad:=Y.cb.cell;have b1:=Y.cb.frozen;have ae:=Y.cb.lt;have a5:=Y.inv.f.h.f.lt;have a8:=(U.o A W Y.inv).lt;have af:=hI.sb.cell;have bu:=hI.sb.lt;have hb:=Y.inv.f.b;have I:=Y.inv.len;rw[HV.o,I]at hb;have bh:=hb.frozenAt s;have aj:x.testBit j=true:=(zit a9).1 (yl hj);have c3:j<b0.length:=by
    rcases yF j b0.length with h | h
    ·exact h
    ·rw[ya6 (yi b4 (yO yo h))]at aj;cases aj
   obtain⟨N,ab⟩:∃ N,A[s]?=some N:=⟨_,yc yo⟩;obtain⟨Q,ac⟩:∃ Q,A[j]?=some Q:=⟨_,yc yo⟩;have bi:W.cell? (.a O s)=some (zA N):=by rw[hb.cellAt s yo];simp[sets,ab]
   have az:W.cell? (.a O j)=some (zA Q):=by rw[hb.cellAt j yo];simp[sets,ac]
   have au:∀ {z:Nat},z<2 ^ b0.length->z<2 ^ 48:=fun h=>yi h (yO yo yo);have b3:=au (Y.inv.small s N ab);have b5:=au (Y.inv.small j Q ac);have HI:=zH hI;have E:=zH Y;have b6:=zH ay;have aa:=zH ab;have aq:=zH ac;have HJ:=zH hj;have a2:W.drew.cell? (.a vf 0)=some (.p V.fb)/\W.drew.cell? (.a V.fb 4)=some (.s O b0.length vc)/\W.drew.cell? (.a wr.heap.size 0)=some (.i s)/\W.drew.cell? (.a O j)=some (zA Q):=⟨L 0,hf 4,af 0,az⟩;clear hI Y ay ab ac hj hb L hf hp af az;refine wpIn_block (wpIn_seq_k fun K1 aw=>?_);refine zl8 13 (fun w'=>w'.cell? (.a vf 0)=some (.p V.fb)/\w'.cell? (.a V.fb 4)=some (.s O b0.length vc)/\w'.cell? (.a wr.heap.size 0)=some (.i s)/\w'.cell? (.a O j)=some (zA Q)) yk rfl rfl yk yk ?_;simp only[yM,yY]
   iterate 13(refine tK 0 rfl a2 ?_)
   refine lst rfl fun K hK=>?_;go_simp;refine(zg0 N Q ⟨O,s,none⟩ W.drew b3 b5 bi bh).mono ?_;rintro e w' ⟨rfl,rfl⟩;refine hK _ _ ?_;refine zf5 ?_;refine aw _ _ ?_;clear hK K a2 aw K1;obtain⟨cs,ai⟩:=zr (E.o.inv.f.b) (k:=O) (by rw[HV.o];rfl);have hG:=zH ((E.o.inv.grow (s:=s) (j:=j) (by rw[HV.o,I]) aa.o aq.o (.inr (b8.o j aj))));have b2:Below W.heap.size W W.drew:=(yn _ W).drew;have a4:=E.o.cb.qi (p:=(.a O s)) (E.o.cb.qs ai yd) (zA (N|||Q));have a7:=HI.o.sb.qi (p:=(.a O s)) (HI.o.sb.qs ai yd) (zA (N|||Q));have a6:zP W (W.setCell (.a O s) (zA (N|||Q))):=(zP.refl W).setCell (p:=(.a O s)) ai _;have am:W.heap.size<=(W.setCell (.a O s) (zA (N|||Q))).heap.size:=a6.size;have ao:=zH (HI.o.m.kept a6);have an:=zH a6;have G:=zH a4;have a1:=zH a7;show Code.wpIn _ _ _ _ _ _ (W.setCell (.a O s) (zA (N|||Q))).drew;cases hne2:((N|||Q) != N)
   ·have he:N|||Q=N:=by simpa using hne2
    have ax:A.set s (N|||Q)=A:=by
     rw[he];refine yc1 fun m=>?_;rcases Nat.decEq m s with h | h
     ·rw[yb5 (fun e=>h e.symm)]
     ·subst h;rw[ybt yo,aa.o]
    have a0:=zH (show zP W (W.setCell (.a O s) (zA (N|||Q))).drew/\BlI C w0 w V on lo ma Ms Rs RS b0 bA s x wr.heap.size W1.heap.size ds (i+1) (W.setCell (.a O s) (zA (N|||Q))).drew from
     ⟨an.o.drew,⟨A,S,⟨by have:=hG.o;rw[ax]at this;exact this.below yB.drew,G.o.drew,E.o.ls,E.o.eq,E.o.z0,E.o.zC,E.o.sv⟩,fun hc=>by
      obtain⟨e1,e2⟩:=b6.o hc;refine⟨e1,fun j' Z k hk=>?_⟩;rw[yam,HJ.o]at Z;rcases yu.1 Z with Z | Z
      ·exact e2 j' Z k hk
      ·have bk:j'=j:=by simpa using Z
       subst bk;have be:=(E.o.eq hc).1;unfold zg at hk |-;rw[<- be]at hk |-;rw[aq.o]at hk;rw[aa.o];simp only[ybb]at hk |-;rw[<- he,yau,hk,yao]⟩,a1.o.drew,ao.o.kept ⟨yr _,fun _ _ h _=>h⟩,ya HI.o.z am⟩)
    clear he ax a6 a4 a7 b2 am
    gi_wp2
    exact a0.o
   ·have he:N|||Q≠N:=by simpa using hne2
    have ak:=zri aa.o (Nat.lt_of_le_of_ne ycr (Ne.symm he)) (yJ b3 b5);have b7:lack (A.set s (N|||Q))<lack bA:=by
     cases hc:S
     ·rw[<- (E.o.eq hc).1];exact ak
     ·exact yb9 ak (E.o.ls hc)
    have ad:=G.o.cell;have b1:=G.o.frozen;have bj:=G.o.lt;have a0:=zH (show zP W ((W.setCell (.a O s) (zA (N|||Q))).drew.setCell (.a w.heap.size 0) (.bool true))/\BlI C w0 w V on lo ma Ms Rs RS b0 bA s x wr.heap.size W1.heap.size ds (i+1) ((W.setCell (.a O s) (zA (N|||Q))).drew.setCell (.a w.heap.size 0) (.bool true))from
     ⟨an.o.drew.setCell (p:=(.a w.heap.size 0)) G.o.drew _,⟨A.set s (N|||Q),true,⟨(hG.o.below yB.drew).vi G.o.drew E.o.z0 E.o.zC yd yd yd (fun e=>Nat.lt_irrefl _ (E.o.sv _ e)) _,(G.o.drew.qe 0 _).cast rfl,(fun _=>b7),(fun h=>by cases h),E.o.z0,E.o.zC,E.o.sv⟩,(fun h=>by cases h)⟩,a1.o.drew.qi (p:=(.a w.heap.size 0)) (a1.o.qs G.o yd) _,
      ao.o.kept ((zP.refl _).drew.setCell (p:=(.a w.heap.size 0)) G.o.drew _),ya HI.o.z (ya am yy)⟩)
    clear he ak a6 a4 a7 b2
    gi_wp2
    exact a0.o
 ·have bn:s=b0.length:=yo;have ad:=R.o.cb.cell;have a0:=zH (show ∃ A S,S=c/\zbr C w0 V on lo ma Ms Rs RS b0 A wr/\(S=true->lack A<lack bA)/\(S=false->A=bA/\∀ s,s<b0.length->zi1 bA s)from
   ⟨bl,c,rfl,R.o.inv,R.o.ls,fun h=>⟨(R.o.eq h).1,fun i hi=>(R.o.eq h).2 i yo⟩⟩)
  have br:=R.o.zC;have bp:=R.o.z0;subst bn;clear hP L hf hp;go_wp2_with fail;refine zhj (B:=w.heap.size) (fun W=>∃ A S,S=c/\zbr C w0 V on lo ma Ms Rs RS b0 A W/\(S=true->lack A<lack bA)/\(S=false->A=bA/\∀ s,s<b0.length->zi1 bA s)) (fun W W' hr h=>?_) (fun W h=>?_) _ wr HM.o a0.o
  ·obtain⟨A,S,h1,h2,h3,h4⟩:=h;exact⟨A,S,h1,h2.qo hr br bp,h3,h4⟩
  ·obtain⟨A,S,rfl,h2,h3,h4⟩:=h;exact⟨.bool S,(results_tmp rfl _ _ _).trans rfl,A,S,rfl,h2,h3,fun h=>⟨(h4 h).1,(h4 h).2⟩⟩
theorem zz5 (args:Array Value)(w:World):(callFunc 276 args).run prog w=.ok (.enter 276 args) w:=enters_of func276 yk rfl args w
theorem bitOf_lt {bl:List Nat}(h:zg bl s j=true):s<bl.length:=by
 rcases yF s bl.length with h1 | h1
 ·exact h1
 ·unfold zg at h;rw[yb0 h1]at h;simp at h
theorem zxe {C:AX}{V:FV}{on:Nat->Bool}(h:FlM C w V on lo ma Ms Rs RS b0)(hn:b0.length<=5)(hsm:∀ (s x:Nat),b0[s]?=some x->x<2 ^ b0.length)(vf rb:Nat)
  (hvf:Blk w vf 296 #[.p V.fb]) (hr:Blk w rb 37 #[.func (.func 276) #[] #[.p vf]]) :
  Calls prog 221 #[.s rb 1 1] w fun e w'=>e=.e/\∃ bl,FlM C w' V on lo ma Ms Rs RS bl/\bl.length=b0.length/\(∀ (s x:Nat),bl[s]?=some x->x<2 ^ b0.length)/\(∀ s j,zg bl s j=true↔BelP b0 s j)/\w.grownBy w' V.bv.ownBlock:=by
 have E:∀ {g:Nat} {t:TypeId} {cs:Array Value},Blk w g t cs->381≠t->V.bv.ownBlock≠some g:=fun hb ht e=>by
  obtain⟨cs',h'⟩:=zr h.b e;exact ht (Blk.inj h' hb).1
 refine(zjo (zbr C w V on lo ma Ms Rs RS b0) lack [⟨276,#[],#[.p vf]⟩] [fun bl=>∀ s,s<b0.length->zi1 bl s] rb 1 w b0 rfl yy
  ⟨h,rfl,hsm,fun s j I S h1 _=>h1 s j I,fun _ _ h=>h,ycp _ _,hn⟩ ?_ ?_).mono ?_
 ·intro s W A j r D;have hb:=hr.grown A.k (fun e=>E hr yd e.symm);cases j with
  | zero=>simp at D;subst D;exact hb.cell 0
  | succ j=>simp at D
 ·intro j r c D H;cases j with
  | zero =>
   simp at D H;subst D H;exact⟨zz5,fun s W A=>zvj C w W V on lo ma Ms Rs RS b0 s vf A hvf (E hvf yd)⟩
  | succ j=>simp at D
 ·rintro e w' ⟨bl,rfl,A,G⟩;refine⟨rfl,bl,A.f,A.len,A.small,fun s j=>⟨A.s s j,fun hb=>hb (zg bl) A.g fun s j k h1 h2=>?_⟩,A.k⟩;have:=G _ (yG.2 rfl) s (by rw[<- A.len];exact bitOf_lt h1);exact this j h1 k h2
section
open Classical in
noncomputable def onB (P:Pr)(k:Nat):Bool:=decide (∃ f,P.fs[P.main]?=some f/\xq (zb6 P) [f.from_] k)
open Classical in
noncomputable def loB (P:Pr)(k:Nat):Bool:=decide (k<P.code.length/\xq (zS P) (zS P k) k)
open Classical in
noncomputable def maB (P:Pr)(g:Nat):Bool:=decide (zfs P (onB P) (loB P) g)
def RootP (P:Pr)(on:Nat->Bool):Nat->Nat->Prop
 | 0,g=>xq (zbf P on) [P.main] g
 | s+1,g=>∃ k i,P.qg[s]?=some k/\P.code[k]?=some i/\on k=true/\xq (zbf P on) [i.call] g
open Classical in
noncomputable def rsB (P:Pr)(r g:Nat):Bool:=decide (RootP P (onB P) r g)
noncomputable def zhh (P:Pr)(r j:Nat):Bool:=match P.qg[j]? with | some k=>onB P k&&(match P.code[k]? with | some i=>rsB P r i.fn | none=>false) | none=>false
noncomputable def xu (P:Pr)(r:Nat):Nat->Nat
 | 0=>0
 | j+1=>if zhh P r j then xu P r j|||2 ^ j else xu P r j
noncomputable def zbt (P:Pr):List Nat:=(List.range P.qg.length).map fun s=>xu P (s+1) P.qg.length
noncomputable def zW (P:Pr):List Bool:=P.qg.map fun k=>loB P k||(match P.code[k]? with | some i=>maB P i.fn | none=>false)
theorem zk0 (P:Pr)(r:Nat):∀ j,xu P r j<2 ^ j
 | 0=>by simp[xu]
 | j+1=>by
  have h:=zk0 P r j;have h1:xu P r j<2 ^ (j+1):=yb9 h (yap yo yo);unfold xu;split
  ·exact yJ h1 (yap yo yo)
  ·exact h1
structure zcs (C:AX)(w:World)(V:FV)(Rs Bs:List Nat):Prop where
 f:FlM C w V (onB C.P) (loB C.P) (maB C.P) (zW C.P) Rs (rsB C.P) Bs
 rl:Rs.length=C.P.qg.length+1
 bl:Bs.length=C.P.qg.length
 small:∀ (s x:Nat),Bs[s]?=some x->x<2 ^ C.P.qg.length
 qk:∀ s j,zg Bs s j=true↔BelP (zbt C.P) s j
section
variable {C:AX} {w w':World} {V:FV} {on lo ma:Nat->Bool} {Ms:List Bool} {Rs:List Nat} {RS:Nat->Nat->Bool} {Bs:List Nat}
theorem znk (h:FlH C w V on lo ma):∃ ga gc,C.X.gv=.slice ga C.P.qg.length gc/\(∀ (s k:Nat),C.P.qg[s]?=some k->∃ A,ga=some (.a A 0)/\∀ W,C.on W->W.cell? (.a A s)=some (.i k)):=by
 have D:=h.c.prog.gr;obtain⟨ga,gc,hv⟩:=zZ D;refine⟨ga,gc,hv,fun s k H=>?_⟩;have K:s<C.P.qg.length:=(yh.1 H).1;rw[hv]at D;obtain⟨A,I,G,_,E⟩:=D.form yo;injection G with h1 h2 h3;subst h1;refine⟨A,rfl,fun W J=>?_⟩;rw[J.cell (p:=(.a A s)) E,D.cellAt s yo];simp[zag,H]
theorem zld (wf:WfPr C.P)(hs:C.P.qg[s]?=some k):∃ i,C.P.code[k]?=some i/\i.op=7/\k<C.P.code.length/\i.call<C.P.fs.length/\i.fn<C.P.fs.length:=by
 obtain⟨i,hi,h7,_⟩:=wf.qg s k hs;obtain⟨f,hf,_⟩:=wf.call k i hi (.inr h7);exact⟨i,hi,h7,(yh.1 hi).1,(yh.1 hf).1,wf.fn k i hi⟩
theorem MkE.cast {S':Nat->Bool}{b:Nat}(h:MkE w b S)(e:∀ k,S k=true↔S' k=true):MkE w b S':=by
 have:S=S':=funext fun k=>yS.2 (e k);exact this ▸ h
theorem zg5.mk {next:Nat->List Nat}{start:List Nat}{e:Ending}(h:zg5 w next start e w'):∃ mb S,e=.r (.m mb)/\w.heap.size<=mb/\MkE w' mb S/\(∀ k,S k=true↔xq next start k)/\Below w.heap.size w w':=by
 obtain⟨mb,S,m,h1,h2,h3,h4,h5⟩:=h;exact⟨mb,S,h1,h2,⟨m,h3⟩,h4,h5⟩
theorem zlz (P:Pr)(r g:Nat):rsB P r g=true↔RootP P (onB P) r g:=by unfold rsB;simp
end
def RtS (C:AX)(V:FV)(vf:Nat)(w':World):Prop :=
 w'.cell? (.a vf 0)=some (.p V.fb)/\(∀ i,w'.cell? (.a V.fb i)=#[.p C.pb,.m V.jf,V.sv,V.rv,V.bv,.m V.vz,.m V.vu][i]?) /\
 (∀ i,w'.cell? (.a C.pb i)=(.c C:Array Value)[i]?)
end
end Go.Proofs.YtkmcihhndgdhpaaGreat
