/- Parts of the walk. -/
import Derived.Test.YtkmcihhndgdhpaaGreatWB2
import Derived.Deep.CutBlock
set_option maxRecDepth 100000
set_option maxHeartbeats 4000000
set_option linter.unusedSimpArgs false
set_option linter.unusedVariables false
open Go.ChangeMaps Go.Maps Go.RowKit Go.Shelf Go.Proofs.Tryz
namespace Go.Proofs.YtkmcihhndgdhpaaGreat
theorem mUa {p:Prop}(h:p:=by
  go_wp2;go_roundg (C.P.code.length-(k+1))
  case measure=>have:=HG.o;omega
  case rel=>rw[show((k:Int)+1)=((k+1:Nat):Int) by omega];exact REL.o):p:=h
theorem mEc {p:Prop}(h:p:=by
  intro e w5 hst;obtain⟨rfl,hP5⟩:=HPd.step hst;refine hK _ _ ?_;clear hK K hHeld hst HPd;have HP5:=zH hP5;clear hP5;go_wp2;go_meet;exact⟨_,s2.1 0 k,rfl,hh48,HP5.o,HMID.o⟩):p:=h
section
theorem zos (a b:Nat)(ha:a<2 ^ 48)(hb:b<2 ^ 48):bits .andNot .u64 (a:Int) (b:Int)=((dif a b:Nat):Int):=by
 have e:((BitVec.ofInt 64 (a:Int)) &&& ~~~ (BitVec.ofInt 64 (b:Int))).toNat=dif a b:=by
  have h1:(BitVec.ofInt 64 (a:Int))=BitVec.ofNat 64 a:=by simp
  have h2:(BitVec.ofInt 64 (b:Int))=BitVec.ofNat 64 b:=by simp
  rw[h1,h2];apply ycj;intro k;rw[dif_bit,BitVec.testBit_toNat,BitVec.getLsbD_and,BitVec.getLsbD_not,BitVec.getLsbD_ofNat,BitVec.getLsbD_ofNat];by_cases A:k<64
  ·simp[A]
  ·have:a.testBit k=false:=ya6 (yi ha (yO yo yo));simp[A,this]
 show IntKind.u64.wrap (((BitVec.ofInt 64 (a:Int)) &&& ~~~ (BitVec.ofInt 64 (b:Int))).toNat:Int)=_;rw[e];have:=zih (b:=b) ha;exact IntWalk.u64_in _ yo
def zev:List Fu->Nat->LS->LS
 | [],_,s=>s
 | f::l,g,s=>zev l (g+1) (zac s 0 f.from_ (s.1 1 g))
def zam (s:LS)(k:Nat)(i:In):LS×Nat :=
 if i.op=9 then(s,s.1 0 k|||2 ^ i.var)
 else if i.op=10 then(s,dif (s.1 0 k) (2 ^ i.var))
 else if i.op=7 then(zac s 1 i.call 0,s.1 0 k)
 else if i.op=11 then(zac s 1 i.call (s.1 0 k),(zac s 1 i.call (s.1 0 k)).1 2 i.call|||dif (s.1 0 k) ((zac s 1 i.call (s.1 0 k)).1 3 i.call))
 else if i.op=12 then(zac s 2 i.fn (s.1 0 k),s.1 0 k)
 else(s,s.1 0 k)
def zdy (r h:Nat):List Nat->LS->LS
 | [],s=>s
 | j::l,s=>zdy r h l (zac s r j h)
def zde (P:Pr)(on:Nat->Bool):List In->Nat->LS->LS
 | [],_,s=>s
 | i::l,k,s=>zde P on l (k+1) (if on k then zdy 0 (zam s k i).2 (zS P k) (zam s k i).1 else s)
structure PsW (C:AX)(wf:World)(VF:FV)(sb:Nat)(V:LkV)(cb:Nat)(w:World)(s:LS)(W:World):Prop where
 k:LkS wf.heap.size VF.fb sb C.P V cb s W
 fr:LkFr V cb w W
section
variable {C:AX} {wf w W W':World} {VF:FV} {sb cb:Nat} {V:LkV} {s s':LS}
theorem PsW.below (h:PsW C wf VF sb V cb w s W)(hb:Below W.heap.size W W'):PsW C wf VF sb V cb w s W' :=
 ⟨⟨h.k.m.below hb,h.k.c.below hb h.k.c.lt⟩,h.fr.trans (LkFr.below hb)⟩
theorem PsW.drew (h:PsW C wf VF sb V cb w s W):PsW C wf VF sb V cb w s W.drew:=h.below yB.drew
theorem PsW.step (h:PsW C wf VF sb V cb w s W){e:Ending}(hs:zgg wf.heap.size VF.fb sb C.P V cb s' W e W'):e=.e/\PsW C wf VF sb V cb w s' W':=⟨hs.1,hs.2.1,h.fr.trans hs.2.2⟩
theorem PsW.vj (h:PsW C wf VF sb V cb w s W)(hb:Below wf.heap.size wf w)(hc:wf.heap.size<=cb):Below wf.heap.size wf W :=
 hb.trans (h.fr.base h.k.m.bB.2 hc hb.size)
end
theorem ztb {w w5:World}{B fb sb cb:Nat}{P:Pr}{V:LkV}{s:LS}{v:Value}{l:List Nat}(h:LkS B fb sb P V cb s w)(A:w5.ownsRow w.heap.size 3 1 v l.length (ints l)) :
  ∃ G J,v=.slice G l.length J/\∀ (j x:Nat),l[j]?=some x->∃ D,G=some (.a D 0)/\∀ W,LkFr V cb w5 W->W.cell? (.a D j)=some (.i x):=by
 obtain⟨G,J,rfl⟩:=zZ A;refine⟨G,J,rfl,fun j x K=>?_⟩;have Q:j<l.length:=(yh.1 K).1;obtain⟨D,gc,I,N,O⟩:=A.form yo;injection I with h1 h2 h3;subst h1;refine⟨D,rfl,fun W L=>?_⟩;obtain⟨cs,E⟩:=zr A (k:=D) rfl;have H:=E.lkfr L (yq h.c.lt) (fun r A e=>by have:=(h.m.r r A).lt;omega);rw[(H.cell j).trans (E.cell j).symm,A.cellAt j yo];simp[ints,K]
def zh7 (C:AX)(wf:World)(VF:FV)(sb:Nat)(V:LkV)(s:LS)(w:World)(e:Ending)(W:World):Prop:=e=.r (.bool s.2)/\LkM W wf.heap.size VF.fb sb C.P V s.1/\LkFr V (V.g 3) w W
theorem PsW.post {C:AX}{wf w W:World}{VF:FV}{sb cb:Nat}{V:LkV}{s:LS}(h:PsW C wf VF sb V cb w s W)(hc:w.heap.size<=cb):zh7 C wf VF sb V s w (.r (.bool s.2)) W :=
 ⟨rfl,h.k.m,h.fr.os,h.fr.tape,h.fr.output,h.fr.size,fun k a _ c=>h.fr.same k a yo c⟩
def PsF (C:AX)(wf:World)(VF:FV)(sb:Nat)(V:LkV)(cb:Nat)(w:World)(M:LS)(v24:Value)(W:World):Prop :=
 ∃ (g:Nat) (s:LS),v24=.i g/\g<=C.P.fs.length/\PsW C wf VF sb V cb w s W/\zev (C.P.fs.drop g) g s=M
def PsR (C:AX)(wf:World)(VF:FV)(sb:Nat)(V:LkV)(cb:Nat)(w:World)(M:LS)(gk:Nat)(v57:Value)(W:World):Prop :=
 ∃ (k:Nat) (s:LS),v57=.i k/\gk=C.P.code.length-k/\k<=C.P.code.length/\PsW C wf VF sb V cb w s W/\zde C.P (onB C.P) (C.P.code.drop k) k s=M
def PsN (C:AX)(wf:World)(VF:FV)(sb:Nat)(V:LkV)(cb:Nat)(w w5:World)(l:List Nat)(h:Nat)(M:LS)(gk:Nat)(v158:Value)(W:World):Prop :=
 ∃ (j:Nat) (s:LS),v158=.i j/\gk=l.length-j/\j<=l.length/\PsW C wf VF sb V cb w s W/\LkFr V cb w5 W/\zdy 0 h (l.drop j) s=M
theorem pass_any (C:AX)(wf:World)(VF:FV)(Rs Bs:List Nat)(X:LkX C wf VF Rs Bs)(sb:Nat)(V:LkV)(f:LF)(w:World)(h:LkM w wf.heap.size VF.fb sb C.P V f)(hb:Below wf.heap.size wf w) :
  Calls prog 231 #[.p V.xb] w (zh7 C wf VF sb V (zde C.P (onB C.P) C.P.code 0 (zev C.P.fs 0 (f,false))) w):=by
 have c3:∀ (fn:Fn) (first cap:Array Value) (w:World),(Instr.makeFunc fn first cap).run prog w=.ok (.func fn first cap) w:=fun _ _ _ _=>rfl;have HF:=zH (fun(Q:World) (hb:Below wf.heap.size wf Q)=>(X.f.below hb yL).f.h);have HC:=X.f.f.h.c;have ck:=HC.wf.cl;have cf:=HC.wf.fl;obtain⟨cb,b2⟩:∃ cb,cb=w.heap.size:=⟨_,rfl⟩;have bk:=zH (show w.heap.size<=cb by omega);have a4:=zH (show ∀ s Q,PsW C wf VF sb V cb w s Q->Below wf.heap.size wf Q from fun s Q hp=>hp.vj hb (yq hb.size));have az:Below w.heap.size w (w.alloc (.k #[.bool false] 4)):=yB.alloc yL _;have a1:=zH (show PsW C wf VF sb V cb w (f,false) (w.alloc (.k #[.bool false] 4))from⟨⟨h.below az,by rw[b2];exact Blk.newAt rfl⟩,LkFr.below az⟩);obtain⟨M1,aw⟩:∃ M1,M1=zev C.P.fs 0 (f,false):=⟨_,rfl⟩;rw[<- aw];obtain⟨M,ay⟩:∃ M,M=zde C.P (onB C.P) C.P.code 0 M1:=⟨_,rfl⟩;rw[<- ay];clear az h hb;go_enter func231,ntmps231;go_upto_region 3 with fail
 rw[<- b2];generalize w.alloc (.k #[.bool false] 4)=w1 at a1 |-;clear b2 c3;obtain⟨L,O⟩:=(HF.o w1 (a4.o _ _ a1.o)).cells;have N:=(HF.o w1 (a4.o _ _ a1.o)).f.lt;have A:=a1.o.k.m.x.cell;unfold za2 at A;have D:=a1.o.k.m.x.lt;have ST:=zH (show PsF C wf VF sb V cb w M1 (.i 0) w1 from⟨0,(f,false),rfl,yD _,a1.o,by rw[yal];exact aw.symm⟩);clear a1 aw;go_wp2_with fail;clear L O N A D;go_loopw [24] (fun v24 wr=>PsF C wf VF sb V cb w M1 v24 wr) (fun v24 _=>C.P.fs.length-(intOf v24).toNat)
 case atStart=>exact ST.o
 case round =>
  obtain⟨g,s,rfl,hg,Z,hM⟩:=hrel;have HP:=zH Z;have HM:=zH hM;have H:=zH (HF.o wr (a4.o _ _ Z));obtain⟨L,O⟩:=H.o.cells;have N:=H.o.f.lt;have A:=Z.k.m.x.cell;unfold za2 at A;have D:=Z.k.m.x.lt;clear Z hM;by_cases W:g<C.P.fs.length
  ·obtain⟨G,J⟩:∃ G,C.P.fs[g]?=some G:=⟨_,yc W⟩;have f0:wr.cell? (.a C.fg (g*5))=some (.string G.name):=HC.jd H.o.ve J 0 yo;have f1:wr.cell? (.a C.fg (g*5+1))=some (.i G.params):=HC.jd H.o.ve J 1 yo;have f2:wr.cell? (.a C.fg (g*5+2))=some (.i G.locals):=HC.jd H.o.ve J 2 yo;have f3:wr.cell? (.a C.fg (g*5+3))=some (.i G.from_):=HC.jd H.o.ve J 3 yo;have f4:wr.cell? (.a C.fg (g*5+4))=some (.i G.to):=HC.jd H.o.ve J 4 yo;have a8:=zH (show zev (C.P.fs.drop (g+1)) (g+1) (zac s 0 G.from_ (s.1 1 g))=M1 from by rw[<- HM.o,zae J,zev]);have bz:=(HC.wf.from_ g G J).1;have a7:Below wr.heap.size wr (wr.alloc (.k #[.string G.name,.i G.params,.i G.locals,.i G.from_,.i G.to] 228)):=yB.alloc yL _;have a2:Blk (wr.alloc (.k #[.string G.name,.i G.params,.i G.locals,.i G.from_,.i G.to] 228)) wr.heap.size 228 #[.string G.name,.i G.params,.i G.locals,.i G.from_,.i G.to]:=Blk.newAt rfl;clear J HM;go_wp2_with fail;have HPd:=zH (HP.o.below a7).drew;have hHeld:=And.intro HPd.o.k.m.x.cell (And.intro (a2.drew.cell 3) (HPd.o.k.m.cell (r:=1) (i:=g) yo (by unfold zq;simpa using W)));clear a7 a2 f0 f1 f2 f3 f4 L O N A D H HP;generalize wr.alloc (.k #[.string G.name,.i G.params,.i G.locals,.i G.from_,.i G.to] 228)=wi at hHeld HPd |-;generalize wr.heap.size=ib at hHeld |-;refine rgl 15 (fun(Q:World)=>(∀ j,Q.cell? (.a V.xb j)=(.k VF.fb sb V.g C.P:Array Value)[j]?)/\Q.cell? (.a ib 3)=some (.i G.from_)/\Q.cell? (.a (V.g 1) g)=some (zA (s.1 1 g))) ?_
   iterate 15(refine tK 0 rfl hHeld ?_)
   refine lst rfl fun K hK=>?_;go_simp;have an:=HPd.o.k.m.sm 1 g;refine(zj0 _ _ _ _ _ cb s wi.drew 0 G.from_ (s.1 1 g) HPd.o.k yo (by unfold zq;simpa using bz) an).mono ?_;intro e w5 hst;obtain⟨rfl,hP5⟩:=HPd.o.step hst;refine hK _ _ ?_;clear hK K hHeld hst an;have REL:=zH (show PsF C wf VF sb V cb w M1 (.i ((g+1:Nat):Int)) w5 from⟨g+1,_,rfl,W,hP5,a8.o⟩);clear hP5 HPd;go_wp2_with fail;go_roundw
   case rel=>rw[show((g:Int)+1)=((g+1:Nat):Int) by omega];exact REL.o
   case measure=>simp only[intOf];omega
  ·obtain rfl:g=C.P.fs.length:=yo;have hs:s=M1:=by rw[<- HM.o,yaa,zev]
   subst hs;have bo:=zH (show PsR C wf VF sb V cb w M C.P.code.length (.i 0) wr from⟨0,s,rfl,rfl,yD _,HP.o,by rw[yal];exact ay.symm⟩);clear ay HM ST H HP;go_wp2_with fail;clear L O N A D;go_loopg [57] C.P.code.length (fun gk v57 wr=>PsR C wf VF sb V cb w M gk v57 wr)
   case atStart=>exact bo.o
   case round =>
    obtain⟨k,s2,rfl,bd,hk,Z,hM⟩:=hrel;have HG:=zH bd;have HP:=zH Z;have HM:=zH hM;have H:=zH (HF.o wr (a4.o _ _ Z));obtain⟨L,O⟩:=H.o.cells;have N:=H.o.f.lt;have A:=Z.k.m.x.cell;unfold za2 at A;have D:=Z.k.m.x.lt;clear Z hM bd;by_cases W:k<C.P.code.length
    ·obtain⟨i,hi⟩:∃ i,C.P.code[k]?=some i:=⟨_,yc W⟩;obtain⟨aa,ac,I,br,cn⟩:=HC.ql H.o.ve hi;have i0:wr.cell? (.a C.cg (k*14))=some (.i i.op):=I 0 yo;have i1:wr.cell? (.n C.cg k 1)=some (.i i.place):=I 1 yo;have i2:wr.cell? (.n C.cg k 2)=some (.i i.fn):=I 2 yo;have i3:wr.cell? (.n C.cg k 3)=some (.i i.x):=I 3 yo;have i4:wr.cell? (.n C.cg k 4)=some (.bool i.y.c):=I 4 yo;have i5:wr.cell? (.n C.cg k 5)=some (.i i.y.n):=I 5 yo;have i6:wr.cell? (.n C.cg k 6)=some (.bool i.z.c):=I 6 yo;have i7:wr.cell? (.n C.cg k 7)=some (.i i.z.n):=I 7 yo;have i8:wr.cell? (.n C.cg k 8)=some (.i i.bin):=I 8 yo;have i9:wr.cell? (.n C.cg k 9)=some (.i i.var):=I 9 yo;have c6:wr.cell? (.n C.cg k 10)=some (.i i.site):=I 10 yo;have c7:wr.cell? (.n C.cg k 11)=some (.i i.call):=I 11 yo;have c8:wr.cell? (.n C.cg k 12)=some (.slice aa i.args.length ac):=I 12 yo;have c9:wr.cell? (.n C.cg k 13)=some (.i i.to):=I 13 yo;have HI:=zH hi;have a8:=zH (show zde C.P (onB C.P) (C.P.code.drop (k+1)) (k+1) (if onB C.P k then zdy 0 (zam s2 k i).2 (zS C.P k) (zam s2 k i).1 else s2)=M from by rw[<- HM.o,zae hi,zde]);have a7:Below wr.heap.size wr (wr.alloc (.k (.j i (.slice aa i.args.length ac)) 309)):=yB.alloc yL _;have a2:Blk (wr.alloc (.k (.j i (.slice aa i.args.length ac)) 309)) wr.heap.size 309 (.j i (.slice aa i.args.length ac)):=Blk.newAt rfl;clear I hi HM br;go_wp2_with fail;generalize hW:wr.alloc (.k (.j i (.slice aa i.args.length ac)) 309)=wi at a7 a2 |-;obtain⟨ib,ak⟩:∃ ib,ib=wr.heap.size:=⟨_,rfl⟩;rw[<- ak]at a2 |-;clear hW i0 i1 i2 i3 i4 i5 i6 i7 i8 i9 c6 c7 c8 c9 L O N A D ak;have E:=zH (HP.o.below a7);have ag:=zH (HF.o wi (a4.o _ _ E.o));have U:=zH a2;clear a7 a2 HP H;refine(hasE _ VF.jf k (onB C.P) ag.o.on yo).mono ?_;rintro e w2 ⟨rfl,rfl⟩;cases hon:onB C.P k
     ·have REL:=zH (show PsR C wf VF sb V cb w M (C.P.code.length-(k+1)) (.i ((k+1:Nat):Int)) wi from⟨k+1,s2,rfl,rfl,W,E.o,by have:=a8.o;rw[hon]at this;exact this⟩);clear hon;exact mUa
     ·have b6:=zH (show zde C.P (onB C.P) (C.P.code.drop (k+1)) (k+1) (zdy 0 (zam s2 k i).2 (zS C.P k) (zam s2 k i).1)=M from by have:=a8.o;rw[hon]at this;exact this);clear hon a8;have cm:=X.w.io k i HI.o;have bu:=HC.wf.fn k i HI.o;have R:=U.o.cell;have S:=U.o.lt;obtain⟨L,O⟩:=ag.o.cells;have N:=ag.o.f.lt;have A:=E.o.k.m.x.cell;unfold za2 at A;have D:=E.o.k.m.x.lt;have ai:wi.cell? (.a (V.g 0) k)=some (zA (s2.1 0 k)):=E.o.k.m.cell (r:=0) (i:=k) yo (by unfold zq;simpa using W);have hh48:s2.1 0 k<2 ^ 48:=E.o.k.m.sm 0 k;go_upto_block 4 with fail
      go_cut [9] (fun v9 wx=>∃ (s3:LS) (h:Nat),v9=zA h/\h<2 ^ 48/\PsW C wf VF sb V cb w s3 wx/\zam s2 k i=(s3,h))
      case rest =>
       obtain⟨s3,h,rfl,bq,b8,ao⟩:=hcut;have a5:=zH b8;have aq:=zH (show zde C.P (onB C.P) (C.P.code.drop (k+1)) (k+1) (zdy 0 h (zS C.P k) s3)=M from by have:=b6.o;rw[ao]at this;exact this);clear b8 ao R S L O N A D ai hh48 E ag U b6;have af:=zH (HF.o wc (a4.o _ _ a5.o));obtain⟨L,O⟩:=af.o.cells;have N:=af.o.f.lt;have A:=a5.o.k.m.x.cell;unfold za2 at A;have D:=a5.o.k.m.x.lt;go_wp2_with fail;refine(zjq C HC wc VF.fb k i af.o.ve (L 0) HI.o).mono ?_;rintro e w5 ⟨v,rfl,ap,bg,bb⟩;obtain⟨va,vc,rfl,bh⟩:=ztb a5.o.k ap;have au:=zH bh;have HP5:=zH (a5.o.below bb);have c2:=zlb C.P k;have b5:=zH (zij HC.wf k);obtain⟨l,hl⟩:∃ l,l=zS C.P k:=⟨_,rfl⟩;rw[<- hl]at au c2 aq b5 |-;obtain⟨M3,ax⟩:∃ M3,M3=zdy 0 h l s3:=⟨_,rfl⟩;have bp:=zH (show PsN C wf VF sb V cb w w5 l h M3 l.length (.i 0) w5 from⟨0,s3,rfl,rfl,yD _,HP5.o,LkFr.refl _ _ _,by rw[yal];exact ax.symm⟩);rw[<- ax]at aq;clear hl ax ap bg bh bb a5 HP5 af L O N A D;go_wp2_with fail;go_loopg [158] l.length (fun gk v158 wr=>PsN C wf VF sb V cb w w5 l h M3 gk v158 wr)
       case atStart=>exact bp.o
       case round =>
        obtain⟨j,s5,rfl,be,hj,Z,ad,hM⟩:=hrel;have bm:=zH be;have HP:=zH Z;have HM:=zH hM;have A:=Z.k.m.x.cell;unfold za2 at A;have D:=Z.k.m.x.lt;clear Z hM be;by_cases am:j<l.length
        ·obtain⟨x,hx⟩:∃ x,l[j]?=some x:=⟨_,yc am⟩;obtain⟨gb,c5,bf⟩:=au.o j x hx;subst c5;have c0:=bf wr ad;have bi:=b5.o x (yl hx);have bn:=zH (show zdy 0 h (l.drop (j+1)) (zac s5 0 x h)=M3 from by rw[<- HM.o,zae hx,zdy]);have b3:=zH ad;clear bf hx ad;go_wp2_with fail;refine(zj0 _ _ _ _ _ cb s5 wr 0 x h HP.o.k yo (by unfold zq;simpa using bi) bq).mono ?_;intro e w6 hst;have b4:=zH (b3.o.trans hst.2.2);obtain⟨rfl,b9⟩:=HP.o.step hst;have REL:=zH (show PsN C wf VF sb V cb w w5 l h M3 (l.length-(j+1)) (.i ((j+1:Nat):Int)) w6 from⟨j+1,_,rfl,rfl,am,b9,b4.o,bn.o⟩);clear hst b9 A D c0;go_wp2;go_roundg (l.length-(j+1))
         case measure=>have:=bm.o;omega
         case rel=>rw[show((j:Int)+1)=((j+1:Nat):Int) by omega];exact REL.o
        ·obtain rfl:j=l.length:=yo;have hs:s5=M3:=by rw[<- HM.o,yaa,zdy]
         subst hs;have REL:=zH (show PsR C wf VF sb V cb w M (C.P.code.length-(k+1)) (.i ((k+1:Nat):Int)) wr from⟨k+1,_,rfl,rfl,W,HP.o,aq.o⟩);clear A D au;exact mUa
      case first =>
       clear L O N;by_cases h9:i.op=9
       ·have o9:((i.op:Int)==9)=true:=by rw[h9];rfl
        have HMID:=zH (show zam s2 k i=(s2,s2.1 0 k|||2 ^ i.var) by unfold zam;rw[yj h9]);have c4:=X.w.mu k i HI.o (.inl h9);have a3:2 ^ i.var<2 ^ 48:=yap yo yo;have ae:Blk (wi.alloc (.k #[.i i.var] 3)) wi.heap.size 3 #[.i i.var]:=Blk.newAt rfl;have b1:Below wi.heap.size wi (wi.alloc (.k #[.i i.var] 3)):=yB.alloc yL _;have a0:=zfj (s2.1 0 k) (2 ^ i.var) hh48 a3;rw[Int.natCast_pow]at a0;have Y:(s2.1 0 k|||2 ^ i.var)<2 ^ 48:=(yJ hh48 a3);clear h9;go_wp2_with fail;refine(zf9 i.var wi.heap.size 1 _ yo (ae.cell 0)).mono ?_;rintro e w4 ⟨rfl,rfl⟩;have a9:=zH (E.o.below b1);clear ae R S A D;generalize wi.alloc (.k #[.i i.var] 3)=w4 at a9 |-;go_wp2;go_meet;exact⟨s2,(s2.1 0 k|||2 ^ i.var),by first | exact congrArg (Value.int .u64) a0 | (simp only[a0]) | rfl,Y,a9.o,HMID.o⟩
       ·have o9:((i.op:Int)==9)=false:=zI yo;by_cases h10:i.op=10
        ·have ca:((i.op:Int)==10)=true:=by rw[h10];rfl
         have HMID:=zH (show zam s2 k i=(s2,dif (s2.1 0 k) (2 ^ i.var)) by unfold zam;rw[yg h9,yj h10]);have c4:=X.w.mu k i HI.o (.inr h10);have a3:2 ^ i.var<2 ^ 48:=yap yo yo;have ae:Blk (wi.alloc (.k #[.i i.var] 3)) wi.heap.size 3 #[.i i.var]:=Blk.newAt rfl;have b1:Below wi.heap.size wi (wi.alloc (.k #[.i i.var] 3)):=yB.alloc yL _;have a0:=zos (s2.1 0 k) (2 ^ i.var) hh48 a3;rw[Int.natCast_pow]at a0;have Y:(dif (s2.1 0 k) (2 ^ i.var))<2 ^ 48:=(zih hh48);clear h10;go_wp2_with fail;refine(zf9 i.var wi.heap.size 1 _ yo (ae.cell 0)).mono ?_;rintro e w4 ⟨rfl,rfl⟩;have a9:=zH (E.o.below b1);clear ae R S A D;generalize wi.alloc (.k #[.i i.var] 3)=w4 at a9 |-;go_wp2;go_meet;exact⟨s2,(dif (s2.1 0 k) (2 ^ i.var)),by first | exact congrArg (Value.int .u64) a0 | (simp only[a0]) | rfl,Y,a9.o,HMID.o⟩
        ·have ca:((i.op:Int)==10)=false:=zI yo;by_cases h7:i.op=7
         ·have o7:((i.op:Int)==7)=true:=by rw[h7];rfl
          obtain⟨G,J,_⟩:=HC.wf.call k i HI.o (.inr h7);have ab:i.call<C.P.fs.length:=(yh.1 J).1;have HMID:=zH (show zam s2 k i=(zac s2 1 i.call 0,s2.1 0 k) by unfold zam;rw[yg h9,yg h10,yj h7]);clear J h7;go_wp2_with fail;have hHeld:=And.intro (show ∀ j,wi.drew.cell? (.a V.xb j)=(.k VF.fb sb V.g C.P:Array Value)[j]? from E.o.drew.k.m.x.cell) (U.o.drew.cell 11);clear R S A D ai;refine rgl 8 (fun(Q:World)=>(∀ j,Q.cell? (.a V.xb j)=(.k VF.fb sb V.g C.P:Array Value)[j]?)/\Q.cell? (.a ib 11)=some (.i i.call)) ?_
          iterate 8(refine tK 0 rfl hHeld ?_)
          refine lst rfl fun K hK=>?_;go_simp;have HPd:=E.o.drew;refine(zj0 _ _ _ _ _ cb s2 wi.drew 1 i.call 0 HPd.k yo (by unfold zq;simpa using ab) yo).mono ?_;exact mEc
         ·have o7:((i.op:Int)==7)=false:=zI yo;by_cases a6:i.op=11
          ·have cc:((i.op:Int)==11)=true:=by rw[a6];rfl
           obtain⟨G,J,_⟩:=HC.wf.call k i HI.o (.inl a6);have ab:i.call<C.P.fs.length:=(yh.1 J).1;have HMID:=zH (show zam s2 k i=(zac s2 1 i.call (s2.1 0 k),(zac s2 1 i.call (s2.1 0 k)).1 2 i.call|||dif (s2.1 0 k) ((zac s2 1 i.call (s2.1 0 k)).1 3 i.call)) by unfold zam;rw[yg h9,yg h10,yg h7,yj a6]);clear J a6;go_wp2_with fail;have hHeld:=And.intro (show ∀ j,wi.drew.cell? (.a V.xb j)=(.k VF.fb sb V.g C.P:Array Value)[j]? from E.o.drew.k.m.x.cell) (U.o.drew.cell 11);clear R S A D ai;refine rgl 9 (fun(Q:World)=>(∀ j,Q.cell? (.a V.xb j)=(.k VF.fb sb V.g C.P:Array Value)[j]?)/\Q.cell? (.a ib 11)=some (.i i.call)) ?_
           iterate 9(refine tK 0 rfl hHeld ?_)
           refine lst rfl fun K hK=>?_;go_simp;have HPd:=E.o.drew;refine(zj0 _ _ _ _ _ cb s2 wi.drew 1 i.call (s2.1 0 k) HPd.k yo (by unfold zq;simpa using ab) hh48).mono ?_;intro e w5 hst;have aj:=zH (U.o.drew.lkfr hst.2.2 (U.o.drew.qs HPd.k.c yd) (HPd.k.m.ne U.o.drew yd));obtain⟨rfl,hP5⟩:=HPd.step hst;refine hK _ _ ?_;clear hK K hHeld hst HPd;have HP5:=zH hP5;clear hP5;generalize zac s2 1 i.call (s2.1 0 k)=s4 at HP5 HMID;have h2:=HP5.o.drew.k.m.sm 2 i.call;have h3:=HP5.o.drew.k.m.sm 3 i.call;have ch:=zos (s2.1 0 k) (s4.1 3 i.call) hh48 h3;have ci:=zfj (s4.1 2 i.call) (dif (s2.1 0 k) (s4.1 3 i.call)) h2 (zih hh48);have Y:s4.1 2 i.call|||dif (s2.1 0 k) (s4.1 3 i.call)<2 ^ 48:=yJ h2 (zih hh48);clear h2 h3;go_wp2_with fail;have hHeld:=And.intro (show ∀ j,w5.drew.cell? (.a V.xb j)=(.k VF.fb sb V.g C.P:Array Value)[j]? from HP5.o.drew.k.m.x.cell) (And.intro (aj.o.drew.cell 11) (And.intro (HP5.o.drew.k.m.cell (r:=2) (i:=i.call) yo (by unfold zq;simpa using ab)) (HP5.o.drew.k.m.cell (r:=3) (i:=i.call) yo (by unfold zq;simpa using ab))));refine rgl 19 (fun(Q:World)=>(∀ j,Q.cell? (.a V.xb j)=(.k VF.fb sb V.g C.P:Array Value)[j]?)/\Q.cell? (.a ib 11)=some (.i i.call)/\Q.cell? (.a (V.g 2) i.call)=some (zA (s4.1 2 i.call))/\Q.cell? (.a (V.g 3) i.call)=some (zA (s4.1 3 i.call))) ?_
           iterate 19(refine tK 0 rfl hHeld ?_)
           refine lst rfl fun K hK=>?_;go_simp;refine hK _ _ ?_;clear hK K hHeld;have b7:=zH HP5.o.drew;clear HP5 aj;generalize w5.drew=w6 at b7 |-;go_wp2;go_meet;exact⟨s4,_,rfl,Y,b7.o,HMID.o⟩
          ·have cc:((i.op:Int)==11)=false:=zI yo;by_cases ah:i.op=12
           ·have cd:((i.op:Int)==12)=true:=by rw[ah];rfl
            have HMID:=zH (show zam s2 k i=(zac s2 2 i.fn (s2.1 0 k),s2.1 0 k) by unfold zam;rw[yg h9,yg h10,yg h7,yg a6,yj ah]);clear ah;go_wp2_with fail;have hHeld:=And.intro (show ∀ j,wi.drew.cell? (.a V.xb j)=(.k VF.fb sb V.g C.P:Array Value)[j]? from E.o.drew.k.m.x.cell) (U.o.drew.cell 2);clear R S A D ai;refine rgl 9 (fun(Q:World)=>(∀ j,Q.cell? (.a V.xb j)=(.k VF.fb sb V.g C.P:Array Value)[j]?)/\Q.cell? (.a ib 2)=some (.i i.fn)) ?_
            iterate 9(refine tK 0 rfl hHeld ?_)
            refine lst rfl fun K hK=>?_;go_simp;have HPd:=E.o.drew;refine(zj0 _ _ _ _ _ cb s2 wi.drew 2 i.fn (s2.1 0 k) HPd.k yo (by unfold zq;simpa using bu) hh48).mono ?_;exact mEc
           ·have cd:((i.op:Int)==12)=false:=zI yo;have HMID:=zH (show zam s2 k i=(s2,s2.1 0 k) by unfold zam;rw[yg h9,yg h10,yg h7,yg a6,yg ah]);go_wp2;go_meet;exact⟨_,s2.1 0 k,rfl,hh48,E.o,HMID.o⟩
    ·obtain rfl:k=C.P.code.length:=yo;have hs:s2=M:=by rw[<- HM.o,yaa,zde]
     subst hs;have bj:=zH (HP.o.post bk.o);have cj:=HP.o.k.c.cell;have ce:=HP.o.k.c.lt;clear L O N A D H HP;go_wp2;go_ret;exact bj.o
end
end Go.Proofs.YtkmcihhndgdhpaaGreat
