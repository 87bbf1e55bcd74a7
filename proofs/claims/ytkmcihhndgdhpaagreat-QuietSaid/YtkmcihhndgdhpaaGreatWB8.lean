/- Parts of the walk. -/
import Derived.Test.YtkmcihhndgdhpaaGreatWB7
set_option maxRecDepth 100000
set_option maxHeartbeats 4000000
set_option linter.unusedSimpArgs false
set_option linter.unusedVariables false
open Go.ChangeMaps Go.Maps Go.RowKit Go.Shelf Go.Proofs.Tryz
namespace Go.Proofs.YtkmcihhndgdhpaaGreat
theorem mVa {p:Prop}(h:p:=by
  go_wp2;go_roundg (C.P.code.length-(k+1))
  case measure=>have:=HG.o;omega
  case rel=>rw[show((k:Int)+1)=((k+1:Nat):Int) by omega];exact REL.o):p:=h
theorem zu0 (C:AX)(wf:World)(VF:FV)(Rs Bs:List Nat)(wp:World)(VP:PtV)(st:PS)(x:Nat)(Y:LkY C wf VF Rs Bs wp VP st x)(V:LkV)(f:LF)(w:World)(h:LkM w wf.heap.size VF.fb VP.sb C.P V f)(hb:Below wf.heap.size wf w) :
  Calls prog 232 #[.p V.xb] w (zh7 C wf VF VP.sb V (zc5 C.P st Bs C.P.code 0 (f,false)) w):=by
 have c4:∀ (fn:Fn) (first cap:Array Value) (w:World),(Instr.makeFunc fn first cap).run prog w=.ok (.func fn first cap) w:=fun _ _ _ _=>rfl;obtain⟨sa,sc,rg,rc,ba,bc,r0,an⟩:=lk_see Y.l.f;have G:=zH an;have HC:=Y.l.f.f.h.c;have ch:=HC.wf.cl;have cd:=HC.wf.fl;have ce:=HC.wf.gl;obtain⟨sb,b1⟩:∃ sb,sb=VP.sb:=⟨_,rfl⟩;have br:=zH b1;rw[<- b1]at h |-;obtain⟨cb,az⟩:∃ cb,cb=w.heap.size:=⟨_,rfl⟩;have bn:=zH (show w.heap.size<=cb by omega);have J:=zH (show ∀ s I,PsW C wf VF sb V cb w s I->Below wf.heap.size wf I from fun s I hp=>hp.vj hb (yq hb.size));have bq:=zH (show ∀ I,Below wf.heap.size wf I->PtAt wp.heap.size VF.fb wp VP st x I from fun I hb=>Y.p.below hb);have ax:Below w.heap.size w (w.alloc (.k #[.bool false] 4)):=yB.alloc yL _;have L:=zH (show PsW C wf VF sb V cb w (f,false) (w.alloc (.k #[.bool false] 4))from⟨⟨h.below ax,by rw[az];exact Blk.newAt rfl⟩,LkFr.below ax⟩);obtain⟨M,hM⟩:∃ M,M=zc5 C.P st Bs C.P.code 0 (f,false):=⟨_,rfl⟩;rw[<- hM];clear ax h hb an b1;go_enter func232,ntmps232;go_upto_region 3 with fail
 rw[<- az];generalize w.alloc (.k #[.bool false] 4)=w1 at L |-;clear az c4;have U:=(G.o w1 (J.o _ _ L.o)).f;have ag:=(G.o w1 (J.o _ _ L.o)).p;have a3:=(G.o w1 (J.o _ _ L.o)).fl;have D:=L.o.k.m.x.cell;unfold za2 at D;have H:=L.o.k.m.x.lt;have ST:=zH (show AbR C wf VF sb V cb w st Bs M C.P.code.length (.i 0) w1 from⟨0,(f,false),rfl,rfl,yD _,L.o,by rw[yal];exact hM.symm⟩);clear L hM;go_wp2_with fail;clear U ag a3 D H;go_loopg [25] C.P.code.length (fun gk v25 wr=>AbR C wf VF sb V cb w st Bs M gk v25 wr)
 case atStart=>exact ST.o
 case round =>
  obtain⟨k,s2,rfl,bb,hk,hP,hM⟩:=hrel;have HG:=zH bb;have HP:=zH hP;have HM:=zH hM;have a1:=zH (G.o wr (J.o _ _ hP));have U:=a1.o.f;have ag:=a1.o.p;have a3:=a1.o.fl;have D:=hP.k.m.x.cell;unfold za2 at D;have H:=hP.k.m.x.lt;clear hP hM bb;by_cases Z:k<C.P.code.length
  ·obtain⟨i,hi⟩:∃ i,C.P.code[k]?=some i:=⟨_,yc Z⟩;obtain⟨aa,ac,E,bz,cj⟩:=HC.ql a1.o.ve hi;have i0:wr.cell? (.a C.cg (k*14))=some (.i i.op):=E 0 yo;have i1:wr.cell? (.n C.cg k 1)=some (.i i.place):=E 1 yo;have i2:wr.cell? (.n C.cg k 2)=some (.i i.fn):=E 2 yo;have i3:wr.cell? (.n C.cg k 3)=some (.i i.x):=E 3 yo;have i4:wr.cell? (.n C.cg k 4)=some (.bool i.y.c):=E 4 yo;have i5:wr.cell? (.n C.cg k 5)=some (.i i.y.n):=E 5 yo;have i6:wr.cell? (.n C.cg k 6)=some (.bool i.z.c):=E 6 yo;have i7:wr.cell? (.n C.cg k 7)=some (.i i.z.n):=E 7 yo;have i8:wr.cell? (.n C.cg k 8)=some (.i i.bin):=E 8 yo;have i9:wr.cell? (.n C.cg k 9)=some (.i i.var):=E 9 yo;have c6:wr.cell? (.n C.cg k 10)=some (.i i.site):=E 10 yo;have c7:wr.cell? (.n C.cg k 11)=some (.i i.call):=E 11 yo;have c8:wr.cell? (.n C.cg k 12)=some (.slice aa i.args.length ac):=E 12 yo;have c9:wr.cell? (.n C.cg k 13)=some (.i i.to):=E 13 yo;have HI:=zH hi;have ab:=zH (show zc5 C.P st Bs (C.P.code.drop (k+1)) (k+1) (if onB C.P k&&rsB C.P 0 i.fn then zdt 4 (zai C.P st Bs (zcb C.P s2 k i) k i).2 (zS C.P k) (zai C.P st Bs (zcb C.P s2 k i) k i).1 else s2)=M from by rw[<- HM.o,zae hi,zc5]);have ay:Below wr.heap.size wr (wr.alloc (.k (.j i (.slice aa i.args.length ac)) 309)):=yB.alloc yL _;have af:Blk (wr.alloc (.k (.j i (.slice aa i.args.length ac)) 309)) wr.heap.size 309 (.j i (.slice aa i.args.length ac)):=Blk.newAt rfl;clear E hi HM bz;go_wp2_with fail;generalize hW:wr.alloc (.k (.j i (.slice aa i.args.length ac)) 309)=wi at ay af |-;obtain⟨ib,ah⟩:∃ ib,ib=wr.heap.size:=⟨_,rfl⟩;rw[<- ah]at af |-;clear hW i0 i1 i2 i3 i4 i5 i6 i7 i8 i9 c6 c7 c8 c9 U ag a3 D H ah;have R:=zH (show AbI ib (.j i (.slice aa i.args.length ac)) C wf VF sb V cb w s2 wi from⟨HP.o.below ay,af⟩);clear ay af HP a1;have ci:=Y.l.w.io k i HI.o;have b9:=HC.wf.fn k i HI.o;have a0:=zH (G.o wi.drew (J.o _ _ R.o.drew.p));have A:=And.intro (show ∀ j,wi.drew.cell? (.a V.xb j)=(.k VF.fb sb V.g C.P:Array Value)[j]? from R.o.drew.p.k.m.x.cell) (And.intro a0.o.f (And.intro a0.o.rc (R.o.drew.i.cell 2)));refine rgl 24 (fun(I:World)=>(∀ j,I.cell? (.a V.xb j)=(.k VF.fb sb V.g C.P:Array Value)[j]?)/\(∀ i,I.cell? (.a VF.fb i)=#[.p C.pb,.m VF.jf,.slice sa C.P.qg.length sc,.s rg (C.P.qg.length+1) rc,.slice ba C.P.qg.length bc,.m VF.vz,.m VF.vu][i]?)/\I.cell? (.a rg 0)=some (.m r0)/\I.cell? (.a ib 2)=some (.i i.fn)) ?_
   iterate 8(refine tK 0 rfl A ?_)
   refine rdy 8 rfl fun K Q=>?_;go_simp;refine(hasE _ VF.jf k (onB C.P) a0.o.on yo).mono ?_;rintro e w2 ⟨rfl,rfl⟩;refine Q.o _ _ A (fun A=>?_);clear Q K;cases hon:onB C.P k
   ·have REL:=zH (show AbR C wf VF sb V cb w st Bs M (C.P.code.length-(k+1)) (.i ((k+1:Nat):Int)) wi.drew from⟨k+1,s2,rfl,rfl,Z,R.o.drew.p,by have:=ab.o;rw[hon]at this;exact this⟩);clear hon
    iterate 2(refine tK 9 rfl A ?_)
    iterate 13(refine sK 11 rfl A ?_)
    refine lst rfl fun K Q=>?_;go_simp;refine Q _ _ ?_;clear Q K A a0 R;exact mVa
   ·iterate 13(refine tK 9 rfl A ?_)
    refine rdy 22 rfl fun K Q=>?_;go_simp;refine(hasE _ r0 i.fn (rsB C.P 0) a0.o.r0 yo).mono ?_;rintro e w2 ⟨rfl,rfl⟩;refine Q.o _ _ A (fun A=>?_);clear Q K;refine tK 23 rfl A ?_;refine lst rfl fun K Q=>?_;go_simp;refine Q _ _ ?_;clear Q K A a0;have O:=zH R.o.drew;clear R;generalize wi.drew=wj at O |-;cases hrt:rsB C.P 0 i.fn
    ·have REL:=zH (show AbR C wf VF sb V cb w st Bs M (C.P.code.length-(k+1)) (.i ((k+1:Nat):Int)) wj from⟨k+1,s2,rfl,rfl,Z,O.o.p,by have:=ab.o;rw[hon,hrt]at this;exact this⟩);clear hon hrt O;exact mVa
    ·have ao:=zH (show zc5 C.P st Bs (C.P.code.drop (k+1)) (k+1) (zdt 4 (zai C.P st Bs (zcb C.P s2 k i) k i).2 (zS C.P k) (zai C.P st Bs (zcb C.P s2 k i) k i).1)=M from by have:=ab.o;rw[hon,hrt]at this;exact this);clear hon hrt ab;go_wp2_with fail;have a9:=zH (G.o wj.drew (J.o _ _ O.o.drew.p));obtain⟨fu,a4⟩:∃ fu,C.P.fs[i.fn]?=some fu:=⟨_,yc b9⟩;have A:=And.intro (show ∀ j,wj.drew.cell? (.a V.xb j)=(.k VF.fb sb V.g C.P:Array Value)[j]? from O.o.drew.p.k.m.x.cell) (And.intro a9.o.f (And.intro a9.o.p (And.intro (show wj.drew.cell? (.a C.fg (i.fn*5+3))=some (.i fu.from_)from HC.jd a9.o.ve a4 3 yo) (O.o.drew.i.cell 2))));refine rgl 16 (fun(I:World)=>(∀ j,I.cell? (.a V.xb j)=(.k VF.fb sb V.g C.P:Array Value)[j]?)/\(∀ i,I.cell? (.a VF.fb i)=#[.p C.pb,.m VF.jf,.slice sa C.P.qg.length sc,.s rg (C.P.qg.length+1) rc,.slice ba C.P.qg.length bc,.m VF.vz,.m VF.vu][i]?)/\(∀ i,I.cell? (.a C.pb i)=(.c C:Array Value)[i]?)/\I.cell? (.a C.fg (i.fn*5+3))=some (.i fu.from_)/\I.cell? (.a ib 2)=some (.i i.fn)) ?_
     iterate 16(refine tK 0 rfl A ?_)
     refine lst rfl fun K Q=>?_;go_simp;refine Q _ _ ?_;clear Q K A a9;have S:=zH O.o.drew;clear O;generalize wj.drew=wk at S |-;go_upto_if 71 with fail
     go_cut [] (fun wx=>AbI ib (.j i (.slice aa i.args.length ac)) C wf VF sb V cb w (zcb C.P s2 k i) wx)
     case first =>
      by_cases a7:k=fu.from_
      ·have ca:((k:Int)==(fu.from_:Int))=true:=by simp[a7]
       have HA:=zH (show zcb C.P s2 k i=zo s2 4 k (s2.1 5 i.fn) by unfold zcb;rw[a4];exact yj a7);clear a7 a4;go_wp2_with fail;have A:=And.intro (show ∀ j,wk.drew.cell? (.a V.xb j)=(.k VF.fb sb V.g C.P:Array Value)[j]? from S.o.drew.p.k.m.x.cell) (And.intro (S.o.drew.i.cell 2) (S.o.drew.p.k.m.cell (r:=5) (i:=i.fn) yo (by unfold zq;simpa using b9)));refine rgl 15 (fun(I:World)=>(∀ j,I.cell? (.a V.xb j)=(.k VF.fb sb V.g C.P:Array Value)[j]?)/\I.cell? (.a ib 2)=some (.i i.fn)/\I.cell? (.a (V.g 5) i.fn)=some (zA (s2.1 5 i.fn))) ?_
       iterate 15(refine tK 0 rfl A ?_)
       refine lst rfl fun K Q=>?_;go_simp;have ae:=S.o.drew;have aj:=ae.p.k.m.sm 5 i.fn;refine(zlp _ _ _ _ _ cb s2 wk.drew 4 k (s2.1 5 i.fn) ae.p.k yo (by unfold zq;simpa using Z) aj).mono ?_;intro e w5 a5;obtain⟨rfl,b6⟩:=ae.step a5;refine Q _ _ ?_;clear Q K A a5 aj ae;have ad:=zH b6;clear b6;go_wp2;go_meet;rw[HA.o];exact ad.o
      ·have ca:((k:Int)==(fu.from_:Int))=false:=zI yo;have HA:=zH (show zcb C.P s2 k i=s2 by unfold zcb;rw[a4];exact yg a7);clear a7 a4;go_wp2;go_meet;rw[HA.o];exact S.o
     case rest =>
      generalize zcb C.P s2 k i=s3 at hcut ao;have N:=zH hcut;clear hcut S a4;have bg:=N.o.i.cell;have bh:=N.o.i.lt;have D:=N.o.p.k.m.x.cell;unfold za2 at D;have H:=N.o.p.k.m.x.lt;have c0:wc.cell? (.a (V.g 4) k)=some (zA (s3.1 4 k)):=N.o.p.k.m.cell (r:=4) (i:=k) yo (by unfold zq;simpa using Z);have bf:s3.1 4 k<2 ^ 48:=N.o.p.k.m.sm 4 k;go_upto_block 2 with fail
      clear bg bh D H c0;go_cut [7] (fun v7 wx=>∃ (s4:LS) (h:Nat),v7=zA h/\h<2 ^ 48/\PsW C wf VF sb V cb w s4 wx/\zai C.P st Bs s3 k i=(s4,h))
      case rest =>
       obtain⟨s4,h,rfl,au,b5,ak⟩:=hcut;have a2:=zH b5;have ap:=zH (show zc5 C.P st Bs (C.P.code.drop (k+1)) (k+1) (zdt 4 h (zS C.P k) s4)=M from by have:=ao.o;rw[ak]at this;exact this);clear b5 ak bf ao N;have a8:=zH (G.o _ (J.o _ _ a2.o));have U:=a8.o.f;have a3:=a8.o.fl;have D:=a2.o.k.m.x.cell;unfold za2 at D;have H:=a2.o.k.m.x.lt;go_wp2_with fail;refine(zjq C HC _ VF.fb k i a8.o.ve (U 0) HI.o).mono ?_;rintro e w5 ⟨v,rfl,am,bi,b8⟩;obtain⟨va,vc,rfl,bj⟩:=ztb a2.o.k am;have aq:=zH bj;have ad:=zH (a2.o.below b8);have c3:=zlb C.P k;have b4:=zH (zij HC.wf k);obtain⟨l,hl⟩:∃ l,l=zS C.P k:=⟨_,rfl⟩;rw[<- hl]at aq c3 ap b4 |-;obtain⟨M3,aw⟩:∃ M3,M3=zdt 4 h l s4:=⟨_,rfl⟩;have bu:=zH (show AbN C wf VF sb V cb w w5 l h M3 l.length (.i 0) w5 from⟨0,s4,rfl,rfl,yD _,ad.o,LkFr.refl _ _ _,by rw[yal];exact aw.symm⟩);rw[<- aw]at ap;clear hl aw am bi bj b8 a2 ad a8 U a3 D H;go_wp2_with fail;go_loopg [194] l.length (fun gk v194 wr=>AbN C wf VF sb V cb w w5 l h M3 gk v194 wr)
       case atStart=>exact bu.o
       case round =>
        obtain⟨j,s5,rfl,bd,hj,hP,a6,hM⟩:=hrel;have bo:=zH bd;have HP:=zH hP;have HM:=zH hM;have D:=hP.k.m.x.cell;unfold za2 at D;have H:=hP.k.m.x.lt;clear hP hM bd;by_cases ai:j<l.length
        ·obtain⟨x,hx⟩:∃ x,l[j]?=some x:=⟨_,yc ai⟩;obtain⟨gb,c5,be⟩:=aq.o j x hx;subst c5;have c2:=be wr a6;have bk:=b4.o x (yl hx);have bp:=zH (show zdt 4 h (l.drop (j+1)) (zo s5 4 x h)=M3 from by rw[<- HM.o,zae hx,zdt]);have b2:=zH a6;clear be hx a6;go_wp2_with fail;refine(zlp _ _ _ _ _ cb s5 wr 4 x h HP.o.k yo (by unfold zq;simpa using bk) au).mono ?_;intro e w6 a5;have b3:=zH (b2.o.trans a5.2.2);obtain⟨rfl,b7⟩:=HP.o.step a5;have REL:=zH (show AbN C wf VF sb V cb w w5 l h M3 (l.length-(j+1)) (.i ((j+1:Nat):Int)) w6 from⟨j+1,_,rfl,rfl,ai,b7,b3.o,bp.o⟩);clear a5 b7 D H c2;go_wp2;go_roundg (l.length-(j+1))
         case measure=>have:=bo.o;omega
         case rel=>rw[show((j:Int)+1)=((j+1:Nat):Int) by omega];exact REL.o
        ·obtain rfl:j=l.length:=yo;have hs:s5=M3:=by rw[<- HM.o,yaa,zdt]
         subst hs;have REL:=zH (show AbR C wf VF sb V cb w st Bs M (C.P.code.length-(k+1)) (.i ((k+1:Nat):Int)) wr from⟨k+1,_,rfl,rfl,Z,HP.o,ap.o⟩);clear D H aq;exact mVa
      case first =>
       refine zux Y G br J bq HI Z N ?_
       intros
       rename_i W s4 h au hp hm;go_wp2;go_meet;exact⟨s4,h,rfl,au,hp,hm⟩
  ·obtain rfl:k=C.P.code.length:=yo;have hs:s2=M:=by rw[<- HM.o,yaa,zc5]
   subst hs;have bm:=zH (HP.o.post bn.o);have cf:=HP.o.k.c.cell;have cc:=HP.o.k.c.lt;clear U ag a3 D H a1 HP;go_wp2;go_ret;exact bm.o
end Go.Proofs.YtkmcihhndgdhpaaGreat
