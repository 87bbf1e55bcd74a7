/- Parts of the walk. -/
import Derived.Test.YtkmcihhndgdhpaaGreatWB5
set_option maxRecDepth 100000
set_option maxHeartbeats 4000000
set_option linter.unusedSimpArgs false
set_option linter.unusedVariables false
open Go.ChangeMaps Go.Maps Go.RowKit Go.Shelf Go.Proofs.Tryz
namespace Go.Proofs.YtkmcihhndgdhpaaGreat
theorem mDb {p:Prop}(h:p:=by
  have q0:=k6.cell 0;have q1:=k6.cell 1;have q2:=k6.cell 2;have q3:=k6.cell 3;have q4:=k6.cell 4;have q5:=k6.cell 5;have q6:=k6.cell 6;have q7:=k6.cell 7;refine ym (v:=.tuple #[.agg xi,.bool false]) (by simp[results,results155,go_sem,q0,q1,q2,q3,q4,q5,q6,q7,zba,xi]) rfl ?_;rw[HM.o];exact⟨kb,rfl⟩):p:=h
structure Rp where
 a:Int
 b:Int
 new:Int
 field:Nat
 ra:Nat
 rb:Nat
 la:List Nat
 lb:List Nat
def pairR (ia ib:In)(la lb:List Nat):Option (Int×Nat)->Option (Nat×Nat)->Option Rp
 | some (o,u),some (r,t)=>some ⟨ia.place,ib.place,o,u,r,t,la,lb⟩
 | _,_=>none
noncomputable def zj9 (P:Pr)(st:PS)(x:Nat)(f:LF)(a b:Nat)(ia ib:In):Option Rp :=
 if(!zbq ia.op && !zbq ib.op)=true\/f 0 a&&&f 0 b≠0 then none
 else pairR ia ib (mems (f 0 a)) (mems (f 0 b)) (zfy (zbp P st x ia) (zbp P st x ib)) (zkg P f a b)
def zba (r:Rp)(va vb:Value):Array Value:=#[.i r.a,.i r.b,.i r.new,.i r.field,.i r.ra,.i r.rb,va,vb]
def xi:Array Value:=#[.i 0,.i 0,.i 0,.i 0,.i 0,.i 0,.z,.z]
def zo3 (o:Option Rp)(w:World)(e:Ending)(w':World):Prop:=Below w.heap.size w w'/\match o with
 | none=>e=.r (.tuple #[.agg xi,.bool false])
 | some r=>∃ va vb,e=.r (.tuple #[.agg (zba r va vb),.bool true])/\w'.ownsRow w.heap.size 3 1 va r.la.length (ints r.la)/\w'.ownsRow w.heap.size 3 1 vb r.lb.length (ints r.lb)
theorem zrc {C:AX}(HC:AXok C){k:Nat}{i:In}(hi:C.P.code[k]?=some i):∃ D E,∀ W,C.on W->(
 W.cell? (.a C.cg (k*14))=some (.i i.op)/\W.cell? (.n C.cg k 1)=some (.i i.place)/\W.cell? (.n C.cg k 2)=some (.i i.fn)/\W.cell? (.n C.cg k 3)=some (.i i.x)/\W.cell? (.n C.cg k 4)=some (.bool i.y.c)/\W.cell? (.n C.cg k 5)=some (.i i.y.n)/\W.cell? (.n C.cg k 6)=some (.bool i.z.c)/\W.cell? (.n C.cg k 7)=some (.i i.z.n)/\W.cell? (.n C.cg k 8)=some (.i i.bin)/\W.cell? (.n C.cg k 9)=some (.i i.var)/\W.cell? (.n C.cg k 10)=some (.i i.site)/\W.cell? (.n C.cg k 11)=some (.i i.call)/\W.cell? (.n C.cg k 12)=some (.slice D i.args.length E)/\W.cell? (.n C.cg k 13)=some (.i i.to)
 ):=by
 obtain⟨D,E,H,_,_⟩:=HC.ql (yn C.w0.heap.size C.w0) hi;have I:=HC.prog.cr;rw[HC.cv]at I;refine⟨D,E,fun J G=>?_⟩;have A:∀ j,j<14->J.cell? (.n C.cg k j)=(zV i (.slice D i.args.length E))[j]? := fun j K=>by
  rw[G.cell (p:=(.n C.cg k j)) (I.lt C.cg rfl).2];exact H j K
 exact⟨A 0 yo,A 1 yo,A 2 yo,A 3 yo,A 4 yo,A 5 yo,A 6 yo,A 7 yo,A 8 yo,A 9 yo,A 10 yo,A 11 yo,A 12 yo,A 13 yo⟩
theorem zk2 {w0 w:World}{B g:Nat}(hb:Below B w0 w)(hg:B<=g)(cs:Array Value):Below B w0 (w.setRow g cs) :=
 ⟨hb.os,hb.tape,hb.output,by simpa using hb.size,fun k A=>(setRow_other _ _ _ _ yo).trans (hb.block k A)⟩
theorem pair_any (J:JV)(wj w:World)(a b:Nat)(ia ib:In)(H:JgOn J wj)(hb:Below wj.heap.size wj w)(ha:J.C.P.code[a]?=some ia)(hb':J.C.P.code[b]?=some ib)(hoa:2<=ia.op/\ia.op<=5)(hob:2<=ib.op/\ib.op<=5) :
  Calls prog 155 #[.p J.jb,.i a,.i b] w (zo3 (zj9 J.C.P J.st J.x J.f a b ia ib) w):=by
 have a3:=zH (fun(W:World) (hW:Below w.heap.size w W)=>zwm J wj W a b ia ib H (hb.trans (hW.mono hb.size)) ha hb' hoa hob);have ae:a<J.C.P.code.length:=(yh.1 ha).1;have ag:b<J.C.P.code.length:=(yh.1 hb').1;have a4:=zH (fun(W:World) (hW:Below w.heap.size w W)=>zzy J wj W a b H (hb.trans (hW.mono hb.size)) ae ag);obtain⟨C,VF,VP,V,wp,st,x,Rs,Bs,f,jb,B,sa,sc,rg,rc,ba,bc,r0,ga,gc⟩:=J
 dsimp only at ha hb' ae ag a3 a4 |-
 obtain⟨XC,ao⟩:∃ XC,XC=zfy (zbp C.P st x ia) (zbp C.P st x ib):=⟨_,rfl⟩;obtain⟨XR,ap⟩:∃ XR,XR=zkg C.P f a b:=⟨_,rfl⟩;obtain⟨M,hM⟩:∃ M,M=zj9 C.P st x f a b ia ib:=⟨_,rfl⟩;rw[<- ao]at a3;rw[<- ap]at a4;rw[<- hM];unfold zj9 at hM;rw[<- ao,<- ap]at hM;have bh:=zH (show((!zbq ia.op && !zbq ib.op)=true\/f 0 a&&&f 0 b≠0)->M=none from fun h=>by rw[hM,yj h]);have bi:=zH (show ¬ ((!zbq ia.op && !zbq ib.op)=true\/f 0 a&&&f 0 b≠0)->M=pairR ia ib (mems (f 0 a)) (mems (f 0 b)) XC XR from fun h=>by rw[hM,yg h]);have a3:=zH a3.o;have a4:=zH a4.o;clear ao ap hM;have H0:=zH (fun(W:World) (hW:Below w.heap.size w W)=>H W (hb.trans (hW.mono hb.size)));clear H hb;go_enter func155,ntmps155;go_upto_region 1 with fail
 have O:Below w.heap.size w (w.alloc (.cells xi 69)):=yB.alloc yL _;have h6:Blk (w.alloc (.cells xi 69)) w.heap.size 69 xi:=Blk.newAt rfl;change Code.wp _ _ _ _ (w.alloc (.cells xi 69))
 generalize w.alloc (.cells xi 69)=w1 at O h6 |-;have HS:=zH (H0.o w1.drew O.drew);have HC:=HS.o.c;obtain⟨aa,ac,ai⟩:=zrc HC ha;obtain⟨Y,Z,aj⟩:=zrc HC hb';have bq:=HC.wf.cl;have A:=And.intro HS.o.j.cell (And.intro HS.o.l.p (And.intro (ai _ HS.o.l.ve) (aj _ HS.o.l.ve)));have R:=zH (show ∀ D,Below w1.heap.size w1 D->(∀ j,D.cell? (.a jb j)=#[.p C.pb,.p VF.fb,.p VP.sb,.p V.xb][j]?)/\(∀ i,D.cell? (.a C.pb i)=(.c C:Array Value)[i]?)/\(
  D.cell? (.a C.cg (a*14))=some (.i ia.op)/\D.cell? (.n C.cg a 1)=some (.i ia.place)/\D.cell? (.n C.cg a 2)=some (.i ia.fn)/\D.cell? (.n C.cg a 3)=some (.i ia.x)/\D.cell? (.n C.cg a 4)=some (.bool ia.y.c)/\D.cell? (.n C.cg a 5)=some (.i ia.y.n)/\D.cell? (.n C.cg a 6)=some (.bool ia.z.c)/\D.cell? (.n C.cg a 7)=some (.i ia.z.n)/\D.cell? (.n C.cg a 8)=some (.i ia.bin)/\D.cell? (.n C.cg a 9)=some (.i ia.var)/\D.cell? (.n C.cg a 10)=some (.i ia.site)/\D.cell? (.n C.cg a 11)=some (.i ia.call)/\D.cell? (.n C.cg a 12)=some (.slice aa ia.args.length ac)/\D.cell? (.n C.cg a 13)=some (.i ia.to)
  )/\(
  D.cell? (.a C.cg (b*14))=some (.i ib.op)/\D.cell? (.n C.cg b 1)=some (.i ib.place)/\D.cell? (.n C.cg b 2)=some (.i ib.fn)/\D.cell? (.n C.cg b 3)=some (.i ib.x)/\D.cell? (.n C.cg b 4)=some (.bool ib.y.c)/\D.cell? (.n C.cg b 5)=some (.i ib.y.n)/\D.cell? (.n C.cg b 6)=some (.bool ib.z.c)/\D.cell? (.n C.cg b 7)=some (.i ib.z.n)/\D.cell? (.n C.cg b 8)=some (.i ib.bin)/\D.cell? (.n C.cg b 9)=some (.i ib.var)/\D.cell? (.n C.cg b 10)=some (.i ib.site)/\D.cell? (.n C.cg b 11)=some (.i ib.call)/\D.cell? (.n C.cg b 12)=some (.slice Y ib.args.length Z)/\D.cell? (.n C.cg b 13)=some (.i ib.to)
  )from fun D hW=>by
  have hs:=H0.o D (O.trans (hW.mono O.size));exact⟨hs.j.cell,hs.l.p,ai _ hs.l.ve,aj _ hs.l.ve⟩)
 go_cut [8,9] (fun v8 v9 wx=>∃ c8 c9:Nat,v8=.p c8/\v9=.p c9/\Blk wx c8 309 (.j ia (.slice aa ia.args.length ac))/\Blk wx c9 309 (.j ib (.slice Y ib.args.length Z))/\Blk wx w.heap.size 69 xi/\Below w.heap.size w wx)
 case rest =>
  obtain⟨c8,c9,rfl,rfl,h8,h9,h6,bd⟩:=hcut;have H8:=zH h8;have H9:=zH h9;have H6:=zH h6;have a2:=zH bd;clear h8 h9 h6 bd O R A HS;have be:=(H0.o _ a2.o).w.io a ia ha;have bf:=(H0.o _ a2.o).w.io b ib hb';go_upto_region 2 with fail
  go_cut [70] (fun v70 wx=>∃ bb:Bool,v70=.bool bb/\(bb=true↔((!zbq ia.op && !zbq ib.op)=true\/f 0 a&&&f 0 b≠0))/\Blk wx c8 309 (.j ia (.slice aa ia.args.length ac))/\Blk wx c9 309 (.j ib (.slice Y ib.args.length Z))/\Blk wx w.heap.size 69 xi/\Below w.heap.size w wx)
  case rest =>
   obtain⟨bb,rfl,af,h8,h9,h6,ah⟩:=hcut;have S:=zH ah;have b1:=zH h8;have b4:=zH h9;have a9:=zH h6;clear h8 h9 h6 ah H8 H9 H6 a2;cases bb
   ·have HN:=zH (show ¬ ((!zbq ia.op && !zbq ib.op)=true\/f 0 a&&&f 0 b≠0)from fun h=>by have:=af.2 h;cases this);clear af;have HM:=zH (bi.o HN.o);go_wp2_with fail;refine(a3.o _ S.o).mono ?_;rintro e w5 ⟨rfl,a5⟩;have ab:=zH (S.o.trans (a5.mono S.o.size));have a8:=zH (a9.o.below a5 a9.o.lt);have ay:=zH (b1.o.below a5 b1.o.lt);have b2:=zH (b4.o.below a5 b4.o.lt);clear a5;cases XC with
    | none =>
     unfold comV;go_wp2_with (refine wpList_store_row rfl 69 _ _ rfl w.heap.size _ rfl rfl _ _ a8.o yk rfl yE ?_);have k6:Blk (w5.setRow w.heap.size xi) w.heap.size 69 xi:=setRow_heap _ _ _ _ _ _ a8.o;have kb:Below w.heap.size w (w5.setRow w.heap.size xi):=zk2 ab.o yL _;change bodyPost _ _ _ _ _ (w5.setRow w.heap.size xi)
     generalize w5.setRow w.heap.size xi=wz at k6 kb |-;exact mDb
    | some ou =>
     obtain⟨o,u⟩:=ou;unfold comV;go_wp2_with fail;refine(a4.o _ ab.o).mono ?_;rintro e U ⟨rfl,a6⟩;have Q:=zH (ab.o.trans (a6.mono ab.o.size));have a0:=zH (a8.o.below a6 a8.o.lt);have az:=zH (ay.o.below a6 ay.o.lt);have b3:=zH (b2.o.below a6 b2.o.lt);clear a6;cases XR with
     | none =>
      unfold zoc;go_wp2_with (refine wpList_store_row rfl 69 _ _ rfl w.heap.size _ rfl rfl _ _ a0.o yk rfl yE ?_);have k6:Blk (U.setRow w.heap.size xi) w.heap.size 69 xi:=setRow_heap _ _ _ _ _ _ a0.o;have kb:Below w.heap.size w (U.setRow w.heap.size xi):=zk2 Q.o yL _;change bodyPost _ _ _ _ _ (U.setRow w.heap.size xi)
      generalize U.setRow w.heap.size xi=wz at k6 kb |-;exact mDb
     | some rt =>
      obtain⟨r,t⟩:=rt;unfold zoc;go_wp2_with fail;have an:=zH (show ∀ D,Below U.heap.size U D->(∀ j,D.cell? (.a jb j)=#[.p C.pb,.p VF.fb,.p VP.sb,.p V.xb][j]?)/\(∀ j,D.cell? (.a V.xb j)=(.k VF.fb VP.sb V.g C.P:Array Value)[j]?)/\D.cell? (.a (V.g 0) a)=some (zA (f 0 a))/\D.cell? (.a (V.g 0) b)=some (zA (f 0 b))from fun D hW=>by
       have hs:=H0.o D (Q.o.trans (hW.mono Q.o.size));exact⟨hs.j.cell,hs.k.x.cell,hs.k.cell (r:=0) (i:=a) yo (by unfold zq;simpa using ae),hs.k.cell (r:=0) (i:=b) yo (by unfold zq;simpa using ag)⟩)
      have A:=an.o U.drew yB.drew;have b6:=zH (show f 0 a<2 ^ 48/\f 0 b<2 ^ 48 from⟨(H0.o _ Q.o).k.sm 0 a,(H0.o _ Q.o).k.sm 0 b⟩);refine rgl 25 (fun(D:World)=>(∀ j,D.cell? (.a jb j)=#[.p C.pb,.p VF.fb,.p VP.sb,.p V.xb][j]?)/\(∀ j,D.cell? (.a V.xb j)=(.k VF.fb VP.sb V.g C.P:Array Value)[j]?)/\D.cell? (.a (V.g 0) a)=some (zA (f 0 a))/\D.cell? (.a (V.g 0) b)=some (zA (f 0 b))) ?_
      iterate 11(refine tK 0 rfl A ?_)
      iterate 11(refine tK 12 rfl A ?_)
      refine rdy 11 rfl fun K E=>?_;go_simp;refine(zqe (f 0 a) b6.o.1 _).mono ?_;rintro e w7 ⟨va,rfl,au,_,b9⟩;obtain⟨L,G,rfl⟩:=zZ au;have ad:=zH (show Below U.heap.size U w7 from(yn _ U).drew.trans b9);have b7:=zH au;refine E.o _ _ (an.o _ ad.o) (fun A=>?_);clear E K b9 au;refine rdy 23 rfl fun K E=>?_;go_simp;refine(zqe (f 0 b) b6.o.2 _).mono ?_;rintro e w8 ⟨vb,rfl,aw,_,aq⟩;obtain⟨N,I,rfl⟩:=zZ aw;have a1:=zH (ad.o.trans (aq.mono ad.o.size));have b8:=zH (zbn b7.o aq fun k e=>(b7.o.lt k e).2);have bj:=zH aw;refine E.o _ _ (an.o _ a1.o) (fun A=>?_);clear E K aq aw;refine tK 24 rfl A ?_;refine lst rfl fun K E=>?_;go_simp;refine E _ _ ?_;clear E K A;have bg:=zH (Q.o.trans (a1.o.mono Q.o.size));have ax:=zH (a0.o.below a1.o a0.o.lt);have bo:w8.cell? (.a c8 1)=some (.i ia.place):=(az.o.below a1.o az.o.lt).cell 1;have bp:w8.cell? (.a c9 1)=some (.i ib.place):=(b3.o.below a1.o b3.o.lt).cell 1;have am:=zH (And.intro b8.o bj.o);have HZ:=zH (show w.heap.size<U.heap.size/\U.heap.size<=w7.heap.size from⟨a0.o.lt,ad.o.size⟩);go_wp2_with (refine wpList_store_row rfl 69 _ _ rfl w.heap.size _ rfl rfl _ _ ax.o yk rfl yE ?_);have kr:(w8.setRow w.heap.size (zba ⟨ia.place,ib.place,o,u,r,t,mems (f 0 a),mems (f 0 b)⟩ (.slice L (mems (f 0 a)).length G) (.slice N (mems (f 0 b)).length I))).ownsRow w.heap.size 3 1 (.slice L (mems (f 0 a)).length G) (mems (f 0 a)).length (ints (mems (f 0 a)))/\(w8.setRow w.heap.size (zba ⟨ia.place,ib.place,o,u,r,t,mems (f 0 a),mems (f 0 b)⟩ (.slice L (mems (f 0 a)).length G) (.slice N (mems (f 0 b)).length I))).ownsRow w.heap.size 3 1 (.slice N (mems (f 0 b)).length I) (mems (f 0 b)).length (ints (mems (f 0 b))):=by
       obtain⟨h1,h2⟩:=am.o;have br:=HZ.o.1;have bu:=HZ.o.2;have e6:U.drew.heap.size=U.heap.size:=rfl;exact⟨zm (zn h1 fun k hk=>setRow_other _ _ _ _ (yq ((h1.lt k hk).1))) yo,zm (zn h2 fun k hk=>setRow_other _ _ _ _ (yq ((h2.lt k hk).1))) yo⟩
      have k6:Blk (w8.setRow w.heap.size (zba ⟨ia.place,ib.place,o,u,r,t,mems (f 0 a),mems (f 0 b)⟩ (.slice L (mems (f 0 a)).length G) (.slice N (mems (f 0 b)).length I))) w.heap.size 69 (zba ⟨ia.place,ib.place,o,u,r,t,mems (f 0 a),mems (f 0 b)⟩ (.slice L (mems (f 0 a)).length G) (.slice N (mems (f 0 b)).length I)):=setRow_heap _ _ _ _ _ _ ax.o;have kb:Below w.heap.size w (w8.setRow w.heap.size (zba ⟨ia.place,ib.place,o,u,r,t,mems (f 0 a),mems (f 0 b)⟩ (.slice L (mems (f 0 a)).length G) (.slice N (mems (f 0 b)).length I))):=zk2 bg.o yL _;change bodyPost _ _ _ _ _ (w8.setRow w.heap.size (zba ⟨ia.place,ib.place,o,u,r,t,mems (f 0 a),mems (f 0 b)⟩ (.slice L (mems (f 0 a)).length G) (.slice N (mems (f 0 b)).length I)))
      generalize w8.setRow w.heap.size (zba ⟨ia.place,ib.place,o,u,r,t,mems (f 0 a),mems (f 0 b)⟩ (.slice L (mems (f 0 a)).length G) (.slice N (mems (f 0 b)).length I))=wz at k6 kb kr |-;have q0:=k6.cell 0;have q1:=k6.cell 1;have q2:=k6.cell 2;have q3:=k6.cell 3;have q4:=k6.cell 4;have q5:=k6.cell 5;have q6:=k6.cell 6;have q7:=k6.cell 7;refine ym (v:=.tuple #[.agg (zba ⟨ia.place,ib.place,o,u,r,t,mems (f 0 a),mems (f 0 b)⟩ (.slice L (mems (f 0 a)).length G) (.slice N (mems (f 0 b)).length I)),.bool true]) (by simp[results,results155,go_sem,q0,q1,q2,q3,q4,q5,q6,q7,zba]) rfl ?_;rw[HM.o];exact⟨kb,_,_,rfl,kr.1,kr.2⟩
   ·have HM:=zH (bh.o (af.1 rfl));clear af;go_wp2_with (refine wpList_store_row rfl 69 _ _ rfl w.heap.size _ rfl rfl _ _ a9.o yk rfl yE ?_);have k6:Blk (wc.setRow w.heap.size xi) w.heap.size 69 xi:=setRow_heap _ _ _ _ _ _ a9.o;have kb:Below w.heap.size w (wc.setRow w.heap.size xi):=zk2 S.o yL _;change bodyPost _ _ _ _ _ (wc.setRow w.heap.size xi)
    generalize wc.setRow w.heap.size xi=wz at k6 kb |-;exact mDb
  case first =>
   have b5:=zH (H0.o _ a2.o.drew);have k8:=H8.o.drew;have k9:=H9.o.drew;have hm:=b5.o.k
   dsimp only at hm
   have bk:=hm.sm 0 a;have bm:=hm.sm 0 b;have bn:=ziy (f 0 a) (f 0 b) bk bm;have A:=And.intro (k8.cell 0) (And.intro (k9.cell 0) (And.intro b5.o.j.cell (And.intro hm.x.cell (And.intro (hm.cell (r:=0) (i:=a) yo (by unfold zq;simpa using ae)) (hm.cell (r:=0) (i:=b) yo (by unfold zq;simpa using ag))))));have ak:=zH (And.intro k8 (And.intro k9 (And.intro H6.o.drew a2.o.drew)));clear k8 k9 hm;refine rgl 33 (fun(D:World)=>D.cell? (.a c8 0)=some (.i ia.op)/\D.cell? (.a c9 0)=some (.i ib.op)/\(∀ j,D.cell? (.a jb j)=#[.p C.pb,.p VF.fb,.p VP.sb,.p V.xb][j]?)/\(∀ j,D.cell? (.a V.xb j)=(.k VF.fb VP.sb V.g C.P:Array Value)[j]?)/\D.cell? (.a (V.g 0) a)=some (zA (f 0 a))/\D.cell? (.a (V.g 0) b)=some (zA (f 0 b))) ?_
   iterate 2(refine tK 0 rfl A ?_)
   refine rdy 2 rfl fun K E=>?_;go_simp;refine(zut ia.op _ be.op).mono ?_;rintro e w7 ⟨rfl,rfl⟩;refine E.o _ _ A (fun A=>?_);clear E K;cases hwa:zbq ia.op
   ·iterate 4(refine tK 3 rfl A ?_)
    refine rdy 7 rfl fun K E=>?_;go_simp;refine(zut ib.op _ bf.op).mono ?_;rintro e w7 ⟨rfl,rfl⟩;refine E.o _ _ A (fun A=>?_);clear E K;cases hwb:zbq ib.op
    ·iterate 3(refine tK 8 rfl A ?_)
     iterate 22(refine sK 11 rfl A ?_)
     refine lst rfl fun K E=>?_;go_simp;refine E _ _ ?_;clear E K A;go_wp2;go_meet;exact⟨true,rfl,by simp[hwa,hwb],ak.o⟩
    ·iterate 25(refine tK 8 rfl A ?_)
     refine lst rfl fun K E=>?_;go_simp;refine E _ _ ?_;clear E K A;go_wp2;go_meet;exact⟨((f 0 a&&&f 0 b:Nat):Int) != 0,rfl,by simp[hwb],ak.o⟩
   ·iterate 2(refine tK 3 rfl A ?_)
    iterate 4(refine sK 5 rfl A ?_)
    iterate 24(refine tK 9 rfl A ?_)
    refine lst rfl fun K E=>?_;go_simp;refine E _ _ ?_;clear E K A;go_wp2;go_meet;exact⟨((f 0 a&&&f 0 b:Nat):Int) != 0,rfl,by simp[hwa],ak.o⟩
 refine zfp 23 (fun(D:World)=>(∀ j,D.cell? (.a jb j)=#[.p C.pb,.p VF.fb,.p VP.sb,.p V.xb][j]?)/\(∀ i,D.cell? (.a C.pb i)=(.c C:Array Value)[i]?)/\(
  D.cell? (.a C.cg (a*14))=some (.i ia.op)/\D.cell? (.n C.cg a 1)=some (.i ia.place)/\D.cell? (.n C.cg a 2)=some (.i ia.fn)/\D.cell? (.n C.cg a 3)=some (.i ia.x)/\D.cell? (.n C.cg a 4)=some (.bool ia.y.c)/\D.cell? (.n C.cg a 5)=some (.i ia.y.n)/\D.cell? (.n C.cg a 6)=some (.bool ia.z.c)/\D.cell? (.n C.cg a 7)=some (.i ia.z.n)/\D.cell? (.n C.cg a 8)=some (.i ia.bin)/\D.cell? (.n C.cg a 9)=some (.i ia.var)/\D.cell? (.n C.cg a 10)=some (.i ia.site)/\D.cell? (.n C.cg a 11)=some (.i ia.call)/\D.cell? (.n C.cg a 12)=some (.slice aa ia.args.length ac)/\D.cell? (.n C.cg a 13)=some (.i ia.to)
  )/\(
  D.cell? (.a C.cg (b*14))=some (.i ib.op)/\D.cell? (.n C.cg b 1)=some (.i ib.place)/\D.cell? (.n C.cg b 2)=some (.i ib.fn)/\D.cell? (.n C.cg b 3)=some (.i ib.x)/\D.cell? (.n C.cg b 4)=some (.bool ib.y.c)/\D.cell? (.n C.cg b 5)=some (.i ib.y.n)/\D.cell? (.n C.cg b 6)=some (.bool ib.z.c)/\D.cell? (.n C.cg b 7)=some (.i ib.z.n)/\D.cell? (.n C.cg b 8)=some (.i ib.bin)/\D.cell? (.n C.cg b 9)=some (.i ib.var)/\D.cell? (.n C.cg b 10)=some (.i ib.site)/\D.cell? (.n C.cg b 11)=some (.i ib.call)/\D.cell? (.n C.cg b 12)=some (.slice Y ib.args.length Z)/\D.cell? (.n C.cg b 13)=some (.i ib.to)
  )) yk rfl rfl yk ?_
 simp only[yM,yY]
 iterate 20(refine tK 0 rfl A ?_)
 refine wpAnyH_ready (rs:=[20,21]) yk yy ?_;refine AllReadyH.cons rfl (fun K E=>?_) (AllReadyH.cons rfl (fun K E=>?_) AllReadyH.nil)
 ·go_simp;refine E.o _ _ (R.o _ ((yB.alloc yL _).drew)) (fun A=>?_);clear E K;refine rdy 21 rfl fun K E=>?_;go_simp;refine E.o _ _ (R.o _ ((yB.alloc yL _).alloc yy _).drew) (fun A=>?_);clear E K;refine rdy 22 rfl fun K E=>?_;go_simp;refine E.o _ _ (R.o _ ((yB.alloc yL _).alloc yy _).drew) (fun A=>?_);clear E K;refine lst rfl fun K E=>?_;go_simp;refine E _ _ ?_;clear E K A;have a7:Below w1.heap.size w1 ((w1.alloc (.k (.j ia (.slice aa ia.args.length ac)) 309)).alloc (.k (.j ib (.slice Y ib.args.length Z)) 309)).drew:=((yB.alloc yL _).alloc yy _).drew;go_wp2;go_meet;exact⟨w1.heap.size,(w1.heap.size+1),rfl,rfl,((Blk.newAt rfl).alloc _).drew,(Blk.newAt yy).drew,h6.below a7 h6.lt,O.trans (a7.mono O.size)⟩
 ·go_simp;refine E.o _ _ (R.o _ ((yB.alloc yL _).drew)) (fun A=>?_);clear E K;refine rdy 20 rfl fun K E=>?_;go_simp;refine E.o _ _ (R.o _ ((yB.alloc yL _).alloc yy _).drew) (fun A=>?_);clear E K;refine rdy 22 rfl fun K E=>?_;go_simp;refine E.o _ _ (R.o _ ((yB.alloc yL _).alloc yy _).drew) (fun A=>?_);clear E K;refine lst rfl fun K E=>?_;go_simp;refine E _ _ ?_;clear E K A;have a7:Below w1.heap.size w1 ((w1.alloc (.k (.j ib (.slice Y ib.args.length Z)) 309)).alloc (.k (.j ia (.slice aa ia.args.length ac)) 309)).drew:=((yB.alloc yL _).alloc yy _).drew;go_wp2;go_meet;exact⟨(w1.heap.size+1),w1.heap.size,rfl,rfl,(Blk.newAt yy).drew,((Blk.newAt rfl).alloc _).drew,h6.below a7 h6.lt,O.trans (a7.mono O.size)⟩
end Go.Proofs.YtkmcihhndgdhpaaGreat
