/- Parts of the walk. -/
import Derived.Test.YtkmcihhndgdhpaaGreatWD2
set_option maxRecDepth 100000
set_option maxHeartbeats 4000000
set_option linter.unusedSimpArgs false
set_option linter.unusedVariables false
open Go.ChangeMaps Go.Maps Go.RowKit Go.Proofs.Tryz
namespace Go.Proofs.YtkmcihhndgdhpaaGreat
variable {w:World}{C:AX}{b r q0 x q g mb:Nat}{M:Mc}{t:TypeId}{V:MV}{lab0:Lab}
theorem mIb {p:Prop}(h:p:=by
  go_wp2_with fail;refine HC.o.mono ?_;rintro e w1 ⟨r,mb,lab,V,rfl,hr,hg,hb,hs,ho,hl⟩;have FIN:=zH (show PlM C M w (.r (.p w1.heap.size)) (w1.alloc (.k #[.p r] 90))from⟨_,r,mb,lab,V,rfl,⟨Blk.newAt rfl,hr.alloc _⟩,hg.alloc _,hb.alloc hb.size _,hb.size,hs,hg.hi _ yL,ho,hl⟩);clear hr hg hb hs ho hl;go_wp2;go_ret;exact FIN.o):p:=h
theorem mNb {p:Prop}(h:p:=by
  go_wp2_with fail;refine HC.o.mono ?_;rintro e w1 ⟨mb,lab,V,rfl,hg,hb,hl⟩;have FIN:=zH (show RcM C M w (.r (.p w1.heap.size)) (w1.alloc (.k #[.p mb] 172))from⟨_,mb,lab,V,rfl,Blk.newAt rfl,hg.alloc _,hb.alloc hb.size _,hb.size,hg.hi _ yL,hl⟩);clear hg hb hl;go_wp2;go_ret;exact FIN.o):p:=h
theorem mTb {p:Prop}(h:p:=by
  go_wp2_with fail;refine HC.o.mono ?_;rintro e w1 ⟨v,rfl,hr,h0,hb⟩;obtain⟨va,vc,rfl⟩:=zZ hr;have FIN:=zH (show zad w l (.r (.slice va l.length vc)) w1 from⟨_,rfl,hr,h0,hb⟩);clear hr h0 hb;go_wp2;go_ret;exact FIN.o):p:=h
theorem mAc {p:Prop}(h:p:=by
  clear hm5 hg5 hz5 HC4 HR4 HM4;refine lst rfl fun K hK=>?_;go_simp;refine hK _ _ ?_;clear hK K hHeld hup;go_wp2;go_roundg (l1++l2).length
  case measure=>exact HLL.o
  case rel=>exact⟨l1++l2,_,_,_,rfl,REL.o⟩):p:=h
theorem MapE.made (w:World){κ ν: Type} [DecidableEq κ] (enc:κ -> Value) (ok:κ -> Prop) (encv:ν -> Value):MapE (w.alloc (.map #[] 0)) w.heap.size enc ok encv []:=(zG.made w enc ok encv).toE
theorem MapE.below {w':World}{κ ν: Type} [DecidableEq κ] {enc:κ -> Value} {ok:κ -> Prop} {encv:ν -> Value} {m:List (κ × ν)} {B:Nat} (h:MapE w b enc ok encv m) (hb:Below B w w') (hl:b<B):MapE w' b enc ok encv m:=h.qa (hb.block b hl)
theorem MapE.ne {κ ν: Type} [DecidableEq κ] {enc:κ -> Value} {ok:κ -> Prop} {encv:ν -> Value} {m:List (κ × ν)}  {cs:Array Value} (h:MapE w b enc ok encv m) (hg:Blk w g t cs):b≠g:=by
 obtain⟨A,h1,_⟩:=h;exact h1.qf hg
theorem MapE.vw {B e size n:Nat}{κ ν: Type} [DecidableEq κ] {enc:κ -> Value} {ok:κ -> Prop} {encv:ν -> Value} {m:List (κ × ν)} {xs:List Value} {v:Value} (h:MapE w b enc ok encv m) (hg:w.ownsRow B e size v n xs):v.ownBlock≠some b:=by
 obtain⟨H,⟨G,clock,h1,_⟩,_⟩:=h;rcases hg.2 with⟨rfl,_⟩ | ⟨E,A,D,rfl,_,hb,_⟩
 ·intro e;cases e
 ·intro e;injection e with e;rw[show E=b from e,h1]at hb;cases hb
theorem Blk.ne {a:Nat}{t':TypeId}{cs cs':Array Value}(h:Blk w a t cs)(k:Blk w b t' cs')(ht:t≠t'):a≠b:=by
 rintro rfl;unfold Blk at h k;rw[h]at k;injection k with k;injection k with _ k _;exact ht k
theorem MSt.fresh {s tb tcap fb cb:Nat}{lv:Value}{F:Fr}(hon:C.on w)(h0:C.w0.heap.size<=s)
  (hm:Blk w (s+5) 246 #[.p C.pb,.s tb 1 tcap,.m s,.i 0,.m (s+1),.m (s+2),.m (s+3),.m (s+4),.i 0])
  (h1:MapE w s spV SpOk vlV []) (h2:zb w (s+1) []) (h3:MapE w (s+2) intV (fun n=>(Lit.int .i64 n).wf=true) mapV ([]:List (Int×Nat))) (h4:MapE w (s+3) spV SpOk mapV ([]:List (Sp×Nat))) (h5:MapE w (s+4) spV SpOk intV [])
  (ht:w.ownsRow (s+6) 254 3 (.s tb 1 tcap) 1 [.s fb 1 1,.bool false,.m cb])
  (hf:Blk w fb 250 #[.i F.at_,lv,.i F.back]) (hfl:s+6<=fb)
  (hl:w.ownsRow (s+6) 93 1 lv F.qc.length (F.qc.map vlV)) (hc:zb w cb [(0,1)]) (hcl:s+6<=cb) :
  ∃ lab V,MSt C lab (s+5) { qd:=[{ qb:=[F],ended:=false,clock:=[(0,1)] }],held:=[],qt:=0,owner:=[],qq:=[],qp:=[],races:=[],steps:=0 } V w/\∀ k,k<s->lab k=.out:=by
 have Q:s+6<=tb/\tb<w.heap.size:=ht.lt tb rfl;have ml:=hm.lt;have fl:=hf.lt;have cl:=hc.lt;have E:cb≠tb:=fun e=>hc.vw ht (by rw[e];rfl);have D:cb≠fb:=hc.ne hf;have G:fb≠tb:=fun e=>xy ht hf yd tb rfl e.symm;let lab:Lab:=fun k=>if k=s then .held else if k=s+1 then .owner else if k=s+2 then .clocks else if k=s+3 then .touched else if k=s+4 then .races else if k=s+5 then .m else
  if k=tb then .ths else if k=fb then .frs 0 else if k=cb then .clk 0 else if lv.ownBlock=some k then .locs 0 0 else .out
 have I:∀ k,lv.ownBlock=some k->lab k=.locs 0 0:=fun k e=>by
  have:=(hl.lt k e).1;have L:k≠tb:=ztd hl ht yd e rfl;have N:k≠fb:=xy hl hf yd k e;have O:k≠cb:=fun K=>hc.vw hl (by rw[e,K])
  dsimp only[lab]
  rw[yg yo,yg yo,yg yo,yg yo,yg yo,yg yo,yg L,yg N,yg O,yj e]
 have H:∀ k,w.heap.size<=k->lab k=.out:=fun k J=>by
  dsimp only[lab]
  rw[yg yo,yg yo,yg yo,yg yo,yg yo,yg yo,yg yo,yg yo,yg yo,yg (fun e=>by have:=(hl.lt k e).2;omega)]
 have A:∀ k,k<s->lab k=.out:=fun k J=>by
  dsimp only[lab]
  rw[yg yo,yg yo,yg yo,yg yo,yg yo,yg yo,yg yo,yg yo,yg yo,yg (fun e=>by have:=(hl.lt k e).1;omega)]
 refine⟨lab,⟨tb,tcap,[⟨.s fb 1 1,[lv],cb⟩],s,s+1,s+2,s+3,s+4,[],[]⟩,⟨hon,⟨hm,?_,rfl,zm ht yZ,?_,?_,h1,?_,h2,?_,h3,?_,?_,?_,h4,?_,?_,?_,h5,?_⟩,fun k J=>A k yo,H⟩,A⟩
 ·dsimp only[lab]
  rw[yg yo,yg yo,yg yo,yg yo,yg yo,yj rfl]
 ·dsimp only[lab]
  rw[yg yo,yg yo,yg yo,yg yo,yg yo,yg yo,yj rfl]
 ·intro t h v a b;cases t with
  | succ t=>simp at a
  | zero =>
   simp at a b;subst a b;refine⟨rfl,⟨rfl,.inr ⟨fb,1,_,rfl,yD _,hf,yr _,by decide,rfl,rfl⟩⟩,fun k e=>?_,fun i f u a b=>?_,hc,?_⟩
   ·injection e with e;subst e
    dsimp only[lab]
    rw[yg yo,yg yo,yg yo,yg yo,yg yo,yg yo,yg G,yj rfl]
   ·cases i with
    | succ i=>simp at a
    | zero =>
     simp at a b;subst a b;exact⟨zm hl yZ,I⟩
   ·dsimp only[lab]
    rw[yg yo,yg yo,yg yo,yg yo,yg yo,yg yo,yg E,yg D,yj rfl]
 ·exact yj rfl
 ·dsimp only[lab]
  rw[yg yo,yj rfl]
 ·dsimp only[lab]
  rw[yg yo,yg yo,yj rfl]
 ·intro x b h;cases h
 ·intro x h;rfl
 ·dsimp only[lab]
  rw[yg yo,yg yo,yg yo,yj rfl]
 ·intro x b h;cases h
 ·intro x h;rfl
 ·dsimp only[lab]
  rw[yg yo,yg yo,yg yo,yg yo,yj rfl]
structure zg6 (C:AX)(s:Nat)(w W:World):Prop where
 hm:Blk W (s+5) 246 #[.p C.pb,.z,.m s,.i 0,.m (s+1),.m (s+2),.m (s+3),.m (s+4),.i 0]
 h1:MapE W s spV SpOk vlV []
 h2:zb W (s+1) []
 h3:MapE W (s+2) intV (fun n=>(Lit.int .i64 n).wf=true) mapV ([]:List (Int×Nat))
 h4:MapE W (s+3) spV SpOk mapV ([]:List (Sp×Nat))
 h5:MapE W (s+4) spV SpOk intV []
 b:Below s w W
theorem zg6.on {s:Nat}{W W':World}(h:zg6 C s w W)(hb:Below W.heap.size W W')(hs:s<=W.heap.size):zg6 C s w W' :=
 ⟨h.hm.below hb h.hm.lt,h.h1.below hb h.h1.lt,h.h2.below hb h.h2.lt,h.h3.below hb h.h3.lt,h.h4.below hb h.h4.lt,h.h5.below hb h.h5.lt,h.b.trans (hb.mono hs)⟩
theorem zg6.new (C:AX)(w:World):zg6 C w.heap.size w ((((((w.alloc (.map #[] 0)).alloc (.map #[] 0)).alloc (.map #[] 0)).alloc (.map #[] 0)).alloc (.map #[] 0)).alloc (.k #[.p C.pb,.z,.m w.heap.size,.i 0,.m (w.heap.size+1),.m (w.heap.size+1+1),.m (w.heap.size+1+1+1),.m (w.heap.size+1+1+1+1),.i 0] 246)):=by
 have Y:=MapE.made w spV SpOk vlV;have al:∀ (W:World) (o:Obj),Below W.heap.size W (W.alloc o):=fun W o=>yB.alloc yL o;have E:∀ (W:World) (o:Obj),(W.alloc o).heap.size=W.heap.size+1:=fun W o=>by simp
 have U:=al w (.map #[] 0);have H:=E w (.map #[] 0);generalize w.alloc (.map #[] 0)=w1 at Y U H |-;have L:zb _ _ []:=MapE.made w1 intV _ intV;have K:=al w1 (.map #[] 0);have J:=E w1 (.map #[] 0);generalize w1.alloc (.map #[] 0)=w2 at L K J |-;have N:=MapE.made w2 intV (fun n=>(Lit.int .i64 n).wf=true) mapV;have I:=al w2 (.map #[] 0);have S:=E w2 (.map #[] 0);generalize w2.alloc (.map #[] 0)=w3 at N I S |-;have O:=MapE.made w3 spV SpOk mapV;have G:=al w3 (.map #[] 0);have Z:=E w3 (.map #[] 0);generalize w3.alloc (.map #[] 0)=w4 at O G Z |-;have Q:=MapE.made w4 spV SpOk intV;have A:=al w4 (.map #[] 0);have z5:=E w4 (.map #[] 0);generalize w4.alloc (.map #[] 0)=w5 at Q A z5 |-;generalize R:(#[.p C.pb,.z,.m w.heap.size,.i 0,.m (w.heap.size+1),.m (w.heap.size+1+1),.m (w.heap.size+1+1+1),.m (w.heap.size+1+1+1+1),.i 0]:Array Value)=cs;have D:=al w5 (.cells cs 246);rw[H]at L;rw[J,H]at N;rw[S,J,H]at O;rw[Z,S,J,H]at Q;refine⟨?_,?_,?_,?_,?_,?_,?_⟩
 ·rw[show w.heap.size+5=w5.heap.size by omega,R];exact Blk.newAt rfl
 ·exact((((Y.below K yo).below I yo).below G yo).below A yo).below D yo
 ·exact(((MapE.below L I yo).below G yo).below A yo).below D yo
 ·exact((N.below G yo).below A yo).below D yo
 ·exact(O.below A yo).below D yo
 ·exact Q.below D yo
 ·exact((((U.trans (K.mono yo)).trans (I.mono yo)).trans (G.mono yo)).trans (A.mono yo)).trans (D.mono yo)
structure zjb (w3:World)(L:Nat)(fr:Int)(b0 b1 b2 b3 b4 b5:Bool)(x0 x1 x2 x3 x4:Value)(W:World):Prop where
 b:Below w3.heap.size w3 W
 l:b0=true->∃ la lc,x0=.slice la L lc/\W.ownsRow w3.heap.size 93 1 x0 L ((zp L).map vlV)
 g:b1=true->x1=.agg #[.i fr,x0,.i (-1)]
 f:b2=true->∃ fb,x2=.s fb 1 1/\Blk W fb 250 #[.i fr,x0,.i (-1)]/\w3.heap.size<=fb
 m:b3=true->∃ kb,x3=.m kb/\zb W kb (if b4 then [(0,1)]else [])/\w3.heap.size<=kb
 v:b5=true->x4=x3
theorem zjb.jg {w3 W W':World}{L:Nat}{fr:Int}{b0 b1 b2 b3 b4 b5:Bool}{x0 x1 x2 x3 x4:Value}(h:zjb w3 L fr b0 b1 b2 b3 b4 b5 x0 x1 x2 x3 x4 W)(hb:Below W.heap.size W W'):zjb w3 L fr b0 b1 b2 b3 b4 b5 x0 x1 x2 x3 x4 W' :=
 ⟨h.b.trans (hb.mono h.b.size),fun e=>by obtain⟨la,lc,a,r⟩:=h.l e;exact⟨la,lc,a,zn r fun k e=>hb.block k (r.lt k e).2⟩,h.g,
  fun e=>by obtain⟨fb,a,r,q⟩:=h.f e;exact⟨fb,a,r.below hb r.lt,q⟩,fun e=>by obtain⟨kb,a,r,q⟩:=h.m e;exact⟨kb,a,r.below hb r.lt,q⟩,h.v⟩
def zej (b0 b1 b2 b3 b4 b5:Bool):Bool:=(!b1||b0)&&(!b2||b1)&&(!b4||b3)&&(!b5||b4)
def zpa (C:AX)(w:World)(e:Ending)(w':World):Prop :=
 ∃ mb lab V,e=.r (.p mb)/\MSt C lab mb (zef C.P) V w'/\w.heap.size<=mb/\Below w.heap.size w w'/\∀ k,k<w.heap.size->lab k=.out
theorem z0p (HC:AXok C)(E:zu C.P)(w:World)(hon:C.on w):Calls prog 72 #[.p C.pb] w (zpa C w):=by
 have bn:=@run_makeMap prog;have a8:=zH hon;have ao:=zH E;clear hon E;go_enter func72,ntmps72;go_wp2_with fail;clear bn;refine xh (fun W=>zg6 C w.heap.size w W) (zg6.new C w) ?_;intro G H1;have a9:=zH (show C.w0.heap.size<=w.heap.size from a8.o.size);have HW:=zH (show w.heap.size+5<G.heap.size from H1.hm.lt);have a4:=zH (show C.on G from a8.o.trans (H1.b.mono a8.o.size));have HB:=zH H1;obtain⟨s,hs⟩:∃ s,s=w.heap.size:=⟨_,rfl⟩;have hp:=HC.vt a4.o;have p3:G.cell? (.a C.pb 3)=some (.s C.fg C.P.fs.length C.fcap):=hp 3;have p8:G.cell? (.a C.pb 8)=some (.i C.P.main):=hp 8;obtain⟨gf,ae⟩:∃ gf,C.P.fs[C.P.main]?=some gf:=⟨_,yc HC.wf.main⟩;have HG:=zH ae;have HL:=zH (ao.o.fs _ gf ae).1;have U:=fun j hj=>HC.jd a4.o ae j hj;have u0:G.cell? (.a C.fg (C.P.main*5))=some (.string gf.name):=U 0 yo;have u1:G.cell? (.a C.fg (C.P.main*5+1))=some (.i gf.params):=U 1 yo;have u2:G.cell? (.a C.fg (C.P.main*5+2))=some (.i gf.locals):=U 2 yo;have u3:G.cell? (.a C.fg (C.P.main*5+3))=some (.i gf.from_):=U 3 yo;have u4:G.cell? (.a C.fg (C.P.main*5+4))=some (.i gf.to):=U 4 yo;have ad:C.P.main<C.P.fs.length:=HC.wf.main;have br:C.pb<G.heap.size:=zaq p3;have bh:C.fg<G.heap.size:=zaq u0;clear U hp H1 ae;simp only[<- hs,yc4,Nat.reduceAdd];rw[<- hs]at HB HW a9;go_region;have b7:Blk (G.alloc (.k #[.string gf.name,.i gf.params,.i gf.locals,.i gf.from_,.i gf.to] 228)).drew G.heap.size 228 #[.string gf.name,.i gf.params,.i gf.locals,.i gf.from_,.i gf.to]:=Blk.newAt rfl;have ac:Below G.heap.size G (G.alloc (.k #[.string gf.name,.i gf.params,.i gf.locals,.i gf.from_,.i gf.to] 228)).drew:=(yB.alloc yL _).drew;change Exit.then _ _ _ _ ((G.alloc (.k #[.string gf.name,.i gf.params,.i gf.locals,.i gf.from_,.i gf.to] 228)).drew)
 generalize (G.alloc (.k #[.string gf.name,.i gf.params,.i gf.locals,.i gf.from_,.i gf.to] 228)).drew=w2 at b7 ac |-;clear p3 p8 u0 u1 u2 u3 u4 ad br bh;have b8:=zH (HB.o.on ac (yq HW.o));have ab:=zH b7;have ax:=zH (show G.heap.size<=w2.heap.size from ac.size);have HS:=zH hs;clear b7 ac HB a4 hs;generalize G.heap.size=ub at ab HW ax |-;go_upto_region 3 with fail
 refine rgm 20 (fun(W':World)=>W'.cell? (.a (s+5) 1)=some (.z)/\∀ j,W'.cell? (.a ub j)=#[.string gf.name,.i gf.params,.i gf.locals,.i gf.from_,.i gf.to][j]?) ?_;have a1:=zH (b8.o.on ((yn _ w2).drew) (yw HW.o ax.o));have R:=zH (ab.o.drew);have a6:=zH (show ub<w2.drew.heap.size from ab.o.lt);clear b8 ab ax;generalize w2.drew=w3 at a1 R a6 |-;have A:=And.intro (show w3.cell? (.a (s+5) 1)=some (.z)from a1.o.hm.cell 1) R.o.cell
 iterate 9(refine tK 0 rfl A ?_)
 refine zul (k0:=9) (k1:=10) (k2:=11) (k3:=12) (k4:=13) (k5:=14) zej (fun a0 b0 b1 b2 b3 b4 b5 a W=>∃ x0 x1 Z x3 Q,a=((((a0.put (some 32) x0).put (some 33) x1).put (some 34) Z).put (some 35) x3).put (some 36) Q/\zjb w3 gf.locals gf.from_ b0 b1 b2 b3 b4 b5 x0 x1 Z x3 Q W) rfl rfl rfl rfl rfl rfl yk ?hS ?h0 ?r ?s0 ?s1 ?s2 ?s3 ?s4 ?s5
 case hS =>
  rintro b0 b1 b2 b3 b4 b5 a W ⟨x0,x1,Z,x3,Q,_,h⟩;exact⟨(a1.o.hm.below h.b a1.o.hm.lt).cell 1,(R.o.below h.b R.o.lt).cell⟩
 case h0=>exact⟨undef,undef,undef,undef,undef,rfl,yn _ _,nofun,nofun,nofun,nofun,nofun⟩
 case s0 =>
  rintro b1 b2 b3 b4 b5 hv _ a W ⟨x0,x1,Z,x3,Q,rfl,h⟩ K E;obtain rfl:b1=false:=by cases b1 <;> simp_all [zej]
  obtain rfl:b2=false:=by cases b2 <;> simp_all [zej]
  have H:=zH h;simp only[Act.put,yK,yU,yR];clear h A;go_simp;refine(zn4 W gf.locals HL.o).mono ?_;rintro e w5 ⟨v,rfl,hr,hb⟩;rw[show(zp gf.locals).length=gf.locals by simp[zp]]at hr;obtain⟨la,lc,rfl⟩:=zZ hr;have h5:=H.o.jg hb;refine E.o _ _ ⟨_,x1,Z,x3,Q,rfl,h5.b,fun _=>⟨la,lc,rfl,zm hr H.o.b.size⟩,nofun,nofun,h5.m,h5.v⟩
 case s1 =>
  rintro b0 b2 b3 b4 b5 hv af a W ⟨x0,x1,Z,x3,Q,rfl,h⟩ K E;obtain rfl:b0=true:=by cases b0 <;> simp_all [zej]
  obtain rfl:b2=false:=by cases b2 <;> simp_all [zej]
  obtain⟨la,lc,rfl,hr⟩:=h.l rfl;have H:=zH h;simp only[Act.put,yK,yU,yR];clear h A hr;go_simp;refine E.o _ _ ⟨_,_,Z,x3,Q,rfl,H.o.b,H.o.l,fun _=>rfl,nofun,H.o.m,H.o.v⟩
 case s2 =>
  rintro b0 b1 b3 b4 b5 hv af a W ⟨x0,x1,Z,x3,Q,rfl,h⟩ K E;obtain rfl:b1=true:=by cases b1 <;> simp_all [zej]
  obtain rfl:b0=true:=by cases b0 <;> simp_all [zej]
  obtain⟨la,lc,rfl,hr⟩:=h.l rfl;obtain rfl:=h.g rfl;have H:=zH h;simp only[Act.put,yK,yU,yR];clear h A hr;go_simp;have h5:=H.o.jg ((yn W.heap.size W).alloc yL (.k #[.i gf.from_,.slice la gf.locals lc,.i (-1)] 250));refine E.o _ _ ⟨_,_,_,x3,Q,rfl,h5.b,h5.l,fun _=>rfl,fun _=>⟨_,rfl,Blk.newAt rfl,H.o.b.size⟩,h5.m,h5.v⟩
 case s3 =>
  rintro b0 b1 b2 b4 b5 hv af a W ⟨x0,x1,Z,x3,Q,rfl,h⟩ K E;obtain rfl:b4=false:=by cases b4 <;> simp_all [zej]
  obtain rfl:b5=false:=by cases b5 <;> simp_all [zej]
  have H:=zH h;have bn:=@run_makeMap prog;simp only[Act.put,yK,yU,yR];clear h A;go_simp;have h5:=H.o.jg ((yn W.heap.size W).alloc yL (.map #[] 0));refine E.o _ _ ⟨_,_,_,_,Q,rfl,h5.b,h5.l,h5.g,h5.f,fun _=>⟨_,rfl,MapE.made _ _ _ _,H.o.b.size⟩,nofun⟩
 case s4 =>
  rintro b0 b1 b2 b3 b5 hv af a W ⟨x0,x1,Z,x3,Q,rfl,h⟩ K E;obtain rfl:b3=true:=by cases b3 <;> simp_all [zej]
  obtain⟨kb,rfl,L,Y⟩:=h.m rfl;obtain⟨w7,c0,bm,O,bz⟩:=L.update zdu underlying252 (show(Lit.int .i64 (0:Int)).wf=true by decide) (1:Int);have H:=zH h;have ah:=zH (show zjb w3 gf.locals gf.from_ b0 b1 b2 true true b5 x0 x1 Z (.m kb) Q w7 from⟨h.b.grown O h.b.size (fun q e=>by injection e with e;rw[<- e];exact Y),fun e=>by
   obtain⟨la,lc,a,r⟩:=h.l e;exact⟨la,lc,a,zn r fun k e=>O.block k (r.lt k e).2 (fun e2=>L.vw r (by rw[e];exact e2))⟩,h.g,fun e=>by
   obtain⟨fb,a,r,q⟩:=h.f e;exact⟨fb,a,r.grown O (fun e2=>by injection e2 with e2;exact L.ne r e2.symm),q⟩,fun _=>⟨kb,rfl,bm,Y⟩,h.v⟩)
  simp only[Act.put,yK,yU,yR];clear h A L bm O bz;go_simp;refine E.o _ _ ⟨_,_,_,_,_,rfl,ah.o⟩
 case s5 =>
  rintro b0 b1 b2 b3 b4 hv af a W ⟨x0,x1,Z,x3,Q,rfl,h⟩ K E;obtain rfl:b4=true:=by cases b4 <;> simp_all [zej]
  obtain rfl:b3=true:=by cases b3 <;> simp_all [zej]
  obtain⟨kb,rfl,L,Y⟩:=h.m rfl;have H:=zH h;simp only[Act.put,yK,yU,yR];clear h A L;go_simp;refine E.o _ _ ⟨_,_,_,_,_,rfl,H.o.b,H.o.l,H.o.g,H.o.f,H.o.m,fun _=>rfl⟩
 case r =>
  rintro a W ⟨x0,x1,Z,x3,Q,rfl,h⟩;obtain⟨la,lc,rfl,hl⟩:=h.l rfl;obtain rfl:=h.g rfl;obtain⟨fb,rfl,hf,ad⟩:=h.f rfl;obtain⟨kb,rfl,L,Y⟩:=h.m rfl;obtain rfl:=h.v rfl;have ai:=zH (a1.o.on h.b (yw HW.o a6.o));have a5:=zH (R.o.below h.b R.o.lt);have a7:=zH (And.intro (ya (by have:=HW.o;have:=a6.o;omega:s+6<=w3.heap.size) ad) (ya (by have:=HW.o;have:=a6.o;omega:s+6<=w3.heap.size) Y));have aq:=zH (zm hl (by have:=HW.o;have:=a6.o;omega:s+6<=w3.heap.size));have HF:=zH hf;have am:=zH (show zb W kb [(0,1)]from L);simp only[Act.put,yK,yU,yR,set6];clear h hl hf L A ad Y;have A:=And.intro (show W.cell? (.a (s+5) 1)=some (.z)from ai.o.hm.cell 1) a5.o.cell;refine tK 15 rfl A ?_;refine rdy 16 rfl fun K E=>?_;go_simp;have J:Below W.heap.size W (W.alloc (.k #[.s fb 1 1,.bool false,.m kb] 254)):=yB.alloc yL _;have az:Blk (W.alloc (.k #[.s fb 1 1,.bool false,.m kb] 254)) W.heap.size 254 #[.s fb 1 1,.bool false,.m kb]:=Blk.newAt rfl;have HZ:=zH (show s+6<=W.heap.size by have:=a5.o.lt;have:=HW.o;omega);clear A;generalize W.alloc (.k #[.s fb 1 1,.bool false,.m kb] 254)=w5 at J az |-;have aj:=zH (ai.o.on J (yq HZ.o));have aa:=zH (a5.o.below J a5.o.lt);have a2:=zH (zn aq.o fun k e=>J.block k (aq.o.lt k e).2);have ak:=zH (HF.o.below J HF.o.lt);have an:=zH (show zb w5 kb [(0,1)]from am.o.below J am.o.lt);have ay:=zH (show s+6<=w5.heap.size from ya HZ.o J.size);have au:=zH az;clear J az ai a5 aq HF am HZ;generalize W.heap.size=nb at au |-;refine E.o _ _ ⟨aj.o.hm.cell 1,aa.o.cell⟩ (fun A=>?_);clear E K;refine rdy 17 rfl fun K E=>?_;refine zan zoq rfl _ _ rfl (s+6) (.z) 0 [] nb _ _ yN au.o rfl rfl rfl yE yo ay.o ?_;intro g cap w6 ag hg bo;have S:Below w5.heap.size w5 w6:=yB.grown hg yL (fun k e=>by cases e);have D:=zH (aj.o.on S (yq ay.o));have bf:=zH (aa.o.below S aa.o.lt);have a3:=zH (zn a2.o fun k e=>S.block k (a2.o.lt k e).2);have b9:=zH (ak.o.below S ak.o.lt);have bd:=zH (show zb w6 kb [(0,1)]from an.o.below S an.o.lt);have aw:=zH (show w6.ownsRow (s+6) 254 3 (.s g 1 cap) 1 [.s fb 1 1,.bool false,.m kb]from ag);clear ag hg bo S A aj aa a2 ak an au ay;refine E.o _ _ ⟨D.o.hm.cell 1,bf.o.cell⟩ (fun A=>?_);clear E K
  iterate 2(refine tK 18 rfl A ?_)
  have bp:=D.o.hm.frozen;refine lst rfl fun K E=>?_;go_simp;refine E _ _ ?_;clear E K A bp;have bu:∃ lab V,MSt C lab (s+5) { qd:=[{ qb:=[{ at_:=gf.from_,qc:=zp gf.locals,back:=-1 }],ended:=false,clock:=[(0,1)] }],held:=[],qt:=0,owner:=[],qq:=[],qp:=[],races:=[],steps:=0 } V (w6.setCell (.a (s+5) 1) (.s g 1 cap))/\∀ k,k<s->lab k=.out:=by
   have hm:=(D.o.hm.qe 1 (.s g 1 cap)).cast (cs':=#[.p C.pb,.s g 1 cap,.m s,.i 0,.m (s+1),.m (s+2),.m (s+3),.m (s+4),.i 0]) yy;have I:∀ k,k≠s+5->(w6.setCell (.a (s+5) 1) (.s g 1 cap)).heap[k]? = w6.heap[k]? := fun k L=>yt _ _ _ _ L;refine MSt.fresh (F:={ at_:=gf.from_,qc:=zp gf.locals,back:=-1 }) (fb:=fb) (cb:=kb) (lv:=.slice la gf.locals lc) ?_ a9.o hm (D.o.h1.qa (I _ yo)) (MapE.qa D.o.h2 (I _ yo)) (D.o.h3.qa (I _ yo)) (D.o.h4.qa (I _ yo)) (D.o.h5.qa (I _ yo)) ?_ ?_ a7.o.1 ?_ ?_ a7.o.2
   ·exact(a8.o.trans (D.o.b.mono a9.o)).setCell (by have:=a9.o;show _<=s+5;omega) _
   ·exact zn aw.o fun k e=>I k (yq ((aw.o.lt k e).1))
   ·exact(I fb (yq a7.o.1)).trans b9.o
   ·have e:(zp gf.locals).length=gf.locals:=by simp[zp]
    show World.ownsRow _ (s+6) _ 1 _ (zp gf.locals).length ((zp gf.locals).map vlV);rw[e];exact zn a3.o fun k e=>I k (yq ((a3.o.lt k e).1))
   ·exact MapE.qa bd.o (I kb (yq a7.o.2))
  have bg:Below s w (w6.setCell (.a (s+5) 1) (.s g 1 cap)):=D.o.b.setCell (by show s<=s+5;omega) _;obtain⟨lab,V,O,bk⟩:=bu;have bb:=zH O;have ap:=zH bk;have N:=zH bg;clear O bk bg D bf a3 b9 bd aw;generalize w6.setCell (.a (s+5) 1) (.s g 1 cap)=w7 at bb N |-;have bi:=ao.o.fs _ gf HG.o;have be:=zH (zoi C HC ao.o.s lab (s+5) _ V 0 { qb:=[{ at_:=gf.from_,qc:=zp gf.locals,back:=-1 }],ended:=false,clock:=[(0,1)] } { at_:=gf.from_,qc:=zp gf.locals,back:=-1 } w7 bb.o rfl rfl (by obtain⟨_,i,hi,_⟩:=bi;exact(yh.1 hi).1));clear bi;go_wp2_with fail;refine be.o.mono ?_;rintro x w8 ⟨rfl,bj,b6⟩;have ah:=zH (show zpa C w (.r (.p (s+5))) w8 from by
   refine⟨s+5,lab,V,rfl,?_,by rw[<- HS.o];omega,?_,by rw[<- HS.o];exact ap.o⟩
   ·have e:zbo C.P { qd:=[{ qb:=[{ at_:=gf.from_,qc:=zp gf.locals,back:=-1 }],ended:=false,clock:=[(0,1)] }],held:=[],qt:=0,owner:=[],qq:=[],qp:=[],races:=[],steps:=0 } 0=zef C.P:=by
     unfold zef;rw[HG.o];rfl
    rw[<- e];exact bj
   ·rw[<- HS.o];have ho:=b6 0;have bq:=b6 1;refine⟨ho.os.trans N.o.os,ho.tape.trans N.o.tape,ho.output.trans N.o.output,ya N.o.size ho.size,fun k L=>?_⟩;have h1:k<w7.heap.size:=yi L (ya (Nat.le_of_eq HS.o) N.o.size);refine Eq.trans ?_ (N.o.block k L);by_cases h0:k=0
    ·exact bq.block k h1 (ap.o k L) yo
    ·exact ho.block k h1 (ap.o k L) h0)
  clear bj b6 be;go_wp2;go_ret;exact ah.o
section
def ofT (n:Nat)(r:Rl):Prop:=r=.frs n\/(∃ j,r=.locs n j)\/r=.clk n
structure JVm where
 tv:Value
 tl:List TV
 hb:Nat
 ob:Nat
 kb:Nat
 ub:Nat
 rb:Nat
structure MJ (w:World)(lab:Lab)(mb:Nat)(C:AX)(M:Mc)(i:Nat)(J:JVm):Prop where
 m:Blk w mb 246 #[.p C.pb,J.tv,.m J.hb,.i M.qt,.m J.ob,.m J.kb,.m J.ub,.m J.rb,.i M.steps]
 ml:lab mb=.m
 n:J.tl.length=i
 il:i<=M.qd.length
 r:w.ownsRow 0 254 3 J.tv i (zcg (M.qd.take i) J.tl)
 rl:∀ k,J.tv.ownBlock=some k->lab k=.ths
 t:∀ (t:Nat) h v,M.qd[t]?=some h->J.tl[t]?=some v->ThIs w lab t h v
 h:MapE w J.hb spV SpOk vlV M.held
 hl:lab J.hb=.held
 o:zb w J.ob M.owner
 ol:lab J.ob=.owner
 k:MapE w J.kb intV (fun n=>(Lit.int .i64 n).wf=true) mapV ([]:List (Int×Nat))
 kl:lab J.kb=.clocks
 u:MapE w J.ub spV SpOk mapV ([]:List (Sp×Nat))
 ul:lab J.ub=.touched
 a:MapE w J.rb spV SpOk intV M.races
 al:lab J.rb=.races
structure Cp (C:AX)(M:Mc)(w:World)(lab:Lab)(mb i:Nat)(J:JVm)(W:World):Prop where
 b:Below w.heap.size w W
 g:MJ W lab mb C M i J
 lo:∀ k,k<w.heap.size->lab k=.out
 hi:∀ k,W.heap.size<=k->lab k=.out
section
variable {C:AX} {M:Mc} {w W W' W2:World} {lab lab':Lab} {mb i:Nat} {J:JVm} {h:Th} {v:TV}
theorem MJ.vo (g:MJ W lab mb C M i J)(hs:Same lab (fun r=>r≠.out/\¬ofT i r) W W'):MJ W' lab mb C M i J:=by
 have A:∀ {k:Nat} {r:Rl},lab k=r->r≠.out->(∀ j,r≠.frs j)->(∀ a b,r≠.locs a b)->(∀ j,r≠.clk j)->W'.heap[k]? = W.heap[k]? := fun D h1 h2 h3 h4=>hs _ (by
  rw[D];exact⟨h1,fun h=>by
   rcases h with h | ⟨j,h⟩ | h
   ·exact h2 _ h
   ·exact h3 _ _ h
   ·exact h4 _ h⟩)
 exact⟨(A g.ml yy yy yy yy).trans g.m,g.ml,g.n,g.il,xx g.r fun k e=>A (g.rl k e) yy yy yy yy,g.rl,
  fun t h v a b=>by
   have E:t<i:=by rw[<- g.n];exact(yh.1 b).1
   refine(g.t t h v a b).vo hs ⟨by simp,fun h=>?_⟩ (fun j=>⟨by simp,fun h=>?_⟩) ⟨by simp,fun h=>?_⟩
   all_goals
    rcases h with h | ⟨j,h⟩ | h
    all_goals first
     | (injection h with h1;omega)
     | (injection h with h1 _;omega)
     | (cases h),
  g.h.qa (A g.hl yy yy yy yy),g.hl,g.o.qa (A g.ol yy yy yy yy),g.ol,g.k.qa (A g.kl yy yy yy yy),g.kl,
  g.u.qa (A g.ul yy yy yy yy),g.ul,g.a.qa (A g.al yy yy yy yy),g.al⟩
theorem MJ.relab (g:MJ W lab mb C M i J)(hl:∀ k,lab k≠.out->lab' k=lab k):MJ W lab' mb C M i J :=
 ⟨g.m,(hl _ (by rw[g.ml];simp)).trans g.ml,g.n,g.il,g.r,fun k e=>(hl _ (by rw[g.rl k e];simp)).trans (g.rl k e),fun t h v a b=>(g.t t h v a b).vq hl,g.h,(hl _ (by rw[g.hl];simp)).trans g.hl,g.o,(hl _ (by rw[g.ol];simp)).trans g.ol,
  g.k,(hl _ (by rw[g.kl];simp)).trans g.kl,g.u,(hl _ (by rw[g.ul];simp)).trans g.ul,g.a,(hl _ (by rw[g.al];simp)).trans g.al⟩
theorem Cp.own (c:Cp C M w lab mb i J W){k:Nat}(hk:lab k≠.out):w.heap.size<=k/\k<W.heap.size:=by
 refine⟨?_,?_⟩
 ·rcases yF k w.heap.size with h | h
  ·exact absurd (c.lo k h) hk
  ·exact h
 ·rcases yF k W.heap.size with h | h
  ·exact h
  ·exact absurd (c.hi k h) hk
theorem Cp.below (c:Cp C M w lab mb i J W)(hb:Below W.heap.size W W'):Cp C M w lab mb i J W' :=
 ⟨c.b.trans (hb.mono c.b.size),c.g.vo fun k A=>hb.block k (c.own A.1).2,c.lo,fun k A=>c.hi k (ya hb.size A)⟩
theorem Cp.qi (c:Cp C M w lab mb i J W){p:Addr}(A:lab p.block=.out\/ofT i (lab p.block))(hs:w.heap.size<=p.block)(u:Value):Cp C M w lab mb i J (W.setCell p u) :=
 ⟨c.b.setCell hs u,c.g.vo fun k D=>yt W p u k (by rintro rfl;rcases A with A | A;exact D.1 A;exact D.2 A),c.lo,fun k D=>c.hi k (by simpa [World.setCell] using D)⟩
theorem Cp.grown {row:Option Nat}(c:Cp C M w lab mb i J W)(hg:W.grownBy W' row)(hr:∀ k,row=some k->w.heap.size<=k/\(lab k=.out\/ofT i (lab k))):Cp C M w lab mb i J W' :=
 ⟨c.b.grown hg c.b.size (fun k e=>(hr k e).1),c.g.vo fun k A=>hg.block k (c.own A.1).2 (fun e=>by
  rcases(hr k e.symm).2 with h | h
  ·exact A.1 h
  ·exact A.2 h),c.lo,fun k A=>c.hi k (ya hg.size A)⟩
theorem Cp.relab (c:Cp C M w lab mb i J W)(hl:∀ k,lab k≠.out->lab' k=lab k)(lo:∀ k,k<w.heap.size->lab' k=.out)(hi:∀ k,W.heap.size<=k->lab' k=.out):Cp C M w lab' mb i J W :=
 ⟨c.b,c.g.relab hl,lo,hi⟩
theorem Cp.push {cap:Nat}(c:Cp C M w lab mb i J W)(hM:M.qd[i]?=some h)(hT:ThIs W lab i h v)
  (hrow:W2.ownsRow 0 254 3 (.s g (i+1) cap) (i+1) (zcg (M.qd.take i) J.tl++zgb h v)) (hg:W.grownBy W2 J.tv.ownBlock) (hat:J.tv.ownBlock=some g\/g=W.heap.size) :
  ∃ lab',Cp C M w lab' mb (i+1) { J with tv:=.s g (i+1) cap,tl:=J.tl++[v] } (W2.setCell (.a mb 1) (.s g (i+1) cap)):=by
 have L:i<M.qd.length:=(yh.1 hM).1;have R:g<W2.heap.size:=(hrow.lt g rfl).2;have E:lab g=.ths\/(lab g=.out/\g=W.heap.size):=by
  rcases hat with h | h
  ·exact .inl (c.g.rl g h)
  ·exact .inr ⟨c.hi g yo,h⟩
 have D:=c.g.ml;have K:g≠mb:=fun e=>by
  rcases E with h | h
  ·rw[e,D]at h;cases h
  ·rw[e,D]at h;exact absurd h.1 yy
 have O:=c.own (k:=mb) (by rw[D];simp);let lab':Lab:=fun k=>if k=g then .ths else lab k
 have hl:∀ k,lab k≠.out->lab' k=lab k:=fun k A=>by
  show(if k=g then _ else _)=_;split
  ·rename_i e;subst e;rcases E with h | h
   ·exact h.symm
   ·exact absurd h.1 A
  ·rfl
 have Q:∀ k,lab k≠.out->lab k≠.ths->lab k≠.m->(W2.setCell (.a mb 1) (.s g (i+1) cap)).heap[k]? = W.heap[k]? := fun k h1 h2 h3=>by
  rw[yt _ _ _ _ (fun e=>h3 (by rw[e];exact D))];exact hg.block k (c.own h1).2 (fun e=>h2 (c.g.rl k e.symm))
 have N:Blk W2 mb 246 _:=c.g.m.grown hg (fun e=>by
  have:=c.g.rl mb e.symm;rw[D]at this;cases this)
 have I:Below w.heap.size w W2:=c.b.grown hg c.b.size (fun k e=>(c.own (by rw[c.g.rl k e];simp)).1);have H:=c.g.relab hl;have G:∀ {k:Nat} {r:Rl},lab k=r->r≠.out->r≠.ths->r≠.m->(W2.setCell (.a mb 1) (.s g (i+1) cap)).heap[k]? = W.heap[k]? := fun A h1 h2 h3=>Q _ (by rw[A];exact h1) (by rw[A];exact h2) (by rw[A];exact h3);refine⟨lab',I.setCell O.1 _,⟨(N.qe 1 _).cast yy,(hl _ (by rw[D];simp)).trans D,by simp[c.g.n],L,?_,fun k e=>?_,fun t2 h2 v2 a b=>?_,c.g.h.qa (G c.g.hl yy yy yy),H.hl,c.g.o.qa (G c.g.ol yy yy yy),H.ol,
  c.g.k.qa (G c.g.kl yy yy yy),H.kl,c.g.u.qa (G c.g.ul yy yy yy),H.ul,c.g.a.qa (G c.g.al yy yy yy),H.al⟩,fun k A=>?_,fun k A=>?_⟩
 ·show World.ownsRow _ 0 _ 3 (.s g (i+1) cap) (i+1) (zcg (M.qd.take (i+1)) (J.tl++[v]));rw[show M.qd.take (i+1)=M.qd.take i++[h] by rw[List.take_add_one,hM];rfl];unfold zcg;rw[zjp (by rw[c.g.n,yah];omega)];exact ownsRow_setCell_other hrow (fun e=>K (by injection e)) _
 ·injection e with e;exact yj e.symm
 ·have key:ThIs W lab t2 h2 v2:=by
   have hn:=c.g.n;rcases yF t2 i with hi | hi
   ·rw[yz yo]at b;exact c.g.t t2 h2 v2 a b
   ·rw[yC yo]at b;have e0:t2-J.tl.length=0:=by
     have:=(yh.1 b).1;simp at this;omega
    obtain rfl:t2=i:=yo;rw[e0]at b;simp at b;subst b;rw[hM]at a;injection a with a;subst a;exact hT
  exact(key.vq hl).vo (S:=fun r=>r≠.out/\r≠.ths/\r≠.m) (fun k A=>by
   have:k≠g:=fun e=>A.2.1 (yj e);have e:lab' k=lab k:=yg this;rw[e]at A;exact Q k A.1 A.2.1 A.2.2) yy yy yy
 ·show(if k=g then _ else _)=_;rw[yg]
  ·exact c.lo k A
  ·rintro rfl;rcases E with h | h
   ·rw[c.lo _ A]at h;cases h
   ·have:=c.b.size;omega
 ·simp[World.setCell]at A;show(if k=g then _ else _)=_;rw[yg yo];exact c.hi k (ya hg.size A)
end
structure Cu (C:AX)(M:Mc)(w:World)(lab:Lab)(mb i:Nat)(J:JVm)(h:Th)(j b6 cb:Nat)(fv:Value)(ls:List Value)(W:World):Prop where
 c:Cp C M w lab mb i J W
 n:ls.length=j
 jl:j<=h.qb.length
 r:W.ownsRow 0 250 3 fv j (zds (h.qb.take j) ls)
 l:∀ k,fv.ownBlock=some k->lab k=.frs i
 f:∀ (q:Nat) f u,h.qb[q]?=some f->ls[q]?=some u->FrIs W lab i q f u
 k:zb W cb h.clock
 kl:lab cb=.clk i
 t6:Blk W b6 254 #[fv,.bool h.ended,.m cb]
 l6:lab b6=.out
 s6:w.heap.size<=b6
section
variable {C:AX} {M:Mc} {w W W' W2:World} {lab lab':Lab} {mb i j b6 cb:Nat} {J:JVm} {h:Th} {v:TV} {fv lv:Value} {ls:List Value} {F:Fr}
theorem Cu.same (s:Cu C M w lab mb i J h j b6 cb fv ls W)(c:Cp C M w lab mb i J W')(hs:∀ k,lab k≠.out\/k=b6->W'.heap[k]? = W.heap[k]?):Cu C M w lab mb i J h j b6 cb fv ls W' :=
 ⟨c,s.n,s.jl,xx s.r fun k e=>hs k (.inl (by rw[s.l k e];simp)),s.l,fun q f u a b=>⟨xx (s.f q f u a b).r fun k e=>hs k (.inl (by rw[(s.f q f u a b).l k e];simp)),(s.f q f u a b).l⟩,
  s.k.qa (hs _ (.inl (by rw[s.kl];simp))),s.kl,(hs _ (.inr rfl)).trans s.t6,s.l6,s.s6⟩
theorem Cu.below (s:Cu C M w lab mb i J h j b6 cb fv ls W)(hb:Below W.heap.size W W'):Cu C M w lab mb i J h j b6 cb fv ls W' :=
 s.same (s.c.below hb) fun k A=>hb.block k (by
  rcases A with A | rfl
  ·exact(s.c.own A).2
  ·exact s.t6.lt)
theorem Cu.qi (s:Cu C M w lab mb i J h j b6 cb fv ls W){p:Addr}(hp:lab p.block=.out)(h0:w.heap.size<=p.block)(h6:p.block≠b6)(u:Value):Cu C M w lab mb i J h j b6 cb fv ls (W.setCell p u) :=
 s.same (s.c.qi (.inl hp) h0 u) fun k A=>yt W p u k (by
  rintro rfl;rcases A with A | A
  ·exact A hp
  ·exact h6 A)
theorem Cu.th (s:Cu C M w lab mb i J h j b6 cb fv ls W)(hj:j=h.qb.length):ThIs W lab i h ⟨fv,ls,cb⟩:=by
 subst hj;have A:=s.r;rw[yaz]at A;exact⟨s.n,A,s.l,s.f,s.k,s.kl⟩
theorem Cu.push {cap:Nat}(s:Cu C M w lab mb i J h j b6 cb fv ls W)(hF:h.qb[j]?=some F)(hlv:W.ownsRow 0 93 1 lv F.qc.length (F.qc.map vlV))(hll:∀ k,lv.ownBlock=some k->lab k=.out/\w.heap.size<=k)
  (hrow:W2.ownsRow 0 250 3 (.s g (j+1) cap) (j+1) (zds (h.qb.take j) ls++zlc F lv)) (hg:W.grownBy W2 fv.ownBlock) (hat:fv.ownBlock=some g\/g=W.heap.size) :
  ∃ lab',Cu C M w lab' mb i J h (j+1) b6 cb (.s g (j+1) cap) (ls++[lv]) (W2.setCell (.a b6 0) (.s g (j+1) cap)):=by
 have H:j<h.qb.length:=(yh.1 hF).1;have O:g<W2.heap.size:=(hrow.lt g rfl).2;have D:lab g=.frs i\/(lab g=.out/\g=W.heap.size):=by
  rcases hat with h | h
  ·exact .inl (s.l g h)
  ·exact .inr ⟨s.c.hi g yo,h⟩
 have Q:w.heap.size<=g:=by
  rcases D with h | h
  ·exact(s.c.own (by rw[h];simp)).1
  ·have:=s.c.b.size;omega
 have G:Blk W2 b6 254 _:=s.t6.grown hg (fun e=>by
  have:=s.l b6 e.symm;rw[s.l6]at this;cases this)
 have E:g≠b6:=xy hrow G yd g rfl;have I:∀ k,lv.ownBlock=some k->k≠g:=fun k e N=>by
  rcases D with h | h
  ·have:=(hll k e).1;rw[N,h]at this;cases this
  ·have:=(hlv.lt k e).2;omega
 let lab':Lab:=fun k=>if k=g then .frs i else if lv.ownBlock=some k then .locs i j else lab k
 have hl:∀ k,lab k≠.out->lab' k=lab k:=fun k A=>by
  show(if k=g then _ else _)=_;split
  ·rename_i e;subst e;rcases D with h | h
   ·exact h.symm
   ·exact absurd h.1 A
  ·rw[yg (fun e=>A (hll k e).1)]
 have L:∀ k,lab k≠.frs i->k<W.heap.size->k≠b6->(W2.setCell (.a b6 0) (.s g (j+1) cap)).heap[k]? = W.heap[k]? := fun k h1 h2 h3=>by
  rw[yt _ _ _ _ h3];exact hg.block k h2 (fun e=>h1 (s.l k e.symm))
 have c1:Cp C M w lab mb i J (W2.setCell (.a b6 0) (.s g (j+1) cap)):=(s.c.grown hg fun k e=>⟨(s.c.own (by rw[s.l k e];simp)).1,.inr (.inl (s.l k e))⟩).qi (p:=(.a b6 0)) (.inl s.l6) s.s6 _;have h6:∀ k,lab k≠.out->k≠b6:=fun k A e=>A (by rw[e];exact s.l6);refine⟨lab',c1.relab hl (fun k A=>?_) (fun k A=>?_),by simp[s.n],H,?_,fun k e=>?_,fun q f u a b=>?_,s.k.qa (L _ (by rw[s.kl];simp) (s.c.own (by rw[s.kl];simp)).2 (h6 _ (by rw[s.kl];simp))),(hl _ (by rw[s.kl];simp)).trans s.kl,(G.qe 0 _).cast yy,?_,s.s6⟩
 ·show(if k=g then _ else _)=_;rw[yg yo,yg (fun e=>by have:=(hll k e).2;omega)];exact s.c.lo k A
 ·simp[World.setCell]at A;show(if k=g then _ else _)=_;have:=hg.size;rw[yg yo,yg (fun e=>by have:=(hlv.lt k e).2;omega)];exact s.c.hi k yo
 ·rw[show h.qb.take (j+1)=h.qb.take j++[F] by rw[List.take_add_one,hF];rfl];unfold zds;rw[zjp (by rw[s.n,yah];omega)];exact ownsRow_setCell_other hrow (fun e=>E (by injection e)) _
 ·injection e with e;exact yj e.symm
 ·rcases yF q j with K | K
  ·rw[yz (by rw[s.n];exact K)]at b;have k1:=s.f q f u a b;exact⟨xx k1.r fun k e=>L k (by rw[k1.l k e];simp) (k1.r.lt k e).2 (h6 k (by rw[k1.l k e];simp)),fun k e=>(hl k (by rw[k1.l k e];simp)).trans (k1.l k e)⟩
  ·rw[yC (by rw[s.n];exact K)]at b;have e0:q-ls.length=0:=by
    have:=(yh.1 b).1;simp at this;omega
   obtain rfl:q=j:=yq s.n;rw[e0]at b;simp at b;subst b;rw[hF]at a;injection a with a;subst a;refine⟨xx hlv fun k e=>L k (by rw[(hll k e).1];simp) (hlv.lt k e).2 (xy hlv s.t6 yd k e),fun k e=>?_⟩;show(if k=g then _ else _)=_;rw[yg (I k e),yj e]
 ·show(if b6=g then _ else _)=_;rw[yg E.symm,yg (fun e=>xy hlv s.t6 yd b6 e rfl)];exact s.l6
end
section
variable {C:AX} {M:Mc} {w W W' W2:World} {lab lab':Lab} {mb:Nat} {J:JVm}
theorem Cp.whole (c:Cp C M w lab mb M.qd.length J W)(hon:C.on w)(h0:0<M.qd.length):∃ V,MSt C lab mb { M with qq:=[],qp:=[] } V W:=by
 have D:=c.g.r;rw[yaz]at D;obtain⟨tb,cap,E,_,_⟩:=D.form h0;have hm:=c.g.m;have A:=c.g.rl;rw[E]at hm D A;exact⟨⟨tb,cap,J.tl,J.hb,J.ob,J.kb,J.ub,J.rb,[],[]⟩,hon.trans (c.b.mono hon.size),⟨hm,c.g.ml,c.g.n,D,A tb rfl,c.g.t,c.g.h,c.g.hl,c.g.o,c.g.ol,c.g.k,c.g.kl,nofun,fun _ _=>rfl,c.g.u,c.g.ul,nofun,fun _ _=>rfl,c.g.a,c.g.al⟩,
  fun k G=>c.lo k (yi G hon.size),c.hi⟩
theorem MSt.cast {kc:List (Int×List (Int×Int))}{uc:List (Sp×List (Sp×Tc))}(g:MSt C lab mb { M with qq:=kc,qp:=uc } V W)(hk:∀ x,mget kc x=mget M.qq x)(hu:∀ x,mget uc x=mget M.qp x):MSt C lab mb M V W :=
 ⟨g.on,⟨g.mi.m,g.mi.ml,g.mi.n,g.mi.r,g.mi.rl,g.mi.t,g.mi.h,g.mi.hl,g.mi.o,g.mi.ol,g.mi.k,g.mi.kl,fun x b e=>by obtain⟨c,a,r⟩:=g.mi.kc x b e;exact⟨c,by rw[<- hk];exact a,r⟩,fun x e=>by rw[<- hk];exact g.mi.kn x e,
  g.mi.u,g.mi.ul,fun x b e=>by obtain⟨c,a,r⟩:=g.mi.uc x b e;exact⟨c,by rw[<- hu];exact a,r⟩,fun x e=>by rw[<- hu];exact g.mi.un x e,g.mi.a,g.mi.al⟩,g.lo,g.hi⟩
end
end
section
def Dist (l:List (Bool×Value)):Prop:=l.Pairwise fun p q=>p.1=true->q.1=true->p.2≠q.2
theorem Dist.set {l:List (Bool×Value)}(k:Nat){x:Value}(h:Dist l)(hx:∀ p ∈ l,p.1=true->p.2≠x):Dist (l.set k (true,x)):=by
 unfold Dist at *;rw[List.pairwise_iff_getElem]at *;intro i j hi I G;have A:i<l.length:=by simpa using hi
 have D:j<l.length:=by simpa using I
 by_cases E:k=i
 ·subst E;rw[List.getElem_set_self,ycl yo];exact fun _ h2=>(hx _ (List.getElem_mem D) h2).symm
 ·by_cases H:k=j
  ·subst H;rw[List.getElem_set_self,ycl E];exact fun h1 _=>hx _ (List.getElem_mem A) h1
  ·rw[ycl E,ycl H];exact h i j A D G
structure zg4 (M:Mc)(w1:World)(y:Value)(b0 b1 b2 b3 b4 b5:Bool)(x0 x1 x2 x3 x4 x5:Value)(W:World):Prop where
 b:Below w1.heap.size w1 W
 h:b0=true->∃ b,x0=.m b/\MapE W b spV SpOk vlV M.held/\w1.heap.size<=b
 o:b1=true->∃ b,x1=.m b/\zb W b M.owner/\w1.heap.size<=b
 a:b2=true->∃ b,x2=.m b/\MapE W b spV SpOk intV M.races/\w1.heap.size<=b
 k:b3=true->∃ b,x3=.m b/\MapE W b intV (fun n=>(Lit.int .i64 n).wf=true) mapV ([]:List (Int×Nat))/\w1.heap.size<=b
 u:b4=true->∃ b,x4=.m b/\MapE W b spV SpOk mapV ([]:List (Sp×Nat))/\w1.heap.size<=b
 v:b5=true->x5=.agg #[y,.z,x0,.i M.qt,x1,x3,x4,x2,.i M.steps]
 d:Dist [(b0,x0),(b1,x1),(b2,x2),(b3,x3),(b4,x4)]
section
variable {M:Mc} {w1 W W':World} {y:Value} {b0 b1 b2 b3 b4 b5:Bool} {x0 x1 x2 x3 x4 x5:Value}
theorem zg4.jg (h:zg4 M w1 y b0 b1 b2 b3 b4 b5 x0 x1 x2 x3 x4 x5 W)(hb:Below W.heap.size W W'):zg4 M w1 y b0 b1 b2 b3 b4 b5 x0 x1 x2 x3 x4 x5 W' :=
 ⟨h.b.trans (hb.mono h.b.size),fun e=>by obtain⟨b,a,r,q⟩:=h.h e;exact⟨b,a,r.below hb r.lt,q⟩,fun e=>by obtain⟨b,a,r,q⟩:=h.o e;exact⟨b,a,MapE.below r hb r.lt,q⟩,fun e=>by obtain⟨b,a,r,q⟩:=h.a e;exact⟨b,a,r.below hb r.lt,q⟩,
  fun e=>by obtain⟨b,a,r,q⟩:=h.k e;exact⟨b,a,r.below hb r.lt,q⟩,fun e=>by obtain⟨b,a,r,q⟩:=h.u e;exact⟨b,a,r.below hb r.lt,q⟩,h.v,h.d⟩
theorem zg4.new (h:zg4 M w1 y b0 b1 b2 b3 b4 b5 x0 x1 x2 x3 x4 x5 W):∀ p ∈ [(b0,x0),(b1,x1),(b2,x2),(b3,x3),(b4,x4)],p.1=true->p.2≠.map (some W.heap.size):=by
 intro p D;simp only[yW,List.not_mem_nil,or_false]at D;have key:∀ {x:Value} {b:Nat},x=.m b->b<W.heap.size->x≠.map (some W.heap.size):=fun e h A=>by
  rw[e]at A;injection A with A;injection A with A;omega
 rcases D with rfl | rfl | rfl | rfl | rfl
 ·exact fun e=>by obtain⟨b,a,r,_⟩:=h.h e;exact key a r.lt
 ·exact fun e=>by obtain⟨b,a,r,_⟩:=h.o e;exact key a r.lt
 ·exact fun e=>by obtain⟨b,a,r,_⟩:=h.a e;exact key a r.lt
 ·exact fun e=>by obtain⟨b,a,r,_⟩:=h.k e;exact key a r.lt
 ·exact fun e=>by obtain⟨b,a,r,_⟩:=h.u e;exact key a r.lt
end
def zhy (b0 b1 b2 b3 b4 b5:Bool):Bool:=(!b1||b0)&&(!b2||b1)&&(!b5||(b2&&b3&&b4))
theorem Cp.start {M:Mc}{w1 W W':World}{hb ob rb kb ub nb:Nat}{x5:Value}(hw1:Below w.heap.size w w1)
  (h:zg4 M w1 (.p C.pb) true true true true true true (.m hb) (.m ob) (.m rb) (.m kb) (.m ub) x5 W) (hW:Below W.heap.size W W') (hnb:W.heap.size<=nb)
  (hm:Blk W' nb 246 #[.p C.pb,.z,.m hb,.i M.qt,.m ob,.m kb,.m ub,.m rb,.i M.steps]) :
  ∃ lab,Cp C M w lab nb 0 ⟨.z,[],hb,ob,kb,ub,rb⟩ W':=by
 obtain⟨_,A,h1,l1⟩:=h.h rfl;injection A with A;injection A with A;subst A;obtain⟨_,A,h2,l2⟩:=h.o rfl;injection A with A;injection A with A;subst A;obtain⟨_,A,h3,l3⟩:=h.a rfl;injection A with A;injection A with A;subst A;obtain⟨_,A,h4,l4⟩:=h.k rfl;injection A with A;injection A with A;subst A;obtain⟨_,A,h5,l5⟩:=h.u rfl;injection A with A;injection A with A;subst A;have d:=h.d;simp only[Dist,List.pairwise_cons,yW,List.not_mem_nil,or_false,forall_eq_or_imp,forall_eq,ne_eq,Value.map.injEq,Option.some.injEq,true_implies]at d;obtain⟨⟨D,E,G,H⟩,⟨I,J,K⟩,⟨L,N⟩,O,_⟩:=d;have S:=h1.lt;have U:=h2.lt;have Y:=h3.lt;have Z:=h4.lt;have z5:=h5.lt;have z6:=hm.lt;have Q:=hw1.size;have R:=hW.size;refine⟨fun k=>if k=hb then .held else if k=ob then .owner else if k=rb then .races else if k=kb then .clocks else if k=ub then .touched else if k=nb then .m else .out,
  (hw1.trans (h.b.mono Q)).trans (hW.mono (ya Q h.b.size)),⟨hm,?_,rfl,yD _,yA _ _ _ _,nofun,(fun t h v a b=>by simp at b),h1.below hW S,yj rfl,MapE.below h2 hW U,?_,h4.below hW Z,?_,h5.below hW z5,?_,h3.below hW Y,?_⟩,fun k hk=>?_,fun k hk=>?_⟩
 ·show(if nb=hb then Rl.held else _)=_;rw[yg yo,yg yo,yg yo,yg yo,yg yo,yj rfl]
 ·show(if ob=hb then Rl.held else _)=_;rw[yg (fun e=>D e.symm),yj rfl]
 ·show(if kb=hb then Rl.held else _)=_;rw[yg (fun e=>G e.symm),yg (fun e=>J e.symm),yg (fun e=>L e.symm),yj rfl]
 ·show(if ub=hb then Rl.held else _)=_;rw[yg (fun e=>H e.symm),yg (fun e=>K e.symm),yg (fun e=>N e.symm),yg (fun e=>O e.symm),yj rfl]
 ·show(if rb=hb then Rl.held else _)=_;rw[yg (fun e=>E e.symm),yg (fun e=>I e.symm),yj rfl]
 ·show(if k=hb then Rl.held else _)=_;rw[yg yo,yg yo,yg yo,yg yo,yg yo,yg yo]
 ·show(if k=hb then Rl.held else _)=_;rw[yg yo,yg yo,yg yo,yg yo,yg yo,yg yo]
end
section
def zox (C:AX)(M:Mc)(w:World)(e:Ending)(w':World):Prop :=
 ∃ nb lab V,e=.r (.p nb)/\MSt C lab nb M V w'/\w.heap.size<=nb/\Below w.heap.size w w'/\∀ k,k<w.heap.size->lab k=.out
theorem Cu.start {C:AX}{M:Mc}{w W:World}{lab:Lab}{nb i b6 cb:Nat}{J:JVm}{h:Th}(c:Cp C M w lab nb i J W)(hc:zb W cb h.clock)(hl:lab cb=.out)(hs:w.heap.size<=cb)
  (ht:Blk W b6 254 #[.z,.bool h.ended,.m cb]) (h6:lab b6=.out) (s6:w.heap.size<=b6):∃ lab',Cu C M w lab' nb i J h 0 b6 cb (.z) [] W:=by
 have D:b6≠cb:=(hc.ne ht).symm;refine⟨fun k=>if k=cb then .clk i else lab k,c.relab (fun k A=>yg (fun e=>A (by rw[e];exact hl))) (fun k A=>?_) (fun k A=>?_),rfl,yD _,yA _ _ _ _,nofun,(fun q f u a b=>by simp at b),hc,yj rfl,ht,(yg D).trans h6,s6⟩
 ·show(if k=cb then _ else _)=_;rw[yg yo];exact c.lo k A
 ·show(if k=cb then _ else _)=_;have:=hc.lt;rw[yg yo];exact c.hi k A
def Lft {κ ν μ : Type} [DecidableEq κ] (left:List (κ × μ)) (kc m:List (κ × ν)):Prop:=∀ x,(x ∈ left.map (·.1)->mget kc x=none)/\(x ∉ left.map (·.1)->mget kc x=mget m x)
theorem zqf {κ ν μ: Type} [DecidableEq κ] {left l1 l2:List (κ × μ)} {p:κ × μ} {kc m:List (κ × ν)} {c:ν} (hn:(left.map (·.1)).Nodup) (hl:left=l1++p::l2) (hm:Lft left kc m) (hc:mget m p.1=some c):Lft (l1++l2) (mput kc p.1 c) m:=by
 subst hl;have A:p.1 ∉ (l1++l2).map (·.1):=by
  simp only[yat,yT]at hn |-;exact(ya0.1 (List.perm_middle.nodup_iff.1 hn)).1
 intro x;rw[xd];by_cases hx:p.1=x
 ·subst hx;exact⟨fun h=>absurd h A,fun _=>by rw[yj rfl,hc]⟩
 ·rw[yg hx];have e:x ∈ (l1++p::l2).map (·.1)↔x ∈ (l1++l2).map (·.1):=by
   simp only[yat,yT,yu,yW,show(x=p.1)=False from eq_false (fun e=>hx e.symm),false_or]
  exact⟨fun h=>(hm x).1 (e.2 h),fun h=>(hm x).2 (fun h2=>h (e.1 h2))⟩
theorem Lft.none {κ ν μ: Type} [DecidableEq κ] {kc m:List (κ × ν)} (h:Lft ([]:List (κ × μ)) kc m) (x:κ):mget kc x=mget m x:=(h x).2 yy
structure Cd (C:AX)(M:Mc)(w:World)(lab:Lab)(nb:Nat)(kc:List (Int×List (Int×Int)))(uc:List (Sp×List (Sp×Tc)))(V:MV)(W:World):Prop where
 b:Below w.heap.size w W
 g:MSt C lab nb { M with qq:=kc,qp:=uc } V W
 lo:∀ k,k<w.heap.size->lab k=.out
section
variable {C:AX} {M:Mc} {w W W':World} {lab:Lab} {nb:Nat} {kc:List (Int×List (Int×Int))} {uc:List (Sp×List (Sp×Tc))} {V:MV}
theorem Cd.below (c:Cd C M w lab nb kc uc V W)(hb:Below W.heap.size W W'):Cd C M w lab nb kc uc V W':=⟨c.b.trans (hb.mono c.b.size),c.g.below hb,c.lo⟩
theorem Cd.iter (c:Cd C M w lab nb kc uc V W)(hg:W.grownBy W' (some r))(hr:lab r=.out)(hs:w.heap.size<=r)(hC:C.w0.heap.size<=w.heap.size):Cd C M w lab nb kc uc V W' :=
 ⟨c.b.grown hg c.b.size (fun k e=>by injection e with e;rw[<- e];exact hs),c.g.o (fun k A=>hg.block k (by
  rcases yF k W.heap.size with h | h
  ·exact h
  ·exact absurd (c.g.hi k h) A) (fun e=>by injection e with e;rw[e]at A;exact A hr)) (c.g.on.grown hg c.g.on.size (fun k e=>by injection e with e;rw[<- e];omega)) hg.size,c.lo⟩
theorem Cd.name (c:Cd C M w lab nb kc uc V W)(hb:Below W.heap.size W W')(hz:W'.heap.size=W.heap.size+1)(R:Rl):Cd C M w (fun k=>if k=W.heap.size then R else lab k) nb kc uc V W' :=
 ⟨c.b.trans (hb.mono c.b.size),c.g.name hb hz R,fun k A=>by
  have:=c.b.size;rw[yg yo];exact c.lo k A⟩
theorem Cd.clk {c:List (Int×Int)}{x:Int}(s:Cd C M w lab nb kc uc V W)(hC:C.w0.heap.size<=w.heap.size)(hg:W.grownBy W' (some V.kb))(hb:lab b=.mclk x)(hc:zb W b c)(hk:MapE W' V.kb intV (fun n=>(Lit.int .i64 n).wf=true) mapV (mput V.kl x b)):Cd C M w lab nb (mput kc x c) uc { V with kl:=mput V.kl x b } W':=by
 have hl:=s.g.mi.kl;have ho:w.heap.size<=V.kb:=by
  rcases yF V.kb w.heap.size with h | h
  ·have:=s.lo _ h;rw[hl]at this;cases this
  ·exact h
 exact⟨s.b.grown hg s.b.size (fun k e=>by injection e with e;rw[<- e];exact ho),s.g.vk hg hl yy fun A=>s.g.mi.mclkE A hb hc hk,s.lo⟩
theorem Cd.tch {c:List (Sp×Tc)}{x:Sp}(s:Cd C M w lab nb kc uc V W)(hC:C.w0.heap.size<=w.heap.size)(hg:W.grownBy W' (some V.ub))(hb:lab b=.tch x)(hc:ze3 W b c)(hk:MapE W' V.ub spV SpOk mapV (mput V.ul x b)):Cd C M w lab nb kc (mput uc x c) { V with ul:=mput V.ul x b } W':=by
 have hl:=s.g.mi.ul;have ho:w.heap.size<=V.ub:=by
  rcases yF V.ub w.heap.size with h | h
  ·have:=s.lo _ h;rw[hl]at this;cases this
  ·exact h
 exact⟨s.b.grown hg s.b.size (fun k e=>by injection e with e;rw[<- e];exact ho),s.g.vk hg hl yy fun A=>s.g.mi.utchE A hb hc hk,s.lo⟩
end
structure CkI (C:AX)(M:Mc)(V:MV)(w:World)(nb:Nat)(m:List (Int×Nat))(r:Nat)(lab:Lab)(left:List (Int×Nat))(kc:List (Int×List (Int×Int)))(V2:MV)(W:World):Prop where
 q:zY W V.kb r intV (fun n=>(Lit.int .i64 n).wf=true) mapV m left
 c:Cd C M w lab nb kc [] V2 W
 e:Lft left kc M.qq
 rl:lab r=.out
 rs:w.heap.size<=r
structure CuI (C:AX)(M:Mc)(V:MV)(w:World)(nb:Nat)(m:List (Sp×Nat))(r:Nat)(lab:Lab)(left:List (Sp×Nat))(kc:List (Int×List (Int×Int)))(uc:List (Sp×List (Sp×Tc)))(V2:MV)(W:World):Prop where
 q:zY W V.ub r spV SpOk mapV m left
 c:Cd C M w lab nb kc uc V2 W
 e:Lft left uc M.qp
 rl:lab r=.out
 rs:w.heap.size<=r
theorem vCopy0:∀ b1 b2 b3 b4 b5,zhy false b1 b2 b3 b4 b5=true->b5=false:=yd
theorem vCopy1:∀ b0 b2 b3 b4 b5,zhy b0 false b2 b3 b4 b5=true->b5=false:=yd
theorem vCopy2:∀ b0 b1 b3 b4 b5,zhy b0 b1 false b3 b4 b5=true->b5=false:=yd
theorem vCopy3:∀ b0 b1 b2 b4 b5,zhy b0 b1 b2 false b4 b5=true->b5=false:=yd
theorem vCopy4:∀ b0 b1 b2 b3 b5,zhy b0 b1 b2 b3 false b5=true->b5=false:=yd
theorem vCopy5:∀ b0 b1 b2 b3 b4,zhy b0 b1 b2 b3 b4 true=true->b0=true/\b1=true/\b2=true/\b3=true/\b4=true:=yd
theorem copy_any {C:AX}{M:Mc}{V:MV}{w:World}(HC:AXok C)(hK:zu C.P)(hW:WfM C.P M)(g:MSt C lab0 mb M V w):Calls prog 122 #[.p mb] w (zox C M w):=by
 have HG:=zH g;have HW:=zH hW;have df:=zH hK;clear g hW hK;go_enter func122,ntmps122;go_upto_region 1 with fail
 go_cut [3] (fun v3 wx=>∃ nb lab J,v3=.p nb/\w.heap.size<=nb/\Cp C M w lab nb 0 J wx)
 case first =>
  refine rgm 31 (fun(W':World)=>∀ j,W'.cell? (.a mb j)=(zbv C M V)[j]?) ?_;have bh:=zH (show Below w.heap.size w w.drew from yB.drew);generalize w.drew=w1 at bh |-;have ag:=zH (HG.o.below bh.o);have hHeld:=ag.o.cells;unfold zbv at hHeld |-
  iterate 16(refine tK 0 rfl hHeld ?_)
  iterate 4(refine tK 17 rfl hHeld ?_)
  iterate 4(refine tK 24 rfl hHeld ?_)
  refine zul (k0:=16) (k1:=21) (k2:=28) (k3:=22) (k4:=23) (k5:=29) zhy (fun a0 b0 b1 b2 b3 b4 b5 a W=>∃ x0 I L x3 x4 x5,a=(((((a0.put (some 29) x0).put (some 34) I).put (some 41) L).put (some 35) x3).put (some 36) x4).put (some 42) x5/\zg4 M w1 (.p C.pb) b0 b1 b2 b3 b4 b5 x0 I L x3 x4 x5 W) rfl rfl rfl rfl rfl rfl yk ?hS ?h0 ?r ?s0 ?s1 ?s2 ?s3 ?s4 ?s5
  case hS =>
   rintro b0 b1 b2 b3 b4 b5 a W ⟨x0,I,L,x3,x4,x5,_,h⟩;exact(ag.o.below h.b).cells
  case h0=>exact⟨undef,undef,undef,undef,undef,undef,rfl,yn _ _,nofun,nofun,nofun,nofun,nofun,nofun,by simp[Dist]⟩
  case s0 =>
   rintro b1 b2 b3 b4 b5 hv _ a W ⟨x0,I,L,x3,x4,x5,rfl,h⟩ K hK;obtain rfl:=vCopy0 _ _ _ _ _ hv;have H:=zH h;have E:=zH (zwg W (ag.o.below h.b).mi.h);simp only[Act.put,yK,yU,yR];clear h hHeld;go_simp;refine E.o.mono ?_;rintro e w5 ⟨rfl,hm,hb,hz⟩;have h5:=H.o.jg hb;refine hK.o _ _ ⟨_,I,L,x3,x4,x5,rfl,h5.b,fun _=>⟨_,rfl,hm,H.o.b.size⟩,h5.o,h5.a,h5.k,h5.u,nofun,h5.d.set 0 H.o.new⟩
  case s1 =>
   rintro b0 b2 b3 b4 b5 hv _ a W ⟨x0,I,L,x3,x4,x5,rfl,h⟩ K hK;obtain rfl:=vCopy1 _ _ _ _ _ hv;have H:=zH h;have E:=zH (zwh W (ag.o.below h.b).mi.o);simp only[Act.put,yK,yU,yR];clear h hHeld;go_simp;refine E.o.mono ?_;rintro e w5 ⟨rfl,hm,hb,hz⟩;have h5:=H.o.jg hb;refine hK.o _ _ ⟨x0,_,L,x3,x4,x5,rfl,h5.b,h5.h,fun _=>⟨_,rfl,hm,H.o.b.size⟩,h5.a,h5.k,h5.u,nofun,h5.d.set 1 H.o.new⟩
  case s2 =>
   rintro b0 b1 b3 b4 b5 hv _ a W ⟨x0,I,L,x3,x4,x5,rfl,h⟩ K hK;obtain rfl:=vCopy2 _ _ _ _ _ hv;have H:=zH h;have E:=zH (zqa W (ag.o.below h.b).mi.a);simp only[Act.put,yK,yU,yR];clear h hHeld;go_simp;refine E.o.mono ?_;rintro e w5 ⟨rfl,hm,hb,hz⟩;have h5:=H.o.jg hb;refine hK.o _ _ ⟨x0,I,_,x3,x4,x5,rfl,h5.b,h5.h,h5.o,fun _=>⟨_,rfl,hm,H.o.b.size⟩,h5.k,h5.u,nofun,h5.d.set 2 H.o.new⟩
  case s3 =>
   rintro b0 b1 b2 b4 b5 hv _ a W ⟨x0,I,L,x3,x4,x5,rfl,h⟩ K hK;obtain rfl:=vCopy3 _ _ _ _ _ hv;have H:=zH h;have dp:=@run_makeMap prog;simp only[Act.put,yK,yU,yR];clear h hHeld;go_simp;have h5:=H.o.jg ((yn W.heap.size W).alloc yL (.map #[] 0));refine hK.o _ _ ⟨x0,I,L,_,x4,x5,rfl,h5.b,h5.h,h5.o,h5.a,fun _=>⟨_,rfl,MapE.made _ _ _ _,H.o.b.size⟩,h5.u,nofun,h5.d.set 3 H.o.new⟩
  case s4 =>
   rintro b0 b1 b2 b3 b5 hv _ a W ⟨x0,I,L,x3,x4,x5,rfl,h⟩ K hK;obtain rfl:=vCopy4 _ _ _ _ _ hv;have H:=zH h;have dp:=@run_makeMap prog;simp only[Act.put,yK,yU,yR];clear h hHeld;go_simp;have h5:=H.o.jg ((yn W.heap.size W).alloc yL (.map #[] 0));refine hK.o _ _ ⟨x0,I,L,x3,_,x5,rfl,h5.b,h5.h,h5.o,h5.a,h5.k,fun _=>⟨_,rfl,MapE.made _ _ _ _,H.o.b.size⟩,nofun,h5.d.set 4 H.o.new⟩
  case s5 =>
   rintro b0 b1 b2 b3 b4 hv du a W ⟨x0,I,L,x3,x4,x5,rfl,h⟩ K hK;obtain⟨rfl,rfl,rfl,rfl,rfl⟩:=vCopy5 _ _ _ _ _ du;obtain⟨hb,rfl,_⟩:=h.h rfl;obtain⟨ob,rfl,_⟩:=h.o rfl;obtain⟨rb,rfl,_⟩:=h.a rfl;obtain⟨kb,rfl,_⟩:=h.k rfl;obtain⟨ub,rfl,_⟩:=h.u rfl;have H:=zH h;simp only[Act.put,yK,yU,yR];clear h hHeld;go_simp;refine hK.o _ _ ⟨_,_,_,_,_,_,rfl,H.o.b,H.o.h,H.o.o,H.o.a,H.o.k,H.o.u,fun _=>rfl,H.o.d⟩
  case r =>
   rintro a W ⟨x0,I,L,x3,x4,x5,rfl,h⟩;obtain⟨hb,rfl,_⟩:=h.h rfl;obtain⟨ob,rfl,_⟩:=h.o rfl;obtain⟨rb,rfl,_⟩:=h.a rfl;obtain⟨kb,rfl,_⟩:=h.k rfl;obtain⟨ub,rfl,_⟩:=h.u rfl;obtain rfl:=h.v rfl;have H:=zH h;simp only[Act.put,yK,yU,yR,set6];clear h;have hHeld:=(ag.o.below H.o.b).cells;unfold zbv at hHeld;refine rdy 30 rfl fun K hK=>?_;go_simp;have cd:Below W.heap.size W (W.alloc (.k #[.p C.pb,.z,.m hb,.i M.qt,.m ob,.m kb,.m ub,.m rb,.i M.steps] 246)):=yB.alloc yL _;have dj:=zH (Cp.start (C:=C) bh.o H.o cd yL (Blk.newAt rfl));have hHeld:=((ag.o.below H.o.b).below cd).cells;unfold zbv at hHeld;have HZ:=zH (ya bh.o.size H.o.b.size);refine hK.o _ _ hHeld (fun hHeld=>?_);clear hK K;refine lst rfl fun K hK=>?_;go_simp;refine hK _ _ ?_;clear hK K hHeld cd;go_wp2;go_meet;obtain⟨lab,a1⟩:=dj.o;exact⟨_,lab,_,rfl,HZ.o,a1⟩
 case rest =>
  obtain⟨nb,lab,J,rfl,d4,a1⟩:=hcut;have dh:=zH d4;have m1:wc.cell? (.a mb 1)=some (.s V.tb M.qd.length V.vd):=(HG.o.below a1.b).cells 1;have ST:=zH (show ∃ i lab J,Value.int .i64 0=.i (i:Nat)/\M.qd.length=M.qd.length-i/\Cp C M w lab nb i J wc from⟨0,lab,J,rfl,rfl,a1⟩);clear a1 d4;go_wp2_with fail;clear m1;go_loopg [49] M.qd.length (fun gk v49 wr=>∃ i lab J,v49=.i (i:Nat)/\gk=M.qd.length-i/\Cp C M w lab nb i J wr)
  case atStart=>exact ST.o
  case round =>
   obtain⟨i,lab,J,rfl,hg,a1⟩:=hrel;have da:=zH hg;have ab:=zH a1;have dc:=zH a1.g.il;have cu:=zH (show M.qd.length<=6 from HW.o.n.2);clear hg a1;by_cases ck:i<M.qd.length
   ·obtain⟨h,hh⟩:∃ h,M.qd[i]?=some h:=⟨_,yc ck⟩;have HS:=zH (HG.o.below ab.o.b);obtain⟨v,hv⟩:∃ v,V.tl[i]?=some v:=⟨_,yc (by rw[HG.o.mi.n];exact ck)⟩;have hT:=HS.o.mi.t i h v hh hv;obtain⟨fa,fc,ci⟩:=zZ hT.r;have c0:=zfi HS.o.mi hh hv;have t0:wr.cell? (.a V.tb (i*3))=some (.slice fa h.qb.length fc):=(c0 0 yo).trans (by rw[<- ci];rfl);have t1:wr.cell? (.a V.tb (i*3+1))=some (.bool h.ended):=c0 1 yo;have t2:wr.cell? (.a V.tb (i*3+2))=some (.m v.cb):=c0 2 yo;have HH:=zH hh;have HV:=zH hv;have cq:=zH ci;clear hh hv hT ci c0;go_upto_region 5 with fail
    have a5:=zH (ab.o.below ((yn wr.heap.size wr).alloc yL (.k #[.slice fa h.qb.length fc,.bool h.ended,.m v.cb] 254)));have ai:Blk (wr.alloc (.k #[.slice fa h.qb.length fc,.bool h.ended,.m v.cb] 254)) wr.heap.size 254 #[.slice fa h.qb.length fc,.bool h.ended,.m v.cb]:=Blk.newAt rfl;clear t0 t1 t2 HS ab;generalize wr.alloc (.k #[.slice fa h.qb.length fc,.bool h.ended,.m v.cb] 254)=w2 at a5 ai |-;generalize wr.heap.size=b5 at ai |-;have a6:=zH ai;clear ai;go_cut [6] (fun v6 wx=>∃ b6 cb a4,v6=.p b6/\Cu C M w a4 nb i J h 0 b6 cb (.z) [] wx/\Blk wx b5 254 #[.slice fa h.qb.length fc,.bool h.ended,.m v.cb])
    case first =>
     refine rgm 7 (fun(W':World)=>∀ j,W'.cell? (.a b5 j)=#[.slice fa h.qb.length fc,.bool h.ended,.m v.cb][j]?) ?_;have A:=zH (a5.o.below ((yn _ w2).drew));have aa:=zH (a6.o.drew);clear a5 a6;generalize w2.drew=w3 at A aa |-;have E:=zH (fun(W:World) (hb:Below w3.heap.size w3 W)=>zk4 W ((HG.o.below (A.o.b.trans (hb.mono A.o.b.size))).mi.t i h v HH.o HV.o).c);have hHeld:=aa.o.cell
     iterate 4(refine tK 0 rfl hHeld ?_)
     refine wpAnyH_ready (rs:=[4,6]) yk yy ?_;refine AllReadyH.cons rfl (fun K hK=>?_) (AllReadyH.cons rfl (fun K hK=>?_) AllReadyH.nil)
     ·go_simp;refine(E.o w3 yB).mono ?_;rintro x w4 ⟨rfl,a2,D,a9⟩;have HC4:=zH (A.o.below D);have N:=zH (aa.o.below D aa.o.lt);have Q:=zH (show lab w3.heap.size=.out/\w.heap.size<=w3.heap.size from⟨A.o.hi _ yL,A.o.b.size⟩);have a3:zb w4 w3.heap.size h.clock:=a2;clear a2 D a9 hHeld E;generalize w3.heap.size=cb at Q a3 |-;have HM4:=zH a3;clear a3;refine hK.o _ _ N.o.cell (fun hHeld=>?_);clear hK K;refine tK 5 rfl hHeld ?_;refine rdy 6 rfl fun K hK=>?_;go_simp;refine hK.o _ _ (N.o.alloc _).cell (fun hHeld=>?_);clear hK K;refine lst rfl fun K hK=>?_;go_simp;refine hK _ _ ?_;clear hK K hHeld;go_wp2;go_meet;obtain⟨a4,Y⟩:=Cu.start (HC4.o.below ((yn w4.heap.size w4).alloc yL (.k #[.z,.bool h.ended,.m cb] 254))) (MapE.below HM4.o ((yn w4.heap.size w4).alloc yL _) HM4.o.lt) Q.o.1 Q.o.2 (Blk.newAt rfl) (HC4.o.hi _ yL) HC4.o.b.size;exact⟨_,cb,a4,rfl,Y,N.o.alloc _⟩
     ·go_simp;refine hK.o _ _ (aa.o.alloc _).cell (fun hHeld=>?_);clear hK K;refine rdy 4 rfl fun K hK=>?_;go_simp;have ce:Below w3.heap.size w3 (w3.alloc (.k #[.z,.bool false,.map none] 254)):=yB.alloc yL _;have cm:Blk (w3.alloc (.k #[.z,.bool false,.map none] 254)) w3.heap.size 254 #[.z,.bool false,.map none]:=Blk.newAt rfl;refine(E.o _ ce).mono ?_;rintro x w4 ⟨rfl,a2,D,a9⟩;have bp:=A.o.below ce;have HC4:=zH (bp.below D);have N:=zH ((aa.o.alloc _).below D (aa.o.alloc _).lt);have ax:=zH (cm.below D cm.lt);have Q:=zH (show lab (w3.alloc (.k #[.z,.bool false,.map none] 254)).heap.size=.out/\w.heap.size<=(w3.alloc (.k #[.z,.bool false,.map none] 254)).heap.size from⟨bp.hi _ yL,bp.b.size⟩);have a8:=zH (show lab w3.heap.size=.out/\w.heap.size<=w3.heap.size from⟨A.o.hi _ yL,A.o.b.size⟩);have bk:=zH (show w3.heap.size≠b5 from ybk aa.o.lt);have a3:zb w4 (w3.alloc (.k #[.z,.bool false,.map none] 254)).heap.size h.clock:=a2;clear a2 D a9 hHeld E ce cm bp;generalize (w3.alloc (.k #[.z,.bool false,.map none] 254)).heap.size=cb at Q a3 |-;generalize w3.heap.size=b6 at a8 ax bk |-;have HM4:=zH a3;clear a3;refine hK.o _ _ N.o.cell (fun hHeld=>?_);clear hK K;refine tK 5 rfl hHeld ?_;have dr:=ax.o.cell;have dt:=ax.o.frozen;refine lst rfl fun K hK=>?_;go_simp;refine hK _ _ ?_;clear hK K hHeld dr dt;go_wp2;go_meet;have hx:=(((ax.o.qe 0 (.z)).qe 1 (.bool h.ended)).qe 2 (.m cb)).cast (cs':=#[.z,.bool h.ended,.m cb]) yy;have cf:cb≠b6:=HM4.o.ne ax.o;obtain⟨a4,Y⟩:=Cu.start (((HC4.o.qi (p:=(.a b6 0)) (.inl a8.o.1) a8.o.2 (.z)).qi (p:=(.a b6 1)) (.inl a8.o.1) a8.o.2 (.bool h.ended)).qi (p:=(.a b6 2)) (.inl a8.o.1) a8.o.2 (.m cb))
       (MapE.qa HM4.o (((yt _ _ _ _ cf).trans (yt _ _ _ _ cf)).trans (yt _ _ _ _ cf))) Q.o.1 Q.o.2 hx a8.o.1 a8.o.2
      exact⟨b6,cb,a4,rfl,Y,((N.o.qi (p:=(.a b6 0)) bk.o.symm _).qi (p:=(.a b6 1)) bk.o.symm _).qi (p:=(.a b6 2)) bk.o.symm _⟩
    case rest =>
     obtain⟨b6,cb,a4,rfl,Y,ai⟩:=hcut;have cw:=zH (HW.o.t h (yl HH.o));have cp:=zH (show h.qb.length<=6 from cw.o.l);have q0:wc.cell? (.a b5 0)=some (.slice fa h.qb.length fc):=ai.cell 0;have dm:=zH (show ∃ j lab fv ls,Value.int .i64 0=.i (j:Nat)/\h.qb.length=h.qb.length-j/\Cu C M w lab nb i J h j b6 cb fv ls wc from⟨0,a4,_,[],rfl,rfl,Y⟩);clear Y ai a5 a6;go_wp2_with fail;clear q0;go_loopg [62] h.qb.length (fun gk v62 wr=>∃ j lab fv ls,v62=.i (j:Nat)/\gk=h.qb.length-j/\Cu C M w lab nb i J h j b6 cb fv ls wr)
     case atStart=>exact dm.o
     case round =>
      obtain⟨j,c3,fv,ls,rfl,hg,Y⟩:=hrel;have d9:=zH hg;have a7:=zH Y;have dd:=zH Y.jl;clear hg Y;by_cases cj:j<h.qb.length
      ·obtain⟨F,hF⟩:∃ F,h.qb[j]?=some F:=⟨_,yc cj⟩;have hT:=(HG.o.below a7.o.c.b).mi.t i h v HH.o HV.o;obtain⟨lv,hlv⟩:∃ lv,v.ls[j]?=some lv:=⟨_,yc (by rw[hT.n];exact cj)⟩;obtain⟨fg,dw,br,_,_⟩:=hT.r.form yo;rw[cq.o]at br;injection br with br _ cy;subst br;subst cy;have bq:=zqy hT cq.o hF hlv;have cc:=hT.f j F lv hF hlv;obtain⟨la,lc,rfl⟩:=zZ cc.r;have f0:wr.cell? (.a fg (j*3))=some (.i F.at_):=bq 0 yo;have f1:wr.cell? (.a fg (j*3+1))=some (.slice la F.qc.length lc):=bq 1 yo;have f2:wr.cell? (.a fg (j*3+2))=some (.i F.back):=bq 2 yo;have d8:=zH hF;have dg:=zH (show F.qc.length<=1000 by
        obtain⟨i',gf,_,dn,hl⟩:=(cw.o.f F (yl hF)).at_;have:=(df.o.fs _ gf dn).1;omega)
       have c5:=zH cc.r;clear hF hT hlv bq cc;go_upto_region 9 with fail
       have al:Below wr.heap.size wr (wr.alloc (.k #[.i F.at_,.slice la F.qc.length lc,.i F.back] 250)):=yB.alloc yL _;have h8:Blk (wr.alloc (.k #[.i F.at_,.slice la F.qc.length lc,.i F.back] 250)) wr.heap.size 250 #[.i F.at_,.slice la F.qc.length lc,.i F.back]:=Blk.newAt rfl;have A:=zH (a7.o.below al);have bj:=zH (show c3 wr.heap.size=.out/\w.heap.size<=wr.heap.size/\wr.heap.size≠b6 from⟨a7.o.c.hi _ yL,a7.o.c.b.size,ybk a7.o.t6.lt⟩);have au:=zH (zn c5.o fun k e=>al.block k (c5.o.lt k e).2);clear f0 f1 f2 al a7 c5;generalize wr.alloc (.k #[.i F.at_,.slice la F.qc.length lc,.i F.back] 250)=w3 at A h8 au |-;generalize wr.heap.size=b8 at h8 bj |-;have c4:=zH h8;have e1:w3.cell? (.a b8 1)=some (.slice la F.qc.length lc):=h8.cell 1;clear h8;go_wp2_with fail;refine(zwj w3 0 _ F.qc dg.o au.o).mono ?_;rintro x w4 ⟨lw,rfl,bu,D⟩;obtain⟨ka,kc,rfl⟩:=zZ bu;have HC4:=zH (A.o.below D);have N:=zH (c4.o.below D c4.o.lt);have HR4:=zH (zm bu yZ);have HLL:=zH (show ∀ k,(Value.slice ka F.qc.length kc).ownBlock=some k->c3 k=.out/\w.heap.size<=k from fun k e=>by
        have:=(bu.lt k e).1;exact⟨A.o.c.hi k this,ya A.o.c.b.size this⟩)
       clear bu D e1 au c4 A;have e1:w4.cell? (.a b8 1)=some (.slice la F.qc.length lc):=N.o.cell 1;have ez:=N.o.frozen 1;have el:=N.o.lt;have a6:=zH ((N.o.qe 1 (.slice ka F.qc.length kc)).cast (cs':=#[.i F.at_,.slice ka F.qc.length kc,.i F.back]) yy);have a5:=zH (HC4.o.qi (p:=(.a b8 1)) bj.o.1 bj.o.2.1 bj.o.2.2 (.slice ka F.qc.length kc));have bm:=zH (zL HR4.o N.o yd 1 (.slice ka F.qc.length kc));clear N HC4 HR4;go_upto_region 10 with fail
       clear e1 ez el;generalize w4.setCell (.a b8 1) (.slice ka F.qc.length kc)=w5 at a6 a5 bm |-;have al:Below w5.heap.size w5 (w5.alloc (.k #[.i F.at_,.slice ka F.qc.length kc,.i F.back] 250)):=yB.alloc yL _;have cx:=zH (show Blk (w5.alloc (.k #[.i F.at_,.slice ka F.qc.length kc,.i F.back] 250)) w5.heap.size 250 #[.i F.at_,.slice ka F.qc.length kc,.i F.back]from Blk.newAt rfl);have an:=zH (a5.o.below al);have ct:=zH (zn bm.o fun k e=>al.block k (bm.o.lt k e).2);obtain⟨va,vc,rfl⟩:=zZ a5.o.r;have e0:w5.cell? (.a b6 0)=some (.slice va j vc):=a5.o.t6.cell 0;have g0:w5.cell? (.a b8 0)=some (.i F.at_):=a6.o.cell 0;have g1:w5.cell? (.a b8 1)=some (.slice ka F.qc.length kc):=a6.o.cell 1;have g2:w5.cell? (.a b8 2)=some (.i F.back):=a6.o.cell 2;clear al;go_wp2_with (at_builtin;refine zbj ?_);refine zbk ?_;refine ze2 zt5 rfl _ _ rfl 0 _ j (zds (h.qb.take j) ls) w5.heap.size _ _ an.o.r cx.o rfl rfl rfl yE (yq cp.o) yZ ?_;intro g cap w7 af ae az;have c8:=zH (an.o.push d8.o ct.o HLL.o af ae az);have d5:(Value.slice va j vc).ownBlock≠some b6:=fun e=>xy an.o.r an.o.t6 yd b6 e rfl;have bz:=an.o.t6.grown ae (fun e=>d5 e.symm);have e7:w7.cell? (.a b6 0)=some (.slice va j vc):=bz.cell 0;have z7:=bz.frozen 0;have l7:=bz.lt;clear af ae az d5 bz e0 g0 g1 g2 cx an ct a5 a6 bm
       go_frame
       go_wp2;go_roundg (h.qb.length-(j+1))
       case measure=>have:=d9.o;omega
       case rel =>
        obtain⟨bg,Y⟩:=c8.o;exact⟨j+1,bg,_,_,by rw[zdj (yq cp.o)],rfl,Y⟩
      ·obtain rfl:j=h.qb.length:=yq dd.o;go_upto_region 12 with fail
       clear cj;obtain⟨va,vc,rfl⟩:=zZ a7.o.r;obtain⟨ja,jc,cz⟩:=zZ a7.o.c.g.r;have ac:=zH cz;clear cz;refine rgm 10 (fun(W':World)=>W'.cell? (.a nb 1)=some (.slice ja i jc)/\∀ q,W'.cell? (.a b6 q)=#[.slice va h.qb.length vc,.bool h.ended,.m cb][q]?) ?_;have ap:=zH (a7.o.below ((yn _ wr).drew));generalize wr.drew=w8 at ap |-;have hHeld:=And.intro (show w8.cell? (.a nb 1)=some (.slice ja i jc)from(ap.o.c.g.m.cell 1).trans (by rw[ac.o];rfl)) ap.o.t6.cell
       iterate 6(refine tK 0 rfl hHeld ?_)
       refine rdy 6 rfl fun K hK=>?_;go_simp;have al:Below w8.heap.size w8 (w8.alloc (.k #[.slice va h.qb.length vc,.bool h.ended,.m cb] 254)):=yB.alloc yL _;have bo:=zH (show Blk (w8.alloc (.k #[.slice va h.qb.length vc,.bool h.ended,.m cb] 254)) w8.heap.size 254 #[.slice va h.qb.length vc,.bool h.ended,.m cb]from Blk.newAt rfl);have O:=zH (ap.o.below al);clear al hHeld ap;generalize w8.alloc (.k #[.slice va h.qb.length vc,.bool h.ended,.m cb] 254)=w9 at bo O |-;generalize w8.heap.size=xb at bo |-;refine hK.o _ _ ⟨(O.o.c.g.m.cell 1).trans (by rw[ac.o];rfl),O.o.t6.cell⟩ (fun hHeld=>?_);clear hK K;refine rdy 7 rfl fun K hK=>?_;refine zan zoq rfl _ _ rfl 0 _ i (zcg (M.qd.take i) J.tl) xb _ _ (by have:=O.o.c.g.r;rw[ac.o]at this;exact this) bo.o rfl rfl rfl yE (yq cu.o) yZ ?_;intro g cap dx af ae az;have c8:=zH (O.o.c.push HH.o (O.o.th rfl) af (by rw[ac.o];exact ae) (by rw[ac.o];exact az));have hmb:=O.o.c.g.m.grown ae (fun e=>by
        have:=O.o.c.g.rl nb (by rw[ac.o];exact e.symm);rw[O.o.c.g.ml]at this;cases this)
       have d6:=O.o.t6.grown ae (fun e=>by
        have:=O.o.c.g.rl b6 (by rw[ac.o];exact e.symm);rw[O.o.l6]at this;cases this)
       clear af ae az hHeld;refine hK.o _ _ ⟨(hmb.cell 1).trans (by rw[ac.o];rfl),d6.cell⟩ (fun hHeld=>?_);clear hK K
       iterate 2(refine tK 8 rfl hHeld ?_)
       have dq:=hmb.frozen;clear hmb d6;refine lst rfl fun K hK=>?_;go_simp;refine hK _ _ ?_;clear hK K hHeld dq bo O;go_wp2;go_roundg (M.qd.length-(i+1))
       case measure=>have:=da.o;omega
       case rel =>
        obtain⟨bg,a1⟩:=c8.o;exact⟨i+1,bg,_,by rw[zdj (yq cu.o)],rfl,a1⟩
   ·obtain rfl:i=M.qd.length:=yq dc.o;clear ck;obtain⟨V2,ad⟩:=ab.o.whole HG.o.on HW.o.n.1;have U:=zH (show Cd C M w lab nb [] [] V2 wr from⟨ab.o.b,ad,ab.o.lo⟩);have ak:=zH (show C.w0.heap.size<=w.heap.size from HG.o.on.size);obtain⟨m',d0,d1⟩:=HG.o.mi.k;have ao:=zH d0;have c6:=zH d1;have m5:wr.cell? (.a mb 5)=some (.m V.kb):=(HG.o.below ab.o.b).cells 5;clear ad ab d0 d1;go_wp2_with (at_range;refine zbj ?_);refine zbk ?_;refine zh1 rfl _ _ rfl underlying242 rfl (ao.o.qa (U.o.b.block _ ao.o.lt)) ?_;intro w1 be b7 cn;have c9:=zH (show CkI C M V w nb m' wr.heap.size lab m' [] V2 w1 from⟨be,U.o.below b7,fun x=>⟨fun _=>rfl,fun hx=>(HG.o.mi.kn x (by rw[<- c6.o,zll hx])).symm⟩,U.o.g.hi _ yL,U.o.b.size⟩);have di:=zH (show w.heap.size<=wr.heap.size from U.o.b.size);clear be b7 cn U m5;generalize wr.heap.size=rb at c9 di |-
    go_frame
    go_wp2_with fail;go_loopg [] m'.length (fun gk wr=>∃ left kc lab V2,gk=left.length/\CkI C M V w nb m' rb lab left kc V2 wr)
    case atStart=>exact⟨m',[],lab,V2,rfl,c9.o⟩
    case round =>
     clear c9;obtain⟨left,kc,S,V5,hg,hI⟩:=hrel;have bi:=zH hg;have G:=zH hI;clear hg hI;go_wp2_with (at_next;refine zbj ?_);refine zbk ?_;refine zg3 rfl _ rfl rfl G.o.q ?_ ?_
     ·intro hl;subst hl
      go_frame
      obtain⟨n',d2,d3⟩:=HG.o.mi.u;have aw:=zH d2;have cs:=zH d3;have m6:wr.cell? (.a mb 6)=some (.m V.ub):=(HG.o.below G.o.c.b).cells 6;have de:=zH (show ∀ x,mget kc x=mget M.qq x from G.o.e.none);have U:=zH G.o.c;clear d2 d3 G ao c6 bi;go_wp2_with (at_range;refine zbj ?_);refine zbk ?_;refine zh1 rfl _ _ rfl underlying243 rfl (aw.o.qa (U.o.b.block _ aw.o.lt)) ?_;intro w1 be b7 cn;have ca:=zH (show CuI C M V w nb n' wr.heap.size S n' kc [] V5 w1 from⟨be,U.o.below b7,fun x=>⟨fun _=>rfl,fun hx=>(HG.o.mi.un x (by rw[<- cs.o,zll hx])).symm⟩,U.o.g.hi _ yL,U.o.b.size⟩);clear be b7 cn U m6;generalize wr.heap.size=ub at ca |-
      go_frame
      go_wp2_with fail;go_loopg [] n'.length (fun gk wr=>∃ left uc lab V2,gk=left.length/\CuI C M V w nb n' ub lab left kc uc V2 wr)
      case atStart=>exact⟨n',[],S,V5,rfl,ca.o⟩
      case round =>
       clear ca;obtain⟨left,uc,S,V5,hg,hI⟩:=hrel;have bi:=zH hg;have G:=zH hI;clear hg hI;go_wp2_with (at_next;refine zbj ?_);refine zbk ?_;refine zg3 rfl _ rfl rfl G.o.q ?_ ?_
       ·intro hl;subst hl;have d7:=zH (show zox C M w (.r (.p nb)) wr from⟨nb,S,V5,rfl,G.o.c.g.cast de.o G.o.e.none,dh.o,G.o.c.b,G.o.c.lo⟩)
        go_frame
        go_wp2;go_ret;exact d7.o
       ·intro p l1 l2 w2 hl bf ad co ch;have am:=zH (G.o.c.iter ad G.o.rl G.o.rs ak.o);obtain⟨⟨I,L⟩,b⟩:=p;have aj:=G.o.q.sub ((I,L),b) (by rw[hl];simp);have bd:SpOk (I,L):=by
         obtain⟨_,_,_,_,_,h,_⟩:=aw.o;exact h _ aj
        have bb:mget V.ul (I,L)=some b:=by
         rw[<- cs.o];obtain⟨_,_,_,_,hn,_⟩:=aw.o;exact zea hn aj
        obtain⟨c,hc,_,b9⟩:=HG.o.mi.uc (I,L) b bb;have HLL:=zH (show(l1++l2).length<gk by rw[bi.o,hl];simp);have HE:=zH (zqf G.o.q.nodup hl G.o.e hc);have ah:=zH bf;have c7:=zH bd;have ay:=zH (And.intro G.o.rl G.o.rs);have aq:=zH b9;clear aj bd bb hc b9 hl bf ad co G;go_upto_region 21 with fail
        have al:Below w2.heap.size w2 (w2.alloc (.k #[.i I,.i L] 342)):=yB.alloc yL _;have hx:Blk (w2.alloc (.k #[.i I,.i L] 342)) w2.heap.size 342 #[.i I,.i L]:=Blk.newAt rfl;have A:=zH ((am.o.below al).below (yB.drew));have R:=zH (show zY (w2.alloc (.k #[.i I,.i L] 342)).drew V.ub ub spV SpOk mapV n' (l1++l2)from ah.o.qj (al.block _ ah.o.lt.1) (al.block _ ah.o.lt.2));have c2:=hx.drew;clear am ah ch al hx;refine rgm 7 (fun(W':World)=>W'.cell? (.a nb 6)=some (.m V5.ub)/\∀ j,W'.cell? (.a w2.heap.size j)=#[.i I,.i L][j]?) ?_;generalize (w2.alloc (.k #[.i I,.i L] 342)).drew=w3 at A R c2 |-;generalize w2.heap.size=xb at c2 |-;have bn:=zH c2;clear c2;have hHeld:=And.intro (show w3.cell? (.a nb 6)=some (.m V5.ub)from A.o.g.cells 6) bn.o.cell
        iterate 6(refine tK 0 rfl hHeld ?_)
        have E:=zH (zwi w3 (MapE.below aq.o A.o.b aq.o.lt));refine rdy 6 rfl fun K hK=>?_;go_simp;refine E.o.mono ?_;rintro e w4 ⟨rfl,a2,D,a9⟩;have HC4:=zH (A.o.name D a9 (.tch (I,L)));have dk:=zH (bn.o.below D bn.o.lt);have Q:=zH (show(if w3.heap.size=w3.heap.size then Rl.tch (I,L)else S w3.heap.size)=.tch (I,L)from yj rfl);have HR4:=zH (R.o.qj (D.block _ R.o.lt.1) (D.block _ R.o.lt.2));have Z:=zH (show(if ub=w3.heap.size then Rl.tch (I,L)else S ub)=.out from(yg (ybr R.o.lt.2)).trans ay.o.1);have HM4:=zH (show ze3 w4 w3.heap.size c from a2);clear a2 D a9 A R E hHeld bn;generalize w3.heap.size=cb at HC4 Q HM4 Z |-;refine hK.o _ _ ⟨HC4.o.g.cells 6,dk.o.cell⟩ (fun hHeld=>?_);clear hK K;obtain⟨w5,hup,hm5,hg5,hz5⟩:=HC4.o.g.mi.u.update zg1 underlying243 c7.o cb;have REL:=zH (show CuI C M V w nb n' ub _ (l1++l2) kc _ _ w5 from⟨HR4.o.qj (hg5.block _ HR4.o.lt.1 (fun e=>by
         injection e with e;have h1:=HC4.o.g.mi.ul;rw[<- e,HC4.o.lo _ aw.o.lt]at h1;cases h1)) (hg5.block _ HR4.o.lt.2 (fun e=>by
         injection e with e;have h1:=HC4.o.g.mi.ul;rw[<- e,Z.o]at h1;cases h1)),HC4.o.tch ak.o hg5 Q.o HM4.o hm5,HE.o,Z.o,ay.o.2⟩)
        exact mAc
     ·intro p l1 l2 w2 hl bf ad co ch;have am:=zH (G.o.c.iter ad G.o.rl G.o.rs ak.o);obtain⟨x,b⟩:=p;have aj:=G.o.q.sub (x,b) (by rw[hl];simp);have bd:(Lit.int .i64 x).wf=true:=by
       obtain⟨_,_,_,_,_,h,_⟩:=ao.o;exact h _ aj
      have bb:mget V.kl x=some b:=by
       rw[<- c6.o];obtain⟨_,_,_,_,hn,_⟩:=ao.o;exact zea hn aj
      obtain⟨c,hc,_,b9⟩:=HG.o.mi.kc x b bb;have HLL:=zH (show(l1++l2).length<gk by rw[bi.o,hl];simp);have HE:=zH (zqf G.o.q.nodup hl G.o.e hc);have ah:=zH bf;have c7:=zH bd;have ay:=zH (And.intro G.o.rl G.o.rs);have aq:=zH b9;clear aj bd bb hc b9 hl bf ad co G;go_upto_region 17 with fail
      have hm5:w2.drew.cell? (.a nb 5)=some (.m V5.kb):=am.o.g.cells 5;refine rgm 7 (fun(W':World)=>W'.cell? (.a nb 5)=some (.m V5.kb)) ?_;have A:=zH (am.o.below ((yn _ w2).drew));have R:=zH (show zY w2.drew V.kb rb intV (fun n=>(Lit.int .i64 n).wf=true) mapV m' (l1++l2)from ah.o);clear am ah ch;generalize w2.drew=w3 at A R hm5 |-;have hHeld:=hm5;clear hm5
      iterate 6(refine tK 0 rfl hHeld ?_)
      have E:=zH (zk4 w3 (MapE.below aq.o A.o.b aq.o.lt));refine rdy 6 rfl fun K hK=>?_;go_simp;refine E.o.mono ?_;rintro e w4 ⟨rfl,a2,D,a9⟩;have HC4:=zH (A.o.name D a9 (.mclk x));have Q:=zH (show(if w3.heap.size=w3.heap.size then Rl.mclk x else S w3.heap.size)=.mclk x from yj rfl);have HR4:=zH (R.o.qj (D.block _ R.o.lt.1) (D.block _ R.o.lt.2));have Z:=zH (show(if rb=w3.heap.size then Rl.mclk x else S rb)=.out from(yg (ybr R.o.lt.2)).trans ay.o.1);have HM4:=zH (show zb w4 w3.heap.size c from a2);clear a2 D a9 A R E hHeld;generalize w3.heap.size=cb at HC4 Q HM4 Z |-;have hm5:w4.cell? (.a nb 5)=some (.m V5.kb):=HC4.o.g.cells 5;refine hK.o _ _ hm5 (fun hHeld=>?_);clear hK K hm5;obtain⟨w5,hup,hm5,hg5,hz5⟩:=HC4.o.g.mi.k.update zdu underlying242 c7.o cb;have REL:=zH (show CkI C M V w nb m' rb _ (l1++l2) _ _ w5 from⟨HR4.o.qj (hg5.block _ HR4.o.lt.1 (fun e=>by
       injection e with e;have h1:=HC4.o.g.mi.kl;rw[<- e,HC4.o.lo _ ao.o.lt]at h1;cases h1)) (hg5.block _ HR4.o.lt.2 (fun e=>by
       injection e with e;have h1:=HC4.o.g.mi.kl;rw[<- e,Z.o]at h1;cases h1)),HC4.o.clk ak.o hg5 Q.o HM4.o hm5,HE.o,Z.o,ay.o.2⟩)
      exact mAc
end
def RcM (C:AX)(M:Mc)(w:World)(e:Ending)(w':World):Prop :=
 ∃ r mb lab V,e=.r (.p r)/\Blk w' r 172 #[.p mb]/\MSt C lab mb M V w'/\Below w.heap.size w w'/\w.heap.size<=r/\lab r=.out/\∀ k,k<w.heap.size->lab k=.out
structure PM (W:World)(q r mb:Nat):Prop where
 q:Blk W q 90 #[.p r]
 r:Blk W r 172 #[.p mb]
def PlM (C:AX)(M:Mc)(w:World)(e:Ending)(w':World):Prop :=
 ∃ q r mb lab V,e=.r (.p q)/\PM w' q r mb/\MSt C lab mb M V w'/\Below w.heap.size w w'/\w.heap.size<=q/\w.heap.size<=r/\lab q=.out/\lab r=.out/\∀ k,k<w.heap.size->lab k=.out
theorem rcstart (hr:Blk w q0 162 #[.p x])(hC:Calls prog 72 #[.p x] w fun e w'=>∃ mb lab V,e=.r (.p mb)/\MSt C lab mb M V w'/\Below w.heap.size w w'/\∀ k,k<w.heap.size->lab k=.out) :
  Calls prog 36 #[.p q0] w (RcM C M w):=by
 have HC:=zH hC;have r0:=hr.cell 0;clear hC hr;go_enter func36,ntmps36;exact mNb
theorem rccopy (hr:Blk w q0 172 #[.p x])(hC:Calls prog 122 #[.p x] w fun e w'=>∃ mb lab V,e=.r (.p mb)/\MSt C lab mb M V w'/\Below w.heap.size w w'/\∀ k,k<w.heap.size->lab k=.out) :
  Calls prog 79 #[.p q0] w (RcM C M w):=by
 have HC:=zH hC;have r0:=hr.cell 0;clear hC hr;go_enter func79,ntmps79;exact mNb
theorem plstart (hq:Blk w q0 82 #[.p x])(hC:Calls prog 36 #[.p x] w (RcM C M w)) :
  Calls prog 16 #[.p q0] w (PlM C M w):=by
 have HC:=zH hC;have r0:=hq.cell 0;clear hC hq;go_enter func16,ntmps16;exact mIb
theorem plcopy (hq:Blk w q0 90 #[.p x])(hC:Calls prog 79 #[.p x] w (RcM C M w)) :
  Calls prog 44 #[.p q0] w (PlM C M w):=by
 have HC:=zH hC;have r0:=hq.cell 0;clear hC hq;go_enter func44,ntmps44;exact mIb
theorem zzk (HC:AXok C)(hK:zu C.P)(hon:C.on w){pp rp:Nat}(hp:Blk w pp 82 #[.p rp])(hr:Blk w rp 162 #[.p C.pb]) :
  Calls prog 16 #[.p pp] w (PlM C (zef C.P) w) :=
 plstart hp (rcstart hr ((z0p HC hK w hon).mono fun e w' ⟨mb,lab,V,h1,h2,_,h3,h4⟩=>⟨mb,lab,V,h1,h2,h3,h4⟩))
theorem zzg (HC:AXok C)(hK:zu C.P)(hW:WfM C.P M)(g:MSt C lab0 mb M V w)(hp:PM w q r mb) :
  Calls prog 44 #[.p q] w (PlM C M w) :=
 plcopy hp.q (rccopy hp.r ((copy_any HC hK hW g).mono fun e w' ⟨mb,lab,V,h1,h2,_,h3,h4⟩=>⟨mb,lab,V,h1,h2,h3,h4⟩))
theorem rcready {l:List Nat}(hq:Blk w q0 172 #[.p x])(hC:Calls prog 118 #[.p x] w (zad w l)) :
  Calls prog 78 #[.p q0] w (zad w l):=by
 have HC:=zH hC;have r0:=hq.cell 0;clear hC hq;go_enter func78,ntmps78;exact mTb
theorem plready {l:List Nat}(hq:Blk w q0 90 #[.p x])(hC:Calls prog 78 #[.p x] w (zad w l)) :
  Calls prog 43 #[.p q0] w (zad w l):=by
 have HC:=zH hC;have r0:=hq.cell 0;clear hC hq;go_enter func43,ntmps43;exact mTb
theorem zzi (HC:AXok C)(hK:zu C.P)(hW:WfM C.P M)(g:MSt C lab0 mb M V w)(hp:PM w q r mb) :
  Calls prog 43 #[.p q] w (zad w (zex C.P M)) :=
 plready hp.q (rcready hp.r (zs3 HC hW hK g))
section
theorem zzd (n:Int)(w:World):Calls prog 372 #[.i n] w fun e w'=>e=.r (.tuple #[.i 0,.i n])/\w=w':=by
 go_enter func372,ntmps372;go_wp2_with fail;go_ret2;exact⟨rfl,rfl⟩
theorem zze (n:Int)(w:World):Calls prog 374 #[.i n] w fun e w'=>e=.r (.tuple #[.i 1,.i n])/\w=w':=by
 go_enter func374,ntmps374;go_wp2_with fail;go_ret2;exact⟨rfl,rfl⟩
theorem zzf (n:Int)(w:World):Calls prog 373 #[.i n] w fun e w'=>e=.r (.tuple #[.i 2,.i n])/\w=w':=by
 go_enter func373,ntmps373;go_wp2_with fail;go_ret2;exact⟨rfl,rfl⟩
def zkd:Vl->Int
 | .num _=>0
 | .obj _=>1
 | .thr _=>2
def zke:Vl->Int
 | .num n=>n
 | .obj n=>n
 | .thr n=>n
def zew (e:Evn):Array Value:=#[.i e.qw,.i e.kind,.i e.place,.i e.obj,.i e.field,.i (zkd e.val),.i (zke e.val),.bool e.ended]
theorem zw9 (ev:Evn)(w:World):Calls prog 37 #[.agg (za7 ev)] w fun e w'=>e=.r (.agg (zew ev))/\Below w.heap.size w w':=by
 obtain⟨H,E,G,eo,D,vl,A⟩:=ev;have J:=zH zzd;have K:=zH zze;have L:=zH zzf;unfold za7 zew at *;go_enter func37,ntmps37;rcases vl with n | n | n
 ·simp only[vlV,zkd,zke]at *;go_wp2_with fail;refine(J.o n _).mono ?_;rintro e w3 ⟨rfl,rfl⟩;go_wp2_with fail;have I:Blk (((w.alloc (.k #[.i H,.i E,.i G,.i eo,.i D,.iface 256 (.i n),.bool A] 95)).alloc (.k #[.i H,.i E,.i G,.i eo,.i D,.i 0,.i n,.bool A] 43)).alloc (.k #[.i H,.i E,.i G,.i eo,.i D,.i 0,.i n,.bool A] 43)) (w.heap.size+1) 43 #[.i H,.i E,.i G,.i eo,.i D,.i 0,.i n,.bool A]:=(Blk.newAt yy).alloc _;have q:=I.cell;refine ym (v:=.agg #[.i H,.i E,.i G,.i eo,.i D,.i 0,.i n,.bool A]) (by simp[results,results37,go_sem,q]) rfl ?_;exact⟨rfl,(((yn w.heap.size w).alloc yL _).alloc yy _).alloc (by simp;omega) _⟩
 ·simp only[vlV,zkd,zke]at *;go_wp2_with fail;refine(K.o n _).mono ?_;rintro e w3 ⟨rfl,rfl⟩;go_wp2_with fail;have I:Blk (((w.alloc (.k #[.i H,.i E,.i G,.i eo,.i D,.iface 451 (.i n),.bool A] 95)).alloc (.k #[.i H,.i E,.i G,.i eo,.i D,.i 1,.i n,.bool A] 43)).alloc (.k #[.i H,.i E,.i G,.i eo,.i D,.i 1,.i n,.bool A] 43)) (w.heap.size+1) 43 #[.i H,.i E,.i G,.i eo,.i D,.i 1,.i n,.bool A]:=(Blk.newAt yy).alloc _;have q:=I.cell;refine ym (v:=.agg #[.i H,.i E,.i G,.i eo,.i D,.i 1,.i n,.bool A]) (by simp[results,results37,go_sem,q]) rfl ?_;exact⟨rfl,(((yn w.heap.size w).alloc yL _).alloc yy _).alloc (by simp;omega) _⟩
 ·simp only[vlV,zkd,zke]at *;go_wp2_with fail;refine(L.o n _).mono ?_;rintro e w3 ⟨rfl,rfl⟩;go_wp2_with fail;have I:Blk (((w.alloc (.k #[.i H,.i E,.i G,.i eo,.i D,.iface 401 (.i n),.bool A] 95)).alloc (.k #[.i H,.i E,.i G,.i eo,.i D,.i 2,.i n,.bool A] 43)).alloc (.k #[.i H,.i E,.i G,.i eo,.i D,.i 2,.i n,.bool A] 43)) (w.heap.size+1) 43 #[.i H,.i E,.i G,.i eo,.i D,.i 2,.i n,.bool A]:=(Blk.newAt yy).alloc _;have q:=I.cell;refine ym (v:=.agg #[.i H,.i E,.i G,.i eo,.i D,.i 2,.i n,.bool A]) (by simp[results,results37,go_sem,q]) rfl ?_;exact⟨rfl,(((yn w.heap.size w).alloc yL _).alloc yy _).alloc (by simp;omega) _⟩
def zpc (C:AX)(lab:Lab)(mb:Nat)(M':Mc)(v:Value)(w:World)(e:Ending)(w':World):Prop :=
 e=.r v/\∃ lab' V',MSt C lab' mb M' V' w'/\(∀ k,k<w.heap.size->lab' k=lab k)/\∀ eb,Out lab eb w w'
section
variable {C:AX} {lab:Lab} {mb:Nat} {M:Mc} {V:MV} {w:World}
theorem zzt (HC:AXok C)(hK:zu C.P)(g:MSt C lab mb M V w)(W:WfM C.P M)(hJ:NoJ C.P M)(hs:M.steps+1<4000000000000000000)(c:Int)(hc:iw c)(hr:Blk w r 172 #[.p mb]) :
  Calls prog 38 #[.p r,.i c] w (zpc C lab mb (za6 C.P M c).1 (.agg (za7 (za6 C.P M c).2)) w):=by
 obtain⟨R,hR⟩:∃ R,za6 C.P M c=R:=⟨_,rfl⟩;have HS:=zH (Step_any HC hK (g.alloc (.cells zbi 95)) W hJ hs c hc);rw[hR]at HS |-;have G:=zH g;have hx:Blk (w.alloc (.cells zbi 95)) w.heap.size 95 zbi:=Blk.newAt rfl;have a2:=zH (fun U=>(Out.refl lab U w).alloc (.cells zbi 95));have r0:=(hr.alloc (.cells zbi 95)).cell 0;have Q:=zH (show lab w.heap.size=.out from g.hi _ yL);have Z:=zH g.on.size;clear g W hJ hs hc hr hR;unfold zbi at *;go_enter func38,ntmps38;go_wp2_with fail;refine HS.o.mono ?_;rintro e Y ⟨rfl,A,V2,S,I,J⟩;have E:=zH ((((J (w.heap.size+1)).block w.heap.size hx.lt Q.o yo).trans hx:Blk Y w.heap.size 95 _));have a1:=zH (show ∀ k,k<w.heap.size->A k=lab k from fun k hk=>I k (by simp;omega));have N:=zH (show A w.heap.size=.out from(I _ hx.lt).trans Q.o);have a3:=zH (fun U=>(a2.o U).trans (J U) (fun _ _=>rfl));have a0:=zH S;clear S I J hx r0 HS;obtain⟨M',ev⟩:=R;obtain⟨L,z,hy⟩:=za3 ev.val;have HY:=zH hy;unfold za7;rw[hy];clear hy;obtain⟨xb,K⟩:∃ xb,xb=w.heap.size:=⟨_,rfl⟩;have H:=zH K;rw[<- K]at E N |-;clear K;go_wp2_with (refine wpList_store_row rfl 95 _ _ rfl xb _ rfl rfl _ _ E.o yk rfl yE ?_);have S8:=zH (a0.o.row xb N.o (by rw[H.o];exact Z.o) #[.i ev.qw,.i ev.kind,.i ev.place,.i ev.obj,.i ev.field,.iface L (.i z),.bool ev.ended]);have O:=zH ((a3.o xb).final (rb:=xb) (by rw[H.o];exact yr _) (by rw[H.o];exact yr _) #[.i ev.qw,.i ev.kind,.i ev.place,.i ev.obj,.i ev.field,.iface L (.i z),.bool ev.ended]);have D:Blk (Y.setRow xb #[.i ev.qw,.i ev.kind,.i ev.place,.i ev.obj,.i ev.field,.iface L (.i z),.bool ev.ended]) xb 95 #[.i ev.qw,.i ev.kind,.i ev.place,.i ev.obj,.i ev.field,.iface L (.i z),.bool ev.ended]:=setRow_heap _ _ _ _ _ _ E.o;change bodyPost _ _ _ _ _ (Y.setRow xb #[.i ev.qw,.i ev.kind,.i ev.place,.i ev.obj,.i ev.field,.iface L (.i z),.bool ev.ended])
 generalize Y.setRow xb #[.i ev.qw,.i ev.kind,.i ev.place,.i ev.obj,.i ev.field,.iface L (.i z),.bool ev.ended]=wz at D S8 O |-;have q0:=D.cell 0;have q1:=D.cell 1;have q2:=D.cell 2;have q3:=D.cell 3;have q4:=D.cell 4;have q5:=D.cell 5;have q6:=D.cell 6;refine ym (v:=.agg #[.i ev.qw,.i ev.kind,.i ev.place,.i ev.obj,.i ev.field,.iface L (.i z),.bool ev.ended]) (by simp[results,results38,go_sem,q0,q1,q2,q3,q4,q5,q6]) rfl ?_;exact⟨by unfold za7;rw[HY.o],A,_,S8.o,a1.o,O.o⟩
theorem zzl (HC:AXok C)(hK:zu C.P)(g:MSt C lab mb M V w)(W:WfM C.P M)(hJ:NoJ C.P M)(hs:M.steps+1<4000000000000000000)(c:Int)(hc:iw c)(hp:PM w q r mb) :
  Calls prog 17 #[.p q,.i c] w (zpc C lab mb (za6 C.P M c).1 (.agg (zew (za6 C.P M c).2)) w):=by
 have HS:=zH (zzt HC hK (g.alloc (.k #[.i 0,.i 0,.i 0,.i 0,.i 0,.i 0,.i 0,.bool false] 43)) W hJ hs c hc (hp.r.alloc _));obtain⟨R,hR⟩:∃ R,za6 C.P M c=R:=⟨_,rfl⟩;rw[hR]at HS |-;have hx:Blk (w.alloc (.k #[.i 0,.i 0,.i 0,.i 0,.i 0,.i 0,.i 0,.bool false] 43)) w.heap.size 43 #[.i 0,.i 0,.i 0,.i 0,.i 0,.i 0,.i 0,.bool false]:=Blk.newAt rfl;have a3:=zH (fun K=>(Out.refl lab K w).alloc (.k #[.i 0,.i 0,.i 0,.i 0,.i 0,.i 0,.i 0,.bool false] 43));have r0:=(hp.q.alloc (.k #[.i 0,.i 0,.i 0,.i 0,.i 0,.i 0,.i 0,.bool false] 43)).cell 0;have Y:=zH (show lab w.heap.size=.out from g.hi _ yL);have a0:=zH g.on.size;have L:=zH zw9;clear g W hJ hs hc hp hR;go_enter func17,ntmps17;go_wp2_with fail;refine HS.o.mono ?_;rintro e w2 ⟨rfl,A,V2,Z,H,I⟩;obtain⟨M',ev⟩:=R;have D:=zH (show Blk w2 w.heap.size 43 #[.i 0,.i 0,.i 0,.i 0,.i 0,.i 0,.i 0,.bool false]from((I (w.heap.size+1)).block w.heap.size hx.lt Y.o yo).trans hx);have a2:=zH (show ∀ k,k<w.heap.size->A k=lab k from fun k hk=>H k (by simp;omega));have O:=zH (show A w.heap.size=.out from(H _ hx.lt).trans Y.o);have Q:=zH (fun K=>(a3.o K).trans (I K) (fun _ _=>rfl));have N:=zH Z;clear Z H I hx r0 HS;obtain⟨xb,J⟩:∃ xb,xb=w.heap.size:=⟨_,rfl⟩;have G:=zH J;rw[<- J]at D O |-;clear J;have HE:=zH (fun w=>L.o ev w)
 dsimp only at HE |-
 go_wp2_with fail;refine(HE.o w2).mono ?_;rintro e w3 ⟨rfl,E⟩;have U:=zH (D.o.below E D.o.lt);have a1:=zH (N.o.below E);have a4:=zH (fun K=>(Q.o K).below E yL);clear E HE L D N Q;unfold zew;go_wp2_with (refine wpList_store_row rfl 43 _ _ rfl xb _ rfl rfl _ _ U.o yk rfl yE ?_);have S8:=zH (a1.o.row xb O.o (by rw[G.o];exact a0.o) (zew ev));have S:=zH ((a4.o xb).final (rb:=xb) (by rw[G.o];exact yr _) (by rw[G.o];exact yr _) (zew ev));have k6:Blk (w3.setRow xb (zew ev)) xb 43 (zew ev):=setRow_heap _ _ _ _ _ _ U.o;change bodyPost _ _ _ _ _ (w3.setRow xb (zew ev))
 generalize w3.setRow xb (zew ev)=wz at k6 S8 S |-;unfold zew at k6;have q:=k6.cell;refine ym (v:=.agg #[.i ev.qw,.i ev.kind,.i ev.place,.i ev.obj,.i ev.field,.i (zkd ev.val),.i (zke ev.val),.bool ev.ended]) (by simp[results,results17,go_sem,q]) rfl ?_;exact⟨rfl,A,_,S8.o,a2.o,S.o⟩
end
end
section
theorem len64_0 (w:World):Calls prog 175 #[.int .u64 0] w fun e w'=>e=.r (.i 0)/\w=w':=by
 go_enter func175,ntmps175;go_wp2;go_ret;exact⟨by kernel_rfl,rfl⟩
theorem len_0 (w:World):Calls prog 121 #[.int .u64 0] w fun e w'=>e=.r (.i 0)/\w=w':=by
 have H:=zH len64_0;go_enter func121,ntmps121;go_wp2_with fail;refine(H.o _).mono ?_;rintro e A ⟨rfl,rfl⟩;go_wp2;go_ret;exact⟨rfl,rfl⟩
theorem zxu (v:Value)(w:World):Calls prog 166 #[.z,.i 0,.i 0,v] w fun e w'=>e=.e/\w=w':=by
 go_enter func166,ntmps166;go_wp2_with fail;refine wp_loop_rounds 1 ?_;rw[rounds_succ];go_wp2_with fail;refine bodyPost_end (yp rfl _ _ _) rfl ?_;exact⟨rfl,rfl⟩
theorem pdq_none (v:Value)(w:World):Calls prog 120 #[.z,.i 0,.i 0,.i 0,v] w fun e w'=>e=.e/\w=w':=by
 have H:=zH (zxu v);go_enter func120,ntmps120;go_wp2_with fail;refine wp_loop_rounds 1 ?_;rw[rounds_succ];go_wp2_with fail;refine(H.o _).mono ?_;rintro e A ⟨rfl,rfl⟩;go_wp2_with fail;refine ym (yp rfl _ _ _) rfl ?_;exact⟨rfl,rfl⟩
theorem z0m (v:Value)(w:World):Calls prog 74 #[.z,v] w fun e w'=>e=.e/\w=w':=by
 have A:=zH len_0;have D:=zH (pdq_none v);go_enter func74,ntmps74;go_wp2_with fail;refine(A.o _).mono ?_;rintro e E ⟨rfl,rfl⟩;go_wp2_with fail;refine(D.o _).mono ?_;rintro e E ⟨rfl,rfl⟩;go_wp2_with fail;refine bodyPost_end (yp rfl _ _ _) rfl ?_;exact⟨rfl,rfl⟩
theorem zw6 (w:World):Calls prog 42 #[.z,.z] w fun e w'=>e=.r (.bool true)/\w=w':=by
 go_enter func42,ntmps42;go_wp2_with fail;refine wp_loop_rounds 1 ?_;rw[rounds_succ];go_wp2;go_ret;exact⟨rfl,rfl⟩
theorem MapE.empty {κ ν: Type} [DecidableEq κ] {enc:κ -> Value} {ok:κ -> Prop} {encv:ν -> Value} {w:World}  {m:List (κ × ν)} (h:MapE w b enc ok encv m) (h0:∀ x,mget m x=none):zG w b enc ok encv ([]:List (κ × ν)):=by
 obtain⟨A,h1,h2⟩:=h;have:A=[]:=by
  cases A with
  | nil=>rfl
  | cons p l =>
   have:=h2 p.1;rw[h0]at this;simp[mget]at this
 rw[<- this];exact h1
theorem zrn {w:World}(h:zG w b spV SpOk intV ([]:List (Sp×Int))):Calls prog 39 #[.m b] w fun e w'=>e=.r (.z)/\Below w.heap.size w w':=by
 have H:=zH h;have J:=zH z0m;clear h;go_enter func39,ntmps39;go_wp2_with (at_range;refine zbj ?_);refine zbk ?_;refine zh1 rfl _ _ rfl underlying98 rfl H.o ?_;intro O D A E;have I:=zH D;have G:=zH A;clear D A E
 go_frame
 go_wp2_with fail;refine wp_loop_rounds 1 ?_;rw[rounds_succ];go_wp2_with (at_next;refine zbj ?_);refine zbk ?_;refine zg3 rfl _ rfl rfl I.o ?_ ?_
 ·intro _
  go_frame
  go_wp2_with fail;refine(J.o _ _).mono ?_;rintro e K ⟨rfl,rfl⟩;go_wp2;go_ret;exact⟨rfl,G.o⟩
 ·intro p L N K hl;simp at hl
theorem zG.clear0 {P:Program}{k e:TypeId}{κ ν: Type}{enc:κ -> Value}{ok:κ -> Prop}{encv:ν -> Value}{w:World}(h:zG w b enc ok encv ([]:List (κ × ν)))(ht:P.underlying t=some (.map k e)) :
  ∃ w',(∀ D,(Builtin.clear_ #[t] D #[.m b]).run P w=.ok (.tuple #[]) w')/\zG w' b enc ok encv ([]:List (κ × ν))/\w.grownBy w' (some b)/\w'.heap.size=w.heap.size:=by
 obtain⟨I,clock,hb,J,hn,E,G,H⟩:=h;have A:=lt_of_block hb;refine⟨setBlock w b (.map #[] clock),fun D=>?_,⟨#[],clock,by simp[setBlock,A],by simp,by simp,by simp,by simp,by simp⟩,⟨rfl,rfl,rfl,by simp[setBlock],fun i _ hi=>?_⟩,by simp[setBlock]⟩
 ·simp[Builtin.clear_,run_underlying ht,yX hb,yan _ hb,Result.andThen,setBlock]
 ·simp only[setBlock];rw[yba (by intro e;exact hi (by rw[e]))]
section
variable {C:AX} {lab:Lab} {mb:Nat} {M:Mc} {V:MV} {w:World}
theorem zzr (g:MSt C lab mb M V w)(hr:Blk w r 172 #[.p mb]) :
  Calls prog 41 #[.p r] w fun e w'=>e=.r (.m w.heap.size)/\MapE w' w.heap.size spV SpOk intV M.races/\Below w.heap.size w w':=by
 have D:=zH (zzq g);have r0:=hr.cell 0;clear g hr;go_enter func41,ntmps41;go_wp2_with fail;refine D.o.mono ?_;rintro e E ⟨rfl,hm,hb⟩;have A:=zH (And.intro hm hb);clear hm hb;go_wp2;go_ret;exact⟨rfl,A.o⟩
theorem zzh (g:MSt C lab mb M V w)(h0:∀ x,mget M.races x=none)(hp:PM w q r mb) :
  Calls prog 19 #[.p q] w fun e w'=>e=.r (.tuple #[.z,.bool true])/\Below w.heap.size w w':=by
 have G:=zH g;have HP:=zH hp;have H0:=zH h0;have q0:=hp.q.cell 0;have R:=zH (fun(W:World) (hb:Below w.heap.size w W)=>zzr (G.o.below hb) (hp.r.below hb hp.r.lt));have hq:=fun(w:World) (b:Nat)=>run_eql_map_nil_sl (P:=prog) w 98 _ _ (some b) underlying98;clear g h0 hp;go_enter func19,ntmps19;go_wp2_with fail;refine(R.o w yB).mono ?_;rintro e w1 ⟨rfl,a2,S⟩;have A:=a2.empty H0.o;have I:=zH S;obtain⟨a,ha⟩:∃ a,a=w.heap.size:=⟨_,rfl⟩;rw[<- ha]at A |-;have HA:=zH ha;have E:=zH A;have N:=zH (fun W hb=>zrn (E.o.qa (w':=W) hb));clear a2 S ha q0 A;go_wp2_with fail;refine(N.o w1 rfl).mono ?_;rintro e w2 ⟨rfl,H⟩;have Q:=zH (E.o.qa (H.block _ E.o.lt));have J:=zH (I.o.trans (H.mono I.o.size));obtain⟨w3,Z,a3,a0,a8⟩:=Q.o.clear0 underlying98;obtain⟨w4,a7,a6,a1,a9⟩:=a3.toE.update prKey underlying98 (show SpOk ((-1,-1):Sp)from⟨⟨by decide,by decide⟩,⟨by decide,by decide⟩⟩) (7:Int);have K:=zH (J.o.grown a0 J.o.size (fun k e=>by injection e with e;rw[<- e,HA.o];exact yr _));have D:=zH (K.o.grown a1 K.o.size (fun k e=>by injection e with e;rw[<- e,HA.o];exact yr _));have q0:w4.cell? (.a q 0)=some (.p r):=(HP.o.q.below D.o HP.o.q.lt).cell 0;clear H a3 a0 a8 a6 a1 a9 N E Q hq;go_wp2_with fail;refine(R.o w4 D.o).mono ?_;rintro e w5 ⟨rfl,a4,U⟩;have L:=zH (D.o.trans (U.mono D.o.size));have O:=zH (zrn (a4.empty H0.o));clear a4 U Z a7 q0;go_wp2_with fail;refine O.o.mono ?_;rintro e w6 ⟨rfl,Y⟩;have a5:=zH (L.o.trans (Y.mono L.o.size));have HE:=zH (zw6 w6);clear Y O;go_wp2_with fail;refine HE.o.mono ?_;rintro e w7 ⟨rfl,rfl⟩;go_wp2_with fail;go_ret2;exact⟨rfl,a5.o⟩
end
end
section
section
variable {C:AX} {lab:Lab} {mb:Nat} {M:Mc} {V:MV} {w:World}
theorem zy1 (g:MSt C lab mb M V w)(h0:∀ x,mget M.races x=none)(hp:PM w q r mb) :
  Calls prog 47 #[.p q] w fun e w'=>e=.r (.tuple #[.z,.bool true])/\Below w.heap.size w w':=by
 have H:=zH (zzh g h0 hp);clear g h0 hp;go_enter func47,ntmps47;go_wp2_with fail;refine H.o.mono ?_;rintro e D ⟨rfl,hb⟩;have A:=zH hb;clear hb;go_wp2_with fail;refine wp_loop_rounds 1 ?_;rw[rounds_succ];go_wp2_with fail;go_ret2;exact⟨rfl,A.o⟩
end
theorem zzw (v:Value)(w:World):Calls prog 49 #[.z,v] w fun e w'=>e=.r (.bool true)/\w=w':=by
 go_enter func49,ntmps49;go_wp2_with fail;refine wp_loop_rounds 1 ?_;rw[rounds_succ];go_wp2;go_ret;exact⟨rfl,rfl⟩
end
section
def tryM (P:Pr)(n:Nat)(todo:List Mc):List Mc×List Mc :=
 match todo[if n % 3=0 then todo.length-1 else 0]?,todo.getLast? with
 | some m,some l=>((todo.set (if n % 3=0 then todo.length-1 else 0) l).dropLast,(List.range (zex P m).length).map (fun(j:Nat)=>(za6 P m (j:Int)).1))
 | _,_=>([],[])
def zgc (P:Pr):Nat->Nat->List Mc->Bool
 | 0,_,_=>true
 | _+1,_,[]=>true
 | f+1,n,todo=>let r:=tryM P n todo;if r.2.all (fun m=>m.races.isEmpty)then zgc P f (n+1) (r.1++r.2)else false
structure zeo (P:Pr)(n:Nat)(M:Mc):Prop where
 w:WfM P M
 j:NoJ P M
 s:M.steps<=n
 r:M.races=[]
theorem zeo.no {P:Pr}{n:Nat}(h:zeo P n M):∀ x,mget M.races x=none:=fun x=>by rw[h.r];rfl
theorem zeo.le {P:Pr}{n m:Nat}(h:zeo P n M)(hm:n<=m):zeo P m M:=⟨h.w,h.j,ya h.s hm,h.r⟩
theorem zeo.step {P:Pr}{n:Nat}(hK:zu P)(h:zeo P n M)(c:Int)(hr:(za6 P M c).1.races=[]):zeo P (n+1) (za6 P M c).1:=by
 obtain⟨h1,h2,h3⟩:=wf_Step hK h.w h.j c;exact⟨h1,h2,by have:=h.s;omega,hr⟩
theorem zxm {P:Pr}(hK:zu P)(hm:P.main<P.fs.length):zeo P 0 (zef P):=by
 obtain⟨g,A⟩:∃ g,P.fs[P.main]?=some g:=⟨_,yc hm⟩;obtain⟨hl,i,hi,D⟩:=hK.fs _ g A;have e:zbo P { qd:=[{ qb:=[{ at_:=g.from_,qc:=zp g.locals,back:=-1 }],ended:=false,clock:=[(0,1)] }],held:=[],qt:=0,owner:=[],qq:=[],qp:=[],races:=[],steps:=0 } 0=zef P:=by
  unfold zef;rw[A];rfl
 have G:WfMb P 1 { qd:=[{ qb:=[{ at_:=g.from_,qc:=zp g.locals,back:=-1 }],ended:=false,clock:=[(0,1)] }],held:=[],qt:=0,owner:=[],qq:=[],qp:=[],races:=[],steps:=0 }:=by
  refine⟨⟨by simp,by simp⟩,fun h E=>?_,yD _,nofun,nofun⟩;simp at E;subst E;refine⟨by simp,fun _=>by simp,fun f hf=>?_,fun k f g h=>by simp at h,fun x n hx=>?_⟩
  ·simp at hf;subst hf;refine⟨⟨i,g,hi,by rw[D];exact A,by simp[zp]⟩,fun x hx=>?_⟩;rw[ybo hx];exact⟨by decide,by decide⟩
  ·simp only[mget]at hx;split at hx
   ·injection hx with hx;omega
   ·cases hx
 obtain⟨h1,h2⟩:=zue (t:=0) hK G (fun u h hu hne=>by
  cases u with
  | zero=>exact absurd rfl hne
  | succ u=>simp at hu)
 rw[e]at h1 h2;refine⟨?_,h2,yr _,rfl⟩;exact h1
structure Hd where
 q:Nat
 r:Nat
 mb:Nat
 lab:Lab
 V:MV
 M:Mc
structure Pool (C:AX)(P:List Hd)(W:World):Prop where
 b:C.on W
 h:∀ e ∈ P,MSt C e.lab e.mb e.M e.V W/\PM W e.q e.r e.mb
def hndV (e:Hd):Value:=.p e.q
structure Td (C:AX)(tv:Value)(R P:List Hd)(W:World):Prop where
 p:Pool C P W
 r:W.ownsRow C.w0.heap.size 40 1 tv R.length (R.map hndV)
 s:∀ e ∈ R,e ∈ P
 t:∀ e ∈ P,∀ k,tv.ownBlock=some k->e.lab k=.out
theorem tyPM:zj prog 119 40 1 8:=zj.mk' underlying119 (z:=.pointer none) yk rfl yd yd
section
variable {C:AX} {tv:Value} {R P:List Hd} {W W':World} {g c n:Nat} {e:Hd}
theorem Pool.below (p:Pool C P W)(hb:Below W.heap.size W W'):Pool C P W' :=
 ⟨p.b.trans (hb.mono p.b.size),fun e A=>⟨(p.h e A).1.below hb,(p.h e A).2.q.below hb (p.h e A).2.q.lt,(p.h e A).2.r.below hb (p.h e A).2.r.lt⟩⟩
theorem Td.below (s:Td C tv R P W)(hb:Below W.heap.size W W'):Td C tv R P W' :=
 ⟨s.p.below hb,zn s.r fun k e=>hb.block k (s.r.lt k e).2,s.s,s.t⟩
theorem Td.own (s:Td C tv R P W)(hg:W.grownBy W' tv.ownBlock):Pool C P W':=by
 refine⟨s.p.b.grown hg s.p.b.size (fun k e=>(s.r.lt k e).1),fun e he=>?_⟩;obtain⟨h1,h2,h3⟩:=s.p.h e he;refine⟨h1.o (fun k A=>hg.block k ?_ (fun e2=>A (s.t e he k e2.symm))) (s.p.b.grown hg s.p.b.size (fun k e=>(s.r.lt k e).1)) hg.size,h2.grown hg (fun e2=>xy s.r h2 yd e.q e2.symm rfl),h3.grown hg (fun e2=>xy s.r h3 yd e.r e2.symm rfl)⟩;rcases yF k W.heap.size with h | h
 ·exact h
 ·exact absurd (h1.hi k h) A
theorem Td.qe (s:Td C (.s g R.length c) R P W)(k:Nat)(he:e ∈ P):Td C (.s g (R.set k e).length c) (R.set k e) P (W.setCell (.a g k) (hndV e)):=by
 obtain⟨h1,h2⟩:=s.r.stored k (hndV e);refine⟨s.own h2,?_,fun x hx=>?_,fun x hx q hq=>s.t x hx q hq⟩
 ·rw[ybw,yco];exact h1
 ·rcases ya2 hx with h | h
  ·exact s.s x h
  ·rw[h];exact he
theorem Td.cut (s:Td C (.s g R.length c) R P W):Td C (.s g R.dropLast.length c) R.dropLast P W:=by
 refine⟨s.p,?_,fun x hx=>s.s x (List.dropLast_subset _ hx),fun x hx q hq=>s.t x hx q hq⟩;have:=ztf s.r (m:=R.dropLast.length) yy;rw[List.length_dropLast]at this |-;rw[yci,<- List.map_take,<- List.dropLast_eq_take]at this;exact this
theorem Td.push (s:Td C tv R P W)(h1:MSt C e.lab e.mb e.M e.V W)(h2:PM W e.q e.r e.mb)(ht:∀ k,tv.ownBlock=some k->e.lab k=.out)
  (hrow:W'.ownsRow C.w0.heap.size 40 1 (.s g (R.length+1) c) (R.length+1) (R.map hndV++[hndV e])) (hg:W.grownBy W' tv.ownBlock) (hat:tv.ownBlock=some g\/g=W.heap.size) :
  Td C (.s g (R++[e]).length c) (R++[e]) (P++[e]) W':=by
 have s2:Td C tv R (P++[e]) W:=⟨⟨s.p.b,fun x hx=>by
  rcases yu.1 hx with hx | hx
  ·exact s.p.h x hx
  ·simp at hx;subst hx;exact⟨h1,h2⟩⟩,s.r,fun x hx=>List.mem_append_left _ (s.s x hx),fun x hx=>by
  rcases yu.1 hx with hx | hx
  ·exact s.t x hx
  ·simp at hx;subst hx;exact ht⟩
 refine⟨s2.own hg,?_,fun x hx=>?_,fun x hx k A=>?_⟩
 ·rw[yx,yat];exact hrow
 ·rcases yu.1 hx with hx | hx
  ·exact List.mem_append_left _ (s.s x hx)
  ·exact List.mem_append_right _ hx
 ·injection A with A;subst A;rcases hat with h | h
  ·exact s2.t x hx g h
  ·exact(s2.p.h x hx).1.hi g yo
end
end
end Go.Proofs.YtkmcihhndgdhpaaGreat
