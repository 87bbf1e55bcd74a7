/- Parts of the walk. -/
import Derived.Test.YtkmcihhndgdhpaaGreatWA1
import Derived.Deep.RegionLaw
import Derived.Deep.DeepCutAuto
set_option maxRecDepth 100000
set_option maxHeartbeats 4000000
set_option linter.unusedSimpArgs false
set_option linter.unusedVariables false
open Go.RowKit Go.Proofs.Tryz
namespace Go.Proofs.YtkmcihhndgdhpaaGreat
variable {w w1 w2 w0 w3 w4:World}{xb B B' n:Nat}{x:Stm}{s s3 s4 s2:Sc}{dv v:Value}{ptrs xs news:List Nat}{l:List Stm}{a:ByteArray}{ts:List TypeId}{p:List Stm×Sc}
theorem mBa {p:Prop}(h:p:=by
  have H40:=zH h40;have H46:=zH h46;have hnum:=HNUM.o;clear h40 h46;refine(zy S3.o.e 40).mono ?_;rw[H40.o];rintro e w' ⟨rfl,rfl⟩;go_wp2_with fail;refine(zy S3.o.e 46).mono ?_;rw[H46.o];rintro e w' ⟨rfl,rfl⟩;go_wp2_with fail;have MD2:=zH (show zaj C.t s x=xw C.t p2.2 { x with mark:=s.tok.at_,y:=p2.1,op:=1 } from by have h:=MD1.o;simp only[H40.o,H46.o]at h;simpa using h);refine zK (fun W=>SEnv C xb w W p2.2 { x with mark:=s.tok.at_,y:=p2.1,op:=1 }) ((((S2.o.vn p2.1).qx 1).alloc _)) ?_;intro w4 hS4;have S4:=zH hS4;obtain⟨hp4,hs4,hx4⟩:=hS4.cells;obtain⟨av4,bv4,ev4,hy4,_⟩:=hS4.x.cells;obtain⟨hl4,hm4,hn4⟩:=hS4.qy;clear hS4;refine(zjj C xb _ _ _ S4.o.e S4.o.x hB S4.o.rbw).mono ?_;intro e w5 hP;have hP':=S4.o.last MD2.o hP;rcases hP with⟨p,v,h1,rfl,⟨rfl,_⟩,_⟩ | ⟨f,b,h1,rfl,_⟩
  ·have HP:=zH hP';clear hP';go_wp2;go_end0;exact HP.o
  ·exact⟨rfl,hP'⟩):p:=h
theorem mCa {p:Prop}(h:p:=by
  intro w2 hS2;have S2:=zH hS2;obtain⟨hp2,hs2,hx2⟩:=hS2.cells;obtain⟨av2,bv2,ev2,hy2,_⟩:=hS2.x.cells;clear hS2;refine(zau S2.o.e).mono ?_;rintro e w3 (⟨p3,v,hr,rfl,⟨rfl,hE⟩,hch⟩ | ⟨f,b,hr,rfl,hfb,hle,hch⟩);rotate_left
  ·exact⟨rfl,S2.o.fault (by have md:=MD0.o;rw[hr]at md;exact md) hfb hle hch⟩
  have R3:=zH hr;have md:=MD0.o;rw[hr,zF]at md;have MD1:=zH md;have S3:=zH (S2.o.scan hE hch);obtain⟨hp3,hs3,hx3⟩:=S3.o.cells;obtain⟨av3,bv3,ev3,hy3,_⟩:=S3.o.x.cells;obtain⟨hl3,hm3,hn3⟩:=S3.o.qy;clear hr hE hch md;go_wp2_with fail;refine(zfw S3.o.e).mono ?_;rintro e w4 (⟨p4,v,hr,rfl,⟨rfl,hE⟩,hch⟩ | ⟨f,b,hr,rfl,hfb,hle,hch⟩);rotate_left
  ·exact⟨rfl,S3.o.fault (by have md:=MD1.o;rw[hr]at md;exact md) hfb hle hch⟩
  have R4:=zH hr;have md:=MD1.o;rw[hr,zF]at md;have MD2:=zH md;have S4:=zH (S3.o.scan hE hch);obtain⟨hp4,hs4,hx4⟩:=S4.o.cells;obtain⟨av4,bv4,ev4,hy4,_⟩:=S4.o.x.cells;obtain⟨hl4,hm4,hn4⟩:=S4.o.qy;clear hr hE hch md;go_wp2;go_end0;exact xm.done (S4.o.setZ p4.1) MD2.o):p:=h
theorem mHa {p:Prop}(h:p:=by
  have H40:=zH h40;have H46:=zH h46;have hnum:=HNUM.o;clear h40 h46;refine(zy S3.o.e 40).mono ?_;rw[H40.o];rintro e w' ⟨rfl,rfl⟩;go_wp2_with fail;refine(zy S3.o.e 46).mono ?_;rw[H46.o];rintro e w' ⟨rfl,rfl⟩;go_wp2_with fail;have MD2:=zH (show zaj C.t s x=zB (zO C.t p2.2) fun s1=>zB (zcd true C.t s1) fun q=>.ok ({ x with mark:=s.tok.at_,op:=11,f:=p2.1,args:=q.1 },q.2)from by have h:=MD1.o;simp only[H40.o,H46.o]at h;simpa using h);refine zK (fun W=>SEnv C xb w W p2.2 { x with mark:=s.tok.at_,op:=11,f:=p2.1 }) ((((S2.o.qx 11).setF p2.1).alloc _)) ?_;intro w4 hS4;have S4:=zH hS4;obtain⟨hp4,hs4,hx4⟩:=hS4.cells;obtain⟨av4,bv4,ev4,hy4,_⟩:=hS4.x.cells;obtain⟨hl4,hm4,hn4⟩:=hS4.qy;clear hS4;refine(zau S4.o.e).mono ?_;rintro e w5 (⟨p5,v,hr,rfl,⟨rfl,hE⟩,hch⟩ | ⟨f,b,hr,rfl,hfb,hle,hch⟩);rotate_left
  ·exact⟨rfl,S4.o.fault (by have md:=MD2.o;rw[hr]at md;exact md) hfb hle hch⟩
  have R5:=zH hr;have md:=MD2.o;rw[hr,zF]at md;have MD3:=zH md;have S5:=zH (S4.o.scan hE hch);obtain⟨hp5,hs5,hx5⟩:=S5.o.cells;obtain⟨av5,bv5,ev5,hy5,_⟩:=S5.o.x.cells;obtain⟨hl5,hm5,hn5⟩:=S5.o.qy;clear hr hE hch md;go_wp2_with fail;refine(zj7 C _ _ true S5.o.e).mono ?_;rintro e w6 (⟨p6,v6,hr,rfl,⟨hN,hE⟩,hch⟩ | ⟨f,b,hr,rfl,hfb,hle,hch⟩);rotate_left
  ·exact⟨rfl,S5.o.fault (by have md:=MD3.o;rw[hr]at md;exact md) hfb hle hch⟩
  have R6:=zH hr;have md:=MD3.o;rw[hr,zF]at md;have MD4:=zH md;have N6:=zH (show xp w6 C.rb v6 p6.1 from zm hN S5.o.rbw);obtain⟨a6,c6,hv⟩:=zX hN;subst hv;have S6:=zH (S5.o.scan hE hch);obtain⟨hp6,hs6,hx6⟩:=S6.o.cells;obtain⟨av6,bv6,ev6,hy6,_⟩:=S6.o.x.cells;obtain⟨hl6,hm6,hn6⟩:=S6.o.qy;clear hr hE hch md hN;go_wp2_with fail;refine ym (yp rfl _ _ _) rfl ?_;exact xm.done (S6.o.setArgs N6.o) MD4.o):p:=h
theorem mOa {p:Prop}(h:p:=by
  intro w4 hS4;have S4:=zH hS4;obtain⟨hp4,hs4,hx4⟩:=hS4.cells;obtain⟨av4,bv4,ev4,hy4,_⟩:=hS4.x.cells;obtain⟨hl4,hm4,hn4⟩:=hS4.qy;clear hS4;refine(zbc S4.o.e 59).mono ?_;rintro e w5 (⟨p5,v,hr,rfl,⟨rfl,hE⟩,hch⟩ | ⟨f,b,hr,rfl,hfb,hle,hch⟩);rotate_left
  ·exact⟨rfl,(S4.o.fault (by have md:=MD2.o;rw[hr]at md;exact md) hfb hle hch).wide yy (by intro g hg;simp at hg |-;omega)⟩
  have R5:=zH hr;have md:=MD2.o;rw[hr,zF]at md;have MD3:=zH md;have S5:=zH (S4.o.scan hE hch);obtain⟨hp5,hs5,hx5⟩:=S5.o.cells;obtain⟨av5,bv5,ev5,hy5,_⟩:=S5.o.x.cells;obtain⟨hl5,hm5,hn5⟩:=S5.o.qy;clear hr hE hch md;go_wp2;go_end0;exact WK.one S0.o S5.o HT.o MD3.o):p:=h
theorem mXa {p:Prop}(h:p:=by exact⟨rfl,(S0.o.fault (by have md:=MD0.o;rw[hr]at md;exact md) hfb hle hch).wide yy (by intro g hg;simp at hg |-;omega)⟩):p:=h
theorem mSb {p:Prop}(h:p:=by exact⟨rfl,(S2.o.fault (by have md:=MD1.o;rw[hr]at md;exact md) hfb hle hch).wide yy (by intro g hg;simp at hg |-;omega)⟩):p:=h
theorem mDc {p:Prop}(h:p:=by
  obtain⟨hp6,hs6,hx6⟩:=S6.o.cells;obtain⟨av6,bv6,ev6,hy6,_⟩:=S6.o.x.cells;obtain⟨hl6,hm6,hn6⟩:=S6.o.qy;clear hr hE hch md;go_wp2;go_end0;exact WK.one S0.o S6.o HT.o MD4.o):p:=h
theorem mQc {p:Prop}(h:p:=by
  intro g hg;rcases(by simpa using hg)with rfl | rfl
  ·exact⟨_,_,hE.sc,by decide,by decide⟩
  ·exact⟨_,_,h3,by decide,by decide⟩):p:=h
attribute [local go_sem] zT
theorem zX {e:TypeId}{size:Nat}{xs:List Value}(h:w.ownsRow B e size v n xs):∃ a c,v=.slice a n c:=by
 rcases h.2 with⟨rfl,rfl⟩ | ⟨g,cap,A,rfl,_⟩
 ·exact⟨_,_,rfl⟩
 ·exact⟨_,_,rfl⟩
theorem zie (a:ByteArray)(l:List UInt8):(a.toList==l)=eqB a (bytes l):=by rw[ByteArray.toList_eq];rfl
theorem u8_ne {a b:UInt8}(h:a≠b):((a.toNat:Int)==(b.toNat:Int))=false:=zI fun e=>h (UInt8.toNat_inj.1 yo)
def xm (C:PC)(xb:Nat)(w:World)(M:Except Flt (Stm×Sc)):Ending->World->Prop :=
 Post C.B [] [C.sb,xb] w M (fun p v w'=>v=.tuple #[]/\Env C w' p.2/\zE w' C.rb xb p.1)
theorem xm.done {C:PC}{M:Except Flt (Stm×Sc)}(S:SEnv C xb w w1 s x)(hM:M=.ok (x,s)):xm C xb w M (.e) w1 :=
 .inl ⟨(x,s),_,hM,rfl,⟨rfl,S.e,S.x⟩,S.c⟩
theorem SEnv.start {C:PC}(E:Env C w s)(X:zE w C.rb xb x)(hB:C.B<=xb)(hrb:C.rb<=w.heap.size):SEnv C xb w w s x:=⟨E,X,hrb,Chg.refl _ _ _ _,hB⟩
theorem zpk (C:PC)(xb:Nat)(w:World)(s:Sc)(x:Stm)(E:Env C w s)(X:zE w C.rb xb x)(hB:C.B<=xb)(hrb:C.rb<=w.heap.size) :
  Calls prog 316 #[.p C.pb,.p xb] w (xm C xb w (zfv C.t s x)):=by
 have R:=zH (SEnv.start E X hB hrb);have N:=zH (zfv.eq_1 C.t s x);obtain⟨aq,az,b5⟩:=R.o.cells;obtain⟨a0,a6,ab,bb,_⟩:=R.o.x.cells;clear E X;go_enter func316,ntmps316;go_wp2_with fail;refine(zfb R.o.e).mono ?_;rintro e w1 (⟨p1,v,G,rfl,⟨rfl,K⟩,A⟩ | ⟨f,b,G,rfl,H,I,A⟩);rotate_left
 ·exact⟨rfl,R.o.fault (by have D:=N.o;rw[G]at D;exact D) H I A⟩
 have R1:=zH G;have D:=N.o;rw[G,zF]at D;have O:=zH D;have S:=zH (R.o.scan K A);obtain⟨au,b1,b6⟩:=S.o.cells;obtain⟨a1,a7,ac,bd,_⟩:=S.o.x.cells;obtain⟨ag,aj,an⟩:=S.o.qy;clear G K A D;go_wp2_with fail;refine zK (fun W=>SEnv C xb w W p1.2 { x with f:=p1.1 }) (S.o.setF _) ?_;intro w2 J;have Z:=zH J;obtain⟨aw,b2,b7⟩:=J.cells;obtain⟨a2,a8,ad,be,_⟩:=J.x.cells;clear J;refine(zbc Z.o.e 40).mono ?_;rintro e w3 (⟨p3,v,G,rfl,⟨rfl,K⟩,A⟩ | ⟨f,b,G,rfl,H,I,A⟩);rotate_left
 ·exact⟨rfl,Z.o.fault (by have D:=O.o;rw[G]at D;exact D) H I A⟩
 have R3:=zH G;have D:=O.o;rw[G,zF]at D;have Q:=zH D;have L:=zH (Z.o.scan K A);obtain⟨ax,b3,b8⟩:=L.o.cells;obtain⟨a3,a9,ae,bf,_⟩:=L.o.x.cells;obtain⟨ah,ak,ao⟩:=L.o.qy;clear G K A D;go_wp2_with fail;refine(zj7 C _ _ true L.o.e).mono ?_;rintro e w4 (⟨p4,v4,G,rfl,⟨hN,K⟩,A⟩ | ⟨f,b,G,rfl,H,I,A⟩);rotate_left
 ·exact⟨rfl,L.o.fault (by have D:=Q.o;rw[G]at D;exact D) H I A⟩
 have R4:=zH G;have D:=Q.o;rw[G,zF]at D;have Y:=zH D;have N4:=zH (show xp w4 C.rb v4 p4.1 from zm hN L.o.rbw);obtain⟨a4,c4,hv⟩:=zX hN;subst hv;have U:=zH (L.o.scan K A);obtain⟨ay,b4,b9⟩:=U.o.cells;obtain⟨a5,aa,af,bg,_⟩:=U.o.x.cells;obtain⟨ai,am,ap⟩:=U.o.qy;clear G K A D hN;go_wp2;go_end0;exact xm.done (U.o.setArgs N4.o) Y.o
theorem zqs (C:PC)(w:World)(s:Sc)(E:Env C w s) :
  Calls prog 317 #[.p C.pb] w (Post C.B [] [C.sb] w (zer C.t s) (fun p v w'=>v=.i p.1/\Env C w' p.2)):=by
 have S:=zH E;have I:=zH (zer.eq_1 C.t s);have U:=E.p.cell;clear E;go_enter func317,ntmps317;go_wp2_with fail;refine(zfb S.o).mono ?_;rintro e W (⟨p,v,K,rfl,⟨rfl,Q⟩,D⟩ | ⟨f,b,K,rfl,L,N,D⟩);rotate_left
 ·exact⟨rfl,.inr ⟨f,b,by have A:=I.o;rw[K]at A;exact A,rfl,L,N,D⟩⟩
 have A:=I.o;rw[K,zF]at A;have G:=zH Q;have J:=zH D;clear K Q D;cases h1:eqB p.1.text wL
 ·cases h2:eqB p.1.text wR
  ·have O:(p.1.text.toList==[108])=false:=(zie _ _).trans h1;have R:(p.1.text.toList==[114])=false:=(zie _ _).trans h2;rw[h1,yg yy,h2,yg yy]at A;have H:=zH A;clear A h1 h2;go_wp2_with (go_at_call 157;refine(zd5 _ _ _).mono ?_;rintro e Y ⟨rfl,rfl⟩);exact⟨rfl,.inr ⟨_,_,H.o,rfl,zf.new yy,yca J.o.size,(J.o.alloc _).alloc _⟩⟩
  ·have O:(p.1.text.toList==[108])=false:=(zie _ _).trans h1;have R:(p.1.text.toList==[114])=true:=(zie _ _).trans h2;rw[h1,yg yy,h2,yj rfl]at A;have H:=zH A;clear A h1 h2;go_wp2;go_ret;exact .inl ⟨(1,p.2),_,H.o,rfl,⟨rfl,G.o.alloc _⟩,J.o.alloc _⟩
 ·have O:(p.1.text.toList==[108])=true:=(zie _ _).trans h1;have R:(p.1.text.toList==[114])=false:=by
   have:p.1.text.toList=[108]:=by simpa using O
   rw[this];rfl
  rw[h1,yj rfl]at A;have H:=zH A;clear A h1;go_wp2;go_ret;exact .inl ⟨(0,p.2),_,H.o,rfl,⟨rfl,G.o.alloc _⟩,J.o.alloc _⟩
theorem zpw (C:PC)(xb:Nat)(w:World)(s:Sc)(x:Stm)(E:Env C w s)(X:zE w C.rb xb x)(hB:C.B<=xb)(hrb:C.rb<=w.heap.size)(hk:s.kind≠3\/(s.sign≠43/\s.sign≠45/\s.sign≠60/\s.sign≠101))(hM:xw C.t s x=.ok (x,s)) :
  Calls prog 319 #[.p C.pb,.p xb] w (xm C xb w (xw C.t s x)):=by
 have H:=zH (SEnv.start E X hB hrb);have G:=zH hM;obtain⟨I,J,K⟩:=H.o.cells;clear E X hM;by_cases D:s.kind=3
 ·have k1:((s.kind:Int)==3)=true:=by rw[D];rfl
  have k2:((s.kind:Int) != 3)=false:=by rw[D];rfl
  have A:=hk.resolve_left (fun h=>h D);have L:((s.sign.toNat:Int)==43)=false:=u8_ne A.1;have N:((s.sign.toNat:Int)==45)=false:=u8_ne A.2.1;have O:((s.sign.toNat:Int)==60)=false:=u8_ne A.2.2.1;have Q:((s.sign.toNat:Int)==101)=false:=u8_ne A.2.2.2;clear hk D A;go_enter func319,ntmps319;go_wp2_with fail;refine ym (yp rfl _ _ _) rfl ?_;exact xm.done H.o G.o
 ·have k1:((s.kind:Int)==3)=false:=zI yo;have k2:((s.kind:Int) != 3)=true:=bne_iff_ne.2 yo;clear hk D;go_enter func319,ntmps319;go_wp2_with fail;refine ym (yp rfl _ _ _) rfl ?_;exact xm.done H.o G.o
theorem zvp (C:PC)(xb:Nat)(w:World)(s:Sc)(x:Stm)(E:Env C w s)(X:zE w C.rb xb x)(hB:C.B<=xb)(hrb:C.rb<=w.heap.size)(hk3:s.kind=3)(hsg:s.sign=43) :
  Calls prog 319 #[.p C.pb,.p xb] w (xm C xb w (xw C.t s x)):=by
 have A:=zH (SEnv.start E X hB hrb);have MD0:=zH (show xw C.t s x=zB (zO C.t s) fun s1=>zB (zay C.t s1) fun p=>.ok ({ x with bin:=1,z:=p.1 },p.2) by
  unfold xw;rw[yj hk3,hsg];rfl)
 obtain⟨I,J,K⟩:=A.o.cells;obtain⟨D,G,H,L,_⟩:=A.o.x.cells;have k1:((s.kind:Int)==3)=true:=by rw[hk3];rfl
 have k2:((s.kind:Int) != 3)=false:=by rw[hk3];rfl
 have k3:(s.sign.toNat:Int)=43:=by rw[hsg];rfl
 clear E X hk3 hsg;go_enter func319,ntmps319;go_wp2_with fail;refine zK (fun W=>SEnv C xb w W s { x with bin:=1 }) (A.o.setBin 1) ?_;exact mCa
theorem zvq (C:PC)(xb:Nat)(w:World)(s:Sc)(x:Stm)(E:Env C w s)(X:zE w C.rb xb x)(hB:C.B<=xb)(hrb:C.rb<=w.heap.size)(hk3:s.kind=3)(hsg:s.sign=45) :
  Calls prog 319 #[.p C.pb,.p xb] w (xm C xb w (xw C.t s x)):=by
 have A:=zH (SEnv.start E X hB hrb);have MD0:=zH (show xw C.t s x=zB (zO C.t s) fun s1=>zB (zay C.t s1) fun p=>.ok ({ x with bin:=2,z:=p.1 },p.2) by
  unfold xw;rw[yj hk3,hsg];rfl)
 obtain⟨I,J,K⟩:=A.o.cells;obtain⟨D,G,H,L,_⟩:=A.o.x.cells;have k1:((s.kind:Int)==3)=true:=by rw[hk3];rfl
 have k2:((s.kind:Int) != 3)=false:=by rw[hk3];rfl
 have k3:(s.sign.toNat:Int)=45:=by rw[hsg];rfl
 clear E X hk3 hsg;go_enter func319,ntmps319;go_wp2_with fail;refine zK (fun W=>SEnv C xb w W s { x with bin:=2 }) (A.o.setBin 2) ?_;exact mCa
theorem zvr (C:PC)(xb:Nat)(w:World)(s:Sc)(x:Stm)(E:Env C w s)(X:zE w C.rb xb x)(hB:C.B<=xb)(hrb:C.rb<=w.heap.size)(hk3:s.kind=3)(hsg:s.sign=60) :
  Calls prog 319 #[.p C.pb,.p xb] w (xm C xb w (xw C.t s x)):=by
 have A:=zH (SEnv.start E X hB hrb);have MD0:=zH (show xw C.t s x=zB (zO C.t s) fun s1=>zB (zay C.t s1) fun p=>.ok ({ x with bin:=3,z:=p.1 },p.2) by
  unfold xw;rw[yj hk3,hsg];rfl)
 obtain⟨I,J,K⟩:=A.o.cells;obtain⟨D,G,H,L,_⟩:=A.o.x.cells;have k1:((s.kind:Int)==3)=true:=by rw[hk3];rfl
 have k2:((s.kind:Int) != 3)=false:=by rw[hk3];rfl
 have k3:(s.sign.toNat:Int)=60:=by rw[hsg];rfl
 clear E X hk3 hsg;go_enter func319,ntmps319;go_wp2_with fail;refine zK (fun W=>SEnv C xb w W s { x with bin:=3 }) (A.o.setBin 3) ?_;exact mCa
theorem zvo (C:PC)(xb:Nat)(w:World)(s:Sc)(x:Stm)(E:Env C w s)(X:zE w C.rb xb x)(hB:C.B<=xb)(hrb:C.rb<=w.heap.size)(hk3:s.kind=3)(hsg:s.sign=101) :
  Calls prog 319 #[.p C.pb,.p xb] w (xm C xb w (xw C.t s x)):=by
 have A:=zH (SEnv.start E X hB hrb);have MD0:=zH (show xw C.t s x=zB (zO C.t s) fun s1=>zB (zay C.t s1) fun p=>.ok ({ x with bin:=4,z:=p.1 },p.2) by
  unfold xw;rw[yj hk3,hsg];rfl)
 obtain⟨I,J,K⟩:=A.o.cells;obtain⟨D,G,H,L,_⟩:=A.o.x.cells;have k1:((s.kind:Int)==3)=true:=by rw[hk3];rfl
 have k2:((s.kind:Int) != 3)=false:=by rw[hk3];rfl
 have k3:(s.sign.toNat:Int)=101:=by rw[hsg];rfl
 clear E X hk3 hsg;go_enter func319,ntmps319;go_wp2_with fail;refine zK (fun W=>SEnv C xb w W s { x with bin:=4 }) (A.o.setBin 4) ?_;exact mCa
theorem zjj (C:PC)(xb:Nat)(w:World)(s:Sc)(x:Stm)(E:Env C w s)(X:zE w C.rb xb x)(hB:C.B<=xb)(hrb:C.rb<=w.heap.size) :
  Calls prog 319 #[.p C.pb,.p xb] w (xm C xb w (xw C.t s x)):=by
 by_cases A:s.kind=3
 ·by_cases h1:s.sign=43
  ·exact zvp C xb w s x E X hB hrb A h1
  by_cases h2:s.sign=45
  ·exact zvq C xb w s x E X hB hrb A h2
  by_cases h3:s.sign=60
  ·exact zvr C xb w s x E X hB hrb A h3
  by_cases h4:s.sign=101
  ·exact zvo C xb w s x E X hB hrb A h4
  exact zpw C xb w s x E X hB hrb (.inr ⟨h1,h2,h3,h4⟩) (by unfold xw;simp[A,h1,h2,h3,h4])
 ·exact zpw C xb w s x E X hB hrb (.inl A) (by unfold xw;simp[A])
attribute [local go_sem] zT
theorem SEnv.alloc {C:PC}(S:SEnv C xb w0 w s x)(o:Obj):SEnv C xb w0 (w.alloc o) s x:=⟨S.e.alloc o,S.x.alloc o,ya S.rbw yy,S.c.alloc o,S.bx⟩
theorem SEnv.last {C:PC}(S:SEnv C xb w0 w s x){M M':Except Flt (Stm×Sc)}(hM:M=M'){e:Ending}{w':World}(h:xm C xb w M' e w'):xm C xb w0 M e w':=by
 subst hM;rcases h with⟨p,v,h1,h2,h3,h4⟩ | ⟨f,b,h1,h2,h3,h4,h5⟩
 ·exact .inl ⟨p,v,h1,h2,h3,S.c.trans h4⟩
 ·exact .inr ⟨f,b,h1,h2,h3,ya S.c.size h4,S.c.trans h5⟩
theorem eqB_ne {b c:ByteArray}(h:eqB a b=true)(hne:eqB b c=false):eqB a c=false:=by
 unfold eqB at *;rw[beq_iff_eq]at h;rw[h];exact hne
theorem zvc (C:PC)(xb:Nat)(w:World)(s:Sc)(x:Stm)(E:Env C w s)(X:zE w C.rb xb x)(hB:C.B<=xb)(hrb:C.rb<=w.heap.size)(hN:zk s wNew=true) :
  Calls prog 318 #[.p C.pb,.p xb] w (xm C xb w (zaj C.t s x)):=by
 have H:=zH (show zaj C.t s x=zB (zO C.t s) fun s1=>.ok ({ x with mark:=s.tok.at_,op:=6 },s1) by rw[zaj.eq_1,hN];rfl);have HN:=zH hN;have Z:=zH (show zk s wGo=false by
  unfold zk at hN |-;cases h:eqB s.tok.text wGo
  ·simp
  ·rw[eqB_ne h yd]at hN;simp at hN)
 clear hN;have J:=zH (SEnv.start E X hB hrb);obtain⟨af,ai,am⟩:=J.o.cells;obtain⟨a0,a3,a6,ap,_⟩:=J.o.x.cells;obtain⟨U,Y⟩:=J.o.ne;have N:=zH (J.o.setMark s.tok.at_);clear E X;go_enter func318,ntmps318;go_wp2_with fail;refine(zbl N.o.e wNew).mono ?_;rw[HN.o];rintro e w' ⟨rfl,rfl⟩;go_wp2_with fail;refine(zbl N.o.e wGo).mono ?_;rw[Z.o];rintro e w' ⟨rfl,rfl⟩;go_wp2_with fail;refine zK (fun W=>SEnv C xb w W s { x with mark:=s.tok.at_,op:=6 }) (N.o.qx 6) ?_;intro w2 A;have O:=zH A;obtain⟨ag,aj,an⟩:=A.cells;obtain⟨a1,a4,a7,aq,_⟩:=A.x.cells;obtain⟨a9,ab,ad⟩:=A.qy;clear A;refine(zau O.o.e).mono ?_;rintro e w3 (⟨p3,v,I,rfl,⟨rfl,S⟩,D⟩ | ⟨f,b,I,rfl,Q,R,D⟩);rotate_left
 ·exact⟨rfl,O.o.fault (by have G:=H.o;rw[I]at G;exact G) Q R D⟩
 have R3:=zH I;have G:=H.o;rw[I,zF]at G;have L:=zH G;have K:=zH (O.o.scan S D);obtain⟨ah,ak,ao⟩:=K.o.cells;obtain⟨a2,a5,a8,au,_⟩:=K.o.x.cells;obtain⟨aa,ac,ae⟩:=K.o.qy;clear I S D G;go_wp2_with fail;refine ym (yp rfl _ _ _) rfl ?_;exact xm.done K.o L.o
theorem zvb (C:PC)(xb:Nat)(w:World)(s:Sc)(x:Stm)(E:Env C w s)(X:zE w C.rb xb x)(hB:C.B<=xb)(hrb:C.rb<=w.heap.size)(hN:zk s wNew=false)(hG:zk s wGo=true) :
  Calls prog 318 #[.p C.pb,.p xb] w (xm C xb w (zaj C.t s x)):=by
 have J:=zH (show zaj C.t s x=zB (zO C.t s) fun s1=>zfv C.t s1 { x with mark:=s.tok.at_,op:=7 } by rw[zaj.eq_1,hN,hG];rfl);have HN:=zH hN;have HG:=zH hG;clear hN hG;have L:=zH (SEnv.start E X hB hrb);obtain⟨ag,aj,an⟩:=L.o.cells;obtain⟨a1,a4,a7,aq,_⟩:=L.o.x.cells;obtain⟨Z,a0⟩:=L.o.ne;have O:=zH (L.o.setMark s.tok.at_);clear E X;go_enter func318,ntmps318;go_wp2_with fail;refine(zbl O.o.e wNew).mono ?_;rw[HN.o];rintro e w' ⟨rfl,rfl⟩;go_wp2_with fail;refine(zbl O.o.e wGo).mono ?_;rw[HG.o];rintro e w' ⟨rfl,rfl⟩;go_wp2_with fail;refine zK (fun W=>SEnv C xb w W s { x with mark:=s.tok.at_,op:=7 }) (O.o.qx 7) ?_;intro w2 A;have Q:=zH A;obtain⟨ah,ak,ao⟩:=A.cells;obtain⟨a2,a5,a8,au,_⟩:=A.x.cells;obtain⟨aa,ac,ae⟩:=A.qy;clear A;refine(zau Q.o.e).mono ?_;rintro e w3 (⟨p3,v,K,rfl,⟨rfl,U⟩,D⟩ | ⟨f,b,K,rfl,R,S,D⟩);rotate_left
 ·exact⟨rfl,Q.o.fault (by have I:=J.o;rw[K]at I;exact I) R S D⟩
 have R3:=zH K;have I:=J.o;rw[K,zF]at I;have N:=zH I;have G:=zH (Q.o.scan U D);obtain⟨ai,am,ap⟩:=G.o.cells;obtain⟨a3,a6,a9,aw,_⟩:=G.o.x.cells;obtain⟨ab,ad,af⟩:=G.o.qy;clear K U D I;go_wp2_with fail;refine(zpk C xb _ _ _ G.o.e G.o.x hB G.o.rbw).mono ?_;intro e w4 Y;have H:=G.o.last N.o Y;rcases Y with⟨p,v,h1,rfl,⟨rfl,_⟩,_⟩ | ⟨f,b,h1,rfl,_⟩
 ·have HP:=zH H;clear H;go_wp2_with fail;refine ym (yp rfl _ _ _) rfl ?_;exact HP.o
 ·exact⟨rfl,H⟩
theorem zva (C:PC)(xb:Nat)(w:World)(s:Sc)(x:Stm)(E:Env C w s)(X:zE w C.rb xb x)(hB:C.B<=xb)(hrb:C.rb<=w.heap.size)(hN:zk s wNew=false)(hG:zk s wGo=false)(nb:Bool)(hnum:((s.kind:Int)==2)=nb) :
  Calls prog 318 #[.p C.pb,.p xb] w (xm C xb w (zaj C.t s x)):=by
 have A:=zH (show zaj C.t s x=zB (zay C.t s) fun p =>
   if isM p.2 40/\nb=false then zB (zO C.t p.2) fun s1=>zB (zcd true C.t s1) fun q=>.ok ({ x with mark:=s.tok.at_,op:=11,f:=p.1,args:=q.1 },q.2)else
   if isM p.2 46/\nb=false then zB (zO C.t p.2) fun s1=>zB (zer C.t s1) fun q=>.ok ({ x with mark:=s.tok.at_,op:=4,y:=p.1,field:=q.1 },q.2)else
   xw C.t p.2 { x with mark:=s.tok.at_,op:=1,y:=p.1 } by
  have e:s.kind≠2↔nb=false:=by
   rw[<- hnum,beq_eq_false_iff_ne];omega
  rw[zaj.eq_1,hN,hG];simp only[e];rfl)
 have K:=zH hN;have J:=zH hG;have HNUM:=zH hnum;clear hN hG hnum;have G:=zH (SEnv.start E X hB hrb);obtain⟨a0,a2,a4⟩:=G.o.cells;obtain⟨L,O,R,a7,_⟩:=G.o.x.cells;obtain⟨H,I⟩:=G.o.ne;have D:=zH (G.o.setMark s.tok.at_);clear E X;go_enter func318,ntmps318;go_wp2_with fail;refine(zbl D.o.e wNew).mono ?_;rw[K.o];rintro e w' ⟨rfl,rfl⟩;go_wp2_with fail;refine(zbl D.o.e wGo).mono ?_;rw[J.o];rintro e w' ⟨rfl,rfl⟩;go_wp2_with fail;refine(zfw D.o.e).mono ?_;rintro e w2 (⟨p2,v,hr,rfl,⟨rfl,hE⟩,hch⟩ | ⟨f,b,hr,rfl,hfb,hle,hch⟩);rotate_left
 ·exact⟨rfl,D.o.fault (by have md:=A.o;rw[hr]at md;exact md) hfb hle hch⟩
 have R2:=zH hr;have md:=A.o;rw[hr,zF]at md;have MD1:=zH md;have S2:=zH (D.o.scan hE hch);obtain⟨a1,a3,a5⟩:=S2.o.cells;obtain⟨N,Q,S,a8,_⟩:=S2.o.x.cells;obtain⟨U,Y,Z⟩:=S2.o.qy;clear hr hE hch md;go_wp2_with fail;have S3:=zH (S2.o.alloc (.k #[.string p2.1.text,.i p2.1.at_,.bool p2.1.num,.i p2.1.n] 220));cases nb
 ·cases h40:isM p2.2 40
  ·cases h46:isM p2.2 46
   ·exact mBa
   ·have H40:=zH h40;have H46:=zH h46;have hnum:=HNUM.o;clear h40 h46;refine(zy S3.o.e 40).mono ?_;rw[H40.o];rintro e w' ⟨rfl,rfl⟩;go_wp2_with fail;refine(zy S3.o.e 46).mono ?_;rw[H46.o];rintro e w' ⟨rfl,rfl⟩;go_wp2_with fail;have MD2:=zH (show zaj C.t s x=zB (zO C.t p2.2) fun s1=>zB (zer C.t s1) fun q=>.ok ({ x with mark:=s.tok.at_,y:=p2.1,op:=4,field:=q.1 },q.2)from by have h:=MD1.o;simp only[H40.o,H46.o]at h;simpa using h);refine zK (fun W=>SEnv C xb w W p2.2 { x with mark:=s.tok.at_,y:=p2.1,op:=4 }) ((((S2.o.vn p2.1).qx 4).alloc _)) ?_;intro w4 hS4;have S4:=zH hS4;obtain⟨hp4,hs4,hx4⟩:=hS4.cells;obtain⟨av4,bv4,ev4,hy4,_⟩:=hS4.x.cells;obtain⟨hl4,hm4,hn4⟩:=hS4.qy;clear hS4;refine(zau S4.o.e).mono ?_;rintro e w5 (⟨p5,v,hr,rfl,⟨rfl,hE⟩,hch⟩ | ⟨f,b,hr,rfl,hfb,hle,hch⟩);rotate_left
    ·exact⟨rfl,S4.o.fault (by have md:=MD2.o;rw[hr]at md;exact md) hfb hle hch⟩
    have R5:=zH hr;have md:=MD2.o;rw[hr,zF]at md;have MD3:=zH md;have S5:=zH (S4.o.scan hE hch);obtain⟨hp5,hs5,hx5⟩:=S5.o.cells;obtain⟨av5,bv5,ev5,hy5,_⟩:=S5.o.x.cells;obtain⟨hl5,hm5,hn5⟩:=S5.o.qy;clear hr hE hch md;go_wp2_with fail;refine(zqs C _ _ S5.o.e).mono ?_;rintro e w6 (⟨p6,v,hr,rfl,⟨rfl,hE⟩,hch⟩ | ⟨f,b,hr,rfl,hfb,hle,hch⟩);rotate_left
    ·exact⟨rfl,S5.o.fault (by have md:=MD3.o;rw[hr]at md;exact md) hfb hle hch⟩
    have md:=MD3.o;rw[hr,zF]at md;have MD4:=zH md;have S6:=zH (S5.o.scan hE hch);obtain⟨hp6,hs6,hx6⟩:=S6.o.cells;obtain⟨av6,bv6,ev6,hy6,_⟩:=S6.o.x.cells;obtain⟨hl6,hm6,hn6⟩:=S6.o.qy;clear hr hE hch md;go_wp2_with fail;refine ym (yp rfl _ _ _) rfl ?_;exact xm.done (S6.o.setField _) MD4.o
  ·cases h46:isM p2.2 46
   ·exact mHa
   ·exact mHa
 ·cases h40:isM p2.2 40
  ·cases h46:isM p2.2 46
   ·exact mBa
   ·exact mBa
  ·cases h46:isM p2.2 46
   ·exact mBa
   ·exact mBa
theorem zu9 (C:PC)(xb:Nat)(w:World)(s:Sc)(x:Stm)(E:Env C w s)(X:zE w C.rb xb x)(hB:C.B<=xb)(hrb:C.rb<=w.heap.size) :
  Calls prog 318 #[.p C.pb,.p xb] w (xm C xb w (zaj C.t s x)):=by
 cases hN:zk s wNew
 ·cases hG:zk s wGo
  ·exact zva C xb w s x E X hB hrb hN hG _ rfl
  ·exact zvb C xb w s x E X hB hrb hN hG
 ·exact zvc C xb w s x E X hB hrb hN
attribute [local go_sem] zT
theorem zyr (C:PC)(xb:Nat)(w:World)(s:Sc)(x:Stm)(E:Env C w s)(X:zE w C.rb xb x)(hB:C.B<=xb)(hrb:C.rb<=w.heap.size) :
  Calls prog 312 #[.p C.pb,.p xb] w (xm C xb w (zcy C.t s x)):=by
 have S0:=zH (SEnv.start E X hB hrb);have a9:=zH (zcy.eq_1 C.t s x);obtain⟨df,di,dm⟩:=S0.o.cells;obtain⟨cz,d2,d5,dq,_⟩:=S0.o.x.cells;obtain⟨cm,cn⟩:=S0.o.ne;clear E X;go_enter func312,ntmps312;go_wp2_with fail;refine(zfb S0.o.e).mono ?_;rintro e w1 (⟨N,v,G,rfl,⟨rfl,J⟩,A⟩ | ⟨f,b,G,rfl,H,I,A⟩);rotate_left
 ·exact⟨rfl,S0.o.fault (by have D:=a9.o;rw[G]at D;exact D) H I A⟩
 have R1:=zH G;have D:=a9.o;rw[G,zF]at D;have a5:=zH D;have S1:=zH (S0.o.scan J A);obtain⟨dg,dj,dn⟩:=S1.o.cells;obtain⟨d0,d3,d6,dr,_⟩:=S1.o.x.cells;obtain⟨d8,da,dd⟩:=S1.o.qy;clear G J A D;go_wp2_with fail;have S2:=zH (S1.o.alloc (.k #[.string N.1.text,.i N.1.at_,.bool N.1.num,.i N.1.n] 220));cases h40:isM N.2 40
 ·cases h46:isM N.2 46
  ·have Q:=zH (show zcy C.t s x=zB (zB (zt C.t N.2 61) fun s1=>zaj C.t s1 { x with x:=N.1 }) fun r=>zB (zt C.t r.2 59) fun s2=>.ok (r.1,s2)from by have h:=a5.o;simp only[h40,h46]at h;exact h);have a0:=zH h40;have a1:=zH h46;clear h40 h46;refine(zy S2.o.e 40).mono ?_;rw[a0.o];rintro e w' ⟨rfl,rfl⟩;go_wp2_with fail;refine(zy S2.o.e 46).mono ?_;rw[a1.o];rintro e w' ⟨rfl,rfl⟩;go_wp2_with fail;refine zK (fun W=>SEnv C xb w W N.2 { x with x:=N.1 }) ((S1.o.setX N.1).alloc _) ?_;intro w4 K;have S4:=zH K;obtain⟨ay,b3,b7⟩:=K.cells;obtain⟨ab,ae,ah,bd,_⟩:=K.x.cells;obtain⟨ak,ao,au⟩:=K.qy;clear K;refine(zbc S4.o.e 61).mono ?_;rintro e w5 (⟨p5,v,G,rfl,⟨rfl,J⟩,A⟩ | ⟨f,b,G,rfl,H,I,A⟩);rotate_left
   ·exact⟨rfl,S4.o.fault (by have D:=Q.o;rw[G]at D;exact D) H I A⟩
   have R5:=zH G;have D:=Q.o;rw[G,zF]at D;have R:=zH D;have L:=zH (S4.o.scan J A);obtain⟨az,b4,b8⟩:=L.o.cells;obtain⟨ac,af,ai,be,_⟩:=L.o.x.cells;obtain⟨am,ap,aw⟩:=L.o.qy;clear G J A D;go_wp2_with fail;refine(zu9 C xb _ _ _ L.o.e L.o.x hB L.o.rbw).mono ?_;rintro e w6 (⟨p,v,h1,rfl,⟨rfl,J,hX⟩,A⟩ | ⟨f,b,h1,rfl,H,I,A⟩)
   ·have D:=R.o;rw[h1,zF]at D;have U:=zH D;have a8:SEnv C xb w w6 p.2 p.1:=⟨J,hX,ya L.o.rbw A.size,L.o.c.trans A,hB⟩;have Y:=zH a8;obtain⟨b1,b5,b9⟩:=a8.cells;clear D h1 J hX A a8;go_wp2_with fail;refine(zbc Y.o.e 59).mono ?_;rintro e w7 (⟨p7,v,G,rfl,⟨rfl,J⟩,A⟩ | ⟨f,b,G,rfl,H,I,A⟩);rotate_left
    ·exact⟨rfl,Y.o.fault (by have D:=U.o;rw[G]at D;exact D) H I A⟩
    have R7:=zH G;have D:=U.o;rw[G,zF]at D;have a3:=zH D;have Z:=zH (Y.o.scan J A);obtain⟨b2,b6,bb⟩:=Z.o.cells;obtain⟨ad,ag,aj,bf,_⟩:=Z.o.x.cells;obtain⟨an,aq,ax⟩:=Z.o.qy;clear G J A D;go_wp2;go_end0;exact xm.done Z.o a3.o
   ·exact⟨rfl,.inr ⟨f,b,by have D:=R.o;rw[h1]at D;exact D,rfl,H,ya L.o.c.size I,L.o.c.trans A⟩⟩
  ·have Q:=zH (show zcy C.t s x=zB (zB (zO C.t N.2) fun s1=>zB (zer C.t s1) fun q=>zB (zt C.t q.2 61) fun s3=>zB (zay C.t s3) fun r=>.ok ({ x with op:=5,x:=N.1,field:=q.1,y:=r.1 },r.2)) fun r=>zB (zt C.t r.2 59) fun s2=>.ok (r.1,s2)from by have h:=a5.o;simp only[h40,h46]at h;exact h);have a0:=zH h40;have a1:=zH h46;clear h40 h46;refine(zy S2.o.e 40).mono ?_;rw[a0.o];rintro e w' ⟨rfl,rfl⟩;go_wp2_with fail;refine(zy S2.o.e 46).mono ?_;rw[a1.o];rintro e w' ⟨rfl,rfl⟩;go_wp2_with fail;refine zK (fun W=>SEnv C xb w W N.2 { x with op:=5,x:=N.1 }) (((S1.o.qx 5).setX N.1).alloc _) ?_;intro w4 K;have S4:=zH K;obtain⟨ay,b3,b7⟩:=K.cells;obtain⟨ab,ae,ah,bd,_⟩:=K.x.cells;obtain⟨ak,ao,au⟩:=K.qy;clear K;refine(zau S4.o.e).mono ?_;rintro e w5 (⟨p5,v,G,rfl,⟨rfl,J⟩,A⟩ | ⟨f,b,G,rfl,H,I,A⟩);rotate_left
   ·exact⟨rfl,S4.o.fault (by have D:=Q.o;rw[G]at D;exact D) H I A⟩
   have R5:=zH G;have D:=Q.o;rw[G,zF]at D;have R:=zH D;have L:=zH (S4.o.scan J A);obtain⟨az,b4,b8⟩:=L.o.cells;obtain⟨ac,af,ai,be,_⟩:=L.o.x.cells;obtain⟨am,ap,aw⟩:=L.o.qy;clear G J A D;go_wp2_with fail;refine(zqs C _ _ L.o.e).mono ?_;rintro e w6 (⟨p6,v,G,rfl,⟨rfl,J⟩,A⟩ | ⟨f,b,G,rfl,H,I,A⟩);rotate_left
   ·exact⟨rfl,L.o.fault (by have D:=R.o;rw[G]at D;exact D) H I A⟩
   have D:=R.o;rw[G,zF]at D;have U:=zH D;have Y:=zH (L.o.scan J A);obtain⟨b1,b5,b9⟩:=Y.o.cells;obtain⟨bh,bj,bm,c4,_⟩:=Y.o.x.cells;obtain⟨bo,bq,bu⟩:=Y.o.qy;clear G J A D;go_wp2_with fail;refine zK (fun W=>SEnv C xb w W p6.2 { x with op:=5,x:=N.1,field:=p6.1 }) (Y.o.setField p6.1) ?_;intro w7 O;have Z:=zH O;obtain⟨b2,b6,bb⟩:=O.cells;obtain⟨ad,ag,aj,bf,_⟩:=O.x.cells;obtain⟨an,aq,ax⟩:=O.qy;clear O;refine(zbc Z.o.e 61).mono ?_;rintro e w8 (⟨p8,v,G,rfl,⟨rfl,J⟩,A⟩ | ⟨f,b,G,rfl,H,I,A⟩);rotate_left
   ·exact⟨rfl,Z.o.fault (by have D:=U.o;rw[G]at D;exact D) H I A⟩
   have R8:=zH G;have D:=U.o;rw[G,zF]at D;have a2:=zH D;have S8:=zH (Z.o.scan J A);obtain⟨c0,c2,c3⟩:=S8.o.cells;obtain⟨bi,bk,bn,c5,_⟩:=S8.o.x.cells;obtain⟨bp,br,bz⟩:=S8.o.qy;clear G J A D;go_wp2_with fail;refine(zfw S8.o.e).mono ?_;rintro e w9 (⟨p9,v,G,rfl,⟨rfl,J⟩,A⟩ | ⟨f,b,G,rfl,H,I,A⟩);rotate_left
   ·exact⟨rfl,S8.o.fault (by have D:=a2.o;rw[G]at D;exact D) H I A⟩
   have R9:=zH G;have D:=a2.o;rw[G,zF]at D;have bg:=zH D;have S9:=zH (S8.o.scan J A);obtain⟨dh,dk,dp⟩:=S9.o.cells;obtain⟨d1,d4,d7,dt,_⟩:=S9.o.x.cells;obtain⟨d9,dc,de⟩:=S9.o.qy;clear G J A D;go_wp2_with fail;refine zK (fun W=>SEnv C xb w W p9.2 { x with op:=5,x:=N.1,field:=p6.1,y:=p9.1 }) (S9.o.vn p9.1) ?_;intro dw S;have a7:=zH S;obtain⟨co,cq,ct⟩:=S.cells;obtain⟨c7,c9,cc,cw,_⟩:=S.x.cells;obtain⟨ce,ch,cj⟩:=S.qy;clear S;have D:=bg.o;rw[zF]at D;have aa:=zH D;clear D;refine(zbc a7.o.e 59).mono ?_;rintro e dx (⟨du,v,G,rfl,⟨rfl,J⟩,A⟩ | ⟨f,b,G,rfl,H,I,A⟩);rotate_left
   ·exact⟨rfl,a7.o.fault (by have D:=aa.o;rw[G]at D;exact D) H I A⟩
   have cy:=zH G;have D:=aa.o;rw[G,zF]at D;have a3:=zH D;have a4:=zH (a7.o.scan J A);obtain⟨cp,cs,cu⟩:=a4.o.cells;obtain⟨c8,ca,cd,cx,_⟩:=a4.o.x.cells;obtain⟨cf,ci,ck⟩:=a4.o.qy;clear G J A D;go_wp2;go_end0;exact xm.done a4.o a3.o
 ·have Q:=zH (show zcy C.t s x=zB (zB (zO C.t N.2) fun s1=>zB (zcd true C.t s1) fun q=>.ok ({ x with op:=11,f:=N.1,args:=q.1 },q.2)) fun r=>zB (zt C.t r.2 59) fun s2=>.ok (r.1,s2)from by have h:=a5.o;simp only[h40]at h;exact h);have a0:=zH h40;clear h40;refine(zy S2.o.e 40).mono ?_;rw[a0.o];rintro e w' ⟨rfl,rfl⟩;go_wp2_with fail;cases h46:isM N.2 46
  all_goals
   have a1:=zH h46;clear h46;refine(zy S2.o.e 46).mono ?_;rw[a1.o];rintro e w' ⟨rfl,rfl⟩;go_wp2_with fail;refine zK (fun W=>SEnv C xb w W N.2 { x with op:=11,f:=N.1 }) (((S1.o.qx 11).setF N.1).alloc _) ?_;intro w4 K;have S4:=zH K;obtain⟨ay,b3,b7⟩:=K.cells;obtain⟨ab,ae,ah,bd,_⟩:=K.x.cells;obtain⟨ak,ao,au⟩:=K.qy;clear K;refine(zau S4.o.e).mono ?_;rintro e w5 (⟨p5,v,G,rfl,⟨rfl,J⟩,A⟩ | ⟨f,b,G,rfl,H,I,A⟩);rotate_left
   ·exact⟨rfl,S4.o.fault (by have D:=Q.o;rw[G]at D;exact D) H I A⟩
   have R5:=zH G;have D:=Q.o;rw[G,zF]at D;have R:=zH D;have L:=zH (S4.o.scan J A);obtain⟨az,b4,b8⟩:=L.o.cells;obtain⟨ac,af,ai,be,_⟩:=L.o.x.cells;obtain⟨am,ap,aw⟩:=L.o.qy;clear G J A D;go_wp2_with fail;refine(zj7 C _ _ true L.o.e).mono ?_;rintro e w6 (⟨p6,v6,G,rfl,⟨hN,J⟩,A⟩ | ⟨f,b,G,rfl,H,I,A⟩);rotate_left
   ·exact⟨rfl,L.o.fault (by have D:=R.o;rw[G]at D;exact D) H I A⟩
   have R6:=zH G;have D:=R.o;rw[G,zF]at D;have U:=zH D;have N6:=zH (show xp w6 C.rb v6 p6.1 from zm hN L.o.rbw);obtain⟨a6,c6,hv⟩:=zX hN;subst hv;have Y:=zH (L.o.scan J A);obtain⟨b1,b5,b9⟩:=Y.o.cells;obtain⟨bh,bj,bm,c4,_⟩:=Y.o.x.cells;obtain⟨bo,bq,bu⟩:=Y.o.qy;clear G J A D hN;go_wp2_with fail;refine zK (fun W=>SEnv C xb w W p6.2 { x with op:=11,f:=N.1,args:=p6.1 }) (Y.o.setArgs N6.o) ?_;intro w7 O;have Z:=zH O;obtain⟨b2,b6,bb⟩:=O.cells;obtain⟨ad,ag,aj,bf,_⟩:=O.x.cells;obtain⟨an,aq,ax⟩:=O.qy;clear O;have D:=U.o;rw[zF]at D;have a2:=zH D;clear D;refine(zbc Z.o.e 59).mono ?_;rintro e w8 (⟨p8,v,G,rfl,⟨rfl,J⟩,A⟩ | ⟨f,b,G,rfl,H,I,A⟩);rotate_left
   ·exact⟨rfl,Z.o.fault (by have D:=a2.o;rw[G]at D;exact D) H I A⟩
   have R8:=zH G;have D:=a2.o;rw[G,zF]at D;have a3:=zH D;have S8:=zH (Z.o.scan J A);obtain⟨c0,c2,c3⟩:=S8.o.cells;obtain⟨bi,bk,bn,c5,_⟩:=S8.o.x.cells;obtain⟨bp,br,bz⟩:=S8.o.qy;clear G J A D;go_wp2;go_end0;exact xm.done S8.o a3.o
attribute [local go_sem] zT
def ptrV (b:Nat):Value:=.p b
def TrAt (C:PC)(w:World)(dv:Value)(ptrs:List Nat):Prop :=
 ∃ sv,Blk w C.tb 218 #[dv,sv]/\w.ownsRow C.B 398 1 sv ptrs.length (ptrs.map ptrV)
def za (w:World)(B:Nat):List Nat->List Stm->Prop
 | [],[]=>True
 | b::bs,x::xs=>B<=b/\zE w B b x/\za w B bs xs
 | _,_=>False
theorem za.append {w:World}{B:Nat}:∀ {bs cs:List Nat} {xs ys:List Stm},za w B bs xs->za w B cs ys->za w B (bs++cs) (xs++ys)
 | [],_,[],_,_,h=>h
 | [],_,_::_,_,h,_=>h.elim
 | _::_,_,[],_,h,_=>h.elim
 | _::_,_,_::_,_,h,k=>⟨h.1,h.2.1,za.append h.2.2 k⟩
theorem za.length {w:World}{B:Nat}:∀ {bs:List Nat} {xs:List Stm},za w B bs xs->bs.length=xs.length
 | [],[],_=>rfl
 | [],_::_,h=>h.elim
 | _::_,[],h=>h.elim
 | _::_,_::_,h=>by simp[za.length h.2.2]
theorem za.map {w w1:World}{B B':Nat}(hB:B'<=B):∀ {bs:List Nat} {xs:List Stm},za w B bs xs->(∀ b x,b ∈ bs->B<=b->zE w B b x->zE w1 B' b x)->za w1 B' bs xs
 | [],[],_,_=>trivial
 | [],_::_,h,_=>h.elim
 | _::_,[],h,_=>h.elim
 | _::_,_::_,h,k=>⟨ya hB h.1,k _ _ yy h.1 h.2.1,za.map hB h.2.2 (fun b x hb=>k b x (yad _ hb))⟩
theorem zE.low (h:zE w B xb x)(hB:B'<=B):zE w B' xb x:=by
 obtain⟨av,bv,ev,A,h1,h2,h3⟩:=h;exact⟨av,bv,ev,A,zm h1 hB,zm h2 hB,zm h3 hB⟩
theorem za.vh {bs:List Nat}{l:List Nat}{xs:List Stm}(h:za w B l xs)(hc:Chg B' ts bs w w1)(h1:439 ∉ ts)(h2:220 ∉ ts)(h3:3 ∉ ts)
  (hx:∀ g ∈ bs,∃ t cs,Blk w g t cs/\t≠439/\t≠220/\t≠3):za w1 B l xs :=
 h.map yL fun _ _ _ _ A=>A.vh hc h1 h2 h3 hx
theorem info_ptr:(prog.info? 398).map (fun i=>(i.zero,i.size,i.bytes))=some (some (.pointer none),1,8):=yk
theorem tyPtr:zj prog 216 398 1 8:=zj.mk' underlying216 info_ptr rfl yo yo
theorem info_int:(prog.info? 3).map (fun i=>(i.zero,i.size,i.bytes))=some (some (.i 0),1,8):=yk
theorem tyInt:zj prog 67 3 1 8:=zj.mk' underlying67 info_int rfl yo yo
structure Began (C:PC)(w w1:World)(s:Sc)(dv:Value)(ptrs:List Nat):Prop where
 e:Env C w1 s
 tr:TrAt C w1 dv (ptrs++[w.heap.size])
 x:zE w1 w.heap.size w.heap.size { at_:=s.tok.at_ }
 c:Chg C.B [398] [C.sb,C.tb] w w1
theorem zvf {C:PC}{sa:Option Addr}{sc g cap:Nat}{o:Obj}(E:Env C w1 s)(T:Blk w1 C.tb 218 #[dv,.slice sa ptrs.length sc])(R:w1.ownsRow C.B 398 1 (.slice sa ptrs.length sc) ptrs.length (ptrs.map ptrV))
  (X:zE w1 w.heap.size w.heap.size { at_:=s.tok.at_ }) (hC:Chg C.B [398] [C.sb,C.tb] w w1) (_hB:C.B<=w.heap.size)
  (hrow:w2.ownsRow C.B 398 1 (.s g (ptrs.length+1) cap) (ptrs.length+1) (ptrs.map ptrV++[ptrV w.heap.size])) (hg:(w1.drew.alloc o).grownBy w2 (Value.slice sa ptrs.length sc).ownBlock) :
  Began C w (w2.setCell (.a C.tb 1) (.s g (ptrs.length+1) cap)) s dv ptrs:=by
 have H:=(zi R).alloc o;have D:=Blk.append ((T.drew).alloc o) H hg yd;have S:=Env.append ((E.drew).alloc o) H hg yd yd;have Q:=Chg.append ((hC.drew).alloc o) H hg yL (.inl yy);have L:zE w2 w.heap.size w.heap.size { at_:=s.tok.at_ }:=by
  obtain⟨av,bv,ev,J,h1,h2,h3⟩:=zE.alloc (show zE w1.drew w.heap.size w.heap.size { at_:=s.tok.at_ } from X) o;have A:∀ {e n:Nat} {v:Value} {size:Nat} {K:List Value},e≠398->(w1.drew.alloc o).ownsRow w.heap.size e size v n K->w2.ownsRow w.heap.size e size v n K:=by
   intro e n v size K G h;refine h.kept hg ?_;rcases h.2 with⟨rfl,_⟩ | ⟨O,N,I,rfl,_,W,_⟩
   ·exact .inl rfl
   ·right;intro U;exact xy H (g:=O) (cs:=I) W (fun e'=>G e'.symm) O (by rw[<- U];rfl) rfl
  exact⟨av,bv,ev,J.append H hg yd,A yd h1,A yd h2,A yd h3⟩
 have G:w.heap.size≠C.tb:=(L.ne D yd).symm;refine⟨S.farT D yd yd _ _,⟨_,(D.qe 1 _).cast (by simp;rfl),?_⟩,?_,Q.setX E.bt yy _⟩
 ·have:=zL hrow D yd 1 (.s g (ptrs.length+1) cap);simpa using this
 ·obtain⟨av,bv,ev,J,h1,h2,h3⟩:=L;exact⟨av,bv,ev,J.qi G _,zL h1 D yd _ _,zL h2 D yd _ _,zL h3 D yd _ _⟩
def PC.at_ (C:PC)(rb:Nat):PC:={ C with rb:=rb }
theorem Env.rb {C:PC}(E:Env C w s)(r:Nat):Env (C.at_ r) w s:=⟨E.p,E.sc,E.at_,E.tsz,E.bs,E.bt⟩
theorem Env.un {C:PC}{r:Nat}(E:Env (C.at_ r) w s):Env C w s:=⟨E.p,E.sc,E.at_,E.tsz,E.bs,E.bt⟩
theorem TrAt.vh {C:PC}(h:TrAt C w dv ptrs)(hc:Chg C.B ts xs w w1)(h1:218 ∉ ts)(h2:398 ∉ ts)
  (hx:∀ g ∈ xs,∃ t cs,Blk w g t cs/\t≠218/\t≠398):TrAt C w1 dv ptrs:=by
 obtain⟨sv,hb,A⟩:=h;refine⟨sv,hb.vh hc h1 ?_,za9 A hc h2 ?_⟩
 ·intro hm;obtain⟨t,cs,h4,h5,_⟩:=hx _ hm;exact h5 (Blk.inj h4 hb).1
 ·intro k D hm;obtain⟨t,cs,h4,_,h5⟩:=hx _ hm;exact xy A h4 (fun e=>h5 e.symm) k D rfl
theorem zE.chgX (h:zE w B xb x)(hc:Chg B' ts xs w w1)(h1:439 ∉ ts)(h2:220 ∉ ts)(h3:3 ∉ ts)
  (hb:xb ∉ xs) (hx:∀ g ∈ xs,∃ t cs,Blk w g t cs/\t≠220/\t≠3):zE w1 B xb x:=by
 obtain⟨av,bv,ev,H,E,A,G⟩:=h;refine⟨av,bv,ev,H.vh hc h1 hb,za9 E hc h2 ?_,za9 A hc h3 ?_,za9 G hc h3 ?_⟩
 ·intro k D hm;obtain⟨t,cs,h4,h5,_⟩:=hx _ hm;exact xy E h4 (fun e=>h5 e.symm) k D rfl
 ·intro k D hm;obtain⟨t,cs,h4,_,h5⟩:=hx _ hm;exact xy A h4 (fun e=>h5 e.symm) k D rfl
 ·intro k D hm;obtain⟨t,cs,h4,_,h5⟩:=hx _ hm;exact xy G h4 (fun e=>h5 e.symm) k D rfl
theorem za.mem {w:World}{B:Nat}:∀ {l:List Nat} {xs:List Stm},za w B l xs->∀ b ∈ l,B<=b/\∃ x,zE w B b x
 | [],[],_,b,hb=>by cases hb
 | [],_::_,h,_,_=>h.elim
 | _::_,[],h,_,_=>h.elim
 | c::l,x::xs,h,b,hb=>by
  rcases yW.1 hb with rfl | hb
  ·exact⟨h.1,x,h.2.1⟩
  ·exact za.mem h.2.2 b hb
def StK (C:PC)(w:World)(dv:Value)(ptrs:List Nat)(l:List Stm)(s':Sc)(w':World):Prop :=
 ∃ news,Env C w' s'/\TrAt C w' dv (ptrs++news)/\za w' w.heap.size news l
def WK (C:PC)(w:World)(xb:Nat)(dv:Value)(ptrs:List Nat)(p:List Stm)(s':Sc)(w':World):Prop :=
 ∃ x l,p=x::l/\zE w' C.rb xb x/\StK C w dv ptrs l s' w'
def zpb (d:Nat):Prop:=∀ (C:PC) (w:World) (s:Sc) (dv:Value) (ptrs:List Nat),Env C w s->TrAt C w dv ptrs->ptrs.length<=s.at_+1->(s.kind≠0->ptrs.length<=s.at_) ->
 Calls prog 293 #[.p C.pb,.i d] w
  (Post C.B [398] [C.sb,C.tb] w (xg C.t (7-d) d s ptrs.length) fun p v w'=>v=.i ptrs.length/\StK C w dv ptrs p.1 p.2 w')
def zgf (d:Nat):Prop:=∀ (C:PC) (w:World) (s:Sc) (dv:Value) (ptrs:List Nat),Env C w s->TrAt C w dv ptrs->ptrs.length<=s.at_+1->(s.kind≠0->ptrs.length<=s.at_) ->
 Calls prog 247 #[.p C.pb,.i d] w
  (Post C.B [398] [C.sb,C.tb] w (zck C.t (xg C.t (7-d) d) d s ptrs.length) fun p v w'=>zz w' w.heap.size v p.1.1/\StK C w dv ptrs p.1.2 p.2 w')
def zpd (d:Nat):Prop:=∀ (C:PC) (w:World) (s:Sc) (x:Stm) (xb:Nat) (dv:Value) (ptrs:List Nat),Env C w s->TrAt C w dv ptrs->zE w C.rb xb x->x.has=false->C.B<=xb->C.rb<=w.heap.size->ptrs.length<=s.at_+1->0<ptrs.length ->
 Calls prog 311 #[.p C.pb,.p xb,.i d] w
  (Post C.B [398] [C.sb,C.tb,xb] w (xj C.t (zck C.t (xg C.t (6-d) (d+1)) (d+1)) s (ptrs.length-1) x) fun p v w'=>v=.tuple #[]/\WK C w xb dv ptrs p.1 p.2 w')
theorem Post.wide {α: Type}{ts':List TypeId}{xs':List Nat}{w':World}{r:Except Flt α}{K:α -> Value->World->Prop}{e:Ending}(h:Post B ts xs w r K e w')(h1:∀ t ∈ ts,t ∈ ts')(h2:∀ x ∈ xs,x ∈ xs'):Post B ts' xs' w r K e w':=by
 rcases h with⟨a,v,A,D,E,G⟩ | ⟨f,b,A,D,E,G,H⟩
 ·exact .inl ⟨a,v,A,D,E,G.mono h1 h2⟩
 ·exact .inr ⟨f,b,A,D,E,G,H.mono h1 h2⟩
theorem StK.on {C:PC}{x3 x4:Stm}(X3:zE w3 C.rb xb x3)(hx:xb<w2.heap.size)(hsb:C.sb<w2.heap.size)(hle:w.heap.size<=w2.heap.size)
  (hK:StK C w2 dv ptrs l s3 w3) (S4:SEnv C xb w3 w4 s4 x4):StK C w dv ptrs l s4 w4:=by
 obtain⟨news,hE,E,D⟩:=hK;obtain⟨A,h3⟩:=X3.blk;refine⟨news,S4.e,?_,?_⟩
 ·refine E.vh S4.c yy yy ?_;exact mQc
 ·refine D.map hle fun b y hb G h=>(h.chgX S4.c yy yy yy ?_ ?_).low hle
  ·simp;omega
  ·exact mQc
theorem StK.jh {C:PC}{x2 x3 x4:Stm}(X3:zE w3 C.rb xb x3)(S2:SEnv C xb w w2 s2 x2)(hK:StK C w2 dv ptrs l s3 w3)(hch:Chg C.B [398] [C.sb,C.tb] w2 w3)(S4:SEnv C xb w3 w4 s4 x4) :
  StK C w dv ptrs l s4 w4/\Chg C.B [398] [C.sb,C.tb,xb] w w4 :=
 ⟨hK.on X3 S2.x.lt (Blk.lt S2.e.sc) S2.c.size S4,(S2.c.mono yy yy).trans ((hch.mono yy yy).trans (S4.c.mono yy yy))⟩
theorem TrAt.jh {C:PC}{s0:Sc}{x0:Stm}(S0:SEnv C xb w w s0 x0)(S:SEnv C xb w w2 s x)(T:TrAt C w dv ptrs):TrAt C w2 dv ptrs:=by
 refine T.vh S.c yy yy ?_;obtain⟨cs,A⟩:=S0.x.blk;intro g D;rcases(by simpa using D)with rfl | rfl
 ·exact⟨_,_,S0.e.sc,by decide,by decide⟩
 ·exact⟨_,_,A,by decide,by decide⟩
theorem SEnv.after {C:PC}(S:SEnv C xb w w2 s x)(hK:StK C w2 dv ptrs l s3 w3)(hch:Chg C.B [398] [C.sb,C.tb] w2 w3)(T:TrAt C w2 dv ptrs):SEnv C xb w3 w3 s3 x:=by
 obtain⟨news,D,_⟩:=hK;obtain⟨tv,A,_⟩:=T;exact SEnv.start D (S.x.vh hch yd yd yd (by
  intro g E;rcases(by simpa using E)with rfl | rfl
  ·exact⟨_,_,S.e.sc,by decide,by decide,by decide⟩
  ·exact⟨_,_,A,by decide,by decide,by decide⟩)) S.bx (ya S.rbw hch.size)
theorem SEnv.setBody {C:PC}(S:SEnv C xb w0 w s x){l:List Nat}(hl:zz w C.rb v l):SEnv C xb w0 (w.setCell (.a xb 23) v) s { x with body:=l }:=S.store _ _ (S.x.setBody hl)
theorem SEnv.setEls {C:PC}(S:SEnv C xb w0 w s x){l:List Nat}(hl:zz w C.rb v l):SEnv C xb w0 (w.setCell (.a xb 24) v) s { x with els:=l }:=S.store _ _ (S.x.setEls hl)
theorem StK.two {C:PC}{w5 w6:World}{s5 s6:Sc}{x5 x6 x7:Stm}{l':List Stm}
  (hS4:za w4 w.heap.size news l) (hw:w.heap.size<=w4.heap.size) (hne:∀ b ∈ news,b≠xb/\b≠C.sb)
  (X6:zE w6 C.rb xb x6) (S5:SEnv C xb w4 w5 s4 x5) (S50:SEnv C xb w4 w4 s5 x7) (T5:TrAt C w5 dv (ptrs++news)) (hK:StK C w5 dv (ptrs++news) l' s6 w6) (hch:Chg C.B [398] [C.sb,C.tb] w5 w6) :
  StK C w dv ptrs (l++l') s6 w6:=by
 obtain⟨A,H,J,I⟩:=hK;obtain⟨cs,D⟩:=S50.x.blk;obtain⟨tv,G,_⟩:=T5;refine⟨news++A,H,by rw[<- ya7];exact J,za.append ?_ ?_⟩
 ·refine hS4.map yL fun b y hb K h=>?_;have h5:=h.chgX S5.c yy yy yy (by simp[hne b hb]) (by
   intro g E;rcases(by simpa using E)with rfl | rfl
   ·exact⟨_,_,S50.e.sc,by decide,by decide⟩
   ·exact⟨_,_,D,by decide,by decide⟩)
  exact h5.vh hch yd yd yd (by
   intro g E;rcases(by simpa using E)with rfl | rfl
   ·exact⟨_,_,S5.e.sc,by decide,by decide,by decide⟩
   ·exact⟨_,_,G,by decide,by decide,by decide⟩)
 ·exact I.map (ya hw S5.c.size) fun b y _ _ h=>h.low (ya hw S5.c.size)
attribute [local go_sem] zT
theorem zp2 (d:Nat)(hd:d<=6)(HBl0:zgf (d+1))(C:PC)(w:World)(s:Sc)(x:Stm)(xb:Nat)(dv:Value)(ptrs:List Nat)(E:Env C w s)(T:TrAt C w dv ptrs)(X:zE w C.rb xb x)(hhas:x.has=false)(hB:C.B<=xb)(hrb:C.rb<=w.heap.size)
  (hat:s.kind≠0->ptrs.length<=s.at_) (h0:0<ptrs.length) (wd:ByteArray) (wh:Bool) (hw:(wd.toList==[119,104,105,108,101])=wh) :
  Calls prog 315 #[.p C.pb,.p xb,.string wd,.i d] w
   (Post C.B [398] [C.sb,C.tb,xb] w (zgl C.t (zck C.t (xg C.t (6-d) (d+1)) (d+1)) wh s (ptrs.length-1) x) fun p v w'=>v=.tuple #[]/\WK C w xb dv ptrs p.1 p.2 w'):=by
 have S0:=zH (SEnv.start E X hB hrb);have ad:7-(d+1)=6-d:=yo;have N:=HBl0;unfold zgf at N;rw[ad]at N;obtain⟨bl,a1⟩:∃ bl,bl=zck C.t (xg C.t (6-d) (d+1)) (d+1):=⟨_,rfl⟩;have S:=N C;rw[<- a1]at S |-;have aa:=zH a1;have MD0:=zH (zgl.eq_1 C.t bl wh s (ptrs.length-1) x);obtain⟨M,hM⟩:∃ M,M=zgl C.t bl wh s (ptrs.length-1) x:=⟨_,rfl⟩;rw[<- hM]at MD0 |-;obtain⟨c9,cj,ct⟩:=S0.o.cells;obtain⟨am,ax,b5,d2,_⟩:=S0.o.x.cells;obtain⟨aj,ak⟩:=S0.o.ne;have HT:=zH T;clear E X T N HBl0 hM a1;go_enter func315,ntmps315;go_wp2_with fail;refine(zfw S0.o.e).mono ?_;rintro e w1 (⟨p1,v,hr,rfl,⟨rfl,hE⟩,hch⟩ | ⟨f,b,hr,rfl,hfb,hle,hch⟩);rotate_left
 ·exact mXa
 have R1:=zH hr;have md:=MD0.o;rw[hr,zF]at md;have a2:=zH md;have S1:=zH (S0.o.scan hE hch);obtain⟨ca,ck,cu⟩:=S1.o.cells;obtain⟨an,ay,b6,d3,_⟩:=S1.o.x.cells;obtain⟨be,bm,bz⟩:=S1.o.qy;clear hr hE hch md;go_wp2_with fail;refine zK (fun W=>SEnv C xb w W p1.2 { x with op:=14,y:=p1.1 }) ((S1.o.vn p1.1).qx 14) ?_;intro w2 G;have D:=zH G;obtain⟨cc,cm,cw⟩:=G.cells;obtain⟨ao,az,b7,d4,_⟩:=G.x.cells;obtain⟨bf,bn,c0⟩:=G.qy;clear G;have a8:=zha R1.o;have ag:=(za8 a8.2.1 S0.o.e.at_).2;have ah:=hat yo;have a9:ptrs.length-1+1=ptrs.length:=yo;have a5:=zH (TrAt.jh S0.o D.o HT.o);refine(S w2 p1.2 dv ptrs D.o.e a5.o yo (fun _=>by omega)).mono ?_;rintro e w3 (⟨K,v3,hr,rfl,⟨Z,hK⟩,hch⟩ | ⟨f,b,hr,rfl,hfb,hle,hch⟩);rotate_left
 ·exact⟨rfl,.inr ⟨f,b,by have md:=a2.o;rw[a9,hr]at md;exact md,rfl,hfb,ya D.o.c.size hle,(D.o.c.mono yy (by intro g hg;simp at hg |-;omega)).trans (hch.mono yy (by intro g hg;simp at hg |-;omega))⟩⟩
 have R3:=zH hr;have K3:=zH hK;have C3:=zH hch;have I3:=zH (show zz w3 C.rb v3 K.1.1 from zm Z D.o.rbw);obtain⟨a3,c3,hv⟩:=zX Z;subst hv;have L:=zH (SEnv.after D.o hK hch a5.o);obtain⟨cd,cn,cx⟩:=L.o.cells;obtain⟨ap,b1,b8,d5,_⟩:=L.o.x.cells;obtain⟨bg,bo,c2⟩:=L.o.qy;clear hr hK hch Z;have A:=a2.o;rw[a9,R3.o,zF]at A;cases wh
 ·rw[yg yy]at A;have O:=zH A;clear A;go_wp2_with fail;refine zK (fun W=>SEnv C xb w3 W K.2 { x with op:=13,y:=p1.1,body:=K.1.1 }) ((L.o.setBody I3.o).qx 13) ?_;intro w4 H;have S4:=zH H;obtain⟨ce,co,cy⟩:=H.cells;obtain⟨aq,b2,b9,d6,_⟩:=H.x.cells;obtain⟨bh,bp,c4⟩:=H.qy;clear H;cases hel:zk K.2 wElse
  ·have U:=zH hel;have A:=O.o;rw[hel,yg yy]at A;have Q:=zH A;clear hel A;refine(zbl S4.o.e wElse).mono ?_;rw[U.o];rintro e w' ⟨rfl,rfl⟩;have F:=zH (S4.o.setHas false);go_wp2;go_end0;obtain⟨hk,hc⟩:=StK.jh L.o.x D.o K3.o C3.o F.o;exact .inl ⟨(_,K.2),_,Q.o,rfl,⟨rfl,_,_,rfl,by rw[hhas];exact F.o.x,hk⟩,hc⟩
  ·have U:=zH hel;have A:=O.o;rw[hel,yj rfl]at A;have Q:=zH A;clear hel A;refine(zbl S4.o.e wElse).mono ?_;rw[U.o];rintro e w' ⟨rfl,rfl⟩;go_wp2_with fail;refine zK (fun W=>SEnv C xb w3 W K.2 { x with op:=13,y:=p1.1,body:=K.1.1,has:=true }) (S4.o.setHas true) ?_;intro w5 I;have S5:=zH I;obtain⟨cf,cp,cz⟩:=I.cells;obtain⟨au,b3,bb,d7,_⟩:=I.x.cells;obtain⟨bi,bq,c5⟩:=I.qy;clear I;have CC:=zH (StK.jh L.o.x D.o K3.o C3.o S5.o).2;refine(zau S5.o.e).mono ?_;rintro e w6 (⟨p6,v,hr,rfl,⟨rfl,hE⟩,hch⟩ | ⟨f,b,hr,rfl,hfb,hle,hch⟩);rotate_left
   ·exact⟨rfl,.inr ⟨f,b,by have md:=Q.o;rw[hr]at md;exact md,rfl,hfb,ya CC.o.size hle,CC.o.trans (hch.mono yy (by intro g hg;simp at hg |-;omega))⟩⟩
   have R6:=zH hr;have A:=Q.o;rw[hr,zF]at A;have a4:=zH A;have Y:=zH (S5.o.scan hE hch);have C6:=zH (CC.o.trans (hch.mono (ts':=[398]) (xs':=[C.sb,C.tb,xb]) yy (by intro g hg;simp at hg |-;omega)));obtain⟨ch,cq,d0⟩:=Y.o.cells;obtain⟨bj,br,c6⟩:=Y.o.qy;clear hr hE hch A;obtain⟨news,ac,a6,a0⟩:=K3.o;have T6:=zH (TrAt.jh L.o Y.o a6);have ae:=a0.length;have R:=zH a0;have af:zd2 C.t p1.2 K.2 K.1.2.length:=by
    have h:=R3.o;rw[aa.o]at h;exact zmy (fun s k p h hs=>zl5 _ _ s k p h hs) h D.o.e.at_
   have ai:ptrs.length+news.length<=p6.at_:=by
    have:=(za8 R6.o S5.o.e.at_).2;have:=af.2;omega
   have J:(ptrs++news).length=ptrs.length+news.length:=by simp
   clear ac a6 a0;go_wp2_with fail;refine(S w6 p6 dv (ptrs++news) Y.o.e T6.o (by rw[J];omega) (fun _=>by rw[J];omega)).mono ?_;rw[J,ae];rintro e w7 (⟨p7,v7,hr,rfl,⟨Z,hK⟩,hch⟩ | ⟨f,b,hr,rfl,hfb,hle,hch⟩);rotate_left
   ·exact⟨rfl,.inr ⟨f,b,by have md:=a4.o;rw[hr]at md;exact md,rfl,hfb,ya C6.o.size hle,C6.o.trans (hch.mono yy (by intro g hg;simp at hg |-;omega))⟩⟩
   have A:=a4.o;rw[hr,zF]at A;have ab:=zH A;have I7:=zH (show zz w7 C.rb v7 p7.1.1 from zm Z Y.o.rbw);obtain⟨a7,c7,hv⟩:=zX Z;subst hv;have S7:=zH (SEnv.after Y.o hK hch T6.o);have K7:=zH (show StK C w dv ptrs (K.1.2++p7.1.2) p7.2 w7 from StK.two (R.o.map D.o.c.size fun _ _ _ _ h=>h.low D.o.c.size) (ya D.o.c.size C3.o.size) (fun b hb=>by
    have:=(R.o.mem b hb).1;have:=D.o.x.lt;have:=Blk.lt D.o.e.sc;omega) S7.o.x Y.o L.o T6.o hK hch)
   have C7:=zH (C6.o.trans (hch.mono (ts':=[398]) (xs':=[C.sb,C.tb,xb]) yy yy));obtain⟨ci,cs,d1⟩:=S7.o.cells;obtain⟨aw,b4,bd,d8,_⟩:=S7.o.x.cells;obtain⟨bk,bu,c8⟩:=S7.o.qy;have F:=zH (S7.o.setEls I7.o);clear hr hK hch Z A;go_wp2;go_end0;exact .inl ⟨(_,p7.2),_,ab.o,rfl,⟨rfl,_,_,rfl,F.o.x,K7.o.on S7.o.x S0.o.x.lt (Blk.lt S0.o.e.sc) yL F.o⟩,C7.o.trans (F.o.c.mono yy yy)⟩
 ·rw[yj rfl]at A;have O:=zH A;clear A;have F:=zH (L.o.setBody I3.o);go_wp2;go_end0;obtain⟨hk,hc⟩:=StK.jh L.o.x D.o K3.o C3.o F.o;exact .inl ⟨(_,K.2),_,O.o,rfl,⟨rfl,_,_,rfl,F.o.x,hk⟩,hc⟩
attribute [local go_sem] zT
theorem WK.one {C:PC}{s0:Sc}{x0 x2:Stm}{M:Except Flt (List Stm×Sc)}(S0:SEnv C xb w w s0 x0)(S:SEnv C xb w w2 s2 x2)(T:TrAt C w dv ptrs)(hM:M=.ok ([x2],s2)) :
  Post C.B [398] [C.sb,C.tb,xb] w M (fun p v w'=>v=.tuple #[]/\WK C w xb dv ptrs p.1 p.2 w') (.e) w2 :=
 .inl ⟨_,_,hM,rfl,⟨rfl,x2,[],rfl,S.x,[],S.e,by rw[ya9];exact TrAt.jh S0 S T,trivial⟩,S.c.mono yy yy⟩
theorem ze {l m:List UInt8}(h:a.toList=l)(hn:(l==m)=false):(a.toList==m)=false:=by rw[h];exact hn
theorem zh0 {l:List UInt8}(h:a.toList=l):(a.toList==l)=true:=by rw[h];simp
theorem zR {l:List UInt8}{b:Bool}(h:(a.toList==l)=b):eqB a (bytes l)=b:=(zie _ _).symm.trans h
theorem z1c (d:Nat)(bl:Sc->Nat->Except Flt ((List Nat×List Stm)×Sc))(C:PC)(w:World)(s:Sc)(x:Stm)(xb:Nat)(dv:Value)(ptrs:List Nat)(E:Env C w s)(T:TrAt C w dv ptrs)(X:zE w C.rb xb x)(hB:C.B<=xb)(hrb:C.rb<=w.heap.size)
  (q1:(s.tok.text.toList==[108,111,99,107])=true) (q2:(s.tok.text.toList==[117,110,108,111,99,107])=false) (q3:(s.tok.text.toList==[106,111,105,110])=false) (q4:(s.tok.text.toList==[114,101,116,117,114,110])=false) (q5:(s.tok.text.toList==[105,102])=false) (q6:(s.tok.text.toList==[119,104,105,108,101])=false) (q7:(s.tok.text.toList==[103,111])=false) :
  Calls prog 311 #[.p C.pb,.p xb,.i d] w
   (Post C.B [398] [C.sb,C.tb,xb] w (xj C.t bl s (ptrs.length-1) x) fun p v w'=>v=.tuple #[]/\WK C w xb dv ptrs p.1 p.2 w'):=by
 have S0:=zH (SEnv.start E X hB hrb);have HT:=zH T;have J:eqB s.tok.text zgd=_:=zR q1;have K:eqB s.tok.text zfn=_:=zR q2;have L:eqB s.tok.text zfm=_:=zR q3;have N:eqB s.tok.text zge=_:=zR q4;have O:eqB s.tok.text wIf=_:=zR q5;have Q:eqB s.tok.text zfo=_:=zR q6;have R:eqB s.tok.text wGo=_:=zR q7;have D:=xj.eq_1 C.t bl s (ptrs.length-1) x;simp only[J,K,L,N,O,Q,R,yao,ybc,yav,ybu,yI,if_true,if_false]at D;have MD0:=zH D;obtain⟨M,S⟩:∃ M,M=xj C.t bl s (ptrs.length-1) x:=⟨_,rfl⟩;rw[<- S]at MD0 |-;obtain⟨ak,ap,ax⟩:=S0.o.cells;obtain⟨Z,a3,a7,b2,_⟩:=S0.o.x.cells;obtain⟨U,Y⟩:=S0.o.ne;clear E T X S D J K L N O Q R;go_enter func311,ntmps311;go_wp2_with fail;refine(zau S0.o.e).mono ?_;rintro e w1 (⟨p1,v,hr,rfl,⟨rfl,hE⟩,hch⟩ | ⟨f,b,hr,rfl,hfb,hle,hch⟩);rotate_left
 ·exact mXa
 have R1:=zH hr;have md:=MD0.o;rw[hr,zF]at md;have MD1:=zH md;have G:=zH (S0.o.scan hE hch);obtain⟨am,aq,ay⟩:=G.o.cells;obtain⟨a0,a4,a8,b3,_⟩:=G.o.x.cells;obtain⟨ab,ae,ah⟩:=G.o.qy;clear hr hE hch md;go_wp2_with fail;refine zK (fun W=>SEnv C xb w W p1 { x with op:=9 }) (G.o.qx 9) ?_;intro w2 A;have S2:=zH A;obtain⟨an,au,az⟩:=A.cells;obtain⟨a1,a5,a9,b4,_⟩:=A.x.cells;obtain⟨ac,af,ai⟩:=A.qy;clear A;refine(zfb S2.o.e).mono ?_;rintro e w3 (⟨I,v,hr,rfl,⟨rfl,hE⟩,hch⟩ | ⟨f,b,hr,rfl,hfb,hle,hch⟩);rotate_left
 ·exact mSb
 have R3:=zH hr;have md:=MD1.o;rw[hr,zF]at md;have MD2:=zH md;have H:=zH (S2.o.scan hE hch);obtain⟨ao,aw,b1⟩:=H.o.cells;obtain⟨a2,a6,aa,b5,_⟩:=H.o.x.cells;obtain⟨ad,ag,aj⟩:=H.o.qy;clear hr hE hch md;go_wp2_with fail;refine zK (fun W=>SEnv C xb w W I.2 { x with op:=9,y:=I.1 }) (H.o.vn I.1) ?_;exact mOa
theorem z1f (d:Nat)(bl:Sc->Nat->Except Flt ((List Nat×List Stm)×Sc))(C:PC)(w:World)(s:Sc)(x:Stm)(xb:Nat)(dv:Value)(ptrs:List Nat)(E:Env C w s)(T:TrAt C w dv ptrs)(X:zE w C.rb xb x)(hB:C.B<=xb)(hrb:C.rb<=w.heap.size)
  (q1:(s.tok.text.toList==[108,111,99,107])=false) (q2:(s.tok.text.toList==[117,110,108,111,99,107])=true) (q3:(s.tok.text.toList==[106,111,105,110])=false) (q4:(s.tok.text.toList==[114,101,116,117,114,110])=false) (q5:(s.tok.text.toList==[105,102])=false) (q6:(s.tok.text.toList==[119,104,105,108,101])=false) (q7:(s.tok.text.toList==[103,111])=false) :
  Calls prog 311 #[.p C.pb,.p xb,.i d] w
   (Post C.B [398] [C.sb,C.tb,xb] w (xj C.t bl s (ptrs.length-1) x) fun p v w'=>v=.tuple #[]/\WK C w xb dv ptrs p.1 p.2 w'):=by
 have S0:=zH (SEnv.start E X hB hrb);have HT:=zH T;have J:eqB s.tok.text zgd=_:=zR q1;have K:eqB s.tok.text zfn=_:=zR q2;have L:eqB s.tok.text zfm=_:=zR q3;have N:eqB s.tok.text zge=_:=zR q4;have O:eqB s.tok.text wIf=_:=zR q5;have Q:eqB s.tok.text zfo=_:=zR q6;have R:eqB s.tok.text wGo=_:=zR q7;have D:=xj.eq_1 C.t bl s (ptrs.length-1) x;simp only[J,K,L,N,O,Q,R,yao,ybc,yav,ybu,yI,if_true,if_false]at D;have MD0:=zH D;obtain⟨M,S⟩:∃ M,M=xj C.t bl s (ptrs.length-1) x:=⟨_,rfl⟩;rw[<- S]at MD0 |-;obtain⟨ak,ap,ax⟩:=S0.o.cells;obtain⟨Z,a3,a7,b2,_⟩:=S0.o.x.cells;obtain⟨U,Y⟩:=S0.o.ne;clear E T X S D J K L N O Q R;go_enter func311,ntmps311;go_wp2_with fail;refine(zau S0.o.e).mono ?_;rintro e w1 (⟨p1,v,hr,rfl,⟨rfl,hE⟩,hch⟩ | ⟨f,b,hr,rfl,hfb,hle,hch⟩);rotate_left
 ·exact mXa
 have R1:=zH hr;have md:=MD0.o;rw[hr,zF]at md;have MD1:=zH md;have G:=zH (S0.o.scan hE hch);obtain⟨am,aq,ay⟩:=G.o.cells;obtain⟨a0,a4,a8,b3,_⟩:=G.o.x.cells;obtain⟨ab,ae,ah⟩:=G.o.qy;clear hr hE hch md;go_wp2_with fail;refine zK (fun W=>SEnv C xb w W p1 { x with op:=10 }) ((G.o.qx 9).qx 10) ?_;intro w2 A;have S2:=zH A;obtain⟨an,au,az⟩:=A.cells;obtain⟨a1,a5,a9,b4,_⟩:=A.x.cells;obtain⟨ac,af,ai⟩:=A.qy;clear A;refine(zfb S2.o.e).mono ?_;rintro e w3 (⟨I,v,hr,rfl,⟨rfl,hE⟩,hch⟩ | ⟨f,b,hr,rfl,hfb,hle,hch⟩);rotate_left
 ·exact mSb
 have R3:=zH hr;have md:=MD1.o;rw[hr,zF]at md;have MD2:=zH md;have H:=zH (S2.o.scan hE hch);obtain⟨ao,aw,b1⟩:=H.o.cells;obtain⟨a2,a6,aa,b5,_⟩:=H.o.x.cells;obtain⟨ad,ag,aj⟩:=H.o.qy;clear hr hE hch md;go_wp2_with fail;refine zK (fun W=>SEnv C xb w W I.2 { x with op:=10,y:=I.1 }) (H.o.vn I.1) ?_;exact mOa
theorem z1b (d:Nat)(bl:Sc->Nat->Except Flt ((List Nat×List Stm)×Sc))(C:PC)(w:World)(s:Sc)(x:Stm)(xb:Nat)(dv:Value)(ptrs:List Nat)(E:Env C w s)(T:TrAt C w dv ptrs)(X:zE w C.rb xb x)(hB:C.B<=xb)(hrb:C.rb<=w.heap.size)
  (q1:(s.tok.text.toList==[108,111,99,107])=false) (q2:(s.tok.text.toList==[117,110,108,111,99,107])=false) (q3:(s.tok.text.toList==[106,111,105,110])=true) (q4:(s.tok.text.toList==[114,101,116,117,114,110])=false) (q5:(s.tok.text.toList==[105,102])=false) (q6:(s.tok.text.toList==[119,104,105,108,101])=false) (q7:(s.tok.text.toList==[103,111])=false) :
  Calls prog 311 #[.p C.pb,.p xb,.i d] w
   (Post C.B [398] [C.sb,C.tb,xb] w (xj C.t bl s (ptrs.length-1) x) fun p v w'=>v=.tuple #[]/\WK C w xb dv ptrs p.1 p.2 w'):=by
 have S0:=zH (SEnv.start E X hB hrb);have HT:=zH T;have J:eqB s.tok.text zgd=_:=zR q1;have K:eqB s.tok.text zfn=_:=zR q2;have L:eqB s.tok.text zfm=_:=zR q3;have N:eqB s.tok.text zge=_:=zR q4;have O:eqB s.tok.text wIf=_:=zR q5;have Q:eqB s.tok.text zfo=_:=zR q6;have R:eqB s.tok.text wGo=_:=zR q7;have D:=xj.eq_1 C.t bl s (ptrs.length-1) x;simp only[J,K,L,N,O,Q,R,yao,ybc,yav,ybu,yI,if_true,if_false]at D;have MD0:=zH D;obtain⟨M,S⟩:∃ M,M=xj C.t bl s (ptrs.length-1) x:=⟨_,rfl⟩;rw[<- S]at MD0 |-;obtain⟨ak,ap,ax⟩:=S0.o.cells;obtain⟨Z,a3,a7,b2,_⟩:=S0.o.x.cells;obtain⟨U,Y⟩:=S0.o.ne;clear E T X S D J K L N O Q R;go_enter func311,ntmps311;go_wp2_with fail;refine(zau S0.o.e).mono ?_;rintro e w1 (⟨p1,v,hr,rfl,⟨rfl,hE⟩,hch⟩ | ⟨f,b,hr,rfl,hfb,hle,hch⟩);rotate_left
 ·exact mXa
 have R1:=zH hr;have md:=MD0.o;rw[hr,zF]at md;have MD1:=zH md;have G:=zH (S0.o.scan hE hch);obtain⟨am,aq,ay⟩:=G.o.cells;obtain⟨a0,a4,a8,b3,_⟩:=G.o.x.cells;obtain⟨ab,ae,ah⟩:=G.o.qy;clear hr hE hch md;go_wp2_with fail;refine zK (fun W=>SEnv C xb w W p1 { x with op:=8 }) ((G.o.qx 9).qx 8) ?_;intro w2 A;have S2:=zH A;obtain⟨an,au,az⟩:=A.cells;obtain⟨a1,a5,a9,b4,_⟩:=A.x.cells;obtain⟨ac,af,ai⟩:=A.qy;clear A;refine(zfb S2.o.e).mono ?_;rintro e w3 (⟨I,v,hr,rfl,⟨rfl,hE⟩,hch⟩ | ⟨f,b,hr,rfl,hfb,hle,hch⟩);rotate_left
 ·exact mSb
 have R3:=zH hr;have md:=MD1.o;rw[hr,zF]at md;have MD2:=zH md;have H:=zH (S2.o.scan hE hch);obtain⟨ao,aw,b1⟩:=H.o.cells;obtain⟨a2,a6,aa,b5,_⟩:=H.o.x.cells;obtain⟨ad,ag,aj⟩:=H.o.qy;clear hr hE hch md;go_wp2_with fail;refine zK (fun W=>SEnv C xb w W I.2 { x with op:=8,y:=I.1 }) (H.o.vn I.1) ?_;exact mOa
theorem z1d (d:Nat)(bl:Sc->Nat->Except Flt ((List Nat×List Stm)×Sc))(C:PC)(w:World)(s:Sc)(x:Stm)(xb:Nat)(dv:Value)(ptrs:List Nat)(E:Env C w s)(T:TrAt C w dv ptrs)(X:zE w C.rb xb x)(hB:C.B<=xb)(hrb:C.rb<=w.heap.size)
  (q1:(s.tok.text.toList==[108,111,99,107])=false) (q2:(s.tok.text.toList==[117,110,108,111,99,107])=false) (q3:(s.tok.text.toList==[106,111,105,110])=false) (q4:(s.tok.text.toList==[114,101,116,117,114,110])=false) (q5:(s.tok.text.toList==[105,102])=false) (q6:(s.tok.text.toList==[119,104,105,108,101])=false) (q7:(s.tok.text.toList==[103,111])=false) :
  Calls prog 311 #[.p C.pb,.p xb,.i d] w
   (Post C.B [398] [C.sb,C.tb,xb] w (xj C.t bl s (ptrs.length-1) x) fun p v w'=>v=.tuple #[]/\WK C w xb dv ptrs p.1 p.2 w'):=by
 have G:=zH (SEnv.start E X hB hrb);have HT:=zH T;have H:eqB s.tok.text zgd=_:=zR q1;have I:eqB s.tok.text zfn=_:=zR q2;have J:eqB s.tok.text zfm=_:=zR q3;have K:eqB s.tok.text zge=_:=zR q4;have L:eqB s.tok.text wIf=_:=zR q5;have N:eqB s.tok.text zfo=_:=zR q6;have O:eqB s.tok.text wGo=_:=zR q7;have A:=xj.eq_1 C.t bl s (ptrs.length-1) x;simp only[H,I,J,K,L,N,O,yao,ybc,yav,ybu,yI,if_true,if_false]at A;have D:=zH A;obtain⟨M,Q⟩:∃ M,M=xj C.t bl s (ptrs.length-1) x:=⟨_,rfl⟩;rw[<- Q]at D |-;obtain⟨Z,a0,a1⟩:=G.o.cells;obtain⟨U,W,Y,a2,_⟩:=G.o.x.cells;obtain⟨R,S⟩:=G.o.ne;clear E T X Q A H I J K L N O;go_enter func311,ntmps311;go_wp2_with fail;refine(zd5 _ _ _).mono ?_;rintro e w4 ⟨rfl,rfl⟩;exact⟨rfl,.inr ⟨_,_,D.o,rfl,zf.new yy,yr _,(Chg.refl _ _ _ _).alloc _⟩⟩
attribute [local go_sem] zT
theorem z1e (d:Nat)(bl:Sc->Nat->Except Flt ((List Nat×List Stm)×Sc))(C:PC)(w:World)(s:Sc)(x:Stm)(xb:Nat)(dv:Value)(ptrs:List Nat)(E:Env C w s)(T:TrAt C w dv ptrs)(X:zE w C.rb xb x)(hB:C.B<=xb)(hrb:C.rb<=w.heap.size)
  (q1:(s.tok.text.toList==[108,111,99,107])=false) (q2:(s.tok.text.toList==[117,110,108,111,99,107])=false) (q3:(s.tok.text.toList==[106,111,105,110])=false) (q4:(s.tok.text.toList==[114,101,116,117,114,110])=true) (q5:(s.tok.text.toList==[105,102])=false) (q6:(s.tok.text.toList==[119,104,105,108,101])=false) (q7:(s.tok.text.toList==[103,111])=false) :
  Calls prog 311 #[.p C.pb,.p xb,.i d] w
   (Post C.B [398] [C.sb,C.tb,xb] w (xj C.t bl s (ptrs.length-1) x) fun p v w'=>v=.tuple #[]/\WK C w xb dv ptrs p.1 p.2 w'):=by
 have S0:=zH (SEnv.start E X hB hrb);have HT:=zH T;have Z:eqB s.tok.text zgd=_:=zR q1;have e2:eqB s.tok.text zfn=_:=zR q2;have e3:eqB s.tok.text zfm=_:=zR q3;have e4:eqB s.tok.text zge=_:=zR q4;have e5:eqB s.tok.text wIf=_:=zR q5;have e6:eqB s.tok.text zfo=_:=zR q6;have e7:eqB s.tok.text wGo=_:=zR q7;have A:=xj.eq_1 C.t bl s (ptrs.length-1) x;simp only[Z,e2,e3,e4,e5,e6,e7,yao,ybc,yav,ybu,yI,if_true,if_false]at A;have MD0:=zH A;obtain⟨M,hM⟩:∃ M,M=xj C.t bl s (ptrs.length-1) x:=⟨_,rfl⟩;rw[<- hM]at MD0 |-;obtain⟨b5,bd,bj⟩:=S0.o.cells;obtain⟨a2,a8,ae,bq,_⟩:=S0.o.x.cells;obtain⟨a0,a1⟩:=S0.o.ne;clear E T X hM A Z e2 e3 e4 e5 e6 e7;go_enter func311,ntmps311;go_wp2_with fail;refine(zau S0.o.e).mono ?_;rintro e w1 (⟨U,v,hr,rfl,⟨rfl,hE⟩,hch⟩ | ⟨f,b,hr,rfl,hfb,hle,hch⟩);rotate_left
 ·exact mXa
 have R1:=zH hr;have md:=MD0.o;rw[hr,zF]at md;have L:=zH md;have O:=zH (S0.o.scan hE hch);obtain⟨b6,be,bk⟩:=O.o.cells;obtain⟨a3,a9,af,br,_⟩:=O.o.x.cells;obtain⟨ak,aq,az⟩:=O.o.qy;clear hr hE hch md;go_wp2_with fail;refine zK (fun W=>SEnv C xb w W U { x with op:=12 }) (O.o.qx 12) ?_;intro w2 G;have K:=zH G;obtain⟨b7,bf,bm⟩:=G.cells;obtain⟨a4,aa,ag,bu,_⟩:=G.x.cells;obtain⟨am,au,b1⟩:=G.qy;clear G;cases h59:isM U 59
 ·have A:=L.o;rw[h59,yg yy]at A;have D:=zH A;have H:=zH h59;clear h59 A;refine(zy K.o.e 59).mono ?_;rw[H.o];rintro e w' ⟨rfl,rfl⟩;go_wp2_with fail;refine zK (fun W=>SEnv C xb w W U { x with op:=12,has:=true }) (K.o.setHas true) ?_;intro w3 I;have R:=zH I;obtain⟨b8,bg,bn⟩:=I.cells;obtain⟨a5,ab,ah,bz,_⟩:=I.x.cells;obtain⟨an,aw,b2⟩:=I.qy;clear I;refine(zfw R.o.e).mono ?_;rintro e w4 (⟨Y,v,hr,rfl,⟨rfl,hE⟩,hch⟩ | ⟨f,b,hr,rfl,hfb,hle,hch⟩);rotate_left
  ·exact⟨rfl,(R.o.fault (by have md:=D.o;rw[hr]at md;exact md) hfb hle hch).wide yy (by intro g hg;simp at hg |-;omega)⟩
  have R4:=zH hr;have md:=D.o;rw[hr,zF]at md;have N:=zH md;have Q:=zH (R.o.scan hE hch);obtain⟨b9,bh,bo⟩:=Q.o.cells;obtain⟨a6,ac,ai,c0,_⟩:=Q.o.x.cells;obtain⟨ao,ax,b3⟩:=Q.o.qy;clear hr hE hch md;go_wp2_with fail;refine zK (fun W=>SEnv C xb w W Y.2 { x with op:=12,has:=true,y:=Y.1 }) (Q.o.vn Y.1) ?_;intro w5 J;have S:=zH J;obtain⟨bb,bi,bp⟩:=J.cells;obtain⟨a7,ad,aj,c2,_⟩:=J.x.cells;obtain⟨ap,ay,b4⟩:=J.qy;clear J;refine(zbc S.o.e 59).mono ?_;rintro e w6 (⟨p6,v,hr,rfl,⟨rfl,hE⟩,hch⟩ | ⟨f,b,hr,rfl,hfb,hle,hch⟩);rotate_left
  ·exact⟨rfl,(S.o.fault (by have md:=N.o;rw[hr]at md;exact md) hfb hle hch).wide yy (by intro g hg;simp at hg |-;omega)⟩
  have R6:=zH hr;have md:=N.o;rw[hr,zF]at md;have MD4:=zH md;have S6:=zH (S.o.scan hE hch);exact mDc
 ·have A:=L.o;rw[h59,yj rfl]at A;have D:=zH A;have H:=zH h59;clear h59 A;refine(zy K.o.e 59).mono ?_;rw[H.o];rintro e w' ⟨rfl,rfl⟩;go_wp2_with fail;refine(zbc K.o.e 59).mono ?_;rintro e w6 (⟨p6,v,hr,rfl,⟨rfl,hE⟩,hch⟩ | ⟨f,b,hr,rfl,hfb,hle,hch⟩);rotate_left
  ·exact⟨rfl,(K.o.fault (by have md:=D.o;rw[hr]at md;exact md) hfb hle hch).wide yy (by intro g hg;simp at hg |-;omega)⟩
  have R6:=zH hr;have md:=D.o;rw[hr,zF]at md;have MD4:=zH md;have S6:=zH (K.o.scan hE hch);exact mDc
theorem z09 (d:Nat)(bl:Sc->Nat->Except Flt ((List Nat×List Stm)×Sc))(C:PC)(w:World)(s:Sc)(x:Stm)(xb:Nat)(dv:Value)(ptrs:List Nat)(E:Env C w s)(T:TrAt C w dv ptrs)(X:zE w C.rb xb x)(hB:C.B<=xb)(hrb:C.rb<=w.heap.size)
  (q1:(s.tok.text.toList==[108,111,99,107])=false) (q2:(s.tok.text.toList==[117,110,108,111,99,107])=false) (q3:(s.tok.text.toList==[106,111,105,110])=false) (q4:(s.tok.text.toList==[114,101,116,117,114,110])=false) (q5:(s.tok.text.toList==[105,102])=false) (q6:(s.tok.text.toList==[119,104,105,108,101])=false) (q7:(s.tok.text.toList==[103,111])=true) :
  Calls prog 311 #[.p C.pb,.p xb,.i d] w
   (Post C.B [398] [C.sb,C.tb,xb] w (xj C.t bl s (ptrs.length-1) x) fun p v w'=>v=.tuple #[]/\WK C w xb dv ptrs p.1 p.2 w'):=by
 have S0:=zH (SEnv.start E X hB hrb);have HT:=zH T;have R:eqB s.tok.text zgd=_:=zR q1;have S:eqB s.tok.text zfn=_:=zR q2;have U:eqB s.tok.text zfm=_:=zR q3;have Y:eqB s.tok.text zge=_:=zR q4;have Z:eqB s.tok.text wIf=_:=zR q5;have e6:eqB s.tok.text zfo=_:=zR q6;have e7:eqB s.tok.text wGo=_:=zR q7;have A:=xj.eq_1 C.t bl s (ptrs.length-1) x;simp only[R,S,U,Y,Z,e6,e7,yao,ybc,yav,ybu,yI,if_true,if_false]at A;have MD0:=zH A;obtain⟨M,hM⟩:∃ M,M=xj C.t bl s (ptrs.length-1) x:=⟨_,rfl⟩;rw[<- hM]at MD0 |-;obtain⟨ao,ax,b3⟩:=S0.o.cells;obtain⟨a2,a6,aa,b8,_⟩:=S0.o.x.cells;obtain⟨a0,a1⟩:=S0.o.ne;clear E T X hM A R S U Y Z e6 e7;go_enter func311,ntmps311;go_wp2_with fail;refine(zau S0.o.e).mono ?_;rintro e w1 (⟨p1,v,hr,rfl,⟨rfl,G⟩,hch⟩ | ⟨f,b,hr,rfl,hfb,hle,hch⟩);rotate_left
 ·exact mXa
 have R1:=zH hr;have md:=MD0.o;rw[hr,zF]at md;have J:=zH md;have L:=zH (S0.o.scan G hch);obtain⟨ap,ay,b4⟩:=L.o.cells;obtain⟨a3,a7,ab,b9,_⟩:=L.o.x.cells;obtain⟨ae,ah,ak⟩:=L.o.qy;clear hr G hch md;go_wp2_with fail;refine zK (fun W=>SEnv C xb w W p1 { x with op:=7,mark:=s.tok.at_ }) ((L.o.qx 7).setMark s.tok.at_) ?_;intro w2 D;have H:=zH D;obtain⟨aq,az,b5⟩:=D.cells;obtain⟨a4,a8,ac,bb,_⟩:=D.x.cells;obtain⟨af,ai,am⟩:=D.qy;clear D;refine(zpk C xb _ _ _ H.o.e H.o.x hB H.o.rbw).mono ?_;rintro e w3 (⟨p3,v,hr,rfl,⟨rfl,G,hX⟩,hch⟩ | ⟨f,b,hr,rfl,hfb,hle,hch⟩);rotate_left
 ·exact⟨rfl,.inr ⟨f,b,by have md:=J.o;rw[hr]at md;exact md,rfl,hfb,ya H.o.c.size hle,(H.o.c.trans hch).mono yy yy⟩⟩
 have A:=J.o;rw[hr,zF]at A;have K:=zH A;have I:SEnv C xb w w3 p3.2 p3.1:=⟨G,hX,ya H.o.rbw hch.size,H.o.c.trans hch,hB⟩;have Q:=zH I;obtain⟨au,b1,b6⟩:=I.cells;clear A hr G hX hch I;go_wp2_with fail;refine(zbc Q.o.e 59).mono ?_;rintro e w4 (⟨p4,v,hr,rfl,⟨rfl,G⟩,hch⟩ | ⟨f,b,hr,rfl,hfb,hle,hch⟩);rotate_left
 ·exact⟨rfl,(Q.o.fault (by have md:=K.o;rw[hr]at md;exact md) hfb hle hch).wide yy (by intro g hg;simp at hg |-;omega)⟩
 have R4:=zH hr;have md:=K.o;rw[hr,zF]at md;have O:=zH md;have N:=zH (Q.o.scan G hch);obtain⟨aw,b2,b7⟩:=N.o.cells;obtain⟨a5,a9,ad,bd,_⟩:=N.o.x.cells;obtain⟨ag,aj,an⟩:=N.o.qy;clear hr G hch md;go_wp2;go_end0;exact WK.one S0.o N.o HT.o O.o
attribute [local go_sem] zT
def Off (w:World)(k:Option Nat)(xb:Nat):Prop:=∀ v,(w.cell? (.a xb 23)=some v\/w.cell? (.a xb 24)=some v)->v.ownBlock=none\/v.ownBlock≠k
theorem stm_cell {i:Nat}(h:zE w B xb x)(hi:i=23\/i=24)(hv:w.cell? (.a xb i)=some v):∃ l,zz w B v l:=by
 obtain⟨av,bv,ev,D,h1,h2,h3⟩:=h;have A:=D.cell i;rw[hv]at A;rcases hi with rfl | rfl
 ·have:v=bv:=by simpa [xf] using A
  subst this;exact⟨_,h2⟩
 ·have:v=ev:=by simpa [xf] using A
  subst this;exact⟨_,h3⟩
theorem zl4 {i:Nat}(h:zE w B xb x)(hi:i=23\/i=24)(hv:w.cell? (.a xb i)=some v):∀ k,v.ownBlock=some k->B<=k/\k<w.heap.size:=by
 obtain⟨l,hl⟩:=stm_cell h hi hv;exact fun k A=>hl.lt k A
theorem off_new {k:Option Nat}(h:zE w B xb x)(hk:∀ j,k=some j->j<B):Off w k xb:=by
 intro v hv;rcases hv with hv | hv
 all_goals
  cases hb:v.ownBlock with
  | none=>exact .inl rfl
  | some j =>
   right;intro e;have h1:=hk j e.symm
   first
   | (have h2:=zl4 h (.inl rfl) hv j hb;omega)
   | (have h2:=zl4 h (.inr rfl) hv j hb;omega)
theorem zyw {j:Nat}(h:zE w B xb x)(hj:w.heap.size<=j):Off w (some j) xb:=by
 intro v hv;rcases hv with hv | hv
 all_goals
  cases hb:v.ownBlock with
  | none=>exact .inl rfl
  | some i =>
   right;intro e;have e':i=j:=by injection e
   first
   | (have h2:=zl4 h (.inl rfl) hv i hb;omega)
   | (have h2:=zl4 h (.inr rfl) hv i hb;omega)
theorem Off.same {k:Option Nat}(h:Off w k xb)(hs:zE w B xb x)(he:w1.heap[xb]? = w.heap[xb]?):Off w1 k xb:=by
 obtain⟨cs,A⟩:=hs.blk;have h1:Blk w1 xb _ cs:=he.trans A;intro v hv;refine h v ?_;rw[h1.cell,h1.cell]at hv;rw[A.cell,A.cell];exact hv
theorem zE.ints {ys:List Value}(h:zE w B xb x)(hown:w.ownsRow B' 3 1 v n ys)(hg:w.grownBy w1 v.ownBlock)(ho:Off w v.ownBlock xb):zE w1 B xb x:=by
 obtain⟨cs,O⟩:=h.blk;obtain⟨av,bv,ev,G,h1,h2,h3⟩:=h;have N:∀ {e:TypeId} {size m:Nat} {u:Value} {I:List Value},e≠3->w.ownsRow B e size u m I->w1.ownsRow B e size u m I:=by
  intro e size m u I H L;refine L.kept hg ?_;rcases L.2 with⟨rfl,_⟩ | ⟨K,J,E,rfl,_,R,_⟩
  ·exact .inl rfl
  ·right;intro Q;exact xy hown (g:=K) (cs:=E) R (fun e'=>H e'.symm) K (by rw[<- Q];rfl) rfl
 have A:=G.cell 23;have D:=G.cell 24;exact⟨av,bv,ev,G.append hown hg yd,N yd h1,h2.kept hg (ho bv (.inl (by rw[A];simp[xf]))),h3.kept hg (ho ev (.inr (by rw[D];simp[xf])))⟩
def ziz (w:World)(k:Option Nat)(l:List Nat):Prop:=∀ b ∈ l,Off w k b
def zmc (C:PC)(w0:World)(dv:Value)(ptrs:List Nat)(M:Except Flt ((List Nat×List Stm)×Sc))(st:Sc->Nat->Except Flt (List Stm×Sc))(n:Nat)(lv:Value)(wr:World):Prop :=
 ∃ (s:Sc) (ids news:List Nat) (xs:List Stm),zz wr w0.heap.size lv ids/\Env C wr s/\TrAt C wr dv (ptrs++news)/\za wr w0.heap.size news xs/\ziz wr lv.ownBlock news/\Chg C.B [398] [C.sb,C.tb] w0 wr /\
  ptrs.length+news.length<=s.at_+1/\(s.kind≠0->ptrs.length+news.length<=s.at_)/\ids.length<=news.length/\C.t.size-s.at_<n/\M=zB (zcj st n s (ptrs.length+news.length)) fun q=>.ok ((ids++q.1.1,xs++q.1.2),q.2)
theorem TrAt.ints {C:PC}{ys:List Value}(h:TrAt C w dv ptrs)(hown:w.ownsRow B 3 1 v n ys)(hg:w.grownBy w1 v.ownBlock):TrAt C w1 dv ptrs:=by
 obtain⟨sv,hb,G⟩:=h;refine⟨sv,hb.append hown hg yd,G.kept hg ?_⟩;rcases G.2 with⟨rfl,_⟩ | ⟨E,D,A,rfl,_,I,_⟩
 ·exact .inl rfl
 ·right;intro H;exact xy hown (g:=E) (cs:=A) I yd E (by rw[<- H];rfl) rfl
theorem TrAt.alloc {C:PC}(h:TrAt C w dv ptrs)(o:Obj):TrAt C (w.alloc o) dv ptrs:=by
 obtain⟨sv,hb,A⟩:=h;exact⟨sv,hb.alloc o,A.alloc o⟩
theorem z0t {t:ByteArray}{lvl d:Nat}{k:Nat}(h:xg t lvl d s k=.ok p):s.kind≠0:=by
 cases lvl with
 | zero=>simp[xg]at h
 | succ lvl =>
  rw[xg]at h;split at h
  ·rename_i A;omega
  ·obtain⟨q,h1,_⟩:=zD h;unfold zcy at h1;obtain⟨r,h2,_⟩:=zD h1;have:=(zfc h2).1;omega
theorem blk_step {C:PC}{wr:World}{lv:Value}{ids:List Nat}{xs:List Stm}{M:Except Flt ((List Nat×List Stm)×Sc)}{st:Sc->Nat->Except Flt (List Stm×Sc)}{m g cap:Nat}{o:Obj}
  (hB:C.B<=w0.heap.size) (HR:zz wr w0.heap.size lv ids) (HE:Env C wr s) (HT:TrAt C wr dv (ptrs++news)) (HS:za wr w0.heap.size news xs) (HO:ziz wr lv.ownBlock news) (HC:Chg C.B [398] [C.sb,C.tb] w0 wr)
  (h0:s.kind≠0->ptrs.length+news.length<=s.at_) (hids:ids.length<=news.length) (hn:C.t.size-s.at_<m+1) (hM:M=zB (zcj st (m+1) s (ptrs.length+news.length)) fun q=>.ok ((ids++q.1.1,xs++q.1.2),q.2))
  (his:isM s 125=false) (hr:st s (ptrs.length+news.length)=.ok p) (hk0:s.kind≠0) (hle:zd2 C.t s p.2 p.1.length/\0<p.1.length)
  (hK:StK C wr dv (ptrs++news) p.1 p.2 w1) (hch:Chg C.B [398] [C.sb,C.tb] wr w1)
  (hrow:w2.ownsRow w0.heap.size 3 1 (.s g (ids.length+1) cap) (ids.length+1) ((ids.map fun n:Nat=>Value.int .i64 (n:Int))++[.i (ptrs.length+news.length:Nat)]))
  (O:(w1.alloc o).grownBy w2 lv.ownBlock) (N:lv.ownBlock=some g\/g=(w1.alloc o).heap.size) :
  zmc C w0 dv ptrs M st m (.s g (ids.length+1) cap) w2:=by
 obtain⟨A,hE,hT,U⟩:=hK;have Z:=U.length;obtain⟨tv,Y,_⟩:=HT;have Q:∀ g ∈ [C.sb,C.tb],∃ t cs,Blk wr g t cs/\t≠439/\t≠220/\t≠3:=by
  intro g O;rcases(by simpa using O)with rfl | rfl
  ·exact⟨_,_,HE.sc,by decide,by decide,by decide⟩
  ·exact⟨_,_,Y,by decide,by decide,by decide⟩
 have L:zz w1 w0.heap.size lv ids:=za9 HR hch yd (by
  intro k hk hm;obtain⟨t,cs,h4,_,_,h5⟩:=Q _ hm;exact xy HR h4 (fun e=>h5 e.symm) k hk rfl)
 have D:(w1.alloc o).ownsRow w0.heap.size 3 1 lv ids.length (ids.map fun n:Nat=>Value.int .i64 (n:Int)):=L.alloc o;have J:za w1 w0.heap.size news xs:=HS.vh hch yd yd yd Q;have I:za w1 w0.heap.size A p.1:=U.map HC.size fun b y _ _ h=>h.low HC.size;have S:ziz w1 lv.ownBlock news:=by
  intro b hb;obtain⟨_,x,hx⟩:=HS.mem b hb;refine(HO b hb).same hx ?_;obtain⟨cs,E⟩:=hx.blk;rw[E];refine E.vh hch yd ?_;intro hm;obtain⟨t,cs',h4,h5,_⟩:=Q _ hm;exact h5 (Blk.inj h4 E).1
 have R:ziz w1 lv.ownBlock A:=by
  intro b hb;obtain⟨_,x,hx⟩:=U.mem b hb;exact off_new hx fun j hj=>(HR.lt j hj).2
 have G:za (w1.alloc o) w0.heap.size (news++A) (xs++p.1):=(J.append I).map yL fun _ _ _ _ h=>h.alloc o;have H:ziz (w1.alloc o) lv.ownBlock (news++A):=by
  intro b hb;obtain⟨_,x,hx⟩:=(J.append I).mem b hb;have W:Off w1 lv.ownBlock b:=by
   rcases yu.1 hb with hb | hb
   ·exact S b hb
   ·exact R b hb
  refine W.same hx ?_;obtain⟨cs,E⟩:=hx.blk;rw[E];exact E.alloc o
 have K:∀ b ∈ news++A,w2.heap[b]? = (w1.alloc o).heap[b]? := by
  intro b hb;obtain⟨_,x,hx⟩:=G.mem b hb;obtain⟨cs,E⟩:=hx.blk;rw[E];exact E.append D O yd
 refine⟨p.2,ids++[ptrs.length+news.length],news++A,xs++p.1,?_,Env.append (hE.alloc o) D O yd yd,?_,?_,?_,?_,?_,?_,?_,?_,?_⟩
 ·have:(ids++[ptrs.length+news.length]).length=ids.length+1:=by simp
  unfold zz;rw[this,yat];exact hrow
 ·rw[<- ya7];exact(hT.alloc o).ints D O
 ·exact G.map yL fun b y hb _ h=>h.ints D O (H b hb)
 ·intro b hb;obtain⟨_,x,hx⟩:=G.mem b hb;rcases N with N | rfl
  ·have:=(H b hb).same hx (K b hb);rw[N]at this;exact this
  ·exact(zyw hx yL).same hx (K b hb)
 ·exact Chg.append ((HC.trans hch).alloc o) D O hB (.inr yL)
 ·have:=hle.1.2;have:=h0 hk0;simp;omega
 ·intro _;have:=hle.1.2;have:=h0 hk0;simp;omega
 ·have:=hle.2;simp;omega
 ·have:=hle.1.2;have:=hle.1.1;have:=hle.2;omega
 ·rw[hM,zcj,yg (by rw[his];simp),hr,zF,zhd];have:ptrs.length+news.length+p.1.length=ptrs.length+(news++A).length:=by simp;omega
  rw[this];congr 1;funext q
  rw[zF];simp
attribute [local go_sem] zT
theorem z0y (t:ByteArray)(d:Nat)(hd:d<=6)(s:Sc)(k:Nat)(hk:s.kind=4):xg t (7-d) d s k=xj t (zck t (xg t (6-d) (d+1)) (d+1)) s k { at_:=s.tok.at_ }:=by
 obtain⟨m,hm⟩:∃ m,7-d=m+1:=⟨6-d,by omega⟩;have:m=6-d:=yo;subst this;rw[hm,xg,yj hk]
theorem z0w (t:ByteArray)(d:Nat)(hd:d<=6)(s:Sc)(k:Nat)(hk:¬ s.kind=4):xg t (7-d) d s k=zB (zcy t s { at_:=s.tok.at_ }) fun p=>.ok ([p.1],p.2):=by
 obtain⟨m,hm⟩:∃ m,7-d=m+1:=⟨6-d,by omega⟩;have:m=6-d:=yo;subst this;rw[hm,xg,yg hk]
theorem zoj {C:PC}{wc:World}(hB:Began C w wc s dv ptrs)(hch:Chg C.B [398] [C.sb,C.tb,w.heap.size] wc w2):Chg C.B [398] [C.sb,C.tb] w w2 :=
 ⟨hch.os.trans hB.c.os,hch.tape.trans hB.c.tape,hch.output.trans hB.c.output,ya hB.c.size hch.size,fun k o D E=>by
  have h1:=hB.c.block k o D E;refine hch.block k o h1 (E.imp id fun⟨a,b⟩=>⟨a,?_⟩);have:=lt_of_block D;have A:k≠w.heap.size:=yo;simpa [A] using b⟩
theorem zty {C:PC}{wc:World}{p:List Stm}(hB:Began C w wc s dv ptrs)(hch:Chg C.B [398] [C.sb,C.tb,w.heap.size] wc w2)
  (hp:p=x::l) (hX:zE w2 w.heap.size w.heap.size x) (hE:Env (C.at_ w.heap.size) w2 s2) (hT:TrAt (C.at_ w.heap.size) w2 dv ((ptrs++[w.heap.size])++news)) (hS:za w2 wc.heap.size news l) :
  StK C w dv ptrs p s2 w2/\Chg C.B [398] [C.sb,C.tb] w w2:=by
 subst hp;refine⟨⟨w.heap.size::news,hE.un,?_,yr _,hX,?_⟩,zoj hB hch⟩
 ·have:TrAt C w2 dv ((ptrs++[w.heap.size])++news):=hT;simpa using this
 ·exact hS.map hB.c.size fun b y _ _ h=>h.low hB.c.size
theorem stmt_any (d:Nat)(hd:d<=6)(HW:zpd d):zpb d:=by
 intro C w s dv A E T af a8;have aw:A.length<=701:=ya af (Nat.succ_le_succ (ya E.at_ E.tsz));obtain⟨sv,hT,hR⟩:=T;obtain⟨sa,sc,aj⟩:=zX hR;subst aj;have hp:=E.p.cell;have hs:=Blk.cell E.sc;have ht:=hT.cell;have aa:=hT.frozen;have au:=E.p.lt;have ad:=Blk.lt E.sc;have ay:=hT.lt;have HE:=zH E;have HT:=zH hT;have HR:=zH hR;clear E hT hR;go_enter func293,ntmps293;go_upto_region 3 with fail
 go_cut [] (fun wx=>Began C w wx s dv A)
 case first =>
  refine xh (fun w1=>Env C w1 s/\Blk w1 C.tb 218 #[dv,.slice sa A.length sc]/\w1.ownsRow C.B 398 1 (.slice sa A.length sc) A.length (A.map ptrV) /\
   zE w1 w.heap.size w.heap.size { at_:=s.tok.at_ }/\Chg C.B [398] [C.sb,C.tb] w w1) ⟨HE.o.alloc _,HT.o.alloc _,HR.o.alloc _,⟨_,_,_,Blk.new _ _ _,yA _ _ _ _,yA _ _ _ _,yA _ _ _ _⟩,(Chg.refl _ _ _ _).alloc _⟩ ?_
  rintro w1 ⟨I,N,a4,a6,a3⟩;have ai:=I.p.cell;have az:=N.cell;have am:=N.frozen;have ab:=I.p.lt;have ap:=N.lt;have J:=zH I;have a2:=zH N;have R:=zH a4;have ae:=zH a6;have a1:=zH a3;have L:=zH (ya HE.o.bs (yaw ad));clear I N a4 a6 a3 hp hs ht aa;go_region_law (refine zan tyPtr rfl _ _ rfl C.B _ A.length (A.map ptrV) w1.heap.size _ _ ((zi R.o).alloc _) (Blk.newAt yy) rfl rfl rfl yE yo (by simp;have:=L.o;have:=a1.o.size;omega) ?_;intro g cap w2 Q S a9;(have G:=(Blk.append ((a2.o.drew).alloc _) ((zi R.o).alloc _) S yd));(have H:=Env.append ((J.o.drew).alloc _) ((zi R.o).alloc _) S yd yd);(have an:=H.p.cell);(have aq:=G.cell);(have ah:=G.frozen);(have HN:=zH (zvf J.o a2.o R.o ae.o a1.o L.o Q S));clear G H Q S a9)
  all_goals go_wp2_with fail
  all_goals go_meet
  all_goals exact HN.o
 case rest =>
  have I:=hcut.e.rb w.heap.size;have ai:=hcut.e.p.cell;have ax:=Blk.cell hcut.e.sc;have ab:=hcut.e.p.lt;have ao:=Blk.lt hcut.e.sc;have K:=zH hcut;have J:=zH I;have L:=zH (ya HE.o.bs (yaw ad));have ac:=zH (yaw (zE.lt hcut.x));have O:(A++[w.heap.size]).length=A.length+1:=by simp
  clear hcut I hp hs ht aa;by_cases hk:s.kind=4
  ·have k1:((s.kind:Int)==4)=true:=by rw[hk];rfl
   have k2:((s.kind:Int) != 4)=false:=by rw[hk];rfl
   have MD:=zH (z0y C.t d hd s A.length hk);have ak:A.length<=s.at_:=a8 yo;clear hk;go_wp2_with fail;refine(HW (C.at_ w.heap.size) wc s _ w.heap.size dv _ J.o K.o.tr K.o.x rfl L.o ac.o (by rw[O];omega) (by rw[O];omega)).mono ?_;rw[O];rintro e w2 (⟨p,v,U,rfl,⟨rfl,x,l,hp,hX,news,H,G,a5⟩,D⟩ | ⟨f,b,U,rfl,Z,a0,D⟩)
   ·have HX:=zH (zty (C:=C) K.o D hp hX H G a5);have Y:=zH (MD.o.trans U);clear U hp hX H G a5 D;go_wp2_with fail;refine bodyPost_end (v:=.i A.length) (by simp[results,results293,go_sem]) rfl ?_;exact .inl ⟨_,_,Y.o,rfl,⟨rfl,HX.o.1⟩,HX.o.2⟩
   ·exact⟨rfl,.inr ⟨f,b,MD.o.trans U,rfl,Z,ya K.o.c.size a0,zoj K.o D⟩⟩
  ·have k1:((s.kind:Int)==4)=false:=zI yo;have k2:((s.kind:Int) != 4)=true:=bne_iff_ne.2 yo;have MD:=zH (z0w C.t d hd s A.length hk);clear hk;go_wp2_with fail;refine(zyr (C.at_ w.heap.size) w.heap.size wc s _ J.o K.o.x L.o ac.o).mono ?_;rintro e w2 (⟨p,v,U,rfl,⟨rfl,H,a7⟩,D⟩ | ⟨f,b,U,rfl,Z,a0,D⟩)
   ·have W:Chg C.B [398] [C.sb,C.tb,w.heap.size] wc w2:=D.mono yy (by intro g hg;rcases(by simpa using hg)with rfl | rfl <;> simp[PC.at_])
    have G:TrAt (C.at_ w.heap.size) w2 dv ((A++[w.heap.size])++[]):=by
     rw[ya9];refine TrAt.vh (C:=C.at_ w.heap.size) K.o.tr D yy yy ?_;obtain⟨cs,ag⟩:=K.o.x.blk;intro g hg;rcases(by simpa using hg)with rfl | rfl
     ·exact⟨_,_,J.o.sc,by decide,by decide⟩
     ·exact⟨_,_,ag,by decide,by decide⟩
    have HX:=zH (zty (C:=C) (l:=[]) (news:=[]) K.o W (p:=[p.1]) rfl a7 H G trivial);have Y:=zH (MD.o.trans (show zB (zcy C.t s _) _=_ by rw[show zcy C.t s _=_ from U,zF]));clear U H a7 D W G;go_wp2_with fail;refine bodyPost_end (v:=.i A.length) (by simp[results,results293,go_sem]) rfl ?_;exact .inl ⟨([p.1],p.2),_,Y.o,rfl,⟨rfl,HX.o.1⟩,HX.o.2⟩
   ·refine⟨rfl,.inr ⟨f,b,MD.o.trans (by rw[show zcy C.t s _=_ from U];rfl),rfl,Z,ya K.o.c.size a0,zoj K.o (D.mono yy (by intro g hg;rcases(by simpa using hg)with rfl | rfl <;> simp[PC.at_]))⟩⟩
attribute [local go_sem] zT
theorem z0x {t:ByteArray}{lvl d:Nat}{k:Nat}(h:xg t lvl d s k=.ok p)(hs:s.at_<=t.size):zd2 t s p.2 p.1.length/\0<p.1.length:=zl5 lvl d s k p h hs
theorem zp0 (d:Nat)(HS:d<=6->zpb d):zgf d:=by
 intro C w s dv D E T b4 ag;have hp:=E.p.cell;have hs:=Blk.cell E.sc;have b5:=E.p.lt;have az:=Blk.lt E.sc;have HE:=zH E;have HT:=zH T;have Z:=zH (show zck C.t (xg C.t (7-d) d) d s D.length=if isM s 123/\6<d then .error ⟨6,s.tok.at_⟩else
  zB (zt C.t s 123) fun s1=>zB (zcj (xg C.t (7-d) d) (C.t.size+1) s1 D.length) fun p=>zB (zt C.t p.2 125) fun s2=>.ok (p.1,s2)from rfl)
 generalize zck C.t (xg C.t (7-d) d) d s D.length=M at Z |-;clear E T;go_enter func247,ntmps247;cases h123:isM s 123
 ·have I:=Z.o;rw[h123,yg yy]at I;have MD:=zH I;clear I;have H:=zH h123;clear h123;go_wp2_with fail;refine(zy HE.o 123).mono ?_;rw[H.o];rintro e w' ⟨rfl,rfl⟩;go_wp2_with fail;refine(zbc HE.o 123).mono ?_;rintro e w1 (⟨s1,v,L,rfl,⟨rfl,a6⟩,G⟩ | ⟨f,b,L,rfl,Q,R,G⟩)
  ·have:=(zg2 L).1;rw[H.o]at this;cases this
  ·exact⟨rfl,.inr ⟨_,_,MD.o.trans (by rw[L];rfl),rfl,Q,R,G.mono yy yy⟩⟩
 ·by_cases hd:6<d
  ·have I:=Z.o;rw[h123,yj (by simpa using hd)]at I;have MD:=zH I;clear I;have H:=zH h123;have d1:decide ((6:Int)<(d:Int))=true:=by simpa using (by omega:(6:Int)<(d:Int))
   have d2:decide ((d:Int) > 6)=true:=d1;clear h123;go_wp2_with fail;refine(zy HE.o 123).mono ?_;rw[H.o];rintro e w' ⟨rfl,rfl⟩;go_wp2_with fail;refine(zd5 _ _ _).mono ?_;rintro e w4 ⟨rfl,rfl⟩;exact⟨rfl,.inr ⟨_,_,MD.o,rfl,zf.new yy,yr _,(Chg.refl _ _ _ _).alloc _⟩⟩
  ·have I:=Z.o;rw[h123,yg (by simpa using hd)]at I;have MD:=zH I;clear I;have H:=zH h123;have d1:decide ((6:Int)<(d:Int))=false:=by simpa using (by omega:(d:Int)<=6)
   have d2:decide ((d:Int) > 6)=false:=d1;have au:=HS yo;clear h123;go_wp2_with fail;refine(zy HE.o 123).mono ?_;rw[H.o];rintro e w' ⟨rfl,rfl⟩;go_wp2_with fail;refine(zbc HE.o 123).mono ?_;rintro e w1 (⟨s1,v,L,rfl,⟨rfl,a6⟩,G⟩ | ⟨f,b,L,rfl,Q,R,G⟩);rotate_left
   ·exact⟨rfl,.inr ⟨_,_,MD.o.trans (by rw[L];rfl),rfl,Q,R,G.mono yy yy⟩⟩
   have a0:=zH (MD.o.trans (by rw[L,zF]));obtain⟨M1,a7⟩:∃ M1,M1=zcj (xg C.t (7-d) d) (C.t.size+1) s1 D.length:=⟨_,rfl⟩;rw[<- a7]at a0;have a5:=zH (show zmc C w dv D M1 (xg C.t (7-d) d) (C.t.size+1) (.z) w1 by
    have hk:=zjv (zg2 L).1;have hl:=zcr L HE.o.at_;have:=ag hk;refine⟨s1,[],[],[],yA _ _ _ _,a6,?_,trivial,(fun b hb=>by cases hb),G.mono yy yy,by simp;omega,fun _=>by simp;omega,by simp,by omega,?_⟩
    ·rw[ya9];refine HT.o.vh G yy yy ?_;intro g hg;rw[yG.1 hg];exact⟨_,_,HE.o.sc,by decide,by decide⟩
    ·rw[a7];simp only[ya8,Nat.add_zero,yas];cases zcj (xg C.t (7-d) d) (C.t.size+1) s1 D.length <;> rfl)
   have aw:=zH (ya HE.o.bs (yaw az));clear L a6 G a7 hp hs;go_wp2_with fail;go_loopg [5] (C.t.size+1) (fun n v5 wr=>zmc C w dv D M1 (xg C.t (7-d) d) n v5 wr)
   case atStart=>exact a5.o
   case round =>
    obtain⟨s2,K,news,xs,U,hE,af,ad,a2,aj,ah,ai,a4,hn,hM⟩:=hrel;obtain⟨ra,rc,hv⟩:=zX U;subst hv;have HR:=zH U;have J:=zH hE;have Y:=zH af;have a8:=zH ad;have ap:=zH a2;have O:=zH aj;have ay:=hE.p.cell;have ax:=Blk.cell hE.sc;have b2:=hE.p.lt;have b3:=Blk.lt hE.sc;have b1:K.length<=701:=ya a4 (ya (Nat.le_add_left _ _) (ya ah (Nat.succ_le_succ (ya hE.at_ hE.tsz))));have HM:=zH hM;have N:=zH hn;clear U hE af ad a2 aj hM hn;cases his:isM s2 125
    ·have S:=zH his;clear his;go_wp2_with fail;refine(zy J.o 125).mono ?_;rw[S.o];rintro e w' ⟨rfl,rfl⟩;go_wp2_with fail;refine(au C wr s2 dv (D++news) J.o Y.o (by simpa using ah) (by simpa using ai)).mono ?_;rw[show(D++news).length=D.length+news.length by simp];rintro e w3 (⟨p,v,L,rfl,⟨rfl,hK⟩,A⟩ | ⟨f,b,L,rfl,Q,R,A⟩);rotate_left
     ·exact⟨rfl,.inr ⟨f,b,a0.o.trans (by
       obtain⟨m,hm⟩:∃ m,gk=m+1:=⟨gk-1,by have:=N.o;omega⟩;rw[HM.o,hm,zcj,yg (by rw[S.o];simp),L];rfl),rfl,Q,ya O.o.size R,O.o.trans A⟩⟩
     obtain⟨m,hm⟩:∃ m,gk=m+1:=⟨gk-1,by have:=N.o;omega⟩;have KK:=zH hK;have RR:=zH L;have CC:=zH A;obtain⟨tv,an,_⟩:=Y.o;have aq:=zH (show zz w3 w.heap.size (.slice ra K.length rc) K from za9 HR.o A yd (by
      intro k hk hm;rcases(by simpa using hm)with rfl | rfl
      ·exact xy HR.o J.o.sc yd _ hk rfl
      ·exact xy HR.o an yd _ hk rfl))
     have am:=zH (ya O.o.size A.size);clear hK L A an ay ax;go_wp2_with (at_builtin;refine zbj ?_);refine zbk ?_;refine ze2 tyInt rfl _ _ rfl w.heap.size _ K.length (K.map fun n:Nat=>Value.int .i64 (n:Int)) w3.heap.size _ _ (aq.o.alloc _) (Blk.newAt rfl) rfl (by rfl) rfl yE yo (by have:=am.o;simp;omega) ?_;intro g cap w4 W ak a3;have HN:=zH (blk_step (M:=M1) (m:=m) aw.o HR.o J.o Y.o a8.o ap.o O.o ai a4 (yq N.o) (by rw[<- hm];exact HM.o) S.o RR.o (z0t RR.o) (z0x RR.o J.o.at_) KK.o CC.o W ak a3);have a1:=HN.o;obtain⟨_,_,_,_,_,a1,_⟩:=a1;have b6:=a1.p.cell;clear W ak a3 a1;go_wp2;go_roundg m
     case measure=>omega
     case rel=>exact HN.o
    ·have S:=zH his;clear his;go_wp2_with fail;refine(zy J.o 125).mono ?_;rw[S.o];rintro e w' ⟨rfl,rfl⟩;go_wp2_with fail;refine(zbc J.o 125).mono ?_;have a9:=zH (show M1=.ok ((K,xs),s2) by
      obtain⟨m,hm⟩:∃ m,gk=m+1:=⟨gk-1,by have:=N.o;omega⟩;rw[HM.o,hm,zcj,yj S.o];simp[zB])
     rintro e w3 (⟨s3,v,L,rfl,⟨rfl,aa⟩,A⟩ | ⟨f,b,L,rfl,Q,R,A⟩)
     ·have ac:=a8.o.vh A yy yy yy (by
       intro g hg;rw[yG.1 hg];exact⟨_,_,J.o.sc,by decide,by decide,by decide⟩)
      have ae:=Y.o.vh A yy yy (by
       intro g hg;rw[yG.1 hg];exact⟨_,_,J.o.sc,by decide,by decide⟩)
      have ab:zz w3 w.heap.size (.slice ra K.length rc) K:=za9 HR.o A yy (by
       intro k hk hm;rw[yG.1 hm]at hk;exact xy HR.o J.o.sc yd _ hk rfl)
      have ao:=zH (show Post C.B [398] [C.sb,C.tb] w M (fun p v w'=>zz w' w.heap.size v p.1.1/\StK C w dv D p.1.2 p.2 w') (.r (.slice ra K.length rc)) w3 from
       .inl ⟨((K,xs),s3),_,a0.o.trans (by rw[a9.o,zF,L,zF]),rfl,⟨ab,news,aa,ae,ac⟩,O.o.trans (A.mono yy yy)⟩)
      clear L aa A ac ae ab;go_wp2;go_ret;exact ao.o
     ·exact⟨rfl,.inr ⟨f,b,a0.o.trans (by rw[a9.o,zF,L];rfl),rfl,Q,ya O.o.size R,O.o.trans (A.mono yy yy)⟩⟩
end Go.Proofs.YtkmcihhndgdhpaaGreat
