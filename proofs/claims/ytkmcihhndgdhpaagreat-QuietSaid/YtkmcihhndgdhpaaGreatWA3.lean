/- Parts of the walk. -/
import Derived.Test.YtkmcihhndgdhpaaGreatWA2
set_option maxRecDepth 100000
set_option maxHeartbeats 4000000
set_option linter.unusedSimpArgs false
set_option linter.unusedVariables false
open Go.RowKit Go.Proofs.Tryz
namespace Go.Proofs.YtkmcihhndgdhpaaGreat
variable {ds:List Dcl}{xb B:Nat}{dv:Value}{ptrs:List Nat}
theorem mYa {p:Prop}(h:p:=by exact⟨rfl,(S0.o.fault (by have md:=MD0.o;rw[hr]at md;exact md) hfb hle hch).wide yy (by intro g hg;simp at hg |-;omega)⟩):p:=h
theorem mCb {p:Prop}(h:p:=by
  rintro e w3 (⟨p3,v,hr,rfl,⟨rfl,hK⟩,hch⟩ | ⟨f,b,hr,rfl,hfb,hle,hch⟩);rotate_left
  ·exact⟨rfl,.inr ⟨f,b,by have md:=MD1.o;rw[hr]at md;exact md,rfl,hfb,ya S1.o.c.size hle,(S1.o.c.mono yy (by intro g hg;simp at hg |-;omega)).trans hch⟩⟩
  have FIN:=zH (show Post C.B [398] [C.sb,C.tb,xb] w M (fun p v w'=>v=.tuple #[]/\WK C w xb dv ptrs p.1 p.2 w') (.e) w3 from
   .inl ⟨p3,_,by have md:=MD1.o;rw[hr]at md;exact md,rfl,⟨rfl,hK.low S1.o.c.size⟩,(S1.o.c.mono yy (by intro g hg;simp at hg |-;omega)).trans hch⟩)
  clear hr hK hch;go_wp2_with fail;refine ym (yp rfl _ _ _) rfl ?_;exact FIN.o):p:=h
attribute [local go_sem] zT
theorem WK.low {C:PC}{w w1:World}{p:List Stm}{s':Sc}{w':World}(h:WK C w1 xb dv ptrs p s' w')(hle:w.heap.size<=w1.heap.size):WK C w xb dv ptrs p s' w':=by
 obtain⟨x,l,H,G,news,A,E,D⟩:=h;exact⟨x,l,H,G,news,A,E,D.map hle fun _ _ _ _ h=>h.low hle⟩
theorem z1a (d:Nat)(hd:d<=6)(HBl:zgf (d+1))(C:PC)(bl:Sc->Nat->Except Flt ((List Nat×List Stm)×Sc))(hbl:zck C.t (xg C.t (6-d) (d+1)) (d+1)=bl)(w:World)(s:Sc)(x:Stm)(xb:Nat)(dv:Value)(ptrs:List Nat)(E:Env C w s)(T:TrAt C w dv ptrs)(X:zE w C.rb xb x)(hhas:x.has=false)(hB:C.B<=xb)(hrb:C.rb<=w.heap.size)
  (hat:ptrs.length<=s.at_+1) (h0:0<ptrs.length)
  (q1:(s.tok.text.toList==[108,111,99,107])=false) (q2:(s.tok.text.toList==[117,110,108,111,99,107])=false) (q3:(s.tok.text.toList==[106,111,105,110])=false) (q4:(s.tok.text.toList==[114,101,116,117,114,110])=false) (q5:(s.tok.text.toList==[105,102])=true) (q6:(s.tok.text.toList==[119,104,105,108,101])=false) (q7:(s.tok.text.toList==[103,111])=false) :
  Calls prog 311 #[.p C.pb,.p xb,.i d] w
   (Post C.B [398] [C.sb,C.tb,xb] w (xj C.t bl s (ptrs.length-1) x) fun p v w'=>v=.tuple #[]/\WK C w xb dv ptrs p.1 p.2 w'):=by
 have D:=zp2 d hd HBl C;rw[hbl]at D;have S0:=zH (SEnv.start E X hB hrb);have U:=zH T;have G:eqB s.tok.text zgd=_:=zR q1;have H:eqB s.tok.text zfn=_:=zR q2;have I:eqB s.tok.text zfm=_:=zR q3;have J:eqB s.tok.text zge=_:=zR q4;have K:eqB s.tok.text wIf=_:=zR q5;have L:eqB s.tok.text zfo=_:=zR q6;have N:eqB s.tok.text wGo=_:=zR q7;have A:=xj.eq_1 C.t bl s (ptrs.length-1) x;simp only[G,H,I,J,K,L,N,yao,ybc,yav,ybu,yI,if_true,if_false]at A;have MD0:=zH A;obtain⟨M,Q⟩:∃ M,M=xj C.t bl s (ptrs.length-1) x:=⟨_,rfl⟩;rw[<- Q]at MD0 |-;obtain⟨a7,a9,ab⟩:=S0.o.cells;obtain⟨Y,a0,a2,ad,_⟩:=S0.o.x.cells;obtain⟨R,S⟩:=S0.o.ne;clear E T X Q A G H I J K L N;go_enter func311,ntmps311;go_wp2_with fail;refine(zau S0.o.e).mono ?_;rintro e w1 (⟨p1,v,hr,rfl,⟨rfl,O⟩,hch⟩ | ⟨f,b,hr,rfl,hfb,hle,hch⟩);rotate_left
 ·exact mYa
 have W:=zH hr;have md:=MD0.o;rw[hr,zF]at md;have MD1:=zH md;have S1:=zH (S0.o.scan O hch);obtain⟨a8,aa,ac⟩:=S1.o.cells;obtain⟨Z,a1,a3,ae,_⟩:=S1.o.x.cells;obtain⟨a4,a5,a6⟩:=S1.o.qy;clear hr O hch md;go_wp2_with fail;refine(D w1 p1 x xb dv ptrs S1.o.e (TrAt.jh S0.o S1.o U.o) S1.o.x hhas hB S1.o.rbw (fun hk=>by have:=zec W.o S0.o.e.at_ hk;omega) h0 _ false q6).mono ?_;exact mCb
theorem z1g (d:Nat)(hd:d<=6)(HBl:zgf (d+1))(C:PC)(bl:Sc->Nat->Except Flt ((List Nat×List Stm)×Sc))(hbl:zck C.t (xg C.t (6-d) (d+1)) (d+1)=bl)(w:World)(s:Sc)(x:Stm)(xb:Nat)(dv:Value)(ptrs:List Nat)(E:Env C w s)(T:TrAt C w dv ptrs)(X:zE w C.rb xb x)(hhas:x.has=false)(hB:C.B<=xb)(hrb:C.rb<=w.heap.size)
  (hat:ptrs.length<=s.at_+1) (h0:0<ptrs.length)
  (q1:(s.tok.text.toList==[108,111,99,107])=false) (q2:(s.tok.text.toList==[117,110,108,111,99,107])=false) (q3:(s.tok.text.toList==[106,111,105,110])=false) (q4:(s.tok.text.toList==[114,101,116,117,114,110])=false) (q5:(s.tok.text.toList==[105,102])=false) (q6:(s.tok.text.toList==[119,104,105,108,101])=true) (q7:(s.tok.text.toList==[103,111])=false) :
  Calls prog 311 #[.p C.pb,.p xb,.i d] w
   (Post C.B [398] [C.sb,C.tb,xb] w (xj C.t bl s (ptrs.length-1) x) fun p v w'=>v=.tuple #[]/\WK C w xb dv ptrs p.1 p.2 w'):=by
 have D:=zp2 d hd HBl C;rw[hbl]at D;have S0:=zH (SEnv.start E X hB hrb);have U:=zH T;have G:eqB s.tok.text zgd=_:=zR q1;have H:eqB s.tok.text zfn=_:=zR q2;have I:eqB s.tok.text zfm=_:=zR q3;have J:eqB s.tok.text zge=_:=zR q4;have K:eqB s.tok.text wIf=_:=zR q5;have L:eqB s.tok.text zfo=_:=zR q6;have N:eqB s.tok.text wGo=_:=zR q7;have A:=xj.eq_1 C.t bl s (ptrs.length-1) x;simp only[G,H,I,J,K,L,N,yao,ybc,yav,ybu,yI,if_true,if_false]at A;have MD0:=zH A;obtain⟨M,Q⟩:∃ M,M=xj C.t bl s (ptrs.length-1) x:=⟨_,rfl⟩;rw[<- Q]at MD0 |-;obtain⟨a7,a9,ab⟩:=S0.o.cells;obtain⟨Y,a0,a2,ad,_⟩:=S0.o.x.cells;obtain⟨R,S⟩:=S0.o.ne;clear E T X Q A G H I J K L N;go_enter func311,ntmps311;go_wp2_with fail;refine(zau S0.o.e).mono ?_;rintro e w1 (⟨p1,v,hr,rfl,⟨rfl,O⟩,hch⟩ | ⟨f,b,hr,rfl,hfb,hle,hch⟩);rotate_left
 ·exact mYa
 have W:=zH hr;have md:=MD0.o;rw[hr,zF]at md;have MD1:=zH md;have S1:=zH (S0.o.scan O hch);obtain⟨a8,aa,ac⟩:=S1.o.cells;obtain⟨Z,a1,a3,ae,_⟩:=S1.o.x.cells;obtain⟨a4,a5,a6⟩:=S1.o.qy;clear hr O hch md;go_wp2_with fail;refine(D w1 p1 x xb dv ptrs S1.o.e (TrAt.jh S0.o S1.o U.o) S1.o.x hhas hB S1.o.rbw (fun hk=>by have:=zec W.o S0.o.e.at_ hk;omega) h0 _ true q6).mono ?_;exact mCb
theorem z08 (d:Nat)(hd:d<=6)(HBl:zgf (d+1)):zpd d:=by
 intro C w s x xb dv A E T X H G D I K;generalize J:zck C.t (xg C.t (6-d) (d+1)) (d+1)=bl;by_cases h1:s.tok.text.toList=[108,111,99,107]
 ·exact z1c d bl C w s x xb dv A E T X G D (zh0 h1) (ze h1 rfl) (ze h1 rfl) (ze h1 rfl) (ze h1 rfl) (ze h1 rfl) (ze h1 rfl)
 by_cases h2:s.tok.text.toList=[117,110,108,111,99,107]
 ·exact z1f d bl C w s x xb dv A E T X G D (ze h2 rfl) (zh0 h2) (ze h2 rfl) (ze h2 rfl) (ze h2 rfl) (ze h2 rfl) (ze h2 rfl)
 by_cases h3:s.tok.text.toList=[106,111,105,110]
 ·exact z1b d bl C w s x xb dv A E T X G D (ze h3 rfl) (ze h3 rfl) (zh0 h3) (ze h3 rfl) (ze h3 rfl) (ze h3 rfl) (ze h3 rfl)
 by_cases h4:s.tok.text.toList=[114,101,116,117,114,110]
 ·exact z1e d bl C w s x xb dv A E T X G D (ze h4 rfl) (ze h4 rfl) (ze h4 rfl) (zh0 h4) (ze h4 rfl) (ze h4 rfl) (ze h4 rfl)
 by_cases h5:s.tok.text.toList=[105,102]
 ·exact z1a d hd HBl C bl J w s x xb dv A E T X H G D I K (ze h5 rfl) (ze h5 rfl) (ze h5 rfl) (ze h5 rfl) (zh0 h5) (ze h5 rfl) (ze h5 rfl)
 by_cases h6:s.tok.text.toList=[119,104,105,108,101]
 ·exact z1g d hd HBl C bl J w s x xb dv A E T X H G D I K (ze h6 rfl) (ze h6 rfl) (ze h6 rfl) (ze h6 rfl) (ze h6 rfl) (zh0 h6) (ze h6 rfl)
 by_cases h7:s.tok.text.toList=[103,111]
 ·exact z09 d bl C w s x xb dv A E T X G D (ze h7 rfl) (ze h7 rfl) (ze h7 rfl) (ze h7 rfl) (ze h7 rfl) (ze h7 rfl) (zh0 h7)
 exact z1d d bl C w s x xb dv A E T X G D (by simpa using h1) (by simpa using h2) (by simpa using h3) (by simpa using h4) (by simpa using h5) (by simpa using h6) (by simpa using h7)
theorem zvt (n:Nat):∀ d,7<=d+n->zgf d:=by
 induction n with
 | zero=>exact fun d A=>zp0 d fun h=>by omega
 | succ n ih=>exact fun d A=>zp0 d fun h=>stmt_any d h (z08 d h (ih (d+1) yo))
theorem zvv (d:Nat):zgf d:=zvt 7 d yo
section
def zU (d:Dcl)(pv bv:Value):List Value:=[.u d.kind.toNat,.string d.name.text,.i d.name.at_,.bool d.name.num,.i d.name.n,pv,bv]
def zaa (w:World)(B:Nat):List (Value×Value)->List Dcl->Prop
 | [],[]=>True
 | p::ps,d::ds=>xp w B p.1 d.params/\zz w B p.2 d.body/\zaa w B ps ds
 | _,_=>False
def zdo (ps:List (Value×Value))(ds:List Dcl):List Value:=(List.zipWith (fun p d=>zU d p.1 p.2) ps ds).flatten
def DvAt (C:PC)(w:World)(dv:Value)(ds:List Dcl):Prop :=
 ∃ ps,w.ownsRow C.B 223 7 dv ds.length (zdo ps ds)/\zaa w C.B ps ds
theorem zaa.length {w:World}{B:Nat}:∀ {ps:List (Value×Value)} {ds:List Dcl},zaa w B ps ds->ps.length=ds.length
 | [],[],_=>rfl
 | [],_::_,h=>h.elim
 | _::_,[],h=>h.elim
 | _::_,_::_,h=>by simp[zaa.length h.2.2]
theorem zaa.append {w:World}{B:Nat}{p:Value×Value}{d:Dcl}:∀ {ps:List (Value×Value)} {ds:List Dcl},zaa w B ps ds->xp w B p.1 d.params->zz w B p.2 d.body->zaa w B (ps++[p]) (ds++[d])
 | [],[],_,h1,h2=>⟨h1,h2,trivial⟩
 | [],_::_,h,_,_=>h.elim
 | _::_,[],h,_,_=>h.elim
 | _::_,_::_,h,h1,h2=>⟨h.1,h.2.1,zaa.append h.2.2 h1 h2⟩
theorem zaa.map {w w1:World}{B:Nat}(hN:∀ v l,xp w B v l->xp w1 B v l)(hI:∀ v l,zz w B v l->zz w1 B v l):∀ {ps:List (Value×Value)} {ds:List Dcl},zaa w B ps ds->zaa w1 B ps ds
 | [],[],_=>trivial
 | [],_::_,h=>h.elim
 | _::_,[],h=>h.elim
 | _::_,_::_,h=>⟨hN _ _ h.1,hI _ _ h.2.1,zaa.map hN hI h.2.2⟩
theorem zwn {ps:List (Value×Value)}(h:ps.length=ds.length)(p:Value×Value)(d:Dcl):zdo (ps++[p]) (ds++[d])=zdo ps ds++zU d p.1 p.2:=by
 unfold zdo;rw[List.zipWith_append (h:=h)];simp
theorem zxs:(prog.info? 223).map (fun i=>(i.zero,i.size,i.bytes))=some (some (.agg #[.u 0,.string ByteArray.empty,.i 0,.bool false,.i 0,.z,.z]),7,96):=yk
theorem zoo:zj prog 215 223 7 96:=zj.mk' underlying215 zxs rfl yo yo
theorem zgw {w w1:World}{B' e e' n m size size':Nat}{v u:Value}{ys zs:List Value}(hown:w.ownsRow B e size v n ys)(hg:w.grownBy w1 v.ownBlock)(hne:e≠e')(h:w.ownsRow B' e' size' u m zs):w1.ownsRow B' e' size' u m zs:=by
 refine h.kept hg ?_;rcases h.2 with⟨rfl,_⟩ | ⟨E,D,A,rfl,_,H,_⟩
 ·exact .inl rfl
 ·right;intro G;exact xy hown (g:=E) (cs:=A) H hne E (by rw[<- G];rfl) rfl
theorem zE.row {w w1:World}{B' e n size:Nat}{x:Stm}{v:Value}{ys:List Value}(h:zE w B xb x)(hown:w.ownsRow B' e size v n ys)(hg:w.grownBy w1 v.ownBlock)(h1:e≠439)(h2:e≠220)(h3:e≠3):zE w1 B xb x:=by
 obtain⟨av,bv,ev,A,k1,k2,k3⟩:=h;exact⟨av,bv,ev,A.append hown hg h1,zgw hown hg h2 k1,zgw hown hg h3 k2,zgw hown hg h3 k3⟩
theorem zE.farT {w:World}{g:Nat}{t:TypeId}{cs:Array Value}{x:Stm}(h:zE w B xb x)(hg:Blk w g t cs)(h1:t≠439)(h2:t≠220)(h3:t≠3)(i:Nat)(u:Value):zE (w.setCell (.a g i) u) B xb x:=by
 obtain⟨av,bv,ev,A,k1,k2,k3⟩:=h;exact⟨av,bv,ev,A.qi (A.qs hg (fun e=>h1 e.symm)) _,zL k1 hg (fun e=>h2 e.symm) _ _,zL k2 hg (fun e=>h3 e.symm) _ _,zL k3 hg (fun e=>h3 e.symm) _ _⟩
structure DRead (C:PC)(w w1:World)(s:Sc)(dv:Value)(ds:List Dcl)(ptrs news:List Nat)(xs:List Stm)(db:Nat)(d:Dcl)(pv bv:Value):Prop where
 e:Env C w1 s
 tr:TrAt C w1 dv (ptrs++news)
 dv:DvAt C w1 dv ds
 st:za w1 w.heap.size news xs
 blk:Blk w1 db 223 (zU d pv bv).toArray
 db:w.heap.size<=db
 n:xp w1 C.B pv d.params
 i:zz w1 C.B bv d.body
 c:Chg C.B [398,223] [C.sb,C.tb] w w1
def DDone (C:PC)(w:World)(ds:List Dcl)(ptrs:List Nat)(xs:List Stm)(d:Dcl)(s:Sc)(w':World):Prop :=
 ∃ dv news,Env C w' s/\TrAt C w' dv (ptrs++news)/\DvAt C w' dv (ds++[d])/\za w' w.heap.size news xs
theorem zm2 {C:PC}{w w1 w2:World}{s:Sc}{da:Option Addr}{dc g cap:Nat}{news:List Nat}{xs:List Stm}{db:Nat}{d:Dcl}{pv bv sv:Value}{ps:List (Value×Value)}{o:Obj}
  (D:DRead C w w1 s (.slice da ds.length dc) ds ptrs news xs db d pv bv) (T:Blk w1 C.tb 218 #[.slice da ds.length dc,sv]) (TR:w1.ownsRow C.B 398 1 sv (ptrs++news).length ((ptrs++news).map ptrV))
  (DR:w1.ownsRow C.B 223 7 (.slice da ds.length dc) ds.length (zdo ps ds)) (DD:zaa w1 C.B ps ds)
  (hrow:w2.ownsRow C.B 223 7 (.s g (ds.length+1) cap) (ds.length+1) (zdo ps ds++zU d pv bv)) (hg:(w1.drew.alloc o).grownBy w2 (Value.slice da ds.length dc).ownBlock) :
  DDone C w ds ptrs xs d s (w2.setCell (.a C.tb 0) (.s g (ds.length+1) cap))/\Chg C.B [398,223] [C.sb,C.tb] w (w2.setCell (.a C.tb 0) (.s g (ds.length+1) cap)):=by
 have A:=(zi DR).alloc o;have E:=Blk.append ((T.drew).alloc o) A hg yd;have L:=Env.append ((D.e.drew).alloc o) A hg yd yd;have K:=Chg.append ((D.c.drew).alloc o) A hg yL (.inl yy);have H:=zL (zgw A hg yd ((zi TR).alloc o)) E yd 0 (.s g (ds.length+1) cap);have J:∀ v l,xp w1 C.B v l->xp (w2.setCell (.a C.tb 0) (.s g (ds.length+1) cap)) C.B v l:=fun v l h=>zL (zgw A hg yd ((zi h).alloc o)) E yd 0 _;have I:∀ v l,zz w1 C.B v l->zz (w2.setCell (.a C.tb 0) (.s g (ds.length+1) cap)) C.B v l:=fun v l h=>zL (zgw A hg yd ((zi h).alloc o)) E yd 0 _;have G:=DD.length;refine⟨⟨_,news,L.farT E yd yd _ _,⟨sv,(E.qe 0 _).cast (by simp;rfl),H⟩,⟨ps++[(pv,bv)],?_,(DD.map J I).append (J _ _ D.n) (I _ _ D.i)⟩,?_⟩,K.setX D.e.bt yy _⟩
 ·rw[zwn G,yx];exact zL hrow E yd 0 _
 ·refine D.st.map yL fun b y _ _ h=>?_;exact((zE.alloc (show zE w1.drew _ b y from h) o).row A hg yd yd yd).farT E yd yd yd _ _
structure DEnv (C:PC)(ts:List TypeId)(bs:List Nat)(w0 w:World)(s:Sc)(db:Nat)(d:Dcl)(pv bv:Value):Prop where
 e:Env C w s
 blk:Blk w db 223 (zU d pv bv).toArray
 db:w0.heap.size<=db
 c:Chg C.B ts bs w0 w
section
variable {C:PC} {ts:List TypeId} {bs:List Nat} {w0 w w1:World} {s s1:Sc} {db:Nat} {d:Dcl} {pv bv:Value}
theorem DEnv.scan (D:DEnv C ts bs w0 w s db d pv bv)(E:Env C w1 s1)(hc:Chg C.B [] [C.sb] w w1)(hs:C.sb ∈ bs):DEnv C ts bs w0 w1 s1 db d pv bv :=
 ⟨E,D.blk.vh hc yy (by
  intro hm;rw[yG.1 hm]at D;exact(Blk.qs D.e.sc D.blk yd) rfl),D.db,D.c.trans (hc.mono yy (by simpa using hs))⟩
theorem DEnv.store (D:DEnv C ts bs w0 w s db d pv bv)(i:Nat)(u:Value){d':Dcl}{pv' bv':Value}(h:(zU d pv bv).toArray.setIfInBounds i u=(zU d' pv' bv').toArray):DEnv C ts bs w0 (w.setCell (.a db i) u) s db d' pv' bv' :=
 ⟨D.e.farT D.blk yd yd _ _,(D.blk.qe i u).cast h,D.db,D.c.vi D.db _⟩
theorem DEnv.setKind (D:DEnv C ts bs w0 w s db d pv bv)(k:UInt8):DEnv C ts bs w0 (w.setCell (.a db 0) (.u k.toNat)) s db { d with kind:=k } pv bv:=D.store 0 _ (by simp[zU])
theorem DEnv.setParams (D:DEnv C ts bs w0 w s db d pv bv)(v:Value)(l:List Nm):DEnv C ts bs w0 (w.setCell (.a db 5) v) s db { d with params:=l } v bv:=D.store 5 _ (by simp[zU])
theorem DEnv.setBody (D:DEnv C ts bs w0 w s db d pv bv)(v:Value)(l:List Nat):DEnv C ts bs w0 (w.setCell (.a db 6) v) s db { d with body:=l } pv v:=D.store 6 _ (by simp[zU])
theorem DEnv.setName (D:DEnv C ts bs w0 w s db d pv bv)(n:Nm):DEnv C ts bs w0 ((((w.setCell (.a db 1) (.string n.text)).setCell (.a db 2) (.i n.at_)).setCell (.a db 3) (.bool n.num)).setCell (.a db 4) (.i n.n)) s db { d with name:=n } pv bv :=
 (((D.store (pv':=pv) (bv':=bv) (d':={ d with name:={ d.name with text:=n.text } }) 1 _ (by simp[zU])).store (pv':=pv) (bv':=bv) (d':={ d with name:={ d.name with text:=n.text,at_:=n.at_ } }) 2 _ (by simp[zU])).store (pv':=pv) (bv':=bv) (d':={ d with name:={ d.name with text:=n.text,at_:=n.at_,num:=n.num } }) 3 _ (by simp[zU])).store (pv':=pv) (bv':=bv) (d':={ d with name:=n }) 4 _ (by simp[zU])
theorem DEnv.cells (D:DEnv C ts bs w0 w s db d pv bv):(∀ i,w.cell? (.a C.pb i)=#[.p C.sb,.p C.tb][i]?) /\
  (∀ i,w.cell? (.a db i)=#[.u d.kind.toNat,.string d.name.text,.i d.name.at_,.bool d.name.num,.i d.name.n,pv,bv][i]?)/\(∀ i,w.frozen? (.a db i)=false)/\C.pb<w.heap.size/\C.sb<w.heap.size/\db<w.heap.size/\C.pb≠db/\C.sb≠db :=
 ⟨D.e.p.cell,D.blk.cell,D.blk.frozen,D.e.p.lt,Blk.lt D.e.sc,D.blk.lt,D.e.p.qs D.blk yd,Blk.qs D.e.sc D.blk yd⟩
theorem DvAt.vh (h:DvAt C w dv ds)(hc:Chg C.B ts bs w w1)(h1:223 ∉ ts)(h2:220 ∉ ts)(h3:3 ∉ ts)
  (hx:∀ g ∈ bs,∃ t cs,Blk w g t cs/\t≠223/\t≠220/\t≠3):DvAt C w1 dv ds:=by
 obtain⟨ps,D,E⟩:=h;refine⟨ps,za9 D hc h1 ?_,E.map (fun v l h=>za9 h hc h2 ?_) (fun v l h=>za9 h hc h3 ?_)⟩
 ·intro k A hm;obtain⟨t,cs,h4,h5,_,_⟩:=hx _ hm;exact xy D h4 (fun e=>h5 e.symm) k A rfl
 ·intro k A hm;obtain⟨t,cs,h4,_,h5,_⟩:=hx _ hm;exact xy h h4 (fun e=>h5 e.symm) k A rfl
 ·intro k A hm;obtain⟨t,cs,h4,_,_,h5⟩:=hx _ hm;exact xy h h4 (fun e=>h5 e.symm) k A rfl
end
theorem DEnv.read {C:PC}{w0 w:World}{s s0:Sc}{db:Nat}{d:Dcl}(D:DEnv C [] [C.sb] w0 w s db d (.z) (.z))(T:TrAt C w0 dv ptrs)(V:DvAt C w0 dv ds)(E:Env C w0 s0)(hp:d.params=[]:=by rfl)(hb:d.body=[]:=by rfl) :
  DRead C w0 w s dv ds ptrs [] [] db d (.z) (.z):=by
 have hx:∀ g ∈ [C.sb],∃ t cs,Blk w0 g t cs/\t=319:=by
  intro g A;rw[yG.1 A];exact⟨_,_,E.sc,rfl⟩
 refine⟨D.e,?_,V.vh D.c yy yy yy (fun g A=>?_),trivial,D.blk,D.db,by rw[hp];exact yA _ _ _ _,by rw[hb];exact yA _ _ _ _,D.c.mono yy yy⟩
 ·rw[ya9];refine T.vh D.c yy yy (fun g A=>?_);obtain⟨t,cs,h1,rfl⟩:=hx g A;exact⟨_,_,h1,by decide,by decide⟩
 ·obtain⟨t,cs,h1,rfl⟩:=hx g A;exact⟨_,_,h1,by decide,by decide,by decide⟩
end
end Go.Proofs.YtkmcihhndgdhpaaGreat
