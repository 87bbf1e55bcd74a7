/- Parts of the walk. -/
import Derived.Test.YtkmcihhndgdhpaaGreatWC3
import Derived.BigRegion
set_option maxRecDepth 100000
set_option maxHeartbeats 4000000
set_option linter.unusedSimpArgs false
set_option linter.unusedVariables false
open Go.Maps Go.RowKit Go.Proofs.Tryz
namespace Go.Proofs.YtkmcihhndgdhpaaGreat
variable {s s':Lo}{t:Stm}{x:In}{C:LC}{V:LV}{w:World}{k a:Nat}{n:Nm}{block:Lo→List Nat→Except Flt Lo}
theorem mGa {p:Prop}(h:p:=by
  refine(zcu C _ _ V t.y b hV G4.o.le (zN HT.o.ok.y)).mono ?_;rintro e w5 (⟨p5,v,hr,rfl,rfl,hL,hch⟩ | ⟨f,g,hr,rfl,hfb,hle,hch⟩);rotate_left
  ·exact⟨rfl,.fault (MD2.o.trans (by rw[hr];rfl)) hfb (ya G4.o.sz hle) (G4.o.qk.trans hch)⟩
  have MD3:=zH (MD2.o.trans (by rw[hr,zF]));have G5:=zH (G4.o.arg hV hL hch);have Q5:=zH (zd3 hr);clear hr hL hch;obtain⟨hl5,hp5,hfl5,hfp5,hll5,hlp5,_⟩:=G5.o.le.cells;obtain⟨_,_,_,_,_,_,hs5,hsl5,_⟩:=G5.o.le.qh HT.o;have hx5:=G5.o.cells;have hxf5:=G5.o.xe.b.frozen;have hxl5:=G5.o.xe.b.lt;clear hl4 hp4 hfl4 hfp4 hll4 hlp4 hs4 hsl4 hx4 hxf4 hxl4;go_wp2_with fail;refine zK (fun W=>Gs C w V w.heap.size W p5.2 { x with x:=p2.1,y:=p5.1 }) (G5.o.vn p5.1) ?_;intro w6 hG;have G6:=zH hG;clear hG;obtain⟨hl6,hp6,hfl6,hfp6,hll6,hlp6,_⟩:=G6.o.le.cells;obtain⟨_,_,_,_,_,_,hs6,hsl6,_⟩:=G6.o.le.qh HT.o;have hx6:=G6.o.cells;have hxf6:=G6.o.xe.b.frozen;have hxl6:=G6.o.xe.b.lt;clear hl5 hp5 hfl5 hfp5 hll5 hlp5 hs5 hsl5 hx5 hxf5 hxl5;have MD4:=zH (MD3.o.trans (yg HB.o));refine(zcu C _ _ V t.z b hV G6.o.le (zN HT.o.ok.z)).mono ?_;rintro e w7 (⟨p7,v,hr,rfl,rfl,hL,hch⟩ | ⟨f,g,hr,rfl,hfb,hle,hch⟩);rotate_left
  ·exact⟨rfl,.fault (MD4.o.trans (by rw[hr];rfl)) hfb (ya G6.o.sz hle) (G6.o.qk.trans hch)⟩
  have MD5:=zH (MD4.o.trans (by rw[hr,zF]));have G7:=zH (G6.o.arg hV hL hch);have Q7:=zH (zd3 hr);clear hr hL hch;obtain⟨hl7,hp7,hfl7,hfp7,hll7,hlp7,_⟩:=G7.o.le.cells;obtain⟨_,_,_,_,_,_,hs7,hsl7,_⟩:=G7.o.le.qh HT.o;have hx7:=G7.o.cells;have hxf7:=G7.o.xe.b.frozen;have hxl7:=G7.o.xe.b.lt;clear hl6 hp6 hfl6 hfp6 hll6 hlp6 hs6 hsl6 hx6 hxf6 hxl6;go_wp2_with fail;have MD6:=zH (HM0.o.symm.trans MD5.o);refine zK (fun W=>Gs C w V w.heap.size W p7.2 { x with x:=p2.1,y:=p5.1,z:=p7.1 }) (G7.o.setZ p7.1) ?_;intro wz hGz;have HGZ:=zH hGz;clear hGz;refine(zbu C wz _ V { x with x:=p2.1,y:=p5.1,z:=p7.1 } (.z) HGZ.o.le (zcc Q7.o (zcc Q5.o (zcc Q2.o HCL.o))) HGZ.o.xe.a).mono ?_;rintro e w9 ⟨rfl,V',hL9,hv9⟩;have FIN:=zH (show za4 C w V M0 (.e) w9 from .inl ⟨_,_,HM0.o.trans MD6.o,rfl,rfl,V',hL9,hv9⟩);clear hL9 hv9;go_wp2_with fail
  first | go_end0 | refine ym (yp rfl _ _ _) rfl ?_
  exact FIN.o):p:=h
theorem mQa {p:Prop}(h:p:=by
  refine(zcu C _ _ V t.y b hV G4.o.le (zN HT.o.ok.y)).mono ?_;rintro e w5 (⟨p5,v,hr,rfl,rfl,hL,hch⟩ | ⟨f,g,hr,rfl,hfb,hle,hch⟩);rotate_left
  ·exact⟨rfl,.fault (MD2.o.trans (by rw[hr];rfl)) hfb (ya G4.o.sz hle) (G4.o.qk.trans hch)⟩
  have MD3:=zH (MD2.o.trans (by rw[hr,zF]));have G5:=zH (G4.o.arg hV hL hch);have Q5:=zH (zd3 hr);clear hr hL hch;obtain⟨hl5,hp5,hfl5,hfp5,hll5,hlp5,_⟩:=G5.o.le.cells;obtain⟨_,_,_,_,_,_,hs5,hsl5,_⟩:=G5.o.le.qh HT.o;have hx5:=G5.o.cells;have hxf5:=G5.o.xe.b.frozen;have hxl5:=G5.o.xe.b.lt;clear hl4 hp4 hfl4 hfp4 hll4 hlp4 hs4 hsl4 hx4 hxf4 hxl4;go_wp2_with fail;have MD4:=zH (HM0.o.symm.trans (MD3.o.trans (yj HB.o)));refine zK (fun W=>Gs C w V w.heap.size W p5.2 { x with x:=p2.1,y:=p5.1 }) (G5.o.vn p5.1) ?_;intro wz hGz;have HGZ:=zH hGz;clear hGz;refine(zbu C wz _ V { x with x:=p2.1,y:=p5.1 } (.z) HGZ.o.le (zcc Q5.o (zcc Q2.o HCL.o)) HGZ.o.xe.a).mono ?_;rintro e w9 ⟨rfl,V',hL9,hv9⟩;have FIN:=zH (show za4 C w V M0 (.e) w9 from .inl ⟨_,_,HM0.o.trans MD4.o,rfl,rfl,V',hL9,hv9⟩);clear hL9 hv9;go_wp2_with fail
  first | go_end0 | refine ym (yp rfl _ _ _) rfl ?_
  exact FIN.o):p:=h
theorem mYb {p:Prop}(h:p:=by
  rintro e w9 ⟨rfl,V',hL9,hv9⟩;have FIN:=zH (show za4 C w V M0 (.e) w9 from .inl ⟨_,_,HM0.o.trans MD2.o,rfl,rfl,V',hL9,hv9⟩);clear hL9 hv9;go_wp2_with fail
  first | go_end0 | refine ym (yp rfl _ _ _) rfl ?_
  exact FIN.o):p:=h
section
attribute [local go_sem] zT arV insV zV
structure Gs (C:LC)(w0:World)(V:LV)(xb:Nat)(W:World)(s:Lo)(x:In):Prop where
 le:LE C W s V
 xe:XE C W V xb x (.z)
 qk:Below C.B w0 W
 sz:w0.heap.size<=W.heap.size
 b0:C.B<=w0.heap.size
section
variable {C:LC} {w0 W W1:World} {V:LV} {xb b:Nat} {s s1:Lo} {x x':In}
theorem Gs.arg (h:Gs C w0 V xb W s x)(hV:V.lm=some b)(hL:LE C W1 s1 V)(hc:Chg C.B [] [b] W W1):Gs C w0 V xb W1 s1 x :=
 ⟨hL,h.xe.arg h.le hV hc,h.qk.trans (hc.below h.le.qk.size),ya h.sz hc.size,h.b0⟩
theorem Gs.store (h:Gs C w0 V xb W s x)(i:Nat)(u:Value)(hc:(zV x (.z)).toArray.setIfInBounds i u=(zV x' (.z)).toArray)(ha:x'.args=x.args:=by rfl):Gs C w0 V xb (W.setCell (.a xb i) u) s x' :=
 ⟨h.le.qi h.xe.u _,h.xe.store i u hc ha,h.qk.setCell (yaq fun A=>h.xe.u (.inl A)) _,by simpa [World.setCell] using h.sz,h.b0⟩
theorem Gs.drewN (h:Gs C w0 V xb W s x)(n:Nat):Gs C w0 V xb (W.drewN n) s x:=⟨h.le.drewN n,h.xe.drewN n,⟨h.qk.os,h.qk.tape,h.qk.output,h.qk.size,h.qk.block⟩,h.sz,h.b0⟩
theorem Gs.qx (h:Gs C w0 V xb W s x)(n:Nat):Gs C w0 V xb (W.setCell (.a xb 0) (.i n)) s { x with op:=n }:=h.store 0 _ (by simp[zV])
theorem Gs.setX (h:Gs C w0 V xb W s x)(n:Nat):Gs C w0 V xb (W.setCell (.a xb 3) (.i n)) s { x with x:=n }:=h.store 3 _ (by simp[zV])
theorem Gs.setVar (h:Gs C w0 V xb W s x)(n:Nat):Gs C w0 V xb (W.setCell (.a xb 9) (.i n)) s { x with var:=n }:=h.store 9 _ (by simp[zV])
theorem Gs.vn (h:Gs C w0 V xb W s x)(a:Ar):Gs C w0 V xb ((W.setCell (.a xb 4) (.bool a.c)).setCell (.a xb 5) (.i a.n)) s { x with y:=a } :=
 (h.store (x':={ x with y:={ x.y with c:=a.c } }) 4 _ (by simp[zV])).store 5 _ (by simp[zV])
theorem Gs.setZ (h:Gs C w0 V xb W s x)(a:Ar):Gs C w0 V xb ((W.setCell (.a xb 6) (.bool a.c)).setCell (.a xb 7) (.i a.n)) s { x with z:=a } :=
 (h.store (x':={ x with z:={ x.z with c:=a.c } }) 6 _ (by simp[zV])).store 7 _ (by simp[zV])
theorem Gs.cells (h:Gs C w0 V xb W s x):∀ j,W.cell? (.a xb j)=(.j x (.z):Array Value)[j]? := h.xe.b.cell
end
theorem Gs.start {C:LC}{s:Lo}{V:LV}{x:In}(h:LE C w s V)(hx:x.args=[]){o:Obj}(ho:o=.k (zV x (.z)).toArray 309):Gs C w V w.heap.size (w.alloc o) s x:=by
 subst ho;exact⟨h.alloc _,⟨Blk.newAt rfl,by rw[hx];exact yA _ _ _ _,h.fresh yL⟩,yB.alloc h.qk.size _,by simp,h.qk.size⟩
def za4 (C:LC)(w:World)(V:LV)(M:Except Flt Lo):Ending->World->Prop :=
 zap C w M fun s' v w'=>v=.tuple #[]/\∃ V',LE C w' s' V'/\V'.lm=V.lm
theorem zle {m:NMap}{x:ByteArray}(h:mget m x=some k):za1 m x=k:=by unfold za1;rw[h]
theorem zhi {m:NMap}{x:ByteArray}(h:mget m x=none):za1 m x=-1:=by unfold za1;rw[h]
theorem zfa {s:Lo}{p:Nat×Lo}(h:xr s n=.ok p):p.2={ s with qc:=p.2.qc }:=by
 unfold xr at h;split at h
 ·cases h
 ·split at h
  ·injection h with h;subst h;rfl
  ·split at h
   ·cases h
   ·injection h with h;subst h;rfl
theorem zd3 {s:Lo}{p:Ar×Lo}(h:argM s n=.ok p):p.2={ s with qc:=p.2.qc }:=by
 unfold argM at h;split at h
 ·injection h with h;subst h;rfl
 ·obtain⟨q,h1,h2⟩:=zD h;injection h2 with h2;subst h2;exact zfa h1
theorem zcc {s:Lo}{l:NMap}{n:Nat}(h:s'={ s with qc:=l })(hn:s.code.length<n):s'.code.length<n:=by rw[h];exact hn
theorem set_op (C:LC)(w:World)(s:Lo)(V:LV)(sp b:Nat)(t:Stm)(x:In)(hV:V.lm=some b)(h:LE C w s V)(ht:TS C sp t)(hxa:x.args=[])(hcl:s.code.length<100000)(v:Nat)(hv:mget s.vars t.x.text=some v)(hb:t.bin≠0) :
  Calls prog 294 #[.p C.lb,.p sp,insV x (.z)] w (za4 C w V (setM s t x)):=by
 have U:=zH (show setM s t x=.error ⟨9,t.x.at_⟩ by unfold setM;rw[hv];simp only;rw[yg hb]);have Y:((t.bin:Int) != 0)=true:=bne_iff_ne.2 yo;have ke:=zle hv;clear hv hb hcl;obtain⟨M0,D⟩:∃ M,M=setM s t x:=⟨_,rfl⟩;have E:=zH D;rw[<- D];have G:=zH ht;have H:=zH h;have S:=zH (Gs.start h hxa rfl);obtain⟨hl,hp,Z,a0,a2,a3,_⟩:=h.cells;obtain⟨_,_,_,_,_,_,hs,a6,_⟩:=h.qh ht;clear D h ht;go_enter func294,ntmps294;go_wp2_with fail;go_quiet ((go_at_call 114;first | exact zav (xn _ _ s.vars _ ((H.o.alloc _).drewN _).vm (zN G.o.ok.x)) | exact zbw (xn _ _ s.vars _ ((H.o.alloc _).drewN _).vm (zN G.o.ok.x))));go_wp2_with fail;refine zK (fun W=>Gs C w V w.heap.size W s { x with op:=3,var:=v }) (((S.o.drewN _).qx 3).setVar v) ?_;intro w1 I;have A:=zH I;clear I;obtain⟨a1,a4,J,K,L,N,_⟩:=A.o.le.cells;obtain⟨_,_,_,_,_,_,a5,O,_⟩:=A.o.le.qh G.o;have a7:=A.o.cells;have Q:=A.o.xe.b.frozen;have R:=A.o.xe.b.lt;refine(zb4 _ _ _).mono ?_;rintro e w9 ⟨rfl,rfl⟩;exact⟨rfl,.fault (E.o.trans U.o) (zf.new rfl) A.o.sz (A.o.qk.alloc (ya A.o.b0 A.o.sz) _)⟩
theorem z0h (C:LC)(w:World)(s:Lo)(V:LV)(sp b:Nat)(t:Stm)(x:In)(hV:V.lm=some b)(h:LE C w s V)(ht:TS C sp t)(hxa:x.args=[])(hcl:s.code.length<100000)(v:Nat)(hv:mget s.vars t.x.text=some v)(hb:t.bin=0) :
  Calls prog 294 #[.p C.lb,.p sp,insV x (.z)] w (za4 C w V (setM s t x)):=by
 have D:=zH (show setM s t x=zB (argM s t.y) fun p=>.ok (p.2.emit { x with op:=3,var:=v,y:=p.1 }) by unfold setM;rw[hv];simp only;rw[yj hb]);have ae:((t.bin:Int) != 0)=false:=bne_eq_false_iff_eq.2 yo;have ke:=zle hv;have Q:=zH hcl;clear hv hb hcl;obtain⟨M0,G⟩:∃ M,M=setM s t x:=⟨_,rfl⟩;have HM0:=zH G;rw[<- G];have K:=zH ht;have H:=zH h;have G0:=zH (Gs.start h hxa rfl);obtain⟨hl,hp,af,ag,aj,ak,_⟩:=h.cells;obtain⟨_,_,_,_,_,_,hs,aq,_⟩:=h.qh ht;clear G h ht;go_enter func294,ntmps294;go_wp2_with fail;go_quiet ((go_at_call 114;first | exact zav (xn _ _ s.vars _ ((H.o.alloc _).drewN _).vm (zN K.o.ok.x)) | exact zbw (xn _ _ s.vars _ ((H.o.alloc _).drewN _).vm (zN K.o.ok.x))));go_wp2_with fail;refine zK (fun W=>Gs C w V w.heap.size W s { x with op:=3,var:=v }) (((G0.o.drewN _).qx 3).setVar v) ?_;intro w1 Y;have A:=zH Y;clear Y;obtain⟨ah,am,a0,a2,a4,a6,_⟩:=A.o.le.cells;obtain⟨_,_,_,_,_,_,ao,a8,_⟩:=A.o.le.qh K.o;have au:=A.o.cells;have aa:=A.o.xe.b.frozen;have ac:=A.o.xe.b.lt;have D:=zH (HM0.o.trans D.o);refine(zcu C _ _ V t.y b hV A.o.le (zN K.o.ok.y)).mono ?_;rintro e w2 (⟨O,v,N,rfl,rfl,Z,E⟩ | ⟨f,g,N,rfl,S,U,E⟩);rotate_left
 ·exact⟨rfl,.fault (D.o.trans (by rw[N];rfl)) S (ya A.o.sz U) (A.o.qk.trans E)⟩
 have R:=zH (D.o.trans (by rw[N,zF]));have I:=zH (A.o.arg hV Z E);have Q2:=zH (zd3 N);clear N Z E;obtain⟨ai,an,a1,a3,a5,a7,_⟩:=I.o.le.cells;obtain⟨_,_,_,_,_,_,ap,a9,_⟩:=I.o.le.qh K.o;have aw:=I.o.cells;have ab:=I.o.xe.b.frozen;have ad:=I.o.xe.b.lt;go_wp2_with fail;have MD2:=zH (HM0.o.symm.trans R.o);refine zK (fun W=>Gs C w V w.heap.size W O.2 { x with op:=3,var:=v,y:=O.1 }) (I.o.vn O.1) ?_;intro wz L;have J:=zH L;clear L;refine(zbu C wz _ V { x with op:=3,var:=v,y:=O.1 } (.z) J.o.le (zcc Q2.o Q.o) J.o.xe.a).mono ?_;exact mYb
def zez (s:Lo)(t:Stm)(x:In)(w:Option Nat):Except Flt Lo :=
 match w with
 | some v=>.ok (s.emit { x with op:=2,var:=v })
 | none=>zB (argM s t.y) fun q=>if t.bin=0 then .ok (q.2.emit { x with y:=q.1 })else zB (argM q.2 t.z) fun r=>.ok (r.2.emit { x with y:=q.1,z:=r.1 })
def zcm (s:Lo)(t:Stm):Option Nat:=if t.y.num=false/\t.bin=0 then mget s.vars t.y.text else none
theorem zix {s:Lo}{x:In}(hv:mget s.vars t.x.text=none):setM s t x=zB (xr s t.x) fun p=>zez p.2 t { x with x:=p.1 } (zcm p.2 t):=by
 unfold setM;rw[hv];simp only;congr 1
theorem set_load (C:LC)(w:World)(s:Lo)(V:LV)(sp b:Nat)(t:Stm)(x:In)(hV:V.lm=some b)(h:LE C w s V)(ht:TS C sp t)(hxa:x.args=[])(hcl:s.code.length<100000)(hv:mget s.vars t.x.text=none)(hn:t.y.num=false)(hb:t.bin=0)(v:Nat)(hw:mget s.vars t.y.text=some v) :
  Calls prog 294 #[.p C.lb,.p sp,insV x (.z)] w (za4 C w V (setM s t x)):=by
 have ae:=zH (show setM s t x=zB (xr s t.x) fun p=>zez p.2 t { x with x:=p.1 } (zcm p.2 t)from zix hv);have b7:((t.bin:Int)==0)=true:=by rw[beq_iff_eq];omega
 have ke:=zhi hv;have kw:=zle hw;have ac:=zH (show ∀ s',s'.vars=s.vars->zcm s' t=some v from fun s' h=>by unfold zcm;rw[yj ⟨hn,hb⟩,h,hw]);have ab:=zH hcl;clear hv hb hw hcl;obtain⟨M0,I⟩:∃ M,M=setM s t x:=⟨_,rfl⟩;have HM0:=zH I;rw[<- I];have E:=zH ht;have H:=zH h;have G0:=zH (Gs.start h hxa rfl);obtain⟨hl,hp,ag,ah,am,an,_⟩:=h.cells;obtain⟨_,_,_,_,_,_,hs,aw,_⟩:=h.qh ht;clear I h ht;go_enter func294,ntmps294;go_wp2_with fail;go_quiet ((go_at_call 114;first | exact zav (xn _ _ s.vars _ ((H.o.alloc _).drewN _).vm (zN E.o.ok.x)) | exact zbw (xn _ _ s.vars _ ((H.o.alloc _).drewN _).vm (zN E.o.ok.x))));go_wp2_with fail;refine zK (fun W=>Gs C w V w.heap.size W s x) (G0.o.drewN _) ?_;intro w1 R;have A:=zH R;clear R;obtain⟨ai,ao,U,Z,a1,a3,_⟩:=A.o.le.cells;obtain⟨_,_,_,_,_,_,aq,a5,_⟩:=A.o.le.qh E.o;have ax:=A.o.cells;have a7:=A.o.xe.b.frozen;have a9:=A.o.xe.b.lt;clear hl hp ag ah am an hs aw;have Q:=zH (HM0.o.trans ae.o);refine(zgr C _ _ V t.x b hV A.o.le (zN E.o.ok.x)).mono ?_;rintro e w2 (⟨J,v,hr,rfl,rfl,hL,D⟩ | ⟨f,g,hr,rfl,af,ak,D⟩);rotate_left
 ·exact⟨rfl,.fault (Q.o.trans (by rw[hr];rfl)) af (ya A.o.sz ak) (A.o.qk.trans D)⟩
 have ad:=zH (Q.o.trans (by rw[hr,zF]));have K:=zH (A.o.arg hV hL D);have Q2:=zH (zfa hr);clear hr hL D;obtain⟨aj,ap,Y,a0,a2,a4,_⟩:=K.o.le.cells;obtain⟨_,_,_,_,_,_,au,a6,_⟩:=K.o.le.qh E.o;have ay:=K.o.cells;have a8:=K.o.xe.b.frozen;have aa:=K.o.xe.b.lt;clear ai ao U Z a1 a3 aq a5 ax a7 a9;go_wp2_with fail;refine xh (fun W=>Gs C w V w.heap.size W J.2 { x with x:=J.1 }) (K.o.setX J.1) ?_;intro w3 R;have G:=zH R;clear R;obtain⟨b8,b9,az,b1,b2,b3,_⟩:=G.o.le.cells;obtain⟨_,_,_,_,_,_,bb,b4,_⟩:=G.o.le.qh E.o;have bd:=G.o.cells;have b5:=G.o.xe.b.frozen;have b6:=G.o.xe.b.lt;clear aj ap Y a0 a2 a4 au a6 ay a8 aa;have O:=zH (show J.2.vars=s.vars by rw[Q2.o]);have N:=zH (show ∀ n,NM (w3.drewN n) C.vb s.vars from fun n=>O.o ▸ (G.o.drewN n).le.vm);go_quiet ((go_at_call 114;first | exact zav (xn _ _ s.vars _ (N.o _) (zN E.o.ok.y)) | exact zbw (xn _ _ s.vars _ (N.o _) (zN E.o.ok.y))));go_wp2_with fail;have MD2:=zH (HM0.o.symm.trans (ad.o.trans (by rw[ac.o _ O.o])));refine zK (fun W=>Gs C w V w.heap.size W J.2 { x with x:=J.1,op:=2,var:=v }) (((G.o.drewN _).qx 2).setVar v) ?_;intro wz S;have L:=zH S;clear S;refine(zbu C wz _ V { x with x:=J.1,op:=2,var:=v } (.z) L.o.le (zcc Q2.o ab.o) L.o.xe.a).mono ?_;exact mYb
theorem set_num (C:LC)(w:World)(s:Lo)(V:LV)(sp b:Nat)(t:Stm)(x:In)(hV:V.lm=some b)(h:LE C w s V)(ht:TS C sp t)(hxa:x.args=[])(hcl:s.code.length<100000)(hv:mget s.vars t.x.text=none)(hn:t.y.num=true)(hb:t.bin=0) :
  Calls prog 294 #[.p C.lb,.p sp,insV x (.z)] w (za4 C w V (setM s t x)):=by
 have b4:((t.bin:Int) != 0)=false:=bne_eq_false_iff_eq.2 yo;have af:=zH (show setM s t x=zB (xr s t.x) fun p=>zez p.2 t { x with x:=p.1 } (zcm p.2 t)from zix hv);have ke:=zhi hv
 skip
 have ad:=zH (show ∀ s',s'.vars=s.vars->zcm s' t=none from fun s' h=>by unfold zcm;exact yg (fun h=>Bool.noConfusion (hn.symm.trans h.1)));have HCL:=zH hcl;have b3:((t.bin:Int)==0)=true:=by rw[beq_iff_eq,hb,Int.natCast_zero]
 have HB:=zH hb;clear hv hb hcl;obtain⟨M0,G⟩:∃ M,M=setM s t x:=⟨_,rfl⟩;have HM0:=zH G;rw[<- G];have HT:=zH ht;have H:=zH h;have G0:=zH (Gs.start h hxa rfl);obtain⟨hl,hp,ag,ah,am,an,_⟩:=h.cells;obtain⟨_,_,_,_,_,_,hs,ay,_⟩:=h.qh ht;clear G h ht;go_enter func294,ntmps294;go_wp2_with fail;go_quiet ((go_at_call 114;first | exact zav (xn _ _ s.vars _ ((H.o.alloc _).drewN _).vm (zN HT.o.ok.x)) | exact zbw (xn _ _ s.vars _ ((H.o.alloc _).drewN _).vm (zN HT.o.ok.x))));go_wp2_with fail;refine zK (fun W=>Gs C w V w.heap.size W s x) (G0.o.drewN _) ?_;intro w1 D;have A:=zH D;clear D;obtain⟨ai,ao,N,R,Y,a1,_⟩:=A.o.le.cells;obtain⟨_,_,_,_,_,_,au,a4,_⟩:=A.o.le.qh HT.o;have az:=A.o.cells;have a7:=A.o.xe.b.frozen;have aa:=A.o.xe.b.lt;clear hl hp ag ah am an hs ay;have L:=zH (HM0.o.trans af.o);refine(zgr C _ _ V t.x b hV A.o.le (zN HT.o.ok.x)).mono ?_;rintro e w2 (⟨p2,v,hr,rfl,rfl,hL,hch⟩ | ⟨f,g,hr,rfl,hfb,hle,hch⟩);rotate_left
 ·exact⟨rfl,.fault (L.o.trans (by rw[hr];rfl)) hfb (ya A.o.sz hle) (A.o.qk.trans hch)⟩
 have ae:=zH (L.o.trans (by rw[hr,zF]));have I:=zH (A.o.arg hV hL hch);have Q2:=zH (zfa hr);clear hr hL hch;obtain⟨aj,ap,O,S,Z,a2,_⟩:=I.o.le.cells;obtain⟨_,_,_,_,_,_,aw,a5,_⟩:=I.o.le.qh HT.o;have b1:=I.o.cells;have a8:=I.o.xe.b.frozen;have ab:=I.o.xe.b.lt;clear ai ao N R Y a1 au a4 az a7 aa;go_wp2_with fail;refine xh (fun W=>Gs C w V w.heap.size W p2.2 { x with x:=p2.1 }) (I.o.setX p2.1) ?_;intro w3 D;have E:=zH D;clear D;obtain⟨ak,aq,Q,U,a0,a3,_⟩:=E.o.le.cells;obtain⟨_,_,_,_,_,_,ax,a6,_⟩:=E.o.le.qh HT.o;have b2:=E.o.cells;have a9:=E.o.xe.b.frozen;have ac:=E.o.xe.b.lt;clear aj ap O S Z a2 aw a5 b1 a8 ab;have K:=zH (show p2.2.vars=s.vars by rw[Q2.o]);have J:=zH (show ∀ n,NM (w3.drewN n) C.vb s.vars from fun n=>K.o ▸ (E.o.drewN n).le.vm);go_quiet ((go_at_call 114;first | exact zav (xn _ _ s.vars _ (J.o _) (zN HT.o.ok.y)) | exact zbw (xn _ _ s.vars _ (J.o _) (zN HT.o.ok.y))));go_wp2_with fail;refine zK (fun W=>Gs C w V w.heap.size W p2.2 { x with x:=p2.1 }) (E.o.drewN _) ?_;intro w4 D;have G4:=zH D;clear D;obtain⟨hl4,hp4,hfl4,hfp4,hll4,hlp4,_⟩:=G4.o.le.cells;obtain⟨_,_,_,_,_,_,hs4,hsl4,_⟩:=G4.o.le.qh HT.o;have hx4:=G4.o.cells;have hxf4:=G4.o.xe.b.frozen;have hxl4:=G4.o.xe.b.lt;clear ak aq Q U a0 a3 ax a6 b2 a9 ac;have MD2:=zH (ae.o.trans (by rw[ad.o _ K.o,zez]));rw[show(Value.agg #[.string t.y.text,.i t.y.at_,.bool true,.i t.y.n])=zT t.y by unfold zT;rw[hn]];exact mQa
theorem set_var (C:LC)(w:World)(s:Lo)(V:LV)(sp b:Nat)(t:Stm)(x:In)(hV:V.lm=some b)(h:LE C w s V)(ht:TS C sp t)(hxa:x.args=[])(hcl:s.code.length<100000)(hv:mget s.vars t.x.text=none)(hn:t.y.num=false)(hw:mget s.vars t.y.text=none)(hb:t.bin=0) :
  Calls prog 294 #[.p C.lb,.p sp,insV x (.z)] w (za4 C w V (setM s t x)):=by
 have b4:((t.bin:Int) != 0)=false:=bne_eq_false_iff_eq.2 yo;have af:=zH (show setM s t x=zB (xr s t.x) fun p=>zez p.2 t { x with x:=p.1 } (zcm p.2 t)from zix hv);have ke:=zhi hv;have kw:=zhi hw;have ad:=zH (show ∀ s',s'.vars=s.vars->zcm s' t=none from fun s' h=>by unfold zcm;rw[h,hw,ite_self]);have HCL:=zH hcl;have b3:((t.bin:Int)==0)=true:=by rw[beq_iff_eq,hb,Int.natCast_zero]
 have HB:=zH hb;clear hv hb hcl;obtain⟨M0,G⟩:∃ M,M=setM s t x:=⟨_,rfl⟩;have HM0:=zH G;rw[<- G];have HT:=zH ht;have H:=zH h;have G0:=zH (Gs.start h hxa rfl);obtain⟨hl,hp,ag,ah,am,an,_⟩:=h.cells;obtain⟨_,_,_,_,_,_,hs,ay,_⟩:=h.qh ht;clear G h ht;go_enter func294,ntmps294;go_wp2_with fail;go_quiet ((go_at_call 114;first | exact zav (xn _ _ s.vars _ ((H.o.alloc _).drewN _).vm (zN HT.o.ok.x)) | exact zbw (xn _ _ s.vars _ ((H.o.alloc _).drewN _).vm (zN HT.o.ok.x))));go_wp2_with fail;refine zK (fun W=>Gs C w V w.heap.size W s x) (G0.o.drewN _) ?_;intro w1 D;have A:=zH D;clear D;obtain⟨ai,ao,N,R,Y,a1,_⟩:=A.o.le.cells;obtain⟨_,_,_,_,_,_,au,a4,_⟩:=A.o.le.qh HT.o;have az:=A.o.cells;have a7:=A.o.xe.b.frozen;have aa:=A.o.xe.b.lt;clear hl hp ag ah am an hs ay;have L:=zH (HM0.o.trans af.o);refine(zgr C _ _ V t.x b hV A.o.le (zN HT.o.ok.x)).mono ?_;rintro e w2 (⟨p2,v,hr,rfl,rfl,hL,hch⟩ | ⟨f,g,hr,rfl,hfb,hle,hch⟩);rotate_left
 ·exact⟨rfl,.fault (L.o.trans (by rw[hr];rfl)) hfb (ya A.o.sz hle) (A.o.qk.trans hch)⟩
 have ae:=zH (L.o.trans (by rw[hr,zF]));have I:=zH (A.o.arg hV hL hch);have Q2:=zH (zfa hr);clear hr hL hch;obtain⟨aj,ap,O,S,Z,a2,_⟩:=I.o.le.cells;obtain⟨_,_,_,_,_,_,aw,a5,_⟩:=I.o.le.qh HT.o;have b1:=I.o.cells;have a8:=I.o.xe.b.frozen;have ab:=I.o.xe.b.lt;clear ai ao N R Y a1 au a4 az a7 aa;go_wp2_with fail;refine xh (fun W=>Gs C w V w.heap.size W p2.2 { x with x:=p2.1 }) (I.o.setX p2.1) ?_;intro w3 D;have E:=zH D;clear D;obtain⟨ak,aq,Q,U,a0,a3,_⟩:=E.o.le.cells;obtain⟨_,_,_,_,_,_,ax,a6,_⟩:=E.o.le.qh HT.o;have b2:=E.o.cells;have a9:=E.o.xe.b.frozen;have ac:=E.o.xe.b.lt;clear aj ap O S Z a2 aw a5 b1 a8 ab;have K:=zH (show p2.2.vars=s.vars by rw[Q2.o]);have J:=zH (show ∀ n,NM (w3.drewN n) C.vb s.vars from fun n=>K.o ▸ (E.o.drewN n).le.vm);go_quiet ((go_at_call 114;first | exact zav (xn _ _ s.vars _ (J.o _) (zN HT.o.ok.y)) | exact zbw (xn _ _ s.vars _ (J.o _) (zN HT.o.ok.y))));go_wp2_with fail;refine zK (fun W=>Gs C w V w.heap.size W p2.2 { x with x:=p2.1 }) (E.o.drewN _) ?_;intro w4 D;have G4:=zH D;clear D;obtain⟨hl4,hp4,hfl4,hfp4,hll4,hlp4,_⟩:=G4.o.le.cells;obtain⟨_,_,_,_,_,_,hs4,hsl4,_⟩:=G4.o.le.qh HT.o;have hx4:=G4.o.cells;have hxf4:=G4.o.xe.b.frozen;have hxl4:=G4.o.xe.b.lt;clear ak aq Q U a0 a3 ax a6 b2 a9 ac;have MD2:=zH (ae.o.trans (by rw[ad.o _ K.o,zez]));rw[show(Value.agg #[.string t.y.text,.i t.y.at_,.bool false,.i t.y.n])=zT t.y by unfold zT;rw[hn]];exact mQa
theorem set_bnum (C:LC)(w:World)(s:Lo)(V:LV)(sp b:Nat)(t:Stm)(x:In)(hV:V.lm=some b)(h:LE C w s V)(ht:TS C sp t)(hxa:x.args=[])(hcl:s.code.length<100000)(hv:mget s.vars t.x.text=none)(hn:t.y.num=true)(hb:t.bin≠0) :
  Calls prog 294 #[.p C.lb,.p sp,insV x (.z)] w (za4 C w V (setM s t x)):=by
 have b3:((t.bin:Int) != 0)=true:=bne_iff_ne.2 yo;have ae:=zH (show setM s t x=zB (xr s t.x) fun p=>zez p.2 t { x with x:=p.1 } (zcm p.2 t)from zix hv);have ke:=zhi hv
 skip
 have ac:=zH (show ∀ s',s'.vars=s.vars->zcm s' t=none from fun s' h=>by unfold zcm;exact yg (fun h=>Bool.noConfusion (hn.symm.trans h.1)));have HCL:=zH hcl;have b2:((t.bin:Int)==0)=false:=zI yo;have HB:=zH hb;clear hv hb hcl;obtain⟨M0,E⟩:∃ M,M=setM s t x:=⟨_,rfl⟩;have HM0:=zH E;rw[<- E];have HT:=zH ht;have H:=zH h;have G0:=zH (Gs.start h hxa rfl);obtain⟨hl,hp,af,ag,ak,am,_⟩:=h.cells;obtain⟨_,_,_,_,_,_,hs,ax,_⟩:=h.qh ht;clear E h ht;go_enter func294,ntmps294;go_wp2_with fail;go_quiet ((go_at_call 114;first | exact zav (xn _ _ s.vars _ ((H.o.alloc _).drewN _).vm (zN HT.o.ok.x)) | exact zbw (xn _ _ s.vars _ ((H.o.alloc _).drewN _).vm (zN HT.o.ok.x))));go_wp2_with fail;refine zK (fun W=>Gs C w V w.heap.size W s x) (G0.o.drewN _) ?_;intro w1 hG;have A:=zH hG;clear hG;obtain⟨ah,an,L,Q,U,a0,_⟩:=A.o.le.cells;obtain⟨_,_,_,_,_,_,aq,a3,_⟩:=A.o.le.qh HT.o;have ay:=A.o.cells;have a6:=A.o.xe.b.frozen;have a9:=A.o.xe.b.lt;clear hl hp af ag ak am hs ax;have K:=zH (HM0.o.trans ae.o);refine(zgr C _ _ V t.x b hV A.o.le (zN HT.o.ok.x)).mono ?_;rintro e w2 (⟨p2,v,hr,rfl,rfl,hL,hch⟩ | ⟨f,g,hr,rfl,hfb,hle,hch⟩);rotate_left
 ·exact⟨rfl,.fault (K.o.trans (by rw[hr];rfl)) hfb (ya A.o.sz hle) (A.o.qk.trans hch)⟩
 have ad:=zH (K.o.trans (by rw[hr,zF]));have G:=zH (A.o.arg hV hL hch);have Q2:=zH (zfa hr);clear hr hL hch;obtain⟨ai,ao,N,R,Y,a1,_⟩:=G.o.le.cells;obtain⟨_,_,_,_,_,_,au,a4,_⟩:=G.o.le.qh HT.o;have az:=G.o.cells;have a7:=G.o.xe.b.frozen;have aa:=G.o.xe.b.lt;clear ah an L Q U a0 aq a3 ay a6 a9;go_wp2_with fail;refine xh (fun W=>Gs C w V w.heap.size W p2.2 { x with x:=p2.1 }) (G.o.setX p2.1) ?_;intro w3 hG;have D:=zH hG;clear hG;obtain⟨aj,ap,O,S,Z,a2,_⟩:=D.o.le.cells;obtain⟨_,_,_,_,_,_,aw,a5,_⟩:=D.o.le.qh HT.o;have b1:=D.o.cells;have a8:=D.o.xe.b.frozen;have ab:=D.o.xe.b.lt;clear ai ao N R Y a1 au a4 az a7 aa;have J:=zH (show p2.2.vars=s.vars by rw[Q2.o]);have I:=zH (show ∀ n,NM (w3.drewN n) C.vb s.vars from fun n=>J.o ▸ (D.o.drewN n).le.vm);go_quiet ((go_at_call 114;first | exact zav (xn _ _ s.vars _ (I.o _) (zN HT.o.ok.y)) | exact zbw (xn _ _ s.vars _ (I.o _) (zN HT.o.ok.y))));go_wp2_with fail;refine zK (fun W=>Gs C w V w.heap.size W p2.2 { x with x:=p2.1 }) (D.o.drewN _) ?_;intro w4 hG;have G4:=zH hG;clear hG;obtain⟨hl4,hp4,hfl4,hfp4,hll4,hlp4,_⟩:=G4.o.le.cells;obtain⟨_,_,_,_,_,_,hs4,hsl4,_⟩:=G4.o.le.qh HT.o;have hx4:=G4.o.cells;have hxf4:=G4.o.xe.b.frozen;have hxl4:=G4.o.xe.b.lt;clear aj ap O S Z a2 aw a5 b1 a8 ab;have MD2:=zH (ad.o.trans (by rw[ac.o _ J.o,zez]));rw[show(Value.agg #[.string t.y.text,.i t.y.at_,.bool true,.i t.y.n])=zT t.y by unfold zT;rw[hn]];exact mGa
theorem set_bvar (C:LC)(w:World)(s:Lo)(V:LV)(sp b:Nat)(t:Stm)(x:In)(hV:V.lm=some b)(h:LE C w s V)(ht:TS C sp t)(hxa:x.args=[])(hcl:s.code.length<100000)(hv:mget s.vars t.x.text=none)(hn:t.y.num=false)(hb:t.bin≠0) :
  Calls prog 294 #[.p C.lb,.p sp,insV x (.z)] w (za4 C w V (setM s t x)):=by
 have b3:((t.bin:Int) != 0)=true:=bne_iff_ne.2 yo;have ae:=zH (show setM s t x=zB (xr s t.x) fun p=>zez p.2 t { x with x:=p.1 } (zcm p.2 t)from zix hv);have ke:=zhi hv
 skip
 have ac:=zH (show ∀ s',s'.vars=s.vars->zcm s' t=none from fun s' h=>by unfold zcm;exact yg (fun h=>hb h.2));have HCL:=zH hcl;have b2:((t.bin:Int)==0)=false:=zI yo;have HB:=zH hb;clear hv hb hcl;obtain⟨M0,E⟩:∃ M,M=setM s t x:=⟨_,rfl⟩;have HM0:=zH E;rw[<- E];have HT:=zH ht;have H:=zH h;have G0:=zH (Gs.start h hxa rfl);obtain⟨hl,hp,af,ag,ak,am,_⟩:=h.cells;obtain⟨_,_,_,_,_,_,hs,ax,_⟩:=h.qh ht;clear E h ht;go_enter func294,ntmps294;go_wp2_with fail;go_quiet ((go_at_call 114;first | exact zav (xn _ _ s.vars _ ((H.o.alloc _).drewN _).vm (zN HT.o.ok.x)) | exact zbw (xn _ _ s.vars _ ((H.o.alloc _).drewN _).vm (zN HT.o.ok.x))));go_wp2_with fail;refine zK (fun W=>Gs C w V w.heap.size W s x) (G0.o.drewN _) ?_;intro w1 hG;have A:=zH hG;clear hG;obtain⟨ah,an,L,Q,U,a0,_⟩:=A.o.le.cells;obtain⟨_,_,_,_,_,_,aq,a3,_⟩:=A.o.le.qh HT.o;have ay:=A.o.cells;have a6:=A.o.xe.b.frozen;have a9:=A.o.xe.b.lt;clear hl hp af ag ak am hs ax;have K:=zH (HM0.o.trans ae.o);refine(zgr C _ _ V t.x b hV A.o.le (zN HT.o.ok.x)).mono ?_;rintro e w2 (⟨p2,v,hr,rfl,rfl,hL,hch⟩ | ⟨f,g,hr,rfl,hfb,hle,hch⟩);rotate_left
 ·exact⟨rfl,.fault (K.o.trans (by rw[hr];rfl)) hfb (ya A.o.sz hle) (A.o.qk.trans hch)⟩
 have ad:=zH (K.o.trans (by rw[hr,zF]));have G:=zH (A.o.arg hV hL hch);have Q2:=zH (zfa hr);clear hr hL hch;obtain⟨ai,ao,N,R,Y,a1,_⟩:=G.o.le.cells;obtain⟨_,_,_,_,_,_,au,a4,_⟩:=G.o.le.qh HT.o;have az:=G.o.cells;have a7:=G.o.xe.b.frozen;have aa:=G.o.xe.b.lt;clear ah an L Q U a0 aq a3 ay a6 a9;go_wp2_with fail;refine xh (fun W=>Gs C w V w.heap.size W p2.2 { x with x:=p2.1 }) (G.o.setX p2.1) ?_;intro w3 hG;have D:=zH hG;clear hG;obtain⟨aj,ap,O,S,Z,a2,_⟩:=D.o.le.cells;obtain⟨_,_,_,_,_,_,aw,a5,_⟩:=D.o.le.qh HT.o;have b1:=D.o.cells;have a8:=D.o.xe.b.frozen;have ab:=D.o.xe.b.lt;clear ai ao N R Y a1 au a4 az a7 aa;have J:=zH (show p2.2.vars=s.vars by rw[Q2.o]);have I:=zH (show ∀ n,NM (w3.drewN n) C.vb s.vars from fun n=>J.o ▸ (D.o.drewN n).le.vm);go_quiet ((go_at_call 114;first | exact zav (xn _ _ s.vars _ (I.o _) (zN HT.o.ok.y)) | exact zbw (xn _ _ s.vars _ (I.o _) (zN HT.o.ok.y))));go_wp2_with fail;refine zK (fun W=>Gs C w V w.heap.size W p2.2 { x with x:=p2.1 }) (D.o.drewN _) ?_;intro w4 hG;have G4:=zH hG;clear hG;obtain⟨hl4,hp4,hfl4,hfp4,hll4,hlp4,_⟩:=G4.o.le.cells;obtain⟨_,_,_,_,_,_,hs4,hsl4,_⟩:=G4.o.le.qh HT.o;have hx4:=G4.o.cells;have hxf4:=G4.o.xe.b.frozen;have hxl4:=G4.o.xe.b.lt;clear aj ap O S Z a2 aw a5 b1 a8 ab;have MD2:=zH (ad.o.trans (by rw[ac.o _ J.o,zez]));rw[show(Value.agg #[.string t.y.text,.i t.y.at_,.bool false,.i t.y.n])=zT t.y by unfold zT;rw[hn]];exact mGa
theorem set_any (C:LC)(w:World)(s:Lo)(V:LV)(sp b:Nat)(t:Stm)(x:In)(hV:V.lm=some b)(h:LE C w s V)(ht:TS C sp t)(hxa:x.args=[])(hcl:s.code.length<100000) :
  Calls prog 294 #[.p C.lb,.p sp,insV x (.z)] w (za4 C w V (setM s t x)):=by
 cases hv:mget s.vars t.x.text with
 | some v =>
  by_cases hb:t.bin=0
  ·exact z0h C w s V sp b t x hV h ht hxa hcl v hv hb
  ·exact set_op C w s V sp b t x hV h ht hxa hcl v hv hb
 | none =>
  by_cases hb:t.bin=0
  ·cases hn:t.y.num
   ·cases hw:mget s.vars t.y.text with
    | some v=>exact set_load C w s V sp b t x hV h ht hxa hcl hv hn hb v hw
    | none=>exact set_var C w s V sp b t x hV h ht hxa hcl hv hn hw hb
   ·exact set_num C w s V sp b t x hV h ht hxa hcl hv hn hb
  ·cases hn:t.y.num
   ·exact set_bvar C w s V sp b t x hV h ht hxa hcl hv hn hb
   ·exact set_bnum C w s V sp b t x hV h ht hxa hcl hv hn hb
end
def zkk (n:Nat)(i:In):In:=⟨i.op,i.place,i.fn,i.x,i.y,i.z,i.bin,i.var,i.site,i.call,i.args,n⟩
theorem zwl {ags:List Value}{code:List In}(h:ags.length=code.length)(k n:Nat)(hk:k<code.length) :
  (zbg ags code).set (k*14+13) (.i n)=zbg ags (code.modify k (zkk n)):=by
 induction code generalizing ags k with
 | nil=>simp at hk
 | cons c r ih =>
  cases ags with
  | nil=>simp at h
  | cons a as' =>
   have hl:(zV c a).length=14:=rfl;cases k with
   | zero =>
    show(zV c a++zbg as' r).set 13 _=_;rw[List.set_append_left _ _ (by rw[hl];omega)];rfl
   | succ k =>
    show(zV c a++zbg as' r).set ((k+1)*14+13) _=zV c a++zbg as' (r.modify k _);rw[yce _ _ (by rw[hl];omega),hl,show(k+1)*14+13-14=k*14+13 by omega,ih (by simpa using h) k (by simpa using hk)]
theorem zk5 {ags:List Value}{code:List In}(h:ags.length=code.length)(k:Nat)(hk:k<code.length):∃ i:In,(zbg ags code)[k*14+13]?=some (.i i.to):=by
 induction code generalizing ags k with
 | nil=>simp at hk
 | cons c r ih =>
  cases ags with
  | nil=>simp at h
  | cons a as' =>
   have hl:(zV c a).length=14:=rfl;cases k with
   | zero=>exact⟨c,by show(zV c a++zbg as' r)[0*14+13]? = _;rw[yz (by rw[hl];omega)];rfl⟩
   | succ k =>
    obtain⟨i,hi⟩:=ih (by simpa using h) k (by simpa using hk);exact⟨i,by show(zV c a++zbg as' r)[(k+1)*14+13]? = _;rw[yC (by rw[hl];omega),hl,show(k+1)*14+13-14=k*14+13 by omega];exact hi⟩
theorem LE.patch {g cap:Nat}(h:LE C w s V)(hcv:V.cv=.s g s.code.length cap)(hk:k<s.code.length) :
  LE C (w.setCell (.a g (k*14+13)) (.i s.code.length)) (s.patch k) V:=by
 have G:=h.cr;rw[hcv]at G;obtain⟨cs,K⟩:=zr G (k:=g) rfl;have L:C.B<=g:=(G.lt g rfl).1;have J:∀ {j:Nat} {t:TypeId} {cs':Array Value},Blk w j t cs'->t≠309->j≠g:=fun I ht=>I.qs K ht;have A:∀ {B e size n:Nat} {v:Value} {ys:List Value},w.ownsRow B e size v n ys->e≠309->(w.setCell (.a g (k*14+13)) (.i s.code.length)).ownsRow B e size v n ys:=fun Q O=>zL Q K O _ _;have D:∀ {b:Nat} {m:NMap},NM w b m->NM (w.setCell (.a g (k*14+13)) (.i s.code.length)) b m:=fun hm=>hm.qi (hm.qf K) _;have H:(s.code.modify k (zkk s.code.length)).length=s.code.length:=ybi _ _ _;refine⟨h.c,h.qk.setCell L _,h.l.qi (J h.l yd) _,h.p.qi (J h.p yd) _,D h.vm,D h.mm,D h.fm,fun b hb=>⟨D (h.lm b hb).1,(h.lm b hb).2⟩,A h.fr yd,?_,by rw[h.asl];exact H.symm,?_,A h.atr yd,A h.nr yd,A h.gr yd,h.s1,h.s2,h.s3,
  ⟨h.i.fl,h.i.f5,h.i.al,h.i.nl,h.i.gl,h.i.fok⟩⟩
 ·show World.ownsRow _ C.B _ 14 V.cv (s.code.modify k (zkk s.code.length)).length (zbg V.ags (s.code.modify k (zkk s.code.length)));rw[H,<- zwl h.asl k s.code.length hk,hcv];exact(G.stored (k*14+13) _).1
 ·intro j a i N hi;have E:(s.code.modify k (zkk s.code.length))[j]?=some i:=hi;rw[List.getElem?_modify]at E;cases I:s.code[j]? with
  | none=>rw[I]at E;simp at E
  | some i0 =>
   rw[I]at E;simp at E;have h1:=A (h.ar j a i0 N I) yd;have:i.args=i0.args:=by rw[<- E];split <;> rfl
   unfold zfq at h1 |-;rw[this];exact h1
theorem zc6 {p:Ar×Lo}(h:argM s n=.ok p):p.2.code=s.code:=by rw[zd3 h]
theorem zj2 {p:Nat×Lo}(h:xr s n=.ok p):p.2.code=s.code:=by rw[zfa h]
theorem zpm:∀ (l:List Nm) {s:Lo} {p:List Ar×Lo},zbd s l=.ok p->p.2.code=s.code
 | [],s,p,h=>by rw[zbd]at h;injection h with h;subst h;rfl
 | n::r,s,p,h=>by
  rw[zbd]at h;obtain⟨q,h1,h2⟩:=zD h;obtain⟨u,h3,h4⟩:=zD h2;injection h4 with h4;subst h4;exact(zpm r h3).trans (zc6 h1)
theorem zp4 {p:In×Lo}(h:zbe s t x=.ok p):p.2.code=s.code:=by
 unfold zbe at h;split at h
 ·cases h
 ·split at h
  ·obtain⟨q,h1,h2⟩:=zD h;injection h2 with h2;subst h2;exact zpm _ h1
  ·cases h
theorem zln {p:In×Lo}(h:xt s t x=.ok p):p.2.code=s.code:=by
 unfold xt at h;split at h
 ·split at h
  ·cases h
  ·injection h with h;subst h;rfl
 ·split at h
  ·split at h
   ·cases h
   ·exact(zp4 h).trans rfl
  ·split at h
   ·exact zp4 h
   ·obtain⟨q,h1,h2⟩:=zD h;injection h2 with h2;subst h2;exact zc6 h1
theorem zaf (s:Lo)(x:In):(s.emit x).code.length=s.code.length+1:=by simp[Lo.emit]
theorem zf7 (s:Lo)(k:Nat):(s.patch k).code.length=s.code.length:=ybi _ _ _
theorem ztn (h:setM s t x=.ok s'):s'.code.length=s.code.length+1:=by
 cases hv:mget s.vars t.x.text with
 | some v =>
  unfold setM at h;rw[hv]at h;simp only at h;split at h
  ·obtain⟨q,h1,h2⟩:=zD h;injection h2 with h2;subst h2;rw[zaf,zc6 h1]
  ·cases h
 | none =>
  rw[zix hv]at h;obtain⟨q,h1,h2⟩:=zD h;unfold zez at h2;split at h2
  ·injection h2 with h2;subst h2;rw[zaf,zj2 h1]
  ·obtain⟨r,h3,h4⟩:=zD h2;split at h4
   ·injection h4 with h4;subst h4;rw[zaf,zc6 h3,zj2 h1]
   ·obtain⟨u,h5,h6⟩:=zD h4;injection h6 with h6;subst h6;rw[zaf,zc6 h5,zc6 h3,zj2 h1]
theorem zsx (h:zhq s t x=.ok s'):s'.code.length=s.code.length+1:=by
 unfold zhq at h;split at h
 ·split at h
  ·injection h with h;subst h;exact zaf _ _
  ·cases h
 ·split at h
  ·obtain⟨q,h1,h2⟩:=zD h;injection h2 with h2;subst h2;rw[zaf,zc6 h1]
  ·split at h
   ·split at h
    ·obtain⟨q,h1,h2⟩:=zD h;injection h2 with h2;subst h2;rw[zaf,zc6 h1]
    ·injection h with h;subst h;exact zaf _ _
   ·split at h
    ·obtain⟨q,h1,h2⟩:=zD h;obtain⟨r,h3,h4⟩:=zD h2;injection h4 with h4;subst h4;rw[zaf,zc6 h3,zj2 h1]
    ·split at h
     ·obtain⟨q,h1,h2⟩:=zD h;injection h2 with h2;subst h2;rw[zaf,zln h1]
     ·obtain⟨q,h1,h2⟩:=zD h;obtain⟨r,h3,h4⟩:=zD h2;injection h4 with h4;subst h4;rw[zaf,zln h3,zj2 h1]
theorem zv0 {c:Nat}(h1:∀ s s',block s t.body=.ok s'->s'.code.length<=s.code.length+a)(h2:∀ s s',block s t.els=.ok s'->s'.code.length<=s.code.length+c)
  (h:zbz block s t x=.ok s'):s'.code.length<=s.code.length+2+a+c:=by
 unfold zbz at h;obtain⟨p,h3,h4⟩:=zD h;obtain⟨s2,h5,h6⟩:=zD h4;have A:=h1 _ _ h5;rw[zaf,zc6 h3]at A;split at h6
 ·injection h6 with h6;subst h6;rw[zf7,zaf];omega
 ·split at h6
  ·obtain⟨s3,h7,h8⟩:=zD h6;injection h8 with h8;subst h8;have D:=h2 _ _ h7;rw[zf7,zaf]at D;rw[zf7];omega
  ·injection h6 with h6;subst h6;rw[zf7];omega
theorem ztx {c:Nat}(h1:∀ s s',block s t.body=.ok s'->s'.code.length<=s.code.length+a)(h2:∀ s s',block s t.els=.ok s'->s'.code.length<=s.code.length+c)
  (h:zcf block s t k=.ok s'):s'.code.length<=s.code.length+2+a+c:=by
 unfold zcf at h;split at h
 ·cases h
 ·split at h
  ·have:=ztn h;have e:(s.note k t.at_).code.length=s.code.length:=rfl;omega
  ·split at h
   ·have:=zv0 h1 h2 h;have e:(s.note k t.at_).code.length=s.code.length:=rfl;omega
   ·have:=zsx h;have e:(s.note k t.at_).code.length=s.code.length:=rfl;omega
theorem ze5 {xs:List Stm}:∀ (fuel:Nat) {s s':Lo} {ids:List Nat} {k e:Nat},zc (fun j=>xs[j]?) ids k e->zd xs fuel s ids=.ok s'->s'.code.length<=s.code.length+3*(e-k)
 | 0,s,s',ids,k,e,_,h=>by simp[zd]at h
 | n+1,s,s',ids,k,e,hs,h=>by
  cases hs with
  | nil=>rw[zd]at h;injection h with h;subst h;omega
  | cons h0 ho b1 b2 b3 =>
   rename_i m J x r;have A:xs[k]?=some x:=h0;rw[zd,A]at h;simp only at h;obtain⟨s2,h1,h2⟩:=zD h;have c1:=ztx (fun s s' D=>ze5 n b1 D) (fun s s' D=>ze5 n b2 D) h1;have E:=ze5 n b3 h2;have G:=b1.le;have H:=b2.le;have I:=b3.le;omega
theorem zvy (hb:∀ s s' l,block s l=.ok s'->s.code.length<=s'.code.length)(h:zbz block s t x=.ok s'):s.code.length+1<=s'.code.length:=by
 unfold zbz at h;obtain⟨p,h3,h4⟩:=zD h;obtain⟨s2,h5,h6⟩:=zD h4;have A:=hb _ _ _ h5;rw[zaf,zc6 h3]at A;split at h6
 ·injection h6 with h6;subst h6;rw[zf7,zaf];omega
 ·split at h6
  ·obtain⟨s3,h7,h8⟩:=zD h6;injection h8 with h8;subst h8;have D:=hb _ _ _ h7;rw[zf7,zaf]at D;rw[zf7];omega
  ·injection h6 with h6;subst h6;rw[zf7];omega
theorem zif {xs:List Stm}:∀ (fuel:Nat) (s s':Lo) (ids:List Nat),zd xs fuel s ids=.ok s'->s.code.length<=s'.code.length
 | 0,s,s',ids,h=>by simp[zd]at h
 | n+1,s,s',[],h=>by rw[zd]at h;injection h with h;subst h;exact yr _
 | n+1,s,s',k::r,h=>by
  rw[zd]at h;split at h
  ·rename_i t _;obtain⟨s2,h1,h2⟩:=zD h;have D:=zif n _ _ _ h2;have e:(s.note k t.at_).code.length=s.code.length:=rfl;have c1:s.code.length<=s2.code.length:=by
    unfold zcf at h1;split at h1
    ·cases h1
    ·split at h1
     ·have:=ztn h1;omega
     ·split at h1
      ·have:=zvy (fun s s' l A=>zif n s s' l A) h1;omega
      ·have:=zsx h1;omega
   omega
  ·cases h
attribute [local go_sem] zT arV insV zV
def zmf {α : Type}(C:LC)(r:Except Flt α)(K:α -> Value->World->Prop)(e:Ending)(w':World):Prop :=
 (∃ a v,r=.ok a/\e=.r v/\K a v w') \/
 (∃ f b,r=.error f/\e=.panicked (zd6 b)/\zf w' b f/\C.B<=b/\Below C.B C.w0 w')
theorem zap.abs {α: Type}{w':World}{r:Except Flt α}{K:α -> Value->World->Prop}{e:Ending}(h:zap C w r K e w')(hL:LE C w s V):zmf C r K e w':=by
 rcases h with h | ⟨f,b,h1,h2,h3,h4,h5⟩
 ·exact .inl h
 ·exact .inr ⟨f,b,h1,h2,h3,ya hL.qk.size h4,hL.qk.trans h5⟩
def zby (C:LC)(V:LV)(M:Except Flt Lo):Ending->World->Prop:=zmf C M fun s' v w'=>v=.tuple #[]/\∃ V',LE C w' s' V'/\V'.lm=V.lm
structure TC (C:LC)(sp:Nat)(t:Stm)(av bv ev:Value):Prop where
 b:Blk C.w0 sp 439 (xf t av bv ev)
 n:xp C.w0 C.B0 av t.args
 i:zz C.w0 C.B0 bv t.body
 e:zz C.w0 C.B0 ev t.els
theorem LE.tc {sp:Nat}{av bv ev:Value}(h:LE C w s V)(T:TC C sp t av bv ev):∀ i,w.cell? (.a sp i)=#[.i t.op,.i t.at_,.i t.mark,
  .string t.x.text,.i t.x.at_,.bool t.x.num,.i t.x.n,.string t.y.text,.i t.y.at_,.bool t.y.num,.i t.y.n,
  .string t.z.text,.i t.z.at_,.bool t.z.num,.i t.z.n,.string t.f.text,.i t.f.at_,.bool t.f.num,.i t.f.n,
  av,.i t.bin,.i t.field,.bool t.has,bv,ev][i]? := (T.b.below h.qk T.b.lt).cell
def zem (C:LC)(n:Nat):Prop:=∀ (w:World) (s:Lo) (V:LV) (b:Nat) (bv:Value) (ids:List Nat) (k e fuel:Nat),V.lm=some b->LE C w s V->zz C.w0 C.B0 bv ids->zc (fun j=>C.xs[j]?) ids k e->e-k<=n->e-k<fuel->s.code.length+3*(e-k)<=90000 ->
 Calls prog 161 #[.p C.lb,bv] w (zby C V (zd C.xs fuel s ids))
theorem zm9 {s1:Lo}{N:Nat}(h:s1.code.length=s.code.length)(hn:s.code.length+1+a<=N):(s1.emit x).code.length+a<=N:=by rw[zaf,h];exact hn
theorem kbound {p s m e:Nat}(h:p<=s+1+3*(m-k))(h1:k<=m)(h2:m<=e)(hc:s+2+3*(e-k)<=90000):p+1+3*(e-m)<=90000:=yo
theorem zv5 (C:LC)(n:Nat)(w:World)(s:Lo)(V:LV)(sp b k m e fuel:Nat)(t:Stm)(x:In)(av bv ev:Value)(HB:zem C n)(hV:V.lm=some b)(h:LE C w s V)(ht:TS C sp t)(T:TC C sp t av bv ev)(hxa:x.args=[])
  (hb1:zc (fun j=>C.xs[j]?) t.body k m) (hb2:zc (fun j=>C.xs[j]?) t.els m e) (hn:e-k<=n) (hf:n<fuel) (hcl:s.code.length+2+3*(e-k)<=90000) (ho:t.op=14) :
  Calls prog 295 #[.p C.lb,.p sp,insV x (.z)] w (zby C V (zbz (zd C.xs fuel) s t x)):=by
 have o1:((t.op:Int)==14)=true:=by rw[beq_iff_eq];omega
 have HO:=zH ho;clear ho;obtain⟨M0,Q⟩:∃ M,M=zbz (zd C.xs fuel) s t x:=⟨_,rfl⟩;have c4:=zH Q;rw[<- Q];have HT:=zH ht;have Z:=zH T;have H:=zH h;have G0:=zH (Gs.start h hxa rfl);have l1:=hb1.le;have l2:=hb2.le;have a0:=zH hb1;have c3:=zH hb2;obtain⟨ba,bc,b3⟩:=zX T.i;obtain⟨ea,ec,b4⟩:=zX T.e;subst b3 b4;have a1:=zH (Q.trans (zbz.eq_1 (zd C.xs fuel) s t x));clear Q h ht T hb1 hb2;obtain⟨b5,b9,a6,aa,af,aj,_⟩:=H.o.cells;have bg:=H.o.tc Z.o;have ao:=yi HT.o.lt H.o.qk.size;go_enter func295,ntmps295;go_wp2_with fail;refine(zcu C _ _ V t.y b hV G0.o.le (zN HT.o.ok.y)).mono ?_;rintro e w1 (⟨G,v,L,rfl,rfl,I,E⟩ | ⟨f,g,L,rfl,R,U,E⟩);rotate_left
 ·exact⟨rfl,(zap.fault (a1.o.trans (by rw[L];rfl)) R (ya G0.o.sz U) (G0.o.qk.trans E)).abs H.o⟩
 have a2:=zH (a1.o.trans (by rw[L,zF]));have Y:=zH (G0.o.arg hV I E);have a4:G.2.code.length=s.code.length:=by rw[zc6 L]
 have N:=zH a4;clear L I E a4;clear b5 b9 a6 aa af aj bg ao;obtain⟨b6,bb,a7,ab,ag,ak,_⟩:=Y.o.le.cells;have bh:=Y.o.le.tc Z.o;have bk:=Y.o.cells;have au:=Y.o.xe.b.frozen;have aw:=Y.o.xe.b.lt;go_wp2_with fail;refine zK (fun W=>Gs C w V w.heap.size W G.2 { x with y:=G.1 }) (Y.o.vn G.1) ?_;intro wz a3;have GZ:=zH a3;clear a3 b6 bb a7 ab ag ak bh bk au aw;refine(zbu C _ _ V { x with y:=G.1 } (.z) GZ.o.le ((N.o ▸ yo)) GZ.o.xe.a).mono ?_;rintro e w2 ⟨rfl,V2,I,hv⟩;have L2:=zH I;have W2:=zH hv;clear I hv;obtain⟨b7,bd,a8,ac,ah,am,_⟩:=L2.o.cells;have bi:=L2.o.tc Z.o;have ap:=yi HT.o.lt L2.o.qk.size;go_wp2_with fail;refine(HB _ _ V2 b _ _ _ _ fuel (W2.o.trans hV) L2.o Z.o.i a0.o yo yo (zm9 N.o yo)).mono ?_;rintro e w3 (⟨p3,v,L,rfl,rfl,V3,I,hv⟩ | ⟨f,g,L,rfl,R,U,E⟩);rotate_left
 ·exact⟨rfl,.inr ⟨f,g,a2.o.trans (by rw[L,zbh]),rfl,R,U,E⟩⟩
 have b1:=zH (a2.o.trans (by rw[L,zF]));have R3:=zH L;have L3:=zH I;have v3:=zH (hv.trans (W2.o.trans hV));have W3:=zH hv;clear L I hv;obtain⟨b8,be,a9,ad,ai,an,_⟩:=L3.o.cells;have bj:=L3.o.tc Z.o;have aq:=yi HT.o.lt L3.o.qk.size;clear b7 bd a8 ac ah am bi ap;go_wp2_with fail;have D:=ze5 _ a0.o R3.o;have K:=zif _ _ _ _ R3.o;rw[zaf,N.o]at D K;have ay:=zH D;have ax:=zH K;clear D K;refine(zbu C _ _ V3 (zgq G.2.code.length) (.z) L3.o ((yag ay.o yo)) yN).mono ?_;rintro e w4 ⟨rfl,V4,I,hv⟩;have O:=zH I;have W4:=zH hv;clear I hv;obtain⟨c5,bf,bp,bq,br,bu,_⟩:=O.o.cells;have c6:=O.o.tc Z.o;have c2:=yi HT.o.lt O.o.qk.size;have b2:=zH (b1.o.trans (yj HO.o));have ae:G.2.code.length<(p3.emit (zgq G.2.code.length)).code.length:=by rw[zaf,N.o];have:=ax.o;omega
 obtain⟨cg,ccap,J,_,_⟩:=O.o.cr.form yo;rw[J]at bf;obtain⟨ci,a5⟩:=zk5 O.o.asl G.2.code.length (ae);have A:=O.o.cr;rw[J]at A;have bm:w4.cell? (.a cg (G.2.code.length*14+13))=some (.i ci.to):=by rw[A.cellAt (G.2.code.length*14+13) yo];exact a5
 have bn:w4.frozen? (.a cg (G.2.code.length*14+13))=false:=A.frozenAt (G.2.code.length*14+13);have bo:cg<w4.heap.size:=(A.lt cg rfl).2;have az:=zH (O.o.patch J (ae));have bz:C.lb≠cg:=by
  obtain⟨cs,S⟩:=zr A (k:=cg) rfl;exact O.o.l.qs S yd
 have c0:C.pb≠cg:=by
  obtain⟨cs,S⟩:=zr A (k:=cg) rfl;exact O.o.p.qs S yd
 clear a5 A;clear b8 be a9 ad ai an bj aq;go_wp2_with fail;go_region
 all_goals go_end0
 all_goals exact .inl ⟨_,_,b2.o,rfl,rfl,V4,az.o.drew,W4.o.trans (W3.o.trans W2.o)⟩
theorem zv4 (C:LC)(n:Nat)(w:World)(s:Lo)(V:LV)(sp b k m e fuel:Nat)(t:Stm)(x:In)(av bv ev:Value)(HB:zem C n)(hV:V.lm=some b)(h:LE C w s V)(ht:TS C sp t)(T:TC C sp t av bv ev)(hxa:x.args=[])
  (hb1:zc (fun j=>C.xs[j]?) t.body k m) (hb2:zc (fun j=>C.xs[j]?) t.els m e) (hn:e-k<=n) (hf:n<fuel) (hcl:s.code.length+2+3*(e-k)<=90000) (ho:t.op≠14) (hh:t.has=false) :
  Calls prog 295 #[.p C.lb,.p sp,insV x (.z)] w (zby C V (zbz (zd C.xs fuel) s t x)):=by
 have o1:((t.op:Int)==14)=false:=zI yo;have HO:=zH ho;clear ho;obtain⟨M0,O⟩:∃ M,M=zbz (zd C.xs fuel) s t x:=⟨_,rfl⟩;have bo:=zH O;rw[<- O];have HT:=zH ht;have T0:=zH T;have H:=zH h;have G0:=zH (Gs.start h hxa rfl);have l1:=hb1.le;have l2:=hb2.le;have Z:=zH hb1;have bm:=zH hb2;obtain⟨ba,bc,au⟩:=zX T.i;obtain⟨ea,ec,aw⟩:=zX T.e;subst au aw;have a0:=zH (O.trans (zbz.eq_1 (zd C.xs fuel) s t x));clear O h ht T hb1 hb2;obtain⟨ax,b1,a5,a8,ac,af,_⟩:=H.o.cells;have b5:=H.o.tc T0.o;have ai:=yi HT.o.lt H.o.qk.size;go_enter func295,ntmps295;go_wp2_with fail;refine(zcu C _ _ V t.y b hV G0.o.le (zN HT.o.ok.y)).mono ?_;rintro e w1 (⟨K,v,J,rfl,rfl,Q,E⟩ | ⟨f,g,J,rfl,R,U,E⟩);rotate_left
 ·exact⟨rfl,(zap.fault (a0.o.trans (by rw[J];rfl)) R (ya G0.o.sz U) (G0.o.qk.trans E)).abs H.o⟩
 have a1:=zH (a0.o.trans (by rw[J,zF]));have Y:=zH (G0.o.arg hV Q E);have a3:K.2.code.length=s.code.length:=by rw[zc6 J]
 have L:=zH a3;clear J Q E a3;clear ax b1 a5 a8 ac af b5 ai;obtain⟨ay,b2,a6,a9,ad,ag,_⟩:=Y.o.le.cells;have b6:=Y.o.le.tc T0.o;have b8:=Y.o.cells;have ak:=Y.o.xe.b.frozen;have am:=Y.o.xe.b.lt;go_wp2_with fail;refine zK (fun W=>Gs C w V w.heap.size W K.2 { x with y:=K.1 }) (Y.o.vn K.1) ?_;intro wz a2;have GZ:=zH a2;clear a2 ay b2 a6 a9 ad ag b6 b8 ak am;refine(zbu C _ _ V { x with y:=K.1 } (.z) GZ.o.le ((L.o ▸ yo)) GZ.o.xe.a).mono ?_;rintro e w2 ⟨rfl,V2,Q,hv⟩;have L2:=zH Q;have W2:=zH hv;clear Q hv;obtain⟨az,b3,a7,aa,ae,ah,_⟩:=L2.o.cells;have b7:=L2.o.tc T0.o;have aj:=yi HT.o.lt L2.o.qk.size;go_wp2_with fail;refine(HB _ _ V2 b _ _ _ _ fuel (W2.o.trans hV) L2.o T0.o.i Z.o yo yo (zm9 L.o yo)).mono ?_;rintro e w3 (⟨p3,v,J,rfl,rfl,V3,Q,hv⟩ | ⟨f,g,J,rfl,R,U,E⟩);rotate_left
 ·exact⟨rfl,.inr ⟨f,g,a1.o.trans (by rw[J,zbh]),rfl,R,U,E⟩⟩
 have ap:=zH (a1.o.trans (by rw[J,zF]));have R3:=zH J;have N:=zH Q;have v3:=zH (hv.trans (W2.o.trans hV));have W3:=zH hv;clear J Q hv;obtain⟨bp,b4,be,bf,bg,bh,_⟩:=N.o.cells;have bq:=N.o.tc T0.o;have bk:=yi HT.o.lt N.o.qk.size;clear az b3 a7 aa ae ah b7 aj;go_wp2_with fail;have D:=ze5 _ Z.o R3.o;have I:=zif _ _ _ _ R3.o;rw[zaf,L.o]at D I;have bn:=zH D;have an:=zH I;clear D I;have aq:=zH (ap.o.trans ((yg HO.o).trans (yg (fun h=>Bool.noConfusion (hh.symm.trans h)))));have ab:K.2.code.length<p3.code.length:=by rw[L.o];have:=an.o;omega
 obtain⟨cg,ccap,G,_,_⟩:=N.o.cr.form yo;rw[G]at b4;obtain⟨ci,a4⟩:=zk5 N.o.asl K.2.code.length (ab);have A:=N.o.cr;rw[G]at A;have b9:w3.cell? (.a cg (K.2.code.length*14+13))=some (.i ci.to):=by rw[A.cellAt (K.2.code.length*14+13) yo];exact a4
 have bb:w3.frozen? (.a cg (K.2.code.length*14+13))=false:=A.frozenAt (K.2.code.length*14+13);have bd:cg<w3.heap.size:=(A.lt cg rfl).2;have ao:=zH (N.o.patch G (ab));have bi:C.lb≠cg:=by
  obtain⟨cs,S⟩:=zr A (k:=cg) rfl;exact N.o.l.qs S yd
 have bj:C.pb≠cg:=by
  obtain⟨cs,S⟩:=zr A (k:=cg) rfl;exact N.o.p.qs S yd
 clear a4 A;go_wp2_with fail;go_region
 all_goals go_end0
 all_goals exact .inl ⟨_,_,aq.o,rfl,rfl,V3,ao.o.drew,W3.o.trans W2.o⟩
theorem zv3 (C:LC)(n:Nat)(w:World)(s:Lo)(V:LV)(sp b k m e fuel:Nat)(t:Stm)(x:In)(av bv ev:Value)(HB:zem C n)(hV:V.lm=some b)(h:LE C w s V)(ht:TS C sp t)(T:TC C sp t av bv ev)(hxa:x.args=[])
  (hb1:zc (fun j=>C.xs[j]?) t.body k m) (hb2:zc (fun j=>C.xs[j]?) t.els m e) (hn:e-k<=n) (hf:n<fuel) (hcl:s.code.length+2+3*(e-k)<=90000) (ho:t.op≠14) (hh:t.has=true) :
  Calls prog 295 #[.p C.lb,.p sp,insV x (.z)] w (zby C V (zbz (zd C.xs fuel) s t x)):=by
 have o1:((t.op:Int)==14)=false:=zI yo;have HO:=zH ho;clear ho;obtain⟨M0,a1⟩:∃ M,M=zbz (zd C.xs fuel) s t x:=⟨_,rfl⟩;have ct:=zH a1;rw[<- a1];have HT:=zH ht;have T0:=zH T;have H:=zH h;have G0:=zH (Gs.start h hxa rfl);have l1:=hb1.le;have l2:=hb2.le;have a4:=zH hb1;have bh:=zH hb2;obtain⟨ba,bc,bo⟩:=zX T.i;obtain⟨ea,ec,bp⟩:=zX T.e;subst bo bp;have a7:=zH (a1.trans (zbz.eq_1 (zd C.xs fuel) s t x));clear a1 h ht T hb1 hb2;obtain⟨bq,c2,ag,am,au,b1,_⟩:=H.o.cells;have c7:=H.o.tc T0.o;have b9:=yi HT.o.lt H.o.qk.size;go_enter func295,ntmps295;go_wp2_with fail;refine(zcu C _ _ V t.y b hV G0.o.le (zN HT.o.ok.y)).mono ?_;rintro e w1 (⟨L,v,G,rfl,rfl,K,E⟩ | ⟨f,g,G,rfl,R,Y,E⟩);rotate_left
 ·exact⟨rfl,(zap.fault (a7.o.trans (by rw[G];rfl)) R (ya G0.o.sz Y) (G0.o.qk.trans E)).abs H.o⟩
 have a8:=zH (a7.o.trans (by rw[G,zF]));have G1:=zH (G0.o.arg hV K E);have ac:L.2.code.length=s.code.length:=by rw[zc6 G]
 have a0:=zH ac;clear G K E ac;clear bq c2 ag am au b1 c7 b9;obtain⟨br,c3,ah,an,aw,b2,_⟩:=G1.o.le.cells;have c8:=G1.o.le.tc T0.o;have cd:=G1.o.cells;have bf:=G1.o.xe.b.frozen;have bg:=G1.o.xe.b.lt;go_wp2_with fail;refine zK (fun W=>Gs C w V w.heap.size W L.2 { x with y:=L.1 }) (G1.o.vn L.1) ?_;intro wz aa;have GZ:=zH aa;clear aa br c3 ah an aw b2 c8 cd bf bg;refine(zbu C _ _ V { x with y:=L.1 } (.z) GZ.o.le ((a0.o ▸ yo)) GZ.o.xe.a).mono ?_;rintro e w2 ⟨rfl,V2,K,hv⟩;have L2:=zH K;have W2:=zH hv;clear K hv;obtain⟨bu,c4,ai,ao,ax,b3,_⟩:=L2.o.cells;have c9:=L2.o.tc T0.o;have bb:=yi HT.o.lt L2.o.qk.size;go_wp2_with fail;refine(HB _ _ V2 b _ _ _ _ fuel (W2.o.trans hV) L2.o T0.o.i a4.o yo yo (zm9 a0.o yo)).mono ?_;rintro e w3 (⟨Z,v,G,rfl,rfl,V3,K,hv⟩ | ⟨f,g,G,rfl,R,Y,E⟩);rotate_left
 ·exact⟨rfl,.inr ⟨f,g,a8.o.trans (by rw[G,zbh]),rfl,R,Y,E⟩⟩
 have bm:=zH (a8.o.trans (by rw[G,zF]));have R3:=zH G;have L3:=zH K;have v3:=zH (hv.trans (W2.o.trans hV));have W3:=zH hv;clear G K hv;obtain⟨bz,c5,aj,ap,ay,b4,_⟩:=L3.o.cells;have ca:=L3.o.tc T0.o;have bd:=yi HT.o.lt L3.o.qk.size;clear bu c4 ai ao ax b3 c9 bb;go_wp2_with fail;have J:=ze5 _ a4.o R3.o;have S:=zif _ _ _ _ R3.o;rw[zaf,a0.o]at J S;have a6:=zH J;have bi:=zH S;clear J S;have a9:=zH (bm.o.trans ((yg HO.o).trans (yj hh)));refine(zbu C _ _ V3 (zgq 0) (.z) L3.o ((yag a6.o yo)) yN).mono ?_;rintro e w4 ⟨rfl,V4,K,hv⟩;have L4:=zH K;have W4:=zH hv;clear K hv;obtain⟨c0,b8,ak,aq,az,b5,_⟩:=L4.o.cells;have cc:=L4.o.tc T0.o;have be:=yi HT.o.lt L4.o.qk.size;have a3:L.2.code.length<(Z.emit (zgq 0)).code.length:=by rw[zaf,a0.o];have:=bi.o;omega
 obtain⟨cg,ccap,O,_,_⟩:=L4.o.cr.form yo;rw[O]at b8;obtain⟨ci,N⟩:=zk5 L4.o.asl L.2.code.length (a3);have A:=L4.o.cr;rw[O]at A;have ad:w4.cell? (.a cg (L.2.code.length*14+13))=some (.i ci.to):=by rw[A.cellAt (L.2.code.length*14+13) yo];exact N
 have ae:w4.frozen? (.a cg (L.2.code.length*14+13))=false:=A.frozenAt (L.2.code.length*14+13);have af:cg<w4.heap.size:=(A.lt cg rfl).2;have bj:=zH (L4.o.patch O (a3));have b6:C.lb≠cg:=by
  obtain⟨cs,I⟩:=zr A (k:=cg) rfl;exact L4.o.l.qs I yd
 have b7:C.pb≠cg:=by
  obtain⟨cs,I⟩:=zr A (k:=cg) rfl;exact L4.o.p.qs I yd
 clear N A;clear bz c5 aj ap ay b4 ca bd;go_wp2_with fail;go_region;go_wp2_with fail;refine zK (fun W=>LE C W ((Z.emit (zgq 0)).patch L.2.code.length) V4) bj.o.drew ?_;intro w5 ab;have L5:=zH ab;have a5:=zH (show((Z.emit (zgq 0)).patch L.2.code.length).code.length=Z.code.length+1 by rw[zf7,zaf]);clear ab ad ae af b6 b7 a3 c0 b8 ak aq az b5 cc be;refine(HB _ _ V4 b _ _ _ _ fuel (W4.o.trans v3.o) L5.o T0.o.e bh.o yo yo (ya (Nat.add_le_add_right (Nat.le_of_eq a5.o) _) (kbound a6.o l1 l2 hcl))).mono ?_;rintro e w6 (⟨p6,v,G,rfl,rfl,V6,K,hv⟩ | ⟨f,g,G,rfl,R,Y,E⟩);rotate_left
 ·exact⟨rfl,.inr ⟨f,g,a9.o.trans (by rw[G,zbh]),rfl,R,Y,E⟩⟩
 have bn:=zH (a9.o.trans (by rw[G,zF]));have R6:=zH G;have L6:=zH K;have v6:=zH (hv.trans (W4.o.trans v3.o));have W6:=zH hv;clear G K hv;obtain⟨cu,c6,cj,ck,cm,cn,_⟩:=L6.o.cells;have cw:=L6.o.tc T0.o;have cq:=yi HT.o.lt L6.o.qk.size;have U:=zif _ _ _ _ R6.o;rw[a5.o]at U;have a2:Z.code.length<p6.code.length:=U;clear U;obtain⟨cg,ccap,Q,_,_⟩:=L6.o.cr.form yo;rw[Q]at c6;obtain⟨ci,N⟩:=zk5 L6.o.asl Z.code.length (a2);have D:=L6.o.cr;rw[Q]at D;have ce:w6.cell? (.a cg (Z.code.length*14+13))=some (.i ci.to):=by rw[D.cellAt (Z.code.length*14+13) yo];exact N
 have cf:w6.frozen? (.a cg (Z.code.length*14+13))=false:=D.frozenAt (Z.code.length*14+13);have ch:cg<w6.heap.size:=(D.lt cg rfl).2;have bk:=zH (L6.o.patch Q (a2));have co:C.lb≠cg:=by
  obtain⟨cs,I⟩:=zr D (k:=cg) rfl;exact L6.o.l.qs I yd
 have cp:C.pb≠cg:=by
  obtain⟨cs,I⟩:=zr D (k:=cg) rfl;exact L6.o.p.qs I yd
 clear N D;go_wp2_with fail;go_region
 all_goals go_wp2_with fail
 all_goals (first | go_end0 | refine ym (yp rfl _ _ _) rfl ?_)
 all_goals exact .inl ⟨_,_,bn.o,rfl,rfl,V6,bk.o.drew,W6.o.trans (W4.o.trans (W3.o.trans W2.o))⟩
theorem zx2 (C:LC)(n:Nat)(w:World)(s:Lo)(V:LV)(sp b k m e fuel:Nat)(t:Stm)(x:In)(av bv ev:Value)(HB:zem C n)(hV:V.lm=some b)(h:LE C w s V)(ht:TS C sp t)(T:TC C sp t av bv ev)(hxa:x.args=[])
  (hb1:zc (fun j=>C.xs[j]?) t.body k m) (hb2:zc (fun j=>C.xs[j]?) t.els m e) (hn:e-k<=n) (hf:n<fuel) (hcl:s.code.length+2+3*(e-k)<=90000) :
  Calls prog 295 #[.p C.lb,.p sp,insV x (.z)] w (zby C V (zbz (zd C.xs fuel) s t x)):=by
 by_cases ho:t.op=14
 ·exact zv5 C n w s V sp b k m e fuel t x av bv ev HB hV h ht T hxa hb1 hb2 hn hf hcl ho
 ·cases hh:t.has
  ·exact zv4 C n w s V sp b k m e fuel t x av bv ev HB hV h ht T hxa hb1 hb2 hn hf hcl ho hh
  ·exact zv3 C n w s V sp b k m e fuel t x av bv ev HB hV h ht T hxa hb1 hb2 hn hf hcl ho hh
theorem LE.setAt {g cap:Nat}(h:LE C w s V)(hav:V.av=.s g s.at_.length cap)(n:Nat) :
  LE C (w.setCell (.a g k) (.i n)) { s with at_:=s.at_.set k n } V:=by
 have E:=h.atr;rw[hav]at E;obtain⟨cs,I⟩:=zr E (k:=g) rfl;have L:C.B<=g:=(E.lt g rfl).1;have H:∀ {j:Nat} {t:TypeId} {cs':Array Value},Blk w j t cs'->t≠3->j≠g:=fun O ht=>O.qs I ht;have D:∀ {B e size n':Nat} {v:Value} {ys:List Value},w.ownsRow B e size v n' ys->e≠3->(w.setCell (.a g k) (.i n)).ownsRow B e size v n' ys:=fun J N=>zL J I N _ _;have A:∀ {b:Nat} {m:NMap},NM w b m->NM (w.setCell (.a g k) (.i n)) b m:=fun hm=>hm.qi (hm.qf I) _;have G:∀ {v:Value} {n':Nat} {ys:List Value},w.ownsRow C.B 3 1 v n' ys->Sep V.av v->(w.setCell (.a g k) (.i n)).ownsRow C.B 3 1 v n' ys:=fun J Q =>
  ownsRow_setCell_other J (by
   have K:=Q g (by rw[hav];rfl);exact K) _
 refine⟨h.c,h.qk.setCell L _,h.l.qi (H h.l yd) _,h.p.qi (H h.p yd) _,A h.vm,A h.mm,A h.fm,fun b hb=>⟨A (h.lm b hb).1,(h.lm b hb).2⟩,D h.fr yd,D h.cr yd,h.asl,fun j a i ha hi=>D (h.ar j a i ha hi) yd,?_,G h.nr h.s1,G h.gr h.s2,h.s1,h.s2,h.s3,
  ⟨h.i.fl,h.i.f5,by rw[ybw];exact h.i.al,h.i.nl,h.i.gl,h.i.fok⟩⟩
 show World.ownsRow _ C.B _ 1 V.av (s.at_.set k n).length (zag (s.at_.set k n));rw[ybw,hav];have:=(E.stored k (.i n)).1;unfold zag at this |-;rw[yco];exact this
def AtRel (C:LC)(s:Lo)(V:LV)(m:Nat)(n:Nat)(W:World):Prop :=
 ∃ (j:Nat) (V':LV),n=m-j/\j<=m/\s.at_.length+m<=48/\LE C W { s with at_:=s.at_++List.replicate j 0 } V'/\V'.lm=V.lm
theorem at_next {V':LV}{m j:Nat}{l:List Nat}{W:World}(hl:l=s.at_++List.replicate j 0)(hj:j<m)(h48:s.at_.length+m<=48)(h:LE C W { s with at_:=l++[0] } V')(hv:V'.lm=V.lm):AtRel C s V m (m-(j+1)) W:=by
 subst hl;exact⟨j+1,V',rfl,hj,h48,by rw[List.replicate_succ',<- ya7];exact h,hv⟩
theorem at_len {j:Nat}:(s.at_++List.replicate j 0).length=s.at_.length+j:=by simp
theorem Gs.drew {w0 W:World}{xb:Nat}(h:Gs C w0 V xb W s x):Gs C w0 V xb W.drew s x:=⟨h.le.drew,h.xe.drew,h.qk.drew,h.sz,h.b0⟩
theorem zyt (s:Lo)(p a:Nat):(s.note p a).code=s.code:=rfl
def zh6 (C:LC):Prop:=∀ (w:World) (s:Lo) (V:LV) (sp xb b:Nat) (t:Stm) (x:In),V.lm=some b->LE C w s V->TS C sp t->XE C w V xb x (.z)->x.args=[] ->
 Calls prog 298 #[.p C.lb,.p sp,.p xb] w (zep C w V xb (xt s t x))
theorem text_no {a:ByteArray}(h:a.size=0):a.toList=[]:=by
 rw[ByteArray.toList_eq];apply List.eq_nil_of_length_eq_zero;simpa using h
theorem text_yes {a:ByteArray}(h:a.size≠0):a.toList≠[]:=by
 rw[ByteArray.toList_eq];intro e;apply h;have:=congrArg List.length e;simpa using this
end Go.Proofs.YtkmcihhndgdhpaaGreat
