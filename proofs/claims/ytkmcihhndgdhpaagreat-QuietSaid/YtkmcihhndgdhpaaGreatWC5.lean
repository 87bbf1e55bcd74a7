/- Parts of the walk. -/
import Derived.Test.YtkmcihhndgdhpaaGreatWC4
set_option maxRecDepth 100000
set_option maxHeartbeats 4000000
set_option linter.unusedSimpArgs false
set_option linter.unusedVariables false
open Go.Maps Go.RowKit Go.Proofs.Tryz
namespace Go.Proofs.YtkmcihhndgdhpaaGreat
theorem mVb {p:Prop}(h:p:=by
  rintro e w9 ⟨rfl,V',hL9,hv9⟩;have FIN:=zH (show zby C V M0 (.e) w9 from .inl ⟨_,_,MD8.o,rfl,rfl,V',hL9,hv9.trans (v8.o.trans v1.o)⟩);clear hL9 hv9;go_wp2_with fail
  first | go_end0 | refine ym (yp rfl _ _ _) rfl ?_
  exact FIN.o):p:=h
attribute [local go_sem] zT arV insV zV
theorem z0v (C:LC)(n:Nat)(w:World)(s:Lo)(V:LV)(sp b place m e fuel:Nat)(t:Stm)(av bv ev:Value)(HB:zem C n)(HMO:zh6 C)(hV:V.lm=some b)(h:LE C w s V)(ht:TS C sp t)(T:TC C sp t av bv ev)
  (hb1:zc (fun j=>C.xs[j]?) t.body (place+1) m) (hb2:zc (fun j=>C.xs[j]?) t.els m e) (hn:e-(place+1)<=n) (hf:n<fuel) (hcl:s.code.length+2+3*(e-(place+1))<=90000) (hp48:48<=place) :
  Calls prog 248 #[.p C.lb,.p sp,.i place] w (zby C V (zcf (zd C.xs fuel) s t place)):=by
 have R:=zH (show zcf (zd C.xs fuel) s t place=.error ⟨8,t.at_⟩ by unfold zcf;rw[yj hp48]);obtain⟨Z,A⟩:∃ M,M=zcf (zd C.xs fuel) s t place:=⟨_,rfl⟩;have D:=zH A;rw[<- A];have Q:=zH ht;have S:=zH T;have H:=zH h;have N:=zH hb1;have O:=zH hb2;obtain⟨aa,ac,E⟩:=zX T.n;subst E;clear A h ht T hb1 hb2;obtain⟨U,W,G,I,J,K,_⟩:=H.o.cells;have Y:=H.o.tc S.o;have L:=yi Q.o.lt H.o.qk.size;go_enter func248,ntmps248;go_wp2_with fail;refine(zb4 _ _ _).mono ?_;rintro e w4 ⟨rfl,rfl⟩;exact⟨rfl,(zap.fault (D.o.trans R.o) (zf.new rfl) yL (yB.alloc H.o.qk.size _)).abs H.o⟩
theorem stmt_go (C:LC)(n:Nat)(w:World)(s:Lo)(V:LV)(sp b place m e fuel:Nat)(t:Stm)(av bv ev:Value)(HB:zem C n)(HMO:zh6 C)(hV:V.lm=some b)(h:LE C w s V)(ht:TS C sp t)(T:TC C sp t av bv ev)
  (hb1:zc (fun j=>C.xs[j]?) t.body (place+1) m) (hb2:zc (fun j=>C.xs[j]?) t.els m e) (hn:e-(place+1)<=n) (hf:n<fuel) (hcl:s.code.length+2+3*(e-(place+1))<=90000) (hp48:place<48) :
  Calls prog 248 #[.p C.lb,.p sp,.i place] w (zby C V (zcf (zd C.xs fuel) s t place)):=by
 have MD:=zH (show zcf (zd C.xs fuel) s t place=if t.op=1 then setM (s.note place t.at_) t (xz t place)else if t.op=13\/t.op=14 then zbz (zd C.xs fuel) (s.note place t.at_) t (xz t place)else zhq (s.note place t.at_) t (xz t place) by
  unfold zcf;rw[yg yo])
 have c9:s.at_.length+(place+1-s.at_.length)<=48:=yq h.i.al;obtain⟨M0,bn⟩:∃ M,M=zcf (zd C.xs fuel) s t place:=⟨_,rfl⟩;have d8:=zH bn;rw[<- bn];have Q:=zH ht;have T0:=zH T;have H:=zH h;have d4:=zH hb1;have d5:=zH hb2;obtain⟨aa,ac,dc⟩:=zX T.n;subst dc;clear bn h ht T hb1 hb2;obtain⟨dh,dr,cc,cf,cn,cq,_⟩:=H.o.cells;have du:=H.o.tc T0.o;have d0:=yi Q.o.lt H.o.qk.size;have ap:=zH (show AtRel C s V (place+1-s.at_.length) (place+1-s.at_.length) w from⟨0,V,by omega,by omega,c9,by simpa using H.o,rfl⟩);go_enter func248,ntmps248;go_wp2_with fail;clear dh dr cc cf cn cq du d0;go_loopg [] (place+1-s.at_.length) (fun n wr=>AtRel C s V (place+1-s.at_.length) n wr)
 case atStart=>exact ap.o
 case round =>
  obtain⟨j,O,cw,hj,_,hL,hv⟩:=hrel;obtain⟨l,hl⟩:∃ l,l=s.at_++List.replicate j 0:=⟨_,rfl⟩;have cm:l.length=s.at_.length+j:=by rw[hl,at_len]
  rw[<- hl]at hL;have c2:=zH hl;have c0:=zH cm;have d9:=zH cw;obtain⟨na,nc,cx⟩:=zX hL.atr;have L1:=zH hL;have v1:=zH hv;have a6:=zH cx;clear hL hv hl cm cx cw;obtain⟨di,cy,cd,ch,co,ct,_⟩:=L1.o.cells;have dw:=L1.o.tc T0.o;have d1:=yi Q.o.lt L1.o.qk.size;rw[a6.o]at cy;by_cases dg:j<place+1-s.at_.length
  ·have E:l.length<=place:=yq c0.o;have ck:l.length<48:=yo;have HR:=zH (show wr.ownsRow C.B 3 1 (.slice na l.length nc) l.length (zag l) by have:=L1.o.atr;rw[a6.o]at this;exact this);have d7:=zH L1.o.qk.size;go_wp2_with fail;go_region_law (refine zan tyInt rfl _ _ rfl C.B _ l.length (zag l) wr.heap.size _ _ ((zi HR.o).alloc _) (Blk.newAt yy) rfl rfl rfl yE yo (ya d7.o yy) ?_;intro g cap w2 b2 b9 bi;(have bq:=(Blk.append ((L1.o.drew.alloc _).p) ((zi HR.o).alloc _) b9 yd));(have cz:=bq.cell);(have e0:=bq.frozen);(rw[a6.o]at cz);(have cj:=(Blk.append ((L1.o.drew.alloc _).l) ((zi HR.o).alloc _) b9 yd));(have e2:=cj.cell);(have HN:=zH (at_step (v:=0) L1.o ck b2 (by rw[a6.o];exact b9) (by rw[a6.o];exact bi)));clear bq cj b2 b9 bi)
   all_goals go_wp2_with fail
   all_goals (go_roundg (place+1-s.at_.length-(j+1)))
   all_goals first | (case measure=>have:=d9.o;omega) | skip
   all_goals (case rel=>exact at_next c2.o dg c9 HN.o.1 (HN.o.2.1.trans v1.o))
  ·have bd:place<l.length:=yq c0.o;have df:j=place+1-s.at_.length:=yo;obtain⟨g,cap,bj,da,e8⟩:=L1.o.atr.form (show 0<l.length by omega);rw[a6.o]at bj;injection bj with dk _ dm;subst dk dm;have c4:=zH (show O.av=.s g l.length nc from a6.o);have aw:=L1.o.atr;rw[a6.o]at aw;have dd:wr.cell? (.a g place)=some (.i (l[place]:Nat)):=by
    rw[aw.cellAt place (by rw[yci];exact bd)];simp[zag,bd]
   have de:wr.frozen? (.a g place)=false:=aw.frozenAt place;obtain⟨cs,bo⟩:=zr aw (k:=g) rfl;have dn:C.lb≠g:=L1.o.l.qs bo yd;have dp:C.pb≠g:=L1.o.p.qs bo yd;have dq:sp≠g:=fun e=>absurd Q.o.lt (by rw[e];exact Nat.not_lt.2 da);have HS:=zH (show LE C (wr.setCell (.a g place) (.i t.at_)) (s.note place t.at_) O by
    have:=L1.o.setAt c4.o (k:=place) t.at_;rw[c2.o,df]at this;exact this)
   clear aw bo;go_wp2_with fail;go_region;go_wp2_with fail;refine xh (fun W=>LE C W (s.note place t.at_) O) HS.o.drew ?_;intro S ca;have L4:=zH ca;clear ca dd de dn dp dq;clear di cy cd ch co ct dw d1;obtain⟨dj,dt,ce,ci,cp,cu,_⟩:=L4.o.cells;have dx:=L4.o.tc T0.o;have d2:=yi Q.o.lt L4.o.qk.size;go_region;have bm:=Gs.drew (Gs.start (x:=xz t place) L4.o rfl rfl);change Exit.then _ _ _ _ (World.drew (S.alloc (.k (zV (xz t place) (.z)).toArray 309)))
   generalize (World.drew (S.alloc (.k (zV (xz t place) (.z)).toArray 309)))=w5 at bm |-;have L:=zH bm;clear bm;clear dj dt ce ci cp cu dx d2;obtain⟨bb,be,ab,ad,ae,af,_⟩:=L.o.le.cells;have bf:=L.o.le.tc T0.o;have ag:=yi Q.o.lt L.o.le.qk.size;have bg:=L.o.cells;have ah:=L.o.xe.b.frozen;have ai:=L.o.xe.b.lt;have a5:=zH (show(s.note place t.at_).code.length<100000 by rw[zyt];omega);have c8:=zH (d8.o.trans MD.o);clear ap;by_cases o1:t.op=1
   ·have q1:((t.op:Int)==1)=true:=by rw[beq_iff_eq];omega
    have c5:=zH (c8.o.trans (yj o1));clear o1;go_wp2_with fail;refine(set_any C w5 _ O sp b t (xz t place) (v1.o.trans hV) L.o.le Q.o rfl a5.o).mono ?_;rintro e w9 (⟨s9,v,D,rfl,rfl,V9,hL9,hv9⟩ | ⟨f,g,D,rfl,G,E,A⟩);rotate_left
    ·exact⟨rfl,(zap.fault (c5.o.trans D) G E A).abs L.o.le⟩
    have FIN:=zH (show zby C V M0 (.e) w9 from .inl ⟨_,_,c5.o.trans D,rfl,rfl,V9,hL9,hv9.trans v1.o⟩);clear D hL9 hv9;go_wp2_with fail
    first | go_end0 | refine ym (yp rfl _ _ _) rfl ?_
    exact FIN.o
   have q1:((t.op:Int)==1)=false:=zI yo;have c6:=zH (c8.o.trans (yg o1));by_cases ob:t.op=13\/t.op=14
   ·have b7:=zH (c6.o.trans (yj ob));have d6:=zH (zx2 C n w5 (s.note place t.at_) O sp b (place+1) m e fuel t (xz t place) _ bv ev HB (v1.o.trans hV) L.o.le Q.o T0.o rfl d4.o d5.o hn hf hcl);have q2:(t.op:Int)=13\/(((t.op:Int)==13)=false/\(t.op:Int)=14):=by
     rcases ob with h | h
     ·left;omega
     ·right;exact⟨zI yo,by omega⟩
    clear ob o1;rcases q2 with q2 | ⟨q2,q3⟩
    all_goals
     go_wp2_with fail;refine d6.o.mono ?_;rintro e w9 (⟨s9,v,D,rfl,rfl,V9,hL9,hv9⟩ | ⟨f,g,D,rfl,G,E,A⟩);rotate_left
     ·exact⟨rfl,.inr ⟨f,g,b7.o.trans D,rfl,G,E,A⟩⟩
     have FIN:=zH (show zby C V M0 (.e) w9 from .inl ⟨_,_,b7.o.trans D,rfl,rfl,V9,hL9,hv9.trans v1.o⟩);clear D hL9 hv9;go_wp2_with fail
     first | go_end0 | refine ym (yp rfl _ _ _) rfl ?_
     exact FIN.o
   have ee:((t.op:Int)==13)=false:=zI yo;have ef:((t.op:Int)==14)=false:=zI yo;have b7:=zH (c6.o.trans (yg ob));have c7:=zH (b7.o.trans (zhq.eq_1 (s.note place t.at_) t (xz t place)));clear o1 ob;by_cases ol:t.op=9\/t.op=10
   ·have ao:=zH (c7.o.trans (yj ol));have q2:(t.op:Int)=9\/(((t.op:Int)==9)=false/\(t.op:Int)=10):=by
     rcases ol with h | h
     ·left;omega
     ·right;exact⟨zI yo,by omega⟩
    have c3:=zH (show NM w5.drew C.mb s.qu from L.o.drew.le.mm);clear ol;cases hm:mget s.qu t.y.text with
    | none =>
     have KE:=zH (zhi hm);have a4:=zH (ao.o.trans (by rw[show mget (s.note place t.at_).qu t.y.text=none from hm]));clear hm;rcases q2 with q2 | ⟨q2,q3⟩
     all_goals
      go_wp2_with fail
      go_region_with (go_at_call 114;refine(xn _ _ s.qu _ c3.o (zN Q.o.ok.y)).mono ?_;rintro e w' ⟨rfl,rfl⟩;rw[KE.o])
      all_goals go_wp2_with fail
      all_goals (refine(zb4 _ _ _).mono ?_;rintro e w9 ⟨rfl,rfl⟩)
      all_goals exact⟨rfl,(zap.fault (w:=w5) a4.o (zf.new yy) yy (((yn C.B w5).setCell (yaq fun bd=>L.o.xe.u (.inl bd)) _).drew.alloc (by simp;exact L.o.le.qk.size) _)).abs L.o.le⟩
    | some v =>
     have KE:=zH (zle hm);have a4:=zH (ao.o.trans (by rw[show mget (s.note place t.at_).qu t.y.text=some v from hm]));clear hm;rcases q2 with q2 | ⟨q2,q3⟩
     all_goals
      go_wp2_with fail
      go_region_with (go_at_call 114;refine(xn _ _ s.qu _ c3.o (zN Q.o.ok.y)).mono ?_;rintro e w' ⟨rfl,rfl⟩;rw[KE.o])
      all_goals go_wp2_with fail
      all_goals refine zK (fun W=>Gs C S O S.heap.size W (s.note place t.at_) { xz t place with var:=v }) (L.o.setVar v).drew ?_
      all_goals intro wz K
      all_goals have J:=zH K
      all_goals clear K
      all_goals refine(zbu C wz _ O { xz t place with var:=v } (.z) J.o.le a5.o J.o.xe.a).mono ?_
      all_goals rintro e w9 ⟨rfl,V',hL9,hv9⟩
      all_goals have FIN:=zH (show zby C V M0 (.e) w9 from .inl ⟨_,_,a4.o,rfl,rfl,V',hL9,hv9.trans v1.o⟩)
      all_goals clear hL9 hv9
      all_goals go_wp2_with fail
      all_goals first | go_end0 | refine ym (yp rfl _ _ _) rfl ?_
      all_goals exact FIN.o
   have q9:((t.op:Int)==9)=false:=zI yo;have ec:((t.op:Int)==10)=false:=zI yo;have ao:=zH (c7.o.trans (yg ol));clear ol;by_cases o8:t.op=8
   ·have q8:((t.op:Int)==8)=true:=by rw[beq_iff_eq];omega
    have a4:=zH (ao.o.trans (yj o8));clear o8;go_wp2_with fail;refine(zcu C _ _ O t.y b (v1.o.trans hV) L.o.le (zN Q.o.ok.y)).mono ?_;rintro e w6 (⟨p6,v,D,rfl,rfl,hL,A⟩ | ⟨f,g,D,rfl,G,E,A⟩);rotate_left
    ·exact⟨rfl,(zap.fault (a4.o.trans (by rw[D,zbh])) G E A).abs L.o.le⟩
    have a8:=zH (a4.o.trans (by rw[D,zF]));have I:=zH (L.o.arg (v1.o.trans hV) hL A);have Q6:=zH (zd3 D);clear D hL A;obtain⟨aj,ak,U,Y,Z,a0,_⟩:=I.o.le.cells;have am:=I.o.le.tc T0.o;have a1:=yi Q.o.lt I.o.le.qk.size;have an:=I.o.cells;have a2:=I.o.xe.b.frozen;have a3:=I.o.xe.b.lt;clear bb be ab ad ae af bf ag bg ah ai;go_wp2_with fail;refine zK (fun W=>Gs C S O S.heap.size W p6.2 { xz t place with y:=p6.1 }) (I.o.vn p6.1) ?_;intro wz K;have J:=zH K;clear K;refine(zbu C wz _ O { xz t place with y:=p6.1 } (.z) J.o.le (zcc Q6.o a5.o) J.o.xe.a).mono ?_;rintro e w9 ⟨rfl,V',hL9,hv9⟩;have FIN:=zH (show zby C V M0 (.e) w9 from .inl ⟨_,_,a8.o,rfl,rfl,V',hL9,hv9.trans v1.o⟩);clear hL9 hv9;go_wp2_with fail
    first | go_end0 | refine ym (yp rfl _ _ _) rfl ?_
    exact FIN.o
   have q8:((t.op:Int)==8)=false:=zI yo;have a4:=zH (ao.o.trans (yg o8));clear o8;by_cases bh:t.op=12
   ·have dy:((t.op:Int)==12)=true:=by rw[beq_iff_eq];omega
    have a8:=zH (a4.o.trans (yj bh));clear bh;cases hh:t.has
    ·have R:=zH (a8.o.trans (yg (fun h=>Bool.noConfusion (hh.symm.trans h))));go_wp2_with fail;refine zK (fun W=>Gs C S O S.heap.size W (s.note place t.at_) { xz t place with y:={ c:=true } }) (L.o.vn { c:=true }) ?_;intro wz K;have J:=zH K;clear K;refine(zbu C wz _ O { xz t place with y:={ c:=true } } (.z) J.o.le (a5.o) J.o.xe.a).mono ?_;rintro e w9 ⟨rfl,V',hL9,hv9⟩;have FIN:=zH (show zby C V M0 (.e) w9 from .inl ⟨_,_,R.o,rfl,rfl,V',hL9,hv9.trans v1.o⟩);clear hL9 hv9;go_wp2_with fail
     first | go_end0 | refine ym (yp rfl _ _ _) rfl ?_
     exact FIN.o
    ·have R:=zH (a8.o.trans (yj hh));go_wp2_with fail;refine zK (fun W=>Gs C S O S.heap.size W (s.note place t.at_) { xz t place with y:={ c:=true } }) (L.o.vn { c:=true }) ?_;intro w6 hG;have I:=zH hG;clear hG;obtain⟨aj,ak,U,Y,Z,a0,_⟩:=I.o.le.cells;have am:=I.o.le.tc T0.o;have a1:=yi Q.o.lt I.o.le.qk.size;have an:=I.o.cells;have a2:=I.o.xe.b.frozen;have a3:=I.o.xe.b.lt;clear bb be ab ad ae af bf ag bg ah ai;refine(zcu C _ _ O t.y b (v1.o.trans hV) I.o.le (zN Q.o.ok.y)).mono ?_;rintro e w7 (⟨p7,v,D,rfl,rfl,hL,A⟩ | ⟨f,g,D,rfl,G,E,A⟩);rotate_left
     ·exact⟨rfl,(zap.fault (R.o.trans (by rw[D,zbh])) G E A).abs I.o.le⟩
     have MD8:=zH (R.o.trans (by rw[D,zF]));have N:=zH (I.o.arg (v1.o.trans hV) hL A);have Q7:=zH (zd3 D);clear D hL A;obtain⟨bp,br,ax,ay,az,b1,_⟩:=N.o.le.cells;have bu:=N.o.le.tc T0.o;have b3:=yi Q.o.lt N.o.le.qk.size;have bz:=N.o.cells;have b5:=N.o.xe.b.frozen;have b6:=N.o.xe.b.lt;clear aj ak U Y Z a0 am a1 an a2 a3;go_wp2_with fail;refine zK (fun W=>Gs C S O S.heap.size W p7.2 { xz t place with y:=p7.1 }) (N.o.vn p7.1) ?_;intro wz K;have J:=zH K;clear K;refine(zbu C wz _ O { xz t place with y:=p7.1 } (.z) J.o.le (zcc Q7.o a5.o) J.o.xe.a).mono ?_;rintro e w9 ⟨rfl,V',hL9,hv9⟩;have FIN:=zH (show zby C V M0 (.e) w9 from .inl ⟨_,_,MD8.o,rfl,rfl,V',hL9,hv9.trans v1.o⟩);clear hL9 hv9;go_wp2_with fail
     first | go_end0 | refine ym (yp rfl _ _ _) rfl ?_
     exact FIN.o
   have dy:((t.op:Int)==12)=false:=zI yo;have a8:=zH (a4.o.trans (yg bh));clear bh;by_cases o5:t.op=5
   ·have q5:((t.op:Int)==5)=true:=by rw[beq_iff_eq];omega
    have R:=zH (a8.o.trans (yj o5));clear o5;go_wp2_with fail;refine(zgr C _ _ O t.x b (v1.o.trans hV) L.o.le (zN Q.o.ok.x)).mono ?_;rintro e w6 (⟨p6,v,D,rfl,rfl,hL,A⟩ | ⟨f,g,D,rfl,G,E,A⟩);rotate_left
    ·exact⟨rfl,(zap.fault (R.o.trans (by rw[D,zbh])) G E A).abs L.o.le⟩
    have MD8:=zH (R.o.trans (by rw[D,zF]));have I:=zH (L.o.arg (v1.o.trans hV) hL A);have Q6:=zH (zfa D);clear D hL A;obtain⟨aj,ak,U,Y,Z,a0,_⟩:=I.o.le.cells;have am:=I.o.le.tc T0.o;have a1:=yi Q.o.lt I.o.le.qk.size;have an:=I.o.cells;have a2:=I.o.xe.b.frozen;have a3:=I.o.xe.b.lt;clear bb be ab ad ae af bf ag bg ah ai;go_wp2_with fail;refine zK (fun W=>Gs C S O S.heap.size W p6.2 { xz t place with x:=p6.1 }) (I.o.setX p6.1) ?_;intro w7 hG;have N:=zH hG;clear hG;obtain⟨bp,br,ax,ay,az,b1,_⟩:=N.o.le.cells;have bu:=N.o.le.tc T0.o;have b3:=yi Q.o.lt N.o.le.qk.size;have bz:=N.o.cells;have b5:=N.o.xe.b.frozen;have b6:=N.o.xe.b.lt;clear aj ak U Y Z a0 am a1 an a2 a3;refine(zcu C _ _ O t.y b (v1.o.trans hV) N.o.le (zN Q.o.ok.y)).mono ?_;rintro e w8 (⟨p8,v,D,rfl,rfl,hL,A⟩ | ⟨f,g,D,rfl,G,E,A⟩);rotate_left
    ·exact⟨rfl,(zap.fault (MD8.o.trans (by rw[D,zbh])) G E A).abs N.o.le⟩
    have b8:=zH (MD8.o.trans (by rw[D,zF]));have G8:=zH (N.o.arg (v1.o.trans hV) hL A);have Q8:=zH (zd3 D);clear D hL A;obtain⟨e9,ea,dz,e1,e3,e4,_⟩:=G8.o.le.cells;have eb:=G8.o.le.tc T0.o;have e5:=yi Q.o.lt G8.o.le.qk.size;have d3:=G8.o.cells;have e6:=G8.o.xe.b.frozen;have e7:=G8.o.xe.b.lt;clear bp br ax ay az b1 bu b3 bz b5 b6;go_wp2_with fail;refine zK (fun W=>Gs C S O S.heap.size W p8.2 { xz t place with x:=p6.1,y:=p8.1 }) (G8.o.vn p8.1) ?_;intro wz K;have J:=zH K;clear K;refine(zbu C wz _ O { xz t place with x:=p6.1,y:=p8.1 } (.z) J.o.le (zcc Q8.o (zcc Q6.o a5.o)) J.o.xe.a).mono ?_;rintro e w9 ⟨rfl,V',hL9,hv9⟩;have FIN:=zH (show zby C V M0 (.e) w9 from .inl ⟨_,_,b8.o,rfl,rfl,V',hL9,hv9.trans v1.o⟩);clear hL9 hv9;go_wp2_with fail
    first | go_end0 | refine ym (yp rfl _ _ _) rfl ?_
    exact FIN.o
   have q5:((t.op:Int)==5)=false:=zI yo;have R:=zH (a8.o.trans (yg o5));clear o5;by_cases ox:t.x.text.size=0
   ·have a7:=zH (R.o.trans (yj ox));have x1:=text_no ox;have x2:(!t.x.text.toList.isEmpty)=false:=by rw[x1];rfl
    clear ox;go_wp2_with fail;refine(HMO _ _ O sp _ b t (xz t place) (v1.o.trans hV) L.o.le Q.o L.o.xe rfl).mono ?_;rintro e w8 (⟨p8,v,D,rfl,rfl,V8,aq,au,b4,a9⟩ | ⟨f,g,D,rfl,G,E,A⟩);rotate_left
    ·exact⟨rfl,(zap.fault (a7.o.trans (by rw[D,zbh])) G E A).abs L.o.le⟩
    have MD8:=zH (a7.o.trans (by rw[D,zF]));have bk:=zH (zln D);have d3:∀ j,w8.cell? (.a S.heap.size j)=(.j p8.1 aq:Array Value)[j]? := a9.b.cell;have L8:=zH au;have X8:=zH a9;have v8:=zH b4;clear D au a9 b4;go_wp2_with fail;refine(zbu C w8 _ V8 p8.1 aq L8.o (bk.o ▸ a5.o) X8.o.a).mono ?_;exact mVb
   ·have a7:=zH (R.o.trans (yg ox));have x1:=text_yes ox;have x2:(!t.x.text.toList.isEmpty)=true:=by cases h:t.x.text.toList <;> simp_all
    clear ox;go_wp2_with fail;refine(zgr C _ _ O t.x b (v1.o.trans hV) L.o.le (zN Q.o.ok.x)).mono ?_;rintro e w6 (⟨p6,v,D,rfl,rfl,hL,A⟩ | ⟨f,g,D,rfl,G,E,A⟩);rotate_left
    ·exact⟨rfl,(zap.fault (a7.o.trans (by rw[D,zbh])) G E A).abs L.o.le⟩
    have b8:=zH (a7.o.trans (by rw[D,zF]));have I:=zH (L.o.arg (v1.o.trans hV) hL A);have Q6:=zH (zfa D);clear D hL A;obtain⟨aj,ak,U,Y,Z,a0,_⟩:=I.o.le.cells;have am:=I.o.le.tc T0.o;have a1:=yi Q.o.lt I.o.le.qk.size;have an:=I.o.cells;have a2:=I.o.xe.b.frozen;have a3:=I.o.xe.b.lt;clear bb be ab ad ae af bf ag bg ah ai;go_wp2_with fail;refine zK (fun W=>Gs C S O S.heap.size W p6.2 { xz t place with x:=p6.1 }) (I.o.setX p6.1) ?_;intro w7 hG;have N:=zH hG;clear hG;obtain⟨bp,br,ax,ay,az,b1,_⟩:=N.o.le.cells;have bu:=N.o.le.tc T0.o;have b3:=yi Q.o.lt N.o.le.qk.size;have bz:=N.o.cells;have b5:=N.o.xe.b.frozen;have b6:=N.o.xe.b.lt;clear aj ak U Y Z a0 am a1 an a2 a3;refine(HMO _ _ O sp _ b t { xz t place with x:=p6.1 } (v1.o.trans hV) N.o.le Q.o N.o.xe rfl).mono ?_;rintro e w8 (⟨p8,v,D,rfl,rfl,V8,aq,au,b4,a9⟩ | ⟨f,g,D,rfl,G,E,A⟩);rotate_left
    ·exact⟨rfl,(zap.fault (b8.o.trans (by rw[D,zbh])) G E A).abs N.o.le⟩
    have MD8:=zH (b8.o.trans (by rw[D,zF]));have bk:=zH (zln D);have d3:∀ j,w8.cell? (.a S.heap.size j)=(.j p8.1 aq:Array Value)[j]? := a9.b.cell;have L8:=zH au;have X8:=zH a9;have v8:=zH b4;clear D au a9 b4;go_wp2_with fail;refine(zbu C w8 _ V8 p8.1 aq L8.o (bk.o ▸ (zcc Q6.o a5.o)) X8.o.a).mono ?_;exact mVb
end Go.Proofs.YtkmcihhndgdhpaaGreat
