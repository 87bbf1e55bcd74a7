/- Parts of the walk. -/
import Derived.Test.YtkmcihhndgdhpaaGreatWA5
import Derived.Defers
import Derived.Recover
import Derived.ChangeAlike
set_option maxRecDepth 100000
set_option maxHeartbeats 4000000
set_option linter.unusedSimpArgs false
set_option linter.unusedVariables false
open Go.Maps Go.RowKit Go.Proofs.Tryz
namespace Go.Proofs.YtkmcihhndgdhpaaGreat
variable {w w1:World}{b k n pa pe tb g B' N sp:Nat}{v x y:Value}{s:Lo}{ds:List Dcl}{xs:List Stm}{tmps:Array Value}{R:Ending→World→Prop}{ts:List TypeId}{bs:List Nat}{ys:List Value}{t:Stm}{P:Pr}
theorem mKb {p:Prop}(h:p:=by
  rw[hg]at hlk;simp only at hlk;have HK:=zH (show s.known x=true by unfold Lo.known;rw[hg];simp);clear hg;go_wp2;go_ret;exact⟨zce HK.o.symm,HL.o,HC.o⟩):p:=h
theorem zwf (pa pe b:Nat)(x y:Value)(older:List PanicEntry)(w:World)(ha:Blk w pa 203 #[x])(he:Blk w pe 78 #[y])(hne:pa≠pe) :
  CallsD prog 156 #[.p pa,.p pe] (.panicking ({ v:=.iface 206 (.p b),recovered:=false }::older)) w fun e u' w' =>
   e=.e/\u'=.panicking ({ v:=.iface 206 (.p b),recovered:=true }::older)/\w'=(w.setCell (.a pa 0) (.pointer none)).setCell (.a pe 0) (.iface 206 (.p b)):=by
 have A:=ha.cell 0;have D:=he.cell 0;have E:=ha.frozen 0;have G:=he.frozen 0;clear ha he;have H:∀ w,(Instr.typeAssert (.iface 206 (.p b)) 20 206 true).run prog w=.ok (.tuple #[.p b,.bool true]) w:=fun w=>by simp[Instr.typeAssert,run_underlying underlying206,Result.andThen]
 refine callsD_of_wpS func156 rfl fun I cs hu=>?_;apply wpS_seq;apply wpS_region;simp[wpOpsS,go_sem,recoverD,hu,ntmps156,Exit.thenS];refine wpS_of_wp ?_;go_wp2;exact⟨rfl,_,rfl,_,yp rfl _ _ _,rfl,rfl,rfl⟩
theorem zxr (pa pe:Nat)(w:World) :
  CallsD prog 156 #[.p pa,.p pe] .returning w fun e u' w'=>e=.e/\u'=.returning/\w'=w:=by
 refine callsD_of_wpS func156 rfl fun A cs hu=>?_;apply wpS_seq;apply wpS_region;simp[wpOpsS,go_sem,recoverD,hu,ntmps156,Exit.thenS];refine wpS_of_wp ?_;go_wp2;cases A
 simp_all [bodyPostS,results,results156]
theorem zwe (pa pe b:Nat)(x y:Value)(older:List PanicEntry)(w:World)(ha:Blk w pa 158 #[x])(he:Blk w pe 78 #[y])(hne:pa≠pe) :
  CallsD prog 110 #[.p pa,.p pe] (.panicking ({ v:=.iface 206 (.p b),recovered:=false }::older)) w fun e u' w' =>
   e=.e/\u'=.panicking ({ v:=.iface 206 (.p b),recovered:=true }::older)/\w'=(w.setCell (.a pa 0) (.pointer none)).setCell (.a pe 0) (.iface 206 (.p b)):=by
 have A:=ha.cell 0;have D:=he.cell 0;have E:=ha.frozen 0;have G:=he.frozen 0;clear ha he;have H:∀ w,(Instr.typeAssert (.iface 206 (.p b)) 20 206 true).run prog w=.ok (.tuple #[.p b,.bool true]) w:=fun w=>by simp[Instr.typeAssert,run_underlying underlying206,Result.andThen]
 refine callsD_of_wpS func110 rfl fun I cs hu=>?_;apply wpS_seq;apply wpS_region;simp[wpOpsS,go_sem,recoverD,hu,ntmps110,Exit.thenS];refine wpS_of_wp ?_;go_wp2;exact⟨rfl,_,rfl,_,yp rfl _ _ _,rfl,rfl,rfl⟩
theorem zxq (pa pe:Nat)(w:World) :
  CallsD prog 110 #[.p pa,.p pe] .returning w fun e u' w'=>e=.e/\u'=.returning/\w'=w:=by
 refine callsD_of_wpS func110 rfl fun A cs hu=>?_;apply wpS_seq;apply wpS_region;simp[wpOpsS,go_sem,recoverD,hu,ntmps110,Exit.thenS];refine wpS_of_wp ?_;go_wp2;cases A
 simp_all [bodyPostS,results,results110]
attribute [local go_sem] zT
theorem zqh {t:ByteArray}{s:Sc}{p:(Dcl×List Stm)×Sc}(h:zcv t s k=.ok p)(A:s.at_<=t.size):p.2.at_<=t.size/\s.at_+1+p.1.2.length<=p.2.at_:=by
 unfold zcv at h;split at h
 ·obtain⟨s1,h1,h2⟩:=zD h;obtain⟨q,h3,h4⟩:=zD h2;obtain⟨s2,h5,h6⟩:=zD h4;injection h6 with h6;subst h6;have D:=za8 h1 A;have E:=zgu h3 D.1;have G:=zcr h5 E.1;have H:=zec h1 A (yq ((zfc h3).1));exact⟨G.1,by simp;omega⟩
 ·split at h
  ·obtain⟨s1,h1,h2⟩:=zD h;obtain⟨q,h3,h4⟩:=zD h2;obtain⟨s2,h5,h6⟩:=zD h4;obtain⟨r,h7,h8⟩:=zD h6;obtain⟨b,K,h10⟩:=zD h8;injection h10 with h10;subst h10;have D:=za8 h1 A;have E:=zgu h3 D.1;have G:=zcr h5 E.1;have J:=zj6 h7 G.1;have I:=zmy (fun s k p h A=>zl5 6 1 s k p h A) K J.1;have H:=zec h1 A (yq ((zfc h3).1));have:=I.2;exact⟨I.1,by simp;omega⟩
  ·cases h
theorem decl_any (C:PC)(w:World)(s:Sc)(dv:Value)(ds:List Dcl)(ptrs:List Nat)(E:Env C w s)(T:TrAt C w dv ptrs)(D:DvAt C w dv ds)(hd:ds.length<=701)(hat:ptrs.length<=s.at_) :
  Calls prog 159 #[.p C.pb] w (zb9 C w ds ptrs (zcv C.t s ptrs.length)):=by
 have key:∀ (x y:ByteArray),eqB x y=false->zk s x=true->zk s y=false:=by
  intro x y A hx;unfold zk at hx |-;simp only[yH]at hx;rw[hx.1,Bool.true_and];exact eqB_ne hx.2 A
 by_cases h1:zk s wVar=true
 ·exact decl_var C w s dv ds ptrs E T D hd h1 (key _ _ yd h1) (key _ _ yd h1)
 by_cases h2:zk s ze1=true
 ·exact zwp C w s dv ds ptrs E T D hd (by simpa using h1) h2 (key _ _ yd h2)
 by_cases h3:zk s zfl=true
 ·exact zwo C w s dv ds ptrs E T D hd hat (by simpa using h1) (by simpa using h2) h3
 refine zwq C w s ptrs _ E (by simpa using h1) (by simpa using h2) (by simpa using h3) ?_;rintro w' (⟨a,v,_,_,h,_⟩ | h)
 ·exact h.elim
 ·exact .inr h
def zci (w:World)(B tb:Nat)(ds:List Dcl)(xs:List Stm):Prop :=
 B<=tb/\∃ dv sv ptrs ps,Blk w tb 218 #[dv,sv]/\w.ownsRow B 398 1 sv ptrs.length (ptrs.map ptrV)/\za w B ptrs xs/\w.ownsRow B 223 7 dv ds.length (zdo ps ds)/\zaa w B ps ds
def zg8 {α : Type}(w:World)(r:Except Flt α)(K:α -> Nat->World->Prop)(e:Ending)(w':World):Prop :=
 (∃ a b,r=.ok a/\e=.r (.tuple #[.p b,.nilIface])/\K a b w'/\w.heap.size<=b/\Below w.heap.size w w') \/
 (∃ f b,r=.error f/\e=.r (.tuple #[.pointer none,.iface 206 (.p b)])/\zf w' b f/\w.heap.size<=b/\Below w.heap.size w w')
def zml (C:PC)(w0:World)(M:Except Flt (List Dcl×List Stm))(n:Nat)(wr:World):Prop :=
 ∃ (s:Sc) (dv:Value) (ds:List Dcl) (ptrs:List Nat) (xs:List Stm),Env C wr s/\TrAt C wr dv ptrs/\DvAt C wr dv ds/\za wr C.B ptrs xs/\Chg C.B [398,223] [C.sb,C.tb] w0 wr /\
  ds.length+ptrs.length<=s.at_/\C.t.size-s.at_<n/\M=zB (zb0 C.t n s ptrs.length) fun q=>.ok (ds++q.1,xs++q.2)
theorem zy9 {C:PC}{w0 wr:World}{M:Except Flt (List Dcl×List Stm)}{s:Sc}{dv:Value}{ptrs:List Nat}{p:(Dcl×List Stm)×Sc}{m:Nat}
  (E:Env C wr s) (T:TrAt C wr dv ptrs) (S:za wr C.B ptrs xs) (hc:Chg C.B [398,223] [C.sb,C.tb] w0 wr)
  (hB:C.B<=w0.heap.size) (hat:ds.length+ptrs.length<=s.at_) (hn:C.t.size-s.at_<n) (hm:n=m+1) (hM:M=zB (zb0 C.t n s ptrs.length) fun q=>.ok (ds++q.1,xs++q.2)) (hk:s.kind≠0) (hr:zcv C.t s ptrs.length=.ok p)
  (hd:DDone C wr ds ptrs p.1.2 p.1.1 p.2 w1) (hch:Chg C.B [398,223] [C.sb,C.tb] wr w1):zml C w0 M m w1:=by
 obtain⟨A,news,I,J,H,G⟩:=hd;subst hm;have L:=zqh hr E.at_;have hl:=G.length;obtain⟨tv,D,_⟩:=T;refine⟨p.2,A,ds++[p.1.1],ptrs++news,xs++p.1.2,I,J,H,?_,hc.trans hch,?_,?_,?_⟩
 ·refine za.append (S.vh hch yd yd yd ?_) (G.map (ya hB hc.size) fun b y _ _ h=>h.low (ya hB hc.size));intro g K;rcases(by simpa using K)with rfl | rfl
  ·exact⟨_,_,E.sc,by decide,by decide,by decide⟩
  ·exact⟨_,_,D,by decide,by decide,by decide⟩
 ·simp;omega
 ·omega
 ·rw[hM,zb0,yg hk,hr,zF,zhd,yx,hl];congr 1;funext q
  simp[zB]
theorem zm4 (h2:tmps[2]?.getD undef=.p pa)(h3:tmps[3]?.getD undef=.p pe)
  (ha:Blk w pa 203 #[x]) (he:Blk w pe 78 #[y]) (hne:pa≠pe)
  (hR:R (.r (.tuple #[.pointer none,.iface 206 (.p b)])) ((w.setCell (.a pa 0) (.pointer none)).setCell (.a pe 0) (.iface 206 (.p b)))) :
  Leaves prog Tryz.f109 tmps R [{ target:=.fn (.func 156) #[.p pa,.p pe],args:=#[] }] (.panicking (zd6 b)) w:=by
 refine leaves_cons (f:=156) (args:=#[.p pa,.p pe]) yy (by simp[go_sem]) ?_;refine(zwf pa pe b x y [] w ha he hne).mono ?_;rintro e u' D ⟨rfl,rfl,rfl⟩;have c1:=Blk.cell ((ha.qe 0 (.pointer none)).qi (p:=(.a pe 0)) hne (.iface 206 (.p b))) 0;have A:=Blk.cell ((he.qi (p:=(.a pa 0)) hne.symm (.pointer none)).qe 0 (.iface 206 (.p b))) 0;refine⟨_,?_,hR⟩;simp at c1 A;simp[results,results109,go_sem,h2,h3,c1,A]
theorem zw0 (h2:tmps[2]?.getD undef=.p pa)(h3:tmps[3]?.getD undef=.p pe)
  (ha:Blk w pa 203 #[x]) (he:Blk w pe 78 #[y]) (hR:R (.r (.tuple #[x,y])) w) :
  Leaves prog Tryz.f109 tmps R [{ target:=.fn (.func 156) #[.p pa,.p pe],args:=#[] }] .returning w:=by
 refine leaves_cons (f:=156) (args:=#[.p pa,.p pe]) yy (by simp[go_sem]) ?_;refine(zxr pa pe w).mono ?_;rintro e u' D ⟨rfl,rfl,rfl⟩;have c1:=ha.cell 0;have A:=he.cell 0;refine⟨_,?_,hR⟩;simp at c1 A;simp[results,results109,go_sem,h2,h3,c1,A]
theorem zjm (h2:tmps[2]?.getD undef=.p pa)(h3:tmps[3]?.getD undef=.p pe)
  (ha:Blk w pa 158 #[x]) (he:Blk w pe 78 #[y]) (hne:pa≠pe)
  (hR:R (.r (.tuple #[.pointer none,.iface 206 (.p b)])) ((w.setCell (.a pa 0) (.pointer none)).setCell (.a pe 0) (.iface 206 (.p b)))) :
  Leaves prog Tryz.f69 tmps R [{ target:=.fn (.func 110) #[.p pa,.p pe],args:=#[] }] (.panicking (zd6 b)) w:=by
 refine leaves_cons (f:=110) (args:=#[.p pa,.p pe]) yy (by simp[go_sem]) ?_;refine(zwe pa pe b x y [] w ha he hne).mono ?_;rintro e u' D ⟨rfl,rfl,rfl⟩;have c1:=Blk.cell ((ha.qe 0 (.pointer none)).qi (p:=(.a pe 0)) hne (.iface 206 (.p b))) 0;have A:=Blk.cell ((he.qi (p:=(.a pa 0)) hne.symm (.pointer none)).qe 0 (.iface 206 (.p b))) 0;refine⟨_,?_,hR⟩;simp at c1 A;simp[results,results69,go_sem,h2,h3,c1,A]
theorem zwz (h2:tmps[2]?.getD undef=.p pa)(h3:tmps[3]?.getD undef=.p pe)
  (ha:Blk w pa 158 #[x]) (he:Blk w pe 78 #[y]) (hR:R (.r (.tuple #[x,y])) w) :
  Leaves prog Tryz.f69 tmps R [{ target:=.fn (.func 110) #[.p pa,.p pe],args:=#[] }] .returning w:=by
 refine leaves_cons (f:=110) (args:=#[.p pa,.p pe]) yy (by simp[go_sem]) ?_;refine(zxq pa pe w).mono ?_;rintro e u' D ⟨rfl,rfl,rfl⟩;have c1:=ha.cell 0;have A:=he.cell 0;refine⟨_,?_,hR⟩;simp at c1 A;simp[results,results69,go_sem,h2,h3,c1,A]
attribute [local go_sem] zT
def zmk (w:World)(t:ByteArray):Ending->World->Prop:=zg8 w (zc1 t) fun a b w'=>zci w' w.heap.size b a.1 a.2
theorem zmz {α: Type}{M:Except Flt α}{K:α -> Nat->World->Prop}{f:Flt}{ta:TypeId}{xa ye:Array Value}{u:Value}(ha:Blk w1 pa ta xa)(hta:ta≠323)(he:Blk w1 pe 78 ye)
  (hM:M=.error f) (hf:zf w1 b f) (hb:w.heap.size<=b) (hpa:w.heap.size<=pa) (hpe:w.heap.size<=pe) (hc:Below w.heap.size w w1) :
  zg8 w M K (.r (.tuple #[.pointer none,.iface 206 (.p b)])) ((w1.setCell (.a pa 0) u).setCell (.a pe 0) v) :=
 .inr ⟨f,b,hM,rfl,(Blk.qi hf (p:=(.a pa 0)) (Blk.qs hf ha hta.symm) u).qi (p:=(.a pe 0)) (Blk.qs hf he yd) v,hb,(hc.setCell (by exact hpa) _).setCell (by exact hpe) _⟩
theorem zy7 (w:World)(t:ByteArray)(ht:700<t.size):Calls prog 109 #[.string t] w (zmk w t):=by
 have G:∀ (fn:Fn) (first cap:Array Value) (w:World),(Instr.makeFunc fn first cap).run prog w=.ok (.func fn first cap) w:=fun _ _ _ _=>rfl;have E:=zH (show zc1 t=.error ⟨1,0⟩ by unfold zc1;rw[yj ht]);have h7:decide ((700:Int)<(t.size:Int))=true:=by rw[decide_eq_true_iff];omega
 go_enter_defers func109,ntmps109
 go_wp2_with fail;refine(zd5 _ _ _).mono ?_;rintro e H ⟨rfl,rfl⟩;have A:=((Blk.newAt (w:=w) (t:=203) (cs:=#[.pointer none]) rfl).alloc (.k #[.nilIface] 78)).alloc (.k #[.i 1,.i 0] 323);have D:=(Blk.newAt (w:=w.alloc (.k #[.pointer none] 203)) (g:=w.heap.size+1) (t:=78) (cs:=#[.nilIface]) yy).alloc (.k #[.i 1,.i 0] 323);refine zm4 rfl rfl A D yo ?_;exact zmz A yd D E.o (zf.new yy) (by simp;omega) yo yo (((yB.alloc yL _).alloc yy _).alloc (by simp;omega) _)
def pcOf (w:World)(t:ByteArray):PC:={ B:=w.heap.size,pb:=w.heap.size+4,sb:=w.heap.size+2,tb:=w.heap.size+3,t:=t,rb:=w.heap.size }
structure PEnv (w:World)(t:ByteArray)(W:World):Prop where
 a:Blk W w.heap.size 203 #[.pointer none]
 e:Blk W (w.heap.size+1) 78 #[.nilIface]
 c:Below w.heap.size w W
theorem PEnv.vh {W W1:World}{t:ByteArray}(P:PEnv w t W)(hc:Chg w.heap.size ts [w.heap.size+2,w.heap.size+3] W W1)(h1:203 ∉ ts)(h2:78 ∉ ts):PEnv w t W1 :=
 ⟨P.a.vh hc h1 yy,P.e.vh hc h2 yy,P.c.trans (hc.below P.c.size)⟩
theorem zci.farT {B:Nat}{t:TypeId}{cs:Array Value}(h:zci w B tb ds xs)(hg:Blk w g t cs)(h1:t≠218)(h2:t≠398)(h3:t≠439)(h4:t≠220)(h5:t≠3)
  (h6:t≠223) (i:Nat) (u:Value):zci (w.setCell (.a g i) u) B tb ds xs:=by
 obtain⟨D,dv,sv,A,ps,a,b,c,d,e⟩:=h;exact⟨D,dv,sv,A,ps,a.qi (a.qs hg h1.symm) _,zL b hg h2.symm _ _,c.map yL (fun _ _ _ _ h=>h.farT hg h3 h4 h5 _ _),zL d hg h6.symm _ _,e.map (fun _ _ h=>zL h hg h4.symm _ _) (fun _ _ h=>zL h hg h5.symm _ _)⟩
theorem zy8 (w:World)(t:ByteArray)(ht:t.size<=700):Calls prog 109 #[.string t] w (zmk w t):=by
 have aj:∀ (fn:Fn) (first cap:Array Value) (w:World),(Instr.makeFunc fn first cap).run prog w=.ok (.func fn first cap) w:=fun _ _ _ _=>rfl;have S:=zH (show zc1 t=zB (zO t { at_:=0,kind:=0,tok:={},sign:=0 }) fun s=>zb0 t (t.size+1) s 0 by unfold zc1;rw[yg yo]);have h7:decide ((700:Int)<(t.size:Int))=false:=by rw[decide_eq_false_iff_not];omega
 have HT:=zH ht
 go_enter_defers func109,ntmps109
 clear ht;go_wp2_with fail;refine zK (fun W=>Env (pcOf w t) W { at_:=0,kind:=0,tok:={},sign:=0 }/\Blk W (w.heap.size+3) 218 #[.z,.z]/\PEnv w t W) ⟨⟨?_,?_,yD _,HT.o,by simp[pcOf],by simp[pcOf]⟩,?_,⟨?_,?_,?_⟩⟩ ?_
 ·exact Blk.newAt (by simp[pcOf])
 ·exact((Blk.newAt (by simp[pcOf])).alloc _).alloc _
 ·exact(Blk.newAt yy).alloc _
 ·exact((((Blk.newAt rfl).alloc _).alloc _).alloc _).alloc _
 ·exact(((Blk.newAt yy).alloc _).alloc _).alloc _
 ·exact((((yB.alloc yL _).alloc yy _).alloc (by simp;omega) _).alloc (by simp;omega) _).alloc (by simp;omega) _
 rintro w1 ⟨Y,a0,Z⟩;have a2:=zH Y;have a3:=zH a0;have K:=zH Z;clear Y a0 Z h7;refine(zau a2.o).mono ?_;rintro e w2 (⟨s,v,H,rfl,⟨rfl,G⟩,A⟩ | ⟨f,b,H,rfl,Q,R,A⟩);rotate_left
 ·have I:=K.o.vh (A.mono yy (by simp[pcOf])) (ts:=[]) yy yy;refine zm4 rfl rfl (I).a (I).e yo ?_;exact zmz (I).a yd (I).e (S.o.trans (by rw[show zO t _=_ from H,zbh])) Q (ya K.o.c.size R) yL yo (I).c
 have I:=zH (K.o.vh (A.mono yy (by simp[pcOf])) (ts:=[]) yy yy);have a4:=zH (show zc1 t=zb0 t (t.size+1) s 0 from S.o.trans (by rw[show zO t _=_ from H,zF]));have ST:=zH (show zml (pcOf w t) w2 (zc1 t) (t.size+1) w2 from⟨s,.z,[],[],[],G,⟨_,a3.o.vh A yy (by simp[pcOf]),yA _ _ _ _⟩,⟨[],yA _ _ _ _,trivial⟩,trivial,Chg.refl _ _ _ _,by simp,by simp[pcOf];omega,by rw[a4.o];show zb0 t _ s 0=zB (zb0 t _ s 0) _;cases zb0 t (t.size+1) s 0 <;> simp[zB]⟩)
 clear H G A;go_wp2_with fail;go_loopg [] (t.size+1) (fun n wr=>zml (pcOf w t) w2 (zc1 t) n wr)
 case atStart=>exact ST.o
 case round =>
  obtain⟨s2,dv,ds,E,xs,G,hT,hD,hS,A,a1,hn,hM⟩:=hrel;have J:ds.length<=701/\E.length<=s2.at_:=⟨by have h1:=G.at_;have h2:=G.tsz;omega,by omega⟩;have ao:∀ i,wr.cell? (.a (w.heap.size+1+1+1+1) i)=#[.p (w.heap.size+1+1),.p (w.heap.size+1+1+1)][i]? := G.p.cell;have ag:∀ i,wr.cell? (.a (w.heap.size+1+1) i)=#[.string t,.i s2.at_,.i s2.kind,.string s2.tok.text,.i s2.tok.at_,.bool s2.tok.num,.i s2.tok.n,.u s2.sign.toNat][i]? := Blk.cell G.sc;have an:w.heap.size+1+1+1+1<wr.heap.size:=G.p.lt;have D:=zH (I.o.vh (A.mono (fun _ h=>h) (by simp[pcOf])) yd yd);have HE:=zH G;have HD:=zH hD;have HS:=zH hS;have L:=zH hT;have HC:=zH A;have HM:=zH hM;have N:=zH hn;have HA:=zH a1;have HL:=zH J;have ak:=D.o.a.lt;have am:=D.o.e.lt;have ah:=D.o.a.frozen;have ai:=D.o.e.frozen;have ae:=D.o.a.cell;have af:=D.o.e.cell;clear G hT hD hS A a1 hn hM J;by_cases hk:s2.kind=0
  ·have k1:((s2.kind:Int) != 0)=false:=by rw[hk];rfl
   have a5:=zH (show zc1 t=.ok (ds,xs)from HM.o.trans (by
    obtain⟨m,hm⟩:∃ m,gk=m+1:=⟨gk-1,by have:=N.o;omega⟩;rw[hm,zb0,yj hk];simp[zB]))
   clear hk;go_wp2_with fail;have ab:=(D.o.a.qe 0 (.p (w.heap.size+1+1+1))).qi (p:=(.a (w.heap.size+1) 0)) yy .nilIface;have ac:=(D.o.e.qi (p:=(.a w.heap.size 0)) yy (.p (w.heap.size+1+1+1))).qe 0 .nilIface;refine zw0 rfl rfl ab ac ?_;obtain⟨sv,a9,aa⟩:=L.o;obtain⟨ps,a7,a8⟩:=HD.o;have TA:zci wr w.heap.size (w.heap.size+1+1+1) ds xs:=⟨by omega,dv,sv,E,ps,a9,aa,HS.o,a7,a8⟩;exact .inl ⟨(ds,xs),w.heap.size+1+1+1,a5.o,rfl,(TA.farT D.o.a yd yd yd yd yd yd _ _).farT (D.o.e.qi (p:=(.a w.heap.size 0)) yy _) yd yd yd yd yd yd _ _,by omega,
    (D.o.c.setCell (by exact yr _) _).setCell (by exact ya3 _) _⟩
  ·have k1:((s2.kind:Int) != 0)=true:=bne_iff_ne.2 yo;have HK:=zH hk;clear hk;go_wp2_with fail;refine(decl_any _ _ _ dv ds E HE.o L.o HD.o HL.o.1 HL.o.2).mono ?_;obtain⟨m,hm⟩:∃ m,gk=m+1:=⟨gk-1,by have:=N.o;omega⟩;rintro e w4 (⟨p,v,H,rfl,⟨rfl,O⟩,A⟩ | ⟨f,b,H,rfl,Q,R,A⟩);rotate_left
   ·have U:=D.o.vh (A.mono (fun _ h=>h) (by simp[pcOf])) yd yd;refine zm4 rfl rfl (U).a (U).e yo ?_;exact zmz (U).a yd (U).e (HM.o.trans (by rw[hm,zb0,yg HK.o,H,zbh,zbh])) Q (ya D.o.c.size R) yL yo (U).c
   have a6:=zH (zy9 HE.o L.o HS.o HC.o (by simp[pcOf];exact I.o.c.size) HA.o N.o hm HM.o HK.o H O A);have ad:=O.choose_spec.choose_spec.1.p.cell;clear H O A;go_wp2;go_roundg m
   case measure=>omega
   case rel=>exact a6.o
theorem zy6 (w:World)(t:ByteArray):Calls prog 109 #[.string t] w (zmk w t):=by
 by_cases ht:700<t.size
 ·exact zy7 w t ht
 ·exact zy8 w t yo
section
abbrev nenc:ByteArray->Value:=fun s=>Value.string s
abbrev nok:ByteArray->Prop:=fun s=>s.size<=maxLen
abbrev ienc:Nat->Value:=fun n=>Value.int .i64 (n:Int)
abbrev NM (w:World)(b:Nat)(m:NMap):Prop:=zG w b nenc nok ienc m
theorem nkey:zaw prog 9 nenc nok:=strKey underlying9
theorem zN {n:Nm}(h:okNm n):nok n.text:=by
 unfold okNm at h;show _<=maxLen;unfold maxLen;omega
def zdm (a:Ar):List Value:=[.bool a.c,.i a.n]
def arV (a:Ar):Value:=.agg #[.bool a.c,.i a.n]
def zV (i:In)(a:Value):List Value:=[.i i.op,.i i.place,.i i.fn,.i i.x,.bool i.y.c,.i i.y.n,.bool i.z.c,.i i.z.n,.i i.bin,.i i.var,.i i.site,.i i.call,a,.i i.to]
def zal (f:Fu):List Value:=[.string f.name,.i f.params,.i f.locals,.i f.from_,.i f.to]
def zfq (w:World)(B:Nat)(v:Value)(l:List Ar):Prop:=w.ownsRow B 306 2 v l.length (l.flatMap zdm)
def zbg (ags:List Value)(code:List In):List Value:=(List.zipWith (fun a i=>zV i a) ags code).flatten
structure LC where
 w0:World
 B0:Nat
 tb:Nat
 ds:List Dcl
 xs:List Stm
 lb:Nat
 pb:Nat
 vb:Nat
 mb:Nat
 fb:Nat
abbrev LC.B (C:LC):Nat:=C.w0.heap.size
structure LCok (C:LC):Prop where
 lb:C.B<=C.lb
 pb:C.B<=C.pb
 vb:C.B<=C.vb
 mb:C.B<=C.mb
 fb:C.B<=C.fb
 vm:C.vb≠C.mb
 vf:C.vb≠C.fb
 mf:C.mb≠C.fb
 tree:zci C.w0 C.B0 C.tb C.ds C.xs
 sp:zao (fun j=>C.xs[j]?) C.ds 0 C.xs.length
 xl:C.xs.length<=700
 dl:C.ds.length<=700
structure LV where
 lm:Option Nat
 fsv:Value
 cv:Value
 av:Value
 nv:Value
 gv:Value
 ags:List Value
def Sep (u v:Value):Prop:=∀ k,u.ownBlock=some k->v.ownBlock≠some k
theorem Sep.symm {u:Value}(h:Sep u v):Sep v u:=fun k h1 h2=>h k h2 h1
def zag (l:List Nat):List Value:=l.map ienc
structure LI (s:Lo):Prop where
 fl:s.fs.length=s.qm.length
 f5:s.qm.length<=5
 al:s.at_.length<=48
 nl:s.news.length<=6
 gl:s.qg.length<=5
 fok:∀ p ∈ s.qm,p.2<s.fs.length
structure LE (C:LC)(w:World)(s:Lo)(V:LV):Prop where
 c:LCok C
 qk:Below C.B C.w0 w
 l:Blk w C.lb 214 #[.p C.pb,.p C.tb,.m C.vb,.m C.mb,.m C.fb,.map V.lm,.i s.fn]
 p:Blk w C.pb 211 #[.p C.tb,.i s.nv,.i s.nm,V.fsv,V.cv,V.av,V.nv,V.gv,.i 0]
 vm:NM w C.vb s.vars
 mm:NM w C.mb s.qu
 fm:NM w C.fb s.qm
 lm:∀ b,V.lm=some b->NM w b s.qc/\C.B<=b/\b≠C.vb/\b≠C.mb/\b≠C.fb
 fr:w.ownsRow C.B 228 5 V.fsv s.fs.length (s.fs.flatMap zal)
 cr:w.ownsRow C.B 309 14 V.cv s.code.length (zbg V.ags s.code)
 asl:V.ags.length=s.code.length
 ar:∀ (k:Nat) a i,V.ags[k]?=some a->s.code[k]?=some i->zfq w C.B a i.args
 atr:w.ownsRow C.B 3 1 V.av s.at_.length (zag s.at_)
 nr:w.ownsRow C.B 3 1 V.nv s.news.length (zag s.news)
 gr:w.ownsRow C.B 3 1 V.gv s.qg.length (zag s.qg)
 s1:Sep V.av V.nv
 s2:Sep V.av V.gv
 s3:Sep V.nv V.gv
 i:LI s
def Uses (C:LC)(V:LV)(k:Nat):Prop :=
 k<C.B\/k=C.lb\/k=C.pb\/k=C.vb\/k=C.mb\/k=C.fb\/V.lm=some k\/V.fsv.ownBlock=some k\/V.cv.ownBlock=some k\/V.av.ownBlock=some k\/V.nv.ownBlock=some k\/V.gv.ownBlock=some k\/∃ a ∈ V.ags,a.ownBlock=some k
theorem zn {w w1:World}{B:Nat}{e:TypeId}{size:Nat}{xs:List Value}(h:w.ownsRow B e size v n xs)(hk:∀ k,v.ownBlock=some k->w1.heap[k]? = w.heap[k]?):w1.ownsRow B e size v n xs:=by
 obtain⟨h1,h2⟩:=h;refine⟨h1,?_⟩;rcases h2 with h2 | ⟨g,cap,A,hv,D,E,r⟩
 ·exact .inl h2
 ·subst hv;exact .inr ⟨g,cap,A,rfl,D,(hk g rfl).trans E,r⟩
section
variable {C:LC} {w w1:World} {s:Lo} {V:LV}
theorem LE.lt (h:LE C w s V)(hu:Uses C V k):k<w.heap.size:=by
 have E:C.B<=w.heap.size:=h.qk.size;rcases hu with hu | rfl | rfl | rfl | rfl | rfl | hu | hu | hu | hu | hu | hu | ⟨a,D,hu⟩
 ·omega
 ·exact h.l.lt
 ·exact h.p.lt
 ·exact h.vm.lt
 ·exact h.mm.lt
 ·exact h.fm.lt
 ·exact(h.lm k hu).1.lt
 ·exact(h.fr.lt k hu).2
 ·exact(h.cr.lt k hu).2
 ·exact(h.atr.lt k hu).2
 ·exact(h.nr.lt k hu).2
 ·exact(h.gr.lt k hu).2
 ·obtain⟨j,A⟩:=List.getElem?_of_mem D;have hl:j<s.code.length:=by rw[<- h.asl];exact(yh.1 A).1
  exact((h.ar j a _ A (yc hl)).lt k hu).2
theorem LE.fresh (h:LE C w s V)(hk:w.heap.size<=k):¬ Uses C V k:=fun hu=>by have:=h.lt hu;omega
theorem LE.same (h:LE C w s V)(hb:Below C.B C.w0 w1)(hk:∀ k,Uses C V k->C.B<=k->w1.heap[k]? = w.heap[k]?):LE C w1 s V:=by
 have A:=h.c;exact⟨A,hb,(hk _ (.inr (.inl rfl)) A.lb).trans h.l,(hk _ (r2 (.inl rfl)) A.pb).trans h.p,
  h.vm.qa (hk _ (r3 (.inl rfl)) A.vb),h.mm.qa (hk _ (r4 (.inl rfl)) A.mb),h.fm.qa (hk _ (r5 (.inl rfl)) A.fb),
  fun b hb=>⟨(h.lm b hb).1.qa (hk _ (r6 (.inl hb)) (h.lm b hb).2.1),(h.lm b hb).2⟩,
  zn h.fr fun k e=>hk k (r7 (.inl e)) (h.fr.lt k e).1,
  zn h.cr fun k e=>hk k (r8 (.inl e)) (h.cr.lt k e).1,h.asl,
  fun j a i D hi=>zn (h.ar j a i D hi) fun k e=>hk k (.inr (.inr (.inr (.inr (.inr (.inr (.inr (.inr (.inr (.inr (.inr (.inr ⟨a,yl D,e⟩)))))))))))) ((h.ar j a i D hi).lt k e).1,
  zn h.atr fun k e=>hk k (r9 (.inl e)) (h.atr.lt k e).1,
  zn h.nr fun k e=>hk k (.inr (.inr (.inr (.inr (.inr (.inr (.inr (.inr (.inr (.inr (.inl e))))))))))) (h.nr.lt k e).1,
  zn h.gr fun k e=>hk k (.inr (.inr (.inr (.inr (.inr (.inr (.inr (.inr (.inr (.inr (.inr (.inl e)))))))))))) (h.gr.lt k e).1,h.s1,h.s2,h.s3,h.i⟩
theorem LE.alloc (h:LE C w s V)(o:Obj):LE C (w.alloc o) s V :=
 h.same (h.qk.alloc h.qk.size _) fun k hu _=>yak w o k (h.lt hu)
theorem LE.drewN (h:LE C w s V)(n:Nat):LE C (w.drewN n) s V:=h.same ⟨h.qk.os,h.qk.tape,h.qk.output,h.qk.size,h.qk.block⟩ fun _ _ _=>rfl
theorem LE.drew (h:LE C w s V):LE C w.drew s V:=h.same ⟨h.qk.os,h.qk.tape,h.qk.output,h.qk.size,h.qk.block⟩ fun _ _ _=>rfl
theorem LE.qi (h:LE C w s V){p:Addr}(hp:¬ Uses C V p.block)(u:Value):LE C (w.setCell p u) s V :=
 h.same (h.qk.setCell (by
  rcases yF p.block C.B with hl | hl
  ·exact(hp (.inl hl)).elim
  ·exact hl) u) fun k hu _=>yt w p u k (by rintro rfl;exact hp hu)
theorem LE.vh (h:LE C w s V)(hc:Chg C.B ts bs w w1)(hk:∀ k,Uses C V k->k ∉ bs)(ht:ts=[]:=by rfl):LE C w1 s V:=by
 subst ht;refine h.same (h.qk.trans (hc.below h.qk.size)) fun k hu _=>?_;have hl:=h.lt hu;have e:w.heap[k]?=some w.heap[k]:=ycv hl;rw[e];exact hc.block k _ e (.inr ⟨by simp,hk k hu⟩)
theorem LE.cells (h:LE C w s V):(∀ i,w.cell? (.a C.lb i)=#[.p C.pb,.p C.tb,.m C.vb,.m C.mb,.m C.fb,.map V.lm,.i s.fn][i]?) /\
  (∀ i,w.cell? (.a C.pb i)=#[.p C.tb,.i s.nv,.i s.nm,V.fsv,V.cv,V.av,V.nv,V.gv,.i 0][i]?)/\(∀ i,w.frozen? (.a C.lb i)=false)/\(∀ i,w.frozen? (.a C.pb i)=false)/\C.lb<w.heap.size/\C.pb<w.heap.size/\C.lb≠C.pb :=
 ⟨h.l.cell,h.p.cell,h.l.frozen,h.p.frozen,h.l.lt,h.p.lt,h.l.qs h.p yd⟩
end
def zap {α : Type}(C:LC)(w:World)(r:Except Flt α)(K:α -> Value->World->Prop)(e:Ending)(w':World):Prop :=
 (∃ a v,r=.ok a/\e=.r v/\K a v w') \/
 (∃ f b,r=.error f/\e=.panicked (zd6 b)/\zf w' b f/\w.heap.size<=b/\Below C.B w w')
theorem zap.fault {α: Type}{C:LC}{w w1:World}{r:Except Flt α}{K:α -> Value->World->Prop}{f:Flt}(hM:r=.error f)(hf:zf w1 b f)(hb:w.heap.size<=b)(hc:Below C.B w w1):zap C w r K (.panicked (zd6 b)) w1 :=
 .inr ⟨f,b,hM,rfl,hf,hb,hc⟩
theorem zb4 (k p:Int)(w:World):Calls prog 115 #[.i k,.i p] w fun e w' =>
  e=.panicked (zd6 w.heap.size)/\w.alloc (.k #[.i k,.i p] 323)=w':=by
 go_enter func115,ntmps115;go_wp2;exact⟨rfl,rfl,rfl⟩
theorem zho {w:World}{m:NMap}(h:NM w b m){x:ByteArray}(hx:nok x) :
  (Instr.lookup 212 (.m b) (.string x) true).run prog w=.ok (match mget m x with | some u=>.tuple #[.i u,.bool true] | none=>.tuple #[.i 0,.bool false]) w:=by
 have:=h.lookup (t:=212) (e:=3) nkey underlying212 (z:=.i 0) (zeroValue3 w) hx true;rw[this];cases mget m x <;> rfl
end
def za1 (m:NMap)(x:ByteArray):Int:=match mget m x with | some k=>(k:Int) | none=>-1
theorem xn (w:World)(b:Nat)(m:NMap)(x:ByteArray)(hm:NM w b m)(hx:nok x) :
  Calls prog 114 #[.m b,.string x] w fun e w'=>e=.r (.i (za1 m x))/\w=w':=by
 have hl:=zho hm hx;unfold za1;cases hg:mget m x
 all_goals
  rw[hg]at hl;simp only at hl;clear hm hg;go_enter func114,ntmps114;go_wp2;go_ret;exact⟨rfl,rfl⟩
def noneOf (s:Lo)(x:ByteArray)(k:Nat):Prop:=(0<k->mget s.vars x=none)/\(1<k->mget s.qu x=none)/\(2<k->mget s.qm x=none)
def KnownRel (s:Lo)(x:ByteArray)(n:Nat)(i:Value):Prop:=∃ k:Nat,n=3-k/\k<=3/\i=.i k/\noneOf s x k
theorem zet (C:LC)(w:World)(s:Lo)(V:LV)(x:ByteArray)(h:LE C w s V)(hx:nok x) :
  Calls prog 160 #[.p C.lb,.string x] w fun e w'=>e=.r (.bool (s.known x))/\LE C w' s V/\Chg 0 [] [] w w':=by
 obtain⟨hl,R,E,G,Q,I,J⟩:=h.cells;have H:=zH h;clear h R E G I J;go_enter func160,ntmps160;go_wp2_with fail;go_region;go_wp2_with fail;refine xh (fun W=>LE C W s V/\Blk W w.heap.size 212 #[.m C.vb,.m C.mb,.m C.fb]/\Chg 0 [] [] w W) ⟨(H.o.drew).alloc _,Blk.newAt rfl,((Chg.refl _ _ _ _).drew).alloc _⟩ ?_;rintro W ⟨L,hb,K⟩;have N:=hb.cell;have HL:=zH L;have HC:=zH K;clear L hb K hl;go_loopg [23] 3 (fun n i wr=>KnownRel s x n i/\wr=W)
 case atStart=>exact⟨⟨0,rfl,by omega,rfl,by simp[noneOf]⟩,rfl⟩
 case round =>
  obtain⟨⟨k,S,O,rfl,hn⟩,rfl⟩:=hrel;have A:=zH hn;clear hn;by_cases k0:k=0
  ·subst k0;have hlk:=zho (HL.o.vm) hx;cases hg:mget s.vars x
   ·rw[hg]at hlk;simp only at hlk;have D:=zH hg;clear hg;go_wp2;go_roundg (3-1)
    case measure=>omega
    case rel=>exact⟨⟨1,rfl,by omega,rfl,⟨fun _=>by first | exact D.o | exact A.o.1 yo,fun _=>by first | exact D.o | exact A.o.2.1 yo | omega,fun _=>by first | exact D.o | exact A.o.2.2 yo | omega⟩⟩,rfl⟩
   ·exact mKb
  by_cases k1:k=1
  ·subst k1;have hlk:=zho (HL.o.mm) hx;cases hg:mget s.qu x
   ·rw[hg]at hlk;simp only at hlk;have D:=zH hg;clear hg;go_wp2;go_roundg (3-2)
    case measure=>omega
    case rel=>exact⟨⟨2,rfl,by omega,rfl,⟨fun _=>by first | exact D.o | exact A.o.1 yo,fun _=>by first | exact D.o | exact A.o.2.1 yo | omega,fun _=>by first | exact D.o | exact A.o.2.2 yo | omega⟩⟩,rfl⟩
   ·exact mKb
  by_cases k2:k=2
  ·subst k2;have hlk:=zho (HL.o.fm) hx;cases hg:mget s.qm x
   ·rw[hg]at hlk;simp only at hlk;have D:=zH hg;clear hg;go_wp2;go_roundg (3-3)
    case measure=>omega
    case rel=>exact⟨⟨3,rfl,by omega,rfl,⟨fun _=>by first | exact D.o | exact A.o.1 yo,fun _=>by first | exact D.o | exact A.o.2.1 yo | omega,fun _=>by first | exact D.o | exact A.o.2.2 yo | omega⟩⟩,rfl⟩
   ·exact mKb
  obtain rfl:k=3:=yo;have HK:=zH (show s.known x=false by unfold Lo.known;rw[A.o.1 yo,A.o.2.1 yo,A.o.2.2 yo];rfl);go_wp2;go_ret;exact⟨zce HK.o.symm,HL.o,HC.o⟩
attribute [local go_sem] zT
def zh4 (C:LC)(w:World)(V:LV)(b:Nat)(M:Except Flt (Nat×Lo)):Ending->World->Prop :=
 zap C w M fun p v w'=>v=.i p.1/\LE C w' p.2 V/\Chg C.B [] [b] w w'
theorem Chg.any {B:Nat}(h:Chg B' ts [] w w1)(ht:ts=[]:=by rfl):Chg B [] bs w w1:=by
 subst ht;exact⟨h.os,h.tape,h.output,h.size,fun k o A _=>h.block k o A (.inr ⟨by simp,by simp⟩)⟩
theorem LE.qc {C:LC}{V:LV}{m:NMap}(h:LE C w s V)(hV:V.lm=some b)(hm:NM w1 b m)(hg:w.grownBy w1 (some b)):LE C w1 { s with qc:=m } V:=by
 have hb:=(h.lm b hV).2;have G:Below C.B C.w0 w1:=h.qk.grown hg h.qk.size (fun k e=>by cases e;exact hb.1);have H:∀ k,Uses C V k->k≠b->w1.heap[k]? = w.heap[k]? := fun k hu J=>hg.block k (h.lt hu) (by intro e;injection e with e;exact J e);have D:∀ {g:Nat} {t:TypeId} {cs:Array Value},Blk w g t cs->g≠b:=fun O e=>zG.qf (h.lm b hV).1 O e.symm;have A:∀ {e size n:Nat} {v:Value} {L:List Value},w.ownsRow C.B e size v n L->w1.ownsRow C.B e size v n L:=by
  intro e size n v L K;refine zn K fun k e=>hg.block k (K.lt k e).2 ?_;intro e';injection e' with e';subst e';rcases K.2 with⟨rfl,_⟩ | ⟨g,cap,I,rfl,_,Q,_⟩
  ·simp[Value.ownBlock]at e
  ·have:g=k:=by simpa [Value.ownBlock] using e
   subst this;exact D (cs:=I) Q rfl
 exact⟨h.c,G,(H _ (.inr (.inl rfl)) (D h.l)).trans h.l,(H _ (r2 (.inl rfl)) (D h.p)).trans h.p,
  h.vm.qa (H _ (r3 (.inl rfl)) hb.2.1.symm),h.mm.qa (H _ (r4 (.inl rfl)) hb.2.2.1.symm),h.fm.qa (H _ (r5 (.inl rfl)) hb.2.2.2.symm),
  fun b' E=>by
   rw[hV]at E;injection E with E;subst E;exact⟨hm,hb⟩,
  A h.fr,A h.cr,h.asl,fun j a i N hi=>A (h.ar j a i N hi),A h.atr,A h.nr,A h.gr,h.s1,h.s2,h.s3,⟨h.i.fl,h.i.f5,h.i.al,h.i.nl,h.i.gl,h.i.fok⟩⟩
theorem zx9 (C:LC)(w:World)(s:Lo)(V:LV)(n:Nm)(b:Nat)(hV:V.lm=some b)(h:LE C w s V)(hx:nok n.text)(h1:s.known n.text=true) :
  Calls prog 297 #[.p C.lb,zT n] w (zh4 C w V b (xr s n)):=by
 have O:=zH h1;have Q:=zH (show xr s n=.error ⟨9,n.at_⟩ by unfold xr;rw[yj h1]);clear h1;obtain⟨hl,W,J,K,G,L,N⟩:=h.cells;have H:=zH h;have R:=zH hx;clear h hx W J K L N hl G;go_enter func297,ntmps297;go_wp2_with fail;refine(zet C _ s V n.text (H.o.alloc _) R.o).mono ?_;rintro e w1 ⟨rfl,E,D⟩;rw[O.o];have A:=(Blk.newAt (w:=w) (t:=220) (cs:=#[.string n.text,.i n.at_,.bool n.num,.i n.n]) rfl).vh D yy yy;have I:=zH (((Chg.refl 0 [] [] w).alloc _).trans D);obtain⟨hl,_,_,_,G,_⟩:=E.cells;rw[hV]at hl;have S:=A.cell;have U:=A.lt;have Z:=zH E;have Y:=zH A;clear E D A;go_wp2_with fail;refine(zb4 _ _ _).mono ?_;rintro e w4 ⟨rfl,rfl⟩;exact⟨rfl,.fault Q.o (zf.new rfl) I.o.size (((Chg.any (B:=C.B) (bs:=[]) I.o).below H.o.qk.size).alloc (ya H.o.qk.size I.o.size) _)⟩
theorem zx8 (C:LC)(w:World)(s:Lo)(V:LV)(n:Nm)(b:Nat)(hV:V.lm=some b)(h:LE C w s V)(hx:nok n.text)(h1:s.known n.text=false)(k:Nat)(h2:mget s.qc n.text=some k) :
  Calls prog 297 #[.p C.lb,zT n] w (zh4 C w V b (xr s n)):=by
 have W:=zH h1;have Y:=zH (show xr s n=.ok (k,s) by unfold xr;rw[yg (by rw[h1];simp),h2]);have S:=zH h2;clear h1 h2;obtain⟨hl,hp,J,K,I,L,N⟩:=h.cells;have H:=zH h;have Q:=zH hx;clear h hx hp J K L N hl I;go_enter func297,ntmps297;go_wp2_with fail;refine(zet C _ s V n.text (H.o.alloc _) Q.o).mono ?_;rintro e R ⟨rfl,E,D⟩;rw[W.o];have A:=(Blk.newAt (w:=w) (t:=220) (cs:=#[.string n.text,.i n.at_,.bool n.num,.i n.n]) rfl).vh D yy yy;have U:=zH (((Chg.refl 0 [] [] w).alloc _).trans D);obtain⟨hl,_,_,_,I,_⟩:=E.cells;rw[hV]at hl;have Z:=A.cell;have a0:=A.lt;have O:=zH E;have HB:=zH A;clear E D A;go_wp2_with fail;have G:∀ m,(Instr.lookup 212 (.m b) (.string n.text) true).run prog (R.drewN m)=.ok (.tuple #[.i k,.bool true]) (R.drewN m):=by
  intro m;have:=zho (((O.o.drewN m).lm b hV).1) Q.o;rw[S.o]at this;exact this
 go_quiet (fail);clear G;go_wp2;go_ret;exact .inl ⟨(k,s),_,Y.o,rfl,rfl,O.o.drewN _,(Chg.any U.o).drewN _⟩
theorem zx6 (C:LC)(w:World)(s:Lo)(V:LV)(n:Nm)(b:Nat)(hV:V.lm=some b)(h:LE C w s V)(hx:nok n.text)(h1:s.known n.text=false)(h2:mget s.qc n.text=none)(h3:s.qc.length=6) :
  Calls prog 297 #[.p C.lb,zT n] w (zh4 C w V b (xr s n)):=by
 have Z:=zH h1;have HM:=zH (show xr s n=.error ⟨8,n.at_⟩ by unfold xr;rw[yg (by rw[h1];simp),h2];simp only;rw[yj h3]);have W:=zH h2;have Y:=zH h3;clear h1 h2 h3;obtain⟨hl,hp,L,N,I,O,Q⟩:=h.cells;have H:=zH h;have S:=zH hx;clear h hx hp L N O Q hl I;go_enter func297,ntmps297;go_wp2_with fail;refine(zet C _ s V n.text (H.o.alloc _) S.o).mono ?_;rintro e J ⟨rfl,E,D⟩;rw[Z.o];have A:=(Blk.newAt (w:=w) (t:=220) (cs:=#[.string n.text,.i n.at_,.bool n.num,.i n.n]) rfl).vh D yy yy;have K:=zH (((Chg.refl 0 [] [] w).alloc _).trans D);obtain⟨hl,_,_,_,I,_⟩:=E.cells;rw[hV]at hl;have a0:=A.cell;have a1:=A.lt;have R:=zH E;have HB:=zH A;clear E D A;go_wp2_with fail;have G:∀ m,(Instr.lookup 212 (.m b) (.string n.text) true).run prog (J.drewN m)=.ok (.tuple #[.i 0,.bool false]) (J.drewN m):=by
  intro m;have:=zho (((R.o.drewN m).lm b hV).1) S.o;rw[W.o]at this;exact this
 have U:∀ m,(Builtin.len_ #[212] 3 #[.m b]).run prog (J.drewN m)=.ok (.i 6) (J.drewN m):=by
  intro m;have:=(((R.o.drewN m).lm b hV).1).len (t:=212) (e:=3) (k:=9) underlying212 3;rw[Y.o]at this;exact this
 go_quiet (fail);clear G;go_wp2_with fail;refine(zb4 _ _ _).mono ?_;rintro e w4 ⟨rfl,rfl⟩;exact⟨rfl,.fault HM.o (zf.new rfl) K.o.size (((Chg.any (B:=C.B) (bs:=[]) (K.o.drewN _)).below H.o.qk.size).alloc (ya H.o.qk.size K.o.size) _)⟩
theorem zx7 (C:LC)(w:World)(s:Lo)(V:LV)(n:Nm)(b:Nat)(hV:V.lm=some b)(h:LE C w s V)(hx:nok n.text)(h1:s.known n.text=false)(h2:mget s.qc n.text=none)(h3:s.qc.length≠6) :
  Calls prog 297 #[.p C.lb,zT n] w (zh4 C w V b (xr s n)):=by
 have HK:=zH h1;have HM:=zH (show xr s n=.ok (s.qc.length,{ s with qc:=mput s.qc n.text s.qc.length }) by unfold xr;rw[yg (by rw[h1];simp),h2];simp only;rw[yg h3]);have H2:=zH h2;have h6:((s.qc.length:Int)==6)=false:=zI yo;clear h1 h2 h3;obtain⟨hl,hp,a0,a1,A,a2,a3⟩:=h.cells;have H:=zH h;have Y:=zH hx;clear h hx hp a0 a1 a2 a3 hl A;go_enter func297,ntmps297;go_wp2_with fail;refine(zet C _ s V n.text (H.o.alloc _) Y.o).mono ?_;rintro e R ⟨rfl,I,G⟩;rw[HK.o];have D:=(Blk.newAt (w:=w) (t:=220) (cs:=#[.string n.text,.i n.at_,.bool n.num,.i n.n]) rfl).vh G yy yy;have HC:=zH (((Chg.refl 0 [] [] w).alloc _).trans G);obtain⟨hl,_,_,_,A,_⟩:=I.cells;rw[hV]at hl;have J:=D.cell;have K:=D.lt;have U:=zH I;have HB:=zH D;clear I G D;go_wp2_with fail;have N:∀ m,(Instr.lookup 212 (.m b) (.string n.text) true).run prog (R.drewN m)=.ok (.tuple #[.i 0,.bool false]) (R.drewN m):=by
  intro m;have:=zho (((U.o.drewN m).lm b hV).1) Y.o;rw[H2.o]at this;exact this
 have O:∀ m,(Builtin.len_ #[212] 3 #[.m b]).run prog (R.drewN m)=.ok (.i s.qc.length) (R.drewN m):=fun m =>
  (((U.o.drewN m).lm b hV).1).len (t:=212) (e:=3) (k:=9) underlying212 3
 go_quiet (fail);clear N;go_wp2_with fail;refine xh (fun W=>LE C W s V/\Blk W w.heap.size 220 #[.string n.text,.i n.at_,.bool n.num,.i n.n]/\Chg C.B [] [b] w W) ⟨U.o.drewN _,HB.o.drewN _,(Chg.any HC.o).drewN _⟩ ?_;rintro W ⟨hL,Z,hC⟩;clear hl A J K O;obtain⟨hl,_,_,_,A,_⟩:=hL.cells;rw[hV]at hl;have J:=Z.cell;have K:=Z.lt;have E:=zH hL;have S:=zH hC;clear hL Z hC;go_still_tail 7,yk
 change wpList _ _ _ _ _ W.drew
 refine z1l rfl _ _ _ _ _ _ rfl nkey underlying212 b n.text s.qc.length W.drew s.qc ((E.o.drew).lm b hV).1 rfl rfl rfl Y.o ?_;intro w2 Q L a4;have HF:=zH (show zh4 C w V b (xr s n) (.r (.i s.qc.length)) w2 from .inl ⟨_,_,HM.o,rfl,rfl,(E.o.drew).qc hV Q L,S.o.drew.grown L (fun k e=>by
  injection e with e;subst e;exact .inr ⟨(E.o.lm b hV).2.1,.inl yy⟩)⟩)
 clear Q L a4 hl A J K;go_wp2;go_ret;exact HF.o
theorem zgr (C:LC)(w:World)(s:Lo)(V:LV)(n:Nm)(b:Nat)(hV:V.lm=some b)(h:LE C w s V)(hx:nok n.text) :
  Calls prog 297 #[.p C.lb,zT n] w (zh4 C w V b (xr s n)):=by
 cases h1:s.known n.text
 ·cases h2:mget s.qc n.text with
  | some k=>exact zx8 C w s V n b hV h hx h1 k h2
  | none =>
   by_cases h3:s.qc.length=6
   ·exact zx6 C w s V n b hV h hx h1 h2 h3
   ·exact zx7 C w s V n b hV h hx h1 h2 h3
 ·exact zx9 C w s V n b hV h hx h1
def zma (C:LC)(w:World)(V:LV)(b:Nat)(M:Except Flt (Ar×Lo)):Ending->World->Prop :=
 zap C w M fun p v w'=>v=arV p.1/\LE C w' p.2 V/\Chg C.B [] [b] w w'
theorem zcu (C:LC)(w:World)(s:Lo)(V:LV)(n:Nm)(b:Nat)(hV:V.lm=some b)(h:LE C w s V)(hx:nok n.text) :
  Calls prog 296 #[.p C.lb,zT n] w (zma C w V b (argM s n)):=by
 have H:=zH h;cases hn:n.num
 ·have E:=zH (show argM s n=zB (xr s n) fun p=>.ok ({ n:=p.1 },p.2) by unfold argM;rw[yg (by rw[hn];simp)]);go_enter func296,ntmps296;clear h;go_wp2_with fail;rw[show(Value.agg #[.string n.text,.i n.at_,.bool false,.i n.n])=zT n by unfold zT;rw[hn]];refine(zgr C _ s V n b hV ((H.o.alloc _).alloc _) hx).mono ?_;have O:=(H.o.lm b hV).1.lt;rintro e R (⟨p,v,G,rfl,rfl,N,A⟩ | ⟨f,g,G,rfl,K,L,A⟩)
  ·have D:=(Blk.newAt (w:=w.alloc (.k #[.string n.text,.i n.at_,.bool false,.i n.n] 220)) (g:=w.heap.size+1) (t:=306) (cs:=#[.bool false,.i 0]) yy).vh A yy (by simp;omega);have J:=D.cell;have Q:=D.frozen;have I:=zH (show zma C w V b (argM s n) (.r (arV { n:=p.1 })) ((R.setCell (.a (w.heap.size+1) 0) (.bool false)).setCell (.a (w.heap.size+1) 1) (.i p.1))from
    .inl ⟨({ n:=p.1 },p.2),_,E.o.trans (by rw[G];rfl),rfl,rfl,(N.qi (H.o.fresh (ya3 _) ∘ id) _).qi (H.o.fresh (ya3 _) ∘ id) _,(((((Chg.refl C.B [] [b] w).alloc _).alloc _).trans A).vi (ya3 _) _).vi (ya3 _) _⟩)
   clear G N A D;go_wp2_with fail;refine bodyPost_end (v:=arV { n:=p.1 }) (by simp[results,results296,go_sem,arV,J]) rfl I.o
  ·exact⟨rfl,.fault (E.o.trans (by rw[G];rfl)) K (by simp at L;omega) (((yB.alloc H.o.qk.size _).alloc (by have:=H.o.qk.size;simp;omega) _).trans A)⟩
 ·have E:=zH (show argM s n=.ok ({ c:=true,n:=n.n },s) by unfold argM;rw[yj hn]);have I:=zH (show ∀ W,LE C W s V->Chg C.B [] [b] w W->zma C w V b (argM s n) (.r (arV { c:=true,n:=n.n })) W from fun W h1 h2=>.inl ⟨_,_,E.o,rfl,rfl,h1,h2⟩);go_enter func296,ntmps296;clear h;go_wp2_with fail;refine bodyPost_end (v:=arV { c:=true,n:=n.n }) (by simp[results,results296,go_sem,arV]) rfl (I.o _ ?_ ?_)
  ·first | exact(H.o.alloc _).alloc _ | trace_state
  ·first | exact((Chg.refl _ _ _ _).alloc _).alloc _ | trace_state
attribute [local go_sem] zT
theorem info_ins:(prog.info? 309).map (fun i=>(i.zero,i.size,i.bytes))=some (some (.agg #[.i 0,.i 0,.i 0,.i 0,.bool false,.i 0,.bool false,.i 0,.i 0,.i 0,.i 0,.i 0,.z,.i 0]),14,128):=yk
theorem tyIns:zj prog 209 309 14 128:=zj.mk' underlying209 info_ins rfl yo yo
theorem info_fu:(prog.info? 228).map (fun i=>(i.zero,i.size,i.bytes))=some (some (.agg #[.string ByteArray.empty,.i 0,.i 0,.i 0,.i 0]),5,48):=yk
theorem tyFu:zj prog 208 228 5 48:=zj.mk' underlying208 info_fu rfl yo yo
theorem info_ar:(prog.info? 306).map (fun i=>(i.zero,i.size,i.bytes))=some (some (.agg #[.bool false,.i 0]),2,16):=yk
theorem tyAr:zj prog 307 306 2 16:=zj.mk' underlying307 info_ar rfl yo yo
def insV (i:In)(a:Value):Value:=.agg (zV i a).toArray
theorem zwk {ags:List Value}{code:List In}(h:ags.length=code.length)(a:Value)(i:In):zbg (ags++[a]) (code++[i])=zbg ags code++zV i a:=by
 unfold zbg;rw[List.zipWith_append (h:=h)];simp
theorem zr {B e size:Nat}(h:w.ownsRow B e size v n ys)(hk:v.ownBlock=some k):∃ cs,Blk w k e cs:=by
 rcases h.2 with⟨rfl,_⟩ | ⟨g,cap,A,rfl,_,D,_⟩
 ·simp[Value.ownBlock]at hk
 ·have:g=k:=by simpa [Value.ownBlock] using hk
  subst this;exact⟨_,D⟩
theorem ztd {B e e' size size' n' k':Nat}{v':Value}{ys':List Value}(h:w.ownsRow B e size v n ys)(h':w.ownsRow B' e' size' v' n' ys')(hne:e≠e')(hk:v.ownBlock=some k)(hk':v'.ownBlock=some k'):k≠k':=by
 obtain⟨cs,h1⟩:=zr h hk;obtain⟨cs',h2⟩:=zr h' hk';exact h1.qs h2 hne
theorem LE.grown {C:LC}{w3:World}{V:LV}{t size:Nat}(h:LE C w s V)(hown:w.ownsRow C.B t size v n ys)
  (hk:∀ k,k<w.heap.size->k≠C.pb->some k≠v.ownBlock->w3.heap[k]? = w.heap[k]?) (hl:t≠214) :
  (Blk w3 C.lb 214 #[.p C.pb,.p C.tb,.m C.vb,.m C.mb,.m C.fb,.map V.lm,.i s.fn]) /\
  NM w3 C.vb s.vars/\NM w3 C.mb s.qu/\NM w3 C.fb s.qm/\(∀ b,V.lm=some b->NM w3 b s.qc/\C.B<=b/\b≠C.vb/\b≠C.mb/\b≠C.fb) /\
  (∀ {J e' D K:Nat} {v':Value} {H:List Value},w.ownsRow J e' D v' K H->(e'≠t\/Sep v v')->e'≠211->w3.ownsRow J e' D v' K H):=by
 have G:∀ {g:Nat} {t':TypeId} {cs:Array Value},Blk w g t' cs->t'≠t->some g≠v.ownBlock:=fun N A e=>by
  obtain⟨cs',h1⟩:=zr hown e.symm;exact N.qs h1 A rfl
 have E:∀ {b:Nat} {m:NMap},NM w b m->NM w3 b m:=fun hm=>hm.qa (hk _ hm.lt (hm.qf h.p) (fun e=>by
  obtain⟨cs',h1⟩:=zr hown e.symm;exact hm.qf h1 rfl))
 refine⟨(hk _ h.l.lt (h.l.qs h.p yd) (G h.l hl.symm)).trans h.l,E h.vm,E h.mm,E h.fm,fun b hb=>⟨E (h.lm b hb).1,(h.lm b hb).2⟩,?_⟩;intro J e' D K v' H I A O;refine zn I fun k e=>hk k (I.lt k e).2 ?_ ?_
 ·rintro rfl;obtain⟨cs,h1⟩:=zr I e;exact h1.qs h.p O rfl
 ·intro L;rcases A with A | A
  ·exact ztd I hown A e L.symm rfl
  ·exact A k L.symm e
theorem zil {v':Value}{m:Nat}(A:v.ownBlock=some g\/g=m)(hs:Sep v v')(hlt:∀ k,v'.ownBlock=some k->k<m)(c:Nat):Sep (.s g n c) v':=by
 intro k h1 h2;have e:g=k:=by simpa [Value.ownBlock] using h1
 subst e;rcases A with A | A
 ·exact hs g A h2
 ·have:=hlt _ h2;omega
theorem zw3 {C:LC}{w2:World}{V:LV}{i:In}{a:Value}{cap:Nat}{o:Obj}(h1:LE C w1 s V)(ha:zfq w1 C.B a i.args)
  (hrow:w2.ownsRow C.B 309 14 (.s g (s.code.length+1) cap) (s.code.length+1) (zbg V.ags s.code++zV { i with fn:=s.fn } a)) (hg:(w1.drew.alloc o).grownBy w2 V.cv.ownBlock) :
  ∃ V',LE C (w2.setCell (.a C.pb 4) (.s g (s.code.length+1) cap)) (s.emit i) V'/\V'.lm=V.lm:=by
 have A:=(h1.drew).alloc o;have K:Below C.B C.w0 w2:=A.qk.grown hg A.qk.size fun k e=>(A.cr.lt k e).1;have J:Blk w2 C.pb 211 _:=A.p.append A.cr hg yd;obtain⟨O,Q,R,S,U,G⟩:=A.grown (w3:=w2.setCell (.a C.pb 4) (.s g (s.code.length+1) cap)) A.cr (fun k L h1 h2=>(yt _ _ _ _ h1).trans (hg.block k L h2)) yd;refine⟨{ V with cv:=.s g (s.code.length+1) cap,ags:=V.ags++[a] },⟨A.c,K.setCell A.c.pb _,O,(J.qe 4 _).cast (by simp[Lo.emit]),Q,R,S,U,G A.fr (.inl yd) yd,?_,by simp[Lo.emit,A.asl],?_,
  G A.atr (.inl yd) yd,G A.nr (.inl yd) yd,G A.gr (.inl yd) yd,A.s1,A.s2,A.s3,⟨A.i.fl,A.i.f5,A.i.al,A.i.nl,A.i.gl,A.i.fok⟩⟩,rfl⟩
 ·show World.ownsRow _ C.B _ 14 _ (s.code++[_]).length (zbg (V.ags++[a]) (s.code++[_]));rw[zwk A.asl,yx];exact zL hrow J yd _ _
 ·intro k b j L N;have D:(s.code++[{ i with fn:=s.fn }])[k]?=some j:=N;have E:(V.ags++[a])[k]?=some b:=L;rcases yF k s.code.length with I | H
  ·rw[yz I]at D;rw[yz (by rw[A.asl];exact I)]at E;exact G (A.ar k b j E D) (.inl yd) yd
  ·rw[yC H]at D;rw[yC (by rw[A.asl];exact H),A.asl]at E;obtain⟨m,hm⟩:∃ m,m=k-s.code.length:=⟨_,rfl⟩;rw[<- hm]at D E;cases m with
   | zero =>
    simp at D E;subst D E;exact G (show World.ownsRow (w1.drew.alloc o) _ _ _ _ _ _ from(zi ha).alloc o) (.inl yd) yd
   | succ m=>simp at D
attribute [local go_sem] insV zV
def EmitPost (C:LC)(V:LV)(s:Lo)(i:In)(e:Ending)(w':World):Prop:=e=.r (.i s.code.length)/\∃ V',LE C w' (s.emit i) V'/\V'.lm=V.lm
theorem zbu (C:LC)(w:World)(s:Lo)(V:LV)(i:In)(a:Value)(h:LE C w s V)(hc:s.code.length<100000)(ha:zfq w C.B a i.args) :
  Calls prog 162 #[.p C.lb,insV i a] w (EmitPost C V s i):=by
 obtain⟨hl,hp,ab,a0,a3,a5,ag⟩:=h.cells;obtain⟨S,U,a8⟩:=zX ha;subst a8;have H:=zH h;have HA:=zH ha;clear h ha ab a0;go_enter func162,ntmps162;go_upto_region 2 with fail
 refine xh (fun W=>LE C W s V/\Blk W w.heap.size 309 (zV { i with fn:=s.fn } (.slice S i.args.length U)).toArray/\zfq W C.B (.slice S i.args.length U) i.args/\w.heap.size<=W.heap.size)
  ⟨H.o.alloc _,Blk.newAt rfl,HA.o.alloc _,by simp⟩ ?_
 rintro W ⟨Y,hB,hA,hz⟩;clear hl hp a3 a5;obtain⟨hl,hp,_,a0,a3,a5,_⟩:=Y.cells;have a9:∀ j,W.cell? (.a w.heap.size j)=#[.i i.op,.i i.place,.i s.fn,.i i.x,.bool i.y.c,.i i.y.n,.bool i.z.c,.i i.z.n,.i i.bin,.i i.var,.i i.site,.i i.call,.slice S i.args.length U,.i i.to][j]? := hB.cell;have af:=hB.lt;have L:=zH hB;have HU:=zH (H.o.fresh (k:=w.heap.size) yL);obtain⟨ca,cc,O⟩:=zX Y.cr;rw[O]at hp;have R:=zH Y;have a6:=zH hA;have N:=zH O;have HZ:=zH hz;have a7:=zH Y.qk.size;clear Y hB hA O hz;have ae:=zH L.o;refine zh2 16 (fun w'=>w'.cell? (.a C.lb 0)=some (.p C.pb)/\w'.cell? (.a C.pb 4)=some (.slice ca s.code.length cc)/\∀ j,w'.cell? (.a w.heap.size j)=#[.i i.op,.i i.place,.i s.fn,.i i.x,.bool i.y.c,.i i.y.n,.bool i.z.c,.i i.z.n,.i i.bin,.i i.var,.i i.site,.i i.call,.slice S i.args.length U,.i i.to][j]?) yk rfl rfl yk ?_;simp only[yM,yY];have A:W.drew.cell? (.a C.lb 0)=some (.p C.pb)/\W.drew.cell? (.a C.pb 4)=some (.slice ca s.code.length cc)/\∀ j,W.drew.cell? (.a w.heap.size j)=#[.i i.op,.i i.place,.i s.fn,.i i.x,.bool i.y.c,.i i.y.n,.bool i.z.c,.i i.z.n,.i i.bin,.i i.var,.i i.site,.i i.call,.slice S i.args.length U,.i i.to][j]? := ⟨by simp[hl],by simp[hp],a9⟩
 iterate 12(refine tK 0 rfl A ?_)
 refine rdy 12 rfl fun K G=>?_;clear A;go_simp;refine G.o _ _ ⟨by simp[ybe,hl],by simp[ybe,hp],(Blk.alloc L.o _).cell⟩ (fun A=>?_);clear G K;refine rdy 13 rfl fun K G=>?_;refine zan tyIns rfl _ _ rfl C.B _ s.code.length (zbg V.ags s.code) W.heap.size _ _ ((zi (by have:=R.o.cr;rw[N.o]at this;exact this)).alloc _) (Blk.newAt yy) rfl rfl rfl yE yo (ya a7.o yy) ?_;intro g cap w2 E a1 Z;have D:=a1;rw[<- N.o]at D;have Q:=(Blk.append ((R.o.drew.alloc _).p) ((zi R.o.cr).alloc _) D yd);have J:=Q.cell;have ad:=Q.frozen;rw[N.o]at J;have a2:=(Blk.append ((R.o.drew.alloc _).l) ((zi R.o.cr).alloc _) D yd);have a4:=a2.cell;have I:=(Blk.alloc (Blk.drew L.o) _).grown D (fun e=>HU.o (r8 (.inl e.symm)));have HN:=zH (zw3 R.o a6.o E D);have HS:=zH I;clear Q a2 E a1 Z A D I;refine G.o _ _ ⟨by simp[a4],by simp[J],HS.o.cell⟩ (fun A=>?_);clear G K
 iterate 2(refine tK 14 rfl A ?_)
 refine lst rfl fun K G=>?_;go_simp;refine G _ _ ?_;clear G K A;go_wp2;go_ret;exact⟨zs6 yy,HN.o⟩
section
attribute [local go_sem] zT
structure TS (C:LC)(sp:Nat)(t:Stm):Prop where
 at_:zE C.w0 C.B0 sp t
 ok:okStm t
theorem zE.low0 {w w1:World}{B xb:Nat}{x:Stm}(h:zE w B xb x)(hb:Below N w w1)(hN:w.heap.size<=N):zE w1 B xb x:=by
 obtain⟨av,bv,ev,D,h1,h2,h3⟩:=h;have A:∀ {e size n:Nat} {v:Value} {ys:List Value},w.ownsRow B e size v n ys->w1.ownsRow B e size v n ys:=fun E=>zn E fun k e=>hb.block k (yi (E.lt k e).2 hN);exact⟨av,bv,ev,D.below hb (yi D.lt hN),A h1,A h2,A h3⟩
theorem LE.stm {C:LC}{w:World}{V:LV}(h:LE C w s V)(ht:TS C sp t):zE w C.B0 sp t:=ht.at_.low0 h.qk yL
theorem TS.lt {C:LC}(ht:TS C sp t):sp<C.B:=ht.at_.lt
structure XE (C:LC)(w:World)(V:LV)(xb:Nat)(x:In)(av:Value):Prop where
 b:Blk w xb 309 (zV x av).toArray
 a:zfq w C.B av x.args
 u:¬ Uses C V xb
section
variable {C:LC} {w w1:World} {V:LV} {xb:Nat} {x x':In} {av:Value}
theorem XE.vh (h:XE C w V xb x av)(hc:Chg C.B ts bs w w1)(h1:309 ∉ ts)(h2:306 ∉ ts)(hx:xb ∉ bs)(hb:∀ k,av.ownBlock=some k->k ∉ bs):XE C w1 V xb x av :=
 ⟨h.b.vh hc h1 hx,za9 h.a hc h2 hb,h.u⟩
theorem XE.store (h:XE C w V xb x av)(i:Nat)(u:Value)(hc:(zV x av).toArray.setIfInBounds i u=(zV x' av).toArray)(ha:x'.args=x.args:=by rfl):XE C (w.setCell (.a xb i) u) V xb x' av :=
 ⟨(h.b.qe i u).cast hc,by rw[ha];exact zL h.a h.b yd _ _,h.u⟩
theorem XE.alloc (h:XE C w V xb x av)(o:Obj):XE C (w.alloc o) V xb x av:=⟨h.b.alloc o,World.ownsRow.alloc h.a o,h.u⟩
theorem XE.drewN (h:XE C w V xb x av)(n:Nat):XE C (w.drewN n) V xb x av:=⟨h.b.drewN n,zz0 h.a n,h.u⟩
theorem XE.drew (h:XE C w V xb x av):XE C w.drew V xb x av:=⟨h.b.drew,zi h.a,h.u⟩
end
theorem zjt {l:List Fu}{c:Nat}{f:Fu}(h:l[c]?=some f)(j:Nat)(hj:j<5):(l.flatMap zal)[c*5+j]? = (zal f)[j]? := by
 induction l generalizing c with
 | nil=>simp at h
 | cons g r ih =>
  cases c with
  | zero =>
   simp at h;subst h;rw[yax,yz (by simp[zal];omega)];simp
  | succ c =>
   rw[yax,yC (by simp[zal];omega),show(c+1)*5+j-(zal g).length=c*5+j by simp[zal];omega];exact ih (by simpa using h)
def zi3 (C:LC)(w:World)(V:LV)(xb:Nat)(M:Except Flt (In×Lo)):Ending->World->Prop :=
 zap C w M fun p v w'=>v=.tuple #[]/\LE C w' p.2 V/\∃ av,XE C w' V xb p.1 av
theorem zn3 {l:List Nm}{c:Nat}{f:Nm}(h:l[c]?=some f)(j:Nat)(hj:j<4):(l.flatMap zcn)[c*4+j]? = (zcn f)[j]? := by
 induction l generalizing c with
 | nil=>simp at h
 | cons g r ih =>
  cases c with
  | zero =>
   simp at h;subst h;rw[yax,yz (by simp[zcn];omega)];simp
  | succ c =>
   rw[yax,yC (by simp[zcn];omega),show(c+1)*4+j-(zcn g).length=c*4+j by simp[zcn];omega];exact ih (by simpa using h)
theorem LE.qh {C:LC}{w:World}{V:LV}(h:LE C w s V)(ht:TS C sp t):∃ A D ba bc E G,(∀ i,w.cell? (.a sp i)=#[.i t.op,.i t.at_,.i t.mark,
  .string t.x.text,.i t.x.at_,.bool t.x.num,.i t.x.n,.string t.y.text,.i t.y.at_,.bool t.y.num,.i t.y.n,
  .string t.z.text,.i t.z.at_,.bool t.z.num,.i t.z.n,.string t.f.text,.i t.f.at_,.bool t.f.num,.i t.f.n,
  .slice A t.args.length D,.i t.bin,.i t.field,.bool t.has,.slice ba t.body.length bc,.slice E t.els.length G][i]?)/\sp<w.heap.size /\
  xp w C.B0 (.slice A t.args.length D) t.args/\zz w C.B0 (.slice ba t.body.length bc) t.body/\zz w C.B0 (.slice E t.els.length G) t.els:=by
 obtain⟨av,bv,ev,H,h1,h2,h3⟩:=h.stm ht;obtain⟨A,D,rfl⟩:=zX h1;obtain⟨ba,bc,rfl⟩:=zX h2;obtain⟨E,G,rfl⟩:=zX h3;exact⟨A,D,ba,bc,E,G,H.cell,H.lt,h1,h2,h3⟩
def zow (C:LC)(w:World)(s:Lo)(V:LV)(xb:Nat)(x:In)(W:World):Prop:=LE C W s V/\XE C W V xb x (.z)/\Chg C.B [] [xb] w W
theorem zv8 (C:LC)(w:World)(s:Lo)(V:LV)(sp xb b:Nat)(t:Stm)(x:In)(hV:V.lm=some b)(h:LE C w s V)(ht:TS C sp t)(hx:XE C w V xb x (.z))(hxa:x.args=[])(hg:mget s.qm t.f.text=none) :
  Calls prog 313 #[.p C.lb,.p sp,.p xb] w (zi3 C w V xb (zbe s t x)):=by
 have G:=zH (show za1 s.qm t.f.text=-1 by unfold za1;rw[hg]);have I:=zH (show zbe s t x=.error ⟨9,t.f.at_⟩ by unfold zbe;rw[hg]);clear hg hxa;obtain⟨hl,hp,K,L,N,O,Q⟩:=h.cells;obtain⟨_,_,_,_,_,_,R,S,_⟩:=h.qh ht;have U:sp≠xb:=fun e=>hx.u (.inl (e ▸ ht.lt));have W:∀ j,w.cell? (.a xb j)=(.j x (.z):Array Value)[j]? := hx.b.cell;have Y:=hx.b.frozen;have Z:=hx.b.lt;have A:C.B<=xb:=yaq fun E=>hx.u (.inl E);have H:=zH h;have J:=zH ht;have HX:=zH hx;have D:=zH A;clear h hx ht A;go_enter func313,ntmps313;go_wp2_with fail
 go_region_with (go_at_call 114;refine(xn _ _ s.qm _ ((H.o.drew).fm) (zN J.o.ok.f)).mono ?_;rintro e w' ⟨rfl,rfl⟩;rw[G.o])
 all_goals go_wp2_with fail
 all_goals (refine(zb4 _ _ _).mono ?_;rintro e w4 ⟨rfl,rfl⟩)
 all_goals exact⟨rfl,.fault I.o (zf.new yy) yy (((yn C.B w).setCell (by exact D.o) _).drew.alloc (by simp;exact H.o.qk.size) _)⟩
theorem zv6 (C:LC)(w:World)(s:Lo)(V:LV)(sp xb b:Nat)(t:Stm)(x:In)(hV:V.lm=some b)(h:LE C w s V)(ht:TS C sp t)(hx:XE C w V xb x (.z))(hxa:x.args=[])(c:Nat)(f:Fu)(hg:mget s.qm t.f.text=some c)(hf:s.fs[c]?=some f)(hn:t.args.length≠f.params) :
  Calls prog 313 #[.p C.lb,.p sp,.p xb] w (zi3 C w V xb (zbe s t x)):=by
 have HM:=zH (show zbe s t x=.error ⟨10,t.f.at_⟩ by unfold zbe;rw[hg];simp only;rw[yg (by unfold Lo.je;rw[hf];exact hn)]);have HK:=zH (show za1 s.qm t.f.text=c by unfold za1;rw[hg]);have a3:c<s.fs.length:=(yh.1 hf).1;have a4:s.fs.length<=5:=by rw[h.i.fl];exact h.i.f5
 obtain⟨fg,fcap,A,_,_⟩:=h.fr.form yo;have U:=zH (show ∀ W,LE C W s V->W.cell? (.a fg (c*5+1))=some (.i f.params)from fun W hW=>by
  have:=hW.fr;rw[A]at this;rw[this.cellAt (c*5+1) yo,zjt hf 1 yo];rfl)
 have S:=zH A;clear hg hf A;have a2:((t.args.length:Int) != (f.params:Int))=true:=bne_iff_ne.2 yo;clear hxa;obtain⟨hl,hp,E,G,I,J,a5⟩:=h.cells;obtain⟨_,_,_,_,_,_,K,L,_⟩:=h.qh ht;have a7:sp≠xb:=fun e=>hx.u (.inl (e ▸ ht.lt));have O:∀ j,w.cell? (.a xb j)=(.j x (.z):Array Value)[j]? := hx.b.cell;have a1:=hx.b.frozen;have Q:=hx.b.lt;have N:C.B<=xb:=yaq fun a0=>hx.u (.inl a0);have H:=zH h;have HT:=zH ht;have HX:=zH hx;have Y:=zH N;clear h hx ht N;go_enter func313,ntmps313;go_wp2_with fail;go_cut [] (fun wx=>zow C w s V xb { x with call:=c } wx)
 case first =>
  go_region_with (go_at_call 114;refine(xn _ _ s.qm _ ((H.o.drew).fm) (zN HT.o.ok.f)).mono ?_;rintro e w' ⟨rfl,rfl⟩;rw[HK.o])
  all_goals go_wp2_with fail
  all_goals go_meet
  all_goals exact⟨(H.o.qi HX.o.u _).drew,(HX.o.store 11 _ (by simp[zV])).drew,((Chg.refl _ _ _ _).setX Y.o yy _).drew⟩
 case rest =>
  obtain⟨D,Z,hC⟩:=hcut;clear hl hp E G I J K L O a1 Q;obtain⟨hl,hp,E,G,I,J,_⟩:=D.cells;rw[S.o]at hp;obtain⟨aa,ac,ba,bc,ea,ec,K,L,_⟩:=D.qh HT.o;have O:∀ j,wc.cell? (.a xb j)=#[.i x.op,.i x.place,.i x.fn,.i x.x,.bool x.y.c,.i x.y.n,.bool x.z.c,.i x.z.n,.i x.bin,.i x.var,.i x.site,.i c,.z,.i x.to][j]? := Z.b.cell;have Q:=Z.b.lt;have a6:=U.o _ D;have R:=zH hC;have HL:=zH D;clear D Z hC;go_wp2_with fail;go_quiet (fail);go_wp2_with fail;refine(zb4 _ _ _).mono ?_;rintro e w4 ⟨rfl,rfl⟩;exact⟨rfl,.fault HM.o (zf.new rfl) R.o.size (((R.o.drewN _).below H.o.qk.size).alloc (ya H.o.qk.size R.o.size) _)⟩
end
theorem zae {α: Type}{l:List α}{n:α}(h:l[k]?=some n):l.drop k=n::l.drop (k+1):=by
 obtain⟨A,rfl⟩:=yh.1 h;exact yay A
theorem zaa.vj {w w1:World}{B N:Nat}(hb:Below N w w1)(hN:w.heap.size<=N):∀ {ps:List (Value×Value)} {ds:List Dcl},zaa w B ps ds->zaa w1 B ps ds
 | [],[],_=>trivial
 | [],_::_,h=>h.elim
 | _::_,[],h=>h.elim
 | _::_,_::_,h=>⟨zn h.1 fun k e=>hb.block k (yi (h.1.lt k e).2 hN),zn h.2.1 fun k e=>hb.block k (yi (h.2.1.lt k e).2 hN),zaa.vj hb hN h.2.2⟩
theorem za.vj {w w1:World}{B N:Nat}(hb:Below N w w1)(hN:w.heap.size<=N):∀ {bs:List Nat} {xs:List Stm},za w B bs xs->za w1 B bs xs
 | [],[],_=>trivial
 | [],_::_,h=>h.elim
 | _::_,[],h=>h.elim
 | _::_,_::_,h=>⟨h.1,h.2.1.low0 hb hN,za.vj hb hN h.2.2⟩
theorem zci.vj {B:Nat}(h:zci w B tb ds xs)(hb:Below N w w1)(hN:w.heap.size<=N):zci w1 B tb ds xs:=by
 obtain⟨D,dv,sv,A,ps,a,b,c,d,e⟩:=h;exact⟨D,dv,sv,A,ps,a.below hb (yi a.lt hN),zn b fun k e=>hb.block k (yi (b.lt k e).2 hN),c.vj hb hN,zn d fun k e=>hb.block k (yi (d.lt k e).2 hN),e.vj hb hN⟩
theorem zaa.low0 {w:World}{B B':Nat}(hB:B'<=B):∀ {ps:List (Value×Value)} {ds:List Dcl},zaa w B ps ds->zaa w B' ps ds
 | [],[],_=>trivial
 | [],_::_,h=>h.elim
 | _::_,[],h=>h.elim
 | _::_,_::_,h=>⟨zm h.1 hB,zm h.2.1 hB,zaa.low0 hB h.2.2⟩
theorem za.low2 {w:World}{B B':Nat}(hB:B'<=B):∀ {bs:List Nat} {xs:List Stm},za w B bs xs->za w B' bs xs
 | [],[],_=>trivial
 | [],_::_,h=>h.elim
 | _::_,[],h=>h.elim
 | _::_,_::_,h=>⟨ya hB h.1,h.2.1.low hB,za.low2 hB h.2.2⟩
theorem zci.low0 {B:Nat}(h:zci w B tb ds xs)(hB:B'<=B):zci w B' tb ds xs:=by
 obtain⟨D,dv,sv,A,ps,a,b,c,d,e⟩:=h;exact⟨ya hB D,dv,sv,A,ps,a,zm b hB,c.low2 hB,zm d hB,e.low0 hB⟩
structure PV where
 tb:Nat
 fsv:Value
 cv:Value
 av:Value
 nv:Value
 gv:Value
 ags:List Value
def zoa (P:Pr)(X:PV):Array Value:=#[.p X.tb,.i P.nv,.i P.nm,X.fsv,X.cv,X.av,X.nv,X.gv,.i P.main]
structure zc3 (w:World)(B pb:Nat)(P:Pr)(X:PV):Prop where
 pB:B<=pb
 ok:∃ t,z8 t=.ok P
 tree:zci w B X.tb P.ds P.xs
 p:Blk w pb 211 (zoa P X)
 fr:w.ownsRow B 228 5 X.fsv P.fs.length (P.fs.flatMap zal)
 cr:w.ownsRow B 309 14 X.cv P.code.length (zbg X.ags P.code)
 asl:X.ags.length=P.code.length
 ar:∀ (k:Nat) a i,X.ags[k]?=some a->P.code[k]?=some i->zfq w B a i.args
 atr:w.ownsRow B 3 1 X.av P.at_.length (zag P.at_)
 nr:w.ownsRow B 3 1 X.nv P.news.length (zag P.news)
 gr:w.ownsRow B 3 1 X.gv P.qg.length (zag P.qg)
def zft (w:World)(B pb:Nat)(P:Pr):Prop:=∃ X,zc3 w B pb P X
def zh5 (w:World)(t:ByteArray):Ending->World->Prop:=zg8 w (z8 t) fun P b w'=>zft w' w.heap.size b P
theorem zc7 {w':World}(h:Below N w w')(n:Nat):Below N w (w'.drewN n):=⟨h.os,h.tape,h.output,h.size,h.block⟩
theorem zc3.drewN {B:Nat}{X:PV}(h:zc3 w B b P X)(n:Nat):zc3 (w.drewN n) B b P X :=
 ⟨h.pB,h.ok,h.tree.vj (zc7 (yn _ w) n) yL,h.p,h.fr,h.cr,h.asl,h.ar,h.atr,h.nr,h.gr⟩
theorem zc3.drew {B:Nat}{X:PV}(h:zc3 w B b P X):zc3 w.drew B b P X :=
 ⟨h.pB,h.ok,h.tree.vj (yn _ w).drew yL,h.p,h.fr,h.cr,h.asl,h.ar,h.atr,h.nr,h.gr⟩
theorem zft.drew {B:Nat}(h:zft w B b P):zft w.drew B b P:=by
 obtain⟨X,h⟩:=h;exact⟨X,h.pB,h.ok,h.tree.vj (yn _ w).drew yL,h.p,h.fr,h.cr,h.asl,h.ar,h.atr,h.nr,h.gr⟩
end Go.Proofs.YtkmcihhndgdhpaaGreat
