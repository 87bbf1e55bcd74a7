/- Parts of the walk. -/
import Derived.Test.YtkmcihhndgdhpaaGreatWB1
import Derived.Laws.OwnMore
set_option maxRecDepth 100000
set_option maxHeartbeats 4000000
set_option linter.unusedSimpArgs false
set_option linter.unusedVariables false
open Go.ChangeMaps Go.Maps Go.RowKit Go.Shelf Go.Proofs.Tryz
namespace Go.Proofs.YtkmcihhndgdhpaaGreat
variable {i n r g:Nat}{t:TypeId}{cs:Array Value}
theorem mMa {p:Prop}(h:p:=by
  go_wp2_with fail;go_roundw
  case rel=>rw[show((k:Int)+1)=((k+1:Nat):Int) by omega];exact REL.o
  case measure=>simp only[intOf];omega):p:=h
theorem mFb {p:Prop}(h:p:=by
  go_wp2_with fail;refine HSET.o.mono ?_;rw[HB.o];rintro e w3 ⟨rfl,rfl⟩;go_wp2_with fail
  first | go_end0 | refine ym (yp rfl _ _ _) rfl ?_
  exact FIN.o):p:=h
section
def dif (a b:Nat):Nat:=a ^^^ (a&&&b)
theorem dif_bit (a b k:Nat):(dif a b).testBit k=(a.testBit k && !b.testBit k):=by
 unfold dif;rw[Nat.testBit_xor,Nat.testBit_and];cases a.testBit k <;> cases b.testBit k <;> rfl
theorem zih {a b:Nat}(h:a<2 ^ n):dif a b<2 ^ n:=Nat.xor_lt_two_pow h (by rw[Nat.and_comm];exact Nat.and_lt_two_pow _ h)
abbrev LF:=Nat->Nat->Nat
def upd2 (f:LF)(r i v:Nat):LF:=fun r' i'=>if r'=r/\i'=i then v else f r' i'
structure LkV where
 xb:Nat
 g:Nat->Nat
def zq (P:Pr)(r:Nat):Nat:=if r=0\/r=4 then P.code.length else P.fs.length
def za2 (P:Pr)(fb sb:Nat)(V:LkV):Array Value:=#[.p fb,.p sb,.s (V.g 0) P.code.length P.code.length,.s (V.g 1) P.fs.length P.fs.length,.s (V.g 2) P.fs.length P.fs.length,.s (V.g 3) P.fs.length P.fs.length,.s (V.g 4) P.code.length P.code.length,.s (V.g 5) P.fs.length P.fs.length,.s (V.g 6) P.fs.length P.fs.length]
def rowV (n:Nat)(f:Nat->Nat):Array Value:=((List.range n).map fun i=>zA (f i)).toArray
theorem zs9 {f:Nat->Nat}(h:i<n):(rowV n f)[i]?=some (zA (f i)):=by simp[rowV,h]
theorem zta {f:Nat->Nat}{v:Nat}:(rowV n f).setIfInBounds i (zA v)=rowV n (fun j=>if j=i then v else f j):=by
 apply ycu;apply yc1;intro j;simp only[rowV,yK,yc0,yV,ybd,ycz];by_cases A:j<n
 ·by_cases e:i=j
  ·subst e;simp[A]
  ·simp[e,A,yg (fun e':j=i=>e e'.symm)]
 ·by_cases e:i=j
  ·subst e;simp[A]
  ·simp[e,A]
structure LkM (w:World)(B fb sb:Nat)(P:Pr)(V:LkV)(f:LF):Prop where
 x:Blk w V.xb 388 (za2 P fb sb V)
 r:∀ r,r<7->Blk w (V.g r) 381 (rowV (zq P r) (f r))
 inj:∀ r r',r<7->r'<7->V.g r=V.g r'->r=r'
 bB:B<=V.xb/\∀ r,r<7->B<=V.g r
 sm:∀ r i,f r i<2 ^ 48
structure LkFr (V:LkV)(cb:Nat)(w w':World):Prop where
 os:w'.os=w.os
 tape:w'.tape=w.tape
 output:w'.output=w.output
 size:w.heap.size<=w'.heap.size
 same:∀ k,k<w.heap.size->k≠cb->(∀ r,r<7->k≠V.g r)->w'.heap[k]? = w.heap[k]?
section
variable {w w' w2:World} {B fb sb cb:Nat} {P:Pr} {V:LkV} {f:LF}
theorem LkFr.refl (V:LkV)(cb:Nat)(w:World):LkFr V cb w w:=⟨rfl,rfl,rfl,yr _,fun _ _ _ _=>rfl⟩
theorem LkFr.trans (h:LkFr V cb w w')(h':LkFr V cb w' w2):LkFr V cb w w2:=⟨h'.os.trans h.os,h'.tape.trans h.tape,h'.output.trans h.output,ya h.size h'.size,fun k a b c=>(h'.same k (yi a h.size) b c).trans (h.same k a b c)⟩
theorem LkFr.below (h:Below w.heap.size w w'):LkFr V cb w w':=⟨h.os,h.tape,h.output,h.size,fun k a _ _=>h.block k a⟩
theorem LkFr.setRow {u:Value}(hr:r<7):LkFr V cb w (w.setCell (.a (V.g r) i) u):=by
 have h:=zin w (V.g r) i u;exact⟨h.os,h.tape,h.output,h.size,fun k a _ c=>h.block k a (fun e=>c r hr (by injection e))⟩
theorem LkFr.setCb {u:Value}:LkFr V cb w (w.setCell (.a cb i) u):=by
 have h:=zin w cb i u;exact⟨h.os,h.tape,h.output,h.size,fun k a b _=>h.block k a (fun e=>b (by injection e))⟩
theorem LkFr.base (h:LkFr V cb w w')(hr:∀ r,r<7->B<=V.g r)(hc:B<=cb)(hB:B<=w.heap.size):Below B w w' :=
 ⟨h.os,h.tape,h.output,h.size,fun k A=>h.same k yo yo (fun r hr' e=>by have:=hr r hr';omega)⟩
theorem Blk.lkfr (hb:Blk w g t cs)(h:LkFr V cb w w')(hg:g≠cb)(hr:∀ r,r<7->g≠V.g r):Blk w' g t cs:=(h.same g hb.lt hg hr).trans hb
theorem LkM.ne (h:LkM w B fb sb P V f)(hb:Blk w g t cs)(ht:t≠381):∀ r,r<7->g≠V.g r:=fun r A=>hb.qs (h.r r A) ht
theorem LkM.below (h:LkM w B fb sb P V f)(hb:Below w.heap.size w w'):LkM w' B fb sb P V f :=
 ⟨h.x.below hb h.x.lt,fun r A=>(h.r r A).below hb (h.r r A).lt,h.inj,h.bB,h.sm⟩
theorem LkM.set {v:Nat}(h:LkM w B fb sb P V f)(hr:r<7)(hv:v<2 ^ 48):LkM (w.setCell (.a (V.g r) i) (zA v)) B fb sb P V (upd2 f r i v):=by
 refine⟨h.x.qi (p:=(.a (V.g r) i)) (h.x.qs (h.r r hr) yd) _,fun r' A=>?_,h.inj,h.bB,fun r' i'=>?_⟩
 ·by_cases e:r'=r
  ·subst e;have:=(h.r r' A).qe i (zA v);rw[zta]at this;have D:(fun j=>if j=i then v else f r' j)=upd2 f r' i v r':=by funext j;simp[upd2]
   rw[D]at this;exact this
  ·have:=(h.r r' A).qi (p:=(.a (V.g r) i)) (fun e'=>e (h.inj r' r A hr e')) (zA v);have D:upd2 f r i v r'=f r':=by funext j;simp[upd2,e]
   rw[D];exact this
 ·unfold upd2;split
  ·exact hv
  ·exact h.sm _ _
theorem LkM.farB (h:LkM w B fb sb P V f)(hb:Blk w g t cs)(h1:t≠388)(h2:t≠381)(u:Value):LkM (w.setCell (.a g i) u) B fb sb P V f :=
 ⟨h.x.qi (p:=(.a g i)) (h.x.qs hb h1.symm) _,fun r A=>(h.r r A).qi (p:=(.a g i)) ((h.r r A).qs hb h2.symm) _,h.inj,h.bB,h.sm⟩
theorem LkM.cell (h:LkM w B fb sb P V f)(hr:r<7)(hi:i<zq P r):w.cell? (.a (V.g r) i)=some (zA (f r i)):=by rw[(h.r r hr).cell i,zs9 hi]
end
theorem zt8 (f:LF)(r i:Nat):upd2 f r i (f r i)=f:=by
 funext r' i'
 unfold upd2;split
 ·rename_i e;rw[e.1,e.2]
 ·rfl
abbrev LS:=LF×Bool
def zac (s:LS)(r i t:Nat):LS:=(upd2 s.1 r i (s.1 r i&&&t),s.2||((s.1 r i&&&t) != s.1 r i))
def zo (s:LS)(r i t:Nat):LS:=(upd2 s.1 r i (s.1 r i|||t),s.2||((s.1 r i|||t) != s.1 r i))
structure LkS (B fb sb:Nat)(P:Pr)(V:LkV)(cb:Nat)(s:LS)(W:World):Prop where
 m:LkM W B fb sb P V s.1
 c:Blk W cb 4 #[.bool s.2]
def zgg (B fb sb:Nat)(P:Pr)(V:LkV)(cb:Nat)(s:LS)(w:World)(e:Ending)(w':World):Prop:=e=.e/\LkS B fb sb P V cb s w'/\LkFr V cb w w'
theorem zj0 (B fb sb:Nat)(P:Pr)(V:LkV)(cb:Nat)(s:LS)(w:World)(r i t:Nat)(h:LkS B fb sb P V cb s w)(hr:r<7)(hi:i<zq P r)(ht:t<2 ^ 48) :
  Calls prog 283 #[.q (V.g r) i,zA t,.p cb] w (zgg B fb sb P V cb (zac s r i t) w):=by
 have H:=h.m.cell hr hi;have hf:=(h.m.r r hr).frozen i;have G:cb≠V.g r:=h.c.qs (h.m.r r hr) yd;have D:=h.m.set (r:=r) (i:=i) (v:=s.1 r i&&&t) hr (Nat.and_lt_two_pow _ ht);have A:=h.c.qi (p:=(.a (V.g r) i)) G (zA (s.1 r i&&&t));have HSET:=zH (z0i (s.1 r i) t ⟨V.g r,i,none⟩ w (h.m.sm r i) ht H hf);have E:=zH (show LkFr V cb w (w.setCell (.a (V.g r) i) (zA (s.1 r i&&&t)))from LkFr.setRow hr);clear H hf;generalize I:w.setCell (.a (V.g r) i) (zA (s.1 r i&&&t))=w1 at D A E HSET;clear I;cases hb:((s.1 r i&&&t) != s.1 r i)
 ·have FIN:=zH (show zgg B fb sb P V cb (zac s r i t) w (.e) w1 from⟨rfl,⟨D,show Blk w1 cb _ #[.bool (s.2||((s.1 r i&&&t) != s.1 r i))] by rw[hb,yav];exact A⟩,E.o⟩);have HB:=zH hb;clear D A h hb;go_enter func283,ntmps283;exact mFb
 ·have J:=A.cell;have K:=A.frozen;have L:=A.lt;have FIN:=zH (show zgg B fb sb P V cb (zac s r i t) w (.e) (w1.setCell (.a cb 0) (.bool true))from⟨rfl,⟨D.farB A yd yd _,show Blk _ cb _ #[.bool (s.2||((s.1 r i&&&t) != s.1 r i))] by rw[hb,yao];exact(A.qe 0 _).cast rfl⟩,E.o.trans LkFr.setCb⟩);have HB:=zH hb;clear D A h hb;go_enter func283,ntmps283;exact mFb
theorem zlp (B fb sb:Nat)(P:Pr)(V:LkV)(cb:Nat)(s:LS)(w:World)(r i t:Nat)(h:LkS B fb sb P V cb s w)(hr:r<7)(hi:i<zq P r)(ht:t<2 ^ 48) :
  Calls prog 285 #[.q (V.g r) i,zA t,.p cb] w (zgg B fb sb P V cb (zo s r i t) w):=by
 have H:=h.m.cell hr hi;have hf:=(h.m.r r hr).frozen i;have G:cb≠V.g r:=h.c.qs (h.m.r r hr) yd;have D:=h.m.set (r:=r) (i:=i) (v:=s.1 r i|||t) hr (yJ (h.m.sm r i) ht);have A:=h.c.qi (p:=(.a (V.g r) i)) G (zA (s.1 r i|||t));have HSET:=zH (zg0 (s.1 r i) t ⟨V.g r,i,none⟩ w (h.m.sm r i) ht H hf);have E:=zH (show LkFr V cb w (w.setCell (.a (V.g r) i) (zA (s.1 r i|||t)))from LkFr.setRow hr);clear H hf;generalize I:w.setCell (.a (V.g r) i) (zA (s.1 r i|||t))=w1 at D A E HSET;clear I;cases hb:((s.1 r i|||t) != s.1 r i)
 ·have FIN:=zH (show zgg B fb sb P V cb (zo s r i t) w (.e) w1 from⟨rfl,⟨D,show Blk w1 cb _ #[.bool (s.2||((s.1 r i|||t) != s.1 r i))] by rw[hb,yav];exact A⟩,E.o⟩);have HB:=zH hb;clear D A h hb;go_enter func285,ntmps285;exact mFb
 ·have J:=A.cell;have K:=A.frozen;have L:=A.lt;have FIN:=zH (show zgg B fb sb P V cb (zo s r i t) w (.e) (w1.setCell (.a cb 0) (.bool true))from⟨rfl,⟨D.farB A yd yd _,show Blk _ cb _ #[.bool (s.2||((s.1 r i|||t) != s.1 r i))] by rw[hb,yao];exact(A.qe 0 _).cast rfl⟩,E.o.trans LkFr.setCb⟩);have HB:=zH hb;clear D A h hb;go_enter func285,ntmps285;exact mFb
end
def FlRel (w:World)(n s:Nat)(v11:Value)(W:World):Prop:=∃ k:Nat,v11=.i k/\k<=n/\Blk W w.heap.size 381 (rowV n fun i=>if i<k then s else 0)/\Below w.heap.size w W/\W.heap.size=w.heap.size+1
def zoz (w:World)(n s:Nat)(e:Ending)(W:World):Prop:=e=.r (.s w.heap.size n n)/\Blk W w.heap.size 381 (rowV n fun _=>s)/\Below w.heap.size w W/\W.heap.size=w.heap.size+1
theorem set_info:∃ i,prog.info? 381=some i/\i.zero=some (.int .u64 0)/\i.size=1/\i.bytes=8:=info_parts yk
theorem zhf (n s:Nat)(w:World)(h1:1<=n)(hn:n<=1000)(hs:s<2 ^ 48) :
  Calls prog 229 #[.i n,zA s] w (zoz w n s):=by
 have J:(Instr.makeSlice 312 (.i n) (.i n)).run prog w=.ok (.s w.heap.size n n) (w.alloc (.k (rowV n fun _=>0) 381)):=by
  obtain⟨i,hi,E,K,L⟩:=set_info;have U:=run_make (P:=prog) w 312 381 i _ underlying312 hi E .i64 .i64 n n yo (Int.le_refl _) (by rw[L];omega) yo;rw[U,K];simp only[ybl,yci];have e:madeCells (Value.int .u64 0).cells n=rowV n fun _=>0:=by
   apply ycu;simp[madeCells,rowV,Value.cells];intro a _;rw[Nat.mod_one];rfl
  rw[e]
 have O:=zH (show FlRel w n s (.i 0) (w.alloc (.k (rowV n fun _=>0) 381))from⟨0,rfl,yD _,Blk.newAt rfl,yB.alloc yL _,by simp⟩);go_enter func229,ntmps229;go_wp2_with fail;clear J;go_loopw [11] (fun v11 wr=>FlRel w n s v11 wr) (fun v11 _=>n-(intOf v11).toNat)
 case atStart=>exact O.o
 case round =>
  obtain⟨k,rfl,W,hb,H,E⟩:=hrel;have A:=hb.cell;have D:=hb.frozen;have Q:=hb.lt;by_cases G:k<n
  ·have R:wr.cell? (.a w.heap.size k)=some (zA 0):=by rw[A,zs9 G,yg yo]
   have S:=D k;have REL:=zH (show FlRel w n s (.i ((k+1:Nat):Int)) (wr.setCell (.a w.heap.size k) (zA s))from⟨k+1,rfl,G,by
    have h:=hb.qe k (zA s);rw[zta]at h;refine h.cast ?_;congr 1;funext i
    by_cases e:i=k
    ·subst e;simp
    ·rw[yg e];by_cases N:i<k
     ·rw[yj N,yj yo]
     ·rw[yg N,yg yo],H.setCell (p:=(.a w.heap.size k)) yL _,by simpa [World.setCell] using E⟩)
   clear A D hb H E;exact mMa
  ·obtain rfl:k=n:=yo;have I:=zH (show zoz w k s (.r (.s w.heap.size k k)) wr from⟨rfl,by
    refine hb.cast ?_;apply ycu;simp only[rowV];refine List.map_congr_left fun i hi=>?_;rw[yj (by simpa using hi)],H,E⟩)
   clear A D hb H E;go_wp2;go_ret;exact I.o
structure WfLk (P:Pr):Prop where
 io:∀ (k:Nat) (i:In),P.code[k]?=some i->InOk i
 mu:∀ (k:Nat) (i:In),P.code[k]?=some i->i.op=9\/i.op=10->i.var<3
 gs:∀ (k:Nat) (i:In),P.code[k]?=some i->i.op=7->P.qg[i.site]?=some k
structure LkX (C:AX)(wf:World)(VF:FV)(Rs Bs:List Nat):Prop where
 f:zcs C wf VF Rs Bs
 w:WfLk C.P
def zb1 (f:LF)(i:In):Nat:=if i.op=10 then 2 ^ i.var else if i.op=11 then f 3 i.call else 0
def zc9 (on:Nat->Bool):List In->Nat->LS->LS
 | [],_,s=>s
 | i::l,k,s=>zc9 on l (k+1) (if on k then zo s 3 i.fn (zb1 s.1 i)else s)
def zoy (C:AX)(wf:World)(VF:FV)(sb:Nat)(V:LkV)(s:LS)(w:World)(e:Ending)(W:World):Prop:=e=.r (.bool s.2)/\LkM W wf.heap.size VF.fb sb C.P V s.1/\LkFr V (V.g 3) w W
def DrR (C:AX)(wf:World)(VF:FV)(sb:Nat)(V:LkV)(w:World)(M:LS)(v3 v18:Value)(W:World):Prop :=
 ∃ (k:Nat) (s:LS),v18=.i k/\v3=.bool s.2/\k<=C.P.code.length/\LkM W wf.heap.size VF.fb sb C.P V s.1/\LkFr V (V.g 3) w W/\zc9 (onB C.P) (C.P.code.drop k) k s=M
theorem zw2 (C:AX)(wf:World)(VF:FV)(Rs Bs:List Nat)(X:LkX C wf VF Rs Bs)(sb:Nat)(V:LkV)(f:LF)(w:World)(h:LkM w wf.heap.size VF.fb sb C.P V f)(hb:Below wf.heap.size wf w) :
  Calls prog 230 #[.p V.xb] w (zoy C wf VF sb V (zc9 (onB C.P) C.P.code 0 (f,false)) w):=by
 have HF:=zH (fun(W:World) (hb:Below wf.heap.size wf W)=>(X.f.below hb yL).f.h);have HC:=X.f.f.h.c;have b5:=HC.wf.cl;have b4:=HC.wf.fl;have am:=zH (show ∀ W,LkFr V (V.g 3) w W->Below wf.heap.size wf W from fun W hf=>hb.trans (hf.base h.bB.2 (h.bB.2 3 yo) hb.size));have ST:=zH (show DrR C wf VF sb V w (zc9 (onB C.P) C.P.code 0 (f,false)) (.bool false) (.i 0) w from⟨0,(f,false),rfl,rfl,yD _,h,LkFr.refl _ _ _,by rw[yal]⟩);obtain⟨a8,ad⟩:=(HF.o w hb).cells;have a9:=(HF.o w hb).f.lt;have a2:=h.x.cell;unfold za2 at a2;have ae:=h.x.lt;generalize zc9 (onB C.P) C.P.code 0 (f,false)=M at ST |-;clear hb h;go_enter func230,ntmps230;go_wp2_with fail;clear a8 ad a9 a2 ae;go_loopw [3,18] (fun v3 v18 wr=>DrR C wf VF sb V w M v3 v18 wr) (fun _ v18 _=>C.P.code.length-(intOf v18).toNat)
 case atStart=>exact ST.o
 case round =>
  obtain⟨k,s,rfl,rfl,hk,hL,aj,hM⟩:=hrel;have HL:=zH hL;have ag:=zH aj;have HM:=zH hM;have ak:=zH (am.o wr aj);have a6:=zH (HF.o wr ak.o);obtain⟨a8,ad⟩:=a6.o.cells;have a9:=a6.o.f.lt;have a2:=hL.x.cell;unfold za2 at a2;have ae:=hL.x.lt;clear hL aj hM;by_cases Z:k<C.P.code.length
  ·obtain⟨i,hi⟩:∃ i,C.P.code[k]?=some i:=⟨_,yc Z⟩;obtain⟨aa,ac,H,aq,b7⟩:=HC.ql a6.o.ve hi;have i0:wr.cell? (.a C.cg (k*14))=some (.i i.op):=H 0 yo;have i1:wr.cell? (.n C.cg k 1)=some (.i i.place):=H 1 yo;have i2:wr.cell? (.n C.cg k 2)=some (.i i.fn):=H 2 yo;have i3:wr.cell? (.n C.cg k 3)=some (.i i.x):=H 3 yo;have i4:wr.cell? (.n C.cg k 4)=some (.bool i.y.c):=H 4 yo;have i5:wr.cell? (.n C.cg k 5)=some (.i i.y.n):=H 5 yo;have i6:wr.cell? (.n C.cg k 6)=some (.bool i.z.c):=H 6 yo;have i7:wr.cell? (.n C.cg k 7)=some (.i i.z.n):=H 7 yo;have i8:wr.cell? (.n C.cg k 8)=some (.i i.bin):=H 8 yo;have i9:wr.cell? (.n C.cg k 9)=some (.i i.var):=H 9 yo;have ax:wr.cell? (.n C.cg k 10)=some (.i i.site):=H 10 yo;have ay:wr.cell? (.n C.cg k 11)=some (.i i.call):=H 11 yo;have az:wr.cell? (.n C.cg k 12)=some (.slice aa i.args.length ac):=H 12 yo;have b1:wr.cell? (.n C.cg k 13)=some (.i i.to):=H 13 yo;have HI:=zH hi;have ah:=zH (show zc9 (onB C.P) (C.P.code.drop (k+1)) (k+1) (if onB C.P k then zo s 3 i.fn (zb1 s.1 i)else s)=M from by rw[<- HM.o,zae hi,zc9]);have a7:Below wr.heap.size wr (wr.alloc (.k (.j i (.slice aa i.args.length ac)) 309)):=yB.alloc yL _;have ab:Blk (wr.alloc (.k (.j i (.slice aa i.args.length ac)) 309)) wr.heap.size 309 (.j i (.slice aa i.args.length ac)):=Blk.newAt rfl;clear H hi HM aq;go_wp2_with fail;generalize hW:wr.alloc (.k (.j i (.slice aa i.args.length ac)) 309)=wi at a7 ab |-;obtain⟨ib,af⟩:∃ ib,ib=wr.heap.size:=⟨_,rfl⟩;rw[<- af]at ab |-;clear hW i0 i1 i2 i3 i4 i5 i6 i7 i8 i9 ax ay az b1 a8 ad a9 a2 ae af;have U:=zH (HL.o.below a7);have I:=zH (ag.o.trans (LkFr.below a7));have a5:=zH (HF.o wi (am.o wi I.o));have O:=zH ab;clear a7 ab HL ag a6 ak;refine(hasE _ VF.jf k (onB C.P) a5.o.on yo).mono ?_;rintro e w2 ⟨rfl,rfl⟩;cases hon:onB C.P k
   ·have REL:=zH (show DrR C wf VF sb V w M (.bool s.2) (.i ((k+1:Nat):Int)) wi from⟨k+1,s,rfl,rfl,Z,U.o,I.o,by have:=ah.o;rw[hon]at this;exact this⟩);clear hon;exact mMa
   ·have a0:=zH (show zc9 (onB C.P) (C.P.code.drop (k+1)) (k+1) (zo s 3 i.fn (zb1 s.1 i))=M from by have:=ah.o;rw[hon]at this;exact this);clear hon ah;have b6:=X.w.io k i HI.o;have ai:=HC.wf.fn k i HI.o;have a3:=O.o.cell;have a4:=O.o.lt;by_cases h10:i.op=10
    ·have b2:((i.op:Int)==10)=true:=by rw[h10];rfl
     have b8:=X.w.mu k i HI.o (.inr h10);have HD:=zH (show zb1 s.1 i=2 ^ i.var by unfold zb1;rw[yj h10]);have N:2 ^ i.var<2 ^ 48:=yap yo yo;have R:Below wi.heap.size wi (wi.alloc (.k #[.i i.var] 3)):=yB.alloc yL _;have ao:Blk (wi.alloc (.k #[.i i.var] 3)) wi.heap.size 3 #[.i i.var]:=Blk.newAt rfl;clear h10;go_wp2_with fail;refine(zf9 i.var wi.heap.size 1 _ yo (ao.cell 0)).mono ?_;rintro e w4 ⟨rfl,aw⟩;subst aw;have Q:=zH (U.o.below R);have J:=zH (I.o.trans (LkFr.below R));have L:=zH (O.o.below R O.o.lt);clear a3 a4 ao;generalize wi.alloc (.k #[.i i.var] 3)=wt at Q J L R |-;clear R U I a5 O;go_wp2_with fail;refine rgl 8 (fun(W:World)=>(∀ j,W.cell? (.a V.xb j)=(.k VF.fb sb V.g C.P:Array Value)[j]?)/\W.cell? (.a ib 2)=some (.i i.fn)) ?_;have A:=And.intro (show ∀ j,wt.drew.cell? (.a V.xb j)=(.k VF.fb sb V.g C.P:Array Value)[j]? from Q.o.x.cell) (L.o.drew.cell 2)
     iterate 8(refine tK 0 rfl A ?_)
     refine lst rfl fun K hK=>?_;go_simp;have S:Below wt.heap.size wt wt.drew:=yB.drew;have D:=Q.o.below S;have Y:i.fn<zq C.P 3:=by unfold zq;simpa using ai
     refine(zg0 (s.1 3 i.fn) (2 ^ i.var) ⟨V.g 3,i.fn,none⟩ wt.drew (D.sm 3 i.fn) N (D.cell yo Y) ((D.r 3 yo).frozen i.fn)).mono ?_;rintro e w5 ⟨rfl,rfl⟩;have G:=D.set (r:=3) (i:=i.fn) (v:=s.1 3 i.fn|||(2 ^ i.var)) yo (yJ (D.sm 3 i.fn) N);have E:LkFr V (V.g 3) w (wt.drew.setCell (.a (V.g 3) i.fn) (zA (s.1 3 i.fn|||(2 ^ i.var)))):=J.o.trans ((LkFr.below S).trans (LkFr.setRow yo));refine hK _ _ ?_;clear hK K A S D Y;generalize wt.drew.setCell (.a (V.g 3) i.fn) (zA (s.1 3 i.fn|||(2 ^ i.var)))=w5 at G E |-;cases hbb:((s.1 3 i.fn|||(2 ^ i.var)) != s.1 3 i.fn)
     ·have REL:=zH (show DrR C wf VF sb V w M (.bool s.2) (.i ((k+1:Nat):Int)) w5 from⟨k+1,zo s 3 i.fn (zb1 s.1 i),rfl,by rw[HD.o];simp only[zo];rw[hbb,yav],Z,by rw[HD.o];exact G,E,a0.o⟩);clear hbb G E;exact mMa
     ·have REL:=zH (show DrR C wf VF sb V w M (.bool true) (.i ((k+1:Nat):Int)) w5 from⟨k+1,zo s 3 i.fn (zb1 s.1 i),rfl,by rw[HD.o];simp only[zo];rw[hbb,yao],Z,by rw[HD.o];exact G,E,a0.o⟩);clear hbb G E;exact mMa
    ·have b2:((i.op:Int)==10)=false:=zI yo;by_cases a1:i.op=11
     ·have b3:((i.op:Int)==11)=true:=by rw[a1];rfl
      have HD:=zH (show zb1 s.1 i=s.1 3 i.call by unfold zb1;rw[yg h10,yj a1]);obtain⟨fu,an,_⟩:=HC.wf.call k i HI.o (.inl a1);have au:i.call<C.P.fs.length:=(yh.1 an).1;have N:s.1 3 i.call<2 ^ 48:=U.o.sm _ _;clear h10 a1 an;go_wp2_with fail;have A:=And.intro (show ∀ j,wi.drew.cell? (.a V.xb j)=(.k VF.fb sb V.g C.P:Array Value)[j]? from U.o.x.cell) (And.intro (O.o.drew.cell 11) ((U.o.below (yn _ wi).drew).cell (r:=3) (i:=i.call) yo (by unfold zq;simpa using au)));clear a3 a4;refine rgl 8 (fun(W:World)=>(∀ j,W.cell? (.a V.xb j)=(.k VF.fb sb V.g C.P:Array Value)[j]?)/\W.cell? (.a ib 11)=some (.i i.call)/\W.cell? (.a (V.g 3) i.call)=some (zA (s.1 3 i.call))) ?_
      iterate 8(refine tK 0 rfl A ?_)
      refine lst rfl fun K hK=>?_;go_simp;refine hK _ _ ?_;clear hK A;have R:Below wi.heap.size wi wi.drew:=yB.drew;have Q:=zH (U.o.below R);have J:=zH (I.o.trans (LkFr.below R));have L:=zH (O.o.below R O.o.lt);generalize wi.drew=wt at Q J L R |-;clear R U I a5 O;go_wp2_with fail;refine rgl 8 (fun(W:World)=>(∀ j,W.cell? (.a V.xb j)=(.k VF.fb sb V.g C.P:Array Value)[j]?)/\W.cell? (.a ib 2)=some (.i i.fn)) ?_;have A:=And.intro (show ∀ j,wt.drew.cell? (.a V.xb j)=(.k VF.fb sb V.g C.P:Array Value)[j]? from Q.o.x.cell) (L.o.drew.cell 2)
      iterate 8(refine tK 0 rfl A ?_)
      refine lst rfl fun K hK=>?_;go_simp;have S:Below wt.heap.size wt wt.drew:=yB.drew;have D:=Q.o.below S;have Y:i.fn<zq C.P 3:=by unfold zq;simpa using ai
      refine(zg0 (s.1 3 i.fn) (s.1 3 i.call) ⟨V.g 3,i.fn,none⟩ wt.drew (D.sm 3 i.fn) N (D.cell yo Y) ((D.r 3 yo).frozen i.fn)).mono ?_;rintro e w5 ⟨rfl,rfl⟩;have G:=D.set (r:=3) (i:=i.fn) (v:=s.1 3 i.fn|||(s.1 3 i.call)) yo (yJ (D.sm 3 i.fn) N);have E:LkFr V (V.g 3) w (wt.drew.setCell (.a (V.g 3) i.fn) (zA (s.1 3 i.fn|||(s.1 3 i.call)))):=J.o.trans ((LkFr.below S).trans (LkFr.setRow yo));refine hK _ _ ?_;clear hK K A S D Y;generalize wt.drew.setCell (.a (V.g 3) i.fn) (zA (s.1 3 i.fn|||(s.1 3 i.call)))=w5 at G E |-;cases hbb:((s.1 3 i.fn|||(s.1 3 i.call)) != s.1 3 i.fn)
      ·have REL:=zH (show DrR C wf VF sb V w M (.bool s.2) (.i ((k+1:Nat):Int)) w5 from⟨k+1,zo s 3 i.fn (zb1 s.1 i),rfl,by rw[HD.o];simp only[zo];rw[hbb,yav],Z,by rw[HD.o];exact G,E,a0.o⟩);clear hbb G E;exact mMa
      ·have REL:=zH (show DrR C wf VF sb V w M (.bool true) (.i ((k+1:Nat):Int)) w5 from⟨k+1,zo s 3 i.fn (zb1 s.1 i),rfl,by rw[HD.o];simp only[zo];rw[hbb,yao],Z,by rw[HD.o];exact G,E,a0.o⟩);clear hbb G E;exact mMa
     ·have b3:((i.op:Int)==11)=false:=zI yo;have HD:=zH (show zb1 s.1 i=0 by unfold zb1;rw[yg h10,yg a1]);have N:0<2 ^ 48:=yo;clear h10 a1;go_wp2_with fail;have Q:=U;have J:=I;have L:=O;clear a3 a4 U I a5 O;generalize wi=wt at Q J L |-;refine rgl 8 (fun(W:World)=>(∀ j,W.cell? (.a V.xb j)=(.k VF.fb sb V.g C.P:Array Value)[j]?)/\W.cell? (.a ib 2)=some (.i i.fn)) ?_;have A:=And.intro (show ∀ j,wt.drew.cell? (.a V.xb j)=(.k VF.fb sb V.g C.P:Array Value)[j]? from Q.o.x.cell) (L.o.drew.cell 2)
      iterate 8(refine tK 0 rfl A ?_)
      refine lst rfl fun K hK=>?_;go_simp;have S:Below wt.heap.size wt wt.drew:=yB.drew;have D:=Q.o.below S;have Y:i.fn<zq C.P 3:=by unfold zq;simpa using ai
      refine(zg0 (s.1 3 i.fn) 0 ⟨V.g 3,i.fn,none⟩ wt.drew (D.sm 3 i.fn) N (D.cell yo Y) ((D.r 3 yo).frozen i.fn)).mono ?_;rintro e w5 ⟨rfl,rfl⟩;have G:=D.set (r:=3) (i:=i.fn) (v:=s.1 3 i.fn|||0) yo (yJ (D.sm 3 i.fn) N);have E:LkFr V (V.g 3) w (wt.drew.setCell (.a (V.g 3) i.fn) (zA (s.1 3 i.fn|||0))):=J.o.trans ((LkFr.below S).trans (LkFr.setRow yo));refine hK _ _ ?_;clear hK K A S D Y;generalize wt.drew.setCell (.a (V.g 3) i.fn) (zA (s.1 3 i.fn|||0))=w5 at G E |-;cases hbb:((s.1 3 i.fn|||0) != s.1 3 i.fn)
      ·have REL:=zH (show DrR C wf VF sb V w M (.bool s.2) (.i ((k+1:Nat):Int)) w5 from⟨k+1,zo s 3 i.fn (zb1 s.1 i),rfl,by rw[HD.o];simp only[zo];rw[hbb,yav],Z,by rw[HD.o];exact G,E,a0.o⟩);clear hbb G E;exact mMa
      ·have REL:=zH (show DrR C wf VF sb V w M (.bool true) (.i ((k+1:Nat):Int)) w5 from⟨k+1,zo s 3 i.fn (zb1 s.1 i),rfl,by rw[HD.o];simp only[zo];rw[hbb,yao],Z,by rw[HD.o];exact G,E,a0.o⟩);clear hbb G E;exact mMa
  ·obtain rfl:k=C.P.code.length:=yo;have hs:s=M:=by rw[<- HM.o,yaa,zc9]
   have ap:=zH (show zoy C wf VF sb V M w (.r (.bool s.2)) wr from⟨by rw[hs],by rw[<- hs];exact HL.o,ag.o⟩);clear hs HM a8 ad a9 a2 ae;go_wp2;go_ret;exact ap.o
end Go.Proofs.YtkmcihhndgdhpaaGreat
