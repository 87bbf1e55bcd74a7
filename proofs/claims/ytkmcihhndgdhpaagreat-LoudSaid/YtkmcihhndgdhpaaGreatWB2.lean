/- LkA LkB: parts of the walk. -/
import Derived.Test.YtkmcihhndgdhpaaGreatWB1
import Derived.Laws.OwnMore
set_option maxRecDepth 100000
set_option maxHeartbeats 4000000
set_option linter.unusedSimpArgs false
set_option linter.unusedVariables false
namespace Go.Proofs.YtkmcihhndgdhpaaGreat
section
open Go.RowKit Go.Maps Go.ChangeMaps Go.Shelf
set_option linter.unusedSimpArgs false
def dif (a b:Nat):Nat:=a ^^^ (a&&&b)
theorem dif_bit (a b k:Nat):(dif a b).testBit k=(a.testBit k && !b.testBit k):=by
 unfold dif
 rw[Nat.testBit_xor,Nat.testBit_and]
 cases a.testBit k <;> cases b.testBit k <;> rfl
theorem ziv {a b n:Nat}(h:a<2 ^ n):dif a b<2 ^ n:=Nat.xor_lt_two_pow h (by rw[Nat.and_comm];exact Nat.and_lt_two_pow _ h)
abbrev LF:=Nat→Nat→Nat
def upd2 (f:LF)(r i v:Nat):LF:=fun r' i'=>if r'=r∧i'=i then v else f r' i'
structure LkV where
 xb:Nat
 g:Nat→Nat
def za8 (P:Pr)(r:Nat):Nat:=if r=0∨r=4 then P.code.length else P.fs.length
def zcl (P:Pr)(fb sb:Nat)(V:LkV):Array Value:=#[.pointer (some ⟨fb,0,none⟩),.pointer (some ⟨sb,0,none⟩),.slice (some ⟨V.g 0,0,none⟩) P.code.length P.code.length,.slice (some ⟨V.g 1,0,none⟩) P.fs.length P.fs.length,.slice (some ⟨V.g 2,0,none⟩) P.fs.length P.fs.length,.slice (some ⟨V.g 3,0,none⟩) P.fs.length P.fs.length,.slice (some ⟨V.g 4,0,none⟩) P.code.length P.code.length,.slice (some ⟨V.g 5,0,none⟩) P.fs.length P.fs.length,.slice (some ⟨V.g 6,0,none⟩) P.fs.length P.fs.length]
def rowV (n:Nat)(f:Nat→Nat):Array Value:=((List.range n).map fun i=>zaa (f i)).toArray
theorem zss {n:Nat}{f:Nat→Nat}{i:Nat}(h:i<n):(rowV n f)[i]? = some (zaa (f i)):=by simp[rowV,h]
theorem zqd {n:Nat}{f:Nat→Nat}{i v:Nat}:(rowV n f).setIfInBounds i (zaa v)=rowV n (fun j=>if j=i then v else f j):=by
 apply Array.ext'
 apply List.ext_getElem?
 intro j
 simp only[rowV,List.setIfInBounds_toArray,List.getElem?_set,List.getElem?_map,List.length_map,List.length_range]
 by_cases hj:j<n
 ·by_cases e:i=j
  ·subst e;simp[hj]
  ·simp[e,hj,if_neg (fun e':j=i=>e e'.symm)]
 ·by_cases e:i=j
  ·subst e;simp[hj]
  ·simp[e,hj]
structure LkM (w:World)(B fb sb:Nat)(P:Pr)(V:LkV)(f:LF):Prop where
 x:Blk w V.xb 388 (zcl P fb sb V)
 r:∀ r,r<7→Blk w (V.g r) 381 (rowV (za8 P r) (f r))
 inj:∀ r r',r<7→r'<7→V.g r=V.g r'→r=r'
 bB:B≤V.xb∧∀ r,r<7→B≤V.g r
 sm:∀ r i,f r i<2 ^ 48
structure LkFr (V:LkV)(cb:Nat)(w w':World):Prop where
 os:w'.os=w.os
 tape:w'.tape=w.tape
 output:w'.output=w.output
 size:w.heap.size≤w'.heap.size
 same:∀ k,k<w.heap.size→k≠cb→(∀ r,r<7→k≠V.g r)→w'.heap[k]? = w.heap[k]?
section
variable {w w' w2:World} {B fb sb cb:Nat} {P:Pr} {V:LkV} {f:LF}
theorem LkFr.refl (V:LkV)(cb:Nat)(w:World):LkFr V cb w w:=⟨rfl,rfl,rfl,Nat.le_refl _,fun _ _ _ _=>rfl⟩
theorem LkFr.trans (h:LkFr V cb w w')(h':LkFr V cb w' w2):LkFr V cb w w2:=⟨h'.os.trans h.os,h'.tape.trans h.tape,h'.output.trans h.output,Nat.le_trans h.size h'.size,fun k a b c=>(h'.same k (Nat.lt_of_lt_of_le a h.size) b c).trans (h.same k a b c)⟩
theorem LkFr.below (h:Below w.heap.size w w'):LkFr V cb w w':=⟨h.os,h.tape,h.output,h.size,fun k a _ _=>h.block k a⟩
theorem LkFr.setRow {r i:Nat}{u:Value}(hr:r<7):LkFr V cb w (w.setCell ⟨V.g r,i,none⟩ u):=by
 have h:=zir w (V.g r) i u
 exact⟨h.os,h.tape,h.output,h.size,fun k a _ c=>h.block k a (fun e=>c r hr (by injection e))⟩
theorem LkFr.setCb {i:Nat}{u:Value}:LkFr V cb w (w.setCell ⟨cb,i,none⟩ u):=by
 have h:=zir w cb i u
 exact⟨h.os,h.tape,h.output,h.size,fun k a b _=>h.block k a (fun e=>b (by injection e))⟩
theorem LkFr.base (h:LkFr V cb w w')(hr:∀ r,r<7→B≤V.g r)(hc:B≤cb)(hB:B≤w.heap.size):Below B w w' :=
 ⟨h.os,h.tape,h.output,h.size,fun k hk=>h.same k (by omega) (by omega) (fun r hr' e=>by have:=hr r hr';omega)⟩
theorem Blk.lkfr {g:Nat}{t:TypeId}{cs:Array Value}(hb:Blk w g t cs)(h:LkFr V cb w w')(hg:g≠cb)(hr:∀ r,r<7→g≠V.g r):Blk w' g t cs:=(h.same g hb.lt hg hr).trans hb
theorem LkM.ne (h:LkM w B fb sb P V f){g:Nat}{t:TypeId}{cs:Array Value}(hb:Blk w g t cs)(ht:t≠381):∀ r,r<7→g≠V.g r:=fun r hr=>hb.ne_ (h.r r hr) ht
theorem LkM.below (h:LkM w B fb sb P V f)(hb:Below w.heap.size w w'):LkM w' B fb sb P V f :=
 ⟨h.x.below hb h.x.lt,fun r hr=>(h.r r hr).below hb (h.r r hr).lt,h.inj,h.bB,h.sm⟩
theorem LkM.set {r i v:Nat}(h:LkM w B fb sb P V f)(hr:r<7)(hv:v<2 ^ 48):LkM (w.setCell ⟨V.g r,i,none⟩ (zaa v)) B fb sb P V (upd2 f r i v):=by
 refine⟨h.x.far (p:=⟨V.g r,i,none⟩) (h.x.ne_ (h.r r hr) (by decide)) _,fun r' hr'=>?_,h.inj,h.bB,fun r' i'=>?_⟩
 ·by_cases e:r'=r
  ·subst e
   have:=(h.r r' hr').set_ i (zaa v)
   rw[zqd]at this
   have e2:(fun j=>if j=i then v else f r' j)=upd2 f r' i v r':=by funext j;simp[upd2]
   rw[e2]at this
   exact this
  ·have:=(h.r r' hr').far (p:=⟨V.g r,i,none⟩) (fun e'=>e (h.inj r' r hr' hr e')) (zaa v)
   have e2:upd2 f r i v r'=f r':=by funext j;simp[upd2,e]
   rw[e2]
   exact this
 ·unfold upd2
  split
  ·exact hv
  ·exact h.sm _ _
theorem LkM.farB (h:LkM w B fb sb P V f){g i:Nat}{t:TypeId}{cs:Array Value}(hb:Blk w g t cs)(h1:t≠388)(h2:t≠381)(u:Value):LkM (w.setCell ⟨g,i,none⟩ u) B fb sb P V f :=
 ⟨h.x.far (p:=⟨g,i,none⟩) (h.x.ne_ hb h1.symm) _,fun r hr=>(h.r r hr).far (p:=⟨g,i,none⟩) ((h.r r hr).ne_ hb h2.symm) _,h.inj,h.bB,h.sm⟩
theorem LkM.cell (h:LkM w B fb sb P V f){r i:Nat}(hr:r<7)(hi:i<za8 P r):w.cell? ⟨V.g r,i,none⟩=some (zaa (f r i)):=by rw[(h.r r hr).cell i,zss hi]
end
theorem zrr (f:LF)(r i:Nat):upd2 f r i (f r i)=f:=by
 funext r' i'
 unfold upd2
 split
 ·rename_i e;rw[e.1,e.2]
 ·rfl
abbrev LS:=LF×Bool
def zb4 (s:LS)(r i t:Nat):LS:=(upd2 s.1 r i (s.1 r i&&&t),s.2||((s.1 r i&&&t) != s.1 r i))
def za7 (s:LS)(r i t:Nat):LS:=(upd2 s.1 r i (s.1 r i|||t),s.2||((s.1 r i|||t) != s.1 r i))
structure LkS (B fb sb:Nat)(P:Pr)(V:LkV)(cb:Nat)(s:LS)(W:World):Prop where
 m:LkM W B fb sb P V s.1
 c:Blk W cb 4 #[.bool s.2]
def zhk (B fb sb:Nat)(P:Pr)(V:LkV)(cb:Nat)(s:LS)(w:World)(e:Ending)(w':World):Prop:=e=.returned (.tuple #[])∧LkS B fb sb P V cb s w'∧LkFr V cb w w'
theorem zju (B fb sb:Nat)(P:Pr)(V:LkV)(cb:Nat)(s:LS)(w:World)(r i t:Nat)(h:LkS B fb sb P V cb s w)(hr:r<7)(hi:i<za8 P r)(ht:t<2 ^ 48) :
  Calls Tryz.prog 283 #[.pointer (some ⟨V.g r,i,none⟩),zaa t,.pointer (some ⟨cb,0,none⟩)] w (zhk B fb sb P V cb (zb4 s r i t) w):=by
 have hc:=h.m.cell hr hi
 have hf:=(h.m.r r hr).frozen i
 have hne:cb≠V.g r:=h.c.ne_ (h.m.r r hr) (by decide)
 have hm2:=h.m.set (r:=r) (i:=i) (v:=s.1 r i&&&t) hr (Nat.and_lt_two_pow _ ht)
 have hc2:=h.c.far (p:=⟨V.g r,i,none⟩) hne (zaa (s.1 r i&&&t))
 have HSET:=zH (ztq (s.1 r i) t ⟨V.g r,i,none⟩ w (h.m.sm r i) ht hc hf)
 have HF:=zH (show LkFr V cb w (w.setCell ⟨V.g r,i,none⟩ (zaa (s.1 r i&&&t)))from LkFr.setRow hr)
 clear hc hf
 generalize hW:w.setCell ⟨V.g r,i,none⟩ (zaa (s.1 r i&&&t))=w1 at hm2 hc2 HF HSET
 clear hW
 cases hb:((s.1 r i&&&t) != s.1 r i)
 ·have FIN:=zH (show zhk B fb sb P V cb (zb4 s r i t) w (.returned (.tuple #[])) w1 from⟨rfl,⟨hm2,show Blk w1 cb _ #[.bool (s.2||((s.1 r i&&&t) != s.1 r i))] by rw[hb,Bool.or_false];exact hc2⟩,HF.out⟩)
  have HB:=zH hb
  clear hm2 hc2 h hb
  go_enter Tryz.func283,Tryz.ntmps283
  go_wp2_with fail
  refine HSET.out.mono ?_
  rw[HB.out]
  rintro e w3 ⟨rfl,rfl⟩
  go_wp2_with fail
  first | go_end0 | refine bodyPost_ret (results_none rfl _ _ _) rfl ?_
  exact FIN.out
 ·have hcc:=hc2.cell
  have hcf:=hc2.frozen
  have hcl:=hc2.lt
  have FIN:=zH (show zhk B fb sb P V cb (zb4 s r i t) w (.returned (.tuple #[])) (w1.setCell ⟨cb,0,none⟩ (.bool true))from⟨rfl,⟨hm2.farB hc2 (by decide) (by decide) _,show Blk _ cb _ #[.bool (s.2||((s.1 r i&&&t) != s.1 r i))] by rw[hb,Bool.or_true];exact(hc2.set_ 0 _).cast rfl⟩,HF.out.trans LkFr.setCb⟩)
  have HB:=zH hb
  clear hm2 hc2 h hb
  go_enter Tryz.func283,Tryz.ntmps283
  go_wp2_with fail
  refine HSET.out.mono ?_
  rw[HB.out]
  rintro e w3 ⟨rfl,rfl⟩
  go_wp2_with fail
  first | go_end0 | refine bodyPost_ret (results_none rfl _ _ _) rfl ?_
  exact FIN.out
theorem zlx (B fb sb:Nat)(P:Pr)(V:LkV)(cb:Nat)(s:LS)(w:World)(r i t:Nat)(h:LkS B fb sb P V cb s w)(hr:r<7)(hi:i<za8 P r)(ht:t<2 ^ 48) :
  Calls Tryz.prog 285 #[.pointer (some ⟨V.g r,i,none⟩),zaa t,.pointer (some ⟨cb,0,none⟩)] w (zhk B fb sb P V cb (za7 s r i t) w):=by
 have hc:=h.m.cell hr hi
 have hf:=(h.m.r r hr).frozen i
 have hne:cb≠V.g r:=h.c.ne_ (h.m.r r hr) (by decide)
 have hm2:=h.m.set (r:=r) (i:=i) (v:=s.1 r i|||t) hr (Nat.or_lt_two_pow (h.m.sm r i) ht)
 have hc2:=h.c.far (p:=⟨V.g r,i,none⟩) hne (zaa (s.1 r i|||t))
 have HSET:=zH (zhx (s.1 r i) t ⟨V.g r,i,none⟩ w (h.m.sm r i) ht hc hf)
 have HF:=zH (show LkFr V cb w (w.setCell ⟨V.g r,i,none⟩ (zaa (s.1 r i|||t)))from LkFr.setRow hr)
 clear hc hf
 generalize hW:w.setCell ⟨V.g r,i,none⟩ (zaa (s.1 r i|||t))=w1 at hm2 hc2 HF HSET
 clear hW
 cases hb:((s.1 r i|||t) != s.1 r i)
 ·have FIN:=zH (show zhk B fb sb P V cb (za7 s r i t) w (.returned (.tuple #[])) w1 from⟨rfl,⟨hm2,show Blk w1 cb _ #[.bool (s.2||((s.1 r i|||t) != s.1 r i))] by rw[hb,Bool.or_false];exact hc2⟩,HF.out⟩)
  have HB:=zH hb
  clear hm2 hc2 h hb
  go_enter Tryz.func285,Tryz.ntmps285
  go_wp2_with fail
  refine HSET.out.mono ?_
  rw[HB.out]
  rintro e w3 ⟨rfl,rfl⟩
  go_wp2_with fail
  first | go_end0 | refine bodyPost_ret (results_none rfl _ _ _) rfl ?_
  exact FIN.out
 ·have hcc:=hc2.cell
  have hcf:=hc2.frozen
  have hcl:=hc2.lt
  have FIN:=zH (show zhk B fb sb P V cb (za7 s r i t) w (.returned (.tuple #[])) (w1.setCell ⟨cb,0,none⟩ (.bool true))from⟨rfl,⟨hm2.farB hc2 (by decide) (by decide) _,show Blk _ cb _ #[.bool (s.2||((s.1 r i|||t) != s.1 r i))] by rw[hb,Bool.or_true];exact(hc2.set_ 0 _).cast rfl⟩,HF.out.trans LkFr.setCb⟩)
  have HB:=zH hb
  clear hm2 hc2 h hb
  go_enter Tryz.func285,Tryz.ntmps285
  go_wp2_with fail
  refine HSET.out.mono ?_
  rw[HB.out]
  rintro e w3 ⟨rfl,rfl⟩
  go_wp2_with fail
  first | go_end0 | refine bodyPost_ret (results_none rfl _ _ _) rfl ?_
  exact FIN.out
end
section
open Go.RowKit Go.Maps Go.ChangeMaps Go.Shelf
set_option linter.unusedSimpArgs false
def FlRel (w:World)(n s:Nat)(v11:Value)(W:World):Prop:=∃ k:Nat,v11=.int .i64 k∧k≤n∧Blk W w.heap.size 381 (rowV n fun i=>if i<k then s else 0)∧Below w.heap.size w W∧W.heap.size=w.heap.size+1
def zpk (w:World)(n s:Nat)(e:Ending)(W:World):Prop:=e=.returned (.slice (some ⟨w.heap.size,0,none⟩) n n)∧Blk W w.heap.size 381 (rowV n fun _=>s)∧Below w.heap.size w W∧W.heap.size=w.heap.size+1
theorem set_info:∃ i,Tryz.prog.info? 381=some i∧i.zero=some (.int .u64 0)∧i.size=1∧i.bytes=8:=info_parts (by kernel_rfl)
theorem zh7 (n s:Nat)(w:World)(h1:1≤n)(hn:n≤1000)(hs:s<2 ^ 48) :
  Calls Tryz.prog 229 #[.int .i64 (n:Int),zaa s] w (zpk w n s):=by
 have hmk:(Instr.makeSlice 312 (.int .i64 (n:Int)) (.int .i64 (n:Int))).run Tryz.prog w=.ok (.slice (some ⟨w.heap.size,0,none⟩) n n) (w.alloc (.cells (rowV n fun _=>0) 381)):=by
  obtain⟨i,hi,hz,hz1,hz2⟩:=set_info
  have hr:=run_make (P:=Tryz.prog) w 312 381 i _ Tryz.underlying312 hi hz .i64 .i64 n n (by omega) (Int.le_refl _) (by rw[hz2];omega) (by omega)
  rw[hr,hz1]
  simp only[Int.toNat_natCast,Nat.mul_one]
  have e:madeCells (Value.int .u64 0).cells n=rowV n fun _=>0:=by
   apply Array.ext'
   simp[madeCells,rowV,Value.cells]
   intro a _
   rw[Nat.mod_one]
   rfl
  rw[e]
 have ST:=zH (show FlRel w n s (.int .i64 (0:Int)) (w.alloc (.cells (rowV n fun _=>0) 381))from⟨0,rfl,Nat.zero_le _,Blk.newAt rfl,(Below.refl _ _).alloc (Nat.le_refl _) _,by simp⟩)
 go_enter Tryz.func229,Tryz.ntmps229
 go_wp2_with fail
 clear hmk
 go_loopw [11] (fun v11 wr=>FlRel w n s v11 wr) (fun v11 _=>n-(intOf v11).toNat)
 case atStart=>exact ST.out
 case round =>
  obtain⟨k,rfl,hk,hb,hB,hz⟩:=hrel
  have hbc:=hb.cell
  have hbf:=hb.frozen
  have hbl:=hb.lt
  by_cases hlt:k<n
  ·have hck:wr.cell? ⟨w.heap.size,k,none⟩=some (zaa 0):=by rw[hbc,zss hlt,if_neg (by omega)]
   have hfk:=hbf k
   have REL:=zH (show FlRel w n s (.int .i64 ((k+1:Nat):Int)) (wr.setCell ⟨w.heap.size,k,none⟩ (zaa s))from⟨k+1,rfl,hlt,by
    have h:=hb.set_ k (zaa s)
    rw[zqd]at h
    refine h.cast ?_
    congr 1
    funext i
    by_cases e:i=k
    ·subst e;simp
    ·rw[if_neg e]
     by_cases e2:i<k
     ·rw[if_pos e2,if_pos (by omega)]
     ·rw[if_neg e2,if_neg (by omega)],hB.setCell (p:=⟨w.heap.size,k,none⟩) (Nat.le_refl _) _,by simpa [World.setCell] using hz⟩)
   clear hbc hbf hb hB hz
   go_wp2_with fail
   go_roundw
   case rel=>rw[show((k:Int)+1)=((k+1:Nat):Int) by omega];exact REL.out
   case measure=>simp only[intOf];omega
  ·obtain rfl:k=n:=by omega
   have FIN:=zH (show zpk w k s (.returned (.slice (some ⟨w.heap.size,0,none⟩) k k)) wr from⟨rfl,by
    refine hb.cast ?_
    apply Array.ext'
    simp only[rowV]
    refine List.map_congr_left fun i hi=>?_
    rw[if_pos (by simpa using hi)],hB,hz⟩)
   clear hbc hbf hb hB hz
   go_wp2_with fail
   go_ret
   exact FIN.out
structure WfLk (P:Pr):Prop where
 io:∀ (k:Nat) (i:In),P.code[k]? = some i→InOk i
 mu:∀ (k:Nat) (i:In),P.code[k]? = some i→i.op=9∨i.op=10→i.var<3
 gs:∀ (k:Nat) (i:In),P.code[k]? = some i→i.op=7→P.gos[i.site]? = some k
structure LkX (C:AX)(wf:World)(VF:FV)(Rs Bs:List Nat):Prop where
 f:zec C wf VF Rs Bs
 w:WfLk C.P
def zdl (f:LF)(i:In):Nat:=if i.op=10 then 2 ^ i.var else if i.op=11 then f 3 i.call else 0
def zes (on:Nat→Bool):List In→Nat→LS→LS
 | [],_,s=>s
 | i::l,k,s=>zes on l (k+1) (if on k then za7 s 3 i.fn (zdl s.1 i)else s)
def zol (C:AX)(wf:World)(VF:FV)(sb:Nat)(V:LkV)(s:LS)(w:World)(e:Ending)(W:World):Prop:=e=.returned (.bool s.2)∧LkM W wf.heap.size VF.fb sb C.P V s.1∧LkFr V (V.g 3) w W
def DrR (C:AX)(wf:World)(VF:FV)(sb:Nat)(V:LkV)(w:World)(M:LS)(v3 v18:Value)(W:World):Prop :=
 ∃ (k:Nat) (s:LS),v18=.int .i64 k∧v3=.bool s.2∧k≤C.P.code.length∧LkM W wf.heap.size VF.fb sb C.P V s.1∧LkFr V (V.g 3) w W∧zes (onB C.P) (C.P.code.drop k) k s=M
theorem zuy (C:AX)(wf:World)(VF:FV)(Rs Bs:List Nat)(X:LkX C wf VF Rs Bs)(sb:Nat)(V:LkV)(f:LF)(w:World)(h:LkM w wf.heap.size VF.fb sb C.P V f)(hb:Below wf.heap.size wf w) :
  Calls Tryz.prog 230 #[.pointer (some ⟨V.xb,0,none⟩)] w (zol C wf VF sb V (zes (onB C.P) C.P.code 0 (f,false)) w):=by
 have HF:=zH (fun(W':World) (hb:Below wf.heap.size wf W')=>(X.f.below hb (Nat.le_refl _)).f.h)
 have HC:=X.f.f.h.c
 have hcl:=HC.wf.cl
 have hfl5:=HC.wf.fl
 have HON:=zH (show ∀ W',LkFr V (V.g 3) w W'→Below wf.heap.size wf W' from fun W' hf=>hb.trans (hf.base h.bB.2 (h.bB.2 3 (by omega)) hb.size))
 have ST:=zH (show DrR C wf VF sb V w (zes (onB C.P) C.P.code 0 (f,false)) (.bool false) (.int .i64 (0:Int)) w from⟨0,(f,false),rfl,rfl,Nat.zero_le _,h,LkFr.refl _ _ _,by rw[List.drop_zero]⟩)
 obtain⟨hfc,hpc⟩:=(HF.out w hb).cells
 have hfl:=(HF.out w hb).f.lt
 have hxc:=h.x.cell
 unfold zcl at hxc
 have hxl:=h.x.lt
 generalize zes (onB C.P) C.P.code 0 (f,false)=M at ST ⊢
 clear hb h
 go_enter Tryz.func230,Tryz.ntmps230
 go_wp2_with fail
 clear hfc hpc hfl hxc hxl
 go_loopw [3,18] (fun v3 v18 wr=>DrR C wf VF sb V w M v3 v18 wr) (fun _ v18 _=>C.P.code.length-(intOf v18).toNat)
 case atStart=>exact ST.out
 case round =>
  obtain⟨k,s,rfl,rfl,hk,hL,hfr,hM⟩:=hrel
  have HL:=zH hL
  have HFR:=zH hfr
  have HM:=zH hM
  have HBW:=zH (HON.out wr hfr)
  have HFr:=zH (HF.out wr HBW.out)
  obtain⟨hfc,hpc⟩:=HFr.out.cells
  have hfl:=HFr.out.f.lt
  have hxc:=hL.x.cell
  unfold zcl at hxc
  have hxl:=hL.x.lt
  clear hL hfr hM
  by_cases hlt:k<C.P.code.length
  ·obtain⟨i,hi⟩:∃ i,C.P.code[k]? = some i:=⟨_,List.getElem?_eq_getElem hlt⟩
   obtain⟨aa,ac,hic,har,hkl⟩:=HC.icells HFr.out.onw hi
   have i0:wr.cell? ⟨C.cg,k*14,none⟩=some (.int .i64 i.op):=hic 0 (by omega)
   have i1:wr.cell? ⟨C.cg,k*14+1,none⟩=some (.int .i64 i.place):=hic 1 (by omega)
   have i2:wr.cell? ⟨C.cg,k*14+2,none⟩=some (.int .i64 i.fn):=hic 2 (by omega)
   have i3:wr.cell? ⟨C.cg,k*14+3,none⟩=some (.int .i64 i.x):=hic 3 (by omega)
   have i4:wr.cell? ⟨C.cg,k*14+4,none⟩=some (.bool i.y.c):=hic 4 (by omega)
   have i5:wr.cell? ⟨C.cg,k*14+5,none⟩=some (.int .i64 i.y.n):=hic 5 (by omega)
   have i6:wr.cell? ⟨C.cg,k*14+6,none⟩=some (.bool i.z.c):=hic 6 (by omega)
   have i7:wr.cell? ⟨C.cg,k*14+7,none⟩=some (.int .i64 i.z.n):=hic 7 (by omega)
   have i8:wr.cell? ⟨C.cg,k*14+8,none⟩=some (.int .i64 i.bin):=hic 8 (by omega)
   have i9:wr.cell? ⟨C.cg,k*14+9,none⟩=some (.int .i64 i.var):=hic 9 (by omega)
   have i10:wr.cell? ⟨C.cg,k*14+10,none⟩=some (.int .i64 i.site):=hic 10 (by omega)
   have i11:wr.cell? ⟨C.cg,k*14+11,none⟩=some (.int .i64 i.call):=hic 11 (by omega)
   have i12:wr.cell? ⟨C.cg,k*14+12,none⟩=some (.slice aa i.args.length ac):=hic 12 (by omega)
   have i13:wr.cell? ⟨C.cg,k*14+13,none⟩=some (.int .i64 i.to):=hic 13 (by omega)
   have HI:=zH hi
   have HMd:=zH (show zes (onB C.P) (C.P.code.drop (k+1)) (k+1) (if onB C.P k then za7 s 3 i.fn (zdl s.1 i)else s)=M from by rw[← HM.out,zcc hi,zes])
   have hbi:Below wr.heap.size wr (wr.alloc (.cells #[.int .i64 (i.op:Int),.int .i64 i.place,.int .i64 (i.fn:Int),.int .i64 i.x,.bool i.y.c,.int .i64 (i.y.n:Int),.bool i.z.c,.int .i64 (i.z.n:Int),.int .i64 (i.bin:Int),.int .i64 (i.var:Int),.int .i64 (i.site:Int),.int .i64 (i.call:Int),.slice aa i.args.length ac,.int .i64 (i.to:Int)] 309)):=(Below.refl _ _).alloc (Nat.le_refl _) _
   have hib:Blk (wr.alloc (.cells #[.int .i64 (i.op:Int),.int .i64 i.place,.int .i64 (i.fn:Int),.int .i64 i.x,.bool i.y.c,.int .i64 (i.y.n:Int),.bool i.z.c,.int .i64 (i.z.n:Int),.int .i64 (i.bin:Int),.int .i64 (i.var:Int),.int .i64 (i.site:Int),.int .i64 (i.call:Int),.slice aa i.args.length ac,.int .i64 (i.to:Int)] 309)) wr.heap.size 309 #[.int .i64 (i.op:Int),.int .i64 i.place,.int .i64 (i.fn:Int),.int .i64 i.x,.bool i.y.c,.int .i64 (i.y.n:Int),.bool i.z.c,.int .i64 (i.z.n:Int),.int .i64 (i.bin:Int),.int .i64 (i.var:Int),.int .i64 (i.site:Int),.int .i64 (i.call:Int),.slice aa i.args.length ac,.int .i64 (i.to:Int)]:=Blk.newAt rfl
   clear hic hi HM har
   go_wp2_with fail
   generalize hW:wr.alloc (.cells #[.int .i64 (i.op:Int),.int .i64 i.place,.int .i64 (i.fn:Int),.int .i64 i.x,.bool i.y.c,.int .i64 (i.y.n:Int),.bool i.z.c,.int .i64 (i.z.n:Int),.int .i64 (i.bin:Int),.int .i64 (i.var:Int),.int .i64 (i.site:Int),.int .i64 (i.call:Int),.slice aa i.args.length ac,.int .i64 (i.to:Int)] 309)=wi at hbi hib ⊢
   obtain⟨ib,hibe⟩:∃ ib,ib=wr.heap.size:=⟨_,rfl⟩
   rw[← hibe]at hib ⊢
   clear hW i0 i1 i2 i3 i4 i5 i6 i7 i8 i9 i10 i11 i12 i13 hfc hpc hfl hxc hxl hibe
   have HLi:=zH (HL.out.below hbi)
   have HFRi:=zH (HFR.out.trans (LkFr.below hbi))
   have HFi:=zH (HF.out wi (HON.out wi HFRi.out))
   have HIB:=zH hib
   clear hbi hib HL HFR HFr HBW
   refine(hasE _ VF.onb k (onB C.P) HFi.out.on (by omega)).mono ?_
   rintro e w2 ⟨rfl,rfl⟩
   cases hon:onB C.P k
   ·have REL:=zH (show DrR C wf VF sb V w M (.bool s.2) (.int .i64 ((k+1:Nat):Int)) wi from⟨k+1,s,rfl,rfl,hlt,HLi.out,HFRi.out,by have:=HMd.out;rw[hon]at this;exact this⟩)
    clear hon
    go_wp2_with fail
    go_roundw
    case rel=>rw[show((k:Int)+1)=((k+1:Nat):Int) by omega];exact REL.out
    case measure=>simp only[intOf];omega
   ·have HMe:=zH (show zes (onB C.P) (C.P.code.drop (k+1)) (k+1) (za7 s 3 i.fn (zdl s.1 i))=M from by have:=HMd.out;rw[hon]at this;exact this)
    clear hon HMd
    have hio:=X.w.io k i HI.out
    have hfn:=HC.wf.fn k i HI.out
    have hibc:=HIB.out.cell
    have hibl:=HIB.out.lt
    by_cases h10:i.op=10
    ·have o10:((i.op:Int)==10)=true:=by rw[h10];rfl
     have hv3:=X.w.mu k i HI.out (.inr h10)
     have HD:=zH (show zdl s.1 i=2 ^ i.var by unfold zdl;rw[if_pos h10])
     have hb48:2 ^ i.var<2 ^ 48:=Nat.pow_lt_pow_right (by omega) (by omega)
     have hbe:Below wi.heap.size wi (wi.alloc (.cells #[.int .i64 (i.var:Int)] 3)):=(Below.refl _ _).alloc (Nat.le_refl _) _
     have hsl:Blk (wi.alloc (.cells #[.int .i64 (i.var:Int)] 3)) wi.heap.size 3 #[.int .i64 (i.var:Int)]:=Blk.newAt rfl
     clear h10
     go_wp2_with fail
     refine(zg0 i.var wi.heap.size 1 _ (by omega) (hsl.cell 0)).mono ?_
     rintro e w4 ⟨rfl,hw4⟩
     subst hw4
     have HLt:=zH (HLi.out.below hbe)
     have HFRt:=zH (HFRi.out.trans (LkFr.below hbe))
     have HIBt:=zH (HIB.out.below hbe HIB.out.lt)
     clear hibc hibl hsl
     generalize wi.alloc (.cells #[.int .i64 (i.var:Int)] 3)=wt at HLt HFRt HIBt hbe ⊢
     clear hbe HLi HFRi HFi HIB
     go_wp2_with fail
     refine zah 8 (fun(W':World)=>(∀ j,W'.cell? ⟨V.xb,j,none⟩=#[.pointer (some ⟨VF.fb,0,none⟩),.pointer (some ⟨sb,0,none⟩),.slice (some ⟨V.g 0,0,none⟩) C.P.code.length C.P.code.length,.slice (some ⟨V.g 1,0,none⟩) C.P.fs.length C.P.fs.length,.slice (some ⟨V.g 2,0,none⟩) C.P.fs.length C.P.fs.length,.slice (some ⟨V.g 3,0,none⟩) C.P.fs.length C.P.fs.length,.slice (some ⟨V.g 4,0,none⟩) C.P.code.length C.P.code.length,.slice (some ⟨V.g 5,0,none⟩) C.P.fs.length C.P.fs.length,.slice (some ⟨V.g 6,0,none⟩) C.P.fs.length C.P.fs.length][j]?)∧W'.cell? ⟨ib,2,none⟩=some (.int .i64 (i.fn:Int))) (by kernel_rfl) rfl rfl (by kernel_rfl) ?_
     simp only[List.take_succ_cons,List.take_zero]
     have hHeld:=And.intro (show ∀ j,wt.drew.cell? ⟨V.xb,j,none⟩=#[.pointer (some ⟨VF.fb,0,none⟩),.pointer (some ⟨sb,0,none⟩),.slice (some ⟨V.g 0,0,none⟩) C.P.code.length C.P.code.length,.slice (some ⟨V.g 1,0,none⟩) C.P.fs.length C.P.fs.length,.slice (some ⟨V.g 2,0,none⟩) C.P.fs.length C.P.fs.length,.slice (some ⟨V.g 3,0,none⟩) C.P.fs.length C.P.fs.length,.slice (some ⟨V.g 4,0,none⟩) C.P.code.length C.P.code.length,.slice (some ⟨V.g 5,0,none⟩) C.P.fs.length C.P.fs.length,.slice (some ⟨V.g 6,0,none⟩) C.P.fs.length C.P.fs.length][j]? from HLt.out.x.cell) (HIBt.out.drew.cell 2)
     iterate 8(refine tk 0 rfl (by kernel_rfl) (fun _ _ _ h=>h) hHeld (fun w hSw=>by go_simp;try with_reducible rfl) (by simp only[pA,pB,pC,pD,pE,pF,pG,pH];exact rfl) ?_)
     refine lst (by kernel_rfl) rfl fun K hK=>?_
     go_simp
     have hdd:Below wt.heap.size wt wt.drew:=(Below.refl _ _).drew
     have hLd:=HLt.out.below hdd
     have hli:i.fn<za8 C.P 3:=by unfold za8;simpa using hfn
     refine(zhx (s.1 3 i.fn) (2 ^ i.var) ⟨V.g 3,i.fn,none⟩ wt.drew (hLd.sm 3 i.fn) hb48 (hLd.cell (by omega) hli) ((hLd.r 3 (by omega)).frozen i.fn)).mono ?_
     rintro e w5 ⟨rfl,rfl⟩
     have hL5:=hLd.set (r:=3) (i:=i.fn) (v:=s.1 3 i.fn|||(2 ^ i.var)) (by omega) (Nat.or_lt_two_pow (hLd.sm 3 i.fn) hb48)
     have hF5:LkFr V (V.g 3) w (wt.drew.setCell ⟨V.g 3,i.fn,none⟩ (zaa (s.1 3 i.fn|||(2 ^ i.var)))):=HFRt.out.trans ((LkFr.below hdd).trans (LkFr.setRow (by omega)))
     refine hK _ _ ?_
     clear hK K hHeld hdd hLd hli
     generalize wt.drew.setCell ⟨V.g 3,i.fn,none⟩ (zaa (s.1 3 i.fn|||(2 ^ i.var)))=w5 at hL5 hF5 ⊢
     cases hbb:((s.1 3 i.fn|||(2 ^ i.var)) != s.1 3 i.fn)
     ·have REL:=zH (show DrR C wf VF sb V w M (.bool s.2) (.int .i64 ((k+1:Nat):Int)) w5 from⟨k+1,za7 s 3 i.fn (zdl s.1 i),rfl,by rw[HD.out];simp only[za7];rw[hbb,Bool.or_false],hlt,by rw[HD.out];exact hL5,hF5,HMe.out⟩)
      clear hbb hL5 hF5
      go_wp2_with fail
      go_roundw
      case rel=>rw[show((k:Int)+1)=((k+1:Nat):Int) by omega];exact REL.out
      case measure=>simp only[intOf];omega
     ·have REL:=zH (show DrR C wf VF sb V w M (.bool true) (.int .i64 ((k+1:Nat):Int)) w5 from⟨k+1,za7 s 3 i.fn (zdl s.1 i),rfl,by rw[HD.out];simp only[za7];rw[hbb,Bool.or_true],hlt,by rw[HD.out];exact hL5,hF5,HMe.out⟩)
      clear hbb hL5 hF5
      go_wp2_with fail
      go_roundw
      case rel=>rw[show((k:Int)+1)=((k+1:Nat):Int) by omega];exact REL.out
      case measure=>simp only[intOf];omega
    ·have o10:((i.op:Int)==10)=false:=zai (by omega)
     by_cases h11:i.op=11
     ·have o11:((i.op:Int)==11)=true:=by rw[h11];rfl
      have HD:=zH (show zdl s.1 i=s.1 3 i.call by unfold zdl;rw[if_neg h10,if_pos h11])
      obtain⟨fu,hfu,_⟩:=HC.wf.call k i HI.out (.inl h11)
      have hca:i.call<C.P.fs.length:=(List.getElem?_eq_some_iff.1 hfu).1
      have hb48:s.1 3 i.call<2 ^ 48:=HLi.out.sm _ _
      clear h10 h11 hfu
      go_wp2_with fail
      have hHeld:=And.intro (show ∀ j,wi.drew.cell? ⟨V.xb,j,none⟩=#[.pointer (some ⟨VF.fb,0,none⟩),.pointer (some ⟨sb,0,none⟩),.slice (some ⟨V.g 0,0,none⟩) C.P.code.length C.P.code.length,.slice (some ⟨V.g 1,0,none⟩) C.P.fs.length C.P.fs.length,.slice (some ⟨V.g 2,0,none⟩) C.P.fs.length C.P.fs.length,.slice (some ⟨V.g 3,0,none⟩) C.P.fs.length C.P.fs.length,.slice (some ⟨V.g 4,0,none⟩) C.P.code.length C.P.code.length,.slice (some ⟨V.g 5,0,none⟩) C.P.fs.length C.P.fs.length,.slice (some ⟨V.g 6,0,none⟩) C.P.fs.length C.P.fs.length][j]? from HLi.out.x.cell) (And.intro (HIB.out.drew.cell 11) ((HLi.out.below (Below.refl _ wi).drew).cell (r:=3) (i:=i.call) (by omega) (by unfold za8;simpa using hca)))
      clear hibc hibl
      refine zah 8 (fun(W':World)=>(∀ j,W'.cell? ⟨V.xb,j,none⟩=#[.pointer (some ⟨VF.fb,0,none⟩),.pointer (some ⟨sb,0,none⟩),.slice (some ⟨V.g 0,0,none⟩) C.P.code.length C.P.code.length,.slice (some ⟨V.g 1,0,none⟩) C.P.fs.length C.P.fs.length,.slice (some ⟨V.g 2,0,none⟩) C.P.fs.length C.P.fs.length,.slice (some ⟨V.g 3,0,none⟩) C.P.fs.length C.P.fs.length,.slice (some ⟨V.g 4,0,none⟩) C.P.code.length C.P.code.length,.slice (some ⟨V.g 5,0,none⟩) C.P.fs.length C.P.fs.length,.slice (some ⟨V.g 6,0,none⟩) C.P.fs.length C.P.fs.length][j]?)∧W'.cell? ⟨ib,11,none⟩=some (.int .i64 (i.call:Int))∧W'.cell? ⟨V.g 3,i.call,none⟩=some (zaa (s.1 3 i.call))) (by kernel_rfl) rfl rfl (by kernel_rfl) ?_
      simp only[List.take_succ_cons,List.take_zero]
      iterate 8(refine tk 0 rfl (by kernel_rfl) (fun _ _ _ h=>h) hHeld (fun w hSw=>by go_simp;try with_reducible rfl) (by simp only[pA,pB,pC,pD,pE,pF,pG,pH];exact rfl) ?_)
      refine lst (by kernel_rfl) rfl fun K hK=>?_
      go_simp
      refine hK _ _ ?_
      clear hK hHeld
      have hbe:Below wi.heap.size wi wi.drew:=(Below.refl _ _).drew
      have HLt:=zH (HLi.out.below hbe)
      have HFRt:=zH (HFRi.out.trans (LkFr.below hbe))
      have HIBt:=zH (HIB.out.below hbe HIB.out.lt)
      generalize wi.drew=wt at HLt HFRt HIBt hbe ⊢
      clear hbe HLi HFRi HFi HIB
      go_wp2_with fail
      refine zah 8 (fun(W':World)=>(∀ j,W'.cell? ⟨V.xb,j,none⟩=#[.pointer (some ⟨VF.fb,0,none⟩),.pointer (some ⟨sb,0,none⟩),.slice (some ⟨V.g 0,0,none⟩) C.P.code.length C.P.code.length,.slice (some ⟨V.g 1,0,none⟩) C.P.fs.length C.P.fs.length,.slice (some ⟨V.g 2,0,none⟩) C.P.fs.length C.P.fs.length,.slice (some ⟨V.g 3,0,none⟩) C.P.fs.length C.P.fs.length,.slice (some ⟨V.g 4,0,none⟩) C.P.code.length C.P.code.length,.slice (some ⟨V.g 5,0,none⟩) C.P.fs.length C.P.fs.length,.slice (some ⟨V.g 6,0,none⟩) C.P.fs.length C.P.fs.length][j]?)∧W'.cell? ⟨ib,2,none⟩=some (.int .i64 (i.fn:Int))) (by kernel_rfl) rfl rfl (by kernel_rfl) ?_
      simp only[List.take_succ_cons,List.take_zero]
      have hHeld:=And.intro (show ∀ j,wt.drew.cell? ⟨V.xb,j,none⟩=#[.pointer (some ⟨VF.fb,0,none⟩),.pointer (some ⟨sb,0,none⟩),.slice (some ⟨V.g 0,0,none⟩) C.P.code.length C.P.code.length,.slice (some ⟨V.g 1,0,none⟩) C.P.fs.length C.P.fs.length,.slice (some ⟨V.g 2,0,none⟩) C.P.fs.length C.P.fs.length,.slice (some ⟨V.g 3,0,none⟩) C.P.fs.length C.P.fs.length,.slice (some ⟨V.g 4,0,none⟩) C.P.code.length C.P.code.length,.slice (some ⟨V.g 5,0,none⟩) C.P.fs.length C.P.fs.length,.slice (some ⟨V.g 6,0,none⟩) C.P.fs.length C.P.fs.length][j]? from HLt.out.x.cell) (HIBt.out.drew.cell 2)
      iterate 8(refine tk 0 rfl (by kernel_rfl) (fun _ _ _ h=>h) hHeld (fun w hSw=>by go_simp;try with_reducible rfl) (by simp only[pA,pB,pC,pD,pE,pF,pG,pH];exact rfl) ?_)
      refine lst (by kernel_rfl) rfl fun K hK=>?_
      go_simp
      have hdd:Below wt.heap.size wt wt.drew:=(Below.refl _ _).drew
      have hLd:=HLt.out.below hdd
      have hli:i.fn<za8 C.P 3:=by unfold za8;simpa using hfn
      refine(zhx (s.1 3 i.fn) (s.1 3 i.call) ⟨V.g 3,i.fn,none⟩ wt.drew (hLd.sm 3 i.fn) hb48 (hLd.cell (by omega) hli) ((hLd.r 3 (by omega)).frozen i.fn)).mono ?_
      rintro e w5 ⟨rfl,rfl⟩
      have hL5:=hLd.set (r:=3) (i:=i.fn) (v:=s.1 3 i.fn|||(s.1 3 i.call)) (by omega) (Nat.or_lt_two_pow (hLd.sm 3 i.fn) hb48)
      have hF5:LkFr V (V.g 3) w (wt.drew.setCell ⟨V.g 3,i.fn,none⟩ (zaa (s.1 3 i.fn|||(s.1 3 i.call)))):=HFRt.out.trans ((LkFr.below hdd).trans (LkFr.setRow (by omega)))
      refine hK _ _ ?_
      clear hK K hHeld hdd hLd hli
      generalize wt.drew.setCell ⟨V.g 3,i.fn,none⟩ (zaa (s.1 3 i.fn|||(s.1 3 i.call)))=w5 at hL5 hF5 ⊢
      cases hbb:((s.1 3 i.fn|||(s.1 3 i.call)) != s.1 3 i.fn)
      ·have REL:=zH (show DrR C wf VF sb V w M (.bool s.2) (.int .i64 ((k+1:Nat):Int)) w5 from⟨k+1,za7 s 3 i.fn (zdl s.1 i),rfl,by rw[HD.out];simp only[za7];rw[hbb,Bool.or_false],hlt,by rw[HD.out];exact hL5,hF5,HMe.out⟩)
       clear hbb hL5 hF5
       go_wp2_with fail
       go_roundw
       case rel=>rw[show((k:Int)+1)=((k+1:Nat):Int) by omega];exact REL.out
       case measure=>simp only[intOf];omega
      ·have REL:=zH (show DrR C wf VF sb V w M (.bool true) (.int .i64 ((k+1:Nat):Int)) w5 from⟨k+1,za7 s 3 i.fn (zdl s.1 i),rfl,by rw[HD.out];simp only[za7];rw[hbb,Bool.or_true],hlt,by rw[HD.out];exact hL5,hF5,HMe.out⟩)
       clear hbb hL5 hF5
       go_wp2_with fail
       go_roundw
       case rel=>rw[show((k:Int)+1)=((k+1:Nat):Int) by omega];exact REL.out
       case measure=>simp only[intOf];omega
     ·have o11:((i.op:Int)==11)=false:=zai (by omega)
      have HD:=zH (show zdl s.1 i=0 by unfold zdl;rw[if_neg h10,if_neg h11])
      have hb48:0<2 ^ 48:=by omega
      clear h10 h11
      go_wp2_with fail
      have HLt:=HLi
      have HFRt:=HFRi
      have HIBt:=HIB
      clear hibc hibl HLi HFRi HFi HIB
      generalize wi=wt at HLt HFRt HIBt ⊢
      refine zah 8 (fun(W':World)=>(∀ j,W'.cell? ⟨V.xb,j,none⟩=#[.pointer (some ⟨VF.fb,0,none⟩),.pointer (some ⟨sb,0,none⟩),.slice (some ⟨V.g 0,0,none⟩) C.P.code.length C.P.code.length,.slice (some ⟨V.g 1,0,none⟩) C.P.fs.length C.P.fs.length,.slice (some ⟨V.g 2,0,none⟩) C.P.fs.length C.P.fs.length,.slice (some ⟨V.g 3,0,none⟩) C.P.fs.length C.P.fs.length,.slice (some ⟨V.g 4,0,none⟩) C.P.code.length C.P.code.length,.slice (some ⟨V.g 5,0,none⟩) C.P.fs.length C.P.fs.length,.slice (some ⟨V.g 6,0,none⟩) C.P.fs.length C.P.fs.length][j]?)∧W'.cell? ⟨ib,2,none⟩=some (.int .i64 (i.fn:Int))) (by kernel_rfl) rfl rfl (by kernel_rfl) ?_
      simp only[List.take_succ_cons,List.take_zero]
      have hHeld:=And.intro (show ∀ j,wt.drew.cell? ⟨V.xb,j,none⟩=#[.pointer (some ⟨VF.fb,0,none⟩),.pointer (some ⟨sb,0,none⟩),.slice (some ⟨V.g 0,0,none⟩) C.P.code.length C.P.code.length,.slice (some ⟨V.g 1,0,none⟩) C.P.fs.length C.P.fs.length,.slice (some ⟨V.g 2,0,none⟩) C.P.fs.length C.P.fs.length,.slice (some ⟨V.g 3,0,none⟩) C.P.fs.length C.P.fs.length,.slice (some ⟨V.g 4,0,none⟩) C.P.code.length C.P.code.length,.slice (some ⟨V.g 5,0,none⟩) C.P.fs.length C.P.fs.length,.slice (some ⟨V.g 6,0,none⟩) C.P.fs.length C.P.fs.length][j]? from HLt.out.x.cell) (HIBt.out.drew.cell 2)
      iterate 8(refine tk 0 rfl (by kernel_rfl) (fun _ _ _ h=>h) hHeld (fun w hSw=>by go_simp;try with_reducible rfl) (by simp only[pA,pB,pC,pD,pE,pF,pG,pH];exact rfl) ?_)
      refine lst (by kernel_rfl) rfl fun K hK=>?_
      go_simp
      have hdd:Below wt.heap.size wt wt.drew:=(Below.refl _ _).drew
      have hLd:=HLt.out.below hdd
      have hli:i.fn<za8 C.P 3:=by unfold za8;simpa using hfn
      refine(zhx (s.1 3 i.fn) 0 ⟨V.g 3,i.fn,none⟩ wt.drew (hLd.sm 3 i.fn) hb48 (hLd.cell (by omega) hli) ((hLd.r 3 (by omega)).frozen i.fn)).mono ?_
      rintro e w5 ⟨rfl,rfl⟩
      have hL5:=hLd.set (r:=3) (i:=i.fn) (v:=s.1 3 i.fn|||0) (by omega) (Nat.or_lt_two_pow (hLd.sm 3 i.fn) hb48)
      have hF5:LkFr V (V.g 3) w (wt.drew.setCell ⟨V.g 3,i.fn,none⟩ (zaa (s.1 3 i.fn|||0))):=HFRt.out.trans ((LkFr.below hdd).trans (LkFr.setRow (by omega)))
      refine hK _ _ ?_
      clear hK K hHeld hdd hLd hli
      generalize wt.drew.setCell ⟨V.g 3,i.fn,none⟩ (zaa (s.1 3 i.fn|||0))=w5 at hL5 hF5 ⊢
      cases hbb:((s.1 3 i.fn|||0) != s.1 3 i.fn)
      ·have REL:=zH (show DrR C wf VF sb V w M (.bool s.2) (.int .i64 ((k+1:Nat):Int)) w5 from⟨k+1,za7 s 3 i.fn (zdl s.1 i),rfl,by rw[HD.out];simp only[za7];rw[hbb,Bool.or_false],hlt,by rw[HD.out];exact hL5,hF5,HMe.out⟩)
       clear hbb hL5 hF5
       go_wp2_with fail
       go_roundw
       case rel=>rw[show((k:Int)+1)=((k+1:Nat):Int) by omega];exact REL.out
       case measure=>simp only[intOf];omega
      ·have REL:=zH (show DrR C wf VF sb V w M (.bool true) (.int .i64 ((k+1:Nat):Int)) w5 from⟨k+1,za7 s 3 i.fn (zdl s.1 i),rfl,by rw[HD.out];simp only[za7];rw[hbb,Bool.or_true],hlt,by rw[HD.out];exact hL5,hF5,HMe.out⟩)
       clear hbb hL5 hF5
       go_wp2_with fail
       go_roundw
       case rel=>rw[show((k:Int)+1)=((k+1:Nat):Int) by omega];exact REL.out
       case measure=>simp only[intOf];omega
  ·obtain rfl:k=C.P.code.length:=by omega
   have hs:s=M:=by rw[← HM.out,List.drop_length,zes]
   have FIN:=zH (show zol C wf VF sb V M w (.returned (.bool s.2)) wr from⟨by rw[hs],by rw[← hs];exact HL.out,HFR.out⟩)
   clear hs HM hfc hpc hfl hxc hxl
   go_wp2_with fail
   go_ret
   exact FIN.out
end
end Go.Proofs.YtkmcihhndgdhpaaGreat
