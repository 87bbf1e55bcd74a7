/- LkC: parts of the walk. -/
import Derived.Test.YtkmcihhndgdhpaaGreatWB2
import Derived.Deep.CutBlock
set_option maxRecDepth 100000
set_option maxHeartbeats 4000000
set_option linter.unusedSimpArgs false
set_option linter.unusedVariables false
namespace Go.Proofs.YtkmcihhndgdhpaaGreat
section
open Go.RowKit Go.Maps Go.ChangeMaps Go.Shelf
set_option linter.unusedSimpArgs false
theorem zno (a b:Nat)(ha:a<2 ^ 48)(hb:b<2 ^ 48):bits .andNot .u64 (a:Int) (b:Int)=((dif a b:Nat):Int):=by
 have e:((BitVec.ofInt 64 (a:Int)) &&& ~~~ (BitVec.ofInt 64 (b:Int))).toNat=dif a b:=by
  have h1:(BitVec.ofInt 64 (a:Int))=BitVec.ofNat 64 a:=by simp
  have h2:(BitVec.ofInt 64 (b:Int))=BitVec.ofNat 64 b:=by simp
  rw[h1,h2]
  apply Nat.eq_of_testBit_eq
  intro k
  rw[dif_bit,BitVec.testBit_toNat,BitVec.getLsbD_and,BitVec.getLsbD_not,BitVec.getLsbD_ofNat,BitVec.getLsbD_ofNat]
  by_cases hk:k<64
  ·simp[hk]
  ·have:a.testBit k=false:=Nat.testBit_lt_two_pow (Nat.lt_of_lt_of_le ha (Nat.pow_le_pow_right (by omega) (by omega)))
   simp[hk,this]
 show IntKind.u64.wrap (((BitVec.ofInt 64 (a:Int)) &&& ~~~ (BitVec.ofInt 64 (b:Int))).toNat:Int)=_
 rw[e]
 have:=ziv (b:=b) ha
 exact IntWalk.u64_in _ (by omega)
def zfw:List Fu→Nat→LS→LS
 | [],_,s=>s
 | f::l,g,s=>zfw l (g+1) (zb4 s 0 f.from_ (s.1 1 g))
def zca (s:LS)(k:Nat)(i:In):LS×Nat :=
 if i.op=9 then(s,s.1 0 k|||2 ^ i.var)
 else if i.op=10 then(s,dif (s.1 0 k) (2 ^ i.var))
 else if i.op=7 then(zb4 s 1 i.call 0,s.1 0 k)
 else if i.op=11 then(zb4 s 1 i.call (s.1 0 k),(zb4 s 1 i.call (s.1 0 k)).1 2 i.call|||dif (s.1 0 k) ((zb4 s 1 i.call (s.1 0 k)).1 3 i.call))
 else if i.op=12 then(zb4 s 2 i.fn (s.1 0 k),s.1 0 k)
 else(s,s.1 0 k)
def ze3 (r h:Nat):List Nat→LS→LS
 | [],s=>s
 | j::l,s=>ze3 r h l (zb4 s r j h)
def zet (P:Pr)(on:Nat→Bool):List In→Nat→LS→LS
 | [],_,s=>s
 | i::l,k,s=>zet P on l (k+1) (if on k then ze3 0 (zca s k i).2 (zap P k) (zca s k i).1 else s)
structure PsW (C:AX)(wf:World)(VF:FV)(sb:Nat)(V:LkV)(cb:Nat)(w:World)(s:LS)(W:World):Prop where
 k:LkS wf.heap.size VF.fb sb C.P V cb s W
 fr:LkFr V cb w W
section
variable {C:AX} {wf w W W':World} {VF:FV} {sb cb:Nat} {V:LkV} {s s':LS}
theorem PsW.below (h:PsW C wf VF sb V cb w s W)(hb:Below W.heap.size W W'):PsW C wf VF sb V cb w s W' :=
 ⟨⟨h.k.m.below hb,h.k.c.below hb h.k.c.lt⟩,h.fr.trans (LkFr.below hb)⟩
theorem PsW.drew (h:PsW C wf VF sb V cb w s W):PsW C wf VF sb V cb w s W.drew:=h.below (Below.refl _ _).drew
theorem PsW.step (h:PsW C wf VF sb V cb w s W){e:Ending}(hs:zhk wf.heap.size VF.fb sb C.P V cb s' W e W'):e=.returned (.tuple #[])∧PsW C wf VF sb V cb w s' W':=⟨hs.1,hs.2.1,h.fr.trans hs.2.2⟩
theorem PsW.below0 (h:PsW C wf VF sb V cb w s W)(hb:Below wf.heap.size wf w)(hc:wf.heap.size≤cb):Below wf.heap.size wf W :=
 hb.trans (h.fr.base h.k.m.bB.2 hc hb.size)
end
theorem zr4 {w w5:World}{B fb sb cb:Nat}{P:Pr}{V:LkV}{s:LS}{v:Value}{l:List Nat}(h:LkS B fb sb P V cb s w)(hr:w5.ownsRow w.heap.size 3 1 v l.length (ints l)) :
  ∃ va vc,v=.slice va l.length vc∧∀ (j x:Nat),l[j]? = some x→∃ gb,va=some ⟨gb,0,none⟩∧∀ W,LkFr V cb w5 W→W.cell? ⟨gb,j,none⟩=some (.int .i64 (x:Int)):=by
 obtain⟨va,vc,rfl⟩:=zbx hr
 refine⟨va,vc,rfl,fun j x hj=>?_⟩
 have hlt:j<l.length:=(List.getElem?_eq_some_iff.1 hj).1
 obtain⟨gb,gc,hva,hgB,hgl⟩:=hr.form (by omega)
 injection hva with h1 h2 h3
 subst h1
 refine⟨gb,rfl,fun W hW=>?_⟩
 obtain⟨cs,hcs⟩:=zba hr (k:=gb) rfl
 have hW':=hcs.lkfr hW (by have:=h.c.lt;omega) (fun r hr e=>by have:=(h.m.r r hr).lt;omega)
 rw[(hW'.cell j).trans (hcs.cell j).symm,hr.cellAt j (by omega)]
 simp[ints,hj]
def zi8 (C:AX)(wf:World)(VF:FV)(sb:Nat)(V:LkV)(s:LS)(w:World)(e:Ending)(W:World):Prop:=e=.returned (.bool s.2)∧LkM W wf.heap.size VF.fb sb C.P V s.1∧LkFr V (V.g 3) w W
theorem PsW.post {C:AX}{wf w W:World}{VF:FV}{sb cb:Nat}{V:LkV}{s:LS}(h:PsW C wf VF sb V cb w s W)(hc:w.heap.size≤cb):zi8 C wf VF sb V s w (.returned (.bool s.2)) W :=
 ⟨rfl,h.k.m,h.fr.os,h.fr.tape,h.fr.output,h.fr.size,fun k a _ c=>h.fr.same k a (by omega) c⟩
def PsF (C:AX)(wf:World)(VF:FV)(sb:Nat)(V:LkV)(cb:Nat)(w:World)(M:LS)(v24:Value)(W:World):Prop :=
 ∃ (g:Nat) (s:LS),v24=.int .i64 g∧g≤C.P.fs.length∧PsW C wf VF sb V cb w s W∧zfw (C.P.fs.drop g) g s=M
def PsR (C:AX)(wf:World)(VF:FV)(sb:Nat)(V:LkV)(cb:Nat)(w:World)(M:LS)(gk:Nat)(v57:Value)(W:World):Prop :=
 ∃ (k:Nat) (s:LS),v57=.int .i64 k∧gk=C.P.code.length-k∧k≤C.P.code.length∧PsW C wf VF sb V cb w s W∧zet C.P (onB C.P) (C.P.code.drop k) k s=M
def PsN (C:AX)(wf:World)(VF:FV)(sb:Nat)(V:LkV)(cb:Nat)(w w5:World)(l:List Nat)(h:Nat)(M:LS)(gk:Nat)(v158:Value)(W:World):Prop :=
 ∃ (j:Nat) (s:LS),v158=.int .i64 j∧gk=l.length-j∧j≤l.length∧PsW C wf VF sb V cb w s W∧LkFr V cb w5 W∧ze3 0 h (l.drop j) s=M
theorem pass_any (C:AX)(wf:World)(VF:FV)(Rs Bs:List Nat)(X:LkX C wf VF Rs Bs)(sb:Nat)(V:LkV)(f:LF)(w:World)(h:LkM w wf.heap.size VF.fb sb C.P V f)(hb:Below wf.heap.size wf w) :
  Calls Tryz.prog 231 #[.pointer (some ⟨V.xb,0,none⟩)] w (zi8 C wf VF sb V (zet C.P (onB C.P) C.P.code 0 (zfw C.P.fs 0 (f,false))) w):=by
 have hmf:∀ (fn:Fn) (first cap:Array Value) (w:World),(Instr.makeFunc fn first cap).run Tryz.prog w=.ok (.func fn first cap) w:=fun _ _ _ _=>rfl
 have HF:=zH (fun(W':World) (hb:Below wf.heap.size wf W')=>(X.f.below hb (Nat.le_refl _)).f.h)
 have HC:=X.f.f.h.c
 have hcl:=HC.wf.cl
 have hfl5:=HC.wf.fl
 obtain⟨cb,hcb⟩:∃ cb,cb=w.heap.size:=⟨_,rfl⟩
 have HCB:=zH (show w.heap.size≤cb by omega)
 have HON:=zH (show ∀ s W',PsW C wf VF sb V cb w s W'→Below wf.heap.size wf W' from fun s W' hp=>hp.below0 hb (by have:=hb.size;omega))
 have hb0:Below w.heap.size w (w.alloc (.cells #[.bool false] 4)):=(Below.refl _ _).alloc (Nat.le_refl _) _
 have HP0:=zH (show PsW C wf VF sb V cb w (f,false) (w.alloc (.cells #[.bool false] 4))from⟨⟨h.below hb0,by rw[hcb];exact Blk.newAt rfl⟩,LkFr.below hb0⟩)
 obtain⟨M1,hM1⟩:∃ M1,M1=zfw C.P.fs 0 (f,false):=⟨_,rfl⟩
 rw[← hM1]
 obtain⟨M,hMM⟩:∃ M,M=zet C.P (onB C.P) C.P.code 0 M1:=⟨_,rfl⟩
 rw[← hMM]
 clear hb0 h hb
 go_enter Tryz.func231,Tryz.ntmps231
 go_upto_region 3 with fail
 rw[← hcb]
 generalize w.alloc (.cells #[.bool false] 4)=w1 at HP0 ⊢
 clear hcb hmf
 obtain⟨hfc,hpc⟩:=(HF.out w1 (HON.out _ _ HP0.out)).cells
 have hfl:=(HF.out w1 (HON.out _ _ HP0.out)).f.lt
 have hxc:=HP0.out.k.m.x.cell
 unfold zcl at hxc
 have hxl:=HP0.out.k.m.x.lt
 have ST:=zH (show PsF C wf VF sb V cb w M1 (.int .i64 (0:Int)) w1 from⟨0,(f,false),rfl,Nat.zero_le _,HP0.out,by rw[List.drop_zero];exact hM1.symm⟩)
 clear HP0 hM1
 go_wp2_with fail
 clear hfc hpc hfl hxc hxl
 go_loopw [24] (fun v24 wr=>PsF C wf VF sb V cb w M1 v24 wr) (fun v24 _=>C.P.fs.length-(intOf v24).toNat)
 case atStart=>exact ST.out
 case round =>
  obtain⟨g,s,rfl,hg,hP,hM⟩:=hrel
  have HP:=zH hP
  have HM:=zH hM
  have HFr:=zH (HF.out wr (HON.out _ _ hP))
  obtain⟨hfc,hpc⟩:=HFr.out.cells
  have hfl:=HFr.out.f.lt
  have hxc:=hP.k.m.x.cell
  unfold zcl at hxc
  have hxl:=hP.k.m.x.lt
  clear hP hM
  by_cases hlt:g<C.P.fs.length
  ·obtain⟨fu,hfu⟩:∃ fu,C.P.fs[g]? = some fu:=⟨_,List.getElem?_eq_getElem hlt⟩
   have f0:wr.cell? ⟨C.fg,g*5,none⟩=some (.string fu.name):=HC.fcell HFr.out.onw hfu 0 (by omega)
   have f1:wr.cell? ⟨C.fg,g*5+1,none⟩=some (.int .i64 fu.params):=HC.fcell HFr.out.onw hfu 1 (by omega)
   have f2:wr.cell? ⟨C.fg,g*5+2,none⟩=some (.int .i64 fu.locals):=HC.fcell HFr.out.onw hfu 2 (by omega)
   have f3:wr.cell? ⟨C.fg,g*5+3,none⟩=some (.int .i64 fu.from_):=HC.fcell HFr.out.onw hfu 3 (by omega)
   have f4:wr.cell? ⟨C.fg,g*5+4,none⟩=some (.int .i64 fu.to):=HC.fcell HFr.out.onw hfu 4 (by omega)
   have HMd:=zH (show zfw (C.P.fs.drop (g+1)) (g+1) (zb4 s 0 fu.from_ (s.1 1 g))=M1 from by rw[← HM.out,zcc hfu,zfw])
   have hfr:=(HC.wf.from_ g fu hfu).1
   have hbi:Below wr.heap.size wr (wr.alloc (.cells #[.string fu.name,.int .i64 (fu.params:Int),.int .i64 (fu.locals:Int),.int .i64 (fu.from_:Int),.int .i64 (fu.to:Int)] 228)):=(Below.refl _ _).alloc (Nat.le_refl _) _
   have hib:Blk (wr.alloc (.cells #[.string fu.name,.int .i64 (fu.params:Int),.int .i64 (fu.locals:Int),.int .i64 (fu.from_:Int),.int .i64 (fu.to:Int)] 228)) wr.heap.size 228 #[.string fu.name,.int .i64 (fu.params:Int),.int .i64 (fu.locals:Int),.int .i64 (fu.from_:Int),.int .i64 (fu.to:Int)]:=Blk.newAt rfl
   clear hfu HM
   go_wp2_with fail
   have HPd:=zH (HP.out.below hbi).drew
   have hHeld:=And.intro HPd.out.k.m.x.cell (And.intro (hib.drew.cell 3) (HPd.out.k.m.cell (r:=1) (i:=g) (by omega) (by unfold za8;simpa using hlt)))
   clear hbi hib f0 f1 f2 f3 f4 hfc hpc hfl hxc hxl HFr HP
   generalize wr.alloc (.cells #[.string fu.name,.int .i64 (fu.params:Int),.int .i64 (fu.locals:Int),.int .i64 (fu.from_:Int),.int .i64 (fu.to:Int)] 228)=wi at hHeld HPd ⊢
   generalize wr.heap.size=ib at hHeld ⊢
   refine zah 15 (fun(W':World)=>(∀ j,W'.cell? ⟨V.xb,j,none⟩=#[.pointer (some ⟨VF.fb,0,none⟩),.pointer (some ⟨sb,0,none⟩),.slice (some ⟨V.g 0,0,none⟩) C.P.code.length C.P.code.length,.slice (some ⟨V.g 1,0,none⟩) C.P.fs.length C.P.fs.length,.slice (some ⟨V.g 2,0,none⟩) C.P.fs.length C.P.fs.length,.slice (some ⟨V.g 3,0,none⟩) C.P.fs.length C.P.fs.length,.slice (some ⟨V.g 4,0,none⟩) C.P.code.length C.P.code.length,.slice (some ⟨V.g 5,0,none⟩) C.P.fs.length C.P.fs.length,.slice (some ⟨V.g 6,0,none⟩) C.P.fs.length C.P.fs.length][j]?)∧W'.cell? ⟨ib,3,none⟩=some (.int .i64 (fu.from_:Int))∧W'.cell? ⟨V.g 1,g,none⟩=some (zaa (s.1 1 g))) (by kernel_rfl) rfl rfl (by kernel_rfl) ?_
   simp only[List.take_succ_cons,List.take_zero]
   iterate 15(refine tk 0 rfl (by kernel_rfl) (fun _ _ _ h=>h) hHeld (fun w hSw=>by go_simp;try with_reducible rfl) (by simp only[pA,pB,pC,pD,pE,pF,pG,pH];exact rfl) ?_)
   refine lst (by kernel_rfl) rfl fun K hK=>?_
   go_simp
   have hm48:=HPd.out.k.m.sm 1 g
   refine(zju _ _ _ _ _ cb s wi.drew 0 fu.from_ (s.1 1 g) HPd.out.k (by omega) (by unfold za8;simpa using hfr) hm48).mono ?_
   intro e w5 hst
   obtain⟨rfl,hP5⟩:=HPd.out.step hst
   refine hK _ _ ?_
   clear hK K hHeld hst hm48
   have REL:=zH (show PsF C wf VF sb V cb w M1 (.int .i64 ((g+1:Nat):Int)) w5 from⟨g+1,_,rfl,hlt,hP5,HMd.out⟩)
   clear hP5 HPd
   go_wp2_with fail
   go_roundw
   case rel=>rw[show((g:Int)+1)=((g+1:Nat):Int) by omega];exact REL.out
   case measure=>simp only[intOf];omega
  ·obtain rfl:g=C.P.fs.length:=by omega
   have hs:s=M1:=by rw[← HM.out,List.drop_length,zfw]
   subst hs
   have ST2:=zH (show PsR C wf VF sb V cb w M C.P.code.length (.int .i64 (0:Int)) wr from⟨0,s,rfl,rfl,Nat.zero_le _,HP.out,by rw[List.drop_zero];exact hMM.symm⟩)
   clear hMM HM ST HFr HP
   go_wp2_with fail
   clear hfc hpc hfl hxc hxl
   go_loopg [57] C.P.code.length (fun gk v57 wr=>PsR C wf VF sb V cb w M gk v57 wr)
   case atStart=>exact ST2.out
   case round =>
    obtain⟨k,s2,rfl,hg2,hk,hP,hM⟩:=hrel
    have HG:=zH hg2
    have HP:=zH hP
    have HM:=zH hM
    have HFr:=zH (HF.out wr (HON.out _ _ hP))
    obtain⟨hfc,hpc⟩:=HFr.out.cells
    have hfl:=HFr.out.f.lt
    have hxc:=hP.k.m.x.cell
    unfold zcl at hxc
    have hxl:=hP.k.m.x.lt
    clear hP hM hg2
    by_cases hlt:k<C.P.code.length
    ·obtain⟨i,hi⟩:∃ i,C.P.code[k]? = some i:=⟨_,List.getElem?_eq_getElem hlt⟩
     obtain⟨aa,ac,hic,har,hkl⟩:=HC.icells HFr.out.onw hi
     have i0:wr.cell? ⟨C.cg,k*14,none⟩=some (.int .i64 i.op):=hic 0 (by omega)
     have i1:wr.cell? ⟨C.cg,k*14+1,none⟩=some (.int .i64 i.place):=hic 1 (by omega)
     have i2:wr.cell? ⟨C.cg,k*14+2,none⟩=some (.int .i64 i.fn):=hic 2 (by omega)
     have i3:wr.cell? ⟨C.cg,k*14+3,none⟩=some (.int .i64 i.x):=hic 3 (by omega)
     have i4:wr.cell? ⟨C.cg,k*14+4,none⟩=some (.bool i.y.c):=hic 4 (by omega)
     have i5:wr.cell? ⟨C.cg,k*14+5,none⟩=some (.int .i64 i.y.n):=hic 5 (by omega)
     have i6:wr.cell? ⟨C.cg,k*14+6,none⟩=some (.bool i.z.c):=hic 6 (by omega)
     have i7:wr.cell? ⟨C.cg,k*14+7,none⟩=some (.int .i64 i.z.n):=hic 7 (by omega)
     have i8:wr.cell? ⟨C.cg,k*14+8,none⟩=some (.int .i64 i.bin):=hic 8 (by omega)
     have i9:wr.cell? ⟨C.cg,k*14+9,none⟩=some (.int .i64 i.var):=hic 9 (by omega)
     have i10:wr.cell? ⟨C.cg,k*14+10,none⟩=some (.int .i64 i.site):=hic 10 (by omega)
     have i11:wr.cell? ⟨C.cg,k*14+11,none⟩=some (.int .i64 i.call):=hic 11 (by omega)
     have i12:wr.cell? ⟨C.cg,k*14+12,none⟩=some (.slice aa i.args.length ac):=hic 12 (by omega)
     have i13:wr.cell? ⟨C.cg,k*14+13,none⟩=some (.int .i64 i.to):=hic 13 (by omega)
     have HI:=zH hi
     have HMd:=zH (show zet C.P (onB C.P) (C.P.code.drop (k+1)) (k+1) (if onB C.P k then ze3 0 (zca s2 k i).2 (zap C.P k) (zca s2 k i).1 else s2)=M from by rw[← HM.out,zcc hi,zet])
     have hbi:Below wr.heap.size wr (wr.alloc (.cells #[.int .i64 (i.op:Int),.int .i64 i.place,.int .i64 (i.fn:Int),.int .i64 i.x,.bool i.y.c,.int .i64 (i.y.n:Int),.bool i.z.c,.int .i64 (i.z.n:Int),.int .i64 (i.bin:Int),.int .i64 (i.var:Int),.int .i64 (i.site:Int),.int .i64 (i.call:Int),.slice aa i.args.length ac,.int .i64 (i.to:Int)] 309)):=(Below.refl _ _).alloc (Nat.le_refl _) _
     have hib:Blk (wr.alloc (.cells #[.int .i64 (i.op:Int),.int .i64 i.place,.int .i64 (i.fn:Int),.int .i64 i.x,.bool i.y.c,.int .i64 (i.y.n:Int),.bool i.z.c,.int .i64 (i.z.n:Int),.int .i64 (i.bin:Int),.int .i64 (i.var:Int),.int .i64 (i.site:Int),.int .i64 (i.call:Int),.slice aa i.args.length ac,.int .i64 (i.to:Int)] 309)) wr.heap.size 309 #[.int .i64 (i.op:Int),.int .i64 i.place,.int .i64 (i.fn:Int),.int .i64 i.x,.bool i.y.c,.int .i64 (i.y.n:Int),.bool i.z.c,.int .i64 (i.z.n:Int),.int .i64 (i.bin:Int),.int .i64 (i.var:Int),.int .i64 (i.site:Int),.int .i64 (i.call:Int),.slice aa i.args.length ac,.int .i64 (i.to:Int)]:=Blk.newAt rfl
     clear hic hi HM har
     go_wp2_with fail
     generalize hW:wr.alloc (.cells #[.int .i64 (i.op:Int),.int .i64 i.place,.int .i64 (i.fn:Int),.int .i64 i.x,.bool i.y.c,.int .i64 (i.y.n:Int),.bool i.z.c,.int .i64 (i.z.n:Int),.int .i64 (i.bin:Int),.int .i64 (i.var:Int),.int .i64 (i.site:Int),.int .i64 (i.call:Int),.slice aa i.args.length ac,.int .i64 (i.to:Int)] 309)=wi at hbi hib ⊢
     obtain⟨ib,hibe⟩:∃ ib,ib=wr.heap.size:=⟨_,rfl⟩
     rw[← hibe]at hib ⊢
     clear hW i0 i1 i2 i3 i4 i5 i6 i7 i8 i9 i10 i11 i12 i13 hfc hpc hfl hxc hxl hibe
     have HPi:=zH (HP.out.below hbi)
     have HFi:=zH (HF.out wi (HON.out _ _ HPi.out))
     have HIB:=zH hib
     clear hbi hib HP HFr
     refine(hasE _ VF.onb k (onB C.P) HFi.out.on (by omega)).mono ?_
     rintro e w2 ⟨rfl,rfl⟩
     cases hon:onB C.P k
     ·have REL:=zH (show PsR C wf VF sb V cb w M (C.P.code.length-(k+1)) (.int .i64 ((k+1:Nat):Int)) wi from⟨k+1,s2,rfl,rfl,hlt,HPi.out,by have:=HMd.out;rw[hon]at this;exact this⟩)
      clear hon
      go_wp2_with fail
      go_roundg (C.P.code.length-(k+1))
      case measure=>have:=HG.out;omega
      case rel=>rw[show((k:Int)+1)=((k+1:Nat):Int) by omega];exact REL.out
     ·have HMe:=zH (show zet C.P (onB C.P) (C.P.code.drop (k+1)) (k+1) (ze3 0 (zca s2 k i).2 (zap C.P k) (zca s2 k i).1)=M from by have:=HMd.out;rw[hon]at this;exact this)
      clear hon HMd
      have hio:=X.w.io k i HI.out
      have hfn:=HC.wf.fn k i HI.out
      have hibc:=HIB.out.cell
      have hibl:=HIB.out.lt
      obtain⟨hfc,hpc⟩:=HFi.out.cells
      have hfl:=HFi.out.f.lt
      have hxc:=HPi.out.k.m.x.cell
      unfold zcl at hxc
      have hxl:=HPi.out.k.m.x.lt
      have hg0:wi.cell? ⟨V.g 0,k,none⟩=some (zaa (s2.1 0 k)):=HPi.out.k.m.cell (r:=0) (i:=k) (by omega) (by unfold za8;simpa using hlt)
      have hh48:s2.1 0 k<2 ^ 48:=HPi.out.k.m.sm 0 k
      go_upto_block 4 with fail
      go_cut [9] (fun v9 wx=>∃ (s3:LS) (h:Nat),v9=zaa h∧h<2 ^ 48∧PsW C wf VF sb V cb w s3 wx∧zca s2 k i=(s3,h))
      case rest =>
       obtain⟨s3,h,rfl,h48,hP3,hmid⟩:=hcut
       have HP3:=zH hP3
       have HMn:=zH (show zet C.P (onB C.P) (C.P.code.drop (k+1)) (k+1) (ze3 0 h (zap C.P k) s3)=M from by have:=HMe.out;rw[hmid]at this;exact this)
       clear hP3 hmid hibc hibl hfc hpc hfl hxc hxl hg0 hh48 HPi HFi HIB HMe
       have HF3:=zH (HF.out wc (HON.out _ _ HP3.out))
       obtain⟨hfc,hpc⟩:=HF3.out.cells
       have hfl:=HF3.out.f.lt
       have hxc:=HP3.out.k.m.x.cell
       unfold zcl at hxc
       have hxl:=HP3.out.k.m.x.lt
       go_wp2_with fail
       refine(zkf C HC wc VF.fb k i HF3.out.onw (hfc 0) HI.out).mono ?_
       rintro e w5 ⟨v,rfl,hrow,hnil,hb5⟩
       obtain⟨va,vc,rfl,hrw⟩:=zr4 HP3.out.k hrow
       have HRW:=zH hrw
       have HP5:=zH (HP3.out.below hb5)
       have hln:=zls C.P k
       have HLT:=zH (zi1 HC.wf k)
       obtain⟨l,hl⟩:∃ l,l=zap C.P k:=⟨_,rfl⟩
       rw[← hl]at HRW hln HMn HLT ⊢
       obtain⟨M3,hM3⟩:∃ M3,M3=ze3 0 h l s3:=⟨_,rfl⟩
       have ST3:=zH (show PsN C wf VF sb V cb w w5 l h M3 l.length (.int .i64 (0:Int)) w5 from⟨0,s3,rfl,rfl,Nat.zero_le _,HP5.out,LkFr.refl _ _ _,by rw[List.drop_zero];exact hM3.symm⟩)
       rw[← hM3]at HMn
       clear hl hM3 hrow hnil hrw hb5 HP3 HP5 HF3 hfc hpc hfl hxc hxl
       go_wp2_with fail
       go_loopg [158] l.length (fun gk v158 wr=>PsN C wf VF sb V cb w w5 l h M3 gk v158 wr)
       case atStart=>exact ST3.out
       case round =>
        obtain⟨j,s5,rfl,hg3,hj,hP,hfr5,hM⟩:=hrel
        have HG3:=zH hg3
        have HP:=zH hP
        have HM:=zH hM
        have hxc:=hP.k.m.x.cell
        unfold zcl at hxc
        have hxl:=hP.k.m.x.lt
        clear hP hM hg3
        by_cases hltj:j<l.length
        ·obtain⟨x,hx⟩:∃ x,l[j]? = some x:=⟨_,List.getElem?_eq_getElem hltj⟩
         obtain⟨gb,hva,hgc⟩:=HRW.out j x hx
         subst hva
         have hgx:=hgc wr hfr5
         have hxlt:=HLT.out x (List.mem_of_getElem? hx)
         have HM3:=zH (show ze3 0 h (l.drop (j+1)) (zb4 s5 0 x h)=M3 from by rw[← HM.out,zcc hx,ze3])
         have HFR5:=zH hfr5
         clear hgc hx hfr5
         go_wp2_with fail
         refine(zju _ _ _ _ _ cb s5 wr 0 x h HP.out.k (by omega) (by unfold za8;simpa using hxlt) h48).mono ?_
         intro e w6 hst
         have HFR6:=zH (HFR5.out.trans hst.2.2)
         obtain⟨rfl,hP6⟩:=HP.out.step hst
         have REL:=zH (show PsN C wf VF sb V cb w w5 l h M3 (l.length-(j+1)) (.int .i64 ((j+1:Nat):Int)) w6 from⟨j+1,_,rfl,rfl,hltj,hP6,HFR6.out,HM3.out⟩)
         clear hst hP6 hxc hxl hgx
         go_wp2_with fail
         go_roundg (l.length-(j+1))
         case measure=>have:=HG3.out;omega
         case rel=>rw[show((j:Int)+1)=((j+1:Nat):Int) by omega];exact REL.out
        ·obtain rfl:j=l.length:=by omega
         have hs:s5=M3:=by rw[← HM.out,List.drop_length,ze3]
         subst hs
         have REL:=zH (show PsR C wf VF sb V cb w M (C.P.code.length-(k+1)) (.int .i64 ((k+1:Nat):Int)) wr from⟨k+1,_,rfl,rfl,hlt,HP.out,HMn.out⟩)
         clear hxc hxl HRW
         go_wp2_with fail
         go_roundg (C.P.code.length-(k+1))
         case measure=>have:=HG.out;omega
         case rel=>rw[show((k:Int)+1)=((k+1:Nat):Int) by omega];exact REL.out
      case first =>
       clear hfc hpc hfl
       by_cases h9:i.op=9
       ·have o9:((i.op:Int)==9)=true:=by rw[h9];rfl
        have HMID:=zH (show zca s2 k i=(s2,s2.1 0 k|||2 ^ i.var) by unfold zca;rw[if_pos h9])
        have hv3:=X.w.mu k i HI.out (.inl h9)
        have hb48:2 ^ i.var<2 ^ 48:=Nat.pow_lt_pow_right (by omega) (by omega)
        have hsl:Blk (wi.alloc (.cells #[.int .i64 (i.var:Int)] 3)) wi.heap.size 3 #[.int .i64 (i.var:Int)]:=Blk.newAt rfl
        have hbe:Below wi.heap.size wi (wi.alloc (.cells #[.int .i64 (i.var:Int)] 3)):=(Below.refl _ _).alloc (Nat.le_refl _) _
        have HOR:=zgn (s2.1 0 k) (2 ^ i.var) hh48 hb48
        rw[Int.natCast_pow]at HOR
        have hr48:(s2.1 0 k|||2 ^ i.var)<2 ^ 48:=(Nat.or_lt_two_pow hh48 hb48)
        clear h9
        go_wp2_with fail
        refine(zg0 i.var wi.heap.size 1 _ (by omega) (hsl.cell 0)).mono ?_
        rintro e w4 ⟨rfl,rfl⟩
        have HP4:=zH (HPi.out.below hbe)
        clear hsl hibc hibl hxc hxl
        generalize wi.alloc (.cells #[.int .i64 (i.var:Int)] 3)=w4 at HP4 ⊢
        go_wp2_with fail
        go_meet
        exact⟨s2,(s2.1 0 k|||2 ^ i.var),by first | exact congrArg (Value.int .u64) HOR | (simp only[HOR]) | rfl,hr48,HP4.out,HMID.out⟩
       ·have o9:((i.op:Int)==9)=false:=zai (by omega)
        by_cases h10:i.op=10
        ·have o10:((i.op:Int)==10)=true:=by rw[h10];rfl
         have HMID:=zH (show zca s2 k i=(s2,dif (s2.1 0 k) (2 ^ i.var)) by unfold zca;rw[if_neg h9,if_pos h10])
         have hv3:=X.w.mu k i HI.out (.inr h10)
         have hb48:2 ^ i.var<2 ^ 48:=Nat.pow_lt_pow_right (by omega) (by omega)
         have hsl:Blk (wi.alloc (.cells #[.int .i64 (i.var:Int)] 3)) wi.heap.size 3 #[.int .i64 (i.var:Int)]:=Blk.newAt rfl
         have hbe:Below wi.heap.size wi (wi.alloc (.cells #[.int .i64 (i.var:Int)] 3)):=(Below.refl _ _).alloc (Nat.le_refl _) _
         have HOR:=zno (s2.1 0 k) (2 ^ i.var) hh48 hb48
         rw[Int.natCast_pow]at HOR
         have hr48:(dif (s2.1 0 k) (2 ^ i.var))<2 ^ 48:=(ziv hh48)
         clear h10
         go_wp2_with fail
         refine(zg0 i.var wi.heap.size 1 _ (by omega) (hsl.cell 0)).mono ?_
         rintro e w4 ⟨rfl,rfl⟩
         have HP4:=zH (HPi.out.below hbe)
         clear hsl hibc hibl hxc hxl
         generalize wi.alloc (.cells #[.int .i64 (i.var:Int)] 3)=w4 at HP4 ⊢
         go_wp2_with fail
         go_meet
         exact⟨s2,(dif (s2.1 0 k) (2 ^ i.var)),by first | exact congrArg (Value.int .u64) HOR | (simp only[HOR]) | rfl,hr48,HP4.out,HMID.out⟩
        ·have o10:((i.op:Int)==10)=false:=zai (by omega)
         by_cases h7:i.op=7
         ·have o7:((i.op:Int)==7)=true:=by rw[h7];rfl
          obtain⟨fu,hfu,_⟩:=HC.wf.call k i HI.out (.inr h7)
          have hca:i.call<C.P.fs.length:=(List.getElem?_eq_some_iff.1 hfu).1
          have HMID:=zH (show zca s2 k i=(zb4 s2 1 i.call 0,s2.1 0 k) by unfold zca;rw[if_neg h9,if_neg h10,if_pos h7])
          clear hfu h7
          go_wp2_with fail
          have hHeld:=And.intro (show ∀ j,wi.drew.cell? ⟨V.xb,j,none⟩=#[.pointer (some ⟨VF.fb,0,none⟩),.pointer (some ⟨sb,0,none⟩),.slice (some ⟨V.g 0,0,none⟩) C.P.code.length C.P.code.length,.slice (some ⟨V.g 1,0,none⟩) C.P.fs.length C.P.fs.length,.slice (some ⟨V.g 2,0,none⟩) C.P.fs.length C.P.fs.length,.slice (some ⟨V.g 3,0,none⟩) C.P.fs.length C.P.fs.length,.slice (some ⟨V.g 4,0,none⟩) C.P.code.length C.P.code.length,.slice (some ⟨V.g 5,0,none⟩) C.P.fs.length C.P.fs.length,.slice (some ⟨V.g 6,0,none⟩) C.P.fs.length C.P.fs.length][j]? from HPi.out.drew.k.m.x.cell) (HIB.out.drew.cell 11)
          clear hibc hibl hxc hxl hg0
          refine zah 8 (fun(W':World)=>(∀ j,W'.cell? ⟨V.xb,j,none⟩=#[.pointer (some ⟨VF.fb,0,none⟩),.pointer (some ⟨sb,0,none⟩),.slice (some ⟨V.g 0,0,none⟩) C.P.code.length C.P.code.length,.slice (some ⟨V.g 1,0,none⟩) C.P.fs.length C.P.fs.length,.slice (some ⟨V.g 2,0,none⟩) C.P.fs.length C.P.fs.length,.slice (some ⟨V.g 3,0,none⟩) C.P.fs.length C.P.fs.length,.slice (some ⟨V.g 4,0,none⟩) C.P.code.length C.P.code.length,.slice (some ⟨V.g 5,0,none⟩) C.P.fs.length C.P.fs.length,.slice (some ⟨V.g 6,0,none⟩) C.P.fs.length C.P.fs.length][j]?)∧W'.cell? ⟨ib,11,none⟩=some (.int .i64 (i.call:Int))) (by kernel_rfl) rfl rfl (by kernel_rfl) ?_
          simp only[List.take_succ_cons,List.take_zero]
          iterate 8(refine tk 0 rfl (by kernel_rfl) (fun _ _ _ h=>h) hHeld (fun w hSw=>by go_simp;try with_reducible rfl) (by simp only[pA,pB,pC,pD,pE,pF,pG,pH];exact rfl) ?_)
          refine lst (by kernel_rfl) rfl fun K hK=>?_
          go_simp
          have HPd:=HPi.out.drew
          refine(zju _ _ _ _ _ cb s2 wi.drew 1 i.call 0 HPd.k (by omega) (by unfold za8;simpa using hca) (by omega)).mono ?_
          intro e w5 hst
          obtain⟨rfl,hP5⟩:=HPd.step hst
          refine hK _ _ ?_
          clear hK K hHeld hst HPd
          have HP5:=zH hP5
          clear hP5
          go_wp2_with fail
          go_meet
          exact⟨_,s2.1 0 k,rfl,hh48,HP5.out,HMID.out⟩
         ·have o7:((i.op:Int)==7)=false:=zai (by omega)
          by_cases h11:i.op=11
          ·have o11:((i.op:Int)==11)=true:=by rw[h11];rfl
           obtain⟨fu,hfu,_⟩:=HC.wf.call k i HI.out (.inl h11)
           have hca:i.call<C.P.fs.length:=(List.getElem?_eq_some_iff.1 hfu).1
           have HMID:=zH (show zca s2 k i=(zb4 s2 1 i.call (s2.1 0 k),(zb4 s2 1 i.call (s2.1 0 k)).1 2 i.call|||dif (s2.1 0 k) ((zb4 s2 1 i.call (s2.1 0 k)).1 3 i.call)) by unfold zca;rw[if_neg h9,if_neg h10,if_neg h7,if_pos h11])
           clear hfu h11
           go_wp2_with fail
           have hHeld:=And.intro (show ∀ j,wi.drew.cell? ⟨V.xb,j,none⟩=#[.pointer (some ⟨VF.fb,0,none⟩),.pointer (some ⟨sb,0,none⟩),.slice (some ⟨V.g 0,0,none⟩) C.P.code.length C.P.code.length,.slice (some ⟨V.g 1,0,none⟩) C.P.fs.length C.P.fs.length,.slice (some ⟨V.g 2,0,none⟩) C.P.fs.length C.P.fs.length,.slice (some ⟨V.g 3,0,none⟩) C.P.fs.length C.P.fs.length,.slice (some ⟨V.g 4,0,none⟩) C.P.code.length C.P.code.length,.slice (some ⟨V.g 5,0,none⟩) C.P.fs.length C.P.fs.length,.slice (some ⟨V.g 6,0,none⟩) C.P.fs.length C.P.fs.length][j]? from HPi.out.drew.k.m.x.cell) (HIB.out.drew.cell 11)
           clear hibc hibl hxc hxl hg0
           refine zah 9 (fun(W':World)=>(∀ j,W'.cell? ⟨V.xb,j,none⟩=#[.pointer (some ⟨VF.fb,0,none⟩),.pointer (some ⟨sb,0,none⟩),.slice (some ⟨V.g 0,0,none⟩) C.P.code.length C.P.code.length,.slice (some ⟨V.g 1,0,none⟩) C.P.fs.length C.P.fs.length,.slice (some ⟨V.g 2,0,none⟩) C.P.fs.length C.P.fs.length,.slice (some ⟨V.g 3,0,none⟩) C.P.fs.length C.P.fs.length,.slice (some ⟨V.g 4,0,none⟩) C.P.code.length C.P.code.length,.slice (some ⟨V.g 5,0,none⟩) C.P.fs.length C.P.fs.length,.slice (some ⟨V.g 6,0,none⟩) C.P.fs.length C.P.fs.length][j]?)∧W'.cell? ⟨ib,11,none⟩=some (.int .i64 (i.call:Int))) (by kernel_rfl) rfl rfl (by kernel_rfl) ?_
           simp only[List.take_succ_cons,List.take_zero]
           iterate 9(refine tk 0 rfl (by kernel_rfl) (fun _ _ _ h=>h) hHeld (fun w hSw=>by go_simp;try with_reducible rfl) (by simp only[pA,pB,pC,pD,pE,pF,pG,pH];exact rfl) ?_)
           refine lst (by kernel_rfl) rfl fun K hK=>?_
           go_simp
           have HPd:=HPi.out.drew
           refine(zju _ _ _ _ _ cb s2 wi.drew 1 i.call (s2.1 0 k) HPd.k (by omega) (by unfold za8;simpa using hca) hh48).mono ?_
           intro e w5 hst
           have HIB5:=zH (HIB.out.drew.lkfr hst.2.2 (HIB.out.drew.ne_ HPd.k.c (by decide)) (HPd.k.m.ne HIB.out.drew (by decide)))
           obtain⟨rfl,hP5⟩:=HPd.step hst
           refine hK _ _ ?_
           clear hK K hHeld hst HPd
           have HP5:=zH hP5
           clear hP5
           generalize zb4 s2 1 i.call (s2.1 0 k)=s4 at HP5 HMID
           have h2:=HP5.out.drew.k.m.sm 2 i.call
           have h3:=HP5.out.drew.k.m.sm 3 i.call
           have HD3:=zno (s2.1 0 k) (s4.1 3 i.call) hh48 h3
           have HO2:=zgn (s4.1 2 i.call) (dif (s2.1 0 k) (s4.1 3 i.call)) h2 (ziv hh48)
           have hr48:s4.1 2 i.call|||dif (s2.1 0 k) (s4.1 3 i.call)<2 ^ 48:=Nat.or_lt_two_pow h2 (ziv hh48)
           clear h2 h3
           go_wp2_with fail
           have hHeld:=And.intro (show ∀ j,w5.drew.cell? ⟨V.xb,j,none⟩=#[.pointer (some ⟨VF.fb,0,none⟩),.pointer (some ⟨sb,0,none⟩),.slice (some ⟨V.g 0,0,none⟩) C.P.code.length C.P.code.length,.slice (some ⟨V.g 1,0,none⟩) C.P.fs.length C.P.fs.length,.slice (some ⟨V.g 2,0,none⟩) C.P.fs.length C.P.fs.length,.slice (some ⟨V.g 3,0,none⟩) C.P.fs.length C.P.fs.length,.slice (some ⟨V.g 4,0,none⟩) C.P.code.length C.P.code.length,.slice (some ⟨V.g 5,0,none⟩) C.P.fs.length C.P.fs.length,.slice (some ⟨V.g 6,0,none⟩) C.P.fs.length C.P.fs.length][j]? from HP5.out.drew.k.m.x.cell) (And.intro (HIB5.out.drew.cell 11) (And.intro (HP5.out.drew.k.m.cell (r:=2) (i:=i.call) (by omega) (by unfold za8;simpa using hca)) (HP5.out.drew.k.m.cell (r:=3) (i:=i.call) (by omega) (by unfold za8;simpa using hca))))
           refine zah 19 (fun(W':World)=>(∀ j,W'.cell? ⟨V.xb,j,none⟩=#[.pointer (some ⟨VF.fb,0,none⟩),.pointer (some ⟨sb,0,none⟩),.slice (some ⟨V.g 0,0,none⟩) C.P.code.length C.P.code.length,.slice (some ⟨V.g 1,0,none⟩) C.P.fs.length C.P.fs.length,.slice (some ⟨V.g 2,0,none⟩) C.P.fs.length C.P.fs.length,.slice (some ⟨V.g 3,0,none⟩) C.P.fs.length C.P.fs.length,.slice (some ⟨V.g 4,0,none⟩) C.P.code.length C.P.code.length,.slice (some ⟨V.g 5,0,none⟩) C.P.fs.length C.P.fs.length,.slice (some ⟨V.g 6,0,none⟩) C.P.fs.length C.P.fs.length][j]?)∧W'.cell? ⟨ib,11,none⟩=some (.int .i64 (i.call:Int))∧W'.cell? ⟨V.g 2,i.call,none⟩=some (zaa (s4.1 2 i.call))∧W'.cell? ⟨V.g 3,i.call,none⟩=some (zaa (s4.1 3 i.call))) (by kernel_rfl) rfl rfl (by kernel_rfl) ?_
           simp only[List.take_succ_cons,List.take_zero]
           iterate 19(refine tk 0 rfl (by kernel_rfl) (fun _ _ _ h=>h) hHeld (fun w hSw=>by go_simp;try with_reducible rfl) (by simp only[pA,pB,pC,pD,pE,pF,pG,pH];exact rfl) ?_)
           refine lst (by kernel_rfl) rfl fun K hK=>?_
           go_simp
           refine hK _ _ ?_
           clear hK K hHeld
           have HP6:=zH HP5.out.drew
           clear HP5 HIB5
           generalize w5.drew=w6 at HP6 ⊢
           go_wp2_with fail
           go_meet
           exact⟨s4,_,rfl,hr48,HP6.out,HMID.out⟩
          ·have o11:((i.op:Int)==11)=false:=zai (by omega)
           by_cases h12:i.op=12
           ·have o12:((i.op:Int)==12)=true:=by rw[h12];rfl
            have HMID:=zH (show zca s2 k i=(zb4 s2 2 i.fn (s2.1 0 k),s2.1 0 k) by unfold zca;rw[if_neg h9,if_neg h10,if_neg h7,if_neg h11,if_pos h12])
            clear h12
            go_wp2_with fail
            have hHeld:=And.intro (show ∀ j,wi.drew.cell? ⟨V.xb,j,none⟩=#[.pointer (some ⟨VF.fb,0,none⟩),.pointer (some ⟨sb,0,none⟩),.slice (some ⟨V.g 0,0,none⟩) C.P.code.length C.P.code.length,.slice (some ⟨V.g 1,0,none⟩) C.P.fs.length C.P.fs.length,.slice (some ⟨V.g 2,0,none⟩) C.P.fs.length C.P.fs.length,.slice (some ⟨V.g 3,0,none⟩) C.P.fs.length C.P.fs.length,.slice (some ⟨V.g 4,0,none⟩) C.P.code.length C.P.code.length,.slice (some ⟨V.g 5,0,none⟩) C.P.fs.length C.P.fs.length,.slice (some ⟨V.g 6,0,none⟩) C.P.fs.length C.P.fs.length][j]? from HPi.out.drew.k.m.x.cell) (HIB.out.drew.cell 2)
            clear hibc hibl hxc hxl hg0
            refine zah 9 (fun(W':World)=>(∀ j,W'.cell? ⟨V.xb,j,none⟩=#[.pointer (some ⟨VF.fb,0,none⟩),.pointer (some ⟨sb,0,none⟩),.slice (some ⟨V.g 0,0,none⟩) C.P.code.length C.P.code.length,.slice (some ⟨V.g 1,0,none⟩) C.P.fs.length C.P.fs.length,.slice (some ⟨V.g 2,0,none⟩) C.P.fs.length C.P.fs.length,.slice (some ⟨V.g 3,0,none⟩) C.P.fs.length C.P.fs.length,.slice (some ⟨V.g 4,0,none⟩) C.P.code.length C.P.code.length,.slice (some ⟨V.g 5,0,none⟩) C.P.fs.length C.P.fs.length,.slice (some ⟨V.g 6,0,none⟩) C.P.fs.length C.P.fs.length][j]?)∧W'.cell? ⟨ib,2,none⟩=some (.int .i64 (i.fn:Int))) (by kernel_rfl) rfl rfl (by kernel_rfl) ?_
            simp only[List.take_succ_cons,List.take_zero]
            iterate 9(refine tk 0 rfl (by kernel_rfl) (fun _ _ _ h=>h) hHeld (fun w hSw=>by go_simp;try with_reducible rfl) (by simp only[pA,pB,pC,pD,pE,pF,pG,pH];exact rfl) ?_)
            refine lst (by kernel_rfl) rfl fun K hK=>?_
            go_simp
            have HPd:=HPi.out.drew
            refine(zju _ _ _ _ _ cb s2 wi.drew 2 i.fn (s2.1 0 k) HPd.k (by omega) (by unfold za8;simpa using hfn) hh48).mono ?_
            intro e w5 hst
            obtain⟨rfl,hP5⟩:=HPd.step hst
            refine hK _ _ ?_
            clear hK K hHeld hst HPd
            have HP5:=zH hP5
            clear hP5
            go_wp2_with fail
            go_meet
            exact⟨_,s2.1 0 k,rfl,hh48,HP5.out,HMID.out⟩
           ·have o12:((i.op:Int)==12)=false:=zai (by omega)
            have HMID:=zH (show zca s2 k i=(s2,s2.1 0 k) by unfold zca;rw[if_neg h9,if_neg h10,if_neg h7,if_neg h11,if_neg h12])
            go_wp2_with fail
            go_meet
            exact⟨_,s2.1 0 k,rfl,hh48,HPi.out,HMID.out⟩
    ·obtain rfl:k=C.P.code.length:=by omega
     have hs:s2=M:=by rw[← HM.out,List.drop_length,zet]
     subst hs
     have FIN:=zH (HP.out.post HCB.out)
     have hcc:=HP.out.k.c.cell
     have hcl2:=HP.out.k.c.lt
     clear hfc hpc hfl hxc hxl HFr HP
     go_wp2_with fail
     go_ret
     exact FIN.out
end
end Go.Proofs.YtkmcihhndgdhpaaGreat
